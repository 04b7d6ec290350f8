/- What functions answer. -/
import Derived.Test.YtganfdhmkdehlaaGreatDoorQ2007B17
import Derived.KernelRfl
set_option linter.all false
namespace Go.Proofs.YtganfdhmkdehlaaGreatDoor
open Go Go.HL Tryz
attribute [local irreducible] W WO
def eS (a0:List Set)(a1:Set→Option Bool):Nat→Int→Option Int
 | 0,_=>none
 | n2001+1,i1=>cond (decide (i1 < (a0.length:Int))) (cond (decide (0≤i1)&&decide (i1 < (a0.length:Int))) ((a1 (a0.getD i1.toNat default)).bind fun q2=>cond q2 (some i1) ((eS a0 a1 n2001) (IntKind.i64.wrap (i1+1)))) none) (some (-1))
def xR (fu:Nat)(a0:List Set)(a1:Set→Option Bool):Option Int:=eS a0 a1 fu 0
theorem D7:Nm prog 195:=nmK func195
theorem Fs (fu : Nat)(a0 : List Set)(a1 : Set → Option Bool)(g1 : Nat)(k1 : List VA)(hn1 : ∃ fn c, prog.funcs[g1]? = some fn ∧ (fn.name == "runtime.NumGoroutine") = false ∧ fn.body = some c)(hc1 : ∀ (x0 : Set), Ctr prog g1 ([tSet.va x0] ++ k1) [] (a1 x0) (fun _ _ => []) (fun q => isB q)) : Ctr prog 195 [(tL tSet).va a0, ce g1 k1] [] (xR fu a0 a1) (fun _ _ => []) (fun q => isI .i64 q) := by
 refine .w func195 ntmps195 fun hf A w=>?_
 unfold xR
 refine .s<|.an z z<|.seq<|.s<|go ?_
 refine .block<|.loop<|.keep [0,1,7,8] [] z<|(show ∀ (n2001:Nat) (i1:Int),W _ _ _ _ _ ⟨[(0,(tL tSet).va a0,none),(1,ce g1 k1,none),(7,isI .i64 (a0.length:Int),none),(8,isI .i64 i1,none)],[]⟩ (eS a0 a1 n2001 i1) from ?_) fu _
 intro n2001
 induction n2001 with
 | zero=>exact fun _=>.stop
 | succ n2001 ih1=>
  intro i1
  refine .inLoop<|.s<|go ?_
  refine .seq<|.cd z ?_ ?_
  ·refine .skip<|.seq<|.block<|.s<|go ?_
   refine .s<|go ?_
   refine .callC z (hc1 _) hn1 z z fun q2=>.nil<|.cd z ?_ ?_
   ·exact fr
   ·exact fj (ih1 _)
  ·exact fr
def xT (fu:Nat)(a0:List Set)(a1:Set→Option Bool):Option Bool:=(xR fu a0 a1).bind fun q1=>some (decide (0≤q1))
theorem D9:Nm prog 162:=nmK func162
theorem Fu (fu : Nat)(a0 : List Set)(a1 : Set → Option Bool)(g1 : Nat)(k1 : List VA)(hn1 : ∃ fn c, prog.funcs[g1]? = some fn ∧ (fn.name == "runtime.NumGoroutine") = false ∧ fn.body = some c)(hc1 : ∀ (x0 : Set), Ctr prog g1 ([tSet.va x0] ++ k1) [] (a1 x0) (fun _ _ => []) (fun q => isB q)) : Ctr prog 162 [(tL tSet).va a0, ce g1 k1] [] (xT fu a0 a1) (fun _ _ => []) (fun q => isB q) := by
 refine .w func162 ntmps162 fun hf A w=>?_
 unfold xT
 refine .s<|.an z z<|.s<|go ?_
 exact .call0 (Fs fu _ a1 g1 k1 hn1 hc1) D7 z z fun q1=>fr
def kf (i2:Bool):Option Bool:=some i2
def pg (fu:Nat)(a0:Set):Option Bool:=(mb fu a0.name).bind fun q3=>cond (!q3) (kf true) ((f25 fu a0.val).bind fun q4=>kf (!q4))
theorem D8:Nm prog 163:=nmK func163
theorem Ft (fu:Nat)(a0:Set):Ctr prog 163 [tSet.va a0] [] (pg fu a0) (fun _ _=>[]) (fun q=>isB q):=by
 refine .w func163 ntmps163 fun hf A w=>?_
 unfold pg
 refine .s<|.box (T:=tSet) z z fun b1=>.an z z<|.seq<|.join1 (fun i2=>⟨[(2,isB i2,none)],[]⟩) (fun i2=>kf i2) (fun i2=>?_) (fun hj1=>?_)
 ·exact fr
 ·refine .g<|go ?_
  refine .call0 (pQ fu _) pO z z fun q3=>go ?_
  refine .split 7 z (fun _=>?_) (fun _=>?_)
  ·exact fj (hj1 _)
  ·refine go ?_
   exact .call0 (c25 fu _) n25 z z fun q4=>fj (hj1 _)
def kj (i1:Bool):Option Bool:=some i1
def ti (fu:Nat)(a0:List Set):Option Bool:=cond (decide ((a0.length:Int)≤5)) ((xT fu a0 (fun x0=>pg fu x0)).bind fun q2=>kj (!q2)) (kj false)
theorem B7:Nm prog 100:=nmK func100
theorem Df (fu:Nat)(a0:List Set):Ctr prog 100 [(tL tSet).va a0] [] (ti fu a0) (fun _ _=>[]) (fun q=>isB q):=by
 refine .w func100 ntmps100 fun hf A w=>?_
 unfold ti
 refine .s<|.an z z<|.seq<|.join1 (fun i1=>⟨[(2,isB i1,none)],[]⟩) (fun i1=>kj i1) (fun i1=>?_) (fun hj1=>?_)
 ·exact fr
 ·refine .g<|go ?_
  refine .split 6 z (fun _=>?_) (fun _=>?_)
  ·refine go ?_
   exact .call0 (Fu fu _ (fun x0=>pg fu x0) 163 [] D8 (fun x0=>Ft fu x0)) D9 z z fun q2=>fj (hj1 _)
  ·exact fj (hj1 _)
def ki (i5:Bool):Option Bool:=some i5
def kh (i8:Bool):Option Bool:=some i8
def vv (fu:Nat)(a0:aa):Option Bool:=(BE fu a0).bind fun q2=>cond (!q2) (some false) (cond (decide (a0.kind=1)) ((AT fu a0.col).bind fun q3=>some q3) (cond (decide (a0.kind=2)) ((mb fu a0.name).bind fun q4=>some q4) (cond (decide (a0.kind=3)) ((mb fu a0.name).bind fun q6=>cond q6 ((mb fu a0.new).bind fun q7=>ki q7) (ki false)) ((mb fu a0.name).bind fun q9=>cond q9 ((f56 fu a0.col.kind 1 2).bind fun q10=>kh q10) (kh false)))))
theorem Eg:Nm prog 101:=nmK func101
theorem FB (fu:Nat)(a0:aa):Ctr prog 101 [tChange.va a0] [] (vv fu a0) (fun _ _=>[]) (fun q=>isB q):=by
 refine .w func101 ntmps101 fun hf A w=>?_
 unfold vv
 refine .s<|.box (T:=tChange) z z fun b1=>.an z z<|.seq<|.s<|go ?_
 refine .call0 (Hf fu _) GX z z fun q2=>.not z z<|.nil<|.cd z ?_ ?_
 ·exact fr
 ·refine .skip<|.seq<|.s<|go ?_
  refine .block<|.s<|go ?_
  refine .cd z ?_ ?_
  ·refine .s<|go ?_
   exact .call0 (Gw fu _) E7 z z fun q3=>fr
  ·refine .s<|go ?_
   refine .cd z ?_ ?_
   ·refine .s<|go ?_
    exact .call0 (pQ fu _) pO z z fun q4=>fr
   ·refine .s<|go ?_
    refine .cd z ?_ ?_
    ·refine .seq<|.join1 (fun i5=>⟨[(2,isB i5,none)],[]⟩) (fun i5=>ki i5) (fun i5=>?_) (fun hj1=>?_)
     ·exact fr
     ·refine .g<|go ?_
      refine .call0 (pQ fu _) pO z z fun q6=>.m z z<|.split 23 z (fun _=>?_) (fun _=>?_)
      ·refine go ?_
       exact .call0 (pQ fu _) pO z z fun q7=>fj (hj1 _)
      ·exact fj (hj1 _)
    ·refine .skip<|.inBlock<|.seq<|.join1 (fun i8=>⟨[(2,isB i8,none)],[]⟩) (fun i8=>kh i8) (fun i8=>?_) (fun hj2=>?_)
     ·exact fr
     ·refine .g<|go ?_
      refine .call0 (pQ fu _) pO z z fun q9=>.m z z<|.split 31 z (fun _=>?_) (fun _=>?_)
      ·refine go ?_
       exact .call0 (c56 fu _ _ _) n56 z z fun q10=>fj (hj2 _)
      ·exact fj (hj2 _)
def dl (i2:Bool):Option Bool:=some i2
def cm (i7:Bool):Option Bool:=some i7
def dU (i12:Bool):Option Bool:=some i12
def dT (i15:Bool):Option Bool:=some i15
def dS (i19:Bool):Option Bool:=some i19
def dR (i22:Bool):Option Bool:=some i22
def vz (fu:Nat)(a0:aQ):Option Bool:=cond (decide (a0.kind=1)) (cond (decide (a0.id=0)) (cond (decide ((a0.sets.length:Int)=0)) (cond (decide (a0.change=(⟨d0_56.kind,d0_56.name,d0_56.new,d0_56.col⟩:aa))) (cond (decide (a0.link=(⟨d0_1044.from_,d0_1044.col,d0_1044.to,d0_1044.how⟩:aj))) ((mb fu a0.name).bind fun q3=>cond q3 ((f56 fu (a0.cols.length:Int) 1 5).bind fun q4=>cond q4 ((vw fu a0.cols (fun x0=>ph fu x0)).bind fun q5=>dl (!q5)) (dl false)) (dl false)) (dl false)) (dl false)) (dl false)) (dl false)) (cond (decide (a0.kind=2)) (cond (decide (a0.id=0)) (cond (decide ((a0.sets.length:Int)=0)) (cond (decide ((a0.cols.length:Int)=0)) (cond (decide (a0.change=(⟨d0_56.kind,d0_56.name,d0_56.new,d0_56.col⟩:aa))) (cond (decide (a0.name=([]:List UInt8))) ((mb fu a0.link.from_).bind fun q8=>cond q8 ((mb fu a0.link.col).bind fun q9=>cond q9 ((mb fu a0.link.to).bind fun q10=>cond q10 ((f56 fu a0.link.how 1 3).bind fun q11=>cm q11) (cm false)) (cm false)) (cm false)) (cm false)) (cm false)) (cm false)) (cm false)) (cm false)) (cond (decide (a0.kind=3)) (cond (decide (a0.id=0)) (cond (decide ((a0.cols.length:Int)=0)) (cond (decide (a0.change=(⟨d0_56.kind,d0_56.name,d0_56.new,d0_56.col⟩:aa))) (cond (decide (a0.link=(⟨d0_1044.from_,d0_1044.col,d0_1044.to,d0_1044.how⟩:aj))) ((mb fu a0.name).bind fun q13=>cond q13 ((ti fu a0.sets).bind fun q14=>dU q14) (dU false)) (dU false)) (dU false)) (dU false)) (dU false)) (cond (decide (a0.kind=4)) (cond (decide ((a0.cols.length:Int)=0)) (cond (decide (a0.change=(⟨d0_56.kind,d0_56.name,d0_56.new,d0_56.col⟩:aa))) (cond (decide (a0.link=(⟨d0_1044.from_,d0_1044.col,d0_1044.to,d0_1044.how⟩:aj))) ((mb fu a0.name).bind fun q16=>cond q16 ((ti fu a0.sets).bind fun q17=>cond q17 ((f56 fu a0.id 0 60).bind fun q18=>dT q18) (dT false)) (dT false)) (dT false)) (dT false)) (dT false)) (cond (decide (a0.kind=5)) (cond (decide ((a0.sets.length:Int)=0)) (cond (decide ((a0.cols.length:Int)=0)) (cond (decide (a0.change=(⟨d0_56.kind,d0_56.name,d0_56.new,d0_56.col⟩:aa))) (cond (decide (a0.link=(⟨d0_1044.from_,d0_1044.col,d0_1044.to,d0_1044.how⟩:aj))) ((mb fu a0.name).bind fun q20=>cond q20 ((f56 fu a0.id 0 60).bind fun q21=>dS q21) (dS false)) (dS false)) (dS false)) (dS false)) (dS false)) (cond (decide (a0.kind=6)) (cond (decide (a0.id=0)) (cond (decide ((a0.sets.length:Int)=0)) (cond (decide ((a0.cols.length:Int)=0)) (cond (decide (a0.link=(⟨d0_1044.from_,d0_1044.col,d0_1044.to,d0_1044.how⟩:aj))) ((mb fu a0.name).bind fun q23=>cond q23 ((vv fu a0.change).bind fun q24=>dR q24) (dR false)) (dR false)) (dR false)) (dR false)) (dR false)) (some false))))))
theorem El:Nm prog 41:=nmK func41
theorem FG (fu:Nat)(a0:aQ):Ctr prog 41 [tDeed.va a0] [] (vz fu a0) (fun _ _=>[]) (fun q=>isB q):=by
 refine .w func41 ntmps41 fun hf A w=>?_
 unfold vz
 refine .s<|.box (T:=tDeed) z z fun b1=>.an z z<|.seq<|.draw 13 [] mix (by kernel_rfl) sts z<|.an z z<|.seq<|.draw 9 [] mix (by kernel_rfl) (.j (fun o=>.fp (o z) nt z)<|.k (fun p e=>.lp 0 fDeed_5 (e.op z) (p.get z z) zf z)<|.j (fun o=>.build z GL z56 (.nil) z)<|.j (fun o=>.eqT DT (o z) (o z) z)<|.j (fun o=>.fp (o z) nr z)<|.k (fun p e=>.lp 0 qt (e.op z) (p.get z z) mm z)<|.j (fun o=>.build z ro z1044 (.nil) z)<|.j (fun o=>.eqT wq (o z) (o z) z)<|.j (fun o=>.a (o z) z)<|.nil) z<|.an z z<|.seq<|.s<|go ?_
 refine .block<|.s<|go ?_
 refine .cd z ?_ ?_
 ·refine .seq<|.join1 (fun i2=>⟨[(2,isB i2,none)],[]⟩) (fun i2=>dl i2) (fun i2=>?_) (fun hj1=>?_)
  ·exact fr
  ·refine .g<|go ?_
   refine .split 33 z (fun _=>?_) (fun _=>?_)
   ·refine go ?_
    refine .split 36 z (fun _=>?_) (fun _=>?_)
    ·refine go ?_
     refine .split 39 z (fun _=>?_) (fun _=>?_)
     ·refine go ?_
      refine .split 42 z (fun _=>?_) (fun _=>?_)
      ·refine go ?_
       refine .call0 (pQ fu _) pO z z fun q3=>go ?_
       refine .split 47 z (fun _=>?_) (fun _=>?_)
       ·refine go ?_
        refine .call0 (c56 fu _ _ _) n56 z z fun q4=>go ?_
        refine .split 53 z (fun _=>?_) (fun _=>?_)
        ·refine go ?_
         exact .call0 (FD fu _ (fun x0=>ph fu x0) 98 [] Eh (fun x0=>FC fu x0)) Ei z z fun q5=>fj (hj1 _)
        ·exact fj (hj1 _)
       ·exact fj (hj1 _)
      ·exact fj (hj1 _)
     ·exact fj (hj1 _)
    ·exact fj (hj1 _)
   ·exact fj (hj1 _)
 ·refine .s<|go ?_
  refine .cd z ?_ ?_
  ·refine .s<|go ?_
   refine .alloc tLink d0_1044 [] z1044 z fun b6=>go ?_
   refine .seq<|.join1 (fun i7=>⟨[(2,isB i7,none)],[]⟩) (fun i7=>cm i7) (fun i7=>?_) (fun hj2=>?_)
   ·exact fr
   ·refine .g<|go ?_
    refine .split 64 z (fun _=>?_) (fun _=>?_)
    ·refine go ?_
     refine .split 67 z (fun _=>?_) (fun _=>?_)
     ·refine go ?_
      refine .split 70 z (fun _=>?_) (fun _=>?_)
      ·refine go ?_
       refine .split 73 z (fun _=>?_) (fun _=>?_)
       ·refine go ?_
        refine .split 78 z (fun _=>?_) (fun _=>?_)
        ·refine go ?_
         refine .call0 (pQ fu _) pO z z fun q8=>go ?_
         refine .split 83 z (fun _=>?_) (fun _=>?_)
         ·refine go ?_
          refine .call0 (pQ fu _) pO z z fun q9=>go ?_
          refine .split 88 z (fun _=>?_) (fun _=>?_)
          ·refine go ?_
           refine .call0 (pQ fu _) pO z z fun q10=>go ?_
           refine .split 93 z (fun _=>?_) (fun _=>?_)
           ·refine go ?_
            exact .call0 (c56 fu _ _ _) n56 z z fun q11=>fj (hj2 _)
           ·exact fj (hj2 _)
          ·exact fj (hj2 _)
         ·exact fj (hj2 _)
        ·exact fj (hj2 _)
       ·exact fj (hj2 _)
      ·exact fj (hj2 _)
     ·exact fj (hj2 _)
    ·exact fj (hj2 _)
  ·refine .s<|go ?_
   refine .cd z ?_ ?_
   ·refine .seq<|.join1 (fun i12=>⟨[(2,isB i12,none)],[]⟩) (fun i12=>dU i12) (fun i12=>?_) (fun hj3=>?_)
    ·exact fr
    ·refine .g<|go ?_
     refine .split 101 z (fun _=>?_) (fun _=>?_)
     ·refine go ?_
      refine .split 104 z (fun _=>?_) (fun _=>?_)
      ·refine go ?_
       refine .split 107 z (fun _=>?_) (fun _=>?_)
       ·refine go ?_
        refine .split 110 z (fun _=>?_) (fun _=>?_)
        ·refine go ?_
         refine .call0 (pQ fu _) pO z z fun q13=>go ?_
         refine .split 115 z (fun _=>?_) (fun _=>?_)
         ·refine go ?_
          exact .call0 (Df fu _) B7 z z fun q14=>fj (hj3 _)
         ·exact fj (hj3 _)
        ·exact fj (hj3 _)
       ·exact fj (hj3 _)
      ·exact fj (hj3 _)
     ·exact fj (hj3 _)
   ·refine .s<|go ?_
    refine .cd z ?_ ?_
    ·refine .seq<|.join1 (fun i15=>⟨[(2,isB i15,none)],[]⟩) (fun i15=>dT i15) (fun i15=>?_) (fun hj4=>?_)
     ·exact fr
     ·refine .g<|go ?_
      refine .split 123 z (fun _=>?_) (fun _=>?_)
      ·refine go ?_
       refine .split 126 z (fun _=>?_) (fun _=>?_)
       ·refine go ?_
        refine .split 129 z (fun _=>?_) (fun _=>?_)
        ·refine go ?_
         refine .call0 (pQ fu _) pO z z fun q16=>go ?_
         refine .split 134 z (fun _=>?_) (fun _=>?_)
         ·refine go ?_
          refine .call0 (Df fu _) B7 z z fun q17=>go ?_
          refine .split 139 z (fun _=>?_) (fun _=>?_)
          ·refine go ?_
           exact .call0 (c56 fu _ _ _) n56 z z fun q18=>fj (hj4 _)
          ·exact fj (hj4 _)
         ·exact fj (hj4 _)
        ·exact fj (hj4 _)
       ·exact fj (hj4 _)
      ·exact fj (hj4 _)
    ·refine .s<|go ?_
     refine .cd z ?_ ?_
     ·refine .seq<|.join1 (fun i19=>⟨[(2,isB i19,none)],[]⟩) (fun i19=>dS i19) (fun i19=>?_) (fun hj5=>?_)
      ·exact fr
      ·refine .g<|go ?_
       refine .split 147 z (fun _=>?_) (fun _=>?_)
       ·refine go ?_
        refine .split 150 z (fun _=>?_) (fun _=>?_)
        ·refine go ?_
         refine .split 153 z (fun _=>?_) (fun _=>?_)
         ·refine go ?_
          refine .split 156 z (fun _=>?_) (fun _=>?_)
          ·refine go ?_
           refine .call0 (pQ fu _) pO z z fun q20=>go ?_
           refine .split 161 z (fun _=>?_) (fun _=>?_)
           ·refine go ?_
            exact .call0 (c56 fu _ _ _) n56 z z fun q21=>fj (hj5 _)
           ·exact fj (hj5 _)
          ·exact fj (hj5 _)
         ·exact fj (hj5 _)
        ·exact fj (hj5 _)
       ·exact fj (hj5 _)
     ·refine .s<|go ?_
      refine .cd z ?_ ?_
      ·refine .seq<|.join1 (fun i22=>⟨[(2,isB i22,none)],[]⟩) (fun i22=>dR i22) (fun i22=>?_) (fun hj6=>?_)
       ·exact fr
       ·refine .g<|go ?_
        refine .split 169 z (fun _=>?_) (fun _=>?_)
        ·refine go ?_
         refine .split 172 z (fun _=>?_) (fun _=>?_)
         ·refine go ?_
          refine .split 175 z (fun _=>?_) (fun _=>?_)
          ·refine go ?_
           refine .split 178 z (fun _=>?_) (fun _=>?_)
           ·refine go ?_
            refine .call0 (pQ fu _) pO z z fun q23=>go ?_
            refine .split 183 z (fun _=>?_) (fun _=>?_)
            ·refine go ?_
             exact .call0 (FB fu _) Eg z z fun q24=>fj (hj6 _)
            ·exact fj (hj6 _)
           ·exact fj (hj6 _)
          ·exact fj (hj6 _)
         ·exact fj (hj6 _)
        ·exact fj (hj6 _)
      ·exact fr
noncomputable def vG (fu:Nat) (a0:ac) (a1:aQ):Option (ac×Int):=(lS fu a0).bind fun q4=>cond (!q4) (some ((⟨d0_1026.tabs,d0_1026.links⟩:ac),1)) ((vz fu a1).bind fun q5=>cond (!q5) ((eE fu a0).bind fun q6=>some (q6,1)) (cond (decide (a1.kind=1)) ((wn fu a0 a1.name a1.cols).bind fun q8=>some (q8.1,q8.2)) (cond (decide (a1.kind=2)) ((wk fu a0 a1.link).bind fun q9=>some (q9.1,q9.2)) (cond (decide (a1.kind=3)) ((wb fu a0 a1.name a1.sets).bind fun q10=>some (q10.1,q10.2)) (cond (decide (a1.kind=4)) ((wd fu a0 a1.name a1.id a1.sets).bind fun q11=>some (q11.1,q11.2)) (cond (decide (a1.kind=5)) ((wj fu a0 a1.name a1.id).bind fun q12=>some (q12.1,q12.2)) ((wg fu a0 a1.name a1.change).bind fun q13=>some (q13.1,q13.2))))))))
theorem Es:Nm prog 15:=nmK func15
theorem FM (fu:Nat)(a0:ac)(a1:aQ):Ctr prog 15 [tBase.va a0,tDeed.va a1] [] (vG fu a0 a1) (fun _ _=>[]) (fun q=>tup [tBase.va q.1,isI .i64 q.2]):=by
 refine .w func15 ntmps15 fun hf A w=>?_
 unfold vG
 refine .s<|.box (T:=tBase) z z fun b1=>.box (T:=tDeed) z z fun b2=>.alloc tBase d0_1026 [] cz z fun b3=>.an z z<|.seq<|.block<|.s<|go ?_
 refine .call0 (rd fu _) qj z z fun q4=>go ?_
 refine .cd z ?_ ?_
 ·exact fr
 ·refine .s<|go ?_
  refine .call0 (FG fu _) El z z fun q5=>go ?_
  refine .cd z ?_ ?_
  ·refine .s<|go ?_
   exact .callL0 (gv fu _) gr z z fun q6 p7=>.frzT 16 0 conv1026_0 z z<|.frzT 16 1 conv1026_1 z z<|fr
  ·refine .skip<|.inBlock<|.seq<|.s<|go ?_
   refine .block<|.s<|go ?_
   refine .cd z ?_ ?_
   ·refine .s<|go ?_
    exact .call0 (GC fu _ _ _) Fd z z fun q8=>fr
   ·refine .s<|go ?_
    refine .cd z ?_ ?_
    ·refine .s<|go ?_
     exact .call0 (Gz fu _ _) Fa z z fun q9=>fr
    ·refine .s<|go ?_
     refine .cd z ?_ ?_
     ·refine .s<|go ?_
      exact .call0 (Gr fu _ _ _) E2 z z fun q10=>fr
     ·refine .s<|go ?_
      refine .cd z ?_ ?_
      ·refine .s<|go ?_
       exact .call0 (Gt fu _ _ _ _) E4 z z fun q11=>fr
      ·refine .s<|go ?_
       refine .cd z ?_ ?_
       ·refine .s<|go ?_
        exact .call0 (Gy fu _ _ _) E9 z z fun q12=>fr
       ·refine .skip<|.inBlock<|.s<|go ?_
        exact .call0 (Gv fu _ _ _) E6 z z fun q13=>fr
noncomputable def f6 (fu:Nat) (a0:ac) (a1:List aQ):Nat→Int→ac→Option (ac×Int×Int)
 | 0,_,_=>none
 | n2001+1,i9,i10=>cond (decide (i9 < (a1.length:Int))) (cond (decide (0≤i9)&&decide (i9 < (a1.length:Int))) ((vG fu i10 (a1.getD i9.toNat default)).bind fun q12=>cond (!decide (q12.2=0)) ((eE fu a0).bind fun q14=>some (q14,q12.2,i9)) ((f6 fu a0 a1 n2001) (IntKind.i64.wrap (i9+1)) q12.1)) none) (some (i10,0,(a1.length:Int)))
noncomputable def qy (fu:Nat) (a0:ac) (a1:List aQ):Option (ac×Int×Int):=(lS fu a0).bind fun q3=>cond (!q3) (some ((⟨d0_1026.tabs,d0_1026.links⟩:ac),1,0)) (cond (decide (6 < (a1.length:Int))) ((eE fu a0).bind fun q4=>some (q4,4,0)) ((eE fu a0).bind fun q6=>f6 fu a0 a1 fu 0 q6))
theorem z8:Nm prog 12:=nmK func12
theorem A5 (fu:Nat)(a0:ac)(a1:List aQ):Ctr prog 12 [tBase.va a0,(tL tDeed).va a1] [] (qy fu a0 a1) (fun _ _=>[]) (fun q=>tup [tBase.va q.1,isI .i64 q.2.1,isI .i64 q.2.2]):=by
 refine .w func12 ntmps12 fun hf A w=>?_
 unfold qy
 refine .s<|.box (T:=tBase) z z fun b1=>.alloc tBase d0_1026 [] cz z fun b2=>go ?_
 refine .seq<|.block<|.s<|go ?_
 refine .call0 (rd fu _) qj z z fun q3=>go ?_
 refine .cd z ?_ ?_
 ·exact fr
 ·refine .s<|go ?_
  refine .cd z ?_ ?_
  ·refine .s<|go ?_
   exact .callL0 (gv fu _) gr z z fun q4 p5=>.frzT 22 0 conv1026_0 z z<|.frzT 22 1 conv1026_1 z z<|fr
  ·refine .skip<|.inBlock<|.s<|go ?_
   refine .callL0 (gv fu _) gr z z fun q6 p7=>.alloc tBase d0_1026 [] cz z fun b8=>.frzT 24 1 conv1026_0 z z<|.frzT 24 2 conv1026_1 z z<|go ?_
   refine .seq<|.s<|go ?_
   refine .block<|.loop<|.drop (.d<|.c<|.c<|.d<|.d<|.e)<|.keep [1,2,4,7,25,26,27] [] z<|(show ∀ (n2001:Nat) (i9:Int) (i10:ac),W _ _ _ _ _ ⟨[(1,(tL tDeed).va a1,none),(2,isP b1 0,none),(4,isP b2 0,none),(7,isP b8 0,none),(25,(tL tDeed).va a1,none),(26,isI .i64 (a1.length:Int),none),(27,isI .i64 i9,none)],[boxO b8 tBase i10 [],boxO b2 tBase d0_1026 [],boxO b1 tBase a0 []]⟩ (f6 fu a0 a1 n2001 i9 i10) from ?_) fu _ _
   intro n2001
   induction n2001 with
   | zero=>exact fun _ _=>.stop
   | succ n2001 ih1=>
    intro i9 i10
    refine .inLoop<|.s<|go ?_
    refine .seq<|.cd z ?_ ?_
    ·refine .skip<|.seq<|.block<|.s<|go ?_
     refine .alloc tDeed d0_2046 [] z2046 z fun b11=>go ?_
     refine .s<|go ?_
     refine .call0 (FM fu _ _) Es z z fun q12=>go ?_
     refine .alloc tBase d0_1026 [] cz z fun b13=>go ?_
     refine .seq<|.s<|go ?_
     refine .cd z ?_ ?_
     ·refine .s<|go ?_
      exact .callL0 (gv fu _) gr z z fun q14 p15=>.m z z<|.m z z<|.frzT 41 0 conv1026_0 z z<|.frzT 41 1 conv1026_1 z z<|fr
     ·exact fj (ih1 _ _)
    ·exact fr
def vn (fu:Nat)(a0:ac)(a1:aQ):Option (ac×Int):=(tk fu a1).bind fun q4=>cond (!q4) (some (a0,1)) (cond (decide (a1.kind=3)) ((qJ fu a0 a1.name a1.sets).bind fun q5=>some (q5.1,q5.2)) (cond (decide (a1.kind=4)) ((qK fu a0 a1.name a1.id a1.sets).bind fun q6=>some (q6.1,q6.2)) (cond (decide (a1.kind=5)) ((qN fu a0 a1.name a1.id).bind fun q7=>some (q7.1,q7.2)) (cond (decide (a1.kind=6)) ((qL fu a0 a1.name a1.change).bind fun q8=>some (q8.1,q8.2)) ((tj fu a0 a1).bind fun q9=>some (q9.1,q9.2))))))
theorem Ea:Nm prog 136:=nmK func136
theorem Fv (fu:Nat)(a0:ac)(a1:aQ):Ctr prog 136 [tBase.va a0,tDeed.va a1] [] (vn fu a0 a1) (fun _ _=>[]) (fun q=>tup [tBase.va q.1,isI .i64 q.2]):=by
 refine .w func136 ntmps136 fun hf A w=>?_
 unfold vn
 refine .s<|.box (T:=tBase) z z fun b1=>.box (T:=tDeed) z z fun b2=>.alloc tBase d0_1026 [] cz z fun b3=>.an z z<|.seq<|.s<|go ?_
 refine .call0 (Dh fu _) B9 z z fun q4=>.not z z<|.nil<|.cd z ?_ ?_
 ·exact fr
 ·refine .skip<|.seq<|.s<|go ?_
  refine .block<|.s<|go ?_
  refine .cd z ?_ ?_
  ·refine .s<|go ?_
   exact .call0 (A6 fu _ _ _) Ac z z fun q5=>fr
  ·refine .s<|go ?_
   refine .cd z ?_ ?_
   ·refine .s<|go ?_
    exact .call0 (A7 fu _ _ _ _) Ad z z fun q6=>fr
   ·refine .s<|go ?_
    refine .cd z ?_ ?_
    ·refine .s<|go ?_
     exact .call0 (A9 fu _ _ _) Af z z fun q7=>fr
    ·refine .s<|go ?_
     refine .cd z ?_ ?_
     ·refine .s<|go ?_
      exact .call0 (A8 fu _ _ _) Ae z z fun q8=>fr
     ·refine .skip<|.inBlock<|.s<|go ?_
      exact .call0 (Dg fu _ _) B8 z z fun q9=>fr
def f4 (fu:Nat)(a0:ac)(a1:List aQ):Nat→Int→ac→Option (ac×Int×Int)
 | 0,_,_=>none
 | n2001+1,i8,i9=>cond (decide (i8 < (a1.length:Int))) ((cY fu i9).bind fun q10=>cond (decide (0≤i8)&&decide (i8 < (a1.length:Int))) ((vn fu q10 (a1.getD i8.toNat default)).bind fun q12=>cond (!decide (q12.2=0)) ((cY fu a0).bind fun q13=>some (q13,q12.2,i8)) ((f4 fu a0 a1 n2001) (IntKind.i64.wrap (i8+1)) q12.1)) none) ((cY fu i9).bind fun q15=>some (q15,0,(a1.length:Int)))
def vx (fu:Nat)(a0:ac)(a1:List aQ):Option (ac×Int×Int):=cond (decide (6 < (a1.length:Int))) ((cY fu a0).bind fun q3=>some (q3,4,0)) ((cY fu a0).bind fun q5=>f4 fu a0 a1 fu 0 q5)
theorem Ej:Nm prog 60:=nmK func60
theorem FE (fu:Nat)(a0:ac)(a1:List aQ):Ctr prog 60 [tBase.va a0,(tL tDeed).va a1] [] (vx fu a0 a1) (fun _ _=>[]) (fun q=>tup [tBase.va q.1,isI .i64 q.2.1,isI .i64 q.2.2]):=by
 refine .w func60 ntmps60 fun hf A w=>?_
 unfold vx
 refine .s<|.box (T:=tBase) z z fun b1=>.alloc tBase d0_1026 [] cz z fun b2=>go ?_
 refine .seq<|.s<|go ?_
 refine .cd z ?_ ?_
 ·refine .s<|go ?_
  exact .callL0 (dJ fu _) dH z z fun q3 p4=>.frzT 14 0 conv1026_0 z z<|.frzT 14 1 conv1026_1 z z<|fr
 ·refine .skip<|.s<|go ?_
  refine .callL0 (dJ fu _) dH z z fun q5 p6=>.alloc tBase d0_1026 [] cz z fun b7=>.frzT 16 1 conv1026_0 z z<|.frzT 16 2 conv1026_1 z z<|go ?_
  refine .seq<|.s<|.an z z<|.block<|.loop<|.drop (.d<|.c<|.c<|.d<|.d<|.e)<|.keep [1,2,4,7,8] [] z<|(show ∀ (n2001:Nat) (i8:Int) (i9:ac),W _ _ _ _ _ ⟨[(1,(tL tDeed).va a1,none),(2,isP b1 0,none),(4,isP b2 0,none),(7,isP b7 0,none),(8,isI .i64 i8,none)],[boxO b7 tBase i9 [],boxO b2 tBase d0_1026 [],boxO b1 tBase a0 []]⟩ (f4 fu a0 a1 n2001 i8 i9) from ?_) fu _ _
  intro n2001
  induction n2001 with
  | zero=>exact fun _ _=>.stop
  | succ n2001 ih1=>
   intro i8 i9
   refine .inLoop<|.seq<|.s<|go ?_
   refine .cd z ?_ ?_
   ·refine .skip<|.seq<|.block<|.s<|.an z z<|.seq<|.pbind fun q10 h3=>.pT fun h4=>.drawS 6 [] [1] [] mix (by kernel_rfl) sts z<|.cons (d:=25) z z fun _ _ hE h=>.bindE2 h3 (fun r h=>.callL0 (dJ fu _) dH (hE.ops z) z h) fun p11=>.toEnd<|.toEnd<|h _ _ (.same<|.same<|.same<|.nil)<|.nil<|.frzT 25 3 conv1026_0 z z<|.frzT 25 4 conv1026_1 z z<|.call0 (Fv fu _ _) Ea z z fun q12=>go ?_
    refine .s<|go ?_
    refine .cd z ?_ ?_
    ·refine .s<|go ?_
     exact .callL0 (dJ fu _) dH z z fun q13 p14=>.m z z<|.m z z<|.frzT 36 0 conv1026_0 z z<|.frzT 36 1 conv1026_1 z z<|fr
    ·exact fj (ih1 _ _)
   ·refine .exit z<|.s<|go ?_
    exact .callL0 (dJ fu _) dH z z fun q15 p16=>.m z z<|.lenL z u32 z<|.frzT 40 0 conv1026_0 z z<|.frzT 40 1 conv1026_1 z z<|fr
def vA (fu:Nat)(a0:ac):Option ac:=(jz fu a0).bind fun q3=>cond (!q3) (some (⟨d0_1026.tabs,d0_1026.links⟩:ac)) (some a0)
theorem Em:Nm prog 40:=nmK func40
theorem FH (fu:Nat)(a0:ac):Ctr prog 40 [tBase.va a0] [] (vA fu a0) (fun _ _=>[]) (fun q=>tBase.va q):=by
 refine .w func40 ntmps40 fun hf A w=>?_
 unfold vA
 refine .s<|.box (T:=tBase) z z fun b1=>.alloc tBase d0_1026 [] cz z fun b2=>.nil<|.seq<|.s<|go ?_
 refine .call0 (ol fu _) nn z z fun q3=>.not z z<|.nil<|.cd z ?_ ?_
 ·exact fr
 ·exact fr
def vF (fu:Nat)(a0:ac)(a1:aQ):Option (ac×Int):=(jz fu a0).bind fun q4=>cond (!q4) (some ((⟨d0_1026.tabs,d0_1026.links⟩:ac),1)) ((tk fu a1).bind fun q5=>cond (!q5) ((cY fu a0).bind fun q6=>some (q6,1)) ((tj fu a0 a1).bind fun q8=>some (q8.1,q8.2)))
theorem Er:Nm prog 16:=nmK func16
theorem FL (fu:Nat)(a0:ac)(a1:aQ):Ctr prog 16 [tBase.va a0,tDeed.va a1] [] (vF fu a0 a1) (fun _ _=>[]) (fun q=>tup [tBase.va q.1,isI .i64 q.2]):=by
 refine .w func16 ntmps16 fun hf A w=>?_
 unfold vF
 refine .s<|.box (T:=tBase) z z fun b1=>.box (T:=tDeed) z z fun b2=>.alloc tBase d0_1026 [] cz z fun b3=>.an z z<|.seq<|.s<|go ?_
 refine .call0 (ol fu _) nn z z fun q4=>.not z z<|.nil<|.cd z ?_ ?_
 ·exact fr
 ·refine .skip<|.seq<|.s<|go ?_
  refine .call0 (Dh fu _) B9 z z fun q5=>.not z z<|.nil<|.cd z ?_ ?_
  ·refine .s<|go ?_
   exact .callL0 (dJ fu _) dH z z fun q6 p7=>.frzT 14 0 conv1026_0 z z<|.frzT 14 1 conv1026_1 z z<|fr
  ·refine .skip<|.s<|go ?_
   exact .call0 (Dg fu _ _) B8 z z fun q8=>fr
end Go.Proofs.YtganfdhmkdehlaaGreatDoor
