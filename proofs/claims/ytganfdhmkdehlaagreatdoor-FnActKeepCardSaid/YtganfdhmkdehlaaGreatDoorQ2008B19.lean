/- What functions answer. -/
import Derived.Test.YtganfdhmkdehlaaGreatDoorQ2008B17
import Derived.KernelRfl
set_option linter.all false
namespace Go.Proofs.YtganfdhmkdehlaaGreatDoor
open Go Go.HL Tryz
attribute [local irreducible] W WO
def eU (a0:List Set)(a1:Set→Option Bool):Nat→Int→Option Int
 | 0,_=>none
 | n2001+1,i1=>cond (decide (i1 < (a0.length:Int))) (cond (decide (0≤i1)&&decide (i1 < (a0.length:Int))) ((a1 (a0.getD i1.toNat default)).bind fun q2=>cond q2 (some i1) ((eU a0 a1 n2001) (IntKind.i64.wrap (i1+1)))) none) (some (-1))
def xK (fu:Nat)(a0:List Set)(a1:Set→Option Bool):Option Int:=eU a0 a1 fu 0
theorem DU:Nm prog 195:=nmK func195
theorem Fg (fu : Nat)(a0 : List Set)(a1 : Set → Option Bool)(g1 : Nat)(k1 : List VA)(hn1 : ∃ fn c, prog.funcs[g1]? = some fn ∧ (fn.name == "runtime.NumGoroutine") = false ∧ fn.body = some c)(hc1 : ∀ (x0 : Set), Ctr prog g1 ([tSet.va x0] ++ k1) [] (a1 x0) (fun _ _ => []) (fun q => isB q)) : Ctr prog 195 [(tL tSet).va a0, cW g1 k1] [] (xK fu a0 a1) (fun _ _ => []) (fun q => isI .i64 q) := by
 refine .w func195 ntmps195 fun hf A w=>?_
 unfold xK
 refine .s<|.an z z<|.seq<|.s<|go ?_
 refine .block<|.loop<|.keep [0,1,7,8] [] z<|(show ∀ (n2001:Nat) (i1:Int),W _ _ _ _ _ ⟨[(0,(tL tSet).va a0,none),(1,cW g1 k1,none),(7,isI .i64 (a0.length:Int),none),(8,isI .i64 i1,none)],[]⟩ (eU a0 a1 n2001 i1) from ?_) fu _
 intro n2001
 induction n2001 with
 | zero=>exact fun _=>.stop
 | succ n2001 ih1=>
  intro i1
  refine .inLoop<|.s<|go ?_
  refine .seq<|.cd z ?_ ?_
  ·refine .skip<|.seq<|.block<|.s<|go ?_
   refine .s<|go ?_
   refine .callC z (hc1 _) hn1 z z fun q2=>.nil<|.cd z ?_ ?_
   ·exact fr
   ·exact fj (ih1 _)
  ·exact fr
def xM (fu:Nat)(a0:List Set)(a1:Set→Option Bool):Option Bool:=(xK fu a0 a1).bind fun q1=>some (decide (0≤q1))
theorem DW:Nm prog 162:=nmK func162
theorem Fi (fu : Nat)(a0 : List Set)(a1 : Set → Option Bool)(g1 : Nat)(k1 : List VA)(hn1 : ∃ fn c, prog.funcs[g1]? = some fn ∧ (fn.name == "runtime.NumGoroutine") = false ∧ fn.body = some c)(hc1 : ∀ (x0 : Set), Ctr prog g1 ([tSet.va x0] ++ k1) [] (a1 x0) (fun _ _ => []) (fun q => isB q)) : Ctr prog 162 [(tL tSet).va a0, cW g1 k1] [] (xM fu a0 a1) (fun _ _ => []) (fun q => isB q) := by
 refine .w func162 ntmps162 fun hf A w=>?_
 unfold xM
 refine .s<|.an z z<|.s<|go ?_
 exact .call0 (Fg fu _ a1 g1 k1 hn1 hc1) DU z z fun q1=>fr
def kf (i2:Bool):Option Bool:=some i2
def pf (fu:Nat)(a0:Set):Option Bool:=(mc fu a0.name).bind fun q3=>cond (!q3) (kf true) ((f25 fu a0.val).bind fun q4=>kf (!q4))
theorem DV:Nm prog 163:=nmK func163
theorem Fh (fu:Nat)(a0:Set):Ctr prog 163 [tSet.va a0] [] (pf fu a0) (fun _ _=>[]) (fun q=>isB q):=by
 refine .w func163 ntmps163 fun hf A w=>?_
 unfold pf
 refine .s<|.box (T:=tSet) z z fun b1=>.an z z<|.seq<|.join1 (fun i2=>⟨[(2,isB i2,none)],[]⟩) (fun i2=>kf i2) (fun i2=>?_) (fun hj1=>?_)
 ·exact fr
 ·refine .g<|go ?_
  refine .call0 (pM fu _) pK z z fun q3=>go ?_
  refine .split 7 z (fun _=>?_) (fun _=>?_)
  ·exact fj (hj1 _)
  ·refine go ?_
   exact .call0 (c25 fu _) n25 z z fun q4=>fj (hj1 _)
def kj (i1:Bool):Option Bool:=some i1
def s0 (fu:Nat)(a0:List Set):Option Bool:=cond (decide ((a0.length:Int)≤5)) ((xM fu a0 (fun x0=>pf fu x0)).bind fun q2=>kj (!q2)) (kj false)
theorem BV:Nm prog 100:=nmK func100
theorem C2 (fu:Nat)(a0:List Set):Ctr prog 100 [(tL tSet).va a0] [] (s0 fu a0) (fun _ _=>[]) (fun q=>isB q):=by
 refine .w func100 ntmps100 fun hf A w=>?_
 unfold s0
 refine .s<|.an z z<|.seq<|.join1 (fun i1=>⟨[(2,isB i1,none)],[]⟩) (fun i1=>kj i1) (fun i1=>?_) (fun hj1=>?_)
 ·exact fr
 ·refine .g<|go ?_
  refine .split 6 z (fun _=>?_) (fun _=>?_)
  ·refine go ?_
   exact .call0 (Fi fu _ (fun x0=>pf fu x0) 163 [] DV (fun x0=>Fh fu x0)) DW z z fun q2=>fj (hj1 _)
  ·exact fj (hj1 _)
def ki (i5:Bool):Option Bool:=some i5
def kh (i8:Bool):Option Bool:=some i8
def vi (fu:Nat)(a0:aa):Option Bool:=(Bu fu a0).bind fun q2=>cond (!q2) (some false) (cond (decide (a0.kind=1)) ((AJ fu a0.col).bind fun q3=>some q3) (cond (decide (a0.kind=2)) ((mc fu a0.name).bind fun q4=>some q4) (cond (decide (a0.kind=3)) ((mc fu a0.name).bind fun q6=>cond q6 ((mc fu a0.new).bind fun q7=>ki q7) (ki false)) ((mc fu a0.name).bind fun q9=>cond q9 ((f56 fu a0.col.kind 1 2).bind fun q10=>kh q10) (kh false)))))
theorem D3:Nm prog 101:=nmK func101
theorem Fp (fu:Nat)(a0:aa):Ctr prog 101 [tChange.va a0] [] (vi fu a0) (fun _ _=>[]) (fun q=>isB q):=by
 refine .w func101 ntmps101 fun hf A w=>?_
 unfold vi
 refine .s<|.box (T:=tChange) z z fun b1=>.an z z<|.seq<|.s<|go ?_
 refine .call0 (G2 fu _) GJ z z fun q2=>.not z z<|.nil<|.cd z ?_ ?_
 ·exact fr
 ·refine .skip<|.seq<|.s<|go ?_
  refine .block<|.s<|go ?_
  refine .cd z ?_ ?_
  ·refine .s<|go ?_
   exact .call0 (Gi fu _) ET z z fun q3=>fr
  ·refine .s<|go ?_
   refine .cd z ?_ ?_
   ·refine .s<|go ?_
    exact .call0 (pM fu _) pK z z fun q4=>fr
   ·refine .s<|go ?_
    refine .cd z ?_ ?_
    ·refine .seq<|.join1 (fun i5=>⟨[(2,isB i5,none)],[]⟩) (fun i5=>ki i5) (fun i5=>?_) (fun hj1=>?_)
     ·exact fr
     ·refine .g<|go ?_
      refine .call0 (pM fu _) pK z z fun q6=>.m z z<|.split 23 z (fun _=>?_) (fun _=>?_)
      ·refine go ?_
       exact .call0 (pM fu _) pK z z fun q7=>fj (hj1 _)
      ·exact fj (hj1 _)
    ·refine .skip<|.inBlock<|.seq<|.join1 (fun i8=>⟨[(2,isB i8,none)],[]⟩) (fun i8=>kh i8) (fun i8=>?_) (fun hj2=>?_)
     ·exact fr
     ·refine .g<|go ?_
      refine .call0 (pM fu _) pK z z fun q9=>.m z z<|.split 31 z (fun _=>?_) (fun _=>?_)
      ·refine go ?_
       exact .call0 (c56 fu _ _ _) n56 z z fun q10=>fj (hj2 _)
      ·exact fj (hj2 _)
def dl (i2:Bool):Option Bool:=some i2
def cm (i7:Bool):Option Bool:=some i7
def dT (i12:Bool):Option Bool:=some i12
def dS (i15:Bool):Option Bool:=some i15
def dR (i19:Bool):Option Bool:=some i19
def dQ (i22:Bool):Option Bool:=some i22
def vn (fu:Nat)(a0:aR):Option Bool:=cond (decide (a0.kind=1)) (cond (decide (a0.id=0)) (cond (decide ((a0.sets.length:Int)=0)) (cond (decide (a0.change=(⟨d0_56.kind,d0_56.name,d0_56.new,d0_56.col⟩:aa))) (cond (decide (a0.link=(⟨d0_1044.from_,d0_1044.col,d0_1044.to,d0_1044.how⟩:ai))) ((mc fu a0.name).bind fun q3=>cond q3 ((f56 fu (a0.cols.length:Int) 1 5).bind fun q4=>cond q4 ((vj fu a0.cols (fun x0=>pg fu x0)).bind fun q5=>dl (!q5)) (dl false)) (dl false)) (dl false)) (dl false)) (dl false)) (dl false)) (cond (decide (a0.kind=2)) (cond (decide (a0.id=0)) (cond (decide ((a0.sets.length:Int)=0)) (cond (decide ((a0.cols.length:Int)=0)) (cond (decide (a0.change=(⟨d0_56.kind,d0_56.name,d0_56.new,d0_56.col⟩:aa))) (cond (decide (a0.name=([]:List UInt8))) ((mc fu a0.link.from_).bind fun q8=>cond q8 ((mc fu a0.link.col).bind fun q9=>cond q9 ((mc fu a0.link.to).bind fun q10=>cond q10 ((f56 fu a0.link.how 1 3).bind fun q11=>cm q11) (cm false)) (cm false)) (cm false)) (cm false)) (cm false)) (cm false)) (cm false)) (cm false)) (cond (decide (a0.kind=3)) (cond (decide (a0.id=0)) (cond (decide ((a0.cols.length:Int)=0)) (cond (decide (a0.change=(⟨d0_56.kind,d0_56.name,d0_56.new,d0_56.col⟩:aa))) (cond (decide (a0.link=(⟨d0_1044.from_,d0_1044.col,d0_1044.to,d0_1044.how⟩:ai))) ((mc fu a0.name).bind fun q13=>cond q13 ((s0 fu a0.sets).bind fun q14=>dT q14) (dT false)) (dT false)) (dT false)) (dT false)) (dT false)) (cond (decide (a0.kind=4)) (cond (decide ((a0.cols.length:Int)=0)) (cond (decide (a0.change=(⟨d0_56.kind,d0_56.name,d0_56.new,d0_56.col⟩:aa))) (cond (decide (a0.link=(⟨d0_1044.from_,d0_1044.col,d0_1044.to,d0_1044.how⟩:ai))) ((mc fu a0.name).bind fun q16=>cond q16 ((s0 fu a0.sets).bind fun q17=>cond q17 ((f56 fu a0.id 0 60).bind fun q18=>dS q18) (dS false)) (dS false)) (dS false)) (dS false)) (dS false)) (cond (decide (a0.kind=5)) (cond (decide ((a0.sets.length:Int)=0)) (cond (decide ((a0.cols.length:Int)=0)) (cond (decide (a0.change=(⟨d0_56.kind,d0_56.name,d0_56.new,d0_56.col⟩:aa))) (cond (decide (a0.link=(⟨d0_1044.from_,d0_1044.col,d0_1044.to,d0_1044.how⟩:ai))) ((mc fu a0.name).bind fun q20=>cond q20 ((f56 fu a0.id 0 60).bind fun q21=>dR q21) (dR false)) (dR false)) (dR false)) (dR false)) (dR false)) (cond (decide (a0.kind=6)) (cond (decide (a0.id=0)) (cond (decide ((a0.sets.length:Int)=0)) (cond (decide ((a0.cols.length:Int)=0)) (cond (decide (a0.link=(⟨d0_1044.from_,d0_1044.col,d0_1044.to,d0_1044.how⟩:ai))) ((mc fu a0.name).bind fun q23=>cond q23 ((vi fu a0.change).bind fun q24=>dQ q24) (dQ false)) (dQ false)) (dQ false)) (dQ false)) (dQ false)) (some false))))))
theorem D8:Nm prog 41:=nmK func41
theorem Fu (fu:Nat)(a0:aR):Ctr prog 41 [tDeed.va a0] [] (vn fu a0) (fun _ _=>[]) (fun q=>isB q):=by
 refine .w func41 ntmps41 fun hf A w=>?_
 unfold vn
 refine .s<|.box (T:=tDeed) z z fun b1=>.an z z<|.seq<|.draw 13 [] mix (by kernel_rfl) sts z<|.an z z<|.seq<|.draw 9 [] mix (by kernel_rfl) (.j (fun o=>.fp (o z) nt z)<|.k (fun p e=>.lp 0 fDeed_5 (e.op z) (p.get z z) y4 z)<|.j (fun o=>.build z Gy z56 (.nil) z)<|.j (fun o=>.eqT E6 (o z) (o z) z)<|.j (fun o=>.fp (o z) nr z)<|.k (fun p e=>.lp 0 qk (e.op z) (p.get z z) mo z)<|.j (fun o=>.build z rc z1044 (.nil) z)<|.j (fun o=>.eqT zD (o z) (o z) z)<|.j (fun o=>.a (o z) z)<|.nil) z<|.an z z<|.seq<|.s<|go ?_
 refine .block<|.s<|go ?_
 refine .cd z ?_ ?_
 ·refine .seq<|.join1 (fun i2=>⟨[(2,isB i2,none)],[]⟩) (fun i2=>dl i2) (fun i2=>?_) (fun hj1=>?_)
  ·exact fr
  ·refine .g<|go ?_
   refine .split 33 z (fun _=>?_) (fun _=>?_)
   ·refine go ?_
    refine .split 36 z (fun _=>?_) (fun _=>?_)
    ·refine go ?_
     refine .split 39 z (fun _=>?_) (fun _=>?_)
     ·refine go ?_
      refine .split 42 z (fun _=>?_) (fun _=>?_)
      ·refine go ?_
       refine .call0 (pM fu _) pK z z fun q3=>go ?_
       refine .split 47 z (fun _=>?_) (fun _=>?_)
       ·refine go ?_
        refine .call0 (c56 fu _ _ _) n56 z z fun q4=>go ?_
        refine .split 53 z (fun _=>?_) (fun _=>?_)
        ·refine go ?_
         exact .call0 (Fr fu _ (fun x0=>pg fu x0) 98 [] D4 (fun x0=>Fq fu x0)) D5 z z fun q5=>fj (hj1 _)
        ·exact fj (hj1 _)
       ·exact fj (hj1 _)
      ·exact fj (hj1 _)
     ·exact fj (hj1 _)
    ·exact fj (hj1 _)
   ·exact fj (hj1 _)
 ·refine .s<|go ?_
  refine .cd z ?_ ?_
  ·refine .s<|go ?_
   refine .alloc tLink d0_1044 [] z1044 z fun b6=>go ?_
   refine .seq<|.join1 (fun i7=>⟨[(2,isB i7,none)],[]⟩) (fun i7=>cm i7) (fun i7=>?_) (fun hj2=>?_)
   ·exact fr
   ·refine .g<|go ?_
    refine .split 64 z (fun _=>?_) (fun _=>?_)
    ·refine go ?_
     refine .split 67 z (fun _=>?_) (fun _=>?_)
     ·refine go ?_
      refine .split 70 z (fun _=>?_) (fun _=>?_)
      ·refine go ?_
       refine .split 73 z (fun _=>?_) (fun _=>?_)
       ·refine go ?_
        refine .split 78 z (fun _=>?_) (fun _=>?_)
        ·refine go ?_
         refine .call0 (pM fu _) pK z z fun q8=>go ?_
         refine .split 83 z (fun _=>?_) (fun _=>?_)
         ·refine go ?_
          refine .call0 (pM fu _) pK z z fun q9=>go ?_
          refine .split 88 z (fun _=>?_) (fun _=>?_)
          ·refine go ?_
           refine .call0 (pM fu _) pK z z fun q10=>go ?_
           refine .split 93 z (fun _=>?_) (fun _=>?_)
           ·refine go ?_
            exact .call0 (c56 fu _ _ _) n56 z z fun q11=>fj (hj2 _)
           ·exact fj (hj2 _)
          ·exact fj (hj2 _)
         ·exact fj (hj2 _)
        ·exact fj (hj2 _)
       ·exact fj (hj2 _)
      ·exact fj (hj2 _)
     ·exact fj (hj2 _)
    ·exact fj (hj2 _)
  ·refine .s<|go ?_
   refine .cd z ?_ ?_
   ·refine .seq<|.join1 (fun i12=>⟨[(2,isB i12,none)],[]⟩) (fun i12=>dT i12) (fun i12=>?_) (fun hj3=>?_)
    ·exact fr
    ·refine .g<|go ?_
     refine .split 101 z (fun _=>?_) (fun _=>?_)
     ·refine go ?_
      refine .split 104 z (fun _=>?_) (fun _=>?_)
      ·refine go ?_
       refine .split 107 z (fun _=>?_) (fun _=>?_)
       ·refine go ?_
        refine .split 110 z (fun _=>?_) (fun _=>?_)
        ·refine go ?_
         refine .call0 (pM fu _) pK z z fun q13=>go ?_
         refine .split 115 z (fun _=>?_) (fun _=>?_)
         ·refine go ?_
          exact .call0 (C2 fu _) BV z z fun q14=>fj (hj3 _)
         ·exact fj (hj3 _)
        ·exact fj (hj3 _)
       ·exact fj (hj3 _)
      ·exact fj (hj3 _)
     ·exact fj (hj3 _)
   ·refine .s<|go ?_
    refine .cd z ?_ ?_
    ·refine .seq<|.join1 (fun i15=>⟨[(2,isB i15,none)],[]⟩) (fun i15=>dS i15) (fun i15=>?_) (fun hj4=>?_)
     ·exact fr
     ·refine .g<|go ?_
      refine .split 123 z (fun _=>?_) (fun _=>?_)
      ·refine go ?_
       refine .split 126 z (fun _=>?_) (fun _=>?_)
       ·refine go ?_
        refine .split 129 z (fun _=>?_) (fun _=>?_)
        ·refine go ?_
         refine .call0 (pM fu _) pK z z fun q16=>go ?_
         refine .split 134 z (fun _=>?_) (fun _=>?_)
         ·refine go ?_
          refine .call0 (C2 fu _) BV z z fun q17=>go ?_
          refine .split 139 z (fun _=>?_) (fun _=>?_)
          ·refine go ?_
           exact .call0 (c56 fu _ _ _) n56 z z fun q18=>fj (hj4 _)
          ·exact fj (hj4 _)
         ·exact fj (hj4 _)
        ·exact fj (hj4 _)
       ·exact fj (hj4 _)
      ·exact fj (hj4 _)
    ·refine .s<|go ?_
     refine .cd z ?_ ?_
     ·refine .seq<|.join1 (fun i19=>⟨[(2,isB i19,none)],[]⟩) (fun i19=>dR i19) (fun i19=>?_) (fun hj5=>?_)
      ·exact fr
      ·refine .g<|go ?_
       refine .split 147 z (fun _=>?_) (fun _=>?_)
       ·refine go ?_
        refine .split 150 z (fun _=>?_) (fun _=>?_)
        ·refine go ?_
         refine .split 153 z (fun _=>?_) (fun _=>?_)
         ·refine go ?_
          refine .split 156 z (fun _=>?_) (fun _=>?_)
          ·refine go ?_
           refine .call0 (pM fu _) pK z z fun q20=>go ?_
           refine .split 161 z (fun _=>?_) (fun _=>?_)
           ·refine go ?_
            exact .call0 (c56 fu _ _ _) n56 z z fun q21=>fj (hj5 _)
           ·exact fj (hj5 _)
          ·exact fj (hj5 _)
         ·exact fj (hj5 _)
        ·exact fj (hj5 _)
       ·exact fj (hj5 _)
     ·refine .s<|go ?_
      refine .cd z ?_ ?_
      ·refine .seq<|.join1 (fun i22=>⟨[(2,isB i22,none)],[]⟩) (fun i22=>dQ i22) (fun i22=>?_) (fun hj6=>?_)
       ·exact fr
       ·refine .g<|go ?_
        refine .split 169 z (fun _=>?_) (fun _=>?_)
        ·refine go ?_
         refine .split 172 z (fun _=>?_) (fun _=>?_)
         ·refine go ?_
          refine .split 175 z (fun _=>?_) (fun _=>?_)
          ·refine go ?_
           refine .split 178 z (fun _=>?_) (fun _=>?_)
           ·refine go ?_
            refine .call0 (pM fu _) pK z z fun q23=>go ?_
            refine .split 183 z (fun _=>?_) (fun _=>?_)
            ·refine go ?_
             exact .call0 (Fp fu _) D3 z z fun q24=>fj (hj6 _)
            ·exact fj (hj6 _)
           ·exact fj (hj6 _)
          ·exact fj (hj6 _)
         ·exact fj (hj6 _)
        ·exact fj (hj6 _)
      ·exact fr
noncomputable def vx (fu:Nat) (a0:ac) (a1:aR):Option (ac×Int):=(jY fu a0).bind fun q4=>cond (!q4) (some ((⟨d0_1026.tabs,d0_1026.links⟩:ac),1)) ((vn fu a1).bind fun q5=>cond (!q5) ((eD fu a0).bind fun q6=>some (q6,1)) (cond (decide (a1.kind=1)) ((wh fu a0 a1.name a1.cols).bind fun q8=>some (q8.1,q8.2)) (cond (decide (a1.kind=2)) ((wd fu a0 a1.link).bind fun q9=>some (q9.1,q9.2)) (cond (decide (a1.kind=3)) ((vU fu a0 a1.name a1.sets).bind fun q10=>some (q10.1,q10.2)) (cond (decide (a1.kind=4)) ((vW fu a0 a1.name a1.id a1.sets).bind fun q11=>some (q11.1,q11.2)) (cond (decide (a1.kind=5)) ((wb fu a0 a1.name a1.id).bind fun q12=>some (q12.1,q12.2)) ((vY fu a0 a1.name a1.change).bind fun q13=>some (q13.1,q13.2))))))))
theorem Ef:Nm prog 15:=nmK func15
theorem FB (fu:Nat)(a0:ac)(a1:aR):Ctr prog 15 [tBase.va a0,tDeed.va a1] [] (vx fu a0 a1) (fun _ _=>[]) (fun q=>tup [tBase.va q.1,isI .i64 q.2]):=by
 refine .w func15 ntmps15 fun hf A w=>?_
 unfold vx
 refine .s<|.box (T:=tBase) z z fun b1=>.box (T:=tDeed) z z fun b2=>.alloc tBase d0_1026 [] cR z fun b3=>.an z z<|.seq<|.block<|.s<|go ?_
 refine .call0 (px fu _) oQ z z fun q4=>go ?_
 refine .cd z ?_ ?_
 ·exact fr
 ·refine .s<|go ?_
  refine .call0 (Fu fu _) D8 z z fun q5=>go ?_
  refine .cd z ?_ ?_
  ·refine .s<|go ?_
   exact .callL0 (gx fu _) gu z z fun q6 p7=>.frzT 16 0 conv1026_0 z z<|.frzT 16 1 conv1026_1 z z<|fr
  ·refine .skip<|.inBlock<|.seq<|.s<|go ?_
   refine .block<|.s<|go ?_
   refine .cd z ?_ ?_
   ·refine .s<|go ?_
    exact .call0 (Gp fu _ _ _) EZ z z fun q8=>fr
   ·refine .s<|go ?_
    refine .cd z ?_ ?_
    ·refine .s<|go ?_
     exact .call0 (Gm fu _ _) EX z z fun q9=>fr
    ·refine .s<|go ?_
     refine .cd z ?_ ?_
     ·refine .s<|go ?_
      exact .call0 (Gd fu _ _ _) EO z z fun q10=>fr
     ·refine .s<|go ?_
      refine .cd z ?_ ?_
      ·refine .s<|go ?_
       exact .call0 (Gf fu _ _ _ _) EQ z z fun q11=>fr
      ·refine .s<|go ?_
       refine .cd z ?_ ?_
       ·refine .s<|go ?_
        exact .call0 (Gk fu _ _ _) EV z z fun q12=>fr
       ·refine .skip<|.inBlock<|.s<|go ?_
        exact .call0 (Gh fu _ _ _) ES z z fun q13=>fr
noncomputable def f9 (fu:Nat) (a0:ac) (a1:List aR):Nat→Int→ac→Option (ac×Int×Int)
 | 0,_,_=>none
 | n2001+1,i9,i10=>cond (decide (i9 < (a1.length:Int))) (cond (decide (0≤i9)&&decide (i9 < (a1.length:Int))) ((vx fu i10 (a1.getD i9.toNat default)).bind fun q12=>cond (!decide (q12.2=0)) ((eD fu a0).bind fun q14=>some (q14,q12.2,i9)) ((f9 fu a0 a1 n2001) (IntKind.i64.wrap (i9+1)) q12.1)) none) (some (i10,0,(a1.length:Int)))
noncomputable def vy (fu:Nat) (a0:ac) (a1:List aR):Option (ac×Int×Int):=(jY fu a0).bind fun q3=>cond (!q3) (some ((⟨d0_1026.tabs,d0_1026.links⟩:ac),1,0)) (cond (decide (6 < (a1.length:Int))) ((eD fu a0).bind fun q4=>some (q4,4,0)) ((eD fu a0).bind fun q6=>f9 fu a0 a1 fu 0 q6))
theorem Eg:Nm prog 12:=nmK func12
theorem FC (fu:Nat)(a0:ac)(a1:List aR):Ctr prog 12 [tBase.va a0,(tL tDeed).va a1] [] (vy fu a0 a1) (fun _ _=>[]) (fun q=>tup [tBase.va q.1,isI .i64 q.2.1,isI .i64 q.2.2]):=by
 refine .w func12 ntmps12 fun hf A w=>?_
 unfold vy
 refine .s<|.box (T:=tBase) z z fun b1=>.alloc tBase d0_1026 [] cR z fun b2=>go ?_
 refine .seq<|.block<|.s<|go ?_
 refine .call0 (px fu _) oQ z z fun q3=>go ?_
 refine .cd z ?_ ?_
 ·exact fr
 ·refine .s<|go ?_
  refine .cd z ?_ ?_
  ·refine .s<|go ?_
   exact .callL0 (gx fu _) gu z z fun q4 p5=>.frzT 22 0 conv1026_0 z z<|.frzT 22 1 conv1026_1 z z<|fr
  ·refine .skip<|.inBlock<|.s<|go ?_
   refine .callL0 (gx fu _) gu z z fun q6 p7=>.alloc tBase d0_1026 [] cR z fun b8=>.frzT 24 1 conv1026_0 z z<|.frzT 24 2 conv1026_1 z z<|go ?_
   refine .seq<|.s<|go ?_
   refine .block<|.loop<|.drop (.d<|.c<|.c<|.d<|.d<|.e)<|.keep [1,2,4,7,25,26,27] [] z<|(show ∀ (n2001:Nat) (i9:Int) (i10:ac),W _ _ _ _ _ ⟨[(1,(tL tDeed).va a1,none),(2,isP b1 0,none),(4,isP b2 0,none),(7,isP b8 0,none),(25,(tL tDeed).va a1,none),(26,isI .i64 (a1.length:Int),none),(27,isI .i64 i9,none)],[boxO b8 tBase i10 [],boxO b2 tBase d0_1026 [],boxO b1 tBase a0 []]⟩ (f9 fu a0 a1 n2001 i9 i10) from ?_) fu _ _
   intro n2001
   induction n2001 with
   | zero=>exact fun _ _=>.stop
   | succ n2001 ih1=>
    intro i9 i10
    refine .inLoop<|.s<|go ?_
    refine .seq<|.cd z ?_ ?_
    ·refine .skip<|.seq<|.block<|.s<|go ?_
     refine .alloc tDeed d0_2046 [] z2046 z fun b11=>go ?_
     refine .s<|go ?_
     refine .call0 (FB fu _ _) Ef z z fun q12=>go ?_
     refine .alloc tBase d0_1026 [] cR z fun b13=>go ?_
     refine .seq<|.s<|go ?_
     refine .cd z ?_ ?_
     ·refine .s<|go ?_
      exact .callL0 (gx fu _) gu z z fun q14 p15=>.m z z<|.m z z<|.frzT 41 0 conv1026_0 z z<|.frzT 41 1 conv1026_1 z z<|fr
     ·exact fj (ih1 _ _)
    ·exact fr
def vc (fu:Nat)(a0:ac)(a1:aR):Option (ac×Int):=(s6 fu a1).bind fun q4=>cond (!q4) (some (a0,1)) (cond (decide (a1.kind=3)) ((qA fu a0 a1.name a1.sets).bind fun q5=>some (q5.1,q5.2)) (cond (decide (a1.kind=4)) ((qB fu a0 a1.name a1.id a1.sets).bind fun q6=>some (q6.1,q6.2)) (cond (decide (a1.kind=5)) ((qE fu a0 a1.name a1.id).bind fun q7=>some (q7.1,q7.2)) (cond (decide (a1.kind=6)) ((qC fu a0 a1.name a1.change).bind fun q8=>some (q8.1,q8.2)) ((s5 fu a0 a1).bind fun q9=>some (q9.1,q9.2))))))
theorem DX:Nm prog 136:=nmK func136
theorem Fj (fu:Nat)(a0:ac)(a1:aR):Ctr prog 136 [tBase.va a0,tDeed.va a1] [] (vc fu a0 a1) (fun _ _=>[]) (fun q=>tup [tBase.va q.1,isI .i64 q.2]):=by
 refine .w func136 ntmps136 fun hf A w=>?_
 unfold vc
 refine .s<|.box (T:=tBase) z z fun b1=>.box (T:=tDeed) z z fun b2=>.alloc tBase d0_1026 [] cR z fun b3=>.an z z<|.seq<|.s<|go ?_
 refine .call0 (C4 fu _) BX z z fun q4=>.not z z<|.nil<|.cd z ?_ ?_
 ·exact fr
 ·refine .skip<|.seq<|.s<|go ?_
  refine .block<|.s<|go ?_
  refine .cd z ?_ ?_
  ·refine .s<|go ?_
   exact .call0 (AS fu _ _ _) zW z z fun q5=>fr
  ·refine .s<|go ?_
   refine .cd z ?_ ?_
   ·refine .s<|go ?_
    exact .call0 (AT fu _ _ _ _) zX z z fun q6=>fr
   ·refine .s<|go ?_
    refine .cd z ?_ ?_
    ·refine .s<|go ?_
     exact .call0 (AV fu _ _ _) zZ z z fun q7=>fr
    ·refine .s<|go ?_
     refine .cd z ?_ ?_
     ·refine .s<|go ?_
      exact .call0 (AU fu _ _ _) zY z z fun q8=>fr
     ·refine .skip<|.inBlock<|.s<|go ?_
      exact .call0 (C3 fu _ _) BW z z fun q9=>fr
def f6 (fu:Nat)(a0:ac)(a1:List aR):Nat→Int→ac→Option (ac×Int×Int)
 | 0,_,_=>none
 | n2001+1,i8,i9=>cond (decide (i8 < (a1.length:Int))) ((c6 fu i9).bind fun q10=>cond (decide (0≤i8)&&decide (i8 < (a1.length:Int))) ((vc fu q10 (a1.getD i8.toNat default)).bind fun q12=>cond (!decide (q12.2=0)) ((c6 fu a0).bind fun q13=>some (q13,q12.2,i8)) ((f6 fu a0 a1 n2001) (IntKind.i64.wrap (i8+1)) q12.1)) none) ((c6 fu i9).bind fun q15=>some (q15,0,(a1.length:Int)))
def vk (fu:Nat)(a0:ac)(a1:List aR):Option (ac×Int×Int):=cond (decide (6 < (a1.length:Int))) ((c6 fu a0).bind fun q3=>some (q3,4,0)) ((c6 fu a0).bind fun q5=>f6 fu a0 a1 fu 0 q5)
theorem D6:Nm prog 60:=nmK func60
theorem Fs (fu:Nat)(a0:ac)(a1:List aR):Ctr prog 60 [tBase.va a0,(tL tDeed).va a1] [] (vk fu a0 a1) (fun _ _=>[]) (fun q=>tup [tBase.va q.1,isI .i64 q.2.1,isI .i64 q.2.2]):=by
 refine .w func60 ntmps60 fun hf A w=>?_
 unfold vk
 refine .s<|.box (T:=tBase) z z fun b1=>.alloc tBase d0_1026 [] cR z fun b2=>go ?_
 refine .seq<|.s<|go ?_
 refine .cd z ?_ ?_
 ·refine .s<|go ?_
  exact .callL0 (dI fu _) dG z z fun q3 p4=>.frzT 14 0 conv1026_0 z z<|.frzT 14 1 conv1026_1 z z<|fr
 ·refine .skip<|.s<|go ?_
  refine .callL0 (dI fu _) dG z z fun q5 p6=>.alloc tBase d0_1026 [] cR z fun b7=>.frzT 16 1 conv1026_0 z z<|.frzT 16 2 conv1026_1 z z<|go ?_
  refine .seq<|.s<|.an z z<|.block<|.loop<|.drop (.d<|.c<|.c<|.d<|.d<|.e)<|.keep [1,2,4,7,8] [] z<|(show ∀ (n2001:Nat) (i8:Int) (i9:ac),W _ _ _ _ _ ⟨[(1,(tL tDeed).va a1,none),(2,isP b1 0,none),(4,isP b2 0,none),(7,isP b7 0,none),(8,isI .i64 i8,none)],[boxO b7 tBase i9 [],boxO b2 tBase d0_1026 [],boxO b1 tBase a0 []]⟩ (f6 fu a0 a1 n2001 i8 i9) from ?_) fu _ _
  intro n2001
  induction n2001 with
  | zero=>exact fun _ _=>.stop
  | succ n2001 ih1=>
   intro i8 i9
   refine .inLoop<|.seq<|.s<|go ?_
   refine .cd z ?_ ?_
   ·refine .skip<|.seq<|.block<|.s<|.an z z<|.seq<|.pbind fun q10 h3=>.pT fun h4=>.drawS 6 [] [1] [] mix (by kernel_rfl) sts z<|.cons (d:=25) z z fun _ _ hE h=>.bindE2 h3 (fun r h=>.callL0 (dI fu _) dG (hE.ops z) z h) fun p11=>.toEnd<|.toEnd<|h _ _ (.same<|.same<|.same<|.nil)<|.nil<|.frzT 25 3 conv1026_0 z z<|.frzT 25 4 conv1026_1 z z<|.call0 (Fj fu _ _) DX z z fun q12=>go ?_
    refine .s<|go ?_
    refine .cd z ?_ ?_
    ·refine .s<|go ?_
     exact .callL0 (dI fu _) dG z z fun q13 p14=>.m z z<|.m z z<|.frzT 36 0 conv1026_0 z z<|.frzT 36 1 conv1026_1 z z<|fr
    ·exact fj (ih1 _ _)
   ·refine .exit z<|.s<|go ?_
    exact .callL0 (dI fu _) dG z z fun q15 p16=>.m z z<|.lenL z u32 z<|.frzT 40 0 conv1026_0 z z<|.frzT 40 1 conv1026_1 z z<|fr
def vo (fu:Nat)(a0:ac):Option ac:=(ja fu a0).bind fun q3=>cond (!q3) (some (⟨d0_1026.tabs,d0_1026.links⟩:ac)) (some a0)
theorem D9:Nm prog 40:=nmK func40
theorem Fv (fu:Nat)(a0:ac):Ctr prog 40 [tBase.va a0] [] (vo fu a0) (fun _ _=>[]) (fun q=>tBase.va q):=by
 refine .w func40 ntmps40 fun hf A w=>?_
 unfold vo
 refine .s<|.box (T:=tBase) z z fun b1=>.alloc tBase d0_1026 [] cR z fun b2=>.nil<|.seq<|.s<|go ?_
 refine .call0 (mh fu _) ma z z fun q3=>.not z z<|.nil<|.cd z ?_ ?_
 ·exact fr
 ·exact fr
def vw (fu:Nat)(a0:ac)(a1:aR):Option (ac×Int):=(ja fu a0).bind fun q4=>cond (!q4) (some ((⟨d0_1026.tabs,d0_1026.links⟩:ac),1)) ((s6 fu a1).bind fun q5=>cond (!q5) ((c6 fu a0).bind fun q6=>some (q6,1)) ((s5 fu a0 a1).bind fun q8=>some (q8.1,q8.2)))
theorem Ee:Nm prog 16:=nmK func16
theorem FA (fu:Nat)(a0:ac)(a1:aR):Ctr prog 16 [tBase.va a0,tDeed.va a1] [] (vw fu a0 a1) (fun _ _=>[]) (fun q=>tup [tBase.va q.1,isI .i64 q.2]):=by
 refine .w func16 ntmps16 fun hf A w=>?_
 unfold vw
 refine .s<|.box (T:=tBase) z z fun b1=>.box (T:=tDeed) z z fun b2=>.alloc tBase d0_1026 [] cR z fun b3=>.an z z<|.seq<|.s<|go ?_
 refine .call0 (mh fu _) ma z z fun q4=>.not z z<|.nil<|.cd z ?_ ?_
 ·exact fr
 ·refine .skip<|.seq<|.s<|go ?_
  refine .call0 (C4 fu _) BX z z fun q5=>.not z z<|.nil<|.cd z ?_ ?_
  ·refine .s<|go ?_
   exact .callL0 (dI fu _) dG z z fun q6 p7=>.frzT 14 0 conv1026_0 z z<|.frzT 14 1 conv1026_1 z z<|fr
  ·refine .skip<|.s<|go ?_
   exact .call0 (C3 fu _ _) BW z z fun q8=>fr
end Go.Proofs.YtganfdhmkdehlaaGreatDoor
