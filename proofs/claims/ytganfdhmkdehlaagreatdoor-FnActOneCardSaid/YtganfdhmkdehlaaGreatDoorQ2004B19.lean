/- Functions of the program: what each answers, and that the machine answers so. -/
import Derived.Test.YtganfdhmkdehlaaGreatDoorQ2004B17
import Derived.KernelRfl
set_option linter.all false
namespace Go.Proofs.YtganfdhmkdehlaaGreatDoor
open Go Go.HL Tryz
attribute [local irreducible] W WO
def eM (a0:List Set)(a1:Set→Option Bool):Nat→Int→Option Int
 | 0,_=>none
 | n2001+1,i1=>cond (decide (i1 < (a0.length:Int))) (cond (decide (0≤i1)&&decide (i1 < (a0.length:Int))) ((a1 (a0.getD i1.toNat default)).bind fun q2=>cond q2 (some i1) ((eM a0 a1 n2001) (IntKind.i64.wrap (i1+1)))) none) (some (-1))
def wX (fu:Nat)(a0:List Set)(a1:Set→Option Bool):Option Int:=eM a0 a1 fu 0
theorem n2195:Nm prog 195:=⟨_,_,func195,by kernel_rfl,z⟩
theorem c2195 (fu : Nat)(a0 : List Set)(a1 : Set → Option Bool)(g1 : Nat)(k1 : List VA)(hn1 : ∃ fn c, prog.funcs[g1]? = some fn ∧ (fn.name == "runtime.NumGoroutine") = false ∧ fn.body = some c)(hc1 : ∀ (x0 : Set), Ctr prog g1 ([tSet.va x0] ++ k1) [] (a1 x0) (fun _ _ => []) (fun q => isB q)) : Ctr prog 195 [(tL tSet).va a0, ca g1 k1] [] (wX fu a0 a1) (fun _ _ => []) (fun q => isI .i64 q) := by
 refine .w func195 ntmps195 fun hf A w=>?_
 unfold wX
 refine .s<|.an z z<|.seq<|.s<|go ?_
 refine .block<|.loop<|.keep [0,1,7,8] [] z<|(show ∀ (n2001:Nat) (i1:Int),W _ _ _ _ _ ⟨[(0,(tL tSet).va a0,none),(1,ca g1 k1,none),(7,isI .i64 (a0.length:Int),none),(8,isI .i64 i1,none)],[]⟩ (eM a0 a1 n2001 i1) from ?_) fu _
 intro n2001
 induction n2001 with
 | zero=>exact fun _=>.stop
 | succ n2001 ih1=>
  intro i1
  refine .inLoop<|.s<|go ?_
  refine .seq<|.cd z ?_ ?_
  ·refine .skip<|.seq<|.block<|.s<|go ?_
   refine .s<|go ?_
   refine .callC z (hc1 _) hn1 z z fun q2=>.nil<|.cd z ?_ ?_
   ·exact fr
   ·exact fj (ih1 _)
  ·exact fr
def wZ (fu:Nat)(a0:List Set)(a1:Set→Option Bool):Option Bool:=(wX fu a0 a1).bind fun q1=>some (decide (0≤q1))
theorem n2162:Nm prog 162:=⟨_,_,func162,by kernel_rfl,z⟩
theorem c2162 (fu : Nat)(a0 : List Set)(a1 : Set → Option Bool)(g1 : Nat)(k1 : List VA)(hn1 : ∃ fn c, prog.funcs[g1]? = some fn ∧ (fn.name == "runtime.NumGoroutine") = false ∧ fn.body = some c)(hc1 : ∀ (x0 : Set), Ctr prog g1 ([tSet.va x0] ++ k1) [] (a1 x0) (fun _ _ => []) (fun q => isB q)) : Ctr prog 162 [(tL tSet).va a0, ca g1 k1] [] (wZ fu a0 a1) (fun _ _ => []) (fun q => isB q) := by
 refine .w func162 ntmps162 fun hf A w=>?_
 unfold wZ
 refine .s<|.an z z<|.s<|go ?_
 exact .call0 (c2195 fu _ a1 g1 k1 hn1 hc1) n2195 z z fun q1=>fr
def jU (i2:Bool):Option Bool:=some i2
def oQ (fu:Nat)(a0:Set):Option Bool:=(lU fu a0.name).bind fun q3=>cond (!q3) (jU true) ((f25 fu a0.val).bind fun q4=>jU (!q4))
theorem n2163:Nm prog 163:=⟨_,_,func163,by kernel_rfl,z⟩
theorem c2163 (fu:Nat)(a0:Set):Ctr prog 163 [tSet.va a0] [] (oQ fu a0) (fun _ _=>[]) (fun q=>isB q):=by
 refine .w func163 ntmps163 fun hf A w=>?_
 unfold oQ
 refine .s<|.box (T:=tSet) z z fun b1=>.an z z<|.seq<|.join1 (fun i2=>⟨[(2,isB i2,none)],[]⟩) (fun i2=>jU i2) (fun i2=>?_) (fun hj1=>?_)
 ·exact fr
 ·refine .g<|go ?_
  refine .call0 (c128 fu _) n128 z z fun q3=>go ?_
  refine .split 7 z (fun _=>?_) (fun _=>?_)
  ·exact fj (hj1 _)
  ·refine go ?_
   exact .call0 (c25 fu _) n25 z z fun q4=>fj (hj1 _)
def jY (i1:Bool):Option Bool:=some i1
def sH (fu:Nat)(a0:List Set):Option Bool:=cond (decide ((a0.length:Int)≤5)) ((wZ fu a0 (fun x0=>oQ fu x0)).bind fun q2=>jY (!q2)) (jY false)
theorem n2100:Nm prog 100:=⟨_,_,func100,by kernel_rfl,z⟩
theorem c2100 (fu:Nat)(a0:List Set):Ctr prog 100 [(tL tSet).va a0] [] (sH fu a0) (fun _ _=>[]) (fun q=>isB q):=by
 refine .w func100 ntmps100 fun hf A w=>?_
 unfold sH
 refine .s<|.an z z<|.seq<|.join1 (fun i1=>⟨[(2,isB i1,none)],[]⟩) (fun i1=>jY i1) (fun i1=>?_) (fun hj1=>?_)
 ·exact fr
 ·refine .g<|go ?_
  refine .split 6 z (fun _=>?_) (fun _=>?_)
  ·refine go ?_
   exact .call0 (c2162 fu _ (fun x0=>oQ fu x0) 163 [] n2163 (fun x0=>c2163 fu x0)) n2162 z z fun q2=>fj (hj1 _)
  ·exact fj (hj1 _)
def jX (i5:Bool):Option Bool:=some i5
def jW (i8:Bool):Option Bool:=some i8
def uJ (fu:Nat)(a0:aa):Option Bool:=(Ap fu a0).bind fun q2=>cond (!q2) (some false) (cond (decide (a0.kind=1)) ((zK fu a0.col).bind fun q3=>some q3) (cond (decide (a0.kind=2)) ((lU fu a0.name).bind fun q4=>some q4) (cond (decide (a0.kind=3)) ((lU fu a0.name).bind fun q6=>cond q6 ((lU fu a0.new).bind fun q7=>jX q7) (jX false)) ((lU fu a0.name).bind fun q9=>cond q9 ((f56 fu a0.col.kind 1 2).bind fun q10=>jW q10) (jW false)))))
theorem n2101:Nm prog 101:=⟨_,_,func101,by kernel_rfl,z⟩
theorem c2101 (fu:Nat)(a0:aa):Ctr prog 101 [tChange.va a0] [] (uJ fu a0) (fun _ _=>[]) (fun q=>isB q):=by
 refine .w func101 ntmps101 fun hf A w=>?_
 unfold uJ
 refine .s<|.box (T:=tChange) z z fun b1=>.an z z<|.seq<|.s<|go ?_
 refine .call0 (c112 fu _) n112 z z fun q2=>.not z z<|.nil<|.cd z ?_ ?_
 ·exact fr
 ·refine .skip<|.seq<|.s<|go ?_
  refine .block<|.s<|go ?_
  refine .cd z ?_ ?_
  ·refine .s<|go ?_
   exact .call0 (c103 fu _) n103 z z fun q3=>fr
  ·refine .s<|go ?_
   refine .cd z ?_ ?_
   ·refine .s<|go ?_
    exact .call0 (c128 fu _) n128 z z fun q4=>fr
   ·refine .s<|go ?_
    refine .cd z ?_ ?_
    ·refine .seq<|.join1 (fun i5=>⟨[(2,isB i5,none)],[]⟩) (fun i5=>jX i5) (fun i5=>?_) (fun hj1=>?_)
     ·exact fr
     ·refine .g<|go ?_
      refine .call0 (c128 fu _) n128 z z fun q6=>.m z z<|.split 23 z (fun _=>?_) (fun _=>?_)
      ·refine go ?_
       exact .call0 (c128 fu _) n128 z z fun q7=>fj (hj1 _)
      ·exact fj (hj1 _)
    ·refine .skip<|.inBlock<|.seq<|.join1 (fun i8=>⟨[(2,isB i8,none)],[]⟩) (fun i8=>jW i8) (fun i8=>?_) (fun hj2=>?_)
     ·exact fr
     ·refine .g<|go ?_
      refine .call0 (c128 fu _) n128 z z fun q9=>.m z z<|.split 31 z (fun _=>?_) (fun _=>?_)
      ·refine go ?_
       exact .call0 (c56 fu _ _ _) n56 z z fun q10=>fj (hj2 _)
      ·exact fj (hj2 _)
def dg (i2:Bool):Option Bool:=some i2
def ck (i7:Bool):Option Bool:=some i7
def dO (i12:Bool):Option Bool:=some i12
def dN (i15:Bool):Option Bool:=some i15
def dM (i19:Bool):Option Bool:=some i19
def dL (i22:Bool):Option Bool:=some i22
def uN (fu:Nat)(a0:bj):Option Bool:=cond (decide (a0.kind=1)) (cond (decide (a0.id=0)) (cond (decide ((a0.sets.length:Int)=0)) (cond (decide (a0.change=(⟨d0_56.kind,d0_56.name,d0_56.new,d0_56.col⟩:aa))) (cond (decide (a0.link=(⟨d0_1044.from_,d0_1044.col,d0_1044.to,d0_1044.how⟩:aj))) ((lU fu a0.name).bind fun q3=>cond q3 ((f56 fu (a0.cols.length:Int) 1 5).bind fun q4=>cond q4 ((uK fu a0.cols (fun x0=>oR fu x0)).bind fun q5=>dg (!q5)) (dg false)) (dg false)) (dg false)) (dg false)) (dg false)) (dg false)) (cond (decide (a0.kind=2)) (cond (decide (a0.id=0)) (cond (decide ((a0.sets.length:Int)=0)) (cond (decide ((a0.cols.length:Int)=0)) (cond (decide (a0.change=(⟨d0_56.kind,d0_56.name,d0_56.new,d0_56.col⟩:aa))) (cond (decide (a0.name=([]:List UInt8))) ((lU fu a0.link.from_).bind fun q8=>cond q8 ((lU fu a0.link.col).bind fun q9=>cond q9 ((lU fu a0.link.to).bind fun q10=>cond q10 ((f56 fu a0.link.how 1 3).bind fun q11=>ck q11) (ck false)) (ck false)) (ck false)) (ck false)) (ck false)) (ck false)) (ck false)) (ck false)) (cond (decide (a0.kind=3)) (cond (decide (a0.id=0)) (cond (decide ((a0.cols.length:Int)=0)) (cond (decide (a0.change=(⟨d0_56.kind,d0_56.name,d0_56.new,d0_56.col⟩:aa))) (cond (decide (a0.link=(⟨d0_1044.from_,d0_1044.col,d0_1044.to,d0_1044.how⟩:aj))) ((lU fu a0.name).bind fun q13=>cond q13 ((sH fu a0.sets).bind fun q14=>dO q14) (dO false)) (dO false)) (dO false)) (dO false)) (dO false)) (cond (decide (a0.kind=4)) (cond (decide ((a0.cols.length:Int)=0)) (cond (decide (a0.change=(⟨d0_56.kind,d0_56.name,d0_56.new,d0_56.col⟩:aa))) (cond (decide (a0.link=(⟨d0_1044.from_,d0_1044.col,d0_1044.to,d0_1044.how⟩:aj))) ((lU fu a0.name).bind fun q16=>cond q16 ((sH fu a0.sets).bind fun q17=>cond q17 ((f56 fu a0.id 0 60).bind fun q18=>dN q18) (dN false)) (dN false)) (dN false)) (dN false)) (dN false)) (cond (decide (a0.kind=5)) (cond (decide ((a0.sets.length:Int)=0)) (cond (decide ((a0.cols.length:Int)=0)) (cond (decide (a0.change=(⟨d0_56.kind,d0_56.name,d0_56.new,d0_56.col⟩:aa))) (cond (decide (a0.link=(⟨d0_1044.from_,d0_1044.col,d0_1044.to,d0_1044.how⟩:aj))) ((lU fu a0.name).bind fun q20=>cond q20 ((f56 fu a0.id 0 60).bind fun q21=>dM q21) (dM false)) (dM false)) (dM false)) (dM false)) (dM false)) (cond (decide (a0.kind=6)) (cond (decide (a0.id=0)) (cond (decide ((a0.sets.length:Int)=0)) (cond (decide ((a0.cols.length:Int)=0)) (cond (decide (a0.link=(⟨d0_1044.from_,d0_1044.col,d0_1044.to,d0_1044.how⟩:aj))) ((lU fu a0.name).bind fun q23=>cond q23 ((uJ fu a0.change).bind fun q24=>dL q24) (dL false)) (dL false)) (dL false)) (dL false)) (dL false)) (some false))))))
theorem n2041:Nm prog 41:=⟨_,_,func41,by kernel_rfl,z⟩
theorem c2041 (fu:Nat)(a0:bj):Ctr prog 41 [tDeed.va a0] [] (uN fu a0) (fun _ _=>[]) (fun q=>isB q):=by
 refine .w func41 ntmps41 fun hf A w=>?_
 unfold uN
 refine .s<|.box (T:=tDeed) z z fun b1=>.an z z<|.seq<|.draw 13 [] mix (by kernel_rfl) sts z<|.an z z<|.seq<|.draw 9 [] mix (by kernel_rfl) (.j (fun o=>.fp (o z) nc z)<|.k (fun p e=>.lp 0 fDeed_5 (e.op z) (p.get z z) yp z)<|.j (fun o=>.build z CK z56 (.nil) z)<|.j (fun o=>.eqT Cf (o z) (o z) z)<|.j (fun o=>.fp (o z) nb z)<|.k (fun p e=>.lp 0 pO (e.op z) (p.get z z) l7 z)<|.j (fun o=>.build z qD z1044 (.nil) z)<|.j (fun o=>.eqT vC (o z) (o z) z)<|.j (fun o=>.a (o z) z)<|.nil) z<|.an z z<|.seq<|.s<|go ?_
 refine .block<|.s<|go ?_
 refine .cd z ?_ ?_
 ·refine .seq<|.join1 (fun i2=>⟨[(2,isB i2,none)],[]⟩) (fun i2=>dg i2) (fun i2=>?_) (fun hj1=>?_)
  ·exact fr
  ·refine .g<|go ?_
   refine .split 33 z (fun _=>?_) (fun _=>?_)
   ·refine go ?_
    refine .split 36 z (fun _=>?_) (fun _=>?_)
    ·refine go ?_
     refine .split 39 z (fun _=>?_) (fun _=>?_)
     ·refine go ?_
      refine .split 42 z (fun _=>?_) (fun _=>?_)
      ·refine go ?_
       refine .call0 (c128 fu _) n128 z z fun q3=>go ?_
       refine .split 47 z (fun _=>?_) (fun _=>?_)
       ·refine go ?_
        refine .call0 (c56 fu _ _ _) n56 z z fun q4=>go ?_
        refine .split 53 z (fun _=>?_) (fun _=>?_)
        ·refine go ?_
         exact .call0 (c2097 fu _ (fun x0=>oR fu x0) 98 [] n2098 (fun x0=>c2098 fu x0)) n2097 z z fun q5=>fj (hj1 _)
        ·exact fj (hj1 _)
       ·exact fj (hj1 _)
      ·exact fj (hj1 _)
     ·exact fj (hj1 _)
    ·exact fj (hj1 _)
   ·exact fj (hj1 _)
 ·refine .s<|go ?_
  refine .cd z ?_ ?_
  ·refine .s<|go ?_
   refine .alloc tLink d0_1044 [] z1044 z fun b6=>go ?_
   refine .seq<|.join1 (fun i7=>⟨[(2,isB i7,none)],[]⟩) (fun i7=>ck i7) (fun i7=>?_) (fun hj2=>?_)
   ·exact fr
   ·refine .g<|go ?_
    refine .split 64 z (fun _=>?_) (fun _=>?_)
    ·refine go ?_
     refine .split 67 z (fun _=>?_) (fun _=>?_)
     ·refine go ?_
      refine .split 70 z (fun _=>?_) (fun _=>?_)
      ·refine go ?_
       refine .split 73 z (fun _=>?_) (fun _=>?_)
       ·refine go ?_
        refine .split 78 z (fun _=>?_) (fun _=>?_)
        ·refine go ?_
         refine .call0 (c128 fu _) n128 z z fun q8=>go ?_
         refine .split 83 z (fun _=>?_) (fun _=>?_)
         ·refine go ?_
          refine .call0 (c128 fu _) n128 z z fun q9=>go ?_
          refine .split 88 z (fun _=>?_) (fun _=>?_)
          ·refine go ?_
           refine .call0 (c128 fu _) n128 z z fun q10=>go ?_
           refine .split 93 z (fun _=>?_) (fun _=>?_)
           ·refine go ?_
            exact .call0 (c56 fu _ _ _) n56 z z fun q11=>fj (hj2 _)
           ·exact fj (hj2 _)
          ·exact fj (hj2 _)
         ·exact fj (hj2 _)
        ·exact fj (hj2 _)
       ·exact fj (hj2 _)
      ·exact fj (hj2 _)
     ·exact fj (hj2 _)
    ·exact fj (hj2 _)
  ·refine .s<|go ?_
   refine .cd z ?_ ?_
   ·refine .seq<|.join1 (fun i12=>⟨[(2,isB i12,none)],[]⟩) (fun i12=>dO i12) (fun i12=>?_) (fun hj3=>?_)
    ·exact fr
    ·refine .g<|go ?_
     refine .split 101 z (fun _=>?_) (fun _=>?_)
     ·refine go ?_
      refine .split 104 z (fun _=>?_) (fun _=>?_)
      ·refine go ?_
       refine .split 107 z (fun _=>?_) (fun _=>?_)
       ·refine go ?_
        refine .split 110 z (fun _=>?_) (fun _=>?_)
        ·refine go ?_
         refine .call0 (c128 fu _) n128 z z fun q13=>go ?_
         refine .split 115 z (fun _=>?_) (fun _=>?_)
         ·refine go ?_
          exact .call0 (c2100 fu _) n2100 z z fun q14=>fj (hj3 _)
         ·exact fj (hj3 _)
        ·exact fj (hj3 _)
       ·exact fj (hj3 _)
      ·exact fj (hj3 _)
     ·exact fj (hj3 _)
   ·refine .s<|go ?_
    refine .cd z ?_ ?_
    ·refine .seq<|.join1 (fun i15=>⟨[(2,isB i15,none)],[]⟩) (fun i15=>dN i15) (fun i15=>?_) (fun hj4=>?_)
     ·exact fr
     ·refine .g<|go ?_
      refine .split 123 z (fun _=>?_) (fun _=>?_)
      ·refine go ?_
       refine .split 126 z (fun _=>?_) (fun _=>?_)
       ·refine go ?_
        refine .split 129 z (fun _=>?_) (fun _=>?_)
        ·refine go ?_
         refine .call0 (c128 fu _) n128 z z fun q16=>go ?_
         refine .split 134 z (fun _=>?_) (fun _=>?_)
         ·refine go ?_
          refine .call0 (c2100 fu _) n2100 z z fun q17=>go ?_
          refine .split 139 z (fun _=>?_) (fun _=>?_)
          ·refine go ?_
           exact .call0 (c56 fu _ _ _) n56 z z fun q18=>fj (hj4 _)
          ·exact fj (hj4 _)
         ·exact fj (hj4 _)
        ·exact fj (hj4 _)
       ·exact fj (hj4 _)
      ·exact fj (hj4 _)
    ·refine .s<|go ?_
     refine .cd z ?_ ?_
     ·refine .seq<|.join1 (fun i19=>⟨[(2,isB i19,none)],[]⟩) (fun i19=>dM i19) (fun i19=>?_) (fun hj5=>?_)
      ·exact fr
      ·refine .g<|go ?_
       refine .split 147 z (fun _=>?_) (fun _=>?_)
       ·refine go ?_
        refine .split 150 z (fun _=>?_) (fun _=>?_)
        ·refine go ?_
         refine .split 153 z (fun _=>?_) (fun _=>?_)
         ·refine go ?_
          refine .split 156 z (fun _=>?_) (fun _=>?_)
          ·refine go ?_
           refine .call0 (c128 fu _) n128 z z fun q20=>go ?_
           refine .split 161 z (fun _=>?_) (fun _=>?_)
           ·refine go ?_
            exact .call0 (c56 fu _ _ _) n56 z z fun q21=>fj (hj5 _)
           ·exact fj (hj5 _)
          ·exact fj (hj5 _)
         ·exact fj (hj5 _)
        ·exact fj (hj5 _)
       ·exact fj (hj5 _)
     ·refine .s<|go ?_
      refine .cd z ?_ ?_
      ·refine .seq<|.join1 (fun i22=>⟨[(2,isB i22,none)],[]⟩) (fun i22=>dL i22) (fun i22=>?_) (fun hj6=>?_)
       ·exact fr
       ·refine .g<|go ?_
        refine .split 169 z (fun _=>?_) (fun _=>?_)
        ·refine go ?_
         refine .split 172 z (fun _=>?_) (fun _=>?_)
         ·refine go ?_
          refine .split 175 z (fun _=>?_) (fun _=>?_)
          ·refine go ?_
           refine .split 178 z (fun _=>?_) (fun _=>?_)
           ·refine go ?_
            refine .call0 (c128 fu _) n128 z z fun q23=>go ?_
            refine .split 183 z (fun _=>?_) (fun _=>?_)
            ·refine go ?_
             exact .call0 (c2101 fu _) n2101 z z fun q24=>fj (hj6 _)
            ·exact fj (hj6 _)
           ·exact fj (hj6 _)
          ·exact fj (hj6 _)
         ·exact fj (hj6 _)
        ·exact fj (hj6 _)
      ·exact fr
end Go.Proofs.YtganfdhmkdehlaaGreatDoor
/- Functions of the program: what each answers, and that the machine answers so. -/
namespace Go.Proofs.YtganfdhmkdehlaaGreatDoor
open Go Go.HL Tryz
attribute [local irreducible] W WO
noncomputable def sI (fu:Nat) (a0:ac) (a1:bj):Option (ac×Int):=(lE fu a0).bind fun q4=>cond (!q4) (some ((⟨d0_1026.tabs,d0_1026.links⟩:ac),1)) ((uN fu a1).bind fun q5=>cond (!q5) ((ez fu a0).bind fun q6=>some (q6,1)) (cond (decide (a1.kind=1)) ((vA fu a0 a1.name a1.cols).bind fun q8=>some (q8.1,q8.2)) (cond (decide (a1.kind=2)) ((vx fu a0 a1.link).bind fun q9=>some (q9.1,q9.2)) (cond (decide (a1.kind=3)) ((vn fu a0 a1.name a1.sets).bind fun q10=>some (q10.1,q10.2)) (cond (decide (a1.kind=4)) ((vp fu a0 a1.name a1.id a1.sets).bind fun q11=>some (q11.1,q11.2)) (cond (decide (a1.kind=5)) ((vw fu a0 a1.name a1.id).bind fun q12=>some (q12.1,q12.2)) ((vt fu a0 a1.name a1.change).bind fun q13=>some (q13.1,q13.2))))))))
theorem n2015:Nm prog 15:=⟨_,_,func15,by kernel_rfl,z⟩
theorem c2015 (fu:Nat)(a0:ac)(a1:bj):Ctr prog 15 [tBase.va a0,tDeed.va a1] [] (sI fu a0 a1) (fun _ _=>[]) (fun q=>tup [tBase.va q.1,isI .i64 q.2]):=by
 refine .w func15 ntmps15 fun hf A w=>?_
 unfold sI
 refine .s<|.box (T:=tBase) z z fun b1=>.box (T:=tDeed) z z fun b2=>.alloc tBase d0_1026 [] dn z fun b3=>.an z z<|.seq<|.block<|.s<|go ?_
 refine .call0 (c1020 fu _) n1020 z z fun q4=>go ?_
 refine .cd z ?_ ?_
 ·exact fr
 ·refine .s<|go ?_
  refine .call0 (c2041 fu _) n2041 z z fun q5=>go ?_
  refine .cd z ?_ ?_
  ·refine .s<|go ?_
   exact .callL0 (c1054 fu _) n1054 z z fun q6 p7=>.frzT 16 0 conv1026_0 z z<|.frzT 16 1 conv1026_1 z z<|fr
  ·refine .skip<|.inBlock<|.seq<|.s<|go ?_
   refine .block<|.s<|go ?_
   refine .cd z ?_ ?_
   ·refine .s<|go ?_
    exact .call0 (c1016 fu _ _ _) n1016 z z fun q8=>fr
   ·refine .s<|go ?_
    refine .cd z ?_ ?_
    ·refine .s<|go ?_
     exact .call0 (c1024 fu _ _) n1024 z z fun q9=>fr
    ·refine .s<|go ?_
     refine .cd z ?_ ?_
     ·refine .s<|go ?_
      exact .call0 (c1041 fu _ _ _) n1041 z z fun q10=>fr
     ·refine .s<|go ?_
      refine .cd z ?_ ?_
      ·refine .s<|go ?_
       exact .call0 (c1038 fu _ _ _ _) n1038 z z fun q11=>fr
      ·refine .s<|go ?_
       refine .cd z ?_ ?_
       ·refine .s<|go ?_
        exact .call0 (c1028 fu _ _ _) n1028 z z fun q12=>fr
       ·refine .skip<|.inBlock<|.s<|go ?_
        exact .call0 (c1033 fu _ _ _) n1033 z z fun q13=>fr
noncomputable def fY (fu:Nat) (a0:ac) (a1:List bj):Nat→Int→ac→Option (ac×Int×Int)
 | 0,_,_=>none
 | n2001+1,i9,i10=>cond (decide (i9 < (a1.length:Int))) (cond (decide (0≤i9)&&decide (i9 < (a1.length:Int))) ((sI fu i10 (a1.getD i9.toNat default)).bind fun q12=>cond (!decide (q12.2=0)) ((ez fu a0).bind fun q14=>some (q14,q12.2,i9)) ((fY fu a0 a1 n2001) (IntKind.i64.wrap (i9+1)) q12.1)) none) (some (i10,0,(a1.length:Int)))
noncomputable def sJ (fu:Nat) (a0:ac) (a1:List bj):Option (ac×Int×Int):=(lE fu a0).bind fun q3=>cond (!q3) (some ((⟨d0_1026.tabs,d0_1026.links⟩:ac),1,0)) (cond (decide (6 < (a1.length:Int))) ((ez fu a0).bind fun q4=>some (q4,4,0)) ((ez fu a0).bind fun q6=>fY fu a0 a1 fu 0 q6))
theorem n2012:Nm prog 12:=⟨_,_,func12,by kernel_rfl,z⟩
theorem c2012 (fu:Nat)(a0:ac)(a1:List bj):Ctr prog 12 [tBase.va a0,(tL tDeed).va a1] [] (sJ fu a0 a1) (fun _ _=>[]) (fun q=>tup [tBase.va q.1,isI .i64 q.2.1,isI .i64 q.2.2]):=by
 refine .w func12 ntmps12 fun hf A w=>?_
 unfold sJ
 refine .s<|.box (T:=tBase) z z fun b1=>.alloc tBase d0_1026 [] dn z fun b2=>go ?_
 refine .seq<|.block<|.s<|go ?_
 refine .call0 (c1020 fu _) n1020 z z fun q3=>go ?_
 refine .cd z ?_ ?_
 ·exact fr
 ·refine .s<|go ?_
  refine .cd z ?_ ?_
  ·refine .s<|go ?_
   exact .callL0 (c1054 fu _) n1054 z z fun q4 p5=>.frzT 22 0 conv1026_0 z z<|.frzT 22 1 conv1026_1 z z<|fr
  ·refine .skip<|.inBlock<|.s<|go ?_
   refine .callL0 (c1054 fu _) n1054 z z fun q6 p7=>.alloc tBase d0_1026 [] dn z fun b8=>.frzT 24 1 conv1026_0 z z<|.frzT 24 2 conv1026_1 z z<|go ?_
   refine .seq<|.s<|go ?_
   refine .block<|.loop<|.drop (.d<|.c<|.c<|.d<|.d<|.e)<|.keep [1,2,4,7,25,26,27] [] z<|(show ∀ (n2001:Nat) (i9:Int) (i10:ac),W _ _ _ _ _ ⟨[(1,(tL tDeed).va a1,none),(2,isP b1 0,none),(4,isP b2 0,none),(7,isP b8 0,none),(25,(tL tDeed).va a1,none),(26,isI .i64 (a1.length:Int),none),(27,isI .i64 i9,none)],[boxO b8 tBase i10 [],boxO b2 tBase d0_1026 [],boxO b1 tBase a0 []]⟩ (fY fu a0 a1 n2001 i9 i10) from ?_) fu _ _
   intro n2001
   induction n2001 with
   | zero=>exact fun _ _=>.stop
   | succ n2001 ih1=>
    intro i9 i10
    refine .inLoop<|.s<|go ?_
    refine .seq<|.cd z ?_ ?_
    ·refine .skip<|.seq<|.block<|.s<|go ?_
     refine .alloc tDeed d0_2046 [] z2046 z fun b11=>go ?_
     refine .s<|go ?_
     refine .call0 (c2015 fu _ _) n2015 z z fun q12=>go ?_
     refine .alloc tBase d0_1026 [] dn z fun b13=>go ?_
     refine .seq<|.s<|go ?_
     refine .cd z ?_ ?_
     ·refine .s<|go ?_
      exact .callL0 (c1054 fu _) n1054 z z fun q14 p15=>.m z z<|.m z z<|.frzT 41 0 conv1026_0 z z<|.frzT 41 1 conv1026_1 z z<|fr
     ·exact fj (ih1 _ _)
    ·exact fr
def uO (fu:Nat)(a0:ac):Option ac:=(jm fu a0).bind fun q3=>cond (!q3) (some (⟨d0_1026.tabs,d0_1026.links⟩:ac)) (some a0)
theorem n2040:Nm prog 40:=⟨_,_,func40,by kernel_rfl,z⟩
theorem c2040 (fu:Nat)(a0:ac):Ctr prog 40 [tBase.va a0] [] (uO fu a0) (fun _ _=>[]) (fun q=>tBase.va q):=by
 refine .w func40 ntmps40 fun hf A w=>?_
 unfold uO
 refine .s<|.box (T:=tBase) z z fun b1=>.alloc tBase d0_1026 [] dn z fun b2=>.nil<|.seq<|.s<|go ?_
 refine .call0 (c1019 fu _) n1019 z z fun q3=>.not z z<|.nil<|.cd z ?_ ?_
 ·exact fr
 ·exact fr
def uS (fu:Nat)(a0:List Int):Option (ac×bj):=(f60 fu a0).bind fun q3=>(vk fu q3).bind fun q5=>(uO fu q5.1).bind fun q7=>(uP fu q5.2 q7).bind fun q8=>(uQ fu q8.2 q8.1).bind fun q9=>some (q5.1,q9.1)
theorem n2014:Nm prog 14:=⟨_,_,func14,by kernel_rfl,z⟩
theorem c2014 (fu:Nat)(a0:List Int):Ctr prog 14 [(tL (tI .u8)).va a0] [] (uS fu a0) (fun _ _=>[]) (fun q=>tup [tBase.va q.1,tDeed.va q.2]):=by
 refine .w func14 ntmps14 fun hf A w=>?_
 unfold uS
 refine .s<|.alloc tBase d0_1026 [] dn z fun b1=>.alloc tDeed d0_2046 [] z2046 z fun b2=>.nil<|.s<|.m z z<|.callP (c60 fu _) n60 z z fun q3 b4=>.an z z<|.s<|.m z z<|.call1 0 (c1050 fu _ _) z n1050 z z fun q5=>.alloc tBase d0_1026 [] dn z fun b6=>go ?_
 exact .seq<|.pb (c2040 fu _) n2040 fun q7 h1 k=>.pbind fun q8 h2=>.pbind fun q9 h3=>.drawS 7 [] [5,6] [1] mix (by kernel_rfl) sts z<|.cons (d:=15) z z fun _ _ hE h=>.bindE h2 (fun r h=>.call1 1 (c2039 fu _ _ _) z n2039 (hE.ops z) z h)<|h _ _ (.same<|.hole z<|.same<|.same<|.nil)<|.cons (d:=16) z z fun _ _ hE h=>.bindE h3 (fun r h=>.call1 1 (c2038 fu _ _ _) z n2038 (hE.ops z) z h)<|h _ _ (.same<|.hole z<|.same<|.same<|.nil)<|fr
def uR (fu:Nat)(a0:ac)(a1:bj):Option (ac×Int):=(jm fu a0).bind fun q4=>cond (!q4) (some ((⟨d0_1026.tabs,d0_1026.links⟩:ac),1)) ((uM fu a1).bind fun q5=>cond (!q5) ((d7 fu a0).bind fun q6=>some (q6,1)) ((uL fu a0 a1).bind fun q8=>some (q8.1,q8.2)))
theorem n2016:Nm prog 16:=⟨_,_,func16,by kernel_rfl,z⟩
theorem c2016 (fu:Nat)(a0:ac)(a1:bj):Ctr prog 16 [tBase.va a0,tDeed.va a1] [] (uR fu a0 a1) (fun _ _=>[]) (fun q=>tup [tBase.va q.1,isI .i64 q.2]):=by
 refine .w func16 ntmps16 fun hf A w=>?_
 unfold uR
 refine .s<|.box (T:=tBase) z z fun b1=>.box (T:=tDeed) z z fun b2=>.alloc tBase d0_1026 [] dn z fun b3=>.an z z<|.seq<|.s<|go ?_
 refine .call0 (c1019 fu _) n1019 z z fun q4=>.not z z<|.nil<|.cd z ?_ ?_
 ·exact fr
 ·refine .skip<|.seq<|.s<|go ?_
  refine .call0 (c2048 fu _) n2048 z z fun q5=>.not z z<|.nil<|.cd z ?_ ?_
  ·refine .s<|go ?_
   exact .callL0 (c1059 fu _) n1059 z z fun q6 p7=>.frzT 14 0 conv1026_0 z z<|.frzT 14 1 conv1026_1 z z<|fr
  ·refine .skip<|.s<|go ?_
   exact .call0 (c2050 fu _ _) n2050 z z fun q8=>fr
end Go.Proofs.YtganfdhmkdehlaaGreatDoor
