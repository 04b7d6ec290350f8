/- Functions of the program: what each answers, and that the machine answers so. -/
import Derived.Test.YtganfdhmkdehlaaGreatDoorQ2003B17
import Derived.KernelRfl
set_option linter.all false
namespace Go.Proofs.YtganfdhmkdehlaaGreatDoor
open Go Go.HL Tryz
attribute [local irreducible] W WO
def eB (a0:List Set)(a1:Set→Option Bool):Nat→Int→Option Int
 | 0,_=>none
 | n2001+1,i1=>cond (decide (i1 < (a0.length:Int))) (cond (decide (0≤i1)&&decide (i1 < (a0.length:Int))) ((a1 (a0.getD i1.toNat default)).bind fun q2=>cond q2 (some i1) ((eB a0 a1 n2001) (IntKind.i64.wrap (i1+1)))) none) (some (-1))
def wk (fu:Nat)(a0:List Set)(a1:Set→Option Bool):Option Int:=eB a0 a1 fu 0
theorem n2195:Nm prog 195:=⟨_,_,func195,by kernel_rfl,z⟩
theorem c2195 (fu : Nat)(a0 : List Set)(a1 : Set → Option Bool)(g1 : Nat)(k1 : List VA)(hn1 : ∃ fn c, prog.funcs[g1]? = some fn ∧ (fn.name == "runtime.NumGoroutine") = false ∧ fn.body = some c)(hc1 : ∀ (x0 : Set), Ctr prog g1 ([tSet.va x0] ++ k1) [] (a1 x0) (fun _ _ => []) (fun q => isB q)) : Ctr prog 195 [(tL tSet).va a0, cN g1 k1] [] (wk fu a0 a1) (fun _ _ => []) (fun q => isI .i64 q) := by
 refine .w func195 ntmps195 fun hf A w=>?_
 unfold wk
 refine .s<|.an z z<|.seq<|.s<|go ?_
 refine .block<|.loop<|.keep [0,1,7,8] [] z<|(show ∀ (n2001:Nat) (i1:Int),W _ _ _ _ _ ⟨[(0,(tL tSet).va a0,none),(1,cN g1 k1,none),(7,isI .i64 (a0.length:Int),none),(8,isI .i64 i1,none)],[]⟩ (eB a0 a1 n2001 i1) from ?_) fu _
 intro n2001
 induction n2001 with
 | zero=>exact fun _=>.stop
 | succ n2001 ih1=>
  intro i1
  refine .inLoop<|.s<|go ?_
  refine .seq<|.cd z ?_ ?_
  ·refine .skip<|.seq<|.block<|.s<|go ?_
   refine .s<|go ?_
   refine .callC z (hc1 _) hn1 z z fun q2=>.nil<|.cd z ?_ ?_
   ·exact fr
   ·exact fj (ih1 _)
  ·exact fr
def wm (fu:Nat)(a0:List Set)(a1:Set→Option Bool):Option Bool:=(wk fu a0 a1).bind fun q1=>some (decide (0≤q1))
theorem n2162:Nm prog 162:=⟨_,_,func162,by kernel_rfl,z⟩
theorem c2162 (fu : Nat)(a0 : List Set)(a1 : Set → Option Bool)(g1 : Nat)(k1 : List VA)(hn1 : ∃ fn c, prog.funcs[g1]? = some fn ∧ (fn.name == "runtime.NumGoroutine") = false ∧ fn.body = some c)(hc1 : ∀ (x0 : Set), Ctr prog g1 ([tSet.va x0] ++ k1) [] (a1 x0) (fun _ _ => []) (fun q => isB q)) : Ctr prog 162 [(tL tSet).va a0, cN g1 k1] [] (wm fu a0 a1) (fun _ _ => []) (fun q => isB q) := by
 refine .w func162 ntmps162 fun hf A w=>?_
 unfold wm
 refine .s<|.an z z<|.s<|go ?_
 exact .call0 (c2195 fu _ a1 g1 k1 hn1 hc1) n2195 z z fun q1=>fr
def jL (i2:Bool):Option Bool:=some i2
def oq (fu:Nat)(a0:Set):Option Bool:=(lC fu a0.name).bind fun q3=>cond (!q3) (jL true) ((f25 fu a0.val).bind fun q4=>jL (!q4))
theorem n2163:Nm prog 163:=⟨_,_,func163,by kernel_rfl,z⟩
theorem c2163 (fu:Nat)(a0:Set):Ctr prog 163 [tSet.va a0] [] (oq fu a0) (fun _ _=>[]) (fun q=>isB q):=by
 refine .w func163 ntmps163 fun hf A w=>?_
 unfold oq
 refine .s<|.box (T:=tSet) z z fun b1=>.an z z<|.seq<|.join1 (fun i2=>⟨[(2,isB i2,none)],[]⟩) (fun i2=>jL i2) (fun i2=>?_) (fun hj1=>?_)
 ·exact fr
 ·refine .g<|go ?_
  refine .call0 (c128 fu _) n128 z z fun q3=>go ?_
  refine .split 7 z (fun _=>?_) (fun _=>?_)
  ·exact fj (hj1 _)
  ·refine go ?_
   exact .call0 (c25 fu _) n25 z z fun q4=>fj (hj1 _)
def jP (i1:Bool):Option Bool:=some i1
def rW (fu:Nat)(a0:List Set):Option Bool:=cond (decide ((a0.length:Int)≤5)) ((wm fu a0 (fun x0=>oq fu x0)).bind fun q2=>jP (!q2)) (jP false)
theorem n2100:Nm prog 100:=⟨_,_,func100,by kernel_rfl,z⟩
theorem c2100 (fu:Nat)(a0:List Set):Ctr prog 100 [(tL tSet).va a0] [] (rW fu a0) (fun _ _=>[]) (fun q=>isB q):=by
 refine .w func100 ntmps100 fun hf A w=>?_
 unfold rW
 refine .s<|.an z z<|.seq<|.join1 (fun i1=>⟨[(2,isB i1,none)],[]⟩) (fun i1=>jP i1) (fun i1=>?_) (fun hj1=>?_)
 ·exact fr
 ·refine .g<|go ?_
  refine .split 6 z (fun _=>?_) (fun _=>?_)
  ·refine go ?_
   exact .call0 (c2162 fu _ (fun x0=>oq fu x0) 163 [] n2163 (fun x0=>c2163 fu x0)) n2162 z z fun q2=>fj (hj1 _)
  ·exact fj (hj1 _)
def jO (i5:Bool):Option Bool:=some i5
def jN (i8:Bool):Option Bool:=some i8
def ug (fu:Nat)(a0:aa):Option Bool:=(zM fu a0).bind fun q2=>cond (!q2) (some false) (cond (decide (a0.kind=1)) ((za fu a0.col).bind fun q3=>some q3) (cond (decide (a0.kind=2)) ((lC fu a0.name).bind fun q4=>some q4) (cond (decide (a0.kind=3)) ((lC fu a0.name).bind fun q6=>cond q6 ((lC fu a0.new).bind fun q7=>jO q7) (jO false)) ((lC fu a0.name).bind fun q9=>cond q9 ((f56 fu a0.col.kind 1 2).bind fun q10=>jN q10) (jN false)))))
theorem n2101:Nm prog 101:=⟨_,_,func101,by kernel_rfl,z⟩
theorem c2101 (fu:Nat)(a0:aa):Ctr prog 101 [tChange.va a0] [] (ug fu a0) (fun _ _=>[]) (fun q=>isB q):=by
 refine .w func101 ntmps101 fun hf A w=>?_
 unfold ug
 refine .s<|.box (T:=tChange) z z fun b1=>.an z z<|.seq<|.s<|go ?_
 refine .call0 (c112 fu _) n112 z z fun q2=>.not z z<|.nil<|.cd z ?_ ?_
 ·exact fr
 ·refine .skip<|.seq<|.s<|go ?_
  refine .block<|.s<|go ?_
  refine .cd z ?_ ?_
  ·refine .s<|go ?_
   exact .call0 (c103 fu _) n103 z z fun q3=>fr
  ·refine .s<|go ?_
   refine .cd z ?_ ?_
   ·refine .s<|go ?_
    exact .call0 (c128 fu _) n128 z z fun q4=>fr
   ·refine .s<|go ?_
    refine .cd z ?_ ?_
    ·refine .seq<|.join1 (fun i5=>⟨[(2,isB i5,none)],[]⟩) (fun i5=>jO i5) (fun i5=>?_) (fun hj1=>?_)
     ·exact fr
     ·refine .g<|go ?_
      refine .call0 (c128 fu _) n128 z z fun q6=>.m z z<|.split 23 z (fun _=>?_) (fun _=>?_)
      ·refine go ?_
       exact .call0 (c128 fu _) n128 z z fun q7=>fj (hj1 _)
      ·exact fj (hj1 _)
    ·refine .skip<|.inBlock<|.seq<|.join1 (fun i8=>⟨[(2,isB i8,none)],[]⟩) (fun i8=>jN i8) (fun i8=>?_) (fun hj2=>?_)
     ·exact fr
     ·refine .g<|go ?_
      refine .call0 (c128 fu _) n128 z z fun q9=>.m z z<|.split 31 z (fun _=>?_) (fun _=>?_)
      ·refine go ?_
       exact .call0 (c56 fu _ _ _) n56 z z fun q10=>fj (hj2 _)
      ·exact fj (hj2 _)
def db (i2:Bool):Option Bool:=some i2
def bZ (i7:Bool):Option Bool:=some i7
def dD (i12:Bool):Option Bool:=some i12
def dC (i15:Bool):Option Bool:=some i15
def dB (i19:Bool):Option Bool:=some i19
def dz (i22:Bool):Option Bool:=some i22
def uj (fu:Nat)(a0:al):Option Bool:=cond (decide (a0.kind=1)) (cond (decide (a0.id=0)) (cond (decide ((a0.sets.length:Int)=0)) (cond (decide (a0.change=(⟨d0_56.kind,d0_56.name,d0_56.new,d0_56.col⟩:aa))) (cond (decide (a0.link=(⟨d0_1044.from_,d0_1044.col,d0_1044.to,d0_1044.how⟩:aj))) ((lC fu a0.name).bind fun q3=>cond q3 ((f56 fu (a0.cols.length:Int) 1 5).bind fun q4=>cond q4 ((uh fu a0.cols (fun x0=>ot fu x0)).bind fun q5=>db (!q5)) (db false)) (db false)) (db false)) (db false)) (db false)) (db false)) (cond (decide (a0.kind=2)) (cond (decide (a0.id=0)) (cond (decide ((a0.sets.length:Int)=0)) (cond (decide ((a0.cols.length:Int)=0)) (cond (decide (a0.change=(⟨d0_56.kind,d0_56.name,d0_56.new,d0_56.col⟩:aa))) (cond (decide (a0.name=([]:List UInt8))) ((lC fu a0.link.from_).bind fun q8=>cond q8 ((lC fu a0.link.col).bind fun q9=>cond q9 ((lC fu a0.link.to).bind fun q10=>cond q10 ((f56 fu a0.link.how 1 3).bind fun q11=>bZ q11) (bZ false)) (bZ false)) (bZ false)) (bZ false)) (bZ false)) (bZ false)) (bZ false)) (bZ false)) (cond (decide (a0.kind=3)) (cond (decide (a0.id=0)) (cond (decide ((a0.cols.length:Int)=0)) (cond (decide (a0.change=(⟨d0_56.kind,d0_56.name,d0_56.new,d0_56.col⟩:aa))) (cond (decide (a0.link=(⟨d0_1044.from_,d0_1044.col,d0_1044.to,d0_1044.how⟩:aj))) ((lC fu a0.name).bind fun q13=>cond q13 ((rW fu a0.sets).bind fun q14=>dD q14) (dD false)) (dD false)) (dD false)) (dD false)) (dD false)) (cond (decide (a0.kind=4)) (cond (decide ((a0.cols.length:Int)=0)) (cond (decide (a0.change=(⟨d0_56.kind,d0_56.name,d0_56.new,d0_56.col⟩:aa))) (cond (decide (a0.link=(⟨d0_1044.from_,d0_1044.col,d0_1044.to,d0_1044.how⟩:aj))) ((lC fu a0.name).bind fun q16=>cond q16 ((rW fu a0.sets).bind fun q17=>cond q17 ((f56 fu a0.id 0 60).bind fun q18=>dC q18) (dC false)) (dC false)) (dC false)) (dC false)) (dC false)) (cond (decide (a0.kind=5)) (cond (decide ((a0.sets.length:Int)=0)) (cond (decide ((a0.cols.length:Int)=0)) (cond (decide (a0.change=(⟨d0_56.kind,d0_56.name,d0_56.new,d0_56.col⟩:aa))) (cond (decide (a0.link=(⟨d0_1044.from_,d0_1044.col,d0_1044.to,d0_1044.how⟩:aj))) ((lC fu a0.name).bind fun q20=>cond q20 ((f56 fu a0.id 0 60).bind fun q21=>dB q21) (dB false)) (dB false)) (dB false)) (dB false)) (dB false)) (cond (decide (a0.kind=6)) (cond (decide (a0.id=0)) (cond (decide ((a0.sets.length:Int)=0)) (cond (decide ((a0.cols.length:Int)=0)) (cond (decide (a0.link=(⟨d0_1044.from_,d0_1044.col,d0_1044.to,d0_1044.how⟩:aj))) ((lC fu a0.name).bind fun q23=>cond q23 ((ug fu a0.change).bind fun q24=>dz q24) (dz false)) (dz false)) (dz false)) (dz false)) (dz false)) (some false))))))
theorem n2041:Nm prog 41:=⟨_,_,func41,by kernel_rfl,z⟩
theorem c2041 (fu:Nat)(a0:al):Ctr prog 41 [tDeed.va a0] [] (uj fu a0) (fun _ _=>[]) (fun q=>isB q):=by
 refine .w func41 ntmps41 fun hf A w=>?_
 unfold uj
 refine .s<|.box (T:=tDeed) z z fun b1=>.an z z<|.seq<|.draw 13 [] mix (by kernel_rfl) sts z<|.an z z<|.seq<|.draw 9 [] mix (by kernel_rfl) (.j (fun o=>.fp (o z) mP z)<|.k (fun p e=>.lp 0 fDeed_5 (e.op z) (p.get z z) xD z)<|.j (fun o=>.build z B8 z56 (.nil) z)<|.j (fun o=>.eqT BO (o z) (o z) z)<|.j (fun o=>.fp (o z) mO z)<|.k (fun p e=>.lp 0 pr (e.op z) (p.get z z) nG z)<|.j (fun o=>.build z xK z1044 (.nil) z)<|.j (fun o=>.eqT yh (o z) (o z) z)<|.j (fun o=>.a (o z) z)<|.nil) z<|.an z z<|.seq<|.s<|go ?_
 refine .block<|.s<|go ?_
 refine .cd z ?_ ?_
 ·refine .seq<|.join1 (fun i2=>⟨[(2,isB i2,none)],[]⟩) (fun i2=>db i2) (fun i2=>?_) (fun hj1=>?_)
  ·exact fr
  ·refine .g<|go ?_
   refine .split 33 z (fun _=>?_) (fun _=>?_)
   ·refine go ?_
    refine .split 36 z (fun _=>?_) (fun _=>?_)
    ·refine go ?_
     refine .split 39 z (fun _=>?_) (fun _=>?_)
     ·refine go ?_
      refine .split 42 z (fun _=>?_) (fun _=>?_)
      ·refine go ?_
       refine .call0 (c128 fu _) n128 z z fun q3=>go ?_
       refine .split 47 z (fun _=>?_) (fun _=>?_)
       ·refine go ?_
        refine .call0 (c56 fu _ _ _) n56 z z fun q4=>go ?_
        refine .split 53 z (fun _=>?_) (fun _=>?_)
        ·refine go ?_
         exact .call0 (c2097 fu _ (fun x0=>ot fu x0) 98 [] n2098 (fun x0=>c2098 fu x0)) n2097 z z fun q5=>fj (hj1 _)
        ·exact fj (hj1 _)
       ·exact fj (hj1 _)
      ·exact fj (hj1 _)
     ·exact fj (hj1 _)
    ·exact fj (hj1 _)
   ·exact fj (hj1 _)
 ·refine .s<|go ?_
  refine .cd z ?_ ?_
  ·refine .s<|go ?_
   refine .alloc tLink d0_1044 [] z1044 z fun b6=>go ?_
   refine .seq<|.join1 (fun i7=>⟨[(2,isB i7,none)],[]⟩) (fun i7=>bZ i7) (fun i7=>?_) (fun hj2=>?_)
   ·exact fr
   ·refine .g<|go ?_
    refine .split 64 z (fun _=>?_) (fun _=>?_)
    ·refine go ?_
     refine .split 67 z (fun _=>?_) (fun _=>?_)
     ·refine go ?_
      refine .split 70 z (fun _=>?_) (fun _=>?_)
      ·refine go ?_
       refine .split 73 z (fun _=>?_) (fun _=>?_)
       ·refine go ?_
        refine .split 78 z (fun _=>?_) (fun _=>?_)
        ·refine go ?_
         refine .call0 (c128 fu _) n128 z z fun q8=>go ?_
         refine .split 83 z (fun _=>?_) (fun _=>?_)
         ·refine go ?_
          refine .call0 (c128 fu _) n128 z z fun q9=>go ?_
          refine .split 88 z (fun _=>?_) (fun _=>?_)
          ·refine go ?_
           refine .call0 (c128 fu _) n128 z z fun q10=>go ?_
           refine .split 93 z (fun _=>?_) (fun _=>?_)
           ·refine go ?_
            exact .call0 (c56 fu _ _ _) n56 z z fun q11=>fj (hj2 _)
           ·exact fj (hj2 _)
          ·exact fj (hj2 _)
         ·exact fj (hj2 _)
        ·exact fj (hj2 _)
       ·exact fj (hj2 _)
      ·exact fj (hj2 _)
     ·exact fj (hj2 _)
    ·exact fj (hj2 _)
  ·refine .s<|go ?_
   refine .cd z ?_ ?_
   ·refine .seq<|.join1 (fun i12=>⟨[(2,isB i12,none)],[]⟩) (fun i12=>dD i12) (fun i12=>?_) (fun hj3=>?_)
    ·exact fr
    ·refine .g<|go ?_
     refine .split 101 z (fun _=>?_) (fun _=>?_)
     ·refine go ?_
      refine .split 104 z (fun _=>?_) (fun _=>?_)
      ·refine go ?_
       refine .split 107 z (fun _=>?_) (fun _=>?_)
       ·refine go ?_
        refine .split 110 z (fun _=>?_) (fun _=>?_)
        ·refine go ?_
         refine .call0 (c128 fu _) n128 z z fun q13=>go ?_
         refine .split 115 z (fun _=>?_) (fun _=>?_)
         ·refine go ?_
          exact .call0 (c2100 fu _) n2100 z z fun q14=>fj (hj3 _)
         ·exact fj (hj3 _)
        ·exact fj (hj3 _)
       ·exact fj (hj3 _)
      ·exact fj (hj3 _)
     ·exact fj (hj3 _)
   ·refine .s<|go ?_
    refine .cd z ?_ ?_
    ·refine .seq<|.join1 (fun i15=>⟨[(2,isB i15,none)],[]⟩) (fun i15=>dC i15) (fun i15=>?_) (fun hj4=>?_)
     ·exact fr
     ·refine .g<|go ?_
      refine .split 123 z (fun _=>?_) (fun _=>?_)
      ·refine go ?_
       refine .split 126 z (fun _=>?_) (fun _=>?_)
       ·refine go ?_
        refine .split 129 z (fun _=>?_) (fun _=>?_)
        ·refine go ?_
         refine .call0 (c128 fu _) n128 z z fun q16=>go ?_
         refine .split 134 z (fun _=>?_) (fun _=>?_)
         ·refine go ?_
          refine .call0 (c2100 fu _) n2100 z z fun q17=>go ?_
          refine .split 139 z (fun _=>?_) (fun _=>?_)
          ·refine go ?_
           exact .call0 (c56 fu _ _ _) n56 z z fun q18=>fj (hj4 _)
          ·exact fj (hj4 _)
         ·exact fj (hj4 _)
        ·exact fj (hj4 _)
       ·exact fj (hj4 _)
      ·exact fj (hj4 _)
    ·refine .s<|go ?_
     refine .cd z ?_ ?_
     ·refine .seq<|.join1 (fun i19=>⟨[(2,isB i19,none)],[]⟩) (fun i19=>dB i19) (fun i19=>?_) (fun hj5=>?_)
      ·exact fr
      ·refine .g<|go ?_
       refine .split 147 z (fun _=>?_) (fun _=>?_)
       ·refine go ?_
        refine .split 150 z (fun _=>?_) (fun _=>?_)
        ·refine go ?_
         refine .split 153 z (fun _=>?_) (fun _=>?_)
         ·refine go ?_
          refine .split 156 z (fun _=>?_) (fun _=>?_)
          ·refine go ?_
           refine .call0 (c128 fu _) n128 z z fun q20=>go ?_
           refine .split 161 z (fun _=>?_) (fun _=>?_)
           ·refine go ?_
            exact .call0 (c56 fu _ _ _) n56 z z fun q21=>fj (hj5 _)
           ·exact fj (hj5 _)
          ·exact fj (hj5 _)
         ·exact fj (hj5 _)
        ·exact fj (hj5 _)
       ·exact fj (hj5 _)
     ·refine .s<|go ?_
      refine .cd z ?_ ?_
      ·refine .seq<|.join1 (fun i22=>⟨[(2,isB i22,none)],[]⟩) (fun i22=>dz i22) (fun i22=>?_) (fun hj6=>?_)
       ·exact fr
       ·refine .g<|go ?_
        refine .split 169 z (fun _=>?_) (fun _=>?_)
        ·refine go ?_
         refine .split 172 z (fun _=>?_) (fun _=>?_)
         ·refine go ?_
          refine .split 175 z (fun _=>?_) (fun _=>?_)
          ·refine go ?_
           refine .split 178 z (fun _=>?_) (fun _=>?_)
           ·refine go ?_
            refine .call0 (c128 fu _) n128 z z fun q23=>go ?_
            refine .split 183 z (fun _=>?_) (fun _=>?_)
            ·refine go ?_
             exact .call0 (c2101 fu _) n2101 z z fun q24=>fj (hj6 _)
            ·exact fj (hj6 _)
           ·exact fj (hj6 _)
          ·exact fj (hj6 _)
         ·exact fj (hj6 _)
        ·exact fj (hj6 _)
      ·exact fr
end Go.Proofs.YtganfdhmkdehlaaGreatDoor
/- Functions of the program: what each answers, and that the machine answers so. -/
namespace Go.Proofs.YtganfdhmkdehlaaGreatDoor
open Go Go.HL Tryz
attribute [local irreducible] W WO
noncomputable def um (fu:Nat) (a0:ac) (a1:al):Option (ac×Int):=(jz fu a0).bind fun q4=>cond (!q4) (some ((⟨d0_1026.tabs,d0_1026.links⟩:ac),1)) ((uj fu a1).bind fun q5=>cond (!q5) ((d3 fu a0).bind fun q6=>some (q6,1)) (cond (decide (a1.kind=1)) ((uV fu a0 a1.name a1.cols).bind fun q8=>some (q8.1,q8.2)) (cond (decide (a1.kind=2)) ((uR fu a0 a1.link).bind fun q9=>some (q9.1,q9.2)) (cond (decide (a1.kind=3)) ((uI fu a0 a1.name a1.sets).bind fun q10=>some (q10.1,q10.2)) (cond (decide (a1.kind=4)) ((uK fu a0 a1.name a1.id a1.sets).bind fun q11=>some (q11.1,q11.2)) (cond (decide (a1.kind=5)) ((uP fu a0 a1.name a1.id).bind fun q12=>some (q12.1,q12.2)) ((uM fu a0 a1.name a1.change).bind fun q13=>some (q13.1,q13.2))))))))
theorem n2015:Nm prog 15:=⟨_,_,func15,by kernel_rfl,z⟩
theorem c2015 (fu:Nat)(a0:ac)(a1:al):Ctr prog 15 [tBase.va a0,tDeed.va a1] [] (um fu a0 a1) (fun _ _=>[]) (fun q=>tup [tBase.va q.1,isI .i64 q.2]):=by
 refine .w func15 ntmps15 fun hf A w=>?_
 unfold um
 refine .s<|.box (T:=tBase) z z fun b1=>.box (T:=tDeed) z z fun b2=>.alloc tBase d0_1026 [] cW z fun b3=>.an z z<|.seq<|.block<|.s<|go ?_
 refine .call0 (c1020 fu _) n1020 z z fun q4=>go ?_
 refine .cd z ?_ ?_
 ·exact fr
 ·refine .s<|go ?_
  refine .call0 (c2041 fu _) n2041 z z fun q5=>go ?_
  refine .cd z ?_ ?_
  ·refine .s<|go ?_
   exact .callL0 (c1054 fu _) n1054 z z fun q6 p7=>.frzT 16 0 conv1026_0 z z<|.frzT 16 1 conv1026_1 z z<|fr
  ·refine .skip<|.inBlock<|.seq<|.s<|go ?_
   refine .block<|.s<|go ?_
   refine .cd z ?_ ?_
   ·refine .s<|go ?_
    exact .call0 (c1016 fu _ _ _) n1016 z z fun q8=>fr
   ·refine .s<|go ?_
    refine .cd z ?_ ?_
    ·refine .s<|go ?_
     exact .call0 (c1024 fu _ _) n1024 z z fun q9=>fr
    ·refine .s<|go ?_
     refine .cd z ?_ ?_
     ·refine .s<|go ?_
      exact .call0 (c1041 fu _ _ _) n1041 z z fun q10=>fr
     ·refine .s<|go ?_
      refine .cd z ?_ ?_
      ·refine .s<|go ?_
       exact .call0 (c1038 fu _ _ _ _) n1038 z z fun q11=>fr
      ·refine .s<|go ?_
       refine .cd z ?_ ?_
       ·refine .s<|go ?_
        exact .call0 (c1028 fu _ _ _) n1028 z z fun q12=>fr
       ·refine .skip<|.inBlock<|.s<|go ?_
        exact .call0 (c1033 fu _ _ _) n1033 z z fun q13=>fr
noncomputable def fO (fu:Nat) (a0:ac) (a1:List al):Nat→Int→ac→Option (ac×Int×Int)
 | 0,_,_=>none
 | n2001+1,i9,i10=>cond (decide (i9 < (a1.length:Int))) (cond (decide (0≤i9)&&decide (i9 < (a1.length:Int))) ((um fu i10 (a1.getD i9.toNat default)).bind fun q12=>cond (!decide (q12.2=0)) ((d3 fu a0).bind fun q14=>some (q14,q12.2,i9)) ((fO fu a0 a1 n2001) (IntKind.i64.wrap (i9+1)) q12.1)) none) (some (i10,0,(a1.length:Int)))
noncomputable def r7 (fu:Nat) (a0:ac) (a1:List al):Option (ac×Int×Int):=(jz fu a0).bind fun q3=>cond (!q3) (some ((⟨d0_1026.tabs,d0_1026.links⟩:ac),1,0)) (cond (decide (6 < (a1.length:Int))) ((d3 fu a0).bind fun q4=>some (q4,4,0)) ((d3 fu a0).bind fun q6=>fO fu a0 a1 fu 0 q6))
theorem n2012:Nm prog 12:=⟨_,_,func12,by kernel_rfl,z⟩
theorem c2012 (fu:Nat)(a0:ac)(a1:List al):Ctr prog 12 [tBase.va a0,(tL tDeed).va a1] [] (r7 fu a0 a1) (fun _ _=>[]) (fun q=>tup [tBase.va q.1,isI .i64 q.2.1,isI .i64 q.2.2]):=by
 refine .w func12 ntmps12 fun hf A w=>?_
 unfold r7
 refine .s<|.box (T:=tBase) z z fun b1=>.alloc tBase d0_1026 [] cW z fun b2=>go ?_
 refine .seq<|.block<|.s<|go ?_
 refine .call0 (c1020 fu _) n1020 z z fun q3=>go ?_
 refine .cd z ?_ ?_
 ·exact fr
 ·refine .s<|go ?_
  refine .cd z ?_ ?_
  ·refine .s<|go ?_
   exact .callL0 (c1054 fu _) n1054 z z fun q4 p5=>.frzT 22 0 conv1026_0 z z<|.frzT 22 1 conv1026_1 z z<|fr
  ·refine .skip<|.inBlock<|.s<|go ?_
   refine .callL0 (c1054 fu _) n1054 z z fun q6 p7=>.alloc tBase d0_1026 [] cW z fun b8=>.frzT 24 1 conv1026_0 z z<|.frzT 24 2 conv1026_1 z z<|go ?_
   refine .seq<|.s<|go ?_
   refine .block<|.loop<|.drop (.d<|.c<|.c<|.d<|.d<|.e)<|.keep [1,2,4,7,25,26,27] [] z<|(show ∀ (n2001:Nat) (i9:Int) (i10:ac),W _ _ _ _ _ ⟨[(1,(tL tDeed).va a1,none),(2,isP b1 0,none),(4,isP b2 0,none),(7,isP b8 0,none),(25,(tL tDeed).va a1,none),(26,isI .i64 (a1.length:Int),none),(27,isI .i64 i9,none)],[boxO b8 tBase i10 [],boxO b2 tBase d0_1026 [],boxO b1 tBase a0 []]⟩ (fO fu a0 a1 n2001 i9 i10) from ?_) fu _ _
   intro n2001
   induction n2001 with
   | zero=>exact fun _ _=>.stop
   | succ n2001 ih1=>
    intro i9 i10
    refine .inLoop<|.s<|go ?_
    refine .seq<|.cd z ?_ ?_
    ·refine .skip<|.seq<|.block<|.s<|go ?_
     refine .alloc tDeed d0_2046 [] z2046 z fun b11=>go ?_
     refine .s<|go ?_
     refine .call0 (c2015 fu _ _) n2015 z z fun q12=>go ?_
     refine .alloc tBase d0_1026 [] cW z fun b13=>go ?_
     refine .seq<|.s<|go ?_
     refine .cd z ?_ ?_
     ·refine .s<|go ?_
      exact .callL0 (c1054 fu _) n1054 z z fun q14 p15=>.m z z<|.m z z<|.frzT 41 0 conv1026_0 z z<|.frzT 41 1 conv1026_1 z z<|fr
     ·exact fj (ih1 _ _)
    ·exact fr
def jR (i3:Int)(q5:ac×Int×Int)(rec1:Int→ac→Option (ac×Bool))(i7:Bool):Option (ac×Bool):=cond i7 (some ((⟨d0_1026.tabs,d0_1026.links⟩:ac),false)) (rec1 (IntKind.i64.wrap (i3+1)) q5.1)
noncomputable def de (fu:Nat) (a0:List (List al)):Nat→Int→ac→Option (ac×Bool)
 | 0,_,_=>none
 | n2001+1,i3,i4=>cond (decide (i3 < (a0.length:Int))) (cond (decide (0≤i3)&&decide (i3 < (a0.length:Int))) ((r7 fu i4 (a0.getD i3.toNat default)).bind fun q5=>cond (decide ((List.length (a0.getD i3.toNat default):Int)=0)) (jR i3 q5 (de fu a0 n2001) true) (jR i3 q5 (de fu a0 n2001) (!decide (q5.2.1=0)))) none) (some (i4,decide ((a0.length:Int)≤15)))
noncomputable def wE (fu:Nat) (a0:List (List al)):Option (ac×Bool):=de fu a0 fu 0 (⟨d0_1026.tabs,d0_1026.links⟩:ac)
theorem n2028:Nm prog 28:=⟨_,_,func28,by kernel_rfl,z⟩
theorem c2028 (fu:Nat)(a0:List (List al)):Ctr prog 28 [(tL (tL tDeed)).va a0] [] (wE fu a0) (fun _ _=>[]) (fun q=>tup [tBase.va q.1,isB q.2]):=by
 refine .w func28 ntmps28 fun hf A w=>?_
 unfold wE
 refine .s<|.alloc tBase d0_1026 [] cW z fun b1=>.an z z<|.s<|go ?_
 refine .alloc tBase d0_1026 [] cW z fun b2=>go ?_
 refine .seq<|.s<|go ?_
 refine .block<|.loop<|.keep [0,2,4,11,12,13] [] z<|(show ∀ (n2001:Nat) (i3:Int) (i4:ac),W _ _ _ _ _ ⟨[(0,(tL (tL tDeed)).va a0,none),(2,isP b1 0,none),(4,isP b2 0,none),(11,(tL (tL tDeed)).va a0,none),(12,isI .i64 (a0.length:Int),none),(13,isI .i64 i3,none)],[boxO b2 tBase i4 [],boxO b1 tBase d0_1026 []]⟩ (de fu a0 n2001 i3 i4) from ?_) fu _ _
 intro n2001
 induction n2001 with
 | zero=>exact fun _ _=>.stop
 | succ n2001 ih1=>
  intro i3 i4
  refine .inLoop<|.s<|go ?_
  refine .seq<|.cd z ?_ ?_
  ·refine .skip<|.seq<|.block<|.s<|go ?_
   refine .s<|go ?_
   refine .call0 (c2012 fu _ _) n2012 z z fun q5=>go ?_
   refine .alloc tBase d0_1026 [] cW z fun b6=>go ?_
   refine .seq<|.seq<|.join1 (fun i7=>⟨[(0,(tL (tL tDeed)).va a0,none),(2,isP b1 0,none),(4,isP b2 0,none),(7,isP b6 0,none),(11,(tL (tL tDeed)).va a0,none),(12,isI .i64 (a0.length:Int),none),(13,isI .i64 i3,none),(30,isB i7,none)],[boxO b6 tBase q5.1 [],boxO b2 tBase i4 [],boxO b1 tBase d0_1026 []]⟩) (fun i7=>jR i3 q5 (de fu a0 n2001) i7) (fun i7=>?_) (fun hj2=>?_)
   ·refine .cd z ?_ ?_
    ·exact fr
    ·exact fj (ih1 _ _)
   ·refine .g<|go ?_
    refine .split 27 z (fun _=>?_) (fun _=>?_)
    ·exact fj (hj2 _)
    ·exact fj (hj2 _)
  ·exact fr
noncomputable def uo (fu:Nat) (a0:List (List al)):Option Bool:=(wE fu a0).bind fun q1=>some q1.2
theorem n2010:Nm prog 10:=⟨_,_,func10,by kernel_rfl,z⟩
theorem c2010 (fu:Nat)(a0:List (List al)):Ctr prog 10 [(tL (tL tDeed)).va a0] [] (uo fu a0) (fun _ _=>[]) (fun q=>isB q):=by
 refine .w func10 ntmps10 fun hf A w=>?_
 unfold uo
 refine .s<|.an z z<|.s<|.m z z<|.call0 (c2028 fu _) n2028 z z fun q1=>go ?_
 exact .alloc tBase d0_1026 [] cW z fun b2=>fr
def ua (fu:Nat)(a0:ac)(a1:al):Option (ac×Int):=(rY fu a1).bind fun q4=>cond (!q4) (some (a0,1)) (cond (decide (a1.kind=3)) ((se fu a0 a1.name a1.sets).bind fun q5=>some (q5.1,q5.2)) (cond (decide (a1.kind=4)) ((sf fu a0 a1.name a1.id a1.sets).bind fun q6=>some (q6.1,q6.2)) (cond (decide (a1.kind=5)) ((sj fu a0 a1.name a1.id).bind fun q7=>some (q7.1,q7.2)) (cond (decide (a1.kind=6)) ((si fu a0 a1.name a1.change).bind fun q8=>some (q8.1,q8.2)) ((rX fu a0 a1).bind fun q9=>some (q9.1,q9.2))))))
theorem n2136:Nm prog 136:=⟨_,_,func136,by kernel_rfl,z⟩
theorem c2136 (fu:Nat)(a0:ac)(a1:al):Ctr prog 136 [tBase.va a0,tDeed.va a1] [] (ua fu a0 a1) (fun _ _=>[]) (fun q=>tup [tBase.va q.1,isI .i64 q.2]):=by
 refine .w func136 ntmps136 fun hf A w=>?_
 unfold ua
 refine .s<|.box (T:=tBase) z z fun b1=>.box (T:=tDeed) z z fun b2=>.alloc tBase d0_1026 [] cW z fun b3=>.an z z<|.seq<|.s<|go ?_
 refine .call0 (c2048 fu _) n2048 z z fun q4=>.not z z<|.nil<|.cd z ?_ ?_
 ·exact fr
 ·refine .skip<|.seq<|.s<|go ?_
  refine .block<|.s<|go ?_
  refine .cd z ?_ ?_
  ·refine .s<|go ?_
   exact .call0 (c1109 fu _ _ _) n1109 z z fun q5=>fr
  ·refine .s<|go ?_
   refine .cd z ?_ ?_
   ·refine .s<|go ?_
    exact .call0 (c1105 fu _ _ _ _) n1105 z z fun q6=>fr
   ·refine .s<|go ?_
    refine .cd z ?_ ?_
    ·refine .s<|go ?_
     exact .call0 (c1091 fu _ _ _) n1091 z z fun q7=>fr
    ·refine .s<|go ?_
     refine .cd z ?_ ?_
     ·refine .s<|go ?_
      exact .call0 (c1100 fu _ _ _) n1100 z z fun q8=>fr
     ·refine .skip<|.inBlock<|.s<|go ?_
      exact .call0 (c2050 fu _ _) n2050 z z fun q9=>fr
def fM (fu:Nat)(a0:ac)(a1:List al):Nat→Int→ac→Option (ac×Int×Int)
 | 0,_,_=>none
 | n2001+1,i8,i9=>cond (decide (i8 < (a1.length:Int))) ((dn fu i9).bind fun q10=>cond (decide (0≤i8)&&decide (i8 < (a1.length:Int))) ((ua fu q10 (a1.getD i8.toNat default)).bind fun q12=>cond (!decide (q12.2=0)) ((dn fu a0).bind fun q13=>some (q13,q12.2,i8)) ((fM fu a0 a1 n2001) (IntKind.i64.wrap (i8+1)) q12.1)) none) ((dn fu i9).bind fun q15=>some (q15,0,(a1.length:Int)))
def ui (fu:Nat)(a0:ac)(a1:List al):Option (ac×Int×Int):=cond (decide (6 < (a1.length:Int))) ((dn fu a0).bind fun q3=>some (q3,4,0)) ((dn fu a0).bind fun q5=>fM fu a0 a1 fu 0 q5)
theorem n2060:Nm prog 60:=⟨_,_,func60,by kernel_rfl,z⟩
theorem c2060 (fu:Nat)(a0:ac)(a1:List al):Ctr prog 60 [tBase.va a0,(tL tDeed).va a1] [] (ui fu a0 a1) (fun _ _=>[]) (fun q=>tup [tBase.va q.1,isI .i64 q.2.1,isI .i64 q.2.2]):=by
 refine .w func60 ntmps60 fun hf A w=>?_
 unfold ui
 refine .s<|.box (T:=tBase) z z fun b1=>.alloc tBase d0_1026 [] cW z fun b2=>go ?_
 refine .seq<|.s<|go ?_
 refine .cd z ?_ ?_
 ·refine .s<|go ?_
  exact .callL0 (c1059 fu _) n1059 z z fun q3 p4=>.frzT 14 0 conv1026_0 z z<|.frzT 14 1 conv1026_1 z z<|fr
 ·refine .skip<|.s<|go ?_
  refine .callL0 (c1059 fu _) n1059 z z fun q5 p6=>.alloc tBase d0_1026 [] cW z fun b7=>.frzT 16 1 conv1026_0 z z<|.frzT 16 2 conv1026_1 z z<|go ?_
  refine .seq<|.s<|.an z z<|.block<|.loop<|.drop (.d<|.c<|.c<|.d<|.d<|.e)<|.keep [1,2,4,7,8] [] z<|(show ∀ (n2001:Nat) (i8:Int) (i9:ac),W _ _ _ _ _ ⟨[(1,(tL tDeed).va a1,none),(2,isP b1 0,none),(4,isP b2 0,none),(7,isP b7 0,none),(8,isI .i64 i8,none)],[boxO b7 tBase i9 [],boxO b2 tBase d0_1026 [],boxO b1 tBase a0 []]⟩ (fM fu a0 a1 n2001 i8 i9) from ?_) fu _ _
  intro n2001
  induction n2001 with
  | zero=>exact fun _ _=>.stop
  | succ n2001 ih1=>
   intro i8 i9
   refine .inLoop<|.seq<|.s<|go ?_
   refine .cd z ?_ ?_
   ·refine .skip<|.seq<|.block<|.s<|.an z z<|.seq<|.pbind fun q10 h3=>.pT fun h4=>.drawS 6 [] [1] [] mix (by kernel_rfl) sts z<|.cons (d:=25) z z fun _ _ hE h=>.bindE2 h3 (fun r h=>.callL0 (c1059 fu _) n1059 (hE.ops z) z h) fun p11=>.toEnd<|.toEnd<|h _ _ (.same<|.same<|.same<|.nil)<|.nil<|.frzT 25 3 conv1026_0 z z<|.frzT 25 4 conv1026_1 z z<|.call0 (c2136 fu _ _) n2136 z z fun q12=>go ?_
    refine .s<|go ?_
    refine .cd z ?_ ?_
    ·refine .s<|go ?_
     exact .callL0 (c1059 fu _) n1059 z z fun q13 p14=>.m z z<|.m z z<|.frzT 36 0 conv1026_0 z z<|.frzT 36 1 conv1026_1 z z<|fr
    ·exact fj (ih1 _ _)
   ·refine .exit z<|.s<|go ?_
    exact .callL0 (c1059 fu _) n1059 z z fun q15 p16=>.m z z<|.lenL z u32 z<|.frzT 40 0 conv1026_0 z z<|.frzT 40 1 conv1026_1 z z<|fr
def jQ (i3:Int)(q5:ac×Int×Int)(rec1:Int→ac→Option (ac×Bool))(i6:Bool):Option (ac×Bool):=cond i6 (some ((⟨d0_1026.tabs,d0_1026.links⟩:ac),false)) (rec1 (IntKind.i64.wrap (i3+1)) q5.1)
def dc (fu:Nat)(a0:List (List al)):Nat→Int→ac→Option (ac×Bool)
 | 0,_,_=>none
 | n2001+1,i3,i4=>cond (decide (i3 < (a0.length:Int))) (cond (decide (0≤i3)&&decide (i3 < (a0.length:Int))) ((ui fu i4 (a0.getD i3.toNat default)).bind fun q5=>cond (!decide (q5.2.1=0)) (jQ i3 q5 (dc fu a0 n2001) true) (cond (decide (0≤i3)&&decide (i3 < (a0.length:Int))) (jQ i3 q5 (dc fu a0 n2001) (decide ((List.length (a0.getD i3.toNat default):Int)=0))) none)) none) (some (i4,true))
def wD (fu:Nat)(a0:List (List al)):Option (ac×Bool):=dc fu a0 fu 0 (⟨d0_1026.tabs,d0_1026.links⟩:ac)
theorem n2029:Nm prog 29:=⟨_,_,func29,by kernel_rfl,z⟩
theorem c2029 (fu:Nat)(a0:List (List al)):Ctr prog 29 [(tL (tL tDeed)).va a0] [] (wD fu a0) (fun _ _=>[]) (fun q=>tup [tBase.va q.1,isB q.2]):=by
 refine .w func29 ntmps29 fun hf A w=>?_
 unfold wD
 refine .s<|.alloc tBase d0_1026 [] cW z fun b1=>.an z z<|.s<|go ?_
 refine .alloc tBase d0_1026 [] cW z fun b2=>go ?_
 refine .seq<|.s<|.an z z<|.block<|.loop<|.keep [0,2,4,5] [] z<|(show ∀ (n2001:Nat) (i3:Int) (i4:ac),W _ _ _ _ _ ⟨[(0,(tL (tL tDeed)).va a0,none),(2,isP b1 0,none),(4,isP b2 0,none),(5,isI .i64 i3,none)],[boxO b2 tBase i4 [],boxO b1 tBase d0_1026 []]⟩ (dc fu a0 n2001 i3 i4) from ?_) fu _ _
 intro n2001
 induction n2001 with
 | zero=>exact fun _ _=>.stop
 | succ n2001 ih1=>
  intro i3 i4
  refine .inLoop<|.seq<|.s<|go ?_
  refine .cd z ?_ ?_
  ·refine .skip<|.seq<|.block<|.s<|.an z z<|.seq<|.pT fun h2=>.draw 5 [] mix (by kernel_rfl) sts z<|.call0 (c2060 fu _ _) n2060 z z fun q5=>go ?_
   refine .seq<|.join1 (fun i6=>⟨[(0,(tL (tL tDeed)).va a0,none),(2,isP b1 0,none),(4,isP b2 0,none),(5,isI .i64 i3,none),(33,isB i6,none)],[boxO b2 tBase q5.1 [],boxO b1 tBase d0_1026 []]⟩) (fun i6=>jQ i3 q5 (dc fu a0 n2001) i6) (fun i6=>?_) (fun hj2=>?_)
   ·refine .cd z ?_ ?_
    ·exact fr
    ·exact fj (ih1 _ _)
   ·refine .g<|go ?_
    refine .split 26 z (fun _=>?_) (fun _=>?_)
    ·exact fj (hj2 _)
    ·exact fj (hj2 _)
  ·exact fr
def un (fu:Nat)(a0:List (List al)):Option Bool:=cond (decide (15 < (a0.length:Int))) (some false) ((wD fu a0).bind fun q1=>some q1.2)
theorem n2011:Nm prog 11:=⟨_,_,func11,by kernel_rfl,z⟩
theorem c2011 (fu:Nat)(a0:List (List al)):Ctr prog 11 [(tL (tL tDeed)).va a0] [] (un fu a0) (fun _ _=>[]) (fun q=>isB q):=by
 refine .w func11 ntmps11 fun hf A w=>?_
 unfold un
 refine .s<|.an z z<|.seq<|.s<|go ?_
 refine .cd z ?_ ?_
 ·exact fr
 ·refine .skip<|.s<|.m z z<|.call0 (c2029 fu _) n2029 z z fun q1=>go ?_
  exact .alloc tBase d0_1026 [] cW z fun b2=>fr
end Go.Proofs.YtganfdhmkdehlaaGreatDoor
