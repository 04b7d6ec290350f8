/- What functions answer. -/
import Derived.Test.YtganfdhmkdehlaaGreatDoorQ2006B8
import Derived.KernelRfl
set_option linter.all false
namespace Go.Proofs.YtganfdhmkdehlaaGreatDoor
open Go Go.HL Tryz
attribute [local irreducible] W WO
def vP (fu:Nat)(a0:ab)(a1:Int)(a2:List Set):Option (ab×Int):=(f75 fu a0 a1 a2).bind fun q3=>some (q3.1,q3.2)
theorem EO:Nm prog 106:=nmK func106
theorem Ga (fu:Nat)(a0:ab)(a1:Int)(a2:List Set):Ctr prog 106 [tTable.va a0,c6 (tI .i64) a1,c6 (tL tSet) a2] [] (vP fu a0 a1 a2) (fun _ _=>[]) (fun q=>tup [tTable.va q.1,isI .i64 q.2]):=by
 refine .w func106 ntmps106 fun hf A w=>?_
 unfold vP
 refine .s<|.box (T:=tTable) z z fun b1=>.alloc tTable d0_27 [] z27 z fun b2=>.an z z<|.s<|go ?_
 exact .call0 (c75 fu _ _ _) n75 z z fun q3=>fr
def qu (fu:Nat)(a0:aj)(a1:ac):Option Bool:=(qO fu a1 a0).bind fun q2=>some (!q2)
theorem Eu:Nm prog 197:=nmK func197
theorem FQ (fu:Nat)(a0:aj)(a1:ac):Ctr prog 197 [tLink.va a0,c6 tBase a1] [] (qu fu a0 a1) (fun _ _=>[]) (fun q=>isB q):=by
 refine .w func197 ntmps197 fun hf A w=>?_
 unfold qu
 refine .s<|.box (T:=tLink) z z fun b1=>.an z z<|.s<|go ?_
 exact .call0 (A6 fu _ _) Ad z z fun q2=>fr
def yg (fu:Nat)(a0:List aj)(a1:aj→Option Bool):Option Bool:=(ti fu a0 a1).bind fun q1=>some (decide (0≤q1))
theorem Ev:Nm prog 196:=nmK func196
theorem FR (fu : Nat)(a0 : List aj)(a1 : aj → Option Bool)(g1 : Nat)(k1 : List VA)(hn1 : ∃ fn c, prog.funcs[g1]? = some fn ∧ (fn.name == "runtime.NumGoroutine") = false ∧ fn.body = some c)(hc1 : ∀ (x0 : aj), Ctr prog g1 ([tLink.va x0] ++ k1) [] (a1 x0) (fun _ _ => []) (fun q => isB q)) : Ctr prog 196 [(tL tLink).va a0, ce g1 k1] [] (yg fu a0 a1) (fun _ _ => []) (fun q => isB q) := by
 refine .w func196 ntmps196 fun hf A w=>?_
 unfold yg
 refine .s<|.an z z<|.s<|go ?_
 exact .call0 (Dl fu _ a1 g1 k1 hn1 hc1) Ca z z fun q1=>fr
def th (fu:Nat)(a0:ac):Option Bool:=(yg fu a0.links (fun x0=>qu fu x0 a0)).bind fun q2=>some (!q2)
theorem Ex:Nm prog 165:=nmK func165
theorem FT (fu:Nat)(a0:ac):Ctr prog 165 [tBase.va a0] [] (th fu a0) (fun _ _=>[]) (fun q=>isB q):=by
 refine .w func165 ntmps165 fun hf A w=>?_
 unfold th
 exact .s<|.box (T:=tBase) z z fun b1=>.an z z<|.s<|.fp z ci z<|.lp 0 gK z z fw z<|.frzP 0 1 z z<|.makeF z z<|.call0 (FR fu _ (fun x0=>qu fu x0 a0) 197 [c6 tBase a0] Eu (fun x0=>FQ fu x0 a0)) Ev z z fun q2=>fr
def tj (fu:Nat)(a0:ac)(a1:List UInt8)(a2:ab→Option (ab×Int)):Option (ac×Int):=(lN fu a0).bind fun q3=>cond (!q3) (some ((⟨([]:List Tab),([]:List aj)⟩:ac),1)) ((fa fu a0 a1).bind fun q4=>cond (decide (q4<0)) ((eD fu a0).bind fun q5=>some (q5,5)) (cond (decide (0≤q4)&&decide (q4 < (a0.tabs.length:Int))) ((a2 ((a0.tabs.getD q4.toNat default).table)).bind fun q7=>cond (!decide (q7.2=0)) ((eD fu a0).bind fun q9=>some (q9,q7.2)) ((eD fu a0).bind fun q11=>cond (decide (0≤q4)&&decide (q4 < (q11.tabs.length:Int))) ((th fu (⟨q11.tabs.set q4.toNat ({ (q11.tabs.getD q4.toNat default) with table:=q7.1 }:Tab),q11.links⟩:ac)).bind fun q14=>cond (!q14) ((eD fu a0).bind fun q15=>some (q15,7)) (some ((⟨q11.tabs.set q4.toNat ({ (q11.tabs.getD q4.toNat default) with table:=q7.1 }:Tab),q11.links⟩:ac),0))) none)) none))
theorem Cb:Nm prog 103:=nmK func103
theorem Dm (fu : Nat)(a0 : ac)(a1 : List UInt8)(a2 : ab → Option (ab × Int))(g2 : Nat)(k2 : List VA)(hn2 : ∃ fn c, prog.funcs[g2]? = some fn ∧ (fn.name == "runtime.NumGoroutine") = false ∧ fn.body = some c)(hc2 : ∀ (x0 : ab), Ctr prog g2 ([tTable.va x0] ++ k2) [] (a2 x0) (fun _ _ => []) (fun q => tup [tTable.va q.1, isI .i64 q.2])) : Ctr prog 103 [tBase.va a0, isS a1, ce g2 k2] [] (tj fu a0 a1 a2) (fun _ _ => []) (fun q => tup [tBase.va q.1, isI .i64 q.2]) := by
 refine .w func103 ntmps103 fun hf A w=>?_
 unfold tj
 refine .s<|.box (T:=tBase) z z fun b1=>.alloc tBaseA av [] aA z fun b2=>.an z z<|.seq<|.s<|go ?_
 refine .call0 (qY fu _) qe z z fun q3=>.not z z<|.nil<|.cd z ?_ ?_
 ·exact .s<|.buildA z dJ aA (.nil) z<|.storeP 0 (Fld.self _) z z z ap<|.arrNil tTab<|.arrNil tLink<|.an z z<|.frzBox 2 1 conv1026_0 z z<|.frzBox 2 0 conv1026_1 z z<|fr
 ·refine .skip<|.s<|go ?_
  refine .call0 (jW fu _ _) jU z z fun q4=>.an z z<|.seq<|.s<|go ?_
  refine .cd z ?_ ?_
  ·refine .s<|go ?_
   refine .callL0 (gu fu _) gq z z fun q5 p6=>go ?_
   exact .frzBox 2 0 conv1026_0 z z<|.frzBox 2 1 conv1026_1 z z<|fr
  ·refine .skip<|.s<|go ?_
   refine .callC z (hc2 _) hn2 z z fun q7=>go ?_
   refine .alloc tTableA aS [] bA z fun b8=>.storeW 0 z z z z ty27<|.an z z<|.seq<|.s<|go ?_
   refine .cd z ?_ ?_
   ·refine .s<|go ?_
    refine .callL0 (gu fu _) gq z z fun q9 p10=>go ?_
    exact .frzBox 3 0 conv1026_0 z z<|.frzBox 3 1 conv1026_1 z z<|fr
   ·refine .skip<|.s<|go ?_
    refine .callL0 (gu fu _) gq z z fun q11 p12=>.alloc tBaseA av [] aA z fun b13=>go ?_
    refine .s<|go ?_
    refine .seq<|.seq<|.frzBox 0 1 conv1026_0 z z<|.frzBox 0 2 conv1026_1 z z<|.g<|go ?_
    refine .call0 (FT fu _) Ex z z fun q14=>.not z z<|.nil<|.cd z ?_ ?_
    ·refine .s<|go ?_
     refine .callL0 (gu fu _) gq z z fun q15 p16=>go ?_
     exact .frzBox 6 0 conv1026_0 z z<|.frzBox 6 1 conv1026_1 z z<|fr
    ·refine .skip<|.s<|go ?_
     exact .storeW 4 z z z z ap<|fr
def wa (fu:Nat)(a0:ac)(a1:List UInt8)(a2:Int)(a3:List Set):Option (ac×Int):=(tj fu a0 a1 (fun x0=>vP fu x0 a2 a3)).bind fun q5=>some (q5.1,q5.2)
theorem E4:Nm prog 45:=nmK func45
theorem Gt (fu:Nat)(a0:ac)(a1:List UInt8)(a2:Int)(a3:List Set):Ctr prog 45 [tBase.va a0,isS a1,isI .i64 a2,(tL tSet).va a3] [] (wa fu a0 a1 a2 a3) (fun _ _=>[]) (fun q=>tup [tBase.va q.1,isI .i64 q.2]):=by
 refine .w func45 ntmps45 fun hf A w=>?_
 unfold wa
 exact .s<|.box (T:=tBase) z z fun b1=>.box (T:=(tI .i64)) z z fun b2=>.box (T:=(tL tSet)) z z fun b3=>.alloc tBase d0_1026 [] cB z fun b4=>.an z z<|.s<|.lp 3 (Fld.self _) z z ap z<|.m z z<|.frzP 2 6 z z<|.frzP 1 7 z z<|.makeF z z<|.call0 (Dm fu _ _ (fun x0=>vP fu x0 a2 a3) 106 [c6 (tI .i64) a2,c6 (tL tSet) a3] EO (fun x0=>Ga fu x0 a2 a3)) Cb z z fun q5=>fr
def vZ (fu:Nat)(a0:ac)(a1:List UInt8)(a2:Int)(a3:List Set):Option (ac×Int):=(jx fu a0).bind fun q3=>cond (!q3) (some ((⟨d0_1026.tabs,d0_1026.links⟩:ac),1)) ((cX fu a0).bind fun q4=>(qF fu q4 a1 a2 a3).bind fun q5=>some (q5.1,q5.2))
theorem E3:Nm prog 124:=nmK func124
theorem Gs (fu:Nat)(a0:ac)(a1:List UInt8)(a2:Int)(a3:List Set):Ctr prog 124 [tBase.va a0,isS a1,isI .i64 a2,(tL tSet).va a3] [] (vZ fu a0 a1 a2 a3) (fun _ _=>[]) (fun q=>tup [tBase.va q.1,isI .i64 q.2]):=by
 refine .w func124 ntmps124 fun hf A w=>?_
 unfold vZ
 refine .s<|.box (T:=tBase) z z fun b1=>.alloc tBase d0_1026 [] cB z fun b2=>.an z z<|.seq<|.s<|go ?_
 refine .call0 (om fu _) nr z z fun q3=>.not z z<|.nil<|.cd z ?_ ?_
 ·exact fr
 ·refine .skip<|.s<|go ?_
  refine .call0 (gY (dH fu _)) dF z z fun q4=>go ?_
  exact .call0 (AY fu _ _ _ _) z7 z z fun q5=>fr
end Go.Proofs.YtganfdhmkdehlaaGreatDoor
