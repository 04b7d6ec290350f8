/- What functions answer. -/
import Derived.Test.YtganfdhmkdehlaaGreatDoorQ2007B8
import Derived.KernelRfl
set_option linter.all false
namespace Go.Proofs.YtganfdhmkdehlaaGreatDoor
open Go Go.HL Tryz
attribute [local irreducible] W WO
def vS (fu:Nat)(a0:ab)(a1:Int)(a2:List Set):Option (ab×Int):=(f75 fu a0 a1 a2).bind fun q3=>some (q3.1,q3.2)
theorem EO:Nm prog 106:=nmK func106
theorem Ga (fu:Nat)(a0:ab)(a1:Int)(a2:List Set):Ctr prog 106 [tTable.va a0,c7 (tI .i64) a1,c7 (tL tSet) a2] [] (vS fu a0 a1 a2) (fun _ _=>[]) (fun q=>tup [tTable.va q.1,isI .i64 q.2]):=by
 refine .w func106 ntmps106 fun hf A w=>?_
 unfold vS
 refine .s<|.box (T:=tTable) z z fun b1=>.alloc tTable d0_27 [] z27 z fun b2=>.an z z<|.s<|go ?_
 exact .call0 (c75 fu _ _ _) n75 z z fun q3=>fr
def qz (fu:Nat)(a0:aj)(a1:ac):Option Bool:=(qT fu a1 a0).bind fun q2=>some (!q2)
theorem Eu:Nm prog 197:=nmK func197
theorem FQ (fu:Nat)(a0:aj)(a1:ac):Ctr prog 197 [tLink.va a0,c7 tBase a1] [] (qz fu a0 a1) (fun _ _=>[]) (fun q=>isB q):=by
 refine .w func197 ntmps197 fun hf A w=>?_
 unfold qz
 refine .s<|.box (T:=tLink) z z fun b1=>.an z z<|.s<|go ?_
 exact .call0 (Bc fu _ _) Ai z z fun q2=>fr
def yj (fu:Nat)(a0:List aj)(a1:aj→Option Bool):Option Bool:=(tr fu a0 a1).bind fun q1=>some (decide (0≤q1))
theorem Ev:Nm prog 196:=nmK func196
theorem FR (fu : Nat)(a0 : List aj)(a1 : aj → Option Bool)(g1 : Nat)(k1 : List VA)(hn1 : ∃ fn c, prog.funcs[g1]? = some fn ∧ (fn.name == "runtime.NumGoroutine") = false ∧ fn.body = some c)(hc1 : ∀ (x0 : aj), Ctr prog g1 ([tLink.va x0] ++ k1) [] (a1 x0) (fun _ _ => []) (fun q => isB q)) : Ctr prog 196 [(tL tLink).va a0, ce g1 k1] [] (yj fu a0 a1) (fun _ _ => []) (fun q => isB q) := by
 refine .w func196 ntmps196 fun hf A w=>?_
 unfold yj
 refine .s<|.an z z<|.s<|go ?_
 exact .call0 (Dn fu _ a1 g1 k1 hn1 hc1) Cd z z fun q1=>fr
def tq (fu:Nat)(a0:ac):Option Bool:=(yj fu a0.links (fun x0=>qz fu x0 a0)).bind fun q2=>some (!q2)
theorem Ex:Nm prog 165:=nmK func165
theorem FT (fu:Nat)(a0:ac):Ctr prog 165 [tBase.va a0] [] (tq fu a0) (fun _ _=>[]) (fun q=>isB q):=by
 refine .w func165 ntmps165 fun hf A w=>?_
 unfold tq
 exact .s<|.box (T:=tBase) z z fun b1=>.an z z<|.s<|.fp z ci z<|.lp 0 gL z z fx z<|.frzP 0 1 z z<|.makeF z z<|.call0 (FR fu _ (fun x0=>qz fu x0 a0) 197 [c7 tBase a0] Eu (fun x0=>FQ fu x0 a0)) Ev z z fun q2=>fr
def tu (fu:Nat)(a0:ac)(a1:List UInt8)(a2:ab→Option (ab×Int)):Option (ac×Int):=(lS fu a0).bind fun q3=>cond (!q3) (some ((⟨([]:List Tab),([]:List aj)⟩:ac),1)) ((fb fu a0 a1).bind fun q4=>cond (decide (q4<0)) ((eE fu a0).bind fun q5=>some (q5,5)) (cond (decide (0≤q4)&&decide (q4 < (a0.tabs.length:Int))) ((a2 ((a0.tabs.getD q4.toNat default).table)).bind fun q7=>cond (!decide (q7.2=0)) ((eE fu a0).bind fun q9=>some (q9,q7.2)) ((eE fu a0).bind fun q11=>cond (decide (0≤q4)&&decide (q4 < (q11.tabs.length:Int))) ((tq fu (⟨q11.tabs.set q4.toNat ({ (q11.tabs.getD q4.toNat default) with table:=q7.1 }:Tab),q11.links⟩:ac)).bind fun q14=>cond (!q14) ((eE fu a0).bind fun q15=>some (q15,7)) (some ((⟨q11.tabs.set q4.toNat ({ (q11.tabs.getD q4.toNat default) with table:=q7.1 }:Tab),q11.links⟩:ac),0))) none)) none))
theorem Ce:Nm prog 103:=nmK func103
theorem Do (fu : Nat)(a0 : ac)(a1 : List UInt8)(a2 : ab → Option (ab × Int))(g2 : Nat)(k2 : List VA)(hn2 : ∃ fn c, prog.funcs[g2]? = some fn ∧ (fn.name == "runtime.NumGoroutine") = false ∧ fn.body = some c)(hc2 : ∀ (x0 : ab), Ctr prog g2 ([tTable.va x0] ++ k2) [] (a2 x0) (fun _ _ => []) (fun q => tup [tTable.va q.1, isI .i64 q.2])) : Ctr prog 103 [tBase.va a0, isS a1, ce g2 k2] [] (tu fu a0 a1 a2) (fun _ _ => []) (fun q => tup [tBase.va q.1, isI .i64 q.2]) := by
 refine .w func103 ntmps103 fun hf A w=>?_
 unfold tu
 refine .s<|.box (T:=tBase) z z fun b1=>.alloc tBaseA av [] aA z fun b2=>.an z z<|.seq<|.s<|go ?_
 refine .call0 (rd fu _) qj z z fun q3=>.not z z<|.nil<|.cd z ?_ ?_
 ·exact .s<|.buildA z dL aA (.nil) z<|.storeP 0 (Fld.self _) z z z ao<|.arrNil tTab<|.arrNil tLink<|.an z z<|.frzBox 2 1 conv1026_0 z z<|.frzBox 2 0 conv1026_1 z z<|fr
 ·refine .skip<|.s<|go ?_
  refine .call0 (jY fu _ _) jW z z fun q4=>.an z z<|.seq<|.s<|go ?_
  refine .cd z ?_ ?_
  ·refine .s<|go ?_
   refine .callL0 (gv fu _) gr z z fun q5 p6=>go ?_
   exact .frzBox 2 0 conv1026_0 z z<|.frzBox 2 1 conv1026_1 z z<|fr
  ·refine .skip<|.s<|go ?_
   refine .callC z (hc2 _) hn2 z z fun q7=>go ?_
   refine .alloc tTableA aS [] bB z fun b8=>.storeW 0 z z z z ty27<|.an z z<|.seq<|.s<|go ?_
   refine .cd z ?_ ?_
   ·refine .s<|go ?_
    refine .callL0 (gv fu _) gr z z fun q9 p10=>go ?_
    exact .frzBox 3 0 conv1026_0 z z<|.frzBox 3 1 conv1026_1 z z<|fr
   ·refine .skip<|.s<|go ?_
    refine .callL0 (gv fu _) gr z z fun q11 p12=>.alloc tBaseA av [] aA z fun b13=>go ?_
    refine .s<|go ?_
    refine .seq<|.seq<|.frzBox 0 1 conv1026_0 z z<|.frzBox 0 2 conv1026_1 z z<|.g<|go ?_
    refine .call0 (FT fu _) Ex z z fun q14=>.not z z<|.nil<|.cd z ?_ ?_
    ·refine .s<|go ?_
     refine .callL0 (gv fu _) gr z z fun q15 p16=>go ?_
     exact .frzBox 6 0 conv1026_0 z z<|.frzBox 6 1 conv1026_1 z z<|fr
    ·refine .skip<|.s<|go ?_
     exact .storeW 4 z z z z ao<|fr
def wd (fu:Nat)(a0:ac)(a1:List UInt8)(a2:Int)(a3:List Set):Option (ac×Int):=(tu fu a0 a1 (fun x0=>vS fu x0 a2 a3)).bind fun q5=>some (q5.1,q5.2)
theorem E4:Nm prog 45:=nmK func45
theorem Gt (fu:Nat)(a0:ac)(a1:List UInt8)(a2:Int)(a3:List Set):Ctr prog 45 [tBase.va a0,isS a1,isI .i64 a2,(tL tSet).va a3] [] (wd fu a0 a1 a2 a3) (fun _ _=>[]) (fun q=>tup [tBase.va q.1,isI .i64 q.2]):=by
 refine .w func45 ntmps45 fun hf A w=>?_
 unfold wd
 exact .s<|.box (T:=tBase) z z fun b1=>.box (T:=(tI .i64)) z z fun b2=>.box (T:=(tL tSet)) z z fun b3=>.alloc tBase d0_1026 [] cz z fun b4=>.an z z<|.s<|.lp 3 (Fld.self _) z z ao z<|.m z z<|.frzP 2 6 z z<|.frzP 1 7 z z<|.makeF z z<|.call0 (Do fu _ _ (fun x0=>vS fu x0 a2 a3) 106 [c7 (tI .i64) a2,c7 (tL tSet) a3] EO (fun x0=>Ga fu x0 a2 a3)) Ce z z fun q5=>fr
def wc (fu:Nat)(a0:ac)(a1:List UInt8)(a2:Int)(a3:List Set):Option (ac×Int):=(jz fu a0).bind fun q3=>cond (!q3) (some ((⟨d0_1026.tabs,d0_1026.links⟩:ac),1)) ((cY fu a0).bind fun q4=>(qK fu q4 a1 a2 a3).bind fun q5=>some (q5.1,q5.2))
theorem E3:Nm prog 124:=nmK func124
theorem Gs (fu:Nat)(a0:ac)(a1:List UInt8)(a2:Int)(a3:List Set):Ctr prog 124 [tBase.va a0,isS a1,isI .i64 a2,(tL tSet).va a3] [] (wc fu a0 a1 a2 a3) (fun _ _=>[]) (fun q=>tup [tBase.va q.1,isI .i64 q.2]):=by
 refine .w func124 ntmps124 fun hf A w=>?_
 unfold wc
 refine .s<|.box (T:=tBase) z z fun b1=>.alloc tBase d0_1026 [] cz z fun b2=>.an z z<|.seq<|.s<|go ?_
 refine .call0 (ol fu _) nn z z fun q3=>.not z z<|.nil<|.cd z ?_ ?_
 ·exact fr
 ·refine .skip<|.s<|go ?_
  refine .call0 (gZ (dJ fu _)) dH z z fun q4=>go ?_
  exact .call0 (A7 fu _ _ _ _) Ad z z fun q5=>fr
end Go.Proofs.YtganfdhmkdehlaaGreatDoor
