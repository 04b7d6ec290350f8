/- What functions answer. -/
import Derived.Test.YtganfdhmkdehlaaGreatDoorQ2008B8
import Derived.KernelRfl
set_option linter.all false
namespace Go.Proofs.YtganfdhmkdehlaaGreatDoor
open Go Go.HL Tryz
attribute [local irreducible] W WO
def vM (fu:Nat)(a0:ab)(a1:Int)(a2:List Set):Option (ab×Int):=(f75 fu a0 a1 a2).bind fun q3=>some (q3.1,q3.2)
theorem ED:Nm prog 106:=nmK func106
theorem F0 (fu:Nat)(a0:ab)(a1:Int)(a2:List Set):Ctr prog 106 [tTable.va a0,da (tI .i64) a1,da (tL tSet) a2] [] (vM fu a0 a1 a2) (fun _ _=>[]) (fun q=>tup [tTable.va q.1,isI .i64 q.2]):=by
 refine .w func106 ntmps106 fun hf A w=>?_
 unfold vM
 refine .s<|.box (T:=tTable) z z fun b1=>.alloc tTable d0_27 [] z27 z fun b2=>.an z z<|.s<|go ?_
 exact .call0 (c75 fu _ _ _) n75 z z fun q3=>fr
def qp (fu:Nat)(a0:ai)(a1:ac):Option Bool:=(qK fu a1 a0).bind fun q2=>some (!q2)
theorem Ei:Nm prog 197:=nmK func197
theorem FG (fu:Nat)(a0:ai)(a1:ac):Ctr prog 197 [tLink.va a0,da tBase a1] [] (qp fu a0 a1) (fun _ _=>[]) (fun q=>isB q):=by
 refine .w func197 ntmps197 fun hf A w=>?_
 unfold qp
 refine .s<|.box (T:=tLink) z z fun b1=>.an z z<|.s<|go ?_
 exact .call0 (AY fu _ _) z7 z z fun q2=>fr
def ye (fu:Nat)(a0:List ai)(a1:ai→Option Bool):Option Bool:=(tc fu a0 a1).bind fun q1=>some (decide (0≤q1))
theorem Ej:Nm prog 196:=nmK func196
theorem FH (fu : Nat)(a0 : List ai)(a1 : ai → Option Bool)(g1 : Nat)(k1 : List VA)(hn1 : ∃ fn c, prog.funcs[g1]? = some fn ∧ (fn.name == "runtime.NumGoroutine") = false ∧ fn.body = some c)(hc1 : ∀ (x0 : ai), Ctr prog g1 ([tLink.va x0] ++ k1) [] (a1 x0) (fun _ _ => []) (fun q => isB q)) : Ctr prog 196 [(tL tLink).va a0, cW g1 k1] [] (ye fu a0 a1) (fun _ _ => []) (fun q => isB q) := by
 refine .w func196 ntmps196 fun hf A w=>?_
 unfold ye
 refine .s<|.an z z<|.s<|go ?_
 exact .call0 (Da fu _ a1 g1 k1 hn1 hc1) B3 z z fun q1=>fr
def tb (fu:Nat)(a0:ac):Option Bool:=(ye fu a0.links (fun x0=>qp fu x0 a0)).bind fun q2=>some (!q2)
theorem El:Nm prog 165:=nmK func165
theorem FJ (fu:Nat)(a0:ac):Ctr prog 165 [tBase.va a0] [] (tb fu a0) (fun _ _=>[]) (fun q=>isB q):=by
 refine .w func165 ntmps165 fun hf A w=>?_
 unfold tb
 exact .s<|.box (T:=tBase) z z fun b1=>.an z z<|.s<|.fp z ci z<|.lp 0 gP z z fy z<|.frzP 0 1 z z<|.makeF z z<|.call0 (FH fu _ (fun x0=>qp fu x0 a0) 197 [da tBase a0] Ei (fun x0=>FG fu x0 a0)) Ej z z fun q2=>fr
def td (fu:Nat)(a0:ac)(a1:List UInt8)(a2:ab→Option (ab×Int)):Option (ac×Int):=(jY fu a0).bind fun q3=>cond (!q3) (some ((⟨([]:List Tab),([]:List ai)⟩:ac),1)) ((fc fu a0 a1).bind fun q4=>cond (decide (q4<0)) ((eD fu a0).bind fun q5=>some (q5,5)) (cond (decide (0≤q4)&&decide (q4 < (a0.tabs.length:Int))) ((a2 ((a0.tabs.getD q4.toNat default).table)).bind fun q7=>cond (!decide (q7.2=0)) ((eD fu a0).bind fun q9=>some (q9,q7.2)) ((eD fu a0).bind fun q11=>cond (decide (0≤q4)&&decide (q4 < (q11.tabs.length:Int))) ((tb fu (⟨q11.tabs.set q4.toNat ({ (q11.tabs.getD q4.toNat default) with table:=q7.1 }:Tab),q11.links⟩:ac)).bind fun q14=>cond (!q14) ((eD fu a0).bind fun q15=>some (q15,7)) (some ((⟨q11.tabs.set q4.toNat ({ (q11.tabs.getD q4.toNat default) with table:=q7.1 }:Tab),q11.links⟩:ac),0))) none)) none))
theorem B4:Nm prog 103:=nmK func103
theorem Db (fu : Nat)(a0 : ac)(a1 : List UInt8)(a2 : ab → Option (ab × Int))(g2 : Nat)(k2 : List VA)(hn2 : ∃ fn c, prog.funcs[g2]? = some fn ∧ (fn.name == "runtime.NumGoroutine") = false ∧ fn.body = some c)(hc2 : ∀ (x0 : ab), Ctr prog g2 ([tTable.va x0] ++ k2) [] (a2 x0) (fun _ _ => []) (fun q => tup [tTable.va q.1, isI .i64 q.2])) : Ctr prog 103 [tBase.va a0, isS a1, cW g2 k2] [] (td fu a0 a1 a2) (fun _ _ => []) (fun q => tup [tBase.va q.1, isI .i64 q.2]) := by
 refine .w func103 ntmps103 fun hf A w=>?_
 unfold td
 refine .s<|.box (T:=tBase) z z fun b1=>.alloc tBaseA av [] aA z fun b2=>.an z z<|.seq<|.s<|go ?_
 refine .call0 (px fu _) oQ z z fun q3=>.not z z<|.nil<|.cd z ?_ ?_
 ·exact .s<|.buildA z dK aA (.nil) z<|.storeP 0 (Fld.self _) z z z ap<|.arrNil tTab<|.arrNil tLink<|.an z z<|.frzBox 2 1 conv1026_0 z z<|.frzBox 2 0 conv1026_1 z z<|fr
 ·refine .skip<|.s<|go ?_
  refine .call0 (jZ fu _ _) jW z z fun q4=>.an z z<|.seq<|.s<|go ?_
  refine .cd z ?_ ?_
  ·refine .s<|go ?_
   refine .callL0 (gx fu _) gu z z fun q5 p6=>go ?_
   exact .frzBox 2 0 conv1026_0 z z<|.frzBox 2 1 conv1026_1 z z<|fr
  ·refine .skip<|.s<|go ?_
   refine .callC z (hc2 _) hn2 z z fun q7=>go ?_
   refine .alloc tTableA aT [] bB z fun b8=>.storeW 0 z z z z ty27<|.an z z<|.seq<|.s<|go ?_
   refine .cd z ?_ ?_
   ·refine .s<|go ?_
    refine .callL0 (gx fu _) gu z z fun q9 p10=>go ?_
    exact .frzBox 3 0 conv1026_0 z z<|.frzBox 3 1 conv1026_1 z z<|fr
   ·refine .skip<|.s<|go ?_
    refine .callL0 (gx fu _) gu z z fun q11 p12=>.alloc tBaseA av [] aA z fun b13=>go ?_
    refine .s<|go ?_
    refine .seq<|.seq<|.frzBox 0 1 conv1026_0 z z<|.frzBox 0 2 conv1026_1 z z<|.g<|go ?_
    refine .call0 (FJ fu _) El z z fun q14=>.not z z<|.nil<|.cd z ?_ ?_
    ·refine .s<|go ?_
     refine .callL0 (gx fu _) gu z z fun q15 p16=>go ?_
     exact .frzBox 6 0 conv1026_0 z z<|.frzBox 6 1 conv1026_1 z z<|fr
    ·refine .skip<|.s<|go ?_
     exact .storeW 4 z z z z ap<|fr
def vW (fu:Nat)(a0:ac)(a1:List UInt8)(a2:Int)(a3:List Set):Option (ac×Int):=(td fu a0 a1 (fun x0=>vM fu x0 a2 a3)).bind fun q5=>some (q5.1,q5.2)
theorem EQ:Nm prog 45:=nmK func45
theorem Gf (fu:Nat)(a0:ac)(a1:List UInt8)(a2:Int)(a3:List Set):Ctr prog 45 [tBase.va a0,isS a1,isI .i64 a2,(tL tSet).va a3] [] (vW fu a0 a1 a2 a3) (fun _ _=>[]) (fun q=>tup [tBase.va q.1,isI .i64 q.2]):=by
 refine .w func45 ntmps45 fun hf A w=>?_
 unfold vW
 exact .s<|.box (T:=tBase) z z fun b1=>.box (T:=(tI .i64)) z z fun b2=>.box (T:=(tL tSet)) z z fun b3=>.alloc tBase d0_1026 [] cR z fun b4=>.an z z<|.s<|.lp 3 (Fld.self _) z z ap z<|.m z z<|.frzP 2 6 z z<|.frzP 1 7 z z<|.makeF z z<|.call0 (Db fu _ _ (fun x0=>vM fu x0 a2 a3) 106 [da (tI .i64) a2,da (tL tSet) a3] ED (fun x0=>F0 fu x0 a2 a3)) B4 z z fun q5=>fr
def vV (fu:Nat)(a0:ac)(a1:List UInt8)(a2:Int)(a3:List Set):Option (ac×Int):=(ja fu a0).bind fun q3=>cond (!q3) (some ((⟨d0_1026.tabs,d0_1026.links⟩:ac),1)) ((c6 fu a0).bind fun q4=>(qB fu q4 a1 a2 a3).bind fun q5=>some (q5.1,q5.2))
theorem EP:Nm prog 124:=nmK func124
theorem Ge (fu:Nat)(a0:ac)(a1:List UInt8)(a2:Int)(a3:List Set):Ctr prog 124 [tBase.va a0,isS a1,isI .i64 a2,(tL tSet).va a3] [] (vV fu a0 a1 a2 a3) (fun _ _=>[]) (fun q=>tup [tBase.va q.1,isI .i64 q.2]):=by
 refine .w func124 ntmps124 fun hf A w=>?_
 unfold vV
 refine .s<|.box (T:=tBase) z z fun b1=>.alloc tBase d0_1026 [] cR z fun b2=>.an z z<|.seq<|.s<|go ?_
 refine .call0 (mh fu _) ma z z fun q3=>.not z z<|.nil<|.cd z ?_ ?_
 ·exact fr
 ·refine .skip<|.s<|go ?_
  refine .call0 (ia (dI fu _)) dG z z fun q4=>go ?_
  exact .call0 (AT fu _ _ _ _) zX z z fun q5=>fr
end Go.Proofs.YtganfdhmkdehlaaGreatDoor
