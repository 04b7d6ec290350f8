/- Functions of the program: what each answers, and that the machine answers so. -/
import Derived.Test.YtganfdhmkdehlaaGreatDoorQ2004B8
import Derived.KernelRfl
set_option linter.all false
namespace Go.Proofs.YtganfdhmkdehlaaGreatDoor
open Go Go.HL Tryz
attribute [local irreducible] W WO
def vd (fu:Nat)(a0:ab)(a1:Int)(a2:List Set):Option (ab×Int):=(f75 fu a0 a1 a2).bind fun q3=>some (q3.1,q3.2)
theorem n1104:Nm prog 106:=⟨_,_,func106,by kernel_rfl,z⟩
theorem c1104 (fu:Nat)(a0:ab)(a1:Int)(a2:List Set):Ctr prog 106 [tTable.va a0,cY (tI .i64) a1,cY (tL tSet) a2] [] (vd fu a0 a1 a2) (fun _ _=>[]) (fun q=>tup [tTable.va q.1,isI .i64 q.2]):=by
 refine .w func106 ntmps106 fun hf A w=>?_
 unfold vd
 refine .s<|.box (T:=tTable) z z fun b1=>.alloc tTable d0_27 [] z27 z fun b2=>.an z z<|.s<|go ?_
 exact .call0 (c75 fu _ _ _) n75 z z fun q3=>fr
def pS (fu:Nat)(a0:aj)(a1:ac):Option Bool:=(qh fu a1 a0).bind fun q2=>some (!q2)
theorem n1194:Nm prog 197:=⟨_,_,func197,by kernel_rfl,z⟩
theorem c1194 (fu:Nat)(a0:aj)(a1:ac):Ctr prog 197 [tLink.va a0,cY tBase a1] [] (pS fu a0 a1) (fun _ _=>[]) (fun q=>isB q):=by
 refine .w func197 ntmps197 fun hf A w=>?_
 unfold pS
 refine .s<|.box (T:=tLink) z z fun b1=>.an z z<|.s<|go ?_
 exact .call0 (c1073 fu _ _) n1073 z z fun q2=>fr
def xp (fu:Nat)(a0:List aj)(a1:aj→Option Bool):Option Bool:=(sO fu a0 a1).bind fun q1=>some (decide (0≤q1))
theorem n1193:Nm prog 196:=⟨_,_,func196,by kernel_rfl,z⟩
theorem c1193 (fu : Nat)(a0 : List aj)(a1 : aj → Option Bool)(g1 : Nat)(k1 : List VA)(hn1 : ∃ fn c, prog.funcs[g1]? = some fn ∧ (fn.name == "runtime.NumGoroutine") = false ∧ fn.body = some c)(hc1 : ∀ (x0 : aj), Ctr prog g1 ([tLink.va x0] ++ k1) [] (a1 x0) (fun _ _ => []) (fun q => isB q)) : Ctr prog 196 [(tL tLink).va a0, ca g1 k1] [] (xp fu a0 a1) (fun _ _ => []) (fun q => isB q) := by
 refine .w func196 ntmps196 fun hf A w=>?_
 unfold xp
 refine .s<|.an z z<|.s<|go ?_
 exact .call0 (c1137 fu _ a1 g1 k1 hn1 hc1) n1137 z z fun q1=>fr
def sN (fu:Nat)(a0:ac):Option Bool:=(xp fu a0.links (fun x0=>pS fu x0 a0)).bind fun q2=>some (!q2)
theorem n1161:Nm prog 165:=⟨_,_,func165,by kernel_rfl,z⟩
theorem c1161 (fu:Nat)(a0:ac):Ctr prog 165 [tBase.va a0] [] (sN fu a0) (fun _ _=>[]) (fun q=>isB q):=by
 refine .w func165 ntmps165 fun hf A w=>?_
 unfold sN
 exact .s<|.box (T:=tBase) z z fun b1=>.an z z<|.s<|.fp z cg z<|.lp 0 gz z z fo z<|.frzP 0 1 z z<|.makeF z z<|.call0 (c1193 fu _ (fun x0=>pS fu x0 a0) 197 [cY tBase a0] n1194 (fun x0=>c1194 fu x0 a0)) n1193 z z fun q2=>fr
def sR (fu:Nat)(a0:ac)(a1:List UInt8)(a2:ab→Option (ab×Int)):Option (ac×Int):=(lE fu a0).bind fun q3=>cond (!q3) (some ((⟨([]:List Tab),([]:List aj)⟩:ac),1)) ((eY fu a0 a1).bind fun q4=>cond (decide (q4<0)) ((ez fu a0).bind fun q5=>some (q5,5)) (cond (decide (0≤q4)&&decide (q4 < (a0.tabs.length:Int))) ((a2 ((a0.tabs.getD q4.toNat default).table)).bind fun q7=>cond (!decide (q7.2=0)) ((ez fu a0).bind fun q9=>some (q9,q7.2)) ((ez fu a0).bind fun q11=>cond (decide (0≤q4)&&decide (q4 < (q11.tabs.length:Int))) ((sN fu (⟨q11.tabs.set q4.toNat ({ (q11.tabs.getD q4.toNat default) with table:=q7.1 }:Tab),q11.links⟩:ac)).bind fun q14=>cond (!q14) ((ez fu a0).bind fun q15=>some (q15,7)) (some ((⟨q11.tabs.set q4.toNat ({ (q11.tabs.getD q4.toNat default) with table:=q7.1 }:Tab),q11.links⟩:ac),0))) none)) none))
theorem n1103:Nm prog 103:=⟨_,_,func103,by kernel_rfl,z⟩
theorem c1103 (fu : Nat)(a0 : ac)(a1 : List UInt8)(a2 : ab → Option (ab × Int))(g2 : Nat)(k2 : List VA)(hn2 : ∃ fn c, prog.funcs[g2]? = some fn ∧ (fn.name == "runtime.NumGoroutine") = false ∧ fn.body = some c)(hc2 : ∀ (x0 : ab), Ctr prog g2 ([tTable.va x0] ++ k2) [] (a2 x0) (fun _ _ => []) (fun q => tup [tTable.va q.1, isI .i64 q.2])) : Ctr prog 103 [tBase.va a0, isS a1, ca g2 k2] [] (sR fu a0 a1 a2) (fun _ _ => []) (fun q => tup [tBase.va q.1, isI .i64 q.2]) := by
 refine .w func103 ntmps103 fun hf A w=>?_
 unfold sR
 refine .s<|.box (T:=tBase) z z fun b1=>.alloc tBaseA au [] aA z fun b2=>.an z z<|.seq<|.s<|go ?_
 refine .call0 (c1020 fu _) n1020 z z fun q3=>.not z z<|.nil<|.cd z ?_ ?_
 ·exact .s<|.buildA z dF aA (.nil) z<|.storeP 0 (Fld.self _) z z z al<|.arrNil tTab<|.arrNil tLink<|.an z z<|.frzBox 2 1 conv1026_0 z z<|.frzBox 2 0 conv1026_1 z z<|fr
 ·refine .skip<|.s<|go ?_
  refine .call0 (c1056 fu _ _) n1056 z z fun q4=>.an z z<|.seq<|.s<|go ?_
  refine .cd z ?_ ?_
  ·refine .s<|go ?_
   refine .callL0 (c1054 fu _) n1054 z z fun q5 p6=>go ?_
   exact .frzBox 2 0 conv1026_0 z z<|.frzBox 2 1 conv1026_1 z z<|fr
  ·refine .skip<|.s<|go ?_
   refine .callC z (hc2 _) hn2 z z fun q7=>go ?_
   refine .alloc tTableA aS [] bA z fun b8=>.storeW 0 z z z z ty27<|.an z z<|.seq<|.s<|go ?_
   refine .cd z ?_ ?_
   ·refine .s<|go ?_
    refine .callL0 (c1054 fu _) n1054 z z fun q9 p10=>go ?_
    exact .frzBox 3 0 conv1026_0 z z<|.frzBox 3 1 conv1026_1 z z<|fr
   ·refine .skip<|.s<|go ?_
    refine .callL0 (c1054 fu _) n1054 z z fun q11 p12=>.alloc tBaseA au [] aA z fun b13=>go ?_
    refine .s<|go ?_
    refine .seq<|.seq<|.frzBox 0 1 conv1026_0 z z<|.frzBox 0 2 conv1026_1 z z<|.g<|go ?_
    refine .call0 (c1161 fu _) n1161 z z fun q14=>.not z z<|.nil<|.cd z ?_ ?_
    ·refine .s<|go ?_
     refine .callL0 (c1054 fu _) n1054 z z fun q15 p16=>go ?_
     exact .frzBox 6 0 conv1026_0 z z<|.frzBox 6 1 conv1026_1 z z<|fr
    ·refine .skip<|.s<|go ?_
     exact .storeW 4 z z z z al<|fr
def vp (fu:Nat)(a0:ac)(a1:List UInt8)(a2:Int)(a3:List Set):Option (ac×Int):=(sR fu a0 a1 (fun x0=>vd fu x0 a2 a3)).bind fun q5=>some (q5.1,q5.2)
theorem n1038:Nm prog 45:=⟨_,_,func45,by kernel_rfl,z⟩
theorem c1038 (fu:Nat)(a0:ac)(a1:List UInt8)(a2:Int)(a3:List Set):Ctr prog 45 [tBase.va a0,isS a1,isI .i64 a2,(tL tSet).va a3] [] (vp fu a0 a1 a2 a3) (fun _ _=>[]) (fun q=>tup [tBase.va q.1,isI .i64 q.2]):=by
 refine .w func45 ntmps45 fun hf A w=>?_
 unfold vp
 exact .s<|.box (T:=tBase) z z fun b1=>.box (T:=(tI .i64)) z z fun b2=>.box (T:=(tL tSet)) z z fun b3=>.alloc tBase d0_1026 [] dn z fun b4=>.an z z<|.s<|.lp 3 (Fld.self _) z z al z<|.m z z<|.frzP 2 6 z z<|.frzP 1 7 z z<|.makeF z z<|.call0 (c1103 fu _ _ (fun x0=>vd fu x0 a2 a3) 106 [cY (tI .i64) a2,cY (tL tSet) a3] n1104 (fun x0=>c1104 fu x0 a2 a3)) n1103 z z fun q5=>fr
def vo (fu:Nat)(a0:ac)(a1:List UInt8)(a2:Int)(a3:List Set):Option (ac×Int):=(jm fu a0).bind fun q3=>cond (!q3) (some ((⟨d0_1026.tabs,d0_1026.links⟩:ac),1)) ((d7 fu a0).bind fun q4=>(sQ fu q4 a1 a2 a3).bind fun q5=>some (q5.1,q5.2))
theorem n1039:Nm prog 124:=⟨_,_,func124,by kernel_rfl,z⟩
theorem c1039 (fu:Nat)(a0:ac)(a1:List UInt8)(a2:Int)(a3:List Set):Ctr prog 124 [tBase.va a0,isS a1,isI .i64 a2,(tL tSet).va a3] [] (vo fu a0 a1 a2 a3) (fun _ _=>[]) (fun q=>tup [tBase.va q.1,isI .i64 q.2]):=by
 refine .w func124 ntmps124 fun hf A w=>?_
 unfold vo
 refine .s<|.box (T:=tBase) z z fun b1=>.alloc tBase d0_1026 [] dn z fun b2=>.an z z<|.seq<|.s<|go ?_
 refine .call0 (c1019 fu _) n1019 z z fun q3=>.not z z<|.nil<|.cd z ?_ ?_
 ·exact fr
 ·refine .skip<|.s<|go ?_
  refine .call0 (gO (c1059 fu _)) n1059 z z fun q4=>go ?_
  exact .call0 (c1105 fu _ _ _ _) n1105 z z fun q5=>fr
end Go.Proofs.YtganfdhmkdehlaaGreatDoor
