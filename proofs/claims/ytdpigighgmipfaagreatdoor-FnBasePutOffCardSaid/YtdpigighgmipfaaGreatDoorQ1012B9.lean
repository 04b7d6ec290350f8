/- Functions of the program: what each answers, and that the machine answers so. -/
import Derived.Test.YtdpigighgmipfaaGreatDoorQ1012B8
import Derived.Test.YtdpigighgmipfaaGreatDoorQ1012AU
import Derived.KernelRfl
set_option linter.all false
namespace Go.Proofs.YtdpigighgmipfaaGreatDoor
open Go Go.HL Tryz
attribute [local irreducible] W WO
def f1194 (fu:Nat)(a0:Link)(a1:Base):Option Bool:=(f1073 fu a1 a0).bind fun q2=>some (!q2)
theorem n1194:Nm prog 194:=⟨_,_,func194,by kernel_rfl,z⟩
theorem c1194 (fu:Nat)(a0:Link)(a1:Base):Ctr prog 194 [tLink.va a0,isAt tBase a1] [] (f1194 fu a0 a1) (fun _ _=>[]) (fun q=>isB q):=by
 refine .w func194 ntmps194 fun hf A w=>?_
 unfold f1194
 refine .s<|.box (T:=tLink) z z fun b1=>.an z z<|.s<|go ?_
 exact .call0 (c1073 fu _ _) n1073 z z fun q2=>fr
def f1193 (fu:Nat)(a0:List Link)(a1:Link→Option Bool):Option Bool:=(f1137 fu a0 a1).bind fun q1=>some (decide (0≤q1))
theorem n1193:Nm prog 193:=⟨_,_,func193,by kernel_rfl,z⟩
theorem c1193 (fu : Nat)(a0 : List Link)(a1 : Link → Option Bool)(g1 : Nat)(k1 : List VA)(hn1 : ∃ fn c, prog.funcs[g1]? = some fn ∧ (fn.name == "runtime.NumGoroutine") = false ∧ fn.body = some c)(hc1 : ∀ (x0 : Link), Ctr prog g1 ([tLink.va x0] ++ k1) [] (a1 x0) (fun _ _ => []) (fun q => isB q)) : Ctr prog 193 [(tL tLink).va a0, isClo g1 k1] [] (f1193 fu a0 a1) (fun _ _ => []) (fun q => isB q) := by
 refine .w func193 ntmps193 fun hf A w=>?_
 unfold f1193
 refine .s<|.an z z<|.s<|go ?_
 exact .call0 (c1137 fu _ a1 g1 k1 hn1 hc1) n1137 z z fun q1=>fr
def f1161 (fu:Nat)(a0:Base):Option Bool:=(f1193 fu a0.links (fun x0=>f1194 fu x0 a0)).bind fun q2=>some (!q2)
theorem n1161:Nm prog 161:=⟨_,_,func161,by kernel_rfl,z⟩
theorem c1161 (fu:Nat)(a0:Base):Ctr prog 161 [tBase.va a0] [] (f1161 fu a0) (fun _ _=>[]) (fun q=>isB q):=by
 refine .w func161 ntmps161 fun hf A w=>?_
 unfold f1161
 exact .s<|.box (T:=tBase) z z fun b1=>.an z z<|.s<|.fp z fa1026_1 z<|.lp 0 fBase_1 z z ty1024 z<|.frzP 0 1 z z<|.makeF z z<|.call0 (c1193 fu _ (fun x0=>f1194 fu x0 a0) 194 [isAt tBase a0] n1194 (fun x0=>c1194 fu x0 a0)) n1193 z z fun q2=>fr
def f1103 (fu:Nat)(a0:Base)(a1:List UInt8)(a2:Table→Option (Table×Int)):Option (Base×Int):=(f1020 fu a0).bind fun q3=>cond (!q3) (some ((⟨([]:List Tab),([]:List Link)⟩:Base),1)) ((f1056 fu a0 a1).bind fun q4=>cond (decide (q4<0)) ((f1054 fu a0).bind fun q5=>some (q5,5)) (cond (decide (0≤q4)&&decide (q4 < (a0.tabs.length:Int))) ((a2 ((a0.tabs.getD q4.toNat default).table)).bind fun q7=>cond (!decide (q7.2=0)) ((f1054 fu a0).bind fun q9=>some (q9,q7.2)) ((f1054 fu a0).bind fun q11=>cond (decide (0≤q4)&&decide (q4 < (q11.tabs.length:Int))) ((f1161 fu (⟨q11.tabs.set q4.toNat ({ (q11.tabs.getD q4.toNat default) with table:=q7.1 }:Tab),q11.links⟩:Base)).bind fun q14=>cond (!q14) ((f1054 fu a0).bind fun q15=>some (q15,7)) (some ((⟨q11.tabs.set q4.toNat ({ (q11.tabs.getD q4.toNat default) with table:=q7.1 }:Tab),q11.links⟩:Base),0))) none)) none))
theorem n1103:Nm prog 103:=⟨_,_,func103,by kernel_rfl,z⟩
theorem c1103 (fu : Nat)(a0 : Base)(a1 : List UInt8)(a2 : Table → Option (Table × Int))(g2 : Nat)(k2 : List VA)(hn2 : ∃ fn c, prog.funcs[g2]? = some fn ∧ (fn.name == "runtime.NumGoroutine") = false ∧ fn.body = some c)(hc2 : ∀ (x0 : Table), Ctr prog g2 ([tTable.va x0] ++ k2) [] (a2 x0) (fun _ _ => []) (fun q => tup [tTable.va q.1, isI .i64 q.2])) : Ctr prog 103 [tBase.va a0, isS a1, isClo g2 k2] [] (f1103 fu a0 a1 a2) (fun _ _ => []) (fun q => tup [tBase.va q.1, isI .i64 q.2]) := by
 refine .w func103 ntmps103 fun hf A w=>?_
 unfold f1103
 refine .s<|.box (T:=tBase) z z fun b1=>.alloc tBaseA d0A1026 [] zA1026 z fun b2=>.an z z<|.seq<|.s<|go ?_
 refine .call0 (c1020 fu _) n1020 z z fun q3=>.not z z<|.nil<|.cd z ?_ ?_
 ·exact .s<|.buildA z st1026 zA1026 (.nil) z<|.storeP 0 (Fld.self _) z z z ty1026<|.arrNil tTab<|.arrNil tLink<|.an z z<|.frzBox 2 1 conv1026_0 z z<|.frzBox 2 0 conv1026_1 z z<|fr
 ·refine .skip<|.s<|go ?_
  refine .call0 (c1056 fu _ _) n1056 z z fun q4=>.an z z<|.seq<|.s<|go ?_
  refine .cd z ?_ ?_
  ·refine .s<|go ?_
   refine .callL0 (c1054 fu _) n1054 z z fun q5 p6=>go ?_
   exact .frzBox 2 0 conv1026_0 z z<|.frzBox 2 1 conv1026_1 z z<|fr
  ·refine .skip<|.s<|go ?_
   refine .callC z (hc2 _) hn2 z z fun q7=>go ?_
   refine .alloc tTableA d0A27 [] zA27 z fun b8=>.storeW 0 z z z z ty27<|.an z z<|.seq<|.s<|go ?_
   refine .cd z ?_ ?_
   ·refine .s<|go ?_
    refine .callL0 (c1054 fu _) n1054 z z fun q9 p10=>go ?_
    exact .frzBox 3 0 conv1026_0 z z<|.frzBox 3 1 conv1026_1 z z<|fr
   ·refine .skip<|.s<|go ?_
    refine .callL0 (c1054 fu _) n1054 z z fun q11 p12=>.alloc tBaseA d0A1026 [] zA1026 z fun b13=>go ?_
    refine .s<|go ?_
    refine .seq<|.seq<|.frzBox 0 1 conv1026_0 z z<|.frzBox 0 2 conv1026_1 z z<|.g<|go ?_
    refine .call0 (c1161 fu _) n1161 z z fun q14=>.not z z<|.nil<|.cd z ?_ ?_
    ·refine .s<|go ?_
     refine .callL0 (c1054 fu _) n1054 z z fun q15 p16=>go ?_
     exact .frzBox 6 0 conv1026_0 z z<|.frzBox 6 1 conv1026_1 z z<|fr
    ·refine .skip<|.s<|go ?_
     exact .storeW 4 z z z z ty1026<|fr
end Go.Proofs.YtdpigighgmipfaaGreatDoor
