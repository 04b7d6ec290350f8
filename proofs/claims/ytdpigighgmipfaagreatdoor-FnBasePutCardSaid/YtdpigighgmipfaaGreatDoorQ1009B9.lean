/- Functions of the program: what each answers, and that the machine answers so. -/
import Derived.Test.YtdpigighgmipfaaGreatDoorQ1009B7
import Derived.KernelRfl
import Derived.KernelRfl
set_option linter.all false
namespace Go.Proofs.YtdpigighgmipfaaGreatDoor
open Go Go.HL Tryz
def f1194 (fu:Nat)(a0:Link)(a1:Base):Option Bool:=(f1073 fu a1 a0).bind fun q2=>some (!q2)
theorem n1194:Nm prog 194:=⟨_,_,func194,by kernel_rfl,z⟩
theorem c1194 (fu:Nat)(a0:Link)(a1:Base):Ctr prog 194 [tLink.va a0,isAt tBase a1] [] (f1194 fu a0 a1) (fun _ _=>[]) (fun q=>isB q):=by
 refine Ctr.of_W func194 z ntmps194 z fun A w=>?_
 unfold f1194
 exact .s<|.box (T:=tLink) z z fun b1=>.an z z<|.s<|.load z ty1026 z<|.lp 0 (Fld.self _) z z ty1044 z<|.call0 (c1073 fu _ _) n1073 z z fun q2=>.not z z<|.an z z<|.ret1 func194 results194 (.tmp z) z (fun _ _=>.c<|.e)
def f1193 (fu:Nat)(a0:List Link)(a1:Link→Option Bool):Option Bool:=(f1137 fu a0 a1).bind fun q1=>some (decide (0≤q1))
theorem n1193:Nm prog 193:=⟨_,_,func193,by kernel_rfl,z⟩
theorem c1193 (fu : Nat)(a0 : List Link)(a1 : Link → Option Bool)(g1 : Nat)(k1 : List VA)(hn1 : ∃ fn c, prog.funcs[g1]? = some fn ∧ (fn.name == "runtime.NumGoroutine") = false ∧ fn.body = some c)(hc1 : ∀ (x0 : Link), Ctr prog g1 ([tLink.va x0] ++ k1) [] (a1 x0) (fun _ _ => []) (fun q => isB q)) : Ctr prog 193 [(tL tLink).va a0, isClo g1 k1] [] (f1193 fu a0 a1) (fun _ _ => []) (fun q => isB q) := by
 refine Ctr.of_W func193 z ntmps193 z fun A w=>?_
 unfold f1193
 exact .s<|.an z z<|.s<|.m z z<|.m z z<|.call0 (c1137 fu _ a1 g1 k1 hn1 hc1) n1137 z z fun q1=>.bin z z z z<|.an z z<|.ret1 func193 results193 (.tmp z) z (fun _ _=>.e)
def f1161 (fu:Nat)(a0:Base):Option Bool:=(f1193 fu a0.links (fun x0=>f1194 fu x0 a0)).bind fun q2=>some (!q2)
theorem n1161:Nm prog 161:=⟨_,_,func161,by kernel_rfl,z⟩
theorem c1161 (fu:Nat)(a0:Base):Ctr prog 161 [tBase.va a0] [] (f1161 fu a0) (fun _ _=>[]) (fun q=>isB q):=by
 refine Ctr.of_W func161 z ntmps161 z fun A w=>?_
 unfold f1161
 exact .s<|.box (T:=tBase) z z fun b1=>.an z z<|.s<|.fp z fa1026_1 z<|.lp 0 fBase_1 z z ty1024 z<|.frzP 0 1 z z<|.makeF z z<|.call0 (c1193 fu _ (fun x0=>f1194 fu x0 a0) 194 [isAt tBase a0] n1194 (fun x0=>c1194 fu x0 a0)) n1193 z z fun q2=>.not z z<|.an z z<|.ret1 func161 results161 (.tmp z) z (fun _ _=>.e)
def f1103 (fu:Nat)(a0:Base)(a1:List UInt8)(a2:Table→Option (Table×Int)):Option (Base×Int):=(f1020 fu a0).bind fun q3=>cond (!q3) (some ((⟨([]:List Tab),([]:List Link)⟩:Base),1)) ((f1056 fu a0 a1).bind fun q4=>cond (decide (q4<0)) ((f1054 fu a0).bind fun q5=>some (q5,5)) (cond (decide (0≤q4)&&decide (q4 < (a0.tabs.length:Int))) ((a2 ((a0.tabs.getD q4.toNat default).table)).bind fun q7=>cond (!decide (q7.2=0)) ((f1054 fu a0).bind fun q9=>some (q9,q7.2)) ((f1054 fu a0).bind fun q11=>cond (decide (0≤q4)&&decide (q4 < (q11.tabs.length:Int))) ((f1161 fu (⟨q11.tabs.set q4.toNat ({ (q11.tabs.getD q4.toNat default) with table:=q7.1 }:Tab),q11.links⟩:Base)).bind fun q14=>cond (!q14) ((f1054 fu a0).bind fun q15=>some (q15,7)) (some ((⟨q11.tabs.set q4.toNat ({ (q11.tabs.getD q4.toNat default) with table:=q7.1 }:Tab),q11.links⟩:Base),0))) none)) none))
theorem n1103:Nm prog 103:=⟨_,_,func103,by kernel_rfl,z⟩
theorem c1103 (fu : Nat)(a0 : Base)(a1 : List UInt8)(a2 : Table → Option (Table × Int))(g2 : Nat)(k2 : List VA)(hn2 : ∃ fn c, prog.funcs[g2]? = some fn ∧ (fn.name == "runtime.NumGoroutine") = false ∧ fn.body = some c)(hc2 : ∀ (x0 : Table), Ctr prog g2 ([tTable.va x0] ++ k2) [] (a2 x0) (fun _ _ => []) (fun q => tup [tTable.va q.1, isI .i64 q.2])) : Ctr prog 103 [tBase.va a0, isS a1, isClo g2 k2] [] (f1103 fu a0 a1 a2) (fun _ _ => []) (fun q => tup [tBase.va q.1, isI .i64 q.2]) := by
 refine Ctr.of_W func103 z ntmps103 z fun A w=>?_
 unfold f1103
 refine .s<|.box (T:=tBase) z z fun b1=>.alloc tBaseA d0A1026 [] zA1026 z fun b2=>.an z z<|.seq<|.s<|.lp 1 (Fld.self _) z z ty1026 z<|.call0 (c1020 fu _) n1020 z z fun q3=>.not z z<|.nil<|.cd z ?_ ?_
 ·exact .s<|.buildA z st1026 zA1026 (.nil) z<|.storeP 0 (Fld.self _) z z z ty1026<|.arrNil tTab<|.arrNil tLink<|.an z z<|.frzBox 2 1 conv1026_0 z z<|.frzBox 2 0 conv1026_1 z z<|.ret2 func103 results103 (.cell 2 z z ty1026) (.tmp z) z (fun _=>.c<|.c<|.c<|.c<|.e)
 ·refine .skip<|.s<|.lp 1 (Fld.self _) z z ty1026 z<|.m z z<|.call0 (c1056 fu _ _) n1056 z z fun q4=>.an z z<|.seq<|.s<|.m z z<|.bin z z z z<|.nil<|.cd z ?_ ?_
  ·exact .s<|.lp 1 (Fld.self _) z z ty1026 z<|.callL0 (c1054 fu _) n1054 z z fun q5 p6=>.storeP 2 (Fld.self _) z z z ty1026<|.an z z<|.frzBox 2 0 conv1026_0 z z<|.frzBox 2 1 conv1026_1 z z<|.ret2 func103 results103 (.cell 2 z z ty1026) (.tmp z) z (fun _=>.c<|.c<|.c<|.c<|.e)
  ·refine .skip<|.s<|.m z z<|.fp z fa1026_0 z<|.lp 1 fBase_0 z z ty1023 z<|.m z z<|.elemAt z z u23 ty1039 z<|.fieldAt fTab_1 z fa1039_1 z<|.load z ty27 z<|.callC z (hc2 _) hn2 z z fun q7=>.m z z<|.extract z z z<|.extract z z z<|.alloc tTableA d0A27 [] zA27 z fun b8=>.storeW 0 z z z z ty27<|.an z z<|.seq<|.s<|.m z z<|.bin z z z z<|.nil<|.cd z ?_ ?_
   ·exact .s<|.lp 2 (Fld.self _) z z ty1026 z<|.callL0 (c1054 fu _) n1054 z z fun q9 p10=>.m z z<|.storeP 3 (Fld.self _) z z z ty1026<|.an z z<|.frzBox 3 0 conv1026_0 z z<|.frzBox 3 1 conv1026_1 z z<|.ret2 func103 results103 (.cell 3 z z ty1026) (.tmp z) z (fun _=>.c<|.c<|.c<|.c<|.c<|.e)
   ·refine .skip<|.s<|.lp 2 (Fld.self _) z z ty1026 z<|.callL0 (c1054 fu _) n1054 z z fun q11 p12=>.alloc tBaseA d0A1026 [] zA1026 z fun b13=>.storeP 0 (Fld.self _) z z z ty1026<|.nil<|.s<|.fp z fa1026_0 z<|.loadR 0 fBaseA_0 z z ty1023 z<|.know 42 z<|.m z z<|.lp 3 (Fld.self _) z z ty27 z<|.elemA 1 z z z u23 ty1039 z<|.fieldA z fa1039_1 z<|.storeA 1 fTab_1 z z z ty27<|.nil<|.seq<|.seq<|.frzBox 0 1 conv1026_0 z z<|.frzBox 0 2 conv1026_1 z z<|.g<|.lp 0 (Fld.self _) z z ty1026 z<|.call0 (c1161 fu _) n1161 z z fun q14=>.not z z<|.nil<|.cd z ?_ ?_
    ·exact .s<|.lp 5 (Fld.self _) z z ty1026 z<|.callL0 (c1054 fu _) n1054 z z fun q15 p16=>.storeP 6 (Fld.self _) z z z ty1026<|.an z z<|.frzBox 6 0 conv1026_0 z z<|.frzBox 6 1 conv1026_1 z z<|.ret2 func103 results103 (.cell 6 z z ty1026) (.tmp z) z (fun _=>.c<|.c<|.c<|.c<|.c<|.c<|.c<|.c<|.e)
    ·exact .skip<|.s<|.lp 0 (Fld.self _) z z ty1026 z<|.storeW 4 z z z z ty1026<|.an z z<|.ret2 func103 results103 (.cell 4 z z ty1026) (.tmp z) z (fun _=>.c<|.c<|.c<|.c<|.c<|.c<|.e)
end Go.Proofs.YtdpigighgmipfaaGreatDoor
