/- Functions of the program: what each answers, and that the machine answers so. -/
import Derived.Test.YtdpigighgmipfaaGreatDoorQ1008B8
import Derived.KernelRfl
set_option linter.all false
namespace Go.Proofs.YtdpigighgmipfaaGreatDoor
open Go Go.HL Tryz
def f1037_j1 (fu:Nat)(q4:Base×Rd)(q6:((List UInt8)×Int)×Rd)(q7:Int)(i8:Bool):Option (Base×(List UInt8)×Int×(List Set)):=cond i8 ((f125 fu q6.2).bind fun q9=>(f62 fu q9.2 q9.1).bind fun q10=>some (q4.1,q6.1.1,q6.1.2,q10.1)) ((f1102 fu q6.2 q4.1 q7).bind fun q11=>some (q4.1,q6.1.1,q6.1.2,q11.1))
def f1037 (fu:Nat)(a0:List Int):Option (Base×(List UInt8)×Int×(List Set)):=(f60 fu a0).bind fun q2=>(f1050 fu q2).bind fun q4=>(f1096 fu q4.2 q4.1).bind fun q6=>(f1062 fu q4.1 q6.1.1).bind fun q7=>cond (decide (q7<0)) (f1037_j1 fu q4 q6 q7 true) ((f1019 fu q4.1).bind fun q12=>f1037_j1 fu q4 q6 q7 (!q12))
theorem n1037:Nm prog 37:=⟨_,_,func37,by kernel_rfl,z⟩
theorem c1037 (fu:Nat)(a0:List Int):Ctr prog 37 [(tL (tI .u8)).va a0] [] (f1037 fu a0) (fun _ _=>[]) (fun q=>tup [tBase.va q.1,isS q.2.1,isI .i64 q.2.2.1,(tL tSet).va q.2.2.2]):=by
 refine Ctr.of_W func37 z ntmps37 z fun A w=>?_
 unfold f1037
 refine .s<|.alloc tBase d0_1026 [] z1026 z fun b1=>.a z z<|.a z z<|.assignNil tSet z<|.nil<|.s<|.m z z<|.callP (c60 fu _) n60 z z fun q2 b3=>.an z z<|.s<|.m z z<|.call1 0 (c1050 fu _ _) z n1050 z z fun q4=>.alloc tBase d0_1026 [] z1026 z fun b5=>.storeP 0 (Fld.self _) z z z ty1026<|.nil<|.s<|.m z z<|.lp 0 (Fld.self _) z z ty1026 z<|.call1 1 (c1096 fu _ _ _) z n1096 z z fun q6=>.m z z<|.extract z z z<|.extract z z z<|.a z z<|.an z z<|.s<|.lp 0 (Fld.self _) z z ty1026 z<|.m z z<|.call0 (c1062 fu _ _) n1062 z z fun q7=>.an z z<|.seq<|.seq<|.join1 (fun i8=>⟨[(2,isP b1 0,none),(6,isP b3 0,none),(7,isP b5 0,none),(8,isS q6.1.1,none),(9,isI .i64 q6.1.2,none),(10,isI .i64 q7,none),(30,isB i8,none)],[boxO b5 tBase q4.1 [],boxO b3 tRd q6.2 [],boxO b1 tBase d0_1026 []]⟩) (fun i8=>f1037_j1 fu q4 q6 q7 i8) (fun i8=>?_) (fun hj1=>?_)
 ·refine .cd z ?_ ?_
  ·refine .seq<|.pbind fun q9 h1=>?_
   refine .pbind fun q10 h2=>?_
   exact .drawS 7 [1,2] [5,6] [1] mix (by kernel_rfl) (.k (fun p e=>.lp 0 (Fld.self _) (e.op z) (p.get z z) ty1026 z)<|.j (fun o=>.m (o z) z)<|.j (fun o=>.m (o z) z)<|.j (fun o=>.m (o z) z)<|.j (fun o=>.m (o z) z)<|.skip<|.skip<|.nil) z<|.cons (d:=36) z z fun _ _ hE h=>.bindE h1 (fun r h=>.call1 1 (c125 fu _ _) z n125 (hE.ops z) z h)<|h _ _ (.same<|.hole z<|.same<|.nil)<|.cons (d:=37) z z fun _ _ hE h=>.bindE h2 (fun r h=>.call1 1 (c62 fu _ _ _) z n62 (hE.ops z) z h)<|h _ _ (.same<|.hole z<|.same<|.nil)<|.nil<|.storeP 2 (Fld.self _) z z z ty1026<|.a z z<|.a z z<|.an z z<|.ret4 func37 results37 (.cell 2 z z ty1026) (.tmp z) (.tmp z) (.tmp z) z (fun _=>.c<|.c<|.c<|.e)
  ·refine .skip<|.seq<|.pbind fun q11 h3=>?_
   exact .drawS 7 [1,2] [6] [1] mix (by kernel_rfl) (.k (fun p e=>.lp 0 (Fld.self _) (e.op z) (p.get z z) ty1026 z)<|.j (fun o=>.m (o z) z)<|.j (fun o=>.m (o z) z)<|.j (fun o=>.m (o z) z)<|.k (fun p e=>.lp 0 (Fld.self _) (e.op z) (p.get z z) ty1026 z)<|.j (fun o=>.m (o z) z)<|.skip<|.nil) z<|.cons (d:=44) z z fun _ _ hE h=>.bindE h3 (fun r h=>.call1 1 (c1102 fu _ _ _ _) z n1102 (hE.ops z) z h)<|h _ _ (.same<|.hole z<|.same<|.nil)<|.nil<|.storeP 2 (Fld.self _) z z z ty1026<|.a z z<|.a z z<|.an z z<|.ret4 func37 results37 (.cell 2 z z ty1026) (.tmp z) (.tmp z) (.tmp z) z (fun _=>.c<|.c<|.c<|.e)
 ·refine .g<|.m z z<|.bin z z z z<|.m z z<|.split 26 z (fun _=>?_) (fun _=>?_)
  ·exact .off z z z<|.off z z z<|.off z z z<|.pickT z z z<|.nil<|.keep [2,6,7,8,9,10,30] [] z (hj1 _)
  ·exact .on z z<|.lp 0 (Fld.self _) z z ty1026 z<|.on z z<|.call0 (c1019 fu _) n1019 z z fun q12=>.on z z<|.not z z<|.pickF z z z<|.nil<|.keep [2,6,7,8,9,10,30] [] z (hj1 _)
def f1104 (fu:Nat)(a0:Table)(a1:Int)(a2:List Set):Option (Table×Int):=(f75 fu a0 a1 a2).bind fun q3=>some (q3.1,q3.2)
theorem n1104:Nm prog 104:=⟨_,_,func104,by kernel_rfl,z⟩
theorem c1104 (fu:Nat)(a0:Table)(a1:Int)(a2:List Set):Ctr prog 104 [tTable.va a0,isAt (tI .i64) a1,isAt (tL tSet) a2] [] (f1104 fu a0 a1 a2) (fun _ _=>[]) (fun q=>tup [tTable.va q.1,isI .i64 q.2]):=by
 refine Ctr.of_W func104 z ntmps104 z fun A w=>?_
 unfold f1104
 exact .s<|.box (T:=tTable) z z fun b1=>.alloc tTable d0_27 [] z27 z fun b2=>.an z z<|.s<|.lp 1 (Fld.self _) z z ty27 z<|.load z ty3 z<|.load z ty40 z<|.call0 (c75 fu _ _ _) n75 z z fun q3=>.extract z z z<|.extract z z z<|.storeP 0 (Fld.self _) z z z ty27<|.an z z<|.ret2 func104 results104 (.cell 0 z z ty27) (.tmp z) z (fun _=>.c<|.c<|.e)
def f1194 (fu:Nat)(a0:Link)(a1:Base):Option Bool:=(f1073 fu a1 a0).bind fun q2=>some (!q2)
theorem n1194:Nm prog 194:=⟨_,_,func194,by kernel_rfl,z⟩
theorem c1194 (fu:Nat)(a0:Link)(a1:Base):Ctr prog 194 [tLink.va a0,isAt tBase a1] [] (f1194 fu a0 a1) (fun _ _=>[]) (fun q=>isB q):=by
 refine Ctr.of_W func194 z ntmps194 z fun A w=>?_
 unfold f1194
 exact .s<|.box (T:=tLink) z z fun b1=>.an z z<|.s<|.load z ty1026 z<|.lp 0 (Fld.self _) z z ty1044 z<|.call0 (c1073 fu _ _) n1073 z z fun q2=>.not z z<|.an z z<|.ret1 func194 results194 (.tmp z) z (fun _ _=>.c<|.e)
def f1193 (fu:Nat)(a0:List Link)(a1:Link→Option Bool):Option Bool:=(f1137 fu a0 a1).bind fun q1=>some (decide (0≤q1))
theorem n1193:Nm prog 193:=⟨_,_,func193,by kernel_rfl,z⟩
theorem c1193 (fu : Nat)(a0 : List Link)(a1 : Link → Option Bool)(g1 : Nat)(k1 : List VA)(hn1 : ∃ fn c, prog.funcs[g1]? = some fn ∧ (fn.name == "runtime.NumGoroutine") = false ∧ fn.body = some c)(hc1 : ∀ (x0 : Link), Ctr prog g1 ([tLink.va x0] ++ k1) [] (a1 x0) (fun _ _ => []) (fun q => isB q)) : Ctr prog 193 [(tL tLink).va a0, isClo g1 k1] [] (f1193 fu a0 a1) (fun _ _ => []) (fun q => isB q) := by
 refine Ctr.of_W func193 z ntmps193 z fun A w=>?_
 unfold f1193
 exact .s<|.an z z<|.s<|.m z z<|.m z z<|.call0 (c1137 fu _ a1 g1 k1 hn1 hc1) n1137 z z fun q1=>.bin z z z z<|.an z z<|.ret1 func193 results193 (.tmp z) z (fun _ _=>.e)
def f1161 (fu:Nat)(a0:Base):Option Bool:=(f1193 fu a0.links (fun x0=>f1194 fu x0 a0)).bind fun q2=>some (!q2)
theorem n1161:Nm prog 161:=⟨_,_,func161,by kernel_rfl,z⟩
theorem c1161 (fu:Nat)(a0:Base):Ctr prog 161 [tBase.va a0] [] (f1161 fu a0) (fun _ _=>[]) (fun q=>isB q):=by
 refine Ctr.of_W func161 z ntmps161 z fun A w=>?_
 unfold f1161
 exact .s<|.box (T:=tBase) z z fun b1=>.an z z<|.s<|.fp z fa1026_1 z<|.lp 0 fBase_1 z z ty1024 z<|.frzP 0 1 z z<|.makeF z z<|.call0 (c1193 fu _ (fun x0=>f1194 fu x0 a0) 194 [isAt tBase a0] n1194 (fun x0=>c1194 fu x0 a0)) n1193 z z fun q2=>.not z z<|.an z z<|.ret1 func161 results161 (.tmp z) z (fun _ _=>.e)
def f1103 (fu:Nat)(a0:Base)(a1:List UInt8)(a2:Table→Option (Table×Int)):Option (Base×Int):=(f1020 fu a0).bind fun q3=>cond (!q3) (some ((⟨([]:List Tab),([]:List Link)⟩:Base),1)) ((f1056 fu a0 a1).bind fun q4=>cond (decide (q4<0)) ((f1054 fu a0).bind fun q5=>some (q5,5)) (cond (decide (0≤q4)&&decide (q4 < (a0.tabs.length:Int))) ((a2 ((a0.tabs.getD q4.toNat default).table)).bind fun q7=>cond (!decide (q7.2=0)) ((f1054 fu a0).bind fun q9=>some (q9,q7.2)) ((f1054 fu a0).bind fun q11=>cond (decide (0≤q4)&&decide (q4 < (q11.tabs.length:Int))) ((f1161 fu (⟨q11.tabs.set q4.toNat ({ (q11.tabs.getD q4.toNat default) with table:=q7.1 }:Tab),q11.links⟩:Base)).bind fun q14=>cond (!q14) ((f1054 fu a0).bind fun q15=>some (q15,7)) (some ((⟨q11.tabs.set q4.toNat ({ (q11.tabs.getD q4.toNat default) with table:=q7.1 }:Tab),q11.links⟩:Base),0))) none)) none))
theorem n1103:Nm prog 103:=⟨_,_,func103,by kernel_rfl,z⟩
theorem c1103 (fu : Nat)(a0 : Base)(a1 : List UInt8)(a2 : Table → Option (Table × Int))(g2 : Nat)(k2 : List VA)(hn2 : ∃ fn c, prog.funcs[g2]? = some fn ∧ (fn.name == "runtime.NumGoroutine") = false ∧ fn.body = some c)(hc2 : ∀ (x0 : Table), Ctr prog g2 ([tTable.va x0] ++ k2) [] (a2 x0) (fun _ _ => []) (fun q => tup [tTable.va q.1, isI .i64 q.2])) : Ctr prog 103 [tBase.va a0, isS a1, isClo g2 k2] [] (f1103 fu a0 a1 a2) (fun _ _ => []) (fun q => tup [tBase.va q.1, isI .i64 q.2]) := by
 refine Ctr.of_W func103 z ntmps103 z fun A w=>?_
 unfold f1103
 refine .s<|.box (T:=tBase) z z fun b1=>.alloc tBaseA d0A1026 [] zA1026 z fun b2=>.an z z<|.seq<|.s<|.lp 1 (Fld.self _) z z ty1026 z<|.call0 (c1020 fu _) n1020 z z fun q3=>.not z z<|.nil<|.cd z ?_ ?_
 ·exact .s<|.buildA z st1026 zA1026 (.nil) z<|.storeP 0 (Fld.self _) z z z ty1026<|.arrNil tTab<|.arrNil tLink<|.an z z<|.frzBox 2 1 conv1026_0 z z<|.frzBox 2 0 conv1026_1 z z<|.ret2 func103 results103 (.cell 2 z z ty1026) (.tmp z) z (fun _=>.c<|.c<|.c<|.c<|.e)
 ·refine .skip<|.s<|.lp 1 (Fld.self _) z z ty1026 z<|.m z z<|.call0 (c1056 fu _ _) n1056 z z fun q4=>.an z z<|.seq<|.s<|.m z z<|.bin z z z z<|.nil<|.cd z ?_ ?_
  ·exact .s<|.lp 1 (Fld.self _) z z ty1026 z<|.callL0 (c1054 fu _) n1054 z z fun q5 p6=>.storeP 2 (Fld.self _) z z z ty1026<|.an z z<|.frzBox 2 0 conv1026_0 z z<|.frzBox 2 1 conv1026_1 z z<|.ret2 func103 results103 (.cell 2 z z ty1026) (.tmp z) z (fun _=>.c<|.c<|.c<|.c<|.e)
  ·refine .skip<|.s<|.m z z<|.fp z fa1026_0 z<|.lp 1 fBase_0 z z ty1023 z<|.m z z<|.elemAt z z u23 ty1039 z<|.fieldAt fTab_1 z fa1039_1 z<|.load z ty27 z<|.callC z (hc2 _) hn2 z z fun q7=>.m z z<|.extract z z z<|.extract z z z<|.alloc tTableA d0A27 [] zA27 z fun b8=>.storeW 0 z z z z ty27<|.an z z<|.seq<|.s<|.m z z<|.bin z z z z<|.nil<|.cd z ?_ ?_
   ·exact .s<|.lp 2 (Fld.self _) z z ty1026 z<|.callL0 (c1054 fu _) n1054 z z fun q9 p10=>.m z z<|.storeP 3 (Fld.self _) z z z ty1026<|.an z z<|.frzBox 3 0 conv1026_0 z z<|.frzBox 3 1 conv1026_1 z z<|.ret2 func103 results103 (.cell 3 z z ty1026) (.tmp z) z (fun _=>.c<|.c<|.c<|.c<|.c<|.e)
   ·refine .skip<|.s<|.lp 2 (Fld.self _) z z ty1026 z<|.callL0 (c1054 fu _) n1054 z z fun q11 p12=>.alloc tBaseA d0A1026 [] zA1026 z fun b13=>.storeP 0 (Fld.self _) z z z ty1026<|.nil<|.s<|.fp z fa1026_0 z<|.loadR 0 fBaseA_0 z z ty1023 z<|.know 42 z<|.m z z<|.lp 3 (Fld.self _) z z ty27 z<|.elemA 1 z z z u23 ty1039 z<|.fieldA z fa1039_1 z<|.storeA 1 fTab_1 z z z ty27<|.nil<|.seq<|.seq<|.frzBox 0 1 conv1026_0 z z<|.frzBox 0 2 conv1026_1 z z<|.g<|.lp 0 (Fld.self _) z z ty1026 z<|.call0 (c1161 fu _) n1161 z z fun q14=>.not z z<|.nil<|.cd z ?_ ?_
    ·exact .s<|.lp 5 (Fld.self _) z z ty1026 z<|.callL0 (c1054 fu _) n1054 z z fun q15 p16=>.storeP 6 (Fld.self _) z z z ty1026<|.an z z<|.frzBox 6 0 conv1026_0 z z<|.frzBox 6 1 conv1026_1 z z<|.ret2 func103 results103 (.cell 6 z z ty1026) (.tmp z) z (fun _=>.c<|.c<|.c<|.c<|.c<|.c<|.c<|.c<|.e)
    ·exact .skip<|.s<|.lp 0 (Fld.self _) z z ty1026 z<|.storeW 4 z z z z ty1026<|.an z z<|.ret2 func103 results103 (.cell 4 z z ty1026) (.tmp z) z (fun _=>.c<|.c<|.c<|.c<|.c<|.c<|.e)
def f1038 (fu:Nat)(a0:Base)(a1:List UInt8)(a2:Int)(a3:List Set):Option (Base×Int):=(f1103 fu a0 a1 (fun x0=>f1104 fu x0 a2 a3)).bind fun q5=>some (q5.1,q5.2)
theorem n1038:Nm prog 38:=⟨_,_,func38,by kernel_rfl,z⟩
theorem c1038 (fu:Nat)(a0:Base)(a1:List UInt8)(a2:Int)(a3:List Set):Ctr prog 38 [tBase.va a0,isS a1,isI .i64 a2,(tL tSet).va a3] [] (f1038 fu a0 a1 a2 a3) (fun _ _=>[]) (fun q=>tup [tBase.va q.1,isI .i64 q.2]):=by
 refine Ctr.of_W func38 z ntmps38 z fun A w=>?_
 unfold f1038
 exact .s<|.box (T:=tBase) z z fun b1=>.box (T:=(tI .i64)) z z fun b2=>.box (T:=(tL tSet)) z z fun b3=>.alloc tBase d0_1026 [] z1026 z fun b4=>.an z z<|.s<|.lp 3 (Fld.self _) z z ty1026 z<|.m z z<|.frzP 2 6 z z<|.frzP 1 7 z z<|.makeF z z<|.call0 (c1103 fu _ _ (fun x0=>f1104 fu x0 a2 a3) 104 [isAt (tI .i64) a2,isAt (tL tSet) a3] n1104 (fun x0=>c1104 fu x0 a2 a3)) n1103 z z fun q5=>.extract z z z<|.extract z z z<|.storeP 0 (Fld.self _) z z z ty1026<|.an z z<|.ret2 func38 results38 (.cell 0 z z ty1026) (.tmp z) z (fun _=>.c<|.c<|.e)
def f1039 (fu:Nat)(a0:Base)(a1:List UInt8)(a2:Int)(a3:List Set):Option (Base×Int):=(f1019 fu a0).bind fun q3=>cond (!q3) (some ((⟨d0_1026.tabs,d0_1026.links⟩:Base),1)) ((f1059 fu a0).bind fun q4=>(f1105 fu q4 a1 a2 a3).bind fun q5=>some (q5.1,q5.2))
theorem n1039:Nm prog 39:=⟨_,_,func39,by kernel_rfl,z⟩
theorem c1039 (fu:Nat)(a0:Base)(a1:List UInt8)(a2:Int)(a3:List Set):Ctr prog 39 [tBase.va a0,isS a1,isI .i64 a2,(tL tSet).va a3] [] (f1039 fu a0 a1 a2 a3) (fun _ _=>[]) (fun q=>tup [tBase.va q.1,isI .i64 q.2]):=by
 refine Ctr.of_W func39 z ntmps39 z fun A w=>?_
 unfold f1039
 refine .s<|.box (T:=tBase) z z fun b1=>.alloc tBase d0_1026 [] z1026 z fun b2=>.an z z<|.seq<|.s<|.lp 1 (Fld.self _) z z ty1026 z<|.call0 (c1019 fu _) n1019 z z fun q3=>.not z z<|.nil<|.cd z ?_ ?_
 ·exact .s<|.build z st1026 z1026 (.nil) z<|.storeP 0 (Fld.self _) z z z ty1026<|.an z z<|.ret2 func39 results39 (.cell 0 z z ty1026) (.tmp z) z (fun _=>.c<|.c<|.e)
 ·exact .skip<|.s<|.lp 1 (Fld.self _) z z ty1026 z<|.call0 (plain1026 (c1059 fu _)) n1059 z z fun q4=>.m z z<|.m z z<|.m z z<|.call0 (c1105 fu _ _ _ _) n1105 z z fun q5=>.extract z z z<|.extract z z z<|.storeP 0 (Fld.self _) z z z ty1026<|.an z z<|.ret2 func39 results39 (.cell 0 z z ty1026) (.tmp z) z (fun _=>.c<|.c<|.e)
end Go.Proofs.YtdpigighgmipfaaGreatDoor
