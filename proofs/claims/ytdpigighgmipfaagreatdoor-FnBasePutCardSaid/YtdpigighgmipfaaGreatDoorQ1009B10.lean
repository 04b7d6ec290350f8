/- Functions of the program: what each answers, and that the machine answers so. -/
import Derived.Test.YtdpigighgmipfaaGreatDoorQ1009B9
import Derived.KernelRfl
set_option linter.all false
namespace Go.Proofs.YtdpigighgmipfaaGreatDoor
open Go Go.HL Tryz
def f1106_j1 (fu:Nat)(a1:Base)(q2:(List UInt8)×Rd)(q3:Int)(i4:Bool):Option (((List UInt8)×(List Set))×Rd):=cond i4 ((f125 fu q2.2).bind fun q5=>(f62 fu q5.2 q5.1).bind fun q6=>some ((q2.1,q6.1),q6.2)) ((f1102 fu q2.2 a1 q3).bind fun q7=>some ((q2.1,q7.1),q7.2))
def f1106 (fu:Nat)(a0:Rd)(a1:Base):Option (((List UInt8)×(List Set))×Rd):=(f96 fu a0 ([([116]:List UInt8),([117]:List UInt8),([118]:List UInt8),([116]:List UInt8),([117]:List UInt8)]:List (List UInt8))).bind fun q2=>(f1062 fu a1 q2.1).bind fun q3=>cond (decide (q3<0)) (f1106_j1 fu a1 q2 q3 true) ((f1019 fu a1).bind fun q8=>f1106_j1 fu a1 q2 q3 (!q8))
theorem n1106:Nm prog 106:=⟨_,_,func106,by kernel_rfl,z⟩
theorem c1106 (fu:Nat)(bp0:Nat)(a0:Rd)(a1:Base):Ctr prog 106 [isP bp0 0,tBase.va a1] [boxO bp0 tRd a0 []] (f1106 fu a0 a1) (fun q _=>[boxO bp0 tRd q.2 []]) (fun q=>tup [isS q.1.1,(tL tSet).va q.1.2]):=by
 refine Ctr.of_W func106 z ntmps106 z fun A w=>?_
 unfold f1106
 refine .s<|.box (T:=tBase) z z fun b1=>.a z z<|.assignNil tSet z<|.nil<|.s<|.m z z<|.litN (T:=tS) u89 el9 z z (.cons z<|.cons z<|.cons z<|.cons z<|.cons z<|.nil) z<|.call1 1 (c96 fu _ _ _) z n96 z z fun q2=>.an z z<|.s<|.lp 0 (Fld.self _) z z ty1026 z<|.m z z<|.call0 (c1062 fu _ _) n1062 z z fun q3=>.an z z<|.seq<|.seq<|.join1 (fun i4=>⟨[(0,isP bp0 0,none),(3,isP b1 0,none),(6,isS q2.1,none),(7,isI .i64 q3,none),(20,isB i4,none)],[boxO b1 tBase a1 [],boxO bp0 tRd q2.2 []]⟩) (fun i4=>f1106_j1 fu a1 q2 q3 i4) (fun i4=>?_) (fun hj1=>?_)
 ·refine .cd z ?_ ?_
  ·exact .s<|.m z z<|.m z z<|.m z z<|.call1 1 (c125 fu _ _) z n125 z z fun q5=>.call1 1 (c62 fu _ _ _) z n62 z z fun q6=>.a z z<|.an z z<|.ret2 func106 results106 (.tmp z) (.tmp z) z (fun _=>.c<|.d<|.e)
  ·exact .skip<|.s<|.m z z<|.m z z<|.lp 0 (Fld.self _) z z ty1026 z<|.m z z<|.call1 1 (c1102 fu _ _ _ _) z n1102 z z fun q7=>.a z z<|.an z z<|.ret2 func106 results106 (.tmp z) (.tmp z) z (fun _=>.c<|.d<|.e)
 ·refine .g<|.m z z<|.bin z z z z<|.m z z<|.split 16 z (fun _=>?_) (fun _=>?_)
  ·exact .off z z z<|.off z z z<|.off z z z<|.pickT z z z<|.nil<|.keep [0,3,6,7,20] [] z (hj1 _)
  ·exact .on z z<|.lp 0 (Fld.self _) z z ty1026 z<|.on z z<|.call0 (c1019 fu _) n1019 z z fun q8=>.on z z<|.not z z<|.pickF z z z<|.nil<|.keep [0,3,6,7,20] [] z (hj1 _)
def f1040 (fu:Nat)(a0:List Int):Option (Base×(List UInt8)×(List Set)):=(f60 fu a0).bind fun q2=>(f1050 fu q2).bind fun q4=>(f1106 fu q4.2 q4.1).bind fun q6=>some (q4.1,q6.1.1,q6.1.2)
theorem n1040:Nm prog 40:=⟨_,_,func40,by kernel_rfl,z⟩
theorem c1040 (fu:Nat)(a0:List Int):Ctr prog 40 [(tL (tI .u8)).va a0] [] (f1040 fu a0) (fun _ _=>[]) (fun q=>tup [tBase.va q.1,isS q.2.1,(tL tSet).va q.2.2]):=by
 refine Ctr.of_W func40 z ntmps40 z fun A w=>?_
 unfold f1040
 exact .s<|.alloc tBase d0_1026 [] z1026 z fun b1=>.a z z<|.assignNil tSet z<|.nil<|.s<|.m z z<|.callP (c60 fu _) n60 z z fun q2 b3=>.an z z<|.s<|.m z z<|.call1 0 (c1050 fu _ _) z n1050 z z fun q4=>.alloc tBase d0_1026 [] z1026 z fun b5=>.storeP 0 (Fld.self _) z z z ty1026<|.nil<|.s<|.m z z<|.lp 0 (Fld.self _) z z ty1026 z<|.call1 1 (c1106 fu _ _ _) z n1106 z z fun q6=>.m z z<|.extract z z z<|.extract z z z<|.a z z<|.an z z<|.s<|.lp 0 (Fld.self _) z z ty1026 z<|.m z z<|.m z z<|.storeP 2 (Fld.self _) z z z ty1026<|.a z z<|.an z z<|.ret3 func40 results40 (.cell 2 z z ty1026) (.tmp z) (.tmp z) z (fun _=>.c<|.c<|.c<|.e)
def f1107 (fu:Nat)(a0:Table)(a1:List Set):Option (Table×Int):=(f64 fu a0 a1).bind fun q3=>some (q3.1,q3.2)
theorem n1107:Nm prog 107:=⟨_,_,func107,by kernel_rfl,z⟩
theorem c1107 (fu:Nat)(a0:Table)(a1:List Set):Ctr prog 107 [tTable.va a0,isAt (tL tSet) a1] [] (f1107 fu a0 a1) (fun _ _=>[]) (fun q=>tup [tTable.va q.1,isI .i64 q.2]):=by
 refine Ctr.of_W func107 z ntmps107 z fun A w=>?_
 unfold f1107
 exact .s<|.box (T:=tTable) z z fun b1=>.alloc tTable d0_27 [] z27 z fun b2=>.an z z<|.s<|.lp 1 (Fld.self _) z z ty27 z<|.load z ty40 z<|.call0 (c64 fu _ _) n64 z z fun q3=>.extract z z z<|.extract z z z<|.storeP 0 (Fld.self _) z z z ty27<|.an z z<|.ret2 func107 results107 (.cell 0 z z ty27) (.tmp z) z (fun _=>.c<|.c<|.e)
def f1041 (fu:Nat)(a0:Base)(a1:List UInt8)(a2:List Set):Option (Base×Int):=(f1103 fu a0 a1 (fun x0=>f1107 fu x0 a2)).bind fun q4=>some (q4.1,q4.2)
theorem n1041:Nm prog 41:=⟨_,_,func41,by kernel_rfl,z⟩
theorem c1041 (fu:Nat)(a0:Base)(a1:List UInt8)(a2:List Set):Ctr prog 41 [tBase.va a0,isS a1,(tL tSet).va a2] [] (f1041 fu a0 a1 a2) (fun _ _=>[]) (fun q=>tup [tBase.va q.1,isI .i64 q.2]):=by
 refine Ctr.of_W func41 z ntmps41 z fun A w=>?_
 unfold f1041
 exact .s<|.box (T:=tBase) z z fun b1=>.box (T:=(tL tSet)) z z fun b2=>.alloc tBase d0_1026 [] z1026 z fun b3=>.an z z<|.s<|.lp 2 (Fld.self _) z z ty1026 z<|.m z z<|.frzP 1 5 z z<|.makeF z z<|.call0 (c1103 fu _ _ (fun x0=>f1107 fu x0 a2) 107 [isAt (tL tSet) a2] n1107 (fun x0=>c1107 fu x0 a2)) n1103 z z fun q4=>.extract z z z<|.extract z z z<|.storeP 0 (Fld.self _) z z z ty1026<|.an z z<|.ret2 func41 results41 (.cell 0 z z ty1026) (.tmp z) z (fun _=>.c<|.c<|.e)
def f1042 (fu:Nat)(a0:Base)(a1:List UInt8)(a2:List Set):Option (Base×Int):=(f1019 fu a0).bind fun q3=>cond (!q3) (some ((⟨d0_1026.tabs,d0_1026.links⟩:Base),1)) ((f1059 fu a0).bind fun q4=>(f1109 fu q4 a1 a2).bind fun q5=>some (q5.1,q5.2))
theorem n1042:Nm prog 42:=⟨_,_,func42,by kernel_rfl,z⟩
theorem c1042 (fu:Nat)(a0:Base)(a1:List UInt8)(a2:List Set):Ctr prog 42 [tBase.va a0,isS a1,(tL tSet).va a2] [] (f1042 fu a0 a1 a2) (fun _ _=>[]) (fun q=>tup [tBase.va q.1,isI .i64 q.2]):=by
 refine Ctr.of_W func42 z ntmps42 z fun A w=>?_
 unfold f1042
 refine .s<|.box (T:=tBase) z z fun b1=>.alloc tBase d0_1026 [] z1026 z fun b2=>.an z z<|.seq<|.s<|.lp 1 (Fld.self _) z z ty1026 z<|.call0 (c1019 fu _) n1019 z z fun q3=>.not z z<|.nil<|.cd z ?_ ?_
 ·exact .s<|.build z st1026 z1026 (.nil) z<|.storeP 0 (Fld.self _) z z z ty1026<|.an z z<|.ret2 func42 results42 (.cell 0 z z ty1026) (.tmp z) z (fun _=>.c<|.c<|.e)
 ·exact .skip<|.s<|.lp 1 (Fld.self _) z z ty1026 z<|.call0 (plain1026 (c1059 fu _)) n1059 z z fun q4=>.m z z<|.m z z<|.call0 (c1109 fu _ _ _) n1109 z z fun q5=>.extract z z z<|.extract z z z<|.storeP 0 (Fld.self _) z z z ty1026<|.an z z<|.ret2 func42 results42 (.cell 0 z z ty1026) (.tmp z) z (fun _=>.c<|.c<|.e)
def f1009_j2 (i9:Bool):Option Bool:=some i9
def f1009_j3 (i15:Bool):Option Bool:=some i15
def f1009_j1 (fu:Nat)(q1:Base×(List UInt8)×(List Set))(q3:Base×Int)(i7:Bool):Option Bool:=cond i7 (some false) ((f1019 fu q1.1).bind fun q8=>cond (!q8) (cond (decide (q3.2=1)) ((f1018 fu q3.1 (⟨d0_1026.tabs,d0_1026.links⟩:Base)).bind fun q10=>f1009_j2 q10) (f1009_j2 false)) (cond (!decide (q3.2=0)) ((f1018 fu q3.1 q1.1).bind fun q11=>some q11) ((f1035 fu q1.1 q1.2.1).bind fun q12=>cond (decide (0≤q12)&&decide (q12 < (q1.1.tabs.length:Int))) ((f21 fu ((q1.1.tabs.getD q12.toNat default).table) q1.2.2).bind fun q13=>(f1020 fu q3.1).bind fun q16=>cond q16 ((f1026 fu q3.1).bind fun q17=>cond q17 (cond (decide (q13.2=0)) (cond (decide (0≤q12)&&decide (q12 < (q3.1.tabs.length:Int))) ((f15 fu ((q3.1.tabs.getD q12.toNat default).table) q13.1).bind fun q18=>f1009_j3 q18) none) (f1009_j3 false)) (f1009_j3 false)) (f1009_j3 false)) none)))
def f1009 (fu:Nat)(a0:List Int):Option Bool:=cond (decide (1048576 < (a0.length:Int))) (some true) ((f1040 fu a0).bind fun q1=>(f1041 fu q1.1 q1.2.1 q1.2.2).bind fun q3=>(f1042 fu q1.1 q1.2.1 q1.2.2).bind fun q5=>cond (!decide (q3.2=q5.2)) (f1009_j1 fu q1 q3 true) ((f1018 fu q3.1 q5.1).bind fun q19=>cond (!q19) (f1009_j1 fu q1 q3 true) ((f1020 fu q1.1).bind fun q20=>(f1019 fu q1.1).bind fun q21=>f1009_j1 fu q1 q3 (!(q20 == q21)))))
theorem c1009 (fu:Nat)(a0:List Int):Ctr prog 9 [(tL (tI .u8)).va a0] [] (f1009 fu a0) (fun _ _=>[]) (fun q=>isB q):=by
 refine Ctr.of_W func9 z ntmps9 z fun A w=>?_
 unfold f1009
 refine .s<|.an z z<|.seq<|.s<|.m z z<|.lenL z u22 z<|.bin z z z z<|.nil<|.cd z ?_ ?_
 ·exact .s<|.an z z<|.ret1 func9 results9 (.tmp z) z (fun _ _=>.e)
 ·refine .skip<|.s<|.m z z<|.call0 (c1040 fu _) n1040 z z fun q1=>.m z z<|.extract z z z<|.extract z z z<|.extract z z z<|.alloc tBase d0_1026 [] z1026 z fun b2=>.storeP 0 (Fld.self _) z z z ty1026<|.a z z<|.an z z<|.s<|.lp 0 (Fld.self _) z z ty1026 z<|.m z z<|.m z z<|.call0 (c1041 fu _ _ _) n1041 z z fun q3=>.m z z<|.extract z z z<|.extract z z z<|.alloc tBase d0_1026 [] z1026 z fun b4=>.storeP 0 (Fld.self _) z z z ty1026<|.an z z<|.s<|.lp 1 (Fld.self _) z z ty1026 z<|.m z z<|.m z z<|.call0 (c1042 fu _ _ _) n1042 z z fun q5=>.m z z<|.extract z z z<|.extract z z z<|.alloc tBase d0_1026 [] z1026 z fun b6=>.storeP 0 (Fld.self _) z z z ty1026<|.an z z<|.seq<|.seq<|.join1 (fun i7=>⟨[(3,isP b2 0,none),(4,isS q1.2.1,none),(5,(tL tSet).va q1.2.2,none),(6,isP b4 0,none),(7,isI .i64 q3.2,none),(51,isB i7,none)],[boxO b4 tBase q3.1 [],boxO b2 tBase q1.1 []]⟩) (fun i7=>f1009_j1 fu q1 q3 i7) (fun i7=>?_) (fun hj1=>?_)
  ·refine .cd z ?_ ?_
   ·exact .s<|.an z z<|.ret1 func9 results9 (.tmp z) z (fun _ _=>.c<|.c<|.e)
   ·refine .skip<|.seq<|.s<|.lp 1 (Fld.self _) z z ty1026 z<|.call0 (c1019 fu _) n1019 z z fun q8=>.not z z<|.nil<|.cd z ?_ ?_
    ·refine .seq<|.join1 (fun i9=>⟨[(2,isB i9,none)],[]⟩) (fun i9=>f1009_j2 i9) (fun i9=>?_) (fun hj2=>?_)
     ·exact .ret1 func9 results9 (.tmp z) z (fun _ _=>.e)
     ·refine .g<|.m z z<|.bin z z z z<|.m z z<|.split 57 z (fun _=>?_) (fun _=>?_)
      ·exact .on z z<|.lp 0 (Fld.self _) z z ty1026 z<|.on z z<|.build z st1026 z1026 (.nil) z<|.on z z<|.call0 (c1018 fu _ _) n1018 z z fun q10=>.pickT z z z<|.an z z<|.keep [2] [] z (.drop (.c<|.c<|.e)<|hj2 _)
      ·exact .off z z z<|.off z z z<|.off z z z<|.pickF z z z<|.an z z<|.keep [2] [] z (.drop (.c<|.c<|.e)<|hj2 _)
    ·refine .skip<|.seq<|.s<|.m z z<|.bin z z z z<|.nil<|.cd z ?_ ?_
     ·exact .s<|.lp 0 (Fld.self _) z z ty1026 z<|.lp 1 (Fld.self _) z z ty1026 z<|.call0 (c1018 fu _ _) n1018 z z fun q11=>.an z z<|.ret1 func9 results9 (.tmp z) z (fun _ _=>.c<|.c<|.e)
     ·refine .skip<|.s<|.lp 1 (Fld.self _) z z ty1026 z<|.m z z<|.call0 (c1035 fu _ _) n1035 z z fun q12=>.an z z<|.s<|.fp z fa1026_0 z<|.lp 1 fBase_0 z z ty1023 z<|.m z z<|.elemAt z z u23 ty1039 z<|.fieldAt fTab_1 z fa1039_1 z<|.load z ty27 z<|.m z z<|.call0 (c21 fu _ _) n21 z z fun q13=>.m z z<|.extract z z z<|.extract z z z<|.alloc tTable d0_27 [] z27 z fun b14=>.storeP 0 (Fld.self _) z z z ty27<|.an z z<|.seq<|.join1 (fun i15=>⟨[(2,isB i15,none)],[]⟩) (fun i15=>f1009_j3 i15) (fun i15=>?_) (fun hj3=>?_)
      ·exact .ret1 func9 results9 (.tmp z) z (fun _ _=>.e)
      ·refine .pbind fun q16 h1=>?_
       refine .pcond (fun h2=>?_) (fun h2=>?_)
       ·refine .pbind fun q17 h3=>?_
        refine .pcond (fun h4=>?_) (fun h4=>?_)
        ·refine .pcond (fun h5=>?_) (fun h5=>?_)
         ·refine .pT fun h6=>?_
          refine .draw 18 [] mix (by kernel_rfl) (.k (fun p e=>.lp 1 (Fld.self _) (e.op z) (p.get z z) ty1026 z)<|.k (fun p e h=>.bindE h1 (fun r h=>.call0 (c1020 fu _) n1020 (e.ops z) z h)<|h)<|.k (fun p e h=>.m (e.op z) z<|.noV<|.useEq h2 h)<|.k (fun p e h=>.on z (e _ _ z)<|.lp 1 (Fld.self _) (e.op z) (p.get z z) ty1026 z<|h)<|.k (fun p e h=>.on z (e _ _ z)<|.bindE h3 (fun r h=>.call0 (c1026 fu _) n1026 (e.ops z) z h)<|h)<|.j (fun o=>.pickT (o z) (o z) z)<|.k (fun p e h=>.m (e.op z) z<|.noV<|.useEq h4 h)<|.k (fun p e h=>.on z (e _ _ z)<|.m (e.op z) z<|h)<|.k (fun p e h=>.on z (e _ _ z)<|.bin z (e.op z) (e.op z) z<|h)<|.j (fun o=>.pickT (o z) (o z) z)<|.k (fun p e h=>.m (e.op z) z<|.noV<|.useEq h5 h)<|.k (fun p e h=>.on z (e _ _ z)<|.fp (e.op z) fa1026_0 z<|h)<|.k (fun p e h=>.on z (e _ _ z)<|.lp 1 fBase_0 (e.op z) (p.get z z) ty1023 z<|h)<|.k (fun p e h=>.on z (e _ _ z)<|.m (e.op z) z<|h)<|.k (fun p e h=>.on z (e _ _ z)<|.useC h6<|.elemAt (e.op z) (e.op z) u23 ty1039 z<|h)<|.k (fun p e h=>.on z (e _ _ z)<|.fieldAt fTab_1 (e.op z) fa1039_1 z<|h)<|.k (fun p e h=>.on z (e _ _ z)<|.load (e.op z) ty27 z<|h)<|.k (fun p e h=>.on z (e _ _ z)<|.lp 0 (Fld.self _) (e.op z) (p.get z z) ty27 z<|h)<|.nil) z<|.on z z<|.call0 (c15 fu _ _) n15 z z fun q18=>.pickT z z z<|.a z z<|.nil ?_
          exact .keep [2] [] z (.drop (.c<|.c<|.c<|.e)<|hj3 _)
         ·exact .draw 18 [] mix (by kernel_rfl) (.k (fun p e=>.lp 1 (Fld.self _) (e.op z) (p.get z z) ty1026 z)<|.k (fun p e h=>.bindE h1 (fun r h=>.call0 (c1020 fu _) n1020 (e.ops z) z h)<|h)<|.k (fun p e h=>.m (e.op z) z<|.noV<|.useEq h2 h)<|.k (fun p e h=>.on z (e _ _ z)<|.lp 1 (Fld.self _) (e.op z) (p.get z z) ty1026 z<|h)<|.k (fun p e h=>.on z (e _ _ z)<|.bindE h3 (fun r h=>.call0 (c1026 fu _) n1026 (e.ops z) z h)<|h)<|.j (fun o=>.pickT (o z) (o z) z)<|.k (fun p e h=>.m (e.op z) z<|.noV<|.useEq h4 h)<|.k (fun p e h=>.on z (e _ _ z)<|.m (e.op z) z<|h)<|.k (fun p e h=>.on z (e _ _ z)<|.bin z (e.op z) (e.op z) z<|h)<|.j (fun o=>.pickT (o z) (o z) z)<|.k (fun p e h=>.m (e.op z) z<|.noV<|.useEq h5 h)<|.f z z z<|.f z z z<|.f z z z<|.f z z z<|.f z z z<|.f z z z<|.f z z z<|.nil) z<|.off z z z<|.pickF z z z<|.an z z<|.keep [2] [] z (.drop (.c<|.c<|.c<|.e)<|hj3 _)
        ·exact .draw 18 [] mix (by kernel_rfl) (.k (fun p e=>.lp 1 (Fld.self _) (e.op z) (p.get z z) ty1026 z)<|.k (fun p e h=>.bindE h1 (fun r h=>.call0 (c1020 fu _) n1020 (e.ops z) z h)<|h)<|.k (fun p e h=>.m (e.op z) z<|.noV<|.useEq h2 h)<|.k (fun p e h=>.on z (e _ _ z)<|.lp 1 (Fld.self _) (e.op z) (p.get z z) ty1026 z<|h)<|.k (fun p e h=>.on z (e _ _ z)<|.bindE h3 (fun r h=>.call0 (c1026 fu _) n1026 (e.ops z) z h)<|h)<|.j (fun o=>.pickT (o z) (o z) z)<|.k (fun p e h=>.m (e.op z) z<|.noV<|.useEq h4 h)<|.f z z z<|.f z z z<|.j (fun o=>.pickF (o z) (o z) z)<|.j (fun o=>.m (o z) z)<|.f z z z<|.f z z z<|.f z z z<|.f z z z<|.f z z z<|.f z z z<|.f z z z<|.nil) z<|.off z z z<|.pickF z z z<|.an z z<|.keep [2] [] z (.drop (.c<|.c<|.c<|.e)<|hj3 _)
       ·exact .draw 18 [] mix (by kernel_rfl) (.k (fun p e=>.lp 1 (Fld.self _) (e.op z) (p.get z z) ty1026 z)<|.k (fun p e h=>.bindE h1 (fun r h=>.call0 (c1020 fu _) n1020 (e.ops z) z h)<|h)<|.k (fun p e h=>.m (e.op z) z<|.noV<|.useEq h2 h)<|.f z z z<|.f z z z<|.j (fun o=>.pickF (o z) (o z) z)<|.j (fun o=>.m (o z) z)<|.f z z z<|.f z z z<|.j (fun o=>.pickF (o z) (o z) z)<|.j (fun o=>.m (o z) z)<|.f z z z<|.f z z z<|.f z z z<|.f z z z<|.f z z z<|.f z z z<|.f z z z<|.nil) z<|.off z z z<|.pickF z z z<|.an z z<|.keep [2] [] z (.drop (.c<|.c<|.c<|.e)<|hj3 _)
  ·refine .pcond (fun h7=>?_) (fun h7=>?_)
   ·exact .draw 13 [] mix (by kernel_rfl) (.j (fun o=>.m (o z) z)<|.j (fun o=>.m (o z) z)<|.j (fun o=>.bin z (o z) (o z) z)<|.k (fun p e h=>.m (e.op z) z<|.noV<|.useEq h7 h)<|.f z z z<|.f z z z<|.f z z z<|.f z z z<|.j (fun o=>.pickT (o z) (o z) z)<|.j (fun o=>.m (o z) z)<|.f z z z<|.f z z z<|.f z z z<|.nil) z<|.off z z z<|.off z z z<|.pickT z z z<|.nil<|.keep [3,4,5,6,7,51] [] z (.drop (.c<|.d<|.d<|.e)<|hj1 _)
   ·refine .pbind fun q19 h8=>?_
    refine .pcond (fun h9=>?_) (fun h9=>?_)
    ·exact .draw 13 [] mix (by kernel_rfl) (.j (fun o=>.m (o z) z)<|.j (fun o=>.m (o z) z)<|.j (fun o=>.bin z (o z) (o z) z)<|.k (fun p e h=>.m (e.op z) z<|.noV<|.useEq h7 h)<|.k (fun p e h=>.on z (e _ _ z)<|.lp 1 (Fld.self _) (e.op z) (p.get z z) ty1026 z<|h)<|.k (fun p e h=>.on z (e _ _ z)<|.lp 0 (Fld.self _) (e.op z) (p.get z z) ty1026 z<|h)<|.k (fun p e h=>.on z (e _ _ z)<|.bindE h8 (fun r h=>.call0 (c1018 fu _ _) n1018 (e.ops z) z h)<|h)<|.k (fun p e h=>.on z (e _ _ z)<|.not (e.op z) z<|h)<|.j (fun o=>.pickF (o z) (o z) z)<|.k (fun p e h=>.m (e.op z) z<|.noV<|.useEq h9 h)<|.f z z z<|.f z z z<|.f z z z<|.nil) z<|.off z z z<|.off z z z<|.pickT z z z<|.nil<|.keep [3,4,5,6,7,51] [] z (.drop (.c<|.d<|.d<|.e)<|hj1 _)
    ·refine .pbind fun q20 h10=>?_
     exact .draw 13 [] mix (by kernel_rfl) (.j (fun o=>.m (o z) z)<|.j (fun o=>.m (o z) z)<|.j (fun o=>.bin z (o z) (o z) z)<|.k (fun p e h=>.m (e.op z) z<|.noV<|.useEq h7 h)<|.k (fun p e h=>.on z (e _ _ z)<|.lp 1 (Fld.self _) (e.op z) (p.get z z) ty1026 z<|h)<|.k (fun p e h=>.on z (e _ _ z)<|.lp 0 (Fld.self _) (e.op z) (p.get z z) ty1026 z<|h)<|.k (fun p e h=>.on z (e _ _ z)<|.bindE h8 (fun r h=>.call0 (c1018 fu _ _) n1018 (e.ops z) z h)<|h)<|.k (fun p e h=>.on z (e _ _ z)<|.not (e.op z) z<|h)<|.j (fun o=>.pickF (o z) (o z) z)<|.k (fun p e h=>.m (e.op z) z<|.noV<|.useEq h9 h)<|.k (fun p e h=>.on z (e _ _ z)<|.lp 2 (Fld.self _) (e.op z) (p.get z z) ty1026 z<|h)<|.k (fun p e h=>.on z (e _ _ z)<|.bindE h10 (fun r h=>.call0 (c1020 fu _) n1020 (e.ops z) z h)<|h)<|.k (fun p e h=>.on z (e _ _ z)<|.lp 2 (Fld.self _) (e.op z) (p.get z z) ty1026 z<|h)<|.nil) z<|.on z z<|.call0 (c1019 fu _) n1019 z z fun q21=>.on z z<|.bne z z u4 z<|.pickF z z z<|.nil<|.keep [3,4,5,6,7,51] [] z (.drop (.c<|.d<|.d<|.e)<|hj1 _)
end Go.Proofs.YtdpigighgmipfaaGreatDoor
