/- Functions of the program: what each answers, and that the machine answers so. -/
import Derived.Test.YtdpigighgmipfaaGreatDoorQ1004B6
import Derived.KernelRfl
set_option linter.all false
namespace Go.Proofs.YtdpigighgmipfaaGreatDoor
open Go Go.HL Tryz
def f1023 (fu:Nat) (a0:List Int):Option (Base×Link):=(f60 fu a0).bind fun q3=>(f1050 fu q3).bind fun q5=>(f1019 fu q5.1).bind fun q7=>cond (!q7) (some (q5.1,(⟨([116]:List UInt8),([107]:List UInt8),([117]:List UInt8),1⟩:Link))) ((f1081 fu q5.2 q5.1).bind fun q8=>some (q5.1,q8.1))
theorem n1023:Nm prog 23:=⟨_,_,func23,by kernel_rfl,z⟩
theorem c1023 (fu:Nat) (a0:List Int):Ctr prog 23 [(tL (tI .u8)).va a0] [] (f1023 fu a0) (fun _ _=>[]) (fun q=>tup [tBase.va q.1,tLink.va q.2]):=by
 refine Ctr.of_W func23 z ntmps23 z fun A w=>?_
 unfold f1023
 refine .seq<|.g<|.alloc tBase d0_1026 [] z1026 z fun b1=>.alloc tLink d0_1044 [] z1044 z fun b2=>.nil<|.seq<|.g<|.m z z<|.callP (c60 fu _) n60 z z fun q3 b4=>.a z z<|.nil<|.seq<|.g<|.m z z<|.call1 0 (c1050 fu _ _) z n1050 z z fun q5=>.alloc tBase d0_1026 [] z1026 z fun b6=>.storeP 0 (Fld.self _) z z z ty1026<|.nil<|.seq<|.seq<|.g<|.lp 0 (Fld.self _) z z ty1026 z<|.call0 (c1019 fu _) n1019 z z fun q7=>.not z z<|.nil<|.cd z ?_ ?_
 ·exact .seq<|.g<|.lp 0 (Fld.self _) z z ty1026 z<|.build z st1044 z1044 (.cons fLink_0 z z<|.cons fLink_1 z z<|.cons fLink_2 z z<|.cons fLink_3 z z<|.nil) z<|.storeP 3 (Fld.self _) z z z ty1026<|.storeP 2 (Fld.self _) z z z ty1044<|.nil<|.ret2 func23 results23 (.cell 3 z z ty1026) (.cell 2 z z ty1044) z (fun _=>.cons _<|.cons _<|.cons _<|.cons _<|.slnil)
 ·refine .skip<|.seq<|.pbind fun q8 h1=>?_
  exact .drawS 4 [] [3] [1] mix (by kernel_rfl) (.k (fun p e=>.lp 0 (Fld.self _) (e.op z) (p.get z z) ty1026 z)<|.k (fun p e=>.m (e.op z) z)<|.k (fun p e=>.lp 0 (Fld.self _) (e.op z) (p.get z z) ty1026 z)<|.skip<|.nil) z<|.cons (d:=18) z z fun _ _ hE h=>.bindE h1 (fun r h=>.call1 1 (c1081 fu _ _ _) z n1081 (hE.ops z) z h)<|h _ _ (.same<|.hole z<|.same<|.same<|.nil)<|.nil<|.storeP 3 (Fld.self _) z z z ty1026<|.storeP 2 (Fld.self _) z z z ty1044<|.nil<|.ret2 func23 results23 (.cell 3 z z ty1026) (.cell 2 z z ty1044) z (fun _=>.cons _<|.cons _<|.cons _<|.cons _<|.slnil)
def f1024_j1 (fu:Nat) (a0:Base) (a1:Link) (q5:Base) (i8:Bool):Option (Base×Int):=cond i8 (some (q5,1)) ((f1073 fu a0 a1).bind fun q9=>cond (!q9) (some (q5,7)) (cond (decide ((a0.links.length:Int)=4)) (some (q5,4)) (cond (decide (q5.links.length+List.length ([a1]:List Link)≤CAP)) ((f1082 (q5.links++([a1]:List Link))).bind fun q11=>some ((⟨q5.tabs,q11⟩:Base),0)) none)))
def f1024 (fu:Nat) (a0:Base) (a1:Link):Option (Base×Int):=(f1020 fu a0).bind fun q4=>cond (!q4) (some ((⟨([]:List Tab),([]:List Link)⟩:Base),1)) ((f1054 fu a0).bind fun q5=>(f1072 fu a0 a1).bind fun q13=>cond (!q13) (f1024_j1 fu a0 a1 q5 true) ((f1074 fu a0 a1.from_ a1.col).bind fun q14=>f1024_j1 fu a0 a1 q5 (decide (0≤q14))))
theorem n1024:Nm prog 24:=⟨_,_,func24,by kernel_rfl,z⟩
theorem c1024 (fu:Nat) (a0:Base) (a1:Link):Ctr prog 24 [tBase.va a0,tLink.va a1] [] (f1024 fu a0 a1) (fun _ _=>[]) (fun q=>tup [tBase.va q.1,isI .i64 q.2]):=by
 refine Ctr.of_W func24 z ntmps24 z fun A w=>?_
 unfold f1024
 refine .seq<|.g<|.box (T:=tBase) z z fun b1=>.box (T:=tLink) z z fun b2=>.alloc tBaseA d0A1026 [] zA1026 z fun b3=>.a z z<|.nil<|.seq<|.seq<|.g<|.lp 2 (Fld.self _) z z ty1026 z<|.call0 (c1020 fu _) n1020 z z fun q4=>.not z z<|.nil<|.cd z ?_ ?_
 ·exact .seq<|.g<|.buildA z st1026 zA1026 (.nil) z<|.storeP 0 (Fld.self _) z z z ty1026<|.arrNil tTab<|.arrNil tLink<|.a z z<|.nil<|.frzBox 2 1 conv1026_0 z z<|.frzBox 2 0 conv1026_1 z z<|.ret2 func24 results24 (.cell 2 z z ty1026) (.tmp z) z (fun _=>.cons _<|.cons _<|.cons _<|.cons _<|.cons _<|.slnil)
 ·refine .skip<|.seq<|.g<|.lp 2 (Fld.self _) z z ty1026 z<|.callL0 (c1054 fu _) n1054 z z fun q5 p6=>.alloc tBaseA d0A1026 [] zA1026 z fun b7=>.storeP 0 (Fld.self _) z z z ty1026<|.nil<|.seq<|.block<|.seq<|.join1 (fun i8=>⟨[(2,isP b1 0,none),(3,isP b2 0,none),(4,isP b3 0,none),(6,isP b7 0,none),(13,isB i8,none)],[boxO b7 tBaseA (⟨p6.1,p6.2⟩:BaseA) [],arrO tTab p6.1 q5.tabs,arrO tLink p6.2 q5.links,boxO b3 tBaseA (⟨(.slice none 0 0),(.slice none 0 0)⟩:BaseA) [],boxO b2 tLink a1 [],boxO b1 tBase a0 []]⟩) (fun i8=>f1024_j1 fu a0 a1 q5 i8) (fun i8=>?_) (fun hj1=>?_)
  ·refine .cd z ?_ ?_
   ·exact .seq<|.g<|.lp 0 (Fld.self _) z z ty1026 z<|.storeP 3 (Fld.self _) z z z ty1026<|.a z z<|.nil<|.frzBox 3 1 conv1026_0 z z<|.frzBox 3 2 conv1026_1 z z<|.ret2 func24 results24 (.cell 3 z z ty1026) (.tmp z) z (fun _=>.cons _<|.cons _<|.cons _<|.cons _<|.cons _<|.cons _<|.slnil)
   ·refine .seq<|.g<|.lp 5 (Fld.self _) z z ty1026 z<|.lp 4 (Fld.self _) z z ty1044 z<|.call0 (c1073 fu _ _) n1073 z z fun q9=>.not z z<|.a z z<|.nil<|.cd z ?_ ?_
    ·exact .seq<|.g<|.lp 0 (Fld.self _) z z ty1026 z<|.storeP 3 (Fld.self _) z z z ty1026<|.a z z<|.nil<|.frzBox 3 1 conv1026_0 z z<|.frzBox 3 2 conv1026_1 z z<|.ret2 func24 results24 (.cell 3 z z ty1026) (.tmp z) z (fun _=>.cons _<|.cons _<|.cons _<|.cons _<|.cons _<|.cons _<|.slnil)
    ·refine .seq<|.g<|.fp z fa1026_1 z<|.lp 5 fBase_1 z z ty1024 z<|.lenL z underlying24 z<|.bin z z z z<|.a z z<|.nil<|.cd z ?_ ?_
     ·exact .seq<|.g<|.lp 0 (Fld.self _) z z ty1026 z<|.storeP 3 (Fld.self _) z z z ty1026<|.a z z<|.nil<|.frzBox 3 1 conv1026_0 z z<|.frzBox 3 2 conv1026_1 z z<|.ret2 func24 results24 (.cell 3 z z ty1026) (.tmp z) z (fun _=>.cons _<|.cons _<|.cons _<|.cons _<|.cons _<|.cons _<|.slnil)
     ·exact .skip<|.inBlock<|.seq<|.g<|.fp z fa1026_1 z<|.loadR 0 fBaseA_1 z z ty1024 z<|.know 41 z<|.lp 4 (Fld.self _) z z ty1044 z<|.litN (T:=tLink) underlying24 el1044 z z (.cons z<|.nil) z<|.appA (T:=tLink) 2 z z z underlying24 el1044 z fun v10=>.frz 2 44 z z<|.callL0 (c1082 _) n1082 z z fun q11 v12=>.unRaw 45 z<|.fp z fa1026_1 z<|.toRaw (T:=tLink) 0 45 z z<|.storeP 1 fBaseA_1 z z z ty1024<|.nil<|.seq<|.g<|.lp 1 (Fld.self _) z z ty1026 z<|.storeP 4 (Fld.self _) z z z ty1026<|.a z z<|.nil<|.frzBox 4 2 conv1026_0 z z<|.frzBox 4 0 conv1026_1 z z<|.ret2 func24 results24 (.cell 4 z z ty1026) (.tmp z) z (fun _=>.cons _<|.cons _<|.cons _<|.cons _<|.cons _<|.cons _<|.cons _<|.slnil)
  ·refine .g<|.lp 5 (Fld.self _) z z ty1026 z<|.lp 4 (Fld.self _) z z ty1044 z<|.call0 (c1072 fu _ _) n1072 z z fun q13=>.not z z<|.m z z<|.split 18 z (fun _=>?_) (fun _=>?_)
   ·exact .off z z z<|.off z z z<|.off z z z<|.off z z z<|.off z z z<|.off z z z<|.off z z z<|.pickT z z z<|.a z z<|.nil<|.keep [2,3,4,6,13] [] z (hj1 _)
   ·exact .on z z<|.lp 5 (Fld.self _) z z ty1026 z<|.on z z<|.fp z fa1044_0 z<|.on z z<|.lp 4 fLink_0 z z ty9 z<|.on z z<|.fp z fa1044_1 z<|.on z z<|.lp 4 fLink_1 z z ty9 z<|.on z z<|.call0 (c1074 fu _ _ _) n1074 z z fun q14=>.on z z<|.bin z z z z<|.pickF z z z<|.a z z<|.nil<|.keep [2,3,4,6,13] [] z (hj1 _)
def f1035_l1 (a0:Base) (a1:List UInt8):Nat→Int→Option Int
 | 0,_=>none
 | n1+1,i2=>cond (decide (i2 < (a0.tabs.length:Int))) (cond (decide (0≤i2)&&decide (i2 < (a0.tabs.length:Int))) (cond (decide (((a0.tabs.getD i2.toNat default).name)=a1)) (some i2) ((f1035_l1 a0 a1 n1) (IntKind.i64.wrap (i2+1)))) none) (some (-1))
def f1035 (fu:Nat) (a0:Base) (a1:List UInt8):Option Int:=f1035_l1 a0 a1 fu 0
theorem n1035:Nm prog 35:=⟨_,_,func35,by kernel_rfl,z⟩
theorem c1035 (fu:Nat) (a0:Base) (a1:List UInt8):Ctr prog 35 [tBase.va a0,isS a1] [] (f1035 fu a0 a1) (fun _ _=>[]) (fun q=>isI .i64 q):=by
 refine Ctr.of_W func35 z ntmps35 z fun A w=>?_
 unfold f1035
 refine .seq<|.g<|.box (T:=tBase) z z fun b1=>.a z z<|.nil<|.seq<|.seq<|.g<|.a z z<|.nil<|.block<|.loop<|.keep [1,2,5] [] z<|(show ∀ (n1:Nat) (i2:Int),W _ _ _ _ _ ⟨[(1,isS a1,none),(2,isP b1 0,none),(5,isI .i64 i2,none)],[boxO b1 tBase a0 []]⟩ (f1035_l1 a0 a1 n1 i2) from ?_) fu _
 intro n1
 induction n1 with
 | zero=>exact fun _=>.stop
 | succ n1 ih1=>
  intro i2
  refine .inLoop<|.seq<|.seq<|.g<|.m z z<|.fp z fa1026_0 z<|.lp 0 fBase_0 z z ty1023 z<|.lenL z underlying23 z<|.bin z z z z<|.nil<|.cd z ?_ ?_
  ·refine .skip<|.seq<|.block<|.seq<|.g<|.fp z fa1026_0 z<|.lp 0 fBase_0 z z ty1023 z<|.m z z<|.elemAt z z underlying23 ty1039 z<|.fieldAt fTab_0 z fa1039_0 z<|.load z ty9 z<|.m z z<|.seq z z z<|.nil<|.cd z ?_ ?_
   ·exact .seq<|.g<|.m z z<|.a z z<|.nil<|.ret1 func35 results35 (.tmp z) z (fun _ _=>.cons _<|.slnil)
   ·exact .skip<|.inBlock<|.g<|.m z z<|.bin z z z z<|.a z z<|.nil<|.keep [1,2,5] [] z (ih1 _)
  ·exact .exit z<|.seq<|.g<|.a z z<|.nil<|.ret1 func35 results35 (.tmp z) z (fun _ _=>.cons _<|.slnil)
def f1026_j8 (i10:Int) (rec1:Int→Option Bool) (rec2:Int→Option Bool) (i14:Bool):Option Bool:=cond i14 (some false) (rec2 (IntKind.i64.wrap (i10+1)))
def f1026_j7 (fu:Nat) (a0:Base) (i2:Int) (q4:Int) (q6:Int) (q9:Int) (i10:Int) (rec1:Int→Option Bool) (rec2:Int→Option Bool) (i11:Bool):Option Bool:=cond i11 (cond (decide (0≤i10)&&decide (i10 < (List.length (((a0.tabs.getD q4.toNat default).table).rows):Int))) ((f16 fu ((a0.tabs.getD q4.toNat default).table) (((((a0.tabs.getD q4.toNat default).table).rows).getD i10.toNat default).id)).bind fun q12=>cond (decide (0≤q9)&&decide (q9 < (q12.1.length:Int))) ((f16 fu ((a0.tabs.getD q6.toNat default).table) ((q12.1.getD q9.toNat default).n)).bind fun q13=>cond (decide (0≤q9)&&decide (q9 < (q12.1.length:Int))) (cond (!decide (((q12.1.getD q9.toNat default).kind)=0)) (f1026_j8 i10 rec1 rec2 (!q13.2)) (f1026_j8 i10 rec1 rec2 false)) none) none) none) (cond (decide (q9 < 0)) (some false) (rec1 (IntKind.i64.wrap (i2+1))))
def f1026_l2 (fu:Nat) (a0:Base) (i2:Int) (q4:Int) (q6:Int) (q9:Int) (rec1:Int→Option Bool):Nat→Int→Option Bool
 | 0,_=>none
 | n2+1,i10=>cond (decide (i10 < (List.length (((a0.tabs.getD q4.toNat default).table).rows):Int))) (f1026_j7 fu a0 i2 q4 q6 q9 i10 rec1 (f1026_l2 fu a0 i2 q4 q6 q9 rec1 n2) (decide (0≤q9))) (f1026_j7 fu a0 i2 q4 q6 q9 i10 rec1 (f1026_l2 fu a0 i2 q4 q6 q9 rec1 n2) false)
def f1026_l1 (fu:Nat) (a0:Base):Nat→Int→Option Bool
 | 0,_=>none
 | n1+1,i2=>cond (decide (i2 < (a0.links.length:Int))) (cond (decide (0≤i2)&&decide (i2 < (a0.links.length:Int))) ((f1035 fu a0 ((a0.links.getD i2.toNat default).from_)).bind fun q4=>cond (decide (0≤q4)&&decide (q4 < (a0.tabs.length:Int))) ((f1035 fu a0 ((a0.links.getD i2.toNat default).to)).bind fun q6=>cond (decide (0≤q6)&&decide (q6 < (a0.tabs.length:Int))) ((f23 fu ((a0.tabs.getD q4.toNat default).table)).bind fun q8=>(f24 fu q8 ((a0.links.getD i2.toNat default).col)).bind fun q9=>f1026_l2 fu a0 i2 q4 q6 q9 (f1026_l1 fu a0 n1) fu 0) none) none) none) (some true)
def f1026 (fu:Nat) (a0:Base):Option Bool:=f1026_l1 fu a0 fu 0
theorem n1026:Nm prog 26:=⟨_,_,func26,by kernel_rfl,z⟩
theorem c1026 (fu:Nat) (a0:Base):Ctr prog 26 [tBase.va a0] [] (f1026 fu a0) (fun _ _=>[]) (fun q=>isB q):=by
 refine Ctr.of_W func26 z ntmps26 z fun A w=>?_
 unfold f1026
 refine .seq<|.g<|.box (T:=tBase) z z fun b1=>.a z z<|.nil<|.seq<|.seq<|.g<|.a z z<|.nil<|.block<|.loop<|.keep [1,3] [] z<|(show ∀ (n1:Nat) (i2:Int),W _ _ _ _ _ ⟨[(1,isP b1 0,none),(3,isI .i64 i2,none)],[boxO b1 tBase a0 []]⟩ (f1026_l1 fu a0 n1 i2) from ?_) fu _
 intro n1
 induction n1 with
 | zero=>exact fun _=>.stop
 | succ n1 ih1=>
  intro i2
  refine .inLoop<|.seq<|.seq<|.g<|.m z z<|.fp z fa1026_1 z<|.lp 0 fBase_1 z z ty1024 z<|.lenL z underlying24 z<|.bin z z z z<|.nil<|.cd z ?_ ?_
  ·refine .skip<|.seq<|.block<|.seq<|.g<|.fp z fa1026_1 z<|.lp 0 fBase_1 z z ty1024 z<|.m z z<|.elemAt z z underlying24 ty1044 z<|.load z ty1044 z<|.alloc tLink d0_1044 [] z1044 z fun b3=>.storeP 0 (Fld.self _) z z z ty1044<|.nil<|.seq<|.pbind fun q4 h10=>?_
   refine .pT fun h11=>?_
   refine .drawS 10 [] [9] [] mix (by kernel_rfl) (.k (fun p e=>.fp (e.op z) fa1026_0 z)<|.k (fun p e=>.lp 1 fBase_0 (e.op z) (p.get z z) ty1023 z)<|.k (fun p e=>.lp 1 (Fld.self _) (e.op z) (p.get z z) ty1026 z)<|.k (fun p e=>.fp (e.op z) fa1044_0 z)<|.k (fun p e=>.lp 0 fLink_0 (e.op z) (p.get z z) ty9 z)<|.k (fun p e h=>.bindE h10 (fun r h=>.call0 (c1035 fu _ _) n1035 (e.ops z) z h)<|h)<|.k (fun p e h=>.useC h11<|.elemAt (e.op z) (e.op z) underlying23 ty1039 z<|h)<|.k (fun p e=>.fieldAt fTab_1 (e.op z) fa1039_1 z)<|.k (fun p e=>.load (e.op z) ty27 z)<|.skip<|.nil) z<|.cons (d:=5) z z fun _ _ hE h=>.alloc tTable d0_27 [] z27 z fun b5=>.toEnd<|h _ _ (.same<|.same<|.nil)<|.nil<|.storeP 2 (Fld.self _) z z z ty27<|.nil<|.seq<|.pbind fun q6 h12=>?_
   refine .pT fun h13=>?_
   refine .drawS 10 [] [9] [] mix (by kernel_rfl) (.k (fun p e=>.fp (e.op z) fa1026_0 z)<|.k (fun p e=>.lp 1 fBase_0 (e.op z) (p.get z z) ty1023 z)<|.k (fun p e=>.lp 1 (Fld.self _) (e.op z) (p.get z z) ty1026 z)<|.k (fun p e=>.fp (e.op z) fa1044_2 z)<|.k (fun p e=>.lp 0 fLink_2 (e.op z) (p.get z z) ty9 z)<|.k (fun p e h=>.bindE h12 (fun r h=>.call0 (c1035 fu _ _) n1035 (e.ops z) z h)<|h)<|.k (fun p e h=>.useC h13<|.elemAt (e.op z) (e.op z) underlying23 ty1039 z<|h)<|.k (fun p e=>.fieldAt fTab_1 (e.op z) fa1039_1 z)<|.k (fun p e=>.load (e.op z) ty27 z)<|.skip<|.nil) z<|.cons (d:=6) z z fun _ _ hE h=>.alloc tTable d0_27 [] z27 z fun b7=>.toEnd<|h _ _ (.same<|.same<|.same<|.nil)<|.nil<|.storeP 3 (Fld.self _) z z z ty27<|.nil<|.seq<|.pbind fun q8 h14=>?_
   refine .draw 4 [] mix (by kernel_rfl) (.k (fun p e=>.lp 2 (Fld.self _) (e.op z) (p.get z z) ty27 z)<|.k (fun p e h=>.bindE h14 (fun r h=>.call0 (c23 fu _) n23 (e.ops z) z h)<|h)<|.k (fun p e=>.fp (e.op z) fa1044_1 z)<|.k (fun p e=>.lp 0 fLink_1 (e.op z) (p.get z z) ty9 z)<|.nil) z<|.call0 (c24 fu _ _) n24 z z fun q9=>.a z z<|.nil<|.seq<|.seq<|.g<|.a z z<|.nil<|.block<|.loop<|.drop (.cons _<|.cons_cons _<|.cons_cons _<|.cons_cons _<|.slnil)<|.keep [1,3,5,6,7,8] [] z<|(show ∀ (n2:Nat) (i10:Int),W _ _ _ _ _ ⟨[(1,isP b1 0,none),(3,isI .i64 i2,none),(5,isP b5 0,none),(6,isP b7 0,none),(7,isI .i64 q9,none),(8,isI .i64 i10,none)],[boxO b1 tBase a0 [],boxO b5 tTable ((a0.tabs.getD q4.toNat default).table) [],boxO b7 tTable ((a0.tabs.getD q6.toNat default).table) []]⟩ (f1026_l2 fu a0 i2 q4 q6 q9 (f1026_l1 fu a0 n1) n2 i10) from ?_) fu _
   intro n2
   induction n2 with
   | zero=>exact fun _=>.stop
   | succ n2 ih2=>
    intro i10
    refine .inLoop<|.seq<|.seq<|.join1 (fun i11=>⟨[(1,isP b1 0,none),(3,isI .i64 i2,none),(5,isP b5 0,none),(6,isP b7 0,none),(7,isI .i64 q9,none),(8,isI .i64 i10,none),(56,isB i11,none)],[boxO b1 tBase a0 [],boxO b5 tTable ((a0.tabs.getD q4.toNat default).table) [],boxO b7 tTable ((a0.tabs.getD q6.toNat default).table) []]⟩) (fun i11=>f1026_j7 fu a0 i2 q4 q6 q9 i10 (f1026_l1 fu a0 n1) (f1026_l2 fu a0 i2 q4 q6 q9 (f1026_l1 fu a0 n1) n2) i11) (fun i11=>?_) (fun hj7=>?_)
    ·refine .cd z ?_ ?_
     ·refine .skip<|.seq<|.block<|.seq<|.pT fun h17=>?_
      refine .draw 7 [] mix (by kernel_rfl) (.k (fun p e=>.lp 1 (Fld.self _) (e.op z) (p.get z z) ty27 z)<|.k (fun p e=>.fp (e.op z) fa27_2 z)<|.k (fun p e=>.lp 1 fTable_2 (e.op z) (p.get z z) ty25 z)<|.k (fun p e=>.m (e.op z) z)<|.k (fun p e h=>.useC h17<|.elemAt (e.op z) (e.op z) underlying35 ty37 z<|h)<|.k (fun p e=>.fieldAt fRow_0 (e.op z) fa37_0 z)<|.k (fun p e=>.load (e.op z) ty3 z)<|.nil) z<|.call0 (c16 fu _ _) n16 z z fun q12=>.m z z<|.extract z z z<|.extract z z z<|.a z z<|.a z z<|.nil<|.seq<|.pT fun h18=>?_
      refine .draw 6 [] mix (by kernel_rfl) (.k (fun p e=>.lp 2 (Fld.self _) (e.op z) (p.get z z) ty27 z)<|.k (fun p e=>.m (e.op z) z)<|.k (fun p e=>.m (e.op z) z)<|.k (fun p e h=>.useC h18<|.elemAt (e.op z) (e.op z) underlying76 ty47 z<|h)<|.k (fun p e=>.fieldAt fVal_1 (e.op z) fa47_1 z)<|.k (fun p e=>.load (e.op z) ty3 z)<|.nil) z<|.call0 (c16 fu _ _) n16 z z fun q13=>.m z z<|.extract z z z<|.extract z z z<|.a z z<|.a z z<|.nil<|.seq<|.join1 (fun i14=>⟨[(1,isP b1 0,none),(3,isI .i64 i2,none),(5,isP b5 0,none),(6,isP b7 0,none),(7,isI .i64 q9,none),(8,isI .i64 i10,none),(89,isB i14,none)],[boxO b1 tBase a0 [],boxO b5 tTable ((a0.tabs.getD q4.toNat default).table) [],boxO b7 tTable ((a0.tabs.getD q6.toNat default).table) []]⟩) (fun i14=>f1026_j8 i10 (f1026_l1 fu a0 n1) (f1026_l2 fu a0 i2 q4 q6 q9 (f1026_l1 fu a0 n1) n2) i14) (fun i14=>?_) (fun hj8=>?_)
      ·refine .cd z ?_ ?_
       ·exact .seq<|.g<|.a z z<|.nil<|.ret1 func26 results26 (.tmp z) z (fun _ _=>.cons _<|.cons _<|.cons _<|.slnil)
       ·exact .skip<|.inBlock<|.g<|.m z z<|.bin z z z z<|.a z z<|.nil<|.keep [1,3,5,6,7,8] [] z (ih2 _)
      ·refine .g<|.m z z<|.m z z<|.elemAt z z underlying76 ty47 z<|.fieldAt fVal_0 z fa47_0 z<|.load z ty3 z<|.bin z z z z<|.m z z<|.split 86 z (fun _=>?_) (fun _=>?_)
       ·exact .on z z<|.m z z<|.on z z<|.not z z<|.pickT z z z<|.nil<|.keep [1,3,5,6,7,8,89] [] z (hj8 _)
       ·exact .off z z z<|.off z z z<|.pickF z z z<|.nil<|.keep [1,3,5,6,7,8,89] [] z (hj8 _)
     ·refine .exit z<|.seq<|.g<|.m z z<|.bin z z z z<|.nil<|.cd z ?_ ?_
      ·exact .seq<|.g<|.a z z<|.nil<|.ret1 func26 results26 (.tmp z) z (fun _ _=>.cons _<|.cons _<|.cons _<|.slnil)
      ·exact .skip<|.inBlock<|.g<|.m z z<|.bin z z z z<|.a z z<|.nil<|.keep [1,3] [] z (.drop (.cons_cons _<|.cons _<|.cons _<|.slnil)<|ih1 _)
    ·refine .g<|.m z z<|.fp z fa27_2 z<|.lp 1 fTable_2 z z ty25 z<|.lenL z underlying35 z<|.bin z z z z<|.m z z<|.split 53 z (fun _=>?_) (fun _=>?_)
     ·exact .on z z<|.m z z<|.on z z<|.bin z z z z<|.pickT z z z<|.nil<|.keep [1,3,5,6,7,8,56] [] z (hj7 _)
     ·exact .off z z z<|.off z z z<|.pickF z z z<|.nil<|.keep [1,3,5,6,7,8,56] [] z (hj7 _)
  ·exact .exit z<|.seq<|.g<|.a z z<|.nil<|.ret1 func26 results26 (.tmp z) z (fun _ _=>.cons _<|.slnil)
def f1004_j2 (i10:Bool):Option Bool:=some i10
def f1004_j3 (i15:Bool):Option Bool:=some i15
def f1004_j1 (fu:Nat) (q1:Base×Link) (q4:Base×Int) (i8:Bool):Option Bool:=cond i8 (some false) ((f1019 fu q1.1).bind fun q9=>cond (!q9) (cond (decide (q4.2=1)) ((f1018 fu q4.1 (⟨d0_1026.tabs,d0_1026.links⟩:Base)).bind fun q11=>f1004_j2 q11) (f1004_j2 false)) (cond (!decide (q4.2=0)) ((f1018 fu q4.1 q1.1).bind fun q12=>some q12) ((f1024 fu q4.1 q1.2).bind fun q13=>(f1020 fu q4.1).bind fun q16=>cond q16 ((f1026 fu q4.1).bind fun q17=>cond q17 (cond (decide ((q4.1.links.length:Int)=(IntKind.i64.wrap ((q1.1.links.length:Int)+1)))) (f1004_j3 (decide (q13.2=1))) (f1004_j3 false)) (f1004_j3 false)) (f1004_j3 false))))
def f1004 (fu:Nat) (a0:List Int):Option Bool:=cond (decide (1048576 < (a0.length:Int))) (some true) ((f1023 fu a0).bind fun q1=>(f1024 fu q1.1 q1.2).bind fun q4=>(f1025 fu q1.1 q1.2).bind fun q6=>cond (!decide (q4.2=q6.2)) (f1004_j1 fu q1 q4 true) ((f1018 fu q4.1 q6.1).bind fun q18=>f1004_j1 fu q1 q4 (!q18)))
theorem c1004 (fu:Nat) (a0:List Int):Ctr prog 4 [(tL (tI .u8)).va a0] [] (f1004 fu a0) (fun _ _=>[]) (fun q=>isB q):=by
 refine Ctr.of_W func4 z ntmps4 z fun A w=>?_
 unfold f1004
 refine .seq<|.g<|.a z z<|.nil<|.seq<|.seq<|.g<|.m z z<|.lenL z underlying22 z<|.bin z z z z<|.nil<|.cd z ?_ ?_
 ·exact .seq<|.g<|.a z z<|.nil<|.ret1 func4 results4 (.tmp z) z (fun _ _=>.slnil)
 ·refine .skip<|.seq<|.g<|.m z z<|.call0 (c1023 fu _) n1023 z z fun q1=>.m z z<|.extract z z z<|.extract z z z<|.alloc tBase d0_1026 [] z1026 z fun b2=>.alloc tLink d0_1044 [] z1044 z fun b3=>.storeP 1 (Fld.self _) z z z ty1026<|.storeP 0 (Fld.self _) z z z ty1044<|.nil<|.seq<|.g<|.lp 1 (Fld.self _) z z ty1026 z<|.lp 0 (Fld.self _) z z ty1044 z<|.call0 (c1024 fu _ _) n1024 z z fun q4=>.m z z<|.extract z z z<|.extract z z z<|.alloc tBase d0_1026 [] z1026 z fun b5=>.storeP 0 (Fld.self _) z z z ty1026<|.a z z<|.nil<|.seq<|.g<|.lp 2 (Fld.self _) z z ty1026 z<|.lp 1 (Fld.self _) z z ty1044 z<|.call0 (c1025 fu _ _) n1025 z z fun q6=>.m z z<|.extract z z z<|.extract z z z<|.alloc tBase d0_1026 [] z1026 z fun b7=>.storeP 0 (Fld.self _) z z z ty1026<|.a z z<|.nil<|.seq<|.seq<|.join1 (fun i8=>⟨[(3,isP b2 0,none),(4,isP b3 0,none),(5,isP b5 0,none),(6,isI .i64 q4.2,none),(39,isB i8,none)],[boxO b5 tBase q4.1 [],boxO b3 tLink q1.2 [],boxO b2 tBase q1.1 []]⟩) (fun i8=>f1004_j1 fu q1 q4 i8) (fun i8=>?_) (fun hj1=>?_)
  ·refine .cd z ?_ ?_
   ·exact .seq<|.g<|.a z z<|.nil<|.ret1 func4 results4 (.tmp z) z (fun _ _=>.cons _<|.cons _<|.cons _<|.slnil)
   ·refine .skip<|.seq<|.seq<|.g<|.lp 2 (Fld.self _) z z ty1026 z<|.call0 (c1019 fu _) n1019 z z fun q9=>.not z z<|.nil<|.cd z ?_ ?_
    ·refine .seq<|.join1 (fun i10=>⟨[(2,isB i10,none)],[]⟩) (fun i10=>f1004_j2 i10) (fun i10=>?_) (fun hj2=>?_)
     ·exact .ret1 func4 results4 (.tmp z) z (fun _ _=>.slnil)
     ·refine .g<|.m z z<|.bin z z z z<|.m z z<|.split 45 z (fun _=>?_) (fun _=>?_)
      ·exact .on z z<|.lp 0 (Fld.self _) z z ty1026 z<|.on z z<|.build z st1026 z1026 (.nil) z<|.on z z<|.call0 (c1018 fu _ _) n1018 z z fun q11=>.pickT z z z<|.a z z<|.nil<|.keep [2] [] z (.drop (.cons _<|.cons _<|.cons _<|.slnil)<|hj2 _)
      ·exact .off z z z<|.off z z z<|.off z z z<|.pickF z z z<|.a z z<|.nil<|.keep [2] [] z (.drop (.cons _<|.cons _<|.cons _<|.slnil)<|hj2 _)
    ·refine .skip<|.seq<|.seq<|.g<|.m z z<|.bin z z z z<|.nil<|.cd z ?_ ?_
     ·exact .seq<|.g<|.lp 0 (Fld.self _) z z ty1026 z<|.lp 2 (Fld.self _) z z ty1026 z<|.call0 (c1018 fu _ _) n1018 z z fun q12=>.a z z<|.nil<|.ret1 func4 results4 (.tmp z) z (fun _ _=>.cons _<|.cons _<|.cons _<|.slnil)
     ·refine .skip<|.seq<|.g<|.lp 0 (Fld.self _) z z ty1026 z<|.lp 1 (Fld.self _) z z ty1044 z<|.call0 (c1024 fu _ _) n1024 z z fun q13=>.m z z<|.extract z z z<|.extract z z z<|.alloc tBase d0_1026 [] z1026 z fun b14=>.storeP 0 (Fld.self _) z z z ty1026<|.a z z<|.nil<|.seq<|.join1 (fun i15=>⟨[(2,isB i15,none)],[]⟩) (fun i15=>f1004_j3 i15) (fun i15=>?_) (fun hj3=>?_)
      ·exact .ret1 func4 results4 (.tmp z) z (fun _ _=>.slnil)
      ·refine .g<|.lp 1 (Fld.self _) z z ty1026 z<|.call0 (c1020 fu _) n1020 z z fun q16=>.m z z<|.split 63 z (fun _=>?_) (fun _=>?_)
       ·refine .on z z<|.lp 1 (Fld.self _) z z ty1026 z<|.on z z<|.call0 (c1026 fu _) n1026 z z fun q17=>.pickT z z z<|.m z z<|.split 67 z (fun _=>?_) (fun _=>?_)
        ·refine .on z z<|.fp z fa1026_1 z<|.on z z<|.lp 1 fBase_1 z z ty1024 z<|.on z z<|.lenL z underlying24 z<|.on z z<|.fp z fa1026_1 z<|.on z z<|.lp 3 fBase_1 z z ty1024 z<|.on z z<|.lenL z underlying24 z<|.on z z<|.bin z z z z<|.on z z<|.bin z z z z<|.pickT z z z<|.m z z<|.split 77 z (fun _=>?_) (fun _=>?_)
         ·exact .on z z<|.m z z<|.on z z<|.bin z z z z<|.pickT z z z<|.a z z<|.nil<|.keep [2] [] z (.drop (.cons _<|.cons _<|.cons _<|.cons _<|.slnil)<|hj3 _)
         ·exact .off z z z<|.off z z z<|.pickF z z z<|.a z z<|.nil<|.keep [2] [] z (.drop (.cons _<|.cons _<|.cons _<|.cons _<|.slnil)<|hj3 _)
        ·exact .off z z z<|.off z z z<|.off z z z<|.off z z z<|.off z z z<|.off z z z<|.off z z z<|.off z z z<|.pickF z z z<|.m z z<|.off z z z<|.off z z z<|.pickF z z z<|.a z z<|.nil<|.keep [2] [] z (.drop (.cons _<|.cons _<|.cons _<|.cons _<|.slnil)<|hj3 _)
       ·exact .off z z z<|.off z z z<|.pickF z z z<|.m z z<|.off z z z<|.off z z z<|.off z z z<|.off z z z<|.off z z z<|.off z z z<|.off z z z<|.off z z z<|.pickF z z z<|.m z z<|.off z z z<|.off z z z<|.pickF z z z<|.a z z<|.nil<|.keep [2] [] z (.drop (.cons _<|.cons _<|.cons _<|.cons _<|.slnil)<|hj3 _)
  ·refine .g<|.m z z<|.m z z<|.bin z z z z<|.m z z<|.split 34 z (fun _=>?_) (fun _=>?_)
   ·exact .off z z z<|.off z z z<|.off z z z<|.off z z z<|.pickT z z z<|.nil<|.keep [3,4,5,6,39] [] z (.drop (.cons _<|.cons_cons _<|.cons_cons _<|.cons_cons _<|.slnil)<|hj1 _)
   ·exact .on z z<|.lp 1 (Fld.self _) z z ty1026 z<|.on z z<|.lp 0 (Fld.self _) z z ty1026 z<|.on z z<|.call0 (c1018 fu _ _) n1018 z z fun q18=>.on z z<|.not z z<|.pickF z z z<|.nil<|.keep [3,4,5,6,39] [] z (.drop (.cons _<|.cons_cons _<|.cons_cons _<|.cons_cons _<|.slnil)<|hj1 _)
end Go.Proofs.YtdpigighgmipfaaGreatDoor
