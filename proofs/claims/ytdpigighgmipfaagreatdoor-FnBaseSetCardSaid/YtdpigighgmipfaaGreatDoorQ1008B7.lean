/- Functions of the program: what each answers, and that the machine answers so. -/
import Derived.Test.YtdpigighgmipfaaGreatDoorQ1008B6
import Derived.KernelRfl
set_option linter.all false
namespace Go.Proofs.YtdpigighgmipfaaGreatDoor
open Go Go.HL Tryz
def f1035_l1 (a0:Base)(a1:List UInt8):Nat→Int→Option Int
 | 0,_=>none
 | n1+1,i2=>cond (decide (i2 < (a0.tabs.length:Int))) (cond (decide (0≤i2)&&decide (i2 < (a0.tabs.length:Int))) (cond (decide (((a0.tabs.getD i2.toNat default).name)=a1)) (some i2) ((f1035_l1 a0 a1 n1) (IntKind.i64.wrap (i2+1)))) none) (some (-1))
def f1035 (fu:Nat)(a0:Base)(a1:List UInt8):Option Int:=f1035_l1 a0 a1 fu 0
theorem n1035:Nm prog 35:=⟨_,_,func35,by kernel_rfl,z⟩
theorem c1035 (fu:Nat)(a0:Base)(a1:List UInt8):Ctr prog 35 [tBase.va a0,isS a1] [] (f1035 fu a0 a1) (fun _ _=>[]) (fun q=>isI .i64 q):=by
 refine Ctr.of_W func35 z ntmps35 z fun A w=>?_
 unfold f1035
 refine .s<|.box (T:=tBase) z z fun b1=>.an z z<|.seq<|.s<|.an z z<|.block<|.loop<|.keep [1,2,5] [] z<|(show ∀ (n1:Nat) (i2:Int),W _ _ _ _ _ ⟨[(1,isS a1,none),(2,isP b1 0,none),(5,isI .i64 i2,none)],[boxO b1 tBase a0 []]⟩ (f1035_l1 a0 a1 n1 i2) from ?_) fu _
 intro n1
 induction n1 with
 | zero=>exact fun _=>.stop
 | succ n1 ih1=>
  intro i2
  refine .inLoop<|.seq<|.s<|.m z z<|.fp z fa1026_0 z<|.lp 0 fBase_0 z z ty1023 z<|.lenL z u23 z<|.bin z z z z<|.nil<|.cd z ?_ ?_
  ·refine .skip<|.seq<|.block<|.s<|.fp z fa1026_0 z<|.lp 0 fBase_0 z z ty1023 z<|.m z z<|.elemAt z z u23 ty1039 z<|.fieldAt fTab_0 z fa1039_0 z<|.load z ty9 z<|.m z z<|.seq z z z<|.nil<|.cd z ?_ ?_
   ·exact .s<|.m z z<|.an z z<|.ret1 func35 results35 (.tmp z) z (fun _ _=>.c<|.e)
   ·exact .skip<|.inBlock<|.g<|.m z z<|.bin z z z z<|.an z z<|.keep [1,2,5] [] z (ih1 _)
  ·exact .exit z<|.s<|.an z z<|.ret1 func35 results35 (.tmp z) z (fun _ _=>.c<|.e)
def f1026_j8 (i10:Int)(rec1:Int→Option Bool)(rec2:Int→Option Bool)(i14:Bool):Option Bool:=cond i14 (some false) (rec2 (IntKind.i64.wrap (i10+1)))
def f1026_j7 (fu:Nat)(a0:Base)(i2:Int)(q4:Int)(q6:Int)(q9:Int)(i10:Int)(rec1:Int→Option Bool)(rec2:Int→Option Bool)(i11:Bool):Option Bool:=cond i11 (cond (decide (0≤i10)&&decide (i10 < (List.length (((a0.tabs.getD q4.toNat default).table).rows):Int))) ((f16 fu ((a0.tabs.getD q4.toNat default).table) (((((a0.tabs.getD q4.toNat default).table).rows).getD i10.toNat default).id)).bind fun q12=>cond (decide (0≤q9)&&decide (q9 < (q12.1.length:Int))) ((f16 fu ((a0.tabs.getD q6.toNat default).table) ((q12.1.getD q9.toNat default).n)).bind fun q13=>cond (decide (0≤q9)&&decide (q9 < (q12.1.length:Int))) (cond (!decide (((q12.1.getD q9.toNat default).kind)=0)) (f1026_j8 i10 rec1 rec2 (!q13.2)) (f1026_j8 i10 rec1 rec2 false)) none) none) none) (cond (decide (q9<0)) (some false) (rec1 (IntKind.i64.wrap (i2+1))))
def f1026_l2 (fu:Nat)(a0:Base)(i2:Int)(q4:Int)(q6:Int)(q9:Int)(rec1:Int→Option Bool):Nat→Int→Option Bool
 | 0,_=>none
 | n2+1,i10=>cond (decide (i10 < (List.length (((a0.tabs.getD q4.toNat default).table).rows):Int))) (f1026_j7 fu a0 i2 q4 q6 q9 i10 rec1 (f1026_l2 fu a0 i2 q4 q6 q9 rec1 n2) (decide (0≤q9))) (f1026_j7 fu a0 i2 q4 q6 q9 i10 rec1 (f1026_l2 fu a0 i2 q4 q6 q9 rec1 n2) false)
def f1026_l1 (fu:Nat)(a0:Base):Nat→Int→Option Bool
 | 0,_=>none
 | n1+1,i2=>cond (decide (i2 < (a0.links.length:Int))) (cond (decide (0≤i2)&&decide (i2 < (a0.links.length:Int))) ((f1035 fu a0 ((a0.links.getD i2.toNat default).from_)).bind fun q4=>cond (decide (0≤q4)&&decide (q4 < (a0.tabs.length:Int))) ((f1035 fu a0 ((a0.links.getD i2.toNat default).to)).bind fun q6=>cond (decide (0≤q6)&&decide (q6 < (a0.tabs.length:Int))) ((f23 fu ((a0.tabs.getD q4.toNat default).table)).bind fun q8=>(f24 fu q8 ((a0.links.getD i2.toNat default).col)).bind fun q9=>f1026_l2 fu a0 i2 q4 q6 q9 (f1026_l1 fu a0 n1) fu 0) none) none) none) (some true)
def f1026 (fu:Nat)(a0:Base):Option Bool:=f1026_l1 fu a0 fu 0
theorem n1026:Nm prog 26:=⟨_,_,func26,by kernel_rfl,z⟩
theorem c1026 (fu:Nat)(a0:Base):Ctr prog 26 [tBase.va a0] [] (f1026 fu a0) (fun _ _=>[]) (fun q=>isB q):=by
 refine Ctr.of_W func26 z ntmps26 z fun A w=>?_
 unfold f1026
 refine .s<|.box (T:=tBase) z z fun b1=>.an z z<|.seq<|.s<|.an z z<|.block<|.loop<|.keep [1,3] [] z<|(show ∀ (n1:Nat) (i2:Int),W _ _ _ _ _ ⟨[(1,isP b1 0,none),(3,isI .i64 i2,none)],[boxO b1 tBase a0 []]⟩ (f1026_l1 fu a0 n1 i2) from ?_) fu _
 intro n1
 induction n1 with
 | zero=>exact fun _=>.stop
 | succ n1 ih1=>
  intro i2
  refine .inLoop<|.seq<|.s<|.m z z<|.fp z fa1026_1 z<|.lp 0 fBase_1 z z ty1024 z<|.lenL z u24 z<|.bin z z z z<|.nil<|.cd z ?_ ?_
  ·refine .skip<|.seq<|.block<|.s<|.fp z fa1026_1 z<|.lp 0 fBase_1 z z ty1024 z<|.m z z<|.elemAt z z u24 ty1044 z<|.load z ty1044 z<|.alloc tLink d0_1044 [] z1044 z fun b3=>.storeP 0 (Fld.self _) z z z ty1044<|.nil<|.seq<|.pbind fun q4 h10=>?_
   refine .pT fun h11=>?_
   refine .drawS 10 [] [9] [] mix (by kernel_rfl) (.j (fun o=>.fp (o z) fa1026_0 z)<|.k (fun p e=>.lp 1 fBase_0 (e.op z) (p.get z z) ty1023 z)<|.k (fun p e=>.lp 1 (Fld.self _) (e.op z) (p.get z z) ty1026 z)<|.j (fun o=>.fp (o z) fa1044_0 z)<|.k (fun p e=>.lp 0 fLink_0 (e.op z) (p.get z z) ty9 z)<|.k (fun p e h=>.bindE h10 (fun r h=>.call0 (c1035 fu _ _) n1035 (e.ops z) z h)<|h)<|.k (fun p e h=>.useC h11<|.elemAt (e.op z) (e.op z) u23 ty1039 z<|h)<|.j (fun o=>.fieldAt fTab_1 (o z) fa1039_1 z)<|.j (fun o=>.load (o z) ty27 z)<|.skip<|.nil) z<|.cons (d:=5) z z fun _ _ hE h=>.alloc tTable d0_27 [] z27 z fun b5=>.toEnd<|h _ _ (.same<|.same<|.nil)<|.nil<|.storeP 2 (Fld.self _) z z z ty27<|.nil<|.seq<|.pbind fun q6 h12=>?_
   refine .pT fun h13=>?_
   refine .drawS 10 [] [9] [] mix (by kernel_rfl) (.j (fun o=>.fp (o z) fa1026_0 z)<|.k (fun p e=>.lp 1 fBase_0 (e.op z) (p.get z z) ty1023 z)<|.k (fun p e=>.lp 1 (Fld.self _) (e.op z) (p.get z z) ty1026 z)<|.j (fun o=>.fp (o z) fa1044_2 z)<|.k (fun p e=>.lp 0 fLink_2 (e.op z) (p.get z z) ty9 z)<|.k (fun p e h=>.bindE h12 (fun r h=>.call0 (c1035 fu _ _) n1035 (e.ops z) z h)<|h)<|.k (fun p e h=>.useC h13<|.elemAt (e.op z) (e.op z) u23 ty1039 z<|h)<|.j (fun o=>.fieldAt fTab_1 (o z) fa1039_1 z)<|.j (fun o=>.load (o z) ty27 z)<|.skip<|.nil) z<|.cons (d:=6) z z fun _ _ hE h=>.alloc tTable d0_27 [] z27 z fun b7=>.toEnd<|h _ _ (.same<|.same<|.same<|.nil)<|.nil<|.storeP 3 (Fld.self _) z z z ty27<|.nil<|.seq<|.pbind fun q8 h14=>?_
   refine .draw 4 [] mix (by kernel_rfl) (.k (fun p e=>.lp 2 (Fld.self _) (e.op z) (p.get z z) ty27 z)<|.k (fun p e h=>.bindE h14 (fun r h=>.call0 (c23 fu _) n23 (e.ops z) z h)<|h)<|.j (fun o=>.fp (o z) fa1044_1 z)<|.k (fun p e=>.lp 0 fLink_1 (e.op z) (p.get z z) ty9 z)<|.nil) z<|.call0 (c24 fu _ _) n24 z z fun q9=>.an z z<|.seq<|.s<|.an z z<|.block<|.loop<|.drop (.c<|.d<|.d<|.d<|.e)<|.keep [1,3,5,6,7,8] [] z<|(show ∀ (n2:Nat) (i10:Int),W _ _ _ _ _ ⟨[(1,isP b1 0,none),(3,isI .i64 i2,none),(5,isP b5 0,none),(6,isP b7 0,none),(7,isI .i64 q9,none),(8,isI .i64 i10,none)],[boxO b1 tBase a0 [],boxO b5 tTable ((a0.tabs.getD q4.toNat default).table) [],boxO b7 tTable ((a0.tabs.getD q6.toNat default).table) []]⟩ (f1026_l2 fu a0 i2 q4 q6 q9 (f1026_l1 fu a0 n1) n2 i10) from ?_) fu _
   intro n2
   induction n2 with
   | zero=>exact fun _=>.stop
   | succ n2 ih2=>
    intro i10
    refine .inLoop<|.seq<|.seq<|.join1 (fun i11=>⟨[(1,isP b1 0,none),(3,isI .i64 i2,none),(5,isP b5 0,none),(6,isP b7 0,none),(7,isI .i64 q9,none),(8,isI .i64 i10,none),(56,isB i11,none)],[boxO b1 tBase a0 [],boxO b5 tTable ((a0.tabs.getD q4.toNat default).table) [],boxO b7 tTable ((a0.tabs.getD q6.toNat default).table) []]⟩) (fun i11=>f1026_j7 fu a0 i2 q4 q6 q9 i10 (f1026_l1 fu a0 n1) (f1026_l2 fu a0 i2 q4 q6 q9 (f1026_l1 fu a0 n1) n2) i11) (fun i11=>?_) (fun hj7=>?_)
    ·refine .cd z ?_ ?_
     ·refine .skip<|.seq<|.block<|.seq<|.pT fun h17=>?_
      refine .draw 7 [] mix (by kernel_rfl) (.k (fun p e=>.lp 1 (Fld.self _) (e.op z) (p.get z z) ty27 z)<|.j (fun o=>.fp (o z) fa27_2 z)<|.k (fun p e=>.lp 1 fTable_2 (e.op z) (p.get z z) ty25 z)<|.j (fun o=>.m (o z) z)<|.k (fun p e h=>.useC h17<|.elemAt (e.op z) (e.op z) u35 ty37 z<|h)<|.j (fun o=>.fieldAt fRow_0 (o z) fa37_0 z)<|.j (fun o=>.load (o z) ty3 z)<|.nil) z<|.call0 (c16 fu _ _) n16 z z fun q12=>.m z z<|.extract z z z<|.extract z z z<|.a z z<|.an z z<|.seq<|.pT fun h18=>?_
      refine .draw 6 [] mix (by kernel_rfl) (.k (fun p e=>.lp 2 (Fld.self _) (e.op z) (p.get z z) ty27 z)<|.j (fun o=>.m (o z) z)<|.j (fun o=>.m (o z) z)<|.k (fun p e h=>.useC h18<|.elemAt (e.op z) (e.op z) u76 ty47 z<|h)<|.j (fun o=>.fieldAt fVal_1 (o z) fa47_1 z)<|.j (fun o=>.load (o z) ty3 z)<|.nil) z<|.call0 (c16 fu _ _) n16 z z fun q13=>.m z z<|.extract z z z<|.extract z z z<|.a z z<|.an z z<|.seq<|.join1 (fun i14=>⟨[(1,isP b1 0,none),(3,isI .i64 i2,none),(5,isP b5 0,none),(6,isP b7 0,none),(7,isI .i64 q9,none),(8,isI .i64 i10,none),(89,isB i14,none)],[boxO b1 tBase a0 [],boxO b5 tTable ((a0.tabs.getD q4.toNat default).table) [],boxO b7 tTable ((a0.tabs.getD q6.toNat default).table) []]⟩) (fun i14=>f1026_j8 i10 (f1026_l1 fu a0 n1) (f1026_l2 fu a0 i2 q4 q6 q9 (f1026_l1 fu a0 n1) n2) i14) (fun i14=>?_) (fun hj8=>?_)
      ·refine .cd z ?_ ?_
       ·exact .s<|.an z z<|.ret1 func26 results26 (.tmp z) z (fun _ _=>.c<|.c<|.c<|.e)
       ·exact .skip<|.inBlock<|.g<|.m z z<|.bin z z z z<|.an z z<|.keep [1,3,5,6,7,8] [] z (ih2 _)
      ·refine .g<|.m z z<|.m z z<|.elemAt z z u76 ty47 z<|.fieldAt fVal_0 z fa47_0 z<|.load z ty3 z<|.bin z z z z<|.m z z<|.split 86 z (fun _=>?_) (fun _=>?_)
       ·exact .on z z<|.m z z<|.on z z<|.not z z<|.pickT z z z<|.nil<|.keep [1,3,5,6,7,8,89] [] z (hj8 _)
       ·exact .off z z z<|.off z z z<|.pickF z z z<|.nil<|.keep [1,3,5,6,7,8,89] [] z (hj8 _)
     ·refine .exit z<|.s<|.m z z<|.bin z z z z<|.nil<|.cd z ?_ ?_
      ·exact .s<|.an z z<|.ret1 func26 results26 (.tmp z) z (fun _ _=>.c<|.c<|.c<|.e)
      ·exact .skip<|.inBlock<|.g<|.m z z<|.bin z z z z<|.an z z<|.keep [1,3] [] z (.drop (.d<|.c<|.c<|.e)<|ih1 _)
    ·refine .g<|.m z z<|.fp z fa27_2 z<|.lp 1 fTable_2 z z ty25 z<|.lenL z u35 z<|.bin z z z z<|.m z z<|.split 53 z (fun _=>?_) (fun _=>?_)
     ·exact .on z z<|.m z z<|.on z z<|.bin z z z z<|.pickT z z z<|.nil<|.keep [1,3,5,6,7,8,56] [] z (hj7 _)
     ·exact .off z z z<|.off z z z<|.pickF z z z<|.nil<|.keep [1,3,5,6,7,8,56] [] z (hj7 _)
  ·exact .exit z<|.s<|.an z z<|.ret1 func26 results26 (.tmp z) z (fun _ _=>.c<|.e)
end Go.Proofs.YtdpigighgmipfaaGreatDoor
