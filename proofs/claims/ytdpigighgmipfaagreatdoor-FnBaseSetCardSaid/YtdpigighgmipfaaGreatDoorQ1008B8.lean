/- Functions of the program: what each answers, and that the machine answers so. -/
import Derived.Test.YtdpigighgmipfaaGreatDoorQ1008B7
import Derived.KernelRfl
set_option linter.all false
namespace Go.Proofs.YtdpigighgmipfaaGreatDoor
open Go Go.HL Tryz
def f1096_j1 (fu:Nat)(a1:Base)(q2:(List UInt8)×Rd)(q3:Int)(i4:Bool)(i5:Rd):Option (((List UInt8)×Int)×Rd):=cond i4 (cond (decide (0≤q3)&&decide (q3 < (a1.tabs.length:Int))) (cond (decide (0≤q3)&&decide (q3 < (a1.tabs.length:Int))) ((f74 fu i5 (List.length (((a1.tabs.getD q3.toNat default).table).rows):Int)).bind fun q6=>cond (decide (0≤q6.1)&&decide (q6.1 < (List.length (((a1.tabs.getD q3.toNat default).table).rows):Int))) (some ((q2.1,((((a1.tabs.getD q3.toNat default).table).rows).getD q6.1.toNat default).id),q6.2)) none) none) none) ((f73 fu i5 ([0,1,2,99]:List Int)).bind fun q7=>some ((q2.1,q7.1),q7.2))
def f1096 (fu:Nat)(a0:Rd)(a1:Base):Option (((List UInt8)×Int)×Rd):=(f96 fu a0 ([([116]:List UInt8),([117]:List UInt8),([118]:List UInt8),([119]:List UInt8),([116]:List UInt8),([117]:List UInt8)]:List (List UInt8))).bind fun q2=>(f1062 fu a1 q2.1).bind fun q3=>cond (decide (0≤q3)) (cond (decide (0≤q3)&&decide (q3 < (a1.tabs.length:Int))) (cond (decide (0 < (List.length (((a1.tabs.getD q3.toNat default).table).rows):Int))) ((f74 fu q2.2 8).bind fun q8=>f1096_j1 fu a1 q2 q3 (decide (0<q8.1)) q8.2) (f1096_j1 fu a1 q2 q3 false q2.2)) none) (f1096_j1 fu a1 q2 q3 false q2.2)
theorem n1096:Nm prog 96:=⟨_,_,func96,by kernel_rfl,z⟩
theorem c1096 (fu:Nat)(bp0:Nat)(a0:Rd)(a1:Base):Ctr prog 96 [isP bp0 0,tBase.va a1] [boxO bp0 tRd a0 []] (f1096 fu a0 a1) (fun q _=>[boxO bp0 tRd q.2 []]) (fun q=>tup [isS q.1.1,isI .i64 q.1.2]):=by
 refine Ctr.of_W func96 z ntmps96 z fun A w=>?_
 unfold f1096
 refine .s<|.box (T:=tBase) z z fun b1=>.a z z<|.an z z<|.s<|.m z z<|.litN (T:=tS) u89 el9 z z (.cons z<|.cons z<|.cons z<|.cons z<|.cons z<|.cons z<|.nil) z<|.call1 1 (c96 fu _ _ _) z n96 z z fun q2=>.an z z<|.s<|.lp 0 (Fld.self _) z z ty1026 z<|.m z z<|.call0 (c1062 fu _ _) n1062 z z fun q3=>.an z z<|.seq<|.seq<|.join2 (fun i4 i5=>⟨[(0,isP bp0 0,none),(3,isP b1 0,none),(6,isS q2.1,none),(7,isI .i64 q3,none),(31,isB i4,none)],[boxO b1 tBase a1 [],boxO bp0 tRd i5 []]⟩) (fun i4 i5=>f1096_j1 fu a1 q2 q3 i4 i5) (fun i4 i5=>?_) (fun hj1=>?_)
 ·refine .cd z ?_ ?_
  ·refine .seq<|.pT fun h1=>?_
   refine .pT fun h2=>?_
   refine .pbind fun q6 h3=>?_
   refine .pT fun h4=>?_
   refine .drawS 22 [] [17,18,19,20] [1] mix (by kernel_rfl) (.j (fun o=>.m (o z) z)<|.j (fun o=>.fp (o z) fa1026_0 z)<|.k (fun p e=>.lp 0 fBase_0 (e.op z) (p.get z z) ty1023 z)<|.j (fun o=>.m (o z) z)<|.k (fun p e h=>.useC h1<|.elemAt (e.op z) (e.op z) u23 ty1039 z<|h)<|.j (fun o=>.fieldAt fTab_1 (o z) fa1039_1 z)<|.j (fun o=>.fieldAt fTable_2 (o z) fa27_2 z)<|.j (fun o=>.load (o z) ty25 z)<|.j (fun o=>.m (o z) z)<|.j (fun o=>.fp (o z) fa1026_0 z)<|.k (fun p e=>.lp 0 fBase_0 (e.op z) (p.get z z) ty1023 z)<|.j (fun o=>.m (o z) z)<|.k (fun p e h=>.useC h2<|.elemAt (e.op z) (e.op z) u23 ty1039 z<|h)<|.j (fun o=>.fieldAt fTab_1 (o z) fa1039_1 z)<|.j (fun o=>.fieldAt fTable_2 (o z) fa27_2 z)<|.j (fun o=>.load (o z) ty25 z)<|.j (fun o=>.lenL (o z) u35 z)<|.skip<|.skip<|.skip<|.skip<|.j (fun o=>.a (o z) z)<|.nil) z<|.cons (d:=49) z z fun _ _ hE h=>.bindE h3 (fun r h=>.call1 1 (c74 fu _ _ _) z n74 (hE.ops z) z h)<|h _ _ (.same<|.hole z<|.nil)<|.cons (d:=50) z z fun _ _ hE h=>.useC h4<|.elemAt (hE.op z) (hE.op z) u35 ty37 z<|h _ _ (.same<|.hole z<|.nil)<|.cons (d:=51) z z fun _ _ hE h=>.fieldAt fRow_0 (hE.op z) fa37_0 z<|h _ _ (.same<|.hole z<|.nil)<|.cons (d:=52) z z fun _ _ hE h=>.load (hE.op z) ty3 z<|h _ _ (.same<|.hole z<|.nil)<|.nil<|.a z z<|.nil ?_
   exact .ret2 func96 results96 (.tmp z) (.tmp z) z (fun _=>.c<|.d<|.e)
  ·exact .skip<|.s<|.m z z<|.m z z<|.litN (T:=(tI .i64)) u143 el3 z z (.cons z<|.cons z<|.cons z<|.cons z<|.nil) z<|.call1 1 (c73 fu _ _ _) z n73 z z fun q7=>.a z z<|.an z z<|.ret2 func96 results96 (.tmp z) (.tmp z) z (fun _=>.c<|.d<|.e)
 ·refine .g<|.m z z<|.bin z z z z<|.m z z<|.split 16 z (fun _=>?_) (fun _=>?_)
  ·refine .on z z<|.fp z fa1026_0 z<|.on z z<|.lp 0 fBase_0 z z ty1023 z<|.on z z<|.m z z<|.on z z<|.elemAt z z u23 ty1039 z<|.on z z<|.fieldAt fTab_1 z fa1039_1 z<|.on z z<|.fieldAt fTable_2 z fa27_2 z<|.on z z<|.load z ty25 z<|.on z z<|.lenL z u35 z<|.on z z<|.bin z z z z<|.pickT z z z<|.m z z<|.split 27 z (fun _=>?_) (fun _=>?_)
   ·exact .on z z<|.m z z<|.on z z<|.call1 1 (c74 fu _ _ _) z n74 z z fun q8=>.on z z<|.bin z z z z<|.pickT z z z<|.nil<|.keep [0,3,6,7,31] [] z (hj1 _ _)
   ·exact .off z z z<|.off z z z<|.off z z z<|.pickF z z z<|.nil<|.keep [0,3,6,7,31] [] z (hj1 _ _)
  ·exact .off z z z<|.off z z z<|.off z z z<|.off z z z<|.off z z z<|.off z z z<|.off z z z<|.off z z z<|.off z z z<|.pickF z z z<|.m z z<|.off z z z<|.off z z z<|.off z z z<|.pickF z z z<|.nil<|.keep [0,3,6,7,31] [] z (hj1 _ _)
end Go.Proofs.YtdpigighgmipfaaGreatDoor
