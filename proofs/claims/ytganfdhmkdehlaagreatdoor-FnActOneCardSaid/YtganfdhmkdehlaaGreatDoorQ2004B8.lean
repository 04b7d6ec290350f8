/- Functions of the program: what each answers, and that the machine answers so. -/
import Derived.Test.YtganfdhmkdehlaaGreatDoorQ2004B7
import Derived.KernelRfl
set_option linter.all false
namespace Go.Proofs.YtganfdhmkdehlaaGreatDoor
open Go Go.HL Tryz
attribute [local irreducible] W WO
def f0 (fu:Nat)(a1:ac)(q2:(List UInt8)×Rd)(q3:Int)(i4:Bool)(i5:Rd):Option (((List UInt8)×Int)×Rd):=cond i4 (cond (decide (0≤q3)&&decide (q3 < (a1.tabs.length:Int))) (cond (decide (0≤q3)&&decide (q3 < (a1.tabs.length:Int))) ((f74 fu i5 (List.length (((a1.tabs.getD q3.toNat default).table).rows):Int)).bind fun q6=>cond (decide (0≤q6.1)&&decide (q6.1 < (List.length (((a1.tabs.getD q3.toNat default).table).rows):Int))) (some ((q2.1,((((a1.tabs.getD q3.toNat default).table).rows).getD q6.1.toNat default).id),q6.2)) none) none) none) ((f73 fu i5 ([0,1,2,99]:List Int)).bind fun q7=>some ((q2.1,q7.1),q7.2))
def vf (fu:Nat)(a0:Rd)(a1:ac):Option (((List UInt8)×Int)×Rd):=(f96 fu a0 ([([116]:List UInt8),([117]:List UInt8),([118]:List UInt8),([119]:List UInt8),([116]:List UInt8),([117]:List UInt8)]:List (List UInt8))).bind fun q2=>(f1062 fu a1 q2.1).bind fun q3=>cond (decide (0≤q3)) (cond (decide (0≤q3)&&decide (q3 < (a1.tabs.length:Int))) (cond (decide (0 < (List.length (((a1.tabs.getD q3.toNat default).table).rows):Int))) ((f74 fu q2.2 8).bind fun q8=>f0 fu a1 q2 q3 (decide (0<q8.1)) q8.2) (f0 fu a1 q2 q3 false q2.2)) none) (f0 fu a1 q2 q3 false q2.2)
theorem n1096:Nm prog 90:=⟨_,_,func90,by kernel_rfl,z⟩
theorem c1096 (fu:Nat)(bp0:Nat)(a0:Rd)(a1:ac):Ctr prog 90 [isP bp0 0,tBase.va a1] [boxO bp0 tRd a0 []] (vf fu a0 a1) (fun q _=>[boxO bp0 tRd q.2 []]) (fun q=>tup [isS q.1.1,isI .i64 q.1.2]):=by
 refine .w func90 ntmps90 fun hf A w=>?_
 unfold vf
 refine .s<|.box (T:=tBase) z z fun b1=>go ?_
 refine .s<|go ?_
 refine .call1 1 (c96 fu _ _ _) z n96 z z fun q2=>.an z z<|.s<|go ?_
 refine .call0 (c1062 fu _ _) n1062 z z fun q3=>.an z z<|.seq<|.seq<|.join2 (fun i4 i5=>⟨[(0,isP bp0 0,none),(3,isP b1 0,none),(6,isS q2.1,none),(7,isI .i64 q3,none),(31,isB i4,none)],[boxO b1 tBase a1 [],boxO bp0 tRd i5 []]⟩) (fun i4 i5=>f0 fu a1 q2 q3 i4 i5) (fun i4 i5=>?_) (fun hj1=>?_)
 ·refine .cd z ?_ ?_
  ·exact .seq<|.pT fun h1=>.pT fun h2=>.pbind fun q6 h3=>.pT fun h4=>.drawS 22 [] [17,18,19,20] [1] mix (by kernel_rfl) sts z<|.cons (d:=49) z z fun _ _ hE h=>.bindE h3 (fun r h=>.call1 1 (c74 fu _ _ _) z n74 (hE.ops z) z h)<|h _ _ (.same<|.hole z<|.nil)<|.cons (d:=50) z z fun _ _ hE h=>.useC h4<|.elemAt (hE.op z) (hE.op z) u57 ty37 z<|h _ _ (.same<|.hole z<|.nil)<|.cons (d:=51) z z fun _ _ hE h=>.fieldAt bG (hE.op z) bY z<|h _ _ (.same<|.hole z<|.nil)<|.cons (d:=52) z z fun _ _ hE h=>.load (hE.op z) ty3 z<|h _ _ (.same<|.hole z<|.nil)<|fr
  ·refine .skip<|.s<|go ?_
   exact .call1 1 (c73 fu _ _ _) z n73 z z fun q7=>fr
 ·refine .g<|go ?_
  refine .split 16 z (fun _=>?_) (fun _=>?_)
  ·refine go ?_
   refine .split 27 z (fun _=>?_) (fun _=>?_)
   ·refine go ?_
    exact .call1 1 (c74 fu _ _ _) z n74 z z fun q8=>fj (hj1 _ _)
   ·exact fj (hj1 _ _)
  ·exact fj (hj1 _ _)
def kg (i3:Bool):Option Bool:=some i3
def vg (fu:Nat)(a0:ac)(a1:List UInt8)(a2:Int):Option Bool:=(eY fu a0 a1).bind fun q2=>cond (decide (0≤q2)) (cond (decide (0≤q2)&&decide (q2 < (a0.tabs.length:Int))) ((f48 fu ((a0.tabs.getD q2.toNat default).table) a2).bind fun q4=>kg (decide (0≤q4))) none) (kg false)
theorem n1084:Nm prog 108:=⟨_,_,func108,by kernel_rfl,z⟩
theorem c1084 (fu:Nat)(a0:ac)(a1:List UInt8)(a2:Int):Ctr prog 108 [tBase.va a0,isS a1,isI .i64 a2] [] (vg fu a0 a1 a2) (fun _ _=>[]) (fun q=>isB q):=by
 refine .w func108 ntmps108 fun hf A w=>?_
 unfold vg
 refine .s<|.box (T:=tBase) z z fun b1=>.an z z<|.s<|go ?_
 refine .call0 (c1056 fu _ _) n1056 z z fun q2=>.an z z<|.seq<|.join1 (fun i3=>⟨[(6,isB i3,none)],[]⟩) (fun i3=>kg i3) (fun i3=>?_) (fun hj1=>?_)
 ·exact fr
 ·refine .g<|go ?_
  refine .split 13 z (fun _=>?_) (fun _=>?_)
  ·refine go ?_
   exact .call0 (c48 fu _ _) n48 z z fun q4=>fj (hj1 _)
  ·exact fj (hj1 _)
def vv (fu:Nat)(a0:ac)(a1:List UInt8)(a2:Int):Option (ac×Int):=(jm fu a0).bind fun q3=>cond (!q3) (some ((⟨([]:List Tab),([]:List aj)⟩:ac),1)) ((d7 fu a0).bind fun q4=>(sT fu q4 a1 a2).bind fun q5=>(d7 fu q5.1).bind fun q7=>some (q7,q5.2))
theorem n1029:Nm prog 125:=⟨_,_,func125,by kernel_rfl,z⟩
theorem c1029 (fu:Nat)(a0:ac)(a1:List UInt8)(a2:Int):Ctr prog 125 [tBase.va a0,isS a1,isI .i64 a2] [] (vv fu a0 a1 a2) (fun _ _=>[]) (fun q=>tup [tBase.va q.1,isI .i64 q.2]):=by
 refine .w func125 ntmps125 fun hf A w=>?_
 unfold vv
 refine .s<|.box (T:=tBase) z z fun b1=>.alloc tBaseA au [] aA z fun b2=>.an z z<|.seq<|.s<|go ?_
 refine .call0 (c1019 fu _) n1019 z z fun q3=>.not z z<|.nil<|.cd z ?_ ?_
 ·exact .s<|.buildA z dF aA (.nil) z<|.storeP 0 (Fld.self _) z z z al<|.arrNil tTab<|.arrNil tLink<|.an z z<|.frzBox 2 1 conv1026_0 z z<|.frzBox 2 0 conv1026_1 z z<|fr
 ·refine .skip<|.s<|go ?_
  refine .call0 (gO (c1059 fu _)) n1059 z z fun q4=>go ?_
  refine .call0 (c1091 fu _ _ _) n1091 z z fun q5=>go ?_
  refine .alloc tBaseA au [] aA z fun b6=>.storeW 0 z z z z al<|.an z z<|.s<|go ?_
  refine .callL0 (c1059 fu _) n1059 z z fun q7 p8=>go ?_
  exact .frzBox 3 0 conv1026_0 z z<|.frzBox 3 1 conv1026_1 z z<|fr
def kp (i22:ac):Option (ac×Int):=some (i22,0)
def kq (a2:aa)(q5:Int)(q8:ab×Int)(q10:Int)(q18:ac)(i21:Bool):Option (ac×Int):=cond i21 (cond (decide (0≤q10)&&decide (q10 < (q18.links.length:Int))) (kp (⟨q18.tabs.set q5.toNat ({ (q18.tabs.getD q5.toNat default) with table:=q8.1 }:Tab),q18.links.set q10.toNat ({ (q18.links.getD q10.toNat default) with col:=a2.new }:aj)⟩:ac)) none) (kp (⟨q18.tabs.set q5.toNat ({ (q18.tabs.getD q5.toNat default) with table:=q8.1 }:Tab),q18.links⟩:ac))
def dW (fu:Nat)(a0:ac)(a2:aa)(q5:Int)(q8:ab×Int)(q10:Int)(i13:Bool):Option (ac×Int):=cond i13 ((ez fu a0).bind fun q14=>some (q14,8)) (cond (!decide (q8.2=0)) ((ez fu a0).bind fun q16=>some (q16,q8.2)) ((ez fu a0).bind fun q18=>cond (decide (0≤q5)&&decide (q5 < (q18.tabs.length:Int))) (cond (decide (a2.kind=3)) (kq a2 q5 q8 q10 q18 (decide (0≤q10))) (kq a2 q5 q8 q10 q18 false)) none))
def vt (fu:Nat)(a0:ac)(a1:List UInt8)(a2:aa):Option (ac×Int):=(lE fu a0).bind fun q4=>cond (!q4) (some ((⟨([]:List Tab),([]:List aj)⟩:ac),1)) ((eY fu a0 a1).bind fun q5=>cond (decide (q5<0)) ((ez fu a0).bind fun q6=>some (q6,5)) (cond (decide (0≤q5)&&decide (q5 < (a0.tabs.length:Int))) ((f71 fu ((a0.tabs.getD q5.toNat default).table) a2).bind fun q8=>(qg fu a0 a1 a2.name).bind fun q10=>cond (decide (q8.2=1)) ((ez fu a0).bind fun q11=>some (q11,1)) (cond (decide (a2.kind=2)) (dW fu a0 a2 q5 q8 q10 (decide (0≤q10))) (cond (decide (a2.kind=4)) (dW fu a0 a2 q5 q8 q10 (decide (0≤q10))) (dW fu a0 a2 q5 q8 q10 false)))) none))
theorem n1033:Nm prog 47:=⟨_,_,func47,by kernel_rfl,z⟩
theorem c1033 (fu:Nat)(a0:ac)(a1:List UInt8)(a2:aa):Ctr prog 47 [tBase.va a0,isS a1,tChange.va a2] [] (vt fu a0 a1 a2) (fun _ _=>[]) (fun q=>tup [tBase.va q.1,isI .i64 q.2]):=by
 refine .w func47 ntmps47 fun hf A w=>?_
 unfold vt
 refine .s<|.box (T:=tBase) z z fun b1=>.box (T:=tChange) z z fun b2=>.alloc tBaseA au [] aA z fun b3=>.an z z<|.seq<|.s<|go ?_
 refine .call0 (c1020 fu _) n1020 z z fun q4=>.not z z<|.nil<|.cd z ?_ ?_
 ·exact .s<|.buildA z dF aA (.nil) z<|.storeP 0 (Fld.self _) z z z al<|.arrNil tTab<|.arrNil tLink<|.an z z<|.frzBox 2 1 conv1026_0 z z<|.frzBox 2 0 conv1026_1 z z<|fr
 ·refine .skip<|.s<|go ?_
  refine .call0 (c1056 fu _ _) n1056 z z fun q5=>.an z z<|.seq<|.s<|go ?_
  refine .cd z ?_ ?_
  ·refine .s<|go ?_
   refine .callL0 (c1054 fu _) n1054 z z fun q6 p7=>go ?_
   exact .frzBox 2 0 conv1026_0 z z<|.frzBox 2 1 conv1026_1 z z<|fr
  ·refine .skip<|.seq<|.pT fun h1=>.pbind fun q8 h2=>.drawS 12 [10] [11] [] mix (by kernel_rfl) (.j (fun o=>.fp (o z) fa1026_0 z)<|.k (fun p e=>.lp 2 fBase_0 (e.op z) (p.get z z) ty1023 z)<|.j (fun o=>.m (o z) z)<|.k (fun p e h=>.useC h1<|.elemAt (e.op z) (e.op z) u26 ba z<|h)<|.j (fun o=>.fieldAt fTab_1 (o z) aC z)<|.j (fun o=>.load (o z) ty27 z)<|.k (fun p e=>.lp 1 (Fld.self _) (e.op z) (p.get z z) yp z)<|.k (fun p e h=>.bindE h2 (fun r h=>.call0 (c71 fu _ _) n71 (e.ops z) z h)<|h)<|.j (fun o=>.m (o z) z)<|.j (fun o=>.extract (o z) z z)<|.j (fun o=>.extract (o z) z z)<|.skip<|.nil) z<|.cons (d:=9) z z fun _ _ hE h=>.alloc tTableA aS [] bA z fun b9=>.toEnd<|h _ _ (.same<|.same<|.same<|.nil)<|.nil<|.storeW 3 z z z z ty27<|.an z z<|.s<|go ?_
   refine .call0 (c1074 fu _ _ _) n1074 z z fun q10=>.an z z<|.seq<|.block<|.s<|go ?_
   refine .cd z ?_ ?_
   ·refine .s<|go ?_
    refine .callL0 (c1054 fu _) n1054 z z fun q11 p12=>go ?_
    exact .frzBox 2 0 conv1026_0 z z<|.frzBox 2 1 conv1026_1 z z<|fr
   ·refine .seq<|.join1 (fun i13=>⟨[(3,isP b1 0,none),(5,isP b2 0,none),(6,isP b3 0,none),(8,isI .i64 q5,none),(9,isP b9 0,none),(10,isI .i64 q8.2,none),(11,isI .i64 q10,none),(45,isB i13,none)],[boxO b3 tBaseA (⟨(.slice none 0 0),(.slice none 0 0)⟩:aL) [],boxO b2 tChange a2 [],boxO b1 tBase a0 [],boxO b9 tTable q8.1 []]⟩) (fun i13=>dW fu a0 a2 q5 q8 q10 i13) (fun i13=>?_) (fun hj1=>?_)
    ·refine .cd z ?_ ?_
     ·refine .s<|go ?_
      refine .callL0 (c1054 fu _) n1054 z z fun q14 p15=>go ?_
      exact .frzBox 2 0 conv1026_0 z z<|.frzBox 2 1 conv1026_1 z z<|fr
     ·refine .s<|go ?_
      refine .cd z ?_ ?_
      ·refine .s<|go ?_
       refine .callL0 (c1054 fu _) n1054 z z fun q16 p17=>go ?_
       exact .frzBox 2 0 conv1026_0 z z<|.frzBox 2 1 conv1026_1 z z<|fr
      ·refine .skip<|.inBlock<|.s<|go ?_
       refine .callL0 (c1054 fu _) n1054 z z fun q18 p19=>.alloc tBaseA au [] aA z fun b20=>go ?_
       refine .s<|go ?_
       refine .seq<|.seq<|.join1 (fun i21=>⟨[(5,isP b2 0,none),(6,isP b3 0,none),(11,isI .i64 q10,none),(12,isP b20 0,none),(80,isB i21,none)],[boxO b20 tBaseA (⟨p19.1,p19.2⟩:aL) [],arrO tTab p19.1 (q18.tabs.set q5.toNat ({ (q18.tabs.getD q5.toNat default) with table:=q8.1 }:Tab)),arrO tLink p19.2 q18.links,boxO b3 tBaseA (⟨(.slice none 0 0),(.slice none 0 0)⟩:aL) [],boxO b2 tChange a2 []]⟩) (fun i21=>kq a2 q5 q8 q10 q18 i21) (fun i21=>?_) (fun hj2=>?_)
       ·refine .join1 (fun i22=>⟨[(6,isP b3 0,none),(12,isP b20 0,none)],[boxO b20 tBaseA (⟨p19.1,p19.2⟩:aL) [],arrO tTab p19.1 i22.tabs,arrO tLink p19.2 i22.links,boxO b3 tBaseA (⟨(.slice none 0 0),(.slice none 0 0)⟩:aL) []]⟩) (fun i22=>kp i22) (fun i22=>?_) (fun hj3=>?_)
        ·refine .s<|go ?_
         exact .frzBox 3 1 conv1026_0 z z<|.frzBox 3 2 conv1026_1 z z<|fr
        ·refine .cd z ?_ ?_
         ·exact fj (hj3 _)
         ·exact fj (hj3 _)
       ·refine .g<|go ?_
        refine .split 77 z (fun _=>?_) (fun _=>?_)
        ·exact fj (hj2 _)
        ·exact fj (hj2 _)
    ·refine .g<|go ?_
     refine .split 49 z (fun _=>?_) (fun _=>?_)
     ·exact fj (hj1 _)
     ·refine go ?_
      refine .split 54 z (fun _=>?_) (fun _=>?_)
      ·exact fj (hj1 _)
      ·exact fj (hj1 _)
def vq (fu:Nat)(a0:ac)(a1:List UInt8)(a2:aa):Option (ac×Int):=(jm fu a0).bind fun q4=>cond (!q4) (some ((⟨([]:List Tab),([]:List aj)⟩:ac),1)) ((d7 fu a0).bind fun q5=>(sS fu q5 a1 a2).bind fun q6=>(d7 fu q6.1).bind fun q8=>some (q8,q6.2))
theorem n1034:Nm prog 126:=⟨_,_,func126,by kernel_rfl,z⟩
theorem c1034 (fu:Nat)(a0:ac)(a1:List UInt8)(a2:aa):Ctr prog 126 [tBase.va a0,isS a1,tChange.va a2] [] (vq fu a0 a1 a2) (fun _ _=>[]) (fun q=>tup [tBase.va q.1,isI .i64 q.2]):=by
 refine .w func126 ntmps126 fun hf A w=>?_
 unfold vq
 refine .s<|.box (T:=tBase) z z fun b1=>.box (T:=tChange) z z fun b2=>.alloc tBaseA au [] aA z fun b3=>.an z z<|.seq<|.s<|go ?_
 refine .call0 (c1019 fu _) n1019 z z fun q4=>.not z z<|.nil<|.cd z ?_ ?_
 ·exact .s<|.buildA z dF aA (.nil) z<|.storeP 0 (Fld.self _) z z z al<|.arrNil tTab<|.arrNil tLink<|.an z z<|.frzBox 2 1 conv1026_0 z z<|.frzBox 2 0 conv1026_1 z z<|fr
 ·refine .skip<|.seq<|.pbind fun q5 h1=>.pbind fun q6 h2=>.drawS 9 [7] [8] [] mix (by kernel_rfl) (.k (fun p e=>.lp 2 (Fld.self _) (e.op z) (p.get z z) al z)<|.k (fun p e h=>.bindE h1 (fun r h=>.call0 (gO (c1059 fu _)) n1059 (e.ops z) z h)<|h)<|.j (fun o=>.m (o z) z)<|.k (fun p e=>.lp 1 (Fld.self _) (e.op z) (p.get z z) yp z)<|.k (fun p e h=>.bindE h2 (fun r h=>.call0 (c1100 fu _ _ _) n1100 (e.ops z) z h)<|h)<|.j (fun o=>.m (o z) z)<|.j (fun o=>.extract (o z) z z)<|.j (fun o=>.extract (o z) z z)<|.skip<|.nil) z<|.cons (d:=8) z z fun _ _ hE h=>.alloc tBaseA au [] aA z fun b7=>.toEnd<|h _ _ (.same<|.same<|.same<|.nil)<|.nil<|.storeW 3 z z z z al<|.an z z<|.s<|go ?_
  refine .callL0 (c1059 fu _) n1059 z z fun q8 p9=>go ?_
  exact .frzBox 2 0 conv1026_0 z z<|.frzBox 2 1 conv1026_1 z z<|fr
end Go.Proofs.YtganfdhmkdehlaaGreatDoor
