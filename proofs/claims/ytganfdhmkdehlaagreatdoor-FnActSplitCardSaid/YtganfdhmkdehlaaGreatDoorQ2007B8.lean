/- What functions answer. -/
import Derived.Test.YtganfdhmkdehlaaGreatDoorQ2007B7
import Derived.KernelRfl
set_option linter.all false
namespace Go.Proofs.YtganfdhmkdehlaaGreatDoor
open Go Go.HL Tryz
attribute [local irreducible] W WO
def ga (fu:Nat)(a1:ac)(q2:(List UInt8)×Rd)(q3:Int)(i4:Bool)(i5:Rd):Option (((List UInt8)×Int)×Rd):=cond i4 (cond (decide (0≤q3)&&decide (q3 < (a1.tabs.length:Int))) (cond (decide (0≤q3)&&decide (q3 < (a1.tabs.length:Int))) ((f74 fu i5 (List.length (((a1.tabs.getD q3.toNat default).table).rows):Int)).bind fun q6=>cond (decide (0≤q6.1)&&decide (q6.1 < (List.length (((a1.tabs.getD q3.toNat default).table).rows):Int))) (some ((q2.1,((((a1.tabs.getD q3.toNat default).table).rows).getD q6.1.toNat default).id),q6.2)) none) none) none) ((f73 fu i5 ([0,1,2,99]:List Int)).bind fun q7=>some ((q2.1,q7.1),q7.2))
def vU (fu:Nat)(a0:Rd)(a1:ac):Option (((List UInt8)×Int)×Rd):=(f96 fu a0 ([([116]:List UInt8),([117]:List UInt8),([118]:List UInt8),([119]:List UInt8),([116]:List UInt8),([117]:List UInt8)]:List (List UInt8))).bind fun q2=>(f1062 fu a1 q2.1).bind fun q3=>cond (decide (0≤q3)) (cond (decide (0≤q3)&&decide (q3 < (a1.tabs.length:Int))) (cond (decide (0 < (List.length (((a1.tabs.getD q3.toNat default).table).rows):Int))) ((f74 fu q2.2 8).bind fun q8=>ga fu a1 q2 q3 (decide (0<q8.1)) q8.2) (ga fu a1 q2 q3 false q2.2)) none) (ga fu a1 q2 q3 false q2.2)
theorem EP:Nm prog 90:=nmK func90
theorem Gb (fu:Nat)(bp0:Nat)(a0:Rd)(a1:ac):Ctr prog 90 [isP bp0 0,tBase.va a1] [boxO bp0 tRd a0 []] (vU fu a0 a1) (fun q _=>[boxO bp0 tRd q.2 []]) (fun q=>tup [isS q.1.1,isI .i64 q.1.2]):=by
 refine .w func90 ntmps90 fun hf A w=>?_
 unfold vU
 refine .s<|.box (T:=tBase) z z fun b1=>go ?_
 refine .s<|go ?_
 refine .call1 1 (c96 fu _ _ _) z n96 z z fun q2=>.an z z<|.s<|go ?_
 refine .call0 (gu fu _ _) eM z z fun q3=>.an z z<|.seq<|.seq<|.join2 (fun i4 i5=>⟨[(0,isP bp0 0,none),(3,isP b1 0,none),(6,isS q2.1,none),(7,isI .i64 q3,none),(31,isB i4,none)],[boxO b1 tBase a1 [],boxO bp0 tRd i5 []]⟩) (fun i4 i5=>ga fu a1 q2 q3 i4 i5) (fun i4 i5=>?_) (fun hj1=>?_)
 ·refine .cd z ?_ ?_
  ·exact .seq<|.pT fun h1=>.pT fun h2=>.pbind fun q6 h3=>.pT fun h4=>.drawS 22 [] [17,18,19,20] [1] mix (by kernel_rfl) sts z<|.cons (d:=49) z z fun _ _ hE h=>.bindE h3 (fun r h=>.call1 1 (c74 fu _ _ _) z n74 (hE.ops z) z h)<|h _ _ (.same<|.hole z<|.nil)<|.cons (d:=50) z z fun _ _ hE h=>.useC h4<|.elemAt (hE.op z) (hE.op z) u57 ty37 z<|h _ _ (.same<|.hole z<|.nil)<|.cons (d:=51) z z fun _ _ hE h=>.fieldAt bH (hE.op z) ca z<|h _ _ (.same<|.hole z<|.nil)<|.cons (d:=52) z z fun _ _ hE h=>.load (hE.op z) ty3 z<|h _ _ (.same<|.hole z<|.nil)<|fr
  ·refine .skip<|.s<|go ?_
   exact .call1 1 (c73 fu _ _ _) z n73 z z fun q7=>fr
 ·refine .g<|go ?_
  refine .split 16 z (fun _=>?_) (fun _=>?_)
  ·refine go ?_
   refine .split 27 z (fun _=>?_) (fun _=>?_)
   ·refine go ?_
    exact .call1 1 (c74 fu _ _ _) z n74 z z fun q8=>fj (hj1 _ _)
   ·exact fj (hj1 _ _)
  ·exact fj (hj1 _ _)
def kB (i3:Bool):Option Bool:=some i3
def vV (fu:Nat)(a0:ac)(a1:List UInt8)(a2:Int):Option Bool:=(fb fu a0 a1).bind fun q2=>cond (decide (0≤q2)) (cond (decide (0≤q2)&&decide (q2 < (a0.tabs.length:Int))) ((f48 fu ((a0.tabs.getD q2.toNat default).table) a2).bind fun q4=>kB (decide (0≤q4))) none) (kB false)
theorem EU:Nm prog 108:=nmK func108
theorem Gi (fu:Nat)(a0:ac)(a1:List UInt8)(a2:Int):Ctr prog 108 [tBase.va a0,isS a1,isI .i64 a2] [] (vV fu a0 a1 a2) (fun _ _=>[]) (fun q=>isB q):=by
 refine .w func108 ntmps108 fun hf A w=>?_
 unfold vV
 refine .s<|.box (T:=tBase) z z fun b1=>.an z z<|.s<|go ?_
 refine .call0 (jY fu _ _) jW z z fun q2=>.an z z<|.seq<|.join1 (fun i3=>⟨[(6,isB i3,none)],[]⟩) (fun i3=>kB i3) (fun i3=>?_) (fun hj1=>?_)
 ·exact fr
 ·refine .g<|go ?_
  refine .split 13 z (fun _=>?_) (fun _=>?_)
  ·refine go ?_
   exact .call0 (c48 fu _ _) n48 z z fun q4=>fj (hj1 _)
  ·exact fj (hj1 _)
def wi (fu:Nat)(a0:ac)(a1:List UInt8)(a2:Int):Option (ac×Int):=(jz fu a0).bind fun q3=>cond (!q3) (some ((⟨([]:List Tab),([]:List aj)⟩:ac),1)) ((cY fu a0).bind fun q4=>(qN fu q4 a1 a2).bind fun q5=>(cY fu q5.1).bind fun q7=>some (q7,q5.2))
theorem E8:Nm prog 125:=nmK func125
theorem Gx (fu:Nat)(a0:ac)(a1:List UInt8)(a2:Int):Ctr prog 125 [tBase.va a0,isS a1,isI .i64 a2] [] (wi fu a0 a1 a2) (fun _ _=>[]) (fun q=>tup [tBase.va q.1,isI .i64 q.2]):=by
 refine .w func125 ntmps125 fun hf A w=>?_
 unfold wi
 refine .s<|.box (T:=tBase) z z fun b1=>.alloc tBaseA av [] aA z fun b2=>.an z z<|.seq<|.s<|go ?_
 refine .call0 (ol fu _) nn z z fun q3=>.not z z<|.nil<|.cd z ?_ ?_
 ·exact .s<|.buildA z dL aA (.nil) z<|.storeP 0 (Fld.self _) z z z ao<|.arrNil tTab<|.arrNil tLink<|.an z z<|.frzBox 2 1 conv1026_0 z z<|.frzBox 2 0 conv1026_1 z z<|fr
 ·refine .skip<|.s<|go ?_
  refine .call0 (gZ (dJ fu _)) dH z z fun q4=>go ?_
  refine .call0 (A9 fu _ _ _) Af z z fun q5=>go ?_
  refine .alloc tBaseA av [] aA z fun b6=>.storeW 0 z z z z ao<|.an z z<|.s<|go ?_
  refine .callL0 (dJ fu _) dH z z fun q7 p8=>go ?_
  exact .frzBox 3 0 conv1026_0 z z<|.frzBox 3 1 conv1026_1 z z<|fr
def kI (i22:ac):Option (ac×Int):=some (i22,0)
def kJ (a2:aa)(q5:Int)(q8:ab×Int)(q10:Int)(q18:ac)(i21:Bool):Option (ac×Int):=cond i21 (cond (decide (0≤q10)&&decide (q10 < (q18.links.length:Int))) (kI (⟨q18.tabs.set q5.toNat ({ (q18.tabs.getD q5.toNat default) with table:=q8.1 }:Tab),q18.links.set q10.toNat ({ (q18.links.getD q10.toNat default) with col:=a2.new }:aj)⟩:ac)) none) (kI (⟨q18.tabs.set q5.toNat ({ (q18.tabs.getD q5.toNat default) with table:=q8.1 }:Tab),q18.links⟩:ac))
def d4 (fu:Nat)(a0:ac)(a2:aa)(q5:Int)(q8:ab×Int)(q10:Int)(i13:Bool):Option (ac×Int):=cond i13 ((eE fu a0).bind fun q14=>some (q14,8)) (cond (!decide (q8.2=0)) ((eE fu a0).bind fun q16=>some (q16,q8.2)) ((eE fu a0).bind fun q18=>cond (decide (0≤q5)&&decide (q5 < (q18.tabs.length:Int))) (cond (decide (a2.kind=3)) (kJ a2 q5 q8 q10 q18 (decide (0≤q10))) (kJ a2 q5 q8 q10 q18 false)) none))
def wg (fu:Nat)(a0:ac)(a1:List UInt8)(a2:aa):Option (ac×Int):=(lS fu a0).bind fun q4=>cond (!q4) (some ((⟨([]:List Tab),([]:List aj)⟩:ac),1)) ((fb fu a0 a1).bind fun q5=>cond (decide (q5<0)) ((eE fu a0).bind fun q6=>some (q6,5)) (cond (decide (0≤q5)&&decide (q5 < (a0.tabs.length:Int))) ((f71 fu ((a0.tabs.getD q5.toNat default).table) a2).bind fun q8=>(qS fu a0 a1 a2.name).bind fun q10=>cond (decide (q8.2=1)) ((eE fu a0).bind fun q11=>some (q11,1)) (cond (decide (a2.kind=2)) (d4 fu a0 a2 q5 q8 q10 (decide (0≤q10))) (cond (decide (a2.kind=4)) (d4 fu a0 a2 q5 q8 q10 (decide (0≤q10))) (d4 fu a0 a2 q5 q8 q10 false)))) none))
theorem E6:Nm prog 47:=nmK func47
theorem Gv (fu:Nat)(a0:ac)(a1:List UInt8)(a2:aa):Ctr prog 47 [tBase.va a0,isS a1,tChange.va a2] [] (wg fu a0 a1 a2) (fun _ _=>[]) (fun q=>tup [tBase.va q.1,isI .i64 q.2]):=by
 refine .w func47 ntmps47 fun hf A w=>?_
 unfold wg
 refine .s<|.box (T:=tBase) z z fun b1=>.box (T:=tChange) z z fun b2=>.alloc tBaseA av [] aA z fun b3=>.an z z<|.seq<|.s<|go ?_
 refine .call0 (rd fu _) qj z z fun q4=>.not z z<|.nil<|.cd z ?_ ?_
 ·exact .s<|.buildA z dL aA (.nil) z<|.storeP 0 (Fld.self _) z z z ao<|.arrNil tTab<|.arrNil tLink<|.an z z<|.frzBox 2 1 conv1026_0 z z<|.frzBox 2 0 conv1026_1 z z<|fr
 ·refine .skip<|.s<|go ?_
  refine .call0 (jY fu _ _) jW z z fun q5=>.an z z<|.seq<|.s<|go ?_
  refine .cd z ?_ ?_
  ·refine .s<|go ?_
   refine .callL0 (gv fu _) gr z z fun q6 p7=>go ?_
   exact .frzBox 2 0 conv1026_0 z z<|.frzBox 2 1 conv1026_1 z z<|fr
  ·refine .skip<|.seq<|.pT fun h1=>.pbind fun q8 h2=>.drawS 12 [10] [11] [] mix (by kernel_rfl) (.j (fun o=>.fp (o z) fa1026_0 z)<|.k (fun p e=>.lp 2 fBase_0 (e.op z) (p.get z z) ty1023 z)<|.j (fun o=>.m (o z) z)<|.k (fun p e h=>.useC h1<|.elemAt (e.op z) (e.op z) u26 bf z<|h)<|.j (fun o=>.fieldAt fTab_1 (o z) aC z)<|.j (fun o=>.load (o z) ty27 z)<|.k (fun p e=>.lp 1 (Fld.self _) (e.op z) (p.get z z) zf z)<|.k (fun p e h=>.bindE h2 (fun r h=>.call0 (c71 fu _ _) n71 (e.ops z) z h)<|h)<|.j (fun o=>.m (o z) z)<|.j (fun o=>.extract (o z) z z)<|.j (fun o=>.extract (o z) z z)<|.skip<|.nil) z<|.cons (d:=9) z z fun _ _ hE h=>.alloc tTableA aS [] bB z fun b9=>.toEnd<|h _ _ (.same<|.same<|.same<|.nil)<|.nil<|.storeW 3 z z z z ty27<|.an z z<|.s<|go ?_
   refine .call0 (Bb fu _ _ _) Ah z z fun q10=>.an z z<|.seq<|.block<|.s<|go ?_
   refine .cd z ?_ ?_
   ·refine .s<|go ?_
    refine .callL0 (gv fu _) gr z z fun q11 p12=>go ?_
    exact .frzBox 2 0 conv1026_0 z z<|.frzBox 2 1 conv1026_1 z z<|fr
   ·refine .seq<|.join1 (fun i13=>⟨[(3,isP b1 0,none),(5,isP b2 0,none),(6,isP b3 0,none),(8,isI .i64 q5,none),(9,isP b9 0,none),(10,isI .i64 q8.2,none),(11,isI .i64 q10,none),(45,isB i13,none)],[boxO b3 tBaseA (⟨(.slice none 0 0),(.slice none 0 0)⟩:aL) [],boxO b2 tChange a2 [],boxO b1 tBase a0 [],boxO b9 tTable q8.1 []]⟩) (fun i13=>d4 fu a0 a2 q5 q8 q10 i13) (fun i13=>?_) (fun hj1=>?_)
    ·refine .cd z ?_ ?_
     ·refine .s<|go ?_
      refine .callL0 (gv fu _) gr z z fun q14 p15=>go ?_
      exact .frzBox 2 0 conv1026_0 z z<|.frzBox 2 1 conv1026_1 z z<|fr
     ·refine .s<|go ?_
      refine .cd z ?_ ?_
      ·refine .s<|go ?_
       refine .callL0 (gv fu _) gr z z fun q16 p17=>go ?_
       exact .frzBox 2 0 conv1026_0 z z<|.frzBox 2 1 conv1026_1 z z<|fr
      ·refine .skip<|.inBlock<|.s<|go ?_
       refine .callL0 (gv fu _) gr z z fun q18 p19=>.alloc tBaseA av [] aA z fun b20=>go ?_
       refine .s<|go ?_
       refine .seq<|.seq<|.join1 (fun i21=>⟨[(5,isP b2 0,none),(6,isP b3 0,none),(11,isI .i64 q10,none),(12,isP b20 0,none),(80,isB i21,none)],[boxO b20 tBaseA (⟨p19.1,p19.2⟩:aL) [],arrO tTab p19.1 (q18.tabs.set q5.toNat ({ (q18.tabs.getD q5.toNat default) with table:=q8.1 }:Tab)),arrO tLink p19.2 q18.links,boxO b3 tBaseA (⟨(.slice none 0 0),(.slice none 0 0)⟩:aL) [],boxO b2 tChange a2 []]⟩) (fun i21=>kJ a2 q5 q8 q10 q18 i21) (fun i21=>?_) (fun hj2=>?_)
       ·refine .join1 (fun i22=>⟨[(6,isP b3 0,none),(12,isP b20 0,none)],[boxO b20 tBaseA (⟨p19.1,p19.2⟩:aL) [],arrO tTab p19.1 i22.tabs,arrO tLink p19.2 i22.links,boxO b3 tBaseA (⟨(.slice none 0 0),(.slice none 0 0)⟩:aL) []]⟩) (fun i22=>kI i22) (fun i22=>?_) (fun hj3=>?_)
        ·refine .s<|go ?_
         exact .frzBox 3 1 conv1026_0 z z<|.frzBox 3 2 conv1026_1 z z<|fr
        ·refine .cd z ?_ ?_
         ·exact fj (hj3 _)
         ·exact fj (hj3 _)
       ·refine .g<|go ?_
        refine .split 77 z (fun _=>?_) (fun _=>?_)
        ·exact fj (hj2 _)
        ·exact fj (hj2 _)
    ·refine .g<|go ?_
     refine .split 49 z (fun _=>?_) (fun _=>?_)
     ·exact fj (hj1 _)
     ·refine go ?_
      refine .split 54 z (fun _=>?_) (fun _=>?_)
      ·exact fj (hj1 _)
      ·exact fj (hj1 _)
def we (fu:Nat)(a0:ac)(a1:List UInt8)(a2:aa):Option (ac×Int):=(jz fu a0).bind fun q4=>cond (!q4) (some ((⟨([]:List Tab),([]:List aj)⟩:ac),1)) ((cY fu a0).bind fun q5=>(qL fu q5 a1 a2).bind fun q6=>(cY fu q6.1).bind fun q8=>some (q8,q6.2))
theorem E5:Nm prog 126:=nmK func126
theorem Gu (fu:Nat)(a0:ac)(a1:List UInt8)(a2:aa):Ctr prog 126 [tBase.va a0,isS a1,tChange.va a2] [] (we fu a0 a1 a2) (fun _ _=>[]) (fun q=>tup [tBase.va q.1,isI .i64 q.2]):=by
 refine .w func126 ntmps126 fun hf A w=>?_
 unfold we
 refine .s<|.box (T:=tBase) z z fun b1=>.box (T:=tChange) z z fun b2=>.alloc tBaseA av [] aA z fun b3=>.an z z<|.seq<|.s<|go ?_
 refine .call0 (ol fu _) nn z z fun q4=>.not z z<|.nil<|.cd z ?_ ?_
 ·exact .s<|.buildA z dL aA (.nil) z<|.storeP 0 (Fld.self _) z z z ao<|.arrNil tTab<|.arrNil tLink<|.an z z<|.frzBox 2 1 conv1026_0 z z<|.frzBox 2 0 conv1026_1 z z<|fr
 ·refine .skip<|.seq<|.pbind fun q5 h1=>.pbind fun q6 h2=>.drawS 9 [7] [8] [] mix (by kernel_rfl) (.k (fun p e=>.lp 2 (Fld.self _) (e.op z) (p.get z z) ao z)<|.k (fun p e h=>.bindE h1 (fun r h=>.call0 (gZ (dJ fu _)) dH (e.ops z) z h)<|h)<|.j (fun o=>.m (o z) z)<|.k (fun p e=>.lp 1 (Fld.self _) (e.op z) (p.get z z) zf z)<|.k (fun p e h=>.bindE h2 (fun r h=>.call0 (A8 fu _ _ _) Ae (e.ops z) z h)<|h)<|.j (fun o=>.m (o z) z)<|.j (fun o=>.extract (o z) z z)<|.j (fun o=>.extract (o z) z z)<|.skip<|.nil) z<|.cons (d:=8) z z fun _ _ hE h=>.alloc tBaseA av [] aA z fun b7=>.toEnd<|h _ _ (.same<|.same<|.same<|.nil)<|.nil<|.storeW 3 z z z z ao<|.an z z<|.s<|go ?_
  refine .callL0 (dJ fu _) dH z z fun q8 p9=>go ?_
  exact .frzBox 2 0 conv1026_0 z z<|.frzBox 2 1 conv1026_1 z z<|fr
end Go.Proofs.YtganfdhmkdehlaaGreatDoor
