/- What functions answer. -/
import Derived.Test.YtganfdhmkdehlaaGreatDoorQ2007B3
import Derived.KernelRfl
set_option linter.all false
namespace Go.Proofs.YtganfdhmkdehlaaGreatDoor
open Go Go.HL Tryz
attribute [local irreducible] W WO
def iM (i14:Int)(rec1:Int→(List Tab)→(List aj)→Option (ac×Int))(i18:ac):Option (ac×Int):=rec1 (IntKind.i64.wrap (i14+1)) i18.tabs i18.links
def dY (a2:aa)(i14:Int)(i15:List Tab)(i16:List aj)(rec1:Int→(List Tab)→(List aj)→Option (ac×Int))(i17:Bool):Option (ac×Int):=cond i17 (cond (decide (0≤i14)&&decide (i14 < (i16.length:Int))) (iM i14 rec1 (⟨i15,i16.set i14.toNat ({ (i16.getD i14.toNat default) with col:=a2.new }:aj)⟩:ac)) none) (iM i14 rec1 (⟨i15,i16⟩:ac))
def bT (a1:List UInt8)(a2:aa)(i6:Int):Nat→Int→(List Tab)→(List aj)→Option (ac×Int)
 | 0,_,_,_=>none
 | n1+1,i14,i15,i16=>cond (decide (i14 < (i16.length:Int))) (cond (decide (a2.kind=3)) (cond (decide (0≤i14)&&decide (i14 < (i16.length:Int))) (cond (decide (((i16.getD i14.toNat default).from_)=a1)) (cond (decide (0≤i14)&&decide (i14 < (i16.length:Int))) (dY a2 i14 i15 i16 (bT a1 a2 i6 n1) (decide (((i16.getD i14.toNat default).col)=a2.name))) none) (dY a2 i14 i15 i16 (bT a1 a2 i6 n1) false)) none) (dY a2 i14 i15 i16 (bT a1 a2 i6 n1) false)) (some ((⟨i15,i16⟩:ac),i6))
def dZ (fu:Nat)(a0:ac)(a1:List UInt8)(a2:aa)(q4:Int)(i6:Int)(i7:ab)(i10:Bool):Option (ac×Int):=cond i10 (some (a0,8)) (cond (!decide (i6=0)) (some (a0,i6)) ((cY fu a0).bind fun q11=>cond (decide (0≤q4)&&decide (q4 < (q11.tabs.length:Int))) (bT a1 a2 i6 fu 0 (q11.tabs.set q4.toNat ({ (q11.tabs.getD q4.toNat default) with table:=i7 }:Tab)) q11.links) none))
def n9 (fu:Nat)(a0:ac)(a1:List UInt8)(a2:aa)(q4:Int)(i6:Int)(i7:ab):Option (ac×Int):=cond (!decide (i6=1)) (cond (decide (a2.kind=2)) ((qA fu a0 a1 a2.name).bind fun q19=>dZ fu a0 a1 a2 q4 i6 i7 q19) (cond (decide (a2.kind=4)) ((qA fu a0 a1 a2.name).bind fun q20=>dZ fu a0 a1 a2 q4 i6 i7 q20) (dZ fu a0 a1 a2 q4 i6 i7 false))) (dZ fu a0 a1 a2 q4 i6 i7 false)
def qL (fu:Nat)(a0:ac)(a1:List UInt8)(a2:aa):Option (ac×Int):=(f1062 fu a0 a1).bind fun q4=>cond (decide (q4<0)) (some (a0,5)) (cond (decide (0≤q4)&&decide (q4 < (a0.tabs.length:Int))) ((f42 fu ((a0.tabs.getD q4.toNat default).table)).bind fun q21=>(f72 fu q21 a2).bind fun q23=>n9 fu a0 a1 a2 q4 q23.2 q23.1) none)
theorem Ae:Nm prog 175:=nmK func175
set_option maxHeartbeats 2000000 in
theorem A8 (fu:Nat)(a0:ac)(a1:List UInt8)(a2:aa):Ctr prog 175 [tBase.va a0,isS a1,tChange.va a2] [] (qL fu a0 a1 a2) (fun _ _=>[]) (fun q=>tup [tBase.va q.1,isI .i64 q.2]):=by
 refine .w func175 ntmps175 fun hf A w=>?_
 unfold qL
 refine .s<|.box (T:=tBase) z z fun b1=>.box (T:=tChange) z z fun b2=>.alloc tBaseA av [] aA z fun b3=>.an z z<|.s<|go ?_
 refine .call0 (gu fu _ _) eM z z fun q4=>.an z z<|.seq<|.s<|go ?_
 refine .cd z ?_ ?_
 ·refine .s<|go ?_
  exact .storeW 0 z z z z ao<|fr
 ·refine .skip<|.seq<|.join5 (fun b5 i6 i7 v8 v9=>⟨[(1,isS a1,none),(3,isP b1 0,none),(5,isP b2 0,none),(6,isP b3 0,none),(8,isI .i64 q4,none),(9,isP b5 0,none),(10,isI .i64 i6,none)],[boxO b3 tBaseA (⟨(.slice none 0 0),(.slice none 0 0)⟩:aL) [],boxO b2 tChange a2 [],boxO b1 tBase a0 [],arrO tRow v8 i7.rows,boxO b5 tTableA (⟨i7.first,(v9,i7.changes),v8,i7.next⟩:aq) []]⟩) (fun b5 i6 i7 v8 v9=>n9 fu a0 a1 a2 q4 i6 i7) (fun b5 i6 i7 v8 v9=>?_) (fun hj1=>?_)
  ·refine .seq<|.seq<|.join1 (fun i10=>⟨[(1,isS a1,none),(3,isP b1 0,none),(5,isP b2 0,none),(6,isP b3 0,none),(8,isI .i64 q4,none),(9,isP b5 0,none),(10,isI .i64 i6,none),(49,isB i10,none)],[boxO b3 tBaseA (⟨(.slice none 0 0),(.slice none 0 0)⟩:aL) [],boxO b2 tChange a2 [],boxO b1 tBase a0 [],arrO tRow v8 i7.rows,boxO b5 tTableA (⟨i7.first,(v9,i7.changes),v8,i7.next⟩:aq) []]⟩) (fun i10=>dZ fu a0 a1 a2 q4 i6 i7 i10) (fun i10=>?_) (fun hj2=>?_)
   ·refine .cd z ?_ ?_
    ·refine .s<|go ?_
     exact .storeW 0 z z z z ao<|fr
    ·refine .skip<|.seq<|.s<|go ?_
     refine .cd z ?_ ?_
     ·refine .s<|go ?_
      exact .storeW 0 z z z z ao<|fr
     ·refine .skip<|.s<|go ?_
      refine .callL0 (dJ fu _) dH z z fun q11 p12=>.alloc tBaseA av [] aA z fun b13=>go ?_
      refine .seq<|.frzBox 7 6 conv27 z z<|.g<|go ?_
      refine .seq<|.s<|.an z z<|.block<|.loop<|.drop (.d<|.d<|.d<|.d<|.d<|.c<|.c<|.c<|.e)<|.keep [1,5,6,10,11,12] [] z<|(show ∀ (n1:Nat) (i14:Int) (i15:List Tab) (i16:List aj),W _ _ _ _ _ ⟨[(1,isS a1,none),(5,isP b2 0,none),(6,isP b3 0,none),(10,isI .i64 i6,none),(11,isP b13 0,none),(12,isI .i64 i14,none)],[boxO b13 tBaseA (⟨p12.1,p12.2⟩:aL) [],arrO tTab p12.1 i15,arrO tLink p12.2 i16,boxO b3 tBaseA (⟨(.slice none 0 0),(.slice none 0 0)⟩:aL) [],boxO b2 tChange a2 []]⟩ (bT a1 a2 i6 n1 i14 i15 i16) from ?_) fu _ _ _
      intro n1
      induction n1 with
      | zero=>exact fun _ _ _=>.stop
      | succ n1 ih1=>
       intro i14 i15 i16
       refine .inLoop<|.seq<|.s<|go ?_
       refine .cd z ?_ ?_
       ·refine .skip<|.seq<|.block<|.seq<|.join1 (fun i17=>⟨[(1,isS a1,none),(5,isP b2 0,none),(6,isP b3 0,none),(10,isI .i64 i6,none),(11,isP b13 0,none),(12,isI .i64 i14,none),(93,isB i17,none)],[boxO b13 tBaseA (⟨p12.1,p12.2⟩:aL) [],arrO tTab p12.1 i15,arrO tLink p12.2 i16,boxO b3 tBaseA (⟨(.slice none 0 0),(.slice none 0 0)⟩:aL) [],boxO b2 tChange a2 []]⟩) (fun i17=>dY a2 i14 i15 i16 (bT a1 a2 i6 n1) i17) (fun i17=>?_) (fun hj5=>?_)
        ·refine .join1 (fun i18=>⟨[(1,isS a1,none),(5,isP b2 0,none),(6,isP b3 0,none),(10,isI .i64 i6,none),(11,isP b13 0,none),(12,isI .i64 i14,none)],[boxO b13 tBaseA (⟨p12.1,p12.2⟩:aL) [],arrO tTab p12.1 i18.tabs,arrO tLink p12.2 i18.links,boxO b3 tBaseA (⟨(.slice none 0 0),(.slice none 0 0)⟩:aL) [],boxO b2 tChange a2 []]⟩) (fun i18=>iM i14 (bT a1 a2 i6 n1) i18) (fun i18=>?_) (fun hj6=>?_)
         ·exact fj (ih1 _ _ _)
         ·refine .cd z ?_ ?_
          ·exact fj (hj6 _)
          ·exact fj (hj6 _)
        ·refine .pcond (fun h5=>?_) (fun h5=>?_)
         ·refine .pT fun h6=>.pcond (fun h7=>?_) (fun h7=>?_)
          ·exact .pT fun h8=>.draw 22 [] mix (by kernel_rfl) sts z<|fj (hj5 _)
          ·exact .draw 22 [] mix (by kernel_rfl) sts z<|fj (hj5 _)
         ·exact .draw 22 [] mix (by kernel_rfl) sts z<|fj (hj5 _)
       ·refine .exit z<|.s<|go ?_
        exact .frzBox 3 1 conv1026_0 z z<|.frzBox 3 2 conv1026_1 z z<|fr
   ·refine .g<|go ?_
    refine .split 33 z (fun _=>?_) (fun _=>?_)
    ·refine go ?_
     refine .split 37 z (fun _=>?_) (fun _=>?_)
     ·refine go ?_
      exact .call0 (Dm fu _ _ _) Cc z z fun q19=>fj (hj2 _)
     ·refine go ?_
      refine .split 43 z (fun _=>?_) (fun _=>?_)
      ·refine go ?_
       exact .call0 (Dm fu _ _ _) Cc z z fun q20=>fj (hj2 _)
      ·exact fj (hj2 _)
    ·exact fj (hj2 _)
  ·refine .pT fun h9=>.pbind fun q21 h10=>.pbind fun q23 h11=>.drawT 14 [] [6,8,9,10,11,12,13] [3,5] mix (by kernel_rfl) (.j (fun o=>.fp (o z) fa1026_0 z)<|.k (fun p e=>.lp 2 fBase_0 (e.op z) (p.get z z) ty1023 z)<|.j (fun o=>.m (o z) z)<|.k (fun p e h=>.useC h9<|.elemAt (e.op z) (e.op z) u26 bf z<|h)<|.j (fun o=>.fieldAt fTab_1 (o z) aC z)<|.j (fun o=>.load (o z) ty27 z)<|.skip<|.k (fun p e=>.lp 1 (Fld.self _) (e.op z) (p.get z z) zf z)<|.skip<|.skip<|.skip<|.skip<|.skip<|.skip<|.nil) z<|.node (.on ?_<|.off (by kernel_rfl)<|.off (by kernel_rfl)<|.off (by kernel_rfl)<|.off (by kernel_rfl)<|.on ?_<|.off (by kernel_rfl)<|.nil)
   ·refine .put 26 z z fun _ _ hE h=>.bindE2 h10 (fun r h=>.callL0 (c42 fu _) n42 (hE.ops z) z h) fun p22=>.toEnd<|.toEnd<|h _ _ (.same<|.same<|.same<|.nil)<|.node (.on ?_<|.off (by kernel_rfl)<|.off (by kernel_rfl)<|.off (by kernel_rfl)<|.on ?_<|.off (by kernel_rfl)<|.nil)
    ·refine .put 28 z z fun _ _ hE h=>.bindE2 h11 (fun r h=>.callS 3 (c72 fu _ _ _ _) z n72 (hE.ops z) z h) fun p24=>h _ _ (.same<|.same<|.same<|.nil)<|.node (.on ?_<|.off (by kernel_rfl)<|.off (by kernel_rfl)<|.on ?_<|.off (by kernel_rfl)<|.nil)
     ·refine .put 19 z z fun _ _ hE h=>.m (hE.op z) z<|h _ _ (.same<|.same<|.same<|.nil)<|.node (.on ?_<|.on ?_<|.on ?_<|.off (by kernel_rfl)<|.nil)
      ·refine .put 29 z z fun _ _ hE h=>.extract (hE.op z) z z<|h _ _ (.same<|.same<|.same<|.nil)<|.node (.on ?_<|.on ?_<|.off (by kernel_rfl)<|.nil)
       ·refine .put 30 z z fun _ _ hE h=>.extract (hE.op z) z z<|h _ _ (.same<|.same<|.same<|.nil)<|.node (.on ?_<|.off (by kernel_rfl)<|.nil)
        ·refine .put 9 z z fun _ _ hE h=>.alloc tTableA aS [] bB z fun b25=>.toEnd<|h _ _ (.same<|.same<|.same<|.nil)<|.node (.on ?_<|.nil)
         ·exact .act z fun _ _ hE h=>.storeP 5 (Fld.self _) (hE.op z) z (hE.op z) ty27<|h _ (.same<|.same<|.same<|.nil)<|.leaf<|fj (hj1 _ _ _ _ _)
       ·refine .put 9 z z fun _ _ hE h=>.alloc tTableA aS [] bB z fun b25=>.toEnd<|h _ _ (.same<|.same<|.same<|.nil)<|.node (.on ?_<|.on ?_<|.nil)
        ·refine .put 30 z z fun _ _ hE h=>.extract (hE.op z) z z<|h _ _ (.same<|.same<|.same<|.nil)<|.node (.on ?_<|.nil)
         ·exact .act z fun _ _ hE h=>.storeP 5 (Fld.self _) (hE.op z) z (hE.op z) ty27<|h _ (.same<|.same<|.same<|.nil)<|.leaf<|fj (hj1 _ _ _ _ _)
        ·refine .act z fun _ _ hE h=>.storeP 5 (Fld.self _) (hE.op z) z (hE.op z) ty27<|h _ (.same<|.same<|.same<|.nil)<|.node (.on ?_<|.nil)
         ·exact .put 30 z z fun _ _ hE h=>.extract (hE.op z) z z<|h _ _ (.same<|.same<|.same<|.nil)<|.leaf<|fj (hj1 _ _ _ _ _)
      ·refine .put 30 z z fun _ _ hE h=>.extract (hE.op z) z z<|h _ _ (.same<|.same<|.same<|.nil)<|.node (.on ?_<|.on ?_<|.off (by kernel_rfl)<|.nil)
       ·refine .put 29 z z fun _ _ hE h=>.extract (hE.op z) z z<|h _ _ (.same<|.same<|.same<|.nil)<|.node (.on ?_<|.off (by kernel_rfl)<|.nil)
        ·refine .put 9 z z fun _ _ hE h=>.alloc tTableA aS [] bB z fun b25=>.toEnd<|h _ _ (.same<|.same<|.same<|.nil)<|.node (.on ?_<|.nil)
         ·exact .act z fun _ _ hE h=>.storeP 5 (Fld.self _) (hE.op z) z (hE.op z) ty27<|h _ (.same<|.same<|.same<|.nil)<|.leaf<|fj (hj1 _ _ _ _ _)
       ·refine .put 9 z z fun _ _ hE h=>.alloc tTableA aS [] bB z fun b25=>.toEnd<|h _ _ (.same<|.same<|.same<|.nil)<|.node (.on ?_<|.off (by kernel_rfl)<|.nil)
        ·refine .put 29 z z fun _ _ hE h=>.extract (hE.op z) z z<|h _ _ (.same<|.same<|.same<|.nil)<|.node (.on ?_<|.nil)
         ·exact .act z fun _ _ hE h=>.storeP 5 (Fld.self _) (hE.op z) z (hE.op z) ty27<|h _ (.same<|.same<|.same<|.nil)<|.leaf<|fj (hj1 _ _ _ _ _)
      ·refine .put 9 z z fun _ _ hE h=>.alloc tTableA aS [] bB z fun b25=>.toEnd<|h _ _ (.same<|.same<|.same<|.nil)<|.node (.on ?_<|.on ?_<|.off (by kernel_rfl)<|.nil)
       ·refine .put 29 z z fun _ _ hE h=>.extract (hE.op z) z z<|h _ _ (.same<|.same<|.same<|.nil)<|.node (.on ?_<|.on ?_<|.nil)
        ·refine .put 30 z z fun _ _ hE h=>.extract (hE.op z) z z<|h _ _ (.same<|.same<|.same<|.nil)<|.node (.on ?_<|.nil)
         ·exact .act z fun _ _ hE h=>.storeP 5 (Fld.self _) (hE.op z) z (hE.op z) ty27<|h _ (.same<|.same<|.same<|.nil)<|.leaf<|fj (hj1 _ _ _ _ _)
        ·refine .act z fun _ _ hE h=>.storeP 5 (Fld.self _) (hE.op z) z (hE.op z) ty27<|h _ (.same<|.same<|.same<|.nil)<|.node (.on ?_<|.nil)
         ·exact .put 30 z z fun _ _ hE h=>.extract (hE.op z) z z<|h _ _ (.same<|.same<|.same<|.nil)<|.leaf<|fj (hj1 _ _ _ _ _)
       ·refine .put 30 z z fun _ _ hE h=>.extract (hE.op z) z z<|h _ _ (.same<|.same<|.same<|.nil)<|.node (.on ?_<|.off (by kernel_rfl)<|.nil)
        ·refine .put 29 z z fun _ _ hE h=>.extract (hE.op z) z z<|h _ _ (.same<|.same<|.same<|.nil)<|.node (.on ?_<|.nil)
         ·exact .act z fun _ _ hE h=>.storeP 5 (Fld.self _) (hE.op z) z (hE.op z) ty27<|h _ (.same<|.same<|.same<|.nil)<|.leaf<|fj (hj1 _ _ _ _ _)
     ·refine .put 9 z z fun _ _ hE h=>.alloc tTableA aS [] bB z fun b25=>.toEnd<|h _ _ (.same<|.same<|.same<|.nil)<|.node (.on ?_<|.off (by kernel_rfl)<|.off (by kernel_rfl)<|.off (by kernel_rfl)<|.nil)
      ·refine .put 19 z z fun _ _ hE h=>.m (hE.op z) z<|h _ _ (.same<|.same<|.same<|.nil)<|.node (.on ?_<|.on ?_<|.off (by kernel_rfl)<|.nil)
       ·refine .put 29 z z fun _ _ hE h=>.extract (hE.op z) z z<|h _ _ (.same<|.same<|.same<|.nil)<|.node (.on ?_<|.on ?_<|.nil)
        ·refine .put 30 z z fun _ _ hE h=>.extract (hE.op z) z z<|h _ _ (.same<|.same<|.same<|.nil)<|.node (.on ?_<|.nil)
         ·exact .act z fun _ _ hE h=>.storeP 5 (Fld.self _) (hE.op z) z (hE.op z) ty27<|h _ (.same<|.same<|.same<|.nil)<|.leaf<|fj (hj1 _ _ _ _ _)
        ·refine .act z fun _ _ hE h=>.storeP 5 (Fld.self _) (hE.op z) z (hE.op z) ty27<|h _ (.same<|.same<|.same<|.nil)<|.node (.on ?_<|.nil)
         ·exact .put 30 z z fun _ _ hE h=>.extract (hE.op z) z z<|h _ _ (.same<|.same<|.same<|.nil)<|.leaf<|fj (hj1 _ _ _ _ _)
       ·refine .put 30 z z fun _ _ hE h=>.extract (hE.op z) z z<|h _ _ (.same<|.same<|.same<|.nil)<|.node (.on ?_<|.off (by kernel_rfl)<|.nil)
        ·refine .put 29 z z fun _ _ hE h=>.extract (hE.op z) z z<|h _ _ (.same<|.same<|.same<|.nil)<|.node (.on ?_<|.nil)
         ·exact .act z fun _ _ hE h=>.storeP 5 (Fld.self _) (hE.op z) z (hE.op z) ty27<|h _ (.same<|.same<|.same<|.nil)<|.leaf<|fj (hj1 _ _ _ _ _)
    ·refine .put 9 z z fun _ _ hE h=>.alloc tTableA aS [] bB z fun b25=>.toEnd<|h _ _ (.same<|.same<|.same<|.nil)<|.node (.on ?_<|.off (by kernel_rfl)<|.off (by kernel_rfl)<|.off (by kernel_rfl)<|.off (by kernel_rfl)<|.nil)
     ·refine .put 28 z z fun _ _ hE h=>.bindE2 h11 (fun r h=>.callS 3 (c72 fu _ _ _ _) z n72 (hE.ops z) z h) fun p24=>h _ _ (.same<|.same<|.same<|.nil)<|.node (.on ?_<|.off (by kernel_rfl)<|.off (by kernel_rfl)<|.off (by kernel_rfl)<|.nil)
      ·refine .put 19 z z fun _ _ hE h=>.m (hE.op z) z<|h _ _ (.same<|.same<|.same<|.nil)<|.node (.on ?_<|.on ?_<|.off (by kernel_rfl)<|.nil)
       ·refine .put 29 z z fun _ _ hE h=>.extract (hE.op z) z z<|h _ _ (.same<|.same<|.same<|.nil)<|.node (.on ?_<|.on ?_<|.nil)
        ·refine .put 30 z z fun _ _ hE h=>.extract (hE.op z) z z<|h _ _ (.same<|.same<|.same<|.nil)<|.node (.on ?_<|.nil)
         ·exact .act z fun _ _ hE h=>.storeP 5 (Fld.self _) (hE.op z) z (hE.op z) ty27<|h _ (.same<|.same<|.same<|.nil)<|.leaf<|fj (hj1 _ _ _ _ _)
        ·refine .act z fun _ _ hE h=>.storeP 5 (Fld.self _) (hE.op z) z (hE.op z) ty27<|h _ (.same<|.same<|.same<|.nil)<|.node (.on ?_<|.nil)
         ·exact .put 30 z z fun _ _ hE h=>.extract (hE.op z) z z<|h _ _ (.same<|.same<|.same<|.nil)<|.leaf<|fj (hj1 _ _ _ _ _)
       ·refine .put 30 z z fun _ _ hE h=>.extract (hE.op z) z z<|h _ _ (.same<|.same<|.same<|.nil)<|.node (.on ?_<|.off (by kernel_rfl)<|.nil)
        ·refine .put 29 z z fun _ _ hE h=>.extract (hE.op z) z z<|h _ _ (.same<|.same<|.same<|.nil)<|.node (.on ?_<|.nil)
         ·exact .act z fun _ _ hE h=>.storeP 5 (Fld.self _) (hE.op z) z (hE.op z) ty27<|h _ (.same<|.same<|.same<|.nil)<|.leaf<|fj (hj1 _ _ _ _ _)
   ·refine .put 9 z z fun _ _ hE h=>.alloc tTableA aS [] bB z fun b25=>.toEnd<|h _ _ (.same<|.same<|.same<|.nil)<|.node (.on ?_<|.off (by kernel_rfl)<|.off (by kernel_rfl)<|.off (by kernel_rfl)<|.off (by kernel_rfl)<|.off (by kernel_rfl)<|.nil)
    ·refine .put 26 z z fun _ _ hE h=>.bindE2 h10 (fun r h=>.callL0 (c42 fu _) n42 (hE.ops z) z h) fun p22=>.toEnd<|.toEnd<|h _ _ (.same<|.same<|.same<|.nil)<|.node (.on ?_<|.off (by kernel_rfl)<|.off (by kernel_rfl)<|.off (by kernel_rfl)<|.off (by kernel_rfl)<|.nil)
     ·refine .put 28 z z fun _ _ hE h=>.bindE2 h11 (fun r h=>.callS 4 (c72 fu _ _ _ _) z n72 (hE.ops z) z h) fun p24=>h _ _ (.same<|.same<|.same<|.nil)<|.node (.on ?_<|.off (by kernel_rfl)<|.off (by kernel_rfl)<|.off (by kernel_rfl)<|.nil)
      ·refine .put 19 z z fun _ _ hE h=>.m (hE.op z) z<|h _ _ (.same<|.same<|.same<|.nil)<|.node (.on ?_<|.on ?_<|.off (by kernel_rfl)<|.nil)
       ·refine .put 29 z z fun _ _ hE h=>.extract (hE.op z) z z<|h _ _ (.same<|.same<|.same<|.nil)<|.node (.on ?_<|.on ?_<|.nil)
        ·refine .put 30 z z fun _ _ hE h=>.extract (hE.op z) z z<|h _ _ (.same<|.same<|.same<|.nil)<|.node (.on ?_<|.nil)
         ·exact .act z fun _ _ hE h=>.storeP 3 (Fld.self _) (hE.op z) z (hE.op z) ty27<|h _ (.same<|.same<|.same<|.nil)<|.leaf<|.pick [0,0,0,1,1,0] z<|fj (hj1 _ _ _ _ _)
        ·refine .act z fun _ _ hE h=>.storeP 3 (Fld.self _) (hE.op z) z (hE.op z) ty27<|h _ (.same<|.same<|.same<|.nil)<|.node (.on ?_<|.nil)
         ·exact .put 30 z z fun _ _ hE h=>.extract (hE.op z) z z<|h _ _ (.same<|.same<|.same<|.nil)<|.leaf<|.pick [0,0,0,1,1,0] z<|fj (hj1 _ _ _ _ _)
       ·refine .put 30 z z fun _ _ hE h=>.extract (hE.op z) z z<|h _ _ (.same<|.same<|.same<|.nil)<|.node (.on ?_<|.off (by kernel_rfl)<|.nil)
        ·refine .put 29 z z fun _ _ hE h=>.extract (hE.op z) z z<|h _ _ (.same<|.same<|.same<|.nil)<|.node (.on ?_<|.nil)
         ·exact .act z fun _ _ hE h=>.storeP 3 (Fld.self _) (hE.op z) z (hE.op z) ty27<|h _ (.same<|.same<|.same<|.nil)<|.leaf<|.pick [0,0,0,1,1,0] z<|fj (hj1 _ _ _ _ _)
def qJ (fu:Nat)(a0:ac)(a1:List UInt8)(a2:List Set):Option (ac×Int):=(f1062 fu a0 a1).bind fun q3=>cond (decide (q3<0)) (some (a0,5)) (cond (decide (0≤q3)&&decide (q3 < (a0.tabs.length:Int))) ((f42 fu ((a0.tabs.getD q3.toNat default).table)).bind fun q4=>(f65 fu q4 a2).bind fun q6=>(tp fu a0 q3 q6.1 q6.2).bind fun q9=>some (q9.1,q9.2)) none)
theorem Ac:Nm prog 172:=nmK func172
theorem A6 (fu:Nat)(a0:ac)(a1:List UInt8)(a2:List Set):Ctr prog 172 [tBase.va a0,isS a1,(tL tSet).va a2] [] (qJ fu a0 a1 a2) (fun _ _=>[]) (fun q=>tup [tBase.va q.1,isI .i64 q.2]):=by
 refine .w func172 ntmps172 fun hf A w=>?_
 unfold qJ
 refine .s<|.box (T:=tBase) z z fun b1=>.alloc tBaseA av [] aA z fun b2=>.an z z<|.s<|go ?_
 refine .call0 (gu fu _ _) eM z z fun q3=>.an z z<|.seq<|.s<|go ?_
 refine .cd z ?_ ?_
 ·refine .s<|go ?_
  exact .storeW 0 z z z z ao<|fr
 ·refine .skip<|.s<|go ?_
  refine .callL0 (c42 fu _) n42 z z fun q4 p5=>.m z z<|.callS 0 (c65 fu _ _ _ _) z n65 z z fun q6 p7=>go ?_
  refine .alloc tTableA aS [] bB z fun b8=>go ?_
  refine .seq<|.frzBox 0 1 conv27 z z<|.g<|go ?_
  refine .call0 (Dl fu _ _ _ _) Cb z z fun q9=>go ?_
  exact .storeW 3 z z z z ao<|fr
def dV (i15:ac)(i16:Rd):Option (ac×Rd):=some (i15,i16)
def iG (fu:Nat)(a1:ac)(q4:Int×Rd)(i12:Int)(q14:Int×Rd)(i20:Bool):Option (ac×Rd):=cond i20 (cond (decide (0≤q4.1)&&decide (q4.1 < (a1.tabs.length:Int))) ((po fu q14.2 a1 q4.1).bind fun q21=>(qK fu a1 ((a1.tabs.getD q4.1.toNat default).name) i12 q21.1).bind fun q22=>dV q22.1 q21.2) none) (cond (decide (q14.1=4)) (cond (decide (0≤q4.1)&&decide (q4.1 < (a1.tabs.length:Int))) ((f53 fu ((a1.tabs.getD q4.1.toNat default).table)).bind fun q23=>(f70 fu q14.2 q23).bind fun q24=>(qL fu a1 ((a1.tabs.getD q4.1.toNat default).name) q24.1).bind fun q25=>dV q25.1 q24.2) none) (cond (decide (q14.1=5)) ((f96 fu q14.2 ([([117]:List UInt8),([118]:List UInt8),([116]:List UInt8)]:List (List UInt8))).bind fun q26=>(f125 fu q26.2).bind fun q27=>(mf fu a1 q26.1 q27.1).bind fun q28=>dV q28.1 q27.2) (cond (decide (0≤q4.1)&&decide (q4.1 < (a1.tabs.length:Int))) ((po fu q14.2 a1 q4.1).bind fun q29=>(qJ fu a1 ((a1.tabs.getD q4.1.toNat default).name) q29.1).bind fun q30=>dV q30.1 q29.2) none)))
def iH (fu:Nat)(a1:ac)(q4:Int×Rd)(i12:Int)(i13:Rd):Option (ac×Rd):=(f74 fu i13 12).bind fun q14=>cond (decide (q14.1=0)) ((qR fu q14.2 a1).bind fun q17=>(pp fu a1 q17.1).bind fun q18=>dV q18.1 q17.2) (cond (decide (q14.1=1)) (cond (decide (0≤q4.1)&&decide (q4.1 < (a1.tabs.length:Int))) ((qN fu a1 ((a1.tabs.getD q4.1.toNat default).name) i12).bind fun q19=>dV q19.1 q14.2) none) (cond (decide (q14.1=2)) (iG fu a1 q4 i12 q14 (decide (q14.1=2))) (iG fu a1 q4 i12 q14 (decide (q14.1=3)))))
def iI (fu:Nat)(a1:ac)(q4:Int×Rd)(q9:Int×Rd)(i10:Bool)(i11:Rd):Option (ac×Rd):=cond i10 ((f74 fu i11 (List.length (((a1.tabs.getD q4.1.toNat default).table).rows):Int)).bind fun q31=>cond (decide (0≤q31.1)&&decide (q31.1 < (List.length (((a1.tabs.getD q4.1.toNat default).table).rows):Int))) (iH fu a1 q4 (((((a1.tabs.getD q4.1.toNat default).table).rows).getD q31.1.toNat default).id) q31.2) none) (iH fu a1 q4 (IntKind.i64.wrap (1+q9.1)) i11)
def vK (fu:Nat)(a0:Rd)(a1:ac):Option (ac×Rd):=(By 1 (a1.tabs.length:Int)).bind fun q3=>(f74 fu a0 q3).bind fun q4=>cond (decide ((a1.tabs.length:Int)=0)) ((f125 fu q4.2).bind fun q5=>(mf fu a1 ([116]:List UInt8) q5.1).bind fun q6=>some (q6.1,q5.2)) (cond (decide (0≤q4.1)&&decide (q4.1 < (a1.tabs.length:Int))) ((By 1 (IntKind.i64.wrap ((((a1.tabs.getD q4.1.toNat default).table).next)-1))).bind fun q8=>(f74 fu q4.2 q8).bind fun q9=>cond (decide (0 < (List.length (((a1.tabs.getD q4.1.toNat default).table).rows):Int))) ((f74 fu q9.2 4).bind fun q32=>iI fu a1 q4 q9 (decide (0<q32.1)) q32.2) (iI fu a1 q4 q9 false q9.2)) none)
theorem n1171:Nm prog 157:=nmK func157
theorem c1171 (fu:Nat)(bp0:Nat)(a0:Rd)(a1:ac):Ctr prog 157 [isP bp0 0,tBase.va a1] [boxO bp0 tRd a0 []] (vK fu a0 a1) (fun q _=>[boxO bp0 tRd q.2 []]) (fun q=>tBase.va q.1):=by
 refine .w func157 ntmps157 fun hf A w=>?_
 unfold vK
 refine .s<|.box (T:=tBase) z z fun b1=>.alloc tBase d0_1026 [] cz z fun b2=>.nil<|.s<|go ?_
 refine .call0 (G9 _ _) GQ z z fun q3=>.call1 2 (c74 fu _ _ _) z n74 z z fun q4=>.an z z<|.seq<|.s<|go ?_
 refine .cd z ?_ ?_
 ·exact .seq<|.pbind fun q5 h1=>.drawS 3 [] [2] [2] mix (by kernel_rfl) sts z<|.cons (d:=21) z z fun _ _ hE h=>.bindE h1 (fun r h=>.call1 2 (BM fu _ _) z Aa (hE.ops z) z h)<|h _ _ (.same<|.same<|.hole z<|.nil)<|.nil<|.call0 (wB fu _ _ _) uy z z fun q6=>fr
 ·refine .skip<|.s<|go ?_
  refine .alloc tTable d0_27 [] z27 z fun b7=>go ?_
  refine .s<|go ?_
  refine .call0 (G9 _ _) GQ z z fun q8=>.call1 3 (c74 fu _ _ _) z n74 z z fun q9=>go ?_
  refine .seq<|.seq<|.join2 (fun i10 i11=>⟨[(0,isP bp0 0,none),(3,isP b1 0,none),(4,isP b2 0,none),(5,isI .i64 q4.1,none),(6,isP b7 0,none),(7,isI .i64 (IntKind.i64.wrap (1+q9.1)),none),(47,isB i10,none)],[boxO b7 tTable ((a1.tabs.getD q4.1.toNat default).table) [],boxO b2 tBase d0_1026 [],boxO b1 tBase a1 [],boxO bp0 tRd i11 []]⟩) (fun i10 i11=>iI fu a1 q4 q9 i10 i11) (fun i10 i11=>?_) (fun hj1=>?_)
  ·refine .join2 (fun i12 i13=>⟨[(0,isP bp0 0,none),(3,isP b1 0,none),(4,isP b2 0,none),(5,isI .i64 q4.1,none),(6,isP b7 0,none),(7,isI .i64 i12,none)],[boxO b7 tTable ((a1.tabs.getD q4.1.toNat default).table) [],boxO b2 tBase d0_1026 [],boxO b1 tBase a1 [],boxO bp0 tRd i13 []]⟩) (fun i12 i13=>iH fu a1 q4 i12 i13) (fun i12 i13=>?_) (fun hj2=>?_)
   ·refine .seq<|.s<|.m z z<|.call1 3 (c74 fu _ _ _) z n74 z z fun q14=>.nil<|.block<|.s<|go ?_
    refine .join2 (fun i15 i16=>⟨[(3,isP b1 0,none),(4,isP b2 0,none)],[boxO b2 tBase d0_1026 [],boxO b1 tBase i15 [],boxO bp0 tRd i16 []]⟩) (fun i15 i16=>dV i15 i16) (fun i15 i16=>?_) (fun hj3=>?_)
    ·exact fr
    ·refine .cd z ?_ ?_
     ·exact .pbind fun q17 h2=>.drawS 4 [] [3] [3] mix (by kernel_rfl) sts z<|.cons (d:=81) z z fun _ _ hE h=>.bindE h2 (fun r h=>.call1 3 (Ba fu _ _ _) z Ag (hE.ops z) z h)<|h _ _ (.same<|.same<|.same<|.hole z<|.nil)<|.nil<|.call0 (y4 fu _ _) xD z z fun q18=>fj (hj3 _ _)
     ·refine .s<|go ?_
      refine .cd z ?_ ?_
      ·exact .pT fun h3=>.draw 8 [] mix (by kernel_rfl) sts z<|.call0 (A9 fu _ _ _) Af z z fun q19=>fj (hj3 _ _)
      ·refine .seq<|.s<|go ?_
       refine .join1 (fun i20=>⟨[(0,isP bp0 0,none),(3,isP b1 0,none),(4,isP b2 0,none),(5,isI .i64 q4.1,none),(6,isP b7 0,none),(7,isI .i64 i12,none),(59,isI .i64 q14.1,none),(99,isB i20,none)],[boxO b7 tTable ((a1.tabs.getD q4.1.toNat default).table) [],boxO b2 tBase d0_1026 [],boxO b1 tBase a1 [],boxO bp0 tRd q14.2 []]⟩) (fun i20=>iG fu a1 q4 i12 q14 i20) (fun i20=>?_) (fun hj4=>?_)
       ·refine .cd z ?_ ?_
        ·exact .pT fun h4=>.pbind fun q21 h5=>.drawS 12 [] [11] [3] mix (by kernel_rfl) sts z<|.cons (d:=114) z z fun _ _ hE h=>.bindE h5 (fun r h=>.call1 3 (y2 fu _ _ _ _) z xA (hE.ops z) z h)<|h _ _ (.same<|.same<|.same<|.hole z<|.nil)<|.nil<|.call0 (A7 fu _ _ _ _) Ad z z fun q22=>fj (hj3 _ _)
        ·refine .s<|go ?_
         refine .cd z ?_ ?_
         ·exact .pT fun h6=>.pb (c53 fu _) n53 fun q23 h7 k=>.pbind fun q24 h8=>.drawS 11 [] [10] [3] mix (by kernel_rfl) sts z<|.cons (d:=131) z z fun _ _ hE h=>.bindE h8 (fun r h=>.call1 3 (c70 fu _ _ _) z n70 (hE.ops z) z h)<|h _ _ (.same<|.same<|.same<|.hole z<|.nil)<|.nil<|.call0 (A8 fu _ _ _) Ae z z fun q25=>fj (hj3 _ _)
         ·refine .s<|go ?_
          refine .cd z ?_ ?_
          ·exact .pbind fun q26 h9=>.pbind fun q27 h10=>.drawS 6 [] [3,5] [3] mix (by kernel_rfl) sts z<|.cons (d:=141) z z fun _ _ hE h=>.bindE h9 (fun r h=>.call1 3 (c96 fu _ _ _) z n96 (hE.ops z) z h)<|h _ _ (.same<|.same<|.same<|.hole z<|.nil)<|.cons (d:=143) z z fun _ _ hE h=>.bindE h10 (fun r h=>.call1 3 (BM fu _ _) z Aa (hE.ops z) z h)<|h _ _ (.same<|.same<|.same<|.hole z<|.nil)<|.nil<|.call0 (wB fu _ _ _) uy z z fun q28=>fj (hj3 _ _)
          ·exact .pT fun h11=>.pbind fun q29 h12=>.drawS 11 [] [10] [3] mix (by kernel_rfl) sts z<|.cons (d:=71) z z fun _ _ hE h=>.bindE h12 (fun r h=>.call1 3 (y2 fu _ _ _ _) z xA (hE.ops z) z h)<|h _ _ (.same<|.same<|.same<|.hole z<|.nil)<|.nil<|.call0 (A6 fu _ _ _) Ac z z fun q30=>fj (hj3 _ _)
       ·refine .cd z ?_ ?_
        ·exact fj (hj4 _)
        ·exact fj (hj4 _)
   ·refine .cd z ?_ ?_
    ·exact .pbind fun q31 h13=>.drawS 7 [] [6] [3] mix (by kernel_rfl) sts z<|.cons (d:=54) z z fun _ _ hE h=>.bindE h13 (fun r h=>.call1 3 (c74 fu _ _ _) z n74 (hE.ops z) z h)<|h _ _ (.same<|.same<|.same<|.hole z<|.nil)<|fj (hj2 _ _)
    ·exact fj (hj2 _ _)
  ·refine .g<|go ?_
   refine .split 43 z (fun _=>?_) (fun _=>?_)
   ·refine go ?_
    exact .call1 3 (c74 fu _ _ _) z n74 z z fun q32=>fj (hj1 _ _)
   ·exact fj (hj1 _ _)
end Go.Proofs.YtganfdhmkdehlaaGreatDoor
