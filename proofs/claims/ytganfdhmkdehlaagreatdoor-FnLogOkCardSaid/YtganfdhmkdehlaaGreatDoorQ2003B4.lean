/- Functions of the program: what each answers, and that the machine answers so. -/
import Derived.Test.YtganfdhmkdehlaaGreatDoorQ2003B3
import Derived.KernelRfl
set_option linter.all false
namespace Go.Proofs.YtganfdhmkdehlaaGreatDoor
open Go Go.HL Tryz
attribute [local irreducible] W WO
def ip (i14:Int)(rec1:Int→(List Tab)→(List aj)→Option (ac×Int))(i18:ac):Option (ac×Int):=rec1 (IntKind.i64.wrap (i14+1)) i18.tabs i18.links
def dG (a2:aa)(i14:Int)(i15:List Tab)(i16:List aj)(rec1:Int→(List Tab)→(List aj)→Option (ac×Int))(i17:Bool):Option (ac×Int):=cond i17 (cond (decide (0≤i14)&&decide (i14 < (i16.length:Int))) (ip i14 rec1 (⟨i15,i16.set i14.toNat ({ (i16.getD i14.toNat default) with col:=a2.new }:aj)⟩:ac)) none) (ip i14 rec1 (⟨i15,i16⟩:ac))
def bO (a1:List UInt8)(a2:aa)(i6:Int):Nat→Int→(List Tab)→(List aj)→Option (ac×Int)
 | 0,_,_,_=>none
 | n1+1,i14,i15,i16=>cond (decide (i14 < (i16.length:Int))) (cond (decide (a2.kind=3)) (cond (decide (0≤i14)&&decide (i14 < (i16.length:Int))) (cond (decide (((i16.getD i14.toNat default).from_)=a1)) (cond (decide (0≤i14)&&decide (i14 < (i16.length:Int))) (dG a2 i14 i15 i16 (bO a1 a2 i6 n1) (decide (((i16.getD i14.toNat default).col)=a2.name))) none) (dG a2 i14 i15 i16 (bO a1 a2 i6 n1) false)) none) (dG a2 i14 i15 i16 (bO a1 a2 i6 n1) false)) (some ((⟨i15,i16⟩:ac),i6))
def dH (fu:Nat)(a0:ac)(a1:List UInt8)(a2:aa)(q4:Int)(i6:Int)(i7:ab)(i10:Bool):Option (ac×Int):=cond i10 (some (a0,8)) (cond (!decide (i6=0)) (some (a0,i6)) ((dn fu a0).bind fun q11=>cond (decide (0≤q4)&&decide (q4 < (q11.tabs.length:Int))) (bO a1 a2 i6 fu 0 (q11.tabs.set q4.toNat ({ (q11.tabs.getD q4.toNat default) with table:=i7 }:Tab)) q11.links) none))
def nn (fu:Nat)(a0:ac)(a1:List UInt8)(a2:aa)(q4:Int)(i6:Int)(i7:ab):Option (ac×Int):=cond (!decide (i6=1)) (cond (decide (a2.kind=2)) ((pA fu a0 a1 a2.name).bind fun q19=>dH fu a0 a1 a2 q4 i6 i7 q19) (cond (decide (a2.kind=4)) ((pA fu a0 a1 a2.name).bind fun q20=>dH fu a0 a1 a2 q4 i6 i7 q20) (dH fu a0 a1 a2 q4 i6 i7 false))) (dH fu a0 a1 a2 q4 i6 i7 false)
def si (fu:Nat)(a0:ac)(a1:List UInt8)(a2:aa):Option (ac×Int):=(f1062 fu a0 a1).bind fun q4=>cond (decide (q4<0)) (some (a0,5)) (cond (decide (0≤q4)&&decide (q4 < (a0.tabs.length:Int))) ((f42 fu ((a0.tabs.getD q4.toNat default).table)).bind fun q21=>(f72 fu q21 a2).bind fun q23=>nn fu a0 a1 a2 q4 q23.2 q23.1) none)
theorem n1100:Nm prog 175:=⟨_,_,func175,by kernel_rfl,z⟩
set_option maxHeartbeats 2000000 in
theorem c1100 (fu:Nat)(a0:ac)(a1:List UInt8)(a2:aa):Ctr prog 175 [tBase.va a0,isS a1,tChange.va a2] [] (si fu a0 a1 a2) (fun _ _=>[]) (fun q=>tup [tBase.va q.1,isI .i64 q.2]):=by
 refine .w func175 ntmps175 fun hf A w=>?_
 unfold si
 refine .s<|.box (T:=tBase) z z fun b1=>.box (T:=tChange) z z fun b2=>.alloc tBaseA ax [] aA z fun b3=>.an z z<|.s<|go ?_
 refine .call0 (c1062 fu _ _) n1062 z z fun q4=>.an z z<|.seq<|.s<|go ?_
 refine .cd z ?_ ?_
 ·refine .s<|go ?_
  exact .storeW 0 z z z z ty1026<|fr
 ·refine .skip<|.seq<|.join5 (fun b5 i6 i7 v8 v9=>⟨[(1,isS a1,none),(3,isP b1 0,none),(5,isP b2 0,none),(6,isP b3 0,none),(8,isI .i64 q4,none),(9,isP b5 0,none),(10,isI .i64 i6,none)],[boxO b3 tBaseA (⟨(.slice none 0 0),(.slice none 0 0)⟩:aL) [],boxO b2 tChange a2 [],boxO b1 tBase a0 [],arrO tRow v8 i7.rows,boxO b5 tTableA (⟨i7.first,(v9,i7.changes),v8,i7.next⟩:ay) []]⟩) (fun b5 i6 i7 v8 v9=>nn fu a0 a1 a2 q4 i6 i7) (fun b5 i6 i7 v8 v9=>?_) (fun hj1=>?_)
  ·refine .seq<|.seq<|.join1 (fun i10=>⟨[(1,isS a1,none),(3,isP b1 0,none),(5,isP b2 0,none),(6,isP b3 0,none),(8,isI .i64 q4,none),(9,isP b5 0,none),(10,isI .i64 i6,none),(49,isB i10,none)],[boxO b3 tBaseA (⟨(.slice none 0 0),(.slice none 0 0)⟩:aL) [],boxO b2 tChange a2 [],boxO b1 tBase a0 [],arrO tRow v8 i7.rows,boxO b5 tTableA (⟨i7.first,(v9,i7.changes),v8,i7.next⟩:ay) []]⟩) (fun i10=>dH fu a0 a1 a2 q4 i6 i7 i10) (fun i10=>?_) (fun hj2=>?_)
   ·refine .cd z ?_ ?_
    ·refine .s<|go ?_
     exact .storeW 0 z z z z ty1026<|fr
    ·refine .skip<|.seq<|.s<|go ?_
     refine .cd z ?_ ?_
     ·refine .s<|go ?_
      exact .storeW 0 z z z z ty1026<|fr
     ·refine .skip<|.s<|go ?_
      refine .callL0 (c1059 fu _) n1059 z z fun q11 p12=>.alloc tBaseA ax [] aA z fun b13=>go ?_
      refine .seq<|.frzBox 7 6 bp z z<|.g<|go ?_
      refine .seq<|.s<|.an z z<|.block<|.loop<|.drop (.d<|.d<|.d<|.d<|.d<|.c<|.c<|.c<|.e)<|.keep [1,5,6,10,11,12] [] z<|(show ∀ (n1:Nat) (i14:Int) (i15:List Tab) (i16:List aj),W _ _ _ _ _ ⟨[(1,isS a1,none),(5,isP b2 0,none),(6,isP b3 0,none),(10,isI .i64 i6,none),(11,isP b13 0,none),(12,isI .i64 i14,none)],[boxO b13 tBaseA (⟨p12.1,p12.2⟩:aL) [],arrO tTab p12.1 i15,arrO tLink p12.2 i16,boxO b3 tBaseA (⟨(.slice none 0 0),(.slice none 0 0)⟩:aL) [],boxO b2 tChange a2 []]⟩ (bO a1 a2 i6 n1 i14 i15 i16) from ?_) fu _ _ _
      intro n1
      induction n1 with
      | zero=>exact fun _ _ _=>.stop
      | succ n1 ih1=>
       intro i14 i15 i16
       refine .inLoop<|.seq<|.s<|go ?_
       refine .cd z ?_ ?_
       ·refine .skip<|.seq<|.block<|.seq<|.join1 (fun i17=>⟨[(1,isS a1,none),(5,isP b2 0,none),(6,isP b3 0,none),(10,isI .i64 i6,none),(11,isP b13 0,none),(12,isI .i64 i14,none),(93,isB i17,none)],[boxO b13 tBaseA (⟨p12.1,p12.2⟩:aL) [],arrO tTab p12.1 i15,arrO tLink p12.2 i16,boxO b3 tBaseA (⟨(.slice none 0 0),(.slice none 0 0)⟩:aL) [],boxO b2 tChange a2 []]⟩) (fun i17=>dG a2 i14 i15 i16 (bO a1 a2 i6 n1) i17) (fun i17=>?_) (fun hj5=>?_)
        ·refine .join1 (fun i18=>⟨[(1,isS a1,none),(5,isP b2 0,none),(6,isP b3 0,none),(10,isI .i64 i6,none),(11,isP b13 0,none),(12,isI .i64 i14,none)],[boxO b13 tBaseA (⟨p12.1,p12.2⟩:aL) [],arrO tTab p12.1 i18.tabs,arrO tLink p12.2 i18.links,boxO b3 tBaseA (⟨(.slice none 0 0),(.slice none 0 0)⟩:aL) [],boxO b2 tChange a2 []]⟩) (fun i18=>ip i14 (bO a1 a2 i6 n1) i18) (fun i18=>?_) (fun hj6=>?_)
         ·exact fj (ih1 _ _ _)
         ·refine .cd z ?_ ?_
          ·exact fj (hj6 _)
          ·exact fj (hj6 _)
        ·refine .pcond (fun h5=>?_) (fun h5=>?_)
         ·refine .pT fun h6=>.pcond (fun h7=>?_) (fun h7=>?_)
          ·exact .pT fun h8=>.draw 22 [] mix (by kernel_rfl) sts z<|fj (hj5 _)
          ·exact .draw 22 [] mix (by kernel_rfl) sts z<|fj (hj5 _)
         ·exact .draw 22 [] mix (by kernel_rfl) sts z<|fj (hj5 _)
       ·refine .exit z<|.s<|go ?_
        exact .frzBox 3 1 conv1026_0 z z<|.frzBox 3 2 conv1026_1 z z<|fr
   ·refine .g<|go ?_
    refine .split 33 z (fun _=>?_) (fun _=>?_)
    ·refine go ?_
     refine .split 37 z (fun _=>?_) (fun _=>?_)
     ·refine go ?_
      exact .call0 (c1159 fu _ _ _) n1159 z z fun q19=>fj (hj2 _)
     ·refine go ?_
      refine .split 43 z (fun _=>?_) (fun _=>?_)
      ·refine go ?_
       exact .call0 (c1159 fu _ _ _) n1159 z z fun q20=>fj (hj2 _)
      ·exact fj (hj2 _)
    ·exact fj (hj2 _)
  ·refine .pT fun h9=>.pbind fun q21 h10=>.pbind fun q23 h11=>.drawT 14 [] [6,8,9,10,11,12,13] [3,5] mix (by kernel_rfl) (.j (fun o=>.fp (o z) fa1026_0 z)<|.k (fun p e=>.lp 2 fBase_0 (e.op z) (p.get z z) ty1023 z)<|.j (fun o=>.m (o z) z)<|.k (fun p e h=>.useC h9<|.elemAt (e.op z) (e.op z) u26 bT z<|h)<|.j (fun o=>.fieldAt fTab_1 (o z) aK z)<|.j (fun o=>.load (o z) aM z)<|.skip<|.k (fun p e=>.lp 1 (Fld.self _) (e.op z) (p.get z z) xD z)<|.skip<|.skip<|.skip<|.skip<|.skip<|.skip<|.nil) z<|.node (.on ?_<|.off (by kernel_rfl)<|.off (by kernel_rfl)<|.off (by kernel_rfl)<|.off (by kernel_rfl)<|.on ?_<|.off (by kernel_rfl)<|.nil)
   ·refine .put 26 z z fun _ _ hE h=>.bindE2 h10 (fun r h=>.callL0 (c42 fu _) n42 (hE.ops z) z h) fun p22=>.toEnd<|.toEnd<|h _ _ (.same<|.same<|.same<|.nil)<|.node (.on ?_<|.off (by kernel_rfl)<|.off (by kernel_rfl)<|.off (by kernel_rfl)<|.on ?_<|.off (by kernel_rfl)<|.nil)
    ·refine .put 28 z z fun _ _ hE h=>.bindE2 h11 (fun r h=>.callS 3 (c72 fu _ _ _ _) z n72 (hE.ops z) z h) fun p24=>h _ _ (.same<|.same<|.same<|.nil)<|.node (.on ?_<|.off (by kernel_rfl)<|.off (by kernel_rfl)<|.on ?_<|.off (by kernel_rfl)<|.nil)
     ·refine .put 19 z z fun _ _ hE h=>.m (hE.op z) z<|h _ _ (.same<|.same<|.same<|.nil)<|.node (.on ?_<|.on ?_<|.on ?_<|.off (by kernel_rfl)<|.nil)
      ·refine .put 29 z z fun _ _ hE h=>.extract (hE.op z) z z<|h _ _ (.same<|.same<|.same<|.nil)<|.node (.on ?_<|.on ?_<|.off (by kernel_rfl)<|.nil)
       ·refine .put 30 z z fun _ _ hE h=>.extract (hE.op z) z z<|h _ _ (.same<|.same<|.same<|.nil)<|.node (.on ?_<|.off (by kernel_rfl)<|.nil)
        ·refine .put 9 z z fun _ _ hE h=>.alloc tTableA a6 [] cv z fun b25=>.toEnd<|h _ _ (.same<|.same<|.same<|.nil)<|.node (.on ?_<|.nil)
         ·exact .act z fun _ _ hE h=>.storeP 5 (Fld.self _) (hE.op z) z (hE.op z) aM<|h _ (.same<|.same<|.same<|.nil)<|.leaf<|fj (hj1 _ _ _ _ _)
       ·refine .put 9 z z fun _ _ hE h=>.alloc tTableA a6 [] cv z fun b25=>.toEnd<|h _ _ (.same<|.same<|.same<|.nil)<|.node (.on ?_<|.on ?_<|.nil)
        ·refine .put 30 z z fun _ _ hE h=>.extract (hE.op z) z z<|h _ _ (.same<|.same<|.same<|.nil)<|.node (.on ?_<|.nil)
         ·exact .act z fun _ _ hE h=>.storeP 5 (Fld.self _) (hE.op z) z (hE.op z) aM<|h _ (.same<|.same<|.same<|.nil)<|.leaf<|fj (hj1 _ _ _ _ _)
        ·refine .act z fun _ _ hE h=>.storeP 5 (Fld.self _) (hE.op z) z (hE.op z) aM<|h _ (.same<|.same<|.same<|.nil)<|.node (.on ?_<|.nil)
         ·exact .put 30 z z fun _ _ hE h=>.extract (hE.op z) z z<|h _ _ (.same<|.same<|.same<|.nil)<|.leaf<|fj (hj1 _ _ _ _ _)
      ·refine .put 30 z z fun _ _ hE h=>.extract (hE.op z) z z<|h _ _ (.same<|.same<|.same<|.nil)<|.node (.on ?_<|.on ?_<|.off (by kernel_rfl)<|.nil)
       ·refine .put 29 z z fun _ _ hE h=>.extract (hE.op z) z z<|h _ _ (.same<|.same<|.same<|.nil)<|.node (.on ?_<|.off (by kernel_rfl)<|.nil)
        ·refine .put 9 z z fun _ _ hE h=>.alloc tTableA a6 [] cv z fun b25=>.toEnd<|h _ _ (.same<|.same<|.same<|.nil)<|.node (.on ?_<|.nil)
         ·exact .act z fun _ _ hE h=>.storeP 5 (Fld.self _) (hE.op z) z (hE.op z) aM<|h _ (.same<|.same<|.same<|.nil)<|.leaf<|fj (hj1 _ _ _ _ _)
       ·refine .put 9 z z fun _ _ hE h=>.alloc tTableA a6 [] cv z fun b25=>.toEnd<|h _ _ (.same<|.same<|.same<|.nil)<|.node (.on ?_<|.off (by kernel_rfl)<|.nil)
        ·refine .put 29 z z fun _ _ hE h=>.extract (hE.op z) z z<|h _ _ (.same<|.same<|.same<|.nil)<|.node (.on ?_<|.nil)
         ·exact .act z fun _ _ hE h=>.storeP 5 (Fld.self _) (hE.op z) z (hE.op z) aM<|h _ (.same<|.same<|.same<|.nil)<|.leaf<|fj (hj1 _ _ _ _ _)
      ·refine .put 9 z z fun _ _ hE h=>.alloc tTableA a6 [] cv z fun b25=>.toEnd<|h _ _ (.same<|.same<|.same<|.nil)<|.node (.on ?_<|.on ?_<|.off (by kernel_rfl)<|.nil)
       ·refine .put 29 z z fun _ _ hE h=>.extract (hE.op z) z z<|h _ _ (.same<|.same<|.same<|.nil)<|.node (.on ?_<|.on ?_<|.nil)
        ·refine .put 30 z z fun _ _ hE h=>.extract (hE.op z) z z<|h _ _ (.same<|.same<|.same<|.nil)<|.node (.on ?_<|.nil)
         ·exact .act z fun _ _ hE h=>.storeP 5 (Fld.self _) (hE.op z) z (hE.op z) aM<|h _ (.same<|.same<|.same<|.nil)<|.leaf<|fj (hj1 _ _ _ _ _)
        ·refine .act z fun _ _ hE h=>.storeP 5 (Fld.self _) (hE.op z) z (hE.op z) aM<|h _ (.same<|.same<|.same<|.nil)<|.node (.on ?_<|.nil)
         ·exact .put 30 z z fun _ _ hE h=>.extract (hE.op z) z z<|h _ _ (.same<|.same<|.same<|.nil)<|.leaf<|fj (hj1 _ _ _ _ _)
       ·refine .put 30 z z fun _ _ hE h=>.extract (hE.op z) z z<|h _ _ (.same<|.same<|.same<|.nil)<|.node (.on ?_<|.off (by kernel_rfl)<|.nil)
        ·refine .put 29 z z fun _ _ hE h=>.extract (hE.op z) z z<|h _ _ (.same<|.same<|.same<|.nil)<|.node (.on ?_<|.nil)
         ·exact .act z fun _ _ hE h=>.storeP 5 (Fld.self _) (hE.op z) z (hE.op z) aM<|h _ (.same<|.same<|.same<|.nil)<|.leaf<|fj (hj1 _ _ _ _ _)
     ·refine .put 9 z z fun _ _ hE h=>.alloc tTableA a6 [] cv z fun b25=>.toEnd<|h _ _ (.same<|.same<|.same<|.nil)<|.node (.on ?_<|.off (by kernel_rfl)<|.off (by kernel_rfl)<|.off (by kernel_rfl)<|.nil)
      ·refine .put 19 z z fun _ _ hE h=>.m (hE.op z) z<|h _ _ (.same<|.same<|.same<|.nil)<|.node (.on ?_<|.on ?_<|.off (by kernel_rfl)<|.nil)
       ·refine .put 29 z z fun _ _ hE h=>.extract (hE.op z) z z<|h _ _ (.same<|.same<|.same<|.nil)<|.node (.on ?_<|.on ?_<|.nil)
        ·refine .put 30 z z fun _ _ hE h=>.extract (hE.op z) z z<|h _ _ (.same<|.same<|.same<|.nil)<|.node (.on ?_<|.nil)
         ·exact .act z fun _ _ hE h=>.storeP 5 (Fld.self _) (hE.op z) z (hE.op z) aM<|h _ (.same<|.same<|.same<|.nil)<|.leaf<|fj (hj1 _ _ _ _ _)
        ·refine .act z fun _ _ hE h=>.storeP 5 (Fld.self _) (hE.op z) z (hE.op z) aM<|h _ (.same<|.same<|.same<|.nil)<|.node (.on ?_<|.nil)
         ·exact .put 30 z z fun _ _ hE h=>.extract (hE.op z) z z<|h _ _ (.same<|.same<|.same<|.nil)<|.leaf<|fj (hj1 _ _ _ _ _)
       ·refine .put 30 z z fun _ _ hE h=>.extract (hE.op z) z z<|h _ _ (.same<|.same<|.same<|.nil)<|.node (.on ?_<|.off (by kernel_rfl)<|.nil)
        ·refine .put 29 z z fun _ _ hE h=>.extract (hE.op z) z z<|h _ _ (.same<|.same<|.same<|.nil)<|.node (.on ?_<|.nil)
         ·exact .act z fun _ _ hE h=>.storeP 5 (Fld.self _) (hE.op z) z (hE.op z) aM<|h _ (.same<|.same<|.same<|.nil)<|.leaf<|fj (hj1 _ _ _ _ _)
    ·refine .put 9 z z fun _ _ hE h=>.alloc tTableA a6 [] cv z fun b25=>.toEnd<|h _ _ (.same<|.same<|.same<|.nil)<|.node (.on ?_<|.off (by kernel_rfl)<|.off (by kernel_rfl)<|.off (by kernel_rfl)<|.off (by kernel_rfl)<|.nil)
     ·refine .put 28 z z fun _ _ hE h=>.bindE2 h11 (fun r h=>.callS 3 (c72 fu _ _ _ _) z n72 (hE.ops z) z h) fun p24=>h _ _ (.same<|.same<|.same<|.nil)<|.node (.on ?_<|.off (by kernel_rfl)<|.off (by kernel_rfl)<|.off (by kernel_rfl)<|.nil)
      ·refine .put 19 z z fun _ _ hE h=>.m (hE.op z) z<|h _ _ (.same<|.same<|.same<|.nil)<|.node (.on ?_<|.on ?_<|.off (by kernel_rfl)<|.nil)
       ·refine .put 29 z z fun _ _ hE h=>.extract (hE.op z) z z<|h _ _ (.same<|.same<|.same<|.nil)<|.node (.on ?_<|.on ?_<|.nil)
        ·refine .put 30 z z fun _ _ hE h=>.extract (hE.op z) z z<|h _ _ (.same<|.same<|.same<|.nil)<|.node (.on ?_<|.nil)
         ·exact .act z fun _ _ hE h=>.storeP 5 (Fld.self _) (hE.op z) z (hE.op z) aM<|h _ (.same<|.same<|.same<|.nil)<|.leaf<|fj (hj1 _ _ _ _ _)
        ·refine .act z fun _ _ hE h=>.storeP 5 (Fld.self _) (hE.op z) z (hE.op z) aM<|h _ (.same<|.same<|.same<|.nil)<|.node (.on ?_<|.nil)
         ·exact .put 30 z z fun _ _ hE h=>.extract (hE.op z) z z<|h _ _ (.same<|.same<|.same<|.nil)<|.leaf<|fj (hj1 _ _ _ _ _)
       ·refine .put 30 z z fun _ _ hE h=>.extract (hE.op z) z z<|h _ _ (.same<|.same<|.same<|.nil)<|.node (.on ?_<|.off (by kernel_rfl)<|.nil)
        ·refine .put 29 z z fun _ _ hE h=>.extract (hE.op z) z z<|h _ _ (.same<|.same<|.same<|.nil)<|.node (.on ?_<|.nil)
         ·exact .act z fun _ _ hE h=>.storeP 5 (Fld.self _) (hE.op z) z (hE.op z) aM<|h _ (.same<|.same<|.same<|.nil)<|.leaf<|fj (hj1 _ _ _ _ _)
   ·refine .put 9 z z fun _ _ hE h=>.alloc tTableA a6 [] cv z fun b25=>.toEnd<|h _ _ (.same<|.same<|.same<|.nil)<|.node (.on ?_<|.off (by kernel_rfl)<|.off (by kernel_rfl)<|.off (by kernel_rfl)<|.off (by kernel_rfl)<|.off (by kernel_rfl)<|.nil)
    ·refine .put 26 z z fun _ _ hE h=>.bindE2 h10 (fun r h=>.callL0 (c42 fu _) n42 (hE.ops z) z h) fun p22=>.toEnd<|.toEnd<|h _ _ (.same<|.same<|.same<|.nil)<|.node (.on ?_<|.off (by kernel_rfl)<|.off (by kernel_rfl)<|.off (by kernel_rfl)<|.off (by kernel_rfl)<|.nil)
     ·refine .put 28 z z fun _ _ hE h=>.bindE2 h11 (fun r h=>.callS 4 (c72 fu _ _ _ _) z n72 (hE.ops z) z h) fun p24=>h _ _ (.same<|.same<|.same<|.nil)<|.node (.on ?_<|.off (by kernel_rfl)<|.off (by kernel_rfl)<|.off (by kernel_rfl)<|.nil)
      ·refine .put 19 z z fun _ _ hE h=>.m (hE.op z) z<|h _ _ (.same<|.same<|.same<|.nil)<|.node (.on ?_<|.on ?_<|.off (by kernel_rfl)<|.nil)
       ·refine .put 29 z z fun _ _ hE h=>.extract (hE.op z) z z<|h _ _ (.same<|.same<|.same<|.nil)<|.node (.on ?_<|.on ?_<|.nil)
        ·refine .put 30 z z fun _ _ hE h=>.extract (hE.op z) z z<|h _ _ (.same<|.same<|.same<|.nil)<|.node (.on ?_<|.nil)
         ·exact .act z fun _ _ hE h=>.storeP 3 (Fld.self _) (hE.op z) z (hE.op z) aM<|h _ (.same<|.same<|.same<|.nil)<|.leaf<|.pick [0,0,0,1,1,0] z<|fj (hj1 _ _ _ _ _)
        ·refine .act z fun _ _ hE h=>.storeP 3 (Fld.self _) (hE.op z) z (hE.op z) aM<|h _ (.same<|.same<|.same<|.nil)<|.node (.on ?_<|.nil)
         ·exact .put 30 z z fun _ _ hE h=>.extract (hE.op z) z z<|h _ _ (.same<|.same<|.same<|.nil)<|.leaf<|.pick [0,0,0,1,1,0] z<|fj (hj1 _ _ _ _ _)
       ·refine .put 30 z z fun _ _ hE h=>.extract (hE.op z) z z<|h _ _ (.same<|.same<|.same<|.nil)<|.node (.on ?_<|.off (by kernel_rfl)<|.nil)
        ·refine .put 29 z z fun _ _ hE h=>.extract (hE.op z) z z<|h _ _ (.same<|.same<|.same<|.nil)<|.node (.on ?_<|.nil)
         ·exact .act z fun _ _ hE h=>.storeP 3 (Fld.self _) (hE.op z) z (hE.op z) aM<|h _ (.same<|.same<|.same<|.nil)<|.leaf<|.pick [0,0,0,1,1,0] z<|fj (hj1 _ _ _ _ _)
def se (fu:Nat)(a0:ac)(a1:List UInt8)(a2:List Set):Option (ac×Int):=(f1062 fu a0 a1).bind fun q3=>cond (decide (q3<0)) (some (a0,5)) (cond (decide (0≤q3)&&decide (q3 < (a0.tabs.length:Int))) ((f42 fu ((a0.tabs.getD q3.toNat default).table)).bind fun q4=>(f65 fu q4 a2).bind fun q6=>(sb fu a0 q3 q6.1 q6.2).bind fun q9=>some (q9.1,q9.2)) none)
theorem n1109:Nm prog 172:=⟨_,_,func172,by kernel_rfl,z⟩
theorem c1109 (fu:Nat)(a0:ac)(a1:List UInt8)(a2:List Set):Ctr prog 172 [tBase.va a0,isS a1,(tL tSet).va a2] [] (se fu a0 a1 a2) (fun _ _=>[]) (fun q=>tup [tBase.va q.1,isI .i64 q.2]):=by
 refine .w func172 ntmps172 fun hf A w=>?_
 unfold se
 refine .s<|.box (T:=tBase) z z fun b1=>.alloc tBaseA ax [] aA z fun b2=>.an z z<|.s<|go ?_
 refine .call0 (c1062 fu _ _) n1062 z z fun q3=>.an z z<|.seq<|.s<|go ?_
 refine .cd z ?_ ?_
 ·refine .s<|go ?_
  exact .storeW 0 z z z z ty1026<|fr
 ·refine .skip<|.s<|go ?_
  refine .callL0 (c42 fu _) n42 z z fun q4 p5=>.m z z<|.callS 0 (c65 fu _ _ _ _) z n65 z z fun q6 p7=>go ?_
  refine .alloc tTableA a6 [] cv z fun b8=>go ?_
  refine .seq<|.frzBox 0 1 bp z z<|.g<|go ?_
  refine .call0 (c1163 fu _ _ _ _) n1163 z z fun q9=>go ?_
  exact .storeW 3 z z z z ty1026<|fr
end Go.Proofs.YtganfdhmkdehlaaGreatDoor
