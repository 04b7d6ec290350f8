/- Functions of the program: what each answers, and that the machine answers so. -/
import Derived.Test.YtdpigighgmipfaaGreatDoorQ1005A11
import Derived.Test.YtdpigighgmipfaaGreatDoorQ1005AU
import Derived.KernelRfl
set_option linter.all false
namespace Go.Proofs.YtdpigighgmipfaaGreatDoor
open Go Go.HL Tryz
attribute [local irreducible] W WO
def f75 (fu:Nat)(a0:Table)(a1:Int)(a2:List Set):Option (Table×Int):=(f48 fu a0 a1).bind fun q3=>cond (decide (q3<0)) ((f80 fu a0).bind fun q4=>some (q4,5)) ((f66 fu a0).bind fun q6=>(f80 fu a0).bind fun q7=>cond (decide (0≤q3)&&decide (q3 < (a0.rows.length:Int))) ((f49 fu a0 (a0.rows.getD q3.toNat default)).bind fun q10=>(f99 fu q6 q10 a2).bind fun q12=>cond (!q12.1) ((f80 fu a0).bind fun q13=>some (q13,1)) (cond (decide (0≤q3)&&decide (q3 < (q7.rows.length:Int))) ((f58 fu q6 q12.2).bind fun q15=>cond (!q15) ((f80 fu a0).bind fun q16=>some (q16,2)) ((f59 fu (⟨q7.first,q7.changes,q7.rows.set q3.toNat (⟨a1,(a0.changes.length:Int),q12.2⟩:Row),q7.next⟩:Table)).bind fun q18=>cond (!q18) ((f80 fu a0).bind fun q19=>some (q19,3)) (some ((⟨q7.first,q7.changes,q7.rows.set q3.toNat (⟨a1,(a0.changes.length:Int),q12.2⟩:Row),q7.next⟩:Table),0)))) none)) none)
theorem n75:Nm prog 90:=⟨_,_,func90,by kernel_rfl,z⟩
theorem c75 (fu:Nat)(a0:Table)(a1:Int)(a2:List Set):Ctr prog 90 [tTable.va a0,isI .i64 a1,(tL tSet).va a2] [] (f75 fu a0 a1 a2) (fun _ _=>[]) (fun q=>tup [tTable.va q.1,isI .i64 q.2]):=by
 refine .w func90 ntmps90 fun hf A w=>?_
 unfold f75
 refine .s<|.box (T:=tTable) z z fun b1=>.alloc tTableA d0A27 [] zA27 z fun b2=>.an z z<|.s<|go ?_
 refine .call0 (c48 fu _ _) n48 z z fun q3=>.an z z<|.seq<|.s<|go ?_
 refine .cd z ?_ ?_
 ·refine .s<|go ?_
  refine .callL0 (c80 fu _) n80 z z fun q4 p5=>go ?_
  exact .frzBox 2 0 conv27 z z<|fr
 ·refine .skip<|.s<|go ?_
  refine .call0 (c66 fu _) n66 z z fun q6=>.an z z<|.s<|go ?_
  refine .callL0 (c80 fu _) n80 z z fun q7 p8=>.alloc tTableA d0A27 [] zA27 z fun b9=>go ?_
  refine .seq<|.pT fun h1=>.draw 6 [] mix (by kernel_rfl) sts z<|.callL0 (c49 fu _ _) n49 z z fun q10 v11=>.unRaw 29 z<|.an z z<|.seq<|.s<|go ?_
  refine .call1 0 (c99 fu _ _ _ _) z n99 z z fun q12=>.not z z<|.nil<|.cd z ?_ ?_
  ·refine .s<|go ?_
   refine .callL0 (c80 fu _) n80 z z fun q13 p14=>go ?_
   exact .frzBox 6 0 conv27 z z<|fr
  ·refine .skip<|.s<|go ?_
   refine .frz 0 11 z z<|.also 44 11 z z<|go ?_
   refine .seq<|.block<|.s<|go ?_
   refine .call0 (c58 fu _ _) n58 z z fun q15=>go ?_
   refine .cd z ?_ ?_
   ·refine .s<|go ?_
    refine .callL0 (c80 fu _) n80 z z fun q16 p17=>go ?_
    exact .frzBox 6 0 conv27 z z<|fr
   ·refine .seq<|.frzBox 1 2 conv27 z z<|.g<|go ?_
    refine .call0 (c59 fu _) n59 z z fun q18=>go ?_
    refine .cd z ?_ ?_
    ·refine .s<|go ?_
     refine .callL0 (c80 fu _) n80 z z fun q19 p20=>go ?_
     exact .frzBox 6 0 conv27 z z<|fr
    ·refine .skip<|.inBlock<|.s<|go ?_
     exact .storeW 4 z z z z ty27<|fr
end Go.Proofs.YtdpigighgmipfaaGreatDoor
/- Functions of the program: what each answers, and that the machine answers so. -/
namespace Go.Proofs.YtdpigighgmipfaaGreatDoor
open Go Go.HL Tryz
attribute [local irreducible] W WO
def f34_l1 (fu:Nat)(a0:Table)(i5:Table):Nat→Int→(List Row)→Option Table
 | 0,_,_=>none
 | n1+1,i7,i8=>cond (decide (i7 < (a0.rows.length:Int))) (cond (decide (0≤i7)&&decide (i7 < (a0.rows.length:Int))) ((f49 fu a0 (a0.rows.getD i7.toNat default)).bind fun q10=>cond (decide (0≤i7)&&decide (i7 < (i8.length:Int))) ((f34_l1 fu a0 i5 n1) (IntKind.i64.wrap (i7+1)) (i8.set i7.toNat (⟨(a0.rows.getD i7.toNat default).id,0,q10⟩:Row))) none) none) (some (⟨i5.first,i5.changes,i8,i5.next⟩:Table))
def f34_j1 (fu:Nat)(a0:Table)(i5:Table):Option Table:=f34_l1 fu a0 i5 fu 0 i5.rows
def f34 (fu:Nat)(a0:Table):Option Table:=(f19 fu a0).bind fun q3=>cond (!q3) (some (⟨([]:List Col),([]:List Change),([]:List Row),(0:Int)⟩:Table)) ((f66 fu a0).bind fun q12=>(f77 a0.rows).bind fun q13=>f34_j1 fu a0 (⟨q12,([]:List Change),q13,a0.next⟩:Table))
theorem n34:Nm prog 30:=⟨_,_,func30,by kernel_rfl,z⟩
theorem c34 (fu:Nat)(a0:Table):Ctr prog 30 [tTable.va a0] [] (f34 fu a0) (fun _ _=>[]) (fun q=>tTable.va q):=by
 refine .w func30 ntmps30 fun hf A w=>?_
 unfold f34
 refine .s<|.box (T:=tTable) z z fun b1=>.alloc tTableA d0A27 [] zA27 z fun b2=>.nil<|.seq<|.s<|go ?_
 refine .call0 (c19 fu _) n19 z z fun q3=>.not z z<|.nil<|.cd z ?_ ?_
 ·exact .s<|.buildA z st27 zA27 (.nil) z<|.storeP 0 (Fld.self _) z z z ty27<|.arrNil tRow<|.nil<|.frzBox 1 0 conv27 z z<|fr
 ·refine .skip<|.seq<|.join3 (fun b4 i5 v6=>⟨[(1,isP b1 0,none),(2,isP b2 0,none),(3,isP b4 0,none)],[boxO b2 tTableA (⟨([]:List Col),((.slice none 0 0),([]:List Change)),(.slice none 0 0),(0:Int)⟩:TableA) [],boxO b1 tTable a0 [],arrO tRow v6 i5.rows,boxO b4 tTableA (⟨i5.first,((.slice none 0 0),i5.changes),v6,i5.next⟩:TableA) []]⟩) (fun b4 i5 v6=>f34_j1 fu a0 i5) (fun b4 i5 v6=>?_) (fun hj1=>?_)
  ·refine .seq<|.s<|go ?_
   refine .block<|.loop<|.keep [1,2,3,19,20,21] [] z<|(show ∀ (n1:Nat) (i7:Int) (i8:List Row),W _ _ _ _ _ ⟨[(1,isP b1 0,none),(2,isP b2 0,none),(3,isP b4 0,none),(19,(tL tRow).va a0.rows,none),(20,isI .i64 (a0.rows.length:Int),none),(21,isI .i64 i7,none)],[boxO b2 tTableA (⟨([]:List Col),((.slice none 0 0),([]:List Change)),(.slice none 0 0),(0:Int)⟩:TableA) [],boxO b1 tTable a0 [],arrO tRow v6 i8,boxO b4 tTableA (⟨i5.first,((.slice none 0 0),i5.changes),v6,i5.next⟩:TableA) []]⟩ (f34_l1 fu a0 i5 n1 i7 i8) from ?_) fu _ _
   intro n1
   induction n1 with
   | zero=>exact fun _ _=>.stop
   | succ n1 ih1=>
    intro i7 i8
    refine .inLoop<|.s<|go ?_
    refine .seq<|.cd z ?_ ?_
    ·refine .skip<|.seq<|.block<|.s<|go ?_
     refine .alloc tRow d0_37 [] z37 z fun b9=>go ?_
     exact .pb (CtrL.plain (c49 fu _ _)) n49 fun q10 h2 k=>.draw 9 [] mix (by kernel_rfl) sts z<|fj (ih1 _ _)
    ·refine .exit z<|.s<|go ?_
     exact .frzBox 0 2 conv27 z z<|fr
  ·refine .pbind fun q12 h3=>.pbind fun q13 h4=>.drawF 9 [] [4,7] (some 8) [] mix (by kernel_rfl) (.k (fun p e=>.lp 1 (Fld.self _) (e.op z) (p.get z z) ty27 z)<|.k (fun p e h=>.bindE h3 (fun r h=>.call0 (c66 fu _) n66 (e.ops z) z h)<|h)<|.j (fun o=>.fp (o z) fa27_2 z)<|.k (fun p e=>.lp 1 fTable_2 (e.op z) (p.get z z) ty25 z)<|.skip<|.j (fun o=>.fp (o z) fa27_3 z)<|.k (fun p e=>.lp 1 fTable_3 (e.op z) (p.get z z) ty3 z)<|.skip<|.skip<|.nil) z<|.next ?_ ?_
   ·refine .put 14 z z fun _ _ hE h=>.bindE2 h4 (fun r h=>.callL0 (c77 _) n77 (hE.ops z) z h) fun v14=>.toEnd<|h _ _ (.same<|.same<|.nil)<|.next ?_ ?_
    ·exact .put 17 z z fun _ _ hE h=>.buildA z st27 zA27 (.cons fTableA_0 z (vOf (hE.op z))<|.cons fTableA_2 z (vOf (hE.op z))<|.cons fTableA_3 z (vOf (hE.op z))<|.nil) z<|h _ _ (.same<|.same<|.nil)<|.last<|.put 3 z z fun _ _ hE h=>.alloc tTableA d0A27 [] zA27 z fun b11=>.toEnd<|h _ _ (.same<|.same<|.nil)<|fj (hj1 _ _ _)
    ·exact .put 3 z z fun _ _ hE h=>.alloc tTableA d0A27 [] zA27 z fun b11=>.toEnd<|h _ _ (.same<|.same<|.nil)<|.cons (d:=17) z z fun _ _ hE h=>.buildA z st27 zA27 (.cons fTableA_0 z (vOf (hE.op z))<|.cons fTableA_2 z (vOf (hE.op z))<|.cons fTableA_3 z (vOf (hE.op z))<|.nil) z<|h _ _ (.same<|.same<|.nil)<|fj (hj1 _ _ _)
   ·exact .put 3 z z fun _ _ hE h=>.alloc tTableA d0A27 [] zA27 z fun b11=>.toEnd<|h _ _ (.same<|.same<|.nil)<|.cons (d:=14) z z fun _ _ hE h=>.bindE2 h4 (fun r h=>.callL0 (c77 _) n77 (hE.ops z) z h) fun v14=>.toEnd<|h _ _ (.same<|.same<|.nil)<|.cons (d:=17) z z fun _ _ hE h=>.buildA z st27 zA27 (.cons fTableA_0 z (vOf (hE.op z))<|.cons fTableA_2 z (vOf (hE.op z))<|.cons fTableA_3 z (vOf (hE.op z))<|.nil) z<|h _ _ (.same<|.same<|.nil)<|.nil<|.pick [0,0,1,0] z<|fj (hj1 _ _ _)
end Go.Proofs.YtdpigighgmipfaaGreatDoor
