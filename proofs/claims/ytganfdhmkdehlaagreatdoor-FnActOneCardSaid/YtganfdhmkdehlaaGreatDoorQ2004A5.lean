/- Functions of the program: what each answers, and that the machine answers so. -/
import Derived.Test.YtganfdhmkdehlaaGreatDoorQ2004A4
import Derived.KernelRfl
set_option linter.all false
namespace Go.Proofs.YtganfdhmkdehlaaGreatDoor
open Go Go.HL Tryz
attribute [local irreducible] W WO
def jz (i13:aa)(i14:Rd):Option (aa×Rd):=some (i13,i14)
def hY (fu:Nat)(i10:aa)(i11:Rd):Option (aa×Rd):=(f74 fu i11 50).bind fun q12=>cond (decide (q12.1=0)) ((f73 fu q12.2 ([0,5,-1,2]:List Int)).bind fun q15=>jz ({ i10 with kind:=q15.1 }:aa) q15.2) (cond (decide (q12.1=1)) ((f96 fu q12.2 ([([]:List UInt8),([65]:List UInt8),([97,98,99,100]:List UInt8),([97]:List UInt8)]:List (List UInt8))).bind fun q16=>jz ({ i10 with name:=q16.1 }:aa) q16.2) (cond (decide (q12.1=2)) ((f96 fu q12.2 ([([113]:List UInt8),([65]:List UInt8),([97,98,99,100]:List UInt8)]:List (List UInt8))).bind fun q17=>jz ({ i10 with new:=q17.1 }:aa) q17.2) (cond (decide (q12.1=3)) ((f73 fu q12.2 ([0,3,1]:List Int)).bind fun q18=>jz ({ i10 with col:=({ i10.col with kind:=q18.1 }:Col) }:aa) q18.2) (cond (decide (q12.1=4)) (jz ({ i10 with col:=({ i10.col with need:=!i10.col.need }:Col) }:aa) q12.2) (jz i10 q12.2)))))
def my (fu:Nat)(i6:List UInt8)(q8:Int×Rd)(q21:Col×Rd)(i22:Bool)(i23:Rd):Option (aa×Rd):=cond i22 (hY fu ({ ({ ({ (⟨IntKind.i64.wrap (1+q8.1),i6,d0_56.new,d0_56.col⟩:aa) with name:=([]:List UInt8) }:aa) with col:=q21.1 }:aa) with col:=({ ({ ({ (⟨IntKind.i64.wrap (1+q8.1),i6,d0_56.new,d0_56.col⟩:aa) with name:=([]:List UInt8) }:aa) with col:=q21.1 }:aa).col with need:=false }:Col) }:aa) i23) (hY fu ({ ({ (⟨IntKind.i64.wrap (1+q8.1),i6,d0_56.new,d0_56.col⟩:aa) with name:=([]:List UInt8) }:aa) with col:=q21.1 }:aa) i23)
def oI (fu:Nat)(a1:List Col)(i6:List UInt8)(q8:Int×Rd)(q26:Int×Rd)(q27:Int)(i28:Bool)(i29:Rd):Option (aa×Rd):=cond i28 (cond (decide (0≤q27)&&decide (q27 < (a1.length:Int))) (hY fu ({ ({ (⟨IntKind.i64.wrap (1+q8.1),i6,d0_56.new,d0_56.col⟩:aa) with col:=({ (⟨IntKind.i64.wrap (1+q8.1),i6,d0_56.new,d0_56.col⟩:aa).col with kind:=IntKind.i64.wrap (1+q26.1) }:Col) }:aa) with col:=({ ({ (⟨IntKind.i64.wrap (1+q8.1),i6,d0_56.new,d0_56.col⟩:aa) with col:=({ (⟨IntKind.i64.wrap (1+q8.1),i6,d0_56.new,d0_56.col⟩:aa).col with kind:=IntKind.i64.wrap (1+q26.1) }:Col) }:aa).col with kind:=IntKind.i64.wrap (3 - ((a1.getD q27.toNat default).kind)) }:Col) }:aa) i29) none) (hY fu ({ (⟨IntKind.i64.wrap (1+q8.1),i6,d0_56.new,d0_56.col⟩:aa) with col:=({ (⟨IntKind.i64.wrap (1+q8.1),i6,d0_56.new,d0_56.col⟩:aa).col with kind:=IntKind.i64.wrap (1+q26.1) }:Col) }:aa) i29)
def oJ (fu:Nat)(a1:List Col)(i6:List UInt8)(i7:Rd):Option (aa×Rd):=(f74 fu i7 4).bind fun q8=>cond (decide (((⟨IntKind.i64.wrap (1+q8.1),i6,d0_56.new,d0_56.col⟩:aa).kind)=1)) ((vj).bind fun q19=>(f96 fu q8.2 q19).bind fun q20=>(zI fu q20.2 q20.1).bind fun q21=>cond ((({ ({ (⟨IntKind.i64.wrap (1+q8.1),i6,d0_56.new,d0_56.col⟩:aa) with name:=([]:List UInt8) }:aa) with col:=q21.1 }:aa).col).need) (cond (decide ((((({ ({ (⟨IntKind.i64.wrap (1+q8.1),i6,d0_56.new,d0_56.col⟩:aa) with name:=([]:List UInt8) }:aa) with col:=q21.1 }:aa).col).def_).kind)=0)) ((f74 fu q21.2 4).bind fun q24=>my fu i6 q8 q21 (decide (0<q24.1)) q24.2) (my fu i6 q8 q21 false q21.2)) (my fu i6 q8 q21 false q21.2)) (cond (decide (((⟨IntKind.i64.wrap (1+q8.1),i6,d0_56.new,d0_56.col⟩:aa).kind)=3)) ((f96 fu q8.2 ([([97]:List UInt8),([98]:List UInt8),([99]:List UInt8),([100]:List UInt8),([101]:List UInt8),([120]:List UInt8),([121,121]:List UInt8)]:List (List UInt8))).bind fun q25=>hY fu ({ (⟨IntKind.i64.wrap (1+q8.1),i6,d0_56.new,d0_56.col⟩:aa) with new:=q25.1 }:aa) q25.2) (cond (decide (((⟨IntKind.i64.wrap (1+q8.1),i6,d0_56.new,d0_56.col⟩:aa).kind)=4)) ((f74 fu q8.2 2).bind fun q26=>(f108 fu a1 i6).bind fun q27=>cond (decide (0≤q27)) ((f74 fu q26.2 6).bind fun q30=>oI fu a1 i6 q8 q26 q27 (decide (0<q30.1)) q30.2) (oI fu a1 i6 q8 q26 q27 false q26.2)) (hY fu (⟨IntKind.i64.wrap (1+q8.1),i6,d0_56.new,d0_56.col⟩:aa) q8.2)))
def oK (fu:Nat)(a1:List Col)(q3:(List UInt8)×Rd)(i4:Bool)(i5:Rd):Option (aa×Rd):=cond i4 ((f74 fu i5 (a1.length:Int)).bind fun q31=>cond (decide (0≤q31.1)&&decide (q31.1 < (a1.length:Int))) (oJ fu a1 ((a1.getD q31.1.toNat default).name) q31.2) none) (oJ fu a1 q3.1 i5)
def f70 (fu:Nat)(a0:Rd)(a1:List Col):Option (aa×Rd):=(vj).bind fun q2=>(f96 fu a0 q2).bind fun q3=>cond (decide (0 < (a1.length:Int))) ((f74 fu q3.2 6).bind fun q32=>oK fu a1 q3 (decide (0<q32.1)) q32.2) (oK fu a1 q3 false q3.2)
theorem n70:Nm prog 95:=⟨_,_,func95,by kernel_rfl,z⟩
theorem c70 (fu:Nat)(bp0:Nat)(a0:Rd)(a1:List Col):Ctr prog 95 [isP bp0 0,(tL tCol).va a1] [boxO bp0 tRd a0 []] (f70 fu a0 a1) (fun q _=>[boxO bp0 tRd q.2 []]) (fun q=>tChange.va q.1):=by
 refine .w func95 ntmps95 fun hf A w=>?_
 unfold f70
 refine .s<|.alloc tChange d0_56 [] z56 z fun b1=>.nil<|.s<|.m z z<|.call0 (c106) n106 z z fun q2=>.call1 1 (c96 fu _ _ _) z n96 z z fun q3=>.an z z<|.seq<|.seq<|.join2 (fun i4 i5=>⟨[(0,isP bp0 0,none),(1,(tL tCol).va a1,none),(4,isP b1 0,none),(5,isS q3.1,none),(18,isB i4,none)],[boxO b1 tChange d0_56 [],boxO bp0 tRd i5 []]⟩) (fun i4 i5=>oK fu a1 q3 i4 i5) (fun i4 i5=>?_) (fun hj1=>?_)
 ·refine .join2 (fun i6 i7=>⟨[(0,isP bp0 0,none),(1,(tL tCol).va a1,none),(4,isP b1 0,none),(5,isS i6,none)],[boxO b1 tChange d0_56 [],boxO bp0 tRd i7 []]⟩) (fun i6 i7=>oJ fu a1 i6 i7) (fun i6 i7=>?_) (fun hj2=>?_)
  ·refine .s<|.m z z<|.call1 1 (c74 fu _ _ _) z n74 z z fun q8=>go ?_
   refine .alloc tChange d0_56 [] z56 z fun b9=>go ?_
   refine .seq<|.s<|go ?_
   refine .block<|.s<|go ?_
   refine .join2 (fun i10 i11=>⟨[(0,isP bp0 0,none),(4,isP b1 0,none),(6,isP b9 0,none)],[boxO b9 tChange i10 [],boxO b1 tChange d0_56 [],boxO bp0 tRd i11 []]⟩) (fun i10 i11=>hY fu i10 i11) (fun i10 i11=>?_) (fun hj3=>?_)
   ·refine .inBlock<|.seq<|.s<|.m z z<|.call1 2 (c74 fu _ _ _) z n74 z z fun q12=>.nil<|.block<|.s<|go ?_
    refine .join2 (fun i13 i14=>⟨[(4,isP b1 0,none),(6,isP b9 0,none)],[boxO b9 tChange i13 [],boxO b1 tChange d0_56 [],boxO bp0 tRd i14 []]⟩) (fun i13 i14=>jz i13 i14) (fun i13 i14=>?_) (fun hj4=>?_)
    ·exact fr
    ·refine .cd z ?_ ?_
     ·refine .g<|go ?_
      exact .call1 2 (c73 fu _ _ _) z n73 z z fun q15=>fj (hj4 _ _)
     ·refine .s<|go ?_
      refine .cd z ?_ ?_
      ·refine .g<|go ?_
       exact .call1 2 (c96 fu _ _ _) z n96 z z fun q16=>fj (hj4 _ _)
      ·refine .s<|go ?_
       refine .cd z ?_ ?_
       ·refine .g<|go ?_
        exact .call1 2 (c96 fu _ _ _) z n96 z z fun q17=>fj (hj4 _ _)
       ·refine .s<|go ?_
        refine .cd z ?_ ?_
        ·refine .g<|go ?_
         exact .call1 2 (c73 fu _ _ _) z n73 z z fun q18=>fj (hj4 _ _)
        ·refine .s<|go ?_
         refine .cd z ?_ ?_
         ·exact fj (hj4 _ _)
         ·exact fj (hj4 _ _)
   ·refine .cd z ?_ ?_
    ·refine .s<|go ?_
     refine .s<|go ?_
     refine .call0 (c106) n106 z z fun q19=>.call1 2 (c96 fu _ _ _) z n96 z z fun q20=>.call1 2 (c107 fu _ _ _) z n107 z z fun q21=>go ?_
     refine .seq<|.join2 (fun i22 i23=>⟨[(0,isP bp0 0,none),(4,isP b1 0,none),(6,isP b9 0,none),(57,isB i22,none)],[boxO b9 tChange ({ ({ (⟨IntKind.i64.wrap (1+q8.1),i6,d0_56.new,d0_56.col⟩:aa) with name:=([]:List UInt8) }:aa) with col:=q21.1 }:aa) [],boxO b1 tChange d0_56 [],boxO bp0 tRd i23 []]⟩) (fun i22 i23=>my fu i6 q8 q21 i22 i23) (fun i22 i23=>?_) (fun hj5=>?_)
     ·refine .cd z ?_ ?_
      ·exact fj (hj3 _ _)
      ·exact fj (hj3 _ _)
     ·refine .g<|go ?_
      refine .split 46 z (fun _=>?_) (fun _=>?_)
      ·refine go ?_
       refine .split 53 z (fun _=>?_) (fun _=>?_)
       ·refine go ?_
        exact .call1 2 (c74 fu _ _ _) z n74 z z fun q24=>fj (hj5 _ _)
       ·exact fj (hj5 _ _)
      ·exact fj (hj5 _ _)
    ·refine .s<|go ?_
     refine .cd z ?_ ?_
     ·refine .g<|go ?_
      exact .call1 2 (c96 fu _ _ _) z n96 z z fun q25=>fj (hj3 _ _)
     ·refine .s<|go ?_
      refine .cd z ?_ ?_
      ·refine .s<|.m z z<|.call1 2 (c74 fu _ _ _) z n74 z z fun q26=>go ?_
       refine .s<|go ?_
       refine .call0 (c108 fu _ _) n108 z z fun q27=>.an z z<|.seq<|.join2 (fun i28 i29=>⟨[(0,isP bp0 0,none),(1,(tL tCol).va a1,none),(4,isP b1 0,none),(6,isP b9 0,none),(7,isI .i64 q27,none),(82,isB i28,none)],[boxO b9 tChange ({ (⟨IntKind.i64.wrap (1+q8.1),i6,d0_56.new,d0_56.col⟩:aa) with col:=({ (⟨IntKind.i64.wrap (1+q8.1),i6,d0_56.new,d0_56.col⟩:aa).col with kind:=IntKind.i64.wrap (1+q26.1) }:Col) }:aa) [],boxO b1 tChange d0_56 [],boxO bp0 tRd i29 []]⟩) (fun i28 i29=>oI fu a1 i6 q8 q26 q27 i28 i29) (fun i28 i29=>?_) (fun hj6=>?_)
       ·refine .cd z ?_ ?_
        ·exact fj (hj3 _ _)
        ·exact fj (hj3 _ _)
       ·refine .g<|go ?_
        refine .split 78 z (fun _=>?_) (fun _=>?_)
        ·refine go ?_
         exact .call1 2 (c74 fu _ _ _) z n74 z z fun q30=>fj (hj6 _ _)
        ·exact fj (hj6 _ _)
      ·exact fj (hj3 _ _)
  ·refine .cd z ?_ ?_
   ·refine .g<|go ?_
    exact .call1 1 (c74 fu _ _ _) z n74 z z fun q31=>fj (hj2 _ _)
   ·exact fj (hj2 _ _)
 ·refine .g<|go ?_
  refine .split 14 z (fun _=>?_) (fun _=>?_)
  ·refine go ?_
   exact .call1 1 (c74 fu _ _ _) z n74 z z fun q32=>fj (hj1 _ _)
  ·exact fj (hj1 _ _)
def ia (a0:ab):Nat→Int→ab→Option ab
 | 0,_,_=>none
 | n1+1,i5,i6=>cond (decide (i5 < (a0.rows.length:Int))) (cond (decide (0≤i5)&&decide (i5 < (a0.rows.length:Int))) (cond (decide (0≤i5)&&decide (i5 < (a0.rows.length:Int))) (cond (decide (0≤i5)&&decide (i5 < (a0.rows.length:Int))) (cond (decide (List.length ([]:List Val)+List.length ((a0.rows.getD i5.toNat default).vals)≤CAP)) (cond (decide (i6.rows.length+List.length ([(⟨(a0.rows.getD i5.toNat default).id,(a0.rows.getD i5.toNat default).ver,([]:List Val)++((a0.rows.getD i5.toNat default).vals)⟩:Row)]:List Row)≤CAP)) ((ia a0 n1) (IntKind.i64.wrap (i5+1)) (⟨i6.first,i6.changes,i6.rows++([(⟨(a0.rows.getD i5.toNat default).id,(a0.rows.getD i5.toNat default).ver,([]:List Val)++((a0.rows.getD i5.toNat default).vals)⟩:Row)]:List Row),i6.next⟩:ab)) none) none) none) none) none) (some i6)
def f42_j1 (fu:Nat)(a0:ab):Option ab:=ia a0 fu 0 (⟨([]:List Col)++a0.first,([]:List aa)++a0.changes,([]:List Row),a0.next⟩:ab)
def f42 (fu:Nat)(a0:ab):Option ab:=cond (decide (List.length ([]:List Col)+a0.first.length≤CAP)) (cond (decide (List.length ([]:List aa)+a0.changes.length≤CAP)) (f42_j1 fu a0) none) none
theorem n42:Nm prog 120:=⟨_,_,func120,by kernel_rfl,z⟩
attribute [local semireducible] W WO
theorem c42 (fu:Nat)(a0:ab):aW prog 120 [tTable.va a0] [] (f42 fu a0) tb (fun q p=>[arrO tRow p.1 q.rows,appO 10 p.2]) (fun q p=>tTableA.va (⟨q.first,(p.2,q.changes),p.1,q.next⟩:ap)):=by
 refine aW.of_W func120 z ntmps120 z fun A w=>?_
 unfold f42
 refine .s<|.box (T:=tTable) z z fun b1=>.alloc tTableA aS [] bA z fun b2=>.nil<|.seq<|.join2 (fun b3 v4=>⟨[(1,isP b1 0,none),(2,isP b2 0,none),(3,isP b3 0,none)],[arrO tRow (.slice none 0 0) ([]:List Row),boxO b2 tTableA (⟨([]:List Col),((.slice none 0 0),([]:List aa)),(.slice none 0 0),(0:Int)⟩:ap) [],boxO b1 tTable a0 [],appO 10 v4,boxO b3 tTableA (⟨([]:List Col)++a0.first,(v4,([]:List aa)++a0.changes),(.slice none 0 0),a0.next⟩:ap) []]⟩) (fun b3 v4=>f42_j1 fu a0) (fun b3 v4=>?_) (fun hj1=>?_)
 ·refine .seq<|.s<|.an z z<|.block<|.loop<|.keep [1,2,3,4] [] z<|(show ∀ (n1:Nat) (i5:Int) (i6:ab) (v7:Value),W _ _ _ _ _ ⟨[(1,isP b1 0,none),(2,isP b2 0,none),(3,isP b3 0,none),(4,isI .i64 i5,none)],[arrO tRow v7 i6.rows,boxO b2 tTableA (⟨([]:List Col),((.slice none 0 0),([]:List aa)),(.slice none 0 0),(0:Int)⟩:ap) [],boxO b1 tTable a0 [],appO 10 v4,boxO b3 tTableA (⟨i6.first,(v4,i6.changes),v7,i6.next⟩:ap) []]⟩ (ia a0 n1 i5 i6) from ?_) fu _ _ _
  intro n1
  induction n1 with
  | zero=>exact fun _ _ _=>.stop
  | succ n1 ih1=>
   intro i5 i6 v7
   refine .inLoop<|.seq<|.s<|.m z z<|.fp z fa27_2 z<|.lp 2 fTable_2 z z ty25 z<|.lenL z u57 z<|.bin z z z z<|.nil<|.cd z ?_ ?_
   ·refine .skip<|.seq<|.block<|.pT fun h5=>?_
    refine .pT fun h6=>?_
    refine .pT fun h7=>?_
    refine .pT fun h8=>?_
    refine .drawS 24 [] [21,22,23] [] mix (by kernel_rfl) (.j (fun o=>.fp (o z) fa27_2 z)<|.k (fun p e=>.loadR 4 fTableA_2 (e.op z) (p.get z z) ty25 z)<|.j (fun o=>.fp (o z) fa27_2 z)<|.k (fun p e=>.lp 2 fTable_2 (e.op z) (p.get z z) ty25 z)<|.j (fun o=>.m (o z) z)<|.k (fun p e h=>.useC h5<|.elemAt (e.op z) (e.op z) u57 ty37 z<|h)<|.j (fun o=>.fieldAt bG (o z) bY z)<|.j (fun o=>.load (o z) ty3 z)<|.j (fun o=>.fp (o z) fa27_2 z)<|.k (fun p e=>.lp 2 fTable_2 (e.op z) (p.get z z) ty25 z)<|.j (fun o=>.m (o z) z)<|.k (fun p e h=>.useC h6<|.elemAt (e.op z) (e.op z) u57 ty37 z<|h)<|.j (fun o=>.fieldAt aZ (o z) bd z)<|.j (fun o=>.load (o z) ty3 z)<|.j (fun o=>.litE tVal u62 fk z z)<|.j (fun o=>.fp (o z) fa27_2 z)<|.k (fun p e=>.lp 2 fTable_2 (e.op z) (p.get z z) ty25 z)<|.j (fun o=>.m (o z) z)<|.k (fun p e h=>.useC h7<|.elemAt (e.op z) (e.op z) u57 ty37 z<|h)<|.j (fun o=>.fieldAt dv (o z) cS z)<|.j (fun o=>.load (o z) n9 z)<|.skip<|.skip<|.skip<|.nil) z<|.cons (d:=44) z z fun _ _ hE h=>.useC h8<|.appE (T:=tVal) (hE.op z) (hE.op z) z u62 fk z fun v8=>.toEnd<|h _ _ (.same<|.same<|.same<|.same<|.same<|.nil)<|.cons (d:=45) z z fun _ _ hE h=>.build z AI z37 (.cons bG z (hE.op z)<|.cons aZ z (hE.op z)<|.cons dv z (hE.op z)<|.nil) z<|h _ _ (.same<|.same<|.same<|.same<|.same<|.nil)<|.cons (d:=46) z z fun _ _ hE h=>.litN (T:=tRow) u57 jn z z (.cons (hE.op z)<|.nil) z<|h _ _ (.same<|.same<|.same<|.same<|.same<|.nil)<|.nil<|.appA (T:=tRow) 0 z z z u57 jn z fun v9=>.fp z fa27_2 z<|.toRaw (T:=tRow) 0 47 z z<|.storeP 4 fTableA_2 z z z ty25<|.nil ?_
    exact .inBlock<|.g<|.m z z<|.bin z z z z<|.an z z<|.keep [1,2,3,4] [] z (.drop (.d<|.d<|.d<|.d<|.d<|.c<|.e)<|ih1 _ _ _)
   ·exact .exit z<|.s<|.lp 4 (Fld.self _) z z ty27 z<|.storeP 1 (Fld.self _) z z z ty27<|.nil<|.retL1 (v7,v4) func120 results120 (.cell 1 z z ty27) z (fun _ _ _ h=>bI h) (.d<|.c<|.c<|.d<|.c<|.e)
 ·refine .pT fun h9=>?_
  refine .pT fun h10=>?_
  refine .drawF 12 [] [3,7,10] (some 11) [] mix (by kernel_rfl) (.j (fun o=>.litE tCol u36 cq z z)<|.j (fun o=>.fp (o z) fc z)<|.k (fun p e=>.lp 1 dH (e.op z) (p.get z z) sa z)<|.skip<|.j (fun o=>.litE tChange u56 jE z z)<|.j (fun o=>.fp (o z) bv z)<|.k (fun p e=>.lp 1 bp (e.op z) (p.get z z) kB z)<|.skip<|.j (fun o=>.fp (o z) gm z)<|.k (fun p e=>.lp 1 dG (e.op z) (p.get z z) ty3 z)<|.skip<|.skip<|.nil) z<|.next ?_ ?_
  ·refine .put 8 z z fun _ _ hE h=>.useC h9<|.appE (T:=tCol) (hE.op z) (hE.op z) z u36 cq z fun v11=>.toEnd<|h _ _ (.same<|.same<|.nil)<|.next ?_ ?_
   ·refine .put 12 z z fun _ _ hE h=>.useC h10<|.appE (T:=tChange) (hE.op z) (hE.op z) z u56 jE z fun v12=>.toEnd<|h _ _ (.same<|.same<|.nil)<|.next ?_ ?_
    ·exact .put 15 z z fun _ _ hE h=>.buildA z mW bA (.cons aI z (vOf (hE.op z))<|.cons az z (kOf (hE.op z))<|.cons aM z (vOf (hE.op z))<|.nil) z<|h _ _ (.same<|.same<|.nil)<|.last<|.put 3 z z fun _ _ hE h=>.alloc tTableA aS [] bA z fun b10=>.toEnd<|h _ _ (.same<|.same<|.nil)<|.nil<|.storeP 4 (Fld.self _) z z z ty27<|.arrNil tRow<|.nil<|.keep [1,2,3] [] z (.drop (.d<|.d<|.d<|.c<|.d<|.d<|.e)<|hj1 _ _)
    ·exact .put 3 z z fun _ _ hE h=>.alloc tTableA aS [] bA z fun b10=>.toEnd<|h _ _ (.same<|.same<|.nil)<|.cons (d:=15) z z fun _ _ hE h=>.buildA z mW bA (.cons aI z (vOf (hE.op z))<|.cons az z (kOf (hE.op z))<|.cons aM z (vOf (hE.op z))<|.nil) z<|h _ _ (.same<|.same<|.nil)<|.nil<|.storeP 4 (Fld.self _) z z z ty27<|.arrNil tRow<|.nil<|.keep [1,2,3] [] z (.drop (.d<|.d<|.d<|.c<|.d<|.d<|.e)<|hj1 _ _)
   ·exact .put 3 z z fun _ _ hE h=>.alloc tTableA aS [] bA z fun b10=>.toEnd<|h _ _ (.same<|.same<|.nil)<|.cons (d:=12) z z fun _ _ hE h=>.useC h10<|.appE (T:=tChange) (hE.op z) (hE.op z) z u56 jE z fun v12=>.toEnd<|h _ _ (.same<|.same<|.nil)<|.cons (d:=15) z z fun _ _ hE h=>.buildA z mW bA (.cons aI z (vOf (hE.op z))<|.cons az z (kOf (hE.op z))<|.cons aM z (vOf (hE.op z))<|.nil) z<|h _ _ (.same<|.same<|.nil)<|.nil<|.pick [0,0,0,1,0] z<|.storeP 4 (Fld.self _) z z z ty27<|.arrNil tRow<|.nil<|.keep [1,2,3] [] z (.drop (.d<|.d<|.d<|.c<|.d<|.d<|.e)<|hj1 _ _)
  ·exact .put 3 z z fun _ _ hE h=>.alloc tTableA aS [] bA z fun b10=>.toEnd<|h _ _ (.same<|.same<|.nil)<|.cons (d:=8) z z fun _ _ hE h=>.useC h9<|.appE (T:=tCol) (hE.op z) (hE.op z) z u36 cq z fun v11=>.toEnd<|h _ _ (.same<|.same<|.nil)<|.cons (d:=12) z z fun _ _ hE h=>.useC h10<|.appE (T:=tChange) (hE.op z) (hE.op z) z u56 jE z fun v12=>.toEnd<|h _ _ (.same<|.same<|.nil)<|.cons (d:=15) z z fun _ _ hE h=>.buildA z mW bA (.cons aI z (vOf (hE.op z))<|.cons az z (kOf (hE.op z))<|.cons aM z (vOf (hE.op z))<|.nil) z<|h _ _ (.same<|.same<|.nil)<|.nil<|.pick [0,0,1,1,0] z<|.storeP 4 (Fld.self _) z z z ty27<|.arrNil tRow<|.nil<|.keep [1,2,3] [] z (.drop (.d<|.d<|.d<|.c<|.d<|.d<|.e)<|hj1 _ _)
attribute [local irreducible] W WO
def f42o_l1 (a0:ab):Nat→Int→ab→Option ab
 | 0,_,_=>none
 | n1+1,i5,i6=>cond (decide (i5 < (a0.rows.length:Int))) (cond (decide (0≤i5)&&decide (i5 < (a0.rows.length:Int))) (cond (decide (0≤i5)&&decide (i5 < (a0.rows.length:Int))) (cond (decide (0≤i5)&&decide (i5 < (a0.rows.length:Int))) (cond (decide (List.length ([]:List Val)+List.length ((a0.rows.getD i5.toNat default).vals)≤CAP)) (cond (decide (i6.rows.length+List.length ([(⟨(a0.rows.getD i5.toNat default).id,(a0.rows.getD i5.toNat default).ver,([]:List Val)++((a0.rows.getD i5.toNat default).vals)⟩:Row)]:List Row)≤CAP)) ((f42o_l1 a0 n1) (IntKind.i64.wrap (i5+1)) (⟨i6.first,i6.changes,i6.rows++([(⟨(a0.rows.getD i5.toNat default).id,(a0.rows.getD i5.toNat default).ver,([]:List Val)++((a0.rows.getD i5.toNat default).vals)⟩:Row)]:List Row),i6.next⟩:ab)) none) none) none) none) none) (some i6)
def f42o_j1 (fu:Nat)(a0:ab):Option ab:=f42o_l1 a0 fu 0 (⟨([]:List Col)++a0.first,([]:List aa)++a0.changes,([]:List Row),a0.next⟩:ab)
def f42o (fu:Nat)(a0:ab):Option ab:=cond (decide (List.length ([]:List Col)+a0.first.length≤CAP)) (cond (decide (List.length ([]:List aa)+a0.changes.length≤CAP)) (f42o_j1 fu a0) none) none
attribute [local semireducible] W WO
theorem c42o (fu:Nat)(vp0:Value)(cp0:Value)(a0:ab):aW prog 120 [tTableA.va (⟨a0.first,(cp0,a0.changes),vp0,a0.next⟩:ap)] [arrO tRow vp0 a0.rows] (f42o fu a0) tb (fun q p=>[arrO tRow p.1 q.rows,appO 10 p.2]++[arrO tRow vp0 a0.rows]) (fun q p=>tTableA.va (⟨q.first,(p.2,q.changes),p.1,q.next⟩:ap)):=by
 refine aW.of_W func120 z ntmps120 z fun A w=>?_
 unfold f42o
 refine .s<|.box (T:=tTableA) z z fun b1=>.alloc tTableA aS [] bA z fun b2=>.nil<|.seq<|.join2 (fun b3 v4=>⟨[(1,isP b1 0,none),(2,isP b2 0,none),(3,isP b3 0,none)],[arrO tRow (.slice none 0 0) ([]:List Row),boxO b2 tTableA (⟨([]:List Col),((.slice none 0 0),([]:List aa)),(.slice none 0 0),(0:Int)⟩:ap) [],boxO b1 tTableA (⟨a0.first,(cp0,a0.changes),vp0,a0.next⟩:ap) [],arrO tRow vp0 a0.rows,appO 10 v4,boxO b3 tTableA (⟨([]:List Col)++a0.first,(v4,([]:List aa)++a0.changes),(.slice none 0 0),a0.next⟩:ap) []]⟩) (fun b3 v4=>f42o_j1 fu a0) (fun b3 v4=>?_) (fun hj1=>?_)
 ·refine .seq<|.s<|.an z z<|.block<|.loop<|.keep [1,2,3,4] [] z<|(show ∀ (n1:Nat) (i5:Int) (i6:ab) (v7:Value),W _ _ _ _ _ ⟨[(1,isP b1 0,none),(2,isP b2 0,none),(3,isP b3 0,none),(4,isI .i64 i5,none)],[arrO tRow v7 i6.rows,boxO b2 tTableA (⟨([]:List Col),((.slice none 0 0),([]:List aa)),(.slice none 0 0),(0:Int)⟩:ap) [],boxO b1 tTableA (⟨a0.first,(cp0,a0.changes),vp0,a0.next⟩:ap) [],arrO tRow vp0 a0.rows,appO 10 v4,boxO b3 tTableA (⟨i6.first,(v4,i6.changes),v7,i6.next⟩:ap) []]⟩ (f42o_l1 a0 n1 i5 i6) from ?_) fu _ _ _
  intro n1
  induction n1 with
  | zero=>exact fun _ _ _=>.stop
  | succ n1 ih1=>
   intro i5 i6 v7
   refine .inLoop<|.seq<|.s<|.m z z<|.fp z fa27_2 z<|.loadR 2 fTableA_2 z z ty25 z<|.know 18 z<|.lenA 3 z z u57 z<|.bin z z z z<|.nil<|.cd z ?_ ?_
   ·refine .skip<|.seq<|.block<|.pT fun h5=>?_
    refine .pT fun h6=>?_
    refine .pT fun h7=>?_
    refine .pT fun h8=>?_
    refine .drawS 24 [] [21,22,23] [] mix (by kernel_rfl) (.j (fun o=>.fp (o z) fa27_2 z)<|.k (fun p e=>.loadR 5 fTableA_2 (e.op z) (p.get z z) ty25 z)<|.j (fun o=>.fp (o z) fa27_2 z)<|.k (fun p e=>.loadR 2 fTableA_2 (e.op z) (p.get z z) ty25 z)<|.j (fun o=>.m (o z) z)<|.k (fun p e h=>.useC h5<|.elemA 3 (e.op z) (e.op z) (p.get z z) u57 ty37 z<|h)<|.j (fun o=>.fieldA (o z) bY z)<|.k (fun p e=>.loadA 3 bG (e.op z) (p.get z z) ty3 z)<|.j (fun o=>.fp (o z) fa27_2 z)<|.k (fun p e=>.loadR 2 fTableA_2 (e.op z) (p.get z z) ty25 z)<|.j (fun o=>.m (o z) z)<|.k (fun p e h=>.useC h6<|.elemA 3 (e.op z) (e.op z) (p.get z z) u57 ty37 z<|h)<|.j (fun o=>.fieldA (o z) bd z)<|.k (fun p e=>.loadA 3 aZ (e.op z) (p.get z z) ty3 z)<|.j (fun o=>.litE tVal u62 fk z z)<|.j (fun o=>.fp (o z) fa27_2 z)<|.k (fun p e=>.loadR 2 fTableA_2 (e.op z) (p.get z z) ty25 z)<|.j (fun o=>.m (o z) z)<|.k (fun p e h=>.useC h7<|.elemA 3 (e.op z) (e.op z) (p.get z z) u57 ty37 z<|h)<|.j (fun o=>.fieldA (o z) cS z)<|.k (fun p e=>.loadA 3 dv (e.op z) (p.get z z) n9 z)<|.skip<|.skip<|.skip<|.nil) z<|.cons (d:=44) z z fun _ _ hE h=>.useC h8<|.appE (T:=tVal) (hE.op z) (hE.op z) z u62 fk z fun v8=>.toEnd<|h _ _ (.same<|.same<|.same<|.same<|.same<|.same<|.nil)<|.cons (d:=45) z z fun _ _ hE h=>.build z AI z37 (.cons bG z (hE.op z)<|.cons aZ z (hE.op z)<|.cons dv z (hE.op z)<|.nil) z<|h _ _ (.same<|.same<|.same<|.same<|.same<|.same<|.nil)<|.cons (d:=46) z z fun _ _ hE h=>.litN (T:=tRow) u57 jn z z (.cons (hE.op z)<|.nil) z<|h _ _ (.same<|.same<|.same<|.same<|.same<|.same<|.nil)<|.nil<|.appA (T:=tRow) 0 z z z u57 jn z fun v9=>.fp z fa27_2 z<|.toRaw (T:=tRow) 0 47 z z<|.storeP 5 fTableA_2 z z z ty25<|.nil ?_
    exact .inBlock<|.g<|.m z z<|.bin z z z z<|.an z z<|.keep [1,2,3,4] [] z (.drop (.d<|.d<|.d<|.d<|.d<|.d<|.c<|.e)<|ih1 _ _ _)
   ·exact .exit z<|.s<|.lp 5 (Fld.self _) z z ty27 z<|.storeP 1 (Fld.self _) z z z ty27<|.nil<|.pick [0,3,2,0] z<|.retL1 (v7,v4) func120 results120 (.cell 3 z z ty27) z (fun _ _ _ h=>bI h) (.d<|.d<|.d<|.c<|.e)
 ·refine .pT fun h9=>?_
  refine .pT fun h10=>?_
  refine .drawF 12 [] [3,7,10] (some 11) [] mix (by kernel_rfl) (.j (fun o=>.litE tCol u36 cq z z)<|.j (fun o=>.fp (o z) fc z)<|.k (fun p e=>.lp 1 aI (e.op z) (p.get z z) sa z)<|.skip<|.j (fun o=>.litE tChange u56 jE z z)<|.j (fun o=>.fp (o z) bv z)<|.k (fun p e=>.loadK 1 az (e.op z) (p.get z z) kB z)<|.skip<|.j (fun o=>.fp (o z) gm z)<|.k (fun p e=>.lp 1 aM (e.op z) (p.get z z) ty3 z)<|.skip<|.skip<|.nil) z<|.next ?_ ?_
  ·refine .put 8 z z fun _ _ hE h=>.useC h9<|.appE (T:=tCol) (hE.op z) (hE.op z) z u36 cq z fun v11=>.toEnd<|h _ _ (.same<|.same<|.same<|.nil)<|.next ?_ ?_
   ·refine .put 12 z z fun _ _ hE h=>.useC h10<|.appE (T:=tChange) (hE.op z) (hE.op z) z u56 jE z fun v12=>.toEnd<|h _ _ (.same<|.same<|.same<|.nil)<|.next ?_ ?_
    ·exact .put 15 z z fun _ _ hE h=>.buildA z mW bA (.cons aI z (vOf (hE.op z))<|.cons az z (kOf (hE.op z))<|.cons aM z (vOf (hE.op z))<|.nil) z<|h _ _ (.same<|.same<|.same<|.nil)<|.last<|.put 3 z z fun _ _ hE h=>.alloc tTableA aS [] bA z fun b10=>.toEnd<|h _ _ (.same<|.same<|.same<|.nil)<|.nil<|.storeP 5 (Fld.self _) z z z ty27<|.arrNil tRow<|.nil<|.keep [1,2,3] [] z (.drop (.d<|.d<|.d<|.d<|.c<|.d<|.d<|.e)<|hj1 _ _)
    ·exact .put 3 z z fun _ _ hE h=>.alloc tTableA aS [] bA z fun b10=>.toEnd<|h _ _ (.same<|.same<|.same<|.nil)<|.cons (d:=15) z z fun _ _ hE h=>.buildA z mW bA (.cons aI z (vOf (hE.op z))<|.cons az z (kOf (hE.op z))<|.cons aM z (vOf (hE.op z))<|.nil) z<|h _ _ (.same<|.same<|.same<|.nil)<|.nil<|.storeP 5 (Fld.self _) z z z ty27<|.arrNil tRow<|.nil<|.keep [1,2,3] [] z (.drop (.d<|.d<|.d<|.d<|.c<|.d<|.d<|.e)<|hj1 _ _)
   ·exact .put 3 z z fun _ _ hE h=>.alloc tTableA aS [] bA z fun b10=>.toEnd<|h _ _ (.same<|.same<|.same<|.nil)<|.cons (d:=12) z z fun _ _ hE h=>.useC h10<|.appE (T:=tChange) (hE.op z) (hE.op z) z u56 jE z fun v12=>.toEnd<|h _ _ (.same<|.same<|.same<|.nil)<|.cons (d:=15) z z fun _ _ hE h=>.buildA z mW bA (.cons aI z (vOf (hE.op z))<|.cons az z (kOf (hE.op z))<|.cons aM z (vOf (hE.op z))<|.nil) z<|h _ _ (.same<|.same<|.same<|.nil)<|.nil<|.pick [0,0,0,0,1,0] z<|.storeP 5 (Fld.self _) z z z ty27<|.arrNil tRow<|.nil<|.keep [1,2,3] [] z (.drop (.d<|.d<|.d<|.d<|.c<|.d<|.d<|.e)<|hj1 _ _)
  ·exact .put 3 z z fun _ _ hE h=>.alloc tTableA aS [] bA z fun b10=>.toEnd<|h _ _ (.same<|.same<|.same<|.nil)<|.cons (d:=8) z z fun _ _ hE h=>.useC h9<|.appE (T:=tCol) (hE.op z) (hE.op z) z u36 cq z fun v11=>.toEnd<|h _ _ (.same<|.same<|.same<|.nil)<|.cons (d:=12) z z fun _ _ hE h=>.useC h10<|.appE (T:=tChange) (hE.op z) (hE.op z) z u56 jE z fun v12=>.toEnd<|h _ _ (.same<|.same<|.same<|.nil)<|.cons (d:=15) z z fun _ _ hE h=>.buildA z mW bA (.cons aI z (vOf (hE.op z))<|.cons az z (kOf (hE.op z))<|.cons aM z (vOf (hE.op z))<|.nil) z<|h _ _ (.same<|.same<|.same<|.nil)<|.nil<|.pick [0,0,0,1,1,0] z<|.storeP 5 (Fld.self _) z z z ty27<|.arrNil tRow<|.nil<|.keep [1,2,3] [] z (.drop (.d<|.d<|.d<|.d<|.c<|.d<|.d<|.e)<|hj1 _ _)
attribute [local irreducible] W WO
attribute [local semireducible] W WO
theorem c42k (K fu:Nat)(a0:ab):BX prog 120 [tTable.va a0] [] (f42 fu a0) tb (fun q p (g:List pq)=>[arrO cP p.1 g,appO 10 p.2,factO K g q.rows,kO K g q.rows]) (fun q p=>tTableA.va (⟨q.first,(p.2,q.changes),p.1,q.next⟩:ap)):=by
 refine BX.of_W func120 z ntmps120 z fun A w=>?_
 unfold f42
 refine .s<|.box (T:=tTable) z z fun b1=>.alloc tTableA aS [] bA z fun b2=>.nil<|.seq<|.join2 (fun b3 v4=>⟨[(1,isP b1 0,none),(2,isP b2 0,none),(3,isP b3 0,none)],[arrO cP (.slice none 0 0) ([]:List pq),boxO b2 tTableA (⟨([]:List Col),((.slice none 0 0),([]:List aa)),(.slice none 0 0),(0:Int)⟩:ap) [],boxO b1 tTable a0 [],appO 10 v4,boxO b3 tTableA (⟨([]:List Col)++a0.first,(v4,([]:List aa)++a0.changes),(.slice none 0 0),a0.next⟩:ap) []]⟩) (fun b3 v4=>f42_j1 fu a0) (fun b3 v4=>?_) (fun hj1=>?_)
 ·refine .seq<|.s<|.an z z<|yW (factO K [] []) z (fun _ _=>⟨z,fun i ra r h=>by simp at h⟩)<|yW (kO K [] []) z (fun _ _=>trivial)<|.block<|.loop<|.keep [1,2,3,4] [] z<|(show ∀ (n1:Nat) (i5:Int) (i6:ab) (v7:Value) (g:List pq),W _ _ _ _ _ ⟨[(1,isP b1 0,none),(2,isP b2 0,none),(3,isP b3 0,none),(4,isI .i64 i5,none)],[arrO cP v7 g,boxO b2 tTableA (⟨([]:List Col),((.slice none 0 0),([]:List aa)),(.slice none 0 0),(0:Int)⟩:ap) [],boxO b1 tTable a0 [],appO 10 v4,boxO b3 tTableA (⟨i6.first,(v4,i6.changes),v7,i6.next⟩:ap) [],factO K g i6.rows,kO K g i6.rows]⟩ (ia a0 n1 i5 i6) from ?_) fu _ _ _ _
  intro n1
  induction n1 with
  | zero=>exact fun _ _ _ _=>.stop
  | succ n1 ih1=>
   intro i5 i6 v7 g
   refine W_factLen 5 z fun hlen=>?_
   refine .inLoop<|.seq<|.s<|.m z z<|.fp z fa27_2 z<|.lp 2 fTable_2 z z ty25 z<|.lenL z u57 z<|.bin z z z z<|.nil<|.cond z (fun _=>?_) (fun _=>?_)
   ·refine .skip<|.seq<|.block<|.pT fun h5=>?_
    refine .pT fun h6=>?_
    refine .pT fun h7=>?_
    refine .pT fun h8=>?_
    rw [← hlen]
    by_cases hK:i6.rows.length=K
    ·subst hK
     refine .drawS 24 [] [21,22,23] [] mix (by kernel_rfl) (.j (fun o=>.fp (o z) fa27_2 z)<|.k (fun p e=>.loadR 4 fTableA_2 (e.op z) (p.get z z) ty25 z)<|.j (fun o=>.fp (o z) fa27_2 z)<|.k (fun p e=>.lp 2 fTable_2 (e.op z) (p.get z z) ty25 z)<|.j (fun o=>.m (o z) z)<|.k (fun p e h=>.useC h5<|.elemAt (e.op z) (e.op z) u57 ty37 z<|h)<|.j (fun o=>.fieldAt bG (o z) bY z)<|.j (fun o=>.load (o z) ty3 z)<|.j (fun o=>.fp (o z) fa27_2 z)<|.k (fun p e=>.lp 2 fTable_2 (e.op z) (p.get z z) ty25 z)<|.j (fun o=>.m (o z) z)<|.k (fun p e h=>.useC h6<|.elemAt (e.op z) (e.op z) u57 ty37 z<|h)<|.j (fun o=>.fieldAt aZ (o z) bd z)<|.j (fun o=>.load (o z) ty3 z)<|.j (fun o=>.litE tVal u62 fk z z)<|.j (fun o=>.fp (o z) fa27_2 z)<|.k (fun p e=>.lp 2 fTable_2 (e.op z) (p.get z z) ty25 z)<|.j (fun o=>.m (o z) z)<|.k (fun p e h=>.useC h7<|.elemAt (e.op z) (e.op z) u57 ty37 z<|h)<|.j (fun o=>.fieldAt dv (o z) cS z)<|.j (fun o=>.load (o z) n9 z)<|.skip<|.skip<|.skip<|.nil) z<|.cons (d:=44) z z fun _ _ hE h=>.useC h8<|.appEA (T:=tVal) (hE.op z) (hE.op z) z u62 fk z fun v8=>.toEnd<|h _ _ (.same<|.same<|.same<|.same<|.same<|.same<|.same<|.nil)<|.cons (d:=45) z z fun _ _ hE h=>.buildA z AI zRA (.cons un z (vOf (hE.op z))<|.cons um z (vOf (hE.op z))<|.cons jf z (rOf (T:=tVal) 7 (hE.op z) z)<|.nil) z<|h _ _ (.same<|.same<|.same<|.same<|.same<|.same<|.same<|.nil)<|.cons (d:=46) z z fun _ _ hE h=>.litN (T:=cP) u57 jn z z (.cons (hE.op z)<|.nil) z<|h _ _ (.same<|.same<|.same<|.same<|.same<|.same<|.same<|.nil)<|.nil<|yX (by rfl)<|.appA (T:=cP) 0 z z z u57 jn z fun v9=>qu 5 (a0.rows.getD i5.toNat default).id (a0.rows.getD i5.toNat default).ver v8 ([]++(a0.rows.getD i5.toNat default).vals) z<|.fp z fa27_2 z<|.toRaw (T:=cP) 0 47 z z<|.storeP 4 fTableA_2 z z z ty25<|.nil ?_
     exact .inBlock<|.g<|.m z z<|.bin z z z z<|.an z z<|.keep [1,2,3,4] [] z (.pick [0,0,0,0,0,0,1] z<|W_bEq (by show _=[_,_,_,_,_,_,kO _ (g++[_]) (i6.rows++[_])];rw [A5 hlen];rfl)<|ih1 _ _ v9 (g++[⟨(a0.rows.getD i5.toNat default).id,(a0.rows.getD i5.toNat default).ver,v8⟩]))
    ·refine .drawS 24 [] [21,22,23] [] mix (by kernel_rfl) (.j (fun o=>.fp (o z) fa27_2 z)<|.k (fun p e=>.loadR 4 fTableA_2 (e.op z) (p.get z z) ty25 z)<|.j (fun o=>.fp (o z) fa27_2 z)<|.k (fun p e=>.lp 2 fTable_2 (e.op z) (p.get z z) ty25 z)<|.j (fun o=>.m (o z) z)<|.k (fun p e h=>.useC h5<|.elemAt (e.op z) (e.op z) u57 ty37 z<|h)<|.j (fun o=>.fieldAt bG (o z) bY z)<|.j (fun o=>.load (o z) ty3 z)<|.j (fun o=>.fp (o z) fa27_2 z)<|.k (fun p e=>.lp 2 fTable_2 (e.op z) (p.get z z) ty25 z)<|.j (fun o=>.m (o z) z)<|.k (fun p e h=>.useC h6<|.elemAt (e.op z) (e.op z) u57 ty37 z<|h)<|.j (fun o=>.fieldAt aZ (o z) bd z)<|.j (fun o=>.load (o z) ty3 z)<|.j (fun o=>.litE tVal u62 fk z z)<|.j (fun o=>.fp (o z) fa27_2 z)<|.k (fun p e=>.lp 2 fTable_2 (e.op z) (p.get z z) ty25 z)<|.j (fun o=>.m (o z) z)<|.k (fun p e h=>.useC h7<|.elemAt (e.op z) (e.op z) u57 ty37 z<|h)<|.j (fun o=>.fieldAt dv (o z) cS z)<|.j (fun o=>.load (o z) n9 z)<|.skip<|.skip<|.skip<|.nil) z<|.cons (d:=44) z z fun _ _ hE h=>.useC h8<|.appE (T:=tVal) (hE.op z) (hE.op z) z u62 fk z fun v8=>.toEnd<|h _ _ (.same<|.same<|.same<|.same<|.same<|.same<|.same<|.nil)<|.cons (d:=45) z z fun _ _ hE h=>.buildA z AI zRA (.cons un z (vOf (hE.op z))<|.cons um z (vOf (hE.op z))<|.cons jf z (C3 (hE.op z))<|.nil) z<|h _ _ (.same<|.same<|.same<|.same<|.same<|.same<|.same<|.nil)<|.cons (d:=46) z z fun _ _ hE h=>.litN (T:=cP) u57 jn z z (.cons (hE.op z)<|.nil) z<|h _ _ (.same<|.same<|.same<|.same<|.same<|.same<|.same<|.nil)<|.nil<|yX (by rfl)<|.appA (T:=cP) 0 z z z u57 jn z fun v9=>s7 5 44 (a0.rows.getD i5.toNat default).id (a0.rows.getD i5.toNat default).ver z z<|.fp z fa27_2 z<|.toRaw (T:=cP) 0 47 z z<|.storeP 4 fTableA_2 z z z ty25<|.nil ?_
     exact .inBlock<|.g<|.m z z<|.bin z z z z<|.an z z<|.keep [1,2,3,4] [] z (.pick [0,0,0,0,0,0,0] z<|W_bEq (by show _=[_,_,_,_,_,_,kO _ (g++[_]) (i6.rows++[_])];rw [A4 hlen hK];rfl)<|ih1 _ _ v9 (g++[⟨(a0.rows.getD i5.toNat default).id,(a0.rows.getD i5.toNat default).ver,v8⟩]))
   ·exact .exit z<|.s<|.lp 4 (Fld.self _) z z ty27 z<|.storeP 1 (Fld.self _) z z z ty27<|.nil<|.retE1 g (v7,v4) func120 results120 (.cell 1 z z ty27) z (fun _ _ _ h=>bI h) (.d<|.c<|.c<|.d<|.c<|.d<|.d<|.e)
 ·refine .pT fun h9=>?_
  refine .pT fun h10=>?_
  refine .drawF 12 [] [3,7,10] (some 11) [] mix (by kernel_rfl) (.j (fun o=>.litE tCol u36 cq z z)<|.j (fun o=>.fp (o z) fc z)<|.k (fun p e=>.lp 1 dH (e.op z) (p.get z z) sa z)<|.skip<|.j (fun o=>.litE tChange u56 jE z z)<|.j (fun o=>.fp (o z) bv z)<|.k (fun p e=>.lp 1 bp (e.op z) (p.get z z) kB z)<|.skip<|.j (fun o=>.fp (o z) gm z)<|.k (fun p e=>.lp 1 dG (e.op z) (p.get z z) ty3 z)<|.skip<|.skip<|.nil) z<|.next ?_ ?_
  ·refine .put 8 z z fun _ _ hE h=>.useC h9<|.appE (T:=tCol) (hE.op z) (hE.op z) z u36 cq z fun v11=>.toEnd<|h _ _ (.same<|.same<|.nil)<|.next ?_ ?_
   ·refine .put 12 z z fun _ _ hE h=>.useC h10<|.appE (T:=tChange) (hE.op z) (hE.op z) z u56 jE z fun v12=>.toEnd<|h _ _ (.same<|.same<|.nil)<|.next ?_ ?_
    ·exact .put 15 z z fun _ _ hE h=>.buildA z mW bA (.cons aI z (vOf (hE.op z))<|.cons az z (kOf (hE.op z))<|.cons aM z (vOf (hE.op z))<|.nil) z<|h _ _ (.same<|.same<|.nil)<|.last<|.put 3 z z fun _ _ hE h=>.alloc tTableA aS [] bA z fun b10=>.toEnd<|h _ _ (.same<|.same<|.nil)<|.nil<|.storeP 4 (Fld.self _) z z z ty27<|.arrNil cP<|.nil<|.keep [1,2,3] [] z (.drop (.d<|.d<|.d<|.c<|.d<|.d<|.e)<|hj1 _ _)
    ·exact .put 3 z z fun _ _ hE h=>.alloc tTableA aS [] bA z fun b10=>.toEnd<|h _ _ (.same<|.same<|.nil)<|.cons (d:=15) z z fun _ _ hE h=>.buildA z mW bA (.cons aI z (vOf (hE.op z))<|.cons az z (kOf (hE.op z))<|.cons aM z (vOf (hE.op z))<|.nil) z<|h _ _ (.same<|.same<|.nil)<|.nil<|.storeP 4 (Fld.self _) z z z ty27<|.arrNil cP<|.nil<|.keep [1,2,3] [] z (.drop (.d<|.d<|.d<|.c<|.d<|.d<|.e)<|hj1 _ _)
   ·exact .put 3 z z fun _ _ hE h=>.alloc tTableA aS [] bA z fun b10=>.toEnd<|h _ _ (.same<|.same<|.nil)<|.cons (d:=12) z z fun _ _ hE h=>.useC h10<|.appE (T:=tChange) (hE.op z) (hE.op z) z u56 jE z fun v12=>.toEnd<|h _ _ (.same<|.same<|.nil)<|.cons (d:=15) z z fun _ _ hE h=>.buildA z mW bA (.cons aI z (vOf (hE.op z))<|.cons az z (kOf (hE.op z))<|.cons aM z (vOf (hE.op z))<|.nil) z<|h _ _ (.same<|.same<|.nil)<|.nil<|.pick [0,0,0,1,0] z<|.storeP 4 (Fld.self _) z z z ty27<|.arrNil cP<|.nil<|.keep [1,2,3] [] z (.drop (.d<|.d<|.d<|.c<|.d<|.d<|.e)<|hj1 _ _)
  ·exact .put 3 z z fun _ _ hE h=>.alloc tTableA aS [] bA z fun b10=>.toEnd<|h _ _ (.same<|.same<|.nil)<|.cons (d:=8) z z fun _ _ hE h=>.useC h9<|.appE (T:=tCol) (hE.op z) (hE.op z) z u36 cq z fun v11=>.toEnd<|h _ _ (.same<|.same<|.nil)<|.cons (d:=12) z z fun _ _ hE h=>.useC h10<|.appE (T:=tChange) (hE.op z) (hE.op z) z u56 jE z fun v12=>.toEnd<|h _ _ (.same<|.same<|.nil)<|.cons (d:=15) z z fun _ _ hE h=>.buildA z mW bA (.cons aI z (vOf (hE.op z))<|.cons az z (kOf (hE.op z))<|.cons aM z (vOf (hE.op z))<|.nil) z<|h _ _ (.same<|.same<|.nil)<|.nil<|.pick [0,0,1,1,0] z<|.storeP 4 (Fld.self _) z z z ty27<|.arrNil cP<|.nil<|.keep [1,2,3] [] z (.drop (.d<|.d<|.d<|.c<|.d<|.d<|.e)<|hj1 _ _)
attribute [local irreducible] W WO
def mv (fu:Nat)(a0:ab)(a1:aa)(q6:ab)(q10:(List Col)):Nat→Int→Option (ab×Int)
 | 0,_=>none
 | n1+1,i11=>cond (decide (i11 < (q6.rows.length:Int))) (cond (decide (0≤i11)&&decide (i11 < (q6.rows.length:Int))) ((Ai fu (⟨q6.first,q6.changes++([a1]:List aa),q6.rows,q6.next⟩:ab) (q6.rows.getD i11.toNat default)).bind fun q12=>(f88 fu q10 q12).bind fun q13=>cond (!q13) (some (a0,2)) ((mv fu a0 a1 q6 q10 n1) (IntKind.i64.wrap (i11+1)))) none) (cond (decide (8≤(a0.changes.length:Int))) (some (a0,4)) (some ((⟨q6.first,q6.changes++([a1]:List aa),q6.rows,q6.next⟩:ab),0)))
def f72 (fu:Nat)(a0:ab)(a1:aa):Option (ab×Int):=(yO fu a0).bind fun q4=>(f87 fu q4 a1).bind fun q5=>cond (!q5.2) (some (a0,1)) ((f42o fu a0).bind fun q6=>cond (decide (q6.changes.length+List.length ([a1]:List aa)≤CAP)) ((yO fu (⟨q6.first,q6.changes++([a1]:List aa),q6.rows,q6.next⟩:ab)).bind fun q10=>mv fu a0 a1 q6 q10 fu 0) none)
theorem n72:Nm prog 207:=⟨_,_,func207,by kernel_rfl,z⟩
theorem c72 (fu:Nat)(vp0:Value)(cp0:Value)(a0:ab)(a1:aa):aW prog 207 [tTableA.va (⟨a0.first,(cp0,a0.changes),vp0,a0.next⟩:ap),tChange.va a1] [arrO tRow vp0 a0.rows] (f72 fu a0 a1) (fun v=>tb (yt 0 v)) (fun q p=>[arrO tRow p.1 q.1.rows]) (fun q p=>tup [tTableA.va (⟨q.1.first,(p.2,q.1.changes),p.1,q.1.next⟩:ap),isI .i64 q.2]):=by
 refine .w func207 ntmps207 fun hf A w=>?_
 unfold f72
 refine .s<|.box (T:=tTableA) z z fun b1=>.box (T:=tChange) z z fun b2=>.alloc tTableA aS [] bA z fun b3=>.an z z<|.seq<|.pbind fun q4 h1=>.draw 3 [] mix (by kernel_rfl) (.k (fun p e=>.lp 2 (Fld.self _) (e.op z) (p.get z z) ty27 z)<|.k (fun p e h=>.bindE h1 (fun r h=>.callR 3 (c53o fu _ _ _) (p.get z z) n53 (e.ops z) z h)<|h)<|.k (fun p e=>.lp 1 (Fld.self _) (e.op z) (p.get z z) yp z)<|.nil) z<|.call0 (c87 fu _ _) n87 z z fun q5=>go ?_
 refine .seq<|.s<|go ?_
 refine .cd z ?_ ?_
 ·exact .s<|.lp 2 (Fld.self _) z z ty27 z<|.storeP 0 (Fld.self _) z z z ty27<|.an z z<|.retL2 (vp0,cp0) func207 results207 (.cell 0 z z ty27) (.tmp z) z (fun _ _ _ h=>bI h) (.c<|.c<|.c<|.d<|.e)
 ·refine .skip<|.s<|go ?_
  refine .callRL 3 (c42o fu _ _ _) z n42 z z fun q6 p7=>.alloc tTableA aS [] bA z fun b8=>go ?_
  refine .s<|go ?_
  refine .app (T:=tChange) 2 z z z u56 jE z fun v9=>.fp z bv z<|.toK 27 z<|go ?_
  refine .s<|go ?_
  refine .callR 1 (c53o fu _ _ _) z n53 z z fun q10=>.an z z<|.seq<|.s<|.an z z<|.block<|.loop<|.drop (.d<|.d<|.d<|.d<|.c<|.d<|.d<|.e)<|.keep [2,4,8,9,10] [] z<|(show ∀ (n1:Nat) (i11:Int),W _ _ _ _ _ ⟨[(2,isP b1 0,none),(4,isP b3 0,none),(8,isP b8 0,none),(9,(tL tCol).va q10,none),(10,isI .i64 i11,none)],[boxO b8 tTableA (⟨q6.first,(v9,q6.changes++([a1]:List aa)),p7.1,q6.next⟩:ap) [],arrO tRow p7.1 q6.rows,appO 10 v9,boxO b3 tTableA (⟨([]:List Col),((.slice none 0 0),([]:List aa)),(.slice none 0 0),(0:Int)⟩:ap) [],boxO b1 tTableA (⟨a0.first,(cp0,a0.changes),vp0,a0.next⟩:ap) [],arrO tRow vp0 a0.rows]⟩ (mv fu a0 a1 q6 q10 n1 i11) from ?_) fu _
  intro n1
  induction n1 with
  | zero=>exact fun _=>.stop
  | succ n1 ih1=>
   intro i11
   refine .inLoop<|.seq<|.s<|go ?_
   refine .cd z ?_ ?_
   ·refine .skip<|.seq<|.block<|.seq<|.pT fun h3=>.draw 7 [0] mix (by kernel_rfl) sts z<|.callR 1 (c90o fu _ _ _ _) z n90 z z fun q12=>.call0 (c88 fu _ _) n88 z z fun q13=>.not z z<|.nil<|.cd z ?_ ?_
    ·exact .s<|.lp 4 (Fld.self _) z z ty27 z<|.storeP 3 (Fld.self _) z z z ty27<|.an z z<|.retL2 (vp0,cp0) func207 results207 (.cell 3 z z ty27) (.tmp z) z (fun _ _ _ h=>bI h) (.c<|.c<|.c<|.c<|.c<|.d<|.e)
    ·exact fj (ih1 _)
   ·refine .exit z<|.seq<|.s<|go ?_
    refine .cd z ?_ ?_
    ·exact .s<|.lp 4 (Fld.self _) z z ty27 z<|.storeP 3 (Fld.self _) z z z ty27<|.an z z<|.retL2 (vp0,cp0) func207 results207 (.cell 3 z z ty27) (.tmp z) z (fun _ _ _ h=>bI h) (.c<|.c<|.c<|.c<|.c<|.d<|.e)
    ·exact .skip<|.s<|.lp 0 (Fld.self _) z z ty27 z<|.storeP 3 (Fld.self _) z z z ty27<|.an z z<|.retL2 (p7.1,v9) func207 results207 (.cell 3 z z ty27) (.tmp z) z (fun _ _ _ h=>bI h) (.c<|.d<|.c<|.c<|.c<|.c<|.e)
end Go.Proofs.YtganfdhmkdehlaaGreatDoor
