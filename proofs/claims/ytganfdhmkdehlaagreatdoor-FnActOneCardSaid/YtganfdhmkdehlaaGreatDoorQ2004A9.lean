/- Functions of the program: what each answers, and that the machine answers so. -/
import Derived.Test.YtganfdhmkdehlaaGreatDoorQ2004A8
import Derived.KernelRfl
set_option linter.all false
namespace Go.Proofs.YtganfdhmkdehlaaGreatDoor
open Go Go.HL Tryz
attribute [local irreducible] W WO
def rE (a0:ab)(i5:Int)(rec1:Int→Int→Option Bool)(i9:Bool):Option Bool:=cond i9 (some false) (rec1 ((a0.rows.getD i5.toNat default).id) (IntKind.i64.wrap (i5+1)))
def rF (fu:Nat)(a0:ab)(q2:(List Col)×Bool)(i5:Int)(rec1:Int→Int→Option Bool)(i7:Bool):Option Bool:=cond i7 (some false) (cond (decide (0≤(0:Int))&&decide ((0:Int)≤((a0.rows.getD i5.toNat default).ver))&&decide (((a0.rows.getD i5.toNat default).ver)≤(a0.changes.length:Int))) ((f57 fu a0.first ((a0.changes.take ((a0.rows.getD i5.toNat default).ver).toNat).drop (0:Int).toNat)).bind fun q8=>(f58 fu q8.1 ((a0.rows.getD i5.toNat default).vals)).bind fun q10=>cond (!q10) (rE a0 i5 rec1 true) ((f49 fu a0 (a0.rows.getD i5.toNat default)).bind fun q11=>(f58 fu q2.1 q11).bind fun q12=>rE a0 i5 rec1 (!q12))) none)
def fA (fu:Nat)(a0:ab)(q2:(List Col)×Bool):Nat→Int→Int→Option Bool
 | 0,_,_=>none
 | n1+1,i4,i5=>cond (decide (i5 < (a0.rows.length:Int))) (cond (decide (0≤i5)&&decide (i5 < (a0.rows.length:Int))) ((f56 fu ((a0.rows.getD i5.toNat default).id) (IntKind.i64.wrap (i4+1)) (IntKind.i64.wrap (a0.next-1))).bind fun q13=>cond (!q13) (rF fu a0 q2 i5 (fA fu a0 q2 n1) true) ((f56 fu ((a0.rows.getD i5.toNat default).ver) 0 (a0.changes.length:Int)).bind fun q14=>rF fu a0 q2 i5 (fA fu a0 q2 n1) (!q14))) none) ((f59 fu a0).bind fun q15=>some q15)
def mE (fu:Nat)(a0:ab)(q2:(List Col)×Bool)(i3:Bool):Option Bool:=cond i3 (some false) (fA fu a0 q2 fu 0 0)
def f19 (fu:Nat)(a0:ab):Option Bool:=(f55 fu a0.first a0.changes).bind fun q2=>cond (!q2.2) (mE fu a0 q2 true) (cond (decide (8 < (a0.changes.length:Int))) (mE fu a0 q2 true) (cond (decide (8 < (a0.rows.length:Int))) (mE fu a0 q2 true) ((f56 fu a0.next 1 60).bind fun q16=>mE fu a0 q2 (!q16))))
theorem n19:Nm prog 33:=⟨_,_,func33,by kernel_rfl,z⟩
theorem c19 (fu:Nat)(a0:ab):Ctr prog 33 [tTable.va a0] [] (f19 fu a0) (fun _ _=>[]) (fun q=>isB q):=by
 refine .w func33 ntmps33 fun hf A w=>?_
 unfold f19
 refine .s<|.box (T:=tTable) z z fun b1=>.an z z<|.s<|go ?_
 refine .call0 (c55 fu _ _) n55 z z fun q2=>go ?_
 refine .seq<|.seq<|.join1 (fun i3=>⟨[(1,isP b1 0,none),(3,(tL tCol).va q2.1,none),(37,isB i3,none)],[boxO b1 tTable a0 []]⟩) (fun i3=>mE fu a0 q2 i3) (fun i3=>?_) (fun hj1=>?_)
 ·refine .cd z ?_ ?_
  ·exact fr
  ·refine .skip<|.s<|.an z z<|.seq<|.s<|go ?_
   refine .block<|.loop<|.keep [1,3,5,39,40,41] [] z<|(show ∀ (n1:Nat) (i4:Int) (i5:Int),W _ _ _ _ _ ⟨[(1,isP b1 0,none),(3,(tL tCol).va q2.1,none),(5,isI .i64 i4,none),(39,(tL tRow).va a0.rows,none),(40,isI .i64 (a0.rows.length:Int),none),(41,isI .i64 i5,none)],[boxO b1 tTable a0 []]⟩ (fA fu a0 q2 n1 i4 i5) from ?_) fu _ _
   intro n1
   induction n1 with
   | zero=>exact fun _ _=>.stop
   | succ n1 ih1=>
    intro i4 i5
    refine .inLoop<|.s<|go ?_
    refine .seq<|.cd z ?_ ?_
    ·refine .skip<|.seq<|.block<|.s<|go ?_
     refine .alloc tRow d0_37 [] z37 z fun b6=>go ?_
     refine .seq<|.seq<|.join1 (fun i7=>⟨[(1,isP b1 0,none),(3,(tL tCol).va q2.1,none),(7,isP b6 0,none),(39,(tL tRow).va a0.rows,none),(40,isI .i64 (a0.rows.length:Int),none),(41,isI .i64 i5,none),(62,isB i7,none)],[boxO b6 tRow (a0.rows.getD i5.toNat default) [],boxO b1 tTable a0 []]⟩) (fun i7=>rF fu a0 q2 i5 (fA fu a0 q2 n1) i7) (fun i7=>?_) (fun hj4=>?_)
     ·refine .cd z ?_ ?_
      ·exact fr
      ·refine .skip<|.s<|go ?_
       refine .seq<|.pT fun h2=>.draw 7 [] mix (by kernel_rfl) (.j (fun o=>.fp (o z) fc z)<|.k (fun p e=>.lp 1 dH (e.op z) (p.get z z) sa z)<|.j (fun o=>.fp (o z) bv z)<|.k (fun p e=>.lp 1 bp (e.op z) (p.get z z) kB z)<|.j (fun o=>.fp (o z) bd z)<|.k (fun p e=>.lp 0 aZ (e.op z) (p.get z z) ty3 z)<|.k (fun p e h=>.useC h2<|.cut (e.op z) u56 jE z ⟨_,(e.op z)⟩ z<|h)<|.nil) z<|.call0 (c57 fu _ _) n57 z z fun q8=>go ?_
       refine .seq<|.join1 (fun i9=>⟨[(1,isP b1 0,none),(3,(tL tCol).va q2.1,none),(5,isI .i64 ((a0.rows.getD i5.toNat default).id),none),(39,(tL tRow).va a0.rows,none),(40,isI .i64 (a0.rows.length:Int),none),(41,isI .i64 i5,none),(88,isB i9,none)],[boxO b1 tTable a0 []]⟩) (fun i9=>rE a0 i5 (fA fu a0 q2 n1) i9) (fun i9=>?_) (fun hj5=>?_)
       ·refine .cd z ?_ ?_
        ·exact fr
        ·exact fj (ih1 _ _)
       ·refine .g<|go ?_
        refine .call0 (c58 fu _ _) n58 z z fun q10=>go ?_
        refine .split 81 z (fun _=>?_) (fun _=>?_)
        ·exact fj (hj5 _)
        ·refine go ?_
         exact .call0 (aW.plain (c49 fu _ _)) n49 z z fun q11=>.on z z<|.call0 (c58 fu _ _) n58 z z fun q12=>fj (hj5 _)
     ·refine .g<|go ?_
      refine .call0 (c56 fu _ _ _) n56 z z fun q13=>go ?_
      refine .split 54 z (fun _=>?_) (fun _=>?_)
      ·exact fj (hj4 _)
      ·refine go ?_
       exact .call0 (c56 fu _ _ _) n56 z z fun q14=>fj (hj4 _)
    ·refine .exit z<|.s<|go ?_
     exact .call0 (c59 fu _) n59 z z fun q15=>fr
 ·refine .g<|go ?_
  refine .split 20 z (fun _=>?_) (fun _=>?_)
  ·exact fj (hj1 _)
  ·refine go ?_
   refine .split 26 z (fun _=>?_) (fun _=>?_)
   ·exact fj (hj1 _)
   ·refine go ?_
    refine .split 32 z (fun _=>?_) (fun _=>?_)
    ·exact fj (hj1 _)
    ·refine go ?_
     exact .call0 (c56 fu _ _ _) n56 z z fun q16=>fj (hj1 _)
def Ca (a0:List aa):Option (List aa):=cond (decide (List.length ([]:List aa)+a0.length≤CAP)) (some (([]:List aa)++a0)) none
theorem n130:Nm prog 185:=⟨_,_,func185,by kernel_rfl,z⟩
attribute [local semireducible] W WO
theorem c130 (a0:List aa):aW prog 185 [(tL tChange).va a0] [] (Ca a0) (fun v=>v) (fun q v=>[arrO tChange v q]) (fun _ v=>tRaw.va v):=by
 refine aW.of_W func185 z ntmps185 z fun A w=>?_
 unfold Ca
 refine .s<|.a z z<|.arrNil tChange<|.nil<|.seq<|.s<|.m z z<|.eqNil z u56 z fun nb1 hnb1=>.nil<|.eqr (r':=cond nb1 (cond (decide (List.length ([]:List aa)+a0.length≤CAP)) (some (([]:List aa)++a0)) none) (cond (decide (List.length ([]:List aa)+a0.length≤CAP)) (some (([]:List aa)++a0)) none)) ?_<|.cond z (fun _=>?_) (fun _=>?_)
 ·cases nb1<;>rfl
 ·obtain rfl:=hnb1 (by assumption)
  refine .eqr (r':=some ([]:List aa)) (by simp) ?_
  exact .s<|.an z z<|.toRaw 0 2 z z<|.retL1 (.slice none 0 0) func185 results185 (.tmp z) z (fun _ _ _ h=>h.1) (.d<|.e)
 ·exact .skip<|.s<|.lit (T:=tChange) u56 jE z z (.nil) z fun v2=>.toArr 0 5 z z z<|.m z z<|.appA (T:=tChange) 0 z z z u56 jE z fun v3=>.an z z<|.toRaw 0 2 z z<|.retL1 v3 func185 results185 (.tmp z) z (fun _ _ _ h=>h.1) (.d<|.c<|.e)
attribute [local irreducible] W WO
def f129 (a0:List aa):Option (List aa):=some a0
theorem n129:Nm prog 184:=⟨_,_,func184,by kernel_rfl,z⟩
theorem c129 (vp0:Value)(a0:List aa):aW prog 184 [isV vp0] [arrO tChange vp0 a0] (f129 a0) (fun v=>v) (fun q v=>[arrO tChange v q]) (fun _ v=>tRaw.va v):=by
 refine .w func184 ntmps184 fun hf A w=>?_
 unfold f129
 exact .know 0 z<|.s<|.a z z<|.arrNil tChange<|.nil<|.s<|.m z z<|.m z z<|.lenA 1 z z u56 z<|.m z z<|.lenA 1 z z u56 z<|.clip (T:=tChange) 1 z z z z u56 jE z fun v1=>.an z z<|.toRaw 1 2 z z<|.retL1 v1 func184 results184 (.tmp z) z (fun _ _ _ h=>h.1) (.c<|.d<|.e)
def Aq (a0:List aa):Option (List aa):=(Ca a0).bind fun q1=>(f129 q1).bind fun q3=>some q3
theorem n109:Nm prog 148:=⟨_,_,func148,by kernel_rfl,z⟩
theorem c109 (a0:List aa):aW prog 148 [(tL tChange).va a0] [] (Aq a0) (fun v=>v) (fun q v=>[arrO tChange v q]) (fun _ v=>tRaw.va v):=by
 refine .w func148 ntmps148 fun hf A w=>?_
 unfold Aq
 exact .s<|.a z z<|.arrNil tChange<|.nil<|.s<|.m z z<|.callL0 (c130 _) n130 z z fun q1 v2=>.unRaw 4 z<|.callS 0 (c129 _ _) z n129 z z fun q3 v4=>.unRaw 5 z<|.an z z<|.toRaw 0 2 z z<|.retL1 v4 func148 results148 (.tmp z) z (fun _ _ _ h=>h.1) (.d<|.c<|.e)
def Cd (a0:List Row):Option (List Row):=cond (decide (List.length ([]:List Row)+a0.length≤CAP)) (some (([]:List Row)++a0)) none
theorem n111:Nm prog 187:=⟨_,_,func187,by kernel_rfl,z⟩
attribute [local semireducible] W WO
theorem c111 (a0:List Row):aW prog 187 [(tL tRow).va a0] [] (Cd a0) (fun v=>v) (fun q v=>[arrO tRow v q]) (fun _ v=>tRaw.va v):=by
 refine aW.of_W func187 z ntmps187 z fun A w=>?_
 unfold Cd
 refine .s<|.a z z<|.arrNil tRow<|.nil<|.seq<|.s<|.m z z<|.eqNil z u57 z fun nb1 hnb1=>.nil<|.eqr (r':=cond nb1 (cond (decide (List.length ([]:List Row)+a0.length≤CAP)) (some (([]:List Row)++a0)) none) (cond (decide (List.length ([]:List Row)+a0.length≤CAP)) (some (([]:List Row)++a0)) none)) ?_<|.cond z (fun _=>?_) (fun _=>?_)
 ·cases nb1<;>rfl
 ·obtain rfl:=hnb1 (by assumption)
  refine .eqr (r':=some ([]:List Row)) (by simp) ?_
  exact .s<|.an z z<|.toRaw 0 2 z z<|.retL1 (.slice none 0 0) func187 results187 (.tmp z) z (fun _ _ _ h=>h.1) (.d<|.e)
 ·exact .skip<|.s<|.lit (T:=tRow) u57 jn z z (.nil) z fun v2=>.toArr 0 5 z z z<|.m z z<|.appA (T:=tRow) 0 z z z u57 jn z fun v3=>.an z z<|.toRaw 0 2 z z<|.retL1 v3 func187 results187 (.tmp z) z (fun _ _ _ h=>h.1) (.d<|.c<|.e)
attribute [local irreducible] W WO
def Ce (a0:List Row):Option (List Row):=some a0
theorem n110:Nm prog 186:=⟨_,_,func186,by kernel_rfl,z⟩
theorem c110 (vp0:Value)(a0:List Row):aW prog 186 [isV vp0] [arrO tRow vp0 a0] (Ce a0) (fun v=>v) (fun q v=>[arrO tRow v q]) (fun _ v=>tRaw.va v):=by
 refine .w func186 ntmps186 fun hf A w=>?_
 unfold Ce
 exact .know 0 z<|.s<|.a z z<|.arrNil tRow<|.nil<|.s<|.m z z<|.m z z<|.lenA 1 z z u57 z<|.m z z<|.lenA 1 z z u57 z<|.clip (T:=tRow) 1 z z z z u57 jn z fun v1=>.an z z<|.toRaw 1 2 z z<|.retL1 v1 func186 results186 (.tmp z) z (fun _ _ _ h=>h.1) (.c<|.d<|.e)
def f77 (a0:List Row):Option (List Row):=(Cd a0).bind fun q1=>(Ce q1).bind fun q3=>some q3
theorem n77:Nm prog 149:=⟨_,_,func149,by kernel_rfl,z⟩
theorem c77 (a0:List Row):aW prog 149 [(tL tRow).va a0] [] (f77 a0) (fun v=>v) (fun q v=>[arrO tRow v q]) (fun _ v=>tRaw.va v):=by
 refine .w func149 ntmps149 fun hf A w=>?_
 unfold f77
 exact .s<|.a z z<|.arrNil tRow<|.nil<|.s<|.m z z<|.callL0 (c111 _) n111 z z fun q1 v2=>.unRaw 4 z<|.callS 0 (c110 _ _) z n110 z z fun q3 v4=>.unRaw 5 z<|.an z z<|.toRaw 0 2 z z<|.retL1 v4 func149 results149 (.tmp z) z (fun _ _ _ h=>h.1) (.d<|.c<|.e)
def mr (a0:ab)(i4:ab):Nat→Int→(List Row)→Option ab
 | 0,_,_=>none
 | n1+1,i7,i8=>cond (decide (i7 < (a0.rows.length:Int))) (cond (decide (0≤i7)&&decide (i7 < (a0.rows.length:Int))) ((yT ((a0.rows.getD i7.toNat default).vals)).bind fun q10=>cond (decide (0≤i7)&&decide (i7 < (i8.length:Int))) ((mr a0 i4 n1) (IntKind.i64.wrap (i7+1)) (i8.set i7.toNat ({ (i8.getD i7.toNat default) with vals:=q10 }:Row))) none) none) (some (⟨i4.first,i4.changes,i8,i4.next⟩:ab))
def ux (fu:Nat)(a0:ab)(i4:ab):Option ab:=mr a0 i4 fu 0 i4.rows
def f80 (fu:Nat)(a0:ab):Option ab:=(f91 a0.first).bind fun q12=>(Aq a0.changes).bind fun q13=>(f77 a0.rows).bind fun q15=>ux fu a0 (⟨q12,q13,q15,a0.next⟩:ab)
theorem n80:Nm prog 74:=⟨_,_,func74,by kernel_rfl,z⟩
theorem c80 (fu:Nat)(a0:ab):aW prog 74 [tTable.va a0] [] (f80 fu a0) tb (fun q p=>[arrO tRow p.1 q.rows,appO 10 p.2]) (fun q p=>tTableA.va (⟨q.first,(p.2,q.changes),p.1,q.next⟩:ap)):=by
 refine .w func74 ntmps74 fun hf A w=>?_
 unfold f80
 refine .s<|.box (T:=tTable) z z fun b1=>.alloc tTableA aS [] bA z fun b2=>.nil<|.seq<|.join4 (fun b3 i4 v5 v6=>⟨[(1,isP b1 0,none),(2,isP b2 0,none),(3,isP b3 0,none)],[boxO b2 tTableA (⟨([]:List Col),((.slice none 0 0),([]:List aa)),(.slice none 0 0),(0:Int)⟩:ap) [],boxO b1 tTable a0 [],appO 10 v6,arrO tRow v5 i4.rows,boxO b3 tTableA (⟨i4.first,(v6,i4.changes),v5,i4.next⟩:ap) []]⟩) (fun b3 i4 v5 v6=>ux fu a0 i4) (fun b3 i4 v5 v6=>?_) (fun hj1=>?_)
 ·refine .seq<|.s<|go ?_
  refine .block<|.loop<|.drop (.d<|.c<|.d<|.d<|.d<|.e)<|.keep [2,3,19,20,21] [] z<|(show ∀ (n1:Nat) (i7:Int) (i8:List Row),W _ _ _ _ _ ⟨[(2,isP b2 0,none),(3,isP b3 0,none),(19,(tL tRow).va a0.rows,none),(20,isI .i64 (a0.rows.length:Int),none),(21,isI .i64 i7,none)],[boxO b2 tTableA (⟨([]:List Col),((.slice none 0 0),([]:List aa)),(.slice none 0 0),(0:Int)⟩:ap) [],appO 10 v6,arrO tRow v5 i8,boxO b3 tTableA (⟨i4.first,(v6,i4.changes),v5,i4.next⟩:ap) []]⟩ (mr a0 i4 n1 i7 i8) from ?_) fu _ _
  intro n1
  induction n1 with
  | zero=>exact fun _ _=>.stop
  | succ n1 ih1=>
   intro i7 i8
   refine .inLoop<|.s<|go ?_
   refine .seq<|.cd z ?_ ?_
   ·refine .skip<|.seq<|.block<|.s<|go ?_
    refine .alloc tRow d0_37 [] z37 z fun b9=>go ?_
    exact .pb (aW.plain (c115 _)) n115 fun q10 h2 k=>.draw 6 [] mix (by kernel_rfl) sts z<|fj (ih1 _ _)
   ·refine .exit z<|.s<|go ?_
    exact .pick [2,1,0] z<|.retL1 (v5,v6) func74 results74 (.cell 2 z z ty27) z (fun _ _ _ h=>bI h) (.d<|.d<|.c<|.e)
 ·refine .pbind fun q12 h3=>.pbind fun q13 h4=>.pbind fun q15 h5=>.drawF 13 [] [5,8,11] (some 12) [] mix (by kernel_rfl) (.j (fun o=>.fp (o z) fc z)<|.k (fun p e=>.lp 1 dH (e.op z) (p.get z z) sa z)<|.k (fun p e h=>.bindE h3 (fun r h=>.call0 (aW.plain (c91 _)) n91 (e.ops z) z h)<|h)<|.j (fun o=>.fp (o z) bv z)<|.k (fun p e=>.lp 1 bp (e.op z) (p.get z z) kB z)<|.skip<|.j (fun o=>.fp (o z) fa27_2 z)<|.k (fun p e=>.lp 1 fTable_2 (e.op z) (p.get z z) ty25 z)<|.skip<|.j (fun o=>.fp (o z) gm z)<|.k (fun p e=>.lp 1 dG (e.op z) (p.get z z) ty3 z)<|.skip<|.skip<|.nil) z<|.next ?_ ?_
  ·refine .put 11 z z fun _ _ hE h=>.bindE2 h4 (fun r h=>.callT0 (aW.tok (c109 _)) n109 (hE.ops z) z h) fun v14=>.toEnd<|h _ _ (.same<|.same<|.nil)<|.next ?_ ?_
   ·refine .put 14 z z fun _ _ hE h=>.bindE2 h5 (fun r h=>.callL0 (c77 _) n77 (hE.ops z) z h) fun v16=>.toEnd<|h _ _ (.same<|.same<|.nil)<|.next ?_ ?_
    ·exact .put 17 z z fun _ _ hE h=>.buildA z mW bA (.cons aI z (vOf (hE.op z))<|.cons az z (kOf (hE.op z))<|.cons fTableA_2 z (vOf (hE.op z))<|.cons aM z (vOf (hE.op z))<|.nil) z<|h _ _ (.same<|.same<|.nil)<|.last<|.put 3 z z fun _ _ hE h=>.alloc tTableA aS [] bA z fun b11=>.toEnd<|h _ _ (.same<|.same<|.nil)<|fj (hj1 _ _ _ _)
    ·exact .put 3 z z fun _ _ hE h=>.alloc tTableA aS [] bA z fun b11=>.toEnd<|h _ _ (.same<|.same<|.nil)<|.cons (d:=17) z z fun _ _ hE h=>.buildA z mW bA (.cons aI z (vOf (hE.op z))<|.cons az z (kOf (hE.op z))<|.cons fTableA_2 z (vOf (hE.op z))<|.cons aM z (vOf (hE.op z))<|.nil) z<|h _ _ (.same<|.same<|.nil)<|fj (hj1 _ _ _ _)
   ·exact .put 3 z z fun _ _ hE h=>.alloc tTableA aS [] bA z fun b11=>.toEnd<|h _ _ (.same<|.same<|.nil)<|.cons (d:=14) z z fun _ _ hE h=>.bindE2 h5 (fun r h=>.callL0 (c77 _) n77 (hE.ops z) z h) fun v16=>.toEnd<|h _ _ (.same<|.same<|.nil)<|.cons (d:=17) z z fun _ _ hE h=>.buildA z mW bA (.cons aI z (vOf (hE.op z))<|.cons az z (kOf (hE.op z))<|.cons fTableA_2 z (vOf (hE.op z))<|.cons aM z (vOf (hE.op z))<|.nil) z<|h _ _ (.same<|.same<|.nil)<|.nil<|.pick [0,0,0,1,0] z<|fj (hj1 _ _ _ _)
  ·exact .put 3 z z fun _ _ hE h=>.alloc tTableA aS [] bA z fun b11=>.toEnd<|h _ _ (.same<|.same<|.nil)<|.cons (d:=11) z z fun _ _ hE h=>.bindE2 h4 (fun r h=>.callT0 (aW.tok (c109 _)) n109 (hE.ops z) z h) fun v14=>.toEnd<|h _ _ (.same<|.same<|.nil)<|.cons (d:=14) z z fun _ _ hE h=>.bindE2 h5 (fun r h=>.callL0 (c77 _) n77 (hE.ops z) z h) fun v16=>.toEnd<|h _ _ (.same<|.same<|.nil)<|.cons (d:=17) z z fun _ _ hE h=>.buildA z mW bA (.cons aI z (vOf (hE.op z))<|.cons az z (kOf (hE.op z))<|.cons fTableA_2 z (vOf (hE.op z))<|.cons aM z (vOf (hE.op z))<|.nil) z<|h _ _ (.same<|.same<|.nil)<|.nil<|.pick [0,0,1,1,0] z<|fj (hj1 _ _ _ _)
def f84 (a0:Row)(a1:Int):Option Bool:=some (decide (a0.id=a1))
theorem n84:Nm prog 138:=⟨_,_,func138,by kernel_rfl,z⟩
theorem c84 (a0:Row)(a1:Int):Ctr prog 138 [tRow.va a0,cY (tI .i64) a1] [] (f84 a0 a1) (fun _ _=>[]) (fun q=>isB q):=by
 refine .w func138 ntmps138 fun hf A w=>?_
 unfold f84
 exact .s<|.box (T:=tRow) z z fun b1=>fr
def jx (a0:List Row)(a1:Row→Option Bool):Nat→Int→Option Int
 | 0,_=>none
 | n1+1,i1=>cond (decide (i1 < (a0.length:Int))) (cond (decide (0≤i1)&&decide (i1 < (a0.length:Int))) ((a1 (a0.getD i1.toNat default)).bind fun q2=>cond q2 (some i1) ((jx a0 a1 n1) (IntKind.i64.wrap (i1+1)))) none) (some (-1))
def f83 (fu:Nat)(a0:List Row)(a1:Row→Option Bool):Option Int:=jx a0 a1 fu 0
theorem n83:Nm prog 137:=⟨_,_,func137,by kernel_rfl,z⟩
theorem c83 (fu : Nat)(a0 : List Row)(a1 : Row → Option Bool)(g1 : Nat)(k1 : List VA)(hn1 : ∃ fn c, prog.funcs[g1]? = some fn ∧ (fn.name == "runtime.NumGoroutine") = false ∧ fn.body = some c)(hc1 : ∀ (x0 : Row), Ctr prog g1 ([tRow.va x0] ++ k1) [] (a1 x0) (fun _ _ => []) (fun q => isB q)) : Ctr prog 137 [(tL tRow).va a0, ca g1 k1] [] (f83 fu a0 a1) (fun _ _ => []) (fun q => isI .i64 q) := by
 refine .w func137 ntmps137 fun hf A w=>?_
 unfold f83
 refine .s<|.an z z<|.seq<|.s<|go ?_
 refine .block<|.loop<|.keep [0,1,7,8] [] z<|(show ∀ (n1:Nat) (i1:Int),W _ _ _ _ _ ⟨[(0,(tL tRow).va a0,none),(1,ca g1 k1,none),(7,isI .i64 (a0.length:Int),none),(8,isI .i64 i1,none)],[]⟩ (jx a0 a1 n1 i1) from ?_) fu _
 intro n1
 induction n1 with
 | zero=>exact fun _=>.stop
 | succ n1 ih1=>
  intro i1
  refine .inLoop<|.s<|go ?_
  refine .seq<|.cd z ?_ ?_
  ·refine .skip<|.seq<|.block<|.s<|go ?_
   refine .s<|go ?_
   refine .callC z (hc1 _) hn1 z z fun q2=>.nil<|.cd z ?_ ?_
   ·exact fr
   ·exact fj (ih1 _)
  ·exact fr
def f48 (fu:Nat)(a0:ab)(a1:Int):Option Int:=(f83 fu a0.rows (fun x0=>f84 x0 a1)).bind fun q3=>some q3
theorem n48:Nm prog 62:=⟨_,_,func62,by kernel_rfl,z⟩
theorem c48 (fu:Nat)(a0:ab)(a1:Int):Ctr prog 62 [tTable.va a0,isI .i64 a1] [] (f48 fu a0 a1) (fun _ _=>[]) (fun q=>isI .i64 q):=by
 refine .w func62 ntmps62 fun hf A w=>?_
 unfold f48
 exact .s<|.box (T:=tTable) z z fun b1=>.box (T:=(tI .i64)) z z fun b2=>.an z z<|.s<|.fp z fa27_2 z<|.lp 1 fTable_2 z z ty25 z<|.frzP 0 3 z z<|.makeF z z<|.call0 (c83 fu _ (fun x0=>f84 x0 a1) 138 [cY (tI .i64) a1] n84 (fun x0=>c84 x0 a1)) n83 z z fun q3=>fr
def f81 (a0:List Row)(a1 a2:Int):Option (List Row):=cond (decide (0≤a1)&&decide (a1≤a2)&&decide (a2≤(a0.length:Int))) (some (a0.take a1.toNat++a0.drop a2.toNat)) none
theorem n81:Nm prog 168:=⟨_,_,func168,by kernel_rfl,z⟩
theorem c81 (v0:Value)(a0:List Row)(a1 a2:Int):aW prog 168 [isV v0,isI .i64 a1,isI .i64 a2] [arrO tRow v0 a0] (f81 a0 a1 a2) (fun v=>v) (fun q v=>[arrO tRow v q]) (fun _ v=>tRaw.va v):=by
 refine .w func168 ntmps168 fun hf A w=>?_
 unfold f81
 refine .pcond (fun h=>?_) (fun _=>.stop)
 simp only [Bool.and_eq_true,decide_eq_true_eq] at h
 obtain ⟨⟨h1,h2⟩,h3⟩:=h
 obtain ⟨i,rfl⟩:∃ i:Nat,a1=i:=⟨a1.toNat,by omega⟩
 obtain ⟨j,rfl⟩:∃ j:Nat,a2=j:=⟨a2.toNat,by omega⟩
 refine .arrV 0 z fun ad n c hv hn hnc hlim had=>?_
 subst hv
 have hij:i≤j:=by omega
 have hjn:j≤n:=by omega
 refine .s<|.an z z<|.s<|.m z z<|.m z z<|.m z z<|.m z z<|.lenV z u57 z<|.sliceV (T:=tRow) (l:=i) (h':=j) (m:=n) z u57 jn ⟨_,z⟩ ⟨_,z⟩ ⟨_,z⟩ hij hjn hnc z z<|.nil<|.eqr (r':=cond (decide ((i:Int)=(j:Int))) (some (a0.take i++a0.drop j)) (some (a0.take i++a0.drop j))) (by cases decide ((i:Int)=(j:Int))<;>rfl) ?_
 refine .seq<|.s<|go ?_
 refine .cond z (fun h=>?_) (fun h=>?_)
 ·simp only [decide_eq_true_eq,Int.natCast_inj] at h
  subst h
  refine .eqr (r':=some a0) (by simp) ?_
  refine .s<|go ?_
  exact .toRaw 0 6 z z<|.retL1 _ func168 results168 (.tmp z) z (fun _ _ _ h=>h.1) (.cons_cons _ .e)
 ·simp only [decide_eq_false_iff_not,Int.natCast_inj] at h
  have hc:0<c:=by omega
  obtain ⟨b,o,rfl⟩:=had hc
  have hi:i<j:=by omega
  have e1:(if c=0 then some (⟨b,o,none⟩:Addr) else (some (⟨b,o,none⟩:Addr)).map (·.add (0*tRow.sz)))=some ⟨b,o,none⟩:=by rw [if_neg (by omega)];simp [Addr.add0]
  have e2:i+(n-j)-0=i+(n-j):=by omega
  have e3:(if c=i+(n-j) then some (⟨b,o,none⟩:Addr) else (some (⟨b,o,none⟩:Addr)).map (·.add ((i+(n-j))*tRow.sz)))=some ⟨b,o+(i+(n-j))*tRow.sz,none⟩:=by rw [if_neg (by omega)];simp [Addr.add0]
  refine .skip<|.s<|.m z z<|.lenV z u57 z<|.an z z<|.seq<|.draw 6 [] mix (by kernel_rfl) (.j (fun o=>.m (o z) z)<|.j (fun o=>.m (o z) z)<|.j (fun o=>.sliceV (T:=tRow) (lo:=none) (hi:=some _) (mx:=none) (l:=0) (h':=i) (m:=c) (o z) u57 jn z ⟨_,o z⟩ z (Nat.zero_le _) (by omega) (Nat.le_refl _) e1 z)<|
   .j (fun o=>.m (o z) z)<|.j (fun o=>.m (o z) z)<|.j (fun o=>.sliceV (T:=tRow) (lo:=some _) (hi:=none) (mx:=none) (l:=j) (h':=n) (m:=c) (o z) u57 jn ⟨_,o z⟩ ⟨z,z⟩ z hjn hnc (Nat.le_refl _) z z)<|.nil) z<|?_
  refine .appDel (T:=tRow) 0 z z z hc hij hjn (fun hl=>by rw [if_neg (by omega)];simp [Addr.add0]) u57 jn z<|go ?_
  refine .s<|.m z z<|.m z z<|.lenV z u57 z<|.m z z<|.sliceV (T:=tRow) (lo:=some _) (hi:=some _) (mx:=none) (l:=i+(n-j)) (h':=n) (m:=c) z u57 jn ⟨_,z⟩ ⟨_,z⟩ z (by omega) hnc (Nat.le_refl _) e3 z<|.clearV (T:=tRow) 0 z z hc (by omega) (by omega) u57 jn z37<|.nil ?_
  refine .s<|go ?_
  exact .toRaw 0 6 z z<|.retL1 _ func168 results168 (.tmp z) z (fun _ _ _ h=>h.1) (.cons_cons _ .e)
def f40 (fu:Nat)(a0:ab)(a1:Int):Option (ab×Int):=(f80 fu a0).bind fun q3=>(f48 fu a0 a1).bind fun q6=>cond (decide (q6<0)) (some (q3,5)) ((f81 q3.rows q6 (IntKind.i64.wrap (q6+1))).bind fun q7=>(f77 q7).bind fun q9=>some ((⟨q3.first,q3.changes,q9,q3.next⟩:ab),0))
theorem n40:Nm prog 111:=⟨_,_,func111,by kernel_rfl,z⟩
theorem c40 (fu:Nat)(a0:ab)(a1:Int):Ctr prog 111 [tTable.va a0,isI .i64 a1] [] (f40 fu a0 a1) (fun _ _=>[]) (fun q=>tup [tTable.va q.1,isI .i64 q.2]):=by
 refine .w func111 ntmps111 fun hf A w=>?_
 unfold f40
 refine .s<|.box (T:=tTable) z z fun b1=>.alloc tTableA aS [] bA z fun b2=>.an z z<|.s<|go ?_
 refine .callL0 (c80 fu _) n80 z z fun q3 p4=>.alloc tTableA aS [] bA z fun b5=>go ?_
 refine .s<|go ?_
 refine .call0 (c48 fu _ _) n48 z z fun q6=>.an z z<|.seq<|.s<|go ?_
 refine .cd z ?_ ?_
 ·refine .s<|go ?_
  exact .frzBox 3 1 conv27 z z<|fr
 ·refine .skip<|.s<|go ?_
  refine .callS 1 (c81 _ _ _ _) z n81 z z fun q7 v8=>.unRaw 21 z<|.frz 1 21 z z<|.callL0 (c77 _) n77 z z fun q9 v10=>.unRaw 22 z<|.fp z fa27_2 z<|.toRaw (T:=tRow) 0 22 z z<|go ?_
  refine .s<|go ?_
  exact .frzBox 4 0 conv27 z z<|fr
end Go.Proofs.YtganfdhmkdehlaaGreatDoor
