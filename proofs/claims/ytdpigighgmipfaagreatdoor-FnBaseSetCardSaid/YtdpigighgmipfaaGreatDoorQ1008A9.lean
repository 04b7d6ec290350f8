/- Functions of the program: what each answers, and that the machine answers so. -/
import Derived.Test.YtdpigighgmipfaaGreatDoorQ1008A8
import Derived.KernelRfl
set_option linter.all false
namespace Go.Proofs.YtdpigighgmipfaaGreatDoor
open Go Go.HL Tryz
def f19_j5 (a0:Table)(i5:Int)(rec1:Int→Int→Option Bool)(i9:Bool):Option Bool:=cond i9 (some false) (rec1 ((a0.rows.getD i5.toNat default).id) (IntKind.i64.wrap (i5+1)))
def f19_j4 (fu:Nat)(a0:Table)(q2:(List Col)×Bool)(i5:Int)(rec1:Int→Int→Option Bool)(i7:Bool):Option Bool:=cond i7 (some false) (cond (decide (0≤(0:Int))&&decide ((0:Int)≤((a0.rows.getD i5.toNat default).ver))&&decide (((a0.rows.getD i5.toNat default).ver)≤(a0.changes.length:Int))) ((f57 fu a0.first ((a0.changes.take ((a0.rows.getD i5.toNat default).ver).toNat).drop (0:Int).toNat)).bind fun q8=>(f58 fu q8.1 ((a0.rows.getD i5.toNat default).vals)).bind fun q10=>cond (!q10) (f19_j5 a0 i5 rec1 true) ((f49 fu a0 (a0.rows.getD i5.toNat default)).bind fun q11=>(f58 fu q2.1 q11).bind fun q12=>f19_j5 a0 i5 rec1 (!q12))) none)
def f19_l1 (fu:Nat)(a0:Table)(q2:(List Col)×Bool):Nat→Int→Int→Option Bool
 | 0,_,_=>none
 | n1+1,i4,i5=>cond (decide (i5 < (a0.rows.length:Int))) (cond (decide (0≤i5)&&decide (i5 < (a0.rows.length:Int))) ((f56 fu ((a0.rows.getD i5.toNat default).id) (IntKind.i64.wrap (i4+1)) (IntKind.i64.wrap (a0.next-1))).bind fun q13=>cond (!q13) (f19_j4 fu a0 q2 i5 (f19_l1 fu a0 q2 n1) true) ((f56 fu ((a0.rows.getD i5.toNat default).ver) 0 (a0.changes.length:Int)).bind fun q14=>f19_j4 fu a0 q2 i5 (f19_l1 fu a0 q2 n1) (!q14))) none) ((f59 fu a0).bind fun q15=>some q15)
def f19_j1 (fu:Nat)(a0:Table)(q2:(List Col)×Bool)(i3:Bool):Option Bool:=cond i3 (some false) (f19_l1 fu a0 q2 fu 0 0)
def f19 (fu:Nat)(a0:Table):Option Bool:=(f55 fu a0.first a0.changes).bind fun q2=>cond (!q2.2) (f19_j1 fu a0 q2 true) (cond (decide (8 < (a0.changes.length:Int))) (f19_j1 fu a0 q2 true) (cond (decide (8 < (a0.rows.length:Int))) (f19_j1 fu a0 q2 true) ((f56 fu a0.next 1 60).bind fun q16=>f19_j1 fu a0 q2 (!q16))))
theorem n19:Nm prog 71:=⟨_,_,func71,by kernel_rfl,z⟩
theorem c19 (fu:Nat)(a0:Table):Ctr prog 71 [tTable.va a0] [] (f19 fu a0) (fun _ _=>[]) (fun q=>isB q):=by
 refine Ctr.of_W func71 z ntmps71 z fun A w=>?_
 unfold f19
 refine .s<|.box (T:=tTable) z z fun b1=>.an z z<|.s<|.fp z fa27_0 z<|.lp 0 fTable_0 z z ty23 z<|.fp z fa27_1 z<|.lp 0 fTable_1 z z ty24 z<|.call0 (c55 fu _ _) n55 z z fun q2=>.m z z<|.extract z z z<|.extract z z z<|.a z z<|.an z z<|.seq<|.seq<|.join1 (fun i3=>⟨[(1,isP b1 0,none),(3,(tL tCol).va q2.1,none),(37,isB i3,none)],[boxO b1 tTable a0 []]⟩) (fun i3=>f19_j1 fu a0 q2 i3) (fun i3=>?_) (fun hj1=>?_)
 ·refine .cd z ?_ ?_
  ·exact .s<|.an z z<|.ret1 func71 results71 (.tmp z) z (fun _ _=>.c<|.e)
  ·refine .skip<|.s<|.an z z<|.seq<|.s<|.fp z fa27_2 z<|.lp 0 fTable_2 z z ty25 z<|.lenL z u35 z<|.m z z<|.nil<|.block<|.loop<|.keep [1,3,5,39,40,41] [] z<|(show ∀ (n1:Nat) (i4:Int) (i5:Int),W _ _ _ _ _ ⟨[(1,isP b1 0,none),(3,(tL tCol).va q2.1,none),(5,isI .i64 i4,none),(39,(tL tRow).va a0.rows,none),(40,isI .i64 (a0.rows.length:Int),none),(41,isI .i64 i5,none)],[boxO b1 tTable a0 []]⟩ (f19_l1 fu a0 q2 n1 i4 i5) from ?_) fu _ _
   intro n1
   induction n1 with
   | zero=>exact fun _ _=>.stop
   | succ n1 ih1=>
    intro i4 i5
    refine .inLoop<|.s<|.bin z z z z<|.nil<|.seq<|.cd z ?_ ?_
    ·refine .skip<|.seq<|.block<|.s<|.elemAt z z u35 ty37 z<|.load z ty37 z<|.alloc tRow d0_37 [] z37 z fun b6=>.storeP 0 (Fld.self _) z z z ty37<|.nil<|.seq<|.seq<|.join1 (fun i7=>⟨[(1,isP b1 0,none),(3,(tL tCol).va q2.1,none),(7,isP b6 0,none),(39,(tL tRow).va a0.rows,none),(40,isI .i64 (a0.rows.length:Int),none),(41,isI .i64 i5,none),(62,isB i7,none)],[boxO b6 tRow (a0.rows.getD i5.toNat default) [],boxO b1 tTable a0 []]⟩) (fun i7=>f19_j4 fu a0 q2 i5 (f19_l1 fu a0 q2 n1) i7) (fun i7=>?_) (fun hj4=>?_)
     ·refine .cd z ?_ ?_
      ·exact .s<|.an z z<|.ret1 func71 results71 (.tmp z) z (fun _ _=>.c<|.c<|.e)
      ·refine .skip<|.s<|.fp z fa37_0 z<|.lp 0 fRow_0 z z ty3 z<|.an z z<|.seq<|.pT fun h2=>?_
       refine .draw 7 [] mix (by kernel_rfl) (.j (fun o=>.fp (o z) fa27_0 z)<|.k (fun p e=>.lp 1 fTable_0 (e.op z) (p.get z z) ty23 z)<|.j (fun o=>.fp (o z) fa27_1 z)<|.k (fun p e=>.lp 1 fTable_1 (e.op z) (p.get z z) ty24 z)<|.j (fun o=>.fp (o z) fa37_1 z)<|.k (fun p e=>.lp 0 fRow_1 (e.op z) (p.get z z) ty3 z)<|.k (fun p e h=>.useC h2<|.cut (e.op z) u34 el56 z ⟨_,(e.op z)⟩ z<|h)<|.nil) z<|.call0 (c57 fu _ _) n57 z z fun q8=>.m z z<|.extract z z z<|.extract z z z<|.a z z<|.an z z<|.seq<|.join1 (fun i9=>⟨[(1,isP b1 0,none),(3,(tL tCol).va q2.1,none),(5,isI .i64 ((a0.rows.getD i5.toNat default).id),none),(39,(tL tRow).va a0.rows,none),(40,isI .i64 (a0.rows.length:Int),none),(41,isI .i64 i5,none),(88,isB i9,none)],[boxO b1 tTable a0 []]⟩) (fun i9=>f19_j5 a0 i5 (f19_l1 fu a0 q2 n1) i9) (fun i9=>?_) (fun hj5=>?_)
       ·refine .cd z ?_ ?_
        ·exact .s<|.an z z<|.ret1 func71 results71 (.tmp z) z (fun _ _=>.c<|.e)
        ·exact .skip<|.inBlock<|.g<|.bin z z z z<|.m z z<|.nil<|.keep [1,3,5,39,40,41] [] z (ih1 _ _)
       ·refine .g<|.m z z<|.fp z fa37_2 z<|.lp 0 fRow_2 z z ty32 z<|.call0 (c58 fu _ _) n58 z z fun q10=>.not z z<|.m z z<|.split 81 z (fun _=>?_) (fun _=>?_)
        ·exact .off z z z<|.off z z z<|.off z z z<|.off z z z<|.off z z z<|.off z z z<|.pickT z z z<|.nil<|.keep [1,3,5,39,40,41,88] [] z (.drop (.c<|.d<|.e)<|hj5 _)
        ·exact .on z z<|.m z z<|.on z z<|.lp 1 (Fld.self _) z z ty27 z<|.on z z<|.lp 0 (Fld.self _) z z ty37 z<|.on z z<|.call0 (CtrL.plain (c49 fu _ _)) n49 z z fun q11=>.on z z<|.call0 (c58 fu _ _) n58 z z fun q12=>.on z z<|.not z z<|.pickF z z z<|.nil<|.keep [1,3,5,39,40,41,88] [] z (.drop (.c<|.d<|.e)<|hj5 _)
     ·refine .g<|.fp z fa37_0 z<|.lp 0 fRow_0 z z ty3 z<|.m z z<|.bin z z z z<|.fp z fa27_3 z<|.lp 1 fTable_3 z z ty3 z<|.bin z z z z<|.call0 (c56 fu _ _ _) n56 z z fun q13=>.not z z<|.m z z<|.split 54 z (fun _=>?_) (fun _=>?_)
      ·exact .off z z z<|.off z z z<|.off z z z<|.off z z z<|.off z z z<|.off z z z<|.off z z z<|.pickT z z z<|.nil<|.keep [1,3,7,39,40,41,62] [] z (hj4 _)
      ·exact .on z z<|.fp z fa37_1 z<|.on z z<|.lp 0 fRow_1 z z ty3 z<|.on z z<|.fp z fa27_1 z<|.on z z<|.lp 1 fTable_1 z z ty24 z<|.on z z<|.lenL z u34 z<|.on z z<|.call0 (c56 fu _ _ _) n56 z z fun q14=>.on z z<|.not z z<|.pickF z z z<|.nil<|.keep [1,3,7,39,40,41,62] [] z (hj4 _)
    ·exact .exit z<|.s<|.lp 0 (Fld.self _) z z ty27 z<|.call0 (c59 fu _) n59 z z fun q15=>.an z z<|.ret1 func71 results71 (.tmp z) z (fun _ _=>.c<|.e)
 ·refine .g<|.m z z<|.not z z<|.m z z<|.split 20 z (fun _=>?_) (fun _=>?_)
  ·exact .off z z z<|.off z z z<|.off z z z<|.off z z z<|.pickT z z z<|.m z z<|.off z z z<|.off z z z<|.off z z z<|.off z z z<|.pickT z z z<|.m z z<|.off z z z<|.off z z z<|.off z z z<|.off z z z<|.pickT z z z<|.nil<|.keep [1,3,37] [] z (hj1 _)
  ·refine .on z z<|.fp z fa27_1 z<|.on z z<|.lp 0 fTable_1 z z ty24 z<|.on z z<|.lenL z u34 z<|.on z z<|.bin z z z z<|.pickF z z z<|.m z z<|.split 26 z (fun _=>?_) (fun _=>?_)
   ·exact .off z z z<|.off z z z<|.off z z z<|.off z z z<|.pickT z z z<|.m z z<|.off z z z<|.off z z z<|.off z z z<|.off z z z<|.pickT z z z<|.nil<|.keep [1,3,37] [] z (hj1 _)
   ·refine .on z z<|.fp z fa27_2 z<|.on z z<|.lp 0 fTable_2 z z ty25 z<|.on z z<|.lenL z u35 z<|.on z z<|.bin z z z z<|.pickF z z z<|.m z z<|.split 32 z (fun _=>?_) (fun _=>?_)
    ·exact .off z z z<|.off z z z<|.off z z z<|.off z z z<|.pickT z z z<|.nil<|.keep [1,3,37] [] z (hj1 _)
    ·exact .on z z<|.fp z fa27_3 z<|.on z z<|.lp 0 fTable_3 z z ty3 z<|.on z z<|.call0 (c56 fu _ _ _) n56 z z fun q16=>.on z z<|.not z z<|.pickF z z z<|.nil<|.keep [1,3,37] [] z (hj1 _)
def f130 (a0:List Change):Option (List Change):=cond (decide (List.length ([]:List Change)+a0.length≤CAP)) (some (([]:List Change)++a0)) none
theorem n130:Nm prog 190:=⟨_,_,func190,by kernel_rfl,z⟩
theorem c130 (a0:List Change):CtrL prog 190 [(tL tChange).va a0] [] (f130 a0) (fun v=>v) (fun q v=>[arrO tChange v q]) (fun _ v=>tRaw.va v):=by
 refine CtrL.of_W func190 z ntmps190 z fun A w=>?_
 unfold f130
 refine .s<|.a z z<|.arrNil tChange<|.nil<|.seq<|.s<|.m z z<|.eqNil z u34 z fun nb1 hnb1=>.nil<|.eqr (r':=cond nb1 (cond (decide (List.length ([]:List Change)+a0.length≤CAP)) (some (([]:List Change)++a0)) none) (cond (decide (List.length ([]:List Change)+a0.length≤CAP)) (some (([]:List Change)++a0)) none)) ?_<|.cond z (fun _=>?_) (fun _=>?_)
 ·cases nb1<;>rfl
 ·obtain rfl:=hnb1 (by assumption)
  refine .eqr (r':=some ([]:List Change)) (by simp) ?_
  exact .s<|.an z z<|.toRaw 0 2 z z<|.retL1 (.slice none 0 0) func190 results190 (.tmp z) z (fun _ _ _ h=>h.1) (.d<|.e)
 ·exact .skip<|.s<|.lit (T:=tChange) u34 el56 z z (.nil) z fun v2=>.toArr 0 5 z z z<|.m z z<|.appA (T:=tChange) 0 z z z u34 el56 z fun v3=>.an z z<|.toRaw 0 2 z z<|.retL1 v3 func190 results190 (.tmp z) z (fun _ _ _ h=>h.1) (.d<|.c<|.e)
def f129 (a0:List Change):Option (List Change):=some a0
theorem n129:Nm prog 189:=⟨_,_,func189,by kernel_rfl,z⟩
theorem c129 (vp0:Value)(a0:List Change):CtrL prog 189 [isV vp0] [arrO tChange vp0 a0] (f129 a0) (fun v=>v) (fun q v=>[arrO tChange v q]) (fun _ v=>tRaw.va v):=by
 refine CtrL.of_W func189 z ntmps189 z fun A w=>?_
 unfold f129
 exact .know 0 z<|.s<|.a z z<|.arrNil tChange<|.nil<|.s<|.m z z<|.m z z<|.lenA 1 z z u34 z<|.m z z<|.lenA 1 z z u34 z<|.clip (T:=tChange) 1 z z z z u34 el56 z fun v1=>.an z z<|.toRaw 1 2 z z<|.retL1 v1 func189 results189 (.tmp z) z (fun _ _ _ h=>h.1) (.c<|.d<|.e)
def f109 (a0:List Change):Option (List Change):=(f130 a0).bind fun q1=>(f129 q1).bind fun q3=>some q3
theorem n109:Nm prog 157:=⟨_,_,func157,by kernel_rfl,z⟩
theorem c109 (a0:List Change):CtrL prog 157 [(tL tChange).va a0] [] (f109 a0) (fun v=>v) (fun q v=>[arrO tChange v q]) (fun _ v=>tRaw.va v):=by
 refine CtrL.of_W func157 z ntmps157 z fun A w=>?_
 unfold f109
 exact .s<|.a z z<|.arrNil tChange<|.nil<|.s<|.m z z<|.callL0 (c130 _) n130 z z fun q1 v2=>.unRaw 4 z<|.callS 0 (c129 _ _) z n129 z z fun q3 v4=>.unRaw 5 z<|.an z z<|.toRaw 0 2 z z<|.retL1 v4 func157 results157 (.tmp z) z (fun _ _ _ h=>h.1) (.d<|.c<|.e)
def f111 (a0:List Row):Option (List Row):=cond (decide (List.length ([]:List Row)+a0.length≤CAP)) (some (([]:List Row)++a0)) none
theorem n111:Nm prog 152:=⟨_,_,func152,by kernel_rfl,z⟩
theorem c111 (a0:List Row):CtrL prog 152 [(tL tRow).va a0] [] (f111 a0) (fun v=>v) (fun q v=>[arrO tRow v q]) (fun _ v=>tRaw.va v):=by
 refine CtrL.of_W func152 z ntmps152 z fun A w=>?_
 unfold f111
 refine .s<|.a z z<|.arrNil tRow<|.nil<|.seq<|.s<|.m z z<|.eqNil z u35 z fun nb1 hnb1=>.nil<|.eqr (r':=cond nb1 (cond (decide (List.length ([]:List Row)+a0.length≤CAP)) (some (([]:List Row)++a0)) none) (cond (decide (List.length ([]:List Row)+a0.length≤CAP)) (some (([]:List Row)++a0)) none)) ?_<|.cond z (fun _=>?_) (fun _=>?_)
 ·cases nb1<;>rfl
 ·obtain rfl:=hnb1 (by assumption)
  refine .eqr (r':=some ([]:List Row)) (by simp) ?_
  exact .s<|.an z z<|.toRaw 0 2 z z<|.retL1 (.slice none 0 0) func152 results152 (.tmp z) z (fun _ _ _ h=>h.1) (.d<|.e)
 ·exact .skip<|.s<|.lit (T:=tRow) u35 el37 z z (.nil) z fun v2=>.toArr 0 5 z z z<|.m z z<|.appA (T:=tRow) 0 z z z u35 el37 z fun v3=>.an z z<|.toRaw 0 2 z z<|.retL1 v3 func152 results152 (.tmp z) z (fun _ _ _ h=>h.1) (.d<|.c<|.e)
def f110 (a0:List Row):Option (List Row):=some a0
theorem n110:Nm prog 151:=⟨_,_,func151,by kernel_rfl,z⟩
theorem c110 (vp0:Value)(a0:List Row):CtrL prog 151 [isV vp0] [arrO tRow vp0 a0] (f110 a0) (fun v=>v) (fun q v=>[arrO tRow v q]) (fun _ v=>tRaw.va v):=by
 refine CtrL.of_W func151 z ntmps151 z fun A w=>?_
 unfold f110
 exact .know 0 z<|.s<|.a z z<|.arrNil tRow<|.nil<|.s<|.m z z<|.m z z<|.lenA 1 z z u35 z<|.m z z<|.lenA 1 z z u35 z<|.clip (T:=tRow) 1 z z z z u35 el37 z fun v1=>.an z z<|.toRaw 1 2 z z<|.retL1 v1 func151 results151 (.tmp z) z (fun _ _ _ h=>h.1) (.c<|.d<|.e)
def f77 (a0:List Row):Option (List Row):=(f111 a0).bind fun q1=>(f110 q1).bind fun q3=>some q3
theorem n77:Nm prog 93:=⟨_,_,func93,by kernel_rfl,z⟩
theorem c77 (a0:List Row):CtrL prog 93 [(tL tRow).va a0] [] (f77 a0) (fun v=>v) (fun q v=>[arrO tRow v q]) (fun _ v=>tRaw.va v):=by
 refine CtrL.of_W func93 z ntmps93 z fun A w=>?_
 unfold f77
 exact .s<|.a z z<|.arrNil tRow<|.nil<|.s<|.m z z<|.callL0 (c111 _) n111 z z fun q1 v2=>.unRaw 4 z<|.callS 0 (c110 _ _) z n110 z z fun q3 v4=>.unRaw 5 z<|.an z z<|.toRaw 0 2 z z<|.retL1 v4 func93 results93 (.tmp z) z (fun _ _ _ h=>h.1) (.d<|.c<|.e)
def f80_l1 (a0:Table)(i4:Table):Nat→Int→(List Row)→Option Table
 | 0,_,_=>none
 | n1+1,i7,i8=>cond (decide (i7 < (a0.rows.length:Int))) (cond (decide (0≤i7)&&decide (i7 < (a0.rows.length:Int))) ((f115 ((a0.rows.getD i7.toNat default).vals)).bind fun q10=>cond (decide (0≤i7)&&decide (i7 < (i8.length:Int))) ((f80_l1 a0 i4 n1) (IntKind.i64.wrap (i7+1)) (i8.set i7.toNat ({ (i8.getD i7.toNat default) with vals:=q10 }:Row))) none) none) (some (⟨i4.first,i4.changes,i8,i4.next⟩:Table))
def f80_j1 (fu:Nat)(a0:Table)(i4:Table):Option Table:=f80_l1 a0 i4 fu 0 i4.rows
def f80 (fu:Nat)(a0:Table):Option Table:=(f91 a0.first).bind fun q12=>(f109 a0.changes).bind fun q13=>(f77 a0.rows).bind fun q15=>f80_j1 fu a0 (⟨q12,q13,q15,a0.next⟩:Table)
theorem n80:Nm prog 120:=⟨_,_,func120,by kernel_rfl,z⟩
theorem c80 (fu:Nat)(a0:Table):CtrL prog 120 [tTable.va a0] [] (f80 fu a0) tabV (fun q p=>[arrO tRow p.1 q.rows,appO 10 p.2]) (fun q p=>tTableA.va (⟨q.first,(p.2,q.changes),p.1,q.next⟩:TableA)):=by
 refine CtrL.of_W func120 z ntmps120 z fun A w=>?_
 unfold f80
 refine .s<|.box (T:=tTable) z z fun b1=>.alloc tTableA d0A27 [] zA27 z fun b2=>.nil<|.seq<|.join4 (fun b3 i4 v5 v6=>⟨[(1,isP b1 0,none),(2,isP b2 0,none),(3,isP b3 0,none)],[boxO b2 tTableA (⟨([]:List Col),((.slice none 0 0),([]:List Change)),(.slice none 0 0),(0:Int)⟩:TableA) [],boxO b1 tTable a0 [],appO 10 v6,arrO tRow v5 i4.rows,boxO b3 tTableA (⟨i4.first,(v6,i4.changes),v5,i4.next⟩:TableA) []]⟩) (fun b3 i4 v5 v6=>f80_j1 fu a0 i4) (fun b3 i4 v5 v6=>?_) (fun hj1=>?_)
 ·refine .seq<|.s<|.fp z fa27_2 z<|.lp 1 fTable_2 z z ty25 z<|.lenL z u35 z<|.m z z<|.nil<|.block<|.loop<|.drop (.d<|.c<|.d<|.d<|.d<|.e)<|.keep [2,3,19,20,21] [] z<|(show ∀ (n1:Nat) (i7:Int) (i8:List Row),W _ _ _ _ _ ⟨[(2,isP b2 0,none),(3,isP b3 0,none),(19,(tL tRow).va a0.rows,none),(20,isI .i64 (a0.rows.length:Int),none),(21,isI .i64 i7,none)],[boxO b2 tTableA (⟨([]:List Col),((.slice none 0 0),([]:List Change)),(.slice none 0 0),(0:Int)⟩:TableA) [],appO 10 v6,arrO tRow v5 i8,boxO b3 tTableA (⟨i4.first,(v6,i4.changes),v5,i4.next⟩:TableA) []]⟩ (f80_l1 a0 i4 n1 i7 i8) from ?_) fu _ _
  intro n1
  induction n1 with
  | zero=>exact fun _ _=>.stop
  | succ n1 ih1=>
   intro i7 i8
   refine .inLoop<|.s<|.bin z z z z<|.nil<|.seq<|.cd z ?_ ?_
   ·refine .skip<|.seq<|.block<|.s<|.m z z<|.elemAt z z u35 ty37 z<|.load z ty37 z<|.alloc tRow d0_37 [] z37 z fun b9=>.a z z<|.storeP 0 (Fld.self _) z z z ty37<|.nil<|.pbind fun q10 h2=>?_
    exact .draw 6 [] mix (by kernel_rfl) (.j (fun o=>.fp (o z) fa27_2 z)<|.k (fun p e=>.loadR 4 fTableA_2 (e.op z) (p.get z z) ty25 z)<|.j (fun o=>.m (o z) z)<|.j (fun o=>.fp (o z) fa37_2 z)<|.k (fun p e=>.lp 0 fRow_2 (e.op z) (p.get z z) ty32 z)<|.k (fun p e h=>.bindE h2 (fun r h=>.call0 (CtrL.plain (c115 _)) n115 (e.ops z) z h)<|h)<|.nil) z<|.elemA 3 z z z u35 ty37 z<|.fieldA z fa37_2 z<|.storeA 3 fRow_2 z z z ty32<|.nil<|.inBlock<|.g<|.bin z z z z<|.m z z<|.nil<|.keep [2,3,19,20,21] [] z (.drop (.c<|.d<|.d<|.d<|.d<|.e)<|ih1 _ _)
   ·exact .exit z<|.s<|.lp 3 (Fld.self _) z z ty27 z<|.storeP 0 (Fld.self _) z z z ty27<|.nil<|.pick [2,1,0] z<|.retL1 (v5,v6) func120 results120 (.cell 2 z z ty27) z (fun _ _ _ h=>tabV_of h) (.d<|.d<|.c<|.e)
 ·refine .pbind fun q12 h3=>?_
  refine .pbind fun q13 h4=>?_
  refine .pbind fun q15 h5=>?_
  refine .drawF 13 [] [5,8,11] (some 12) [] mix (by kernel_rfl) (.j (fun o=>.fp (o z) fa27_0 z)<|.k (fun p e=>.lp 1 fTable_0 (e.op z) (p.get z z) ty23 z)<|.k (fun p e h=>.bindE h3 (fun r h=>.call0 (CtrL.plain (c91 _)) n91 (e.ops z) z h)<|h)<|.j (fun o=>.fp (o z) fa27_1 z)<|.k (fun p e=>.lp 1 fTable_1 (e.op z) (p.get z z) ty24 z)<|.skip<|.j (fun o=>.fp (o z) fa27_2 z)<|.k (fun p e=>.lp 1 fTable_2 (e.op z) (p.get z z) ty25 z)<|.skip<|.j (fun o=>.fp (o z) fa27_3 z)<|.k (fun p e=>.lp 1 fTable_3 (e.op z) (p.get z z) ty3 z)<|.skip<|.skip<|.nil) z<|.next ?_ ?_
  ·refine .put 11 z z fun _ _ hE h=>.bindE2 h4 (fun r h=>.callT0 (CtrL.tok (c109 _)) n109 (hE.ops z) z h) fun v14=>.toEnd<|h _ _ (.same<|.same<|.nil)<|.next ?_ ?_
   ·refine .put 14 z z fun _ _ hE h=>.bindE2 h5 (fun r h=>.callL0 (c77 _) n77 (hE.ops z) z h) fun v16=>.toEnd<|h _ _ (.same<|.same<|.nil)<|.next ?_ ?_
    ·exact .put 17 z z fun _ _ hE h=>.buildA z st27 zA27 (.cons fTableA_0 z (vOf (hE.op z))<|.cons fTableA_1 z (kOf (hE.op z))<|.cons fTableA_2 z (vOf (hE.op z))<|.cons fTableA_3 z (vOf (hE.op z))<|.nil) z<|h _ _ (.same<|.same<|.nil)<|.last<|.put 3 z z fun _ _ hE h=>.alloc tTableA d0A27 [] zA27 z fun b11=>.toEnd<|h _ _ (.same<|.same<|.nil)<|.nil<|.storeP 4 (Fld.self _) z z z ty27<|.nil<|.keep [1,2,3] [] z (hj1 _ _ _ _)
    ·exact .put 3 z z fun _ _ hE h=>.alloc tTableA d0A27 [] zA27 z fun b11=>.toEnd<|h _ _ (.same<|.same<|.nil)<|.cons (d:=17) z z fun _ _ hE h=>.buildA z st27 zA27 (.cons fTableA_0 z (vOf (hE.op z))<|.cons fTableA_1 z (kOf (hE.op z))<|.cons fTableA_2 z (vOf (hE.op z))<|.cons fTableA_3 z (vOf (hE.op z))<|.nil) z<|h _ _ (.same<|.same<|.nil)<|.nil<|.storeP 4 (Fld.self _) z z z ty27<|.nil<|.keep [1,2,3] [] z (hj1 _ _ _ _)
   ·exact .put 3 z z fun _ _ hE h=>.alloc tTableA d0A27 [] zA27 z fun b11=>.toEnd<|h _ _ (.same<|.same<|.nil)<|.cons (d:=14) z z fun _ _ hE h=>.bindE2 h5 (fun r h=>.callL0 (c77 _) n77 (hE.ops z) z h) fun v16=>.toEnd<|h _ _ (.same<|.same<|.nil)<|.cons (d:=17) z z fun _ _ hE h=>.buildA z st27 zA27 (.cons fTableA_0 z (vOf (hE.op z))<|.cons fTableA_1 z (kOf (hE.op z))<|.cons fTableA_2 z (vOf (hE.op z))<|.cons fTableA_3 z (vOf (hE.op z))<|.nil) z<|h _ _ (.same<|.same<|.nil)<|.nil<|.pick [0,0,0,1,0] z<|.storeP 4 (Fld.self _) z z z ty27<|.nil<|.keep [1,2,3] [] z (hj1 _ _ _ _)
  ·exact .put 3 z z fun _ _ hE h=>.alloc tTableA d0A27 [] zA27 z fun b11=>.toEnd<|h _ _ (.same<|.same<|.nil)<|.cons (d:=11) z z fun _ _ hE h=>.bindE2 h4 (fun r h=>.callT0 (CtrL.tok (c109 _)) n109 (hE.ops z) z h) fun v14=>.toEnd<|h _ _ (.same<|.same<|.nil)<|.cons (d:=14) z z fun _ _ hE h=>.bindE2 h5 (fun r h=>.callL0 (c77 _) n77 (hE.ops z) z h) fun v16=>.toEnd<|h _ _ (.same<|.same<|.nil)<|.cons (d:=17) z z fun _ _ hE h=>.buildA z st27 zA27 (.cons fTableA_0 z (vOf (hE.op z))<|.cons fTableA_1 z (kOf (hE.op z))<|.cons fTableA_2 z (vOf (hE.op z))<|.cons fTableA_3 z (vOf (hE.op z))<|.nil) z<|h _ _ (.same<|.same<|.nil)<|.nil<|.pick [0,0,1,1,0] z<|.storeP 4 (Fld.self _) z z z ty27<|.nil<|.keep [1,2,3] [] z (hj1 _ _ _ _)
def f84 (a0:Row)(a1:Int):Option Bool:=some (decide (a0.id=a1))
theorem n84:Nm prog 166:=⟨_,_,func166,by kernel_rfl,z⟩
theorem c84 (a0:Row)(a1:Int):Ctr prog 166 [tRow.va a0,isAt (tI .i64) a1] [] (f84 a0 a1) (fun _ _=>[]) (fun q=>isB q):=by
 refine Ctr.of_W func166 z ntmps166 z fun A w=>?_
 unfold f84
 exact .s<|.box (T:=tRow) z z fun b1=>.an z z<|.s<|.fp z fa37_0 z<|.lp 0 fRow_0 z z ty3 z<|.load z ty3 z<|.bin z z z z<|.an z z<|.ret1 func166 results166 (.tmp z) z (fun _ _=>.c<|.e)
def f83_l1 (a0:List Row)(a1:Row→Option Bool):Nat→Int→Option Int
 | 0,_=>none
 | n1+1,i1=>cond (decide (i1 < (a0.length:Int))) (cond (decide (0≤i1)&&decide (i1 < (a0.length:Int))) ((a1 (a0.getD i1.toNat default)).bind fun q2=>cond q2 (some i1) ((f83_l1 a0 a1 n1) (IntKind.i64.wrap (i1+1)))) none) (some (-1))
def f83 (fu:Nat)(a0:List Row)(a1:Row→Option Bool):Option Int:=f83_l1 a0 a1 fu 0
theorem n83:Nm prog 165:=⟨_,_,func165,by kernel_rfl,z⟩
theorem c83 (fu : Nat)(a0 : List Row)(a1 : Row → Option Bool)(g1 : Nat)(k1 : List VA)(hn1 : ∃ fn c, prog.funcs[g1]? = some fn ∧ (fn.name == "runtime.NumGoroutine") = false ∧ fn.body = some c)(hc1 : ∀ (x0 : Row), Ctr prog g1 ([tRow.va x0] ++ k1) [] (a1 x0) (fun _ _ => []) (fun q => isB q)) : Ctr prog 165 [(tL tRow).va a0, isClo g1 k1] [] (f83 fu a0 a1) (fun _ _ => []) (fun q => isI .i64 q) := by
 refine Ctr.of_W func165 z ntmps165 z fun A w=>?_
 unfold f83
 refine .s<|.an z z<|.seq<|.s<|.m z z<|.lenL z u35 z<|.m z z<|.nil<|.block<|.loop<|.keep [0,1,7,8] [] z<|(show ∀ (n1:Nat) (i1:Int),W _ _ _ _ _ ⟨[(0,(tL tRow).va a0,none),(1,isClo g1 k1,none),(7,isI .i64 (a0.length:Int),none),(8,isI .i64 i1,none)],[]⟩ (f83_l1 a0 a1 n1 i1) from ?_) fu _
 intro n1
 induction n1 with
 | zero=>exact fun _=>.stop
 | succ n1 ih1=>
  intro i1
  refine .inLoop<|.s<|.bin z z z z<|.nil<|.seq<|.cd z ?_ ?_
  ·refine .skip<|.seq<|.block<|.s<|.m z z<|.an z z<|.s<|.m z z<|.m z z<|.m z z<|.elemAt z z u35 ty37 z<|.load z ty37 z<|.callC z (hc1 _) hn1 z z fun q2=>.nil<|.cd z ?_ ?_
   ·exact .s<|.m z z<|.an z z<|.ret1 func165 results165 (.tmp z) z (fun _ _=>.e)
   ·exact .skip<|.inBlock<|.g<|.bin z z z z<|.m z z<|.nil<|.keep [0,1,7,8] [] z (ih1 _)
  ·exact .exit z<|.s<|.an z z<|.ret1 func165 results165 (.tmp z) z (fun _ _=>.e)
def f48 (fu:Nat)(a0:Table)(a1:Int):Option Int:=(f83 fu a0.rows (fun x0=>f84 x0 a1)).bind fun q3=>some q3
theorem n48:Nm prog 110:=⟨_,_,func110,by kernel_rfl,z⟩
theorem c48 (fu:Nat)(a0:Table)(a1:Int):Ctr prog 110 [tTable.va a0,isI .i64 a1] [] (f48 fu a0 a1) (fun _ _=>[]) (fun q=>isI .i64 q):=by
 refine Ctr.of_W func110 z ntmps110 z fun A w=>?_
 unfold f48
 exact .s<|.box (T:=tTable) z z fun b1=>.box (T:=(tI .i64)) z z fun b2=>.an z z<|.s<|.fp z fa27_2 z<|.lp 1 fTable_2 z z ty25 z<|.frzP 0 3 z z<|.makeF z z<|.call0 (c83 fu _ (fun x0=>f84 x0 a1) 166 [isAt (tI .i64) a1] n84 (fun x0=>c84 x0 a1)) n83 z z fun q3=>.an z z<|.ret1 func110 results110 (.tmp z) z (fun _ _=>.c<|.e)
end Go.Proofs.YtdpigighgmipfaaGreatDoor
