/- Functions of the program: what each answers, and that the machine answers so. -/
import Derived.Test.YtlkhmcajnfombaaGreatDoorQ1007A7
import Derived.KernelRfl
set_option linter.unusedVariables false
set_option linter.unusedSimpArgs false
set_option linter.deprecated false
set_option linter.unusedSectionVars false
set_option linter.all false
namespace Go.Proofs.YtlkhmcajnfombaaGreatDoor
open Go Go.HL
def f79_j1 (i6 : List Val) : Option (List Val) := (f115 i6).bind fun q7 => some q7
def f79 (fu : Nat) (a0 : List Col) (a1 : Change) (a2 : List Val) : Option (List Val) := (f115 a2).bind fun q2 => (f68 fu a0 a1.name).bind fun q4 => cond (decide (a1.kind = 1)) (cond (decide (List.length q2 + List.length ([a1.col.def_] : List Val) ≤ CAP)) (f79_j1 (q2 ++ ([a1.col.def_] : List Val))) none) (cond (decide (a1.kind = 2)) ((f116 q2 q4 (IntKind.i64.wrap (q4 + 1))).bind fun q10 => f79_j1 q10) (cond (decide (a1.kind = 4)) (cond (decide (0 ≤ q4) && decide (q4 < (List.length q2 : Int))) ((f114 fu (q2.getD q4.toNat default) a1.col.kind).bind fun q12 => cond (decide (0 ≤ q4) && decide (q4 < (List.length q2 : Int))) (f79_j1 (q2.set q4.toNat q12)) none) none) (f79_j1 q2)))
theorem n79 : ∃ fn c, Tryz.prog.funcs[106]? = some fn ∧ (fn.name == "runtime.NumGoroutine") = false ∧ fn.body = some c := ⟨_, _, Tryz.func106, by kernel_rfl, rfl⟩
theorem c79 (fu : Nat) (a0 : List Col) (a1 : Change) (a2 : List Val) : CtrL Tryz.prog 106 [(tL tCol).va a0, tChange.va a1, (tL tVal).va a2] [] (f79 fu a0 a1 a2) (fun v => v) (fun q v => [arrO tVal v q]) (fun _ v => tRaw.va v) := by
  refine CtrL.of_W Tryz.func106 rfl Tryz.ntmps106 rfl fun A w => ?_
  unfold f79
  refine .seq <| .region <| .box (T := tChange) rfl rfl fun b1 => .assign rfl rfl <| .arrNil tVal <| .nil ?_
  refine .seq <| .region <| .move rfl rfl <| .callL0 (c115 _) n115 rfl rfl fun q2 v3 => .unRaw 10 rfl <| .assign rfl rfl <| .nil ?_
  refine .seq <| .region <| .move rfl rfl <| .fieldP rfl fa56_1 rfl <| .loadP 2 fChange_1 rfl rfl ty9 rfl <| .call0 (c68 fu _ _) n68 rfl rfl fun q4 => .assign rfl rfl <| .nil ?_
  refine .seq <| .seq <| .region <| .fieldP rfl fa56_0 rfl <| .loadP 2 fChange_0 rfl rfl ty3 rfl <| .nil ?_
  refine .block <| .seq <| .region <| .bin rfl rfl rfl rfl <| .assign rfl rfl <| .nil ?_
  refine .join2 (fun v5 i6 => ⟨[(7, isV v5, some v5)], [arrO tVal v5 i6]⟩) (fun v5 i6 => f79_j1 i6) (fun v5 i6 => ?_) (fun hj1 => ?_)
  · refine .inBlock <| .seq <| .region <| .move rfl rfl <| .frz 0 7 rfl rfl <| .also 45 7 rfl rfl <| .callL0 (c115 _) n115 rfl rfl fun q7 v8 => .unRaw 46 rfl <| .assign rfl rfl <| .nil ?_
    exact .toRaw 0 6 rfl rfl <| .retL1 v8 Tryz.func106 Tryz.results106 (.tmp rfl) rfl (fun _ _ _ h => h.1) (.cons_cons _ <| .cons _ <| .slnil)
  · refine .cond rfl (fun _ => ?_) (fun _ => ?_)
    · refine .region <| .move rfl rfl <| .fieldP rfl fa56_3 rfl <| .fieldP rfl fa52_4 rfl <| .loadP 2 (fChange_3.comp fCol_4) rfl rfl ty47 rfl <| .litN (T := tVal) Tryz.underlying42 el47 rfl rfl (.cons rfl <| .nil) rfl <| .appA (T := tVal) 0 rfl rfl rfl Tryz.underlying42 el47 rfl fun v9 => .assign rfl rfl <| .nil ?_
      exact .keep [] [7] rfl (.drop (.cons_cons _ <| .cons _ <| .cons _ <| .slnil) <| hj1 _ _)
    · refine .seq <| .region <| .bin rfl rfl rfl rfl <| .assign rfl rfl <| .nil ?_
      refine .cond rfl (fun _ => ?_) (fun _ => ?_)
      · refine .region <| .move rfl rfl <| .move rfl rfl <| .move rfl rfl <| .bin rfl rfl rfl rfl <| .callS 0 (c116 _ _ _ _) rfl n116 rfl rfl fun q10 v11 => .unRaw 31 rfl <| .assign rfl rfl <| .nil ?_
        exact .keep [] [7] rfl (.drop (.cons_cons _ <| .cons _ <| .cons _ <| .slnil) <| hj1 _ _)
      · refine .seq <| .region <| .bin rfl rfl rfl rfl <| .assign rfl rfl <| .nil ?_
        refine .cond rfl (fun _ => ?_) (fun _ => ?_)
        · refine .pT fun h1 => ?_
          refine .draw 9 [0, 1] mix (by kernel_rfl) (.cons (fun _ _ _ hP hE h => .move (hE.op rfl) rfl <| h) <| .cons (fun _ _ _ hP hE h => .move (hE.op rfl) rfl <| h) <| .cons (fun _ _ _ hP hE h => .move (hE.op rfl) rfl <| h) <| .cons (fun _ _ _ hP hE h => .move (hE.op rfl) rfl <| h) <| .cons (fun _ _ _ hP hE h => .useC h1 <| .elemA 0 (hE.op rfl) (hE.op rfl) (hP.get rfl rfl) Tryz.underlying42 ty47 rfl <| h) <| .cons (fun _ _ _ hP hE h => .loadA 0 (Fld.self _) (hE.op rfl) (hP.get rfl rfl) ty47 rfl <| h) <| .cons (fun _ _ _ hP hE h => .fieldP (hE.op rfl) fa56_3 rfl <| h) <| .cons (fun _ _ _ hP hE h => .fieldP (hE.op rfl) fa52_1 rfl <| h) <| .cons (fun _ _ _ hP hE h => .loadP 2 (fChange_3.comp fCol_1) (hE.op rfl) (hP.get rfl rfl) ty3 rfl <| h) <| .nil) rfl <| .call0 (c114 fu _ _) n114 rfl rfl fun q12 => .elemA 0 rfl rfl rfl Tryz.underlying42 ty47 rfl <| .storeA 0 (Fld.self _) rfl rfl rfl ty47 <| .nil ?_
          exact .keep [] [7] rfl (.drop (.cons_cons _ <| .cons _ <| .cons _ <| .slnil) <| hj1 _ _)
        · exact .skip <| .keep [] [7] rfl (.drop (.cons_cons _ <| .cons _ <| .cons _ <| .slnil) <| hj1 _ _)
def f85_l1 (fu : Nat) (a1 : List Change) : Nat → (List Col) → Int → (List Val) → Option (List Val)
  | 0, _, _, _ => none
  | n1 + 1, i3, i4, i6 => cond (decide (i4 < (List.length a1 : Int))) (cond (decide (0 ≤ i4) && decide (i4 < (List.length a1 : Int))) ((f79 fu i3 (a1.getD i4.toNat default) i6).bind fun q8 => (f78 fu i3 (a1.getD i4.toNat default)).bind fun q10 => (f85_l1 fu a1 n1) q10.1 (IntKind.i64.wrap (i4 + 1)) q8) none) (some i6)
def f85 (fu : Nat) (a0 : List Col) (a1 : List Change) (a2 : List Val) : Option (List Val) := (f115 a2).bind fun q1 => f85_l1 fu a1 fu a0 0 q1
theorem n85 : ∃ fn c, Tryz.prog.funcs[80]? = some fn ∧ (fn.name == "runtime.NumGoroutine") = false ∧ fn.body = some c := ⟨_, _, Tryz.func80, by kernel_rfl, rfl⟩
theorem c85 (fu : Nat) (a0 : List Col) (a1 : List Change) (a2 : List Val) : CtrL Tryz.prog 80 [(tL tCol).va a0, (tL tChange).va a1, (tL tVal).va a2] [] (f85 fu a0 a1 a2) (fun v => v) (fun q v => [arrO tVal v q]) (fun _ v => tRaw.va v) := by
  refine CtrL.of_W Tryz.func80 rfl Tryz.ntmps80 rfl fun A w => ?_
  unfold f85
  refine .seq <| .region <| .assign rfl rfl <| .arrNil tVal <| .nil ?_
  refine .seq <| .region <| .move rfl rfl <| .callL0 (c115 _) n115 rfl rfl fun q1 v2 => .unRaw 11 rfl <| .assign rfl rfl <| .nil ?_
  refine .seq <| .seq <| .region <| .move rfl rfl <| .lenL rfl Tryz.underlying24 rfl <| .move rfl rfl <| .nil ?_
  refine .block <| .loop <| .drop (.cons_cons _ <| .cons _ <| .slnil) <| .keep [0, 12, 13, 14] [7] rfl ?_
  refine (show ∀ (n1 : Nat) (i3 : List Col) (i4 : Int) (v5 : Value) (i6 : List Val), W _ _ _ _ _ ⟨[(0, (tL tCol).va i3, none), (12, (tL tChange).va a1, none), (13, isI .i64 (List.length a1 : Int), none), (14, isI .i64 i4, none), (7, isV v5, some v5)], [arrO tVal v5 i6]⟩ (f85_l1 fu a1 n1 i3 i4 i6) from ?_) fu _ _ _ _
  intro n1
  induction n1 with
  | zero => exact fun _ _ _ _ => .stop
  | succ n1 ih1 =>
    intro i3 i4 v5 i6
    refine .inLoop <| .seq <| .region <| .bin rfl rfl rfl rfl <| .nil ?_
    refine .seq <| .cond rfl (fun _ => ?_) (fun _ => ?_)
    · refine .skip <| .seq <| .block <| .seq <| .region <| .elemAt rfl rfl Tryz.underlying24 ty56 rfl <| .load rfl ty56 rfl <| .alloc tChange d0_56 [] z56 rfl fun b7 => .storeP 0 (Fld.self _) rfl rfl rfl ty56 <| .nil ?_
      refine .seq <| .region <| .move rfl rfl <| .loadP 0 (Fld.self _) rfl rfl ty56 rfl <| .move rfl rfl <| .frz 1 7 rfl rfl <| .also 20 7 rfl rfl <| .callL0 (c79 fu _ _ _) n79 rfl rfl fun q8 v9 => .unRaw 21 rfl <| .assign rfl rfl <| .nil ?_
      refine .region <| .move rfl rfl <| .loadP 1 (Fld.self _) rfl rfl ty56 rfl <| .call0 (c78 fu _ _) n78 rfl rfl fun q10 => .move rfl rfl <| .extract rfl rfl rfl <| .extract rfl rfl rfl <| .assign rfl rfl <| .nil ?_
      refine .inBlock <| .region <| .bin rfl rfl rfl rfl <| .move rfl rfl <| .nil ?_
      exact .keep [0, 12, 13, 14] [7] rfl (.drop (.cons_cons _ <| .cons _ <| .cons _ <| .slnil) <| ih1 _ _ _ _)
    · refine .exit rfl <| .seq <| .region <| .move rfl rfl <| .assign rfl rfl <| .nil ?_
      exact .toRaw 0 6 rfl rfl <| .retL1 v5 Tryz.func80 Tryz.results80 (.tmp rfl) rfl (fun _ _ _ h => h.1) (.cons_cons _ <| .slnil)
def f49 (fu : Nat) (a0 : Table) (a1 : Row) : Option (List Val) := cond (decide (0 ≤ (0 : Int)) && decide ((0 : Int) ≤ a1.ver) && decide (a1.ver ≤ (List.length a0.changes : Int))) ((f57 fu a0.first ((a0.changes.take a1.ver.toNat).drop (0 : Int).toNat)).bind fun q3 => cond (decide (0 ≤ a1.ver) && decide (a1.ver ≤ (List.length a0.changes : Int)) && decide ((List.length a0.changes : Int) ≤ (List.length a0.changes : Int))) ((f85 fu q3.1 ((a0.changes.take (List.length a0.changes : Int).toNat).drop a1.ver.toNat) a1.vals).bind fun q4 => some q4) none) none
theorem n49 : ∃ fn c, Tryz.prog.funcs[50]? = some fn ∧ (fn.name == "runtime.NumGoroutine") = false ∧ fn.body = some c := ⟨_, _, Tryz.func50, by kernel_rfl, rfl⟩
theorem c49 (fu : Nat) (a0 : Table) (a1 : Row) : CtrL Tryz.prog 50 [tTable.va a0, tRow.va a1] [] (f49 fu a0 a1) (fun v => v) (fun q v => [arrO tVal v q]) (fun _ v => tRaw.va v) := by
  refine CtrL.of_W Tryz.func50 rfl Tryz.ntmps50 rfl fun A w => ?_
  unfold f49
  refine .seq <| .region <| .box (T := tTable) rfl rfl fun b1 => .box (T := tRow) rfl rfl fun b2 => .assign rfl rfl <| .arrNil tVal <| .nil ?_
  refine .seq <| .pT fun h1 => ?_
  refine .draw 7 [] mix (by kernel_rfl) (.cons (fun _ _ _ hP hE h => .fieldP (hE.op rfl) fa27_0 rfl <| h) <| .cons (fun _ _ _ hP hE h => .loadP 2 fTable_0 (hE.op rfl) (hP.get rfl rfl) ty23 rfl <| h) <| .cons (fun _ _ _ hP hE h => .fieldP (hE.op rfl) fa27_1 rfl <| h) <| .cons (fun _ _ _ hP hE h => .loadP 2 fTable_1 (hE.op rfl) (hP.get rfl rfl) ty24 rfl <| h) <| .cons (fun _ _ _ hP hE h => .fieldP (hE.op rfl) fa37_1 rfl <| h) <| .cons (fun _ _ _ hP hE h => .loadP 1 fRow_1 (hE.op rfl) (hP.get rfl rfl) ty3 rfl <| h) <| .cons (fun _ _ _ hP hE h => .useC h1 <| .cut (hE.op rfl) Tryz.underlying24 el56 rfl ⟨_, (hE.op rfl)⟩ rfl <| h) <| .nil) rfl <| .call0 (c57 fu _ _) n57 rfl rfl fun q3 => .move rfl rfl <| .extract rfl rfl rfl <| .extract rfl rfl rfl <| .assign rfl rfl <| .assign rfl rfl <| .nil ?_
  refine .seq <| .pT fun h2 => ?_
  refine .draw 8 [] mix (by kernel_rfl) (.cons (fun _ _ _ hP hE h => .move (hE.op rfl) rfl <| h) <| .cons (fun _ _ _ hP hE h => .fieldP (hE.op rfl) fa27_1 rfl <| h) <| .cons (fun _ _ _ hP hE h => .loadP 2 fTable_1 (hE.op rfl) (hP.get rfl rfl) ty24 rfl <| h) <| .cons (fun _ _ _ hP hE h => .fieldP (hE.op rfl) fa37_1 rfl <| h) <| .cons (fun _ _ _ hP hE h => .loadP 1 fRow_1 (hE.op rfl) (hP.get rfl rfl) ty3 rfl <| h) <| .cons (fun _ _ _ hP hE h => .useC h2 <| .cut (hE.op rfl) Tryz.underlying24 el56 ⟨_, (hE.op rfl)⟩ rfl rfl <| h) <| .cons (fun _ _ _ hP hE h => .fieldP (hE.op rfl) fa37_2 rfl <| h) <| .cons (fun _ _ _ hP hE h => .loadP 1 fRow_2 (hE.op rfl) (hP.get rfl rfl) ty32 rfl <| h) <| .nil) rfl <| .callL0 (c85 fu _ _ _) n85 rfl rfl fun q4 v5 => .unRaw 26 rfl <| .assign rfl rfl <| .nil ?_
  exact .toRaw 0 4 rfl rfl <| .retL1 v5 Tryz.func50 Tryz.results50 (.tmp rfl) rfl (fun _ _ _ h => h.1) (.cons_cons _ <| .cons _ <| .cons _ <| .cons _ <| .slnil)
def f66 (fu : Nat) (a0 : Table) : Option (List Col) := (f57 fu a0.first a0.changes).bind fun q2 => some q2.1
theorem n66 : ∃ fn c, Tryz.prog.funcs[57]? = some fn ∧ (fn.name == "runtime.NumGoroutine") = false ∧ fn.body = some c := ⟨_, _, Tryz.func57, by kernel_rfl, rfl⟩
theorem c66 (fu : Nat) (a0 : Table) : Ctr Tryz.prog 57 [tTable.va a0] [] (f66 fu a0) (fun _ _ => []) (fun q => (tL tCol).va q) := by
  refine Ctr.of_W Tryz.func57 rfl Tryz.ntmps57 rfl fun A w => ?_
  unfold f66
  refine .seq <| .region <| .box (T := tTable) rfl rfl fun b1 => .assignNil tCol rfl <| .nil ?_
  refine .seq <| .region <| .fieldP rfl fa27_0 rfl <| .loadP 0 fTable_0 rfl rfl ty23 rfl <| .fieldP rfl fa27_1 rfl <| .loadP 0 fTable_1 rfl rfl ty24 rfl <| .call0 (c57 fu _ _) n57 rfl rfl fun q2 => .move rfl rfl <| .extract rfl rfl rfl <| .extract rfl rfl rfl <| .assign rfl rfl <| .assign rfl rfl <| .nil ?_
  refine .seq <| .region <| .move rfl rfl <| .assign rfl rfl <| .nil ?_
  exact .ret1 Tryz.func57 Tryz.results57 (.tmp rfl) rfl (fun _ _ => .cons _ <| .slnil)
def f59_j4 (i3 : Int) (i6 : Int) (i7 : List Val) (q9 : (List Val)) (rec1 : Int → Option Bool) (rec2 : Int → (List Val) → Option Bool) (i11 : Bool) : Option Bool := cond i11 (some false) (rec2 (IntKind.i64.wrap (i6 + 1)) (cond (memK (q9.getD i3.toNat default) i7) i7 (i7 ++ [q9.getD i3.toNat default])))
def f59_l2 (fu : Nat) (a0 : Table) (q2 : (List Col)) (i3 : Int) (rec1 : Int → Option Bool) : Nat → Int → (List Val) → Option Bool
  | 0, _, _ => none
  | n2 + 1, i6, i7 => cond (decide (i6 < (List.length a0.rows : Int))) (cond (decide (0 ≤ i6) && decide (i6 < (List.length a0.rows : Int))) ((f49 fu a0 (a0.rows.getD i6.toNat default)).bind fun q9 => cond (decide (0 ≤ i3) && decide (i3 < (List.length q9 : Int))) (cond ((q2.getD i3.toNat default).once) (cond (!decide (((q9.getD i3.toNat default).kind) = 0)) (f59_j4 i3 i6 i7 q9 rec1 (f59_l2 fu a0 q2 i3 rec1 n2) (memK (q9.getD i3.toNat default) i7)) (f59_j4 i3 i6 i7 q9 rec1 (f59_l2 fu a0 q2 i3 rec1 n2) false)) (f59_j4 i3 i6 i7 q9 rec1 (f59_l2 fu a0 q2 i3 rec1 n2) false)) none) none) (rec1 (IntKind.i64.wrap (i3 + 1)))
def f59_l1 (fu : Nat) (a0 : Table) (q2 : (List Col)) : Nat → Int → Option Bool
  | 0, _ => none
  | n1 + 1, i3 => cond (decide (i3 < (List.length q2 : Int))) (cond (decide (0 ≤ i3) && decide (i3 < (List.length q2 : Int))) (f59_l2 fu a0 q2 i3 (f59_l1 fu a0 q2 n1) fu 0 ([] : List Val)) none) (some true)
def f59 (fu : Nat) (a0 : Table) : Option Bool := (f66 fu a0).bind fun q2 => f59_l1 fu a0 q2 fu 0
theorem n59 : ∃ fn c, Tryz.prog.funcs[51]? = some fn ∧ (fn.name == "runtime.NumGoroutine") = false ∧ fn.body = some c := ⟨_, _, Tryz.func51, by kernel_rfl, rfl⟩
theorem c59 (fu : Nat) (a0 : Table) : Ctr Tryz.prog 51 [tTable.va a0] [] (f59 fu a0) (fun _ _ => []) (fun q => isB q) := by
  refine Ctr.of_W Tryz.func51 rfl Tryz.ntmps51 rfl fun A w => ?_
  unfold f59
  refine .seq <| .region <| .box (T := tTable) rfl rfl fun b1 => .assign rfl rfl <| .nil ?_
  refine .seq <| .seq <| .region <| .loadP 0 (Fld.self _) rfl rfl ty27 rfl <| .call0 (c66 fu _) n66 rfl rfl fun q2 => .lenL rfl Tryz.underlying23 rfl <| .move rfl rfl <| .nil ?_
  refine .block <| .loop <| .keep [1, 10, 11, 12] [] rfl ?_
  refine (show ∀ (n1 : Nat) (i3 : Int), W _ _ _ _ _ ⟨[(1, isP b1 0, none), (10, (tL tCol).va q2, none), (11, isI .i64 (List.length q2 : Int), none), (12, isI .i64 i3, none)], [boxO b1 tTable a0 []]⟩ (f59_l1 fu a0 q2 n1 i3) from ?_) fu _
  intro n1
  induction n1 with
  | zero => exact fun _ => .stop
  | succ n1 ih1 =>
    intro i3
    refine .inLoop <| .seq <| .region <| .bin rfl rfl rfl rfl <| .nil ?_
    refine .seq <| .cond rfl (fun _ => ?_) (fun _ => ?_)
    · refine .skip <| .seq <| .block <| .seq <| .region <| .move rfl rfl <| .elemAt rfl rfl Tryz.underlying23 ty52 rfl <| .load rfl ty52 rfl <| .alloc tCol d0_52 [] z52 rfl fun b4 => .assign rfl rfl <| .storeP 0 (Fld.self _) rfl rfl rfl ty52 <| .nil ?_
      refine .seq <| .region <| .makeMap mk47 rfl fun v5 => .assign rfl rfl <| .nil ?_
      refine .seq <| .region <| .fieldP rfl fa27_2 rfl <| .loadP 2 fTable_2 rfl rfl ty25 rfl <| .lenL rfl Tryz.underlying25 rfl <| .move rfl rfl <| .nil ?_
      refine .block <| .loop <| .keep [1, 3, 4, 10, 11, 12, 19, 20, 21] [5] rfl ?_
      refine (show ∀ (n2 : Nat) (i6 : Int) (i7 : List Val), W _ _ _ _ _ ⟨[(1, isP b1 0, none), (3, isI .i64 i3, none), (4, isP b4 0, none), (10, (tL tCol).va q2, none), (11, isI .i64 (List.length q2 : Int), none), (12, isI .i64 i3, none), (19, (tL tRow).va a0.rows, none), (20, isI .i64 (List.length a0.rows : Int), none), (21, isI .i64 i6, none), (5, isV v5, some v5)], [mapO mk47 v5 i7, boxO b4 tCol (q2.getD i3.toNat default) [], boxO b1 tTable a0 []]⟩ (f59_l2 fu a0 q2 i3 (f59_l1 fu a0 q2 n1) n2 i6 i7) from ?_) fu _ _
      intro n2
      induction n2 with
      | zero => exact fun _ _ => .stop
      | succ n2 ih2 =>
        intro i6 i7
        refine .inLoop <| .seq <| .region <| .bin rfl rfl rfl rfl <| .nil ?_
        refine .seq <| .cond rfl (fun _ => ?_) (fun _ => ?_)
        · refine .skip <| .seq <| .block <| .seq <| .region <| .elemAt rfl rfl Tryz.underlying25 ty37 rfl <| .load rfl ty37 rfl <| .alloc tRow d0_37 [] z37 rfl fun b8 => .storeP 0 (Fld.self _) rfl rfl rfl ty37 <| .nil ?_
          refine .seq <| .region <| .loadP 3 (Fld.self _) rfl rfl ty27 rfl <| .loadP 0 (Fld.self _) rfl rfl ty37 rfl <| .call0 (CtrL.plain (c49 fu _ _)) n49 rfl rfl fun q9 => .move rfl rfl <| .elemAt rfl rfl Tryz.underlying42 ty47 rfl <| .load rfl ty47 rfl <| .alloc tVal d0_47 [] z47 rfl fun b10 => .storeP 0 (Fld.self _) rfl rfl rfl ty47 <| .nil ?_
          refine .seq <| .seq <| .join1 (fun i11 => ⟨[(1, isP b1 0, none), (3, isI .i64 i3, none), (4, isP b4 0, none), (8, isP b10 0, none), (10, (tL tCol).va q2, none), (11, isI .i64 (List.length q2 : Int), none), (12, isI .i64 i3, none), (19, (tL tRow).va a0.rows, none), (20, isI .i64 (List.length a0.rows : Int), none), (21, isI .i64 i6, none), (42, isB i11, none), (5, isV v5, some v5)], [boxO b10 tVal (q9.getD i3.toNat default) [], mapO mk47 v5 i7, boxO b4 tCol (q2.getD i3.toNat default) [], boxO b1 tTable a0 []]⟩) (fun i11 => f59_j4 i3 i6 i7 q9 (f59_l1 fu a0 q2 n1) (f59_l2 fu a0 q2 i3 (f59_l1 fu a0 q2 n1) n2) i11) (fun i11 => ?_) (fun hj4 => ?_)
          · refine .cond rfl (fun _ => ?_) (fun _ => ?_)
            · refine .seq <| .region <| .assign rfl rfl <| .nil ?_
              exact .ret1 Tryz.func51 Tryz.results51 (.tmp rfl) rfl (fun _ _ => .cons _ <| .cons _ <| .cons _ <| .cons _ <| .slnil)
            · refine .skip <| .region <| .move rfl rfl <| .loadP 0 (Fld.self _) rfl rfl ty47 rfl <| .mapAdd (T := tVal) 1 rfl rfl rfl Tryz.underlying107 key47 <| .nil ?_
              refine .inBlock <| .region <| .bin rfl rfl rfl rfl <| .move rfl rfl <| .nil ?_
              exact .keep [1, 3, 4, 10, 11, 12, 19, 20, 21] [5] rfl (.drop (.cons _ <| .cons_cons _ <| .cons_cons _ <| .cons_cons _ <| .slnil) <| ih2 _ _)
          · refine .region <| .fieldP rfl fa52_3 rfl <| .loadP 3 fCol_3 rfl rfl ty4 rfl <| .move rfl rfl <| .split 33 rfl (fun _ => ?_) (fun _ => ?_)
            · refine .on rfl rfl <| .fieldP rfl fa47_0 rfl <| .on rfl rfl <| .loadP 0 fVal_0 rfl rfl ty3 rfl <| .on rfl rfl <| .bin rfl rfl rfl rfl <| .pickT rfl rfl rfl <| .move rfl rfl <| .split 38 rfl (fun _ => ?_) (fun _ => ?_)
              · refine .on rfl rfl <| .move rfl rfl <| .on rfl rfl <| .loadP 0 (Fld.self _) rfl rfl ty47 rfl <| .on rfl rfl <| .lookup (T := tVal) 2 rfl rfl rfl Tryz.underlying107 key47 (by kernel_rfl) rfl <| .pickT rfl rfl rfl <| .nil ?_
                exact .keep [1, 3, 4, 8, 10, 11, 12, 19, 20, 21, 42] [5] rfl (.drop (.cons_cons _ <| .cons _ <| .cons_cons _ <| .cons_cons _ <| .cons_cons _ <| .slnil) <| hj4 _)
              · refine .off rfl rfl rfl <| .off rfl rfl rfl <| .off rfl rfl rfl <| .pickF rfl rfl rfl <| .nil ?_
                exact .keep [1, 3, 4, 8, 10, 11, 12, 19, 20, 21, 42] [5] rfl (.drop (.cons_cons _ <| .cons _ <| .cons_cons _ <| .cons_cons _ <| .cons_cons _ <| .slnil) <| hj4 _)
            · refine .off rfl rfl rfl <| .off rfl rfl rfl <| .off rfl rfl rfl <| .pickF rfl rfl rfl <| .move rfl rfl <| .off rfl rfl rfl <| .off rfl rfl rfl <| .off rfl rfl rfl <| .pickF rfl rfl rfl <| .nil ?_
              exact .keep [1, 3, 4, 8, 10, 11, 12, 19, 20, 21, 42] [5] rfl (.drop (.cons_cons _ <| .cons _ <| .cons_cons _ <| .cons_cons _ <| .cons_cons _ <| .slnil) <| hj4 _)
        · refine .exit rfl <| .inBlock <| .region <| .bin rfl rfl rfl rfl <| .move rfl rfl <| .nil ?_
          exact .keep [1, 10, 11, 12] [] rfl (.drop (.cons _ <| .cons _ <| .cons_cons _ <| .slnil) <| ih1 _)
    · refine .exit rfl <| .seq <| .region <| .assign rfl rfl <| .nil ?_
      exact .ret1 Tryz.func51 Tryz.results51 (.tmp rfl) rfl (fun _ _ => .cons _ <| .slnil)
def f19_j5 (a0 : Table) (i5 : Int) (rec1 : Int → Int → Option Bool) (i9 : Bool) : Option Bool := cond i9 (some false) (rec1 ((a0.rows.getD i5.toNat default).id) (IntKind.i64.wrap (i5 + 1)))
def f19_j4 (fu : Nat) (a0 : Table) (q2 : (List Col) × Bool) (i5 : Int) (rec1 : Int → Int → Option Bool) (i7 : Bool) : Option Bool := cond i7 (some false) (cond (decide (0 ≤ (0 : Int)) && decide ((0 : Int) ≤ ((a0.rows.getD i5.toNat default).ver)) && decide (((a0.rows.getD i5.toNat default).ver) ≤ (List.length a0.changes : Int))) ((f57 fu a0.first ((a0.changes.take ((a0.rows.getD i5.toNat default).ver).toNat).drop (0 : Int).toNat)).bind fun q8 => (f58 fu q8.1 ((a0.rows.getD i5.toNat default).vals)).bind fun q10 => cond (!q10) (f19_j5 a0 i5 rec1 true) ((f49 fu a0 (a0.rows.getD i5.toNat default)).bind fun q11 => (f58 fu q2.1 q11).bind fun q12 => f19_j5 a0 i5 rec1 (!q12))) none)
def f19_l1 (fu : Nat) (a0 : Table) (q2 : (List Col) × Bool) : Nat → Int → Int → Option Bool
  | 0, _, _ => none
  | n1 + 1, i4, i5 => cond (decide (i5 < (List.length a0.rows : Int))) (cond (decide (0 ≤ i5) && decide (i5 < (List.length a0.rows : Int))) ((f56 fu ((a0.rows.getD i5.toNat default).id) (IntKind.i64.wrap (i4 + 1)) (IntKind.i64.wrap (a0.next - 1))).bind fun q13 => cond (!q13) (f19_j4 fu a0 q2 i5 (f19_l1 fu a0 q2 n1) true) ((f56 fu ((a0.rows.getD i5.toNat default).ver) 0 (List.length a0.changes : Int)).bind fun q14 => f19_j4 fu a0 q2 i5 (f19_l1 fu a0 q2 n1) (!q14))) none) ((f59 fu a0).bind fun q15 => some q15)
def f19_j1 (fu : Nat) (a0 : Table) (q2 : (List Col) × Bool) (i3 : Bool) : Option Bool := cond i3 (some false) (f19_l1 fu a0 q2 fu 0 0)
def f19 (fu : Nat) (a0 : Table) : Option Bool := (f55 fu a0.first a0.changes).bind fun q2 => cond (!q2.2) (f19_j1 fu a0 q2 true) (cond (decide (8 < (List.length a0.changes : Int))) (f19_j1 fu a0 q2 true) (cond (decide (8 < (List.length a0.rows : Int))) (f19_j1 fu a0 q2 true) ((f56 fu a0.next 1 60).bind fun q16 => f19_j1 fu a0 q2 (!q16))))
theorem n19 : ∃ fn c, Tryz.prog.funcs[17]? = some fn ∧ (fn.name == "runtime.NumGoroutine") = false ∧ fn.body = some c := ⟨_, _, Tryz.func17, by kernel_rfl, rfl⟩
theorem c19 (fu : Nat) (a0 : Table) : Ctr Tryz.prog 17 [tTable.va a0] [] (f19 fu a0) (fun _ _ => []) (fun q => isB q) := by
  refine Ctr.of_W Tryz.func17 rfl Tryz.ntmps17 rfl fun A w => ?_
  unfold f19
  refine .seq <| .region <| .box (T := tTable) rfl rfl fun b1 => .assign rfl rfl <| .nil ?_
  refine .seq <| .region <| .fieldP rfl fa27_0 rfl <| .loadP 0 fTable_0 rfl rfl ty23 rfl <| .fieldP rfl fa27_1 rfl <| .loadP 0 fTable_1 rfl rfl ty24 rfl <| .call0 (c55 fu _ _) n55 rfl rfl fun q2 => .move rfl rfl <| .extract rfl rfl rfl <| .extract rfl rfl rfl <| .assign rfl rfl <| .assign rfl rfl <| .nil ?_
  refine .seq <| .seq <| .join1 (fun i3 => ⟨[(1, isP b1 0, none), (3, (tL tCol).va q2.1, none), (37, isB i3, none)], [boxO b1 tTable a0 []]⟩) (fun i3 => f19_j1 fu a0 q2 i3) (fun i3 => ?_) (fun hj1 => ?_)
  · refine .cond rfl (fun _ => ?_) (fun _ => ?_)
    · refine .seq <| .region <| .assign rfl rfl <| .nil ?_
      exact .ret1 Tryz.func17 Tryz.results17 (.tmp rfl) rfl (fun _ _ => .cons _ <| .slnil)
    · refine .skip <| .seq <| .region <| .assign rfl rfl <| .nil ?_
      refine .seq <| .seq <| .region <| .fieldP rfl fa27_2 rfl <| .loadP 0 fTable_2 rfl rfl ty25 rfl <| .lenL rfl Tryz.underlying25 rfl <| .move rfl rfl <| .nil ?_
      refine .block <| .loop <| .keep [1, 3, 5, 39, 40, 41] [] rfl ?_
      refine (show ∀ (n1 : Nat) (i4 : Int) (i5 : Int), W _ _ _ _ _ ⟨[(1, isP b1 0, none), (3, (tL tCol).va q2.1, none), (5, isI .i64 i4, none), (39, (tL tRow).va a0.rows, none), (40, isI .i64 (List.length a0.rows : Int), none), (41, isI .i64 i5, none)], [boxO b1 tTable a0 []]⟩ (f19_l1 fu a0 q2 n1 i4 i5) from ?_) fu _ _
      intro n1
      induction n1 with
      | zero => exact fun _ _ => .stop
      | succ n1 ih1 =>
        intro i4 i5
        refine .inLoop <| .seq <| .region <| .bin rfl rfl rfl rfl <| .nil ?_
        refine .seq <| .cond rfl (fun _ => ?_) (fun _ => ?_)
        · refine .skip <| .seq <| .block <| .seq <| .region <| .elemAt rfl rfl Tryz.underlying25 ty37 rfl <| .load rfl ty37 rfl <| .alloc tRow d0_37 [] z37 rfl fun b6 => .storeP 0 (Fld.self _) rfl rfl rfl ty37 <| .nil ?_
          refine .seq <| .seq <| .join1 (fun i7 => ⟨[(1, isP b1 0, none), (3, (tL tCol).va q2.1, none), (7, isP b6 0, none), (39, (tL tRow).va a0.rows, none), (40, isI .i64 (List.length a0.rows : Int), none), (41, isI .i64 i5, none), (62, isB i7, none)], [boxO b6 tRow (a0.rows.getD i5.toNat default) [], boxO b1 tTable a0 []]⟩) (fun i7 => f19_j4 fu a0 q2 i5 (f19_l1 fu a0 q2 n1) i7) (fun i7 => ?_) (fun hj4 => ?_)
          · refine .cond rfl (fun _ => ?_) (fun _ => ?_)
            · refine .seq <| .region <| .assign rfl rfl <| .nil ?_
              exact .ret1 Tryz.func17 Tryz.results17 (.tmp rfl) rfl (fun _ _ => .cons _ <| .cons _ <| .slnil)
            · refine .skip <| .seq <| .region <| .fieldP rfl fa37_0 rfl <| .loadP 0 fRow_0 rfl rfl ty3 rfl <| .assign rfl rfl <| .nil ?_
              refine .seq <| .pT fun h2 => ?_
              refine .draw 7 [] mix (by kernel_rfl) (.cons (fun _ _ _ hP hE h => .fieldP (hE.op rfl) fa27_0 rfl <| h) <| .cons (fun _ _ _ hP hE h => .loadP 1 fTable_0 (hE.op rfl) (hP.get rfl rfl) ty23 rfl <| h) <| .cons (fun _ _ _ hP hE h => .fieldP (hE.op rfl) fa27_1 rfl <| h) <| .cons (fun _ _ _ hP hE h => .loadP 1 fTable_1 (hE.op rfl) (hP.get rfl rfl) ty24 rfl <| h) <| .cons (fun _ _ _ hP hE h => .fieldP (hE.op rfl) fa37_1 rfl <| h) <| .cons (fun _ _ _ hP hE h => .loadP 0 fRow_1 (hE.op rfl) (hP.get rfl rfl) ty3 rfl <| h) <| .cons (fun _ _ _ hP hE h => .useC h2 <| .cut (hE.op rfl) Tryz.underlying24 el56 rfl ⟨_, (hE.op rfl)⟩ rfl <| h) <| .nil) rfl <| .call0 (c57 fu _ _) n57 rfl rfl fun q8 => .move rfl rfl <| .extract rfl rfl rfl <| .extract rfl rfl rfl <| .assign rfl rfl <| .assign rfl rfl <| .nil ?_
              refine .seq <| .join1 (fun i9 => ⟨[(1, isP b1 0, none), (3, (tL tCol).va q2.1, none), (5, isI .i64 ((a0.rows.getD i5.toNat default).id), none), (39, (tL tRow).va a0.rows, none), (40, isI .i64 (List.length a0.rows : Int), none), (41, isI .i64 i5, none), (88, isB i9, none)], [boxO b1 tTable a0 []]⟩) (fun i9 => f19_j5 a0 i5 (f19_l1 fu a0 q2 n1) i9) (fun i9 => ?_) (fun hj5 => ?_)
              · refine .cond rfl (fun _ => ?_) (fun _ => ?_)
                · refine .seq <| .region <| .assign rfl rfl <| .nil ?_
                  exact .ret1 Tryz.func17 Tryz.results17 (.tmp rfl) rfl (fun _ _ => .cons _ <| .slnil)
                · refine .skip <| .inBlock <| .region <| .bin rfl rfl rfl rfl <| .move rfl rfl <| .nil ?_
                  exact .keep [1, 3, 5, 39, 40, 41] [] rfl (ih1 _ _)
              · refine .region <| .move rfl rfl <| .fieldP rfl fa37_2 rfl <| .loadP 0 fRow_2 rfl rfl ty32 rfl <| .call0 (c58 fu _ _) n58 rfl rfl fun q10 => .not rfl rfl <| .move rfl rfl <| .split 81 rfl (fun _ => ?_) (fun _ => ?_)
                · refine .off rfl rfl rfl <| .off rfl rfl rfl <| .off rfl rfl rfl <| .off rfl rfl rfl <| .off rfl rfl rfl <| .off rfl rfl rfl <| .pickT rfl rfl rfl <| .nil ?_
                  exact .keep [1, 3, 5, 39, 40, 41, 88] [] rfl (.drop (.cons _ <| .cons_cons _ <| .slnil) <| hj5 _)
                · refine .on rfl rfl <| .move rfl rfl <| .on rfl rfl <| .loadP 1 (Fld.self _) rfl rfl ty27 rfl <| .on rfl rfl <| .loadP 0 (Fld.self _) rfl rfl ty37 rfl <| .on rfl rfl <| .call0 (CtrL.plain (c49 fu _ _)) n49 rfl rfl fun q11 => .on rfl rfl <| .call0 (c58 fu _ _) n58 rfl rfl fun q12 => .on rfl rfl <| .not rfl rfl <| .pickF rfl rfl rfl <| .nil ?_
                  exact .keep [1, 3, 5, 39, 40, 41, 88] [] rfl (.drop (.cons _ <| .cons_cons _ <| .slnil) <| hj5 _)
          · refine .region <| .fieldP rfl fa37_0 rfl <| .loadP 0 fRow_0 rfl rfl ty3 rfl <| .move rfl rfl <| .bin rfl rfl rfl rfl <| .fieldP rfl fa27_3 rfl <| .loadP 1 fTable_3 rfl rfl ty3 rfl <| .bin rfl rfl rfl rfl <| .call0 (c56 fu _ _ _) n56 rfl rfl fun q13 => .not rfl rfl <| .move rfl rfl <| .split 54 rfl (fun _ => ?_) (fun _ => ?_)
            · refine .off rfl rfl rfl <| .off rfl rfl rfl <| .off rfl rfl rfl <| .off rfl rfl rfl <| .off rfl rfl rfl <| .off rfl rfl rfl <| .off rfl rfl rfl <| .pickT rfl rfl rfl <| .nil ?_
              exact .keep [1, 3, 7, 39, 40, 41, 62] [] rfl (hj4 _)
            · refine .on rfl rfl <| .fieldP rfl fa37_1 rfl <| .on rfl rfl <| .loadP 0 fRow_1 rfl rfl ty3 rfl <| .on rfl rfl <| .fieldP rfl fa27_1 rfl <| .on rfl rfl <| .loadP 1 fTable_1 rfl rfl ty24 rfl <| .on rfl rfl <| .lenL rfl Tryz.underlying24 rfl <| .on rfl rfl <| .call0 (c56 fu _ _ _) n56 rfl rfl fun q14 => .on rfl rfl <| .not rfl rfl <| .pickF rfl rfl rfl <| .nil ?_
              exact .keep [1, 3, 7, 39, 40, 41, 62] [] rfl (hj4 _)
        · refine .exit rfl <| .seq <| .region <| .loadP 0 (Fld.self _) rfl rfl ty27 rfl <| .call0 (c59 fu _) n59 rfl rfl fun q15 => .assign rfl rfl <| .nil ?_
          exact .ret1 Tryz.func17 Tryz.results17 (.tmp rfl) rfl (fun _ _ => .cons _ <| .slnil)
  · refine .region <| .move rfl rfl <| .not rfl rfl <| .move rfl rfl <| .split 20 rfl (fun _ => ?_) (fun _ => ?_)
    · refine .off rfl rfl rfl <| .off rfl rfl rfl <| .off rfl rfl rfl <| .off rfl rfl rfl <| .pickT rfl rfl rfl <| .move rfl rfl <| .off rfl rfl rfl <| .off rfl rfl rfl <| .off rfl rfl rfl <| .off rfl rfl rfl <| .pickT rfl rfl rfl <| .move rfl rfl <| .off rfl rfl rfl <| .off rfl rfl rfl <| .off rfl rfl rfl <| .off rfl rfl rfl <| .pickT rfl rfl rfl <| .nil ?_
      exact .keep [1, 3, 37] [] rfl (hj1 _)
    · refine .on rfl rfl <| .fieldP rfl fa27_1 rfl <| .on rfl rfl <| .loadP 0 fTable_1 rfl rfl ty24 rfl <| .on rfl rfl <| .lenL rfl Tryz.underlying24 rfl <| .on rfl rfl <| .bin rfl rfl rfl rfl <| .pickF rfl rfl rfl <| .move rfl rfl <| .split 26 rfl (fun _ => ?_) (fun _ => ?_)
      · refine .off rfl rfl rfl <| .off rfl rfl rfl <| .off rfl rfl rfl <| .off rfl rfl rfl <| .pickT rfl rfl rfl <| .move rfl rfl <| .off rfl rfl rfl <| .off rfl rfl rfl <| .off rfl rfl rfl <| .off rfl rfl rfl <| .pickT rfl rfl rfl <| .nil ?_
        exact .keep [1, 3, 37] [] rfl (hj1 _)
      · refine .on rfl rfl <| .fieldP rfl fa27_2 rfl <| .on rfl rfl <| .loadP 0 fTable_2 rfl rfl ty25 rfl <| .on rfl rfl <| .lenL rfl Tryz.underlying25 rfl <| .on rfl rfl <| .bin rfl rfl rfl rfl <| .pickF rfl rfl rfl <| .move rfl rfl <| .split 32 rfl (fun _ => ?_) (fun _ => ?_)
        · refine .off rfl rfl rfl <| .off rfl rfl rfl <| .off rfl rfl rfl <| .off rfl rfl rfl <| .pickT rfl rfl rfl <| .nil ?_
          exact .keep [1, 3, 37] [] rfl (hj1 _)
        · refine .on rfl rfl <| .fieldP rfl fa27_3 rfl <| .on rfl rfl <| .loadP 0 fTable_3 rfl rfl ty3 rfl <| .on rfl rfl <| .call0 (c56 fu _ _ _) n56 rfl rfl fun q16 => .on rfl rfl <| .not rfl rfl <| .pickF rfl rfl rfl <| .nil ?_
          exact .keep [1, 3, 37] [] rfl (hj1 _)
def f130 (a0 : List Change) : Option (List Change) := cond (decide (List.length ([] : List Change) + List.length a0 ≤ CAP)) (some (([] : List Change) ++ a0)) none
theorem n130 : ∃ fn c, Tryz.prog.funcs[120]? = some fn ∧ (fn.name == "runtime.NumGoroutine") = false ∧ fn.body = some c := ⟨_, _, Tryz.func120, by kernel_rfl, rfl⟩
theorem c130 (a0 : List Change) : CtrL Tryz.prog 120 [(tL tChange).va a0] [] (f130 a0) (fun v => v) (fun q v => [arrO tChange v q]) (fun _ v => tRaw.va v) := by
  refine CtrL.of_W Tryz.func120 rfl Tryz.ntmps120 rfl fun A w => ?_
  unfold f130
  refine .seq <| .region <| .assign rfl rfl <| .arrNil tChange <| .nil ?_
  refine .seq <| .seq <| .region <| .move rfl rfl <| .eqNil rfl Tryz.underlying24 rfl fun nb1 hnb1 => .nil ?_
  refine .eqr (r' := cond nb1 (cond (decide (List.length ([] : List Change) + List.length a0 ≤ CAP)) (some (([] : List Change) ++ a0)) none) (cond (decide (List.length ([] : List Change) + List.length a0 ≤ CAP)) (some (([] : List Change) ++ a0)) none)) ?_ <| .cond rfl (fun _ => ?_) (fun _ => ?_)
  · cases nb1 <;> rfl
  · obtain rfl := hnb1 (by assumption)
    refine .eqr (r' := some ([] : List Change)) (by simp) ?_
    refine .seq <| .region <| .assign rfl rfl <| .nil ?_
    exact .toRaw 0 2 rfl rfl <| .retL1 (.slice none 0 0) Tryz.func120 Tryz.results120 (.tmp rfl) rfl (fun _ _ _ h => h.1) (.cons_cons _ <| .slnil)
  · refine .skip <| .seq <| .region <| .lit (T := tChange) Tryz.underlying24 el56 rfl rfl (.nil) rfl fun v2 => .toArr 0 5 rfl rfl rfl <| .move rfl rfl <| .appA (T := tChange) 0 rfl rfl rfl Tryz.underlying24 el56 rfl fun v3 => .assign rfl rfl <| .nil ?_
    exact .toRaw 0 2 rfl rfl <| .retL1 v3 Tryz.func120 Tryz.results120 (.tmp rfl) rfl (fun _ _ _ h => h.1) (.cons_cons _ <| .cons _ <| .slnil)
def f129 (a0 : List Change) : Option (List Change) := some a0
theorem n129 : ∃ fn c, Tryz.prog.funcs[119]? = some fn ∧ (fn.name == "runtime.NumGoroutine") = false ∧ fn.body = some c := ⟨_, _, Tryz.func119, by kernel_rfl, rfl⟩
theorem c129 (vp0 : Value) (a0 : List Change) : CtrL Tryz.prog 119 [isV vp0] [arrO tChange vp0 a0] (f129 a0) (fun v => v) (fun q v => [arrO tChange v q]) (fun _ v => tRaw.va v) := by
  refine CtrL.of_W Tryz.func119 rfl Tryz.ntmps119 rfl fun A w => ?_
  unfold f129
  refine .know 0 rfl <| .seq <| .region <| .assign rfl rfl <| .arrNil tChange <| .nil ?_
  refine .seq <| .region <| .move rfl rfl <| .move rfl rfl <| .lenA 1 rfl rfl Tryz.underlying24 rfl <| .move rfl rfl <| .lenA 1 rfl rfl Tryz.underlying24 rfl <| .clip (T := tChange) 1 rfl rfl rfl rfl Tryz.underlying24 el56 rfl fun v1 => .assign rfl rfl <| .nil ?_
  exact .toRaw 1 2 rfl rfl <| .retL1 v1 Tryz.func119 Tryz.results119 (.tmp rfl) rfl (fun _ _ _ h => h.1) (.cons _ <| .cons_cons _ <| .slnil)
def f109 (a0 : List Change) : Option (List Change) := (f130 a0).bind fun q1 => (f129 q1).bind fun q3 => some q3
theorem n109 : ∃ fn c, Tryz.prog.funcs[99]? = some fn ∧ (fn.name == "runtime.NumGoroutine") = false ∧ fn.body = some c := ⟨_, _, Tryz.func99, by kernel_rfl, rfl⟩
theorem c109 (a0 : List Change) : CtrL Tryz.prog 99 [(tL tChange).va a0] [] (f109 a0) (fun v => v) (fun q v => [arrO tChange v q]) (fun _ v => tRaw.va v) := by
  refine CtrL.of_W Tryz.func99 rfl Tryz.ntmps99 rfl fun A w => ?_
  unfold f109
  refine .seq <| .region <| .assign rfl rfl <| .arrNil tChange <| .nil ?_
  refine .seq <| .region <| .move rfl rfl <| .callL0 (c130 _) n130 rfl rfl fun q1 v2 => .unRaw 4 rfl <| .callS 0 (c129 _ _) rfl n129 rfl rfl fun q3 v4 => .unRaw 5 rfl <| .assign rfl rfl <| .nil ?_
  exact .toRaw 0 2 rfl rfl <| .retL1 v4 Tryz.func99 Tryz.results99 (.tmp rfl) rfl (fun _ _ _ h => h.1) (.cons_cons _ <| .cons _ <| .slnil)
def f111 (a0 : List Row) : Option (List Row) := cond (decide (List.length ([] : List Row) + List.length a0 ≤ CAP)) (some (([] : List Row) ++ a0)) none
theorem n111 : ∃ fn c, Tryz.prog.funcs[88]? = some fn ∧ (fn.name == "runtime.NumGoroutine") = false ∧ fn.body = some c := ⟨_, _, Tryz.func88, by kernel_rfl, rfl⟩
theorem c111 (a0 : List Row) : CtrL Tryz.prog 88 [(tL tRow).va a0] [] (f111 a0) (fun v => v) (fun q v => [arrO tRow v q]) (fun _ v => tRaw.va v) := by
  refine CtrL.of_W Tryz.func88 rfl Tryz.ntmps88 rfl fun A w => ?_
  unfold f111
  refine .seq <| .region <| .assign rfl rfl <| .arrNil tRow <| .nil ?_
  refine .seq <| .seq <| .region <| .move rfl rfl <| .eqNil rfl Tryz.underlying25 rfl fun nb1 hnb1 => .nil ?_
  refine .eqr (r' := cond nb1 (cond (decide (List.length ([] : List Row) + List.length a0 ≤ CAP)) (some (([] : List Row) ++ a0)) none) (cond (decide (List.length ([] : List Row) + List.length a0 ≤ CAP)) (some (([] : List Row) ++ a0)) none)) ?_ <| .cond rfl (fun _ => ?_) (fun _ => ?_)
  · cases nb1 <;> rfl
  · obtain rfl := hnb1 (by assumption)
    refine .eqr (r' := some ([] : List Row)) (by simp) ?_
    refine .seq <| .region <| .assign rfl rfl <| .nil ?_
    exact .toRaw 0 2 rfl rfl <| .retL1 (.slice none 0 0) Tryz.func88 Tryz.results88 (.tmp rfl) rfl (fun _ _ _ h => h.1) (.cons_cons _ <| .slnil)
  · refine .skip <| .seq <| .region <| .lit (T := tRow) Tryz.underlying25 el37 rfl rfl (.nil) rfl fun v2 => .toArr 0 5 rfl rfl rfl <| .move rfl rfl <| .appA (T := tRow) 0 rfl rfl rfl Tryz.underlying25 el37 rfl fun v3 => .assign rfl rfl <| .nil ?_
    exact .toRaw 0 2 rfl rfl <| .retL1 v3 Tryz.func88 Tryz.results88 (.tmp rfl) rfl (fun _ _ _ h => h.1) (.cons_cons _ <| .cons _ <| .slnil)
def f110 (a0 : List Row) : Option (List Row) := some a0
theorem n110 : ∃ fn c, Tryz.prog.funcs[87]? = some fn ∧ (fn.name == "runtime.NumGoroutine") = false ∧ fn.body = some c := ⟨_, _, Tryz.func87, by kernel_rfl, rfl⟩
theorem c110 (vp0 : Value) (a0 : List Row) : CtrL Tryz.prog 87 [isV vp0] [arrO tRow vp0 a0] (f110 a0) (fun v => v) (fun q v => [arrO tRow v q]) (fun _ v => tRaw.va v) := by
  refine CtrL.of_W Tryz.func87 rfl Tryz.ntmps87 rfl fun A w => ?_
  unfold f110
  refine .know 0 rfl <| .seq <| .region <| .assign rfl rfl <| .arrNil tRow <| .nil ?_
  refine .seq <| .region <| .move rfl rfl <| .move rfl rfl <| .lenA 1 rfl rfl Tryz.underlying25 rfl <| .move rfl rfl <| .lenA 1 rfl rfl Tryz.underlying25 rfl <| .clip (T := tRow) 1 rfl rfl rfl rfl Tryz.underlying25 el37 rfl fun v1 => .assign rfl rfl <| .nil ?_
  exact .toRaw 1 2 rfl rfl <| .retL1 v1 Tryz.func87 Tryz.results87 (.tmp rfl) rfl (fun _ _ _ h => h.1) (.cons _ <| .cons_cons _ <| .slnil)
def f77 (a0 : List Row) : Option (List Row) := (f111 a0).bind fun q1 => (f110 q1).bind fun q3 => some q3
theorem n77 : ∃ fn c, Tryz.prog.funcs[60]? = some fn ∧ (fn.name == "runtime.NumGoroutine") = false ∧ fn.body = some c := ⟨_, _, Tryz.func60, by kernel_rfl, rfl⟩
theorem c77 (a0 : List Row) : CtrL Tryz.prog 60 [(tL tRow).va a0] [] (f77 a0) (fun v => v) (fun q v => [arrO tRow v q]) (fun _ v => tRaw.va v) := by
  refine CtrL.of_W Tryz.func60 rfl Tryz.ntmps60 rfl fun A w => ?_
  unfold f77
  refine .seq <| .region <| .assign rfl rfl <| .arrNil tRow <| .nil ?_
  refine .seq <| .region <| .move rfl rfl <| .callL0 (c111 _) n111 rfl rfl fun q1 v2 => .unRaw 4 rfl <| .callS 0 (c110 _ _) rfl n110 rfl rfl fun q3 v4 => .unRaw 5 rfl <| .assign rfl rfl <| .nil ?_
  exact .toRaw 0 2 rfl rfl <| .retL1 v4 Tryz.func60 Tryz.results60 (.tmp rfl) rfl (fun _ _ _ h => h.1) (.cons_cons _ <| .cons _ <| .slnil)
def f80_l1 (a0 : Table) (i4 : Table) : Nat → Int → (List Row) → Option Table
  | 0, _, _ => none
  | n1 + 1, i7, i8 => cond (decide (i7 < (List.length a0.rows : Int))) (cond (decide (0 ≤ i7) && decide (i7 < (List.length a0.rows : Int))) ((f115 ((a0.rows.getD i7.toNat default).vals)).bind fun q10 => cond (decide (0 ≤ i7) && decide (i7 < (List.length i8 : Int))) ((f80_l1 a0 i4 n1) (IntKind.i64.wrap (i7 + 1)) (i8.set i7.toNat ({ (i8.getD i7.toNat default) with vals := q10 } : Row))) none) none) (some (⟨i4.first, i4.changes, i8, i4.next⟩ : Table))
def f80_j1 (fu : Nat) (a0 : Table) (i4 : Table) : Option Table := f80_l1 a0 i4 fu 0 i4.rows
def f80 (fu : Nat) (a0 : Table) : Option Table := (f91 a0.first).bind fun q12 => (f109 a0.changes).bind fun q13 => (f77 a0.rows).bind fun q15 => f80_j1 fu a0 (⟨q12, q13, q15, a0.next⟩ : Table)
theorem n80 : ∃ fn c, Tryz.prog.funcs[70]? = some fn ∧ (fn.name == "runtime.NumGoroutine") = false ∧ fn.body = some c := ⟨_, _, Tryz.func70, by kernel_rfl, rfl⟩
theorem c80 (fu : Nat) (a0 : Table) : CtrL Tryz.prog 70 [tTable.va a0] [] (f80 fu a0) tabV (fun q p => [arrO tRow p.1 q.rows, appO 10 p.2]) (fun q p => tTableA.va (⟨q.first, (p.2, q.changes), p.1, q.next⟩ : TableA)) := by
  refine CtrL.of_W Tryz.func70 rfl Tryz.ntmps70 rfl fun A w => ?_
  unfold f80
  refine .seq <| .region <| .box (T := tTable) rfl rfl fun b1 => .alloc tTableA d0A27 [] zA27 rfl fun b2 => .nil ?_
  refine .seq <| .join4 (fun b3 i4 v5 v6 => ⟨[(1, isP b1 0, none), (2, isP b2 0, none), (3, isP b3 0, none)], [boxO b2 tTableA (⟨([] : List Col), ((.slice none 0 0), ([] : List Change)), (.slice none 0 0), (0 : Int)⟩ : TableA) [], boxO b1 tTable a0 [], appO 10 v6, arrO tRow v5 i4.rows, boxO b3 tTableA (⟨i4.first, (v6, i4.changes), v5, i4.next⟩ : TableA) []]⟩) (fun b3 i4 v5 v6 => f80_j1 fu a0 i4) (fun b3 i4 v5 v6 => ?_) (fun hj1 => ?_)
  · refine .seq <| .seq <| .region <| .fieldP rfl fa27_2 rfl <| .loadP 1 fTable_2 rfl rfl ty25 rfl <| .lenL rfl Tryz.underlying25 rfl <| .move rfl rfl <| .nil ?_
    refine .block <| .loop <| .drop (.cons_cons _ <| .cons _ <| .cons_cons _ <| .cons_cons _ <| .cons_cons _ <| .slnil) <| .keep [2, 3, 19, 20, 21] [] rfl ?_
    refine (show ∀ (n1 : Nat) (i7 : Int) (i8 : List Row), W _ _ _ _ _ ⟨[(2, isP b2 0, none), (3, isP b3 0, none), (19, (tL tRow).va a0.rows, none), (20, isI .i64 (List.length a0.rows : Int), none), (21, isI .i64 i7, none)], [boxO b2 tTableA (⟨([] : List Col), ((.slice none 0 0), ([] : List Change)), (.slice none 0 0), (0 : Int)⟩ : TableA) [], appO 10 v6, arrO tRow v5 i8, boxO b3 tTableA (⟨i4.first, (v6, i4.changes), v5, i4.next⟩ : TableA) []]⟩ (f80_l1 a0 i4 n1 i7 i8) from ?_) fu _ _
    intro n1
    induction n1 with
    | zero => exact fun _ _ => .stop
    | succ n1 ih1 =>
      intro i7 i8
      refine .inLoop <| .seq <| .region <| .bin rfl rfl rfl rfl <| .nil ?_
      refine .seq <| .cond rfl (fun _ => ?_) (fun _ => ?_)
      · refine .skip <| .seq <| .block <| .seq <| .region <| .move rfl rfl <| .elemAt rfl rfl Tryz.underlying25 ty37 rfl <| .load rfl ty37 rfl <| .alloc tRow d0_37 [] z37 rfl fun b9 => .assign rfl rfl <| .storeP 0 (Fld.self _) rfl rfl rfl ty37 <| .nil ?_
        refine .pbind fun q10 h2 => ?_
        refine .draw 6 [] mix (by kernel_rfl) (.cons (fun _ _ _ hP hE h => .fieldP (hE.op rfl) fa27_2 rfl <| h) <| .cons (fun _ _ _ hP hE h => .loadR 4 fTableA_2 (hE.op rfl) (hP.get rfl rfl) ty25 rfl <| h) <| .cons (fun _ _ _ hP hE h => .move (hE.op rfl) rfl <| h) <| .cons (fun _ _ _ hP hE h => .fieldP (hE.op rfl) fa37_2 rfl <| h) <| .cons (fun _ _ _ hP hE h => .loadP 0 fRow_2 (hE.op rfl) (hP.get rfl rfl) ty32 rfl <| h) <| .cons (fun _ _ _ hP hE h => .bindE h2 (fun r h => .call0 (CtrL.plain (c115 _)) n115 (hE.ops rfl) rfl h) <| h) <| .nil) rfl <| .elemA 3 rfl rfl rfl Tryz.underlying25 ty37 rfl <| .fieldA rfl fa37_2 rfl <| .storeA 3 fRow_2 rfl rfl rfl ty32 <| .nil ?_
        refine .inBlock <| .region <| .bin rfl rfl rfl rfl <| .move rfl rfl <| .nil ?_
        exact .keep [2, 3, 19, 20, 21] [] rfl (.drop (.cons _ <| .cons_cons _ <| .cons_cons _ <| .cons_cons _ <| .cons_cons _ <| .slnil) <| ih1 _ _)
      · refine .exit rfl <| .seq <| .region <| .loadP 3 (Fld.self _) rfl rfl ty27 rfl <| .storeP 0 (Fld.self _) rfl rfl rfl ty27 <| .nil ?_
        exact .pick [2, 1, 0] rfl <| .retL1 (v5, v6) Tryz.func70 Tryz.results70 (.cell 2 rfl rfl ty27) rfl (fun _ _ _ h => tabV_of h) (.cons_cons _ <| .cons_cons _ <| .cons _ <| .slnil)
  · refine .pbind fun q12 h3 => ?_
    refine .pbind fun q13 h4 => ?_
    refine .pbind fun q15 h5 => ?_
    refine .drawF 13 [] [5, 8, 11] (some 12) [] mix (by kernel_rfl) (.cons (fun _ _ _ hP hE h => .fieldP (hE.op rfl) fa27_0 rfl <| h) <| .cons (fun _ _ _ hP hE h => .loadP 1 fTable_0 (hE.op rfl) (hP.get rfl rfl) ty23 rfl <| h) <| .cons (fun _ _ _ hP hE h => .bindE h3 (fun r h => .call0 (CtrL.plain (c91 _)) n91 (hE.ops rfl) rfl h) <| h) <| .cons (fun _ _ _ hP hE h => .fieldP (hE.op rfl) fa27_1 rfl <| h) <| .cons (fun _ _ _ hP hE h => .loadP 1 fTable_1 (hE.op rfl) (hP.get rfl rfl) ty24 rfl <| h) <| .skip <| .cons (fun _ _ _ hP hE h => .fieldP (hE.op rfl) fa27_2 rfl <| h) <| .cons (fun _ _ _ hP hE h => .loadP 1 fTable_2 (hE.op rfl) (hP.get rfl rfl) ty25 rfl <| h) <| .skip <| .cons (fun _ _ _ hP hE h => .fieldP (hE.op rfl) fa27_3 rfl <| h) <| .cons (fun _ _ _ hP hE h => .loadP 1 fTable_3 (hE.op rfl) (hP.get rfl rfl) ty3 rfl <| h) <| .skip <| .skip <| .nil) rfl ?_
    refine .next ?_ ?_
    · refine .put 11 rfl rfl fun _ _ hE h => .bindE2 h4 (fun r h => .callT0 (CtrL.tok (c109 _)) n109 (hE.ops rfl) rfl h) fun v14 => .toEnd <| h _ _ (.same <| .same <| .nil) ?_
      refine .next ?_ ?_
      · refine .put 14 rfl rfl fun _ _ hE h => .bindE2 h5 (fun r h => .callL0 (c77 _) n77 (hE.ops rfl) rfl h) fun v16 => .toEnd <| h _ _ (.same <| .same <| .nil) ?_
        refine .next ?_ ?_
        · refine .put 17 rfl rfl fun _ _ hE h => .buildA rfl st27 zA27 (.cons fTableA_0 rfl (vOf (hE.op rfl)) <| .cons fTableA_1 rfl (kOf (hE.op rfl)) <| .cons fTableA_2 rfl (vOf (hE.op rfl)) <| .cons fTableA_3 rfl (vOf (hE.op rfl)) <| .nil) rfl <| h _ _ (.same <| .same <| .nil) ?_
          refine .last <| .put 3 rfl rfl fun _ _ hE h => .alloc tTableA d0A27 [] zA27 rfl fun b11 => .toEnd <| h _ _ (.same <| .same <| .nil) <| .nil <| .storeP 4 (Fld.self _) rfl rfl rfl ty27 <| .nil ?_
          exact .keep [1, 2, 3] [] rfl (hj1 _ _ _ _)
        · refine .put 3 rfl rfl fun _ _ hE h => .alloc tTableA d0A27 [] zA27 rfl fun b11 => .toEnd <| h _ _ (.same <| .same <| .nil) <| .cons (d := 17) rfl rfl fun _ _ hE h => .buildA rfl st27 zA27 (.cons fTableA_0 rfl (vOf (hE.op rfl)) <| .cons fTableA_1 rfl (kOf (hE.op rfl)) <| .cons fTableA_2 rfl (vOf (hE.op rfl)) <| .cons fTableA_3 rfl (vOf (hE.op rfl)) <| .nil) rfl <| h _ _ (.same <| .same <| .nil) <| .nil <| .storeP 4 (Fld.self _) rfl rfl rfl ty27 <| .nil ?_
          exact .keep [1, 2, 3] [] rfl (hj1 _ _ _ _)
      · refine .put 3 rfl rfl fun _ _ hE h => .alloc tTableA d0A27 [] zA27 rfl fun b11 => .toEnd <| h _ _ (.same <| .same <| .nil) <| .cons (d := 14) rfl rfl fun _ _ hE h => .bindE2 h5 (fun r h => .callL0 (c77 _) n77 (hE.ops rfl) rfl h) fun v16 => .toEnd <| h _ _ (.same <| .same <| .nil) <| .cons (d := 17) rfl rfl fun _ _ hE h => .buildA rfl st27 zA27 (.cons fTableA_0 rfl (vOf (hE.op rfl)) <| .cons fTableA_1 rfl (kOf (hE.op rfl)) <| .cons fTableA_2 rfl (vOf (hE.op rfl)) <| .cons fTableA_3 rfl (vOf (hE.op rfl)) <| .nil) rfl <| h _ _ (.same <| .same <| .nil) <| .nil <| .pick [0, 0, 0, 1, 0] rfl <| .storeP 4 (Fld.self _) rfl rfl rfl ty27 <| .nil ?_
        exact .keep [1, 2, 3] [] rfl (hj1 _ _ _ _)
    · refine .put 3 rfl rfl fun _ _ hE h => .alloc tTableA d0A27 [] zA27 rfl fun b11 => .toEnd <| h _ _ (.same <| .same <| .nil) <| .cons (d := 11) rfl rfl fun _ _ hE h => .bindE2 h4 (fun r h => .callT0 (CtrL.tok (c109 _)) n109 (hE.ops rfl) rfl h) fun v14 => .toEnd <| h _ _ (.same <| .same <| .nil) <| .cons (d := 14) rfl rfl fun _ _ hE h => .bindE2 h5 (fun r h => .callL0 (c77 _) n77 (hE.ops rfl) rfl h) fun v16 => .toEnd <| h _ _ (.same <| .same <| .nil) <| .cons (d := 17) rfl rfl fun _ _ hE h => .buildA rfl st27 zA27 (.cons fTableA_0 rfl (vOf (hE.op rfl)) <| .cons fTableA_1 rfl (kOf (hE.op rfl)) <| .cons fTableA_2 rfl (vOf (hE.op rfl)) <| .cons fTableA_3 rfl (vOf (hE.op rfl)) <| .nil) rfl <| h _ _ (.same <| .same <| .nil) <| .nil <| .pick [0, 0, 1, 1, 0] rfl <| .storeP 4 (Fld.self _) rfl rfl rfl ty27 <| .nil ?_
      exact .keep [1, 2, 3] [] rfl (hj1 _ _ _ _)
def f84 (a0 : Row) (a1 : Int) : Option Bool := some (decide (a0.id = a1))
theorem n84 : ∃ fn c, Tryz.prog.funcs[86]? = some fn ∧ (fn.name == "runtime.NumGoroutine") = false ∧ fn.body = some c := ⟨_, _, Tryz.func86, by kernel_rfl, rfl⟩
theorem c84 (a0 : Row) (a1 : Int) : Ctr Tryz.prog 86 [tRow.va a0, isAt (tI .i64) a1] [] (f84 a0 a1) (fun _ _ => []) (fun q => isB q) := by
  refine Ctr.of_W Tryz.func86 rfl Tryz.ntmps86 rfl fun A w => ?_
  unfold f84
  refine .seq <| .region <| .box (T := tRow) rfl rfl fun b1 => .assign rfl rfl <| .nil ?_
  refine .seq <| .region <| .fieldP rfl fa37_0 rfl <| .loadP 0 fRow_0 rfl rfl ty3 rfl <| .load rfl ty3 rfl <| .bin rfl rfl rfl rfl <| .assign rfl rfl <| .nil ?_
  exact .ret1 Tryz.func86 Tryz.results86 (.tmp rfl) rfl (fun _ _ => .cons _ <| .slnil)
def f83_l1 (a0 : List Row) (a1 : Row → Option Bool) : Nat → Int → Option Int
  | 0, _ => none
  | n1 + 1, i1 => cond (decide (i1 < (List.length a0 : Int))) (cond (decide (0 ≤ i1) && decide (i1 < (List.length a0 : Int))) ((a1 (a0.getD i1.toNat default)).bind fun q2 => cond q2 (some i1) ((f83_l1 a0 a1 n1) (IntKind.i64.wrap (i1 + 1)))) none) (some (-1))
def f83 (fu : Nat) (a0 : List Row) (a1 : Row → Option Bool) : Option Int := f83_l1 a0 a1 fu 0
theorem n83 : ∃ fn c, Tryz.prog.funcs[85]? = some fn ∧ (fn.name == "runtime.NumGoroutine") = false ∧ fn.body = some c := ⟨_, _, Tryz.func85, by kernel_rfl, rfl⟩
theorem c83 (fu : Nat) (a0 : List Row) (a1 : Row → Option Bool) (g1 : Nat) (k1 : List VA) (hn1 : ∃ fn c, Tryz.prog.funcs[g1]? = some fn ∧ (fn.name == "runtime.NumGoroutine") = false ∧ fn.body = some c) (hc1 : ∀ (x0 : Row), Ctr Tryz.prog g1 ([tRow.va x0] ++ k1) [] (a1 x0) (fun _ _ => []) (fun q => isB q)) : Ctr Tryz.prog 85 [(tL tRow).va a0, isClo g1 k1] [] (f83 fu a0 a1) (fun _ _ => []) (fun q => isI .i64 q) := by
  refine Ctr.of_W Tryz.func85 rfl Tryz.ntmps85 rfl fun A w => ?_
  unfold f83
  refine .seq <| .region <| .assign rfl rfl <| .nil ?_
  refine .seq <| .seq <| .region <| .move rfl rfl <| .lenL rfl Tryz.underlying25 rfl <| .move rfl rfl <| .nil ?_
  refine .block <| .loop <| .keep [0, 1, 7, 8] [] rfl ?_
  refine (show ∀ (n1 : Nat) (i1 : Int), W _ _ _ _ _ ⟨[(0, (tL tRow).va a0, none), (1, isClo g1 k1, none), (7, isI .i64 (List.length a0 : Int), none), (8, isI .i64 i1, none)], []⟩ (f83_l1 a0 a1 n1 i1) from ?_) fu _
  intro n1
  induction n1 with
  | zero => exact fun _ => .stop
  | succ n1 ih1 =>
    intro i1
    refine .inLoop <| .seq <| .region <| .bin rfl rfl rfl rfl <| .nil ?_
    refine .seq <| .cond rfl (fun _ => ?_) (fun _ => ?_)
    · refine .skip <| .seq <| .block <| .seq <| .region <| .move rfl rfl <| .assign rfl rfl <| .nil ?_
      refine .seq <| .region <| .move rfl rfl <| .move rfl rfl <| .move rfl rfl <| .elemAt rfl rfl Tryz.underlying25 ty37 rfl <| .load rfl ty37 rfl <| .callC rfl (hc1 _) hn1 rfl rfl fun q2 => .nil ?_
      refine .cond rfl (fun _ => ?_) (fun _ => ?_)
      · refine .seq <| .region <| .move rfl rfl <| .assign rfl rfl <| .nil ?_
        exact .ret1 Tryz.func85 Tryz.results85 (.tmp rfl) rfl (fun _ _ => .slnil)
      · refine .skip <| .inBlock <| .region <| .bin rfl rfl rfl rfl <| .move rfl rfl <| .nil ?_
        exact .keep [0, 1, 7, 8] [] rfl (ih1 _)
    · refine .exit rfl <| .seq <| .region <| .assign rfl rfl <| .nil ?_
      exact .ret1 Tryz.func85 Tryz.results85 (.tmp rfl) rfl (fun _ _ => .slnil)
def f48 (fu : Nat) (a0 : Table) (a1 : Int) : Option Int := (f83 fu a0.rows (fun x0 => f84 x0 a1)).bind fun q3 => some q3
theorem n48 : ∃ fn c, Tryz.prog.funcs[58]? = some fn ∧ (fn.name == "runtime.NumGoroutine") = false ∧ fn.body = some c := ⟨_, _, Tryz.func58, by kernel_rfl, rfl⟩
theorem c48 (fu : Nat) (a0 : Table) (a1 : Int) : Ctr Tryz.prog 58 [tTable.va a0, isI .i64 a1] [] (f48 fu a0 a1) (fun _ _ => []) (fun q => isI .i64 q) := by
  refine Ctr.of_W Tryz.func58 rfl Tryz.ntmps58 rfl fun A w => ?_
  unfold f48
  refine .seq <| .region <| .box (T := tTable) rfl rfl fun b1 => .box (T := (tI .i64)) rfl rfl fun b2 => .assign rfl rfl <| .nil ?_
  refine .seq <| .region <| .fieldP rfl fa27_2 rfl <| .loadP 1 fTable_2 rfl rfl ty25 rfl <| .frzP 0 3 rfl rfl <| .makeF rfl rfl <| .call0 (c83 fu _ (fun x0 => f84 x0 a1) 86 [isAt (tI .i64) a1] n84 (fun x0 => c84 x0 a1)) n83 rfl rfl fun q3 => .assign rfl rfl <| .nil ?_
  exact .ret1 Tryz.func58 Tryz.results58 (.tmp rfl) rfl (fun _ _ => .cons _ <| .slnil)
end Go.Proofs.YtlkhmcajnfombaaGreatDoor
