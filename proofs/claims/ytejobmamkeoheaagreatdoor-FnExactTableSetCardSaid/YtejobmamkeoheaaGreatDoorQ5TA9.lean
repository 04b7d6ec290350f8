/- Functions of the program: what each answers, and that the machine answers so. -/
import Derived.Test.YtejobmamkeoheaaGreatDoorQ5TA8
import Derived.KernelRfl
set_option linter.all false
namespace Go.Proofs.YtejobmamkeoheaaGreatDoor
open Go Go.HL
def f19_j5 (a0 : Table) (i5 : Int) (rec1 : Int → Int → Option Bool) (i9 : Bool) : Option Bool := cond i9 (some false) (rec1 ((a0.rows.getD i5.toNat default).id) (IntKind.i64.wrap (i5 + 1)))
def f19_j4 (fu : Nat) (a0 : Table) (q2 : (List Col) × Bool) (i5 : Int) (rec1 : Int → Int → Option Bool) (i7 : Bool) : Option Bool := cond i7 (some false) (cond (decide (0 ≤ (0 : Int)) && decide ((0 : Int) ≤ ((a0.rows.getD i5.toNat default).ver)) && decide (((a0.rows.getD i5.toNat default).ver) ≤ (List.length a0.changes : Int))) ((f57 fu a0.first ((a0.changes.take ((a0.rows.getD i5.toNat default).ver).toNat).drop (0 : Int).toNat)).bind fun q8 => (f58 fu q8.1 ((a0.rows.getD i5.toNat default).vals)).bind fun q10 => cond (!q10) (f19_j5 a0 i5 rec1 true) ((f49 fu a0 (a0.rows.getD i5.toNat default)).bind fun q11 => (f58 fu q2.1 q11).bind fun q12 => f19_j5 a0 i5 rec1 (!q12))) none)
def f19_l1 (fu : Nat) (a0 : Table) (q2 : (List Col) × Bool) : Nat → Int → Int → Option Bool
  | 0, _, _ => none
  | n1 + 1, i4, i5 => cond (decide (i5 < (List.length a0.rows : Int))) (cond (decide (0 ≤ i5) && decide (i5 < (List.length a0.rows : Int))) ((f56 fu ((a0.rows.getD i5.toNat default).id) (IntKind.i64.wrap (i4 + 1)) (IntKind.i64.wrap (a0.next - 1))).bind fun q13 => cond (!q13) (f19_j4 fu a0 q2 i5 (f19_l1 fu a0 q2 n1) true) ((f56 fu ((a0.rows.getD i5.toNat default).ver) 0 (List.length a0.changes : Int)).bind fun q14 => f19_j4 fu a0 q2 i5 (f19_l1 fu a0 q2 n1) (!q14))) none) ((f59 fu a0).bind fun q15 => some q15)
def f19_j1 (fu : Nat) (a0 : Table) (q2 : (List Col) × Bool) (i3 : Bool) : Option Bool := cond i3 (some false) (f19_l1 fu a0 q2 fu 0 0)
def f19 (fu : Nat) (a0 : Table) : Option Bool := (f55 fu a0.first a0.changes).bind fun q2 => cond (!q2.2) (f19_j1 fu a0 q2 true) (cond (decide (8 < (List.length a0.changes : Int))) (f19_j1 fu a0 q2 true) (cond (decide (8 < (List.length a0.rows : Int))) (f19_j1 fu a0 q2 true) ((f56 fu a0.next 1 60).bind fun q16 => f19_j1 fu a0 q2 (!q16))))
theorem n19 : ∃ fn c, Tryz.prog.funcs[35]? = some fn ∧ (fn.name == "runtime.NumGoroutine") = false ∧ fn.body = some c := ⟨_, _, Tryz.func35, by kernel_rfl, rfl⟩
theorem c19 (fu : Nat) (a0 : Table) : Ctr Tryz.prog 35 [tTable.va a0] [] (f19 fu a0) (fun _ _ => []) (fun q => isB q) := by
  refine Ctr.of_W Tryz.func35 rfl Tryz.ntmps35 rfl fun A w => ?_
  unfold f19
  refine .seq <| .region <| .box (T := tTable) rfl rfl fun b1 => .assign rfl rfl <| .nil ?_
  refine .seq <| .region <| .fieldP rfl fa27_0 rfl <| .loadP 0 fTable_0 rfl rfl ty23 rfl <| .fieldP rfl fa27_1 rfl <| .loadP 0 fTable_1 rfl rfl ty24 rfl <| .call0 (c55 fu _ _) n55 rfl rfl fun q2 => .move rfl rfl <| .extract rfl rfl rfl <| .extract rfl rfl rfl <| .assign rfl rfl <| .assign rfl rfl <| .nil ?_
  refine .seq <| .seq <| .join1 (fun i3 => ⟨[(1, isP b1 0, none), (3, (tL tCol).va q2.1, none), (37, isB i3, none)], [boxO b1 tTable a0 []]⟩) (fun i3 => f19_j1 fu a0 q2 i3) (fun i3 => ?_) (fun hj1 => ?_)
  · refine .cond rfl (fun _ => ?_) (fun _ => ?_)
    · refine .seq <| .region <| .assign rfl rfl <| .nil ?_
      exact .ret1 Tryz.func35 Tryz.results35 (.tmp rfl) rfl (fun _ _ => .cons _ <| .slnil)
    · refine .skip <| .seq <| .region <| .assign rfl rfl <| .nil ?_
      refine .seq <| .seq <| .region <| .fieldP rfl fa27_2 rfl <| .loadP 0 fTable_2 rfl rfl ty25 rfl <| .lenL rfl Tryz.underlying30 rfl <| .move rfl rfl <| .nil ?_
      refine .block <| .loop <| .keep [1, 3, 5, 39, 40, 41] [] rfl ?_
      refine (show ∀ (n1 : Nat) (i4 : Int) (i5 : Int), W _ _ _ _ _ ⟨[(1, isP b1 0, none), (3, (tL tCol).va q2.1, none), (5, isI .i64 i4, none), (39, (tL tRow).va a0.rows, none), (40, isI .i64 (List.length a0.rows : Int), none), (41, isI .i64 i5, none)], [boxO b1 tTable a0 []]⟩ (f19_l1 fu a0 q2 n1 i4 i5) from ?_) fu _ _
      intro n1
      induction n1 with
      | zero => exact fun _ _ => .stop
      | succ n1 ih1 =>
        intro i4 i5
        refine .inLoop <| .seq <| .region <| .bin rfl rfl rfl rfl <| .nil ?_
        refine .seq <| .cond rfl (fun _ => ?_) (fun _ => ?_)
        · refine .skip <| .seq <| .block <| .seq <| .region <| .elemAt rfl rfl Tryz.underlying30 ty37 rfl <| .load rfl ty37 rfl <| .alloc tRow d0_37 [] z37 rfl fun b6 => .storeP 0 (Fld.self _) rfl rfl rfl ty37 <| .nil ?_
          refine .seq <| .seq <| .join1 (fun i7 => ⟨[(1, isP b1 0, none), (3, (tL tCol).va q2.1, none), (7, isP b6 0, none), (39, (tL tRow).va a0.rows, none), (40, isI .i64 (List.length a0.rows : Int), none), (41, isI .i64 i5, none), (62, isB i7, none)], [boxO b6 tRow (a0.rows.getD i5.toNat default) [], boxO b1 tTable a0 []]⟩) (fun i7 => f19_j4 fu a0 q2 i5 (f19_l1 fu a0 q2 n1) i7) (fun i7 => ?_) (fun hj4 => ?_)
          · refine .cond rfl (fun _ => ?_) (fun _ => ?_)
            · refine .seq <| .region <| .assign rfl rfl <| .nil ?_
              exact .ret1 Tryz.func35 Tryz.results35 (.tmp rfl) rfl (fun _ _ => .cons _ <| .cons _ <| .slnil)
            · refine .skip <| .seq <| .region <| .fieldP rfl fa37_0 rfl <| .loadP 0 fRow_0 rfl rfl ty3 rfl <| .assign rfl rfl <| .nil ?_
              refine .seq <| .pT fun h2 => ?_
              refine .draw 7 [] mix (by kernel_rfl) (.cons (fun _ _ _ hP hE h => .fieldP (hE.op rfl) fa27_0 rfl <| h) <| .cons (fun _ _ _ hP hE h => .loadP 1 fTable_0 (hE.op rfl) (hP.get rfl rfl) ty23 rfl <| h) <| .cons (fun _ _ _ hP hE h => .fieldP (hE.op rfl) fa27_1 rfl <| h) <| .cons (fun _ _ _ hP hE h => .loadP 1 fTable_1 (hE.op rfl) (hP.get rfl rfl) ty24 rfl <| h) <| .cons (fun _ _ _ hP hE h => .fieldP (hE.op rfl) fa37_1 rfl <| h) <| .cons (fun _ _ _ hP hE h => .loadP 0 fRow_1 (hE.op rfl) (hP.get rfl rfl) ty3 rfl <| h) <| .cons (fun _ _ _ hP hE h => .useC h2 <| .cut (hE.op rfl) Tryz.underlying29 el56 rfl ⟨_, (hE.op rfl)⟩ rfl <| h) <| .nil) rfl <| .call0 (c57 fu _ _) n57 rfl rfl fun q8 => .move rfl rfl <| .extract rfl rfl rfl <| .extract rfl rfl rfl <| .assign rfl rfl <| .assign rfl rfl <| .nil ?_
              refine .seq <| .join1 (fun i9 => ⟨[(1, isP b1 0, none), (3, (tL tCol).va q2.1, none), (5, isI .i64 ((a0.rows.getD i5.toNat default).id), none), (39, (tL tRow).va a0.rows, none), (40, isI .i64 (List.length a0.rows : Int), none), (41, isI .i64 i5, none), (88, isB i9, none)], [boxO b1 tTable a0 []]⟩) (fun i9 => f19_j5 a0 i5 (f19_l1 fu a0 q2 n1) i9) (fun i9 => ?_) (fun hj5 => ?_)
              · refine .cond rfl (fun _ => ?_) (fun _ => ?_)
                · refine .seq <| .region <| .assign rfl rfl <| .nil ?_
                  exact .ret1 Tryz.func35 Tryz.results35 (.tmp rfl) rfl (fun _ _ => .cons _ <| .slnil)
                · refine .skip <| .inBlock <| .region <| .bin rfl rfl rfl rfl <| .move rfl rfl <| .nil ?_
                  exact .keep [1, 3, 5, 39, 40, 41] [] rfl (ih1 _ _)
              · refine .region <| .move rfl rfl <| .fieldP rfl fa37_2 rfl <| .loadP 0 fRow_2 rfl rfl ty32 rfl <| .call0 (c58 fu _ _) n58 rfl rfl fun q10 => .not rfl rfl <| .move rfl rfl <| .split 81 rfl (fun _ => ?_) (fun _ => ?_)
                · refine .off rfl rfl rfl <| .off rfl rfl rfl <| .off rfl rfl rfl <| .off rfl rfl rfl <| .off rfl rfl rfl <| .off rfl rfl rfl <| .pickT rfl rfl rfl <| .nil ?_
                  exact .keep [1, 3, 5, 39, 40, 41, 88] [] rfl (.drop (.cons _ <| .cons_cons _ <| .slnil) <| hj5 _)
                · refine .on rfl rfl <| .move rfl rfl <| .on rfl rfl <| .loadP 1 (Fld.self _) rfl rfl ty27 rfl <| .on rfl rfl <| .loadP 0 (Fld.self _) rfl rfl ty37 rfl <| .on rfl rfl <| .call0 (CtrL.plain (c49 fu _ _)) n49 rfl rfl fun q11 => .on rfl rfl <| .call0 (c58 fu _ _) n58 rfl rfl fun q12 => .on rfl rfl <| .not rfl rfl <| .pickF rfl rfl rfl <| .nil ?_
                  exact .keep [1, 3, 5, 39, 40, 41, 88] [] rfl (.drop (.cons _ <| .cons_cons _ <| .slnil) <| hj5 _)
          · refine .region <| .fieldP rfl fa37_0 rfl <| .loadP 0 fRow_0 rfl rfl ty3 rfl <| .move rfl rfl <| .bin rfl rfl rfl rfl <| .fieldP rfl fa27_3 rfl <| .loadP 1 fTable_3 rfl rfl ty3 rfl <| .bin rfl rfl rfl rfl <| .call0 (c56 fu _ _ _) n56 rfl rfl fun q13 => .not rfl rfl <| .move rfl rfl <| .split 54 rfl (fun _ => ?_) (fun _ => ?_)
            · refine .off rfl rfl rfl <| .off rfl rfl rfl <| .off rfl rfl rfl <| .off rfl rfl rfl <| .off rfl rfl rfl <| .off rfl rfl rfl <| .off rfl rfl rfl <| .pickT rfl rfl rfl <| .nil ?_
              exact .keep [1, 3, 7, 39, 40, 41, 62] [] rfl (hj4 _)
            · refine .on rfl rfl <| .fieldP rfl fa37_1 rfl <| .on rfl rfl <| .loadP 0 fRow_1 rfl rfl ty3 rfl <| .on rfl rfl <| .fieldP rfl fa27_1 rfl <| .on rfl rfl <| .loadP 1 fTable_1 rfl rfl ty24 rfl <| .on rfl rfl <| .lenL rfl Tryz.underlying29 rfl <| .on rfl rfl <| .call0 (c56 fu _ _ _) n56 rfl rfl fun q14 => .on rfl rfl <| .not rfl rfl <| .pickF rfl rfl rfl <| .nil ?_
              exact .keep [1, 3, 7, 39, 40, 41, 62] [] rfl (hj4 _)
        · refine .exit rfl <| .seq <| .region <| .loadP 0 (Fld.self _) rfl rfl ty27 rfl <| .call0 (c59 fu _) n59 rfl rfl fun q15 => .assign rfl rfl <| .nil ?_
          exact .ret1 Tryz.func35 Tryz.results35 (.tmp rfl) rfl (fun _ _ => .cons _ <| .slnil)
  · refine .region <| .move rfl rfl <| .not rfl rfl <| .move rfl rfl <| .split 20 rfl (fun _ => ?_) (fun _ => ?_)
    · refine .off rfl rfl rfl <| .off rfl rfl rfl <| .off rfl rfl rfl <| .off rfl rfl rfl <| .pickT rfl rfl rfl <| .move rfl rfl <| .off rfl rfl rfl <| .off rfl rfl rfl <| .off rfl rfl rfl <| .off rfl rfl rfl <| .pickT rfl rfl rfl <| .move rfl rfl <| .off rfl rfl rfl <| .off rfl rfl rfl <| .off rfl rfl rfl <| .off rfl rfl rfl <| .pickT rfl rfl rfl <| .nil ?_
      exact .keep [1, 3, 37] [] rfl (hj1 _)
    · refine .on rfl rfl <| .fieldP rfl fa27_1 rfl <| .on rfl rfl <| .loadP 0 fTable_1 rfl rfl ty24 rfl <| .on rfl rfl <| .lenL rfl Tryz.underlying29 rfl <| .on rfl rfl <| .bin rfl rfl rfl rfl <| .pickF rfl rfl rfl <| .move rfl rfl <| .split 26 rfl (fun _ => ?_) (fun _ => ?_)
      · refine .off rfl rfl rfl <| .off rfl rfl rfl <| .off rfl rfl rfl <| .off rfl rfl rfl <| .pickT rfl rfl rfl <| .move rfl rfl <| .off rfl rfl rfl <| .off rfl rfl rfl <| .off rfl rfl rfl <| .off rfl rfl rfl <| .pickT rfl rfl rfl <| .nil ?_
        exact .keep [1, 3, 37] [] rfl (hj1 _)
      · refine .on rfl rfl <| .fieldP rfl fa27_2 rfl <| .on rfl rfl <| .loadP 0 fTable_2 rfl rfl ty25 rfl <| .on rfl rfl <| .lenL rfl Tryz.underlying30 rfl <| .on rfl rfl <| .bin rfl rfl rfl rfl <| .pickF rfl rfl rfl <| .move rfl rfl <| .split 32 rfl (fun _ => ?_) (fun _ => ?_)
        · refine .off rfl rfl rfl <| .off rfl rfl rfl <| .off rfl rfl rfl <| .off rfl rfl rfl <| .pickT rfl rfl rfl <| .nil ?_
          exact .keep [1, 3, 37] [] rfl (hj1 _)
        · refine .on rfl rfl <| .fieldP rfl fa27_3 rfl <| .on rfl rfl <| .loadP 0 fTable_3 rfl rfl ty3 rfl <| .on rfl rfl <| .call0 (c56 fu _ _ _) n56 rfl rfl fun q16 => .on rfl rfl <| .not rfl rfl <| .pickF rfl rfl rfl <| .nil ?_
          exact .keep [1, 3, 37] [] rfl (hj1 _)
def f130 (a0 : List Change) : Option (List Change) := cond (decide (List.length ([] : List Change) + List.length a0 ≤ CAP)) (some (([] : List Change) ++ a0)) none
theorem n130 : ∃ fn c, Tryz.prog.funcs[117]? = some fn ∧ (fn.name == "runtime.NumGoroutine") = false ∧ fn.body = some c := ⟨_, _, Tryz.func117, by kernel_rfl, rfl⟩
theorem c130 (a0 : List Change) : CtrL Tryz.prog 117 [(tL tChange).va a0] [] (f130 a0) (fun v => v) (fun q v => [arrO tChange v q]) (fun _ v => tRaw.va v) := by
  refine CtrL.of_W Tryz.func117 rfl Tryz.ntmps117 rfl fun A w => ?_
  unfold f130
  refine .seq <| .region <| .assign rfl rfl <| .arrNil tChange <| .nil ?_
  refine .seq <| .seq <| .region <| .move rfl rfl <| .eqNil rfl Tryz.underlying29 rfl fun nb1 hnb1 => .nil ?_
  refine .eqr (r' := cond nb1 (cond (decide (List.length ([] : List Change) + List.length a0 ≤ CAP)) (some (([] : List Change) ++ a0)) none) (cond (decide (List.length ([] : List Change) + List.length a0 ≤ CAP)) (some (([] : List Change) ++ a0)) none)) ?_ <| .cond rfl (fun _ => ?_) (fun _ => ?_)
  · cases nb1 <;> rfl
  · obtain rfl := hnb1 (by assumption)
    refine .eqr (r' := some ([] : List Change)) (by simp) ?_
    refine .seq <| .region <| .assign rfl rfl <| .nil ?_
    exact .toRaw 0 2 rfl rfl <| .retL1 (.slice none 0 0) Tryz.func117 Tryz.results117 (.tmp rfl) rfl (fun _ _ _ h => h.1) (.cons_cons _ <| .slnil)
  · refine .skip <| .seq <| .region <| .lit (T := tChange) Tryz.underlying29 el56 rfl rfl (.nil) rfl fun v2 => .toArr 0 5 rfl rfl rfl <| .move rfl rfl <| .appA (T := tChange) 0 rfl rfl rfl Tryz.underlying29 el56 rfl fun v3 => .assign rfl rfl <| .nil ?_
    exact .toRaw 0 2 rfl rfl <| .retL1 v3 Tryz.func117 Tryz.results117 (.tmp rfl) rfl (fun _ _ _ h => h.1) (.cons_cons _ <| .cons _ <| .slnil)
def f129 (a0 : List Change) : Option (List Change) := some a0
theorem n129 : ∃ fn c, Tryz.prog.funcs[116]? = some fn ∧ (fn.name == "runtime.NumGoroutine") = false ∧ fn.body = some c := ⟨_, _, Tryz.func116, by kernel_rfl, rfl⟩
theorem c129 (vp0 : Value) (a0 : List Change) : CtrL Tryz.prog 116 [isV vp0] [arrO tChange vp0 a0] (f129 a0) (fun v => v) (fun q v => [arrO tChange v q]) (fun _ v => tRaw.va v) := by
  refine CtrL.of_W Tryz.func116 rfl Tryz.ntmps116 rfl fun A w => ?_
  unfold f129
  refine .know 0 rfl <| .seq <| .region <| .assign rfl rfl <| .arrNil tChange <| .nil ?_
  refine .seq <| .region <| .move rfl rfl <| .move rfl rfl <| .lenA 1 rfl rfl Tryz.underlying29 rfl <| .move rfl rfl <| .lenA 1 rfl rfl Tryz.underlying29 rfl <| .clip (T := tChange) 1 rfl rfl rfl rfl Tryz.underlying29 el56 rfl fun v1 => .assign rfl rfl <| .nil ?_
  exact .toRaw 1 2 rfl rfl <| .retL1 v1 Tryz.func116 Tryz.results116 (.tmp rfl) rfl (fun _ _ _ h => h.1) (.cons _ <| .cons_cons _ <| .slnil)
def f109 (a0 : List Change) : Option (List Change) := (f130 a0).bind fun q1 => (f129 q1).bind fun q3 => some q3
theorem n109 : ∃ fn c, Tryz.prog.funcs[88]? = some fn ∧ (fn.name == "runtime.NumGoroutine") = false ∧ fn.body = some c := ⟨_, _, Tryz.func88, by kernel_rfl, rfl⟩
theorem c109 (a0 : List Change) : CtrL Tryz.prog 88 [(tL tChange).va a0] [] (f109 a0) (fun v => v) (fun q v => [arrO tChange v q]) (fun _ v => tRaw.va v) := by
  refine CtrL.of_W Tryz.func88 rfl Tryz.ntmps88 rfl fun A w => ?_
  unfold f109
  refine .seq <| .region <| .assign rfl rfl <| .arrNil tChange <| .nil ?_
  refine .seq <| .region <| .move rfl rfl <| .callL0 (c130 _) n130 rfl rfl fun q1 v2 => .unRaw 4 rfl <| .callS 0 (c129 _ _) rfl n129 rfl rfl fun q3 v4 => .unRaw 5 rfl <| .assign rfl rfl <| .nil ?_
  exact .toRaw 0 2 rfl rfl <| .retL1 v4 Tryz.func88 Tryz.results88 (.tmp rfl) rfl (fun _ _ _ h => h.1) (.cons_cons _ <| .cons _ <| .slnil)
def f111 (a0 : List Row) : Option (List Row) := cond (decide (List.length ([] : List Row) + List.length a0 ≤ CAP)) (some (([] : List Row) ++ a0)) none
theorem n111 : ∃ fn c, Tryz.prog.funcs[107]? = some fn ∧ (fn.name == "runtime.NumGoroutine") = false ∧ fn.body = some c := ⟨_, _, Tryz.func107, by kernel_rfl, rfl⟩
theorem c111 (a0 : List Row) : CtrL Tryz.prog 107 [(tL tRow).va a0] [] (f111 a0) (fun v => v) (fun q v => [arrO tRow v q]) (fun _ v => tRaw.va v) := by
  refine CtrL.of_W Tryz.func107 rfl Tryz.ntmps107 rfl fun A w => ?_
  unfold f111
  refine .seq <| .region <| .assign rfl rfl <| .arrNil tRow <| .nil ?_
  refine .seq <| .seq <| .region <| .move rfl rfl <| .eqNil rfl Tryz.underlying30 rfl fun nb1 hnb1 => .nil ?_
  refine .eqr (r' := cond nb1 (cond (decide (List.length ([] : List Row) + List.length a0 ≤ CAP)) (some (([] : List Row) ++ a0)) none) (cond (decide (List.length ([] : List Row) + List.length a0 ≤ CAP)) (some (([] : List Row) ++ a0)) none)) ?_ <| .cond rfl (fun _ => ?_) (fun _ => ?_)
  · cases nb1 <;> rfl
  · obtain rfl := hnb1 (by assumption)
    refine .eqr (r' := some ([] : List Row)) (by simp) ?_
    refine .seq <| .region <| .assign rfl rfl <| .nil ?_
    exact .toRaw 0 2 rfl rfl <| .retL1 (.slice none 0 0) Tryz.func107 Tryz.results107 (.tmp rfl) rfl (fun _ _ _ h => h.1) (.cons_cons _ <| .slnil)
  · refine .skip <| .seq <| .region <| .lit (T := tRow) Tryz.underlying30 el37 rfl rfl (.nil) rfl fun v2 => .toArr 0 5 rfl rfl rfl <| .move rfl rfl <| .appA (T := tRow) 0 rfl rfl rfl Tryz.underlying30 el37 rfl fun v3 => .assign rfl rfl <| .nil ?_
    exact .toRaw 0 2 rfl rfl <| .retL1 v3 Tryz.func107 Tryz.results107 (.tmp rfl) rfl (fun _ _ _ h => h.1) (.cons_cons _ <| .cons _ <| .slnil)
def f110 (a0 : List Row) : Option (List Row) := some a0
theorem n110 : ∃ fn c, Tryz.prog.funcs[106]? = some fn ∧ (fn.name == "runtime.NumGoroutine") = false ∧ fn.body = some c := ⟨_, _, Tryz.func106, by kernel_rfl, rfl⟩
theorem c110 (vp0 : Value) (a0 : List Row) : CtrL Tryz.prog 106 [isV vp0] [arrO tRow vp0 a0] (f110 a0) (fun v => v) (fun q v => [arrO tRow v q]) (fun _ v => tRaw.va v) := by
  refine CtrL.of_W Tryz.func106 rfl Tryz.ntmps106 rfl fun A w => ?_
  unfold f110
  refine .know 0 rfl <| .seq <| .region <| .assign rfl rfl <| .arrNil tRow <| .nil ?_
  refine .seq <| .region <| .move rfl rfl <| .move rfl rfl <| .lenA 1 rfl rfl Tryz.underlying30 rfl <| .move rfl rfl <| .lenA 1 rfl rfl Tryz.underlying30 rfl <| .clip (T := tRow) 1 rfl rfl rfl rfl Tryz.underlying30 el37 rfl fun v1 => .assign rfl rfl <| .nil ?_
  exact .toRaw 1 2 rfl rfl <| .retL1 v1 Tryz.func106 Tryz.results106 (.tmp rfl) rfl (fun _ _ _ h => h.1) (.cons _ <| .cons_cons _ <| .slnil)
def f77 (a0 : List Row) : Option (List Row) := (f111 a0).bind fun q1 => (f110 q1).bind fun q3 => some q3
theorem n77 : ∃ fn c, Tryz.prog.funcs[74]? = some fn ∧ (fn.name == "runtime.NumGoroutine") = false ∧ fn.body = some c := ⟨_, _, Tryz.func74, by kernel_rfl, rfl⟩
theorem c77 (a0 : List Row) : CtrL Tryz.prog 74 [(tL tRow).va a0] [] (f77 a0) (fun v => v) (fun q v => [arrO tRow v q]) (fun _ v => tRaw.va v) := by
  refine CtrL.of_W Tryz.func74 rfl Tryz.ntmps74 rfl fun A w => ?_
  unfold f77
  refine .seq <| .region <| .assign rfl rfl <| .arrNil tRow <| .nil ?_
  refine .seq <| .region <| .move rfl rfl <| .callL0 (c111 _) n111 rfl rfl fun q1 v2 => .unRaw 4 rfl <| .callS 0 (c110 _ _) rfl n110 rfl rfl fun q3 v4 => .unRaw 5 rfl <| .assign rfl rfl <| .nil ?_
  exact .toRaw 0 2 rfl rfl <| .retL1 v4 Tryz.func74 Tryz.results74 (.tmp rfl) rfl (fun _ _ _ h => h.1) (.cons_cons _ <| .cons _ <| .slnil)
def f80_l1 (a0 : Table) (i4 : Table) : Nat → Int → (List Row) → Option Table
  | 0, _, _ => none
  | n1 + 1, i7, i8 => cond (decide (i7 < (List.length a0.rows : Int))) (cond (decide (0 ≤ i7) && decide (i7 < (List.length a0.rows : Int))) ((f115 ((a0.rows.getD i7.toNat default).vals)).bind fun q10 => cond (decide (0 ≤ i7) && decide (i7 < (List.length i8 : Int))) ((f80_l1 a0 i4 n1) (IntKind.i64.wrap (i7 + 1)) (i8.set i7.toNat ({ (i8.getD i7.toNat default) with vals := q10 } : Row))) none) none) (some (⟨i4.first, i4.changes, i8, i4.next⟩ : Table))
def f80_j1 (fu : Nat) (a0 : Table) (i4 : Table) : Option Table := f80_l1 a0 i4 fu 0 i4.rows
def f80 (fu : Nat) (a0 : Table) : Option Table := (f91 a0.first).bind fun q12 => (f109 a0.changes).bind fun q13 => (f77 a0.rows).bind fun q15 => f80_j1 fu a0 (⟨q12, q13, q15, a0.next⟩ : Table)
theorem n80 : ∃ fn c, Tryz.prog.funcs[72]? = some fn ∧ (fn.name == "runtime.NumGoroutine") = false ∧ fn.body = some c := ⟨_, _, Tryz.func72, by kernel_rfl, rfl⟩
def f84 (a0 : Row) (a1 : Int) : Option Bool := some (decide (a0.id = a1))
theorem n84 : ∃ fn c, Tryz.prog.funcs[105]? = some fn ∧ (fn.name == "runtime.NumGoroutine") = false ∧ fn.body = some c := ⟨_, _, Tryz.func105, by kernel_rfl, rfl⟩
theorem c84 (a0 : Row) (a1 : Int) : Ctr Tryz.prog 105 [tRow.va a0, isAt (tI .i64) a1] [] (f84 a0 a1) (fun _ _ => []) (fun q => isB q) := by
  refine Ctr.of_W Tryz.func105 rfl Tryz.ntmps105 rfl fun A w => ?_
  unfold f84
  refine .seq <| .region <| .box (T := tRow) rfl rfl fun b1 => .assign rfl rfl <| .nil ?_
  refine .seq <| .region <| .fieldP rfl fa37_0 rfl <| .loadP 0 fRow_0 rfl rfl ty3 rfl <| .load rfl ty3 rfl <| .bin rfl rfl rfl rfl <| .assign rfl rfl <| .nil ?_
  exact .ret1 Tryz.func105 Tryz.results105 (.tmp rfl) rfl (fun _ _ => .cons _ <| .slnil)
def f83_l1 (a0 : List Row) (a1 : Row → Option Bool) : Nat → Int → Option Int
  | 0, _ => none
  | n1 + 1, i1 => cond (decide (i1 < (List.length a0 : Int))) (cond (decide (0 ≤ i1) && decide (i1 < (List.length a0 : Int))) ((a1 (a0.getD i1.toNat default)).bind fun q2 => cond q2 (some i1) ((f83_l1 a0 a1 n1) (IntKind.i64.wrap (i1 + 1)))) none) (some (-1))
def f83 (fu : Nat) (a0 : List Row) (a1 : Row → Option Bool) : Option Int := f83_l1 a0 a1 fu 0
theorem n83 : ∃ fn c, Tryz.prog.funcs[104]? = some fn ∧ (fn.name == "runtime.NumGoroutine") = false ∧ fn.body = some c := ⟨_, _, Tryz.func104, by kernel_rfl, rfl⟩
theorem c83 (fu : Nat) (a0 : List Row) (a1 : Row → Option Bool) (g1 : Nat) (k1 : List VA) (hn1 : ∃ fn c, Tryz.prog.funcs[g1]? = some fn ∧ (fn.name == "runtime.NumGoroutine") = false ∧ fn.body = some c) (hc1 : ∀ (x0 : Row), Ctr Tryz.prog g1 ([tRow.va x0] ++ k1) [] (a1 x0) (fun _ _ => []) (fun q => isB q)) : Ctr Tryz.prog 104 [(tL tRow).va a0, isClo g1 k1] [] (f83 fu a0 a1) (fun _ _ => []) (fun q => isI .i64 q) := by
  refine Ctr.of_W Tryz.func104 rfl Tryz.ntmps104 rfl fun A w => ?_
  unfold f83
  refine .seq <| .region <| .assign rfl rfl <| .nil ?_
  refine .seq <| .seq <| .region <| .move rfl rfl <| .lenL rfl Tryz.underlying30 rfl <| .move rfl rfl <| .nil ?_
  refine .block <| .loop <| .keep [0, 1, 7, 8] [] rfl ?_
  refine (show ∀ (n1 : Nat) (i1 : Int), W _ _ _ _ _ ⟨[(0, (tL tRow).va a0, none), (1, isClo g1 k1, none), (7, isI .i64 (List.length a0 : Int), none), (8, isI .i64 i1, none)], []⟩ (f83_l1 a0 a1 n1 i1) from ?_) fu _
  intro n1
  induction n1 with
  | zero => exact fun _ => .stop
  | succ n1 ih1 =>
    intro i1
    refine .inLoop <| .seq <| .region <| .bin rfl rfl rfl rfl <| .nil ?_
    refine .seq <| .cond rfl (fun _ => ?_) (fun _ => ?_)
    · refine .skip <| .seq <| .block <| .seq <| .region <| .move rfl rfl <| .assign rfl rfl <| .nil ?_
      refine .seq <| .region <| .move rfl rfl <| .move rfl rfl <| .move rfl rfl <| .elemAt rfl rfl Tryz.underlying30 ty37 rfl <| .load rfl ty37 rfl <| .callC rfl (hc1 _) hn1 rfl rfl fun q2 => .nil ?_
      refine .cond rfl (fun _ => ?_) (fun _ => ?_)
      · refine .seq <| .region <| .move rfl rfl <| .assign rfl rfl <| .nil ?_
        exact .ret1 Tryz.func104 Tryz.results104 (.tmp rfl) rfl (fun _ _ => .slnil)
      · refine .skip <| .inBlock <| .region <| .bin rfl rfl rfl rfl <| .move rfl rfl <| .nil ?_
        exact .keep [0, 1, 7, 8] [] rfl (ih1 _)
    · refine .exit rfl <| .seq <| .region <| .assign rfl rfl <| .nil ?_
      exact .ret1 Tryz.func104 Tryz.results104 (.tmp rfl) rfl (fun _ _ => .slnil)
def f48 (fu : Nat) (a0 : Table) (a1 : Int) : Option Int := (f83 fu a0.rows (fun x0 => f84 x0 a1)).bind fun q3 => some q3
theorem n48 : ∃ fn c, Tryz.prog.funcs[73]? = some fn ∧ (fn.name == "runtime.NumGoroutine") = false ∧ fn.body = some c := ⟨_, _, Tryz.func73, by kernel_rfl, rfl⟩
theorem c48 (fu : Nat) (a0 : Table) (a1 : Int) : Ctr Tryz.prog 73 [tTable.va a0, isI .i64 a1] [] (f48 fu a0 a1) (fun _ _ => []) (fun q => isI .i64 q) := by
  refine Ctr.of_W Tryz.func73 rfl Tryz.ntmps73 rfl fun A w => ?_
  unfold f48
  refine .seq <| .region <| .box (T := tTable) rfl rfl fun b1 => .box (T := (tI .i64)) rfl rfl fun b2 => .assign rfl rfl <| .nil ?_
  refine .seq <| .region <| .fieldP rfl fa27_2 rfl <| .loadP 1 fTable_2 rfl rfl ty25 rfl <| .frzP 0 3 rfl rfl <| .makeF rfl rfl <| .call0 (c83 fu _ (fun x0 => f84 x0 a1) 105 [isAt (tI .i64) a1] n84 (fun x0 => c84 x0 a1)) n83 rfl rfl fun q3 => .assign rfl rfl <| .nil ?_
  exact .ret1 Tryz.func73 Tryz.results73 (.tmp rfl) rfl (fun _ _ => .cons _ <| .slnil)
end Go.Proofs.YtejobmamkeoheaaGreatDoor
