/- Functions of the program: what each answers, and that the machine answers so. -/
import Derived.Test.YtlkhmcajnfombaaGreatDoorQ1004A6
import Derived.KernelRfl
set_option linter.unusedVariables false
set_option linter.unusedSimpArgs false
set_option linter.deprecated false
set_option linter.unusedSectionVars false
set_option linter.all false
namespace Go.Proofs.YtlkhmcajnfombaaGreatDoor
open Go Go.HL
def f67_j2 (i1 : Int) (rec1 : Int → Option Bool) (i3 : Bool) : Option Bool := cond i3 (some false) (rec1 (IntKind.i64.wrap (i1 + 1)))
def f67_l1 (fu : Nat) (a0 : List Col) : Nat → Int → Option Bool
  | 0, _ => none
  | n1 + 1, i1 => cond (decide (i1 < (List.length a0 : Int))) (cond (decide (0 ≤ i1) && decide (i1 < (List.length a0 : Int))) ((f103 fu (a0.getD i1.toNat default)).bind fun q4 => cond (!q4) (f67_j2 i1 (f67_l1 fu a0 n1) true) ((f68 fu a0 ((a0.getD i1.toNat default).name)).bind fun q5 => f67_j2 i1 (f67_l1 fu a0 n1) (!decide (q5 = i1)))) none) ((f56 fu (List.length a0 : Int) 1 5).bind fun q6 => some q6)
def f67 (fu : Nat) (a0 : List Col) : Option Bool := f67_l1 fu a0 fu 0
theorem n67 : ∃ fn c, Tryz.prog.funcs[62]? = some fn ∧ (fn.name == "runtime.NumGoroutine") = false ∧ fn.body = some c := ⟨_, _, Tryz.func62, by kernel_rfl, rfl⟩
theorem c67 (fu : Nat) (a0 : List Col) : Ctr Tryz.prog 62 [(tL tCol).va a0] [] (f67 fu a0) (fun _ _ => []) (fun q => isB q) := by
  refine Ctr.of_W Tryz.func62 rfl Tryz.ntmps62 rfl fun A w => ?_
  unfold f67
  refine .seq <| .region <| .assign rfl rfl <| .nil ?_
  refine .seq <| .seq <| .region <| .move rfl rfl <| .lenL rfl Tryz.underlying23 rfl <| .move rfl rfl <| .nil ?_
  refine .block <| .loop <| .keep [0, 5, 6, 7] [] rfl ?_
  refine (show ∀ (n1 : Nat) (i1 : Int), W _ _ _ _ _ ⟨[(0, (tL tCol).va a0, none), (5, (tL tCol).va a0, none), (6, isI .i64 (List.length a0 : Int), none), (7, isI .i64 i1, none)], []⟩ (f67_l1 fu a0 n1 i1) from ?_) fu _
  intro n1
  induction n1 with
  | zero => exact fun _ => .stop
  | succ n1 ih1 =>
    intro i1
    refine .inLoop <| .seq <| .region <| .bin rfl rfl rfl rfl <| .nil ?_
    refine .seq <| .cond rfl (fun _ => ?_) (fun _ => ?_)
    · refine .skip <| .seq <| .block <| .seq <| .region <| .move rfl rfl <| .elemAt rfl rfl Tryz.underlying23 ty52 rfl <| .load rfl ty52 rfl <| .alloc tCol d0_52 [] z52 rfl fun b2 => .assign rfl rfl <| .storeP 0 (Fld.self _) rfl rfl rfl ty52 <| .nil ?_
      refine .seq <| .join1 (fun i3 => ⟨[(0, (tL tCol).va a0, none), (5, (tL tCol).va a0, none), (6, isI .i64 (List.length a0 : Int), none), (7, isI .i64 i1, none), (22, isB i3, none)], []⟩) (fun i3 => f67_j2 i1 (f67_l1 fu a0 n1) i3) (fun i3 => ?_) (fun hj2 => ?_)
      · refine .cond rfl (fun _ => ?_) (fun _ => ?_)
        · refine .seq <| .region <| .assign rfl rfl <| .nil ?_
          exact .ret1 Tryz.func62 Tryz.results62 (.tmp rfl) rfl (fun _ _ => .slnil)
        · refine .skip <| .inBlock <| .region <| .bin rfl rfl rfl rfl <| .move rfl rfl <| .nil ?_
          exact .keep [0, 5, 6, 7] [] rfl (ih1 _)
      · refine .region <| .loadP 0 (Fld.self _) rfl rfl ty52 rfl <| .call0 (c103 fu _) n103 rfl rfl fun q4 => .not rfl rfl <| .move rfl rfl <| .split 15 rfl (fun _ => ?_) (fun _ => ?_)
        · refine .off rfl rfl rfl <| .off rfl rfl rfl <| .off rfl rfl rfl <| .off rfl rfl rfl <| .off rfl rfl rfl <| .off rfl rfl rfl <| .pickT rfl rfl rfl <| .nil ?_
          exact .keep [0, 5, 6, 7, 22] [] rfl (.drop (.cons _ <| .slnil) <| hj2 _)
        · refine .on rfl rfl <| .move rfl rfl <| .on rfl rfl <| .fieldP rfl fa52_0 rfl <| .on rfl rfl <| .loadP 0 fCol_0 rfl rfl ty9 rfl <| .on rfl rfl <| .call0 (c68 fu _ _) n68 rfl rfl fun q5 => .on rfl rfl <| .move rfl rfl <| .on rfl rfl <| .bin rfl rfl rfl rfl <| .pickF rfl rfl rfl <| .nil ?_
          exact .keep [0, 5, 6, 7, 22] [] rfl (.drop (.cons _ <| .slnil) <| hj2 _)
    · refine .exit rfl <| .seq <| .region <| .move rfl rfl <| .lenL rfl Tryz.underlying23 rfl <| .call0 (c56 fu _ _ _) n56 rfl rfl fun q6 => .assign rfl rfl <| .nil ?_
      exact .ret1 Tryz.func62 Tryz.results62 (.tmp rfl) rfl (fun _ _ => .slnil)
def f122 (a0 : List Col) : Option (List Col) := cond (decide (List.length ([] : List Col) + List.length a0 ≤ CAP)) (some (([] : List Col) ++ a0)) none
theorem n122 : ∃ fn c, Tryz.prog.funcs[93]? = some fn ∧ (fn.name == "runtime.NumGoroutine") = false ∧ fn.body = some c := ⟨_, _, Tryz.func93, by kernel_rfl, rfl⟩
theorem c122 (a0 : List Col) : CtrL Tryz.prog 93 [(tL tCol).va a0] [] (f122 a0) (fun v => v) (fun q v => [arrO tCol v q]) (fun _ v => tRaw.va v) := by
  refine CtrL.of_W Tryz.func93 rfl Tryz.ntmps93 rfl fun A w => ?_
  unfold f122
  refine .seq <| .region <| .assign rfl rfl <| .arrNil tCol <| .nil ?_
  refine .seq <| .seq <| .region <| .move rfl rfl <| .eqNil rfl Tryz.underlying23 rfl fun nb1 hnb1 => .nil ?_
  refine .eqr (r' := cond nb1 (cond (decide (List.length ([] : List Col) + List.length a0 ≤ CAP)) (some (([] : List Col) ++ a0)) none) (cond (decide (List.length ([] : List Col) + List.length a0 ≤ CAP)) (some (([] : List Col) ++ a0)) none)) ?_ <| .cond rfl (fun _ => ?_) (fun _ => ?_)
  · cases nb1 <;> rfl
  · obtain rfl := hnb1 (by assumption)
    refine .eqr (r' := some ([] : List Col)) (by simp) ?_
    refine .seq <| .region <| .assign rfl rfl <| .nil ?_
    exact .toRaw 0 2 rfl rfl <| .retL1 (.slice none 0 0) Tryz.func93 Tryz.results93 (.tmp rfl) rfl (fun _ _ _ h => h.1) (.cons_cons _ <| .slnil)
  · refine .skip <| .seq <| .region <| .lit (T := tCol) Tryz.underlying23 el52 rfl rfl (.nil) rfl fun v2 => .toArr 0 5 rfl rfl rfl <| .move rfl rfl <| .appA (T := tCol) 0 rfl rfl rfl Tryz.underlying23 el52 rfl fun v3 => .assign rfl rfl <| .nil ?_
    exact .toRaw 0 2 rfl rfl <| .retL1 v3 Tryz.func93 Tryz.results93 (.tmp rfl) rfl (fun _ _ _ h => h.1) (.cons_cons _ <| .cons _ <| .slnil)
def f121 (a0 : List Col) : Option (List Col) := some a0
theorem n121 : ∃ fn c, Tryz.prog.funcs[92]? = some fn ∧ (fn.name == "runtime.NumGoroutine") = false ∧ fn.body = some c := ⟨_, _, Tryz.func92, by kernel_rfl, rfl⟩
theorem c121 (vp0 : Value) (a0 : List Col) : CtrL Tryz.prog 92 [isV vp0] [arrO tCol vp0 a0] (f121 a0) (fun v => v) (fun q v => [arrO tCol v q]) (fun _ v => tRaw.va v) := by
  refine CtrL.of_W Tryz.func92 rfl Tryz.ntmps92 rfl fun A w => ?_
  unfold f121
  refine .know 0 rfl <| .seq <| .region <| .assign rfl rfl <| .arrNil tCol <| .nil ?_
  refine .seq <| .region <| .move rfl rfl <| .move rfl rfl <| .lenA 1 rfl rfl Tryz.underlying23 rfl <| .move rfl rfl <| .lenA 1 rfl rfl Tryz.underlying23 rfl <| .clip (T := tCol) 1 rfl rfl rfl rfl Tryz.underlying23 el52 rfl fun v1 => .assign rfl rfl <| .nil ?_
  exact .toRaw 1 2 rfl rfl <| .retL1 v1 Tryz.func92 Tryz.results92 (.tmp rfl) rfl (fun _ _ _ h => h.1) (.cons _ <| .cons_cons _ <| .slnil)
def f91 (a0 : List Col) : Option (List Col) := (f122 a0).bind fun q1 => (f121 q1).bind fun q3 => some q3
theorem n91 : ∃ fn c, Tryz.prog.funcs[63]? = some fn ∧ (fn.name == "runtime.NumGoroutine") = false ∧ fn.body = some c := ⟨_, _, Tryz.func63, by kernel_rfl, rfl⟩
theorem c91 (a0 : List Col) : CtrL Tryz.prog 63 [(tL tCol).va a0] [] (f91 a0) (fun v => v) (fun q v => [arrO tCol v q]) (fun _ v => tRaw.va v) := by
  refine CtrL.of_W Tryz.func63 rfl Tryz.ntmps63 rfl fun A w => ?_
  unfold f91
  refine .seq <| .region <| .assign rfl rfl <| .arrNil tCol <| .nil ?_
  refine .seq <| .region <| .move rfl rfl <| .callL0 (c122 _) n122 rfl rfl fun q1 v2 => .unRaw 4 rfl <| .callS 0 (c121 _ _) rfl n121 rfl rfl fun q3 v4 => .unRaw 5 rfl <| .assign rfl rfl <| .nil ?_
  exact .toRaw 0 2 rfl rfl <| .retL1 v4 Tryz.func63 Tryz.results63 (.tmp rfl) rfl (fun _ _ _ h => h.1) (.cons_cons _ <| .cons _ <| .slnil)
def f112_j1 (a0 : Change) (i3 : Change) : Option Bool := some (decide (i3 = a0))
def f112 (fu : Nat) (a0 : Change) : Option Bool := cond (decide (a0.kind = 1)) (f112_j1 a0 ({ (⟨a0.kind, d0_56.name, d0_56.new, d0_56.col⟩ : Change) with col := a0.col } : Change)) (cond (decide (a0.kind = 2)) (f112_j1 a0 ({ (⟨a0.kind, d0_56.name, d0_56.new, d0_56.col⟩ : Change) with name := a0.name } : Change)) (cond (decide (a0.kind = 3)) (f112_j1 a0 ({ ({ (⟨a0.kind, d0_56.name, d0_56.new, d0_56.col⟩ : Change) with name := a0.name } : Change) with new := a0.new } : Change)) (cond (decide (a0.kind = 4)) (f112_j1 a0 ({ ({ (⟨a0.kind, d0_56.name, d0_56.new, d0_56.col⟩ : Change) with name := a0.name } : Change) with col := ({ ({ (⟨a0.kind, d0_56.name, d0_56.new, d0_56.col⟩ : Change) with name := a0.name } : Change).col with kind := a0.col.kind } : Col) } : Change)) (some false))))
theorem n112 : ∃ fn c, Tryz.prog.funcs[103]? = some fn ∧ (fn.name == "runtime.NumGoroutine") = false ∧ fn.body = some c := ⟨_, _, Tryz.func103, by kernel_rfl, rfl⟩
theorem c112 (fu : Nat) (a0 : Change) : Ctr Tryz.prog 103 [tChange.va a0] [] (f112 fu a0) (fun _ _ => []) (fun q => isB q) := by
  refine Ctr.of_W Tryz.func103 rfl Tryz.ntmps103 rfl fun A w => ?_
  unfold f112
  refine .seq <| .region <| .box (T := tChange) rfl rfl fun b1 => .assign rfl rfl <| .nil ?_
  refine .seq <| .region <| .fieldP rfl fa56_0 rfl <| .loadP 0 fChange_0 rfl rfl ty3 rfl <| .build rfl st56 z56 (.cons fChange_0 rfl rfl <| .nil) rfl <| .alloc tChange d0_56 [] z56 rfl fun b2 => .storeP 0 (Fld.self _) rfl rfl rfl ty56 <| .nil ?_
  refine .seq <| .seq <| .region <| .fieldP rfl fa56_0 rfl <| .loadP 1 fChange_0 rfl rfl ty3 rfl <| .nil ?_
  refine .block <| .seq <| .region <| .bin rfl rfl rfl rfl <| .assign rfl rfl <| .nil ?_
  refine .join1 (fun i3 => ⟨[(1, isP b1 0, none), (3, isP b2 0, none)], [boxO b2 tChange i3 [], boxO b1 tChange a0 []]⟩) (fun i3 => f112_j1 a0 i3) (fun i3 => ?_) (fun hj1 => ?_)
  · refine .inBlock <| .seq <| .region <| .loadP 0 (Fld.self _) rfl rfl ty56 rfl <| .loadP 1 (Fld.self _) rfl rfl ty56 rfl <| .eqT eq56 rfl rfl rfl <| .assign rfl rfl <| .nil ?_
    exact .ret1 Tryz.func103 Tryz.results103 (.tmp rfl) rfl (fun _ _ => .cons _ <| .cons _ <| .slnil)
  · refine .cond rfl (fun _ => ?_) (fun _ => ?_)
    · refine .region <| .fieldP rfl fa56_3 rfl <| .loadP 1 fChange_3 rfl rfl ty52 rfl <| .fieldP rfl fa56_3 rfl <| .storeP 0 fChange_3 rfl rfl rfl ty52 <| .nil ?_
      exact .keep [1, 3] [] rfl (hj1 _)
    · refine .seq <| .region <| .bin rfl rfl rfl rfl <| .assign rfl rfl <| .nil ?_
      refine .cond rfl (fun _ => ?_) (fun _ => ?_)
      · refine .region <| .fieldP rfl fa56_1 rfl <| .loadP 1 fChange_1 rfl rfl ty9 rfl <| .fieldP rfl fa56_1 rfl <| .storeP 0 fChange_1 rfl rfl rfl ty9 <| .nil ?_
        exact .keep [1, 3] [] rfl (hj1 _)
      · refine .seq <| .region <| .bin rfl rfl rfl rfl <| .assign rfl rfl <| .nil ?_
        refine .cond rfl (fun _ => ?_) (fun _ => ?_)
        · refine .drawS 6 [] [5] [0] mix (by kernel_rfl) (.cons (fun _ _ _ hP hE h => .fieldP (hE.op rfl) fa56_1 rfl <| h) <| .cons (fun _ _ _ hP hE h => .loadP 1 fChange_1 (hE.op rfl) (hP.get rfl rfl) ty9 rfl <| h) <| .cons (fun _ _ _ hP hE h => .fieldP (hE.op rfl) fa56_2 rfl <| h) <| .cons (fun _ _ _ hP hE h => .loadP 1 fChange_2 (hE.op rfl) (hP.get rfl rfl) ty9 rfl <| h) <| .cons (fun _ _ _ hP hE h => .fieldP (hE.op rfl) fa56_1 rfl <| h) <| .skip <| .nil) rfl <| .consS rfl fun _ _ hE h => .storeP 0 fChange_1 (hE.op rfl) rfl (hE.op rfl) ty9 <| h _ (.hole rfl <| .same <| .nil) <| .nil <| .fieldP rfl fa56_2 rfl <| .storeP 0 fChange_2 rfl rfl rfl ty9 <| .nil ?_
          exact .keep [1, 3] [] rfl (hj1 _)
        · refine .seq <| .region <| .bin rfl rfl rfl rfl <| .assign rfl rfl <| .nil ?_
          refine .cond rfl (fun _ => ?_) (fun _ => ?_)
          · refine .drawS 7 [] [6] [0] mix (by kernel_rfl) (.cons (fun _ _ _ hP hE h => .fieldP (hE.op rfl) fa56_1 rfl <| h) <| .cons (fun _ _ _ hP hE h => .loadP 1 fChange_1 (hE.op rfl) (hP.get rfl rfl) ty9 rfl <| h) <| .cons (fun _ _ _ hP hE h => .fieldP (hE.op rfl) fa56_3 rfl <| h) <| .cons (fun _ _ _ hP hE h => .fieldP (hE.op rfl) fa52_1 rfl <| h) <| .cons (fun _ _ _ hP hE h => .loadP 1 (fChange_3.comp fCol_1) (hE.op rfl) (hP.get rfl rfl) ty3 rfl <| h) <| .cons (fun _ _ _ hP hE h => .fieldP (hE.op rfl) fa56_1 rfl <| h) <| .skip <| .nil) rfl <| .consS rfl fun _ _ hE h => .storeP 0 fChange_1 (hE.op rfl) rfl (hE.op rfl) ty9 <| h _ (.hole rfl <| .same <| .nil) <| .nil <| .fieldP rfl fa56_3 rfl <| .fieldP rfl fa52_1 rfl <| .storeP 0 (fChange_3.comp fCol_1) rfl rfl rfl ty3 <| .nil ?_
            exact .keep [1, 3] [] rfl (hj1 _)
          · refine .seq <| .region <| .assign rfl rfl <| .nil ?_
            exact .ret1 Tryz.func103 Tryz.results103 (.tmp rfl) rfl (fun _ _ => .cons _ <| .cons _ <| .slnil)
def f113 (a0 : List Col) (a1 a2 : Int) : Option (List Col) := cond (decide (0 ≤ a1) && decide (a1 ≤ a2) && decide (a2 ≤ (List.length a0 : Int))) (some (a0.take a1.toNat ++ a0.drop a2.toNat)) none
theorem n113 : ∃ fn c, Tryz.prog.funcs[104]? = some fn ∧ (fn.name == "runtime.NumGoroutine") = false ∧ fn.body = some c := ⟨_, _, Tryz.func104, by kernel_rfl, rfl⟩
theorem c113 (v0 : Value) (a0 : List Col) (a1 a2 : Int) : CtrL Tryz.prog 104 [isV v0, isI .i64 a1, isI .i64 a2] [arrO tCol v0 a0] (f113 a0 a1 a2) (fun v => v) (fun q v => [arrO tCol v q]) (fun _ v => tRaw.va v) := by
  refine CtrL.of_W Tryz.func104 rfl Tryz.ntmps104 rfl fun A w => ?_
  unfold f113
  refine .pcond (fun h => ?_) (fun _ => .stop)
  simp only [Bool.and_eq_true, decide_eq_true_eq] at h
  obtain ⟨⟨h1, h2⟩, h3⟩ := h
  obtain ⟨i, rfl⟩ : ∃ i : Nat, a1 = i := ⟨a1.toNat, by omega⟩
  obtain ⟨j, rfl⟩ : ∃ j : Nat, a2 = j := ⟨a2.toNat, by omega⟩
  refine .arrV 0 rfl fun ad n c hv hn hnc hlim had => ?_
  subst hv
  have hij : i ≤ j := by omega
  have hjn : j ≤ n := by omega
  refine .seq <| .region <| .assign rfl rfl <| .nil <| .seq <| .region <| .move rfl rfl <| .move rfl rfl <| .move rfl rfl <| .move rfl rfl <| .lenV rfl Tryz.underlying23 rfl <| .sliceV (T := tCol) (l := i) (h' := j) (m := n) rfl Tryz.underlying23 el52 ⟨_, rfl⟩ ⟨_, rfl⟩ ⟨_, rfl⟩ hij hjn hnc rfl rfl <| .nil ?_
  refine .eqr (r' := cond (decide ((i : Int) = (j : Int))) (some (a0.take i ++ a0.drop j)) (some (a0.take i ++ a0.drop j))) (by cases decide ((i : Int) = (j : Int)) <;> rfl) ?_
  refine .seq <| .seq <| .region <| .move rfl rfl <| .move rfl rfl <| .bin rfl rfl rfl rfl <| .nil <| .cond rfl (fun h => ?_) (fun h => ?_)
  · simp only [decide_eq_true_eq, Int.natCast_inj] at h
    subst h
    refine .eqr (r' := some a0) (by simp) ?_
    refine .seq <| .region <| .move rfl rfl <| .assign rfl rfl <| .nil ?_
    exact .toRaw 0 6 rfl rfl <| .retL1 _ Tryz.func104 Tryz.results104 (.tmp rfl) rfl (fun _ _ _ h => h.1) (.cons_cons _ .slnil)
  · simp only [decide_eq_false_iff_not, Int.natCast_inj] at h
    have hc : 0 < c := by omega
    obtain ⟨b, o, rfl⟩ := had hc
    have hi : i < j := by omega
    have e1 : (if c = 0 then some (⟨b, o, none⟩ : Addr) else (some (⟨b, o, none⟩ : Addr)).map (·.add (0 * tCol.sz))) = some ⟨b, o, none⟩ := by rw [if_neg (by omega)]; simp [Addr.add0]
    have e2 : i + (n - j) - 0 = i + (n - j) := by omega
    have e3 : (if c = i + (n - j) then some (⟨b, o, none⟩ : Addr) else (some (⟨b, o, none⟩ : Addr)).map (·.add ((i + (n - j)) * tCol.sz))) = some ⟨b, o + (i + (n - j)) * tCol.sz, none⟩ := by rw [if_neg (by omega)]; simp [Addr.add0]
    refine .skip <| .seq <| .region <| .move rfl rfl <| .lenV rfl Tryz.underlying23 rfl <| .assign rfl rfl <| .nil ?_
    refine .seq <| .draw 6 [] mix (by kernel_rfl) (.cons (fun _ _ _ hP hE h => .move (hE.op rfl) rfl <| h) <| .cons (fun _ _ _ hP hE h => .move (hE.op rfl) rfl <| h) <| .cons (fun _ _ _ hP hE h => .sliceV (T := tCol) (lo := none) (hi := some _) (mx := none) (l := 0) (h' := i) (m := c) (hE.op rfl) Tryz.underlying23 el52 rfl ⟨_, hE.op rfl⟩ rfl (Nat.zero_le _) (by omega) (Nat.le_refl _) e1 rfl <| h) <|
      .cons (fun _ _ _ hP hE h => .move (hE.op rfl) rfl <| h) <| .cons (fun _ _ _ hP hE h => .move (hE.op rfl) rfl <| h) <| .cons (fun _ _ _ hP hE h => .sliceV (T := tCol) (lo := some _) (hi := none) (mx := none) (l := j) (h' := n) (m := c) (hE.op rfl) Tryz.underlying23 el52 ⟨_, hE.op rfl⟩ ⟨rfl, rfl⟩ rfl hjn hnc (Nat.le_refl _) rfl rfl <| h) <| .nil) rfl <| ?_
    refine .appDel (T := tCol) 0 rfl rfl rfl hc hij hjn (fun hl => by rw [if_neg (by omega)]; simp [Addr.add0]) Tryz.underlying23 el52 rfl <| .assign rfl rfl <| .nil ?_
    refine .seq <| .region <| .move rfl rfl <| .move rfl rfl <| .lenV rfl Tryz.underlying23 rfl <| .move rfl rfl <| .sliceV (T := tCol) (lo := some _) (hi := some _) (mx := none) (l := i + (n - j)) (h' := n) (m := c) rfl Tryz.underlying23 el52 ⟨_, rfl⟩ ⟨_, rfl⟩ rfl (by omega) hnc (Nat.le_refl _) e3 rfl <| .clearV (T := tCol) 0 rfl rfl hc (by omega) (by omega) Tryz.underlying23 el52 z52 <| .nil ?_
    refine .seq <| .region <| .move rfl rfl <| .assign rfl rfl <| .nil ?_
    exact .toRaw 0 6 rfl rfl <| .retL1 _ Tryz.func104 Tryz.results104 (.tmp rfl) rfl (fun _ _ _ h => h.1) (.cons_cons _ .slnil)
def f132_j1 (q2 : Int × Bool) (i4 : Bool) : Option Val := cond i4 (some (⟨d0_47.kind, d0_47.n, d0_47.text⟩ : Val)) (some (⟨1, q2.1, d0_47.text⟩ : Val))
def f132 (fu : Nat) (a0 : List UInt8) : Option Val := (f144 a0).bind fun q2 => cond q2.2 (f132_j1 q2 true) ((f25 fu (⟨1, q2.1, d0_47.text⟩ : Val)).bind fun q5 => cond (!q5) (f132_j1 q2 true) ((f131 q2.1).bind fun q6 => f132_j1 q2 (!decide (q6 = a0))))
theorem n132 : ∃ fn c, Tryz.prog.funcs[126]? = some fn ∧ (fn.name == "runtime.NumGoroutine") = false ∧ fn.body = some c := ⟨_, _, Tryz.func126, by kernel_rfl, rfl⟩
theorem c132 (fu : Nat) (a0 : List UInt8) : Ctr Tryz.prog 126 [isS a0] [] (f132 fu a0) (fun _ _ => []) (fun q => tVal.va q) := by
  refine Ctr.of_W Tryz.func126 rfl Tryz.ntmps126 rfl fun A w => ?_
  unfold f132
  refine .seq <| .region <| .alloc tVal d0_47 [] z47 rfl fun b1 => .nil ?_
  refine .seq <| .region <| .move rfl rfl <| .call0 (c144 _) n144 rfl rfl fun q2 => .move rfl rfl <| .extract rfl rfl rfl <| .extract rfl rfl rfl <| .assign rfl rfl <| .assign rfl rfl <| .nil ?_
  refine .seq <| .region <| .move rfl rfl <| .build rfl st47 z47 (.cons fVal_0 rfl rfl <| .cons fVal_1 rfl rfl <| .nil) rfl <| .alloc tVal d0_47 [] z47 rfl fun b3 => .storeP 0 (Fld.self _) rfl rfl rfl ty47 <| .nil ?_
  refine .seq <| .seq <| .join1 (fun i4 => ⟨[(2, isP b1 0, none), (5, isP b3 0, none), (25, isB i4, none)], [boxO b3 tVal (⟨1, q2.1, d0_47.text⟩ : Val) [], boxO b1 tVal d0_47 []]⟩) (fun i4 => f132_j1 q2 i4) (fun i4 => ?_) (fun hj1 => ?_)
  · refine .cond rfl (fun _ => ?_) (fun _ => ?_)
    · refine .seq <| .region <| .build rfl st47 z47 (.nil) rfl <| .storeP 1 (Fld.self _) rfl rfl rfl ty47 <| .nil ?_
      exact .ret1 Tryz.func126 Tryz.results126 (.cell 1 rfl rfl ty47) rfl (fun _ _ => .cons _ <| .cons _ <| .slnil)
    · refine .skip <| .seq <| .region <| .loadP 0 (Fld.self _) rfl rfl ty47 rfl <| .storeP 1 (Fld.self _) rfl rfl rfl ty47 <| .nil ?_
      exact .ret1 Tryz.func126 Tryz.results126 (.cell 1 rfl rfl ty47) rfl (fun _ _ => .cons _ <| .cons _ <| .slnil)
  · refine .region <| .move rfl rfl <| .errNe rfl Tryz.underlying136 rfl <| .move rfl rfl <| .split 15 rfl (fun _ => ?_) (fun _ => ?_)
    · refine .off rfl rfl rfl <| .off rfl rfl rfl <| .off rfl rfl rfl <| .pickT rfl rfl rfl <| .move rfl rfl <| .off rfl rfl rfl <| .off rfl rfl rfl <| .off rfl rfl rfl <| .off rfl rfl rfl <| .pickT rfl rfl rfl <| .nil ?_
      exact .keep [2, 5, 25] [] rfl (hj1 _)
    · refine .on rfl rfl <| .loadP 0 (Fld.self _) rfl rfl ty47 rfl <| .on rfl rfl <| .call0 (c25 fu _) n25 rfl rfl fun q5 => .on rfl rfl <| .not rfl rfl <| .pickF rfl rfl rfl <| .move rfl rfl <| .split 20 rfl (fun _ => ?_) (fun _ => ?_)
      · refine .off rfl rfl rfl <| .off rfl rfl rfl <| .off rfl rfl rfl <| .off rfl rfl rfl <| .pickT rfl rfl rfl <| .nil ?_
        exact .keep [2, 5, 25] [] rfl (hj1 _)
      · refine .on rfl rfl <| .move rfl rfl <| .on rfl rfl <| .call0 (c131 _) n131 rfl rfl fun q6 => .on rfl rfl <| .move rfl rfl <| .on rfl rfl <| .sne rfl rfl rfl <| .pickF rfl rfl rfl <| .nil ?_
        exact .keep [2, 5, 25] [] rfl (hj1 _)
def f114_j1 (fu : Nat) (a0 : Val) (a1 : Int) (i3 : Bool) : Option Val := cond i3 (some (⟨d0_47.kind, d0_47.n, d0_47.text⟩ : Val)) (cond (decide (a0.kind = a1)) (some a0) (cond (decide (a1 = 2)) ((f131 a0.n).bind fun q4 => some (⟨2, d0_47.n, q4⟩ : Val)) ((f132 fu a0.text).bind fun q5 => some q5)))
def f114 (fu : Nat) (a0 : Val) (a1 : Int) : Option Val := (f25 fu a0).bind fun q6 => cond (!q6) (f114_j1 fu a0 a1 true) (cond (decide (a0.kind = 0)) (f114_j1 fu a0 a1 true) ((f56 fu a1 1 2).bind fun q7 => f114_j1 fu a0 a1 (!q7)))
theorem n114 : ∃ fn c, Tryz.prog.funcs[105]? = some fn ∧ (fn.name == "runtime.NumGoroutine") = false ∧ fn.body = some c := ⟨_, _, Tryz.func105, by kernel_rfl, rfl⟩
theorem c114 (fu : Nat) (a0 : Val) (a1 : Int) : Ctr Tryz.prog 105 [tVal.va a0, isI .i64 a1] [] (f114 fu a0 a1) (fun _ _ => []) (fun q => tVal.va q) := by
  refine Ctr.of_W Tryz.func105 rfl Tryz.ntmps105 rfl fun A w => ?_
  unfold f114
  refine .seq <| .region <| .box (T := tVal) rfl rfl fun b1 => .alloc tVal d0_47 [] z47 rfl fun b2 => .nil ?_
  refine .seq <| .block <| .seq <| .join1 (fun i3 => ⟨[(1, isI .i64 a1, none), (2, isP b1 0, none), (4, isP b2 0, none), (5, isB i3, none)], [boxO b2 tVal d0_47 [], boxO b1 tVal a0 []]⟩) (fun i3 => f114_j1 fu a0 a1 i3) (fun i3 => ?_) (fun hj1 => ?_)
  · refine .cond rfl (fun _ => ?_) (fun _ => ?_)
    · refine .seq <| .region <| .build rfl st47 z47 (.nil) rfl <| .storeP 0 (Fld.self _) rfl rfl rfl ty47 <| .nil ?_
      exact .ret1 Tryz.func105 Tryz.results105 (.cell 0 rfl rfl ty47) rfl (fun _ _ => .cons _ <| .cons _ <| .slnil)
    · refine .seq <| .region <| .fieldP rfl fa47_0 rfl <| .loadP 1 fVal_0 rfl rfl ty3 rfl <| .move rfl rfl <| .bin rfl rfl rfl rfl <| .assign rfl rfl <| .nil ?_
      refine .cond rfl (fun _ => ?_) (fun _ => ?_)
      · refine .seq <| .region <| .loadP 1 (Fld.self _) rfl rfl ty47 rfl <| .storeP 0 (Fld.self _) rfl rfl rfl ty47 <| .nil ?_
        exact .ret1 Tryz.func105 Tryz.results105 (.cell 0 rfl rfl ty47) rfl (fun _ _ => .cons _ <| .cons _ <| .slnil)
      · refine .seq <| .region <| .move rfl rfl <| .bin rfl rfl rfl rfl <| .assign rfl rfl <| .nil ?_
        refine .cond rfl (fun _ => ?_) (fun _ => ?_)
        · refine .seq <| .region <| .fieldP rfl fa47_1 rfl <| .loadP 1 fVal_1 rfl rfl ty3 rfl <| .call0 (c131 _) n131 rfl rfl fun q4 => .build rfl st47 z47 (.cons fVal_0 rfl rfl <| .cons fVal_2 rfl rfl <| .nil) rfl <| .storeP 0 (Fld.self _) rfl rfl rfl ty47 <| .nil ?_
          exact .ret1 Tryz.func105 Tryz.results105 (.cell 0 rfl rfl ty47) rfl (fun _ _ => .cons _ <| .cons _ <| .slnil)
        · refine .skip <| .inBlock <| .seq <| .region <| .fieldP rfl fa47_2 rfl <| .loadP 1 fVal_2 rfl rfl ty9 rfl <| .call0 (c132 fu _) n132 rfl rfl fun q5 => .storeP 0 (Fld.self _) rfl rfl rfl ty47 <| .nil ?_
          exact .ret1 Tryz.func105 Tryz.results105 (.cell 0 rfl rfl ty47) rfl (fun _ _ => .cons _ <| .cons _ <| .slnil)
  · refine .region <| .loadP 1 (Fld.self _) rfl rfl ty47 rfl <| .call0 (c25 fu _) n25 rfl rfl fun q6 => .not rfl rfl <| .move rfl rfl <| .split 9 rfl (fun _ => ?_) (fun _ => ?_)
    · refine .off rfl rfl rfl <| .off rfl rfl rfl <| .off rfl rfl rfl <| .pickT rfl rfl rfl <| .move rfl rfl <| .off rfl rfl rfl <| .off rfl rfl rfl <| .off rfl rfl rfl <| .pickT rfl rfl rfl <| .assign rfl rfl <| .nil ?_
      exact .keep [1, 2, 4, 5] [] rfl (hj1 _)
    · refine .on rfl rfl <| .fieldP rfl fa47_0 rfl <| .on rfl rfl <| .loadP 1 fVal_0 rfl rfl ty3 rfl <| .on rfl rfl <| .bin rfl rfl rfl rfl <| .pickF rfl rfl rfl <| .move rfl rfl <| .split 14 rfl (fun _ => ?_) (fun _ => ?_)
      · refine .off rfl rfl rfl <| .off rfl rfl rfl <| .off rfl rfl rfl <| .pickT rfl rfl rfl <| .assign rfl rfl <| .nil ?_
        exact .keep [1, 2, 4, 5] [] rfl (hj1 _)
      · refine .on rfl rfl <| .move rfl rfl <| .on rfl rfl <| .call0 (c56 fu _ _ _) n56 rfl rfl fun q7 => .on rfl rfl <| .not rfl rfl <| .pickF rfl rfl rfl <| .assign rfl rfl <| .nil ?_
        exact .keep [1, 2, 4, 5] [] rfl (hj1 _)
def f78_j2 (fu : Nat) (a0 : List Col) (i7 : List Col) : Option ((List Col) × Bool) := (f67 fu i7).bind fun q8 => cond (!q8) ((f91 a0).bind fun q9 => some (q9, false)) ((f91 i7).bind fun q10 => some (q10, true))
def f78_j3 (fu : Nat) (a0 : List Col) (a1 : Change) (q2 : (List Col)) (i11 : Bool) : Option ((List Col) × Bool) := cond i11 (some (q2, false)) (cond (decide (List.length q2 + List.length ([a1.col] : List Col) ≤ CAP)) (f78_j2 fu a0 (q2 ++ ([a1.col] : List Col))) none)
def f78_j1 (fu : Nat) (a0 : List Col) (a1 : Change) (q2 : (List Col)) (q4 : Int) (i5 : Bool) : Option ((List Col) × Bool) := cond i5 (some (q2, false)) (cond (decide (a1.kind = 1)) (cond a1.col.need (f78_j3 fu a0 a1 q2 (decide (a1.col.def_.kind = 0))) (f78_j3 fu a0 a1 q2 false)) (cond (decide (a1.kind = 2)) ((f113 q2 q4 (IntKind.i64.wrap (q4 + 1))).bind fun q13 => f78_j2 fu a0 q13) (cond (decide (a1.kind = 3)) (cond (decide (0 ≤ q4) && decide (q4 < (List.length q2 : Int))) (f78_j2 fu a0 (q2.set q4.toNat ({ (q2.getD q4.toNat default) with name := a1.new } : Col))) none) (cond (decide (a1.kind = 4)) (cond (decide (0 ≤ q4) && decide (q4 < (List.length q2 : Int))) (cond (decide (a1.col.kind = ((q2.getD q4.toNat default).kind))) (some (q2, false)) (cond (decide (0 ≤ q4) && decide (q4 < (List.length q2 : Int))) ((f114 fu ((q2.getD q4.toNat default).def_) a1.col.kind).bind fun q15 => cond (decide (0 ≤ q4) && decide (q4 < (List.length q2 : Int))) (cond (decide (0 ≤ q4) && decide (q4 < (List.length (q2.set q4.toNat ({ (q2.getD q4.toNat default) with kind := a1.col.kind } : Col)) : Int))) (f78_j2 fu a0 ((q2.set q4.toNat ({ (q2.getD q4.toNat default) with kind := a1.col.kind } : Col)).set q4.toNat ({ ((q2.set q4.toNat ({ (q2.getD q4.toNat default) with kind := a1.col.kind } : Col)).getD q4.toNat default) with def_ := q15 } : Col))) none) none) none)) none) (f78_j2 fu a0 q2)))))
def f78 (fu : Nat) (a0 : List Col) (a1 : Change) : Option ((List Col) × Bool) := (f91 a0).bind fun q2 => (f68 fu a0 a1.name).bind fun q4 => (f112 fu a1).bind fun q16 => cond (!q16) (f78_j1 fu a0 a1 q2 q4 true) (cond (!decide (a1.kind = 1)) (f78_j1 fu a0 a1 q2 q4 (decide (q4 < 0))) (f78_j1 fu a0 a1 q2 q4 false))
theorem n78 : ∃ fn c, Tryz.prog.funcs[77]? = some fn ∧ (fn.name == "runtime.NumGoroutine") = false ∧ fn.body = some c := ⟨_, _, Tryz.func77, by kernel_rfl, rfl⟩
theorem c78 (fu : Nat) (a0 : List Col) (a1 : Change) : Ctr Tryz.prog 77 [(tL tCol).va a0, tChange.va a1] [] (f78 fu a0 a1) (fun _ _ => []) (fun q => tup [(tL tCol).va q.1, isB q.2]) := by
  refine Ctr.of_W Tryz.func77 rfl Tryz.ntmps77 rfl fun A w => ?_
  unfold f78
  refine .seq <| .region <| .box (T := tChange) rfl rfl fun b1 => .assignNil tCol rfl <| .assign rfl rfl <| .nil ?_
  refine .seq <| .region <| .move rfl rfl <| .callL0 (c91 _) n91 rfl rfl fun q2 v3 => .unRaw 9 rfl <| .assign rfl rfl <| .nil ?_
  refine .seq <| .region <| .move rfl rfl <| .fieldP rfl fa56_1 rfl <| .loadP 1 fChange_1 rfl rfl ty9 rfl <| .call0 (c68 fu _ _) n68 rfl rfl fun q4 => .assign rfl rfl <| .nil ?_
  refine .seq <| .seq <| .join1 (fun i5 => ⟨[(0, (tL tCol).va a0, none), (3, isP b1 0, none), (7, isI .i64 q4, none), (25, isB i5, none), (6, isV v3, some v3)], [arrO tCol v3 q2, boxO b1 tChange a1 []]⟩) (fun i5 => f78_j1 fu a0 a1 q2 q4 i5) (fun i5 => ?_) (fun hj1 => ?_)
  · refine .cond rfl (fun _ => ?_) (fun _ => ?_)
    · refine .seq <| .region <| .move rfl rfl <| .assign rfl rfl <| .assign rfl rfl <| .nil ?_
      exact .frz 0 4 rfl rfl <| .ret2 Tryz.func77 Tryz.results77 (.tmp rfl) (.tmp rfl) rfl (fun _ => .cons _ <| .cons _ <| .slnil)
    · refine .skip <| .seq <| .seq <| .region <| .fieldP rfl fa56_0 rfl <| .loadP 1 fChange_0 rfl rfl ty3 rfl <| .nil ?_
      refine .block <| .seq <| .region <| .bin rfl rfl rfl rfl <| .assign rfl rfl <| .nil ?_
      refine .join2 (fun v6 i7 => ⟨[(0, (tL tCol).va a0, none), (6, isV v6, some v6)], [arrO tCol v6 i7]⟩) (fun v6 i7 => f78_j2 fu a0 i7) (fun v6 i7 => ?_) (fun hj2 => ?_)
      · refine .inBlock <| .seq <| .seq <| .region <| .move rfl rfl <| .frz 0 6 rfl rfl <| .also 94 6 rfl rfl <| .call0 (c67 fu _) n67 rfl rfl fun q8 => .not rfl rfl <| .nil ?_
        refine .cond rfl (fun _ => ?_) (fun _ => ?_)
        · refine .seq <| .region <| .move rfl rfl <| .call0 (CtrL.plain (c91 _)) n91 rfl rfl fun q9 => .assign rfl rfl <| .assign rfl rfl <| .nil ?_
          exact .ret2 Tryz.func77 Tryz.results77 (.tmp rfl) (.tmp rfl) rfl (fun _ => .cons _ <| .slnil)
        · refine .skip <| .seq <| .region <| .move rfl rfl <| .call0 (CtrL.plain (c91 _)) n91 rfl rfl fun q10 => .assign rfl rfl <| .assign rfl rfl <| .nil ?_
          exact .ret2 Tryz.func77 Tryz.results77 (.tmp rfl) (.tmp rfl) rfl (fun _ => .cons _ <| .slnil)
      · refine .cond rfl (fun _ => ?_) (fun _ => ?_)
        · refine .seq <| .seq <| .join1 (fun i11 => ⟨[(0, (tL tCol).va a0, none), (3, isP b1 0, none), (40, isB i11, none), (6, isV v3, some v3)], [arrO tCol v3 q2, boxO b1 tChange a1 []]⟩) (fun i11 => f78_j3 fu a0 a1 q2 i11) (fun i11 => ?_) (fun hj3 => ?_)
          · refine .cond rfl (fun _ => ?_) (fun _ => ?_)
            · refine .seq <| .region <| .move rfl rfl <| .assign rfl rfl <| .assign rfl rfl <| .nil ?_
              exact .frz 0 4 rfl rfl <| .ret2 Tryz.func77 Tryz.results77 (.tmp rfl) (.tmp rfl) rfl (fun _ => .cons _ <| .cons _ <| .slnil)
            · refine .skip <| .region <| .move rfl rfl <| .fieldP rfl fa56_3 rfl <| .loadP 1 fChange_3 rfl rfl ty52 rfl <| .litN (T := tCol) Tryz.underlying23 el52 rfl rfl (.cons rfl <| .nil) rfl <| .appA (T := tCol) 0 rfl rfl rfl Tryz.underlying23 el52 rfl fun v12 => .assign rfl rfl <| .nil ?_
              exact .keep [0] [6] rfl (.drop (.cons_cons _ <| .cons _ <| .slnil) <| hj2 _ _)
          · refine .region <| .fieldP rfl fa56_3 rfl <| .fieldP rfl fa52_2 rfl <| .loadP 1 (fChange_3.comp fCol_2) rfl rfl ty4 rfl <| .move rfl rfl <| .split 34 rfl (fun _ => ?_) (fun _ => ?_)
            · refine .on rfl rfl <| .fieldP rfl fa56_3 rfl <| .on rfl rfl <| .fieldP rfl fa52_4 rfl <| .on rfl rfl <| .fieldP rfl fa47_0 rfl <| .on rfl rfl <| .loadP 1 (fChange_3.comp (fCol_4.comp fVal_0)) rfl rfl ty3 rfl <| .on rfl rfl <| .bin rfl rfl rfl rfl <| .pickT rfl rfl rfl <| .nil ?_
              exact .keep [0, 3, 40] [6] rfl (hj3 _)
            · refine .off rfl rfl rfl <| .off rfl rfl rfl <| .off rfl rfl rfl <| .off rfl rfl rfl <| .off rfl rfl rfl <| .pickF rfl rfl rfl <| .nil ?_
              exact .keep [0, 3, 40] [6] rfl (hj3 _)
        · refine .seq <| .region <| .bin rfl rfl rfl rfl <| .assign rfl rfl <| .nil ?_
          refine .cond rfl (fun _ => ?_) (fun _ => ?_)
          · refine .region <| .move rfl rfl <| .move rfl rfl <| .move rfl rfl <| .bin rfl rfl rfl rfl <| .callS 0 (c113 _ _ _ _) rfl n113 rfl rfl fun q13 v14 => .unRaw 53 rfl <| .assign rfl rfl <| .nil ?_
            exact .keep [0] [6] rfl (.drop (.cons_cons _ <| .cons _ <| .slnil) <| hj2 _ _)
          · refine .seq <| .region <| .bin rfl rfl rfl rfl <| .assign rfl rfl <| .nil ?_
            refine .cond rfl (fun _ => ?_) (fun _ => ?_)
            · refine .region <| .move rfl rfl <| .move rfl rfl <| .fieldP rfl fa56_2 rfl <| .loadP 1 fChange_2 rfl rfl ty9 rfl <| .elemA 0 rfl rfl rfl Tryz.underlying23 ty52 rfl <| .fieldA rfl fa52_0 rfl <| .storeA 0 fCol_0 rfl rfl rfl ty9 <| .nil ?_
              exact .keep [0] [6] rfl (.drop (.cons_cons _ <| .cons _ <| .slnil) <| hj2 _ _)
            · refine .seq <| .region <| .bin rfl rfl rfl rfl <| .assign rfl rfl <| .nil ?_
              refine .cond rfl (fun _ => ?_) (fun _ => ?_)
              · refine .seq <| .seq <| .pT fun h1 => ?_
                refine .draw 8 [] mix (by kernel_rfl) (.cons (fun _ _ _ hP hE h => .fieldP (hE.op rfl) fa56_3 rfl <| h) <| .cons (fun _ _ _ hP hE h => .fieldP (hE.op rfl) fa52_1 rfl <| h) <| .cons (fun _ _ _ hP hE h => .loadP 1 (fChange_3.comp fCol_1) (hE.op rfl) (hP.get rfl rfl) ty3 rfl <| h) <| .cons (fun _ _ _ hP hE h => .move (hE.op rfl) rfl <| h) <| .cons (fun _ _ _ hP hE h => .move (hE.op rfl) rfl <| h) <| .cons (fun _ _ _ hP hE h => .useC h1 <| .elemA 0 (hE.op rfl) (hE.op rfl) (hP.get rfl rfl) Tryz.underlying23 ty52 rfl <| h) <| .cons (fun _ _ _ hP hE h => .fieldA (hE.op rfl) fa52_1 rfl <| h) <| .cons (fun _ _ _ hP hE h => .loadA 0 fCol_1 (hE.op rfl) (hP.get rfl rfl) ty3 rfl <| h) <| .nil) rfl <| .bin rfl rfl rfl rfl <| .nil ?_
                refine .cond rfl (fun _ => ?_) (fun _ => ?_)
                · refine .seq <| .region <| .move rfl rfl <| .assign rfl rfl <| .assign rfl rfl <| .nil ?_
                  exact .frz 0 4 rfl rfl <| .ret2 Tryz.func77 Tryz.results77 (.tmp rfl) (.tmp rfl) rfl (fun _ => .cons _ <| .cons _ <| .slnil)
                · refine .skip <| .pT fun h2 => ?_
                  refine .pbind fun q15 h3 => ?_
                  refine .draw 16 [2, 3] mix (by kernel_rfl) (.cons (fun _ _ _ hP hE h => .move (hE.op rfl) rfl <| h) <| .cons (fun _ _ _ hP hE h => .move (hE.op rfl) rfl <| h) <| .cons (fun _ _ _ hP hE h => .move (hE.op rfl) rfl <| h) <| .cons (fun _ _ _ hP hE h => .move (hE.op rfl) rfl <| h) <| .cons (fun _ _ _ hP hE h => .fieldP (hE.op rfl) fa56_3 rfl <| h) <| .cons (fun _ _ _ hP hE h => .fieldP (hE.op rfl) fa52_1 rfl <| h) <| .cons (fun _ _ _ hP hE h => .loadP 1 (fChange_3.comp fCol_1) (hE.op rfl) (hP.get rfl rfl) ty3 rfl <| h) <| .cons (fun _ _ _ hP hE h => .move (hE.op rfl) rfl <| h) <| .cons (fun _ _ _ hP hE h => .move (hE.op rfl) rfl <| h) <| .cons (fun _ _ _ hP hE h => .useC h2 <| .elemA 0 (hE.op rfl) (hE.op rfl) (hP.get rfl rfl) Tryz.underlying23 ty52 rfl <| h) <| .cons (fun _ _ _ hP hE h => .fieldA (hE.op rfl) fa52_4 rfl <| h) <| .cons (fun _ _ _ hP hE h => .loadA 0 fCol_4 (hE.op rfl) (hP.get rfl rfl) ty47 rfl <| h) <| .cons (fun _ _ _ hP hE h => .fieldP (hE.op rfl) fa56_3 rfl <| h) <| .cons (fun _ _ _ hP hE h => .fieldP (hE.op rfl) fa52_1 rfl <| h) <| .cons (fun _ _ _ hP hE h => .loadP 1 (fChange_3.comp fCol_1) (hE.op rfl) (hP.get rfl rfl) ty3 rfl <| h) <| .cons (fun _ _ _ hP hE h => .bindE h3 (fun r h => .call0 (c114 fu _ _) n114 (hE.ops rfl) rfl h) <| h) <| .nil) rfl <| .elemA 0 rfl rfl rfl Tryz.underlying23 ty52 rfl <| .fieldA rfl fa52_1 rfl <| .storeA 0 fCol_1 rfl rfl rfl ty3 <| .elemA 0 rfl rfl rfl Tryz.underlying23 ty52 rfl <| .fieldA rfl fa52_4 rfl <| .storeA 0 fCol_4 rfl rfl rfl ty47 <| .nil ?_
                  exact .keep [0] [6] rfl (.drop (.cons_cons _ <| .cons _ <| .slnil) <| hj2 _ _)
              · exact .skip <| .keep [0] [6] rfl (.drop (.cons_cons _ <| .cons _ <| .slnil) <| hj2 _ _)
  · refine .region <| .loadP 1 (Fld.self _) rfl rfl ty56 rfl <| .call0 (c112 fu _) n112 rfl rfl fun q16 => .not rfl rfl <| .move rfl rfl <| .split 17 rfl (fun _ => ?_) (fun _ => ?_)
    · refine .off rfl rfl rfl <| .off rfl rfl rfl <| .off rfl rfl rfl <| .off rfl rfl rfl <| .offU rfl rfl rfl <| .offU rfl rfl rfl <| .off rfl rfl rfl <| .pickT rfl rfl rfl <| .nil ?_
      exact .keep [0, 3, 7, 25] [6] rfl (hj1 _)
    · refine .on rfl rfl <| .fieldP rfl fa56_0 rfl <| .on rfl rfl <| .loadP 1 fChange_0 rfl rfl ty3 rfl <| .on rfl rfl <| .bin rfl rfl rfl rfl <| .on rfl rfl <| .move rfl rfl <| .split 21 rfl (fun _ => ?_) (fun _ => ?_)
      · refine .on rfl rfl <| .move rfl rfl <| .on rfl rfl <| .bin rfl rfl rfl rfl <| .on rfl rfl <| .pickT rfl rfl rfl <| .pickF rfl rfl rfl <| .nil ?_
        exact .keep [0, 3, 7, 25] [6] rfl (hj1 _)
      · refine .off rfl rfl rfl <| .off rfl rfl rfl <| .on rfl rfl <| .pickF rfl rfl rfl <| .pickF rfl rfl rfl <| .nil ?_
        exact .keep [0, 3, 7, 25] [6] rfl (hj1 _)
def f57_l1 (fu : Nat) (a1 : List Change) : Nat → (List Col) → Int → Option ((List Col) × Bool)
  | 0, _, _ => none
  | n1 + 1, i2, i3 => cond (decide (i3 < (List.length a1 : Int))) (cond (decide (0 ≤ i3) && decide (i3 < (List.length a1 : Int))) ((f78 fu i2 (a1.getD i3.toNat default)).bind fun q5 => cond (!q5.2) (some (([] : List Col), false)) ((f57_l1 fu a1 n1) q5.1 (IntKind.i64.wrap (i3 + 1)))) none) (some (i2, true))
def f57 (fu : Nat) (a0 : List Col) (a1 : List Change) : Option ((List Col) × Bool) := (f91 a0).bind fun q1 => f57_l1 fu a1 fu q1 0
theorem n57 : ∃ fn c, Tryz.prog.funcs[48]? = some fn ∧ (fn.name == "runtime.NumGoroutine") = false ∧ fn.body = some c := ⟨_, _, Tryz.func48, by kernel_rfl, rfl⟩
theorem c57 (fu : Nat) (a0 : List Col) (a1 : List Change) : Ctr Tryz.prog 48 [(tL tCol).va a0, (tL tChange).va a1] [] (f57 fu a0 a1) (fun _ _ => []) (fun q => tup [(tL tCol).va q.1, isB q.2]) := by
  refine Ctr.of_W Tryz.func48 rfl Tryz.ntmps48 rfl fun A w => ?_
  unfold f57
  refine .seq <| .region <| .assignNil tCol rfl <| .assign rfl rfl <| .nil ?_
  refine .seq <| .region <| .move rfl rfl <| .call0 (CtrL.plain (c91 _)) n91 rfl rfl fun q1 => .assign rfl rfl <| .nil ?_
  refine .seq <| .seq <| .region <| .move rfl rfl <| .lenL rfl Tryz.underlying24 rfl <| .move rfl rfl <| .nil ?_
  refine .block <| .loop <| .keep [6, 13, 14, 15] [] rfl ?_
  refine (show ∀ (n1 : Nat) (i2 : List Col) (i3 : Int), W _ _ _ _ _ ⟨[(6, (tL tCol).va i2, none), (13, (tL tChange).va a1, none), (14, isI .i64 (List.length a1 : Int), none), (15, isI .i64 i3, none)], []⟩ (f57_l1 fu a1 n1 i2 i3) from ?_) fu _ _
  intro n1
  induction n1 with
  | zero => exact fun _ _ => .stop
  | succ n1 ih1 =>
    intro i2 i3
    refine .inLoop <| .seq <| .region <| .bin rfl rfl rfl rfl <| .nil ?_
    refine .seq <| .cond rfl (fun _ => ?_) (fun _ => ?_)
    · refine .skip <| .seq <| .block <| .seq <| .region <| .elemAt rfl rfl Tryz.underlying24 ty56 rfl <| .load rfl ty56 rfl <| .alloc tChange d0_56 [] z56 rfl fun b4 => .storeP 0 (Fld.self _) rfl rfl rfl ty56 <| .nil ?_
      refine .seq <| .region <| .move rfl rfl <| .loadP 0 (Fld.self _) rfl rfl ty56 rfl <| .call0 (c78 fu _ _) n78 rfl rfl fun q5 => .move rfl rfl <| .extract rfl rfl rfl <| .extract rfl rfl rfl <| .assign rfl rfl <| .assign rfl rfl <| .nil ?_
      refine .seq <| .seq <| .region <| .move rfl rfl <| .not rfl rfl <| .nil ?_
      refine .cond rfl (fun _ => ?_) (fun _ => ?_)
      · refine .seq <| .region <| .assignNil tCol rfl <| .assign rfl rfl <| .nil ?_
        exact .ret2 Tryz.func48 Tryz.results48 (.tmp rfl) (.tmp rfl) rfl (fun _ => .cons _ <| .slnil)
      · refine .skip <| .region <| .move rfl rfl <| .assign rfl rfl <| .nil ?_
        refine .inBlock <| .region <| .bin rfl rfl rfl rfl <| .move rfl rfl <| .nil ?_
        exact .keep [6, 13, 14, 15] [] rfl (.drop (.cons _ <| .slnil) <| ih1 _ _)
    · refine .exit rfl <| .seq <| .region <| .move rfl rfl <| .assign rfl rfl <| .assign rfl rfl <| .nil ?_
      exact .ret2 Tryz.func48 Tryz.results48 (.tmp rfl) (.tmp rfl) rfl (fun _ => .slnil)
def f55 (fu : Nat) (a0 : List Col) (a1 : List Change) : Option ((List Col) × Bool) := (f67 fu a0).bind fun q1 => cond (!q1) (some (([] : List Col), false)) ((f57 fu a0 a1).bind fun q2 => some (q2.1, q2.2))
theorem n55 : ∃ fn c, Tryz.prog.funcs[46]? = some fn ∧ (fn.name == "runtime.NumGoroutine") = false ∧ fn.body = some c := ⟨_, _, Tryz.func46, by kernel_rfl, rfl⟩
theorem c55 (fu : Nat) (a0 : List Col) (a1 : List Change) : Ctr Tryz.prog 46 [(tL tCol).va a0, (tL tChange).va a1] [] (f55 fu a0 a1) (fun _ _ => []) (fun q => tup [(tL tCol).va q.1, isB q.2]) := by
  refine Ctr.of_W Tryz.func46 rfl Tryz.ntmps46 rfl fun A w => ?_
  unfold f55
  refine .seq <| .region <| .assignNil tCol rfl <| .assign rfl rfl <| .nil ?_
  refine .seq <| .seq <| .region <| .move rfl rfl <| .call0 (c67 fu _) n67 rfl rfl fun q1 => .not rfl rfl <| .nil ?_
  refine .cond rfl (fun _ => ?_) (fun _ => ?_)
  · refine .seq <| .region <| .assignNil tCol rfl <| .assign rfl rfl <| .nil ?_
    exact .ret2 Tryz.func46 Tryz.results46 (.tmp rfl) (.tmp rfl) rfl (fun _ => .slnil)
  · refine .skip <| .seq <| .region <| .move rfl rfl <| .move rfl rfl <| .call0 (c57 fu _ _) n57 rfl rfl fun q2 => .extract rfl rfl rfl <| .extract rfl rfl rfl <| .assign rfl rfl <| .assign rfl rfl <| .nil ?_
    exact .ret2 Tryz.func46 Tryz.results46 (.tmp rfl) (.tmp rfl) rfl (fun _ => .slnil)
def f58_j2 (i1 : Int) (rec1 : Int → Option Bool) (i3 : Bool) : Option Bool := cond i3 (some false) (rec1 (IntKind.i64.wrap (i1 + 1)))
def f58_l1 (fu : Nat) (a0 : List Col) (a1 : List Val) : Nat → Int → Option Bool
  | 0, _ => none
  | n1 + 1, i1 => cond (decide (i1 < (List.length a1 : Int))) (cond (decide (0 ≤ i1) && decide (i1 < (List.length a1 : Int))) ((f25 fu (a1.getD i1.toNat default)).bind fun q4 => cond (!q4) (f58_j2 i1 (f58_l1 fu a0 a1 n1) true) (cond (decide (0 ≤ i1) && decide (i1 < (List.length a0 : Int))) ((f92 fu (a1.getD i1.toNat default) ((a0.getD i1.toNat default).kind)).bind fun q5 => cond (!q5) (f58_j2 i1 (f58_l1 fu a0 a1 n1) true) (cond (decide (0 ≤ i1) && decide (i1 < (List.length a0 : Int))) (cond ((a0.getD i1.toNat default).need) (f58_j2 i1 (f58_l1 fu a0 a1 n1) (decide (((a1.getD i1.toNat default).kind) = 0))) (f58_j2 i1 (f58_l1 fu a0 a1 n1) false)) none)) none)) none) (some true)
def f58 (fu : Nat) (a0 : List Col) (a1 : List Val) : Option Bool := cond (!decide ((List.length a1 : Int) = (List.length a0 : Int))) (some false) (f58_l1 fu a0 a1 fu 0)
theorem n58 : ∃ fn c, Tryz.prog.funcs[49]? = some fn ∧ (fn.name == "runtime.NumGoroutine") = false ∧ fn.body = some c := ⟨_, _, Tryz.func49, by kernel_rfl, rfl⟩
theorem c58 (fu : Nat) (a0 : List Col) (a1 : List Val) : Ctr Tryz.prog 49 [(tL tCol).va a0, (tL tVal).va a1] [] (f58 fu a0 a1) (fun _ _ => []) (fun q => isB q) := by
  refine Ctr.of_W Tryz.func49 rfl Tryz.ntmps49 rfl fun A w => ?_
  unfold f58
  refine .seq <| .region <| .assign rfl rfl <| .nil ?_
  refine .seq <| .seq <| .region <| .move rfl rfl <| .lenL rfl Tryz.underlying42 rfl <| .move rfl rfl <| .lenL rfl Tryz.underlying23 rfl <| .bin rfl rfl rfl rfl <| .nil ?_
  refine .cond rfl (fun _ => ?_) (fun _ => ?_)
  · refine .seq <| .region <| .assign rfl rfl <| .nil ?_
    exact .ret1 Tryz.func49 Tryz.results49 (.tmp rfl) rfl (fun _ _ => .slnil)
  · refine .skip <| .seq <| .seq <| .region <| .move rfl rfl <| .lenL rfl Tryz.underlying42 rfl <| .move rfl rfl <| .nil ?_
    refine .block <| .loop <| .keep [0, 12, 13, 14] [] rfl ?_
    refine (show ∀ (n1 : Nat) (i1 : Int), W _ _ _ _ _ ⟨[(0, (tL tCol).va a0, none), (12, (tL tVal).va a1, none), (13, isI .i64 (List.length a1 : Int), none), (14, isI .i64 i1, none)], []⟩ (f58_l1 fu a0 a1 n1 i1) from ?_) fu _
    intro n1
    induction n1 with
    | zero => exact fun _ => .stop
    | succ n1 ih1 =>
      intro i1
      refine .inLoop <| .seq <| .region <| .bin rfl rfl rfl rfl <| .nil ?_
      refine .seq <| .cond rfl (fun _ => ?_) (fun _ => ?_)
      · refine .skip <| .seq <| .block <| .seq <| .region <| .move rfl rfl <| .elemAt rfl rfl Tryz.underlying42 ty47 rfl <| .load rfl ty47 rfl <| .alloc tVal d0_47 [] z47 rfl fun b2 => .assign rfl rfl <| .storeP 0 (Fld.self _) rfl rfl rfl ty47 <| .nil ?_
        refine .seq <| .join1 (fun i3 => ⟨[(0, (tL tCol).va a0, none), (12, (tL tVal).va a1, none), (13, isI .i64 (List.length a1 : Int), none), (14, isI .i64 i1, none), (43, isB i3, none)], []⟩) (fun i3 => f58_j2 i1 (f58_l1 fu a0 a1 n1) i3) (fun i3 => ?_) (fun hj2 => ?_)
        · refine .cond rfl (fun _ => ?_) (fun _ => ?_)
          · refine .seq <| .region <| .assign rfl rfl <| .nil ?_
            exact .ret1 Tryz.func49 Tryz.results49 (.tmp rfl) rfl (fun _ _ => .slnil)
          · refine .skip <| .inBlock <| .region <| .bin rfl rfl rfl rfl <| .move rfl rfl <| .nil ?_
            exact .keep [0, 12, 13, 14] [] rfl (ih1 _)
        · refine .pbind fun q4 h6 => ?_
          refine .pcond (fun h7 => ?_) (fun h7 => ?_)
          · refine .draw 16 [] mix (by kernel_rfl) (.cons (fun _ _ _ hP hE h => .loadP 0 (Fld.self _) (hE.op rfl) (hP.get rfl rfl) ty47 rfl <| h) <| .cons (fun _ _ _ hP hE h => .bindE h6 (fun r h => .call0 (c25 fu _) n25 (hE.ops rfl) rfl h) <| h) <| .cons (fun _ _ _ hP hE h => .not (hE.op rfl) rfl <| h) <| .cons (fun _ _ _ hP hE h => .move (hE.op rfl) rfl <| .noV <| .useEq h7 h) <| .cons (fun _ _ _ hP hE h => .off rfl (hE _ _ rfl) rfl <| h) <| .cons (fun _ _ _ hP hE h => .off rfl (hE _ _ rfl) rfl <| h) <| .cons (fun _ _ _ hP hE h => .off rfl (hE _ _ rfl) rfl <| h) <| .cons (fun _ _ _ hP hE h => .off rfl (hE _ _ rfl) rfl <| h) <| .cons (fun _ _ _ hP hE h => .off rfl (hE _ _ rfl) rfl <| h) <| .cons (fun _ _ _ hP hE h => .off rfl (hE _ _ rfl) rfl <| h) <| .cons (fun _ _ _ hP hE h => .off rfl (hE _ _ rfl) rfl <| h) <| .cons (fun _ _ _ hP hE h => .off rfl (hE _ _ rfl) rfl <| h) <| .cons (fun _ _ _ hP hE h => .pickT (hE.op rfl) (hE.op rfl) rfl <| h) <| .cons (fun _ _ _ hP hE h => .move (hE.op rfl) rfl <| h) <| .cons (fun _ _ _ hP hE h => .off rfl (hE _ _ rfl) rfl <| h) <| .cons (fun _ _ _ hP hE h => .off rfl (hE _ _ rfl) rfl <| h) <| .nil) rfl <| .off rfl rfl rfl <| .off rfl rfl rfl <| .off rfl rfl rfl <| .off rfl rfl rfl <| .offU rfl rfl rfl <| .offU rfl rfl rfl <| .offU rfl rfl rfl <| .off rfl rfl rfl <| .pickT rfl rfl rfl <| .nil ?_
            exact .keep [0, 12, 13, 14, 43] [] rfl (.drop (.cons _ <| .slnil) <| hj2 _)
          · refine .pT fun h8 => ?_
            refine .pbind fun q5 h9 => ?_
            refine .pcond (fun h10 => ?_) (fun h10 => ?_)
            · refine .draw 16 [] mix (by kernel_rfl) (.cons (fun _ _ _ hP hE h => .loadP 0 (Fld.self _) (hE.op rfl) (hP.get rfl rfl) ty47 rfl <| h) <| .cons (fun _ _ _ hP hE h => .bindE h6 (fun r h => .call0 (c25 fu _) n25 (hE.ops rfl) rfl h) <| h) <| .cons (fun _ _ _ hP hE h => .not (hE.op rfl) rfl <| h) <| .cons (fun _ _ _ hP hE h => .move (hE.op rfl) rfl <| .noV <| .useEq h7 h) <| .cons (fun _ _ _ hP hE h => .on rfl (hE _ _ rfl) <| .loadP 0 (Fld.self _) (hE.op rfl) (hP.get rfl rfl) ty47 rfl <| h) <| .cons (fun _ _ _ hP hE h => .on rfl (hE _ _ rfl) <| .move (hE.op rfl) rfl <| h) <| .cons (fun _ _ _ hP hE h => .on rfl (hE _ _ rfl) <| .move (hE.op rfl) rfl <| h) <| .cons (fun _ _ _ hP hE h => .on rfl (hE _ _ rfl) <| .useC h8 <| .elemAt (hE.op rfl) (hE.op rfl) Tryz.underlying23 ty52 rfl <| h) <| .cons (fun _ _ _ hP hE h => .on rfl (hE _ _ rfl) <| .fieldAt fCol_1 (hE.op rfl) fa52_1 rfl <| h) <| .cons (fun _ _ _ hP hE h => .on rfl (hE _ _ rfl) <| .load (hE.op rfl) ty3 rfl <| h) <| .cons (fun _ _ _ hP hE h => .on rfl (hE _ _ rfl) <| .bindE h9 (fun r h => .call0 (c92 fu _ _) n92 (hE.ops rfl) rfl h) <| h) <| .cons (fun _ _ _ hP hE h => .on rfl (hE _ _ rfl) <| .not (hE.op rfl) rfl <| h) <| .cons (fun _ _ _ hP hE h => .pickF (hE.op rfl) (hE.op rfl) rfl <| h) <| .cons (fun _ _ _ hP hE h => .move (hE.op rfl) rfl <| .noV <| .useEq h10 h) <| .cons (fun _ _ _ hP hE h => .off rfl (hE _ _ rfl) rfl <| h) <| .cons (fun _ _ _ hP hE h => .off rfl (hE _ _ rfl) rfl <| h) <| .nil) rfl <| .off rfl rfl rfl <| .off rfl rfl rfl <| .off rfl rfl rfl <| .off rfl rfl rfl <| .offU rfl rfl rfl <| .offU rfl rfl rfl <| .offU rfl rfl rfl <| .off rfl rfl rfl <| .pickT rfl rfl rfl <| .nil ?_
              exact .keep [0, 12, 13, 14, 43] [] rfl (.drop (.cons _ <| .slnil) <| hj2 _)
            · refine .draw 16 [] mix (by kernel_rfl) (.cons (fun _ _ _ hP hE h => .loadP 0 (Fld.self _) (hE.op rfl) (hP.get rfl rfl) ty47 rfl <| h) <| .cons (fun _ _ _ hP hE h => .bindE h6 (fun r h => .call0 (c25 fu _) n25 (hE.ops rfl) rfl h) <| h) <| .cons (fun _ _ _ hP hE h => .not (hE.op rfl) rfl <| h) <| .cons (fun _ _ _ hP hE h => .move (hE.op rfl) rfl <| .noV <| .useEq h7 h) <| .cons (fun _ _ _ hP hE h => .on rfl (hE _ _ rfl) <| .loadP 0 (Fld.self _) (hE.op rfl) (hP.get rfl rfl) ty47 rfl <| h) <| .cons (fun _ _ _ hP hE h => .on rfl (hE _ _ rfl) <| .move (hE.op rfl) rfl <| h) <| .cons (fun _ _ _ hP hE h => .on rfl (hE _ _ rfl) <| .move (hE.op rfl) rfl <| h) <| .cons (fun _ _ _ hP hE h => .on rfl (hE _ _ rfl) <| .useC h8 <| .elemAt (hE.op rfl) (hE.op rfl) Tryz.underlying23 ty52 rfl <| h) <| .cons (fun _ _ _ hP hE h => .on rfl (hE _ _ rfl) <| .fieldAt fCol_1 (hE.op rfl) fa52_1 rfl <| h) <| .cons (fun _ _ _ hP hE h => .on rfl (hE _ _ rfl) <| .load (hE.op rfl) ty3 rfl <| h) <| .cons (fun _ _ _ hP hE h => .on rfl (hE _ _ rfl) <| .bindE h9 (fun r h => .call0 (c92 fu _ _) n92 (hE.ops rfl) rfl h) <| h) <| .cons (fun _ _ _ hP hE h => .on rfl (hE _ _ rfl) <| .not (hE.op rfl) rfl <| h) <| .cons (fun _ _ _ hP hE h => .pickF (hE.op rfl) (hE.op rfl) rfl <| h) <| .cons (fun _ _ _ hP hE h => .move (hE.op rfl) rfl <| .noV <| .useEq h10 h) <| .cons (fun _ _ _ hP hE h => .on rfl (hE _ _ rfl) <| .move (hE.op rfl) rfl <| h) <| .cons (fun _ _ _ hP hE h => .on rfl (hE _ _ rfl) <| .move (hE.op rfl) rfl <| h) <| .nil) rfl <| .on rfl rfl <| .elemAt rfl rfl Tryz.underlying23 ty52 rfl <| .on rfl rfl <| .fieldAt fCol_2 rfl fa52_2 rfl <| .on rfl rfl <| .load rfl ty4 rfl <| .on rfl rfl <| .move rfl rfl <| .split 38 rfl (fun _ => ?_) (fun _ => ?_)
              · refine .on rfl rfl <| .fieldP rfl fa47_0 rfl <| .on rfl rfl <| .loadP 0 fVal_0 rfl rfl ty3 rfl <| .on rfl rfl <| .bin rfl rfl rfl rfl <| .on rfl rfl <| .pickT rfl rfl rfl <| .pickF rfl rfl rfl <| .nil ?_
                exact .keep [0, 12, 13, 14, 43] [] rfl (.drop (.cons _ <| .slnil) <| hj2 _)
              · refine .off rfl rfl rfl <| .off rfl rfl rfl <| .off rfl rfl rfl <| .on rfl rfl <| .pickF rfl rfl rfl <| .pickF rfl rfl rfl <| .nil ?_
                exact .keep [0, 12, 13, 14, 43] [] rfl (.drop (.cons _ <| .slnil) <| hj2 _)
      · refine .exit rfl <| .seq <| .region <| .assign rfl rfl <| .nil ?_
        exact .ret1 Tryz.func49 Tryz.results49 (.tmp rfl) rfl (fun _ _ => .slnil)
def f134 (a0 : List Val) : Option (List Val) := cond (decide (List.length ([] : List Val) + List.length a0 ≤ CAP)) (some (([] : List Val) ++ a0)) none
theorem n134 : ∃ fn c, Tryz.prog.funcs[122]? = some fn ∧ (fn.name == "runtime.NumGoroutine") = false ∧ fn.body = some c := ⟨_, _, Tryz.func122, by kernel_rfl, rfl⟩
theorem c134 (a0 : List Val) : CtrL Tryz.prog 122 [(tL tVal).va a0] [] (f134 a0) (fun v => v) (fun q v => [arrO tVal v q]) (fun _ v => tRaw.va v) := by
  refine CtrL.of_W Tryz.func122 rfl Tryz.ntmps122 rfl fun A w => ?_
  unfold f134
  refine .seq <| .region <| .assign rfl rfl <| .arrNil tVal <| .nil ?_
  refine .seq <| .seq <| .region <| .move rfl rfl <| .eqNil rfl Tryz.underlying42 rfl fun nb1 hnb1 => .nil ?_
  refine .eqr (r' := cond nb1 (cond (decide (List.length ([] : List Val) + List.length a0 ≤ CAP)) (some (([] : List Val) ++ a0)) none) (cond (decide (List.length ([] : List Val) + List.length a0 ≤ CAP)) (some (([] : List Val) ++ a0)) none)) ?_ <| .cond rfl (fun _ => ?_) (fun _ => ?_)
  · cases nb1 <;> rfl
  · obtain rfl := hnb1 (by assumption)
    refine .eqr (r' := some ([] : List Val)) (by simp) ?_
    refine .seq <| .region <| .assign rfl rfl <| .nil ?_
    exact .toRaw 0 2 rfl rfl <| .retL1 (.slice none 0 0) Tryz.func122 Tryz.results122 (.tmp rfl) rfl (fun _ _ _ h => h.1) (.cons_cons _ <| .slnil)
  · refine .skip <| .seq <| .region <| .lit (T := tVal) Tryz.underlying42 el47 rfl rfl (.nil) rfl fun v2 => .toArr 0 5 rfl rfl rfl <| .move rfl rfl <| .appA (T := tVal) 0 rfl rfl rfl Tryz.underlying42 el47 rfl fun v3 => .assign rfl rfl <| .nil ?_
    exact .toRaw 0 2 rfl rfl <| .retL1 v3 Tryz.func122 Tryz.results122 (.tmp rfl) rfl (fun _ _ _ h => h.1) (.cons_cons _ <| .cons _ <| .slnil)
def f133 (a0 : List Val) : Option (List Val) := some a0
theorem n133 : ∃ fn c, Tryz.prog.funcs[121]? = some fn ∧ (fn.name == "runtime.NumGoroutine") = false ∧ fn.body = some c := ⟨_, _, Tryz.func121, by kernel_rfl, rfl⟩
theorem c133 (vp0 : Value) (a0 : List Val) : CtrL Tryz.prog 121 [isV vp0] [arrO tVal vp0 a0] (f133 a0) (fun v => v) (fun q v => [arrO tVal v q]) (fun _ v => tRaw.va v) := by
  refine CtrL.of_W Tryz.func121 rfl Tryz.ntmps121 rfl fun A w => ?_
  unfold f133
  refine .know 0 rfl <| .seq <| .region <| .assign rfl rfl <| .arrNil tVal <| .nil ?_
  refine .seq <| .region <| .move rfl rfl <| .move rfl rfl <| .lenA 1 rfl rfl Tryz.underlying42 rfl <| .move rfl rfl <| .lenA 1 rfl rfl Tryz.underlying42 rfl <| .clip (T := tVal) 1 rfl rfl rfl rfl Tryz.underlying42 el47 rfl fun v1 => .assign rfl rfl <| .nil ?_
  exact .toRaw 1 2 rfl rfl <| .retL1 v1 Tryz.func121 Tryz.results121 (.tmp rfl) rfl (fun _ _ _ h => h.1) (.cons _ <| .cons_cons _ <| .slnil)
def f115 (a0 : List Val) : Option (List Val) := (f134 a0).bind fun q1 => (f133 q1).bind fun q3 => some q3
theorem n115 : ∃ fn c, Tryz.prog.funcs[100]? = some fn ∧ (fn.name == "runtime.NumGoroutine") = false ∧ fn.body = some c := ⟨_, _, Tryz.func100, by kernel_rfl, rfl⟩
theorem c115 (a0 : List Val) : CtrL Tryz.prog 100 [(tL tVal).va a0] [] (f115 a0) (fun v => v) (fun q v => [arrO tVal v q]) (fun _ v => tRaw.va v) := by
  refine CtrL.of_W Tryz.func100 rfl Tryz.ntmps100 rfl fun A w => ?_
  unfold f115
  refine .seq <| .region <| .assign rfl rfl <| .arrNil tVal <| .nil ?_
  refine .seq <| .region <| .move rfl rfl <| .callL0 (c134 _) n134 rfl rfl fun q1 v2 => .unRaw 4 rfl <| .callS 0 (c133 _ _) rfl n133 rfl rfl fun q3 v4 => .unRaw 5 rfl <| .assign rfl rfl <| .nil ?_
  exact .toRaw 0 2 rfl rfl <| .retL1 v4 Tryz.func100 Tryz.results100 (.tmp rfl) rfl (fun _ _ _ h => h.1) (.cons_cons _ <| .cons _ <| .slnil)
def f116 (a0 : List Val) (a1 a2 : Int) : Option (List Val) := cond (decide (0 ≤ a1) && decide (a1 ≤ a2) && decide (a2 ≤ (List.length a0 : Int))) (some (a0.take a1.toNat ++ a0.drop a2.toNat)) none
theorem n116 : ∃ fn c, Tryz.prog.funcs[127]? = some fn ∧ (fn.name == "runtime.NumGoroutine") = false ∧ fn.body = some c := ⟨_, _, Tryz.func127, by kernel_rfl, rfl⟩
theorem c116 (v0 : Value) (a0 : List Val) (a1 a2 : Int) : CtrL Tryz.prog 127 [isV v0, isI .i64 a1, isI .i64 a2] [arrO tVal v0 a0] (f116 a0 a1 a2) (fun v => v) (fun q v => [arrO tVal v q]) (fun _ v => tRaw.va v) := by
  refine CtrL.of_W Tryz.func127 rfl Tryz.ntmps127 rfl fun A w => ?_
  unfold f116
  refine .pcond (fun h => ?_) (fun _ => .stop)
  simp only [Bool.and_eq_true, decide_eq_true_eq] at h
  obtain ⟨⟨h1, h2⟩, h3⟩ := h
  obtain ⟨i, rfl⟩ : ∃ i : Nat, a1 = i := ⟨a1.toNat, by omega⟩
  obtain ⟨j, rfl⟩ : ∃ j : Nat, a2 = j := ⟨a2.toNat, by omega⟩
  refine .arrV 0 rfl fun ad n c hv hn hnc hlim had => ?_
  subst hv
  have hij : i ≤ j := by omega
  have hjn : j ≤ n := by omega
  refine .seq <| .region <| .assign rfl rfl <| .nil <| .seq <| .region <| .move rfl rfl <| .move rfl rfl <| .move rfl rfl <| .move rfl rfl <| .lenV rfl Tryz.underlying42 rfl <| .sliceV (T := tVal) (l := i) (h' := j) (m := n) rfl Tryz.underlying42 el47 ⟨_, rfl⟩ ⟨_, rfl⟩ ⟨_, rfl⟩ hij hjn hnc rfl rfl <| .nil ?_
  refine .eqr (r' := cond (decide ((i : Int) = (j : Int))) (some (a0.take i ++ a0.drop j)) (some (a0.take i ++ a0.drop j))) (by cases decide ((i : Int) = (j : Int)) <;> rfl) ?_
  refine .seq <| .seq <| .region <| .move rfl rfl <| .move rfl rfl <| .bin rfl rfl rfl rfl <| .nil <| .cond rfl (fun h => ?_) (fun h => ?_)
  · simp only [decide_eq_true_eq, Int.natCast_inj] at h
    subst h
    refine .eqr (r' := some a0) (by simp) ?_
    refine .seq <| .region <| .move rfl rfl <| .assign rfl rfl <| .nil ?_
    exact .toRaw 0 6 rfl rfl <| .retL1 _ Tryz.func127 Tryz.results127 (.tmp rfl) rfl (fun _ _ _ h => h.1) (.cons_cons _ .slnil)
  · simp only [decide_eq_false_iff_not, Int.natCast_inj] at h
    have hc : 0 < c := by omega
    obtain ⟨b, o, rfl⟩ := had hc
    have hi : i < j := by omega
    have e1 : (if c = 0 then some (⟨b, o, none⟩ : Addr) else (some (⟨b, o, none⟩ : Addr)).map (·.add (0 * tVal.sz))) = some ⟨b, o, none⟩ := by rw [if_neg (by omega)]; simp [Addr.add0]
    have e2 : i + (n - j) - 0 = i + (n - j) := by omega
    have e3 : (if c = i + (n - j) then some (⟨b, o, none⟩ : Addr) else (some (⟨b, o, none⟩ : Addr)).map (·.add ((i + (n - j)) * tVal.sz))) = some ⟨b, o + (i + (n - j)) * tVal.sz, none⟩ := by rw [if_neg (by omega)]; simp [Addr.add0]
    refine .skip <| .seq <| .region <| .move rfl rfl <| .lenV rfl Tryz.underlying42 rfl <| .assign rfl rfl <| .nil ?_
    refine .seq <| .draw 6 [] mix (by kernel_rfl) (.cons (fun _ _ _ hP hE h => .move (hE.op rfl) rfl <| h) <| .cons (fun _ _ _ hP hE h => .move (hE.op rfl) rfl <| h) <| .cons (fun _ _ _ hP hE h => .sliceV (T := tVal) (lo := none) (hi := some _) (mx := none) (l := 0) (h' := i) (m := c) (hE.op rfl) Tryz.underlying42 el47 rfl ⟨_, hE.op rfl⟩ rfl (Nat.zero_le _) (by omega) (Nat.le_refl _) e1 rfl <| h) <|
      .cons (fun _ _ _ hP hE h => .move (hE.op rfl) rfl <| h) <| .cons (fun _ _ _ hP hE h => .move (hE.op rfl) rfl <| h) <| .cons (fun _ _ _ hP hE h => .sliceV (T := tVal) (lo := some _) (hi := none) (mx := none) (l := j) (h' := n) (m := c) (hE.op rfl) Tryz.underlying42 el47 ⟨_, hE.op rfl⟩ ⟨rfl, rfl⟩ rfl hjn hnc (Nat.le_refl _) rfl rfl <| h) <| .nil) rfl <| ?_
    refine .appDel (T := tVal) 0 rfl rfl rfl hc hij hjn (fun hl => by rw [if_neg (by omega)]; simp [Addr.add0]) Tryz.underlying42 el47 rfl <| .assign rfl rfl <| .nil ?_
    refine .seq <| .region <| .move rfl rfl <| .move rfl rfl <| .lenV rfl Tryz.underlying42 rfl <| .move rfl rfl <| .sliceV (T := tVal) (lo := some _) (hi := some _) (mx := none) (l := i + (n - j)) (h' := n) (m := c) rfl Tryz.underlying42 el47 ⟨_, rfl⟩ ⟨_, rfl⟩ rfl (by omega) hnc (Nat.le_refl _) e3 rfl <| .clearV (T := tVal) 0 rfl rfl hc (by omega) (by omega) Tryz.underlying42 el47 z47 <| .nil ?_
    refine .seq <| .region <| .move rfl rfl <| .assign rfl rfl <| .nil ?_
    exact .toRaw 0 6 rfl rfl <| .retL1 _ Tryz.func127 Tryz.results127 (.tmp rfl) rfl (fun _ _ _ h => h.1) (.cons_cons _ .slnil)
end Go.Proofs.YtlkhmcajnfombaaGreatDoor
