/- What the laws ask: how each thing done ends, what is told twice, rows compared. -/
import Derived.Test.YtbnklinfjmmlfaaGreatDoorQ10M16
set_option linter.unusedVariables false
set_option linter.unusedSimpArgs false
set_option linter.deprecated false
set_option linter.unusedSectionVars false
set_option linter.all false
namespace Go.Proofs.YtbnklinfjmmlfaaGreatDoor
open Go Go.HL
variable {fu : Nat}
theorem cond_long {n : Nat} {x : Option Bool} (h : x = some true) : cond (decide (1048576 < (n : Int))) (some true) x = some true := by
  cases decide (1048576 < (n : Int)) with
  | true => rfl
  | false => exact h
theorem rowT_yes {t : Table} {id : Int} (h : TabOK t) (h2 : rowN t id < t.rows.length) : rowT t id = (nowR t (t.rows.getD (rowN t id) default), true) := if_pos ⟨h, h2⟩
theorem rowT_at {t : Table} (h : TabOK t) {k : Nat} (hk : k < t.rows.length) : rowT t (t.rows.getD k default).id = (nowR t (t.rows.getD k default), true) := by
  have e := rowN_uniq h.asc hk
  rw [rowT_yes h (by rw [e]; exact hk), e]
theorem shapeB_ok {t : Table} (h : TabOK t) : shapeB t = lastS t := if_pos h
structure ChgFine (t : Table) (c : Change) : Prop where
  can : Can (lastS t) c
  rows : ∀ k, k < t.rows.length → RowOK (chg (lastS t) c) (chgRow (lastS t) c (nowR t (t.rows.getD k default)))
def chgR (t : Table) (c : Change) : Table := { t with changes := t.changes ++ [c] }
theorem chgT_fine {t : Table} {c : Change} (h : ChgFine t c) (h8 : t.changes.length ≠ 8) : chgT t c = (chgR t c, 0) := by
  unfold chgT
  rw [if_neg (fun h' => h' h.can), if_neg (fun ⟨k, hk, h'⟩ => h' (h.rows k hk)), if_neg h8]; rfl
theorem chgT_full {t : Table} {c : Change} (h : ChgFine t c) (h8 : t.changes.length = 8) : chgT t c = (t, 4) := by
  unfold chgT
  rw [if_neg (fun h' => h' h.can), if_neg (fun ⟨k, hk, h'⟩ => h' (h.rows k hk)), if_pos h8]
theorem chgT_form {t : Table} {c : Change} (h : ¬ Can (lastS t) c) : chgT t c = (t, 1) := if_pos h
theorem chgT_need {t : Table} {c : Change} (h : Can (lastS t) c) (h2 : ∃ k, k < t.rows.length ∧ ¬ RowOK (chg (lastS t) c) (chgRow (lastS t) c (nowR t (t.rows.getD k default)))) : chgT t c = (t, 2) := by
  unfold chgT
  rw [if_neg (fun h' => h' h), if_pos h2]
theorem chgT_cases (t : Table) (c : Change) : (ChgFine t c ∧ t.changes.length ≠ 8) ∨ (ChgFine t c ∧ t.changes.length = 8) ∨ ¬ Can (lastS t) c ∨ (Can (lastS t) c ∧ ∃ k, k < t.rows.length ∧ ¬ RowOK (chg (lastS t) c) (chgRow (lastS t) c (nowR t (t.rows.getD k default)))) := by
  by_cases h1 : Can (lastS t) c
  case neg => exact .inr (.inr (.inl h1))
  by_cases h2 : ∃ k, k < t.rows.length ∧ ¬ RowOK (chg (lastS t) c) (chgRow (lastS t) c (nowR t (t.rows.getD k default)))
  · exact .inr (.inr (.inr ⟨h1, h2⟩))
  have hf : ChgFine t c := ⟨h1, fun k hk => Classical.byContradiction fun hn => h2 ⟨k, hk, hn⟩⟩
  by_cases h3 : t.changes.length = 8
  · exact .inr (.inl ⟨hf, h3⟩)
  · exact .inl ⟨hf, h3⟩
end Go.Proofs.YtbnklinfjmmlfaaGreatDoor
