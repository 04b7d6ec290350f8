/- What the laws ask: how each thing done ends, what is told twice, rows compared. -/
import Derived.Test.YtbnklinfjmmlfaaGreatDoorQ3M16
set_option linter.unusedVariables false
set_option linter.unusedSimpArgs false
set_option linter.deprecated false
set_option linter.unusedSectionVars false
set_option linter.all false
namespace Go.Proofs.YtbnklinfjmmlfaaGreatDoor
open Go Go.HL
variable {fu : Nat}
theorem cond_long {n : Nat} {x : Option Bool} (h : x = some true) : cond (decide (1048576 < (n : Int))) (some true) x = some true := by
  cases decide (1048576 < (n : Int)) with
  | true => rfl
  | false => exact h
theorem rowT_yes {t : Table} {id : Int} (h : TabOK t) (h2 : rowN t id < t.rows.length) : rowT t id = (nowR t (t.rows.getD (rowN t id) default), true) := if_pos ⟨h, h2⟩
theorem rowT_no {t : Table} {id : Int} (h : ¬ (TabOK t ∧ rowN t id < t.rows.length)) : rowT t id = ([], false) := if_neg h
theorem rowT_at {t : Table} (h : TabOK t) {k : Nat} (hk : k < t.rows.length) : rowT t (t.rows.getD k default).id = (nowR t (t.rows.getD k default), true) := by
  have e := rowN_uniq h.asc hk
  rw [rowT_yes h (by rw [e]; exact hk), e]
theorem rowT_mem {t : Table} (h : TabOK t) {r : Row} (hr : r ∈ t.rows) : rowT t r.id = (nowR t r, true) := by
  obtain ⟨k, hk, rfl⟩ := List.getElem_of_mem hr
  have := rowT_at h hk
  rwa [getD_lt hk] at this
end Go.Proofs.YtbnklinfjmmlfaaGreatDoor
