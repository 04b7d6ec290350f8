/- Put and taken away again; set and set back; set and another row away; all rows put anew. -/
import Derived.Test.YtlkhmcajnfombaaGreatDoorQ1004M17
set_option linter.unusedVariables false
set_option linter.unusedSimpArgs false
set_option linter.deprecated false
set_option linter.unusedSectionVars false
set_option linter.all false
namespace Go.Proofs.YtlkhmcajnfombaaGreatDoor
open Go Go.HL
variable {fu : Nat}
theorem putR_len (t : Table) (row : List Val) : (putR t row).rows.length = t.rows.length + 1 := by show (t.rows ++ [_]).length = _; simp
theorem putR_get (t : Table) (row : List Val) : (putR t row).rows.getD t.rows.length default = ⟨t.next, (t.changes.length : Int), row⟩ := by
  show (t.rows ++ [_]).getD t.rows.length default = _
  simp [List.getD_eq_getElem?_getD]
theorem putR_place {t : Table} {row : List Val} (h : TabOK (putR t row)) : rowN (putR t row) t.next = t.rows.length := by
  have := rowN_uniq h.asc (k := t.rows.length) (by rw [putR_len]; omega)
  rwa [putR_get] at this
theorem putR_row {t : Table} {row : List Val} (h : TabOK (putR t row)) : rowT (putR t row) t.next = (row, true) := by
  have := rowT_at h (k := t.rows.length) (by rw [putR_len]; omega)
  rw [putR_get] at this
  rw [this]
  exact congrArg (fun x => (x, true)) (nowR_new t _ row)
theorem putR_off {t : Table} {row : List Val} (h : TabOK (putR t row)) : offB (putR t row) t.next = ({ t with next := t.next + 1 }, 0) := by
  have h1 : offB (putR t row) t.next = offT (putR t row) t.next := if_pos h
  have h2 : offT (putR t row) t.next = ({ putR t row with rows := (putR t row).rows.eraseIdx (rowN (putR t row) t.next) }, 0) := if_pos (by rw [putR_place h, putR_len]; omega)
  rw [h1, h2, putR_place h]
  have e3 : (putR t row).rows.eraseIdx t.rows.length = t.rows := by
    show (t.rows ++ [_]).eraseIdx t.rows.length = _
    rw [List.eraseIdx_append_of_length_le (Nat.le_refl _)]
    simp
  rw [e3]; rfl
theorem putB_cases {t : Table} (h : TabOK t) (xs : List Set) : (∃ row, PutFine t xs row ∧ putB t xs = (putR t row, 0)) ∨ ((putB t xs).1 = t ∧ (putB t xs).2 ≠ 0) := by
  have : putB t xs = putT t xs := if_pos h
  rw [this]; exact putT_cases t xs
end Go.Proofs.YtlkhmcajnfombaaGreatDoor
