/- Put and taken away again; set and set back; set and another row away; all rows put anew. -/
import Derived.Test.YtlkhmcajnfombaaGreatDoorQ1006M19
set_option linter.unusedVariables false
set_option linter.unusedSimpArgs false
set_option linter.deprecated false
set_option linter.unusedSectionVars false
set_option linter.all false
namespace Go.Proofs.YtlkhmcajnfombaaGreatDoor
open Go Go.HL
variable {fu : Nat}
theorem putR_len (t : Table) (row : List Val) : (putR t row).rows.length = t.rows.length + 1 := by show (t.rows ++ [_]).length = _; simp
theorem putR_get (t : Table) (row : List Val) : (putR t row).rows.getD t.rows.length default = ⟨t.next, (t.changes.length : Int), row⟩ := by
  show (t.rows ++ [_]).getD t.rows.length default = _
  simp [List.getD_eq_getElem?_getD]
theorem putR_row {t : Table} {row : List Val} (h : TabOK (putR t row)) : rowT (putR t row) t.next = (row, true) := by
  have := rowT_at h (k := t.rows.length) (by rw [putR_len]; omega)
  rw [putR_get] at this
  rw [this]
  exact congrArg (fun x => (x, true)) (nowR_new t _ row)
def someR (s : List Col) (rows : List (List Val)) : Table := ⟨s, [], rows.mapIdx fun i row => ⟨(i : Int) + 1, 0, row⟩, (rows.length : Int) + 1⟩
theorem someR_snoc (s : List Col) (rows : List (List Val)) (row : List Val) : putR (someR s rows) row = someR s (rows ++ [row]) := by
  unfold putR someR
  rw [List.mapIdx_append]
  simp
theorem someR_nows (s : List Col) (rows : List (List Val)) : nows (someR s rows) = rows := by
  unfold nows
  show (rows.mapIdx fun i row => (⟨(i : Int) + 1, 0, row⟩ : Row)).map (nowR (someR s rows)) = rows
  have e : ∀ r : Row, nowR (someR s rows) r = r.vals := fun r => by
    unfold nowR
    show runRow _ (([] : List Change).drop r.ver.toNat) r.vals = _
    rw [List.drop_nil]; rfl
  refine List.ext_getElem (by simp) fun i h1 h2 => ?_
  rw [List.getElem_map, e]
  simp
theorem someR_put {s : List Col} {rows : List (List Val)} {row : List Val} (hs : ShapeOK s) (hr : RowOK s row) (h8 : rows.length < 8) (hn : NoTwice s (rows ++ [row])) : PutFine (someR s rows) (selfX s row) row := by
  refine ⟨tell_all hs hr (defs_len s), hr, ?_, ?_, ?_⟩
  · rw [someR_nows]; exact hn
  · show (rows.mapIdx _).length ≠ 8
    simp; omega
  · show (rows.length : Int) + 1 ≠ 60
    omega
end Go.Proofs.YtlkhmcajnfombaaGreatDoor
