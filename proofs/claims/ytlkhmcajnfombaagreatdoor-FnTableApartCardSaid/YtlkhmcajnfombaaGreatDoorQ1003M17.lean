/- What the laws ask: how each thing done ends, what is told twice, rows compared. -/
import Derived.Test.YtlkhmcajnfombaaGreatDoorQ1003M16
set_option linter.unusedVariables false
set_option linter.unusedSimpArgs false
set_option linter.deprecated false
set_option linter.unusedSectionVars false
set_option linter.all false
namespace Go.Proofs.YtlkhmcajnfombaaGreatDoor
open Go Go.HL
variable {fu : Nat}
structure SetFine (t : Table) (id : Int) (xs : List Set) (row : List Val) : Prop where
  there : rowN t id < t.rows.length
  tell : tell (lastS t) [] (nowR t (t.rows.getD (rowN t id) default)) xs = some row
  ok : RowOK (lastS t) row
  once : NoTwice (lastS t) ((nows t).set (rowN t id) row)
def setR (t : Table) (id : Int) (row : List Val) : Table := { t with rows := t.rows.set (rowN t id) ⟨id, (t.changes.length : Int), row⟩ }
theorem setT_cases (t : Table) (id : Int) (xs : List Set) : (∃ row, SetFine t id xs row ∧ setT t id xs = (setR t id row, 0)) ∨ ((setT t id xs).1 = t ∧ (setT t id xs).2 ≠ 0) := by
  unfold setT
  by_cases h0 : rowN t id < t.rows.length
  case neg => rw [if_neg h0]; exact .inr ⟨rfl, by simp⟩
  rw [if_pos h0]
  split
  · exact .inr ⟨rfl, by simp⟩
  · rename_i row ht
    by_cases h1 : RowOK (lastS t) row
    case neg => rw [if_pos h1]; exact .inr ⟨rfl, by simp⟩
    rw [if_neg (fun h => h h1)]
    by_cases h2 : NoTwice (lastS t) ((nows t).set (rowN t id) row)
    case neg => rw [if_pos h2]; exact .inr ⟨rfl, by simp⟩
    rw [if_neg (fun h => h h2)]
    exact .inl ⟨row, ⟨h0, ht, h1, h2⟩, rfl⟩
theorem setT_fine {t : Table} {id : Int} {xs : List Set} {row : List Val} (h : SetFine t id xs row) : setT t id xs = (setR t id row, 0) := by
  unfold setT
  rw [if_pos h.there, h.tell]
  simp only
  rw [if_neg (fun h' => h' h.ok), if_neg (fun h' => h' h.once)]; rfl
end Go.Proofs.YtlkhmcajnfombaaGreatDoor
