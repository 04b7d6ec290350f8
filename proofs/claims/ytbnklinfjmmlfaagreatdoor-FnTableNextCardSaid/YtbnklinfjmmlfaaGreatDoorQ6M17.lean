/- What the laws ask: how each thing done ends, what is told twice, rows compared. -/
import Derived.Test.YtbnklinfjmmlfaaGreatDoorQ6M16
set_option linter.unusedVariables false
set_option linter.unusedSimpArgs false
set_option linter.deprecated false
set_option linter.unusedSectionVars false
set_option linter.all false
namespace Go.Proofs.YtbnklinfjmmlfaaGreatDoor
open Go Go.HL
variable {fu : Nat}
theorem cond_long {n : Nat} {x : Option Bool} (h : x = some true) : cond (decide (1048576 < (n : Int))) (some true) x = some true := by
  cases decide (1048576 < (n : Int)) with
  | true => rfl
  | false => exact h
theorem rowT_yes {t : Table} {id : Int} (h : TabOK t) (h2 : rowN t id < t.rows.length) : rowT t id = (nowR t (t.rows.getD (rowN t id) default), true) := if_pos ⟨h, h2⟩
theorem rowT_no {t : Table} {id : Int} (h : ¬ (TabOK t ∧ rowN t id < t.rows.length)) : rowT t id = ([], false) := if_neg h
theorem rowT_at {t : Table} (h : TabOK t) {k : Nat} (hk : k < t.rows.length) : rowT t (t.rows.getD k default).id = (nowR t (t.rows.getD k default), true) := by
  have e := rowN_uniq h.asc hk
  rw [rowT_yes h (by rw [e]; exact hk), e]
structure PutFine (t : Table) (xs : List Set) (row : List Val) : Prop where
  tell : tell (lastS t) [] (defs (lastS t)) xs = some row
  ok : RowOK (lastS t) row
  once : NoTwice (lastS t) (nows t ++ [row])
  room : t.rows.length ≠ 8
  next : t.next ≠ 60
def putR (t : Table) (row : List Val) : Table := { t with rows := t.rows ++ [⟨t.next, (t.changes.length : Int), row⟩], next := t.next + 1 }
theorem putT_cases (t : Table) (xs : List Set) : (∃ row, PutFine t xs row ∧ putT t xs = (putR t row, 0)) ∨ ((putT t xs).1 = t ∧ (putT t xs).2 ≠ 0) := by
  unfold putT
  split
  · exact .inr ⟨rfl, by simp⟩
  · rename_i row ht
    by_cases h1 : RowOK (lastS t) row
    case neg => rw [if_pos h1]; exact .inr ⟨rfl, by simp⟩
    rw [if_neg (fun h => h h1)]
    by_cases h2 : NoTwice (lastS t) (nows t ++ [row])
    case neg => rw [if_pos h2]; exact .inr ⟨rfl, by simp⟩
    rw [if_neg (fun h => h h2)]
    by_cases h3 : t.rows.length = 8 ∨ t.next = 60
    · rw [if_pos h3]; exact .inr ⟨rfl, by simp⟩
    · rw [if_neg h3]; exact .inl ⟨row, ⟨ht, h1, h2, fun e => h3 (.inl e), fun e => h3 (.inr e)⟩, rfl⟩
theorem putT_fine {t : Table} {xs : List Set} {row : List Val} (h : PutFine t xs row) : putT t xs = (putR t row, 0) := by
  unfold putT
  rw [h.tell]
  simp only
  rw [if_neg (fun h' => h' h.ok), if_neg (fun h' => h' h.once), if_neg (fun h' => h'.elim h.room h.next)]; rfl
end Go.Proofs.YtbnklinfjmmlfaaGreatDoor
