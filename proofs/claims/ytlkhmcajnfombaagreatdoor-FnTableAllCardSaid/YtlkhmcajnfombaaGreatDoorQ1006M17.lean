/- What the laws ask: how each thing done ends, what is told twice, rows compared. -/
import Derived.Test.YtlkhmcajnfombaaGreatDoorQ1006M16
set_option linter.unusedVariables false
set_option linter.unusedSimpArgs false
set_option linter.deprecated false
set_option linter.unusedSectionVars false
set_option linter.all false
namespace Go.Proofs.YtlkhmcajnfombaaGreatDoor
open Go Go.HL
variable {fu : Nat}
theorem cond_long {n : Nat} {x : Option Bool} (h : x = some true) : cond (decide (1048576 < (n : Int))) (some true) x = some true := by
  cases decide (1048576 < (n : Int)) with
  | true => rfl
  | false => exact h
theorem rowT_yes {t : Table} {id : Int} (h : TabOK t) (h2 : rowN t id < t.rows.length) : rowT t id = (nowR t (t.rows.getD (rowN t id) default), true) := if_pos ⟨h, h2⟩
theorem rowT_at {t : Table} (h : TabOK t) {k : Nat} (hk : k < t.rows.length) : rowT t (t.rows.getD k default).id = (nowR t (t.rows.getD k default), true) := by
  have e := rowN_uniq h.asc hk
  rw [rowT_yes h (by rw [e]; exact hk), e]
theorem shapeB_ok {t : Table} (h : TabOK t) : shapeB t = lastS t := if_pos h
theorem Good.now {t : Table} (h : Good t) {k : Nat} (hk : k < t.rows.length) : RowOK (lastS t) (nowR t (t.rows.getD k default)) := (h.ok.rg _ (getD_mem hk)).now
structure PutFine (t : Table) (xs : List Set) (row : List Val) : Prop where
  tell : tell (lastS t) [] (defs (lastS t)) xs = some row
  ok : RowOK (lastS t) row
  once : NoTwice (lastS t) (nows t ++ [row])
  room : t.rows.length ≠ 8
  next : t.next ≠ 60
def putR (t : Table) (row : List Val) : Table := { t with rows := t.rows ++ [⟨t.next, (t.changes.length : Int), row⟩], next := t.next + 1 }
theorem putT_fine {t : Table} {xs : List Set} {row : List Val} (h : PutFine t xs row) : putT t xs = (putR t row, 0) := by
  unfold putT
  rw [h.tell]
  simp only
  rw [if_neg (fun h' => h' h.ok), if_neg (fun h' => h' h.once), if_neg (fun h' => h'.elim h.room h.next)]; rfl
theorem atN_at {s : List Col} (hs : ShapeOK s) {k : Nat} (hk : k < s.length) : atN s (s.getD k default).name = k := by
  have := (hs.all k hk).2
  have hlt : atN s (s.getD k default).name < s.length := Classical.byContradiction fun hn => by rw [atI_no hn] at this; omega
  rw [atI_lt hlt] at this
  omega
end Go.Proofs.YtlkhmcajnfombaaGreatDoor
