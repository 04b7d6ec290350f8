/- What the laws ask: how each thing done ends, what is told twice, rows compared. -/
import Derived.Test.YtbnklinfjmmlfaaGreatDoorQ11M16
set_option linter.unusedVariables false
set_option linter.unusedSimpArgs false
set_option linter.deprecated false
set_option linter.unusedSectionVars false
set_option linter.all false
namespace Go.Proofs.YtbnklinfjmmlfaaGreatDoor
open Go Go.HL
variable {fu : Nat}
theorem cond_long {n : Nat} {x : Option Bool} (h : x = some true) : cond (decide (1048576 < (n : Int))) (some true) x = some true := by
  cases decide (1048576 < (n : Int)) with
  | true => rfl
  | false => exact h
theorem rowT_yes {t : Table} {id : Int} (h : TabOK t) (h2 : rowN t id < t.rows.length) : rowT t id = (nowR t (t.rows.getD (rowN t id) default), true) := if_pos ⟨h, h2⟩
theorem shapeB_ok {t : Table} (h : TabOK t) : shapeB t = lastS t := if_pos h
structure SetFine (t : Table) (id : Int) (xs : List Set) (row : List Val) : Prop where
  there : rowN t id < t.rows.length
  tell : tell (lastS t) [] (nowR t (t.rows.getD (rowN t id) default)) xs = some row
  ok : RowOK (lastS t) row
  once : NoTwice (lastS t) ((nows t).set (rowN t id) row)
def setR (t : Table) (id : Int) (row : List Val) : Table := { t with rows := t.rows.set (rowN t id) ⟨id, (t.changes.length : Int), row⟩ }
theorem setT_cases (t : Table) (id : Int) (xs : List Set) : (∃ row, SetFine t id xs row ∧ setT t id xs = (setR t id row, 0)) ∨ ((setT t id xs).1 = t ∧ (setT t id xs).2 ≠ 0) := by
  unfold setT
  by_cases h0 : rowN t id < t.rows.length
  case neg => rw [if_neg h0]; exact .inr ⟨rfl, by simp⟩
  rw [if_pos h0]
  split
  · exact .inr ⟨rfl, by simp⟩
  · rename_i row ht
    by_cases h1 : RowOK (lastS t) row
    case neg => rw [if_pos h1]; exact .inr ⟨rfl, by simp⟩
    rw [if_neg (fun h => h h1)]
    by_cases h2 : NoTwice (lastS t) ((nows t).set (rowN t id) row)
    case neg => rw [if_pos h2]; exact .inr ⟨rfl, by simp⟩
    rw [if_neg (fun h => h h2)]
    exact .inl ⟨row, ⟨h0, ht, h1, h2⟩, rfl⟩
theorem setT_fine {t : Table} {id : Int} {xs : List Set} {row : List Val} (h : SetFine t id xs row) : setT t id xs = (setR t id row, 0) := by
  unfold setT
  rw [if_pos h.there, h.tell]
  simp only
  rw [if_neg (fun h' => h' h.ok), if_neg (fun h' => h' h.once)]; rfl
theorem atN_name {s : List Col} {nm : List UInt8} (h : atN s nm < s.length) : (s.getD (atN s nm) default).name = nm := by
  rw [getD_lt h]
  exact of_decide_eq_true (List.findIdx_getElem (w := h))
theorem atN_at {s : List Col} (hs : ShapeOK s) {k : Nat} (hk : k < s.length) : atN s (s.getD k default).name = k := by
  have := (hs.all k hk).2
  have hlt : atN s (s.getD k default).name < s.length := Classical.byContradiction fun hn => by rw [atI_no hn] at this; omega
  rw [atI_lt hlt] at this
  omega
theorem tell_keep {s : List Col} {nm : List UInt8} (hn : atN s nm < s.length) : ∀ {xs : List Set} {met : List (List UInt8)} {row r : List Val}, nm ∈ met → row.length = s.length → tell s met row xs = some r → r.getD (atN s nm) default = row.getD (atN s nm) default
  | [], _, _, _, _, _, h => by rw [tell] at h; injection h with h; rw [h]
  | x :: xs, met, row, r, hm, hl, h => by
    rw [tell_cons] at h
    split at h
    · rename_i ht
      rw [tell_keep hn (List.mem_append_left _ hm) (by simpa using hl) h, getD_set (by have := ht.there; omega), if_neg]
      intro e
      apply ht.fresh
      have h1 := atN_name hn
      have h2 := atN_name ht.there
      rw [← e, h1] at h2
      rw [← h2]; exact hm
    · cases h
theorem tell_idem {s : List Col} : ∀ {xs : List Set} {met : List (List UInt8)} {row r : List Val}, row.length = s.length → tell s met row xs = some r → tell s met r xs = some r
  | [], _, _, _, _, _ => by rw [tell]
  | x :: xs, met, row, r, hl, h => by
    have hrl := tell_len h
    rw [tell_cons] at h
    split at h
    · rename_i ht
      have h1 := ht.there
      have hk := tell_keep h1 (List.mem_append_right _ (List.mem_singleton.2 rfl)) (by simpa using hl) h
      rw [getD_set (by omega), if_pos rfl] at hk
      have e : r.set (atN s x.name) x.val = r := by rw [← hk]; exact set_self (by omega)
      rw [tell_cons, if_pos ht, e]
      exact tell_idem (by simpa using hl) h
    · cases h
end Go.Proofs.YtbnklinfjmmlfaaGreatDoor
