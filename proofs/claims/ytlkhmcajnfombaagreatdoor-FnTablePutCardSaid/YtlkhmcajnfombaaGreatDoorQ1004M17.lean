/- What the laws ask: how each thing done ends, what is told twice, rows compared. -/
import Derived.Test.YtlkhmcajnfombaaGreatDoorQ1004M16
set_option linter.unusedVariables false
set_option linter.unusedSimpArgs false
set_option linter.deprecated false
set_option linter.unusedSectionVars false
set_option linter.all false
namespace Go.Proofs.YtlkhmcajnfombaaGreatDoor
open Go Go.HL
variable {fu : Nat}
theorem cond_long {n : Nat} {x : Option Bool} (h : x = some true) : cond (decide (1048576 < (n : Int))) (some true) x = some true := by
  cases decide (1048576 < (n : Int)) with
  | true => rfl
  | false => exact h
theorem rowT_yes {t : Table} {id : Int} (h : TabOK t) (h2 : rowN t id < t.rows.length) : rowT t id = (nowR t (t.rows.getD (rowN t id) default), true) := if_pos ⟨h, h2⟩
theorem rowT_at {t : Table} (h : TabOK t) {k : Nat} (hk : k < t.rows.length) : rowT t (t.rows.getD k default).id = (nowR t (t.rows.getD k default), true) := by
  have e := rowN_uniq h.asc hk
  rw [rowT_yes h (by rw [e]; exact hk), e]
theorem shapeB_ok {t : Table} (h : TabOK t) : shapeB t = lastS t := if_pos h
structure PutFine (t : Table) (xs : List Set) (row : List Val) : Prop where
  tell : tell (lastS t) [] (defs (lastS t)) xs = some row
  ok : RowOK (lastS t) row
  once : NoTwice (lastS t) (nows t ++ [row])
  room : t.rows.length ≠ 8
  next : t.next ≠ 60
def putR (t : Table) (row : List Val) : Table := { t with rows := t.rows ++ [⟨t.next, (t.changes.length : Int), row⟩], next := t.next + 1 }
theorem putT_cases (t : Table) (xs : List Set) : (∃ row, PutFine t xs row ∧ putT t xs = (putR t row, 0)) ∨ ((putT t xs).1 = t ∧ (putT t xs).2 ≠ 0) := by
  unfold putT
  split
  · exact .inr ⟨rfl, by simp⟩
  · rename_i row ht
    by_cases h1 : RowOK (lastS t) row
    case neg => rw [if_pos h1]; exact .inr ⟨rfl, by simp⟩
    rw [if_neg (fun h => h h1)]
    by_cases h2 : NoTwice (lastS t) (nows t ++ [row])
    case neg => rw [if_pos h2]; exact .inr ⟨rfl, by simp⟩
    rw [if_neg (fun h => h h2)]
    by_cases h3 : t.rows.length = 8 ∨ t.next = 60
    · rw [if_pos h3]; exact .inr ⟨rfl, by simp⟩
    · rw [if_neg h3]; exact .inl ⟨row, ⟨ht, h1, h2, fun e => h3 (.inl e), fun e => h3 (.inr e)⟩, rfl⟩
theorem putT_fine {t : Table} {xs : List Set} {row : List Val} (h : PutFine t xs row) : putT t xs = (putR t row, 0) := by
  unfold putT
  rw [h.tell]
  simp only
  rw [if_neg (fun h' => h' h.ok), if_neg (fun h' => h' h.once), if_neg (fun h' => h'.elim h.room h.next)]; rfl
theorem atN_name {s : List Col} {nm : List UInt8} (h : atN s nm < s.length) : (s.getD (atN s nm) default).name = nm := by
  rw [getD_lt h]
  exact of_decide_eq_true (List.findIdx_getElem (w := h))
theorem atN_at {s : List Col} (hs : ShapeOK s) {k : Nat} (hk : k < s.length) : atN s (s.getD k default).name = k := by
  have := (hs.all k hk).2
  have hlt : atN s (s.getD k default).name < s.length := Classical.byContradiction fun hn => by rw [atI_no hn] at this; omega
  rw [atI_lt hlt] at this
  omega
def wantV (nm : List UInt8) (w : Val) (xs : List Set) : Val := xs.foldl (fun w x => if x.name = nm then x.val else w) w
theorem tell_get {s : List Col} (hs : ShapeOK s) : ∀ {xs : List Set} {met : List (List UInt8)} {row r : List Val}, row.length = s.length → tell s met row xs = some r → ∀ k, k < s.length → r.getD k default = wantV (s.getD k default).name (row.getD k default) xs
  | [], _, _, _, _, h, k, hk => by rw [tell] at h; injection h with h; rw [h]; rfl
  | x :: xs, met, row, r, hl, h, k, hk => by
    rw [tell_cons] at h
    split at h
    · rename_i ht
      have h1 := ht.there
      rw [tell_get hs (by simpa using hl) h k hk]
      show wantV _ _ _ = wantV _ (if x.name = _ then x.val else row.getD k default) xs
      congr 1
      rw [getD_set (by omega)]
      by_cases hk2 : k = atN s x.name
      · rw [if_pos hk2, if_pos (by rw [hk2]; exact (atN_name h1).symm)]
      · rw [if_neg hk2, if_neg (fun e => hk2 (by rw [e, atN_at hs hk]))]
    · cases h
end Go.Proofs.YtlkhmcajnfombaaGreatDoor
