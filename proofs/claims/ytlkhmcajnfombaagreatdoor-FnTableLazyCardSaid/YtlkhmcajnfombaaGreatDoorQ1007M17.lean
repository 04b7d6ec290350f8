/- What the laws ask: how each thing done ends, what is told twice, rows compared. -/
import Derived.Test.YtlkhmcajnfombaaGreatDoorQ1007M16
set_option linter.unusedVariables false
set_option linter.unusedSimpArgs false
set_option linter.deprecated false
set_option linter.unusedSectionVars false
set_option linter.all false
namespace Go.Proofs.YtlkhmcajnfombaaGreatDoor
open Go Go.HL
variable {fu : Nat}
theorem rowT_yes {t : Table} {id : Int} (h : TabOK t) (h2 : rowN t id < t.rows.length) : rowT t id = (nowR t (t.rows.getD (rowN t id) default), true) := if_pos ⟨h, h2⟩
theorem rowT_at {t : Table} (h : TabOK t) {k : Nat} (hk : k < t.rows.length) : rowT t (t.rows.getD k default).id = (nowR t (t.rows.getD k default), true) := by
  have e := rowN_uniq h.asc hk
  rw [rowT_yes h (by rw [e]; exact hk), e]
theorem shapeB_ok {t : Table} (h : TabOK t) : shapeB t = lastS t := if_pos h
structure PutFine (t : Table) (xs : List Set) (row : List Val) : Prop where
  tell : tell (lastS t) [] (defs (lastS t)) xs = some row
  ok : RowOK (lastS t) row
  once : NoTwice (lastS t) (nows t ++ [row])
  room : t.rows.length ≠ 8
  next : t.next ≠ 60
def putR (t : Table) (row : List Val) : Table := { t with rows := t.rows ++ [⟨t.next, (t.changes.length : Int), row⟩], next := t.next + 1 }
theorem putT_cases (t : Table) (xs : List Set) : (∃ row, PutFine t xs row ∧ putT t xs = (putR t row, 0)) ∨ ((putT t xs).1 = t ∧ (putT t xs).2 ≠ 0) := by
  unfold putT
  split
  · exact .inr ⟨rfl, by simp⟩
  · rename_i row ht
    by_cases h1 : RowOK (lastS t) row
    case neg => rw [if_pos h1]; exact .inr ⟨rfl, by simp⟩
    rw [if_neg (fun h => h h1)]
    by_cases h2 : NoTwice (lastS t) (nows t ++ [row])
    case neg => rw [if_pos h2]; exact .inr ⟨rfl, by simp⟩
    rw [if_neg (fun h => h h2)]
    by_cases h3 : t.rows.length = 8 ∨ t.next = 60
    · rw [if_pos h3]; exact .inr ⟨rfl, by simp⟩
    · rw [if_neg h3]; exact .inl ⟨row, ⟨ht, h1, h2, fun e => h3 (.inl e), fun e => h3 (.inr e)⟩, rfl⟩
theorem putT_fine {t : Table} {xs : List Set} {row : List Val} (h : PutFine t xs row) : putT t xs = (putR t row, 0) := by
  unfold putT
  rw [h.tell]
  simp only
  rw [if_neg (fun h' => h' h.ok), if_neg (fun h' => h' h.once), if_neg (fun h' => h'.elim h.room h.next)]; rfl
structure SetFine (t : Table) (id : Int) (xs : List Set) (row : List Val) : Prop where
  there : rowN t id < t.rows.length
  tell : tell (lastS t) [] (nowR t (t.rows.getD (rowN t id) default)) xs = some row
  ok : RowOK (lastS t) row
  once : NoTwice (lastS t) ((nows t).set (rowN t id) row)
def setR (t : Table) (id : Int) (row : List Val) : Table := { t with rows := t.rows.set (rowN t id) ⟨id, (t.changes.length : Int), row⟩ }
theorem setT_cases (t : Table) (id : Int) (xs : List Set) : (∃ row, SetFine t id xs row ∧ setT t id xs = (setR t id row, 0)) ∨ ((setT t id xs).1 = t ∧ (setT t id xs).2 ≠ 0) := by
  unfold setT
  by_cases h0 : rowN t id < t.rows.length
  case neg => rw [if_neg h0]; exact .inr ⟨rfl, by simp⟩
  rw [if_pos h0]
  split
  · exact .inr ⟨rfl, by simp⟩
  · rename_i row ht
    by_cases h1 : RowOK (lastS t) row
    case neg => rw [if_pos h1]; exact .inr ⟨rfl, by simp⟩
    rw [if_neg (fun h => h h1)]
    by_cases h2 : NoTwice (lastS t) ((nows t).set (rowN t id) row)
    case neg => rw [if_pos h2]; exact .inr ⟨rfl, by simp⟩
    rw [if_neg (fun h => h h2)]
    exact .inl ⟨row, ⟨h0, ht, h1, h2⟩, rfl⟩
theorem setT_fine {t : Table} {id : Int} {xs : List Set} {row : List Val} (h : SetFine t id xs row) : setT t id xs = (setR t id row, 0) := by
  unfold setT
  rw [if_pos h.there, h.tell]
  simp only
  rw [if_neg (fun h' => h' h.ok), if_neg (fun h' => h' h.once)]; rfl
structure SameRows (a b : Table) : Prop where
  shape : shapeB a = shapeB b
  len : a.rows.length = b.rows.length
  next : a.next = b.next
  rows : ∀ k, k < a.rows.length → (rowT a (a.rows.getD k default).id).2 = true ∧ (rowT b (a.rows.getD k default).id).2 = true ∧ (rowT a (a.rows.getD k default).id).1 = (rowT b (a.rows.getD k default).id).1
theorem rowT_len {t : Table} {id : Int} (hs : SmT t) : (rowT t id).1.length ≤ 1000 := by
  unfold rowT
  split
  · rename_i h
    have := nowR_len (h.1.rt hs) ((h.1.rws hs).all _ h.2)
    have := (h.1.rt hs).okLast.hi
    simp only
    omega
  · simp
theorem f30_is {a b : Table} (hf : BIG ≤ fu) (ha : SmT a) (hb : SmT b) (h : SameRows a b) : f30 fu a b = some true := by
  have hN := ha.nrow
  have hsh := (shapeB_sm ha).1.len
  unfold f30
  rw [f23_is hf ha, Option.bind_some, f23_is hf hb, Option.bind_some, f37_is hf hsh, Option.bind_some, B_t h.shape]
  simp only [Bool.not_true, cond_false]
  have hl : (a.rows.length : Int) = (b.rows.length : Int) := by rw [h.len]
  rw [decide_eq_true hl, decide_eq_true h.next]
  unfold f30_j1
  simp only [Bool.not_true, cond_false]
  have main := loopB (L := f30_l1 fu a b) (N := a.rows.length) (fun _ => True) True (by unfold BIG; omega) (fun n _ => ?_) (fun n hq => absurd trivial hq) (fun n k hk _ => ?_) (fun n k hk hp => absurd trivial hp) (fu := fu) (by unfold BIG at hf; omega)
  · rw [main, B_t ⟨fun _ _ => trivial, trivial⟩]
  · rw [f30_l1, nlt]; rfl
  · have hr := h.rows k hk
    rw [f30_l1, ltR hk, cond_true, ge0, Bool.and_self, cond_true, Int.toNat_natCast, f16_is hf ha, Option.bind_some, cond_true, f16_is hf hb, Option.bind_some, hr.1, hr.2.1]
    simp only [Bool.not_true, cond_false]
    rw [f18_is hf (rowT_len ha), Option.bind_some, B_t hr.2.2]; rfl
theorem sameRows {a b : Table} (ha : TabOK a) (hb : TabOK b) (h1 : lastS a = lastS b) (h2 : a.rows.length = b.rows.length) (h3 : a.next = b.next) (h4 : ∀ k, k < a.rows.length → (a.rows.getD k default).id = (b.rows.getD k default).id ∧ nowR a (a.rows.getD k default) = nowR b (b.rows.getD k default)) : SameRows a b :=
  ⟨by rw [shapeB_ok ha, shapeB_ok hb, h1], h2, h3, fun k hk => by
    have e := h4 k hk
    have e1 := rowT_at ha hk
    have e2 := rowT_at hb (show k < b.rows.length by omega)
    rw [← e.1] at e2
    rw [e1, e2]
    exact ⟨rfl, rfl, e.2⟩⟩
end Go.Proofs.YtlkhmcajnfombaaGreatDoor
