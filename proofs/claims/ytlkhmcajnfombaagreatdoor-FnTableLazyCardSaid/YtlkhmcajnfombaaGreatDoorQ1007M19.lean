/- Tables that tell the same; a row told whole. -/
import Derived.Test.YtlkhmcajnfombaaGreatDoorQ1007M18
set_option linter.unusedVariables false
set_option linter.unusedSimpArgs false
set_option linter.deprecated false
set_option linter.unusedSectionVars false
set_option linter.all false
namespace Go.Proofs.YtlkhmcajnfombaaGreatDoor
open Go Go.HL
variable {fu : Nat}
structure Like (a b : Table) : Prop where
  shape : lastS a = lastS b
  ids : a.rows.map (·.id) = b.rows.map (·.id)
  nows : nows a = nows b
  next : a.next = b.next
theorem Like.len {a b : Table} (h : Like a b) : a.rows.length = b.rows.length := by
  have := congrArg List.length h.ids
  simpa using this
theorem Like.id {a b : Table} (h : Like a b) {k : Nat} (hk : k < a.rows.length) : (a.rows.getD k default).id = (b.rows.getD k default).id := by
  have hb : k < b.rows.length := by rw [← h.len]; exact hk
  have := congrArg (fun l => l.getD k (0 : Int)) h.ids
  simp only at this
  rw [getD_lt (by simpa using hk), getD_lt (by simpa using hb), List.getElem_map, List.getElem_map] at this
  rw [getD_lt hk, getD_lt hb]; exact this
theorem Like.now {a b : Table} (h : Like a b) {k : Nat} (hk : k < a.rows.length) : nowR a (a.rows.getD k default) = nowR b (b.rows.getD k default) := by
  rw [← nows_get hk, ← nows_get (by rw [← h.len]; exact hk), h.nows]
theorem Like.same {a b : Table} (h : Like a b) (ha : TabOK a) (hb : TabOK b) : SameRows a b := sameRows ha hb h.shape h.len h.next fun _ hk => ⟨h.id hk, h.now hk⟩
theorem Like.rowN {a b : Table} (h : Like a b) (id : Int) : rowN a id = rowN b id := by
  have f : ∀ l : List Row, l.findIdx (fun r => decide (r.id = id)) = (l.map (·.id)).findIdx fun i => decide (i = id) := fun l => by rw [List.findIdx_map]; rfl
  unfold Go.Proofs.YtlkhmcajnfombaaGreatDoor.rowN
  rw [f, f, h.ids]
theorem like_nowT (t : Table) : Like t (nowT t) := ⟨rfl, by show _ = (t.rows.map (anew t)).map _; rw [List.map_map]; rfl, (nows_nowT t).symm, rfl⟩
theorem Like.put {a b : Table} (h : Like a b) (xs : List Set) : (putT a xs).2 = (putT b xs).2 ∧ Like (putT a xs).1 (putT b xs).1 := by
  rcases putT_cases a xs with ⟨row, hf, e⟩ | ⟨e1, e2⟩
  · have hfb : PutFine b xs row := ⟨by rw [← h.shape]; exact hf.tell, by rw [← h.shape]; exact hf.ok, by rw [← h.shape, ← h.nows]; exact hf.once, by rw [← h.len]; exact hf.room, by rw [← h.next]; exact hf.next⟩
    rw [e, putT_fine hfb]
    refine ⟨rfl, h.shape, ?_, ?_, ?_⟩
    · show (a.rows ++ [_]).map _ = (b.rows ++ [_]).map _
      rw [List.map_append, List.map_append, h.ids]
      simp only [List.map_cons, List.map_nil]
      rw [h.next]
    · show Go.Proofs.YtlkhmcajnfombaaGreatDoor.nows (putR a row) = Go.Proofs.YtlkhmcajnfombaaGreatDoor.nows (putR b row)
      have h1 : Go.Proofs.YtlkhmcajnfombaaGreatDoor.nows (putR a row) = Go.Proofs.YtlkhmcajnfombaaGreatDoor.nows a ++ [row] := nows_snoc a
      have h2 : Go.Proofs.YtlkhmcajnfombaaGreatDoor.nows (putR b row) = Go.Proofs.YtlkhmcajnfombaaGreatDoor.nows b ++ [row] := nows_snoc b
      rw [h1, h2, h.nows]
    · show a.next + 1 = b.next + 1
      rw [h.next]
  · have hl := h.len
    have hb : (putT b xs).1 = b ∧ (putT b xs).2 = (putT a xs).2 := by
      unfold putT at e2 ⊢
      rw [← h.shape]
      cases ht : tell (lastS a) [] (defs (lastS a)) xs with
      | none => rw [ht] at e2; exact ⟨rfl, rfl⟩
      | some row =>
        rw [ht] at e2
        simp only at e2 ⊢
        by_cases h1 : RowOK (lastS a) row
        case neg => rw [if_pos h1, if_pos h1]; exact ⟨rfl, rfl⟩
        have n1 : ¬ ¬ RowOK (lastS a) row := fun h => h h1
        rw [if_neg n1] at e2
        rw [if_neg n1, if_neg n1, ← h.nows]
        by_cases h2 : NoTwice (lastS a) (Go.Proofs.YtlkhmcajnfombaaGreatDoor.nows a ++ [row])
        case neg => rw [if_pos h2, if_pos h2]; exact ⟨rfl, rfl⟩
        have n2 := not_not_intro h2
        rw [if_neg n2] at e2
        rw [if_neg n2, if_neg n2, ← hl, ← h.next]
        by_cases h3 : a.rows.length = 8 ∨ a.next = 60
        · rw [if_pos h3, if_pos h3]; exact ⟨rfl, rfl⟩
        · rw [if_neg h3] at e2; exact absurd rfl e2
    rw [hb.1, hb.2, e1]
    exact ⟨rfl, h⟩
theorem Like.set {a b : Table} (h : Like a b) (id : Int) (xs : List Set) : (setT a id xs).2 = (setT b id xs).2 ∧ Like (setT a id xs).1 (setT b id xs).1 := by
  have hr := h.rowN id
  have hl := h.len
  rcases setT_cases a id xs with ⟨row, hf, e⟩ | ⟨e1, e2⟩
  · have hfb : SetFine b id xs row := ⟨by rw [← hr, ← hl]; exact hf.there, by rw [← h.shape, ← hr, ← h.now hf.there]; exact hf.tell, by rw [← h.shape]; exact hf.ok, by rw [← h.shape, ← h.nows, ← hr]; exact hf.once⟩
    rw [e, setT_fine hfb]
    refine ⟨rfl, h.shape, ?_, ?_, h.next⟩
    · show (a.rows.set _ _).map _ = (b.rows.set _ _).map _
      rw [List.map_set, List.map_set, h.ids, hr]
    · have h1 : Go.Proofs.YtlkhmcajnfombaaGreatDoor.nows (setR a id row) = (Go.Proofs.YtlkhmcajnfombaaGreatDoor.nows a).set (Go.Proofs.YtlkhmcajnfombaaGreatDoor.rowN a id) row := nows_set a
      have h2 : Go.Proofs.YtlkhmcajnfombaaGreatDoor.nows (setR b id row) = (Go.Proofs.YtlkhmcajnfombaaGreatDoor.nows b).set (Go.Proofs.YtlkhmcajnfombaaGreatDoor.rowN b id) row := nows_set b
      show Go.Proofs.YtlkhmcajnfombaaGreatDoor.nows (setR a id row) = Go.Proofs.YtlkhmcajnfombaaGreatDoor.nows (setR b id row)
      rw [h1, h2, h.nows, hr]
  · have hb : (setT b id xs).1 = b ∧ (setT b id xs).2 = (setT a id xs).2 := by
      unfold setT at e2 ⊢
      rw [← hr, ← hl, ← h.shape]
      by_cases h0 : Go.Proofs.YtlkhmcajnfombaaGreatDoor.rowN a id < a.rows.length
      case neg => rw [if_neg h0, if_neg h0]; exact ⟨rfl, rfl⟩
      rw [if_pos h0] at e2
      rw [if_pos h0, if_pos h0, ← h.now h0, ← h.nows]
      cases ht : tell (lastS a) [] (nowR a (a.rows.getD (Go.Proofs.YtlkhmcajnfombaaGreatDoor.rowN a id) default)) xs with
      | none => rw [ht] at e2; exact ⟨rfl, rfl⟩
      | some row =>
        rw [ht] at e2
        simp only at e2 ⊢
        by_cases h1 : RowOK (lastS a) row
        case neg => rw [if_pos h1, if_pos h1]; exact ⟨rfl, rfl⟩
        have n1 : ¬ ¬ RowOK (lastS a) row := fun h => h h1
        rw [if_neg n1] at e2
        rw [if_neg n1, if_neg n1]
        by_cases h2 : NoTwice (lastS a) ((Go.Proofs.YtlkhmcajnfombaaGreatDoor.nows a).set (Go.Proofs.YtlkhmcajnfombaaGreatDoor.rowN a id) row)
        case neg => rw [if_pos h2, if_pos h2]; exact ⟨rfl, rfl⟩
        · rw [if_neg (not_not_intro h2)] at e2; exact absurd rfl e2
    rw [hb.1, hb.2, e1]
    exact ⟨rfl, h⟩
end Go.Proofs.YtlkhmcajnfombaaGreatDoor
