/- What is told of a row, and what is put and set: the models. -/
import Derived.Test.YtlkhmcajnfombaaGreatDoorQ1004M8
set_option linter.unusedVariables false
set_option linter.unusedSimpArgs false
set_option linter.deprecated false
set_option linter.unusedSectionVars false
set_option linter.all false
namespace Go.Proofs.YtlkhmcajnfombaaGreatDoor
open Go Go.HL
theorem NoTwice.perm {s : List Col} {a b : List (List Val)} (h : a.Perm b) : NoTwice s a ↔ NoTwice s b := by
  unfold NoTwice
  exact h.pairwise_iff fun hxy hyx => hxy hyx.symm
theorem filter_erase {rows : List Row} (ha : rows.Pairwise fun a b => a.id < b.id) {k : Nat} (hk : k < rows.length) : rows.filter (fun r => !decide (r.id = rows[k].id)) = rows.eraseIdx k := by
  have h1 := List.pairwise_iff_getElem.1 ha
  obtain ⟨x, hx⟩ : ∃ x, rows[k].id = x := ⟨_, rfl⟩
  rw [hx, List.eraseIdx_eq_take_drop_succ]
  conv => lhs; rw [← List.take_append_drop k rows, List.drop_eq_getElem_cons hk]
  rw [List.filter_append, List.filter_cons, if_neg (by simp [hx])]
  subst hx
  congr 1
  · refine List.filter_eq_self.2 fun r hr => ?_
    obtain ⟨i, hi, rfl⟩ := List.getElem_of_mem hr
    rw [List.getElem_take]
    have hi' : i < k := by simp at hi; omega
    have := h1 i k (by omega) hk hi'
    simp; omega
  · refine List.filter_eq_self.2 fun r hr => ?_
    obtain ⟨i, hi, rfl⟩ := List.getElem_of_mem hr
    rw [List.getElem_drop]
    have hi' : k + 1 + i < rows.length := by simp at hi; omega
    have := h1 k (k + 1 + i) hk hi' (by omega)
    simp; omega
theorem set_perm {α : Type} {l : List α} {k : Nat} (hk : k < l.length) (x : α) : (x :: l.eraseIdx k).Perm (l.set k x) := by
  rw [List.eraseIdx_eq_take_drop_succ, List.set_eq_take_append_cons_drop, if_pos hk]
  exact List.perm_middle.symm
theorem snoc_perm {α : Type} (l : List α) (x : α) : (x :: l).Perm (l ++ [x]) := by
  have := (List.perm_append_comm (l₁ := [x]) (l₂ := l))
  simpa using this
end Go.Proofs.YtlkhmcajnfombaaGreatDoor
