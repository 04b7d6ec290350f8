/- What is done to a right table leaves a right one. -/
import Derived.Test.YtlkhmcajnfombaaGreatDoorQ1006M12
set_option linter.unusedVariables false
set_option linter.unusedSimpArgs false
set_option linter.deprecated false
set_option linter.unusedSectionVars false
set_option linter.all false
namespace Go.Proofs.YtlkhmcajnfombaaGreatDoor
open Go Go.HL
variable {fu : Nat}
theorem offT_ok {t : Table} {id : Int} (h : TabOK t) : TabOK (offT t id).1 := by
  unfold offT
  split
  · exact off_ok h _
  · exact h
theorem putT_ok {t : Table} {xs : List Set} (h : TabOK t) : TabOK (putT t xs).1 := by
  unfold putT
  split
  · exact h
  · rename_i row ht
    by_cases h1 : RowOK (lastS t) row
    case neg => rw [if_pos h1]; exact h
    rw [if_neg (fun h => h h1)]
    by_cases h2 : NoTwice (lastS t) (nows t ++ [row])
    case neg => rw [if_pos h2]; exact h
    rw [if_neg (fun h => h h2)]
    by_cases h3 : t.rows.length = 8 ∨ t.next = 60
    · rw [if_pos h3]; exact h
    · rw [if_neg h3]; exact put_ok h h1 h2 (fun e => h3 (.inl e)) (fun e => h3 (.inr e))
theorem setT_ok {t : Table} {id : Int} {xs : List Set} (h : TabOK t) : TabOK (setT t id xs).1 := by
  unfold setT
  by_cases h0 : rowN t id < t.rows.length
  case neg => rw [if_neg h0]; exact h
  rw [if_pos h0]
  split
  · exact h
  · rename_i row ht
    by_cases h1 : RowOK (lastS t) row
    case neg => rw [if_pos h1]; exact h
    rw [if_neg (fun h => h h1)]
    by_cases h2 : NoTwice (lastS t) ((nows t).set (rowN t id) row)
    case neg => rw [if_pos h2]; exact h
    rw [if_neg (fun h => h h2)]
    have := set_ok h h0 h1 h2
    rw [rowN_id h0] at this
    exact this
theorem chgT_ok {t : Table} {c : Change} (h : TabOK t) (hs : SmT t) : TabOK (chgT t c).1 := by
  unfold chgT
  by_cases h1 : Can (lastS t) c
  case neg => rw [if_pos h1]; exact h
  rw [if_neg (fun h => h h1)]
  by_cases h2 : ∃ k, k < t.rows.length ∧ ¬ RowOK (chg (lastS t) c) (chgRow (lastS t) c (nowR t (t.rows.getD k default)))
  · rw [if_pos h2]; exact h
  rw [if_neg h2]
  by_cases h3 : t.changes.length = 8
  · rw [if_pos h3]; exact h
  rw [if_neg h3]
  refine chg_ok h hs.cs h1 (fun r hr => ?_) h3
  obtain ⟨k, hk, rfl⟩ := List.getElem_of_mem hr
  refine Classical.byContradiction fun hn => h2 ⟨k, hk, ?_⟩
  rw [getD_lt hk]; exact hn
theorem putT_sm {t : Table} {xs : List Set} (h : TabOK t) (hs : SmT t) (hx : SmX xs) : SmT (putT t xs).1 := by
  unfold putT
  split
  · exact hs
  · rename_i row ht
    by_cases h1 : RowOK (lastS t) row
    case neg => rw [if_pos h1]; exact hs
    rw [if_neg (fun h => h h1)]
    by_cases h2 : NoTwice (lastS t) (nows t ++ [row])
    case neg => rw [if_pos h2]; exact hs
    rw [if_neg (fun h => h h2)]
    by_cases h3 : t.rows.length = 8 ∨ t.next = 60
    · rw [if_pos h3]; exact hs
    · rw [if_neg h3]
      refine ⟨hs.first, hs.cs, by have := h.nrow; simp; omega, fun k hk => ?_⟩
      rw [getD_lt hk]
      rcases List.mem_append.1 (List.getElem_mem hk) with hm | hm
      · exact hs.row hm
      · simp only [List.mem_singleton] at hm
        rw [hm]
        exact tell_sm hx.all (defs_sm (h.rt hs).okLast) ht
theorem setT_sm {t : Table} {id : Int} {xs : List Set} (h : TabOK t) (hs : SmT t) (hx : SmX xs) : SmT (setT t id xs).1 := by
  unfold setT
  by_cases h0 : rowN t id < t.rows.length
  case neg => rw [if_neg h0]; exact hs
  rw [if_pos h0]
  split
  · exact hs
  · rename_i row ht
    by_cases h1 : RowOK (lastS t) row
    case neg => rw [if_pos h1]; exact hs
    rw [if_neg (fun h => h h1)]
    by_cases h2 : NoTwice (lastS t) ((nows t).set (rowN t id) row)
    case neg => rw [if_pos h2]; exact hs
    rw [if_neg (fun h => h h2)]
    refine ⟨hs.first, hs.cs, by have := hs.nrow; simpa using this, fun k hk => ?_⟩
    rw [getD_lt hk]
    rcases List.mem_or_eq_of_mem_set (List.getElem_mem hk) with hm | hm
    · exact hs.row hm
    · rw [hm]
      exact tell_sm hx.all (nowR_sm (h.rt hs) ((h.rws hs).all _ h0)) ht
theorem chgT_sm {t : Table} {c : Change} (h : TabOK t) (hs : SmT t) (hc : SmCh c) : SmT (chgT t c).1 := by
  unfold chgT
  by_cases h1 : Can (lastS t) c
  case neg => rw [if_pos h1]; exact hs
  rw [if_neg (fun h => h h1)]
  by_cases h2 : ∃ k, k < t.rows.length ∧ ¬ RowOK (chg (lastS t) c) (chgRow (lastS t) c (nowR t (t.rows.getD k default)))
  · rw [if_pos h2]; exact hs
  rw [if_neg h2]
  by_cases h3 : t.changes.length = 8
  · rw [if_pos h3]; exact hs
  rw [if_neg h3]
  exact ⟨hs.first, ⟨by have := h.nch; simp; omega, fun x hx => by
    rcases List.mem_append.1 hx with hx | hx
    · exact hs.cs.all x hx
    · simp only [List.mem_singleton] at hx; subst hx; exact hc⟩, hs.nrow, hs.rows⟩
open Classical in
noncomputable def shapeB (t : Table) : List Col := if TabOK t then lastS t else []
theorem f23_is {t : Table} (hf : BIG ≤ fu) (hs : SmT t) : f23 fu t = some (shapeB t) := by
  unfold f23 shapeB
  rw [f19_is hf hs, Option.bind_some]
  by_cases h : TabOK t
  · rw [B_t h, if_pos h, f66_is hf (h.rt hs)]; rfl
  · rw [B_f h, if_neg h]; rfl
end Go.Proofs.YtlkhmcajnfombaaGreatDoor
