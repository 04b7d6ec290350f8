/- Rows counted. -/
import Derived.Test.YtbnklinfjmmlfaaGreatDoorQ9M17
set_option linter.unusedVariables false
set_option linter.unusedSimpArgs false
set_option linter.deprecated false
set_option linter.unusedSectionVars false
set_option linter.all false
namespace Go.Proofs.YtbnklinfjmmlfaaGreatDoor
open Go Go.HL
variable {fu : Nat}
theorem law9 (hf : BIG ≤ fu) (a : List Int) (ha : ∀ b, b ∈ a → 0 ≤ b ∧ b ≤ 255) : f9 fu a = some true := by
  unfold f9
  refine cond_long ?_
  obtain ⟨t, id, xs, e, hs, hx⟩ := d31 (fu := fu) hf ha
  rw [e, Option.bind_some]
  simp only
  rw [f32_is hf hs hx, Option.bind_some, f33_is hf hs hx, Option.bind_some]
  simp only [decide_true, Bool.not_true, cond_false]
  rw [f17_is hf hs, Option.bind_some]
  unfold f9_j1
  by_cases h : TabOK t
  case neg =>
    rw [B_f h]
    simp
  rw [B_t h]
  simp only [Bool.not_true, cond_false]
  rw [f21_is hf hs hx, Option.bind_some, f13_is hf hs, Option.bind_some]
  have h8 := h.nrow
  have e1 : ((setB t id xs).1.rows.length : Int) = (t.rows.length : Int) := by
    unfold setB
    rw [if_pos h]
    rcases setT_cases t id xs with ⟨row, -, e⟩ | ⟨e, -⟩
    · rw [e]; simp [setR]
    · rw [e]
  have e2 : (decide (((putB t xs).1.rows.length : Int) = IntKind.i64.wrap ((t.rows.length : Int) + 1)) == decide ((putB t xs).2 = 0)) = true ∧ (t.rows.length : Int) ≤ ((putB t xs).1.rows.length : Int) := by
    rw [wrapI (by omega) (by omega)]
    unfold putB
    rw [if_pos h]
    rcases putT_cases t xs with ⟨row, -, e⟩ | ⟨e, e'⟩
    · rw [e]; simp [putR]; omega
    · rw [e, decide_eq_false (show ¬ (t.rows.length : Int) = (t.rows.length : Int) + 1 by omega), decide_eq_false e']
      exact ⟨rfl, Int.le_refl _⟩
  have e3 : (decide (((offB t id).1.rows.length : Int) = IntKind.i64.wrap ((t.rows.length : Int) - 1)) == decide ((offB t id).2 = 0)) = true ∧ ((offB t id).1.rows.length : Int) ≤ (t.rows.length : Int) := by
    rw [wrapI (by omega) (by omega)]
    unfold offB
    rw [if_pos h]
    unfold offT
    by_cases h2 : rowN t id < t.rows.length
    · rw [if_pos h2]
      have := List.length_eraseIdx (l := t.rows) (i := rowN t id)
      rw [if_pos h2] at this
      simp only [this]
      rw [decide_eq_true (show ((t.rows.length - 1 : Nat) : Int) = (t.rows.length : Int) - 1 by omega)]
      exact ⟨rfl, by omega⟩
    · rw [if_neg h2, decide_eq_false (show ¬ (t.rows.length : Int) = (t.rows.length : Int) - 1 by omega)]
      exact ⟨rfl, Int.le_refl _⟩
  unfold f9_j2
  rw [decide_eq_true e1, e2.1, e3.1, decide_eq_true e2.2, decide_eq_true e3.2]; rfl
end Go.Proofs.YtbnklinfjmmlfaaGreatDoor
