/- A row told and another taken away, in either order. -/
import Derived.Test.YtlkhmcajnfombaaGreatDoorQ1003M20
import Derived.Test.YtlkhmcajnfombaaGreatDoorQ1003B0
set_option linter.unusedVariables false
set_option linter.unusedSimpArgs false
set_option linter.deprecated false
set_option linter.unusedSectionVars false
set_option linter.all false
namespace Go.Proofs.YtlkhmcajnfombaaGreatDoor
open Go Go.HL
variable {fu : Nat}
theorem law1003 (hf : BIG ≤ fu) (a b : List Int) (ha : ∀ x, x ∈ a → 0 ≤ x ∧ x ≤ 255) (hb : ∀ x, x ∈ b → 0 ≤ x ∧ x ≤ 255) : f1003 fu a b = some true := by
  have main : ∀ i, i = false → f1003_j1 fu a b i = some true := by
    rintro _ rfl
    unfold f1003_j1
    rw [cond_false]
    obtain ⟨t, id, xs, e, hs, hx⟩ := d31 (fu := fu) hf ha
    obtain ⟨t2, other, e2, -⟩ := d12 (fu := fu) hf hb
    rw [e, Option.bind_some, e2, Option.bind_some]
    simp only
    rw [f32_is hf hs hx, Option.bind_some, f33_is hf hs hx, Option.bind_some]
    simp only [decide_true, Bool.not_true, cond_false]
    unfold f1003_j2
    by_cases h : TabOK t
    case neg =>
      have : (setB t id xs) = (nilT, 1) := if_neg h
      rw [this]; rfl
    have hg : Good t := ⟨h, hs⟩
    rcases setB_cases h id xs with ⟨row, hfine, e'⟩ | ⟨-, e'⟩
    case inr => rw [decide_eq_false e']; simp
    have hxok : TabOK (setR t id row) := by
      have := setT_ok (id := id) (xs := xs) h
      rwa [setT_fine hfine] at this
    have hxsm : SmT (setR t id row) := by
      have := setT_sm (id := id) h hs hx
      rwa [setT_fine hfine] at this
    rw [e']
    simp only [decide_true, Bool.not_true, cond_false]
    by_cases ho : other = id
    · rw [decide_eq_true ho]; simp
    · rw [decide_eq_false ho]
      obtain ⟨x, y, d, o1, o2, o3⟩ := set_apart hg hfine hxok ho
      have hysm : SmT y := by have := offB_sm (id := other) hs; rw [o2] at this; exact this
      have hxsm2 : SmT x := by have := offB_sm (id := other) hxsm; rw [o1] at this; exact this
      rw [cond_false, f13_is hf hxsm, Option.bind_some, f13_is hf hs, Option.bind_some, o1, o2]
      simp only
      rw [f32_is hf hysm hx, Option.bind_some, o3]
      simp only [decide_true, cond_true]
      rw [f15_is hf hxsm2, Option.bind_some, B_t rfl]; rfl
  unfold f1003
  cases decide (1048576 < (List.length a : Int)) with
  | true => rw [cond_true]; unfold f1003_j1; rw [cond_true]
  | false =>
    rw [cond_false]
    cases h : decide (1048576 < (List.length b : Int)) with
    | true => unfold f1003_j1; rw [cond_true]
    | false => exact main _ rfl
end Go.Proofs.YtlkhmcajnfombaaGreatDoor
