/- Tables written anew; a change of columns and of a row by itself; what a column finds; a row told as it is. -/
import Derived.Test.YtbnklinfjmmlfaaGreatDoorQ10M17
set_option linter.unusedVariables false
set_option linter.unusedSimpArgs false
set_option linter.deprecated false
set_option linter.unusedSectionVars false
set_option linter.all false
namespace Go.Proofs.YtbnklinfjmmlfaaGreatDoor
open Go Go.HL
variable {fu : Nat}
theorem f35_is {s : List Col} {c : Change} (hf : BIG ≤ fu) (hs : ShapeOK s) (hc : SmCh c) : f35 fu s c = some (doC s c) := by
  unfold f35
  rw [f67_is hf hs.sm, B_t hs, Option.bind_some]
  simp only [Bool.not_true, cond_false]
  rw [f78_is hf hs hc]; rfl
theorem f36_is {s : List Col} {c : Change} {row : List Val} (hf : BIG ≤ fu) (hs : ShapeOK s) (hc : SmCh c) (hcan : Can s c) (hl : row.length = s.length) (hr : SmR row) : f36 fu s c row = some (chgRow s c row) := by
  have := hs.hi
  unfold f36 f36_j1
  rw [f35_is hf hs hc, Option.bind_some]
  unfold doC
  rw [if_pos hcan, decide_eq_true (show (row.length : Int) = (s.length : Int) by omega)]
  simp only [Bool.not_true, cond_false]
  rw [f79_is hf (by omega) hcan.may hl hr]; rfl
end Go.Proofs.YtbnklinfjmmlfaaGreatDoor
