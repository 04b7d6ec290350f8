/- A row told and told back to what it was. -/
import Derived.Test.YtlkhmcajnfombaaGreatDoorQ1005M20
import Derived.Test.YtlkhmcajnfombaaGreatDoorQ1005B0
set_option linter.unusedVariables false
set_option linter.unusedSimpArgs false
set_option linter.deprecated false
set_option linter.unusedSectionVars false
set_option linter.all false
namespace Go.Proofs.YtlkhmcajnfombaaGreatDoor
open Go Go.HL
variable {fu : Nat}
theorem law1005 (hf : BIG ≤ fu) (a : List Int) (ha : ∀ x, x ∈ a → 0 ≤ x ∧ x ≤ 255) : f1005 fu a = some true := by
  unfold f1005
  refine cond_long ?_
  obtain ⟨t, id, xs, e, hs, hx⟩ := d31 (fu := fu) hf ha
  rw [e, Option.bind_some]
  simp only
  rw [f32_is hf hs hx, Option.bind_some, f33_is hf hs hx, Option.bind_some]
  simp only [decide_true, Bool.not_true, cond_false]
  unfold f1005_j1
  by_cases h : TabOK t
  case neg =>
    have : (setB t id xs) = (nilT, 1) := if_neg h
    rw [this]; rfl
  have hg : Good t := ⟨h, hs⟩
  rcases setB_cases h id xs with ⟨row, hfine, e'⟩ | ⟨-, e'⟩
  case inr => rw [decide_eq_false e']; simp
  have hxok : TabOK (setR t id row) := by
    have := setT_ok (id := id) (xs := xs) h
    rwa [setT_fine hfine] at this
  have hxsm : SmT (setR t id row) := by
    have := setT_sm (id := id) h hs hx
    rwa [setT_fine hfine] at this
  rw [e']
  simp only [decide_true, Bool.not_true, cond_false]
  have hrt := h.rt hs
  have hl := hrt.okLast.hi
  have hnl := nowR_len hrt ((h.rws hs).all _ hfine.there)
  obtain ⟨hbk, hlike⟩ := set_back (was := nowR t (t.rows.getD (rowN t id) default)) hg hfine hxok rfl
  have hwok := hg.now hfine.there
  have hselfsm : SmX (selfX (lastS t) (nowR t (t.rows.getD (rowN t id) default))) := selfX_sm hnl (by omega) (hwok.sm (by omega))
  have b1 : setB (setR t id row) id (selfX (lastS t) (nowR t (t.rows.getD (rowN t id) default))) = (setR (setR t id row) id (nowR t (t.rows.getD (rowN t id) default)), 0) := by
    have : setB (setR t id row) id (selfX (lastS t) (nowR t (t.rows.getD (rowN t id) default))) = setT (setR t id row) id (selfX (lastS t) (nowR t (t.rows.getD (rowN t id) default))) := if_pos hxok
    rw [this, setT_fine hbk]
  have hyok : TabOK (setR (setR t id row) id (nowR t (t.rows.getD (rowN t id) default))) := by
    have := setT_ok (id := id) (xs := selfX (lastS t) (nowR t (t.rows.getD (rowN t id) default))) hxok
    rwa [setT_fine hbk] at this
  have hysm : SmT (setR (setR t id row) id (nowR t (t.rows.getD (rowN t id) default))) := by
    have := setT_sm (id := id) hxok hxsm hselfsm
    rwa [setT_fine hbk] at this
  rw [f16_is hf hs, Option.bind_some, f23_is hf hs, Option.bind_some, shapeB_ok h, rowT_yes h hfine.there]
  simp only
  rw [f38_is hf (by omega) hnl, Option.bind_some, f32_is hf hxsm hselfsm, Option.bind_some, b1]
  simp only
  have hat : rowN (setR (setR t id row) id (nowR t (t.rows.getD (rowN t id) default))) id = rowN t id := hlike.rowN id
  have hthere : rowN (setR (setR t id row) id (nowR t (t.rows.getD (rowN t id) default))) id < (setR (setR t id row) id (nowR t (t.rows.getD (rowN t id) default))).rows.length := by
    rw [hat, hlike.len]; exact hfine.there
  have hnow := hlike.now hthere
  rw [hat] at hnow
  rw [f16_is hf hysm, Option.bind_some, rowT_yes hyok hthere, hat, hnow]
  simp only [decide_true, cond_true]
  rw [f18_is hf (by omega), Option.bind_some, B_t rfl, cond_true, f30_is hf hysm hs (hlike.same hyok h)]; rfl
end Go.Proofs.YtlkhmcajnfombaaGreatDoor
