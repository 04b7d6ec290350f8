/- What is told once more turns nothing. -/
import Derived.Test.YtbnklinfjmmlfaaGreatDoorQ11M18
set_option linter.unusedVariables false
set_option linter.unusedSimpArgs false
set_option linter.deprecated false
set_option linter.unusedSectionVars false
set_option linter.all false
namespace Go.Proofs.YtbnklinfjmmlfaaGreatDoor
open Go Go.HL
variable {fu : Nat}
theorem setR_row {t : Table} {id : Int} {row : List Val} (h : rowN t id < t.rows.length) : (setR t id row).rows.getD (rowN t id) default = ⟨id, (t.changes.length : Int), row⟩ := by
  show (t.rows.set (rowN t id) _).getD (rowN t id) default = _
  rw [getD_set h, if_pos rfl]
theorem setR_len (t : Table) (id : Int) (row : List Val) : (setR t id row).rows.length = t.rows.length := by
  show (t.rows.set (rowN t id) _).length = _
  rw [List.length_set]
theorem setR_at {t : Table} {id : Int} {row : List Val} (h : rowN t id < t.rows.length) (hx : TabOK (setR t id row)) : rowN (setR t id row) id = rowN t id := by
  have := rowN_uniq hx.asc (k := rowN t id) (by rw [setR_len]; exact h)
  rwa [setR_row h] at this
theorem law11 (hf : BIG ≤ fu) (a : List Int) (ha : ∀ b, b ∈ a → 0 ≤ b ∧ b ≤ 255) : f11 fu a = some true := by
  unfold f11
  refine cond_long ?_
  obtain ⟨t, id, xs, e, hs, hx⟩ := d31 (fu := fu) hf ha
  rw [e, Option.bind_some]
  simp only
  rw [f32_is hf hs hx, Option.bind_some, f33_is hf hs hx, Option.bind_some]
  simp only [decide_true, Bool.not_true, cond_false]
  unfold f11_j1
  by_cases h : TabOK t
  case neg =>
    have : (setB t id xs) = (nilT, 1) := if_neg h
    rw [this]; rfl
  have hB : setB t id xs = setT t id xs := if_pos h
  rw [hB]
  rcases setT_cases t id xs with ⟨row, hfine, e⟩ | ⟨-, e'⟩
  case inr => rw [decide_eq_false e']; simp
  have hxok := setT_ok (id := id) (xs := xs) h
  have hxsm := setT_sm (id := id) h hs hx
  rw [e] at hxok hxsm ⊢
  have hat := setR_at hfine.there hxok
  have hrow := setR_row (row := row) hfine.there
  have hrt := h.rt hs
  have hlast : lastS (setR t id row) = lastS t := rfl
  have hnow : nowR (setR t id row) ((setR t id row).rows.getD (rowN t id) default) = row := by
    rw [hrow]; exact nowR_new t id row
  have hthere : rowN (setR t id row) id < (setR t id row).rows.length := by rw [hat, setR_len]; exact hfine.there
  have hnows : nows (setR t id row) = (nows t).set (rowN t id) row := nows_set t
  have hnl := nowR_len hrt ((h.rws hs).all _ hfine.there)
  -- the row told with what it has
  have again : ∀ ys : List Set, tell (lastS t) [] row ys = some row → SetFine (setR t id row) id ys row := fun ys hy => by
    refine ⟨hthere, ?_, hfine.ok, ?_⟩
    · rw [hat, hnow, hlast]; exact hy
    · rw [hat, hnows, hlast]
      have e3 : ((nows t).set (rowN t id) row).set (rowN t id) row = (nows t).set (rowN t id) row := by simp
      rw [e3]; exact hfine.once
  have same : setR (setR t id row) id row = setR t id row := by
    unfold setR
    show ({ t with rows := (t.rows.set (rowN t id) _).set (rowN (setR t id row) id) _ } : Table) = _
    rw [hat]
    simp
  have hy1 := again xs (tell_idem hnl hfine.tell)
  have hy2 := again (selfX (lastS t) row) (tell_self hrt.okLast hfine.ok)
  have hl := hrt.okLast.hi
  have hrl := hfine.ok.len
  have hx2 : SmX (selfX (lastS t) row) := selfX_sm hrl (by omega) (hfine.ok.sm (by omega))
  simp only [decide_true, Bool.not_true, cond_false]
  rw [f32_is hf hxsm hx, Option.bind_some, f16_is hf hxsm, Option.bind_some, f23_is hf hxsm, Option.bind_some, shapeB_ok hxok, hlast, rowT_yes hxok hthere, hat, hnow]
  simp only
  rw [f38_is hf (by omega) hrl, Option.bind_some, f32_is hf hxsm hx2, Option.bind_some]
  have b1 : setB (setR t id row) id xs = (setR t id row, 0) := by
    have : setB (setR t id row) id xs = setT (setR t id row) id xs := if_pos hxok
    rw [this, setT_fine hy1, same]
  have b2 : setB (setR t id row) id (selfX (lastS t) row) = (setR t id row, 0) := by
    have : setB (setR t id row) id (selfX (lastS t) row) = setT (setR t id row) id (selfX (lastS t) row) := if_pos hxok
    rw [this, setT_fine hy2, same]
  rw [b1, b2]
  simp only [decide_true, cond_true]
  rw [f15_is hf hxsm, Option.bind_some, B_t rfl]; rfl
end Go.Proofs.YtbnklinfjmmlfaaGreatDoor
