/- Row numbers are never given again. -/
import Derived.Test.YtbnklinfjmmlfaaGreatDoorQ6M17
set_option linter.unusedVariables false
set_option linter.unusedSimpArgs false
set_option linter.deprecated false
set_option linter.unusedSectionVars false
set_option linter.all false
namespace Go.Proofs.YtbnklinfjmmlfaaGreatDoor
open Go Go.HL
variable {fu : Nat}
theorem law6 (hf : BIG ≤ fu) (a : List Int) (ha : ∀ b, b ∈ a → 0 ≤ b ∧ b ≤ 255) : f6 fu a = some true := by
  unfold f6
  refine cond_long ?_
  obtain ⟨t, xs, e, hs, hx⟩ := d20 (fu := fu) hf ha
  rw [e, Option.bind_some]
  simp only
  rw [f21_is hf hs hx, Option.bind_some, f22_is hf hs hx, Option.bind_some]
  simp only [decide_true, Bool.not_true, cond_false]
  unfold f6_j1
  by_cases h : TabOK t
  case neg =>
    have : (putB t xs) = (nilT, 1) := if_neg h
    rw [this]; rfl
  have hB : putB t xs = putT t xs := if_pos h
  rw [hB]
  rcases putT_cases t xs with ⟨row, hfine, e⟩ | ⟨-, e'⟩
  case inr => rw [decide_eq_false e']; simp
  have hxok := putT_ok (xs := xs) h
  have hxsm := putT_sm h hs hx
  rw [e] at hxok hxsm ⊢
  have hlo := h.lo
  have hhi := h.hi
  have h8 := h.nrow
  -- the row's place
  have hplace : rowN (putR t row) t.next = t.rows.length := by
    have hk : t.rows.length < (putR t row).rows.length := by show _ < (t.rows ++ [_]).length; simp
    have := rowN_uniq hxok.asc hk
    have e2 : (putR t row).rows.getD t.rows.length default = ⟨t.next, (t.changes.length : Int), row⟩ := by
      show (t.rows ++ [_]).getD t.rows.length default = _
      simp [List.getD_eq_getElem?_getD]
    rwa [e2] at this
  have hlen : (putR t row).rows.length = t.rows.length + 1 := by show (t.rows ++ [_]).length = _; simp
  have hget : (putR t row).rows.getD t.rows.length default = ⟨t.next, (t.changes.length : Int), row⟩ := by
    show (t.rows ++ [_]).getD t.rows.length default = _
    simp [List.getD_eq_getElem?_getD]
  have hoff : offB (putR t row) t.next = ({ t with next := t.next + 1 }, 0) := by
    have h1 : offB (putR t row) t.next = offT (putR t row) t.next := if_pos hxok
    have h2 : offT (putR t row) t.next = ({ putR t row with rows := (putR t row).rows.eraseIdx (rowN (putR t row) t.next) }, 0) := if_pos (by rw [hplace, hlen]; omega)
    rw [h1, h2, hplace]
    have e3 : (putR t row).rows.eraseIdx t.rows.length = t.rows := by
      show (t.rows ++ [_]).eraseIdx t.rows.length = _
      rw [List.eraseIdx_append_of_length_le (Nat.le_refl _)]
      simp
    rw [e3]; rfl
  have hyok : TabOK { t with next := t.next + 1 } := by
    have := offT_ok (id := t.next) hxok
    have h1 : offB (putR t row) t.next = offT (putR t row) t.next := if_pos hxok
    rw [← h1, hoff] at this
    exact this
  have hysm : SmT { t with next := t.next + 1 } := ⟨hs.first, hs.cs, hs.nrow, hs.rows⟩
  simp only [decide_true, Bool.not_true, cond_false]
  rw [f13_is hf hxsm, Option.bind_some, hoff]
  simp only
  rw [f21_is hf hysm hx, Option.bind_some]
  have hB2 : putB { t with next := t.next + 1 } xs = putT { t with next := t.next + 1 } xs := if_pos hyok
  rw [hB2]
  unfold f6_j2 f6_j3 f6_j4
  by_cases hfull : t.next + 1 = 60
  · have e4 : putT { t with next := t.next + 1 } xs = ({ t with next := t.next + 1 }, 4) := by
      unfold putT
      show (match tell (lastS t) [] (defs (lastS t)) xs with | none => _ | some row => _) = _
      rw [hfine.tell]
      simp only
      rw [if_neg (fun h' => h' hfine.ok), if_neg (fun h' => h' hfine.once), if_pos (.inr hfull)]
    rw [e4]; rfl
  · have hfine2 : PutFine { t with next := t.next + 1 } xs row := ⟨hfine.tell, hfine.ok, hfine.once, hfine.room, hfull⟩
    have e4 := putT_fine hfine2
    have hzok := putT_ok (xs := xs) hyok
    have hzsm := putT_sm hyok hysm hx
    rw [e4] at hzok hzsm ⊢
    have hzget : (putR { t with next := t.next + 1 } row).rows.getD t.rows.length default = ⟨t.next + 1, (t.changes.length : Int), row⟩ := by
      show (t.rows ++ [_]).getD t.rows.length default = _
      simp [List.getD_eq_getElem?_getD]
    have hzlen : (putR { t with next := t.next + 1 } row).rows.length = t.rows.length + 1 := by show (t.rows ++ [_]).length = _; simp
    have hgone : rowT (putR { t with next := t.next + 1 } row) t.next = ([], false) := rowT_no fun h' => by
      refine rowN_no (fun r hr he => ?_) h'.2
      rcases List.mem_append.1 hr with hr | hr
      · have := (h.rg r hr).hi; omega
      · simp only [List.mem_singleton] at hr
        subst hr
        have : t.next + 1 = t.next := he
        omega
    have hthere : rowT (putR { t with next := t.next + 1 } row) (t.next + 1) = (row, true) := by
      have := rowT_at hzok (k := t.rows.length) (by rw [hzlen]; omega)
      rw [hzget] at this
      rw [this]
      exact congrArg (fun x => (x, true)) (nowR_new t _ row)
    have hwas : rowT (putR t row) t.next = (row, true) := by
      have := rowT_at hxok (k := t.rows.length) (by rw [hlen]; omega)
      rw [hget] at this
      rw [this]
      exact congrArg (fun x => (x, true)) (nowR_new t _ row)
    have hrl : row.length ≤ 1000 := by
      have := hfine.ok.len
      have := (h.rt hs).okLast.hi
      omega
    simp only [decide_true, Bool.not_true, cond_false]
    rw [f16_is hf hzsm, Option.bind_some, wrapI (x := t.next + 1) (by omega) (by omega), f16_is hf hzsm, Option.bind_some, f16_is hf hxsm, Option.bind_some, hgone, hthere, hwas]
    simp only [Bool.not_false, cond_true]
    rw [f18_is hf hrl, Option.bind_some, B_t rfl, cond_true, wrapI (x := t.next + 2) (by omega) (by omega)]
    have e5 : (putR { t with next := t.next + 1 } row).next = t.next + 2 := by show t.next + 1 + 1 = _; omega
    rw [decide_eq_true e5]
end Go.Proofs.YtbnklinfjmmlfaaGreatDoor
