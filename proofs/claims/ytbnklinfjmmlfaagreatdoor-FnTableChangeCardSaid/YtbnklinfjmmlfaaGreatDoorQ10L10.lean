/- A change of columns is one of each row, as it is. -/
import Derived.Test.YtbnklinfjmmlfaaGreatDoorQ10M18
set_option linter.unusedVariables false
set_option linter.unusedSimpArgs false
set_option linter.deprecated false
set_option linter.unusedSectionVars false
set_option linter.all false
namespace Go.Proofs.YtbnklinfjmmlfaaGreatDoor
open Go Go.HL
variable {fu : Nat}
theorem law10 (hf : BIG ≤ fu) (a : List Int) (ha : ∀ b, b ∈ a → 0 ≤ b ∧ b ≤ 255) : f10 fu a = some true := by
  unfold f10
  refine cond_long ?_
  obtain ⟨t, c, e, hs, hc⟩ := d27' (fu := fu) hf ha
  rw [e, Option.bind_some]
  simp only
  have hcsm := chgB_sm hs hc
  rw [f28_is hf hs hc, Option.bind_some, f29_is hf hs hc, Option.bind_some]
  simp only [decide_true, Bool.not_true, cond_false]
  rw [f15_is hf hcsm, Option.bind_some, B_t rfl]
  unfold f10_j1
  simp only [Bool.not_true, cond_false]
  rw [f17_is hf hs, Option.bind_some]
  have hno : (chgB t c).2 ≠ 0 → (TabOK t → (chgB t c).1 = t) → (¬ TabOK t → chgB t c = (nilT, 1)) → f10_j2 fu (t, c) (chgB t c) true = some true := fun h1 h2 h3 => by
    unfold f10_j2
    simp only [cond_true]
    rw [f15_is hf hcsm, Option.bind_some]
    by_cases h : TabOK t
    · rw [B_t (h2 h), cond_true, f17_is hf hs, B_t h]; rfl
    · have e1 := h3 h
      rw [e1]
      simp only
      rw [d27]
      by_cases e2 : nilT = t
      · rw [B_t e2, cond_true, f17_is hf hs, B_f h, f15_is hf nilT_sm, B_t rfl]; rfl
      · rw [B_f e2, cond_false, f15_is hf nilT_sm, B_t rfl]; rfl
  by_cases h : TabOK t
  case neg =>
    rw [B_f h]
    have e1 : chgB t c = (nilT, 1) := if_neg h
    exact hno (by rw [e1]; simp) (fun h' => absurd h' h) (fun _ => e1)
  rw [B_t h]
  simp only [Bool.not_true, cond_false]
  have hB : chgB t c = chgT t c := if_pos h
  have hrt := h.rt hs
  have hok := hrt.okLast
  have hfail : chgT t c = (t, 1) ∨ chgT t c = (t, 2) ∨ chgT t c = (t, 4) → f10_j2 fu (t, c) (chgB t c) (!decide ((chgB t c).2 = 0)) = some true := fun hh => by
    have hn : (chgB t c).2 ≠ 0 ∧ (chgB t c).1 = t := by
      rw [hB]
      rcases hh with e | e | e <;> rw [e] <;> exact ⟨by simp, rfl⟩
    rw [decide_eq_false hn.1]
    exact hno hn.1 (fun _ => hn.2) (fun h' => absurd h h')
  rcases chgT_cases t c with ⟨hfine, h8⟩ | ⟨hfine, h8⟩ | hcan | ⟨hcan, hneed⟩
  · have e1 := chgT_fine hfine h8
    have hxok := chgT_ok (c := c) h hs
    have hxsm := chgT_sm h hs hc
    rw [hB]
    rw [e1] at hxok hxsm ⊢
    simp only [decide_true, Bool.not_true]
    unfold f10_j2
    simp only [cond_false]
    have hlast : lastS (chgR t c) = chg (lastS t) c := lastS_snoc hrt.last hfine.can
    have hN := h.nrow
    rw [f23_is hf hs, shapeB_ok h, Option.bind_some, f35_is hf hok hc, Option.bind_some]
    have hdo : doC (lastS t) c = (chg (lastS t) c, true) := if_pos hfine.can
    rw [hdo]
    have main := loopB (L := f10_l1 fu (t, c) (chgR t c, 0) (lastS t) (chg (lastS t) c, true)) (N := t.rows.length) (fun _ => True) True (by unfold BIG; omega) (fun n _ => ?_) (fun n hq => absurd trivial hq) (fun n k hk _ => ?_) (fun n k hk hp => absurd trivial hp) (fu := fu) (by unfold BIG at hf; omega)
    · rw [main, B_t ⟨fun _ _ => trivial, trivial⟩]
    · have hch := h.nch
      rw [f10_l1, nlt]
      simp only [cond_false, cond_true]
      have hhi := hfine.can.ok.hi
      rw [f23_is hf hxsm, Option.bind_some, shapeB_ok hxok, hlast, f37_is hf (by omega), Option.bind_some, B_t rfl, cond_true, f19_is hf hxsm, Option.bind_some, B_t hxok, cond_true]
      unfold f10_j7
      have hl1 : ((chgR t c).rows.length : Int) = (t.rows.length : Int) := rfl
      have hl2 : ((chgR t c).changes.length : Int) = (t.changes.length : Int) + 1 := by
        show ((t.changes ++ [c]).length : Int) = _
        simp
      rw [decide_eq_true hl1, cond_true, wrapI (by omega) (by omega), decide_eq_true hl2]
    · have hin := (h.rws hs).all k hk
      have e3 := rowT_at h hk
      have e4 := rowT_at hxok (k := k) hk
      have e5 : (chgR t c).rows.getD k default = t.rows.getD k default := rfl
      have e6 : nowR (chgR t c) (t.rows.getD k default) = chgRow (lastS t) c (nowR t (t.rows.getD k default)) := nowR_snoc hrt hin.ver
      rw [e5, e6] at e4
      have hrl := nowR_len hrt hin
      have hcl := chgRow_len hfine.can.may hrl
      have hhi := hfine.can.ok.hi
      rw [f10_l1, ltR hk, cond_true, ge0, Bool.and_self, cond_true, Int.toNat_natCast, f16_is hf hs, Option.bind_some, cond_true, f16_is hf hxsm, Option.bind_some, e3, e4]
      simp only [Bool.not_true, cond_false]
      rw [f36_is hf hok hc hfine.can hrl (nowR_sm hrt hin), Option.bind_some, f18_is hf (by omega), Option.bind_some, B_t rfl]; rfl
  · exact hfail (.inr (.inr (chgT_full hfine h8)))
  · exact hfail (.inl (chgT_form hcan))
  · exact hfail (.inr (.inl (chgT_need hcan hneed)))
end Go.Proofs.YtbnklinfjmmlfaaGreatDoor
