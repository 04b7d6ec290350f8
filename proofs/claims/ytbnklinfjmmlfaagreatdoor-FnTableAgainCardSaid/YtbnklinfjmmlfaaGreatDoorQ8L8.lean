/- A change of a table with all rows written anew is the change of the table. -/
import Derived.Test.YtbnklinfjmmlfaaGreatDoorQ8M18
set_option linter.unusedVariables false
set_option linter.unusedSimpArgs false
set_option linter.deprecated false
set_option linter.unusedSectionVars false
set_option linter.all false
namespace Go.Proofs.YtbnklinfjmmlfaaGreatDoor
open Go Go.HL
variable {fu : Nat}
theorem need_nowT {t : Table} {c : Change} : (∃ k, k < (nowT t).rows.length ∧ ¬ RowOK (chg (lastS (nowT t)) c) (chgRow (lastS (nowT t)) c (nowR (nowT t) ((nowT t).rows.getD k default)))) ↔ (∃ k, k < t.rows.length ∧ ¬ RowOK (chg (lastS t) c) (chgRow (lastS t) c (nowR t (t.rows.getD k default)))) := by
  have hl : (nowT t).rows.length = t.rows.length := by show (t.rows.map (anew t)).length = _; rw [List.length_map]
  have e : ∀ k, k < t.rows.length → nowR (nowT t) ((nowT t).rows.getD k default) = nowR t (t.rows.getD k default) := fun k hk => by
    rw [nowT_get hk, nowR_nowT]; rfl
  constructor
  · rintro ⟨k, hk, h⟩
    rw [hl] at hk
    rw [e k hk] at h
    exact ⟨k, hk, h⟩
  · rintro ⟨k, hk, h⟩
    refine ⟨k, by rw [hl]; exact hk, ?_⟩
    rw [e k hk]; exact h
theorem fine_nowT {t : Table} {c : Change} (h : ChgFine t c) : ChgFine (nowT t) c :=
  ⟨h.can, fun k hk => Classical.byContradiction fun hn => by
    obtain ⟨j, hj, hh⟩ := need_nowT.1 ⟨k, hk, hn⟩
    exact hh (h.rows j hj)⟩
theorem law8 (hf : BIG ≤ fu) (a : List Int) (ha : ∀ b, b ∈ a → 0 ≤ b ∧ b ≤ 255) : f8 fu a = some true := by
  unfold f8
  refine cond_long ?_
  obtain ⟨t, c, e, hs, hc⟩ := d27' (fu := fu) hf ha
  rw [e, Option.bind_some]
  simp only
  have hnsm := nowB_sm hs
  rw [f28_is hf hs hc, Option.bind_some, f29_is hf hs hc, Option.bind_some, f34_is hf hs, Option.bind_some, f28_is hf hnsm hc, Option.bind_some]
  simp only [decide_true, Bool.not_true, cond_false]
  rw [f17_is hf hs, Option.bind_some]
  unfold f8_j1 f8_j2
  by_cases h : TabOK t
  case neg => rw [B_f h]; simp
  rw [B_t h]
  simp only [Bool.not_true, cond_false]
  have hG : Good t := ⟨h, hs⟩
  have hN := nowT_ok hG
  have e1 : chgB t c = chgT t c := if_pos h
  have e2 : nowB t = nowT t := if_pos h
  have e3 : chgB (nowT t) c = chgT (nowT t) c := if_pos hN.ok
  rw [e1, e2, e3]
  have h08 : (nowT t).changes.length ≠ 8 := by show ([] : List Change).length ≠ 8; simp
  have hrt := h.rt hs
  have hsame := f30_is hf hs hN.sm (nowT_same hG)
  rcases chgT_cases t c with ⟨hfine, h8⟩ | ⟨hfine, h8⟩ | hcan | ⟨hcan, hneed⟩
  · have a1 := chgT_fine hfine h8
    have a2 := chgT_fine (fine_nowT hfine) h08
    have o1 := chgT_ok (c := c) h hs
    have m1 := chgT_sm h hs hc
    have o2 := chgT_ok (c := c) hN.ok hN.sm
    have m2 := chgT_sm hN.ok hN.sm hc
    rw [a1] at o1 m1 ⊢
    rw [a2] at o2 m2 ⊢
    have hl1 : lastS (chgR t c) = chg (lastS t) c := lastS_snoc hrt.last hfine.can
    have hl2 : lastS (chgR (nowT t) c) = chg (lastS t) c := lastS_snoc (hN.ok.rt hN.sm).last hfine.can
    have hsr : SameRows (chgR t c) (chgR (nowT t) c) := sameRows o1 o2 (by rw [hl1, hl2]) (by show _ = (t.rows.map (anew t)).length; rw [List.length_map]; rfl) rfl fun k hk => by
      have hk' : k < t.rows.length := hk
      have x1 : (chgR t c).rows.getD k default = t.rows.getD k default := rfl
      have x2 : (chgR (nowT t) c).rows.getD k default = anew t (t.rows.getD k default) := nowT_get hk'
      have hv := ((h.rws hs).all k hk').ver
      have y1 : nowR (chgR t c) (t.rows.getD k default) = chgRow (lastS t) c (nowR t (t.rows.getD k default)) := nowR_snoc hrt hv
      have y2 : nowR (chgR (nowT t) c) (anew t (t.rows.getD k default)) = chgRow (lastS (nowT t)) c (nowR (nowT t) (anew t (t.rows.getD k default))) := nowR_snoc (hN.ok.rt hN.sm) ⟨Int.le_refl _, Int.le_refl _⟩
      rw [x1, x2, y1, y2, nowR_nowT]
      exact ⟨rfl, rfl⟩
    simp only [decide_true, cond_true, show decide ((0 : Int) = 4) = false from rfl, cond_false]
    rw [f30_is hf m1 m2 hsr]; rfl
  · have a1 := chgT_full hfine h8
    have a2 := chgT_fine (fine_nowT hfine) h08
    rw [a1, a2]; rfl
  · have a1 := chgT_form hcan
    have a2 : chgT (nowT t) c = (nowT t, 1) := chgT_form hcan
    rw [a1, a2]
    simp only [decide_true, cond_true, show decide ((1 : Int) = 4) = false from rfl, cond_false]
    rw [hsame]; rfl
  · have a1 := chgT_need hcan hneed
    have a2 : chgT (nowT t) c = (nowT t, 2) := chgT_need hcan (need_nowT.2 hneed)
    rw [a1, a2]
    simp only [decide_true, cond_true, show decide ((2 : Int) = 4) = false from rfl, cond_false]
    rw [hsame]; rfl
end Go.Proofs.YtbnklinfjmmlfaaGreatDoor
