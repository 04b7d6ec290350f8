/- A row taken away: the law, of all tables that can be drawn. -/
import Derived.Test.YtbnklinfjmmlfaaGreatDoorQ3M17
set_option linter.unusedVariables false
set_option linter.unusedSimpArgs false
set_option linter.deprecated false
set_option linter.unusedSectionVars false
set_option linter.all false
namespace Go.Proofs.YtbnklinfjmmlfaaGreatDoor
open Go Go.HL
variable {fu : Nat}
theorem law3 (hf : BIG ≤ fu) (a : List Int) (ha : ∀ b, b ∈ a → 0 ≤ b ∧ b ≤ 255) : f3 fu a = some true := by
  unfold f3
  refine cond_long ?_
  obtain ⟨t, id, e, hs⟩ := d12 (fu := fu) hf ha
  rw [e, Option.bind_some, f13_is hf hs, Option.bind_some, f14_is hf hs, Option.bind_some]
  have hso := offB_sm (id := id) hs
  simp only [decide_true, Bool.not_true, cond_false]
  rw [f15_is hf hso, Option.bind_some, B_t rfl]
  unfold f3_j1
  simp only [Bool.not_true, cond_false]
  rw [f16_is hf hs, Option.bind_some, f17_is hf hs, Option.bind_some]
  by_cases h : TabOK t
  case neg =>
    rw [B_f h, rowT_no (fun h' => h h'.1)]
    unfold offB f3_j2
    rw [if_neg h]; rfl
  rw [B_t h]
  simp only [Bool.not_true, cond_false]
  have hoB : offB t id = offT t id := if_pos h
  by_cases h2 : rowN t id < t.rows.length
  case neg =>
    have hoT : offT t id = (t, 5) := if_neg h2
    rw [rowT_no (fun h' => h2 h'.2), hoB, hoT]
    simp only [Bool.not_false, cond_true, decide_true]
    rw [f15_is hf hs, Option.bind_some, B_t rfl]; rfl
  have hoT : offT t id = ({ t with rows := t.rows.eraseIdx (rowN t id) }, 0) := if_pos h2
  have hx := offT_ok (id := id) h
  rw [rowT_yes h h2, hoB, hoT]
  rw [hoB, hoT] at hso
  rw [hoT] at hx
  simp only [Bool.not_true, cond_false]
  have hsub : (t.rows.eraseIdx (rowN t id)).Sublist t.rows := List.eraseIdx_sublist ..
  have hgone : ¬ rowN { t with rows := t.rows.eraseIdx (rowN t id) } id < (t.rows.eraseIdx (rowN t id)).length := by
    refine rowN_no fun r hr he => ?_
    have e1 := filter_set h h2
    have e2 : r ∈ t.rows.eraseIdx (rowN t id) := hr
    rw [← e1] at e2
    have := (List.mem_filter.1 e2).2
    simp [he] at this
  rw [f16_is hf hso, Option.bind_some, rowT_no (fun h' => hgone h'.2)]
  have hl8 := h.nrow
  have hlen : (t.rows.eraseIdx (rowN t id)).length = t.rows.length - 1 := by rw [List.length_eraseIdx, if_pos h2]
  have hnext := (h.rg _ (getD_mem (d := default) h2)).hi
  rw [rowN_id h2] at hnext
  have main := loopB (L := f3_l1 fu (t, id) ({ t with rows := t.rows.eraseIdx (rowN t id) }, 0) ([], false)) (N := (t.rows.eraseIdx (rowN t id)).length) (fun _ => True) True (by unfold BIG; omega) (fun n _ => ?_) (fun n hq => absurd trivial hq) (fun n k hk _ => ?_) (fun n k hk hp => absurd trivial hp) (fu := fu) (by unfold BIG at hf; omega)
  · rw [main, B_t ⟨fun _ _ => trivial, trivial⟩]
  · rw [f3_l1, nlt, cond_false]
    simp only [decide_true, cond_true, Bool.not_false]
    rw [wrapI (x := (t.rows.length : Int) - 1) (by omega) (by omega), decide_eq_true (show ((t.rows.eraseIdx (rowN t id)).length : Int) = (t.rows.length : Int) - 1 by omega), cond_true, f19_is hf hso, Option.bind_some, B_t hx]
    unfold f3_j7
    simp only [cond_true, decide_true]
    rw [decide_eq_true hnext]
  · have hm := getD_mem (d := default) hk
    rw [f3_l1, ltR hk, cond_true, ge0, Bool.and_self, cond_true, Int.toNat_natCast]
    have e1 := rowT_at hx hk
    have e2 := rowT_mem h (hsub.subset hm)
    rw [f16_is hf hso, Option.bind_some, cond_true, f16_is hf hs, Option.bind_some]
    simp only
    rw [e1, e2]
    have hin := (h.rws hs).all
    have hn : SmR (nowR t ((t.rows.eraseIdx (rowN t id)).getD k default)) := ((hx.rg _ hm).now).sm (by have := ((h.rt hs).okLast).hi; show (lastS t).length ≤ 1000; omega)
    have hn' : (nowR { t with rows := t.rows.eraseIdx (rowN t id) } ((t.rows.eraseIdx (rowN t id)).getD k default)) = nowR t ((t.rows.eraseIdx (rowN t id)).getD k default) := rfl
    simp only [Bool.not_true, cond_false]
    rw [hn', f18_is hf hn.len, Option.bind_some, B_t rfl]
    rfl
end Go.Proofs.YtbnklinfjmmlfaaGreatDoor
