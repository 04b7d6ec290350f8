/- A table written anew, and its rows put into a new one. -/
import Derived.Test.YtlkhmcajnfombaaGreatDoorQ1006M21
set_option linter.unusedVariables false
set_option linter.unusedSimpArgs false
set_option linter.deprecated false
set_option linter.unusedSectionVars false
set_option linter.all false
namespace Go.Proofs.YtlkhmcajnfombaaGreatDoor
open Go Go.HL
variable {fu : Nat}
theorem l1006_len (s : List Col) (rows : List (List Val)) : (someR s rows).rows.length = rows.length := by
  show (rows.mapIdx _).length = _; simp
theorem l1006_ok {s : List Col} (hs : ShapeOK s) : TabOK (someR s []) ∧ SmT (someR s []) := by
  refine ⟨tabOK_of hs ⟨s, rfl⟩ (by show ([] : List Change).length ≤ 8; simp) (by show ([] : List Row).length ≤ 8; simp) (by show (1 : Int) ≤ 0 + 1; omega) (by show (0 : Int) + 1 ≤ 60; omega) (fun r hr => by cases hr) (List.Pairwise.nil) ?_, ⟨hs.sm, ⟨by show ([] : List Change).length ≤ 1000; simp, fun _ h => by cases h⟩, by show ([] : List Row).length ≤ 1000; simp, fun k hk => by have : k < 0 := hk; omega⟩⟩
  have e : nows (someR s []) = [] := rfl
  rw [e]
  exact List.Pairwise.nil
theorem law1006 (hf : BIG ≤ fu) (a : List Int) (ha : ∀ x, x ∈ a → 0 ≤ x ∧ x ≤ 255) : f1006 fu a = some true := by
  unfold f1006
  refine cond_long ?_
  obtain ⟨t, e, hs⟩ := d1024 (fu := fu) hf ha
  have hsm := nowB_sm hs
  rw [e, Option.bind_some, f34_is hf hs, Option.bind_some, f1026_is hf hs, Option.bind_some, f15_is hf hsm, B_t rfl, Option.bind_some]
  simp only [Bool.not_true, cond_false]
  rw [f17_is hf hs, Option.bind_some]
  unfold f1006_j1
  by_cases h : TabOK t
  case neg =>
    rw [B_f h]
    simp only [Bool.not_false, cond_true]
    rw [f1026_is hf hs, Option.bind_some, f15_is hf hsm, B_t rfl]; rfl
  rw [B_t h]
  simp only [Bool.not_true, cond_false]
  have hg : Good t := ⟨h, hs⟩
  have hok := (h.rt hs).okLast
  have hhi := hok.hi
  have h8 := h.nrow
  rw [f23_is hf hs, Option.bind_some, shapeB_ok h, f1027_is hf hok, Option.bind_some]
  have hnl := nows_len t
  have key : ∀ (m n k : Nat), k + m = t.rows.length → m < n → TabOK (someR (lastS t) ((nows t).take k)) → SmT (someR (lastS t) ((nows t).take k)) →
      f1006_l1 fu t (lastS t) n (k : Int) (someR (lastS t) ((nows t).take k)) = some true := by
    intro m
    induction m with
    | zero =>
      intro n k hk hn _ _
      obtain ⟨n, rfl⟩ : ∃ i, n = i + 1 := ⟨n - 1, by omega⟩
      have : k = t.rows.length := by omega
      subst this
      have e1 : (someR (lastS t) ((nows t).take t.rows.length)).rows.length = t.rows.length := by rw [l1006_len, List.length_take, hnl]; omega
      have e2 : (someR (lastS t) ((nows t).take t.rows.length)).next = IntKind.i64.wrap ((t.rows.length : Int) + 1) := by
        rw [wrapI (by omega) (by omega)]
        show (((nows t).take t.rows.length).length : Int) + 1 = _
        rw [List.length_take, hnl]; omega
      rw [f1006_l1, nlt, cond_false, e1, e2]
      simp only [decide_true, cond_true]; rfl
    | succ m ih =>
      intro n k hk hn hko hks
      obtain ⟨n, rfl⟩ : ∃ i, n = i + 1 := ⟨n - 1, by omega⟩
      have hkl : k < t.rows.length := by omega
      have hwok := hg.now hkl
      have hwl := hwok.len
      have hselfsm : SmX (selfX (lastS t) (nowR t (t.rows.getD k default))) := selfX_sm hwl (by omega) (hwok.sm (by omega))
      have htk : (nows t).take k ++ [nowR t (t.rows.getD k default)] = (nows t).take (k + 1) := by
        rw [takeN (d := default) (by rw [hnl]; exact hkl), nows_get hkl]
      have hput : PutFine (someR (lastS t) ((nows t).take k)) (selfX (lastS t) (nowR t (t.rows.getD k default))) (nowR t (t.rows.getD k default)) := by
        refine someR_put hok hwok (by rw [List.length_take, hnl]; omega) ?_
        rw [htk]
        exact h.once.sublist (List.take_sublist ..)
      have hR : putR (someR (lastS t) ((nows t).take k)) (nowR t (t.rows.getD k default)) = someR (lastS t) ((nows t).take (k + 1)) := by rw [someR_snoc, htk]
      have hB : putB (someR (lastS t) ((nows t).take k)) (selfX (lastS t) (nowR t (t.rows.getD k default))) = (someR (lastS t) ((nows t).take (k + 1)), 0) := by
        have : putB (someR (lastS t) ((nows t).take k)) (selfX (lastS t) (nowR t (t.rows.getD k default))) = putT (someR (lastS t) ((nows t).take k)) (selfX (lastS t) (nowR t (t.rows.getD k default))) := if_pos hko
        rw [this, putT_fine hput, hR]
      have hko' : TabOK (someR (lastS t) ((nows t).take (k + 1))) := by
        have := putT_ok (xs := selfX (lastS t) (nowR t (t.rows.getD k default))) hko
        rwa [putT_fine hput, hR] at this
      have hks' : SmT (someR (lastS t) ((nows t).take (k + 1))) := by
        have := putT_sm hko hks hselfsm
        rwa [putT_fine hput, hR] at this
      have hnx : (someR (lastS t) ((nows t).take k)).next = IntKind.i64.wrap ((k : Int) + 1) := by
        rw [wrapI (by omega) (by omega)]
        show (((nows t).take k).length : Int) + 1 = _
        rw [List.length_take, hnl]; omega
      have hrow : rowT (someR (lastS t) ((nows t).take (k + 1))) (IntKind.i64.wrap ((k : Int) + 1)) = (nowR t (t.rows.getD k default), true) := by
        have := putR_row (t := someR (lastS t) ((nows t).take k)) (row := nowR t (t.rows.getD k default)) (by rw [hR]; exact hko')
        rwa [hR, hnx] at this
      rw [f1006_l1, ltR hkl, cond_true, ge0, Bool.and_self, cond_true, Int.toNat_natCast, f16_is hf hs, Option.bind_some, rowT_at h hkl]
      simp only
      rw [f38_is hf (by omega) hwl, Option.bind_some, f21_is hf hks hselfsm, Option.bind_some, hB]
      simp only
      rw [f16_is hf hks', Option.bind_some, hrow]
      simp only [decide_true, Bool.not_true, cond_false]
      rw [f18_is hf (by omega), Option.bind_some, B_t rfl]
      unfold f1006_j4
      simp only [Bool.not_true, cond_false]
      rw [succI hkl (by unfold BIG; omega)]
      exact ih n (k + 1) (by omega) (by omega) hko' hks'
  have h0 := l1006_ok hok
  exact key t.rows.length fu 0 (by omega) (by unfold BIG at hf; omega) h0.1 h0.2
end Go.Proofs.YtlkhmcajnfombaaGreatDoor
