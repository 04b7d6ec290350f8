/- A row put: what it holds, and away again. -/
import Derived.Test.YtlkhmcajnfombaaGreatDoorQ1004M20
import Derived.Test.YtlkhmcajnfombaaGreatDoorQ1004B0
set_option linter.unusedVariables false
set_option linter.unusedSimpArgs false
set_option linter.deprecated false
set_option linter.unusedSectionVars false
set_option linter.all false
namespace Go.Proofs.YtlkhmcajnfombaaGreatDoor
open Go Go.HL
variable {fu : Nat}
theorem l1004_2 {q1 : Table × List Set} {s : List Col} {q13 : List Val × Bool} {k : Nat} {rec1 : Int → Option Bool} (hk : k < s.length) (hr : k < q13.1.length) (hx : q1.2.length ≤ 1000) (hs : s.length ≤ 1000) :
    ∀ (m n j : Nat) (w : Val), j + m = q1.2.length → m < n → f1004_l2 q1 s q13 (k : Int) rec1 n (j : Int) w = cond (!decide ((q13.1.getD k default) = wantV (s.getD k default).name w (q1.2.drop j))) (some false) (rec1 ((k + 1 : Nat) : Int)) := by
  intro m
  induction m with
  | zero =>
    intro n j w hj hn
    obtain ⟨n, rfl⟩ : ∃ i, n = i + 1 := ⟨n - 1, by omega⟩
    have : j = q1.2.length := by omega
    subst this
    rw [f1004_l2, nlt, cond_false, inR hr, cond_true, Int.toNat_natCast, succI hk (by unfold BIG; omega), List.drop_length]; rfl
  | succ m ih =>
    intro n j w hj hn
    obtain ⟨n, rfl⟩ : ∃ i, n = i + 1 := ⟨n - 1, by omega⟩
    have hjl : j < q1.2.length := by omega
    rw [f1004_l2, ltR hjl, cond_true, ge0, Bool.and_self, cond_true, ge0, ltR hk, Bool.and_self, cond_true, Int.toNat_natCast, Int.toNat_natCast, cond_true, dropN (d := default) hjl]
    have e : wantV (s.getD k default).name w (q1.2.getD j default :: q1.2.drop (j + 1)) = wantV (s.getD k default).name (if (q1.2.getD j default).name = (s.getD k default).name then (q1.2.getD j default).val else w) (q1.2.drop (j + 1)) := rfl
    rw [e]
    unfold f1004_j9
    rw [succI hjl (by unfold BIG; omega)]
    by_cases h : (q1.2.getD j default).name = (s.getD k default).name
    · rw [decide_eq_true h, cond_true, if_pos h, ih n (j + 1) _ (by omega) (by omega)]
    · rw [decide_eq_false h, cond_false, if_neg h, ih n (j + 1) _ (by omega) (by omega)]
theorem law1004 (hf : BIG ≤ fu) (a : List Int) (ha : ∀ x, x ∈ a → 0 ≤ x ∧ x ≤ 255) : f1004 fu a = some true := by
  unfold f1004
  refine cond_long ?_
  obtain ⟨t, xs, e, hs, hx⟩ := d20 (fu := fu) hf ha
  have hpsm := putB_sm (xs := xs) hs hx
  rw [e, Option.bind_some]
  simp only
  rw [f21_is hf hs hx, Option.bind_some, f22_is hf hs hx, Option.bind_some, f15_is hf hpsm, B_t rfl, Option.bind_some, f19_is hf hs, Option.bind_some, f17_is hf hs, Option.bind_some]
  simp only [decide_true, Bool.not_true, cond_false, beq_self_eq_true]
  unfold f1004_j1
  rw [cond_false]
  simp only
  rw [f17_is hf hs, Option.bind_some]
  by_cases h : TabOK t
  case neg =>
    have e1 : putB t xs = (nilT, 1) := if_neg h
    rw [B_f h, e1]
    simp only [Bool.not_false, cond_true, decide_true]
    rw [f15_is hf nilT_sm, Option.bind_some, d27, B_t rfl]; rfl
  rw [B_t h]
  simp only [Bool.not_true, cond_false]
  have hg : Good t := ⟨h, hs⟩
  rcases putB_cases h xs with ⟨row, hfine, e'⟩ | ⟨e1, e2⟩
  case inr =>
    rw [decide_eq_false e2]
    simp only [Bool.not_false, cond_true]
    rw [e1, f15_is hf hs, Option.bind_some, B_t rfl]
  have hxok : TabOK (putR t row) := by
    have := putT_ok (xs := xs) h
    rwa [putT_fine hfine] at this
  have hxsm : SmT (putR t row) := by
    have := putT_sm h hs hx
    rwa [putT_fine hfine] at this
  rw [e']
  simp only [decide_true, Bool.not_true, cond_false]
  have hok := (h.rt hs).okLast
  have hhi := hok.hi
  have hlo := h.lo
  have hh := h.hi
  rw [f23_is hf hs, Option.bind_some, shapeB_ok h, f16_is hf hxsm, Option.bind_some, putR_row hxok]
  have hrl := hfine.ok.len
  have htg := tell_get hok (defs_len (lastS t)) hfine.tell
  have key : ∀ (m n k : Nat), k + m = (lastS t).length → m < n → f1004_l1 fu (t, xs) (putR t row, 0) (lastS t) (row, true) n (k : Int) = some true := by
    intro m
    induction m with
    | zero =>
      intro n k hk hn
      obtain ⟨n, rfl⟩ : ∃ i, n = i + 1 := ⟨n - 1, by omega⟩
      have : k = (lastS t).length := by omega
      subst this
      have hz : SmT { t with next := t.next } := hs
      rw [f1004_l1, nlt, cond_false]
      unfold f1004_j7 f1004_j10
      rw [cond_false]
      simp only
      rw [f13_is hf hxsm, Option.bind_some, putR_off hxok, cond_true, f19_is hf hxsm, Option.bind_some, B_t hxok, cond_true, wrapI (show -9223372036854775808 ≤ t.next + 1 by omega) (by omega), decide_eq_true (show (putR t row).next = t.next + 1 from rfl), cond_true]
      simp only [decide_true, cond_true]
      rw [f15_is hf hz, Option.bind_some, B_t rfl]
    | succ m ih =>
      intro n k hk hn
      obtain ⟨n, rfl⟩ : ∃ i, n = i + 1 := ⟨n - 1, by omega⟩
      have hkl : k < (lastS t).length := by omega
      rw [f1004_l1, ltR hkl, cond_true]
      unfold f1004_j7
      rw [cond_true, ge0, ltR hkl, Bool.and_self, cond_true, Int.toNat_natCast]
      have hxl := hx.len
      have h0 := l1004_2 (q1 := (t, xs)) (s := lastS t) (q13 := (row, true)) (k := k) (rec1 := f1004_l1 fu (t, xs) (putR t row, 0) (lastS t) (row, true) n) hkl (by show k < row.length; omega) hxl (by omega) xs.length fu 0 ((lastS t).getD k default).def_ (by show 0 + xs.length = xs.length; omega) (by unfold BIG at hf; omega)
      rw [show ((0 : Nat) : Int) = 0 from rfl] at h0
      rw [h0]
      have h1 := htg k hkl
      rw [defs_get hkl] at h1
      rw [List.drop_zero, decide_eq_true (show (row, true).1.getD k default = _ from h1)]
      exact ih n (k + 1) (by omega) (by omega)
  exact key (lastS t).length fu 0 (by omega) (by unfold BIG at hf; omega)
end Go.Proofs.YtlkhmcajnfombaaGreatDoor
