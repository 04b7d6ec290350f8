/- What is told of a row is there then, and all else is as it was. -/
import Derived.Test.YtbnklinfjmmlfaaGreatDoorQ7M17
set_option linter.unusedVariables false
set_option linter.unusedSimpArgs false
set_option linter.deprecated false
set_option linter.unusedSectionVars false
set_option linter.all false
namespace Go.Proofs.YtbnklinfjmmlfaaGreatDoor
open Go Go.HL
variable {fu : Nat}
theorem wantV_cons (nm : List UInt8) (w : Val) (x : Set) (xs : List Set) : wantV nm w (x :: xs) = wantV nm (if x.name = nm then x.val else w) xs := rfl
theorem l7c {t : Table} {id : Int} {xs : List Set} {s : List Col} {i k : Nat} {q17 : List Val × Bool} {rec1 rec2 : Int → Option Bool} (hx : xs.length ≤ 1000) (hi : i < t.rows.length) (hk : k < s.length) (h17 : k < q17.1.length) :
    ∀ (m n j : Nat) (w : Val), j + m = xs.length → m < n →
      f7_l3 (t, id, xs) s (i : Int) q17 (k : Int) rec1 rec2 n (j : Int) w = cond (!decide (q17.1.getD k default = if (t.rows.getD i default).id = id then wantV (s.getD k default).name w (xs.drop j) else w)) (some false) (rec2 (IntKind.i64.wrap ((k : Int) + 1))) := by
  intro m
  induction m with
  | zero =>
    intro n j w hj hn
    obtain ⟨n, rfl⟩ : ∃ i, n = i + 1 := ⟨n - 1, by omega⟩
    have : j = xs.length := by omega
    subst this
    rw [f7_l3]
    simp only
    rw [nlt, cond_false, inR h17, cond_true, Int.toNat_natCast, List.drop_length]
    have e : (if (t.rows.getD i default).id = id then wantV (s.getD k default).name w [] else w) = w := by split <;> rfl
    rw [e]
  | succ m ih =>
    intro n j w hj hn
    obtain ⟨n, rfl⟩ : ∃ i, n = i + 1 := ⟨n - 1, by omega⟩
    have hjl : j < xs.length := by omega
    have hs : ∀ w', f7_j22 (j : Int) rec1 rec2 (f7_l3 (t, id, xs) s (i : Int) q17 (k : Int) rec1 rec2 n) w' = cond (!decide (q17.1.getD k default = if (t.rows.getD i default).id = id then wantV (s.getD k default).name w' (xs.drop (j + 1)) else w')) (some false) (rec2 (IntKind.i64.wrap ((k : Int) + 1))) := fun w' => by
      unfold f7_j22
      rw [succI hjl (by unfold BIG; omega)]
      exact ih n (j + 1) w' (by omega) (by omega)
    rw [f7_l3]
    simp only
    rw [ltR hjl, cond_true, ge0, Bool.and_self, cond_true, ltR hk]
    simp only [ge0, Bool.and_self, cond_true, Int.toNat_natCast]
    rw [dropN (d := default) hjl, wantV_cons]
    by_cases h1 : (xs.getD j default).name = (s.getD k default).name
    · rw [decide_eq_true h1, cond_true, ltR hi, Bool.and_self, cond_true, if_pos h1]
      unfold f7_j21
      simp only [Int.toNat_natCast]
      by_cases h2 : (t.rows.getD i default).id = id
      · rw [decide_eq_true h2, cond_true, inR hjl, cond_true, hs, if_pos h2, if_pos h2]
      · rw [decide_eq_false h2, cond_false, hs, if_neg h2, if_neg h2]
    · rw [decide_eq_false h1, cond_false, if_neg h1]
      unfold f7_j21
      rw [cond_false, hs]
theorem law7 (hf : BIG ≤ fu) (a : List Int) (ha : ∀ b, b ∈ a → 0 ≤ b ∧ b ≤ 255) : f7 fu a = some true := by
  unfold f7
  refine cond_long ?_
  obtain ⟨t, id, xs, e, hs, hx⟩ := d31 (fu := fu) hf ha
  rw [e, Option.bind_some]
  simp only
  have hcsm := setB_sm (id := id) hs hx
  rw [f32_is hf hs hx, Option.bind_some, f33_is hf hs hx, Option.bind_some]
  simp only [decide_true, Bool.not_true, cond_false]
  rw [f15_is hf hcsm, Option.bind_some, B_t rfl]
  unfold f7_j1
  simp only [Bool.not_true, cond_false]
  rw [f17_is hf hs, Option.bind_some]
  have hno : (setB t id xs).2 ≠ 0 → (TabOK t → (setB t id xs).1 = t) → (¬ TabOK t → setB t id xs = (nilT, 1)) → f7_j2 fu (t, id, xs) (setB t id xs) true = some true := fun h1 h2 h3 => by
    unfold f7_j2
    simp only [cond_true]
    rw [f15_is hf hcsm, Option.bind_some]
    by_cases h : TabOK t
    · rw [B_t (h2 h), cond_true, f17_is hf hs, B_t h]; rfl
    · have e1 := h3 h
      rw [e1]
      simp only
      rw [d27]
      by_cases e2 : nilT = t
      · rw [B_t e2, cond_true, f17_is hf hs, B_f h, f15_is hf nilT_sm, B_t rfl]; rfl
      · rw [B_f e2, cond_false, f15_is hf nilT_sm, B_t rfl]; rfl
  by_cases h : TabOK t
  case neg =>
    rw [B_f h]
    have e1 : setB t id xs = (nilT, 1) := if_neg h
    exact hno (by rw [e1]; simp) (fun h' => absurd h' h) (fun _ => e1)
  rw [B_t h]
  simp only [Bool.not_true, cond_false]
  have hB : setB t id xs = setT t id xs := if_pos h
  rcases setT_cases t id xs with ⟨row, hfine, e1⟩ | ⟨e1, e2⟩
  case inr =>
    rw [← hB] at e1 e2
    rw [decide_eq_false e2]
    exact hno e2 (fun _ => e1) (fun h' => absurd h h')
  have hrt := h.rt hs
  have hok := hrt.okLast
  have hhi := hok.hi
  have hN := h.nrow
  have hxok := setT_ok (id := id) (xs := xs) h
  have hxsm := setT_sm (id := id) h hs hx
  rw [hB]
  rw [e1] at hxok hxsm ⊢
  simp only [decide_true, Bool.not_true]
  unfold f7_j2
  simp only [cond_false]
  rw [f23_is hf hs, shapeB_ok h, Option.bind_some]
  have hlen : (setR t id row).rows.length = t.rows.length := by show (t.rows.set _ _).length = _; rw [List.length_set]
  have hrl := hfine.ok.len
  -- the rows as they are then
  have hget : ∀ i, i < t.rows.length → ((setR t id row).rows.getD i default).id = (t.rows.getD i default).id ∧ (nowR (setR t id row) ((setR t id row).rows.getD i default)).length = (lastS t).length ∧
      ∀ k, k < (lastS t).length → (nowR (setR t id row) ((setR t id row).rows.getD i default)).getD k default = if (t.rows.getD i default).id = id then wantV ((lastS t).getD k default).name ((nowR t (t.rows.getD i default)).getD k default) xs else (nowR t (t.rows.getD i default)).getD k default := fun i hi => by
    have e3 : (setR t id row).rows.getD i default = if i = rowN t id then ⟨id, (t.changes.length : Int), row⟩ else t.rows.getD i default := by
      show (t.rows.set (rowN t id) _).getD i default = _
      rw [getD_set hfine.there]
    by_cases hir : i = rowN t id
    · rw [e3, if_pos hir]
      have hid : (t.rows.getD i default).id = id := by rw [hir]; exact rowN_id hfine.there
      refine ⟨hid.symm, ?_, fun k hk => ?_⟩
      · have : nowR (setR t id row) ⟨id, (t.changes.length : Int), row⟩ = row := nowR_new t id row
        rw [this, hrl]
      · have : nowR (setR t id row) ⟨id, (t.changes.length : Int), row⟩ = row := nowR_new t id row
        rw [this, if_pos hid, hir]
        exact tell_get hok (nowR_len hrt ((h.rws hs).all _ hfine.there)) hfine.tell k hk
    · rw [e3, if_neg hir]
      have hid : (t.rows.getD i default).id ≠ id := fun he => by
        have h1 := rowN_uniq h.asc hi
        rw [he] at h1
        exact hir h1.symm
      have hnl0 : (nowR t (t.rows.getD i default)).length = (lastS t).length := nowR_len hrt ((h.rws hs).all _ hi)
      refine ⟨rfl, hnl0, fun k hk => ?_⟩
      rw [if_neg hid]; rfl
  have main := loopB (L := f7_l1 fu (t, id, xs) (setR t id row, 0) (lastS t)) (N := t.rows.length) (fun _ => True) True (by unfold BIG; omega) (fun n _ => ?_) (fun n hq => absurd trivial hq) (fun n i hi _ => ?_) (fun n i hi hp => absurd trivial hp) (fu := fu) (by unfold BIG at hf; omega)
  · rw [main, B_t ⟨fun _ _ => trivial, trivial⟩]
  · rw [f7_l1, nlt]
    simp only [cond_false]
    rw [f19_is hf hxsm, Option.bind_some, B_t hxok, cond_true]
    unfold f7_j23
    have hl1 : ((setR t id row).rows.length : Int) = (t.rows.length : Int) := by rw [hlen]
    have hn1 : (setR t id row).next = t.next := rfl
    rw [decide_eq_true hl1, cond_true, decide_eq_true hn1]
  · have hg := hget i hi
    have e3 := rowT_at h hi
    have e4 := rowT_at hxok (k := i) (by rw [hlen]; exact hi)
    rw [hg.1] at e4
    have hnl := nowR_len hrt ((h.rws hs).all _ hi)
    rw [f7_l1, ltR hi, cond_true, ge0, Bool.and_self, cond_true, Int.toNat_natCast, f16_is hf hs, Option.bind_some, cond_true, f16_is hf hxsm, Option.bind_some, e3, e4]
    simp only [Bool.not_true, cond_false]
    rw [decide_eq_true (show ((nowR t (t.rows.getD i default)).length : Int) = ((nowR (setR t id row) ((setR t id row).rows.getD i default)).length : Int) by rw [hg.2.1, hnl])]
    unfold f7_j14
    simp only [Bool.not_true, cond_false]
    have key : ∀ (m n' k : Nat), k + m = (lastS t).length → m < n' → f7_l2 fu (t, id, xs) (lastS t) (i : Int) (nowR t (t.rows.getD i default), true) (nowR (setR t id row) ((setR t id row).rows.getD i default), true) (f7_l1 fu (t, id, xs) (setR t id row, 0) (lastS t) n) n' (k : Int) = f7_l1 fu (t, id, xs) (setR t id row, 0) (lastS t) n (IntKind.i64.wrap ((i : Int) + 1)) := by
      intro m
      induction m with
      | zero =>
        intro n' k hk hn
        obtain ⟨n', rfl⟩ : ∃ i, n' = i + 1 := ⟨n' - 1, by omega⟩
        have : k = (lastS t).length := by omega
        subst this
        rw [f7_l2, nlt]; rfl
      | succ m ih =>
        intro n' k hk hn
        obtain ⟨n', rfl⟩ : ∃ i, n' = i + 1 := ⟨n' - 1, by omega⟩
        have hkl : k < (lastS t).length := by omega
        rw [f7_l2, ltR hkl, cond_true, ge0]
        simp only [Bool.true_and]
        rw [ltR (show k < (nowR t (t.rows.getD i default)).length by omega), cond_true, Int.toNat_natCast]
        have e5 := l7c (t := t) (id := id) (xs := xs) (s := lastS t) (i := i) (k := k) (q17 := (nowR (setR t id row) ((setR t id row).rows.getD i default), true)) (rec1 := f7_l1 fu (t, id, xs) (setR t id row, 0) (lastS t) n)
          (rec2 := f7_l2 fu (t, id, xs) (lastS t) (i : Int) (nowR t (t.rows.getD i default), true) (nowR (setR t id row) ((setR t id row).rows.getD i default), true) (f7_l1 fu (t, id, xs) (setR t id row, 0) (lastS t) n) n') hx.len hi hkl (by rw [hg.2.1]; exact hkl) xs.length fu 0 ((nowR t (t.rows.getD i default)).getD k default) (by omega) (by have := hx.len; unfold BIG at hf; omega)
        rw [show ((0 : Nat) : Int) = 0 from rfl, List.drop_zero] at e5
        rw [e5, decide_eq_true (hg.2.2 k hkl)]
        simp only [Bool.not_true, cond_false]
        rw [succI hkl (by unfold BIG; omega)]
        exact ih n' (k + 1) (by omega) (by omega)
    exact key (lastS t).length fu 0 (by omega) (by unfold BIG at hf; omega)
end Go.Proofs.YtbnklinfjmmlfaaGreatDoor
