/- When a table is right: the document's check and the program's are one. -/
import Derived.Test.YtejobmamkeoheaaGreatDoorQ3003M6
set_option linter.all false
namespace Go.Proofs.YtejobmamkeoheaaGreatDoor
open Go Go.HL
variable {fu : Nat}
structure Rows (t : Table) : Prop where
  rt : Rt t
  len : t.rows.length ≤ 2000000
  all : ∀ k, k < t.rows.length → RowIn t (t.rows.getD k default)
noncomputable def nows (t : Table) : List (List Val) := t.rows.map (nowR t)
theorem nows_get {t : Table} {k : Nat} (hk : k < t.rows.length) : (nows t).getD k default = nowR t (t.rows.getD k default) := by
  unfold nows
  simp [List.getD_eq_getElem?_getD, hk]
theorem nows_len (t : Table) : (nows t).length = t.rows.length := by unfold nows; simp
theorem Rows.lens {t : Table} (h : Rows t) : ∀ r, r ∈ nows t → r.length = (lastS t).length := fun r hr => by
  obtain ⟨k, hk, rfl⟩ := List.getElem_of_mem hr
  have hk' : k < t.rows.length := by rw [nows_len] at hk; exact hk
  have := nows_get hk'
  rw [getD_lt hk] at this
  rw [this]
  exact nowR_len h.rt (h.all k hk')
theorem l59 {t : Table} (hf : BIG ≤ fu) (h : Rows t) {c : Nat} (hc : c < (lastS t).length) {rec1 : Int → Option Bool} : ∀ (m n k : Nat) (keys : List Val), k + m = t.rows.length → m < n →
    (∀ v, v ∈ keys ↔ ∃ j, j < k ∧ v = ((nows t).getD j default).getD c default) →
    f59_l2 fu t (lastS t) (c : Int) rec1 n (k : Int) keys = @ite _ (((lastS t).getD c default).once = true ∧ ∃ i, k ≤ i ∧ i < t.rows.length ∧ ∃ j, j < i ∧ (((nows t).getD i default).getD c default).kind ≠ 0 ∧ ((nows t).getD i default).getD c default = ((nows t).getD j default).getD c default) (Classical.propDecidable _) (some false) (rec1 (IntKind.i64.wrap ((c : Int) + 1))) := by
  have hN := h.len
  intro m
  induction m with
  | zero =>
    intro n k keys hk hn hkeys
    obtain ⟨n, rfl⟩ : ∃ i, n = i + 1 := ⟨n - 1, by omega⟩
    have : k = t.rows.length := by omega
    subst this
    rw [f59_l2, nlt, if_neg]; rfl
    rintro ⟨_, i, h1, h2, _⟩
    omega
  | succ m ih =>
    intro n k keys hk hn hkeys
    obtain ⟨n, rfl⟩ : ∃ i, n = i + 1 := ⟨n - 1, by omega⟩
    have hkl : k < t.rows.length := by omega
    have hl : c < ((nows t).getD k default).length := by rw [nows_get hkl, nowR_len h.rt (h.all k hkl)]; exact hc
    rw [f59_l2, ltR hkl, cond_true, ge0, Bool.and_self, cond_true, Int.toNat_natCast, f49_is hf h.rt (h.all k hkl), Option.bind_some, ← nows_get hkl, inR hl, cond_true]
    simp only [Int.toNat_natCast, f59_j4, succI hkl (by unfold BIG; omega : t.rows.length ≤ BIG)]
    obtain ⟨v, hv⟩ : ∃ v, ((nows t).getD k default).getD c default = v := ⟨_, rfl⟩
    simp only [hv]
    have hnext := ih n (k + 1) (cond (memK v keys) keys (keys ++ [v])) (by omega) (by omega) (fun x => by
      have e : x ∈ cond (memK v keys) keys (keys ++ [v]) ↔ (x ∈ keys ∨ x = v) := by
        unfold memK
        by_cases hm : v ∈ keys
        · rw [decide_eq_true hm]
          exact ⟨.inl, fun h => h.elim id fun e => e ▸ hm⟩
        · rw [decide_eq_false hm]; simp
      rw [e, hkeys]
      constructor
      · rintro (⟨j, h1, h2⟩ | h1)
        · exact ⟨j, by omega, h2⟩
        · exact ⟨k, by omega, by rw [hv]; exact h1⟩
      · rintro ⟨j, h1, h2⟩
        by_cases hj : j = k
        · subst hj; right; rw [h2, hv]
        · exact .inl ⟨j, by omega, h2⟩)
    have hmem : memK v keys = B (∃ j, j < k ∧ v = ((nows t).getD j default).getD c default) := by
      unfold memK; rw [dec_B]; exact B_congr (hkeys v)
    -- the rest of the loop, and this row
    have split : ∀ P : Nat → Prop, (∃ i, k ≤ i ∧ i < t.rows.length ∧ P i) ↔ (P k ∨ ∃ i, k + 1 ≤ i ∧ i < t.rows.length ∧ P i) := fun P => by
      constructor
      · rintro ⟨i, h1, h2, h3⟩
        by_cases hi : i = k
        · subst hi; exact .inl h3
        · exact .inr ⟨i, by omega, h2, h3⟩
      · rintro (h1 | ⟨i, h1, h2, h3⟩)
        · exact ⟨k, Nat.le_refl _, hkl, h1⟩
        · exact ⟨i, by omega, h2, h3⟩
    have hs := split fun i => ∃ j, j < i ∧ (((nows t).getD i default).getD c default).kind ≠ 0 ∧ ((nows t).getD i default).getD c default = ((nows t).getD j default).getD c default
    rw [hv] at hs
    cases ho : ((lastS t).getD c default).once with
    | false =>
      rw [ho] at hnext
      rw [if_neg fun h => by cases h.1]
      rw [if_neg fun h => by cases h.1] at hnext
      exact hnext
    | true =>
      rw [ho] at hnext
      rw [cond_true]
      by_cases hnow : ∃ j, j < k ∧ v.kind ≠ 0 ∧ v = ((nows t).getD j default).getD c default
      · rw [if_pos ⟨rfl, hs.2 (.inl hnow)⟩]
        obtain ⟨j, h1, h2, h3⟩ := hnow
        rw [decide_eq_false h2, hmem, B_t ⟨j, h1, h3⟩]; rfl
      · have e : (bif !decide (v.kind = 0) then bif memK v keys then some false else f59_l2 fu t (lastS t) (c : Int) rec1 n ((k + 1 : Nat) : Int) (cond (memK v keys) keys (keys ++ [v])) else bif false then some false else f59_l2 fu t (lastS t) (c : Int) rec1 n ((k + 1 : Nat) : Int) (cond (memK v keys) keys (keys ++ [v]))) = f59_l2 fu t (lastS t) (c : Int) rec1 n ((k + 1 : Nat) : Int) (cond (memK v keys) keys (keys ++ [v])) := by
          by_cases hv0 : v.kind = 0
          · rw [decide_eq_true hv0]; rfl
          · rw [decide_eq_false hv0]
            have : memK v keys = false := by rw [hmem]; exact B_f fun ⟨j, h1, h2⟩ => hnow ⟨j, h1, hv0, h2⟩
            rw [this]; rfl
        refine Eq.trans e ?_
        rw [hnext]
        by_cases hr : ∃ i, k + 1 ≤ i ∧ i < t.rows.length ∧ ∃ j, j < i ∧ (((nows t).getD i default).getD c default).kind ≠ 0 ∧ ((nows t).getD i default).getD c default = ((nows t).getD j default).getD c default
        · rw [if_pos ⟨rfl, hr⟩, if_pos ⟨rfl, hs.2 (.inr hr)⟩]
        · rw [if_neg fun h => hr h.2, if_neg fun h => (hs.1 h.2).elim hnow hr]
theorem f59_is {t : Table} (hf : BIG ≤ fu) (h : Rows t) : f59 fu t = some (B (NoTwice (lastS t) (nows t))) := by
  have hN := h.len
  have hS := h.rt.okLast.hi
  have hBF : 2000000 < fu := by unfold BIG at hf; omega
  have hcol : ∀ c, (((lastS t).getD c default).once = true ∧ ∃ i, 0 ≤ i ∧ i < t.rows.length ∧ ∃ j, j < i ∧ (((nows t).getD i default).getD c default).kind ≠ 0 ∧ ((nows t).getD i default).getD c default = ((nows t).getD j default).getD c default) ↔ (((lastS t).getD c default).once = true ∧ ColTwice (nows t) c) := fun c => by
    unfold ColTwice
    rw [nows_len]
    constructor
    · rintro ⟨h1, i, _, h2, h3⟩; exact ⟨h1, i, h2, h3⟩
    · rintro ⟨h1, i, h2, h3⟩; exact ⟨h1, i, Nat.zero_le _, h2, h3⟩
  have hrow : ∀ (n c : Nat), c < (lastS t).length → f59_l1 fu t (lastS t) (n + 1) (c : Int) = @ite _ (((lastS t).getD c default).once = true ∧ ColTwice (nows t) c) (Classical.propDecidable _) (some false) (f59_l1 fu t (lastS t) n (IntKind.i64.wrap ((c : Int) + 1))) := fun n c hc => by
    rw [f59_l1, ltR hc, cond_true, ge0, Bool.and_self, cond_true]
    have := l59 hf h hc (rec1 := f59_l1 fu t (lastS t) n) t.rows.length fu 0 [] (by omega) (by omega) (fun v => by simp)
    rw [show ((0 : Nat) : Int) = 0 from rfl] at this
    rw [this]
    by_cases h2 : ((lastS t).getD c default).once = true ∧ ColTwice (nows t) c
    · rw [if_pos h2, if_pos ((hcol c).2 h2)]
    · rw [if_neg h2, if_neg fun h3 => h2 ((hcol c).1 h3)]
  unfold f59
  rw [f66_is hf h.rt, Option.bind_some]
  have h1 := loopE (L := f59_l1 fu t (lastS t)) (N := (lastS t).length) (fun c => ((lastS t).getD c default).once = true ∧ ColTwice (nows t) c) (some false) (some true) (by unfold BIG; omega) (fun n => ?_) (fun n c hc hp => ?_) (fun n c hc hp => ?_) (fu := fu) (by omega)
  · rw [h1]
    by_cases h : ∃ c, c < (lastS t).length ∧ ((lastS t).getD c default).once = true ∧ ColTwice (nows t) c
    · rw [if_pos h, B_f fun h2 => NoTwice_iff.1 h2 h]
    · rw [if_neg h, B_t (NoTwice_iff.2 h)]
  · rw [f59_l1, nlt]; rfl
  · rw [hrow n c hc, if_pos hp]
  · rw [hrow n c hc, if_neg hp]
theorem takeN {α : Type} {l : List α} {d : α} {k : Nat} (hk : k < l.length) : l.take (k + 1) = l.take k ++ [l.getD k d] := by
  rw [getD_lt hk, List.take_succ_eq_append_getElem hk]
theorem f54_is {t : Table} (hf : BIG ≤ fu) (h : Rows t) : f54 fu t = some (nows t) := by
  have hN := h.len
  have key : ∀ (m n k : Nat), k + m = t.rows.length → m < n → f54_l1 fu t n (k : Int) ((nows t).take k) = some (nows t) := by
    intro m
    induction m with
    | zero =>
      intro n k hk hn
      obtain ⟨n, rfl⟩ : ∃ i, n = i + 1 := ⟨n - 1, by omega⟩
      have : k = t.rows.length := by omega
      subst this
      rw [f54_l1, nlt, ← nows_len, List.take_length]; rfl
    | succ m ih =>
      intro n k hk hn
      obtain ⟨n, rfl⟩ : ∃ i, n = i + 1 := ⟨n - 1, by omega⟩
      have hkl : k < t.rows.length := by omega
      have t1 : List.length ((nows t).take k) + List.length ([nowR t (t.rows.getD k default)] : List (List Val)) ≤ 1000000000 := by
        have := nows_len t
        simp; omega
      rw [f54_l1, ltR hkl, cond_true, ge0, Bool.and_self, cond_true, Int.toNat_natCast, f90_is hf h.rt (h.all k hkl), Option.bind_some, cap t1, cond_true, ← nows_get hkl, ← takeN (by rw [nows_len]; exact hkl), succI hkl (by unfold BIG; omega)]
      exact ih n (k + 1) (by omega) (by omega)
  unfold f54
  exact key t.rows.length fu 0 (by omega) (by unfold BIG at hf; omega)
structure RowGood (t : Table) (k : Nat) : Prop where
  ver : VerOK t (t.rows.getD k default).ver
  lo : 1 ≤ (t.rows.getD k default).id
  hi : (t.rows.getD k default).id < t.next
  up : 0 < k → (t.rows.getD (k - 1) default).id < (t.rows.getD k default).id
  was : RowOK (shapeAt t (t.rows.getD k default).ver.toNat) (t.rows.getD k default).vals
  now : RowOK (lastS t) (nowR t (t.rows.getD k default))
structure TabOK (t : Table) : Prop where
  first : ShapeOK t.first
  run : ∃ x, run t.first t.changes = some x
  nch : t.changes.length ≤ 8
  nrow : t.rows.length ≤ 8
  lo : 1 ≤ t.next
  hi : t.next ≤ 60
  rows : ∀ k, k < t.rows.length → RowGood t k
  once : NoTwice (lastS t) (nows t)
structure SmT (t : Table) : Prop where
  first : SmS t.first
  cs : SmCs t.changes
  nrow : t.rows.length ≤ 2000000
  rows : ∀ k, k < t.rows.length → SmR (t.rows.getD k default).vals
theorem RowGood.rowIn {t : Table} {k : Nat} (hr : RowGood t k) (hs : SmR (t.rows.getD k default).vals) : RowIn t (t.rows.getD k default) := ⟨hr.ver, hr.was.len, hs⟩
theorem s51 {t : Table} (hf : BIG ≤ fu) (h : Rt t) (hs : SmT t) {n k : Nat} (hk : k < t.rows.length) :
    f51_l1 fu t (lastS t) (n + 1) (k : Int) = cond (B (RowGood t k)) (f51_l1 fu t (lastS t) n (IntKind.i64.wrap ((k : Int) + 1))) (some false) := by
  have hN := hs.nrow
  have hsm := hs.rows k hk
  rw [f51_l1, ltR hk, cond_true, ge0, Bool.and_self, cond_true, Int.toNat_natCast]
  by_cases h1 : (t.rows.getD k default).ver < 0
  · rw [decide_eq_true h1, B_f fun g => by have := g.ver.lo; omega]; rfl
  rw [decide_eq_false h1, cond_false]
  by_cases h2 : (t.changes.length : Int) < (t.rows.getD k default).ver
  · rw [decide_eq_true h2, B_f fun g => by have := g.ver.hi; omega]; rfl
  rw [decide_eq_false h2, cond_false]
  by_cases h3 : (t.rows.getD k default).id < 1
  · rw [decide_eq_true h3, B_f fun g => by have := g.lo; omega]; rfl
  rw [decide_eq_false h3, cond_false]
  by_cases h4 : t.next ≤ (t.rows.getD k default).id
  · rw [decide_eq_true h4, B_f fun g => by have := g.hi; omega]; rfl
  rw [decide_eq_false h4, cond_false]
  have hv : VerOK t (t.rows.getD k default).ver := ⟨by omega, by omega⟩
  have rest : ∀ hup : (0 < k → (t.rows.getD (k - 1) default).id < (t.rows.getD k default).id), f51_j3 fu t (lastS t) (k : Int) (f51_l1 fu t (lastS t) n) false = cond (B (RowGood t k)) (f51_l1 fu t (lastS t) n (IntKind.i64.wrap ((k : Int) + 1))) (some false) := fun hup => by
    unfold f51_j3
    rw [cond_false, Int.toNat_natCast, f89_is hf h hv, Option.bind_some, f88_is hf (h.okAt _) hsm, Option.bind_some]
    by_cases g1 : RowOK (shapeAt t (t.rows.getD k default).ver.toNat) (t.rows.getD k default).vals
    case neg => rw [B_f g1, B_f fun g => g1 g.was]; rfl
    have hin : RowIn t (t.rows.getD k default) := ⟨hv, g1.len, hsm⟩
    rw [B_t g1, f90_is hf h hin]
    simp only [Bool.not_true, cond_false, Option.bind_some]
    rw [f88_is hf h.okLast (nowR_sm h hin), Option.bind_some]
    by_cases g2 : RowOK (lastS t) (nowR t (t.rows.getD k default))
    · rw [B_t g2, B_t ⟨hv, by omega, by omega, hup, g1, g2⟩]; rfl
    · rw [B_f g2, B_f (p := RowGood t k) fun g => g2 g.now]; rfl
  by_cases h5 : 0 < k
  · have e : IntKind.i64.wrap ((k : Int) - 1) = ((k - 1 : Nat) : Int) := by rw [wrapI (by omega) (by omega)]; omega
    rw [decide_eq_true (show (0 : Int) < (k : Int) by omega), cond_true, e, inR (show k - 1 < t.rows.length by omega), cond_true, Int.toNat_natCast]
    by_cases h6 : (t.rows.getD k default).id ≤ (t.rows.getD (k - 1) default).id
    · rw [decide_eq_true h6, B_f fun g => by have := g.up h5; omega]; rfl
    · rw [decide_eq_false h6]; exact rest fun _ => by omega
  · rw [decide_eq_false (show ¬ (0 : Int) < (k : Int) by omega), cond_false]; exact rest fun h => absurd h h5
theorem f51_is {t : Table} (hf : BIG ≤ fu) (h : Rt t) (hs : SmT t) : f51 fu t = some (B (∀ k, k < t.rows.length → RowGood t k)) := by
  have hN := hs.nrow
  unfold f51
  rw [f53_is hf h, Option.bind_some, B_congr (show (∀ k, k < t.rows.length → RowGood t k) ↔ ((∀ k, k < t.rows.length → RowGood t k) ∧ True) from ⟨fun h => ⟨h, trivial⟩, fun h => h.1⟩)]
  refine loopB (L := f51_l1 fu t (lastS t)) _ _ (by unfold BIG; omega) (fun n h => ?_) (fun n h => absurd trivial h) (fun n k hk hp => ?_) (fun n k hk hp => ?_) (by unfold BIG at hf; omega)
  · rw [f51_l1, nlt]; rfl
  · rw [s51 hf h hs hk, B_t hp]; rfl
  · rw [s51 hf h hs hk, B_f hp]; rfl
theorem TabOK_iff {t : Table} : TabOK t ↔ (ShapeOK t.first ∧ ∃ x, run t.first t.changes = some x) ∧ t.changes.length ≤ 8 ∧ t.rows.length ≤ 8 ∧ 1 ≤ t.next ∧ t.next ≤ 60 ∧ (∀ k, k < t.rows.length → RowGood t k) ∧ NoTwice (lastS t) (nows t) :=
  ⟨fun h => ⟨⟨h.1, h.2⟩, h.3, h.4, h.5, h.6, h.7, h.8⟩, fun h => ⟨h.1.1, h.1.2, h.2.1, h.2.2.1, h.2.2.2.1, h.2.2.2.2.1, h.2.2.2.2.2.1, h.2.2.2.2.2.2⟩⟩
theorem allB_ok {t : Table} (h : ShapeOK t.first ∧ ∃ x, run t.first t.changes = some x) : allB t.first t.changes = (lastS t, true) := by
  obtain ⟨h1, x, hx⟩ := h
  unfold allB runB lastS
  rw [if_pos h1, hx]; rfl
theorem allB_no {t : Table} (h : ¬ (ShapeOK t.first ∧ ∃ x, run t.first t.changes = some x)) : allB t.first t.changes = ([], false) := by
  unfold allB runB
  by_cases h1 : ShapeOK t.first
  · rw [if_pos h1]
    cases hr : run t.first t.changes with
    | none => rfl
    | some x => exact absurd ⟨h1, x, hr⟩ h
  · rw [if_neg h1]
theorem f17_is {t : Table} (hf : BIG ≤ fu) (hs : SmT t) : f17 fu t = some (B (TabOK t)) := by
  unfold f17
  rw [f50_is hf hs.first hs.cs, Option.bind_some, B_congr TabOK_iff]
  simp only [f17_j1]
  by_cases h0 : ShapeOK t.first ∧ ∃ x, run t.first t.changes = some x
  case neg => rw [allB_no h0, B_f fun h => h0 h.1]; rfl
  rw [allB_ok h0]
  have hrt : Rt t := ⟨h0.1, h0.2, hs.cs⟩
  simp only [Bool.not_true, cond_false]
  by_cases h1 : 8 < t.changes.length
  · rw [decide_eq_true (show (8 : Int) < (t.changes.length : Int) by omega), B_f fun h => by omega]; rfl
  rw [decide_eq_false (show ¬ (8 : Int) < (t.changes.length : Int) by omega), cond_false]
  by_cases h2 : 8 < t.rows.length
  · rw [decide_eq_true (show (8 : Int) < (t.rows.length : Int) by omega), B_f fun h => by omega]; rfl
  rw [decide_eq_false (show ¬ (8 : Int) < (t.rows.length : Int) by omega), cond_false]
  by_cases h3 : t.next < 1
  · rw [decide_eq_true h3, B_f fun h => by omega]; rfl
  rw [decide_eq_false h3, cond_false]
  by_cases h4 : 60 < t.next
  · rw [decide_eq_true h4, B_f fun h => by omega]; rfl
  rw [decide_eq_false h4, cond_false, f51_is hf hrt hs, Option.bind_some]
  by_cases h5 : ∀ k, k < t.rows.length → RowGood t k
  case neg => rw [B_f h5, B_f fun h => h5 h.2.2.2.2.2.1]; rfl
  have hr : Rows t := ⟨hrt, hs.nrow, fun k hk => (h5 k hk).rowIn (hs.rows k hk)⟩
  have hl := hrt.okLast.hi
  rw [B_t h5, f53_is hf hrt, f54_is hf hr]
  simp only [Bool.not_true, cond_false, Option.bind_some]
  rw [f52_is hf (by omega) (by rw [nows_len]; omega) hr.lens, Option.bind_some, B_not, Bool.not_not]
  congr 1
  exact B_congr ⟨fun h => ⟨h0, by omega, by omega, by omega, by omega, h5, h⟩, fun h => h.2.2.2.2.2.2⟩
theorem s19 {t : Table} (hf : BIG ≤ fu) (h : Rt t) (hs : SmT t) (h1 : 1 ≤ t.next) (h2 : t.next ≤ 60) {n k : Nat} {i4 : Int} (hk : k < t.rows.length) (hi0 : 0 ≤ i4) (hi1 : i4 ≤ 60)
    (hi : i4 + 1 ≤ (t.rows.getD k default).id ↔ (1 ≤ (t.rows.getD k default).id ∧ (0 < k → (t.rows.getD (k - 1) default).id < (t.rows.getD k default).id))) :
    f19_l1 fu t (lastS t, true) (n + 1) i4 (k : Int) = cond (B (RowGood t k)) (f19_l1 fu t (lastS t, true) n (t.rows.getD k default).id (IntKind.i64.wrap ((k : Int) + 1))) (some false) := by
  have hsm := hs.rows k hk
  rw [f19_l1, ltR hk, cond_true, ge0, Bool.and_self, cond_true, Int.toNat_natCast, f56_is, Option.bind_some, f56_is, wrapI (x := i4 + 1) (by omega) (by omega), wrapI (x := t.next - 1) (by omega) (by omega)]
  by_cases g1 : i4 + 1 ≤ (t.rows.getD k default).id ∧ (t.rows.getD k default).id ≤ t.next - 1
  case neg =>
    rw [B_f g1, B_f (p := RowGood t k) fun g => g1 ⟨hi.2 ⟨g.lo, g.up⟩, by have := g.hi; omega⟩]; rfl
  rw [B_t g1]
  simp only [Bool.not_true, cond_false, Option.bind_some]
  by_cases g2 : 0 ≤ (t.rows.getD k default).ver ∧ (t.rows.getD k default).ver ≤ (t.changes.length : Int)
  case neg => rw [B_f g2, B_f (p := RowGood t k) fun g => g2 ⟨g.ver.lo, g.ver.hi⟩]; rfl
  rw [B_t g2]
  have hv : VerOK t (t.rows.getD k default).ver := ⟨g2.1, g2.2⟩
  simp only [f19_j4, Bool.not_true, cond_false, Int.toNat_natCast]
  rw [hv.c1, cond_true, Int.toNat_zero, List.drop_zero, f57_is hf h.first (h.csTake _), Option.bind_some]
  have e : (runB t.first (List.take (t.rows.getD k default).ver.toNat t.changes)).1 = shapeAt t (t.rows.getD k default).ver.toNat := by
    unfold runB; rw [(h.at _).1]
  rw [e, f58_is hf hsm, Option.bind_some]
  by_cases g3 : RowOK (shapeAt t (t.rows.getD k default).ver.toNat) (t.rows.getD k default).vals
  case neg => rw [B_f g3, B_f (p := RowGood t k) fun g => g3 g.was]; rfl
  have hin : RowIn t (t.rows.getD k default) := ⟨hv, g3.len, hsm⟩
  rw [B_t g3, f49_is hf h hin]
  simp only [Bool.not_true, cond_false, Option.bind_some, f19_j5, Int.toNat_natCast]
  rw [f58_is hf (nowR_sm h hin), Option.bind_some]
  by_cases g4 : RowOK (lastS t) (nowR t (t.rows.getD k default))
  · rw [B_t g4, B_t ⟨hv, (hi.1 g1.1).1, by omega, (hi.1 g1.1).2, g3, g4⟩]; rfl
  · rw [B_f g4, B_f (p := RowGood t k) fun g => g4 g.now]; rfl
theorem f19_is {t : Table} (hf : BIG ≤ fu) (hs : SmT t) : f19 fu t = some (B (TabOK t)) := by
  unfold f19
  rw [f55_is hf hs.first hs.cs, Option.bind_some, B_congr TabOK_iff]
  simp only [f19_j1]
  by_cases h0 : ShapeOK t.first ∧ ∃ x, run t.first t.changes = some x
  case neg => rw [allB_no h0, B_f fun h => h0 h.1]; rfl
  rw [allB_ok h0]
  have hrt : Rt t := ⟨h0.1, h0.2, hs.cs⟩
  simp only [Bool.not_true, cond_false]
  by_cases h1 : 8 < t.changes.length
  · rw [decide_eq_true (show (8 : Int) < (t.changes.length : Int) by omega), B_f fun h => by omega]; rfl
  rw [decide_eq_false (show ¬ (8 : Int) < (t.changes.length : Int) by omega), cond_false]
  by_cases h2 : 8 < t.rows.length
  · rw [decide_eq_true (show (8 : Int) < (t.rows.length : Int) by omega), B_f fun h => by omega]; rfl
  rw [decide_eq_false (show ¬ (8 : Int) < (t.rows.length : Int) by omega), cond_false, f56_is, Option.bind_some]
  by_cases h3 : 1 ≤ t.next ∧ t.next ≤ 60
  case neg => rw [B_f h3, B_f fun h => h3 ⟨h.2.2.2.1, h.2.2.2.2.1⟩]; rfl
  rw [B_t h3]
  simp only [Bool.not_true, cond_false]
  have key : ∀ (m n k : Nat) (i4 : Int), k + m = t.rows.length → m < n → (∀ j, j < k → RowGood t j) → (k = 0 → i4 = 0) → (0 < k → i4 = (t.rows.getD (k - 1) default).id) →
      f19_l1 fu t (lastS t, true) n i4 (k : Int) = some (B ((∀ j, j < t.rows.length → RowGood t j) ∧ NoTwice (lastS t) (nows t))) := by
    intro m
    induction m with
    | zero =>
      intro n k i4 hk hn hg _ _
      obtain ⟨n, rfl⟩ : ∃ i, n = i + 1 := ⟨n - 1, by omega⟩
      have : k = t.rows.length := by omega
      subst this
      have hr : Rows t := ⟨hrt, hs.nrow, fun k hk => (hg k hk).rowIn (hs.rows k hk)⟩
      rw [f19_l1, nlt, cond_false, f59_is hf hr, Option.bind_some]
      congr 1
      exact B_congr ⟨fun h => ⟨hg, h⟩, fun h => h.2⟩
    | succ m ih =>
      intro n k i4 hk hn hg h0 hpos
      obtain ⟨n, rfl⟩ : ∃ i, n = i + 1 := ⟨n - 1, by omega⟩
      have hkl : k < t.rows.length := by omega
      have hb : 0 ≤ i4 ∧ i4 ≤ 60 := by
        rcases Nat.eq_zero_or_pos k with h | h
        · have := h0 h; omega
        · have g := hg (k - 1) (by omega)
          have := g.lo; have := g.hi; have := hpos h; omega
      have hi : i4 + 1 ≤ (t.rows.getD k default).id ↔ (1 ≤ (t.rows.getD k default).id ∧ (0 < k → (t.rows.getD (k - 1) default).id < (t.rows.getD k default).id)) := by
        rcases Nat.eq_zero_or_pos k with h | h
        · have := h0 h
          exact ⟨fun _ => ⟨by omega, fun _ => by omega⟩, fun _ => by omega⟩
        · have := hpos h
          have g := (hg (k - 1) (by omega)).lo
          exact ⟨fun _ => ⟨by omega, fun _ => by omega⟩, fun h' => by have := h'.2 h; omega⟩
      rw [s19 hf hrt hs h3.1 h3.2 hkl hb.1 hb.2 hi]
      by_cases hgk : RowGood t k
      · rw [B_t hgk, cond_true, succI hkl (by unfold BIG; omega)]
        refine ih n (k + 1) _ (by omega) (by omega) (fun j hj => ?_) (fun h => by omega) (fun _ => by rw [Nat.add_sub_cancel])
        by_cases hj' : j = k
        · subst hj'; exact hgk
        · exact hg j (by omega)
      · rw [B_f hgk, B_f fun h => hgk (h.1 k hkl)]; rfl
  have := key t.rows.length fu 0 0 (by omega) (by unfold BIG at hf; omega) (fun j hj => by omega) (fun _ => rfl) (fun h => by omega)
  rw [show ((0 : Nat) : Int) = 0 from rfl] at this
  rw [this]
  congr 1
  exact B_congr ⟨fun h => ⟨h0, by omega, by omega, by omega, by omega, h.1, h.2⟩, fun h => ⟨h.2.2.2.2.2.1, h.2.2.2.2.2.2⟩⟩
end Go.Proofs.YtejobmamkeoheaaGreatDoor
/- What is done to a table that is right: rows away, rows put, rows set, columns changed. -/
namespace Go.Proofs.YtejobmamkeoheaaGreatDoor
open Go Go.HL
def rowN (t : Table) (id : Int) : Nat := t.rows.findIdx fun r => decide (r.id = id)
def rowI (t : Table) (id : Int) : Int := if rowN t id < t.rows.length then (rowN t id : Int) else -1
def offT (t : Table) (id : Int) : Table × Int := if rowN t id < t.rows.length then ({ t with rows := t.rows.eraseIdx (rowN t id) }, 0) else (t, 5)
end Go.Proofs.YtejobmamkeoheaaGreatDoor
/- Tables: copies, sameness, a row's place and values, a row away. -/
namespace Go.Proofs.YtejobmamkeoheaaGreatDoor
open Go Go.HL
variable {fu : Nat}
theorem SmT.row {t : Table} (h : SmT t) {r : Row} (hr : r ∈ t.rows) : SmR r.vals := by
  obtain ⟨k, hk, rfl⟩ := List.getElem_of_mem hr
  have := h.rows k hk
  rwa [getD_lt hk] at this
theorem f77_is {s : List Row} (hl : s.length ≤ 2000000) : f77 s = some s := by
  unfold f77 f110 f111
  rw [cap (by simp; omega)]; rfl
theorem f109_is {s : List Change} (hl : s.length ≤ 2000001) : f109 s = some s := by
  unfold f109 f129 f130
  rw [cap (by simp; omega)]; rfl
theorem set_self {α : Type} {l : List α} {d : α} {k : Nat} (hk : k < l.length) : l.set k (l.getD k d) = l := by
  rw [getD_lt hk]; exact List.set_getElem_self ..
theorem f80_is {t : Table} (hf : BIG ≤ fu) (h : SmT t) : f80 fu t = some t := by
  have hN := h.nrow
  have key : ∀ (m n k : Nat), k + m = t.rows.length → m < n → f80_l1 t t n (k : Int) t.rows = some t := by
    intro m
    induction m with
    | zero =>
      intro n k hk hn
      obtain ⟨n, rfl⟩ : ∃ i, n = i + 1 := ⟨n - 1, by omega⟩
      have : k = t.rows.length := by omega
      subst this
      rw [f80_l1, nlt]; rfl
    | succ m ih =>
      intro n k hk hn
      obtain ⟨n, rfl⟩ : ∃ i, n = i + 1 := ⟨n - 1, by omega⟩
      have hkl : k < t.rows.length := by omega
      rw [f80_l1, ltR hkl, cond_true, ge0, Bool.and_self, cond_true, Int.toNat_natCast, f115_is (by have := (h.rows k hkl).len; omega), Option.bind_some, succI hkl (by unfold BIG; omega)]
      have e : t.rows.set k { (t.rows.getD k default) with vals := (t.rows.getD k default).vals } = t.rows := set_self hkl
      rw [e]
      exact ih n (k + 1) (by omega) (by omega)
  unfold f80 f80_j1
  rw [f91_is h.first.len, Option.bind_some, f109_is (by have := h.cs.len; omega), Option.bind_some, f77_is h.nrow, Option.bind_some]
  exact key t.rows.length fu 0 (by omega) (by unfold BIG at hf; omega)
theorem f42_is {t : Table} (hf : BIG ≤ fu) (h : SmT t) : f42 fu t = some t := by
  have hN := h.nrow
  have key : ∀ (m n k : Nat), k + m = t.rows.length → m < n → f42_l1 t n (k : Int) { t with rows := t.rows.take k } = some t := by
    intro m
    induction m with
    | zero =>
      intro n k hk hn
      obtain ⟨n, rfl⟩ : ∃ i, n = i + 1 := ⟨n - 1, by omega⟩
      have : k = t.rows.length := by omega
      subst this
      rw [f42_l1, nlt, List.take_length]; rfl
    | succ m ih =>
      intro n k hk hn
      obtain ⟨n, rfl⟩ : ∃ i, n = i + 1 := ⟨n - 1, by omega⟩
      have hkl : k < t.rows.length := by omega
      have hv := (h.rows k hkl).len
      rw [f42_l1, ltR hkl, cond_true, ge0, Bool.and_self, cond_true, Int.toNat_natCast, cap (by rw [List.length_nil]; omega), cond_true, cap (by rw [List.length_take, List.length_singleton]; omega), cond_true, succI hkl (by unfold BIG; omega)]
      have e : (⟨t.first, t.changes, t.rows.take k ++ [(⟨(t.rows.getD k default).id, (t.rows.getD k default).ver, ([] : List Val) ++ (t.rows.getD k default).vals⟩ : Row)], t.next⟩ : Table) = { t with rows := t.rows.take (k + 1) } := by
        rw [takeN (d := default) hkl, List.nil_append]
      rw [e]
      exact ih n (k + 1) (by omega) (by omega)
  have h1 := h.first.len
  have h2 := h.cs.len
  unfold f42 f42_j1
  rw [cap (by simp; omega), cond_true, cap (by simp; omega), cond_true]
  exact key t.rows.length fu 0 (by omega) (by unfold BIG at hf; omega)
theorem f82_is {t : Table} {id : Int} (hf : BIG ≤ fu) (h : t.rows.length ≤ 2000000) : f82 fu t id = some (rowI t id) := by
  unfold f82 rowI rowN
  refine loopI (L := f82_l1 t id) t.rows (fun r => decide (r.id = id)) (by unfold BIG; omega) (fun n => ?_) (fun n k hk hp => ?_) (fun n k hk hp => ?_) (by unfold BIG at hf; omega)
  · rw [f82_l1, nlt]; rfl
  · rw [f82_l1, ltR hk, cond_true, ge0, Bool.and_self, cond_true, Int.toNat_natCast, getD_lt hk, hp]; rfl
  · rw [f82_l1, ltR hk, cond_true, ge0, Bool.and_self, cond_true, Int.toNat_natCast, getD_lt hk, hp]; rfl
theorem f48_is {t : Table} {id : Int} (hf : BIG ≤ fu) (h : t.rows.length ≤ 2000000) : f48 fu t id = some (rowI t id) := by
  unfold f48 f83
  have : f83_l1 t.rows (fun x0 => f84 x0 id) fu 0 = some (rowI t id) := by
    unfold rowI rowN
    refine loopI (L := f83_l1 t.rows fun x0 => f84 x0 id) t.rows (fun r => decide (r.id = id)) (by unfold BIG; omega) (fun n => ?_) (fun n k hk hp => ?_) (fun n k hk hp => ?_) (by unfold BIG at hf; omega)
    · rw [f83_l1, nlt]; rfl
    · rw [f83_l1, ltR hk, cond_true, ge0, Bool.and_self, cond_true, Int.toNat_natCast, getD_lt hk]; unfold f84; rw [hp]; rfl
    · rw [f83_l1, ltR hk, cond_true, ge0, Bool.and_self, cond_true, Int.toNat_natCast, getD_lt hk]; unfold f84; rw [hp]; rfl
  rw [this]; rfl
theorem rowI_lt {t : Table} {id : Int} (h : rowN t id < t.rows.length) : rowI t id = (rowN t id : Int) := if_pos h
theorem rowI_no {t : Table} {id : Int} (h : ¬ rowN t id < t.rows.length) : rowI t id = -1 := if_neg h
abbrev nilT : Table := ⟨[], [], [], 0⟩
theorem f41_is {t : Table} {id : Int} (hf : BIG ≤ fu) (h : t.rows.length ≤ 2000000) : f41 fu t id = some (offT t id) := by
  unfold f41 offT
  rw [o82, f82_is hf h, Option.bind_some]
  by_cases h2 : rowN t id < t.rows.length
  case neg => rw [if_neg h2, rowI_no h2]; rfl
  rw [if_pos h2, rowI_lt h2, decide_eq_false (show ¬ (rowN t id : Int) < 0 by omega)]
  have e1 : IntKind.i64.wrap ((rowN t id : Int) + 1) = ((rowN t id + 1 : Nat) : Int) := succI h2 (by unfold BIG; omega)
  have h3 : decide ((rowN t id : Int) ≤ (t.rows.length : Int)) = true := by rw [decide_eq_true_iff]; omega
  have h4 : decide (((rowN t id + 1 : Nat) : Int) ≤ (t.rows.length : Int)) = true := by rw [decide_eq_true_iff]; omega
  rw [e1, h3, h4, ge0, ge0]
  simp only [Int.toNat_natCast, Int.toNat_zero, Bool.true_and, Bool.and_true, cond_true, cond_false, decide_true, Int.le_refl, List.drop_zero, List.nil_append, List.take_length]
  rw [cap (by simp; omega), cond_true, cap (by simp; omega), cond_true, cut_is]
theorem f40_is {t : Table} {id : Int} (hf : BIG ≤ fu) (h : SmT t) : f40 fu t id = some (offT t id) := by
  have hN := h.nrow
  unfold f40 offT
  rw [f80_is hf h, Option.bind_some, f48_is hf h.nrow, Option.bind_some]
  by_cases h2 : rowN t id < t.rows.length
  case neg => rw [if_neg h2, rowI_no h2]; rfl
  have h3 := delN h2 hN
  rw [if_pos h2, rowI_lt h2, decide_eq_false (show ¬ (rowN t id : Int) < 0 by omega), cond_false]
  unfold f81
  rw [h3.1, h3.2, cond_true, Int.toNat_natCast, cut_is, Option.bind_some, f77_is (by have := List.length_eraseIdx_le t.rows (rowN t id); omega)]; rfl
theorem nilT_sm : SmT nilT := ⟨⟨by simp, fun _ h => by cases h⟩, ⟨by simp, fun _ h => by cases h⟩, by simp, fun k hk => by simp at hk⟩
theorem off_sm {t : Table} {id : Int} (h : SmT t) : SmT (offT t id).1 := by
  unfold offT
  split
  · have hs : (t.rows.eraseIdx (rowN t id)).Sublist t.rows := List.eraseIdx_sublist ..
    refine ⟨h.first, h.cs, Nat.le_trans hs.length_le h.nrow, fun k hk => ?_⟩
    rw [getD_lt hk]
    exact h.row (hs.subset (List.getElem_mem hk))
  · exact h
end Go.Proofs.YtejobmamkeoheaaGreatDoor
