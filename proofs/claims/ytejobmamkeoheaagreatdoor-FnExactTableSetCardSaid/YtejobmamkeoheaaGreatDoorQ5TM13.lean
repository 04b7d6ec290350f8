/- When a table is right: the document's check and the program's are one. -/
import Derived.Test.YtejobmamkeoheaaGreatDoorQ5TM6
set_option linter.all false
namespace Go.Proofs.YtejobmamkeoheaaGreatDoor
open Go Go.HL
variable {fu : Nat}
structure Rows (t : Table) : Prop where
  rt : Rt t
  len : t.rows.length ≤ 2000000
  all : ∀ k, k < t.rows.length → RowIn t (t.rows.getD k default)
noncomputable def nows (t : Table) : List (List Val) := t.rows.map (nowR t)
theorem nows_get {t : Table} {k : Nat} (hk : k < t.rows.length) : (nows t).getD k default = nowR t (t.rows.getD k default) := by
  unfold nows
  simp [List.getD_eq_getElem?_getD, hk]
theorem nows_len (t : Table) : (nows t).length = t.rows.length := by unfold nows; simp
theorem Rows.lens {t : Table} (h : Rows t) : ∀ r, r ∈ nows t → r.length = (lastS t).length := fun r hr => by
  obtain ⟨k, hk, rfl⟩ := List.getElem_of_mem hr
  have hk' : k < t.rows.length := by rw [nows_len] at hk; exact hk
  have := nows_get hk'
  rw [getD_lt hk] at this
  rw [this]
  exact nowR_len h.rt (h.all k hk')
theorem l59 {t : Table} (hf : BIG ≤ fu) (h : Rows t) {c : Nat} (hc : c < (lastS t).length) {rec1 : Int → Option Bool} : ∀ (m n k : Nat) (keys : List Val), k + m = t.rows.length → m < n →
    (∀ v, v ∈ keys ↔ ∃ j, j < k ∧ v = ((nows t).getD j default).getD c default) →
    f59_l2 fu t (lastS t) (c : Int) rec1 n (k : Int) keys = @ite _ (((lastS t).getD c default).once = true ∧ ∃ i, k ≤ i ∧ i < t.rows.length ∧ ∃ j, j < i ∧ (((nows t).getD i default).getD c default).kind ≠ 0 ∧ ((nows t).getD i default).getD c default = ((nows t).getD j default).getD c default) (Classical.propDecidable _) (some false) (rec1 (IntKind.i64.wrap ((c : Int) + 1))) := by
  have hN := h.len
  intro m
  induction m with
  | zero =>
    intro n k keys hk hn hkeys
    obtain ⟨n, rfl⟩ : ∃ i, n = i + 1 := ⟨n - 1, by omega⟩
    have : k = t.rows.length := by omega
    subst this
    rw [f59_l2, nlt, if_neg]; rfl
    rintro ⟨_, i, h1, h2, _⟩
    omega
  | succ m ih =>
    intro n k keys hk hn hkeys
    obtain ⟨n, rfl⟩ : ∃ i, n = i + 1 := ⟨n - 1, by omega⟩
    have hkl : k < t.rows.length := by omega
    have hl : c < ((nows t).getD k default).length := by rw [nows_get hkl, nowR_len h.rt (h.all k hkl)]; exact hc
    rw [f59_l2, ltR hkl, cond_true, ge0, Bool.and_self, cond_true, Int.toNat_natCast, f49_is hf h.rt (h.all k hkl), Option.bind_some, ← nows_get hkl, inR hl, cond_true]
    simp only [Int.toNat_natCast, f59_j4, succI hkl (by unfold BIG; omega : t.rows.length ≤ BIG)]
    obtain ⟨v, hv⟩ : ∃ v, ((nows t).getD k default).getD c default = v := ⟨_, rfl⟩
    simp only [hv]
    have hnext := ih n (k + 1) (cond (memK v keys) keys (keys ++ [v])) (by omega) (by omega) (fun x => by
      have e : x ∈ cond (memK v keys) keys (keys ++ [v]) ↔ (x ∈ keys ∨ x = v) := by
        unfold memK
        by_cases hm : v ∈ keys
        · rw [decide_eq_true hm]
          exact ⟨.inl, fun h => h.elim id fun e => e ▸ hm⟩
        · rw [decide_eq_false hm]; simp
      rw [e, hkeys]
      constructor
      · rintro (⟨j, h1, h2⟩ | h1)
        · exact ⟨j, by omega, h2⟩
        · exact ⟨k, by omega, by rw [hv]; exact h1⟩
      · rintro ⟨j, h1, h2⟩
        by_cases hj : j = k
        · subst hj; right; rw [h2, hv]
        · exact .inl ⟨j, by omega, h2⟩)
    have hmem : memK v keys = B (∃ j, j < k ∧ v = ((nows t).getD j default).getD c default) := by
      unfold memK; rw [dec_B]; exact B_congr (hkeys v)
    -- the rest of the loop, and this row
    have split : ∀ P : Nat → Prop, (∃ i, k ≤ i ∧ i < t.rows.length ∧ P i) ↔ (P k ∨ ∃ i, k + 1 ≤ i ∧ i < t.rows.length ∧ P i) := fun P => by
      constructor
      · rintro ⟨i, h1, h2, h3⟩
        by_cases hi : i = k
        · subst hi; exact .inl h3
        · exact .inr ⟨i, by omega, h2, h3⟩
      · rintro (h1 | ⟨i, h1, h2, h3⟩)
        · exact ⟨k, Nat.le_refl _, hkl, h1⟩
        · exact ⟨i, by omega, h2, h3⟩
    have hs := split fun i => ∃ j, j < i ∧ (((nows t).getD i default).getD c default).kind ≠ 0 ∧ ((nows t).getD i default).getD c default = ((nows t).getD j default).getD c default
    rw [hv] at hs
    cases ho : ((lastS t).getD c default).once with
    | false =>
      rw [ho] at hnext
      rw [if_neg fun h => by cases h.1]
      rw [if_neg fun h => by cases h.1] at hnext
      exact hnext
    | true =>
      rw [ho] at hnext
      rw [cond_true]
      by_cases hnow : ∃ j, j < k ∧ v.kind ≠ 0 ∧ v = ((nows t).getD j default).getD c default
      · rw [if_pos ⟨rfl, hs.2 (.inl hnow)⟩]
        obtain ⟨j, h1, h2, h3⟩ := hnow
        rw [decide_eq_false h2, hmem, B_t ⟨j, h1, h3⟩]; rfl
      · have e : (bif !decide (v.kind = 0) then bif memK v keys then some false else f59_l2 fu t (lastS t) (c : Int) rec1 n ((k + 1 : Nat) : Int) (cond (memK v keys) keys (keys ++ [v])) else bif false then some false else f59_l2 fu t (lastS t) (c : Int) rec1 n ((k + 1 : Nat) : Int) (cond (memK v keys) keys (keys ++ [v]))) = f59_l2 fu t (lastS t) (c : Int) rec1 n ((k + 1 : Nat) : Int) (cond (memK v keys) keys (keys ++ [v])) := by
          by_cases hv0 : v.kind = 0
          · rw [decide_eq_true hv0]; rfl
          · rw [decide_eq_false hv0]
            have : memK v keys = false := by rw [hmem]; exact B_f fun ⟨j, h1, h2⟩ => hnow ⟨j, h1, hv0, h2⟩
            rw [this]; rfl
        refine Eq.trans e ?_
        rw [hnext]
        by_cases hr : ∃ i, k + 1 ≤ i ∧ i < t.rows.length ∧ ∃ j, j < i ∧ (((nows t).getD i default).getD c default).kind ≠ 0 ∧ ((nows t).getD i default).getD c default = ((nows t).getD j default).getD c default
        · rw [if_pos ⟨rfl, hr⟩, if_pos ⟨rfl, hs.2 (.inr hr)⟩]
        · rw [if_neg fun h => hr h.2, if_neg fun h => (hs.1 h.2).elim hnow hr]
theorem f59_is {t : Table} (hf : BIG ≤ fu) (h : Rows t) : f59 fu t = some (B (NoTwice (lastS t) (nows t))) := by
  have hN := h.len
  have hS := h.rt.okLast.hi
  have hBF : 2000000 < fu := by unfold BIG at hf; omega
  have hcol : ∀ c, (((lastS t).getD c default).once = true ∧ ∃ i, 0 ≤ i ∧ i < t.rows.length ∧ ∃ j, j < i ∧ (((nows t).getD i default).getD c default).kind ≠ 0 ∧ ((nows t).getD i default).getD c default = ((nows t).getD j default).getD c default) ↔ (((lastS t).getD c default).once = true ∧ ColTwice (nows t) c) := fun c => by
    unfold ColTwice
    rw [nows_len]
    constructor
    · rintro ⟨h1, i, _, h2, h3⟩; exact ⟨h1, i, h2, h3⟩
    · rintro ⟨h1, i, h2, h3⟩; exact ⟨h1, i, Nat.zero_le _, h2, h3⟩
  have hrow : ∀ (n c : Nat), c < (lastS t).length → f59_l1 fu t (lastS t) (n + 1) (c : Int) = @ite _ (((lastS t).getD c default).once = true ∧ ColTwice (nows t) c) (Classical.propDecidable _) (some false) (f59_l1 fu t (lastS t) n (IntKind.i64.wrap ((c : Int) + 1))) := fun n c hc => by
    rw [f59_l1, ltR hc, cond_true, ge0, Bool.and_self, cond_true]
    have := l59 hf h hc (rec1 := f59_l1 fu t (lastS t) n) t.rows.length fu 0 [] (by omega) (by omega) (fun v => by simp)
    rw [show ((0 : Nat) : Int) = 0 from rfl] at this
    rw [this]
    by_cases h2 : ((lastS t).getD c default).once = true ∧ ColTwice (nows t) c
    · rw [if_pos h2, if_pos ((hcol c).2 h2)]
    · rw [if_neg h2, if_neg fun h3 => h2 ((hcol c).1 h3)]
  unfold f59
  rw [f66_is hf h.rt, Option.bind_some]
  have h1 := loopE (L := f59_l1 fu t (lastS t)) (N := (lastS t).length) (fun c => ((lastS t).getD c default).once = true ∧ ColTwice (nows t) c) (some false) (some true) (by unfold BIG; omega) (fun n => ?_) (fun n c hc hp => ?_) (fun n c hc hp => ?_) (fu := fu) (by omega)
  · rw [h1]
    by_cases h : ∃ c, c < (lastS t).length ∧ ((lastS t).getD c default).once = true ∧ ColTwice (nows t) c
    · rw [if_pos h, B_f fun h2 => NoTwice_iff.1 h2 h]
    · rw [if_neg h, B_t (NoTwice_iff.2 h)]
  · rw [f59_l1, nlt]; rfl
  · rw [hrow n c hc, if_pos hp]
  · rw [hrow n c hc, if_neg hp]
theorem takeN {α : Type} {l : List α} {d : α} {k : Nat} (hk : k < l.length) : l.take (k + 1) = l.take k ++ [l.getD k d] := by
  rw [getD_lt hk, List.take_succ_eq_append_getElem hk]
theorem f54_is {t : Table} (hf : BIG ≤ fu) (h : Rows t) : f54 fu t = some (nows t) := by
  have hN := h.len
  have key : ∀ (m n k : Nat), k + m = t.rows.length → m < n → f54_l1 fu t n (k : Int) ((nows t).take k) = some (nows t) := by
    intro m
    induction m with
    | zero =>
      intro n k hk hn
      obtain ⟨n, rfl⟩ : ∃ i, n = i + 1 := ⟨n - 1, by omega⟩
      have : k = t.rows.length := by omega
      subst this
      rw [f54_l1, nlt, ← nows_len, List.take_length]; rfl
    | succ m ih =>
      intro n k hk hn
      obtain ⟨n, rfl⟩ : ∃ i, n = i + 1 := ⟨n - 1, by omega⟩
      have hkl : k < t.rows.length := by omega
      have t1 : List.length ((nows t).take k) + List.length ([nowR t (t.rows.getD k default)] : List (List Val)) ≤ 1000000000 := by
        have := nows_len t
        simp; omega
      rw [f54_l1, ltR hkl, cond_true, ge0, Bool.and_self, cond_true, Int.toNat_natCast, f90_is hf h.rt (h.all k hkl), Option.bind_some, cap t1, cond_true, ← nows_get hkl, ← takeN (by rw [nows_len]; exact hkl), succI hkl (by unfold BIG; omega)]
      exact ih n (k + 1) (by omega) (by omega)
  unfold f54
  exact key t.rows.length fu 0 (by omega) (by unfold BIG at hf; omega)
structure RowGood (t : Table) (k : Nat) : Prop where
  ver : VerOK t (t.rows.getD k default).ver
  lo : 1 ≤ (t.rows.getD k default).id
  hi : (t.rows.getD k default).id < t.next
  up : 0 < k → (t.rows.getD (k - 1) default).id < (t.rows.getD k default).id
  was : RowOK (shapeAt t (t.rows.getD k default).ver.toNat) (t.rows.getD k default).vals
  now : RowOK (lastS t) (nowR t (t.rows.getD k default))
structure TabOK (t : Table) : Prop where
  first : ShapeOK t.first
  run : ∃ x, run t.first t.changes = some x
  nch : t.changes.length ≤ 8
  nrow : t.rows.length ≤ 8
  lo : 1 ≤ t.next
  hi : t.next ≤ 60
  rows : ∀ k, k < t.rows.length → RowGood t k
  once : NoTwice (lastS t) (nows t)
structure SmT (t : Table) : Prop where
  first : SmS t.first
  cs : SmCs t.changes
  nrow : t.rows.length ≤ 2000000
  rows : ∀ k, k < t.rows.length → SmR (t.rows.getD k default).vals
theorem TabOK.rt {t : Table} (h : TabOK t) (hs : SmT t) : Rt t := ⟨h.first, h.run, hs.cs⟩
theorem RowGood.rowIn {t : Table} {k : Nat} (hr : RowGood t k) (hs : SmR (t.rows.getD k default).vals) : RowIn t (t.rows.getD k default) := ⟨hr.ver, hr.was.len, hs⟩
theorem TabOK.rws {t : Table} (h : TabOK t) (hs : SmT t) : Rows t := ⟨h.rt hs, hs.nrow, fun k hk => (h.rows k hk).rowIn (hs.rows k hk)⟩
theorem s51 {t : Table} (hf : BIG ≤ fu) (h : Rt t) (hs : SmT t) {n k : Nat} (hk : k < t.rows.length) :
    f51_l1 fu t (lastS t) (n + 1) (k : Int) = cond (B (RowGood t k)) (f51_l1 fu t (lastS t) n (IntKind.i64.wrap ((k : Int) + 1))) (some false) := by
  have hN := hs.nrow
  have hsm := hs.rows k hk
  rw [f51_l1, ltR hk, cond_true, ge0, Bool.and_self, cond_true, Int.toNat_natCast]
  by_cases h1 : (t.rows.getD k default).ver < 0
  · rw [decide_eq_true h1, B_f fun g => by have := g.ver.lo; omega]; rfl
  rw [decide_eq_false h1, cond_false]
  by_cases h2 : (t.changes.length : Int) < (t.rows.getD k default).ver
  · rw [decide_eq_true h2, B_f fun g => by have := g.ver.hi; omega]; rfl
  rw [decide_eq_false h2, cond_false]
  by_cases h3 : (t.rows.getD k default).id < 1
  · rw [decide_eq_true h3, B_f fun g => by have := g.lo; omega]; rfl
  rw [decide_eq_false h3, cond_false]
  by_cases h4 : t.next ≤ (t.rows.getD k default).id
  · rw [decide_eq_true h4, B_f fun g => by have := g.hi; omega]; rfl
  rw [decide_eq_false h4, cond_false]
  have hv : VerOK t (t.rows.getD k default).ver := ⟨by omega, by omega⟩
  have rest : ∀ hup : (0 < k → (t.rows.getD (k - 1) default).id < (t.rows.getD k default).id), f51_j3 fu t (lastS t) (k : Int) (f51_l1 fu t (lastS t) n) false = cond (B (RowGood t k)) (f51_l1 fu t (lastS t) n (IntKind.i64.wrap ((k : Int) + 1))) (some false) := fun hup => by
    unfold f51_j3
    rw [cond_false, Int.toNat_natCast, f89_is hf h hv, Option.bind_some, f88_is hf (h.okAt _) hsm, Option.bind_some]
    by_cases g1 : RowOK (shapeAt t (t.rows.getD k default).ver.toNat) (t.rows.getD k default).vals
    case neg => rw [B_f g1, B_f fun g => g1 g.was]; rfl
    have hin : RowIn t (t.rows.getD k default) := ⟨hv, g1.len, hsm⟩
    rw [B_t g1, f90_is hf h hin]
    simp only [Bool.not_true, cond_false, Option.bind_some]
    rw [f88_is hf h.okLast (nowR_sm h hin), Option.bind_some]
    by_cases g2 : RowOK (lastS t) (nowR t (t.rows.getD k default))
    · rw [B_t g2, B_t ⟨hv, by omega, by omega, hup, g1, g2⟩]; rfl
    · rw [B_f g2, B_f (p := RowGood t k) fun g => g2 g.now]; rfl
  by_cases h5 : 0 < k
  · have e : IntKind.i64.wrap ((k : Int) - 1) = ((k - 1 : Nat) : Int) := by rw [wrapI (by omega) (by omega)]; omega
    rw [decide_eq_true (show (0 : Int) < (k : Int) by omega), cond_true, e, inR (show k - 1 < t.rows.length by omega), cond_true, Int.toNat_natCast]
    by_cases h6 : (t.rows.getD k default).id ≤ (t.rows.getD (k - 1) default).id
    · rw [decide_eq_true h6, B_f fun g => by have := g.up h5; omega]; rfl
    · rw [decide_eq_false h6]; exact rest fun _ => by omega
  · rw [decide_eq_false (show ¬ (0 : Int) < (k : Int) by omega), cond_false]; exact rest fun h => absurd h h5
theorem f51_is {t : Table} (hf : BIG ≤ fu) (h : Rt t) (hs : SmT t) : f51 fu t = some (B (∀ k, k < t.rows.length → RowGood t k)) := by
  have hN := hs.nrow
  unfold f51
  rw [f53_is hf h, Option.bind_some, B_congr (show (∀ k, k < t.rows.length → RowGood t k) ↔ ((∀ k, k < t.rows.length → RowGood t k) ∧ True) from ⟨fun h => ⟨h, trivial⟩, fun h => h.1⟩)]
  refine loopB (L := f51_l1 fu t (lastS t)) _ _ (by unfold BIG; omega) (fun n h => ?_) (fun n h => absurd trivial h) (fun n k hk hp => ?_) (fun n k hk hp => ?_) (by unfold BIG at hf; omega)
  · rw [f51_l1, nlt]; rfl
  · rw [s51 hf h hs hk, B_t hp]; rfl
  · rw [s51 hf h hs hk, B_f hp]; rfl
theorem TabOK_iff {t : Table} : TabOK t ↔ (ShapeOK t.first ∧ ∃ x, run t.first t.changes = some x) ∧ t.changes.length ≤ 8 ∧ t.rows.length ≤ 8 ∧ 1 ≤ t.next ∧ t.next ≤ 60 ∧ (∀ k, k < t.rows.length → RowGood t k) ∧ NoTwice (lastS t) (nows t) :=
  ⟨fun h => ⟨⟨h.1, h.2⟩, h.3, h.4, h.5, h.6, h.7, h.8⟩, fun h => ⟨h.1.1, h.1.2, h.2.1, h.2.2.1, h.2.2.2.1, h.2.2.2.2.1, h.2.2.2.2.2.1, h.2.2.2.2.2.2⟩⟩
theorem allB_ok {t : Table} (h : ShapeOK t.first ∧ ∃ x, run t.first t.changes = some x) : allB t.first t.changes = (lastS t, true) := by
  obtain ⟨h1, x, hx⟩ := h
  unfold allB runB lastS
  rw [if_pos h1, hx]; rfl
theorem allB_no {t : Table} (h : ¬ (ShapeOK t.first ∧ ∃ x, run t.first t.changes = some x)) : allB t.first t.changes = ([], false) := by
  unfold allB runB
  by_cases h1 : ShapeOK t.first
  · rw [if_pos h1]
    cases hr : run t.first t.changes with
    | none => rfl
    | some x => exact absurd ⟨h1, x, hr⟩ h
  · rw [if_neg h1]
theorem f17_is {t : Table} (hf : BIG ≤ fu) (hs : SmT t) : f17 fu t = some (B (TabOK t)) := by
  unfold f17
  rw [f50_is hf hs.first hs.cs, Option.bind_some, B_congr TabOK_iff]
  simp only [f17_j1]
  by_cases h0 : ShapeOK t.first ∧ ∃ x, run t.first t.changes = some x
  case neg => rw [allB_no h0, B_f fun h => h0 h.1]; rfl
  rw [allB_ok h0]
  have hrt : Rt t := ⟨h0.1, h0.2, hs.cs⟩
  simp only [Bool.not_true, cond_false]
  by_cases h1 : 8 < t.changes.length
  · rw [decide_eq_true (show (8 : Int) < (t.changes.length : Int) by omega), B_f fun h => by omega]; rfl
  rw [decide_eq_false (show ¬ (8 : Int) < (t.changes.length : Int) by omega), cond_false]
  by_cases h2 : 8 < t.rows.length
  · rw [decide_eq_true (show (8 : Int) < (t.rows.length : Int) by omega), B_f fun h => by omega]; rfl
  rw [decide_eq_false (show ¬ (8 : Int) < (t.rows.length : Int) by omega), cond_false]
  by_cases h3 : t.next < 1
  · rw [decide_eq_true h3, B_f fun h => by omega]; rfl
  rw [decide_eq_false h3, cond_false]
  by_cases h4 : 60 < t.next
  · rw [decide_eq_true h4, B_f fun h => by omega]; rfl
  rw [decide_eq_false h4, cond_false, f51_is hf hrt hs, Option.bind_some]
  by_cases h5 : ∀ k, k < t.rows.length → RowGood t k
  case neg => rw [B_f h5, B_f fun h => h5 h.2.2.2.2.2.1]; rfl
  have hr : Rows t := ⟨hrt, hs.nrow, fun k hk => (h5 k hk).rowIn (hs.rows k hk)⟩
  have hl := hrt.okLast.hi
  rw [B_t h5, f53_is hf hrt, f54_is hf hr]
  simp only [Bool.not_true, cond_false, Option.bind_some]
  rw [f52_is hf (by omega) (by rw [nows_len]; omega) hr.lens, Option.bind_some, B_not, Bool.not_not]
  congr 1
  exact B_congr ⟨fun h => ⟨h0, by omega, by omega, by omega, by omega, h5, h⟩, fun h => h.2.2.2.2.2.2⟩
theorem s19 {t : Table} (hf : BIG ≤ fu) (h : Rt t) (hs : SmT t) (h1 : 1 ≤ t.next) (h2 : t.next ≤ 60) {n k : Nat} {i4 : Int} (hk : k < t.rows.length) (hi0 : 0 ≤ i4) (hi1 : i4 ≤ 60)
    (hi : i4 + 1 ≤ (t.rows.getD k default).id ↔ (1 ≤ (t.rows.getD k default).id ∧ (0 < k → (t.rows.getD (k - 1) default).id < (t.rows.getD k default).id))) :
    f19_l1 fu t (lastS t, true) (n + 1) i4 (k : Int) = cond (B (RowGood t k)) (f19_l1 fu t (lastS t, true) n (t.rows.getD k default).id (IntKind.i64.wrap ((k : Int) + 1))) (some false) := by
  have hsm := hs.rows k hk
  rw [f19_l1, ltR hk, cond_true, ge0, Bool.and_self, cond_true, Int.toNat_natCast, f56_is, Option.bind_some, f56_is, wrapI (x := i4 + 1) (by omega) (by omega), wrapI (x := t.next - 1) (by omega) (by omega)]
  by_cases g1 : i4 + 1 ≤ (t.rows.getD k default).id ∧ (t.rows.getD k default).id ≤ t.next - 1
  case neg =>
    rw [B_f g1, B_f (p := RowGood t k) fun g => g1 ⟨hi.2 ⟨g.lo, g.up⟩, by have := g.hi; omega⟩]; rfl
  rw [B_t g1]
  simp only [Bool.not_true, cond_false, Option.bind_some]
  by_cases g2 : 0 ≤ (t.rows.getD k default).ver ∧ (t.rows.getD k default).ver ≤ (t.changes.length : Int)
  case neg => rw [B_f g2, B_f (p := RowGood t k) fun g => g2 ⟨g.ver.lo, g.ver.hi⟩]; rfl
  rw [B_t g2]
  have hv : VerOK t (t.rows.getD k default).ver := ⟨g2.1, g2.2⟩
  simp only [f19_j4, Bool.not_true, cond_false, Int.toNat_natCast]
  rw [hv.c1, cond_true, Int.toNat_zero, List.drop_zero, f57_is hf h.first (h.csTake _), Option.bind_some]
  have e : (runB t.first (List.take (t.rows.getD k default).ver.toNat t.changes)).1 = shapeAt t (t.rows.getD k default).ver.toNat := by
    unfold runB; rw [(h.at _).1]
  rw [e, f58_is hf hsm, Option.bind_some]
  by_cases g3 : RowOK (shapeAt t (t.rows.getD k default).ver.toNat) (t.rows.getD k default).vals
  case neg => rw [B_f g3, B_f (p := RowGood t k) fun g => g3 g.was]; rfl
  have hin : RowIn t (t.rows.getD k default) := ⟨hv, g3.len, hsm⟩
  rw [B_t g3, f49_is hf h hin]
  simp only [Bool.not_true, cond_false, Option.bind_some, f19_j5, Int.toNat_natCast]
  rw [f58_is hf (nowR_sm h hin), Option.bind_some]
  by_cases g4 : RowOK (lastS t) (nowR t (t.rows.getD k default))
  · rw [B_t g4, B_t ⟨hv, (hi.1 g1.1).1, by omega, (hi.1 g1.1).2, g3, g4⟩]; rfl
  · rw [B_f g4, B_f (p := RowGood t k) fun g => g4 g.now]; rfl
theorem f19_is {t : Table} (hf : BIG ≤ fu) (hs : SmT t) : f19 fu t = some (B (TabOK t)) := by
  unfold f19
  rw [f55_is hf hs.first hs.cs, Option.bind_some, B_congr TabOK_iff]
  simp only [f19_j1]
  by_cases h0 : ShapeOK t.first ∧ ∃ x, run t.first t.changes = some x
  case neg => rw [allB_no h0, B_f fun h => h0 h.1]; rfl
  rw [allB_ok h0]
  have hrt : Rt t := ⟨h0.1, h0.2, hs.cs⟩
  simp only [Bool.not_true, cond_false]
  by_cases h1 : 8 < t.changes.length
  · rw [decide_eq_true (show (8 : Int) < (t.changes.length : Int) by omega), B_f fun h => by omega]; rfl
  rw [decide_eq_false (show ¬ (8 : Int) < (t.changes.length : Int) by omega), cond_false]
  by_cases h2 : 8 < t.rows.length
  · rw [decide_eq_true (show (8 : Int) < (t.rows.length : Int) by omega), B_f fun h => by omega]; rfl
  rw [decide_eq_false (show ¬ (8 : Int) < (t.rows.length : Int) by omega), cond_false, f56_is, Option.bind_some]
  by_cases h3 : 1 ≤ t.next ∧ t.next ≤ 60
  case neg => rw [B_f h3, B_f fun h => h3 ⟨h.2.2.2.1, h.2.2.2.2.1⟩]; rfl
  rw [B_t h3]
  simp only [Bool.not_true, cond_false]
  have key : ∀ (m n k : Nat) (i4 : Int), k + m = t.rows.length → m < n → (∀ j, j < k → RowGood t j) → (k = 0 → i4 = 0) → (0 < k → i4 = (t.rows.getD (k - 1) default).id) →
      f19_l1 fu t (lastS t, true) n i4 (k : Int) = some (B ((∀ j, j < t.rows.length → RowGood t j) ∧ NoTwice (lastS t) (nows t))) := by
    intro m
    induction m with
    | zero =>
      intro n k i4 hk hn hg _ _
      obtain ⟨n, rfl⟩ : ∃ i, n = i + 1 := ⟨n - 1, by omega⟩
      have : k = t.rows.length := by omega
      subst this
      have hr : Rows t := ⟨hrt, hs.nrow, fun k hk => (hg k hk).rowIn (hs.rows k hk)⟩
      rw [f19_l1, nlt, cond_false, f59_is hf hr, Option.bind_some]
      congr 1
      exact B_congr ⟨fun h => ⟨hg, h⟩, fun h => h.2⟩
    | succ m ih =>
      intro n k i4 hk hn hg h0 hpos
      obtain ⟨n, rfl⟩ : ∃ i, n = i + 1 := ⟨n - 1, by omega⟩
      have hkl : k < t.rows.length := by omega
      have hb : 0 ≤ i4 ∧ i4 ≤ 60 := by
        rcases Nat.eq_zero_or_pos k with h | h
        · have := h0 h; omega
        · have g := hg (k - 1) (by omega)
          have := g.lo; have := g.hi; have := hpos h; omega
      have hi : i4 + 1 ≤ (t.rows.getD k default).id ↔ (1 ≤ (t.rows.getD k default).id ∧ (0 < k → (t.rows.getD (k - 1) default).id < (t.rows.getD k default).id)) := by
        rcases Nat.eq_zero_or_pos k with h | h
        · have := h0 h
          exact ⟨fun _ => ⟨by omega, fun _ => by omega⟩, fun _ => by omega⟩
        · have := hpos h
          have g := (hg (k - 1) (by omega)).lo
          exact ⟨fun _ => ⟨by omega, fun _ => by omega⟩, fun h' => by have := h'.2 h; omega⟩
      rw [s19 hf hrt hs h3.1 h3.2 hkl hb.1 hb.2 hi]
      by_cases hgk : RowGood t k
      · rw [B_t hgk, cond_true, succI hkl (by unfold BIG; omega)]
        refine ih n (k + 1) _ (by omega) (by omega) (fun j hj => ?_) (fun h => by omega) (fun _ => by rw [Nat.add_sub_cancel])
        by_cases hj' : j = k
        · subst hj'; exact hgk
        · exact hg j (by omega)
      · rw [B_f hgk, B_f fun h => hgk (h.1 k hkl)]; rfl
  have := key t.rows.length fu 0 0 (by omega) (by unfold BIG at hf; omega) (fun j hj => by omega) (fun _ => rfl) (fun h => by omega)
  rw [show ((0 : Nat) : Int) = 0 from rfl] at this
  rw [this]
  congr 1
  exact B_congr ⟨fun h => ⟨h0, by omega, by omega, by omega, by omega, h.1, h.2⟩, fun h => ⟨h.2.2.2.2.2.1, h.2.2.2.2.2.2⟩⟩
end Go.Proofs.YtejobmamkeoheaaGreatDoor
/- What is done to a table that is right: rows away, rows put, rows set, columns changed. -/
namespace Go.Proofs.YtejobmamkeoheaaGreatDoor
open Go Go.HL
structure RG (t : Table) (r : Row) : Prop where
  ver : VerOK t r.ver
  lo : 1 ≤ r.id
  hi : r.id < t.next
  was : RowOK (shapeAt t r.ver.toNat) r.vals
  now : RowOK (lastS t) (nowR t r)
theorem TabOK.rg {t : Table} (h : TabOK t) : ∀ r, r ∈ t.rows → RG t r := fun r hr => by
  obtain ⟨k, hk, rfl⟩ := List.getElem_of_mem hr
  have h1 := h.rows k hk
  have e : t.rows.getD k default = t.rows[k] := getD_lt hk
  exact ⟨e ▸ h1.ver, e ▸ h1.lo, e ▸ h1.hi, e ▸ h1.was, e ▸ h1.now⟩
theorem TabOK.asc {t : Table} (h : TabOK t) : t.rows.Pairwise fun a b => a.id < b.id := by
  rw [List.pairwise_iff_getElem]
  have key : ∀ (m i : Nat) (hj : i + 1 + m < t.rows.length), t.rows[i].id < t.rows[i + 1 + m].id := by
    intro m
    induction m with
    | zero =>
      intro i hj
      have h2 := (h.rows (i + 1) hj).up (by omega)
      rw [getD_lt hj] at h2
      simp only [Nat.add_sub_cancel] at h2
      rw [getD_lt (show i < t.rows.length by omega)] at h2
      exact h2
    | succ m ih =>
      intro i hj
      have h1 := ih i (by omega)
      have h2 := (h.rows (i + 1 + (m + 1)) hj).up (by omega)
      rw [getD_lt hj] at h2
      have e : i + 1 + (m + 1) - 1 = i + 1 + m := by omega
      rw [e, getD_lt (show i + 1 + m < t.rows.length by omega)] at h2
      exact Int.lt_trans h1 h2
  intro i j hi hj hij
  obtain ⟨m, rfl⟩ : ∃ m, j = i + 1 + m := ⟨j - (i + 1), by omega⟩
  exact key m i hj
def rowN (t : Table) (id : Int) : Nat := t.rows.findIdx fun r => decide (r.id = id)
def rowI (t : Table) (id : Int) : Int := if rowN t id < t.rows.length then (rowN t id : Int) else -1
theorem rowN_id {t : Table} {id : Int} (h : rowN t id < t.rows.length) : (t.rows.getD (rowN t id) default).id = id := by
  rw [getD_lt h]
  exact of_decide_eq_true (List.findIdx_getElem (w := h))
theorem nowR_new (t : Table) (id : Int) (row : List Val) : nowR t ⟨id, (t.changes.length : Int), row⟩ = row := by
  unfold nowR
  show runRow _ (t.changes.drop ((t.changes.length : Int).toNat)) row = row
  rw [Int.toNat_natCast, List.drop_length]; rfl
theorem run_snoc {s x : List Col} {cs : List Change} {c : Change} (h : run s cs = some x) (hc : Can x c) : run s (cs ++ [c]) = some (chg x c) := by
  rw [run_append, h]
  show run x [c] = _
  rw [run, if_pos hc]; rfl
theorem shapeAt_snoc {t : Table} {c : Change} {v : Nat} (hv : v ≤ t.changes.length) : shapeAt { t with changes := t.changes ++ [c] } v = shapeAt t v := by
  unfold shapeAt
  show (run t.first ((t.changes ++ [c]).take v)).getD [] = _
  rw [List.take_append_of_le_length hv]
theorem lastS_snoc {t : Table} {c : Change} (h : run t.first t.changes = some (lastS t)) (hc : Can (lastS t) c) : lastS { t with changes := t.changes ++ [c] } = chg (lastS t) c := by
  unfold lastS
  show (run t.first (t.changes ++ [c])).getD [] = _
  rw [run_snoc h hc]; rfl
theorem runRow_snoc {s x : List Col} {cs : List Change} {c : Change} {row : List Val} (h : run s cs = some x) : runRow s (cs ++ [c]) row = chgRow x c (runRow s cs row) := by
  rw [runRow_append h]; rfl
theorem nowR_snoc {t : Table} {c : Change} {r : Row} (h : Rt t) (hv : VerOK t r.ver) : nowR { t with changes := t.changes ++ [c] } r = chgRow (lastS t) c (nowR t r) := by
  have hv1 : r.ver.toNat ≤ t.changes.length := by have := hv.hi; have := hv.lo; omega
  unfold nowR
  rw [shapeAt_snoc hv1]
  show runRow (shapeAt t r.ver.toNat) ((t.changes ++ [c]).drop r.ver.toNat) r.vals = _
  rw [List.drop_append_of_le_length hv1, runRow_snoc (h.at _).2]
theorem getD_set {α : Type} {l : List α} {d x : α} {k i : Nat} (hk : k < l.length) : (l.set k x).getD i d = if i = k then x else l.getD i d := by
  rw [List.getD_eq_getElem?_getD, List.getElem?_set]
  by_cases h : k = i
  · subst h; simp [hk]
  · rw [if_neg h, if_neg (Ne.symm h), List.getD_eq_getElem?_getD]
end Go.Proofs.YtejobmamkeoheaaGreatDoor
/- What is told of a row, and what is put and set: the models. -/
namespace Go.Proofs.YtejobmamkeoheaaGreatDoor
open Go Go.HL
theorem NoTwice.perm {s : List Col} {a b : List (List Val)} (h : a.Perm b) : NoTwice s a ↔ NoTwice s b := by
  unfold NoTwice
  exact h.pairwise_iff fun hxy hyx => hxy hyx.symm
theorem filter_erase {rows : List Row} (ha : rows.Pairwise fun a b => a.id < b.id) {k : Nat} (hk : k < rows.length) : rows.filter (fun r => !decide (r.id = rows[k].id)) = rows.eraseIdx k := by
  have h1 := List.pairwise_iff_getElem.1 ha
  obtain ⟨x, hx⟩ : ∃ x, rows[k].id = x := ⟨_, rfl⟩
  rw [hx, List.eraseIdx_eq_take_drop_succ]
  conv => lhs; rw [← List.take_append_drop k rows, List.drop_eq_getElem_cons hk]
  rw [List.filter_append, List.filter_cons, if_neg (by simp [hx])]
  subst hx
  congr 1
  · refine List.filter_eq_self.2 fun r hr => ?_
    obtain ⟨i, hi, rfl⟩ := List.getElem_of_mem hr
    rw [List.getElem_take]
    have hi' : i < k := by simp at hi; omega
    have := h1 i k (by omega) hk hi'
    simp; omega
  · refine List.filter_eq_self.2 fun r hr => ?_
    obtain ⟨i, hi, rfl⟩ := List.getElem_of_mem hr
    rw [List.getElem_drop]
    have hi' : k + 1 + i < rows.length := by simp at hi; omega
    have := h1 k (k + 1 + i) hk hi' (by omega)
    simp; omega
theorem set_perm {α : Type} {l : List α} {k : Nat} (hk : k < l.length) (x : α) : (x :: l.eraseIdx k).Perm (l.set k x) := by
  rw [List.eraseIdx_eq_take_drop_succ, List.set_eq_take_append_cons_drop, if_pos hk]
  exact List.perm_middle.symm
theorem snoc_perm {α : Type} (l : List α) (x : α) : (x :: l).Perm (l ++ [x]) := by
  have := (List.perm_append_comm (l₁ := [x]) (l₂ := l))
  simpa using this
end Go.Proofs.YtejobmamkeoheaaGreatDoor
/- Tables: copies, sameness, a row's place and values, a row away. -/
namespace Go.Proofs.YtejobmamkeoheaaGreatDoor
open Go Go.HL
variable {fu : Nat}
theorem SmT.row {t : Table} (h : SmT t) {r : Row} (hr : r ∈ t.rows) : SmR r.vals := by
  obtain ⟨k, hk, rfl⟩ := List.getElem_of_mem hr
  have := h.rows k hk
  rwa [getD_lt hk] at this
theorem f77_is {s : List Row} (hl : s.length ≤ 2000000) : f77 s = some s := by
  unfold f77 f110 f111
  rw [cap (by simp; omega)]; rfl
theorem f109_is {s : List Change} (hl : s.length ≤ 2000001) : f109 s = some s := by
  unfold f109 f129 f130
  rw [cap (by simp; omega)]; rfl
theorem set_self {α : Type} {l : List α} {d : α} {k : Nat} (hk : k < l.length) : l.set k (l.getD k d) = l := by
  rw [getD_lt hk]; exact List.set_getElem_self ..
theorem f80_is {t : Table} (hf : BIG ≤ fu) (h : SmT t) : f80 fu t = some t := by
  have hN := h.nrow
  have key : ∀ (m n k : Nat), k + m = t.rows.length → m < n → f80_l1 t t n (k : Int) t.rows = some t := by
    intro m
    induction m with
    | zero =>
      intro n k hk hn
      obtain ⟨n, rfl⟩ : ∃ i, n = i + 1 := ⟨n - 1, by omega⟩
      have : k = t.rows.length := by omega
      subst this
      rw [f80_l1, nlt]; rfl
    | succ m ih =>
      intro n k hk hn
      obtain ⟨n, rfl⟩ : ∃ i, n = i + 1 := ⟨n - 1, by omega⟩
      have hkl : k < t.rows.length := by omega
      rw [f80_l1, ltR hkl, cond_true, ge0, Bool.and_self, cond_true, Int.toNat_natCast, f115_is (by have := (h.rows k hkl).len; omega), Option.bind_some, succI hkl (by unfold BIG; omega)]
      have e : t.rows.set k { (t.rows.getD k default) with vals := (t.rows.getD k default).vals } = t.rows := set_self hkl
      rw [e]
      exact ih n (k + 1) (by omega) (by omega)
  unfold f80 f80_j1
  rw [f91_is h.first.len, Option.bind_some, f109_is (by have := h.cs.len; omega), Option.bind_some, f77_is h.nrow, Option.bind_some]
  exact key t.rows.length fu 0 (by omega) (by unfold BIG at hf; omega)
theorem f42_is {t : Table} (hf : BIG ≤ fu) (h : SmT t) : f42 fu t = some t := by
  have hN := h.nrow
  have key : ∀ (m n k : Nat), k + m = t.rows.length → m < n → f42_l1 t n (k : Int) { t with rows := t.rows.take k } = some t := by
    intro m
    induction m with
    | zero =>
      intro n k hk hn
      obtain ⟨n, rfl⟩ : ∃ i, n = i + 1 := ⟨n - 1, by omega⟩
      have : k = t.rows.length := by omega
      subst this
      rw [f42_l1, nlt, List.take_length]; rfl
    | succ m ih =>
      intro n k hk hn
      obtain ⟨n, rfl⟩ : ∃ i, n = i + 1 := ⟨n - 1, by omega⟩
      have hkl : k < t.rows.length := by omega
      have hv := (h.rows k hkl).len
      rw [f42_l1, ltR hkl, cond_true, ge0, Bool.and_self, cond_true, Int.toNat_natCast, cap (by rw [List.length_nil]; omega), cond_true, cap (by rw [List.length_take, List.length_singleton]; omega), cond_true, succI hkl (by unfold BIG; omega)]
      have e : (⟨t.first, t.changes, t.rows.take k ++ [(⟨(t.rows.getD k default).id, (t.rows.getD k default).ver, ([] : List Val) ++ (t.rows.getD k default).vals⟩ : Row)], t.next⟩ : Table) = { t with rows := t.rows.take (k + 1) } := by
        rw [takeN (d := default) hkl, List.nil_append]
      rw [e]
      exact ih n (k + 1) (by omega) (by omega)
  have h1 := h.first.len
  have h2 := h.cs.len
  unfold f42 f42_j1
  rw [cap (by simp; omega), cond_true, cap (by simp; omega), cond_true]
  exact key t.rows.length fu 0 (by omega) (by unfold BIG at hf; omega)
theorem f82_is {t : Table} {id : Int} (hf : BIG ≤ fu) (h : t.rows.length ≤ 2000000) : f82 fu t id = some (rowI t id) := by
  unfold f82 rowI rowN
  refine loopI (L := f82_l1 t id) t.rows (fun r => decide (r.id = id)) (by unfold BIG; omega) (fun n => ?_) (fun n k hk hp => ?_) (fun n k hk hp => ?_) (by unfold BIG at hf; omega)
  · rw [f82_l1, nlt]; rfl
  · rw [f82_l1, ltR hk, cond_true, ge0, Bool.and_self, cond_true, Int.toNat_natCast, getD_lt hk, hp]; rfl
  · rw [f82_l1, ltR hk, cond_true, ge0, Bool.and_self, cond_true, Int.toNat_natCast, getD_lt hk, hp]; rfl
theorem f48_is {t : Table} {id : Int} (hf : BIG ≤ fu) (h : t.rows.length ≤ 2000000) : f48 fu t id = some (rowI t id) := by
  unfold f48 f83
  have : f83_l1 t.rows (fun x0 => f84 x0 id) fu 0 = some (rowI t id) := by
    unfold rowI rowN
    refine loopI (L := f83_l1 t.rows fun x0 => f84 x0 id) t.rows (fun r => decide (r.id = id)) (by unfold BIG; omega) (fun n => ?_) (fun n k hk hp => ?_) (fun n k hk hp => ?_) (by unfold BIG at hf; omega)
    · rw [f83_l1, nlt]; rfl
    · rw [f83_l1, ltR hk, cond_true, ge0, Bool.and_self, cond_true, Int.toNat_natCast, getD_lt hk]; unfold f84; rw [hp]; rfl
    · rw [f83_l1, ltR hk, cond_true, ge0, Bool.and_self, cond_true, Int.toNat_natCast, getD_lt hk]; unfold f84; rw [hp]; rfl
  rw [this]; rfl
theorem rowI_lt {t : Table} {id : Int} (h : rowN t id < t.rows.length) : rowI t id = (rowN t id : Int) := if_pos h
theorem rowI_no {t : Table} {id : Int} (h : ¬ rowN t id < t.rows.length) : rowI t id = -1 := if_neg h
abbrev nilT : Table := ⟨[], [], [], 0⟩
theorem nilT_sm : SmT nilT := ⟨⟨by simp, fun _ h => by cases h⟩, ⟨by simp, fun _ h => by cases h⟩, by simp, fun k hk => by simp at hk⟩
end Go.Proofs.YtejobmamkeoheaaGreatDoor
/- What is told of a row: the program's and the document's; the codes of a row that is written. -/
namespace Go.Proofs.YtejobmamkeoheaaGreatDoor
open Go Go.HL
variable {fu : Nat}
structure SmX (xs : List Set) : Prop where
  len : xs.length ≤ 2000000
  all : ∀ x, x ∈ xs → SmV x.val
theorem SmX.get {xs : List Set} (h : SmX xs) {k : Nat} (hk : k < xs.length) : SmV (xs.getD k default).val := by
  rw [getD_lt hk]; exact h.all _ (List.getElem_mem hk)
structure Told (s : List Col) (met : List (List UInt8)) (x : Set) : Prop where
  there : atN s x.name < s.length
  fresh : x.name ∉ met
  ok : ValOK x.val
  fits : Fits x.val (s.getD (atN s x.name) default).kind
open Classical in
noncomputable def tell (s : List Col) : List (List UInt8) → List Val → List Set → Option (List Val)
  | _, row, [] => some row
  | met, row, x :: xs => if Told s met x then tell s (met ++ [x.name]) (row.set (atN s x.name) x.val) xs else none
theorem tell_cons {s : List Col} {met : List (List UInt8)} {row : List Val} {x : Set} {xs : List Set} : tell s met row (x :: xs) = @ite _ (Told s met x) (Classical.propDecidable _) (tell s (met ++ [x.name]) (row.set (atN s x.name) x.val) xs) none := by rw [tell]
theorem tell_len {s : List Col} : ∀ {xs : List Set} {met : List (List UInt8)} {row r : List Val}, tell s met row xs = some r → r.length = row.length
  | [], _, _, _, h => by rw [tell] at h; injection h with h; rw [h]
  | x :: xs, met, row, r, h => by
    rw [tell_cons] at h
    split at h
    · rw [tell_len h]; simp
    · cases h
theorem tell_sm {s : List Col} : ∀ {xs : List Set} {met : List (List UInt8)} {row r : List Val}, (∀ x, x ∈ xs → SmV x.val) → SmR row → tell s met row xs = some r → SmR r
  | [], _, _, _, _, hr, h => by rw [tell] at h; injection h with h; rw [← h]; exact hr
  | x :: xs, met, row, r, hx, hr, h => by
    rw [tell_cons] at h
    split at h
    · refine tell_sm (fun y hy => hx y (List.mem_cons_of_mem _ hy)) ⟨by have := hr.len; simpa using this, fun v hv => ?_⟩ h
      rcases List.mem_or_eq_of_mem_set hv with hv | hv
      · exact hr.all v hv
      · subst hv; exact hx x List.mem_cons_self
    · cases h
def okT (r : List Val) : Option (List Val) → Bool × List Val | some x => (true, x) | none => (false, r)
def okF (r : List Val) : Option (List Val) → List Val × Bool | some x => (x, true) | none => (r, false)
theorem memK_t {κ : Type} [DecidableEq κ] {q : κ} {ks : List κ} (h : q ∈ ks) : memK q ks = true := by unfold memK; exact decide_eq_true_iff.2 h
theorem memK_f {κ : Type} [DecidableEq κ] {q : κ} {ks : List κ} (h : q ∉ ks) : memK q ks = false := by unfold memK; exact decide_eq_false_iff_not.2 h
theorem l99 {s : List Col} {xs : List Set} (hf : BIG ≤ fu) (hs : s.length ≤ 2000000) (hx : SmX xs) : ∀ (m n k : Nat) (met : List (List UInt8)) (row : List Val), k + m = xs.length → m < n → row.length = s.length →
    ∃ r, f99_l1 fu s xs n (k : Int) met row = some (okT r (tell s met row (xs.drop k))) := by
  have hN := hx.len
  intro m
  induction m with
  | zero =>
    intro n k met row hk hn hl
    obtain ⟨n, rfl⟩ : ∃ i, n = i + 1 := ⟨n - 1, by omega⟩
    have : k = xs.length := by omega
    subst this
    refine ⟨row, ?_⟩
    rw [f99_l1, nlt, List.drop_length]; rfl
  | succ m ih =>
    intro n k met row hk hn hl
    obtain ⟨n, rfl⟩ : ∃ i, n = i + 1 := ⟨n - 1, by omega⟩
    have hkl : k < xs.length := by omega
    rw [f99_l1, ltR hkl, cond_true, ge0, Bool.and_self, cond_true, Int.toNat_natCast, f68_is hf hs, Option.bind_some, dropN (d := default) hkl, tell_cons]
    by_cases h1 : atN s (xs.getD k default).name < s.length
    case neg => exact ⟨row, by rw [atI_no h1, if_neg fun h => h1 h.there]; rfl⟩
    rw [atI_lt h1, decide_eq_false (show ¬ (atN s (xs.getD k default).name : Int) < 0 by omega), cond_false]
    by_cases h2 : (xs.getD k default).name ∈ met
    · have hm : memK (xs.getD k default).name met = true := memK_t h2
      exact ⟨row, by rw [hm, if_neg fun h => h.fresh h2]; rfl⟩
    have hm : memK (xs.getD k default).name met = false := memK_f h2
    rw [hm, cond_false, f25_sm hf (hx.get hkl), Option.bind_some]
    by_cases h3 : ValOK (xs.getD k default).val
    case neg => exact ⟨row, by rw [B_f h3, if_neg fun h => h3 h.ok]; rfl⟩
    rw [B_t h3]
    simp only [Bool.not_true, cond_false]
    rw [inR h1, cond_true, Int.toNat_natCast, f92_is, Option.bind_some]
    by_cases h4 : Fits (xs.getD k default).val (s.getD (atN s (xs.getD k default).name) default).kind
    case neg =>
      have h4' : ¬ ((xs.getD k default).val.kind = 0 ∨ (xs.getD k default).val.kind = (s.getD (atN s (xs.getD k default).name) default).kind) := h4
      exact ⟨row, by rw [B_f h4', if_neg fun h => h4 h.fits]; rfl⟩
    have h4' : (xs.getD k default).val.kind = 0 ∨ (xs.getD k default).val.kind = (s.getD (atN s (xs.getD k default).name) default).kind := h4
    rw [B_t h4', if_pos ⟨h1, h2, h3, h4⟩]
    unfold f99_j2
    simp only [Bool.not_true, cond_false]
    rw [inR (show atN s (xs.getD k default).name < row.length by omega), cond_true, Int.toNat_natCast, Int.toNat_natCast, hm, cond_false, succI hkl (by unfold BIG; omega)]
    exact ih n (k + 1) _ _ (by omega) (by omega) (by simpa using hl)
theorem f99_is {s : List Col} {xs : List Set} {row : List Val} (hf : BIG ≤ fu) (hs : s.length ≤ 2000000) (hx : SmX xs) (hl : row.length = s.length) : ∃ r, f99 fu s row xs = some (okT r (tell s [] row xs)) := by
  have := l99 (fu := fu) (s := s) (xs := xs) hf hs hx xs.length fu 0 [] row (by omega) (by have := hx.len; unfold BIG at hf; omega) hl
  exact this
theorem l100 {s : List Col} {xs : List Set} (hf : BIG ≤ fu) (hs : s.length ≤ 2000000) (hx : SmX xs) : ∀ (m n k : Nat) (row : List Val), k + m = xs.length → m < n → row.length = s.length →
    ∃ r, f100_l1 fu s xs n (k : Int) row = some (okF r (tell s ((xs.take k).map (·.name)) row (xs.drop k))) := by
  have hN := hx.len
  intro m
  induction m with
  | zero =>
    intro n k row hk hn hl
    obtain ⟨n, rfl⟩ : ∃ i, n = i + 1 := ⟨n - 1, by omega⟩
    have : k = xs.length := by omega
    subst this
    refine ⟨row, ?_⟩
    rw [f100_l1, nlt, List.drop_length]; rfl
  | succ m ih =>
    intro n k row hk hn hl
    obtain ⟨n, rfl⟩ : ∃ i, n = i + 1 := ⟨n - 1, by omega⟩
    have hkl : k < xs.length := by omega
    have hmem : (xs.getD k default).name ∈ (xs.take k).map (·.name) ↔ ∃ j, j < k ∧ (xs.getD j default).name = (xs.getD k default).name := by
      rw [List.mem_map]
      constructor
      · rintro ⟨x, hx, e⟩
        obtain ⟨j, hj, rfl⟩ := List.getElem_of_mem hx
        have hj' : j < k := by simp at hj; omega
        refine ⟨j, hj', ?_⟩
        rw [List.getElem_take] at e
        rw [getD_lt (show j < xs.length by omega)]; exact e
      · rintro ⟨j, hj, e⟩
        refine ⟨xs.getD j default, ?_, e⟩
        rw [getD_lt (show j < xs.length by omega)]
        exact List.mem_take_iff_getElem.2 ⟨j, by omega, rfl⟩
    rw [f100_l1, ltR hkl, cond_true, ge0, Bool.and_self, cond_true, Int.toNat_natCast, f108_is hf hs, Option.bind_some, dropN (d := default) hkl, tell_cons]
    by_cases h1 : atN s (xs.getD k default).name < s.length
    case neg => exact ⟨row, by rw [atI_no h1, if_neg fun h => h1 h.there]; rfl⟩
    rw [atI_lt h1, decide_eq_false (show ¬ (atN s (xs.getD k default).name : Int) < 0 by omega), cond_false, cond_true, f119_sm hf (hx.get hkl), Option.bind_some]
    by_cases h3 : ValOK (xs.getD k default).val
    case neg => exact ⟨row, by rw [B_f h3, if_neg fun h => h3 h.ok]; rfl⟩
    rw [B_t h3]
    simp only [Bool.not_true, cond_false, cond_true]
    have hj : f100_j2 fu xs (k : Int) row (atN s (xs.getD k default).name : Int) (f100_l1 fu s xs n) false = @ite _ ((xs.getD k default).name ∈ (xs.take k).map (·.name)) (Classical.propDecidable _) (some (row, false)) (f100_l1 fu s xs n (IntKind.i64.wrap ((k : Int) + 1)) (row.set (atN s (xs.getD k default).name) (xs.getD k default).val)) := by
      unfold f100_j2
      rw [cond_false, loopE (L := f100_l2 xs (k : Int) row (atN s (xs.getD k default).name : Int) (f100_l1 fu s xs n)) (N := k) (fun j => (xs.getD j default).name = (xs.getD k default).name) (some (row, false)) (f100_l1 fu s xs n (IntKind.i64.wrap ((k : Int) + 1)) (row.set (atN s (xs.getD k default).name) (xs.getD k default).val)) (by unfold BIG; omega) (fun q => ?_) (fun q j hjk hq => ?_) (fun q j hjk hq => ?_) (fu := fu) (by unfold BIG at hf; omega)]
      · by_cases h : (xs.getD k default).name ∈ (xs.take k).map (·.name)
        · rw [if_pos h, if_pos (hmem.1 h)]
        · rw [if_neg h, if_neg fun h' => h (hmem.2 h')]
      · rw [f100_l2, nlt, cond_false, inR hkl, cond_true, inR (show atN s (xs.getD k default).name < row.length by omega), cond_true, Int.toNat_natCast, Int.toNat_natCast]
      · rw [f100_l2, ltR hjk, cond_true, inR (show j < xs.length by omega), cond_true, inR hkl, cond_true, Int.toNat_natCast, Int.toNat_natCast, decide_eq_true hq]; rfl
      · rw [f100_l2, ltR hjk, cond_true, inR (show j < xs.length by omega), cond_true, inR hkl, cond_true, Int.toNat_natCast, Int.toNat_natCast, decide_eq_false hq]; rfl
    have hfin : Fits (xs.getD k default).val (s.getD (atN s (xs.getD k default).name) default).kind → ∃ r, f100_j2 fu xs (k : Int) row (atN s (xs.getD k default).name : Int) (f100_l1 fu s xs n) false = some (okF r (@ite _ (Told s ((xs.take k).map (·.name)) (xs.getD k default)) (Classical.propDecidable _) (tell s ((xs.take k).map (·.name) ++ [(xs.getD k default).name]) (row.set (atN s (xs.getD k default).name) (xs.getD k default).val) (xs.drop (k + 1))) none)) := fun h4 => by
      rw [hj]
      by_cases h2 : (xs.getD k default).name ∈ (xs.take k).map (·.name)
      · exact ⟨row, by rw [if_pos h2, if_neg fun h => h.fresh h2]; rfl⟩
      · rw [if_neg h2, if_pos ⟨h1, h2, h3, h4⟩, succI hkl (by unfold BIG; omega)]
        have e : (xs.take k).map (·.name) ++ [(xs.getD k default).name] = (xs.take (k + 1)).map (·.name) := by rw [takeN (d := default) hkl, List.map_append]; rfl
        rw [e]
        exact ih n (k + 1) _ (by omega) (by omega) (by simpa using hl)
    by_cases h5 : (xs.getD k default).val.kind = 0
    · rw [decide_eq_true h5]
      exact hfin (.inl h5)
    · rw [decide_eq_false h5]
      simp only [Bool.not_false, cond_true]
      rw [inR h1, cond_true, Int.toNat_natCast]
      by_cases h6 : (xs.getD k default).val.kind = (s.getD (atN s (xs.getD k default).name) default).kind
      · rw [decide_eq_true h6]
        exact hfin (.inr h6)
      · rw [decide_eq_false h6]
        exact ⟨row, by rw [if_neg fun h => h.fits.elim h5 h6]; rfl⟩
theorem f100_is {s : List Col} {xs : List Set} {row : List Val} (hf : BIG ≤ fu) (hs : s.length ≤ 2000000) (hx : SmX xs) (hl : row.length = s.length) : ∃ r, f100 fu s row xs = some (okF r (tell s [] row xs)) := by
  have := l100 (fu := fu) (s := s) (xs := xs) hf hs hx xs.length fu 0 row (by omega) (by have := hx.len; unfold BIG at hf; omega) hl
  unfold f100
  rw [cap (by rw [List.length_nil]; omega)]
  exact this
def defs (s : List Col) : List Val := s.map (·.def_)
theorem defs_len (s : List Col) : (defs s).length = s.length := by simp [defs]
theorem defs_get {s : List Col} {k : Nat} (hk : k < s.length) : (defs s).getD k default = (s.getD k default).def_ := by
  unfold defs
  rw [getD_lt (by simpa using hk), getD_lt hk]; simp
theorem f101_is {s : List Col} (hf : BIG ≤ fu) (hs : s.length ≤ 2000000) : f101 fu s = some (defs s) := by
  have key : ∀ (m n k : Nat), k + m = s.length → m < n → f101_l1 s n (k : Int) ((defs s).take k) = some (defs s) := by
    intro m
    induction m with
    | zero =>
      intro n k hk hn
      obtain ⟨n, rfl⟩ : ∃ i, n = i + 1 := ⟨n - 1, by omega⟩
      have : k = s.length := by omega
      subst this
      rw [f101_l1, nlt, ← defs_len, List.take_length]; rfl
    | succ m ih =>
      intro n k hk hn
      obtain ⟨n, rfl⟩ : ∃ i, n = i + 1 := ⟨n - 1, by omega⟩
      have hkl : k < s.length := by omega
      rw [f101_l1, ltR hkl, cond_true, ge0, Bool.and_self, cond_true, Int.toNat_natCast, cap (by rw [List.length_take, List.length_singleton, defs_len]; omega), cond_true, ← defs_get hkl, ← takeN (by rw [defs_len]; exact hkl), succI hkl (by unfold BIG; omega)]
      exact ih n (k + 1) (by omega) (by omega)
  unfold f101
  exact key s.length fu 0 (by omega) (by unfold BIG at hf; omega)
theorem defs_sm {s : List Col} (h : ShapeOK s) : SmR (defs s) := ⟨by rw [defs_len]; have := h.hi; omega, fun v hv => by
  obtain ⟨c, hc, rfl⟩ := List.mem_map.1 hv
  exact (h.sm.all c hc).def_⟩
open Classical in
noncomputable def codeN (s : List Col) (row : List Val) (rows : List (List Val)) : Int := if ¬ RowOK s row then 2 else if ¬ NoTwice s rows then 3 else 0
theorem f102_is {t : Table} {r : Row} (hf : BIG ≤ fu) (h : Rows t) (h9 : t.rows.length ≤ 500) (hr : SmR r.vals) : f102 fu t r = some (codeN (lastS t) r.vals (r.vals :: (t.rows.filter fun q => !decide (q.id = r.id)).map (nowR t))) := by
  have hN := h.len
  have key : ∀ (m n k : Nat), k + m = t.rows.length → m < n → f102_l1 fu t r (lastS t) n (k : Int) (r.vals :: ((t.rows.take k).filter fun q => !decide (q.id = r.id)).map (nowR t)) = some (codeN (lastS t) r.vals (r.vals :: (t.rows.filter fun q => !decide (q.id = r.id)).map (nowR t))) := by
    intro m
    induction m with
    | zero =>
      intro n k hk hn
      obtain ⟨n, rfl⟩ : ∃ i, n = i + 1 := ⟨n - 1, by omega⟩
      have : k = t.rows.length := by omega
      subst this
      rw [f102_l1, nlt, cond_false, f88_is hf h.rt.okLast hr, Option.bind_some, List.take_length]
      unfold codeN
      by_cases h1 : RowOK (lastS t) r.vals
      case neg => rw [B_f h1, if_pos h1]; rfl
      have hhi := h.rt.okLast.hi
      have hfl : (t.rows.filter fun q => !decide (q.id = r.id)).length ≤ t.rows.length := List.length_filter_le ..
      rw [B_t h1, if_neg (fun h => h h1)]
      simp only [Bool.not_true, cond_false]
      rw [f52_is hf (by omega) (by rw [List.length_cons, List.length_map]; omega) (fun x hx => ?_), Option.bind_some]
      · by_cases h2 : NoTwice (lastS t) (r.vals :: (t.rows.filter fun q => !decide (q.id = r.id)).map (nowR t))
        · rw [B_f (fun h => h h2), if_neg (fun h => h h2)]; rfl
        · rw [B_t h2, if_pos h2]; rfl
      · rcases List.mem_cons.1 hx with rfl | hx
        · exact h1.len
        · obtain ⟨q, hq, rfl⟩ := List.mem_map.1 hx
          exact h.lens _ (List.mem_map.2 ⟨q, (List.mem_filter.1 hq).1, rfl⟩)
    | succ m ih =>
      intro n k hk hn
      obtain ⟨n, rfl⟩ : ∃ i, n = i + 1 := ⟨n - 1, by omega⟩
      have hkl : k < t.rows.length := by omega
      have e : (t.rows.take (k + 1)).filter (fun q => !decide (q.id = r.id)) = (t.rows.take k).filter (fun q => !decide (q.id = r.id)) ++ (if (t.rows.getD k default).id = r.id then [] else [t.rows.getD k default]) := by
        rw [takeN (d := default) hkl, List.filter_append]
        congr 1
        rw [List.filter_cons, List.filter_nil]
        by_cases hd : (t.rows.getD k default).id = r.id
        · rw [if_pos hd, decide_eq_true hd]; rfl
        · rw [if_neg hd, decide_eq_false hd]; rfl
      have hih := ih n (k + 1) (by omega) (by omega)
      rw [e, List.map_append] at hih
      have hfl : ((t.rows.take k).filter fun q => !decide (q.id = r.id)).length ≤ k := Nat.le_trans (List.length_filter_le ..) (by simp; omega)
      rw [f102_l1, ltR hkl, cond_true, ge0, Bool.and_self, cond_true, Int.toNat_natCast]
      by_cases hd : (t.rows.getD k default).id = r.id
      · rw [if_pos hd] at hih
        rw [decide_eq_true hd]
        unfold f102_j2
        simp only [Bool.not_true, cond_false]
        rw [succI hkl (by unfold BIG; omega)]
        simpa using hih
      · rw [if_neg hd] at hih
        rw [decide_eq_false hd]
        simp only [Bool.not_false, cond_true]
        rw [f90_is hf h.rt (h.all k hkl), Option.bind_some, cap (by rw [List.length_cons, List.length_map, List.length_singleton]; omega), cond_true]
        unfold f102_j2
        rw [succI hkl (by unfold BIG; omega)]
        exact hih
  unfold f102
  rw [f53_is hf h.rt, Option.bind_some]
  exact key t.rows.length fu 0 (by omega) (by unfold BIG at hf; omega)
end Go.Proofs.YtejobmamkeoheaaGreatDoor
/- A row put, values set, columns changed: the program and the document do the same, and right tables stay right. -/
namespace Go.Proofs.YtejobmamkeoheaaGreatDoor
open Go Go.HL
variable {fu : Nat}
open Classical in
noncomputable def putT (t : Table) (xs : List Set) : Table × Int :=
  match tell (lastS t) [] (defs (lastS t)) xs with
  | none => (t, 1)
  | some row => if ¬ RowOK (lastS t) row then (t, 2) else if ¬ NoTwice (lastS t) (nows t ++ [row]) then (t, 3) else if t.rows.length = 8 ∨ t.next = 60 then (t, 4)
    else ({ t with rows := t.rows ++ [⟨t.next, (t.changes.length : Int), row⟩], next := t.next + 1 }, 0)
open Classical in
noncomputable def setT (t : Table) (id : Int) (xs : List Set) : Table × Int :=
  if rowN t id < t.rows.length then match tell (lastS t) [] (nowR t (t.rows.getD (rowN t id) default)) xs with
    | none => (t, 1)
    | some row => if ¬ RowOK (lastS t) row then (t, 2) else if ¬ NoTwice (lastS t) ((nows t).set (rowN t id) row) then (t, 3) else ({ t with rows := t.rows.set (rowN t id) ⟨id, (t.changes.length : Int), row⟩ }, 0)
  else (t, 5)
open Classical in
noncomputable def chgT (t : Table) (c : Change) : Table × Int :=
  if ¬ Can (lastS t) c then (t, 1) else if ∃ k, k < t.rows.length ∧ ¬ RowOK (chg (lastS t) c) (chgRow (lastS t) c (nowR t (t.rows.getD k default))) then (t, 2)
  else if t.changes.length = 8 then (t, 4) else ({ t with changes := t.changes ++ [c] }, 0)
theorem rows_snoc {t : Table} (h : Rows t) (h9 : t.rows.length ≤ 500) {row : List Val} (hl : row.length = (lastS t).length) (hr : SmR row) {id n : Int} : Rows { t with rows := t.rows ++ [⟨id, (t.changes.length : Int), row⟩], next := n } := by
  refine ⟨⟨h.rt.first, h.rt.run, h.rt.cs⟩, by simp; omega, fun k hk => ?_⟩
  rw [getD_lt hk]
  have hm := List.getElem_mem hk
  generalize (t.rows ++ [(⟨id, (t.changes.length : Int), row⟩ : Row)])[k] = r at hm
  rcases List.mem_append.1 hm with hm | hm
  · obtain ⟨j, hj, rfl⟩ := List.getElem_of_mem hm
    have := h.all j hj
    rw [getD_lt hj] at this
    exact ⟨⟨this.ver.lo, this.ver.hi⟩, this.len, this.sm⟩
  · simp only [List.mem_singleton] at hm
    subst hm
    refine ⟨⟨by show (0 : Int) ≤ (t.changes.length : Int); omega, Int.le_refl _⟩, ?_, hr⟩
    show row.length = (shapeAt t ((t.changes.length : Int).toNat)).length
    rw [Int.toNat_natCast, shapeAt_last]; exact hl
theorem rows_set {t : Table} (h : Rows t) {k : Nat} {row : List Val} (hl : row.length = (lastS t).length) (hr : SmR row) {id : Int} : Rows { t with rows := t.rows.set k ⟨id, (t.changes.length : Int), row⟩ } := by
  refine ⟨⟨h.rt.first, h.rt.run, h.rt.cs⟩, by have := h.len; simpa using this, fun j hj => ?_⟩
  rw [getD_lt hj]
  have hm := List.getElem_mem hj
  generalize (t.rows.set k (⟨id, (t.changes.length : Int), row⟩ : Row))[j] = r at hm
  rcases List.mem_or_eq_of_mem_set hm with hm | hm
  · obtain ⟨i, hi, rfl⟩ := List.getElem_of_mem hm
    have := h.all i hi
    rw [getD_lt hi] at this
    exact ⟨⟨this.ver.lo, this.ver.hi⟩, this.len, this.sm⟩
  · subst hm
    refine ⟨⟨by show (0 : Int) ≤ (t.changes.length : Int); omega, Int.le_refl _⟩, ?_, hr⟩
    show row.length = (shapeAt t ((t.changes.length : Int).toNat)).length
    rw [Int.toNat_natCast, shapeAt_last]; exact hl
theorem nows_snoc (t : Table) {row : List Val} {id n : Int} : nows { t with rows := t.rows ++ [⟨id, (t.changes.length : Int), row⟩], next := n } = nows t ++ [row] := by
  show (t.rows ++ [_]).map (nowR t) = _
  rw [List.map_append]
  show nows t ++ [nowR t _] = _
  rw [nowR_new]
theorem nows_set (t : Table) {k : Nat} {row : List Val} {id : Int} : nows { t with rows := t.rows.set k ⟨id, (t.changes.length : Int), row⟩ } = (nows t).set k row := by
  show (t.rows.set k _).map (nowR t) = _
  rw [List.map_set]
  show (nows t).set k (nowR t _) = _
  rw [nowR_new]
theorem codeN_need {s : List Col} {row : List Val} {rows : List (List Val)} (h : ¬ RowOK s row) : codeN s row rows = 2 := if_pos h
theorem codeN_once {s : List Col} {row : List Val} {rows : List (List Val)} (h : RowOK s row) (h2 : ¬ NoTwice s rows) : codeN s row rows = 3 := by unfold codeN; rw [if_neg (fun h' => h' h), if_pos h2]
theorem codeN_fine {s : List Col} {row : List Val} {rows : List (List Val)} (h : RowOK s row) (h2 : NoTwice s rows) : codeN s row rows = 0 := by unfold codeN; rw [if_neg (fun h' => h' h), if_neg (fun h' => h' h2)]
theorem l64 {t q4 : Table} {xs : List Set} {s : List Col} (hs : s.length ≤ 2000000) : ∀ (m n k : Nat) (row : List Val), k + m = s.length → m < n → row.length = s.length → (∀ j, j < k → row.getD j default = (s.getD j default).def_) →
    ∃ n', f64_l1 fu t xs s q4 n (k : Int) row = f64_l1 fu t xs s q4 (n' + 1) (s.length : Int) (defs s) := by
  intro m
  induction m with
  | zero =>
    intro n k row hk hn hl hrow
    obtain ⟨n, rfl⟩ : ∃ i, n = i + 1 := ⟨n - 1, by omega⟩
    have : k = s.length := by omega
    subst this
    refine ⟨n, ?_⟩
    have e : row = defs s := List.ext_getElem (by rw [hl, defs_len]) fun j h1 h2 => by
      have h3 := hrow j (by omega)
      rw [← defs_get (by omega), getD_lt h1, getD_lt h2] at h3
      exact h3
    rw [e]
  | succ m ih =>
    intro n k row hk hn hl hrow
    obtain ⟨n, rfl⟩ : ∃ i, n = i + 1 := ⟨n - 1, by omega⟩
    have hkl : k < s.length := by omega
    obtain ⟨n', h⟩ := ih n (k + 1) (row.set k (s.getD k default).def_) (by omega) (by omega) (by simpa using hl) (fun j hj => by
      rw [getD_set (by omega)]
      by_cases hjk : j = k
      · rw [if_pos hjk, hjk]
      · rw [if_neg hjk]; exact hrow j (by omega))
    refine ⟨n', ?_⟩
    rw [← h]
    rw [f64_l1, ltR hkl, cond_true, ge0, Bool.and_self, cond_true, ltR (show k < row.length by omega), Bool.and_self, cond_true, Int.toNat_natCast, succI hkl (by unfold BIG; omega)]
theorem f59_put {t : Table} (hf : BIG ≤ fu) (h : Rows t) (h9 : t.rows.length ≤ 500) {row : List Val} (hl : row.length = (lastS t).length) (hr : SmR row) {id n : Int} : f59 fu (⟨t.first, t.changes, t.rows ++ [(⟨id, (t.changes.length : Int), row⟩ : Row)], n⟩ : Table) = some (B (NoTwice (lastS t) (nows t ++ [row]))) := by
  have := f59_is hf (rows_snoc h h9 hl hr (id := id) (n := n))
  rw [nows_snoc] at this
  exact this
theorem f64_is {t : Table} {xs : List Set} (hf : BIG ≤ fu) (h : TabOK t) (hs : SmT t) (hx : SmX xs) : f64 fu t xs = some (putT t xs) := by
  have hrt := h.rt hs
  have hok := hrt.okLast
  have hhi := hok.hi
  have h8 := h.nrow; have hlo := h.lo; have hnx := h.hi
  unfold f64 putT
  rw [f66_is hf hrt, Option.bind_some, f80_is hf hs, Option.bind_some]
  have hc : (decide (0 ≤ ((lastS t).length : Int)) && decide (((lastS t).length : Int) ≤ (CAP : Int))) = true := by
    rw [CAP_eq]; simp; omega
  rw [hc, cond_true, Int.toNat_natCast]
  obtain ⟨n', e⟩ := l64 (fu := fu) (t := t) (q4 := t) (xs := xs) (s := lastS t) (by omega) (lastS t).length fu 0 (List.replicate (lastS t).length d0_47) (by omega) (by unfold BIG at hf; omega) (by simp) (fun j hj => by omega)
  rw [show ((0 : Nat) : Int) = 0 from rfl] at e
  rw [e, f64_l1, nlt, cond_false]
  obtain ⟨r, e2⟩ := f99_is (s := lastS t) (row := defs (lastS t)) hf (by omega) hx (defs_len _)
  rw [e2, Option.bind_some]
  cases ht : tell (lastS t) [] (defs (lastS t)) xs with
  | none =>
    simp only [okT, Bool.not_false, cond_true]
    first | rfl | (rw [f80_is hf hs]; rfl)
  | some row =>
    have hl := tell_len ht
    rw [defs_len] at hl
    have hr := tell_sm hx.all (defs_sm hok) ht
    simp only [okT, Bool.not_true, cond_false]
    rw [cap (by rw [List.length_singleton]; omega), cond_true, f77_is (by rw [List.length_append, List.length_singleton]; omega), Option.bind_some, f58_is hf hr, Option.bind_some]
    by_cases h1 : RowOK (lastS t) row
    case neg =>
      rw [B_f h1, if_pos h1]
      simp only [Bool.not_false, cond_true]
      first | rfl | (rw [f80_is hf hs]; rfl)
    rw [B_t h1, if_neg (fun h => h h1)]
    simp only [Bool.not_true, cond_false]
    rw [f59_put hf (h.rws hs) (by omega) hl hr, Option.bind_some]
    by_cases h2 : NoTwice (lastS t) (nows t ++ [row])
    case neg =>
      rw [B_f h2, if_pos h2]
      simp only [Bool.not_false, cond_true]
      first | rfl | (rw [f80_is hf hs]; rfl)
    rw [B_t h2, if_neg (fun h => h h2)]
    simp only [Bool.not_true, cond_false, f64_j2]
    rw [wrapI (x := t.next + 1) (by omega) (by omega)]
    by_cases h3 : t.rows.length = 8
    · rw [decide_eq_true (show (t.rows.length : Int) = 8 by omega), if_pos (.inl h3), cond_true, cond_true]; first | rfl | (rw [f80_is hf hs]; rfl)
    rw [decide_eq_false (show ¬ (t.rows.length : Int) = 8 by omega), cond_false]
    by_cases h4 : t.next = 60
    · rw [decide_eq_true h4, if_pos (.inr h4), cond_true]; first | rfl | (rw [f80_is hf hs]; rfl)
    · rw [decide_eq_false h4, if_neg (fun h => h.elim h3 h4)]; rfl
theorem filter_new {t : Table} (h : TabOK t) : (t.rows.filter fun q => !decide (q.id = t.next)) = t.rows := by
  refine List.filter_eq_self.2 fun r hr => ?_
  have := (h.rg r hr).hi
  simp; omega
theorem f65_is {t : Table} {xs : List Set} (hf : BIG ≤ fu) (h : TabOK t) (hs : SmT t) (hx : SmX xs) : f65 fu t xs = some (putT t xs) := by
  have hrt := h.rt hs
  have hok := hrt.okLast
  have hhi := hok.hi
  have h8 := h.nrow; have hlo := h.lo; have hnx := h.hi
  unfold f65 putT
  rw [o53, o102, f53_is hf hrt, Option.bind_some, f101_is hf (by omega), Option.bind_some]
  obtain ⟨r, e2⟩ := f100_is (s := lastS t) (row := defs (lastS t)) hf (by omega) hx (defs_len _)
  rw [e2, Option.bind_some]
  cases ht : tell (lastS t) [] (defs (lastS t)) xs with
  | none => rfl
  | some row =>
    have hr := tell_sm hx.all (defs_sm hok) ht
    simp only [okF, Bool.not_true, cond_false]
    rw [f102_is hf (h.rws hs) (by omega) hr, Option.bind_some]
    simp only
    rw [filter_new h]
    have hperm : NoTwice (lastS t) (row :: t.rows.map (nowR t)) ↔ NoTwice (lastS t) (nows t ++ [row]) := NoTwice.perm (snoc_perm _ _)
    by_cases h1 : RowOK (lastS t) row
    case neg => rw [codeN_need h1, if_pos h1]; rfl
    rw [if_neg (fun h => h h1)]
    by_cases h2 : NoTwice (lastS t) (nows t ++ [row])
    case neg => rw [codeN_once h1 (fun h => h2 (hperm.1 h)), if_pos h2]; rfl
    rw [codeN_fine h1 (hperm.2 h2), if_neg (fun h => h h2)]
    simp only [decide_true, cond_true, f65_j1, f65_j2]
    rw [wrapI (x := t.next + 1) (by omega) (by omega)]
    by_cases h3 : t.rows.length = 8
    · rw [decide_eq_true (show (8 : Int) ≤ (t.rows.length : Int) by omega), if_pos (.inl h3)]; rfl
    rw [decide_eq_false (show ¬ (8 : Int) ≤ (t.rows.length : Int) by omega), cond_false]
    by_cases h4 : t.next = 60
    · rw [decide_eq_true (show (60 : Int) ≤ t.next by omega), if_pos (.inr h4)]; rfl
    · rw [decide_eq_false (show ¬ (60 : Int) ≤ t.next by omega), if_neg (fun h => h.elim h3 h4), cond_false, cap (by rw [List.length_singleton]; omega)]; rfl
theorem f59_set {t : Table} (hf : BIG ≤ fu) (h : Rows t) {k : Nat} {row : List Val} (hl : row.length = (lastS t).length) (hr : SmR row) {id : Int} : f59 fu (⟨t.first, t.changes, t.rows.set k (⟨id, (t.changes.length : Int), row⟩ : Row), t.next⟩ : Table) = some (B (NoTwice (lastS t) ((nows t).set k row))) := by
  have := f59_is hf (rows_set h hl hr (k := k) (id := id))
  rw [nows_set] at this
  exact this
theorem f75_is {t : Table} {id : Int} {xs : List Set} (hf : BIG ≤ fu) (h : TabOK t) (hs : SmT t) (hx : SmX xs) : f75 fu t id xs = some (setT t id xs) := by
  have hrt := h.rt hs
  have hok := hrt.okLast
  have hhi := hok.hi
  unfold f75 setT
  rw [f48_is hf hs.nrow, Option.bind_some]
  by_cases h0 : rowN t id < t.rows.length
  case neg => rw [rowI_no h0, if_neg h0]; first | rfl | (rw [f80_is hf hs]; rfl)
  have hin := (h.rws hs).all _ h0
  have hnl := nowR_len hrt hin
  rw [rowI_lt h0, if_pos h0, decide_eq_false (show ¬ (rowN t id : Int) < 0 by omega), cond_false, f66_is hf hrt, Option.bind_some, f80_is hf hs, Option.bind_some, inR h0, cond_true, Int.toNat_natCast, f49_is hf hrt hin, Option.bind_some]
  obtain ⟨r, e2⟩ := f99_is (s := lastS t) (row := nowR t (t.rows.getD (rowN t id) default)) hf (by omega) hx hnl
  rw [e2, Option.bind_some]
  cases ht : tell (lastS t) [] (nowR t (t.rows.getD (rowN t id) default)) xs with
  | none =>
    simp only [okT, Bool.not_false, cond_true]
    first | rfl | (rw [f80_is hf hs]; rfl)
  | some row =>
    have hl := tell_len ht
    rw [hnl] at hl
    have hr := tell_sm hx.all (nowR_sm hrt hin) ht
    simp only [okT, Bool.not_true, cond_false, cond_true]
    rw [f58_is hf hr, Option.bind_some]
    by_cases h1 : RowOK (lastS t) row
    case neg =>
      rw [B_f h1, if_pos h1]
      simp only [Bool.not_false, cond_true]
      first | rfl | (rw [f80_is hf hs]; rfl)
    rw [B_t h1, if_neg (fun h => h h1)]
    simp only [Bool.not_true, cond_false]
    rw [f59_set hf (h.rws hs) hl hr, Option.bind_some]
    by_cases h2 : NoTwice (lastS t) ((nows t).set (rowN t id) row)
    case neg =>
      rw [B_f h2, if_pos h2]
      simp only [Bool.not_false, cond_true]
      first | rfl | (rw [f80_is hf hs]; rfl)
    rw [B_t h2, if_neg (fun h => h h2)]; rfl
theorem filter_set {t : Table} (h : TabOK t) {id : Int} (h0 : rowN t id < t.rows.length) : (t.rows.filter fun q => !decide (q.id = id)) = t.rows.eraseIdx (rowN t id) := by
  have e := rowN_id h0
  rw [getD_lt h0] at e
  have := filter_erase h.asc h0
  rw [e] at this
  exact this
theorem f76_is {t : Table} {id : Int} {xs : List Set} (hf : BIG ≤ fu) (h : TabOK t) (hs : SmT t) (hx : SmX xs) : f76 fu t id xs = some (setT t id xs) := by
  have hrt := h.rt hs
  have hok := hrt.okLast
  have hhi := hok.hi
  have h8 := h.nrow
  unfold f76 setT
  rw [o82, o53, o90, o102, f82_is hf hs.nrow, Option.bind_some]
  by_cases h0 : rowN t id < t.rows.length
  case neg => rw [rowI_no h0, if_neg h0]; rfl
  have hin := (h.rws hs).all _ h0
  have hnl := nowR_len hrt hin
  rw [rowI_lt h0, if_pos h0, decide_eq_false (show ¬ (rowN t id : Int) < 0 by omega), cond_false, f53_is hf hrt, Option.bind_some, inR h0, cond_true, Int.toNat_natCast, f90_is hf hrt hin, Option.bind_some]
  obtain ⟨r, e2⟩ := f100_is (s := lastS t) (row := nowR t (t.rows.getD (rowN t id) default)) hf (by omega) hx hnl
  rw [e2, Option.bind_some]
  cases ht : tell (lastS t) [] (nowR t (t.rows.getD (rowN t id) default)) xs with
  | none => rfl
  | some row =>
    have hr := tell_sm hx.all (nowR_sm hrt hin) ht
    simp only [okF, Bool.not_true, cond_false]
    rw [f102_is hf (h.rws hs) (by omega) hr, Option.bind_some]
    simp only
    rw [filter_set h h0]
    have hperm : NoTwice (lastS t) (row :: (t.rows.eraseIdx (rowN t id)).map (nowR t)) ↔ NoTwice (lastS t) ((nows t).set (rowN t id) row) := by
      rw [show (t.rows.eraseIdx (rowN t id)).map (nowR t) = (t.rows.map (nowR t)).eraseIdx (rowN t id) by rw [List.eraseIdx_eq_take_drop_succ, List.eraseIdx_eq_take_drop_succ, List.map_append, List.map_take, List.map_drop]]
      exact NoTwice.perm (set_perm (by rw [List.length_map]; exact h0) _)
    by_cases h1 : RowOK (lastS t) row
    case neg => rw [codeN_need h1, if_pos h1]; rfl
    rw [if_neg (fun h => h h1)]
    by_cases h2 : NoTwice (lastS t) ((nows t).set (rowN t id) row)
    case neg => rw [codeN_once h1 (fun h => h2 (hperm.1 h)), if_pos h2]; rfl
    rw [codeN_fine h1 (hperm.2 h2), if_neg (fun h => h h2)]
    rfl
theorem rt_snoc {t : Table} (h : Rt t) {c : Change} (hc : Can (lastS t) c) (hl : t.changes.length ≤ 500) (hsm : SmCh c) : Rt { t with changes := t.changes ++ [c] } :=
  ⟨h.first, ⟨_, run_snoc h.last hc⟩, ⟨by simp; omega, fun x hx => by
    rcases List.mem_append.1 hx with hx | hx
    · exact h.cs.all x hx
    · simp only [List.mem_singleton] at hx; subst hx; exact hsm⟩⟩
theorem rowIn_snoc {t : Table} {r : Row} (h : RowIn t r) {c : Change} : RowIn { t with changes := t.changes ++ [c] } r := by
  have hv1 : r.ver.toNat ≤ t.changes.length := by have := h.ver.hi; have := h.ver.lo; omega
  refine ⟨⟨h.ver.lo, by have := h.ver.hi; show r.ver ≤ ((t.changes ++ [c]).length : Int); simp; omega⟩, ?_, h.sm⟩
  rw [shapeAt_snoc hv1]; exact h.len
theorem chgRow_sm {t : Table} {r : Row} (hrt : Rt t) (hin : RowIn t r) {c : Change} (hsm : SmCh c) : SmR (chgRow (lastS t) c (nowR t r)) :=
  sm_chgRow (nowR_sm hrt hin) (by have := nowR_len hrt hin; have := hrt.okLast.hi; omega) hsm
theorem f71_is {t : Table} {c : Change} (hf : BIG ≤ fu) (h : TabOK t) (hs : SmT t) (hc : SmCh c) : f71 fu t c = some (chgT t c) := by
  have hrt := h.rt hs
  have hok := hrt.okLast
  have h8 := h.nch
  have hN := hs.nrow
  unfold f71 chgT
  rw [f66_is hf hrt, Option.bind_some, f78_is hf hok hc, Option.bind_some]
  unfold doC
  by_cases h1 : Can (lastS t) c
  case neg =>
    rw [if_neg h1, if_pos h1]
    simp only [Bool.not_false, cond_true]
    first | rfl | (rw [f80_is hf hs]; rfl)
  rw [if_pos h1, if_neg (fun h => h h1)]
  simp only [Bool.not_true, cond_false]
  rw [f80_is hf hs, Option.bind_some, cap (by rw [List.length_singleton]; omega), cond_true, f109_is (by rw [List.length_append, List.length_singleton]; omega), Option.bind_some]
  rw [loopE (L := f71_l1 fu t (chg (lastS t) c, true) t (t.changes ++ [c])) (N := t.rows.length) (fun k => ¬ RowOK (chg (lastS t) c) (chgRow (lastS t) c (nowR t (t.rows.getD k default)))) (some (t, 2)) (some (if t.changes.length = 8 then (t, 4) else ({ t with changes := t.changes ++ [c] }, 0))) (by unfold BIG; omega) (fun n => ?_) (fun n k hk hp => ?_) (fun n k hk hp => ?_) (by unfold BIG at hf; omega)]
  · by_cases hE : ∃ k, k < t.rows.length ∧ ¬ RowOK (chg (lastS t) c) (chgRow (lastS t) c (nowR t (t.rows.getD k default)))
    · rw [if_pos hE, if_pos hE]
    · rw [if_neg hE, if_neg hE]
  · rw [f71_l1, nlt, cond_false]
    by_cases h2 : t.changes.length = 8
    · rw [decide_eq_true (show (t.changes.length : Int) = 8 by omega), if_pos h2, cond_true]; first | rfl | (rw [f80_is hf hs]; rfl)
    · rw [decide_eq_false (show ¬ (t.changes.length : Int) = 8 by omega), if_neg h2]; rfl
  all_goals
    have hin := (h.rws hs).all k hk
    have e : f49 fu (⟨t.first, t.changes ++ [c], t.rows, t.next⟩ : Table) (t.rows.getD k default) = some (chgRow (lastS t) c (nowR t (t.rows.getD k default))) := by
      rw [← nowR_snoc hrt hin.ver]
      exact f49_is hf (rt_snoc hrt h1 (by omega) hc) (rowIn_snoc hin)
    rw [f71_l1, ltR hk, cond_true, ge0, Bool.and_self, cond_true, Int.toNat_natCast, e, Option.bind_some, f58_is hf (chgRow_sm hrt hin hc), Option.bind_some]
  · rw [B_f hp]
    simp only [Bool.not_false, cond_true]
    first | rfl | (rw [f80_is hf hs]; rfl)
  · rw [B_t (Classical.not_not.1 hp)]; rfl
theorem f72_is {t : Table} {c : Change} (hf : BIG ≤ fu) (h : TabOK t) (hs : SmT t) (hc : SmCh c) : f72 fu t c = some (chgT t c) := by
  have hrt := h.rt hs
  have hok := hrt.okLast
  have h8 := h.nch
  have hN := hs.nrow
  unfold f72 chgT
  rw [o53, o42, f53_is hf hrt, Option.bind_some, f87_is hf hok hc, Option.bind_some]
  unfold doC
  by_cases h1 : Can (lastS t) c
  case neg => rw [if_neg h1, if_pos h1]; rfl
  have hrt' := rt_snoc hrt h1 (by omega) hc
  rw [if_pos h1, if_neg (fun h => h h1)]
  simp only [Bool.not_true, cond_false]
  have e53 : f53 fu (⟨t.first, t.changes ++ [c], t.rows, t.next⟩ : Table) = some (chg (lastS t) c) := by
    rw [← lastS_snoc hrt.last h1]
    exact f53_is hf hrt'
  rw [f42_is hf hs, Option.bind_some, cap (by rw [List.length_singleton]; omega), cond_true, e53, Option.bind_some]
  rw [loopE (L := f72_l1 fu t c t (chg (lastS t) c)) (N := t.rows.length) (fun k => ¬ RowOK (chg (lastS t) c) (chgRow (lastS t) c (nowR t (t.rows.getD k default)))) (some (t, 2)) (some (if t.changes.length = 8 then (t, 4) else ({ t with changes := t.changes ++ [c] }, 0))) (by unfold BIG; omega) (fun n => ?_) (fun n k hk hp => ?_) (fun n k hk hp => ?_) (by unfold BIG at hf; omega)]
  · by_cases hE : ∃ k, k < t.rows.length ∧ ¬ RowOK (chg (lastS t) c) (chgRow (lastS t) c (nowR t (t.rows.getD k default)))
    · rw [if_pos hE, if_pos hE]
    · rw [if_neg hE, if_neg hE]
  · rw [f72_l1, nlt, cond_false]
    by_cases h2 : t.changes.length = 8
    · rw [decide_eq_true (show (8 : Int) ≤ (t.changes.length : Int) by omega), if_pos h2]; rfl
    · rw [decide_eq_false (show ¬ (8 : Int) ≤ (t.changes.length : Int) by omega), if_neg h2]; rfl
  all_goals
    have hin := (h.rws hs).all k hk
    have e : f90 fu (⟨t.first, t.changes ++ [c], t.rows, t.next⟩ : Table) (t.rows.getD k default) = some (chgRow (lastS t) c (nowR t (t.rows.getD k default))) := by
      rw [← nowR_snoc hrt hin.ver]
      exact f90_is hf hrt' (rowIn_snoc hin)
    rw [f72_l1, ltR hk, cond_true, ge0, Bool.and_self, cond_true, Int.toNat_natCast, o90, e, Option.bind_some, f88_is hf h1.ok (chgRow_sm hrt hin hc), Option.bind_some]
  · rw [B_f hp]; rfl
  · rw [B_t (Classical.not_not.1 hp)]; rfl
end Go.Proofs.YtejobmamkeoheaaGreatDoor
/- What is done to a right table leaves a right one. -/
namespace Go.Proofs.YtejobmamkeoheaaGreatDoor
open Go Go.HL
variable {fu : Nat}
theorem putT_sm {t : Table} {xs : List Set} (h : TabOK t) (hs : SmT t) (hx : SmX xs) : SmT (putT t xs).1 := by
  unfold putT
  split
  · exact hs
  · rename_i row ht
    by_cases h1 : RowOK (lastS t) row
    case neg => rw [if_pos h1]; exact hs
    rw [if_neg (fun h => h h1)]
    by_cases h2 : NoTwice (lastS t) (nows t ++ [row])
    case neg => rw [if_pos h2]; exact hs
    rw [if_neg (fun h => h h2)]
    by_cases h3 : t.rows.length = 8 ∨ t.next = 60
    · rw [if_pos h3]; exact hs
    · rw [if_neg h3]
      refine ⟨hs.first, hs.cs, by have := h.nrow; simp; omega, fun k hk => ?_⟩
      rw [getD_lt hk]
      rcases List.mem_append.1 (List.getElem_mem hk) with hm | hm
      · exact hs.row hm
      · simp only [List.mem_singleton] at hm
        rw [hm]
        exact tell_sm hx.all (defs_sm (h.rt hs).okLast) ht
theorem setT_sm {t : Table} {id : Int} {xs : List Set} (h : TabOK t) (hs : SmT t) (hx : SmX xs) : SmT (setT t id xs).1 := by
  unfold setT
  by_cases h0 : rowN t id < t.rows.length
  case neg => rw [if_neg h0]; exact hs
  rw [if_pos h0]
  split
  · exact hs
  · rename_i row ht
    by_cases h1 : RowOK (lastS t) row
    case neg => rw [if_pos h1]; exact hs
    rw [if_neg (fun h => h h1)]
    by_cases h2 : NoTwice (lastS t) ((nows t).set (rowN t id) row)
    case neg => rw [if_pos h2]; exact hs
    rw [if_neg (fun h => h h2)]
    refine ⟨hs.first, hs.cs, by have := hs.nrow; simpa using this, fun k hk => ?_⟩
    rw [getD_lt hk]
    rcases List.mem_or_eq_of_mem_set (List.getElem_mem hk) with hm | hm
    · exact hs.row hm
    · rw [hm]
      exact tell_sm hx.all (nowR_sm (h.rt hs) ((h.rws hs).all _ h0)) ht
theorem chgT_sm {t : Table} {c : Change} (h : TabOK t) (hs : SmT t) (hc : SmCh c) : SmT (chgT t c).1 := by
  unfold chgT
  by_cases h1 : Can (lastS t) c
  case neg => rw [if_pos h1]; exact hs
  rw [if_neg (fun h => h h1)]
  by_cases h2 : ∃ k, k < t.rows.length ∧ ¬ RowOK (chg (lastS t) c) (chgRow (lastS t) c (nowR t (t.rows.getD k default)))
  · rw [if_pos h2]; exact hs
  rw [if_neg h2]
  by_cases h3 : t.changes.length = 8
  · rw [if_pos h3]; exact hs
  rw [if_neg h3]
  exact ⟨hs.first, ⟨by have := h.nch; simp; omega, fun x hx => by
    rcases List.mem_append.1 hx with hx | hx
    · exact hs.cs.all x hx
    · simp only [List.mem_singleton] at hx; subst hx; exact hc⟩, hs.nrow, hs.rows⟩
end Go.Proofs.YtejobmamkeoheaaGreatDoor
