/- Refusals are decided in a fixed order. -/
import Derived.Test.YtbnklinfjmmlfaaGreatDoorQ4M18
set_option linter.unusedVariables false
set_option linter.unusedSimpArgs false
set_option linter.deprecated false
set_option linter.unusedSectionVars false
set_option linter.all false
namespace Go.Proofs.YtbnklinfjmmlfaaGreatDoor
open Go Go.HL
variable {fu : Nat}
theorem bor_B {p q : Prop} : (B p || B q) = B (p ∨ q) := B_or.symm
theorem tell_none {s : List Col} : ∀ {xs : List Set} {met : List (List UInt8)} {row : List Val}, tell s met row xs = none ↔ ∃ i, i < xs.length ∧ ¬ Told s (met ++ (xs.take i).map (·.name)) (xs.getD i default)
  | [], met, row => by
    rw [tell]
    exact ⟨fun h => (by cases h), fun ⟨i, hi, _⟩ => (by simp at hi)⟩
  | x :: xs, met, row => by
    rw [tell_cons]
    by_cases ht : Told s met x
    · rw [if_pos ht, tell_none]
      constructor
      · rintro ⟨i, hi, h⟩
        refine ⟨i + 1, by simpa using hi, ?_⟩
        simpa using h
      · rintro ⟨i, hi, h⟩
        cases i with
        | zero => exact absurd (by simpa using ht) h
        | succ i => exact ⟨i, by simpa using hi, by simpa using h⟩
    · rw [if_neg ht]
      exact ⟨fun _ => ⟨0, by simp, by simpa using ht⟩, fun _ => rfl⟩
def BadAt (s : List Col) (xs : List Set) (i : Nat) : Prop := ¬ Told s ((xs.take i).map (·.name)) (xs.getD i default)
theorem met_iff {xs : List Set} {k : Nat} (hk : k ≤ xs.length) {nm : List UInt8} : nm ∈ (xs.take k).map (·.name) ↔ ∃ j, j < k ∧ (xs.getD j default).name = nm := by
  rw [List.mem_map]
  constructor
  · rintro ⟨x, hx, e⟩
    obtain ⟨j, hj, rfl⟩ := List.getElem_of_mem hx
    have hj' : j < k := by simp at hj; omega
    rw [List.getElem_take] at e
    exact ⟨j, hj', by rw [getD_lt (show j < xs.length by omega)]; exact e⟩
  · rintro ⟨j, hj, e⟩
    refine ⟨xs.getD j default, ?_, e⟩
    rw [getD_lt (show j < xs.length by omega)]
    exact List.mem_take_iff_getElem.2 ⟨j, by omega, rfl⟩
theorem l4b {t : Table} {xs : List Set} {rec1 : Bool → Int → Option Bool} {i : Nat} (hi : i < xs.length) (hx : xs.length ≤ 1000) : ∀ (m n j : Nat) (b : Bool), j + m = i → m < n →
    f4_l2 (t, xs) (i : Int) rec1 n b (j : Int) = rec1 (b || B (∃ k, j ≤ k ∧ k < i ∧ (xs.getD k default).name = (xs.getD i default).name)) (((i + 1 : Nat) : Int)) := by
  intro m
  induction m with
  | zero =>
    intro n j b hj hn
    obtain ⟨n, rfl⟩ : ∃ i, n = i + 1 := ⟨n - 1, by omega⟩
    have : j = i := by omega
    subst this
    rw [f4_l2, nlt, cond_false, succI hi (by unfold BIG; omega), B_f (fun ⟨k, h1, h2, _⟩ => by omega), Bool.or_false]
  | succ m ih =>
    intro n j b hj hn
    obtain ⟨n, rfl⟩ : ∃ i, n = i + 1 := ⟨n - 1, by omega⟩
    have hji : j < i := by omega
    have hs : ∀ b', f4_j21 (j : Int) rec1 (f4_l2 (t, xs) (i : Int) rec1 n) b' = rec1 (b' || B (∃ k, j + 1 ≤ k ∧ k < i ∧ (xs.getD k default).name = (xs.getD i default).name)) (((i + 1 : Nat) : Int)) := fun b' => by
      unfold f4_j21
      rw [succI (show j < xs.length by omega) (by unfold BIG; omega)]
      exact ih n (j + 1) b' (by omega) (by omega)
    rw [f4_l2, ltR hji, cond_true]
    cases b with
    | true => rw [cond_true, hs]; rfl
    | false =>
      simp only [cond_false]
      rw [inR (show j < xs.length by omega), cond_true, inR hi, cond_true, hs, Int.toNat_natCast, Int.toNat_natCast, dec_B, bor_B, Bool.false_or]
      congr 1
      refine B_congr ⟨fun h => ?_, fun ⟨k, h1, h2, h3⟩ => ?_⟩
      · rcases h with h | ⟨k, h1, h2⟩
        · exact ⟨j, Nat.le_refl _, hji, h⟩
        · exact ⟨k, by omega, h2⟩
      · by_cases hk : k = j
        · subst hk; exact .inl h3
        · exact .inr ⟨k, by omega, h2, h3⟩
theorem l4a {t : Table} {xs : List Set} {q3 : Table × Int} {s : List Col} (hf : BIG ≤ fu) (hs : ShapeOK s) (hx : SmX xs) : ∀ (m n i : Nat) (b : Bool), i + m = xs.length → m < n →
    ∃ n', f4_l1 fu (t, xs) q3 s n b (i : Int) = f4_l3 fu (t, xs) q3 s (b || B (∃ k, i ≤ k ∧ k < xs.length ∧ BadAt s xs k)) (f4_l1 fu (t, xs) q3 s n') fu false false 0 := by
  have hN := hx.len
  have hhi := hs.hi
  intro m
  induction m with
  | zero =>
    intro n i b hi hn
    obtain ⟨n, rfl⟩ : ∃ i, n = i + 1 := ⟨n - 1, by omega⟩
    have : i = xs.length := by omega
    subst this
    refine ⟨n, ?_⟩
    rw [f4_l1, nlt, cond_false, B_f (fun ⟨k, h1, h2, _⟩ => by omega), Bool.or_false]
  | succ m ih =>
    intro n i b hi hn
    obtain ⟨n, rfl⟩ : ∃ i, n = i + 1 := ⟨n - 1, by omega⟩
    have hil : i < xs.length := by omega
    have hj19 : ∀ b', ∃ n', f4_j19 fu (t, xs) (i : Int) (f4_l1 fu (t, xs) q3 s n) b' = f4_l3 fu (t, xs) q3 s ((b' || B (∃ k, k < i ∧ (xs.getD k default).name = (xs.getD i default).name)) || B (∃ k, i + 1 ≤ k ∧ k < xs.length ∧ BadAt s xs k)) (f4_l1 fu (t, xs) q3 s n') fu false false 0 := fun b' => by
      unfold f4_j19
      have h1 := l4b (t := t) (rec1 := f4_l1 fu (t, xs) q3 s n) hil hN i fu 0 b' (by omega) (by unfold BIG at hf; omega)
      rw [show ((0 : Nat) : Int) = 0 from rfl] at h1
      rw [h1]
      obtain ⟨n', h2⟩ := ih n (i + 1) (b' || B (∃ k, 0 ≤ k ∧ k < i ∧ (xs.getD k default).name = (xs.getD i default).name)) (by omega) (by omega)
      refine ⟨n', ?_⟩
      rw [h2]
      congr 3
      exact B_congr ⟨fun ⟨k, _, h⟩ => ⟨k, h⟩, fun ⟨k, h⟩ => ⟨k, Nat.zero_le _, h⟩⟩
    have hsplit : (∃ k, i ≤ k ∧ k < xs.length ∧ BadAt s xs k) ↔ (BadAt s xs i ∨ ∃ k, i + 1 ≤ k ∧ k < xs.length ∧ BadAt s xs k) := by
      constructor
      · rintro ⟨k, h1, h2, h3⟩
        by_cases hk : k = i
        · subst hk; exact .inl h3
        · exact .inr ⟨k, by omega, h2, h3⟩
      · rintro (h | ⟨k, h1, h2⟩)
        · exact ⟨i, Nat.le_refl _, hil, h⟩
        · exact ⟨k, by omega, h2⟩
    rw [B_congr hsplit, ← bor_B, ← Bool.or_assoc]
    have hmet := met_iff (xs := xs) (k := i) (by omega) (nm := (xs.getD i default).name)
    have hbad1 : ∀ b' : Bool, (b' = true → b = true ∨ BadAt s xs i) → (b = true → b' = true) → (BadAt s xs i → b' = true ∨ ∃ k, k < i ∧ (xs.getD k default).name = (xs.getD i default).name) →
        ∃ n', f4_j19 fu (t, xs) (i : Int) (f4_l1 fu (t, xs) q3 s n) b' = f4_l3 fu (t, xs) q3 s ((b || B (BadAt s xs i)) || B (∃ k, i + 1 ≤ k ∧ k < xs.length ∧ BadAt s xs k)) (f4_l1 fu (t, xs) q3 s n') fu false false 0 := fun b' h1 h2 h3 => by
      obtain ⟨n', e⟩ := hj19 b'
      refine ⟨n', ?_⟩
      rw [e]
      congr 2
      rw [Bool.eq_iff_iff, Bool.or_eq_true, Bool.or_eq_true, B_iff, B_iff]
      constructor
      · rintro (h | h)
        · exact h1 h
        · exact .inr fun ht => ht.fresh (hmet.2 h)
      · rintro (h | h)
        · exact .inl (h2 h)
        · exact h3 h
    rw [f4_l1, ltR hil, cond_true, ge0, Bool.and_self, cond_true, Int.toNat_natCast, f24_is hf hs, Option.bind_some]
    cases hb : b with
    | true =>
      subst hb
      exact hbad1 true (fun _ => .inl rfl) (fun _ => rfl) (fun _ => .inl rfl)
    | false =>
      subst hb
      rw [cond_false]
      by_cases h1 : atN s (xs.getD i default).name < s.length
      case neg =>
        rw [atI_no h1]
        exact hbad1 true (fun _ => .inr fun ht => h1 ht.there) (fun _ => rfl) (fun _ => .inl rfl)
      rw [atI_lt h1, decide_eq_false (show ¬ (atN s (xs.getD i default).name : Int) < 0 by omega), cond_false, cond_true, f25_sm hf (hx.get hil), Option.bind_some]
      by_cases h2 : ValOK (xs.getD i default).val
      case neg =>
        rw [B_f h2]
        exact hbad1 true (fun _ => .inr fun ht => h2 ht.ok) (fun _ => rfl) (fun _ => .inl rfl)
      rw [B_t h2]
      simp only [Bool.not_true, cond_false, cond_true]
      have hfin : ∀ b' : Bool, (b' = true ↔ ¬ Fits (xs.getD i default).val (s.getD (atN s (xs.getD i default).name) default).kind) → ∃ n', f4_j19 fu (t, xs) (i : Int) (f4_l1 fu (t, xs) q3 s n) b' = f4_l3 fu (t, xs) q3 s ((false || B (BadAt s xs i)) || B (∃ k, i + 1 ≤ k ∧ k < xs.length ∧ BadAt s xs k)) (f4_l1 fu (t, xs) q3 s n') fu false false 0 := fun b' hb' => by
        refine hbad1 b' (fun h => .inr fun ht => hb'.1 h ht.fits) (fun h => by cases h) (fun hbad => ?_)
        by_cases h3 : Fits (xs.getD i default).val (s.getD (atN s (xs.getD i default).name) default).kind
        · refine .inr (hmet.1 (Classical.byContradiction fun hn => hbad ⟨h1, hn, h2, h3⟩))
        · exact .inl (hb'.2 h3)
      by_cases h3 : (xs.getD i default).val.kind = 0
      · rw [decide_eq_true h3]
        exact hfin false ⟨fun h => (by cases h), fun h => absurd (Or.inl h3) h⟩
      · rw [decide_eq_false h3]
        simp only [Bool.not_false, cond_true]
        rw [inR h1, cond_true, Int.toNat_natCast]
        refine hfin _ ?_
        rw [Bool.not_eq_true', decide_eq_false_iff_not]
        exact ⟨fun h hh => hh.elim h3 h, fun h hh => h (.inr hh)⟩
theorem l4d {t : Table} {xs : List Set} {s : List Col} {b17 b18 : Bool} {i : Nat} {rec1 : Bool → Int → Option Bool} {rec3 : Bool → Bool → Int → Option Bool} (hi : i < s.length) (hx : xs.length ≤ 1000) : ∀ (m n j : Nat) (v : Val), j + m = xs.length → m < n →
    ∃ n', f4_l4 fu (t, xs) s b17 b18 (i : Int) rec1 rec3 n (j : Int) v = f4_l4 fu (t, xs) s b17 b18 (i : Int) rec1 rec3 (n' + 1) (xs.length : Int) (wantV (s.getD i default).name v (xs.drop j)) := by
  intro m
  induction m with
  | zero =>
    intro n j v hj hn
    obtain ⟨n, rfl⟩ : ∃ i, n = i + 1 := ⟨n - 1, by omega⟩
    have : j = xs.length := by omega
    subst this
    refine ⟨n, ?_⟩
    rw [List.drop_length]; rfl
  | succ m ih =>
    intro n j v hj hn
    obtain ⟨n, rfl⟩ : ∃ i, n = i + 1 := ⟨n - 1, by omega⟩
    have hjl : j < xs.length := by omega
    have e : wantV (s.getD i default).name v (xs.drop j) = wantV (s.getD i default).name (if (xs.getD j default).name = (s.getD i default).name then (xs.getD j default).val else v) (xs.drop (j + 1)) := by
      rw [dropN (d := default) hjl]; rfl
    rw [f4_l4, ltR hjl, cond_true, ge0, Bool.and_self, cond_true, ge0, ltR hi, Bool.and_self, cond_true, Int.toNat_natCast, Int.toNat_natCast, e]
    unfold f4_j32
    rw [succI hjl (by unfold BIG; omega)]
    by_cases h : (xs.getD j default).name = (s.getD i default).name
    · rw [decide_eq_true h, if_pos h]
      exact ih n (j + 1) _ (by omega) (by omega)
    · rw [decide_eq_false h, if_neg h]
      exact ih n (j + 1) _ (by omega) (by omega)
def colV (s : List Col) (xs : List Set) (i : Nat) : Val := wantV (s.getD i default).name (s.getD i default).def_ xs
def NeedAt (s : List Col) (xs : List Set) (i : Nat) : Prop := (s.getD i default).need = true ∧ (colV s xs i).kind = 0
def OnceAt (t : Table) (s : List Col) (xs : List Set) (i : Nat) : Prop := (s.getD i default).once = true ∧ (colV s xs i).kind ≠ 0 ∧ 0 < (findT t (s.getD i default).name (colV s xs i)).length
theorem l4c {t : Table} {xs : List Set} {q3 : Table × Int} {b9 : Bool} {rec1 : Bool → Int → Option Bool} (hf : BIG ≤ fu) (h : Good t) (hx : SmX xs) : ∀ (m n i : Nat) (b c : Bool), i + m = (lastS t).length → m < n →
    f4_l3 fu (t, xs) q3 (lastS t) b9 rec1 n b c (i : Int) = some (cond b9 (decide (q3.2 = 1)) (cond (b || B (∃ k, i ≤ k ∧ k < (lastS t).length ∧ NeedAt (lastS t) xs k)) (decide (q3.2 = 2)) (cond (c || B (∃ k, i ≤ k ∧ k < (lastS t).length ∧ OnceAt t (lastS t) xs k)) (decide (q3.2 = 3)) (cond (B (t.rows.length = 8 ∨ t.next = 60)) (decide (q3.2 = 4)) (decide (q3.2 = 0)))))) := by
  have hok := (h.ok.rt h.sm).okLast
  have hhi := hok.hi
  intro m
  induction m with
  | zero =>
    intro n i b c hi hn
    obtain ⟨n, rfl⟩ : ∃ i, n = i + 1 := ⟨n - 1, by omega⟩
    have : i = (lastS t).length := by omega
    subst this
    rw [f4_l3, nlt, cond_false, B_f (fun ⟨k, h1, h2, _⟩ => by omega), B_f (fun ⟨k, h1, h2, _⟩ => by omega), Bool.or_false, Bool.or_false]
    unfold f4_j35
    cases b9 with
    | true => rfl
    | false =>
      cases b with
      | true => rfl
      | false =>
        cases c with
        | true => rfl
        | false =>
          simp only [cond_false]
          by_cases h8 : t.rows.length = 8
          · rw [decide_eq_true (show (t.rows.length : Int) = 8 by omega), B_t (.inl h8)]; rfl
          · rw [decide_eq_false (show ¬ (t.rows.length : Int) = 8 by omega)]
            by_cases h60 : t.next = 60
            · rw [decide_eq_true h60, B_t (.inr h60)]; rfl
            · rw [decide_eq_false h60, B_f (fun h => h.elim h8 h60)]; rfl
  | succ m ih =>
    intro n i b c hi hn
    obtain ⟨n, rfl⟩ : ∃ i, n = i + 1 := ⟨n - 1, by omega⟩
    have hil : i < (lastS t).length := by omega
    have hspN : ∀ P : Nat → Prop, (∃ k, i ≤ k ∧ k < (lastS t).length ∧ P k) ↔ (P i ∨ ∃ k, i + 1 ≤ k ∧ k < (lastS t).length ∧ P k) := fun P => by
      constructor
      · rintro ⟨k, h1, h2, h3⟩
        by_cases hk : k = i
        · subst hk; exact .inl h3
        · exact .inr ⟨k, by omega, h2, h3⟩
      · rintro (h | ⟨k, h1, h2⟩)
        · exact ⟨i, Nat.le_refl _, hil, h⟩
        · exact ⟨k, by omega, h2⟩
    rw [B_congr (hspN (NeedAt (lastS t) xs)), B_congr (hspN (OnceAt t (lastS t) xs)), ← bor_B, ← bor_B, ← Bool.or_assoc, ← Bool.or_assoc]
    rw [f4_l3, ltR hil, cond_true, ge0, Bool.and_self, cond_true, Int.toNat_natCast]
    obtain ⟨n', e⟩ := l4d (fu := fu) (t := t) (xs := xs) (s := lastS t) (b17 := b) (b18 := c) (i := i) (rec1 := rec1) (rec3 := f4_l3 fu (t, xs) q3 (lastS t) b9 rec1 n) hil hx.len xs.length fu 0 ((lastS t).getD i default).def_ (by omega) (by have := hx.len; unfold BIG at hf; omega)
    rw [show ((0 : Nat) : Int) = 0 from rfl, List.drop_zero] at e
    have ev : wantV ((lastS t).getD i default).name ((lastS t).getD i default).def_ xs = colV (lastS t) xs i := rfl
    rw [e, ev, f4_l4, nlt, cond_false]
    have h34 : ∀ b' c', f4_j34 (i : Int) b' rec1 (f4_l3 fu (t, xs) q3 (lastS t) b9 rec1 n) (f4_l4 fu (t, xs) (lastS t) b c (i : Int) rec1 (f4_l3 fu (t, xs) q3 (lastS t) b9 rec1 n) n') c' = some (cond b9 (decide (q3.2 = 1)) (cond (b' || B (∃ k, i + 1 ≤ k ∧ k < (lastS t).length ∧ NeedAt (lastS t) xs k)) (decide (q3.2 = 2)) (cond (c' || B (∃ k, i + 1 ≤ k ∧ k < (lastS t).length ∧ OnceAt t (lastS t) xs k)) (decide (q3.2 = 3)) (cond (B (t.rows.length = 8 ∨ t.next = 60)) (decide (q3.2 = 4)) (decide (q3.2 = 0)))))) := fun b' c' => by
      unfold f4_j34
      rw [succI hil (by unfold BIG; omega)]
      exact ih n (i + 1) b' c' (by omega) (by omega)
    have h33 : ∀ b', f4_j33 fu (t, xs) (lastS t) c (i : Int) (colV (lastS t) xs i) rec1 (f4_l3 fu (t, xs) q3 (lastS t) b9 rec1 n) (f4_l4 fu (t, xs) (lastS t) b c (i : Int) rec1 (f4_l3 fu (t, xs) q3 (lastS t) b9 rec1 n) n') b' = some (cond b9 (decide (q3.2 = 1)) (cond (b' || B (∃ k, i + 1 ≤ k ∧ k < (lastS t).length ∧ NeedAt (lastS t) xs k)) (decide (q3.2 = 2)) (cond ((c || B (OnceAt t (lastS t) xs i)) || B (∃ k, i + 1 ≤ k ∧ k < (lastS t).length ∧ OnceAt t (lastS t) xs k)) (decide (q3.2 = 3)) (cond (B (t.rows.length = 8 ∨ t.next = 60)) (decide (q3.2 = 4)) (decide (q3.2 = 0)))))) := fun b' => by
      unfold f4_j33
      cases c with
      | true => rw [cond_true, h34]; rfl
      | false =>
        rw [cond_false, inR hil, cond_true, Int.toNat_natCast, Bool.false_or]
        cases ho : ((lastS t).getD i default).once with
        | false => rw [cond_false, h34, B_f (p := OnceAt t (lastS t) xs i) (fun hh => by rw [hh.1] at ho; cases ho)]
        | true =>
          rw [cond_true]
          by_cases hk : (colV (lastS t) xs i).kind = 0
          · rw [decide_eq_true hk]
            simp only [Bool.not_true, cond_false]
            rw [h34, B_f (p := OnceAt t (lastS t) xs i) (fun hh => hh.2.1 hk)]
          · rw [decide_eq_false hk]
            simp only [Bool.not_false, cond_true]
            rw [f26_is hf h, Option.bind_some, h34]
            by_cases hF : 0 < (findT t ((lastS t).getD i default).name (colV (lastS t) xs i)).length
            · rw [decide_eq_true (show (0 : Int) < _ by omega), B_t (p := OnceAt t (lastS t) xs i) ⟨ho, hk, hF⟩]
            · rw [decide_eq_false (show ¬ (0 : Int) < _ by omega), B_f (p := OnceAt t (lastS t) xs i) (fun hh => hF hh.2.2)]
    cases b with
    | true => rw [cond_true, h33]; rfl
    | false =>
      rw [cond_false, inR hil, cond_true, Int.toNat_natCast, Bool.false_or]
      cases hnd : ((lastS t).getD i default).need with
      | false => rw [cond_false, h33, B_f (p := NeedAt (lastS t) xs i) (fun hh => by rw [hh.1] at hnd; cases hnd)]
      | true =>
        rw [cond_true, h33]
        by_cases hk : (colV (lastS t) xs i).kind = 0
        · rw [decide_eq_true hk, B_t (p := NeedAt (lastS t) xs i) ⟨hnd, hk⟩]
        · rw [decide_eq_false hk, B_f (p := NeedAt (lastS t) xs i) (fun hh => hk hh.2)]
theorem law4 (hf : BIG ≤ fu) (a : List Int) (ha : ∀ b, b ∈ a → 0 ≤ b ∧ b ≤ 255) : f4 fu a = some true := by
  unfold f4
  refine cond_long ?_
  obtain ⟨t, xs, e, hs, hx⟩ := d20 (fu := fu) hf ha
  rw [e, Option.bind_some]
  simp only
  rw [f21_is hf hs hx, Option.bind_some, f22_is hf hs hx, Option.bind_some]
  simp only [decide_true, Bool.not_true, cond_false]
  rw [f17_is hf hs, Option.bind_some]
  unfold f4_j1
  by_cases h : TabOK t
  case neg => rw [B_f h]; simp
  rw [B_t h]
  simp only [Bool.not_true, cond_false]
  have hG : Good t := ⟨h, hs⟩
  have hrt := h.rt hs
  have hok := hrt.okLast
  have hB : putB t xs = putT t xs := if_pos h
  rw [f23_is hf hs, shapeB_ok h, Option.bind_some, hB]
  obtain ⟨n', e1⟩ := l4a (fu := fu) (t := t) (q3 := putT t xs) hf hok hx xs.length fu 0 false (by omega) (by have := hx.len; unfold BIG at hf; omega)
  rw [show ((0 : Nat) : Int) = 0 from rfl] at e1
  rw [e1]
  have e2 := fun (b9 : Bool) => l4c (fu := fu) (q3 := putT t xs) (b9 := b9) (rec1 := f4_l1 fu (t, xs) (putT t xs) (lastS t) n') hf hG hx (lastS t).length fu 0 false false (by omega) (by have := hok.hi; unfold BIG at hf; omega)
  rw [show ((0 : Nat) : Int) = 0 from rfl] at e2
  rw [e2]
  simp only [Bool.false_or, Nat.zero_le, true_and]
  have htn : tell (lastS t) [] (defs (lastS t)) xs = none ↔ ∃ k, k < xs.length ∧ BadAt (lastS t) xs k := tell_none
  generalize hq : putT t xs = q
  unfold putT at hq
  cases ht : tell (lastS t) [] (defs (lastS t)) xs with
  | none => rw [ht] at hq; subst hq; rw [B_t (htn.1 ht)]; rfl
  | some row =>
    rw [ht] at hq
    simp only at hq
    rw [B_f (fun hb => by have := htn.2 hb; rw [ht] at this; cases this)]
    simp only [cond_false]
    have hl := tell_len ht
    rw [defs_len] at hl
    have hv := tell_vf (defs_len _) (defs_vf hok) ht
    have hrow : ∀ k, k < (lastS t).length → row.getD k default = colV (lastS t) xs k := fun k hk => by
      rw [tell_get hok (defs_len _) ht k hk, defs_get hk]; rfl
    have hneed : (∃ k, k < (lastS t).length ∧ NeedAt (lastS t) xs k) ↔ ¬ RowOK (lastS t) row := by
      constructor
      · rintro ⟨k, hk, h1, h2⟩ hr
        have := (hr.all k (by omega)).need h1
        rw [hrow k hk] at this
        exact this h2
      · intro hn
        refine Classical.byContradiction fun hh => hn ⟨hl, fun k hk => ?_⟩
        have hk' : k < (lastS t).length := by omega
        refine ⟨(hv k hk').ok, (hv k hk').fits, fun h1 h2 => hh ⟨k, hk', h1, ?_⟩⟩
        rw [← hrow k hk']; exact h2
    have honce : (∃ k, k < (lastS t).length ∧ OnceAt t (lastS t) xs k) ↔ ¬ NoTwice (lastS t) (nows t ++ [row]) := by
      have hno : NoTwice (lastS t) (nows t ++ [row]) ↔ ∀ r, r ∈ nows t → ¬ Clash (lastS t) r row := by
        unfold NoTwice
        rw [List.pairwise_append]
        constructor
        · rintro ⟨-, -, h3⟩ r hr
          exact h3 r hr row (List.mem_singleton.2 rfl)
        · intro h3
          refine ⟨h.once, List.pairwise_singleton .., fun r hr x hx => ?_⟩
          rw [List.mem_singleton.1 hx]
          exact h3 r hr
      rw [hno]
      constructor
      · rintro ⟨k, hk, h1, h2, h3⟩ hh
        obtain ⟨j, hj, -, h4⟩ := findT_some.1 h3
        rw [atN_at hok hk] at h4
        refine hh _ (List.mem_map.2 ⟨t.rows.getD j default, getD_mem hj, rfl⟩) ⟨k, hk, h1, ?_, ?_⟩
        · rw [h4]; exact h2
        · rw [h4, hrow k hk]
      · intro hh
        refine Classical.byContradiction fun hc => hh fun r hr hcl => hc ?_
        obtain ⟨q, hq, rfl⟩ := List.mem_map.1 hr
        obtain ⟨j, hj, rfl⟩ := List.getElem_of_mem hq
        obtain ⟨k, hk, h1, h2, h3⟩ := hcl
        refine ⟨k, hk, h1, ?_, findT_some.2 ⟨j, hj, by rw [atN_at hok hk]; exact hk, ?_⟩⟩
        · rw [← hrow k hk, ← h3]; exact h2
        · rw [atN_at hok hk, getD_lt hj, h3, hrow k hk]
    rw [B_congr hneed, B_congr honce]
    by_cases h1 : RowOK (lastS t) row
    case neg => rw [if_pos h1] at hq; subst hq; rw [B_t h1]; rfl
    rw [if_neg (fun h => h h1)] at hq
    rw [B_f (fun h => h h1)]
    by_cases h2 : NoTwice (lastS t) (nows t ++ [row])
    case neg => rw [if_pos h2] at hq; subst hq; rw [B_t h2]; rfl
    rw [if_neg (fun h => h h2)] at hq
    rw [B_f (fun h => h h2)]
    by_cases h3 : t.rows.length = 8 ∨ t.next = 60
    · rw [if_pos h3] at hq; subst hq; rw [B_t h3]; rfl
    · rw [if_neg h3] at hq; subst hq; rw [B_f h3]; rfl
end Go.Proofs.YtbnklinfjmmlfaaGreatDoor
