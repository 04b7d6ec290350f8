/- Numbers as texts, and what a value is in another kind. -/
import Derived.Test.YtejobmamkeoheaaGreatDoorQ5TM1
set_option linter.all false
namespace Go.Proofs.YtejobmamkeoheaaGreatDoor
open Go Go.HL
variable {fu : Nat}
def digs (acc : Nat) : List UInt8 → Option Nat
  | [] => some acc
  | c :: r => if 48 ≤ c.toNat ∧ c.toNat ≤ 57 then digs (acc * 10 + (c.toNat - 48)) r else none
theorem digs_append {l r : List UInt8} : ∀ {acc : Nat}, digs acc (l ++ r) = (digs acc l).bind fun a => digs a r := by
  induction l with
  | nil => intro acc; rfl
  | cons c l ih =>
    intro acc
    simp only [List.cons_append, digs]
    split
    · exact ih
    · rfl
theorem decD_big {m d : Nat} (hm : 1 ≤ m) (hd : d < 10) : Lib.decDigits (m * 10 + d) = Lib.decDigits m ++ [UInt8.ofNat (48 + d)] := by
  rw [Lib.decDigits, dif_neg (by omega)]
  have h1 : (m * 10 + d) / 10 = m := by omega
  have h2 : (m * 10 + d) % 10 = d := by omega
  rw [h1, h2]
theorem decD_cases (n : Nat) : (n < 10 ∧ Lib.decDigits n = [UInt8.ofNat (48 + n)]) ∨ (∃ m d, n = m * 10 + d ∧ 1 ≤ m ∧ d < 10 ∧ Lib.decDigits n = Lib.decDigits m ++ [UInt8.ofNat (48 + d)]) := by
  by_cases h : n < 10
  · exact .inl ⟨h, Lib.decDigits_one h⟩
  · refine .inr ⟨n / 10, n % 10, by omega, by omega, by omega, ?_⟩
    rw [← decD_big (by omega) (by omega)]
    congr 1
    omega
theorem u8n {d : Nat} (h : d < 10) : (UInt8.ofNat (48 + d)).toNat = 48 + d := by
  rw [UInt8.toNat_ofNat']; omega
theorem decD_ne (n : Nat) : Lib.decDigits n ≠ [] := by
  rcases decD_cases n with ⟨_, h⟩ | ⟨m, d, _, _, _, h⟩ <;> rw [h] <;> simp
theorem digs_dec : ∀ n : Nat, digs 0 (Lib.decDigits n) = some n := by
  intro n
  induction n using Nat.strongRecOn with
  | ind n ih =>
    rcases decD_cases n with ⟨h1, h⟩ | ⟨m, d, h1, h2, h3, h⟩
    · rw [h]
      simp only [digs, u8n h1]
      rw [if_pos (by omega)]
      congr 1; omega
    · rw [h, digs_append, ih m (by omega)]
      simp only [Option.bind_some, digs, u8n h3]
      rw [if_pos (by omega)]
      congr 1; omega
theorem head_dec : ∀ n : Nat, 1 ≤ n → (Lib.decDigits n).head? ≠ some 48 := by
  intro n
  induction n using Nat.strongRecOn with
  | ind n ih =>
    intro hn
    rcases decD_cases n with ⟨h1, h⟩ | ⟨m, d, h1, h2, h3, h⟩
    · rw [h]
      simp only [List.head?_cons, ne_eq, Option.some.injEq]
      intro e
      have := congrArg UInt8.toNat e
      rw [u8n h1] at this
      have h48 : (48 : UInt8).toNat = 48 := rfl
      omega
    · have := ih m (by omega) h2
      cases hm : Lib.decDigits m with
      | nil => exact absurd hm (decD_ne m)
      | cons a l => rw [hm] at this; rw [h, hm]; exact this
theorem list_snoc {α : Type} (l : List α) (h : l ≠ []) : ∃ a b, l = a ++ [b] := ⟨l.dropLast, l.getLast h, (List.dropLast_concat_getLast h).symm⟩
theorem dec_digs : ∀ (k : Nat) (s : List UInt8) (n : Nat), s.length = k → s ≠ [] → (s.head? = some 48 → s.length = 1) → digs 0 s = some n → Lib.decDigits n = s := by
  intro k
  induction k with
  | zero => intro s n h hne; exact absurd (List.eq_nil_of_length_eq_zero h) hne
  | succ k ih =>
    intro s n hk hne hz hd
    obtain ⟨a, c, rfl⟩ := list_snoc s hne
    rw [digs_append] at hd
    cases ha : digs 0 a with
    | none => rw [ha] at hd; cases hd
    | some m =>
      rw [ha] at hd
      simp only [Option.bind_some, digs] at hd
      split at hd
      case isFalse => cases hd
      case isTrue hc =>
        injection hd with hd
        have hcu : UInt8.ofNat (48 + (c.toNat - 48)) = c := by
          apply UInt8.toNat_inj.1
          rw [u8n (by omega)]; omega
        cases a with
        | nil =>
          simp only [digs] at ha
          injection ha with ha
          subst ha
          have : n = c.toNat - 48 := by omega
          rw [this, Lib.decDigits_one (by omega), hcu]; rfl
        | cons b a =>
          have hb : b ≠ 48 := by
            intro e
            have := hz (by rw [e]; rfl)
            simp at this
          have hm := ih (b :: a) m (by simpa using hk) (by simp) (by simp [hb]) ha
          have hm1 : 1 ≤ m := by
            rcases Nat.eq_zero_or_pos m with h0 | h0
            · rw [h0, Lib.decDigits_one (by omega)] at hm
              injection hm with h1 h2
              exact absurd h1.symm hb
            · exact h0
          rw [← hd, decD_big hm1 (by omega), hm, hcu]
def num10 (t : List UInt8) : Int × Bool :=
  let neg := decide (t.head? = some 45)
  let s := if neg then t.tail else t
  if s.length = 0 ∨ 17 < s.length ∨ (s.head? = some 48 ∧ (1 < s.length ∨ neg = true)) then (0, false)
  else match digs 0 s with
    | some n => (if neg then -(n : Int) else (n : Int), true)
    | none => (0, false)
theorem l145 {i1 : Bool} {s : List UInt8} (hs : s.length ≤ 17) : ∀ (c n k acc : Nat), k + c = s.length → c < n → acc < 10 ^ k →
    f145_l1 i1 s n (acc : Int) (k : Int) = some (match digs acc (s.drop k) with | some v => (if i1 then -(v : Int) else (v : Int), true) | none => (0, false)) := by
  intro c
  induction c with
  | zero =>
    intro n k acc hk hn ha
    obtain ⟨n, rfl⟩ : ∃ m, n = m + 1 := ⟨n - 1, by omega⟩
    have hk' : k = s.length := by omega
    have hb : acc < 10 ^ 17 := Nat.lt_of_lt_of_le ha (Nat.pow_le_pow_right (by omega) (by omega))
    rw [f145_l1, hk', nlt, List.drop_length]
    simp only [f145_j7, digs, cond_false]
    cases i1 with
    | false => rfl
    | true => simp only [cond_true, if_true]; rw [wrapI (by omega) (by omega)]; simp
  | succ c ih =>
    intro n k acc hk hn ha
    obtain ⟨n, rfl⟩ : ∃ m, n = m + 1 := ⟨n - 1, by omega⟩
    have hkl : k < s.length := by omega
    have hb : acc < 10 ^ 16 := Nat.lt_of_lt_of_le ha (Nat.pow_le_pow_right (by omega) (by omega))
    rw [f145_l1]
    simp only [ltR hkl, ge0, Bool.and_self, cond_true, Int.toNat_natCast, f145_j6, getD_lt hkl]
    rw [List.drop_eq_getElem_cons hkl]
    simp only [digs]
    by_cases h1 : (s[k].toNat : Int) < 48
    · simp only [decide_eq_true h1, cond_true]
      rw [if_neg (by omega)]
    · by_cases h2 : 57 < (s[k].toNat : Int)
      · simp only [decide_eq_false h1, decide_eq_true h2, cond_true, cond_false]
        rw [if_neg (by omega)]
      · simp only [decide_eq_false h1, decide_eq_false h2, cond_false]
        rw [if_pos (by omega)]
        have e1 : IntKind.u8.wrap ((s[k].toNat : Int) - 48) = (s[k].toNat : Int) - 48 := by
          rw [IntKind.wrap_u8]; omega
        rw [e1, wrapI (x := (s[k].toNat : Int) - 48) (by omega) (by omega), wrapI (x := (acc : Int) * 10) (by omega) (by omega), wrapI (x := (acc : Int) * 10 + ((s[k].toNat : Int) - 48)) (by omega) (by omega), wrapI (x := (k : Int) + 1) (by omega) (by omega)]
        have := ih n (k + 1) (acc * 10 + (s[k].toNat - 48)) (by omega) (by omega) (by rw [Nat.pow_succ]; omega)
        rw [← this]
        congr 1
        omega
theorem f145_is {t : List UInt8} (hf : BIG ≤ fu) (ht : t.length ≤ 2000000) : f145 fu t = some (num10 t) := by
  have main : ∀ (neg : Bool) (s : List UInt8), s.length ≤ 2000000 → f145_j2 fu neg s = some (if s.length = 0 ∨ 17 < s.length ∨ (s.head? = some 48 ∧ (1 < s.length ∨ neg = true)) then (0, false) else match digs 0 s with | some n => (if neg then -(n : Int) else (n : Int), true) | none => (0, false)) := by
    intro neg s hs
    unfold f145_j2 f145_j3
    cases s with
    | nil => simp
    | cons c r =>
      by_cases h17 : 17 < (c :: r).length
      · rw [if_pos (.inr (.inl h17))]
        have : decide (17 < ((c :: r).length : Int)) = true := by rw [decide_eq_true_iff]; omega
        have h0 : decide (((c :: r).length : Int) = 0) = false := by rw [decide_eq_false_iff_not]; omega
        rw [h0, this]; rfl
      · have hlt : (c :: r).length < fu := Nat.lt_of_le_of_lt hs (by unfold BIG at hf; omega)
        have hl := l145 (i1 := neg) (s := c :: r) (Nat.le_of_not_lt h17) (c :: r).length fu 0 0 (Nat.zero_add _) hlt (by simp)
        simp only [List.drop_zero] at hl
        rw [show ((0 : Nat) : Int) = 0 from rfl] at hl
        rw [hl]
        have h17' : decide (17 < ((c :: r).length : Int)) = false := by rw [decide_eq_false_iff_not]; omega
        have h0 : decide (((c :: r).length : Int) = 0) = false := by rw [decide_eq_false_iff_not]; simp only [List.length_cons]; omega
        have hin : (decide (0 ≤ (0 : Int)) && decide ((0 : Int) < ((c :: r).length : Int))) = true := by simp
        rw [hin, h0, h17']
        simp only [cond_true, cond_false, Int.toNat_zero, List.getD_cons_zero, List.head?_cons, Option.some.injEq]
        have hc : decide (((c.toNat : Nat) : Int) = 48) = decide (c = 48) := by
          congr 1
          have h48 : (48 : UInt8).toNat = 48 := rfl
          rw [eq_iff_iff, ← UInt8.toNat_inj, h48]; omega
        rw [hc]
        grind
  unfold f145 f145_j1 num10
  cases t with
  | nil => simp only [List.length_nil]; rw [main false [] (by simp)]; rfl
  | cons c r =>
    have h0 : decide (0 < ((c :: r).length : Int)) = true := by rw [decide_eq_true_iff]; simp
    have hin : (decide (0 ≤ (0 : Int)) && decide ((0 : Int) < ((c :: r).length : Int))) = true := by simp
    have hc : decide ((((c :: r).getD (0 : Int).toNat 0).toNat : Int) = 45) = decide ((c :: r).head? = some 45) := by
      congr 1
      have h45 : (45 : UInt8).toNat = 45 := rfl
      rw [eq_iff_iff]
      simp only [Int.toNat_zero, List.getD_cons_zero, List.head?_cons, Option.some.injEq]
      rw [← UInt8.toNat_inj, h45]; omega
    rw [hin, h0, hc]
    simp only [cond_true]
    cases decide ((c :: r).head? = some 45) with
    | false => simp only [cond_false]; rw [main false _ ht]; simp
    | true =>
      have h3 : (decide (0 ≤ (1 : Int)) && decide ((1 : Int) ≤ ((c :: r).length : Int)) && decide (((c :: r).length : Int) ≤ ((c :: r).length : Int))) = true := by simp; omega
      simp only [cond_true]
      rw [h3]
      simp only [cond_true, Int.toNat_natCast, List.take_length]
      rw [show (1 : Int).toNat = 1 from rfl, List.drop_one, main true _ (by simp at ht ⊢; omega)]
      simp
theorem len_dec (m : Nat) (hm : m ≤ 999) : (Lib.decDigits m).length ≤ 3 := by
  rcases decD_cases m with ⟨_, h⟩ | ⟨a, d, e, _, _, h⟩
  · rw [h]; simp
  · rcases decD_cases a with ⟨_, h'⟩ | ⟨a', d', e', _, _, h'⟩
    · rw [h, h']; simp
    · rcases decD_cases a' with ⟨_, h''⟩ | ⟨a'', d'', e'', _, _, h''⟩
      · rw [h, h', h'']; simp
      · omega
theorem num10_itoa {n : Int} (h1 : -999 ≤ n) (h2 : n ≤ 999) : num10 (Lib.itoa n) = (n, true) := by
  have hlen := len_dec
  unfold num10
  rcases Int.lt_or_le n 0 with hn | hn
  · obtain ⟨m, rfl⟩ : ∃ m : Nat, n = -(m : Int) := ⟨n.natAbs, by omega⟩
    rw [Lib.itoa_neg m (by omega)]
    have hd := head_dec m (by omega)
    have hl := hlen m (by omega)
    have h0 : (Lib.decDigits m).length ≠ 0 := fun h => decD_ne m (List.eq_nil_of_length_eq_zero h)
    have : decide ((45 :: Lib.decDigits m).head? = some 45) = true := by simp
    simp only [this, if_true, List.tail_cons]
    rw [if_neg (by rintro (h | h | h); exact h0 h; omega; exact hd h.1), digs_dec]
  · obtain ⟨m, rfl⟩ : ∃ m : Nat, n = (m : Int) := ⟨n.toNat, by omega⟩
    rw [Lib.itoa_nonneg]
    have hl := hlen m (by omega)
    have h0 : (Lib.decDigits m).length ≠ 0 := fun h => decD_ne m (List.eq_nil_of_length_eq_zero h)
    have h45 : (Lib.decDigits m).head? ≠ some 45 := by
      have := digs_dec m
      cases hm : Lib.decDigits m with
      | nil => simp
      | cons c r =>
        rw [hm] at this
        intro e
        simp only [List.head?_cons, Option.some.injEq] at e
        subst e
        simp only [digs] at this
        rw [if_neg (by decide)] at this
        cases this
    have : decide ((Lib.decDigits m).head? = some 45) = false := by rw [decide_eq_false_iff_not]; exact h45
    simp only [this, Bool.false_eq_true, if_false, or_false]
    have hz : ¬((Lib.decDigits m).head? = some 48 ∧ 1 < (Lib.decDigits m).length) := by
      rintro ⟨e1, e2⟩
      rcases Nat.eq_zero_or_pos m with hm | hm
      · rw [hm, Lib.decDigits_one (by omega)] at e2; simp at e2
      · exact head_dec m hm e1
    rw [if_neg (by rintro (h | h | h); exact h0 h; omega; exact hz h), digs_dec]
theorem num10_is {t : List UInt8} {n : Int} (h : num10 t = (n, true)) : Lib.itoa n = t := by
  unfold num10 at h
  cases hneg : decide (t.head? = some 45) with
  | true =>
    rw [hneg] at h
    simp only [if_true] at h
    split at h
    · cases h
    · rename_i hc
      split at h
      case h_2 => cases h
      case h_1 v hv =>
        injection h with h _
        obtain ⟨r, rfl⟩ : ∃ r, t = 45 :: r := by
          cases t with
          | nil => simp at hneg
          | cons c r => simp at hneg; exact ⟨r, by rw [hneg]⟩
        simp only [List.tail_cons] at hv hc
        have hd := dec_digs _ r v rfl (fun e => hc (.inl (by rw [e]; rfl))) (fun e => absurd (.inr (.inr ⟨e, .inr trivial⟩)) hc) hv
        have hv1 : 1 ≤ v := by
          rcases Nat.eq_zero_or_pos v with h0 | h0
          · rw [h0, Lib.decDigits_one (by omega)] at hd
            exact absurd (.inr (.inr ⟨by rw [← hd]; rfl, .inr trivial⟩)) hc
          · exact h0
        rw [← h, Lib.itoa_neg v hv1, hd]
  | false =>
    rw [hneg] at h
    simp only [Bool.false_eq_true, if_false, or_false] at h
    split at h
    · cases h
    · rename_i hc
      split at h
      case h_2 => cases h
      case h_1 v hv =>
        injection h with h _
        have hd := dec_digs _ t v rfl (fun e => hc (.inl (by rw [e]; rfl))) (fun e => by
          have : t.length ≠ 0 := fun h => hc (.inl h)
          have : ¬ 1 < t.length := fun h => hc (.inr (.inr ⟨e, h⟩))
          omega) hv
        rw [← h, Lib.itoa_nonneg, hd]
noncomputable def numOf (t : List UInt8) : Val := @ite _ (-999 ≤ (num10 t).1 ∧ (num10 t).1 ≤ 999 ∧ (num10 t).2 = true) (Classical.propDecidable _) ⟨1, (num10 t).1, []⟩ ⟨0, 0, []⟩
theorem parse_digs : ∀ (s : List UInt8) (acc k v : Nat), acc < 10 ^ k → k + s.length ≤ 17 → digs acc s = some v → Lib.parseUint10 acc s = .ok v := by
  intro s
  induction s with
  | nil => intro acc k v h1 h2 h; simp only [digs] at h; injection h with h; subst h; rfl
  | cons c s ih =>
    intro acc k v h1 h2 h
    have hb : acc < 10 ^ 16 := Nat.lt_of_lt_of_le h1 (Nat.pow_le_pow_right (by omega) (by simp at h2; omega))
    simp only [Lib.parseUint10, digs] at h ⊢
    split at h
    · rename_i hc
      rw [if_pos hc, if_neg (by omega), if_neg (by omega)]
      exact ih _ (k + 1) v (by rw [Nat.pow_succ]; omega) (by simp at h2; omega) h
    · cases h
theorem atoi_itoa {n : Int} (h1 : -999 ≤ n) (h2 : n ≤ 999) : Lib.atoiAll (Lib.itoa n) = .ok n := by
  have hp : ∀ m : Nat, m ≤ 999 → Lib.parseMag (Lib.decDigits m) = .ok m := by
    intro m hm
    have hlen := len_dec m hm
    unfold Lib.parseMag
    rw [if_neg (decD_ne m), parse_digs _ 0 0 m (by simp) (by omega) (digs_dec m)]
  rcases Int.lt_or_le n 0 with hn | hn
  · obtain ⟨m, rfl⟩ : ∃ m : Nat, n = -(m : Int) := ⟨n.natAbs, by omega⟩
    rw [Lib.itoa_neg m (by omega)]
    unfold Lib.atoiAll
    have h45 : (45 : UInt8).toNat = 45 := rfl
    simp only [h45, or_true, if_true, hp m (by omega), not_true_eq_false, false_and, if_false, true_and]
    rw [if_neg (by omega)]
  · obtain ⟨m, rfl⟩ : ∃ m : Nat, n = (m : Int) := ⟨n.toNat, by omega⟩
    rw [Lib.itoa_nonneg]
    have hd := digs_dec m
    have hm := hp m (by omega)
    unfold Lib.atoiAll
    cases hc : Lib.decDigits m with
    | nil => exact absurd hc (decD_ne m)
    | cons c r =>
      rw [hc] at hd hm
      simp only [digs] at hd
      split at hd
      case isFalse => cases hd
      case isTrue h =>
        have e43 : ¬ (c.toNat = 43 ∨ c.toNat = 45) := by omega
        have e45 : ¬ c.toNat = 45 := by omega
        have e43' : ¬ c.toNat = 43 := by omega
        simp only [e43', e45, or_self, if_false, hm, not_false_eq_true, true_and, false_and]
        rw [if_neg (by omega)]
theorem f132_is {t : List UInt8} (hf : BIG ≤ fu) (ht : t.length ≤ 2000000) : f132 fu t = some (numOf t) := by
  have hA : ∀ v : Int, f25 fu (⟨1, v, []⟩ : Val) = some (B (-999 ≤ v ∧ v ≤ 999)) := fun v => by
    rw [f25_sm hf (by show ([] : List UInt8).length ≤ 2000000; simp)]
    congr 1
    refine B_congr ⟨fun h => ?_, fun h => .inr (.inl ⟨rfl, h.1, h.2, rfl⟩)⟩
    rcases h with h | h | h
    · cases h.1
    · exact ⟨h.2.lo, h.2.hi⟩
    · cases h.1
  have no : Lib.atoiAll t ≠ .ok (num10 t).1 ∨ ¬ (-999 ≤ (num10 t).1 ∧ (num10 t).1 ≤ 999 ∧ (num10 t).2 = true) ∨ Lib.atoiAll t = .ok (num10 t).1 ∧ (-999 ≤ (num10 t).1 ∧ (num10 t).1 ≤ 999 ∧ (num10 t).2 = true) := by
    by_cases h1 : Lib.atoiAll t = .ok (num10 t).1
    · by_cases h2 : (-999 ≤ (num10 t).1 ∧ (num10 t).1 ≤ 999 ∧ (num10 t).2 = true)
      · exact .inr (.inr ⟨h1, h2⟩)
      · exact .inr (.inl h2)
    · exact .inl h1
  unfold f132 f144 numOf
  rw [decide_eq_true (show t.length ≤ 281474976710656 by omega), cond_true]
  by_cases hg : (-999 ≤ (num10 t).1 ∧ (num10 t).1 ≤ 999 ∧ (num10 t).2 = true)
  · rw [if_pos hg]
    have e : Lib.itoa (num10 t).1 = t := num10_is (by rw [← hg.2.2])
    have ha := atoi_itoa hg.1 hg.2.1
    rw [e] at ha
    rw [ha]
    simp only [Option.bind_some, cond_false]
    rw [hA, B_t ⟨hg.1, hg.2.1⟩]
    simp only [Option.bind_some, Bool.not_true, cond_false, f131]
    have : (decide (-9223372036854775808 ≤ (num10 t).1) && decide ((num10 t).1 ≤ 9223372036854775807)) = true := by simp; omega
    rw [this, cond_true, Option.bind_some, e]
    simp [f132_j1]
  · rw [if_neg hg]
    rcases ha : Lib.atoiAll t with v | _ | _
    rotate_left
    · simp [f132_j1]
    · simp [f132_j1]
    · simp only [Option.bind_some, cond_false]
      rw [hA]
      by_cases hv : -999 ≤ v ∧ v ≤ 999
      · rw [B_t hv]
        simp only [Option.bind_some, Bool.not_true, cond_false, f131]
        have : (decide (-9223372036854775808 ≤ v) && decide (v ≤ 9223372036854775807)) = true := by simp; omega
        rw [this, cond_true, Option.bind_some]
        have hne : Lib.itoa v ≠ t := fun e => hg (by rw [← e, num10_itoa hv.1 hv.2]; exact ⟨hv.1, hv.2, rfl⟩)
        simp [f132_j1, hne]
      · rw [B_f hv]; simp [f132_j1]
theorem hs146 (d : Nat) (hd : d < 10) : strI ([IntKind.u8.wrap (IntKind.i64.wrap (48 + (d : Int)))] : List Int) = [UInt8.ofNat (48 + d)] := by
  rw [wrapI (by omega) (by omega), IntKind.wrap_u8]
  show [UInt8.ofNat _] = _
  congr 2
  omega
theorem hc146 {r : List UInt8} (d : Nat) (hd : d < 10) (hr : r.length ≤ 2000000) : decide (List.length (strI ([IntKind.u8.wrap (IntKind.i64.wrap (48 + (d : Int)))] : List Int)) + List.length r ≤ CAP) = true := by
  rw [hs146 d hd, CAP_eq, decide_eq_true_iff]; simp; omega
theorem l146 : ∀ (k n m : Nat) (r : List UInt8), m ≤ 999999 → m < 10 ^ (k + 1) → k < n → r.length + k ≤ 2000000 → f146_l1 n (m : Int) r = some (Lib.decDigits m ++ r) := by
  intro k
  induction k with
  | zero =>
    intro n m r hm hn hk hr
    obtain ⟨n, rfl⟩ : ∃ i, n = i + 1 := ⟨n - 1, by omega⟩
    have h : m < 10 := by simpa using hn
    rw [f146_l1, decide_eq_false (show ¬ (9 : Int) < m by omega), cond_false, hc146 m h (by omega), hs146 m h, Lib.decDigits_one h]; rfl
  | succ k ih =>
    intro n m r hm hn hk hr
    obtain ⟨n, rfl⟩ : ∃ i, n = i + 1 := ⟨n - 1, by omega⟩
    rw [f146_l1]
    by_cases h : m < 10
    · rw [decide_eq_false (show ¬ (9 : Int) < m by omega), cond_false, hc146 m h (by omega), hs146 m h, Lib.decDigits_one h]; rfl
    · rw [decide_eq_true (show (9 : Int) < m by omega), cond_true]
      have e1 : (m : Int).tmod 10 = ((m % 10 : Nat) : Int) := by rw [Int.tmod_eq_emod_of_nonneg (by omega)]; omega
      have e2 : (m : Int).tdiv 10 = ((m / 10 : Nat) : Int) := by rw [Int.tdiv_eq_ediv_of_nonneg (by omega)]; omega
      rw [e1, e2, hc146 _ (by omega) (by omega), hs146 _ (by omega), wrapI (by omega) (by omega)]
      simp only [show decide ((10 : Int) = 0) = false from rfl, cond_true, cond_false]
      have hp : 10 ^ (k + 1 + 1) = 10 ^ (k + 1) * 10 := Nat.pow_succ ..
      have hm1 : m / 10 < 10 ^ (k + 1) := by omega
      rw [ih n (m / 10) _ (by omega) hm1 (by omega) (by simp; omega)]
      rcases decD_cases m with ⟨h', _⟩ | ⟨a, d, e, _, hd, e'⟩
      · omega
      · have e3 : m / 10 = a := by omega
        have e4 : m % 10 = d := by omega
        rw [e3, e4, e']; simp
theorem f146_is {n : Int} (hf : BIG ≤ fu) (h1 : -999 ≤ n) (h2 : n ≤ 999) : f146 fu n = some (Lib.itoa n) := by
  obtain ⟨k, rfl⟩ : ∃ k, fu = k + 2 := ⟨fu - 2, by unfold BIG at hf; omega⟩
  have hl : ∀ (j m : Nat), m ≤ 999 → 6 ≤ j → f146_l1 j (m : Int) [] = some (Lib.decDigits m) := fun j m hm hj => by
    rw [l146 5 j m [] (by omega) (by omega) (by omega) (by simp)]; simp
  have hk : 6 ≤ k := by unfold BIG at hf; omega
  rw [f146]
  rw [decide_eq_false (by omega), cond_false]
  rcases Int.lt_or_le n 0 with hn | hn
  · obtain ⟨m, rfl⟩ : ∃ m : Nat, n = -(m : Int) := ⟨n.natAbs, by omega⟩
    rw [decide_eq_true (by omega), cond_true, wrapI (by omega) (by omega), Lib.itoa_neg m (by omega)]
    have : (0 : Int) - -(m : Int) = (m : Int) := by omega
    rw [this, f146, decide_eq_false (by omega), decide_eq_false (by omega)]
    simp only [cond_false]
    rw [hl (k) m (by omega) (by omega)]
    rw [Option.bind_some, CAP_eq]
    have hlen : (Lib.decDigits m).length ≤ 3 := len_dec m (by omega)
    rw [decide_eq_true (by simp; omega)]; rfl
  · obtain ⟨m, rfl⟩ : ∃ m : Nat, n = (m : Int) := ⟨n.toNat, by omega⟩
    rw [decide_eq_false (by omega), cond_false, Lib.itoa_nonneg, hl _ m (by omega) (by omega)]
end Go.Proofs.YtejobmamkeoheaaGreatDoor
