/- What is drawn: tables. -/
import Derived.Test.YtlkhmcajnfombaaGreatDoorQ1005M15
set_option linter.unusedVariables false
set_option linter.unusedSimpArgs false
set_option linter.deprecated false
set_option linter.unusedSectionVars false
set_option linter.all false
namespace Go.Proofs.YtlkhmcajnfombaaGreatDoor
open Go Go.HL
variable {fu : Nat}
structure Good (t : Table) : Prop where
  ok : TabOK t
  sm : SmT t
theorem d124 {s : List Col} (hf : BIG ≤ fu) (h : ShapeOK s) : ∃ t, f124 fu s = some t ∧ Good t := by
  have hhi := h.hi
  refine ⟨⟨s, [], [], 1⟩, ?_, ?_⟩
  · unfold f124
    rw [f86_is hf h.sm, B_t h, Option.bind_some]
    simp only [Bool.not_true, cond_false]
    rw [cap (by rw [List.length_nil]; omega)]; rfl
  · exact ⟨tabOK_of h ⟨s, rfl⟩ (by simp) (by simp) (Int.le_refl _) (show (1 : Int) ≤ 60 by decide) (fun _ h => by cases h) .nil .nil, ⟨h.sm, ⟨by simp, fun _ h => by cases h⟩, by simp, fun k hk => by simp at hk⟩⟩
theorem d126 {r : Rd} {t : Table} {m : Nat} (hf : BIG ≤ fu) (h : RdOK r m) (hm : m ≤ 700000) (ht : Good t) : Draws (f126 fu r t) Good (m + 28) := by
  have hrt := ht.ok.rt ht.sm
  have hl := hrt.okLast.hi
  unfold f126 f142
  rw [o53, f53_is hf hrt, Option.bind_some]
  have hmax : ∃ n : Int, cond (decide (t.next < 1)) (some (1 : Int)) (some t.next) = some n := by cases decide (t.next < 1) <;> exact ⟨_, rfl⟩
  obtain ⟨n, hn⟩ := hmax
  rw [hn, Option.bind_some]
  refine (d74 h (by omega)).bind fun q r1 hq hr1 => ?_
  refine (d74 hr1 (by omega)).bind fun q6 r2 hq6 hr2 => ?_
  have h1 : ∀ (t' : Table) (r' : Rd), RdOK r' (m + 28) → Good t' → Draws (f126_j1 t' r') Good (m + 28) := fun t' r' hr' ht' => .pure ht' hr'
  have h2 : ∀ b : Bool, Draws (f126_j2 fu t (lastS t) (q, r1) (q6, r2) b) Good (m + 28) := fun b => by
    unfold f126_j2
    cases b with
    | true =>
      rw [cond_true]
      refine (d62 hf hl hr2 (by omega)).bind fun xs r3 hx hr3 => ?_
      rw [f76_is hf ht.ok ht.sm hx, Option.bind_some]
      exact h1 _ _ hr3 ⟨setT_ok ht.ok, setT_sm ht.ok ht.sm hx⟩
    | false =>
      rw [cond_false]
      cases decide ((q6, r2).1 = 3) with
      | true =>
        rw [cond_true]
        refine (d70 hf hl hr2 (by omega)).bind fun c r3 hc hr3 => ?_
        rw [f72_is hf ht.ok ht.sm hc, Option.bind_some]
        exact h1 _ _ (hr3.mono (by omega)) ⟨chgT_ok ht.ok ht.sm, chgT_sm ht.ok ht.sm hc⟩
      | false =>
        rw [cond_false]
        refine (d62 hf hl hr2 (by omega)).bind fun xs r3 hx hr3 => ?_
        rw [f65_is hf ht.ok ht.sm hx, Option.bind_some]
        exact h1 _ _ hr3 ⟨putT_ok ht.ok, putT_sm ht.ok ht.sm hx⟩
  simp only
  cases decide (q6 = 0) with
  | true =>
    rw [cond_true, f41_is hf ht.sm.nrow, Option.bind_some]
    exact h1 _ _ (hr2.mono (by omega)) ⟨offT_ok ht.ok, off_sm ht.sm⟩
  | false =>
    cases decide (q6 = 1) with
    | true => exact h2 true
    | false => exact h2 _
theorem l94 (hf : BIG ≤ fu) : ∀ (j n m : Nat) (t : Table) (r : Rd), j < n → RdOK r m → m + 28 * j ≤ 600000 → Good t → Draws (f94_l1 fu n (j : Int) t r) Good (m + 28 * j) := by
  intro j
  induction j with
  | zero =>
    intro n m t r hn hr hm ht
    obtain ⟨n, rfl⟩ : ∃ i, n = i + 1 := ⟨n - 1, by omega⟩
    rw [f94_l1, show decide ((0 : Int) < ((0 : Nat) : Int)) = false from rfl, cond_false, o42, f42_is hf ht.sm]
    exact .pure ht hr
  | succ j ih =>
    intro n m t r hn hr hm ht
    obtain ⟨n, rfl⟩ : ∃ i, n = i + 1 := ⟨n - 1, by omega⟩
    rw [f94_l1, decide_eq_true (show (0 : Int) < ((j + 1 : Nat) : Int) by omega), cond_true]
    refine (d126 hf hr (by omega) ht).bind fun t' r' ht' hr' => ?_
    have e : IntKind.i64.wrap (((j + 1 : Nat) : Int) - 1) = (j : Int) := by rw [wrapI (by omega) (by omega)]; omega
    simp only [e]
    exact (ih n (m + 28) t' r' (by omega) hr' (by omega) ht').mono (fun _ h => h) (by omega)
theorem d94 {r : Rd} {m : Nat} (hf : BIG ≤ fu) (h : RdOK r m) (hm : m ≤ 500000) : Draws (f94 fu r) Good (m + 700) := by
  unfold f94
  refine (d125 hf h (by omega)).bind fun s r1 hs hr1 => ?_
  obtain ⟨t, e, ht⟩ := d124 (fu := fu) hf hs
  rw [e, Option.bind_some]
  refine (d73 hr1 (by omega) (by decide)).bind fun x r2 hx hr2 => ?_
  have hx2 : ∃ j : Nat, x = (j : Int) ∧ j ≤ 24 := by
    have := List.all_eq_true.1 (show ([6, 10, 16, 24, 3, 0] : List Int).all (fun n => decide (0 ≤ n) && decide (n ≤ 24)) = true from rfl) x hx
    rw [Bool.and_eq_true, decide_eq_true_eq, decide_eq_true_eq] at this
    exact ⟨x.toNat, by omega, by omega⟩
  obtain ⟨j, rfl, hj⟩ := hx2
  exact (l94 hf j fu (m + 26) t r2 (by unfold BIG at hf; omega) hr2 (by omega) ht).mono (fun _ h => h) (by omega)
theorem sms_set {s : List Col} {k : Nat} {c : Col} (h : SmS s) (hc : SmC c) : SmS (s.set k c) := ⟨by have := h.len; simpa using this, fun x hx => by
  rcases List.mem_or_eq_of_mem_set hx with hx | hx
  · exact h.all x hx
  · subst hx; exact hc⟩
theorem d123 {r : Rd} {s : List Col} {m : Nat} (h : RdOK r m) (hm : m ≤ 700000) (hs : SmS s) (hl : s.length ≤ 900) : Draws (f123 fu r s) (fun x => SmS x ∧ x.length ≤ s.length + 1) (m + 7) := by
  unfold f123 f123_j1
  rw [cap (by rw [List.length_nil]; omega), cond_true, List.nil_append]
  by_cases h0 : s.length = 0
  · rw [decide_eq_true (show (s.length : Int) = 0 by omega)]
    exact .pure ⟨hs, by omega⟩ (h.mono (by omega))
  rw [decide_eq_false (show ¬ (s.length : Int) = 0 by omega), cond_false]
  refine (d74 h (by omega)).bind fun k r1 hk hr1 => ?_
  have hi := idxR hk (show 0 < s.length by omega)
  have hg := hs.get hi.2
  refine (d74 hr1 (by omega)).bind fun q r2 hq hr2 => ?_
  simp only [hi.1, cond_true]
  cases decide (q = 0) with
  | true => exact (d96 hr2 (by omega) (by decide)).bind fun x r3 hx hr3 => .pure ⟨sms_set hs ⟨sm_short (by rfl) x hx, hg.def_⟩, by simp⟩ (hr3.mono (by omega))
  | false =>
    cases decide (q = 1) with
    | true => exact (d73 hr2 (by omega) (by decide)).bind fun x r3 hx hr3 => .pure ⟨sms_set hs ⟨hg.name, hg.def_⟩, by simp⟩ (hr3.mono (by omega))
    | false =>
      cases decide (q = 2) with
      | true => exact (d97 hr2 (by omega)).bind fun x r3 hx hr3 => .pure ⟨sms_set hs ⟨hg.name, hx⟩, by simp⟩ (hr3.mono (by omega))
      | false =>
        cases decide (q = 3) with
        | true =>
          simp only [cond_true, cond_false]
          rw [cap (by rw [List.length_singleton]; omega), cond_true]
          refine .pure ⟨⟨by simp; omega, fun x hx => ?_⟩, by simp⟩ (hr2.mono (by omega))
          rcases List.mem_append.1 hx with hx | hx
          · exact hs.all x hx
          · simp only [List.mem_singleton] at hx; subst hx; exact hg
        | false =>
          cases decide (q = 4) with
          | true => exact .pure ⟨⟨by simp, fun _ h => by cases h⟩, by simp⟩ (hr2.mono (by omega))
          | false =>
            cases decide (q = 5) with
            | true => exact .pure ⟨sms_set hs ⟨hg.name, hg.def_⟩, by simp⟩ (hr2.mono (by omega))
            | false => exact .pure ⟨hs, by omega⟩ (hr2.mono (by omega))
theorem smt_set {t : Table} (h : SmT t) {k : Nat} {r : Row} (hr : SmR r.vals) : SmT ⟨t.first, t.changes, t.rows.set k r, t.next⟩ := ⟨h.first, h.cs, by have := h.nrow; simpa using this, fun j hj => by
  rw [getD_lt hj]
  rcases List.mem_or_eq_of_mem_set (List.getElem_mem hj) with hm | hm
  · exact h.row hm
  · rw [hm]; exact hr⟩
theorem d93 {r : Rd} {t : Table} {m : Nat} (hf : BIG ≤ fu) (h : RdOK r m) (hm : m ≤ 600000) (ht : Good t) : Draws (f93 fu r t) SmT (m + 40) := by
  have hs := ht.sm
  have h8 := ht.ok.nrow
  have hc8 := ht.ok.nch
  have hf5 := ht.ok.first.hi
  unfold f93 f93_j1
  rw [f42_is hf hs, Option.bind_some]
  refine (d74 h (by omega)).bind fun q r1 hq hr1 => ?_
  have hend : Draws (some (t, r1)) SmT (m + 40) := .pure hs (hr1.mono (by omega))
  simp only
  cases decide (q = 0) with
  | true =>
    refine (d123 hr1 (by omega) hs.first (by omega)).bind fun s1 r2 hs1 hr2 => ?_
    refine (d123 hr2 (by omega) hs1.1 (by omega)).bind fun s2 r3 hs2 hr3 => ?_
    refine (d123 hr3 (by omega) hs2.1 (by omega)).bind fun s3 r4 hs3 hr4 => ?_
    exact (d123 hr4 (by omega) hs3.1 (by omega)).bind fun s4 r5 hs4 hr5 => .pure ⟨hs4.1, hs.cs, hs.nrow, hs.rows⟩ (hr5.mono (by omega))
  | false =>
  cases decide (q = 1) with
  | true =>
    simp only [cond_true, cond_false]
    by_cases h0 : 0 < t.changes.length
    · rw [decide_eq_true (show (0 : Int) < (t.changes.length : Int) by omega), show (decide ((0 : Int) ≤ 1) && decide ((1 : Int) ≤ (t.changes.length : Int)) && decide ((t.changes.length : Int) ≤ (t.changes.length : Int))) = true by simp; omega]
      refine .pure ⟨hs.first, ⟨?_, fun c hc => ?_⟩, hs.nrow, hs.rows⟩ (hr1.mono (by omega))
      · simp; omega
      · refine hs.cs.all c ?_
        have := List.mem_of_mem_drop hc
        exact List.mem_of_mem_take this
    · rw [decide_eq_false (show ¬ (0 : Int) < (t.changes.length : Int) by omega)]; exact hend
  | false =>
  cases decide (q = 2) with
  | true =>
    simp only [cond_true, cond_false]
    by_cases h0 : 0 < t.rows.length
    · rw [decide_eq_true (show (0 : Int) < (t.rows.length : Int) by omega), cond_true]
      refine (d74 hr1 (by omega)).bind fun k r2 hk hr2 => ?_
      have hi := idxR hk h0
      refine (d73 hr2 (by omega) (by simp)).bind fun x r3 hx hr3 => ?_
      simp only [hi.1, cond_true]
      exact .pure (smt_set hs (hs.rows _ hi.2)) (hr3.mono (by omega))
    · rw [decide_eq_false (show ¬ (0 : Int) < (t.rows.length : Int) by omega)]; exact hend
  | false =>
  cases decide (q = 3) with
  | true =>
    simp only [cond_true, cond_false]
    by_cases h0 : 0 < t.rows.length
    · rw [decide_eq_true (show (0 : Int) < (t.rows.length : Int) by omega), cond_true, show decide ((0 : Int) ≤ 0) = true from rfl, Bool.and_self, cond_true, cap (by rw [List.length_singleton]; omega), cond_true]
      refine .pure ⟨hs.first, hs.cs, by simp; omega, fun j hj => ?_⟩ (hr1.mono (by omega))
      rw [getD_lt hj]
      rcases List.mem_append.1 (List.getElem_mem hj) with hm | hm
      · exact hs.row hm
      · simp only [List.mem_singleton] at hm
        rw [hm]
        exact hs.rows 0 h0
    · rw [decide_eq_false (show ¬ (0 : Int) < (t.rows.length : Int) by omega)]; exact hend
  | false =>
  cases decide (q = 4) with
  | true => exact (d73 hr1 (by omega) (by decide)).bind fun x r3 hx hr3 => .pure ⟨hs.first, hs.cs, hs.nrow, hs.rows⟩ (hr3.mono (by omega))
  | false =>
  cases decide (q = 5) with
  | true =>
    simp only [cond_true, cond_false]
    by_cases h0 : 0 < t.rows.length
    · rw [decide_eq_true (show (0 : Int) < (t.rows.length : Int) by omega), cond_true]
      refine (d74 hr1 (by omega)).bind fun k r2 hk hr2 => ?_
      have hi := idxR hk h0
      have hr := hs.rows _ hi.2
      have hg := ht.ok.rows _ hi.2
      have hvl := hg.was.len
      have hsl := ((ht.ok.rt hs).okAt (t.rows.getD k.toNat default).ver.toNat).hi
      simp only [hi.1, cond_true]
      rw [cap (by rw [List.length_singleton]; omega), cond_true]
      refine .pure (smt_set hs ⟨?_, fun v hv => ?_⟩) (hr2.mono (by omega))
      · show ((t.rows.getD k.toNat default).vals ++ [_]).length ≤ 1000
        rw [List.length_append, List.length_singleton]; omega
      · rcases List.mem_append.1 hv with hv | hv
        · exact hr.all v hv
        · simp only [List.mem_singleton] at hv; subst hv; exact nul_ok.sm
    · rw [decide_eq_false (show ¬ (0 : Int) < (t.rows.length : Int) by omega)]; exact hend
  | false =>
  cases decide (q = 6) with
  | false => exact hend
  | true =>
    have h2 : ∀ b : Bool, (b = true → 0 < t.rows.length ∧ 0 < (t.rows.getD 0 default).vals.length) → Draws (f93_j2 fu t (q, r1) b) SmT (m + 40) := fun b hb => by
      unfold f93_j2 f93_j1
      cases b with
      | false => exact hend
      | true =>
        have := hb rfl
        rw [cond_true, decide_eq_true (show (0 : Int) < (t.rows.length : Int) by omega), show decide ((0 : Int) ≤ 0) = true from rfl, Bool.and_self, cond_true]
        refine (d97 hr1 (by omega)).bind fun v r3 hv hr3 => ?_
        simp only [Int.toNat_zero, decide_eq_true (show (0 : Int) < ((t.rows.getD 0 default).vals.length : Int) by omega), show decide ((0 : Int) ≤ 0) = true from rfl, Bool.and_self, cond_true]
        have hr := hs.rows 0 this.1
        refine .pure (smt_set hs ⟨by have := hr.len; simpa using this, fun u hu => ?_⟩) (hr3.mono (by omega))
        rcases List.mem_or_eq_of_mem_set hu with hu | hu
        · exact hr.all u hu
        · subst hu; exact hv
    simp only [cond_true, cond_false]
    by_cases h0 : 0 < t.rows.length
    · rw [decide_eq_true (show (0 : Int) < (t.rows.length : Int) by omega), cond_true, show decide ((0 : Int) ≤ 0) = true from rfl, Bool.and_self, cond_true]
      refine h2 _ fun hb => ⟨h0, ?_⟩
      have := of_decide_eq_true hb
      simp only [Int.toNat_zero] at this
      omega
    · rw [decide_eq_false (show ¬ (0 : Int) < (t.rows.length : Int) by omega)]
      exact h2 false fun h => by cases h
theorem d61 {r : Rd} {m : Nat} (hf : BIG ≤ fu) (h : RdOK r m) (hm : m ≤ 500000) : Draws (f61 fu r) SmT (m + 740) := by
  unfold f61
  refine (d94 hf h hm).bind fun t r1 ht hr1 => ?_
  exact (d93 hf hr1 (by omega) ht).bind fun t' r2 ht' hr2 => .pure ht' (hr2.mono (by omega))
theorem d60 {a : List Int} (ha : ∀ b, b ∈ a → 0 ≤ b ∧ b ≤ 255) : ∃ r, f60 fu a = some r ∧ RdOK r 0 := by
  unfold f60 f60_j1
  by_cases h : 2000 < a.length
  · rw [decide_eq_true (show (2000 : Int) < (a.length : Int) by omega), cond_true, show (decide ((0 : Int) ≤ 0) && decide ((0 : Int) ≤ 2000) && decide ((2000 : Int) ≤ (a.length : Int))) = true by simp; omega]
    refine ⟨_, rfl, fun x hx => ha x ?_, Int.le_refl _, Int.le_refl _⟩
    exact List.mem_of_mem_take (List.mem_of_mem_drop hx)
  · rw [decide_eq_false (show ¬ (2000 : Int) < (a.length : Int) by omega)]
    exact ⟨_, rfl, ha, Int.le_refl _, Int.le_refl _⟩
theorem d31 {a : List Int} (hf : BIG ≤ fu) (ha : ∀ b, b ∈ a → 0 ≤ b ∧ b ≤ 255) : ∃ t id xs, f31 fu a = some (t, id, xs) ∧ SmT t ∧ SmX xs := by
  obtain ⟨r, e, hr⟩ := d60 (fu := fu) ha
  obtain ⟨t, r1, e1, ht, hr1⟩ := d61 (fu := fu) hf hr (by omega)
  obtain ⟨x, r2, e2, -, hr2⟩ := d73 (fu := fu) (l := [0, 1, 2, 3, 99]) hr1 (by omega) (by decide)
  have hsh := shapeB_sm ht
  have hend : ∀ id rr, RdOK rr 800 → ∃ t' id' xs, f31_j2 fu (t, r1) id rr = some (t', id', xs) ∧ SmT t' ∧ SmX xs := fun id rr hrr => by
    obtain ⟨xs, r5, e5, hx, -⟩ := d62 (fu := fu) hf hsh.2 hrr (by omega)
    unfold f31_j2
    rw [f63_is hf ht, Option.bind_some, e5]
    exact ⟨t, id, xs, rfl, ht, hx⟩
  have hj : ∀ (b : Bool) rr, RdOK rr 790 → (b = true → 0 < t.rows.length) → ∃ t' id' xs, f31_j1 fu (t, r1) (x, r2) b rr = some (t', id', xs) ∧ SmT t' ∧ SmX xs := fun b rr hrr hb => by
    unfold f31_j1
    cases b with
    | false => exact hend _ _ (hrr.mono (by omega))
    | true =>
      obtain ⟨k, r3, e3, hk, hr3⟩ := d74 (fu := fu) (n := (t.rows.length : Int)) hrr (by omega)
      have hi := idxR hk (hb rfl)
      rw [cond_true]
      simp only [e3, Option.bind_some, hi.1, cond_true]
      exact hend _ _ (hr3.mono (by omega))
  unfold f31
  rw [e, Option.bind_some, e1, Option.bind_some, e2, Option.bind_some]
  by_cases h0 : 0 < t.rows.length
  · rw [decide_eq_true (show (0 : Int) < (t.rows.length : Int) by omega), cond_true]
    obtain ⟨q, r3, e3, hq, hr3⟩ := d74 (fu := fu) (n := 6) hr2 (by omega)
    simp only [e3, Option.bind_some]
    exact hj _ _ (hr3.mono (by omega)) fun _ => h0
  · rw [decide_eq_false (show ¬ (0 : Int) < (t.rows.length : Int) by omega), cond_false]
    exact hj false _ (hr2.mono (by omega)) fun h => by cases h
end Go.Proofs.YtlkhmcajnfombaaGreatDoor
