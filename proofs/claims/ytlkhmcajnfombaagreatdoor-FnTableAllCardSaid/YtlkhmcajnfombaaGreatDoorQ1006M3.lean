/- What a value is in another kind, and what a change does to columns and rows. -/
import Derived.Test.YtlkhmcajnfombaaGreatDoorQ1006M2
set_option linter.unusedVariables false
set_option linter.unusedSimpArgs false
set_option linter.deprecated false
set_option linter.unusedSectionVars false
set_option linter.all false
namespace Go.Proofs.YtlkhmcajnfombaaGreatDoor
open Go Go.HL
variable {fu : Nat}
abbrev nul : Val := ⟨0, 0, []⟩
abbrev nilCol : Col := ⟨[], 0, false, false, nul⟩
open Classical in
noncomputable def valAs (v : Val) (k : Int) : Val :=
  if ValOK v ∧ v.kind ≠ 0 ∧ (k = 1 ∨ k = 2) then (if v.kind = k then v else if k = 2 then ⟨2, 0, Lib.itoa v.n⟩ else numOf v.text) else nul
theorem ValOK.num {v : Val} (h : ValOK v) (hk : v.kind = 1) : NumV v := by
  rcases h with h | h | h
  · omega
  · exact h.2
  · omega
theorem ValOK.text {v : Val} (h : ValOK v) (hk : v.kind = 2) : v.n = 0 ∧ TextOK v.text := by
  rcases h with h | h | h
  · omega
  · omega
  · exact h.2
theorem ValOK.kinds {v : Val} (h : ValOK v) : v.kind = 0 ∨ v.kind = 1 ∨ v.kind = 2 := by
  rcases h with h | h | h <;> simp [h.1]
theorem f114_is {v : Val} {k : Int} (hf : BIG ≤ fu) (hv : SmV v) : f114 fu v k = some (valAs v k) := by
  unfold f114
  rw [f25_sm hf hv, f56_is]
  simp only [f114_j1]
  unfold valAs
  by_cases h1 : ValOK v
  case neg => rw [B_f h1, if_neg fun h => h1 h.1]; rfl
  rw [B_t h1]
  by_cases h2 : v.kind = 0
  · rw [if_neg fun h => h.2.1 h2]; simp [h2]
  by_cases h3 : k = 1 ∨ k = 2
  case neg => rw [if_neg fun h => h3 h.2.2, B_f (by omega)]; simp
  rw [if_pos ⟨h1, h2, h3⟩, B_t (by omega)]
  by_cases h4 : v.kind = k
  · simp [h4]; grind
  · have hk := h1.kinds
    rcases h3 with rfl | rfl
    · rw [f132_is hf hv]; simp [h2, h4]
    · have hn := h1.num (by omega)
      have hh : (decide (-9223372036854775808 ≤ v.n) && decide (v.n ≤ 9223372036854775807)) = true := by
        have := hn.lo; have := hn.hi; simp; omega
      simp [h2, h4, f131, hh]
theorem f138_is {v : Val} {k : Int} (hf : BIG ≤ fu) (hv : SmV v) : f138 fu v k = some (valAs v k) := by
  unfold f138
  rw [f145_is hf hv, f119_sm hf hv]
  simp only [f138_j1, f138_j2, f139, f139_j1]
  unfold valAs
  by_cases h1 : ValOK v
  case neg => rw [B_f h1, if_neg fun h => h1 h.1]; rfl
  rw [B_t h1]
  by_cases h2 : v.kind = 0
  · rw [if_neg fun h => h.2.1 h2]; simp [h2]; try grind
  by_cases h3 : k = 1 ∨ k = 2
  case neg => rw [if_neg fun h => h3 h.2.2]; simp [h2]; try grind
  rw [if_pos ⟨h1, h2, h3⟩]
  by_cases h4 : v.kind = k
  · simp [h4]; grind
  · have hk := h1.kinds
    rcases h3 with rfl | rfl
    · unfold numOf
      by_cases h5 : (-999 ≤ (num10 v.text).1 ∧ (num10 v.text).1 ≤ 999 ∧ (num10 v.text).2 = true)
      · rw [if_pos h5]; simp [h2, h4, h5]
      · rw [if_neg h5]; simp [h2, h4]; try grind
    · have hn := h1.num (by omega)
      rw [f146_is hf hn.lo hn.hi]
      simp [h2, h4]
theorem itoa_len {n : Int} (h1 : -999 ≤ n) (h2 : n ≤ 999) : (Lib.itoa n).length ≤ 4 := by
  rcases Int.lt_or_le n 0 with hn | hn
  · obtain ⟨m, rfl⟩ : ∃ m : Nat, n = -(m : Int) := ⟨n.natAbs, by omega⟩
    rw [Lib.itoa_neg m (by omega)]
    have := len_dec m (by omega)
    simp; omega
  · obtain ⟨m, rfl⟩ : ∃ m : Nat, n = (m : Int) := ⟨n.toNat, by omega⟩
    rw [Lib.itoa_nonneg]
    have := len_dec m (by omega)
    omega
theorem itoa_text {n : Int} (h1 : -999 ≤ n) (h2 : n ≤ 999) : TextOK (Lib.itoa n) := by
  have hd : ∀ m : Nat, ∀ c ∈ Lib.decDigits m, textB c := by
    intro m
    induction m using Nat.strongRecOn with
    | ind m ih =>
      intro c hc
      have hb : ∀ d : Nat, d < 10 → textB (UInt8.ofNat (48 + d)) := fun d hd => .inr (.inl (by rw [u8n hd]; omega))
      rcases decD_cases m with ⟨h1, h⟩ | ⟨a, d, e, _, hd, h⟩
      · rw [h] at hc; simp only [List.mem_singleton] at hc; subst hc; exact hb m h1
      · rw [h] at hc
        rcases List.mem_append.1 hc with hc | hc
        · exact ih a (by omega) c hc
        · simp only [List.mem_singleton] at hc; subst hc; exact hb d hd
  refine ⟨fun k hk => ?_, itoa_len h1 h2⟩
  rw [getD_lt hk]
  have hm : (Lib.itoa n)[k] ∈ Lib.itoa n := List.getElem_mem hk
  generalize (Lib.itoa n)[k] = c at hm
  unfold Lib.itoa at hm
  split at hm
  · rcases List.mem_cons.1 hm with rfl | hm
    · exact .inr (.inr rfl)
    · exact hd _ _ hm
  · exact hd _ _ hm
theorem numOf_ok (t : List UInt8) : ValOK (numOf t) ∧ (numOf t).text = [] ∧ ((numOf t).kind = 0 ∨ (numOf t).kind = 1) := by
  unfold numOf
  split
  · rename_i h
    exact ⟨.inr (.inl ⟨rfl, h.1, h.2.1, rfl⟩), rfl, .inr rfl⟩
  · exact ⟨.inl ⟨rfl, rfl⟩, rfl, .inl rfl⟩
theorem nul_ok : ValOK nul := .inl ⟨rfl, rfl⟩
theorem valAs_ok (v : Val) (k : Int) : ValOK (valAs v k) ∧ ((valAs v k).kind = 0 ∨ (valAs v k).kind = k) := by
  unfold valAs
  split
  case isFalse => exact ⟨nul_ok, .inl rfl⟩
  case isTrue h =>
    split
    · rename_i h2; exact ⟨h.1, .inr h2⟩
    · split
      · rename_i h2 h3
        have hk := h.1.kinds
        have hn := h.1.num (by omega)
        exact ⟨.inr (.inr ⟨rfl, rfl, itoa_text hn.lo hn.hi⟩), .inr h3.symm⟩
      · have := numOf_ok v.text
        refine ⟨this.1, ?_⟩
        rcases this.2.2 with e | e
        · exact .inl e
        · right; omega
theorem ValOK.sm {v : Val} (h : ValOK v) : SmV v := by
  rcases h with h | h | h
  · rw [h.2]; show ([] : List UInt8).length ≤ 1000; simp
  · rw [SmV, h.2.text]; simp
  · have := h.2.2.2; unfold SmV; omega
theorem ColOK.sm {c : Col} (h : ColOK c) : SmC c := ⟨by have := h.name.2.2; omega, h.def_.sm⟩
theorem ShapeOK.sm {s : List Col} (h : ShapeOK s) : SmS s := ⟨by have := h.hi; omega, fun c hc => by
  obtain ⟨k, hk, rfl⟩ := List.getElem_of_mem hc
  have := (h.all k hk).1
  rw [getD_lt hk] at this
  exact this.sm⟩
structure SmCh (c : Change) : Prop where
  new : c.new.length ≤ 1000
  col : SmC c.col
def Named (c : Change) : Prop :=
  (c.kind = 1 ∧ c.name = [] ∧ c.new = []) ∨ (c.kind = 2 ∧ c.new = [] ∧ c.col = nilCol) ∨ (c.kind = 3 ∧ c.col = nilCol) ∨ (c.kind = 4 ∧ c.new = [] ∧ c.col = { nilCol with kind := c.col.kind })
theorem f112_is {c : Change} : f112 fu c = some (B (Named c)) := by
  obtain ⟨kind, name, new, col⟩ := c
  by_cases h1 : kind = 1
  · subst h1
    refine Eq.trans (b := some (decide ((⟨1, [], [], col⟩ : Change) = ⟨1, name, new, col⟩))) rfl ?_
    rw [dec_B]; congr 1; refine B_congr ?_; simp [Named]; try grind
  by_cases h2 : kind = 2
  · subst h2
    refine Eq.trans (b := some (decide ((⟨2, name, [], nilCol⟩ : Change) = ⟨2, name, new, col⟩))) rfl ?_
    rw [dec_B]; congr 1; refine B_congr ?_; simp [Named]; try grind
  by_cases h3 : kind = 3
  · subst h3
    refine Eq.trans (b := some (decide ((⟨3, name, new, nilCol⟩ : Change) = ⟨3, name, new, col⟩))) rfl ?_
    rw [dec_B]; congr 1; refine B_congr ?_; simp [Named]; try grind
  by_cases h4 : kind = 4
  · subst h4
    refine Eq.trans (b := some (decide ((⟨4, name, [], { nilCol with kind := col.kind }⟩ : Change) = ⟨4, name, new, col⟩))) rfl ?_
    rw [dec_B]; congr 1; refine B_congr ?_; simp [Named]; try grind
  rw [B_f (by simp [Named, h1, h2, h3, h4])]
  simp [f112, h1, h2, h3, h4]
open Classical in
noncomputable def chg (s : List Col) (c : Change) : List Col :=
  if c.kind = 1 then s ++ [c.col]
  else if c.kind = 2 then s.eraseIdx (atN s c.name)
  else if c.kind = 3 then s.set (atN s c.name) { s.getD (atN s c.name) default with name := c.new }
  else s.set (atN s c.name) { s.getD (atN s c.name) default with kind := c.col.kind, def_ := valAs (s.getD (atN s c.name) default).def_ c.col.kind }
structure May (s : List Col) (c : Change) : Prop where
  named : Named c
  there : c.kind ≠ 1 → atN s c.name < s.length
  need : c.kind = 1 → c.col.need = true → c.col.def_.kind ≠ 0
  other : c.kind = 4 → c.col.kind ≠ (s.getD (atN s c.name) default).kind
structure Can (s : List Col) (c : Change) : Prop where
  may : May s c
  ok : ShapeOK (chg s c)
end Go.Proofs.YtlkhmcajnfombaaGreatDoor
