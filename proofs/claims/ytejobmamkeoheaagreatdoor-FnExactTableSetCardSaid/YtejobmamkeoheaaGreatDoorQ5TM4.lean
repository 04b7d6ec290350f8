/- What a value is in another kind, and what a change does to columns and rows. -/
import Derived.Test.YtejobmamkeoheaaGreatDoorQ5TM2
set_option linter.all false
namespace Go.Proofs.YtejobmamkeoheaaGreatDoor
open Go Go.HL
variable {fu : Nat}
abbrev nul : Val := ⟨0, 0, []⟩
abbrev nilCol : Col := ⟨[], 0, false, false, nul⟩
open Classical in
noncomputable def valAs (v : Val) (k : Int) : Val :=
  if ValOK v ∧ v.kind ≠ 0 ∧ (k = 1 ∨ k = 2) then (if v.kind = k then v else if k = 2 then ⟨2, 0, Lib.itoa v.n⟩ else numOf v.text) else nul
theorem ValOK.num {v : Val} (h : ValOK v) (hk : v.kind = 1) : NumV v := by
  rcases h with h | h | h
  · omega
  · exact h.2
  · omega
theorem ValOK.kinds {v : Val} (h : ValOK v) : v.kind = 0 ∨ v.kind = 1 ∨ v.kind = 2 := by
  rcases h with h | h | h <;> simp [h.1]
theorem f114_is {v : Val} {k : Int} (hf : BIG ≤ fu) (hv : SmV v) : f114 fu v k = some (valAs v k) := by
  unfold f114
  rw [f25_sm hf hv, f56_is]
  simp only [f114_j1]
  unfold valAs
  by_cases h1 : ValOK v
  case neg => rw [B_f h1, if_neg fun h => h1 h.1]; rfl
  rw [B_t h1]
  by_cases h2 : v.kind = 0
  · rw [if_neg fun h => h.2.1 h2]; simp [h2]
  by_cases h3 : k = 1 ∨ k = 2
  case neg => rw [if_neg fun h => h3 h.2.2, B_f (by omega)]; simp
  rw [if_pos ⟨h1, h2, h3⟩, B_t (by omega)]
  by_cases h4 : v.kind = k
  · simp [h4]; grind
  · have hk := h1.kinds
    rcases h3 with rfl | rfl
    · rw [f132_is hf hv]; simp [h2, h4]
    · have hn := h1.num (by omega)
      have hh : (decide (-9223372036854775808 ≤ v.n) && decide (v.n ≤ 9223372036854775807)) = true := by
        have := hn.lo; have := hn.hi; simp; omega
      simp [h2, h4, f131, hh]
theorem f138_is {v : Val} {k : Int} (hf : BIG ≤ fu) (hv : SmV v) : f138 fu v k = some (valAs v k) := by
  unfold f138
  rw [f145_is hf hv, f119_sm hf hv]
  simp only [f138_j1, f138_j2, f139, f139_j1]
  unfold valAs
  by_cases h1 : ValOK v
  case neg => rw [B_f h1, if_neg fun h => h1 h.1]; rfl
  rw [B_t h1]
  by_cases h2 : v.kind = 0
  · rw [if_neg fun h => h.2.1 h2]; simp [h2]; try grind
  by_cases h3 : k = 1 ∨ k = 2
  case neg => rw [if_neg fun h => h3 h.2.2]; simp [h2]; try grind
  rw [if_pos ⟨h1, h2, h3⟩]
  by_cases h4 : v.kind = k
  · simp [h4]; grind
  · have hk := h1.kinds
    rcases h3 with rfl | rfl
    · unfold numOf
      by_cases h5 : (-999 ≤ (num10 v.text).1 ∧ (num10 v.text).1 ≤ 999 ∧ (num10 v.text).2 = true)
      · rw [if_pos h5]; simp [h2, h4, h5]
      · rw [if_neg h5]; simp [h2, h4]; try grind
    · have hn := h1.num (by omega)
      rw [f146_is hf hn.lo hn.hi]
      simp [h2, h4]
theorem itoa_len {n : Int} (h1 : -999 ≤ n) (h2 : n ≤ 999) : (Lib.itoa n).length ≤ 4 := by
  rcases Int.lt_or_le n 0 with hn | hn
  · obtain ⟨m, rfl⟩ : ∃ m : Nat, n = -(m : Int) := ⟨n.natAbs, by omega⟩
    rw [Lib.itoa_neg m (by omega)]
    have := len_dec m (by omega)
    simp; omega
  · obtain ⟨m, rfl⟩ : ∃ m : Nat, n = (m : Int) := ⟨n.toNat, by omega⟩
    rw [Lib.itoa_nonneg]
    have := len_dec m (by omega)
    omega
theorem itoa_text {n : Int} (h1 : -999 ≤ n) (h2 : n ≤ 999) : TextOK (Lib.itoa n) := by
  have hd : ∀ m : Nat, ∀ c ∈ Lib.decDigits m, textB c := by
    intro m
    induction m using Nat.strongRecOn with
    | ind m ih =>
      intro c hc
      have hb : ∀ d : Nat, d < 10 → textB (UInt8.ofNat (48 + d)) := fun d hd => .inr (.inl (by rw [u8n hd]; omega))
      rcases decD_cases m with ⟨h1, h⟩ | ⟨a, d, e, _, hd, h⟩
      · rw [h] at hc; simp only [List.mem_singleton] at hc; subst hc; exact hb m h1
      · rw [h] at hc
        rcases List.mem_append.1 hc with hc | hc
        · exact ih a (by omega) c hc
        · simp only [List.mem_singleton] at hc; subst hc; exact hb d hd
  refine ⟨fun k hk => ?_, itoa_len h1 h2⟩
  rw [getD_lt hk]
  have hm : (Lib.itoa n)[k] ∈ Lib.itoa n := List.getElem_mem hk
  generalize (Lib.itoa n)[k] = c at hm
  unfold Lib.itoa at hm
  split at hm
  · rcases List.mem_cons.1 hm with rfl | hm
    · exact .inr (.inr rfl)
    · exact hd _ _ hm
  · exact hd _ _ hm
theorem numOf_ok (t : List UInt8) : ValOK (numOf t) ∧ (numOf t).text = [] ∧ ((numOf t).kind = 0 ∨ (numOf t).kind = 1) := by
  unfold numOf
  split
  · rename_i h
    exact ⟨.inr (.inl ⟨rfl, h.1, h.2.1, rfl⟩), rfl, .inr rfl⟩
  · exact ⟨.inl ⟨rfl, rfl⟩, rfl, .inl rfl⟩
theorem nul_ok : ValOK nul := .inl ⟨rfl, rfl⟩
theorem valAs_ok (v : Val) (k : Int) : ValOK (valAs v k) ∧ ((valAs v k).kind = 0 ∨ (valAs v k).kind = k) := by
  unfold valAs
  split
  case isFalse => exact ⟨nul_ok, .inl rfl⟩
  case isTrue h =>
    split
    · rename_i h2; exact ⟨h.1, .inr h2⟩
    · split
      · rename_i h2 h3
        have hk := h.1.kinds
        have hn := h.1.num (by omega)
        exact ⟨.inr (.inr ⟨rfl, rfl, itoa_text hn.lo hn.hi⟩), .inr h3.symm⟩
      · have := numOf_ok v.text
        refine ⟨this.1, ?_⟩
        rcases this.2.2 with e | e
        · exact .inl e
        · right; omega
theorem ValOK.sm {v : Val} (h : ValOK v) : SmV v := by
  rcases h with h | h | h
  · rw [h.2]; show ([] : List UInt8).length ≤ 2000000; simp
  · rw [SmV, h.2.text]; simp
  · have := h.2.2.2; unfold SmV; omega
theorem ColOK.sm {c : Col} (h : ColOK c) : SmC c := ⟨by have := h.name.2.2; omega, h.def_.sm⟩
theorem ShapeOK.sm {s : List Col} (h : ShapeOK s) : SmS s := ⟨by have := h.hi; omega, fun c hc => by
  obtain ⟨k, hk, rfl⟩ := List.getElem_of_mem hc
  have := (h.all k hk).1
  rw [getD_lt hk] at this
  exact this.sm⟩
structure SmCh (c : Change) : Prop where
  new : c.new.length ≤ 2000000
  col : SmC c.col
def Named (c : Change) : Prop :=
  (c.kind = 1 ∧ c.name = [] ∧ c.new = []) ∨ (c.kind = 2 ∧ c.new = [] ∧ c.col = nilCol) ∨ (c.kind = 3 ∧ c.col = nilCol) ∨ (c.kind = 4 ∧ c.new = [] ∧ c.col = { nilCol with kind := c.col.kind })
theorem f112_is {c : Change} : f112 fu c = some (B (Named c)) := by
  obtain ⟨kind, name, new, col⟩ := c
  by_cases h1 : kind = 1
  · subst h1
    refine Eq.trans (b := some (decide ((⟨1, [], [], col⟩ : Change) = ⟨1, name, new, col⟩))) rfl ?_
    rw [dec_B]; congr 1; refine B_congr ?_; simp [Named]; try grind
  by_cases h2 : kind = 2
  · subst h2
    refine Eq.trans (b := some (decide ((⟨2, name, [], nilCol⟩ : Change) = ⟨2, name, new, col⟩))) rfl ?_
    rw [dec_B]; congr 1; refine B_congr ?_; simp [Named]; try grind
  by_cases h3 : kind = 3
  · subst h3
    refine Eq.trans (b := some (decide ((⟨3, name, new, nilCol⟩ : Change) = ⟨3, name, new, col⟩))) rfl ?_
    rw [dec_B]; congr 1; refine B_congr ?_; simp [Named]; try grind
  by_cases h4 : kind = 4
  · subst h4
    refine Eq.trans (b := some (decide ((⟨4, name, [], { nilCol with kind := col.kind }⟩ : Change) = ⟨4, name, new, col⟩))) rfl ?_
    rw [dec_B]; congr 1; refine B_congr ?_; simp [Named]; try grind
  rw [B_f (by simp [Named, h1, h2, h3, h4])]
  simp [f112, h1, h2, h3, h4]
open Classical in
noncomputable def chg (s : List Col) (c : Change) : List Col :=
  if c.kind = 1 then s ++ [c.col]
  else if c.kind = 2 then s.eraseIdx (atN s c.name)
  else if c.kind = 3 then s.set (atN s c.name) { s.getD (atN s c.name) default with name := c.new }
  else s.set (atN s c.name) { s.getD (atN s c.name) default with kind := c.col.kind, def_ := valAs (s.getD (atN s c.name) default).def_ c.col.kind }
structure May (s : List Col) (c : Change) : Prop where
  named : Named c
  there : c.kind ≠ 1 → atN s c.name < s.length
  need : c.kind = 1 → c.col.need = true → c.col.def_.kind ≠ 0
  other : c.kind = 4 → c.col.kind ≠ (s.getD (atN s c.name) default).kind
structure Can (s : List Col) (c : Change) : Prop where
  may : May s c
  ok : ShapeOK (chg s c)
end Go.Proofs.YtejobmamkeoheaaGreatDoor
/- The changes of columns, as the document and as the program do them. -/
namespace Go.Proofs.YtejobmamkeoheaaGreatDoor
open Go Go.HL
variable {fu : Nat}
theorem atI_lt {s : List Col} {nm : List UInt8} (h : atN s nm < s.length) : atI s nm = (atN s nm : Int) := if_pos h
theorem atI_no {s : List Col} {nm : List UInt8} (h : ¬ atN s nm < s.length) : atI s nm = -1 := if_neg h
theorem cap {a b : Nat} (h : a + b ≤ 1000000000) : decide (a + b ≤ CAP) = true := by rw [CAP_eq, decide_eq_true_iff]; omega
theorem sm_chg {s : List Col} {c : Change} (hs : SmS s) (hl : s.length ≤ 500) (hc : SmCh c) : SmS (chg s c) := by
  have hd : SmC (s.getD (atN s c.name) default) := by
    by_cases h : atN s c.name < s.length
    · exact hs.get h
    · rw [List.getD_eq_getElem?_getD, List.getElem?_eq_none (by omega)]; exact ⟨by decide, by decide⟩
  unfold chg
  split
  · exact ⟨by simp; omega, fun x hx => by
      rcases List.mem_append.1 hx with h | h
      · exact hs.all x h
      · simp only [List.mem_singleton] at h; subst h; exact hc.col⟩
  · split
    · exact ⟨by have := List.length_eraseIdx_le s (atN s c.name); omega, fun x hx => hs.all x (List.mem_of_mem_eraseIdx hx)⟩
    · split
      · exact ⟨by simp; omega, fun x hx => by
          rcases List.mem_or_eq_of_mem_set hx with h | h
          · exact hs.all x h
          · subst h; exact ⟨hc.new, hd.def_⟩⟩
      · exact ⟨by simp; omega, fun x hx => by
          rcases List.mem_or_eq_of_mem_set hx with h | h
          · exact hs.all x h
          · subst h; exact ⟨hd.name, (valAs_ok _ _).1.sm⟩⟩
theorem capn {a : Nat} (h : a ≤ 1000000000) : a ≤ CAP := by rw [CAP_eq]; omega
theorem f136_is {c : Change} : f136 c = some (if c.kind = 4 then { nilCol with kind := c.col.kind } else nilCol) := by
  unfold f136
  by_cases h : c.kind = 4 <;> simp [h]
theorem cut_is {α : Type} {l : List α} {k : Nat} : l.take k ++ l.drop (k + 1) = l.eraseIdx k := (List.eraseIdx_eq_take_drop_succ l k).symm
theorem f137_is {s : List Col} {k : Nat} (hs : s.length ≤ 2000000) (hk : k < s.length) : f137 s (k : Int) = some (s.eraseIdx k) := by
  have e1 : IntKind.i64.wrap ((k : Int) + 1) = ((k + 1 : Nat) : Int) := succI hk (by unfold BIG; omega)
  unfold f137
  rw [e1, ← cut_is]
  have t1 : List.length ([] : List Col) + List.length ((s.take k).drop 0) ≤ 1000000000 := by simp; omega
  have t2 : List.length (([] : List Col) ++ ((s.take k).drop 0)) + List.length ((s.take s.length).drop (k + 1)) ≤ 1000000000 := by simp; omega
  simp only [Int.toNat_natCast, Int.toNat_zero, cap t1, cap t2, ge0, Bool.true_and, Bool.and_true, cond_true, decide_true, Int.le_refl]
  have h1 : decide ((k : Int) ≤ (s.length : Int)) = true := by simp; omega
  have h2 : decide (((k + 1 : Nat) : Int) ≤ (s.length : Int)) = true := by simp; omega
  rw [h1, h2]
  simp
theorem Named.k1 {c : Change} (h : Named c) (k : c.kind = 1) : c.name = [] ∧ c.new = [] := by
  rcases h with h | h | h | h
  · exact h.2
  all_goals omega
theorem Named.k2 {c : Change} (h : Named c) (k : c.kind = 2) : c.new = [] ∧ c.col = nilCol := by
  rcases h with h | h | h | h
  · omega
  · exact h.2
  all_goals omega
theorem Named.k3 {c : Change} (h : Named c) (k : c.kind = 3) : c.col = nilCol := by
  rcases h with h | h | h | h
  · omega
  · omega
  · exact h.2
  · omega
theorem Named.k4 {c : Change} (h : Named c) (k : c.kind = 4) : c.new = [] ∧ c.col = { nilCol with kind := c.col.kind } := by
  rcases h with h | h | h | h
  · omega
  · omega
  · omega
  · exact h.2
theorem Named.kinds {c : Change} (h : Named c) : c.kind = 1 ∨ c.kind = 2 ∨ c.kind = 3 ∨ c.kind = 4 := by
  rcases h with h | h | h | h <;> omega
theorem May1 {s : List Col} {c : Change} (k : c.kind = 1) : May s c ↔ (c.name = [] ∧ c.new = [] ∧ (c.col.need = true → c.col.def_.kind ≠ 0)) :=
  ⟨fun h => ⟨(h.named.k1 k).1, (h.named.k1 k).2, h.need k⟩, fun h => ⟨.inl ⟨k, h.1, h.2.1⟩, fun h => absurd k h, fun _ => h.2.2, fun h => by omega⟩⟩
theorem May2 {s : List Col} {c : Change} (k : c.kind = 2) : May s c ↔ (c.new = [] ∧ c.col = nilCol ∧ atN s c.name < s.length) :=
  ⟨fun h => ⟨(h.named.k2 k).1, (h.named.k2 k).2, h.there (by omega)⟩, fun h => ⟨.inr (.inl ⟨k, h.1, h.2.1⟩), fun _ => h.2.2, fun _ => by omega, fun h => by omega⟩⟩
theorem May3 {s : List Col} {c : Change} (k : c.kind = 3) : May s c ↔ (c.col = nilCol ∧ atN s c.name < s.length) :=
  ⟨fun h => ⟨h.named.k3 k, h.there (by omega)⟩, fun h => ⟨.inr (.inr (.inl ⟨k, h.1⟩)), fun _ => h.2, fun _ => by omega, fun h => by omega⟩⟩
theorem May4 {s : List Col} {c : Change} (k : c.kind = 4) : May s c ↔ (c.new = [] ∧ c.col = { nilCol with kind := c.col.kind } ∧ atN s c.name < s.length ∧ c.col.kind ≠ (s.getD (atN s c.name) default).kind) :=
  ⟨fun h => ⟨(h.named.k4 k).1, (h.named.k4 k).2, h.there (by omega), h.other k⟩, fun h => ⟨.inr (.inr (.inr ⟨k, h.1, h.2.1⟩)), fun _ => h.2.2.1, fun _ => by omega, fun _ => h.2.2.2⟩⟩
theorem May0 {s : List Col} {c : Change} (k : c.kind ≠ 1 ∧ c.kind ≠ 2 ∧ c.kind ≠ 3 ∧ c.kind ≠ 4) : ¬ May s c := fun h => by
  have := h.named.kinds
  omega
theorem f118_is {s : List Col} {c : Change} (hf : BIG ≤ fu) (hs : SmS s) (hl : s.length ≤ 500) :
    f118 fu s c = some (@ite _ (May s c) (Classical.propDecidable _) (chg s c) []) := by
  have t0 : List.length ([] : List Col) + List.length s ≤ 1000000000 := by simp; omega
  have t1 : List.length (([] : List Col) ++ s) + List.length ([c.col] : List Col) ≤ 1000000000 := by simp; omega
  unfold f118
  rw [f108_is hf (by omega), Option.bind_some, cap t0, cond_true]
  by_cases k1 : c.kind = 1
  · have hc : chg s c = s ++ [c.col] := by unfold chg; rw [if_pos k1]
    rw [hc]
    have t2 := capn (show s.length + 1 ≤ 1000000000 by omega)
    simp only [f118_j1, f118_j2, k1, decide_true, cond_true, List.nil_append]
    by_cases h1 : c.name = [] <;> by_cases h2 : c.new = [] <;> cases h3 : c.col.need <;> by_cases h4 : c.col.def_.kind = 0 <;> simp [h1, h2, h3, h4, May1 k1, t2]
  by_cases hat : atN s c.name < s.length
  case neg =>
    have hn : ¬ May s c := fun h => hat (h.there k1)
    rw [if_neg hn, atI_no hat]
    simp [f118_j1, f118_j2, k1]
  rw [atI_lt hat]
  have hr : (f136 c).bind (fun q12 => f118_j2 fu s c (atN s c.name : Int) (!decide (c.col = q12))) = some (@ite _ (May s c) (Classical.propDecidable _) (chg s c) []) := by
    rw [f136_is, Option.bind_some]
    simp only [f118_j2, f118_j3, f118_j4]
    have hin := inR hat
    have hd := hs.get hat
    by_cases k2 : c.kind = 2
    · have hc : chg s c = s.eraseIdx (atN s c.name) := by unfold chg; rw [if_neg k1, if_pos k2]
      rw [hc, f137_is (by omega) hat]
      by_cases h1 : c.new = [] <;> by_cases h2 : c.col = nilCol <;> simp [k2, h1, h2, hat, May2 k2]
    by_cases k3 : c.kind = 3
    · have hc : chg s c = s.set (atN s c.name) { s.getD (atN s c.name) default with name := c.new } := by unfold chg; rw [if_neg k1, if_neg k2, if_pos k3]
      rw [hc]
      by_cases h2 : c.col = nilCol <;> simp [k3, h2, hat, May3 k3]
    by_cases k4 : c.kind = 4
    · have hc : chg s c = s.set (atN s c.name) { s.getD (atN s c.name) default with kind := c.col.kind, def_ := valAs (s.getD (atN s c.name) default).def_ c.col.kind } := by unfold chg; rw [if_neg k1, if_neg k2, if_neg k3]
      rw [hc, Int.toNat_natCast, f138_is hf hd.def_]
      rw [if_pos k4]
      by_cases h2 : c.col = { nilCol with kind := c.col.kind }
      case neg => rw [decide_eq_false h2, if_neg fun h => h2 ((May4 k4).1 h).2.1]; rfl
      rw [decide_eq_true h2]
      have e2 : decide (c.kind = 2) = false := decide_eq_false k2
      have e3 : decide (c.kind = 3) = false := decide_eq_false k3
      have e4 : decide (c.kind = 4) = true := decide_eq_true k4
      simp only [e2, e3, e4, Bool.not_true, cond_false, cond_true, List.nil_append, hin]
      by_cases h1 : c.new = []
      case neg => rw [decide_eq_false h1, if_neg fun h => h1 ((May4 k4).1 h).1]; rfl
      rw [decide_eq_true h1]
      by_cases h3 : c.col.kind = (s.getD (atN s c.name) default).kind
      · rw [decide_eq_true h3, if_neg fun h => ((May4 k4).1 h).2.2.2 h3]; rfl
      · rw [decide_eq_false h3, if_pos ((May4 k4).2 ⟨h1, h2, hat, h3⟩)]
        simp [hat]
    · rw [if_neg (May0 ⟨k1, k2, k3, k4⟩)]
      simp [k2, k3, k4]
  have e1 : decide (c.kind = 1) = false := decide_eq_false k1
  have e2 : decide ((atN s c.name : Int) < 0) = false := by simp
  simp only [f118_j1, e1, e2, cond_false]
  exact hr
theorem not_ok_nil : ¬ ShapeOK [] := fun h => by have := h.lo; simp at this
open Classical in
noncomputable def doC (s : List Col) (c : Change) : List Col × Bool := if Can s c then (chg s c, true) else (s, false)
theorem f87_is {s : List Col} {c : Change} (hf : BIG ≤ fu) (hs : ShapeOK s) (hc : SmCh c) : f87 fu s c = some (doC s c) := by
  have hl := hs.hi
  have t0 : List.length ([] : List Col) + List.length s ≤ 1000000000 := by simp; omega
  unfold f87 doC
  rw [f86_is hf hs.sm, B_t hs, Option.bind_some, f118_is hf hs.sm (by omega), Option.bind_some]
  by_cases hm : May s c
  · rw [if_pos hm]
    rw [f86_is hf (sm_chg hs.sm (by omega) hc), Option.bind_some, cap t0]
    by_cases ho : ShapeOK (chg s c)
    · rw [if_pos ⟨hm, ho⟩, B_t ho]; rfl
    · rw [if_neg fun h => ho h.ok, B_f ho]; rfl
  · rw [if_neg hm, if_neg fun h => hm h.may, f86_is hf ⟨by simp, fun c h => by simp at h⟩, B_f not_ok_nil, cap t0]; rfl
theorem f91_is {s : List Col} (hl : s.length ≤ 2000000) : f91 s = some s := by
  unfold f91 f121 f122
  rw [cap (by simp; omega)]; rfl
theorem delN {α : Type} {l : List α} {k : Nat} (hk : k < l.length) (hl : l.length ≤ 2000000) :
    (decide (0 ≤ (k : Int)) && decide ((k : Int) ≤ IntKind.i64.wrap ((k : Int) + 1)) && decide (IntKind.i64.wrap ((k : Int) + 1) ≤ (l.length : Int))) = true ∧ (IntKind.i64.wrap ((k : Int) + 1)).toNat = k + 1 := by
  have e1 : IntKind.i64.wrap ((k : Int) + 1) = ((k + 1 : Nat) : Int) := succI hk (by unfold BIG; omega)
  rw [e1]
  simp; omega
theorem f113_is {s : List Col} {k : Nat} (hl : s.length ≤ 2000000) (hk : k < s.length) : f113 s (k : Int) (IntKind.i64.wrap ((k : Int) + 1)) = some (s.eraseIdx k) := by
  have h := delN hk hl
  unfold f113
  rw [h.1, h.2, cond_true, Int.toNat_natCast, cut_is]
theorem f78_is {s : List Col} {c : Change} (hf : BIG ≤ fu) (hs : ShapeOK s) (hc : SmCh c) : f78 fu s c = some (doC s c) := by
  have hl := hs.hi
  have hsm := hs.sm
  have end_ : ∀ x, x = chg s c → May s c → f78_j2 fu s x = some (doC s c) := fun x hx hm => by
    subst hx
    unfold f78_j2 doC
    have h2 := sm_chg hsm (by omega) hc
    rw [f67_is hf h2, Option.bind_some, f91_is (by omega), f91_is h2.len]
    by_cases ho : ShapeOK (chg s c)
    · rw [if_pos ⟨hm, ho⟩, B_t ho]; rfl
    · rw [if_neg fun h => ho h.ok, B_f ho]; rfl
  have no : ¬ May s c → some (s, false) = some (doC s c) := fun hm => by unfold doC; rw [if_neg fun h => hm h.may]
  unfold f78
  rw [f91_is (by omega), Option.bind_some, f68_is hf (by omega), Option.bind_some, f112_is, Option.bind_some]
  by_cases hn : Named c
  case neg => rw [B_f hn]; exact no fun h => hn h.named
  rw [B_t hn]
  simp only [Bool.not_true, cond_false]
  by_cases k1 : c.kind = 1
  · have hch : chg s c = s ++ [c.col] := by unfold chg; rw [if_pos k1]
    have e1 : decide (c.kind = 1) = true := decide_eq_true k1
    simp only [e1, Bool.not_true, cond_false, f78_j1, cond_true, f78_j3, cap (show List.length s + List.length ([c.col] : List Col) ≤ 1000000000 by simp; omega)]
    have hnm := hn.k1 k1
    cases h3 : c.col.need with
    | false => simp only [cond_false]; exact end_ _ hch.symm ((May1 k1).2 ⟨hnm.1, hnm.2, fun h => by rw [h3] at h; cases h⟩)
    | true =>
      by_cases h4 : c.col.def_.kind = 0
      · rw [decide_eq_true h4]; exact no fun h => ((May1 k1).1 h).2.2 h3 h4
      · rw [decide_eq_false h4]; exact end_ _ hch.symm ((May1 k1).2 ⟨hnm.1, hnm.2, fun _ => h4⟩)
  have e1 : decide (c.kind = 1) = false := decide_eq_false k1
  simp only [e1, Bool.not_false, cond_true]
  by_cases hat : atN s c.name < s.length
  case neg =>
    rw [atI_no hat]
    exact no fun h => hat (h.there k1)
  rw [atI_lt hat]
  have e0 : decide ((atN s c.name : Int) < 0) = false := by simp
  have hin := inR hat
  simp only [e0, f78_j1, e1, cond_false, hin, Int.toNat_natCast]
  by_cases k2 : c.kind = 2
  · have hch : chg s c = s.eraseIdx (atN s c.name) := by unfold chg; rw [if_neg k1, if_pos k2]
    rw [decide_eq_true k2, cond_true, f113_is (by omega) hat, Option.bind_some]
    exact end_ _ hch.symm ((May2 k2).2 ⟨(hn.k2 k2).1, (hn.k2 k2).2, hat⟩)
  by_cases k3 : c.kind = 3
  · have hch : chg s c = s.set (atN s c.name) { s.getD (atN s c.name) default with name := c.new } := by unfold chg; rw [if_neg k1, if_neg k2, if_pos k3]
    rw [decide_eq_false k2, decide_eq_true k3]
    exact end_ _ hch.symm ((May3 k3).2 ⟨hn.k3 k3, hat⟩)
  by_cases k4 : c.kind = 4
  · have hch : chg s c = s.set (atN s c.name) { s.getD (atN s c.name) default with kind := c.col.kind, def_ := valAs (s.getD (atN s c.name) default).def_ c.col.kind } := by unfold chg; rw [if_neg k1, if_neg k2, if_neg k3]
    rw [decide_eq_false k2, decide_eq_false k3, decide_eq_true k4]
    simp only [cond_true, cond_false]
    by_cases h3 : c.col.kind = (s.getD (atN s c.name) default).kind
    · rw [decide_eq_true h3]; exact no fun h => ((May4 k4).1 h).2.2.2 h3
    · rw [decide_eq_false h3, f114_is hf (hsm.get hat).def_]
      simp only [cond_false, Option.bind_some, List.length_set, hin, cond_true]
      refine end_ _ ?_ ((May4 k4).2 ⟨(hn.k4 k4).1, (hn.k4 k4).2, hat, h3⟩)
      rw [hch]
      simp [hat]
  · exact absurd hn.kinds (by omega)
end Go.Proofs.YtejobmamkeoheaaGreatDoor
