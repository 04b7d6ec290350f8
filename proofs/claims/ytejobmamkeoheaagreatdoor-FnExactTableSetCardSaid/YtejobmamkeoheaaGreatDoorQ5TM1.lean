/- What the functions of values and columns answer, in plain words. -/
import Derived.Test.YtejobmamkeoheaaGreatDoorQ5TA13
import Derived.KernelRfl
set_option linter.all false
namespace Go.Proofs.YtejobmamkeoheaaGreatDoor
open Go Go.HL
noncomputable def B (p : Prop) : Bool := @decide p (Classical.propDecidable p)
theorem B_t {p : Prop} (h : p) : B p = true := by unfold B; exact @decide_eq_true _ (Classical.propDecidable p) h
theorem B_f {p : Prop} (h : ¬ p) : B p = false := by unfold B; exact @decide_eq_false _ (Classical.propDecidable p) h
theorem B_iff {p : Prop} : B p = true ↔ p := by unfold B; exact @decide_eq_true_iff p (Classical.propDecidable p)
theorem B_nf {p : Prop} : B p = false ↔ ¬ p := ⟨fun h hp => (by rw [B_t hp] at h; cases h), B_f⟩
theorem dec_B {p : Prop} [i : Decidable p] : decide p = B p := by
  by_cases h : p
  · rw [B_t h, decide_eq_true h]
  · rw [B_f h, decide_eq_false h]
theorem B_congr {p q : Prop} (h : p ↔ q) : B p = B q := by rw [propext h]
theorem eq_B {b : Bool} {p : Prop} (h : b = true ↔ p) : b = B p := by
  by_cases hp : p
  · rw [B_t hp]; exact h.2 hp
  · rw [B_f hp]; cases b with
    | false => rfl
    | true => exact absurd (h.1 rfl) hp
theorem B_and {p q : Prop} : B (p ∧ q) = (B p && B q) := (eq_B (by rw [Bool.and_eq_true, B_iff, B_iff])).symm
theorem B_or {p q : Prop} : B (p ∨ q) = (B p || B q) := (eq_B (by rw [Bool.or_eq_true, B_iff, B_iff])).symm
theorem B_not {p : Prop} : B (¬ p) = !B p := (eq_B (by rw [Bool.not_eq_true', B_nf])).symm
theorem B_imp {p q : Prop} : B (p → q) = (!B p || B q) := (eq_B (by
  rw [Bool.or_eq_true, Bool.not_eq_true', B_nf, B_iff]
  exact ⟨fun h hp => h.elim (absurd hp) id, fun h => (Classical.em p).elim (fun hp => .inr (h hp)) .inl⟩)).symm
theorem B_bool {b : Bool} : B (b = true) = b := (eq_B Iff.rfl).symm
theorem wrapI {x : Int} (h1 : -9223372036854775808 ≤ x) (h2 : x ≤ 9223372036854775807) : IntKind.i64.wrap x = x := by
  rw [IntKind.wrap_i64]; omega
theorem CAP_eq : CAP = 4294967296 := by unfold CAP; rfl
abbrev BIG : Nat := 100000000
theorem succI {k N : Nat} (h : k < N) (hN : N ≤ BIG) : IntKind.i64.wrap ((k : Int) + 1) = ((k + 1 : Nat) : Int) := by
  rw [wrapI] <;> unfold BIG at hN <;> omega
theorem loopB {L : Nat → Int → Option Bool} {N : Nat} (p : Nat → Prop) (q : Prop) (hN : N ≤ BIG)
    (hend : ∀ n, q → L (n + 1) (N : Int) = some true) (hend' : ∀ n, ¬ q → L (n + 1) (N : Int) = some false)
    (hyes : ∀ n (k : Nat), k < N → p k → L (n + 1) (k : Int) = L n (IntKind.i64.wrap ((k : Int) + 1)))
    (hno : ∀ n (k : Nat), k < N → ¬ p k → L (n + 1) (k : Int) = some false) {fu : Nat} (hf : N < fu) : L fu 0 = some (B ((∀ k, k < N → p k) ∧ q)) := by
  have key : ∀ c fu k, k + c = N → c < fu → L fu (k : Int) = some (B ((∀ i, k ≤ i → i < N → p i) ∧ q)) := by
    intro c
    induction c with
    | zero =>
      intro fu k hk hc
      obtain ⟨n, rfl⟩ : ∃ n, fu = n + 1 := ⟨fu - 1, by omega⟩
      have : k = N := by omega
      subst this
      by_cases hq : q
      · rw [hend n hq, B_t ⟨fun i h1 h2 => by omega, hq⟩]
      · rw [hend' n hq, B_f fun h => hq h.2]
    | succ c ih =>
      intro fu k hk hc
      obtain ⟨n, rfl⟩ : ∃ n, fu = n + 1 := ⟨fu - 1, by omega⟩
      by_cases hp : p k
      · rw [hyes n k (by omega) hp, succI (show k < N by omega) hN, ih n (k + 1) (by omega) (by omega)]
        congr 1
        refine B_congr ⟨fun h => ⟨fun i h1 h2 => ?_, h.2⟩, fun h => ⟨fun i h1 h2 => h.1 i (by omega) h2, h.2⟩⟩
        by_cases hi : i = k
        · subst hi; exact hp
        · exact h.1 i (by omega) h2
      · rw [hno n k (by omega) hp]
        congr 1
        exact (B_f fun h => hp (h.1 k (Nat.le_refl _) (by omega))).symm
  have := key N fu 0 (by omega) hf
  simpa using this
theorem loopI {L : Nat → Int → Option Int} {α : Type} (l : List α) (p : α → Bool) (hN : l.length ≤ BIG)
    (hend : ∀ n, L (n + 1) (l.length : Int) = some (-1))
    (hyes : ∀ n (k : Nat) (hk : k < l.length), p l[k] = true → L (n + 1) (k : Int) = some (k : Int))
    (hno : ∀ n (k : Nat) (hk : k < l.length), p l[k] = false → L (n + 1) (k : Int) = L n (IntKind.i64.wrap ((k : Int) + 1))) {fu : Nat} (hf : l.length < fu) :
    L fu 0 = some (if l.findIdx p < l.length then (l.findIdx p : Int) else -1) := by
  have key : ∀ c fu k, k + c = l.length → c < fu → (∀ i (hi : i < l.length), i < k → p l[i] = false) → L fu (k : Int) = some (if l.findIdx p < l.length then (l.findIdx p : Int) else -1) := by
    intro c
    induction c with
    | zero =>
      intro fu k hk hc h
      obtain ⟨n, rfl⟩ : ∃ n, fu = n + 1 := ⟨fu - 1, by omega⟩
      have : k = l.length := by omega
      rw [this, hend]
      have : ¬ l.findIdx p < l.length := fun hlt => by
        have := List.findIdx_getElem (w := hlt)
        rw [h _ hlt (by omega)] at this
        cases this
      rw [if_neg this]
    | succ c ih =>
      intro fu k hk hc h
      obtain ⟨n, rfl⟩ : ∃ n, fu = n + 1 := ⟨fu - 1, by omega⟩
      have hkl : k < l.length := by omega
      cases hp : p l[k] with
      | true =>
        rw [hyes n k hkl hp]
        have : l.findIdx p = k := by
          refine (List.findIdx_eq hkl).2 ⟨hp, fun j hj => ?_⟩
          exact h j (by omega) hj
        rw [this, if_pos hkl]
      | false =>
        rw [hno n k hkl hp, succI hkl hN]
        refine ih n (k + 1) (by omega) (by omega) fun i hi hik => ?_
        by_cases hi' : i = k
        · subst hi'; exact hp
        · exact h i hi (by omega)
  have := key l.length fu 0 (by omega) hf (fun i _ hi => absurd hi (Nat.not_lt_zero _))
  simpa using this
def lowB (b : UInt8) : Prop := 97 ≤ b.toNat ∧ b.toNat ≤ 122
def textB (b : UInt8) : Prop := lowB b ∨ (48 ≤ b.toNat ∧ b.toNat ≤ 57) ∨ b.toNat = 45
def NameOK (s : List UInt8) : Prop := (∀ k, k < s.length → lowB (s.getD k 0)) ∧ 1 ≤ s.length ∧ s.length ≤ 3
def TextB (s : List UInt8) : Prop := ∀ k, k < s.length → textB (s.getD k 0)
def TextOK (s : List UInt8) : Prop := TextB s ∧ s.length ≤ 4
structure NumV (v : Val) : Prop where
  lo : -999 ≤ v.n
  hi : v.n ≤ 999
  text : v.text = []
def ValOK (v : Val) : Prop := (v.kind = 0 ∧ v = ⟨0, 0, []⟩) ∨ (v.kind = 1 ∧ NumV v) ∨ (v.kind = 2 ∧ v.n = 0 ∧ TextOK v.text)
theorem getD_lt {α : Type} {l : List α} {k : Nat} {d : α} (h : k < l.length) : l.getD k d = l[k] := by simp [List.getD_eq_getElem?_getD, h]
theorem inR {k n : Nat} (h : k < n) : (decide (0 ≤ (k : Int)) && decide ((k : Int) < (n : Int))) = true := by
  simp; exact h
theorem ltR {k n : Nat} (h : k < n) : decide ((k : Int) < (n : Int)) = true := by simp; exact h
theorem ge0 (k : Nat) : decide (0 ≤ (k : Int)) = true := by simp
theorem nlt (n : Nat) : decide ((n : Int) < (n : Int)) = false := by simp
theorem f135_is {fu : Nat} {s : List UInt8} (hs : s.length < fu) (hB : s.length ≤ BIG) : f135 fu s = some (B (NameOK s)) := by
  unfold f135 NameOK
  refine loopB (L := f135_l1 s) (fun k => lowB (s.getD k 0)) (1 ≤ s.length ∧ s.length ≤ 3) hB (fun n h => ?_) (fun n h => ?_) (fun n k hk hp => ?_) (fun n k hk hp => ?_) hs
  all_goals rw [f135_l1]
  all_goals simp only [f135_j3, f135_j4, lowB] at *
  all_goals grind
theorem f140_is {fu : Nat} {s : List UInt8} (hs : s.length < fu) (hB : s.length ≤ BIG) : f140 fu s = some (B (TextOK s)) := by
  unfold f140 TextOK
  unfold TextB
  refine loopB (L := f140_l1 s) (fun k => textB (s.getD k 0)) (s.length ≤ 4) hB (fun n h => ?_) (fun n h => ?_) (fun n k hk hp => ?_) (fun n k hk hp => ?_) hs
  all_goals rw [f140_l1]
  all_goals simp only [f140_j2, textB, lowB] at *
  all_goals grind
theorem f128_is {fu : Nat} {s : List UInt8} (hs : s.length < fu) (hB : s.length ≤ BIG) : f128 fu s = some (B (NameOK s)) := by
  unfold f128 NameOK
  refine loopB (L := f128_l1 fu s) (fun k => lowB (s.getD k 0)) (1 ≤ s.length ∧ s.length ≤ 3) hB (fun n h => ?_) (fun n h => ?_) (fun n k hk hp => ?_) (fun n k hk hp => ?_) hs
  all_goals rw [f128_l1]
  all_goals simp only [f128_j2, f56, f56_j1, lowB] at *
  all_goals grind
theorem f119_is {fu : Nat} {v : Val} (hs : v.text.length < fu) (hB : v.text.length ≤ BIG) : f119 fu v = some (B (ValOK v)) := by
  unfold f119
  rw [f140_is hs hB]
  simp only [f119_j1, f119_j2, f139, f139_j1]
  by_cases h : ValOK v
  · rw [B_t h]
    unfold ValOK at h
    by_cases ht : TextOK v.text
    · rw [B_t ht]; grind [NumV]
    · rw [B_f ht]; grind [NumV]
  · rw [B_f h]
    unfold ValOK at h
    by_cases ht : TextOK v.text
    · rw [B_t ht]; grind [NumV]
    · rw [B_f ht]; grind [NumV]
theorem f25_is {fu : Nat} {v : Val} (hs : v.text.length < fu) (hB : v.text.length ≤ BIG) : f25 fu v = some (B (ValOK v)) := by
  have hl : f25_l1 v fu 0 = some (B ((∀ k, k < v.text.length → textB (v.text.getD k 0)) ∧ (v.n = 0 ∧ v.text.length ≤ 4))) := by
    refine loopB (L := f25_l1 v) (fun k => textB (v.text.getD k 0)) (v.n = 0 ∧ v.text.length ≤ 4) hB (fun n h => ?_) (fun n h => ?_) (fun n k hk hp => ?_) (fun n k hk hp => ?_) hs
    all_goals rw [f25_l1]
    all_goals simp only [f25_j4, f25_j5, textB, lowB] at *
    all_goals grind
  unfold f25
  rw [hl]
  simp only [f25_j1, f56, f56_j1]
  have h2 : ((∀ k, k < v.text.length → textB (v.text.getD k 0)) ∧ (v.n = 0 ∧ v.text.length ≤ 4)) ↔ (v.n = 0 ∧ TextOK v.text) := by
    unfold TextOK TextB
    exact ⟨fun h => ⟨h.2.1, h.1, h.2.2⟩, fun h => ⟨h.2.1, h.1, h.2.2⟩⟩
  rw [B_congr h2]
  by_cases h : ValOK v
  · rw [B_t h]
    unfold ValOK at h
    by_cases ht : TextOK v.text <;> by_cases hn : v.n = 0 <;> simp only [ht, hn, and_self, and_true, and_false, true_and, false_and, B_t, B_f, not_false_eq_true] at h ⊢ <;> grind [NumV]
  · rw [B_f h]
    unfold ValOK at h
    by_cases ht : TextOK v.text <;> by_cases hn : v.n = 0 <;> simp only [ht, hn, and_self, and_true, and_false, true_and, false_and, B_t, B_f, not_false_eq_true] at h ⊢ <;> grind [NumV]
abbrev SmV (v : Val) : Prop := v.text.length ≤ 2000000
structure SmC (c : Col) : Prop where
  name : c.name.length ≤ 2000000
  def_ : SmV c.def_
structure SmS (s : List Col) : Prop where
  len : s.length ≤ 2000000
  all : ∀ c, c ∈ s → SmC c
def Fits (v : Val) (k : Int) : Prop := v.kind = 0 ∨ v.kind = k
structure ColOK (c : Col) : Prop where
  name : NameOK c.name
  kind : c.kind = 1 ∨ c.kind = 2
  def_ : ValOK c.def_
  fits : Fits c.def_ c.kind
  once : c.once = true → c.def_.kind = 0
theorem ColOK_iff {c : Col} : ColOK c ↔ NameOK c.name ∧ (c.kind = 1 ∨ c.kind = 2) ∧ ValOK c.def_ ∧ (c.def_.kind = 0 ∨ c.def_.kind = c.kind) ∧ (c.once = true → c.def_.kind = 0) := ⟨fun h => ⟨h.1, h.2, h.3, h.4, h.5⟩, fun h => ⟨h.1, h.2.1, h.2.2.1, h.2.2.2.1, h.2.2.2.2⟩⟩
variable {fu : Nat}
theorem f135_sm {s : List UInt8} (hf : BIG ≤ fu) (hs : s.length ≤ 2000000) : f135 fu s = some (B (NameOK s)) := f135_is (by unfold BIG at hf; omega) (by unfold BIG; omega)
theorem f128_sm {s : List UInt8} (hf : BIG ≤ fu) (hs : s.length ≤ 2000000) : f128 fu s = some (B (NameOK s)) := f128_is (by unfold BIG at hf; omega) (by unfold BIG; omega)
theorem f119_sm {v : Val} (hf : BIG ≤ fu) (hs : SmV v) : f119 fu v = some (B (ValOK v)) := f119_is (by unfold BIG at hf; omega) (by unfold BIG; omega)
theorem f25_sm {v : Val} (hf : BIG ≤ fu) (hs : SmV v) : f25 fu v = some (B (ValOK v)) := f25_is (by unfold BIG at hf; omega) (by unfold BIG; omega)
theorem f117_is {c : Col} (hf : BIG ≤ fu) (hs : SmC c) : f117 fu c = some (B (ColOK c)) := by
  unfold f117
  rw [f135_sm hf hs.1, f119_sm hf hs.2]
  simp only [f117_j1]
  rw [B_congr ColOK_iff]
  by_cases h1 : NameOK c.name <;> by_cases h2 : ValOK c.def_ <;> simp only [B_t, B_f, h1, h2, true_and, false_and, and_false, Option.bind_some, cond_true, cond_false, not_false_eq_true]
  · by_cases h : (c.kind = 1 ∨ c.kind = 2) ∧ (c.def_.kind = 0 ∨ c.def_.kind = c.kind) ∧ (c.once = true → c.def_.kind = 0)
    · rw [B_t h]; grind
    · rw [B_f h]; grind
  · grind
theorem f56_is {a lo hi : Int} : f56 fu a lo hi = some (B (lo ≤ a ∧ a ≤ hi)) := by
  simp only [f56, f56_j1]
  by_cases h1 : lo ≤ a <;> by_cases h2 : a ≤ hi <;> simp [h1, h2, B_t, B_f]
theorem f92_is {v : Val} {k : Int} : f92 fu v k = some (B (v.kind = 0 ∨ v.kind = k)) := by
  simp only [f92, f92_j1]
  by_cases h1 : v.kind = 0
  · simp [h1, B_t]
  · by_cases h2 : v.kind = k
    · rw [B_t (.inr h2)]; simp [h1, h2]
    · rw [B_f (fun h => h.elim h1 h2)]; simp [h1, h2]
theorem f103_is {c : Col} (hf : BIG ≤ fu) (hs : SmC c) : f103 fu c = some (B (ColOK c)) := by
  unfold f103
  rw [f128_sm hf hs.1, f25_sm hf hs.2, f56_is, f92_is]
  have hk : (1 ≤ c.kind ∧ c.kind ≤ 2) ↔ (c.kind = 1 ∨ c.kind = 2) := by omega
  rw [B_congr ColOK_iff, B_congr hk]
  simp only [f103_j1, B_and, B_or, B_imp, B_bool, dec_B]
  cases B (NameOK c.name) <;> cases B (ValOK c.def_) <;> cases B (c.kind = 1) <;> cases B (c.kind = 2) <;> cases B (c.def_.kind = 0) <;> cases B (c.def_.kind = c.kind) <;> cases c.once <;> rfl
def atN (s : List Col) (nm : List UInt8) : Nat := s.findIdx fun c => decide (c.name = nm)
def atI (s : List Col) (nm : List UInt8) : Int := if atN s nm < s.length then (atN s nm : Int) else -1
theorem f108_is {s : List Col} {nm : List UInt8} (hf : BIG ≤ fu) (hs : s.length ≤ 2000000) : f108 fu s nm = some (atI s nm) := by
  unfold f108 atI atN
  refine loopI (L := f108_l1 s nm) s (fun c => decide (c.name = nm)) (by unfold BIG; omega) (fun n => ?_) (fun n k hk hp => ?_) (fun n k hk hp => ?_) (by unfold BIG at hf; omega)
  all_goals rw [f108_l1]
  all_goals grind
theorem f68_is {s : List Col} {nm : List UInt8} (hf : BIG ≤ fu) (hs : s.length ≤ 2000000) : f68 fu s nm = some (atI s nm) := by
  unfold f68 f104
  have : f104_l1 s (fun x0 => f105 x0 nm) fu 0 = some (atI s nm) := by
    unfold atI atN
    refine loopI (L := f104_l1 s (fun x0 => f105 x0 nm)) s (fun c => decide (c.name = nm)) (by unfold BIG; omega) (fun n => ?_) (fun n k hk hp => ?_) (fun n k hk hp => ?_) (by unfold BIG at hf; omega)
    all_goals rw [f104_l1]
    all_goals simp only [f105]
    all_goals grind
  rw [this]; rfl
structure ShapeOK (s : List Col) : Prop where
  all : ∀ k, k < s.length → ColOK (s.getD k default) ∧ atI s (s.getD k default).name = (k : Int)
  lo : 1 ≤ s.length
  hi : s.length ≤ 5
theorem ShapeOK_iff {s : List Col} : ShapeOK s ↔ (∀ k, k < s.length → ColOK (s.getD k default) ∧ atI s (s.getD k default).name = (k : Int)) ∧ (1 ≤ s.length ∧ s.length ≤ 5) := ⟨fun h => ⟨h.1, h.2, h.3⟩, fun h => ⟨h.1, h.2.1, h.2.2⟩⟩
theorem SmS.get {s : List Col} (h : SmS s) {k : Nat} (hk : k < s.length) : SmC (s.getD k default) := by
  rw [getD_lt hk]; exact h.all _ (List.getElem_mem hk)
theorem f86_is {s : List Col} (hf : BIG ≤ fu) (hs : SmS s) : f86 fu s = some (B (ShapeOK s)) := by
  unfold f86
  rw [B_congr ShapeOK_iff]
  have hl := hs.len
  refine loopB (L := f86_l1 fu s) _ _ (by unfold BIG; omega) (fun n h => ?_) (fun n h => ?_) (fun n k hk hp => ?_) (fun n k hk hp => ?_) (by unfold BIG at hf; omega)
  all_goals rw [f86_l1]
  all_goals simp only [f86_j3, f86_j4, f108_is hf hl]
  · grind
  · grind
  · rw [f117_is hf (hs.get (by grind)), B_t (by grind)]; grind
  · rw [f117_is hf (hs.get (by grind))]
    by_cases h : ColOK (s.getD k default)
    · rw [B_t (by grind)]; grind
    · rw [B_f (by grind)]; grind
theorem f67_is {s : List Col} (hf : BIG ≤ fu) (hs : SmS s) : f67 fu s = some (B (ShapeOK s)) := by
  unfold f67
  rw [B_congr ShapeOK_iff]
  have hl := hs.len
  refine loopB (L := f67_l1 fu s) _ _ (by unfold BIG; omega) (fun n h => ?_) (fun n h => ?_) (fun n k hk hp => ?_) (fun n k hk hp => ?_) (by unfold BIG at hf; omega)
  all_goals rw [f67_l1]
  all_goals simp only [f67_j2, f68_is hf hl, f56, f56_j1]
  · grind
  · grind
  · rw [f103_is hf (hs.get (by grind)), B_t (by grind)]; grind
  · rw [f103_is hf (hs.get (by grind))]
    by_cases h : ColOK (s.getD k default)
    · rw [B_t (by grind)]; grind
    · rw [B_f (by grind)]; grind
end Go.Proofs.YtejobmamkeoheaaGreatDoor
