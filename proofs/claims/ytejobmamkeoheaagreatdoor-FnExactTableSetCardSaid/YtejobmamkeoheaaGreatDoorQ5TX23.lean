/- What the exact laws' helpers answer: sizes, copies, sameness, marks. -/
import Derived.Test.YtejobmamkeoheaaGreatDoorQ5TX16
import Derived.Test.YtejobmamkeoheaaGreatDoorQ5TM13
set_option linter.all false
namespace Go.Proofs.YtejobmamkeoheaaGreatDoor
open Go Go.HL Tryz
def left (i : Int) (z : Nat) : Int := if (z : Int) ≤ i then i - z else -1
theorem left_left {i : Int} {a b : Nat} : (if left i a < 0 then (-1 : Int) else left (left i a) b) = left i (a + b) := by
  unfold left
  repeat' split
  all_goals first | rfl | omega
abbrev MAXI : Int := 1048576
theorem w64 {x : Int} (h1 : -9223372036854775808 ≤ x) (h2 : x ≤ 9223372036854775807) : IntKind.i64.wrap x = x := wrapI h1 h2
def sumZ {α : Type} (z : α → Nat) : List α → Nat
  | [] => 0
  | x :: l => z x + sumZ z l
theorem cond_neg {i : Int} {a b : Nat} {r : Option Int} (hr : 0 ≤ left i a → r = some (left (left i a) b)) : cond (decide (left i a < 0)) (some (-1)) r = some (left i (a + b)) := by
  rw [← left_left]
  by_cases h : left i a < 0
  · rw [decide_eq_true h, cond_true, if_pos h]
  · rw [decide_eq_false h, cond_false, if_neg h]
    exact hr (by omega)
theorem left_le {i : Int} {a : Nat} (h : i ≤ MAXI) : left i a ≤ MAXI := by unfold left MAXI at *; split <;> omega
theorem sz_loop {α : Type} [Inhabited α] {l : List α} {L : Nat → Int → Int → Option Int} {g : α → Int → Option Int} {z : α → Nat}
    (hL : ∀ n i k, L (n + 1) i k = cond (decide (k < (l.length : Int))) (cond (decide (0 ≤ k) && decide (k < (l.length : Int))) ((g (l.getD k.toNat default) i).bind fun q => cond (decide (q < 0)) (some (-1)) (L n q (IntKind.i64.wrap (k + 1)))) none) (some i))
    (hg : ∀ x ∈ l, ∀ i, 0 ≤ i → i ≤ MAXI → g x i = some (left i (z x))) (hl : l.length ≤ BIG) :
    ∀ (suf pre : List α) (n : Nat) (i : Int), l = pre ++ suf → suf.length < n → 0 ≤ i → i ≤ MAXI → L n i (pre.length : Int) = some (left i (sumZ z suf))
  | _, _, 0, _, _, h, _, _ => absurd h (Nat.not_lt_zero _)
  | [], pre, n + 1, i, e, _, h0, _ => by
    subst e
    rw [hL, List.append_nil, nlt, cond_false]
    unfold left sumZ
    rw [if_pos (by simpa using h0)]; simp
  | x :: suf, pre, n + 1, i, e, hn, h0, h1 => by
    have hk : pre.length < l.length := by rw [e]; simp
    have hx : l.getD pre.length default = x := by rw [e]; simp [List.getD_eq_getElem?_getD]
    rw [hL, inR hk, ltR hk, cond_true, cond_true, Int.toNat_natCast, hx, hg x (by rw [e]; simp) i h0 h1, Option.bind_some]
    rw [succI hk hl]
    refine cond_neg fun h => ?_
    have := sz_loop hL hg hl suf (pre ++ [x]) n (left i (z x)) (by rw [e]; simp) (by simp at hn; omega) h (left_le h1)
    rw [List.length_append, List.length_singleton] at this
    exact this
def zV (v : Val) : Nat := v.text.length
def zC (c : Col) : Nat := c.name.length + zV c.def_
def zCs (s : List Col) : Nat := s.length + sumZ zC s
def zCh (c : Change) : Nat := c.name.length + c.new.length + zC c.col
def zChs (s : List Change) : Nat := s.length + sumZ zCh s
def zVs (s : List Val) : Nat := s.length + sumZ zV s
def zRs (s : List Row) : Nat := s.length + sumZ (fun r => zVs r.vals) s
def zT (t : Table) : Nat := zCs t.first + zChs t.changes + zRs t.rows
def zS (x : Set) : Nat := x.name.length + zV x.val
def zSs (s : List Set) : Nat := s.length + sumZ zS s
abbrev LenOK (n : Nat) : Prop := n ≤ 140737488355328
theorem left_sub {i : Int} {n : Nat} (h0 : 0 ≤ i) (h1 : i ≤ MAXI) (hn : LenOK n) : cond (decide (IntKind.i64.wrap (i - (n : Int)) < 0)) (some (-1)) (some (IntKind.i64.wrap (i - (n : Int)))) = some (left i n) := by
  unfold LenOK at hn; unfold MAXI at h1
  rw [w64 (by omega) (by omega)]
  unfold left
  by_cases h : i - (n : Int) < 0
  · rw [decide_eq_true h, if_neg (by omega)]; rfl
  · rw [decide_eq_false h, if_pos (by omega)]; rfl
theorem left_sub' {i : Int} {n b : Nat} {r : Option Int} (h0 : 0 ≤ i) (h1 : i ≤ MAXI) (hn : LenOK n) (hr : 0 ≤ left i n → IntKind.i64.wrap (i - (n : Int)) = left i n → r = some (left (left i n) b)) : cond (decide (IntKind.i64.wrap (i - (n : Int)) < 0)) (some (-1)) r = some (left i (n + b)) := by
  have hn' := hn
  unfold LenOK at hn; unfold MAXI at h1
  rw [← left_left]
  have hw : IntKind.i64.wrap (i - (n : Int)) = i - n := w64 (by omega) (by omega)
  by_cases h : i - (n : Int) < 0
  · have : left i n = -1 := if_neg (by omega)
    rw [hw, decide_eq_true h, cond_true, if_pos (by rw [this]; decide)]
  · have : left i n = i - n := if_pos (by omega)
    rw [hw, decide_eq_false h, cond_false, if_neg (by rw [this]; exact h)]
    exact hr (by rw [this]; omega) (by rw [hw, this])
structure LV (v : Val) : Prop where
  text : LenOK v.text.length
structure LC (c : Col) : Prop where
  name : LenOK c.name.length
  def_ : LV c.def_
structure LCh (c : Change) : Prop where
  name : LenOK c.name.length
  new : LenOK c.new.length
  col : LC c.col
structure LT (t : Table) : Prop where
  first : ∀ c ∈ t.first, LC c
  changes : ∀ c ∈ t.changes, LCh c
  rows : ∀ r ∈ t.rows, ∀ v ∈ r.vals, LV v
  l1 : LenOK t.first.length
  l2 : LenOK t.changes.length
  l3 : LenOK t.rows.length
  l4 : ∀ r ∈ t.rows, LenOK r.vals.length
theorem fuel {n fu : Nat} (hf : BIG ≤ fu) (h : n ≤ 2000000) : n < fu := by unfold BIG at hf; omega
theorem big {n : Nat} (h : n ≤ 2000000) : n ≤ BIG := by unfold BIG; omega
theorem f3081_is {v : Val} {i : Int} (h : LV v) (h0 : 0 ≤ i) (h1 : i ≤ MAXI) : f3081 v i = some (left i (zV v)) := left_sub h0 h1 h.text
theorem bind_left {i : Int} {z : Nat} : ((some (left i z) : Option Int).bind fun q => cond (decide (q < 0)) (some (-1)) (some q)) = some (left i z) := by
  rw [Option.bind_some]
  by_cases h : left i z < 0
  · have : left i z = -1 := by unfold left at h ⊢; split <;> omega
    rw [this]; rfl
  · rw [decide_eq_false h]; rfl
theorem f3046_is {c : Col} {i : Int} (h : LC c) (h0 : 0 ≤ i) (h1 : i ≤ MAXI) : f3046 c i = some (left i (zC c)) := by
  unfold f3046
  refine left_sub' h0 h1 h.name fun hl hw => ?_
  rw [hw, f3081_is h.def_ hl (left_le h1)]
  exact bind_left
theorem f3026_is {fu : Nat} {s : List Col} {i : Int} (hf : BIG ≤ fu) (hn : LenOK s.length) (h : ∀ c ∈ s, LC c) (h0 : 0 ≤ i) (h1 : i ≤ MAXI) : f3026 fu s i = some (left i (zCs s)) := by
  unfold f3026
  refine left_sub' h0 h1 hn fun hl hw => ?_
  have hs : s.length ≤ 2000000 := by unfold left MAXI at *; split at hl <;> omega
  rw [hw]
  exact sz_loop (g := f3046) (fun _ _ _ => rfl) (fun x hx i h0 h1 => f3046_is (h x hx) h0 h1) (big hs) s [] fu _ rfl (fuel hf hs) hl (left_le h1)
theorem f3014_is {c : Change} {i : Int} (h : LCh c) (h0 : 0 ≤ i) (h1 : i ≤ MAXI) : f3014 c i = some (left i (zCh c)) := by
  unfold f3014 zCh
  rw [Nat.add_assoc]
  refine left_sub' h0 h1 h.name fun hl hw => ?_
  rw [hw]
  refine left_sub' hl (left_le h1) h.new fun hl2 hw2 => ?_
  rw [hw2, f3046_is h.col hl2 (left_le (left_le h1))]
  exact bind_left
theorem f3027_is {fu : Nat} {s : List Change} {i : Int} (hf : BIG ≤ fu) (hn : LenOK s.length) (h : ∀ c ∈ s, LCh c) (h0 : 0 ≤ i) (h1 : i ≤ MAXI) : f3027 fu s i = some (left i (zChs s)) := by
  unfold f3027
  refine left_sub' h0 h1 hn fun hl hw => ?_
  have hs : s.length ≤ 2000000 := by unfold left MAXI at *; split at hl <;> omega
  rw [hw]
  exact sz_loop (g := f3014) (fun _ _ _ => rfl) (fun x hx i h0 h1 => f3014_is (h x hx) h0 h1) (big hs) s [] fu _ rfl (fuel hf hs) hl (left_le h1)
theorem f3094_is {fu : Nat} {s : List Val} {i : Int} (hf : BIG ≤ fu) (hn : LenOK s.length) (h : ∀ c ∈ s, LV c) (h0 : 0 ≤ i) (h1 : i ≤ MAXI) : f3094 fu s i = some (left i (zVs s)) := by
  unfold f3094
  refine left_sub' h0 h1 hn fun hl hw => ?_
  have hs : s.length ≤ 2000000 := by unfold left MAXI at *; split at hl <;> omega
  rw [hw]
  exact sz_loop (g := f3081) (fun _ _ _ => rfl) (fun x hx i h0 h1 => f3081_is (h x hx) h0 h1) (big hs) s [] fu _ rfl (fuel hf hs) hl (left_le h1)
theorem f3028_is {fu : Nat} {s : List Row} {i : Int} (hf : BIG ≤ fu) (hn : LenOK s.length) (hv : ∀ r ∈ s, LenOK r.vals.length) (h : ∀ r ∈ s, ∀ v ∈ r.vals, LV v) (h0 : 0 ≤ i) (h1 : i ≤ MAXI) : f3028 fu s i = some (left i (zRs s)) := by
  unfold f3028
  refine left_sub' h0 h1 hn fun hl hw => ?_
  have hs : s.length ≤ 2000000 := by unfold left MAXI at *; split at hl <;> omega
  rw [hw]
  refine sz_loop (g := f3058 fu) (fun _ _ _ => rfl) (fun x hx i h0 h1 => ?_) (big hs) s [] fu _ rfl (fuel hf hs) hl (left_le h1)
  unfold f3058
  rw [f3094_is hf (hv x hx) (h x hx) h0 h1]
  exact bind_left
theorem bind_left' {i : Int} {a b : Nat} {r : Int → Option Int} (hr : 0 ≤ left i a → r (left i a) = some (left (left i a) b)) : ((some (left i a) : Option Int).bind fun q => cond (decide (q < 0)) (some (-1)) (r q)) = some (left i (a + b)) := by
  rw [Option.bind_some]
  exact cond_neg hr
theorem f3007_is {fu : Nat} {t : Table} {i : Int} (hf : BIG ≤ fu) (h : LT t) (h0 : 0 ≤ i) (h1 : i ≤ MAXI) : f3007 fu t i = some (left i (zT t)) := by
  unfold f3007 zT
  rw [f3026_is hf h.l1 h.first h0 h1, Nat.add_assoc]
  refine bind_left' fun h2 => ?_
  rw [f3027_is hf h.l2 h.changes h2 (left_le h1)]
  refine bind_left' fun h3 => ?_
  rw [f3028_is hf h.l3 h.l4 h.rows h3 (left_le (left_le h1))]
  exact bind_left
structure LX (x : Set) : Prop where
  name : LenOK x.name.length
  val : LV x.val
theorem f3050_is {x : Set} {i : Int} (h : LX x) (h0 : 0 ≤ i) (h1 : i ≤ MAXI) : f3050 x i = some (left i (zS x)) := by
  unfold f3050
  refine left_sub' h0 h1 h.name fun hl hw => ?_
  rw [hw, f3081_is h.val hl (left_le h1)]
  exact bind_left
theorem f3018_is {fu : Nat} {s : List Set} {i : Int} (hf : BIG ≤ fu) (hn : LenOK s.length) (h : ∀ c ∈ s, LX c) (h0 : 0 ≤ i) (h1 : i ≤ MAXI) : f3018 fu s i = some (left i (zSs s)) := by
  unfold f3018
  refine left_sub' h0 h1 hn fun hl hw => ?_
  have hs : s.length ≤ 2000000 := by unfold left MAXI at *; split at hl <;> omega
  rw [hw]
  exact sz_loop (g := f3050) (fun _ _ _ => rfl) (fun x hx i h0 h1 => f3050_is (h x hx) h0 h1) (big hs) s [] fu _ rfl (fuel hf hs) hl (left_le h1)
theorem sumZ_mem {α : Type} {z : α → Nat} {x : α} : ∀ {l : List α}, x ∈ l → z x ≤ sumZ z l
  | _ :: l, h => by
    rcases List.mem_cons.1 h with rfl | h
    · exact Nat.le_add_right ..
    · exact Nat.le_trans (sumZ_mem h) (Nat.le_add_left ..)
theorem sm_C {c : Col} {N : Nat} (h : zC c ≤ N) (hN : N ≤ 1048576) : SmC c := ⟨by unfold zC at h; omega, by unfold zC zV at h; show c.def_.text.length ≤ _; omega⟩
theorem sm_Cs {s : List Col} (h : zCs s ≤ 1048576) : SmS s := ⟨by unfold zCs at h; omega, fun c hc => sm_C (N := 1048576) (by have := sumZ_mem (z := zC) hc; unfold zCs at h; omega) (Nat.le_refl _)⟩
theorem sm_Ch {c : Change} (h : zCh c ≤ 1048576) : SmCh c := ⟨by unfold zCh at h; omega, sm_C (N := 1048576) (by unfold zCh at h; omega) (Nat.le_refl _)⟩
theorem sm_Chs {s : List Change} (h : zChs s ≤ 1048576) : SmCs s := ⟨by unfold zChs at h; omega, fun c hc => sm_Ch (by have := sumZ_mem (z := zCh) hc; unfold zChs at h; omega)⟩
theorem sm_Vs {s : List Val} (h : zVs s ≤ 1048576) : SmR s := ⟨by unfold zVs at h; omega, fun v hv => by have := sumZ_mem (z := zV) hv; have e : zV v = v.text.length := rfl; unfold zVs at h; show v.text.length ≤ _; omega⟩
theorem sm_T {t : Table} (h : zT t ≤ 1048576) : SmT t := by
  unfold zT at h
  refine ⟨sm_Cs (by omega), sm_Chs (by omega), by unfold zRs at h; omega, fun k hk => ?_⟩
  have := sumZ_mem (z := fun r : Row => zVs r.vals) (List.getElem_mem hk)
  rw [getD_lt hk]
  exact sm_Vs (by unfold zRs at h; omega)
theorem sm_X {s : List Set} (h : zSs s ≤ 1048576) : SmX s := ⟨by unfold zSs at h; omega, fun x hx => by have := sumZ_mem (z := zS) hx; have e : zS x = x.name.length + x.val.text.length := rfl; unfold zSs at h; show x.val.text.length ≤ _; omega⟩
end Go.Proofs.YtejobmamkeoheaaGreatDoor
/- Copies, sameness, marks and what holds them. -/
namespace Go.Proofs.YtejobmamkeoheaaGreatDoor
open Go Go.HL Tryz
theorem to_loop {α : Type} [Inhabited α] {l : List α} {L : Nat → Int → List α → Option (List α)} {g : α → Option α}
    (hL : ∀ n k acc, L (n + 1) k acc = cond (decide (k < (l.length : Int))) (cond (decide (0 ≤ k) && decide (k < (l.length : Int))) ((g (l.getD k.toNat default)).bind fun q => cond (decide (0 ≤ k) && decide (k < (acc.length : Int))) (L n (IntKind.i64.wrap (k + 1)) (acc.set k.toNat q)) none) none) (some acc))
    (hg : ∀ x ∈ l, g x = some x) (hl : l.length ≤ BIG) :
    ∀ (suf pre rest : List α) (n : Nat), l = pre ++ suf → rest.length = suf.length → suf.length < n → L n (pre.length : Int) (pre ++ rest) = some l
  | _, _, _, 0, _, _, h => absurd h (Nat.not_lt_zero _)
  | [], pre, rest, n + 1, e, hr, _ => by
    obtain rfl : rest = [] := List.eq_nil_of_length_eq_zero hr
    subst e
    rw [hL, List.append_nil, nlt, cond_false]
  | x :: suf, pre, rest, n + 1, e, hr, hn => by
    obtain ⟨y, rest, rfl⟩ : ∃ y r, rest = y :: r := by
      cases rest with
      | nil => simp at hr
      | cons y r => exact ⟨y, r, rfl⟩
    have hk : pre.length < l.length := by rw [e]; simp
    have hka : pre.length < (pre ++ y :: rest).length := by simp
    have hx : l.getD pre.length default = x := by rw [e]; simp [List.getD_eq_getElem?_getD]
    rw [hL, inR hk, ltR hk, cond_true, cond_true, Int.toNat_natCast, hx, hg x (by rw [e]; simp), Option.bind_some, inR hka, cond_true, succI hk hl]
    have := to_loop hL hg hl suf (pre ++ [x]) rest n (by rw [e]; simp) (by simpa using hr) (by simp at hn; omega)
    rw [List.length_append, List.length_singleton] at this
    rw [← this]
    congr 1
    simp
theorem eq_loop {α : Type} [Inhabited α] {l : List α} {L : Nat → Int → Option Bool} {g : α → α → Option Bool}
    (hL : ∀ n k, L (n + 1) k = cond (decide (k < (l.length : Int))) (cond (decide (0 ≤ k) && decide (k < (l.length : Int))) (cond (decide (0 ≤ k) && decide (k < (l.length : Int))) ((g (l.getD k.toNat default) (l.getD k.toNat default)).bind fun q => cond (!q) (some false) (L n (IntKind.i64.wrap (k + 1)))) none) none) (some true))
    (hg : ∀ x ∈ l, g x x = some true) (hl : l.length ≤ BIG) :
    ∀ (suf pre : List α) (n : Nat), l = pre ++ suf → suf.length < n → L n (pre.length : Int) = some true
  | _, _, 0, _, h => absurd h (Nat.not_lt_zero _)
  | [], pre, n + 1, e, _ => by
    subst e
    rw [hL, List.append_nil, nlt, cond_false]
  | x :: suf, pre, n + 1, e, hn => by
    have hk : pre.length < l.length := by rw [e]; simp
    have hx : l.getD pre.length default = x := by rw [e]; simp [List.getD_eq_getElem?_getD]
    rw [hL, inR hk, ltR hk, cond_true, cond_true, cond_true, Int.toNat_natCast, hx, hg x (by rw [e]; simp), Option.bind_some, succI hk hl]
    have := eq_loop hL hg hl suf (pre ++ [x]) n (by rw [e]; simp) (by simp at hn; omega)
    rw [List.length_append, List.length_singleton] at this
    exact this
theorem d30 : decide ((3 : Int) = 0) = false := rfl
abbrev MAXM : Int := 1152921504606846976
def MChain {α : Type} (Mk : Int → α → Int → Prop) : Int → List α → Int → Prop
  | i, [], j => i = j
  | i, e :: l, j => ∃ m, Mk i e m ∧ MChain Mk m l j
theorem mark_loop {α : Type} {M : Nat → Int → List α → List α → Option (Int × List α)} {Mk : Int → α → Int → Prop} {c : α → Nat} {p : α → Prop}
    (hnil : ∀ n i s, M (n + 1) i s [] = some (i, s))
    (hcons : ∀ n i s z zs, p z → 0 ≤ i → i + (c z : Int) ≤ MAXM → ∃ e j, Mk i e j ∧ i ≤ j ∧ j ≤ i + (c z : Int) ∧ M (n + 1) i s (z :: zs) = M n j (s ++ [e]) zs) :
    ∀ (zs : List α) (n : Nat) (i : Int) (s : List α), (∀ z ∈ zs, p z) → zs.length < n → 0 ≤ i → i + (sumZ c zs : Int) ≤ MAXM → ∃ b j, MChain Mk i b j ∧ i ≤ j ∧ j ≤ i + (sumZ c zs : Int) ∧ b.length = zs.length ∧ M n i s zs = some (j, s ++ b)
  | _, 0, _, _, _, h, _, _ => absurd h (Nat.not_lt_zero _)
  | [], n + 1, i, s, _, _, _, _ => ⟨[], i, rfl, Int.le_refl _, by simp [sumZ], rfl, by rw [hnil, List.append_nil]⟩
  | z :: zs, n + 1, i, s, hp, hn, h0, h1 => by
    have hs : (sumZ c (z :: zs) : Int) = c z + sumZ c zs := by simp [sumZ]
    obtain ⟨e, m, g1, g2, g3, g4⟩ := hcons n i s z zs (hp z List.mem_cons_self) h0 (by omega)
    obtain ⟨b, j, k1, k2, k3, k4, k5⟩ := mark_loop hnil hcons zs n m (s ++ [e]) (fun z hz => hp z (List.mem_cons_of_mem _ hz)) (by simp at hn; omega) (by omega) (by omega)
    exact ⟨e :: b, j, ⟨m, g1, k1⟩, by omega, by omega, by rw [List.length_cons, List.length_cons, k4], by rw [g4, k5, List.append_assoc]; rfl⟩
theorem held_loop {α : Type} {a : List α} {H : Nat → Int → Int → Option Int} {Mk : Int → α → Int → Prop}
    (hend : ∀ n i, H (n + 1) i (a.length : Int) = some i)
    (hstep : ∀ n i j e (pre suf : List α), a = pre ++ e :: suf → Mk i e j → H (n + 1) i (pre.length : Int) = H n j ((pre.length + 1 : Nat) : Int)) :
    ∀ (suf pre : List α) (n : Nat) (i j : Int), a = pre ++ suf → suf.length < n → MChain Mk i suf j → H n i (pre.length : Int) = some j
  | _, _, 0, _, _, _, h, _ => absurd h (Nat.not_lt_zero _)
  | [], pre, n + 1, i, j, e, _, hc => by
    cases (hc : i = j)
    rw [List.append_nil] at e
    rw [← e]
    exact hend n i
  | x :: suf, pre, n + 1, i, j, e, hn, ⟨m, h1, h2⟩ => by
    rw [hstep n i m x pre suf e h1]
    have := held_loop hend hstep suf (pre ++ [x]) n m j (by rw [e]; simp) (by simp at hn; omega) h2
    rw [List.length_append, List.length_singleton] at this
    exact this
theorem f3055_l {n d : Nat} : ∀ {i : Int} {s : List UInt8}, i ≤ MAXM → 0 ≤ i → i < 10 ^ d → d < n → s.length + d ≤ 100 → ∃ t, f3055_l1 n i s = some t := by
  induction n generalizing d with
  | zero => exact fun _ _ _ h _ => absurd h (Nat.not_lt_zero _)
  | succ n ih =>
    intro i s hM h0 h1 hn hs
    unfold f3055_l1
    by_cases hi : 0 < i
    · rw [decide_eq_true hi, cond_true]
      cases d with
      | zero => simp at h1; omega
      | succ d =>
        have e1 : decide ((10 : Int) = 0) = false := rfl
        have hcap : decide (List.length (strI ([IntKind.u8.wrap (IntKind.i64.wrap (48 + (i.tmod 10)))] : List Int)) + List.length s ≤ CAP) = true := by
          simp only [strI, List.map_cons, List.map_nil, List.length_cons, List.length_nil, decide_eq_true_eq]
          rw [CAP_eq]; omega
        have hm : i.tdiv 10 < 10 ^ d := by
          rw [Int.tdiv_eq_ediv_of_nonneg h0]
          have : (10 : Int) ^ (d + 1) = 10 ^ d * 10 := Int.pow_succ ..
          omega
        have hle : i.tdiv 10 ≤ i := by rw [Int.tdiv_eq_ediv_of_nonneg h0]; omega
        have hm0 : 0 ≤ i.tdiv 10 := Int.tdiv_nonneg h0 (by decide)
        rw [e1, cond_false, hcap, cond_true, cond_false, w64 (by omega) (by unfold MAXM at hM; omega)]
        exact ih (by omega) hm0 hm (by omega) (by simp only [strI, List.map_cons, List.map_nil, List.length_append, List.length_cons, List.length_nil]; omega)
    · rw [decide_eq_false hi, cond_false]
      have hcap : decide (List.length ([109] : List UInt8) + List.length s ≤ CAP) = true := by
        simp only [List.length_cons, List.length_nil, decide_eq_true_eq]
        rw [CAP_eq]; omega
      rw [hcap, cond_true]
      exact ⟨_, rfl⟩
theorem f3055_is {fu : Nat} {i : Int} (hf : BIG ≤ fu) (h0 : 0 ≤ i) (h1 : i ≤ MAXM) : ∃ t, f3055 fu i = some t := by
  unfold f3055
  by_cases h : i ≤ 0
  · rw [decide_eq_true h]; exact ⟨_, rfl⟩
  · rw [decide_eq_false h, cond_false]
    exact f3055_l (d := 19) h1 h0 (by unfold MAXM at h1; omega) (by unfold BIG at hf; omega) (by simp)
theorem f3085_is (x : Val) : f3085 x = some x := by cases x; rfl
theorem f3097_is {fu : Nat} {l : List Val} (hf : BIG ≤ fu) (hl : l.length ≤ 2000000) : f3097 fu l = some l := by
  unfold f3097
  have h1 : (decide (0 ≤ (l.length : Int)) && decide ((l.length : Int) ≤ (CAP : Int))) = true := by rw [CAP_eq]; simp; omega
  rw [h1, cond_true]
  exact to_loop (g := f3085) (fun _ _ _ => rfl) (fun x _ => f3085_is x) (big hl) l [] _ fu rfl (by simp) (fuel hf hl)
theorem f3093_is (x : Val) : f3093 x x = some true := by simp [f3093]
theorem f3108_is {fu : Nat} {l : List Val} (hf : BIG ≤ fu) (hl : l.length ≤ 2000000) : f3108 fu l l = some true := by
  unfold f3108
  rw [decide_eq_true (rfl : (l.length : Int) = (l.length : Int))]
  exact eq_loop (g := f3093) (fun _ _ => rfl) (fun x _ => f3093_is x) (big hl) l [] fu rfl (fuel hf hl)
def MkVal (fu : Nat) (i : Int) (e : Val) (j : Int) : Prop := ∃ t2 : List UInt8, f3055 fu (i + 1 + 1) = some t2 ∧ e = ⟨i, i + 1, t2⟩ ∧ j = i + 1 + 1 + 1 ∧ 0 ≤ i ∧ j ≤ MAXM
theorem f3079_is {fu : Nat} {l : List Val} {i : Int} (hf : BIG ≤ fu) (hl : l.length ≤ 2000000) (h0 : 0 ≤ i) (h1 : i + (sumZ (fun _ => 3) l : Int) ≤ MAXM) : ∃ b j, MChain (MkVal fu) i b j ∧ i ≤ j ∧ j ≤ i + (sumZ (fun _ => 3) l : Int) ∧ b.length = l.length ∧ f3079 fu l i = some (j, b) := by
  refine mark_loop (M := f3079_l1 fu) (Mk := MkVal fu) (c := fun _ => 3) (p := fun _ => True) (fun _ _ _ => rfl) (fun n i s z zs _ h0 h1 => ?_) l fu i [] (fun _ _ => trivial) (fuel hf hl) h0 h1
  have hm : i + 3 ≤ MAXM := h1
  unfold MAXM at hm
  have w1 : IntKind.i64.wrap (i + 1) = i + 1 := w64 (by omega) (by omega)
  have w2 : IntKind.i64.wrap (i + 1 + 1) = i + 1 + 1 := w64 (by omega) (by omega)
  have w3 : IntKind.i64.wrap (i + 1 + 1 + 1) = i + 1 + 1 + 1 := w64 (by omega) (by omega)
  obtain ⟨t2, e2⟩ := f3055_is (fu := fu) (i := i + 1 + 1) hf (by omega) (by unfold MAXM; omega)
  refine ⟨⟨i, i + 1, t2⟩, i + 1 + 1 + 1, ⟨t2, e2, rfl, rfl, h0, by unfold MAXM; omega⟩, by omega, by show _ ≤ i + 3; omega, ?_⟩
  show f3079_l1 fu (n + 1) i s (z :: zs) = _
  simp only [f3079_l1, w1, w2, w3, e2, Option.bind_some]
theorem f3080_is {fu : Nat} {a : List Val} {i j : Int} (hf : BIG ≤ fu) (hl : a.length ≤ 2000000) (h : MChain (MkVal fu) i a j) : f3080 fu a i = some j := by
  refine held_loop (a := a) (H := f3080_l1 fu a) (Mk := MkVal fu) (fun n i => ?_) (fun n i j e pre suf ha ⟨t2, e2, he, hj, h0, hm⟩ => ?_) a [] fu i j rfl (fuel hf hl) h
  · show f3080_l1 fu a (n + 1) i _ = _
    simp only [f3080_l1, nlt, cond_false]
  · have hk : pre.length < a.length := by rw [ha]; simp
    have hx : a.getD pre.length default = e := by rw [ha]; simp [List.getD_eq_getElem?_getD]
    subst he hj
    unfold MAXM at hm
    have w1 : IntKind.i64.wrap (i + 1) = i + 1 := w64 (by omega) (by omega)
    have w2 : IntKind.i64.wrap (i + 1 + 1) = i + 1 + 1 := w64 (by omega) (by omega)
    have w3 : IntKind.i64.wrap (i + 1 + 1 + 1) = i + 1 + 1 + 1 := w64 (by omega) (by omega)
    show f3080_l1 fu a (n + 1) i _ = _
    simp only [f3080_l1, ltR hk, ge0, Bool.and_self, cond_true, cond_false, Int.toNat_natCast, hx, w1, w2, w3, e2, Option.bind_some, decide_true, Bool.not_true, beq_self_eq_true, succI hk (big hl), d30]
theorem f3048_is (x : Col) : f3048 x = some x := by cases x; rfl
theorem f3032_is {fu : Nat} {l : List Col} (hf : BIG ≤ fu) (hl : l.length ≤ 2000000) : f3032 fu l = some l := by
  unfold f3032
  have h1 : (decide (0 ≤ (l.length : Int)) && decide ((l.length : Int) ≤ (CAP : Int))) = true := by rw [CAP_eq]; simp; omega
  rw [h1, cond_true]
  exact to_loop (g := f3048) (fun _ _ _ => rfl) (fun x _ => f3048_is x) (big hl) l [] _ fu rfl (by simp) (fuel hf hl)
theorem f3076_is (x : Col) : f3076 x x = some true := by simp [f3076, f3093_is]
theorem f3037_is {fu : Nat} {l : List Col} (hf : BIG ≤ fu) (hl : l.length ≤ 2000000) : f3037 fu l l = some true := by
  unfold f3037
  rw [decide_eq_true (rfl : (l.length : Int) = (l.length : Int))]
  exact eq_loop (g := f3076) (fun _ _ => rfl) (fun x _ => f3076_is x) (big hl) l [] fu rfl (fuel hf hl)
def MkCol (fu : Nat) (i : Int) (e : Col) (j : Int) : Prop := ∃ t0 t6 : List UInt8, f3055 fu (i) = some t0 ∧ f3055 fu (i + 1 + 1 + 1 + 1 + 1 + 1) = some t6 ∧ e = ⟨t0, i + 1, decide ((i + 1 + 1).tmod 3 = 0), decide ((i + 1 + 1 + 1).tmod 3 = 0), ⟨i + 1 + 1 + 1 + 1, i + 1 + 1 + 1 + 1 + 1, t6⟩⟩ ∧ j = i + 1 + 1 + 1 + 1 + 1 + 1 + 1 ∧ 0 ≤ i ∧ j ≤ MAXM
theorem f3040_is {fu : Nat} {l : List Col} {i : Int} (hf : BIG ≤ fu) (hl : l.length ≤ 2000000) (h0 : 0 ≤ i) (h1 : i + (sumZ (fun _ => 7) l : Int) ≤ MAXM) : ∃ b j, MChain (MkCol fu) i b j ∧ i ≤ j ∧ j ≤ i + (sumZ (fun _ => 7) l : Int) ∧ b.length = l.length ∧ f3040 fu l i = some (j, b) := by
  refine mark_loop (M := f3040_l1 fu) (Mk := MkCol fu) (c := fun _ => 7) (p := fun _ => True) (fun _ _ _ => rfl) (fun n i s z zs _ h0 h1 => ?_) l fu i [] (fun _ _ => trivial) (fuel hf hl) h0 h1
  have hm : i + 7 ≤ MAXM := h1
  unfold MAXM at hm
  have w1 : IntKind.i64.wrap (i + 1) = i + 1 := w64 (by omega) (by omega)
  have w2 : IntKind.i64.wrap (i + 1 + 1) = i + 1 + 1 := w64 (by omega) (by omega)
  have w3 : IntKind.i64.wrap (i + 1 + 1 + 1) = i + 1 + 1 + 1 := w64 (by omega) (by omega)
  have w4 : IntKind.i64.wrap (i + 1 + 1 + 1 + 1) = i + 1 + 1 + 1 + 1 := w64 (by omega) (by omega)
  have w5 : IntKind.i64.wrap (i + 1 + 1 + 1 + 1 + 1) = i + 1 + 1 + 1 + 1 + 1 := w64 (by omega) (by omega)
  have w6 : IntKind.i64.wrap (i + 1 + 1 + 1 + 1 + 1 + 1) = i + 1 + 1 + 1 + 1 + 1 + 1 := w64 (by omega) (by omega)
  have w7 : IntKind.i64.wrap (i + 1 + 1 + 1 + 1 + 1 + 1 + 1) = i + 1 + 1 + 1 + 1 + 1 + 1 + 1 := w64 (by omega) (by omega)
  obtain ⟨t0, e0⟩ := f3055_is (fu := fu) (i := i) hf (by omega) (by unfold MAXM; omega)
  obtain ⟨t6, e6⟩ := f3055_is (fu := fu) (i := i + 1 + 1 + 1 + 1 + 1 + 1) hf (by omega) (by unfold MAXM; omega)
  refine ⟨⟨t0, i + 1, decide ((i + 1 + 1).tmod 3 = 0), decide ((i + 1 + 1 + 1).tmod 3 = 0), ⟨i + 1 + 1 + 1 + 1, i + 1 + 1 + 1 + 1 + 1, t6⟩⟩, i + 1 + 1 + 1 + 1 + 1 + 1 + 1, ⟨t0, t6, e0, e6, rfl, rfl, h0, by unfold MAXM; omega⟩, by omega, by show _ ≤ i + 7; omega, ?_⟩
  show f3040_l1 fu (n + 1) i s (z :: zs) = _
  simp only [f3040_l1, w1, w2, w3, w4, w5, w6, w7, e0, e6, Option.bind_some]
theorem f3043_is {fu : Nat} {a : List Col} {i j : Int} (hf : BIG ≤ fu) (hl : a.length ≤ 2000000) (h : MChain (MkCol fu) i a j) : f3043 fu a i = some j := by
  refine held_loop (a := a) (H := f3043_l1 fu a) (Mk := MkCol fu) (fun n i => ?_) (fun n i j e pre suf ha ⟨t0, t6, e0, e6, he, hj, h0, hm⟩ => ?_) a [] fu i j rfl (fuel hf hl) h
  · show f3043_l1 fu a (n + 1) i _ = _
    simp only [f3043_l1, nlt, cond_false]
  · have hk : pre.length < a.length := by rw [ha]; simp
    have hx : a.getD pre.length default = e := by rw [ha]; simp [List.getD_eq_getElem?_getD]
    subst he hj
    unfold MAXM at hm
    have w1 : IntKind.i64.wrap (i + 1) = i + 1 := w64 (by omega) (by omega)
    have w2 : IntKind.i64.wrap (i + 1 + 1) = i + 1 + 1 := w64 (by omega) (by omega)
    have w3 : IntKind.i64.wrap (i + 1 + 1 + 1) = i + 1 + 1 + 1 := w64 (by omega) (by omega)
    have w4 : IntKind.i64.wrap (i + 1 + 1 + 1 + 1) = i + 1 + 1 + 1 + 1 := w64 (by omega) (by omega)
    have w5 : IntKind.i64.wrap (i + 1 + 1 + 1 + 1 + 1) = i + 1 + 1 + 1 + 1 + 1 := w64 (by omega) (by omega)
    have w6 : IntKind.i64.wrap (i + 1 + 1 + 1 + 1 + 1 + 1) = i + 1 + 1 + 1 + 1 + 1 + 1 := w64 (by omega) (by omega)
    have w7 : IntKind.i64.wrap (i + 1 + 1 + 1 + 1 + 1 + 1 + 1) = i + 1 + 1 + 1 + 1 + 1 + 1 + 1 := w64 (by omega) (by omega)
    show f3043_l1 fu a (n + 1) i _ = _
    simp only [f3043_l1, ltR hk, ge0, Bool.and_self, cond_true, cond_false, Int.toNat_natCast, hx, w1, w2, w3, w4, w5, w6, w7, e0, e6, Option.bind_some, decide_true, Bool.not_true, beq_self_eq_true, succI hk (big hl), d30]
theorem f3016_is (x : Change) : f3016 x = some x := by cases x; rfl
theorem f3033_is {fu : Nat} {l : List Change} (hf : BIG ≤ fu) (hl : l.length ≤ 2000000) : f3033 fu l = some l := by
  unfold f3033
  have h1 : (decide (0 ≤ (l.length : Int)) && decide ((l.length : Int) ≤ (CAP : Int))) = true := by rw [CAP_eq]; simp; omega
  rw [h1, cond_true]
  exact to_loop (g := f3016) (fun _ _ _ => rfl) (fun x _ => f3016_is x) (big hl) l [] _ fu rfl (by simp) (fuel hf hl)
theorem f3077_is (x : Change) : f3077 x x = some true := by simp [f3077, f3076_is]
theorem f3038_is {fu : Nat} {l : List Change} (hf : BIG ≤ fu) (hl : l.length ≤ 2000000) : f3038 fu l l = some true := by
  unfold f3038
  rw [decide_eq_true (rfl : (l.length : Int) = (l.length : Int))]
  exact eq_loop (g := f3077) (fun _ _ => rfl) (fun x _ => f3077_is x) (big hl) l [] fu rfl (fuel hf hl)
def MkChange (fu : Nat) (i : Int) (e : Change) (j : Int) : Prop := ∃ t1 t2 t3 t9 : List UInt8, f3055 fu (i + 1) = some t1 ∧ f3055 fu (i + 1 + 1) = some t2 ∧ f3055 fu (i + 1 + 1 + 1) = some t3 ∧ f3055 fu (i + 1 + 1 + 1 + 1 + 1 + 1 + 1 + 1 + 1) = some t9 ∧ e = ⟨i, t1, t2, ⟨t3, i + 1 + 1 + 1 + 1, decide ((i + 1 + 1 + 1 + 1 + 1).tmod 3 = 0), decide ((i + 1 + 1 + 1 + 1 + 1 + 1).tmod 3 = 0), ⟨i + 1 + 1 + 1 + 1 + 1 + 1 + 1, i + 1 + 1 + 1 + 1 + 1 + 1 + 1 + 1, t9⟩⟩⟩ ∧ j = i + 1 + 1 + 1 + 1 + 1 + 1 + 1 + 1 + 1 + 1 ∧ 0 ≤ i ∧ j ≤ MAXM
theorem f3041_is {fu : Nat} {l : List Change} {i : Int} (hf : BIG ≤ fu) (hl : l.length ≤ 2000000) (h0 : 0 ≤ i) (h1 : i + (sumZ (fun _ => 10) l : Int) ≤ MAXM) : ∃ b j, MChain (MkChange fu) i b j ∧ i ≤ j ∧ j ≤ i + (sumZ (fun _ => 10) l : Int) ∧ b.length = l.length ∧ f3041 fu l i = some (j, b) := by
  refine mark_loop (M := f3041_l1 fu) (Mk := MkChange fu) (c := fun _ => 10) (p := fun _ => True) (fun _ _ _ => rfl) (fun n i s z zs _ h0 h1 => ?_) l fu i [] (fun _ _ => trivial) (fuel hf hl) h0 h1
  have hm : i + 10 ≤ MAXM := h1
  unfold MAXM at hm
  have w1 : IntKind.i64.wrap (i + 1) = i + 1 := w64 (by omega) (by omega)
  have w2 : IntKind.i64.wrap (i + 1 + 1) = i + 1 + 1 := w64 (by omega) (by omega)
  have w3 : IntKind.i64.wrap (i + 1 + 1 + 1) = i + 1 + 1 + 1 := w64 (by omega) (by omega)
  have w4 : IntKind.i64.wrap (i + 1 + 1 + 1 + 1) = i + 1 + 1 + 1 + 1 := w64 (by omega) (by omega)
  have w5 : IntKind.i64.wrap (i + 1 + 1 + 1 + 1 + 1) = i + 1 + 1 + 1 + 1 + 1 := w64 (by omega) (by omega)
  have w6 : IntKind.i64.wrap (i + 1 + 1 + 1 + 1 + 1 + 1) = i + 1 + 1 + 1 + 1 + 1 + 1 := w64 (by omega) (by omega)
  have w7 : IntKind.i64.wrap (i + 1 + 1 + 1 + 1 + 1 + 1 + 1) = i + 1 + 1 + 1 + 1 + 1 + 1 + 1 := w64 (by omega) (by omega)
  have w8 : IntKind.i64.wrap (i + 1 + 1 + 1 + 1 + 1 + 1 + 1 + 1) = i + 1 + 1 + 1 + 1 + 1 + 1 + 1 + 1 := w64 (by omega) (by omega)
  have w9 : IntKind.i64.wrap (i + 1 + 1 + 1 + 1 + 1 + 1 + 1 + 1 + 1) = i + 1 + 1 + 1 + 1 + 1 + 1 + 1 + 1 + 1 := w64 (by omega) (by omega)
  have w10 : IntKind.i64.wrap (i + 1 + 1 + 1 + 1 + 1 + 1 + 1 + 1 + 1 + 1) = i + 1 + 1 + 1 + 1 + 1 + 1 + 1 + 1 + 1 + 1 := w64 (by omega) (by omega)
  obtain ⟨t1, e1⟩ := f3055_is (fu := fu) (i := i + 1) hf (by omega) (by unfold MAXM; omega)
  obtain ⟨t2, e2⟩ := f3055_is (fu := fu) (i := i + 1 + 1) hf (by omega) (by unfold MAXM; omega)
  obtain ⟨t3, e3⟩ := f3055_is (fu := fu) (i := i + 1 + 1 + 1) hf (by omega) (by unfold MAXM; omega)
  obtain ⟨t9, e9⟩ := f3055_is (fu := fu) (i := i + 1 + 1 + 1 + 1 + 1 + 1 + 1 + 1 + 1) hf (by omega) (by unfold MAXM; omega)
  refine ⟨⟨i, t1, t2, ⟨t3, i + 1 + 1 + 1 + 1, decide ((i + 1 + 1 + 1 + 1 + 1).tmod 3 = 0), decide ((i + 1 + 1 + 1 + 1 + 1 + 1).tmod 3 = 0), ⟨i + 1 + 1 + 1 + 1 + 1 + 1 + 1, i + 1 + 1 + 1 + 1 + 1 + 1 + 1 + 1, t9⟩⟩⟩, i + 1 + 1 + 1 + 1 + 1 + 1 + 1 + 1 + 1 + 1, ⟨t1, t2, t3, t9, e1, e2, e3, e9, rfl, rfl, h0, by unfold MAXM; omega⟩, by omega, by show _ ≤ i + 10; omega, ?_⟩
  show f3041_l1 fu (n + 1) i s (z :: zs) = _
  simp only [f3041_l1, w1, w2, w3, w4, w5, w6, w7, w8, w9, w10, e1, e2, e3, e9, Option.bind_some]
theorem f3044_is {fu : Nat} {a : List Change} {i j : Int} (hf : BIG ≤ fu) (hl : a.length ≤ 2000000) (h : MChain (MkChange fu) i a j) : f3044 fu a i = some j := by
  refine held_loop (a := a) (H := f3044_l1 fu a) (Mk := MkChange fu) (fun n i => ?_) (fun n i j e pre suf ha ⟨t1, t2, t3, t9, e1, e2, e3, e9, he, hj, h0, hm⟩ => ?_) a [] fu i j rfl (fuel hf hl) h
  · show f3044_l1 fu a (n + 1) i _ = _
    simp only [f3044_l1, nlt, cond_false]
  · have hk : pre.length < a.length := by rw [ha]; simp
    have hx : a.getD pre.length default = e := by rw [ha]; simp [List.getD_eq_getElem?_getD]
    subst he hj
    unfold MAXM at hm
    have w1 : IntKind.i64.wrap (i + 1) = i + 1 := w64 (by omega) (by omega)
    have w2 : IntKind.i64.wrap (i + 1 + 1) = i + 1 + 1 := w64 (by omega) (by omega)
    have w3 : IntKind.i64.wrap (i + 1 + 1 + 1) = i + 1 + 1 + 1 := w64 (by omega) (by omega)
    have w4 : IntKind.i64.wrap (i + 1 + 1 + 1 + 1) = i + 1 + 1 + 1 + 1 := w64 (by omega) (by omega)
    have w5 : IntKind.i64.wrap (i + 1 + 1 + 1 + 1 + 1) = i + 1 + 1 + 1 + 1 + 1 := w64 (by omega) (by omega)
    have w6 : IntKind.i64.wrap (i + 1 + 1 + 1 + 1 + 1 + 1) = i + 1 + 1 + 1 + 1 + 1 + 1 := w64 (by omega) (by omega)
    have w7 : IntKind.i64.wrap (i + 1 + 1 + 1 + 1 + 1 + 1 + 1) = i + 1 + 1 + 1 + 1 + 1 + 1 + 1 := w64 (by omega) (by omega)
    have w8 : IntKind.i64.wrap (i + 1 + 1 + 1 + 1 + 1 + 1 + 1 + 1) = i + 1 + 1 + 1 + 1 + 1 + 1 + 1 + 1 := w64 (by omega) (by omega)
    have w9 : IntKind.i64.wrap (i + 1 + 1 + 1 + 1 + 1 + 1 + 1 + 1 + 1) = i + 1 + 1 + 1 + 1 + 1 + 1 + 1 + 1 + 1 := w64 (by omega) (by omega)
    have w10 : IntKind.i64.wrap (i + 1 + 1 + 1 + 1 + 1 + 1 + 1 + 1 + 1 + 1) = i + 1 + 1 + 1 + 1 + 1 + 1 + 1 + 1 + 1 + 1 := w64 (by omega) (by omega)
    show f3044_l1 fu a (n + 1) i _ = _
    simp only [f3044_l1, ltR hk, ge0, Bool.and_self, cond_true, cond_false, Int.toNat_natCast, hx, w1, w2, w3, w4, w5, w6, w7, w8, w9, w10, e1, e2, e3, e9, Option.bind_some, decide_true, Bool.not_true, beq_self_eq_true, succI hk (big hl), d30]
theorem f3052_is (x : Set) : f3052 x = some x := by cases x; rfl
theorem f3020_is {fu : Nat} {l : List Set} (hf : BIG ≤ fu) (hl : l.length ≤ 2000000) : f3020 fu l = some l := by
  unfold f3020
  have h1 : (decide (0 ≤ (l.length : Int)) && decide ((l.length : Int) ≤ (CAP : Int))) = true := by rw [CAP_eq]; simp; omega
  rw [h1, cond_true]
  exact to_loop (g := f3052) (fun _ _ _ => rfl) (fun x _ => f3052_is x) (big hl) l [] _ fu rfl (by simp) (fuel hf hl)
theorem f3054_is (x : Set) : f3054 x x = some true := by simp [f3054, f3093_is]
theorem f3022_is {fu : Nat} {l : List Set} (hf : BIG ≤ fu) (hl : l.length ≤ 2000000) : f3022 fu l l = some true := by
  unfold f3022
  rw [decide_eq_true (rfl : (l.length : Int) = (l.length : Int))]
  exact eq_loop (g := f3054) (fun _ _ => rfl) (fun x _ => f3054_is x) (big hl) l [] fu rfl (fuel hf hl)
def MkSet (fu : Nat) (i : Int) (e : Set) (j : Int) : Prop := ∃ t0 t3 : List UInt8, f3055 fu (i) = some t0 ∧ f3055 fu (i + 1 + 1 + 1) = some t3 ∧ e = ⟨t0, ⟨i + 1, i + 1 + 1, t3⟩⟩ ∧ j = i + 1 + 1 + 1 + 1 ∧ 0 ≤ i ∧ j ≤ MAXM
theorem f3023_is {fu : Nat} {l : List Set} {i : Int} (hf : BIG ≤ fu) (hl : l.length ≤ 2000000) (h0 : 0 ≤ i) (h1 : i + (sumZ (fun _ => 4) l : Int) ≤ MAXM) : ∃ b j, MChain (MkSet fu) i b j ∧ i ≤ j ∧ j ≤ i + (sumZ (fun _ => 4) l : Int) ∧ b.length = l.length ∧ f3023 fu l i = some (j, b) := by
  refine mark_loop (M := f3023_l1 fu) (Mk := MkSet fu) (c := fun _ => 4) (p := fun _ => True) (fun _ _ _ => rfl) (fun n i s z zs _ h0 h1 => ?_) l fu i [] (fun _ _ => trivial) (fuel hf hl) h0 h1
  have hm : i + 4 ≤ MAXM := h1
  unfold MAXM at hm
  have w1 : IntKind.i64.wrap (i + 1) = i + 1 := w64 (by omega) (by omega)
  have w2 : IntKind.i64.wrap (i + 1 + 1) = i + 1 + 1 := w64 (by omega) (by omega)
  have w3 : IntKind.i64.wrap (i + 1 + 1 + 1) = i + 1 + 1 + 1 := w64 (by omega) (by omega)
  have w4 : IntKind.i64.wrap (i + 1 + 1 + 1 + 1) = i + 1 + 1 + 1 + 1 := w64 (by omega) (by omega)
  obtain ⟨t0, e0⟩ := f3055_is (fu := fu) (i := i) hf (by omega) (by unfold MAXM; omega)
  obtain ⟨t3, e3⟩ := f3055_is (fu := fu) (i := i + 1 + 1 + 1) hf (by omega) (by unfold MAXM; omega)
  refine ⟨⟨t0, ⟨i + 1, i + 1 + 1, t3⟩⟩, i + 1 + 1 + 1 + 1, ⟨t0, t3, e0, e3, rfl, rfl, h0, by unfold MAXM; omega⟩, by omega, by show _ ≤ i + 4; omega, ?_⟩
  show f3023_l1 fu (n + 1) i s (z :: zs) = _
  simp only [f3023_l1, w1, w2, w3, w4, e0, e3, Option.bind_some]
end Go.Proofs.YtejobmamkeoheaaGreatDoor
/- Rows and tables: copies, sameness, marks and what holds them. -/
namespace Go.Proofs.YtejobmamkeoheaaGreatDoor
open Go Go.HL Tryz
theorem f3065_is {fu : Nat} {r : Row} (hf : BIG ≤ fu) (h : r.vals.length ≤ 2000000) : f3065 fu r = some r := by
  unfold f3065
  rw [f3097_is hf h]
  cases r; rfl
theorem f3034_is {fu : Nat} {l : List Row} (hf : BIG ≤ fu) (hl : l.length ≤ 2000000) (h : ∀ r ∈ l, r.vals.length ≤ 2000000) : f3034 fu l = some l := by
  unfold f3034
  have h1 : (decide (0 ≤ (l.length : Int)) && decide ((l.length : Int) ≤ (CAP : Int))) = true := by rw [CAP_eq]; simp; omega
  rw [h1, cond_true]
  exact to_loop (g := f3065 fu) (fun _ _ _ => rfl) (fun x hx => f3065_is hf (h x hx)) (big hl) l [] _ fu rfl (by simp) (fuel hf hl)
theorem SmT.rowL {t : Table} (h : SmT t) : ∀ r ∈ t.rows, r.vals.length ≤ 2000000 := fun r hr => (h.row hr).len
theorem f3009_is {fu : Nat} {t : Table} (hf : BIG ≤ fu) (h : SmT t) : f3009 fu t = some t := by
  unfold f3009
  rw [f3032_is hf h.first.len, Option.bind_some, f3033_is hf h.cs.len, Option.bind_some, f3034_is hf h.nrow h.rowL]
  cases t; rfl
theorem f3078_is {fu : Nat} {r : Row} (hf : BIG ≤ fu) (h : r.vals.length ≤ 2000000) : f3078 fu r r = some true := by
  unfold f3078
  rw [f3108_is hf h]
  simp
theorem f3039_is {fu : Nat} {l : List Row} (hf : BIG ≤ fu) (hl : l.length ≤ 2000000) (h : ∀ r ∈ l, r.vals.length ≤ 2000000) : f3039 fu l l = some true := by
  unfold f3039
  rw [decide_eq_true (rfl : (l.length : Int) = (l.length : Int))]
  exact eq_loop (g := f3078 fu) (fun _ _ => rfl) (fun x hx => f3078_is hf (h x hx)) (big hl) l [] fu rfl (fuel hf hl)
theorem f3011_is {fu : Nat} {t : Table} (hf : BIG ≤ fu) (h : SmT t) : f3011 fu t t = some true := by
  unfold f3011
  rw [f3037_is hf h.first.len, Option.bind_some, f3038_is hf h.cs.len, Option.bind_some, f3039_is hf h.nrow h.rowL]
  simp
theorem sumZ_const {α : Type} (m : Nat) : ∀ l : List α, sumZ (fun _ => m) l = m * l.length
  | [] => rfl
  | x :: l => by rw [sumZ, sumZ_const m l, List.length_cons, Nat.mul_succ, Nat.add_comm]
theorem sumZ_le {α : Type} {c : α → Nat} {m : Nat} : ∀ {l : List α}, (∀ x ∈ l, c x ≤ m) → sumZ c l ≤ m * l.length
  | [], _ => Nat.zero_le _
  | x :: l, h => by
    have h1 := h x List.mem_cons_self
    have h2 := sumZ_le (l := l) fun y hy => h y (List.mem_cons_of_mem _ hy)
    rw [sumZ, List.length_cons, Nat.mul_succ]
    omega
def MkRow (fu : Nat) (i : Int) (e : Row) (j : Int) : Prop := e.id = i ∧ e.ver = i + 1 ∧ MChain (MkVal fu) (i + 1 + 1) e.vals j ∧ e.vals.length ≤ 2000000 ∧ 0 ≤ i ∧ i + 2 ≤ j ∧ j ≤ MAXM
def cRow (r : Row) : Nat := 2 + 3 * r.vals.length
theorem f3042_is {fu : Nat} {l : List Row} {i : Int} (hf : BIG ≤ fu) (hl : l.length ≤ 2000000) (h : ∀ r ∈ l, r.vals.length ≤ 2000000) (h0 : 0 ≤ i) (h1 : i + (sumZ cRow l : Int) ≤ MAXM) : ∃ b j, MChain (MkRow fu) i b j ∧ i ≤ j ∧ j ≤ i + (sumZ cRow l : Int) ∧ b.length = l.length ∧ f3042 fu l i = some (j, b) := by
  refine mark_loop (M := f3042_l1 fu) (Mk := MkRow fu) (c := cRow) (p := fun r => r.vals.length ≤ 2000000) (fun _ _ _ => rfl) (fun n i s z zs hz h0 h1 => ?_) l fu i [] h (fuel hf hl) h0 h1
  have hc : (cRow z : Int) = 2 + 3 * z.vals.length := by unfold cRow; omega
  have hs : (sumZ (fun _ => 3) z.vals : Int) = 3 * z.vals.length := by rw [sumZ_const]; omega
  unfold MAXM at h1
  obtain ⟨b, j, g1, g2, g3, g4, g5⟩ := f3079_is (fu := fu) (l := z.vals) (i := i + 1 + 1) hf hz (by omega) (by unfold MAXM; omega)
  have w1 : IntKind.i64.wrap (i + 1) = i + 1 := w64 (by omega) (by omega)
  have w2 : IntKind.i64.wrap (i + 1 + 1) = i + 1 + 1 := w64 (by omega) (by omega)
  refine ⟨⟨i, i + 1, b⟩, j, ⟨rfl, rfl, g1, by show b.length ≤ _; omega, h0, by omega, by unfold MAXM; omega⟩, by omega, by omega, ?_⟩
  show f3042_l1 fu (n + 1) i s (z :: zs) = _
  simp only [f3042_l1, w1, w2, g5, Option.bind_some]
theorem f3045_is {fu : Nat} {a : List Row} {i j : Int} (hf : BIG ≤ fu) (hl : a.length ≤ 2000000) (h : MChain (MkRow fu) i a j) : f3045 fu a i = some j := by
  refine held_loop (a := a) (H := f3045_l1 fu a) (Mk := MkRow fu) (fun n i => ?_) (fun n i j e pre suf ha ⟨h1, h2, h3, h4, h0, hij, hm⟩ => ?_) a [] fu i j rfl (fuel hf hl) h
  · show f3045_l1 fu a (n + 1) i _ = _
    simp only [f3045_l1, nlt, cond_false]
  · have hk : pre.length < a.length := by rw [ha]; simp
    have hx : a.getD pre.length default = e := by rw [ha]; simp [List.getD_eq_getElem?_getD]
    unfold MAXM at hm
    have w1 : IntKind.i64.wrap (i + 1) = i + 1 := w64 (by omega) (by omega)
    have w2 : IntKind.i64.wrap (i + 1 + 1) = i + 1 + 1 := w64 (by omega) (by omega)
    have hv := f3080_is hf h4 h3
    have hj : decide (j < 0) = false := by simp; omega
    show f3045_l1 fu a (n + 1) i _ = _
    simp only [f3045_l1, ltR hk, ge0, Bool.and_self, cond_true, cond_false, Int.toNat_natCast, hx, w1, w2, h1, h2, hv, hj, Option.bind_some, decide_true, Bool.not_true, succI hk (big hl)]
def MkT (fu : Nat) (i : Int) (t : Table) (j : Int) : Prop := ∃ k1 k2, MChain (MkCol fu) i t.first k1 ∧ MChain (MkChange fu) k1 t.changes k2 ∧ MChain (MkRow fu) k2 t.rows j ∧ 0 ≤ i ∧ i ≤ k1 ∧ k1 ≤ k2 ∧ k2 ≤ j ∧ t.first.length ≤ 2000000 ∧ t.changes.length ≤ 2000000 ∧ t.rows.length ≤ 2000000
def cT : Int := 14000000 + 20000000 + 6000002 * 2000000
theorem f3012_is {fu : Nat} {t : Table} {i : Int} (hf : BIG ≤ fu) (h : SmT t) (h0 : 0 ≤ i) (h1 : i + cT ≤ MAXM) : ∃ j t', MkT fu i t' j ∧ i ≤ j ∧ j ≤ i + cT ∧ f3012 fu t i = some (j, t') := by
  have e1 : (sumZ (fun _ => 7) t.first : Int) ≤ 14000000 := by rw [sumZ_const]; have := h.first.len; omega
  have e2 : (sumZ (fun _ => 10) t.changes : Int) ≤ 20000000 := by rw [sumZ_const]; have := h.cs.len; omega
  have e3 : (sumZ cRow t.rows : Int) ≤ 6000002 * 2000000 := by
    have := sumZ_le (c := cRow) (m := 6000002) (l := t.rows) (fun r hr => by have := h.rowL r hr; unfold cRow; omega)
    have := h.nrow
    omega
  unfold cT MAXM at h1
  obtain ⟨b1, j1, g1, g2, g3, g4, g5⟩ := f3040_is (fu := fu) (l := t.first) (i := i) hf h.first.len h0 (by unfold MAXM; omega)
  obtain ⟨b2, j2, k1, k2, k3, k4, k5⟩ := f3041_is (fu := fu) (l := t.changes) (i := j1) hf h.cs.len (by omega) (by unfold MAXM; omega)
  obtain ⟨b3, j3, m1, m2, m3, m4, m5⟩ := f3042_is (fu := fu) (l := t.rows) (i := j2) hf h.nrow h.rowL (by omega) (by unfold MAXM; omega)
  have := h.first.len; have := h.cs.len; have := h.nrow
  refine ⟨j3, ⟨b1, b2, b3, t.next⟩, ⟨j1, j2, g1, k1, m1, h0, g2, k2, m2, by show b1.length ≤ _; omega, by show b2.length ≤ _; omega, by show b3.length ≤ _; omega⟩, by omega, by unfold cT; omega, ?_⟩
  simp only [f3012, g5, k5, m5, Option.bind_some]
theorem f3013_is {fu : Nat} {t : Table} {i j : Int} (hf : BIG ≤ fu) (h : MkT fu i t j) : f3013 fu t i = some j := by
  obtain ⟨k1, k2, h1, h2, h3, h0, g1, g2, g3, l1, l2, l3⟩ := h
  have d1 : decide (k1 < 0) = false := by simp; omega
  have d2 : decide (k2 < 0) = false := by simp; omega
  have d3 : decide (j < 0) = false := by simp; omega
  simp only [f3013, f3043_is hf l1 h1, f3044_is hf l2 h2, f3045_is hf l3 h3, d1, d2, d3, Option.bind_some, cond_false]
end Go.Proofs.YtejobmamkeoheaaGreatDoor
/- The document's and the program's answers on tables are one. -/
namespace Go.Proofs.YtejobmamkeoheaaGreatDoor
open Go Go.HL Tryz
theorem left_ok {z : Nat} (h : decide (left 1048576 z < 0) = false) : z ≤ 1048576 := by
  have := of_decide_eq_false h
  unfold left at this
  split at this <;> omega
theorem left_eq {z : Nat} (h : decide (left 1048576 z < 0) = false) : 0 ≤ left 1048576 z ∧ left 1048576 z ≤ MAXI := ⟨by have := of_decide_eq_false h; omega, left_le (Int.le_refl _)⟩
theorem left_two {y z : Nat} (h1 : decide (left 1048576 y < 0) = false) (h2 : decide (left (left 1048576 y) z < 0) = false) : z ≤ 1048576 := by
  have h3 := left_ok h1
  have := of_decide_eq_false h2
  unfold left at this
  repeat' split at this
  all_goals omega
theorem f17_ok {fu : Nat} {t : Table} (hf : BIG ≤ fu) (h : SmT t) : (f17 fu t = some true ∧ f19 fu t = some true ∧ TabOK t) ∨ (f17 fu t = some false ∧ f19 fu t = some false) := by
  by_cases ht : TabOK t
  · exact .inl ⟨by rw [f17_is hf h, B_t ht], by rw [f19_is hf h, B_t ht], ht⟩
  · exact .inr ⟨by rw [f17_is hf h, B_f ht], by rw [f19_is hf h, B_f ht]⟩
theorem chg_same {fu : Nat} {t : Table} {c : Change} (hf : BIG ≤ fu) (h : SmT t) (hc : SmCh c) : ∃ w : Table × Int, f3015 fu t c = some w ∧ f3017 fu t c = some w ∧ SmT w.1 := by
  rcases f17_ok hf h with ⟨h1, h2, ht⟩ | ⟨h1, h2⟩
  · exact ⟨chgT t c, by simp [f3015, h1, f42_is hf h, f72_is hf ht h hc], by simp [f3017, h2, f71_is hf ht h hc], chgT_sm ht h hc⟩
  · exact ⟨(nilT, 1), by simp [f3015, h1], by simp [f3017, h2], nilT_sm⟩
theorem put_same {fu : Nat} {t : Table} {x : List Set} (hf : BIG ≤ fu) (h : SmT t) (hx : SmX x) : ∃ w : Table × Int, f3019 fu t x = some w ∧ f3021 fu t x = some w ∧ SmT w.1 := by
  rcases f17_ok hf h with ⟨h1, h2, ht⟩ | ⟨h1, h2⟩
  · exact ⟨putT t x, by simp [f3019, h1, f42_is hf h, f65_is hf ht h hx], by simp [f3021, h2, f64_is hf ht h hx], putT_sm ht h hx⟩
  · exact ⟨(nilT, 1), by simp [f3019, h1], by simp [f3021, h2], nilT_sm⟩
theorem set_same {fu : Nat} {t : Table} {id : Int} {x : List Set} (hf : BIG ≤ fu) (h : SmT t) (hx : SmX x) : ∃ w : Table × Int, f3024 fu t id x = some w ∧ f3025 fu t id x = some w ∧ SmT w.1 := by
  rcases f17_ok hf h with ⟨h1, h2, ht⟩ | ⟨h1, h2⟩
  · exact ⟨setT t id x, by simp [f3024, h1, f42_is hf h, f76_is hf ht h hx], by simp [f3025, h2, f75_is hf ht h hx], setT_sm ht h hx⟩
  · exact ⟨(nilT, 1), by simp [f3024, h1], by simp [f3025, h2], nilT_sm⟩
theorem markT_all {fu : Nat} {t : Table} {i : Int} (hf : BIG ≤ fu) (h : SmT t) (h0 : 0 ≤ i) (h1 : i + cT ≤ MAXM) : ∃ j t', f3012 fu t i = some (j, t') ∧ decide (j < 0) = false ∧ f3013 fu t' i = some j ∧ j ≤ i + cT ∧ 0 ≤ j := by
  obtain ⟨j, t', g1, g2, g3, g4⟩ := f3012_is hf h h0 h1
  exact ⟨j, t', g4, ltF (by omega), f3013_is hf g1, g3, by omega⟩
theorem markX_all {fu : Nat} {l : List Set} {i : Int} (hf : BIG ≤ fu) (h : l.length ≤ 2000000) (h0 : 0 ≤ i) (h1 : i + 8000000 ≤ MAXM) : ∃ j l', f3023 fu l i = some (j, l') ∧ decide (j < 0) = false := by
  have hs : (sumZ (fun _ => 4) l : Int) ≤ 8000000 := by rw [sumZ_const]; omega
  obtain ⟨b, j, g1, g2, g3, g4, g5⟩ := f3023_is (fu := fu) (l := l) (i := i) hf h h0 (by omega)
  exact ⟨j, b, g5, ltF (by omega)⟩
theorem capM : (1 : Int) + cT ≤ MAXM := by unfold cT MAXM; omega
end Go.Proofs.YtejobmamkeoheaaGreatDoor
