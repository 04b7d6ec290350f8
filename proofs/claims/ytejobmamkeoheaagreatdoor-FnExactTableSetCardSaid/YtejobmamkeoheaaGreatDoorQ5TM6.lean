/- Rows: what changes do to them, and when they are right. -/
import Derived.Test.YtejobmamkeoheaaGreatDoorQ5TM4
set_option linter.all false
namespace Go.Proofs.YtejobmamkeoheaaGreatDoor
open Go Go.HL
variable {fu : Nat}
structure SmR (row : List Val) : Prop where
  len : row.length ≤ 2000000
  all : ∀ v, v ∈ row → SmV v
theorem SmR.get {row : List Val} (h : SmR row) {k : Nat} (hk : k < row.length) : SmV (row.getD k default) := by
  rw [getD_lt hk]; exact h.all _ (List.getElem_mem hk)
noncomputable def chgRow (s : List Col) (c : Change) (row : List Val) : List Val :=
  if c.kind = 1 then row ++ [c.col.def_]
  else if c.kind = 2 then row.eraseIdx (atN s c.name)
  else if c.kind = 4 then row.set (atN s c.name) (valAs (row.getD (atN s c.name) default) c.col.kind)
  else row
theorem chgRow_len {s : List Col} {c : Change} {row : List Val} (hm : May s c) (hl : row.length = s.length) : (chgRow s c row).length = (chg s c).length := by
  unfold chgRow chg
  by_cases k1 : c.kind = 1
  · rw [if_pos k1, if_pos k1]; simp [hl]
  have hat := hm.there k1
  rw [if_neg k1, if_neg k1]
  by_cases k2 : c.kind = 2
  · rw [if_pos k2, if_pos k2, List.length_eraseIdx, List.length_eraseIdx, hl]
  rw [if_neg k2, if_neg k2]
  by_cases k3 : c.kind = 3
  · rw [if_pos k3, if_neg (by omega)]; simp [hl]
  rw [if_neg k3]
  by_cases k4 : c.kind = 4
  · rw [if_pos k4]; simp [hl]
  · rw [if_neg k4]; simp [hl]
theorem sm_chgRow {s : List Col} {c : Change} {row : List Val} (hr : SmR row) (hl : row.length ≤ 500) (hc : SmCh c) : SmR (chgRow s c row) := by
  unfold chgRow
  split
  · exact ⟨by simp; omega, fun x hx => by
      rcases List.mem_append.1 hx with h | h
      · exact hr.all x h
      · simp only [List.mem_singleton] at h; subst h; exact hc.col.def_⟩
  · split
    · exact ⟨by have := List.length_eraseIdx_le row (atN s c.name); omega, fun x hx => hr.all x (List.mem_of_mem_eraseIdx hx)⟩
    · split
      · exact ⟨by simp; omega, fun x hx => by
          rcases List.mem_or_eq_of_mem_set hx with h | h
          · exact hr.all x h
          · subst h; exact (valAs_ok _ _).1.sm⟩
      · exact hr
theorem f141_is {s : List Col} {c : Change} {row : List Val} (hf : BIG ≤ fu) (hs : s.length ≤ 500) (hm : May s c) (hl : row.length = s.length) (hr : SmR row) :
    f141 fu s c row = some (chgRow s c row) := by
  have t0 : List.length ([] : List Val) + List.length row ≤ 1000000000 := by simp; omega
  have t1 : List.length (([] : List Val) ++ row) + List.length ([c.col.def_] : List Val) ≤ 1000000000 := by simp; omega
  unfold f141 chgRow
  rw [f108_is hf (by omega), Option.bind_some, cap t0, cond_true]
  by_cases k1 : c.kind = 1
  · rw [if_pos k1, decide_eq_true k1, cond_true, cap t1]; rfl
  have hat := hm.there k1
  have hat' : atN s c.name < row.length := by omega
  rw [if_neg k1, decide_eq_false k1, cond_false, atI_lt hat]
  by_cases k2 : c.kind = 2
  · rw [if_pos k2, decide_eq_true k2, cond_true]
    have e1 : IntKind.i64.wrap ((atN s c.name : Int) + 1) = ((atN s c.name + 1 : Nat) : Int) := succI hat (by unfold BIG; omega)
    rw [e1, ← cut_is]
    have t1 : List.length ([] : List Val) + List.length ((row.take (atN s c.name)).drop 0) ≤ 1000000000 := by simp; omega
    have t2 : List.length (([] : List Val) ++ ((row.take (atN s c.name)).drop 0)) + List.length ((row.take row.length).drop (atN s c.name + 1)) ≤ 1000000000 := by simp; omega
    simp only [Int.toNat_natCast, Int.toNat_zero, cap t1, cap t2, ge0, Bool.true_and, Bool.and_true, cond_true, decide_true, Int.le_refl]
    have h1 : decide ((atN s c.name : Int) ≤ (row.length : Int)) = true := by simp; omega
    have h2 : decide (((atN s c.name + 1 : Nat) : Int) ≤ (row.length : Int)) = true := by simp; omega
    rw [h1, h2]
    simp
  rw [if_neg k2, decide_eq_false k2, cond_false]
  by_cases k4 : c.kind = 4
  · have hin := inR hat'
    rw [if_pos k4, decide_eq_true k4, cond_true, hin, cond_true, Int.toNat_natCast, f138_is hf (hr.get hat'), Option.bind_some]
    simp [hin, f141_j1, hat']
  · rw [if_neg k4, decide_eq_false k4]; rfl
theorem f115_is {row : List Val} (hl : row.length ≤ 2000001) : f115 row = some row := by
  unfold f115 f133 f134
  rw [cap (by simp; omega)]; rfl
theorem f116_is {s : List Val} {k : Nat} (hl : s.length ≤ 2000000) (hk : k < s.length) : f116 s (k : Int) (IntKind.i64.wrap ((k : Int) + 1)) = some (s.eraseIdx k) := by
  have h := delN hk hl
  unfold f116
  rw [h.1, h.2, cond_true, Int.toNat_natCast, cut_is]
theorem f79_is {s : List Col} {c : Change} {row : List Val} (hf : BIG ≤ fu) (hs : s.length ≤ 500) (hm : May s c) (hl : row.length = s.length) (hr : SmR row) :
    f79 fu s c row = some (chgRow s c row) := by
  have t1 : List.length row + List.length ([c.col.def_] : List Val) ≤ 1000000000 := by simp; omega
  unfold f79 chgRow
  rw [f115_is (by omega), Option.bind_some, f68_is hf (by omega), Option.bind_some]
  simp only [f79_j1]
  by_cases k1 : c.kind = 1
  · rw [if_pos k1, decide_eq_true k1, cond_true, cap t1, cond_true, f115_is (by simp; omega)]; rfl
  have hat := hm.there k1
  have hat' : atN s c.name < row.length := by omega
  rw [if_neg k1, decide_eq_false k1, cond_false, atI_lt hat]
  by_cases k2 : c.kind = 2
  · rw [if_pos k2, decide_eq_true k2, cond_true, f116_is (by omega) hat', Option.bind_some, f115_is (by have := List.length_eraseIdx_le row (atN s c.name); omega)]; rfl
  rw [if_neg k2, decide_eq_false k2, cond_false]
  by_cases k4 : c.kind = 4
  · have hin := inR hat'
    rw [if_pos k4, decide_eq_true k4, cond_true, hin, cond_true, Int.toNat_natCast, f114_is hf (hr.get hat'), Option.bind_some, cond_true, f115_is (by simp; omega)]; rfl
  · rw [if_neg k4, decide_eq_false k4, cond_false, f115_is (by omega)]; rfl
open Classical in
noncomputable def run (s : List Col) : List Change → Option (List Col)
  | [] => some s
  | c :: cs => if Can s c then run (chg s c) cs else none
noncomputable def runRow (s : List Col) : List Change → List Val → List Val
  | [], row => row
  | c :: cs, row => runRow (chg s c) cs (chgRow s c row)
theorem run_cons {s : List Col} {c : Change} {cs : List Change} {x : List Col} (h : run s (c :: cs) = some x) : Can s c ∧ run (chg s c) cs = some x := by
  unfold run at h
  split at h
  · exact ⟨by assumption, h⟩
  · cases h
theorem run_ok {cs : List Change} : ∀ {s x : List Col}, ShapeOK s → run s cs = some x → ShapeOK x := by
  induction cs with
  | nil => intro s x hs h; unfold run at h; injection h with h; rw [← h]; exact hs
  | cons c cs ih => intro s x hs h; have := run_cons h; exact ih this.1.ok this.2
theorem run_append {a : List Change} : ∀ {s : List Col} {b : List Change}, run s (a ++ b) = (run s a).bind fun x => run x b := by
  induction a with
  | nil => intro s b; rfl
  | cons c a ih =>
    intro s b
    have e : ∀ l, run s (c :: l) = @ite _ (Can s c) (Classical.propDecidable _) (run (chg s c) l) none := fun l => by rw [run]
    rw [List.cons_append, e, e]
    by_cases h : Can s c
    · rw [if_pos h, if_pos h]; exact ih
    · rw [if_neg h, if_neg h]; rfl
theorem runRow_append {a : List Change} : ∀ {s x : List Col} {b : List Change} {row : List Val}, run s a = some x → runRow s (a ++ b) row = runRow x b (runRow s a row) := by
  induction a with
  | nil => intro s x b row h; unfold run at h; injection h with h; subst h; rfl
  | cons c a ih => intro s x b row h; exact ih (run_cons h).2
theorem runRow_len {cs : List Change} : ∀ {s x : List Col} {row : List Val}, run s cs = some x → row.length = s.length → (runRow s cs row).length = x.length := by
  induction cs with
  | nil => intro s x row h hl; unfold run at h; injection h with h; subst h; exact hl
  | cons c cs ih =>
    intro s x row h hl
    have := run_cons h
    exact ih this.2 (chgRow_len this.1.may hl)
theorem sm_runRow {cs : List Change} (hc : ∀ c, c ∈ cs → SmCh c) : ∀ {s x : List Col} {row : List Val}, ShapeOK s → run s cs = some x → row.length = s.length → SmR row → SmR (runRow s cs row) := by
  induction cs with
  | nil => intro s x row _ h hl hr; exact hr
  | cons c cs ih =>
    intro s x row hs h hl hr
    have h' := run_cons h
    have := hs.hi
    exact ih (fun c hc' => hc c (List.mem_cons_of_mem _ hc')) h'.1.ok h'.2 (chgRow_len h'.1.may hl) (sm_chgRow hr (by omega) (hc c List.mem_cons_self))
noncomputable def runB (s : List Col) (cs : List Change) : List Col × Bool := match run s cs with | some x => (x, true) | none => ([], false)
structure SmCs (cs : List Change) : Prop where
  len : cs.length ≤ 2000000
  all : ∀ c, c ∈ cs → SmCh c
theorem SmCs.get {cs : List Change} (h : SmCs cs) {k : Nat} (hk : k < cs.length) : SmCh (cs.getD k default) := by
  rw [getD_lt hk]; exact h.all _ (List.getElem_mem hk)
theorem runB_cons {s : List Col} {c : Change} {cs : List Change} : runB s (c :: cs) = @ite _ (Can s c) (Classical.propDecidable _) (runB (chg s c) cs) ([], false) := by
  by_cases h : Can s c
  · rw [if_pos h]
    unfold runB
    have : run s (c :: cs) = run (chg s c) cs := by rw [run, if_pos h]
    rw [this]
  · rw [if_neg h]
    unfold runB
    have : run s (c :: cs) = none := by rw [run, if_neg h]
    rw [this]
theorem dropN {α : Type} {l : List α} {d : α} {k : Nat} (hk : k < l.length) : l.drop k = l.getD k d :: l.drop (k + 1) := by
  rw [getD_lt hk]; exact List.drop_eq_getElem_cons hk
theorem l57 {cs : List Change} (hf : BIG ≤ fu) (hc : SmCs cs) : ∀ (m n k : Nat) (s : List Col), k + m = cs.length → m < n → ShapeOK s → f57_l1 fu cs n s (k : Int) = some (runB s (cs.drop k)) := by
  intro m
  induction m with
  | zero =>
    intro n k s hk hn hs
    obtain ⟨n, rfl⟩ : ∃ i, n = i + 1 := ⟨n - 1, by omega⟩
    have : k = cs.length := by omega
    subst this
    rw [f57_l1, nlt, List.drop_length]; rfl
  | succ m ih =>
    intro n k s hk hn hs
    obtain ⟨n, rfl⟩ : ∃ i, n = i + 1 := ⟨n - 1, by omega⟩
    have hkl : k < cs.length := by omega
    have hlen := hc.len
    rw [f57_l1, ltR hkl, cond_true, ge0, Bool.and_self, cond_true, Int.toNat_natCast, f78_is hf hs (hc.get hkl), Option.bind_some, dropN (d := default) hkl, runB_cons]
    unfold doC
    by_cases h : Can s (cs.getD k default)
    · rw [if_pos h, if_pos h]
      simp only [Bool.not_true, cond_false]
      rw [succI hkl (by unfold BIG; omega)]
      exact ih n (k + 1) _ (by omega) (by omega) h.ok
    · rw [if_neg h, if_neg h]; rfl
theorem f57_is {s : List Col} {cs : List Change} (hf : BIG ≤ fu) (hs : ShapeOK s) (hc : SmCs cs) : f57 fu s cs = some (runB s cs) := by
  have := hs.hi
  have := hc.len
  unfold f57
  rw [f91_is (by omega), Option.bind_some]
  exact l57 hf hc cs.length fu 0 s (by omega) (by unfold BIG at hf; omega) hs
theorem l50 {cs : List Change} (hf : BIG ≤ fu) (hc : SmCs cs) : ∀ (m n k : Nat) (s : List Col), k + m = cs.length → m < n → ShapeOK s → f50_l1 fu cs n s (k : Int) = some (runB s (cs.drop k)) := by
  intro m
  induction m with
  | zero =>
    intro n k s hk hn hs
    obtain ⟨n, rfl⟩ : ∃ i, n = i + 1 := ⟨n - 1, by omega⟩
    have : k = cs.length := by omega
    subst this
    rw [f50_l1, nlt, List.drop_length]; rfl
  | succ m ih =>
    intro n k s hk hn hs
    obtain ⟨n, rfl⟩ : ∃ i, n = i + 1 := ⟨n - 1, by omega⟩
    have hkl : k < cs.length := by omega
    have hlen := hc.len
    rw [f50_l1, ltR hkl, cond_true, ge0, Bool.and_self, cond_true, Int.toNat_natCast, f87_is hf hs (hc.get hkl), Option.bind_some, dropN (d := default) hkl, runB_cons]
    unfold doC
    by_cases h : Can s (cs.getD k default)
    · rw [if_pos h, if_pos h]
      simp only [Bool.not_true, cond_false]
      rw [succI hkl (by unfold BIG; omega)]
      exact ih n (k + 1) _ (by omega) (by omega) h.ok
    · rw [if_neg h, if_neg h]; rfl
open Classical in
noncomputable def allB (s : List Col) (cs : List Change) : List Col × Bool := if ShapeOK s then runB s cs else ([], false)
theorem f50_is {s : List Col} {cs : List Change} (hf : BIG ≤ fu) (hs : SmS s) (hc : SmCs cs) : f50 fu s cs = some (allB s cs) := by
  have hl := hs.len
  have := hc.len
  unfold f50 allB
  rw [f86_is hf hs, Option.bind_some]
  by_cases h : ShapeOK s
  · rw [if_pos h, B_t h, cap (by simp; omega)]
    exact l50 hf hc cs.length fu 0 s (by omega) (by unfold BIG at hf; omega) h
  · rw [if_neg h, B_f h]; rfl
theorem f55_is {s : List Col} {cs : List Change} (hf : BIG ≤ fu) (hs : SmS s) (hc : SmCs cs) : f55 fu s cs = some (allB s cs) := by
  unfold f55 allB
  rw [f67_is hf hs, Option.bind_some]
  by_cases h : ShapeOK s
  · rw [if_pos h, B_t h, f57_is hf h hc]; rfl
  · rw [if_neg h, B_f h]; rfl
theorem l120 {cs : List Change} (hf : BIG ≤ fu) (hc : SmCs cs) : ∀ (m n k : Nat) (s x : List Col) (row : List Val), k + m = cs.length → m < n → ShapeOK s → run s (cs.drop k) = some x → row.length = s.length → SmR row →
    f120_l1 fu cs n s row (k : Int) = some (runRow s (cs.drop k) row) := by
  intro m
  induction m with
  | zero =>
    intro n k s x row hk hn hs hx hl hr
    obtain ⟨n, rfl⟩ : ∃ i, n = i + 1 := ⟨n - 1, by omega⟩
    have : k = cs.length := by omega
    subst this
    rw [f120_l1, nlt, List.drop_length]; rfl
  | succ m ih =>
    intro n k s x row hk hn hs hx hl hr
    obtain ⟨n, rfl⟩ : ∃ i, n = i + 1 := ⟨n - 1, by omega⟩
    have hkl : k < cs.length := by omega
    have hlen := hc.len
    have hhi := hs.hi
    have hck := hc.get hkl
    rw [dropN (d := default) hkl] at hx ⊢
    have h := run_cons hx
    rw [f120_l1, ltR hkl, cond_true, ge0, Bool.and_self, cond_true, Int.toNat_natCast, f141_is hf (by omega) h.1.may hl hr, Option.bind_some, cond_true, f87_is hf hs hck, Option.bind_some]
    unfold doC
    rw [if_pos h.1, succI hkl (by unfold BIG; omega)]
    exact ih n (k + 1) _ x _ (by omega) (by omega) h.1.ok h.2 (chgRow_len h.1.may hl) (sm_chgRow hr (by omega) hck)
theorem f120_is {s x : List Col} {cs : List Change} {row : List Val} (hf : BIG ≤ fu) (hs : ShapeOK s) (hc : SmCs cs) (hx : run s cs = some x) (hl : row.length = s.length) (hr : SmR row) : f120 fu s cs row = some (runRow s cs row) := by
  have h1 := hr.len
  have h2 := hc.len
  unfold f120 f120_j1
  rw [f50_is hf hs.sm hc, Option.bind_some]
  have : allB s cs = (x, true) := by unfold allB runB; rw [if_pos hs, hx]
  rw [this, decide_eq_true (show (row.length : Int) = (s.length : Int) by omega), cap (by simp; omega)]
  exact l120 hf hc cs.length fu 0 s x row (by omega) (by unfold BIG at hf; omega) hs hx hl hr
theorem l85 {cs : List Change} (hf : BIG ≤ fu) (hc : SmCs cs) : ∀ (m n k : Nat) (s x : List Col) (row : List Val), k + m = cs.length → m < n → ShapeOK s → run s (cs.drop k) = some x → row.length = s.length → SmR row →
    f85_l1 fu cs n s (k : Int) row = some (runRow s (cs.drop k) row) := by
  intro m
  induction m with
  | zero =>
    intro n k s x row hk hn hs hx hl hr
    obtain ⟨n, rfl⟩ : ∃ i, n = i + 1 := ⟨n - 1, by omega⟩
    have : k = cs.length := by omega
    subst this
    rw [f85_l1, nlt, List.drop_length]; rfl
  | succ m ih =>
    intro n k s x row hk hn hs hx hl hr
    obtain ⟨n, rfl⟩ : ∃ i, n = i + 1 := ⟨n - 1, by omega⟩
    have hkl : k < cs.length := by omega
    have hlen := hc.len
    have hhi := hs.hi
    have hck := hc.get hkl
    rw [dropN (d := default) hkl] at hx ⊢
    have h := run_cons hx
    rw [f85_l1, ltR hkl, cond_true, ge0, Bool.and_self, cond_true, Int.toNat_natCast, f79_is hf (by omega) h.1.may hl hr, Option.bind_some, f78_is hf hs hck, Option.bind_some]
    unfold doC
    rw [if_pos h.1, succI hkl (by unfold BIG; omega)]
    exact ih n (k + 1) _ x _ (by omega) (by omega) h.1.ok h.2 (chgRow_len h.1.may hl) (sm_chgRow hr (by omega) hck)
theorem f85_is {s x : List Col} {cs : List Change} {row : List Val} (hf : BIG ≤ fu) (hs : ShapeOK s) (hc : SmCs cs) (hx : run s cs = some x) (hl : row.length = s.length) (hr : SmR row) : f85 fu s cs row = some (runRow s cs row) := by
  have h1 := hr.len
  have h2 := hc.len
  unfold f85
  rw [f115_is (by omega), Option.bind_some]
  exact l85 hf hc cs.length fu 0 s x row (by omega) (by unfold BIG at hf; omega) hs hx hl hr
structure VOK (c : Col) (v : Val) : Prop where
  ok : ValOK v
  fits : Fits v c.kind
  need : c.need = true → v.kind ≠ 0
structure RowOK (s : List Col) (row : List Val) : Prop where
  len : row.length = s.length
  all : ∀ k, k < row.length → VOK (s.getD k default) (row.getD k default)
theorem VOK_B {c : Col} {v : Val} : B (VOK c v) = (B (ValOK v) && (B (v.kind = 0) || B (v.kind = c.kind)) && (!c.need || !B (v.kind = 0))) := by
  rw [B_congr (show VOK c v ↔ ((ValOK v ∧ (v.kind = 0 ∨ v.kind = c.kind)) ∧ (c.need = true → ¬ v.kind = 0)) from ⟨fun h => ⟨⟨h.1, h.2⟩, h.3⟩, fun h => ⟨h.1.1, h.1.2, h.2⟩⟩), B_and, B_and, B_or, B_imp, B_not, B_bool]
theorem RowOK_iff {s : List Col} {row : List Val} (hl : row.length = s.length) : RowOK s row ↔ ((∀ k, k < row.length → VOK (s.getD k default) (row.getD k default)) ∧ True) := ⟨fun h => ⟨h.2, trivial⟩, fun h => ⟨hl, h.1⟩⟩
theorem f58_is {s : List Col} {row : List Val} (hf : BIG ≤ fu) (hr : SmR row) : f58 fu s row = some (B (RowOK s row)) := by
  have h1 := hr.len
  unfold f58
  by_cases hl : row.length = s.length
  case neg => rw [decide_eq_false (show ¬ (row.length : Int) = (s.length : Int) by omega), B_f fun h => hl h.len]; rfl
  rw [decide_eq_true (show (row.length : Int) = (s.length : Int) by omega), B_congr (RowOK_iff hl)]
  refine loopB (L := f58_l1 fu s row) _ _ (by unfold BIG; omega) (fun n h => ?_) (fun n h => absurd trivial h) (fun n k hk hp => ?_) (fun n k hk hp => ?_) (by unfold BIG at hf; omega)
  · rw [f58_l1, nlt]; rfl
  · have hb := B_t hp
    rw [VOK_B] at hb
    rw [f58_l1, ltR hk, cond_true, ge0, Bool.and_self, cond_true, Int.toNat_natCast, f25_sm hf (hr.get hk), Option.bind_some, ltR (show k < s.length by omega), Bool.and_self, cond_true, f92_is, Option.bind_some, cond_true, B_or]
    simp only [f58_j2, dec_B]
    revert hb
    cases B (ValOK (row.getD k default)) <;> cases B ((row.getD k default).kind = 0) <;> cases B ((row.getD k default).kind = (s.getD k default).kind) <;> cases (s.getD k default).need <;> simp
  · have hb := B_f hp
    rw [VOK_B] at hb
    rw [f58_l1, ltR hk, cond_true, ge0, Bool.and_self, cond_true, Int.toNat_natCast, f25_sm hf (hr.get hk), Option.bind_some, ltR (show k < s.length by omega), Bool.and_self, cond_true, f92_is, Option.bind_some, cond_true, B_or]
    simp only [f58_j2, dec_B]
    revert hb
    cases B (ValOK (row.getD k default)) <;> cases B ((row.getD k default).kind = 0) <;> cases B ((row.getD k default).kind = (s.getD k default).kind) <;> cases (s.getD k default).need <;> simp
theorem f88_is {s : List Col} {row : List Val} (hf : BIG ≤ fu) (hs : ShapeOK s) (hr : SmR row) : f88 fu s row = some (B (RowOK s row)) := by
  have h1 := hr.len
  unfold f88
  rw [f86_is hf hs.sm, B_t hs, Option.bind_some]
  simp only [Bool.not_true, cond_false, f88_j1]
  by_cases hl : row.length = s.length
  case neg => rw [decide_eq_false (show ¬ (row.length : Int) = (s.length : Int) by omega), B_f fun h => hl h.len]; rfl
  rw [decide_eq_true (show (row.length : Int) = (s.length : Int) by omega), B_congr (RowOK_iff hl)]
  refine loopB (L := f88_l1 fu s row) _ _ (by unfold BIG; omega) (fun n h => ?_) (fun n h => absurd trivial h) (fun n k hk hp => ?_) (fun n k hk hp => ?_) (by unfold BIG at hf; omega)
  · rw [f88_l1, nlt]; rfl
  · have hb := B_t hp
    rw [VOK_B] at hb
    rw [f88_l1, ltR hk, cond_true, ge0, Bool.and_self, cond_true, Int.toNat_natCast, f119_sm hf (hr.get hk), Option.bind_some, ltR (show k < s.length by omega), Bool.and_self, cond_true]
    simp only [f88_j3, dec_B, cond_true]
    revert hb
    cases B (ValOK (row.getD k default)) <;> cases B ((row.getD k default).kind = 0) <;> cases B ((row.getD k default).kind = (s.getD k default).kind) <;> cases (s.getD k default).need <;> simp
  · have hb := B_f hp
    rw [VOK_B] at hb
    rw [f88_l1, ltR hk, cond_true, ge0, Bool.and_self, cond_true, Int.toNat_natCast, f119_sm hf (hr.get hk), Option.bind_some, ltR (show k < s.length by omega), Bool.and_self, cond_true]
    simp only [f88_j3, dec_B, cond_true]
    revert hb
    cases B (ValOK (row.getD k default)) <;> cases B ((row.getD k default).kind = 0) <;> cases B ((row.getD k default).kind = (s.getD k default).kind) <;> cases (s.getD k default).need <;> simp
end Go.Proofs.YtejobmamkeoheaaGreatDoor
/- Tables: the columns as they were and are, rows as they are, what stands twice. -/
namespace Go.Proofs.YtejobmamkeoheaaGreatDoor
open Go Go.HL
variable {fu : Nat}
theorem o53 : @f53o = @f53 := rfl
theorem o90 : @f90o = @f90 := rfl
theorem o82 : @f82o = @f82 := by
  have h : ∀ t id n i, f82o_l1 t id n i = f82_l1 t id n i := fun t id n => by
    induction n with
    | zero => intro i; rfl
    | succ n ih => intro i; rw [f82o_l1, f82_l1, ih]
  funext fu t id
  unfold f82o f82
  rw [h]
theorem o42 : @f42o = @f42 := by
  have h : ∀ t n i x, f42o_l1 t n i x = f42_l1 t n i x := fun t n => by
    induction n with
    | zero => intro i x; rfl
    | succ n ih => intro i x; rw [f42o_l1, f42_l1, ih]
  funext fu t
  unfold f42o f42 f42o_j1 f42_j1
  rw [h]
theorem o102 : @f102o = @f102 := by
  have h : ∀ fu t r s n i x, f102o_l1 fu t r s n i x = f102_l1 fu t r s n i x := fun fu t r s n => by
    induction n with
    | zero => intro i x; rfl
    | succ n ih => intro i x; rw [f102o_l1, f102_l1, o90]; simp only [f102o_j2, f102_j2, ih]
  funext fu t r
  unfold f102o f102
  simp only [o53, h]
theorem loopE {ρ : Type} {L : Nat → Int → Option ρ} {N : Nat} (p : Nat → Prop) (y z : Option ρ) (hN : N ≤ BIG)
    (hend : ∀ n, L (n + 1) (N : Int) = z)
    (hyes : ∀ n (k : Nat), k < N → p k → L (n + 1) (k : Int) = y)
    (hno : ∀ n (k : Nat), k < N → ¬ p k → L (n + 1) (k : Int) = L n (IntKind.i64.wrap ((k : Int) + 1))) {fu : Nat} (hf : N < fu) : L fu 0 = @ite _ (∃ k, k < N ∧ p k) (Classical.propDecidable _) y z := by
  have key : ∀ c fu k, k + c = N → c < fu → L fu (k : Int) = @ite _ (∃ i, k ≤ i ∧ i < N ∧ p i) (Classical.propDecidable _) y z := by
    intro c
    induction c with
    | zero =>
      intro fu k hk hc
      obtain ⟨n, rfl⟩ : ∃ n, fu = n + 1 := ⟨fu - 1, by omega⟩
      have : k = N := by omega
      subst this
      rw [hend, if_neg]
      rintro ⟨i, h1, h2, _⟩
      omega
    | succ c ih =>
      intro fu k hk hc
      obtain ⟨n, rfl⟩ : ∃ n, fu = n + 1 := ⟨fu - 1, by omega⟩
      by_cases hp : p k
      · rw [hyes n k (by omega) hp, if_pos ⟨k, Nat.le_refl _, by omega, hp⟩]
      · rw [hno n k (by omega) hp, succI (show k < N by omega) hN, ih n (k + 1) (by omega) (by omega)]
        by_cases h : ∃ i, k + 1 ≤ i ∧ i < N ∧ p i
        · rw [if_pos h, if_pos]
          obtain ⟨i, h1, h2⟩ := h
          exact ⟨i, by omega, h2⟩
        · rw [if_neg h, if_neg]
          rintro ⟨i, h1, h2, h3⟩
          by_cases hi : i = k
          · subst hi; exact hp h3
          · exact h ⟨i, by omega, h2, h3⟩
  have h := key N fu 0 (by omega) hf
  rw [show ((0 : Nat) : Int) = 0 from rfl] at h
  rw [h]
  by_cases h : ∃ k, k < N ∧ p k
  · rw [if_pos h, if_pos]
    obtain ⟨i, h1, h2⟩ := h
    exact ⟨i, Nat.zero_le _, h1, h2⟩
  · rw [if_neg h, if_neg]
    rintro ⟨i, h1, h2, h3⟩
    exact h ⟨i, h2, h3⟩
noncomputable def shapeAt (t : Table) (v : Nat) : List Col := (run t.first (t.changes.take v)).getD []
noncomputable def lastS (t : Table) : List Col := (run t.first t.changes).getD []
noncomputable def nowR (t : Table) (r : Row) : List Val := runRow (shapeAt t r.ver.toNat) (t.changes.drop r.ver.toNat) r.vals
structure Rt (t : Table) : Prop where
  first : ShapeOK t.first
  run : ∃ x, run t.first t.changes = some x
  cs : SmCs t.changes
theorem Rt.last {t : Table} (h : Rt t) : Go.Proofs.YtejobmamkeoheaaGreatDoor.run t.first t.changes = some (lastS t) := by
  obtain ⟨x, hx⟩ := h.run
  unfold lastS
  rw [hx]; rfl
theorem Rt.at {t : Table} (h : Rt t) (v : Nat) : Go.Proofs.YtejobmamkeoheaaGreatDoor.run t.first (t.changes.take v) = some (shapeAt t v) ∧ Go.Proofs.YtejobmamkeoheaaGreatDoor.run (shapeAt t v) (t.changes.drop v) = some (lastS t) := by
  have hl := h.last
  rw [← List.take_append_drop v t.changes, run_append] at hl
  unfold shapeAt
  cases hr : Go.Proofs.YtejobmamkeoheaaGreatDoor.run t.first (t.changes.take v) with
  | none => rw [hr] at hl; cases hl
  | some x => rw [hr] at hl; exact ⟨rfl, hl⟩
theorem Rt.okAt {t : Table} (h : Rt t) (v : Nat) : ShapeOK (shapeAt t v) := run_ok h.first (h.at v).1
theorem Rt.okLast {t : Table} (h : Rt t) : ShapeOK (lastS t) := run_ok h.first h.last
theorem Rt.csTake {t : Table} (h : Rt t) (v : Nat) : SmCs (t.changes.take v) := ⟨by have := h.cs.len; simp; omega, fun c hc => h.cs.all c (List.mem_of_mem_take hc)⟩
theorem Rt.csDrop {t : Table} (h : Rt t) (v : Nat) : SmCs (t.changes.drop v) := ⟨by have := h.cs.len; simp; omega, fun c hc => h.cs.all c (List.mem_of_mem_drop hc)⟩
theorem shapeAt_last (t : Table) : shapeAt t t.changes.length = lastS t := by unfold shapeAt lastS; rw [List.take_length]
structure VerOK (t : Table) (v : Int) : Prop where
  lo : 0 ≤ v
  hi : v ≤ (t.changes.length : Int)
theorem VerOK.c1 {t : Table} {v : Int} (h : VerOK t v) : (decide (0 ≤ (0 : Int)) && decide ((0 : Int) ≤ v) && decide (v ≤ (List.length t.changes : Int))) = true := by
  have := h.lo; have := h.hi; simp; omega
theorem VerOK.c2 {t : Table} {v : Int} (h : VerOK t v) : (decide (0 ≤ v) && decide (v ≤ (List.length t.changes : Int)) && decide ((List.length t.changes : Int) ≤ (List.length t.changes : Int))) = true := by
  have := h.lo; have := h.hi; simp; omega
structure RowIn (t : Table) (r : Row) : Prop where
  ver : VerOK t r.ver
  len : r.vals.length = (shapeAt t r.ver.toNat).length
  sm : SmR r.vals
theorem f89_is {t : Table} {v : Int} (hf : BIG ≤ fu) (h : Rt t) (hv : VerOK t v) : f89 fu t v = some (shapeAt t v.toNat) := by
  unfold f89
  rw [hv.c1, cond_true, Int.toNat_zero, List.drop_zero, f50_is hf h.first.sm (h.csTake _), Option.bind_some]
  unfold allB runB
  rw [if_pos h.first, (h.at _).1]
theorem f53_is {t : Table} (hf : BIG ≤ fu) (h : Rt t) : f53 fu t = some (lastS t) := by
  unfold f53
  rw [f89_is hf h ⟨by omega, by omega⟩, Option.bind_some, Int.toNat_natCast, shapeAt_last]
theorem nowR_len {t : Table} {r : Row} (h : Rt t) (hr : RowIn t r) : (nowR t r).length = (lastS t).length := runRow_len (h.at _).2 hr.len
theorem nowR_sm {t : Table} {r : Row} (h : Rt t) (hr : RowIn t r) : SmR (nowR t r) := sm_runRow (h.csDrop _).all (h.okAt _) (h.at _).2 hr.len hr.sm
theorem f90_is {t : Table} {r : Row} (hf : BIG ≤ fu) (h : Rt t) (hr : RowIn t r) : f90 fu t r = some (nowR t r) := by
  unfold f90
  rw [f89_is hf h hr.ver, Option.bind_some, hr.ver.c2, cond_true, Int.toNat_natCast, List.take_length, f120_is hf (h.okAt _) (h.csDrop _) (h.at _).2 hr.len hr.sm]; rfl
theorem f49_is {t : Table} {r : Row} (hf : BIG ≤ fu) (h : Rt t) (hr : RowIn t r) : f49 fu t r = some (nowR t r) := by
  unfold f49
  rw [hr.ver.c1, cond_true, Int.toNat_zero, List.drop_zero, f57_is hf h.first (h.csTake _), Option.bind_some, hr.ver.c2, cond_true, Int.toNat_natCast, List.take_length]
  unfold runB
  rw [(h.at _).1]
  show (f85 fu (shapeAt t r.ver.toNat) _ _).bind _ = _
  rw [f85_is hf (h.okAt _) (h.csDrop _) (h.at _).2 hr.len hr.sm]; rfl
theorem f66_is {t : Table} (hf : BIG ≤ fu) (h : Rt t) : f66 fu t = some (lastS t) := by
  unfold f66
  rw [f57_is hf h.first h.cs, Option.bind_some]
  unfold runB
  rw [h.last]
def Clash (s : List Col) (a b : List Val) : Prop := ∃ c, c < s.length ∧ (s.getD c default).once = true ∧ (a.getD c default).kind ≠ 0 ∧ a.getD c default = b.getD c default
theorem Clash.symm {s : List Col} {a b : List Val} (h : Clash s a b) : Clash s b a := by
  obtain ⟨c, h1, h2, h3, h4⟩ := h
  exact ⟨c, h1, h2, by rw [← h4]; exact h3, h4.symm⟩
def NoTwice (s : List Col) (rows : List (List Val)) : Prop := rows.Pairwise fun a b => ¬ Clash s a b
def ColTwice (rows : List (List Val)) (c : Nat) : Prop := ∃ i, i < rows.length ∧ ∃ k, k < i ∧ ((rows.getD i default).getD c default).kind ≠ 0 ∧ (rows.getD i default).getD c default = (rows.getD k default).getD c default
theorem NoTwice_iff {s : List Col} {rows : List (List Val)} : NoTwice s rows ↔ ¬ ∃ c, c < s.length ∧ (s.getD c default).once = true ∧ ColTwice rows c := by
  unfold NoTwice
  rw [List.pairwise_iff_getElem]
  constructor
  · rintro h ⟨c, h1, h2, i, hi, k, hk, h3, h4⟩
    rw [getD_lt hi] at h3 h4
    rw [getD_lt (show k < rows.length by omega)] at h4
    exact h k i (by omega) hi hk ⟨c, h1, h2, by rw [← h4]; exact h3, h4.symm⟩
  · rintro h i j hi hj hij ⟨c, h1, h2, h3, h4⟩
    exact h ⟨c, h1, h2, j, hj, i, hij, by rw [getD_lt hj, ← h4]; exact h3, by rw [getD_lt hi, getD_lt hj, h4]⟩
theorem f52_is {s : List Col} {rows : List (List Val)} (hf : BIG ≤ fu) (hs : s.length ≤ 2000000) (hr : rows.length ≤ 2000000) (hl : ∀ r, r ∈ rows → r.length = s.length) : f52 fu s rows = some (B (¬ NoTwice s rows)) := by
  have hlen : ∀ i, i < rows.length → (rows.getD i default).length = s.length := fun i hi => by rw [getD_lt hi]; exact hl _ (List.getElem_mem hi)
  have hBF : 2000000 < fu := by unfold BIG at hf; omega
  unfold f52
  have h1 := loopE (L := f52_l1 fu s rows) (N := s.length) (fun c => (s.getD c default).once = true ∧ ColTwice rows c) (some true) (some false) (by unfold BIG; omega) (fun n => ?_) (fun n c hc hp => ?_) (fun n c hc hp => ?_) (fu := fu) (by omega)
  · rw [h1]
    by_cases h : ∃ c, c < s.length ∧ (s.getD c default).once = true ∧ ColTwice rows c
    · rw [if_pos h, B_t fun h2 => NoTwice_iff.1 h2 h]
    · rw [if_neg h, B_f fun h2 => h2 (NoTwice_iff.2 h)]
  · rw [f52_l1, nlt]; rfl
  all_goals
    rw [f52_l1, ltR hc, cond_true]
    have h2 : f52_l2 fu s rows (c : Int) (f52_l1 fu s rows n) fu 0 = @ite _ ((s.getD c default).once = true ∧ ColTwice rows c) (Classical.propDecidable _) (some true) (f52_l1 fu s rows n (IntKind.i64.wrap ((c : Int) + 1))) := by
      cases ho : (s.getD c default).once with
      | false =>
        rw [if_neg fun h => by cases h.1]
        obtain ⟨m, rfl⟩ : ∃ m, fu = m + 1 := ⟨fu - 1, by omega⟩
        rw [f52_l2]
        cases hN : decide ((0 : Int) < (rows.length : Int)) with
        | true => rw [cond_true, inR hc, cond_true, Int.toNat_natCast, ho]; rfl
        | false => rfl
      | true =>
        rw [loopE (L := f52_l2 fu s rows (c : Int) (f52_l1 fu s rows n)) (N := rows.length) (fun i => ∃ k, k < i ∧ ((rows.getD i default).getD c default).kind ≠ 0 ∧ (rows.getD i default).getD c default = (rows.getD k default).getD c default) (some true) (f52_l1 fu s rows n (IntKind.i64.wrap ((c : Int) + 1))) (by unfold BIG; omega) (fun m => ?_) (fun m i hi hp => ?_) (fun m i hi hp => ?_) (fu := fu) (by omega)]
        · by_cases h : ColTwice rows c
          · rw [if_pos (show ∃ k, _ from h), if_pos ⟨rfl, h⟩]
          · rw [if_neg (show ¬ ∃ k, _ from h), if_neg fun h' => h h'.2]
        · rw [f52_l2, nlt]; rfl
        all_goals
          rw [f52_l2, ltR hi, cond_true, inR hc, cond_true, Int.toNat_natCast, ho]
          simp only [f52_j10, cond_true]
          have hci : c < (rows.getD i default).length := by rw [hlen i hi]; exact hc
          rw [loopE (L := f52_l3 rows (c : Int) (i : Int) (f52_l1 fu s rows n) (f52_l2 fu s rows (c : Int) (f52_l1 fu s rows n) m)) (N := i) (fun k => ((rows.getD i default).getD c default).kind ≠ 0 ∧ (rows.getD i default).getD c default = (rows.getD k default).getD c default) (some true) (f52_l2 fu s rows (c : Int) (f52_l1 fu s rows n) m (IntKind.i64.wrap ((i : Int) + 1))) (by unfold BIG; omega) (fun q => ?_) (fun q k hk hq => ?_) (fun q k hk hq => ?_) (fu := fu) (by omega)]
          · first
              | rw [if_pos hp]
              | rw [if_neg hp]
          · rw [f52_l3, nlt]; rfl
          all_goals
            have hck : c < (rows.getD k default).length := by rw [hlen k (by omega)]; exact hc
            rw [f52_l3, ltR hk, cond_true, inR hi, cond_true, Int.toNat_natCast, Int.toNat_natCast, inR hci, cond_true]
            simp only [cond_true, Int.toNat_natCast, inR (show k < rows.length by omega), inR hck, f52_j12]
            by_cases hk0 : ((rows.getD i default).getD c default).kind = 0
            · rw [decide_eq_true hk0]
              first
                | exact absurd hk0 hq.1
                | rfl
            · rw [decide_eq_false hk0]
              by_cases hk1 : (rows.getD i default).getD c default = (rows.getD k default).getD c default
              · rw [decide_eq_true hk1]
                first
                  | exact absurd ⟨hk0, hk1⟩ hq
                  | rfl
              · rw [decide_eq_false hk1]
                first
                  | exact absurd hq.2 hk1
                  | rfl
    rw [h2]
    first
      | rw [if_pos hp]
      | rw [if_neg hp]
end Go.Proofs.YtejobmamkeoheaaGreatDoor
