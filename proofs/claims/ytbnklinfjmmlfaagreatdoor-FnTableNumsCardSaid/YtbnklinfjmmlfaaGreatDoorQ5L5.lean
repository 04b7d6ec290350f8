/- A column of numbers that is made one of texts, and of numbers again, has what it had. -/
import Derived.Test.YtbnklinfjmmlfaaGreatDoorQ5M17
set_option linter.unusedVariables false
set_option linter.unusedSimpArgs false
set_option linter.deprecated false
set_option linter.unusedSectionVars false
set_option linter.all false
namespace Go.Proofs.YtbnklinfjmmlfaaGreatDoor
open Go Go.HL
variable {fu : Nat}
theorem valAs_num {v : Val} (h : ValOK v) (hk : v.kind = 1) : valAs v 2 = ⟨2, 0, Lib.itoa v.n⟩ := by
  unfold valAs
  rw [if_pos ⟨h, by omega, .inr rfl⟩, if_neg (by omega), if_pos rfl]
theorem valAs_none {v : Val} (hk : v.kind = 0) (k : Int) : valAs v k = nul := by
  unfold valAs
  rw [if_neg (fun h => h.2.1 hk)]
theorem nul_of {v : Val} (h : ValOK v) (hk : v.kind = 0) : v = nul := by
  rcases h with h | h | h
  · exact h.2
  · omega
  · omega
theorem numOf_itoa {n : Int} (h1 : -999 ≤ n) (h2 : n ≤ 999) : numOf (Lib.itoa n) = ⟨1, n, []⟩ := by
  unfold numOf
  rw [num10_itoa h1 h2, if_pos ⟨h1, h2, rfl⟩]
theorem valAs_back {v : Val} (h : ValOK v) (hf : v.kind = 0 ∨ v.kind = 1) : valAs (valAs v 2) 1 = v := by
  rcases hf with hk | hk
  · rw [valAs_none hk, valAs_none (v := nul) rfl, nul_of h hk]
  · have hn := h.num hk
    rw [valAs_num h hk]
    have hok : ValOK (⟨2, 0, Lib.itoa v.n⟩ : Val) := .inr (.inr ⟨rfl, rfl, itoa_text hn.lo hn.hi⟩)
    unfold valAs
    rw [if_pos ⟨hok, by show (2 : Int) ≠ 0; omega, .inl rfl⟩, if_neg (show ¬ ((2 : Int) = 1) by omega), if_neg (show ¬ ((1 : Int) = 2) by omega)]
    show numOf (Lib.itoa v.n) = v
    rw [numOf_itoa hn.lo hn.hi]
    have e := hn.text
    obtain ⟨a, b, c⟩ := v
    simp only at hk e ⊢
    subst hk; subst e; rfl
def kindC (nm : List UInt8) (k : Int) : Change := ⟨4, nm, [], ⟨[], k, false, false, ⟨0, 0, []⟩⟩⟩
theorem kindC_sm (nm : List UInt8) (k : Int) : SmCh (kindC nm k) := ⟨by show ([] : List UInt8).length ≤ 1000; simp, ⟨by show ([] : List UInt8).length ≤ 1000; simp, nul_ok.sm⟩⟩
theorem chg_kind (s : List Col) (nm : List UInt8) (k : Int) : chg s (kindC nm k) = s.set (atN s nm) { s.getD (atN s nm) default with kind := k, def_ := valAs (s.getD (atN s nm) default).def_ k } := rfl
theorem chgRow_kind (s : List Col) (nm : List UInt8) (k : Int) (row : List Val) : chgRow s (kindC nm k) row = row.set (atN s nm) (valAs (row.getD (atN s nm) default) k) := rfl
theorem atN_same {s s' : List Col} (hl : s'.length = s.length) (h : ∀ k, k < s.length → (s'.getD k default).name = (s.getD k default).name) (nm : List UInt8) : atN s' nm = atN s nm := by
  have e : s'.map (fun c => decide (c.name = nm)) = s.map fun c => decide (c.name = nm) := List.ext_getElem (by simp [hl]) fun k h1 h2 => by
    simp only [List.length_map] at h1 h2
    have := h k h2
    rw [getD_lt h1, getD_lt h2] at this
    simp [this]
  unfold atN
  have f : ∀ l : List Col, l.findIdx (fun c => decide (c.name = nm)) = (l.map fun c => decide (c.name = nm)).findIdx id := fun l => by
    rw [List.findIdx_map]; rfl
  rw [f, f, e]
theorem can_kind {s : List Col} (hs : ShapeOK s) {i : Nat} (hi : i < s.length) {k : Int} (hk : k = 1 ∨ k = 2) (hne : k ≠ (s.getD i default).kind) : Can s (kindC (s.getD i default).name k) := by
  have hat := atN_at hs hi
  have hci := (hs.all i hi).1
  refine ⟨⟨.inr (.inr (.inr ⟨rfl, rfl, rfl⟩)), fun _ => by show atN s (s.getD i default).name < _; omega, fun h => (by cases h), fun _ => by show k ≠ (s.getD (atN s (s.getD i default).name) default).kind; rw [hat]; exact hne⟩, ?_⟩
  rw [chg_kind, hat]
  have hnm : ∀ j, j < s.length → ((s.set i { s.getD i default with kind := k, def_ := valAs (s.getD i default).def_ k }).getD j default).name = (s.getD j default).name := fun j _ => by
    rw [getD_set hi]
    by_cases hj : j = i
    · rw [if_pos hj, hj]
    · rw [if_neg hj]
  refine ⟨fun j hj => ?_, by simpa using hs.lo, by simpa using hs.hi⟩
  have hj' : j < s.length := by simpa using hj
  refine ⟨?_, ?_⟩
  · rw [getD_set hi]
    by_cases hji : j = i
    · rw [if_pos hji]
      have hv := valAs_ok (s.getD i default).def_ k
      refine ⟨hci.name, hk, hv.1, hv.2, fun ho => ?_⟩
      have h0 := hci.once ho
      show (valAs (s.getD i default).def_ k).kind = 0
      rw [valAs_none h0]
    · rw [if_neg hji]; exact (hs.all j hj').1
  · have e := (hs.all j hj').2
    rw [hnm j hj']
    unfold atI at e ⊢
    rw [atN_same (by simp) hnm]
    simpa using e
theorem row_kind {s : List Col} {row : List Val} (hs : ShapeOK s) (hr : RowOK s row) {i : Nat} (hi : i < s.length) {k : Int} (hneed : (s.getD i default).need = true → (valAs (row.getD i default) k).kind ≠ 0) : RowOK (chg s (kindC (s.getD i default).name k)) (chgRow s (kindC (s.getD i default).name k) row) := by
  have hat := atN_at hs hi
  have hl := hr.len
  rw [chg_kind, chgRow_kind, hat]
  refine ⟨by simp [hl], fun j hj => ?_⟩
  have hj' : j < row.length := by simpa using hj
  rw [getD_set hi, getD_set (show i < row.length by omega)]
  by_cases hji : j = i
  · rw [if_pos hji, if_pos hji]
    have hv := valAs_ok (row.getD i default) k
    exact ⟨hv.1, hv.2, hneed⟩
  · rw [if_neg hji, if_neg hji]; exact hr.all j hj'
theorem law5 (hf : BIG ≤ fu) (a : List Int) (ha : ∀ b, b ∈ a → 0 ≤ b ∧ b ≤ 255) : f5 fu a = some true := by
  unfold f5
  refine cond_long ?_
  obtain ⟨t, c, e, hs, hc⟩ := d27' (fu := fu) hf ha
  rw [e, Option.bind_some]
  simp only
  rw [f23_is hf hs, Option.bind_some, f28_is hf hs hc, Option.bind_some, f29_is hf hs hc, Option.bind_some]
  simp only [decide_true, Bool.not_true, cond_false]
  rw [f17_is hf hs, Option.bind_some]
  unfold f5_j1
  by_cases h : TabOK t
  case neg => rw [B_f h]; simp
  rw [B_t h]
  simp only [Bool.not_true, cond_false]
  by_cases h6 : 6 < t.changes.length
  · rw [decide_eq_true (show (6 : Int) < (t.changes.length : Int) by omega)]; simp
  rw [decide_eq_false (show ¬ (6 : Int) < (t.changes.length : Int) by omega)]
  simp only [cond_false]
  have hrt := h.rt hs
  have hok := hrt.okLast
  have hhi := hok.hi
  rw [shapeB_ok h]
  have main := loopB (L := f5_l1 fu (t, c) (lastS t)) (N := (lastS t).length) (fun _ => True) True (by unfold BIG; omega) (fun n _ => ?_) (fun n hq => absurd trivial hq) (fun n k hk _ => ?_) (fun n k hk hp => absurd trivial hp) (fu := fu) (by unfold BIG at hf; omega)
  · rw [main, B_t ⟨fun _ _ => trivial, trivial⟩]
  · rw [f5_l1, nlt]; rfl
  · rw [f5_l1, ltR hk, cond_true, ge0, Bool.and_self, cond_true, Int.toNat_natCast]
    by_cases hk1 : ((lastS t).getD k default).kind = 1
    case neg => rw [decide_eq_false hk1]; rfl
    rw [decide_eq_true hk1]
    simp only [Bool.not_true, cond_false, cond_true]
    -- there ..
    have can1 := can_kind hok hk (k := 2) (.inr rfl) (by omega)
    have rowkind : ∀ j, j < t.rows.length → ((nowR t (t.rows.getD j default)).getD k default).kind = 0 ∨ ((nowR t (t.rows.getD j default)).getD k default).kind = 1 := fun j hj => by
      have hr := (h.rg _ (getD_mem (d := default) hj)).now
      have := (hr.all k (by rw [hr.len]; exact hk)).fits
      rcases this with h0 | h0
      · exact .inl h0
      · exact .inr (by rw [h0, hk1])
    have fine1 : ChgFine t (kindC ((lastS t).getD k default).name 2) := ⟨can1, fun j hj => by
      have hr := (h.rg _ (getD_mem (d := default) hj)).now
      refine row_kind hok hr hk fun hn => ?_
      have hv := hr.all k (by rw [hr.len]; exact hk)
      have hne := hv.need hn
      rcases rowkind j hj with h0 | h0
      · exact absurd h0 hne
      · rw [valAs_num hv.ok h0]; show (2 : Int) ≠ 0; omega⟩
    have x1 := chgT_fine fine1 (by omega)
    have o1 := chgT_ok (c := kindC ((lastS t).getD k default).name 2) h hs
    have m1 := chgT_sm h hs (kindC_sm ((lastS t).getD k default).name 2)
    rw [x1] at o1 m1
    have b1 : chgB t (kindC ((lastS t).getD k default).name 2) = (chgR t (kindC ((lastS t).getD k default).name 2), 0) := by
      have : chgB t (kindC ((lastS t).getD k default).name 2) = chgT t (kindC ((lastS t).getD k default).name 2) := if_pos h
      rw [this, x1]
    have r1 := f28_is (c := kindC ((lastS t).getD k default).name 2) hf hs (kindC_sm _ _)
    rw [b1] at r1
    have r1' : f28 fu t (⟨4, ((lastS t).getD k default).name, d0_56.new, (⟨d0_52.name, 2, d0_52.need, d0_52.once, d0_52.def_⟩ : Col)⟩ : Change) = _ := r1
    rw [r1', Option.bind_some]
    -- .. and back
    have hat := atN_at hok hk
    generalize hxd : chgR t (kindC ((lastS t).getD k default).name 2) = x at o1 m1
    have hl1 : lastS x = (lastS t).set k { (lastS t).getD k default with kind := 2, def_ := valAs ((lastS t).getD k default).def_ 2 } := by
      rw [← hxd]
      have : lastS (chgR t (kindC ((lastS t).getD k default).name 2)) = chg (lastS t) (kindC ((lastS t).getD k default).name 2) := lastS_snoc hrt.last can1
      rw [this, chg_kind, hat]
    have hok1 := (o1.rt m1).okLast
    have hk2 : k < (lastS x).length := by rw [hl1]; simpa using hk
    have hcol : (lastS x).getD k default = { (lastS t).getD k default with kind := 2, def_ := valAs ((lastS t).getD k default).def_ 2 } := by
      rw [hl1, getD_set hk, if_pos rfl]
    have hnm : ((lastS x).getD k default).name = ((lastS t).getD k default).name := by rw [hcol]
    have hrows : x.rows = t.rows := by rw [← hxd]; rfl
    have hnow1 : ∀ j, j < t.rows.length → nowR x (x.rows.getD j default) = (nowR t (t.rows.getD j default)).set k (valAs ((nowR t (t.rows.getD j default)).getD k default) 2) := fun j hj => by
      rw [hrows, ← hxd]
      have hv := ((h.rws hs).all j hj).ver
      have : nowR (chgR t (kindC ((lastS t).getD k default).name 2)) (t.rows.getD j default) = chgRow (lastS t) (kindC ((lastS t).getD k default).name 2) (nowR t (t.rows.getD j default)) := nowR_snoc hrt hv
      rw [this, chgRow_kind, hat]
    have can2 := can_kind hok1 hk2 (k := 1) (.inl rfl) (by rw [hcol]; show (1 : Int) ≠ 2; omega)
    have hxlen : x.rows.length = t.rows.length := by rw [hrows]
    have hback : ∀ j, j < t.rows.length → valAs ((nowR x (x.rows.getD j default)).getD k default) 1 = (nowR t (t.rows.getD j default)).getD k default := fun j hj => by
      have hr := (h.rg _ (getD_mem (d := default) hj)).now
      have hrl := hr.len
      rw [hnow1 j hj, getD_set (by omega), if_pos rfl]
      exact valAs_back (hr.all k (by omega)).ok (rowkind j hj)
    have fine2 : ChgFine x (kindC ((lastS x).getD k default).name 1) := ⟨can2, fun j hj => by
      have hj' : j < t.rows.length := by omega
      have hr1 := (o1.rg _ (getD_mem (d := default) hj)).now
      refine row_kind hok1 hr1 hk2 fun hn => ?_
      rw [hback j hj']
      have hr := (h.rg _ (getD_mem (d := default) hj')).now
      refine (hr.all k (by rw [hr.len]; exact hk)).need ?_
      rw [hcol] at hn
      exact hn⟩
    have hch : x.changes.length = t.changes.length + 1 := by rw [← hxd]; show (t.changes ++ [_]).length = _; simp
    have x2 := chgT_fine fine2 (by omega)
    have o2 := chgT_ok (c := kindC ((lastS x).getD k default).name 1) o1 m1
    have m2 := chgT_sm o1 m1 (kindC_sm ((lastS x).getD k default).name 1)
    rw [x2] at o2 m2
    have b2 : chgB x (kindC ((lastS x).getD k default).name 1) = (chgR x (kindC ((lastS x).getD k default).name 1), 0) := by
      have : chgB x (kindC ((lastS x).getD k default).name 1) = chgT x (kindC ((lastS x).getD k default).name 1) := if_pos o1
      rw [this, x2]
    have r2 := f28_is (c := kindC ((lastS x).getD k default).name 1) hf m1 (kindC_sm _ _)
    rw [b2, hnm] at r2
    rw [hnm] at o2 m2 can2
    have r2' : f28 fu x (⟨4, ((lastS t).getD k default).name, d0_56.new, (⟨d0_52.name, 1, d0_52.need, d0_52.once, d0_52.def_⟩ : Col)⟩ : Change) = _ := r2
    simp only
    rw [r2', Option.bind_some]
    have hlen := hok.hi
    have hl2 : lastS (chgR x (kindC ((lastS t).getD k default).name 1)) = lastS t := by
      have e1 : lastS (chgR x (kindC ((lastS t).getD k default).name 1)) = chg (lastS x) (kindC ((lastS t).getD k default).name 1) := lastS_snoc (o1.rt m1).last can2
      have hat2 : atN (lastS x) ((lastS t).getD k default).name = k := by rw [← hnm]; exact atN_at hok1 hk2
      rw [e1, chg_kind, hat2, hcol, hl1]
      have hci := (hok.all k hk).1
      have hd : valAs (valAs ((lastS t).getD k default).def_ 2) 1 = ((lastS t).getD k default).def_ := valAs_back hci.def_ (by
        rcases hci.fits with h0 | h0
        · exact .inl h0
        · exact .inr (by rw [h0, hk1]))
      show ((lastS t).set k _).set k { (lastS t).getD k default with kind := 1, def_ := valAs (valAs ((lastS t).getD k default).def_ 2) 1 } = _
      rw [hd, List.set_set]
      have : ({ (lastS t).getD k default with kind := 1 } : Col) = (lastS t).getD k default := by
        rw [← hk1]
      show (lastS t).set k ({ (lastS t).getD k default with kind := 1 } : Col) = _
      rw [this]
      exact set_self hk
    have hsr : SameRows (chgR x (kindC ((lastS t).getD k default).name 1)) t := sameRows o2 h hl2 hxlen (by rw [← hxd]; rfl) fun j hj => by
      have hj' : j < t.rows.length := by have : j < x.rows.length := hj; omega
      have x3 : (chgR x (kindC ((lastS t).getD k default).name 1)).rows.getD j default = x.rows.getD j default := rfl
      have hv := ((o1.rws m1).all j (show j < x.rows.length from hj)).ver
      have x4 : nowR (chgR x (kindC ((lastS t).getD k default).name 1)) (x.rows.getD j default) = chgRow (lastS x) (kindC ((lastS t).getD k default).name 1) (nowR x (x.rows.getD j default)) := nowR_snoc (o1.rt m1) hv
      have hat2 : atN (lastS x) ((lastS t).getD k default).name = k := by rw [← hnm]; exact atN_at hok1 hk2
      rw [x3, x4, chgRow_kind, hat2, hback j hj', hnow1 j hj', List.set_set]
      have hr := (h.rg _ (getD_mem (d := default) hj')).now
      refine ⟨by rw [hrows], set_self ?_⟩
      rw [hr.len]; exact hk
    simp only [decide_true, Bool.not_true, cond_false]
    rw [f30_is hf m2 hs hsr]; rfl
end Go.Proofs.YtbnklinfjmmlfaaGreatDoor
