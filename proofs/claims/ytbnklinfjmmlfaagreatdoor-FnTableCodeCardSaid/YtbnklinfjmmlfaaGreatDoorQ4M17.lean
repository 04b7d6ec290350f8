/- What the laws ask: how each thing done ends, what is told twice, rows compared. -/
import Derived.Test.YtbnklinfjmmlfaaGreatDoorQ4M16
set_option linter.unusedVariables false
set_option linter.unusedSimpArgs false
set_option linter.deprecated false
set_option linter.unusedSectionVars false
set_option linter.all false
namespace Go.Proofs.YtbnklinfjmmlfaaGreatDoor
open Go Go.HL
variable {fu : Nat}
theorem cond_long {n : Nat} {x : Option Bool} (h : x = some true) : cond (decide (1048576 < (n : Int))) (some true) x = some true := by
  cases decide (1048576 < (n : Int)) with
  | true => rfl
  | false => exact h
theorem shapeB_ok {t : Table} (h : TabOK t) : shapeB t = lastS t := if_pos h
theorem atN_name {s : List Col} {nm : List UInt8} (h : atN s nm < s.length) : (s.getD (atN s nm) default).name = nm := by
  rw [getD_lt h]
  exact of_decide_eq_true (List.findIdx_getElem (w := h))
theorem atN_at {s : List Col} (hs : ShapeOK s) {k : Nat} (hk : k < s.length) : atN s (s.getD k default).name = k := by
  have := (hs.all k hk).2
  have hlt : atN s (s.getD k default).name < s.length := Classical.byContradiction fun hn => by rw [atI_no hn] at this; omega
  rw [atI_lt hlt] at this
  omega
def wantV (nm : List UInt8) (w : Val) (xs : List Set) : Val := xs.foldl (fun w x => if x.name = nm then x.val else w) w
theorem tell_get {s : List Col} (hs : ShapeOK s) : ∀ {xs : List Set} {met : List (List UInt8)} {row r : List Val}, row.length = s.length → tell s met row xs = some r → ∀ k, k < s.length → r.getD k default = wantV (s.getD k default).name (row.getD k default) xs
  | [], _, _, _, _, h, k, hk => by rw [tell] at h; injection h with h; rw [h]; rfl
  | x :: xs, met, row, r, hl, h, k, hk => by
    rw [tell_cons] at h
    split at h
    · rename_i ht
      have h1 := ht.there
      rw [tell_get hs (by simpa using hl) h k hk]
      show wantV _ _ _ = wantV _ (if x.name = _ then x.val else row.getD k default) xs
      congr 1
      rw [getD_set (by omega)]
      by_cases hk2 : k = atN s x.name
      · rw [if_pos hk2, if_pos (by rw [hk2]; exact (atN_name h1).symm)]
      · rw [if_neg hk2, if_neg (fun e => hk2 (by rw [e, atN_at hs hk]))]
    · cases h
structure VF (c : Col) (v : Val) : Prop where
  ok : ValOK v
  fits : Fits v c.kind
theorem tell_vf {s : List Col} : ∀ {xs : List Set} {met : List (List UInt8)} {row r : List Val}, row.length = s.length → (∀ k, k < s.length → VF (s.getD k default) (row.getD k default)) → tell s met row xs = some r → ∀ k, k < s.length → VF (s.getD k default) (r.getD k default)
  | [], _, _, _, _, hv, h => by rw [tell] at h; injection h with h; rw [← h]; exact hv
  | x :: xs, met, row, r, hl, hv, h => by
    rw [tell_cons] at h
    split at h
    · rename_i ht
      have h1 := ht.there
      refine tell_vf (by simpa using hl) (fun k hk => ?_) h
      rw [getD_set (by omega)]
      by_cases hk2 : k = atN s x.name
      · rw [if_pos hk2, hk2]; exact ⟨ht.ok, ht.fits⟩
      · rw [if_neg hk2]; exact hv k hk
    · cases h
theorem defs_vf {s : List Col} (hs : ShapeOK s) : ∀ k, k < s.length → VF (s.getD k default) ((defs s).getD k default) := fun k hk => by
  rw [defs_get hk]
  have := (hs.all k hk).1
  exact ⟨this.def_, this.fits⟩
end Go.Proofs.YtbnklinfjmmlfaaGreatDoor
