/- Tables written anew; a change of columns and of a row by itself; what a column finds; a row told as it is. -/
import Derived.Test.YtbnklinfjmmlfaaGreatDoorQ4M17
set_option linter.unusedVariables false
set_option linter.unusedSimpArgs false
set_option linter.deprecated false
set_option linter.unusedSectionVars false
set_option linter.all false
namespace Go.Proofs.YtbnklinfjmmlfaaGreatDoor
open Go Go.HL
variable {fu : Nat}
theorem f24_is {s : List Col} {nm : List UInt8} (hf : BIG ≤ fu) (hs : ShapeOK s) : f24 fu s nm = some (atI s nm) := by
  have := hs.hi
  unfold f24
  rw [f67_is hf hs.sm, B_t hs, Option.bind_some]
  simp only [Bool.not_true, cond_false]
  rw [f68_is hf (by omega)]; rfl
theorem f69_is {l : List Int} : f69 l = some l := by
  unfold f69
  rw [show (decide ((0 : Int) ≤ 0) && decide ((0 : Int) ≤ (l.length : Int)) && decide ((l.length : Int) ≤ (l.length : Int)) && decide ((l.length : Int) ≤ (l.length : Int))) = true by simp]
  simp
open Classical in
noncomputable def findT (t : Table) (nm : List UInt8) (v : Val) : List Int :=
  (t.rows.filter fun r => atN (lastS t) nm < (lastS t).length ∧ (nowR t r).getD (atN (lastS t) nm) default = v).map (·.id)
theorem f26_is {t : Table} {nm : List UInt8} {v : Val} (hf : BIG ≤ fu) (h : Good t) : f26 fu t nm v = some (findT t nm v) := by
  have hrt := h.ok.rt h.sm
  have hok := hrt.okLast
  have hhi := hok.hi
  have hN := h.sm.nrow
  unfold f26
  rw [f19_is hf h.sm, B_t h.ok, Option.bind_some]
  simp only [Bool.not_true, cond_false]
  rw [f66_is hf hrt, Option.bind_some, f68_is hf (by omega), Option.bind_some]
  have key : ∀ (m n k : Nat) (ids : List Int), k + m = t.rows.length → m < n → ids.length ≤ k → f26_l1 fu t v (atI (lastS t) nm) n (k : Int) ids = some (ids ++ (@List.filter Row (fun r => @decide (atN (lastS t) nm < (lastS t).length ∧ (nowR t r).getD (atN (lastS t) nm) default = v) (Classical.propDecidable _)) (t.rows.drop k)).map (·.id)) := by
    intro m
    induction m with
    | zero =>
      intro n k ids hk hn hl
      obtain ⟨n, rfl⟩ : ∃ i, n = i + 1 := ⟨n - 1, by omega⟩
      have : k = t.rows.length := by omega
      subst this
      rw [f26_l1, nlt, cond_false, f69_is, List.drop_length]
      simp
    | succ m ih =>
      intro n k ids hk hn hl
      obtain ⟨n, rfl⟩ : ∃ i, n = i + 1 := ⟨n - 1, by omega⟩
      have hkl : k < t.rows.length := by omega
      have hin := (h.ok.rws h.sm).all k hkl
      have hnl := nowR_len hrt hin
      rw [f26_l1, ltR hkl, cond_true, ge0, Bool.and_self, cond_true, Int.toNat_natCast, dropN (d := default) hkl, List.filter_cons]
      have hyes : f26_j3 t (k : Int) ids (f26_l1 fu t v (atI (lastS t) nm) n) true = some (ids ++ ((t.rows.getD k default).id :: (@List.filter Row (fun r => @decide (atN (lastS t) nm < (lastS t).length ∧ (nowR t r).getD (atN (lastS t) nm) default = v) (Classical.propDecidable _)) (t.rows.drop (k + 1))).map (·.id))) := by
        unfold f26_j3 f26_j4
        rw [cond_true, cap (by rw [List.length_singleton]; omega), cond_true, Int.toNat_natCast, succI hkl (by unfold BIG; omega), ih n (k + 1) _ (by omega) (by omega) (by simp; omega)]
        simp
      have hno : f26_j3 t (k : Int) ids (f26_l1 fu t v (atI (lastS t) nm) n) false = some (ids ++ (@List.filter Row (fun r => @decide (atN (lastS t) nm < (lastS t).length ∧ (nowR t r).getD (atN (lastS t) nm) default = v) (Classical.propDecidable _)) (t.rows.drop (k + 1))).map (·.id)) := by
        unfold f26_j3 f26_j4
        rw [cond_false, succI hkl (by unfold BIG; omega), ih n (k + 1) _ (by omega) (by omega) (by omega)]
      by_cases ha : atN (lastS t) nm < (lastS t).length
      · rw [atI_lt ha, decide_eq_true (show (0 : Int) ≤ (atN (lastS t) nm : Int) by omega), cond_true, f49_is hf hrt hin, Option.bind_some, ltR (show atN (lastS t) nm < (nowR t (t.rows.getD k default)).length by omega), Bool.and_self, cond_true, Int.toNat_natCast]
        rw [atI_lt ha] at hyes hno
        by_cases hv : (nowR t (t.rows.getD k default)).getD (atN (lastS t) nm) default = v
        · rw [decide_eq_true hv, hyes, if_pos (@decide_eq_true _ (Classical.propDecidable _) ⟨ha, hv⟩)]; rfl
        · rw [decide_eq_false hv, hno, if_neg (by rw [@decide_eq_false _ (Classical.propDecidable _) (fun h => hv h.2)]; exact Bool.false_ne_true)]
      · rw [atI_no ha, show decide ((0 : Int) ≤ -1) = false from rfl, cond_false]
        rw [atI_no ha] at hno
        rw [hno, if_neg (by rw [@decide_eq_false _ (Classical.propDecidable _) (fun h => ha h.1)]; exact Bool.false_ne_true)]
  have := key t.rows.length fu 0 [] (by omega) (by unfold BIG at hf; omega) (by simp)
  rw [show ((0 : Nat) : Int) = 0 from rfl] at this
  rw [this]
  unfold findT
  simp
theorem findT_some {t : Table} {nm : List UInt8} {v : Val} : 0 < (findT t nm v).length ↔ ∃ k, k < t.rows.length ∧ atN (lastS t) nm < (lastS t).length ∧ (nowR t (t.rows.getD k default)).getD (atN (lastS t) nm) default = v := by
  unfold findT
  rw [List.length_map, List.length_pos_iff_exists_mem]
  constructor
  · rintro ⟨r, hr⟩
    have h := List.mem_filter.1 hr
    obtain ⟨k, hk, rfl⟩ := List.getElem_of_mem h.1
    have h2 := of_decide_eq_true h.2
    exact ⟨k, hk, h2.1, by rw [getD_lt hk]; exact h2.2⟩
  · rintro ⟨k, hk, h1, h2⟩
    refine ⟨_, List.mem_filter.2 ⟨getD_mem (d := default) hk, ?_⟩⟩
    exact decide_eq_true_iff.2 (And.intro h1 h2)
end Go.Proofs.YtbnklinfjmmlfaaGreatDoor
