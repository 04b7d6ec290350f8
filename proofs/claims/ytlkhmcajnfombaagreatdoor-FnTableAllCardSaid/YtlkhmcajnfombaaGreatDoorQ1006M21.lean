/- A table drawn alone; a table written anew; a new table. -/
import Derived.Test.YtlkhmcajnfombaaGreatDoorQ1006M20
import Derived.Test.YtlkhmcajnfombaaGreatDoorQ1006B0
import Derived.KernelRfl
set_option linter.unusedVariables false
set_option linter.unusedSimpArgs false
set_option linter.deprecated false
set_option linter.unusedSectionVars false
set_option linter.all false
namespace Go.Proofs.YtlkhmcajnfombaaGreatDoor
open Go Go.HL
variable {fu : Nat}
theorem d1024 {a : List Int} (hf : BIG ≤ fu) (ha : ∀ b, b ∈ a → 0 ≤ b ∧ b ≤ 255) : ∃ t, f1024 fu a = some t ∧ SmT t := by
  obtain ⟨r, e, hr⟩ := d60 (fu := fu) ha
  obtain ⟨t, r1, e1, ht, -⟩ := d61 (fu := fu) hf hr (by omega)
  unfold f1024
  rw [e, Option.bind_some, e1]
  exact ⟨t, rfl, ht⟩
theorem f1026_is {t : Table} (hf : BIG ≤ fu) (hs : SmT t) : f1026 fu t = some (nowB t) := by
  unfold f1026 nowB
  rw [f17_is hf hs, Option.bind_some]
  by_cases h : TabOK t
  case neg => rw [B_f h, if_neg h]; rfl
  rw [B_t h, if_pos h]
  simp only [Bool.not_true, cond_false]
  rw [f53_is hf (h.rt hs), Option.bind_some]
  have hN := hs.nrow
  have key : ∀ (m n k : Nat), k + m = t.rows.length → m < n →
      f1026_l1 fu t n (k : Int) (⟨lastS t, ([] : List Change), (nowT t).rows.take k, t.next⟩ : Table) = some (nowT t) := by
    have hl2 : (nowT t).rows.length = t.rows.length := by show (t.rows.map (anew t)).length = _; rw [List.length_map]
    intro m
    induction m with
    | zero =>
      intro n k hk hn
      obtain ⟨n, rfl⟩ : ∃ i, n = i + 1 := ⟨n - 1, by omega⟩
      have : k = t.rows.length := by omega
      subst this
      rw [f1026_l1, nlt, cond_false, ← hl2, List.take_length]; rfl
    | succ m ih =>
      intro n k hk hn
      obtain ⟨n, rfl⟩ : ∃ i, n = i + 1 := ⟨n - 1, by omega⟩
      have hkl : k < t.rows.length := by omega
      have e : (nowT t).rows.take k ++ ([(⟨(t.rows.getD k default).id, d0_37.ver, nowR t (t.rows.getD k default)⟩ : Row)] : List Row) = (nowT t).rows.take (k + 1) := by
        rw [takeN (d := default) (by rw [hl2]; exact hkl), nowT_get hkl]; rfl
      have hcap : List.length ((nowT t).rows.take k) + List.length ([(⟨(t.rows.getD k default).id, d0_37.ver, nowR t (t.rows.getD k default)⟩ : Row)] : List Row) ≤ 100000 := by
        rw [List.length_take, List.length_singleton, hl2]; omega
      rw [f1026_l1, ltR hkl, cond_true, ge0, Bool.and_self, cond_true, cond_true, Int.toNat_natCast, f90_is hf (h.rt hs) ((h.rws hs).all k hkl), Option.bind_some, cap hcap, cond_true, e, succI hkl (by unfold BIG; omega)]
      exact ih n (k + 1) (by omega) (by omega)
  exact key t.rows.length fu 0 (by omega) (by unfold BIG at hf; omega)
theorem f1027_is {s : List Col} (hf : BIG ≤ fu) (hs : ShapeOK s) : f1027 fu s = some (someR s []) := by
  have := hs.hi
  unfold f1027
  rw [f67_is hf hs.sm, B_t hs, Option.bind_some]
  simp only [Bool.not_true, cond_false]
  rw [f91_is (by omega)]; rfl
end Go.Proofs.YtlkhmcajnfombaaGreatDoor
