/- Tables that tell the same; a row told whole. -/
import Derived.Test.YtlkhmcajnfombaaGreatDoorQ1006M18
set_option linter.unusedVariables false
set_option linter.unusedSimpArgs false
set_option linter.deprecated false
set_option linter.unusedSectionVars false
set_option linter.all false
namespace Go.Proofs.YtlkhmcajnfombaaGreatDoor
open Go Go.HL
variable {fu : Nat}
theorem tell_all {s : List Col} {was : List Val} (hs : ShapeOK s) (hr : RowOK s was) : ∀ {row : List Val}, row.length = s.length → tell s [] row (selfX s was) = some was := by
  have hl := hr.len
  have key : ∀ (m k : Nat) (row : List Val), k + m = s.length → row.length = s.length → (∀ j, j < k → row.getD j default = was.getD j default) → tell s ((s.take k).map (·.name)) row ((selfX s was).drop k) = some was := by
    intro m
    induction m with
    | zero =>
      intro k row hk hrl hj
      have : k = s.length := by omega
      subst this
      rw [List.drop_eq_nil_of_le (by rw [selfX_len hl]; exact Nat.le_refl _), tell]
      congr 1
      refine List.ext_getElem (by omega) fun j h1 h2 => ?_
      have := hj j (by omega)
      rwa [getD_lt h1, getD_lt h2] at this
    | succ m ih =>
      intro k row hk hrl hj
      have hkl : k < s.length := by omega
      have hat := atN_at hs hkl
      rw [dropN (d := default) (by rw [selfX_len hl]; exact hkl), selfX_get hl hkl, tell_cons]
      have hv := hr.all k (by omega)
      have ht : Told s ((s.take k).map (·.name)) (⟨(s.getD k default).name, was.getD k default⟩ : Set) := by
        refine ⟨by show atN s (s.getD k default).name < s.length; omega, ?_, hv.ok, ?_⟩
        · intro hm
          obtain ⟨c, hc, e⟩ := List.mem_map.1 hm
          obtain ⟨j, hj2, rfl⟩ := List.getElem_of_mem hc
          have hj' : j < k := by simp at hj2; omega
          rw [List.getElem_take] at e
          have h1 := atN_at hs (show j < s.length by omega)
          rw [getD_lt (show j < s.length by omega)] at h1
          have e' : (s[j]'(by omega)).name = (s.getD k default).name := e
          rw [e'] at h1
          omega
        · show Fits _ (s.getD (atN s (s.getD k default).name) default).kind
          rw [hat]; exact hv.fits
      rw [if_pos ht]
      have e1 : (s.take k).map (·.name) ++ [(s.getD k default).name] = (s.take (k + 1)).map (·.name) := by rw [takeN (d := default) hkl, List.map_append]; rfl
      show tell s ((s.take k).map (·.name) ++ [(s.getD k default).name]) (row.set (atN s (s.getD k default).name) (was.getD k default)) ((selfX s was).drop (k + 1)) = some was
      rw [e1, hat]
      refine ih (k + 1) _ (by omega) (by simpa using hrl) fun j hj2 => ?_
      rw [getD_set (by omega)]
      by_cases hjk : j = k
      · rw [if_pos hjk, hjk]
      · rw [if_neg hjk]; exact hj j (by omega)
  intro row hrl
  exact key s.length 0 row (by omega) hrl fun j hj => by omega
end Go.Proofs.YtlkhmcajnfombaaGreatDoor
