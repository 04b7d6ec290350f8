/- Tables written anew; a change of columns and of a row by itself; what a column finds; a row told as it is. -/
import Derived.Test.YtlkhmcajnfombaaGreatDoorQ1005M17
set_option linter.unusedVariables false
set_option linter.unusedSimpArgs false
set_option linter.deprecated false
set_option linter.unusedSectionVars false
set_option linter.all false
namespace Go.Proofs.YtlkhmcajnfombaaGreatDoor
open Go Go.HL
variable {fu : Nat}
def selfX (s : List Col) (row : List Val) : List Set := (s.zip row).map fun p => ⟨p.1.name, p.2⟩
theorem selfX_len {s : List Col} {row : List Val} (hl : row.length = s.length) : (selfX s row).length = s.length := by unfold selfX; simp; omega
theorem selfX_get {s : List Col} {row : List Val} (hl : row.length = s.length) {k : Nat} (hk : k < s.length) : (selfX s row).getD k default = ⟨(s.getD k default).name, row.getD k default⟩ := by
  rw [getD_lt (by rw [selfX_len hl]; exact hk), getD_lt hk, getD_lt (show k < row.length by omega)]
  simp [selfX]
theorem f38_is {s : List Col} {row : List Val} (hf : BIG ≤ fu) (hs : s.length ≤ 1000) (hl : row.length = s.length) : f38 fu s row = some (selfX s row) := by
  have key : ∀ (m n k : Nat), k + m = s.length → m < n → f38_l1 s row n (k : Int) ((selfX s row).take k) = some (selfX s row) := by
    intro m
    induction m with
    | zero =>
      intro n k hk hn
      obtain ⟨n, rfl⟩ : ∃ i, n = i + 1 := ⟨n - 1, by omega⟩
      have : k = s.length := by omega
      subst this
      rw [f38_l1, nlt, cond_false]
      unfold f38_j2
      rw [cond_false]
      congr 1
      have := List.take_length (l := selfX s row)
      rwa [selfX_len hl] at this
    | succ m ih =>
      intro n k hk hn
      obtain ⟨n, rfl⟩ : ∃ i, n = i + 1 := ⟨n - 1, by omega⟩
      have hkl : k < s.length := by omega
      have e : (selfX s row).take k ++ [(⟨(s.getD k default).name, row.getD k default⟩ : Set)] = (selfX s row).take (k + 1) := by
        rw [takeN (d := default) (by rw [selfX_len hl]; exact hkl), selfX_get hl hkl]
      rw [f38_l1, ltR hkl, cond_true, ltR (show k < row.length by omega)]
      unfold f38_j2
      rw [cond_true, inR hkl, cond_true, inR (show k < row.length by omega), cond_true, cap (by rw [List.length_take, List.length_singleton, selfX_len hl]; omega), cond_true, Int.toNat_natCast, e, succI hkl (by unfold BIG; omega)]
      exact ih n (k + 1) (by omega) (by omega)
  unfold f38
  exact key s.length fu 0 (by omega) (by unfold BIG at hf; omega)
theorem selfX_sm {s : List Col} {row : List Val} (hl : row.length = s.length) (hs : s.length ≤ 1000) (hr : SmR row) : SmX (selfX s row) := ⟨by rw [selfX_len hl]; exact hs, fun x hx => by
  obtain ⟨k, hk, rfl⟩ := List.getElem_of_mem hx
  rw [selfX_len hl] at hk
  have := selfX_get hl hk
  rw [getD_lt (by rw [selfX_len hl]; exact hk)] at this
  rw [this]
  exact hr.get (by omega)⟩
end Go.Proofs.YtlkhmcajnfombaaGreatDoor
