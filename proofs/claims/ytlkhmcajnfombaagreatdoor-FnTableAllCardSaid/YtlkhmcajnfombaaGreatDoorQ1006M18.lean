/- Tables written anew; a change of columns and of a row by itself; what a column finds; a row told as it is. -/
import Derived.Test.YtlkhmcajnfombaaGreatDoorQ1006M17
set_option linter.unusedVariables false
set_option linter.unusedSimpArgs false
set_option linter.deprecated false
set_option linter.unusedSectionVars false
set_option linter.all false
namespace Go.Proofs.YtlkhmcajnfombaaGreatDoor
open Go Go.HL
variable {fu : Nat}
noncomputable def anew (t : Table) (r : Row) : Row := ⟨r.id, 0, nowR t r⟩
noncomputable def nowT (t : Table) : Table := ⟨lastS t, [], t.rows.map (anew t), t.next⟩
theorem nowR_nowT (t : Table) (r : Row) : nowR (nowT t) r = r.vals := by
  unfold nowR
  show runRow _ (([] : List Change).drop r.ver.toNat) r.vals = _
  rw [List.drop_nil]; rfl
theorem lastS_nowT (t : Table) : lastS (nowT t) = lastS t := rfl
theorem shapeAt_nowT (t : Table) (v : Nat) : shapeAt (nowT t) v = lastS t := by
  unfold shapeAt
  show (run (lastS t) (([] : List Change).take v)).getD [] = _
  rw [List.take_nil]; rfl
theorem nows_nowT (t : Table) : nows (nowT t) = nows t := by
  unfold nows
  show (t.rows.map (anew t)).map (nowR (nowT t)) = _
  rw [List.map_map]
  exact List.map_congr_left fun r _ => nowR_nowT t _
theorem nowT_get {t : Table} {k : Nat} (hk : k < t.rows.length) : (nowT t).rows.getD k default = anew t (t.rows.getD k default) := by
  show (t.rows.map (anew t)).getD k default = _
  rw [getD_lt (by simpa using hk), getD_lt hk, List.getElem_map]
theorem nowT_ok {t : Table} (h : Good t) : Good (nowT t) := by
  have hrt := h.ok.rt h.sm
  have hok : ShapeOK (lastS t) := hrt.okLast
  have hhi := hok.hi
  refine ⟨tabOK_of hok ⟨lastS t, rfl⟩ (by show ([] : List Change).length ≤ 8; simp) (by show (t.rows.map (anew t)).length ≤ 8; rw [List.length_map]; exact h.ok.nrow) h.ok.lo h.ok.hi (fun r hr => ?_) ?_ ?_, ⟨hok.sm, ⟨by show ([] : List Change).length ≤ 1000; simp, fun _ h => by cases h⟩, by show (t.rows.map (anew t)).length ≤ 1000; rw [List.length_map]; exact h.sm.nrow, fun k hk => ?_⟩⟩
  · obtain ⟨q, hq, rfl⟩ := List.mem_map.1 hr
    have g := h.ok.rg q hq
    refine ⟨⟨Int.le_refl _, Int.le_refl _⟩, g.lo, g.hi, ?_, ?_⟩
    · rw [shapeAt_nowT]; exact g.now
    · rw [lastS_nowT, nowR_nowT]; exact g.now
  · show (t.rows.map (anew t)).Pairwise _
    rw [List.pairwise_map]
    exact h.ok.asc
  · rw [lastS_nowT, nows_nowT]; exact h.ok.once
  · have hk' : k < t.rows.length := by have : k < (t.rows.map (anew t)).length := hk; simpa using this
    rw [nowT_get hk']
    exact nowR_sm hrt ((h.ok.rws h.sm).all k hk')
open Classical in
noncomputable def nowB (t : Table) : Table := if TabOK t then nowT t else nilT
theorem nowB_sm {t : Table} (hs : SmT t) : SmT (nowB t) := by
  unfold nowB
  split
  · rename_i h; exact (nowT_ok ⟨h, hs⟩).sm
  · exact nilT_sm
theorem f34_is {t : Table} (hf : BIG ≤ fu) (hs : SmT t) : f34 fu t = some (nowB t) := by
  unfold f34 nowB
  rw [f19_is hf hs, Option.bind_some]
  by_cases h : TabOK t
  case neg => rw [B_f h, if_neg h]; rfl
  rw [B_t h, if_pos h]
  simp only [Bool.not_true, cond_false]
  rw [f66_is hf (h.rt hs), Option.bind_some, f77_is hs.nrow, Option.bind_some]
  unfold f34_j1
  have hN := hs.nrow
  have key : ∀ (m n k : Nat) (rs : List Row), k + m = t.rows.length → m < n → rs.length = t.rows.length → (∀ j, j < k → rs.getD j default = (nowT t).rows.getD j default) →
      f34_l1 fu t (⟨lastS t, ([] : List Change), t.rows, t.next⟩ : Table) n (k : Int) rs = some (nowT t) := by
    intro m
    induction m with
    | zero =>
      intro n k rs hk hn hl hrs
      obtain ⟨n, rfl⟩ : ∃ i, n = i + 1 := ⟨n - 1, by omega⟩
      have : k = t.rows.length := by omega
      subst this
      have hl2 : (nowT t).rows.length = t.rows.length := by show (t.rows.map (anew t)).length = _; rw [List.length_map]
      have e : rs = (nowT t).rows := List.ext_getElem (by rw [hl, hl2]) fun j h1 h2 => by
        have h3 := hrs j (by omega)
        rwa [getD_lt h1, getD_lt h2] at h3
      rw [f34_l1, nlt, cond_false, e]; rfl
    | succ m ih =>
      intro n k rs hk hn hl hrs
      obtain ⟨n, rfl⟩ : ∃ i, n = i + 1 := ⟨n - 1, by omega⟩
      have hkl : k < t.rows.length := by omega
      rw [f34_l1, ltR hkl, cond_true, ge0, Bool.and_self, cond_true, Int.toNat_natCast, f49_is hf (h.rt hs) ((h.rws hs).all k hkl), Option.bind_some, ltR (show k < rs.length by omega), Bool.and_self, cond_true, succI hkl (by unfold BIG; omega)]
      refine ih n (k + 1) _ (by omega) (by omega) (by simpa using hl) fun j hj => ?_
      rw [getD_set (by omega)]
      by_cases hjk : j = k
      · rw [if_pos hjk, hjk, nowT_get hkl]; rfl
      · rw [if_neg hjk]; exact hrs j (by omega)
  exact key t.rows.length fu 0 t.rows (by omega) (by unfold BIG at hf; omega) rfl (fun j hj => by omega)
def selfX (s : List Col) (row : List Val) : List Set := (s.zip row).map fun p => ⟨p.1.name, p.2⟩
theorem selfX_len {s : List Col} {row : List Val} (hl : row.length = s.length) : (selfX s row).length = s.length := by unfold selfX; simp; omega
theorem selfX_get {s : List Col} {row : List Val} (hl : row.length = s.length) {k : Nat} (hk : k < s.length) : (selfX s row).getD k default = ⟨(s.getD k default).name, row.getD k default⟩ := by
  rw [getD_lt (by rw [selfX_len hl]; exact hk), getD_lt hk, getD_lt (show k < row.length by omega)]
  simp [selfX]
theorem f38_is {s : List Col} {row : List Val} (hf : BIG ≤ fu) (hs : s.length ≤ 1000) (hl : row.length = s.length) : f38 fu s row = some (selfX s row) := by
  have key : ∀ (m n k : Nat), k + m = s.length → m < n → f38_l1 s row n (k : Int) ((selfX s row).take k) = some (selfX s row) := by
    intro m
    induction m with
    | zero =>
      intro n k hk hn
      obtain ⟨n, rfl⟩ : ∃ i, n = i + 1 := ⟨n - 1, by omega⟩
      have : k = s.length := by omega
      subst this
      rw [f38_l1, nlt, cond_false]
      unfold f38_j2
      rw [cond_false]
      congr 1
      have := List.take_length (l := selfX s row)
      rwa [selfX_len hl] at this
    | succ m ih =>
      intro n k hk hn
      obtain ⟨n, rfl⟩ : ∃ i, n = i + 1 := ⟨n - 1, by omega⟩
      have hkl : k < s.length := by omega
      have e : (selfX s row).take k ++ [(⟨(s.getD k default).name, row.getD k default⟩ : Set)] = (selfX s row).take (k + 1) := by
        rw [takeN (d := default) (by rw [selfX_len hl]; exact hkl), selfX_get hl hkl]
      rw [f38_l1, ltR hkl, cond_true, ltR (show k < row.length by omega)]
      unfold f38_j2
      rw [cond_true, inR hkl, cond_true, inR (show k < row.length by omega), cond_true, cap (by rw [List.length_take, List.length_singleton, selfX_len hl]; omega), cond_true, Int.toNat_natCast, e, succI hkl (by unfold BIG; omega)]
      exact ih n (k + 1) (by omega) (by omega)
  unfold f38
  exact key s.length fu 0 (by omega) (by unfold BIG at hf; omega)
theorem selfX_sm {s : List Col} {row : List Val} (hl : row.length = s.length) (hs : s.length ≤ 1000) (hr : SmR row) : SmX (selfX s row) := ⟨by rw [selfX_len hl]; exact hs, fun x hx => by
  obtain ⟨k, hk, rfl⟩ := List.getElem_of_mem hx
  rw [selfX_len hl] at hk
  have := selfX_get hl hk
  rw [getD_lt (by rw [selfX_len hl]; exact hk)] at this
  rw [this]
  exact hr.get (by omega)⟩
end Go.Proofs.YtlkhmcajnfombaaGreatDoor
