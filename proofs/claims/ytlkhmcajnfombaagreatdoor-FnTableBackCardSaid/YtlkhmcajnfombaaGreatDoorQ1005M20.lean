/- Put and taken away again; set and set back; set and another row away; all rows put anew. -/
import Derived.Test.YtlkhmcajnfombaaGreatDoorQ1005M19
set_option linter.unusedVariables false
set_option linter.unusedSimpArgs false
set_option linter.deprecated false
set_option linter.unusedSectionVars false
set_option linter.all false
namespace Go.Proofs.YtlkhmcajnfombaaGreatDoor
open Go Go.HL
variable {fu : Nat}
theorem setB_cases {t : Table} (h : TabOK t) (id : Int) (xs : List Set) : (∃ row, SetFine t id xs row ∧ setB t id xs = (setR t id row, 0)) ∨ ((setB t id xs).1 = t ∧ (setB t id xs).2 ≠ 0) := by
  have : setB t id xs = setT t id xs := if_pos h
  rw [this]; exact setT_cases t id xs
theorem setR_get {t : Table} {id : Int} {row : List Val} (h : rowN t id < t.rows.length) : (setR t id row).rows.getD (rowN t id) default = ⟨id, (t.changes.length : Int), row⟩ := by
  show (t.rows.set (rowN t id) _).getD (rowN t id) default = _
  rw [getD_set h, if_pos rfl]
theorem setR_length (t : Table) (id : Int) (row : List Val) : (setR t id row).rows.length = t.rows.length := by
  show (t.rows.set (rowN t id) _).length = _
  rw [List.length_set]
theorem setR_ids {t : Table} {id : Int} {row : List Val} (h : rowN t id < t.rows.length) : (setR t id row).rows.map (·.id) = t.rows.map (·.id) := by
  show (t.rows.set (rowN t id) _).map _ = _
  rw [List.map_set]
  have := rowN_id h
  rw [getD_lt h] at this
  refine List.ext_getElem (by simp) fun i h1 h2 => ?_
  rw [List.getElem_set]
  by_cases hi : rowN t id = i
  · rw [if_pos hi]
    subst hi
    rw [List.getElem_map]; exact this.symm
  · rw [if_neg hi]
theorem rowN_ids {a b : Table} (h : a.rows.map (·.id) = b.rows.map (·.id)) (id : Int) : rowN a id = rowN b id := by
  have f : ∀ l : List Row, l.findIdx (fun r => decide (r.id = id)) = (l.map (·.id)).findIdx fun i => decide (i = id) := fun l => by rw [List.findIdx_map]; rfl
  unfold rowN
  rw [f, f, h]
theorem setR_place {t : Table} {id : Int} {row : List Val} (h : rowN t id < t.rows.length) (other : Int) : rowN (setR t id row) other = rowN t other := rowN_ids (setR_ids h) other
theorem setR_now {t : Table} {id : Int} {row : List Val} (h : rowN t id < t.rows.length) : nowR (setR t id row) ((setR t id row).rows.getD (rowN t id) default) = row := by
  rw [setR_get h]; exact nowR_new t id row
theorem setR_nows (t : Table) (id : Int) (row : List Val) : nows (setR t id row) = (nows t).set (rowN t id) row := nows_set t
theorem set_back {t : Table} {id : Int} {xs : List Set} {row was : List Val} (h : Good t) (hf : SetFine t id xs row) (hok : TabOK (setR t id row)) (hw : was = nowR t (t.rows.getD (rowN t id) default)) :
    SetFine (setR t id row) id (selfX (lastS t) was) was ∧ Like (setR (setR t id row) id was) t := by
  have hthere : rowN (setR t id row) id < (setR t id row).rows.length := by rw [setR_place hf.there, setR_length]; exact hf.there
  have hrw : RowOK (lastS t) was := by rw [hw]; exact h.now hf.there
  have hnows : (nows (setR t id row)).set (rowN (setR t id row) id) was = nows t := by
    rw [setR_nows, setR_place hf.there, List.set_set, hw, ← nows_get hf.there]
    exact set_self (by rw [nows_len]; exact hf.there)
  have hokS := (h.ok.rt h.sm).okLast
  refine ⟨⟨hthere, ?_, hrw, ?_⟩, ?_⟩
  · have hl : (nowR (setR t id row) ((setR t id row).rows.getD (rowN (setR t id row) id) default)).length = (lastS t).length := by
      rw [setR_place hf.there, setR_now hf.there]; exact hf.ok.len
    exact tell_all (s := lastS t) hokS hrw hl
  · have h2 : NoTwice (lastS t) ((nows (setR t id row)).set (rowN (setR t id row) id) was) := by rw [hnows]; exact h.ok.once
    exact h2
  · refine ⟨rfl, ?_, ?_, rfl⟩
    · rw [setR_ids hthere, setR_ids hf.there]
    · rw [setR_nows, hnows]
end Go.Proofs.YtlkhmcajnfombaaGreatDoor
