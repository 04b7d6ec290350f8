/- Put and taken away again; set and set back; set and another row away; all rows put anew. -/
import Derived.Test.YtlkhmcajnfombaaGreatDoorQ1003M17
set_option linter.unusedVariables false
set_option linter.unusedSimpArgs false
set_option linter.deprecated false
set_option linter.unusedSectionVars false
set_option linter.all false
namespace Go.Proofs.YtlkhmcajnfombaaGreatDoor
open Go Go.HL
variable {fu : Nat}
theorem setB_cases {t : Table} (h : TabOK t) (id : Int) (xs : List Set) : (∃ row, SetFine t id xs row ∧ setB t id xs = (setR t id row, 0)) ∨ ((setB t id xs).1 = t ∧ (setB t id xs).2 ≠ 0) := by
  have : setB t id xs = setT t id xs := if_pos h
  rw [this]; exact setT_cases t id xs
theorem setR_length (t : Table) (id : Int) (row : List Val) : (setR t id row).rows.length = t.rows.length := by
  show (t.rows.set (rowN t id) _).length = _
  rw [List.length_set]
theorem setR_ids {t : Table} {id : Int} {row : List Val} (h : rowN t id < t.rows.length) : (setR t id row).rows.map (·.id) = t.rows.map (·.id) := by
  show (t.rows.set (rowN t id) _).map _ = _
  rw [List.map_set]
  have := rowN_id h
  rw [getD_lt h] at this
  refine List.ext_getElem (by simp) fun i h1 h2 => ?_
  rw [List.getElem_set]
  by_cases hi : rowN t id = i
  · rw [if_pos hi]
    subst hi
    rw [List.getElem_map]; exact this.symm
  · rw [if_neg hi]
theorem rowN_ids {a b : Table} (h : a.rows.map (·.id) = b.rows.map (·.id)) (id : Int) : rowN a id = rowN b id := by
  have f : ∀ l : List Row, l.findIdx (fun r => decide (r.id = id)) = (l.map (·.id)).findIdx fun i => decide (i = id) := fun l => by rw [List.findIdx_map]; rfl
  unfold rowN
  rw [f, f, h]
theorem setR_place {t : Table} {id : Int} {row : List Val} (h : rowN t id < t.rows.length) (other : Int) : rowN (setR t id row) other = rowN t other := rowN_ids (setR_ids h) other
theorem set_apart {t : Table} {id other : Int} {xs : List Set} {row : List Val} (h : Good t) (hf : SetFine t id xs row) (hok : TabOK (setR t id row)) (hne : other ≠ id) :
    ∃ x y d, offB (setR t id row) other = (x, d) ∧ offB t other = (y, d) ∧ setB y id xs = (x, 0) := by
  have o1 : offB (setR t id row) other = offT (setR t id row) other := if_pos hok
  have o2 : offB t other = offT t other := if_pos h.ok
  have hp := setR_place (row := row) hf.there other
  by_cases ho : rowN t other < t.rows.length
  case neg =>
    refine ⟨setR t id row, t, 5, ?_, ?_, ?_⟩
    · rw [o1]; exact if_neg (by rw [hp, setR_length]; exact ho)
    · rw [o2]; exact if_neg ho
    · have : setB t id xs = setT t id xs := if_pos h.ok
      rw [this]; exact setT_fine hf
  have hjk : rowN t other ≠ rowN t id := fun e => by
    have h1 := rowN_id ho
    rw [e, rowN_id hf.there] at h1
    exact hne h1.symm
  generalize hj : rowN t other = j at ho hp hjk
  have e1 : offT (setR t id row) other = ({ setR t id row with rows := (setR t id row).rows.eraseIdx j }, 0) := by
    have : offT (setR t id row) other = ({ setR t id row with rows := (setR t id row).rows.eraseIdx (rowN (setR t id row) other) }, 0) := if_pos (by rw [hp, setR_length]; exact ho)
    rw [this, hp]
  have e2 : offT t other = ({ t with rows := t.rows.eraseIdx j }, 0) := by
    have : offT t other = ({ t with rows := t.rows.eraseIdx (rowN t other) }, 0) := if_pos (by rw [hj]; exact ho)
    rw [this, hj]
  have hyok : TabOK { t with rows := t.rows.eraseIdx j } := off_ok h.ok j
  generalize hk : rowN t id = k at hjk
  have hkl : k < t.rows.length := by rw [← hk]; exact hf.there
  -- the place of the row then
  have hcomm : ∀ {α : Type} (l : List α) (x : α), (l.set k x).eraseIdx j = (l.eraseIdx j).set (if k < j then k else k - 1) x := fun l x => by
    by_cases hkj : k < j
    · rw [if_pos hkj, List.eraseIdx_set_gt hkj]
    · rw [if_neg hkj, List.eraseIdx_set_lt (by omega)]
  generalize hk' : (if k < j then k else k - 1) = k' at hcomm
  have hylen : (t.rows.eraseIdx j).length = t.rows.length - 1 := by rw [List.length_eraseIdx, if_pos ho]
  have hk'l : k' < (t.rows.eraseIdx j).length := by rw [hylen, ← hk']; split <;> omega
  have hyget : (t.rows.eraseIdx j).getD k' default = t.rows.getD k default := by
    rw [getD_eraseIdx, ← hk']
    by_cases hkj : k < j
    · rw [if_pos hkj, if_pos hkj]
    · rw [if_neg hkj, if_neg (by omega)]
      congr 1
      omega
  have hyplace : rowN { t with rows := t.rows.eraseIdx j } id = k' := by
    have := rowN_uniq hyok.asc (k := k') hk'l
    have e3 : (t.rows.getD k default).id = id := by rw [← hk]; exact rowN_id hf.there
    rw [hyget, e3] at this
    exact this
  have hynows : nows { t with rows := t.rows.eraseIdx j } = (nows t).eraseIdx j := by
    show (t.rows.eraseIdx j).map (nowR t) = (t.rows.map (nowR t)).eraseIdx j
    rw [List.eraseIdx_eq_take_drop_succ, List.eraseIdx_eq_take_drop_succ, List.map_append, List.map_take, List.map_drop]
  have hfy : SetFine { t with rows := t.rows.eraseIdx j } id xs row := by
    refine ⟨by rw [hyplace]; exact hk'l, ?_, hf.ok, ?_⟩
    · rw [hyplace]
      have h1 := hf.tell
      rw [hk] at h1
      show tell (lastS t) [] (nowR t ((t.rows.eraseIdx j).getD k' default)) xs = some row
      rw [hyget]; exact h1
    · rw [hyplace, hynows, ← hcomm]
      have h1 := hf.once
      rw [hk] at h1
      exact h1.sublist (List.eraseIdx_sublist ..)
  refine ⟨_, _, 0, by rw [o1, e1], by rw [o2, e2], ?_⟩
  have : setB { t with rows := t.rows.eraseIdx j } id xs = setT { t with rows := t.rows.eraseIdx j } id xs := if_pos hyok
  rw [this, setT_fine hfy]
  have e4 : setR { t with rows := t.rows.eraseIdx j } id row = { setR t id row with rows := (setR t id row).rows.eraseIdx j } := by
    unfold setR
    rw [hyplace, hk]
    show ({ t with rows := (t.rows.eraseIdx j).set k' _ } : Table) = { t with rows := (t.rows.set k _).eraseIdx j }
    rw [hcomm]
  rw [e4]
end Go.Proofs.YtlkhmcajnfombaaGreatDoor
