/- The arguments' types, opened. -/
import Derived.Test.YtejobmamkeoheaaGreatDoorQ5TX3
import Derived.Test.YtejobmamkeoheaaGreatDoorQ5TX23
import Derived.KernelRfl
set_option linter.all false
namespace Go.Proofs.YtejobmamkeoheaaGreatDoor
open Go Go.HL Tryz
theorem uI : Tryz.prog.underlying 3 = some (.int .i64) := by kernel_rfl
theorem uB : Tryz.prog.underlying 4 = some .bool := by kernel_rfl
theorem uS : Tryz.prog.underlying 9 = some .string := by kernel_rfl
abbrev iOK (n : Int) : Prop := (Lit.int .i64 n).wf = true
abbrev sOK (s : List UInt8) : Prop := s.length ≤ reachBytes
abbrev rV (v : Val) : Prop := iOK v.kind ∧ iOK v.n ∧ sOK v.text
abbrev rC (c : Col) : Prop := sOK c.name ∧ iOK c.kind ∧ True ∧ True ∧ rV c.def_
abbrev rCh (c : Change) : Prop := iOK c.kind ∧ sOK c.name ∧ sOK c.new ∧ rC c.col
abbrev rL {α : Type} (R : α → Prop) (l : List α) : Prop := l.length ≤ LIM ∧ ∀ x ∈ l, R x
abbrev rR (r : Row) : Prop := iOK r.id ∧ iOK r.ver ∧ rL rV r.vals
abbrev rT (t : Table) : Prop := rL rC t.first ∧ rL rCh t.changes ∧ rL rR t.rows ∧ iOK t.next
abbrev rX (x : Set) : Prop := sOK x.name ∧ rV x.val
theorem oV : Opens Tryz.prog tVal 40 rV := opens_struct (fun p => ⟨p.1, p.2.1, p.2.2⟩) (fun _ => rfl) (by kernel_rfl) (by kernel_rfl) (by kernel_rfl) (.cons (opens_int uI) (by kernel_rfl) <| .cons (opens_int uI) (by kernel_rfl) <| .one (opens_str uS) (by kernel_rfl))
theorem oC : Opens Tryz.prog tCol 42 rC := opens_struct (fun p => ⟨p.1, p.2.1, p.2.2.1, p.2.2.2.1, p.2.2.2.2⟩) (fun _ => rfl) (by kernel_rfl) (by kernel_rfl) (by kernel_rfl) (.cons (opens_str uS) (by kernel_rfl) <| .cons (opens_int uI) (by kernel_rfl) <| .cons (opens_bool uB) (by kernel_rfl) <| .cons (opens_bool uB) (by kernel_rfl) <| .one oV (by kernel_rfl))
theorem oCh : Opens Tryz.prog tChange 44 rCh := opens_struct (fun p => ⟨p.1, p.2.1, p.2.2.1, p.2.2.2⟩) (fun _ => rfl) (by kernel_rfl) (by kernel_rfl) (by kernel_rfl) (.cons (opens_int uI) (by kernel_rfl) <| .cons (opens_str uS) (by kernel_rfl) <| .cons (opens_str uS) (by kernel_rfl) <| .one oC (by kernel_rfl))
theorem oVs : Opens Tryz.prog (tL tVal) 93 (rL rV) := opens_list (e := 40) (by kernel_rfl) (by kernel_rfl) (by decide) (Nat.le_of_ble_eq_true (by kernel_rfl)) oV
theorem oR : Opens Tryz.prog tRow 95 rR := opens_struct (fun p => ⟨p.1, p.2.1, p.2.2⟩) (fun _ => rfl) (by kernel_rfl) (by kernel_rfl) (by kernel_rfl) (.cons (opens_int uI) (by kernel_rfl) <| .cons (opens_int uI) (by kernel_rfl) <| .one oVs (by kernel_rfl))
theorem oCs : Opens Tryz.prog (tL tCol) 22 (rL rC) := opens_list (e := 42) (by kernel_rfl) (by kernel_rfl) (by decide) (Nat.le_of_ble_eq_true (by kernel_rfl)) oC
theorem oChs : Opens Tryz.prog (tL tChange) 23 (rL rCh) := opens_list (e := 44) (by kernel_rfl) (by kernel_rfl) (by decide) (Nat.le_of_ble_eq_true (by kernel_rfl)) oCh
theorem oRs : Opens Tryz.prog (tL tRow) 24 (rL rR) := opens_list (e := 95) (by kernel_rfl) (by kernel_rfl) (by decide) (Nat.le_of_ble_eq_true (by kernel_rfl)) oR
theorem oT : Opens Tryz.prog tTable 26 rT := opens_struct (fun p => ⟨p.1, p.2.1, p.2.2.1, p.2.2.2⟩) (fun _ => rfl) (by kernel_rfl) (by kernel_rfl) (by kernel_rfl) (.cons oCs (by kernel_rfl) <| .cons oChs (by kernel_rfl) <| .cons oRs (by kernel_rfl) <| .one (opens_int uI) (by kernel_rfl))
theorem oX : Opens Tryz.prog tSet 84 rX := opens_struct (fun p => ⟨p.1, p.2⟩) (fun _ => rfl) (by kernel_rfl) (by kernel_rfl) (by kernel_rfl) (.cons (opens_str uS) (by kernel_rfl) <| .one oV (by kernel_rfl))
theorem oXs : Opens Tryz.prog (tL tSet) 54 (rL rX) := opens_list (e := 84) (by kernel_rfl) (by kernel_rfl) (by decide) (Nat.le_of_ble_eq_true (by kernel_rfl)) oX
theorem l_S {s : List UInt8} (h : sOK s) : LenOK s.length := Nat.le_trans h (by unfold reachBytes; decide)
theorem l_L {n : Nat} (h : n ≤ LIM) : LenOK n := by rw [LIM_eq] at h; exact h
theorem l_V {v : Val} (h : rV v) : LV v := ⟨l_S h.2.2⟩
theorem l_C {c : Col} (h : rC c) : LC c := ⟨l_S h.1, l_V h.2.2.2.2⟩
theorem l_Ch {c : Change} (h : rCh c) : LCh c := ⟨l_S h.2.1, l_S h.2.2.1, l_C h.2.2.2⟩
theorem l_X {x : Set} (h : rX x) : LX x := ⟨l_S h.1, l_V h.2⟩
theorem l_T {t : Table} (h : rT t) : LT t := ⟨fun c hc => l_C (h.1.2 c hc), fun c hc => l_Ch (h.2.1.2 c hc), fun r hr v hv => l_V ((h.2.2.1.2 r hr).2.2.2 v hv), l_L h.1.1, l_L h.2.1.1, l_L h.2.2.1.1, fun r hr => l_L (h.2.2.1.2 r hr).2.2.1⟩
end Go.Proofs.YtejobmamkeoheaaGreatDoor
