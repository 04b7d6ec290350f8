/- Functions of the program: what each answers, and that the machine answers so. -/
import Derived.Test.YtejobmamkeoheaaGreatDoorQ5TA11
import Derived.KernelRfl
import Derived.KernelRfl
set_option linter.all false
namespace Go.Proofs.YtejobmamkeoheaaGreatDoor
open Go Go.HL
def f71_l1 (fu : Nat) (a0 : Table) (q5 : (List Col) × Bool) (q8 : Table) (q12 : (List Change)) : Nat → Int → Option (Table × Int)
  | 0, _ => none
  | n1 + 1, i14 => cond (decide (i14 < (List.length q8.rows : Int))) (cond (decide (0 ≤ i14) && decide (i14 < (List.length q8.rows : Int))) ((f49 fu (⟨q8.first, q12, q8.rows, q8.next⟩ : Table) (q8.rows.getD i14.toNat default)).bind fun q16 => (f58 fu q5.1 q16).bind fun q17 => cond (!q17) ((f80 fu a0).bind fun q18 => some (q18, 2)) ((f71_l1 fu a0 q5 q8 q12 n1) (IntKind.i64.wrap (i14 + 1)))) none) (cond (decide ((List.length a0.changes : Int) = 8)) ((f80 fu a0).bind fun q20 => some (q20, 4)) (some ((⟨q8.first, q12, q8.rows, q8.next⟩ : Table), 0)))
def f71 (fu : Nat) (a0 : Table) (a1 : Change) : Option (Table × Int) := (f66 fu a0).bind fun q4 => (f78 fu q4 a1).bind fun q5 => cond (!q5.2) ((f80 fu a0).bind fun q6 => some (q6, 1)) ((f80 fu a0).bind fun q8 => cond (decide (List.length q8.changes + List.length ([a1] : List Change) ≤ CAP)) ((f109 (q8.changes ++ ([a1] : List Change))).bind fun q12 => f71_l1 fu a0 q5 q8 q12 fu 0) none)
theorem n71 : ∃ fn c, Tryz.prog.funcs[49]? = some fn ∧ (fn.name == "runtime.NumGoroutine") = false ∧ fn.body = some c := ⟨_, _, Tryz.func49, by kernel_rfl, rfl⟩
def f75 (fu : Nat) (a0 : Table) (a1 : Int) (a2 : List Set) : Option (Table × Int) := (f48 fu a0 a1).bind fun q3 => cond (decide (q3 < 0)) ((f80 fu a0).bind fun q4 => some (q4, 5)) ((f66 fu a0).bind fun q6 => (f80 fu a0).bind fun q7 => cond (decide (0 ≤ q3) && decide (q3 < (List.length a0.rows : Int))) ((f49 fu a0 (a0.rows.getD q3.toNat default)).bind fun q10 => (f99 fu q6 q10 a2).bind fun q12 => cond (!q12.1) ((f80 fu a0).bind fun q13 => some (q13, 1)) (cond (decide (0 ≤ q3) && decide (q3 < (List.length q7.rows : Int))) ((f58 fu q6 q12.2).bind fun q15 => cond (!q15) ((f80 fu a0).bind fun q16 => some (q16, 2)) ((f59 fu (⟨q7.first, q7.changes, q7.rows.set q3.toNat (⟨a1, (List.length a0.changes : Int), q12.2⟩ : Row), q7.next⟩ : Table)).bind fun q18 => cond (!q18) ((f80 fu a0).bind fun q19 => some (q19, 3)) (some ((⟨q7.first, q7.changes, q7.rows.set q3.toNat (⟨a1, (List.length a0.changes : Int), q12.2⟩ : Row), q7.next⟩ : Table), 0)))) none)) none)
theorem n75 : ∃ fn c, Tryz.prog.funcs[57]? = some fn ∧ (fn.name == "runtime.NumGoroutine") = false ∧ fn.body = some c := ⟨_, _, Tryz.func57, by kernel_rfl, rfl⟩
end Go.Proofs.YtejobmamkeoheaaGreatDoor
