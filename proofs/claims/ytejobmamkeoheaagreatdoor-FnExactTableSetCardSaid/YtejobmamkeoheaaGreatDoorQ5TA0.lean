/- Functions of the program: what each answers, and that the machine answers so. -/
import Derived.Test.YtejobmamkeoheaaGreatDoorQ5TLib
import Derived.Test.YtejobmamkeoheaaGreatDoorQ5TDeep
import Derived.KernelRfl
set_option linter.all false
namespace Go.Proofs.YtejobmamkeoheaaGreatDoor
open Go Go.HL
def f108_l1 (a0 : List Col) (a1 : List UInt8) : Nat → Int → Option Int
  | 0, _ => none
  | n1 + 1, i1 => cond (decide (i1 < (List.length a0 : Int))) (cond (decide (0 ≤ i1) && decide (i1 < (List.length a0 : Int))) (cond (decide (((a0.getD i1.toNat default).name) = a1)) (some i1) ((f108_l1 a0 a1 n1) (IntKind.i64.wrap (i1 + 1)))) none) (some (-1))
def f108 (fu : Nat) (a0 : List Col) (a1 : List UInt8) : Option Int := f108_l1 a0 a1 fu 0
theorem n108 : ∃ fn c, Tryz.prog.funcs[118]? = some fn ∧ (fn.name == "runtime.NumGoroutine") = false ∧ fn.body = some c := ⟨_, _, Tryz.func118, by kernel_rfl, rfl⟩
theorem c108 (fu : Nat) (a0 : List Col) (a1 : List UInt8) : Ctr Tryz.prog 118 [(tL tCol).va a0, isS a1] [] (f108 fu a0 a1) (fun _ _ => []) (fun q => isI .i64 q) := by
  refine Ctr.of_W Tryz.func118 rfl Tryz.ntmps118 rfl fun A w => ?_
  unfold f108
  refine .seq <| .region <| .assign rfl rfl <| .nil ?_
  refine .seq <| .seq <| .region <| .assign rfl rfl <| .nil ?_
  refine .block <| .loop <| .keep [0, 1, 5] [] rfl ?_
  refine (show ∀ (n1 : Nat) (i1 : Int), W _ _ _ _ _ ⟨[(0, (tL tCol).va a0, none), (1, isS a1, none), (5, isI .i64 i1, none)], []⟩ (f108_l1 a0 a1 n1 i1) from ?_) fu _
  intro n1
  induction n1 with
  | zero => exact fun _ => .stop
  | succ n1 ih1 =>
    intro i1
    refine .inLoop <| .seq <| .seq <| .region <| .move rfl rfl <| .move rfl rfl <| .lenL rfl Tryz.underlying28 rfl <| .bin rfl rfl rfl rfl <| .nil ?_
    refine .cond rfl (fun _ => ?_) (fun _ => ?_)
    · refine .skip <| .seq <| .block <| .seq <| .region <| .move rfl rfl <| .move rfl rfl <| .elemAt rfl rfl Tryz.underlying28 ty52 rfl <| .fieldAt fCol_0 rfl fa52_0 rfl <| .load rfl ty9 rfl <| .move rfl rfl <| .seq rfl rfl rfl <| .nil ?_
      refine .cond rfl (fun _ => ?_) (fun _ => ?_)
      · refine .seq <| .region <| .move rfl rfl <| .assign rfl rfl <| .nil ?_
        exact .ret1 Tryz.func118 Tryz.results118 (.tmp rfl) rfl (fun _ _ => .slnil)
      · refine .skip <| .inBlock <| .region <| .move rfl rfl <| .bin rfl rfl rfl rfl <| .assign rfl rfl <| .nil ?_
        exact .keep [0, 1, 5] [] rfl (ih1 _)
    · refine .exit rfl <| .seq <| .region <| .assign rfl rfl <| .nil ?_
      exact .ret1 Tryz.func118 Tryz.results118 (.tmp rfl) rfl (fun _ _ => .slnil)
def f135_j3 (i1 : Int) (rec1 : Int → Option Bool) (i2 : Bool) : Option Bool := cond i2 (some false) (rec1 (IntKind.i64.wrap (i1 + 1)))
def f135_j4 (rec1 : Int → Option Bool) (i3 : Bool) : Option Bool := some i3
def f135_l1 (a0 : List UInt8) : Nat → Int → Option Bool
  | 0, _ => none
  | n1 + 1, i1 => cond (decide (i1 < (List.length a0 : Int))) (cond (decide (0 ≤ i1) && decide (i1 < (List.length a0 : Int))) (cond (decide ((((a0.getD i1.toNat 0).toNat : Nat) : Int) < 97)) (f135_j3 i1 (f135_l1 a0 n1) true) (cond (decide (0 ≤ i1) && decide (i1 < (List.length a0 : Int))) (f135_j3 i1 (f135_l1 a0 n1) (decide (122 < (((a0.getD i1.toNat 0).toNat : Nat) : Int)))) none)) none) (cond (decide (1 ≤ (List.length a0 : Int))) (f135_j4 (f135_l1 a0 n1) (decide ((List.length a0 : Int) ≤ 3))) (f135_j4 (f135_l1 a0 n1) false))
def f135 (fu : Nat) (a0 : List UInt8) : Option Bool := f135_l1 a0 fu 0
theorem n135 : ∃ fn c, Tryz.prog.funcs[136]? = some fn ∧ (fn.name == "runtime.NumGoroutine") = false ∧ fn.body = some c := ⟨_, _, Tryz.func136, by kernel_rfl, rfl⟩
theorem c135 (fu : Nat) (a0 : List UInt8) : Ctr Tryz.prog 136 [isS a0] [] (f135 fu a0) (fun _ _ => []) (fun q => isB q) := by
  refine Ctr.of_W Tryz.func136 rfl Tryz.ntmps136 rfl fun A w => ?_
  unfold f135
  refine .seq <| .region <| .assign rfl rfl <| .nil ?_
  refine .seq <| .seq <| .region <| .assign rfl rfl <| .nil ?_
  refine .block <| .loop <| .keep [0, 3] [] rfl ?_
  refine (show ∀ (n1 : Nat) (i1 : Int), W _ _ _ _ _ ⟨[(0, isS a0, none), (3, isI .i64 i1, none)], []⟩ (f135_l1 a0 n1 i1) from ?_) fu _
  intro n1
  induction n1 with
  | zero => exact fun _ => .stop
  | succ n1 ih1 =>
    intro i1
    refine .inLoop <| .seq <| .seq <| .region <| .move rfl rfl <| .move rfl rfl <| .lenS rfl Tryz.underlying9 rfl <| .bin rfl rfl rfl rfl <| .nil ?_
    refine .cond rfl (fun _ => ?_) (fun _ => ?_)
    · refine .skip <| .seq <| .block <| .seq <| .join1 (fun i2 => ⟨[(0, isS a0, none), (3, isI .i64 i1, none), (19, isB i2, none)], []⟩) (fun i2 => f135_j3 i1 (f135_l1 a0 n1) i2) (fun i2 => ?_) (fun hj3 => ?_)
      · refine .cond rfl (fun _ => ?_) (fun _ => ?_)
        · refine .seq <| .region <| .assign rfl rfl <| .nil ?_
          exact .ret1 Tryz.func136 Tryz.results136 (.tmp rfl) rfl (fun _ _ => .slnil)
        · refine .skip <| .inBlock <| .region <| .move rfl rfl <| .bin rfl rfl rfl rfl <| .assign rfl rfl <| .nil ?_
          exact .keep [0, 3] [] rfl (ih1 _)
      · refine .region <| .move rfl rfl <| .move rfl rfl <| .idxS rfl rfl Tryz.underlying9 rfl <| .bin rfl rfl rfl rfl <| .move rfl rfl <| .split 14 rfl (fun _ => ?_) (fun _ => ?_)
        · refine .off rfl rfl rfl <| .off rfl rfl rfl <| .off rfl rfl rfl <| .off rfl rfl rfl <| .pickT rfl rfl rfl <| .nil ?_
          exact .keep [0, 3, 19] [] rfl (hj3 _)
        · refine .on rfl rfl <| .move rfl rfl <| .on rfl rfl <| .move rfl rfl <| .on rfl rfl <| .idxS rfl rfl Tryz.underlying9 rfl <| .on rfl rfl <| .bin rfl rfl rfl rfl <| .pickF rfl rfl rfl <| .nil ?_
          exact .keep [0, 3, 19] [] rfl (hj3 _)
    · refine .exit rfl <| .seq <| .join1 (fun i3 => ⟨[(2, isB i3, none)], []⟩) (fun i3 => f135_j4 (f135_l1 a0 n1) i3) (fun i3 => ?_) (fun hj4 => ?_)
      · exact .ret1 Tryz.func136 Tryz.results136 (.tmp rfl) rfl (fun _ _ => .slnil)
      · refine .region <| .move rfl rfl <| .lenS rfl Tryz.underlying9 rfl <| .bin rfl rfl rfl rfl <| .move rfl rfl <| .split 23 rfl (fun _ => ?_) (fun _ => ?_)
        · refine .on rfl rfl <| .move rfl rfl <| .on rfl rfl <| .lenS rfl Tryz.underlying9 rfl <| .on rfl rfl <| .bin rfl rfl rfl rfl <| .pickT rfl rfl rfl <| .assign rfl rfl <| .nil ?_
          exact .keep [2] [] rfl (hj4 _)
        · refine .off rfl rfl rfl <| .off rfl rfl rfl <| .off rfl rfl rfl <| .pickF rfl rfl rfl <| .assign rfl rfl <| .nil ?_
          exact .keep [2] [] rfl (hj4 _)
def f139_j1 (i1 : Bool) : Option Bool := some i1
def f139 (fu : Nat) (a0 : Int) : Option Bool := cond (decide ((-999) ≤ a0)) (f139_j1 (decide (a0 ≤ 999))) (f139_j1 false)
theorem n139 : ∃ fn c, Tryz.prog.funcs[129]? = some fn ∧ (fn.name == "runtime.NumGoroutine") = false ∧ fn.body = some c := ⟨_, _, Tryz.func129, by kernel_rfl, rfl⟩
theorem c139 (fu : Nat) (a0 : Int) : Ctr Tryz.prog 129 [isI .i64 a0] [] (f139 fu a0) (fun _ _ => []) (fun q => isB q) := by
  refine Ctr.of_W Tryz.func129 rfl Tryz.ntmps129 rfl fun A w => ?_
  unfold f139
  refine .seq <| .region <| .assign rfl rfl <| .nil ?_
  refine .seq <| .join1 (fun i1 => ⟨[(2, isB i1, none)], []⟩) (fun i1 => f139_j1 i1) (fun i1 => ?_) (fun hj1 => ?_)
  · exact .ret1 Tryz.func129 Tryz.results129 (.tmp rfl) rfl (fun _ _ => .slnil)
  · refine .region <| .move rfl rfl <| .bin rfl rfl rfl rfl <| .move rfl rfl <| .split 5 rfl (fun _ => ?_) (fun _ => ?_)
    · refine .on rfl rfl <| .move rfl rfl <| .on rfl rfl <| .bin rfl rfl rfl rfl <| .pickT rfl rfl rfl <| .assign rfl rfl <| .nil ?_
      exact .keep [2] [] rfl (hj1 _)
    · refine .off rfl rfl rfl <| .off rfl rfl rfl <| .pickF rfl rfl rfl <| .assign rfl rfl <| .nil ?_
      exact .keep [2] [] rfl (hj1 _)
def f140_j2 (i1 : Int) (rec1 : Int → Option Bool) (i2 : Bool) : Option Bool := cond i2 (some false) (rec1 (IntKind.i64.wrap (i1 + 1)))
def f140_l1 (a0 : List UInt8) : Nat → Int → Option Bool
  | 0, _ => none
  | n1 + 1, i1 => cond (decide (i1 < (List.length a0 : Int))) (cond (decide (0 ≤ i1) && decide (i1 < (List.length a0 : Int))) (cond (decide ((((a0.getD i1.toNat 0).toNat : Nat) : Int) < 97)) (cond (decide (0 ≤ i1) && decide (i1 < (List.length a0 : Int))) (cond (decide ((((a0.getD i1.toNat 0).toNat : Nat) : Int) < 48)) (cond (decide (0 ≤ i1) && decide (i1 < (List.length a0 : Int))) (f140_j2 i1 (f140_l1 a0 n1) (!decide ((((a0.getD i1.toNat 0).toNat : Nat) : Int) = 45))) none) (cond (decide (0 ≤ i1) && decide (i1 < (List.length a0 : Int))) (cond (decide (57 < (((a0.getD i1.toNat 0).toNat : Nat) : Int))) (cond (decide (0 ≤ i1) && decide (i1 < (List.length a0 : Int))) (f140_j2 i1 (f140_l1 a0 n1) (!decide ((((a0.getD i1.toNat 0).toNat : Nat) : Int) = 45))) none) (f140_j2 i1 (f140_l1 a0 n1) false)) none)) none) (cond (decide (0 ≤ i1) && decide (i1 < (List.length a0 : Int))) (cond (decide (122 < (((a0.getD i1.toNat 0).toNat : Nat) : Int))) (cond (decide (0 ≤ i1) && decide (i1 < (List.length a0 : Int))) (cond (decide ((((a0.getD i1.toNat 0).toNat : Nat) : Int) < 48)) (cond (decide (0 ≤ i1) && decide (i1 < (List.length a0 : Int))) (f140_j2 i1 (f140_l1 a0 n1) (!decide ((((a0.getD i1.toNat 0).toNat : Nat) : Int) = 45))) none) (cond (decide (0 ≤ i1) && decide (i1 < (List.length a0 : Int))) (cond (decide (57 < (((a0.getD i1.toNat 0).toNat : Nat) : Int))) (cond (decide (0 ≤ i1) && decide (i1 < (List.length a0 : Int))) (f140_j2 i1 (f140_l1 a0 n1) (!decide ((((a0.getD i1.toNat 0).toNat : Nat) : Int) = 45))) none) (f140_j2 i1 (f140_l1 a0 n1) false)) none)) none) (f140_j2 i1 (f140_l1 a0 n1) false)) none)) none) (some (decide ((List.length a0 : Int) ≤ 4)))
def f140 (fu : Nat) (a0 : List UInt8) : Option Bool := f140_l1 a0 fu 0
theorem n140 : ∃ fn c, Tryz.prog.funcs[130]? = some fn ∧ (fn.name == "runtime.NumGoroutine") = false ∧ fn.body = some c := ⟨_, _, Tryz.func130, by kernel_rfl, rfl⟩
theorem c140 (fu : Nat) (a0 : List UInt8) : Ctr Tryz.prog 130 [isS a0] [] (f140 fu a0) (fun _ _ => []) (fun q => isB q) := by
  refine Ctr.of_W Tryz.func130 rfl Tryz.ntmps130 rfl fun A w => ?_
  unfold f140
  refine .seq <| .region <| .assign rfl rfl <| .nil ?_
  refine .seq <| .seq <| .region <| .assign rfl rfl <| .nil ?_
  refine .block <| .loop <| .keep [0, 3] [] rfl ?_
  refine (show ∀ (n1 : Nat) (i1 : Int), W _ _ _ _ _ ⟨[(0, isS a0, none), (3, isI .i64 i1, none)], []⟩ (f140_l1 a0 n1 i1) from ?_) fu _
  intro n1
  induction n1 with
  | zero => exact fun _ => .stop
  | succ n1 ih1 =>
    intro i1
    refine .inLoop <| .seq <| .seq <| .region <| .move rfl rfl <| .move rfl rfl <| .lenS rfl Tryz.underlying9 rfl <| .bin rfl rfl rfl rfl <| .nil ?_
    refine .cond rfl (fun _ => ?_) (fun _ => ?_)
    · refine .skip <| .seq <| .block <| .seq <| .join1 (fun i2 => ⟨[(0, isS a0, none), (3, isI .i64 i1, none), (37, isB i2, none)], []⟩) (fun i2 => f140_j2 i1 (f140_l1 a0 n1) i2) (fun i2 => ?_) (fun hj2 => ?_)
      · refine .cond rfl (fun _ => ?_) (fun _ => ?_)
        · refine .seq <| .region <| .assign rfl rfl <| .nil ?_
          exact .ret1 Tryz.func130 Tryz.results130 (.tmp rfl) rfl (fun _ _ => .slnil)
        · refine .skip <| .inBlock <| .region <| .move rfl rfl <| .bin rfl rfl rfl rfl <| .assign rfl rfl <| .nil ?_
          exact .keep [0, 3] [] rfl (ih1 _)
      · refine .region <| .move rfl rfl <| .move rfl rfl <| .idxS rfl rfl Tryz.underlying9 rfl <| .bin rfl rfl rfl rfl <| .move rfl rfl <| .split 14 rfl (fun _ => ?_) (fun _ => ?_)
        · refine .off rfl rfl rfl <| .off rfl rfl rfl <| .off rfl rfl rfl <| .off rfl rfl rfl <| .pickT rfl rfl rfl <| .move rfl rfl <| .on rfl rfl <| .move rfl rfl <| .on rfl rfl <| .move rfl rfl <| .on rfl rfl <| .idxS rfl rfl Tryz.underlying9 rfl <| .on rfl rfl <| .bin rfl rfl rfl rfl <| .on rfl rfl <| .move rfl rfl <| .split 25 rfl (fun _ => ?_) (fun _ => ?_)
          · refine .off rfl rfl rfl <| .off rfl rfl rfl <| .off rfl rfl rfl <| .off rfl rfl rfl <| .on rfl rfl <| .pickT rfl rfl rfl <| .pickT rfl rfl rfl <| .move rfl rfl <| .on rfl rfl <| .move rfl rfl <| .on rfl rfl <| .move rfl rfl <| .on rfl rfl <| .idxS rfl rfl Tryz.underlying9 rfl <| .on rfl rfl <| .bin rfl rfl rfl rfl <| .pickT rfl rfl rfl <| .nil ?_
            exact .keep [0, 3, 37] [] rfl (hj2 _)
          · refine .on rfl rfl <| .move rfl rfl <| .on rfl rfl <| .move rfl rfl <| .on rfl rfl <| .idxS rfl rfl Tryz.underlying9 rfl <| .on rfl rfl <| .bin rfl rfl rfl rfl <| .on rfl rfl <| .pickF rfl rfl rfl <| .pickT rfl rfl rfl <| .move rfl rfl <| .split 32 rfl (fun _ => ?_) (fun _ => ?_)
            · refine .on rfl rfl <| .move rfl rfl <| .on rfl rfl <| .move rfl rfl <| .on rfl rfl <| .idxS rfl rfl Tryz.underlying9 rfl <| .on rfl rfl <| .bin rfl rfl rfl rfl <| .pickT rfl rfl rfl <| .nil ?_
              exact .keep [0, 3, 37] [] rfl (hj2 _)
            · refine .off rfl rfl rfl <| .off rfl rfl rfl <| .off rfl rfl rfl <| .off rfl rfl rfl <| .pickF rfl rfl rfl <| .nil ?_
              exact .keep [0, 3, 37] [] rfl (hj2 _)
        · refine .on rfl rfl <| .move rfl rfl <| .on rfl rfl <| .move rfl rfl <| .on rfl rfl <| .idxS rfl rfl Tryz.underlying9 rfl <| .on rfl rfl <| .bin rfl rfl rfl rfl <| .pickF rfl rfl rfl <| .move rfl rfl <| .split 20 rfl (fun _ => ?_) (fun _ => ?_)
          · refine .on rfl rfl <| .move rfl rfl <| .on rfl rfl <| .move rfl rfl <| .on rfl rfl <| .idxS rfl rfl Tryz.underlying9 rfl <| .on rfl rfl <| .bin rfl rfl rfl rfl <| .on rfl rfl <| .move rfl rfl <| .split 25 rfl (fun _ => ?_) (fun _ => ?_)
            · refine .off rfl rfl rfl <| .off rfl rfl rfl <| .off rfl rfl rfl <| .off rfl rfl rfl <| .on rfl rfl <| .pickT rfl rfl rfl <| .pickT rfl rfl rfl <| .move rfl rfl <| .on rfl rfl <| .move rfl rfl <| .on rfl rfl <| .move rfl rfl <| .on rfl rfl <| .idxS rfl rfl Tryz.underlying9 rfl <| .on rfl rfl <| .bin rfl rfl rfl rfl <| .pickT rfl rfl rfl <| .nil ?_
              exact .keep [0, 3, 37] [] rfl (hj2 _)
            · refine .on rfl rfl <| .move rfl rfl <| .on rfl rfl <| .move rfl rfl <| .on rfl rfl <| .idxS rfl rfl Tryz.underlying9 rfl <| .on rfl rfl <| .bin rfl rfl rfl rfl <| .on rfl rfl <| .pickF rfl rfl rfl <| .pickT rfl rfl rfl <| .move rfl rfl <| .split 32 rfl (fun _ => ?_) (fun _ => ?_)
              · refine .on rfl rfl <| .move rfl rfl <| .on rfl rfl <| .move rfl rfl <| .on rfl rfl <| .idxS rfl rfl Tryz.underlying9 rfl <| .on rfl rfl <| .bin rfl rfl rfl rfl <| .pickT rfl rfl rfl <| .nil ?_
                exact .keep [0, 3, 37] [] rfl (hj2 _)
              · refine .off rfl rfl rfl <| .off rfl rfl rfl <| .off rfl rfl rfl <| .off rfl rfl rfl <| .pickF rfl rfl rfl <| .nil ?_
                exact .keep [0, 3, 37] [] rfl (hj2 _)
          · refine .off rfl rfl rfl <| .off rfl rfl rfl <| .off rfl rfl rfl <| .off rfl rfl rfl <| .off rfl rfl rfl <| .offU rfl rfl rfl <| .offU rfl rfl rfl <| .offU rfl rfl rfl <| .offU rfl rfl rfl <| .off rfl rfl rfl <| .pickF rfl rfl rfl <| .move rfl rfl <| .off rfl rfl rfl <| .off rfl rfl rfl <| .off rfl rfl rfl <| .off rfl rfl rfl <| .pickF rfl rfl rfl <| .nil ?_
            exact .keep [0, 3, 37] [] rfl (hj2 _)
    · refine .exit rfl <| .seq <| .region <| .move rfl rfl <| .lenS rfl Tryz.underlying9 rfl <| .bin rfl rfl rfl rfl <| .assign rfl rfl <| .nil ?_
      exact .ret1 Tryz.func130 Tryz.results130 (.tmp rfl) rfl (fun _ _ => .slnil)
def f119_j1 (i2 : Bool) : Option Bool := some i2
def f119_j2 (i4 : Bool) : Option Bool := some i4
def f119 (fu : Nat) (a0 : Val) : Option Bool := cond (decide (a0.kind = 0)) (some (decide (a0 = (⟨d0_47.kind, d0_47.n, d0_47.text⟩ : Val)))) (cond (decide (a0.kind = 1)) (cond (decide (a0.text = ([] : List UInt8))) ((f139 fu a0.n).bind fun q3 => f119_j1 q3) (f119_j1 false)) (cond (decide (a0.kind = 2)) (cond (decide (a0.n = 0)) ((f140 fu a0.text).bind fun q5 => f119_j2 q5) (f119_j2 false)) (some false)))
theorem n119 : ∃ fn c, Tryz.prog.funcs[110]? = some fn ∧ (fn.name == "runtime.NumGoroutine") = false ∧ fn.body = some c := ⟨_, _, Tryz.func110, by kernel_rfl, rfl⟩
theorem c119 (fu : Nat) (a0 : Val) : Ctr Tryz.prog 110 [tVal.va a0] [] (f119 fu a0) (fun _ _ => []) (fun q => isB q) := by
  refine Ctr.of_W Tryz.func110 rfl Tryz.ntmps110 rfl fun A w => ?_
  unfold f119
  refine .seq <| .region <| .box (T := tVal) rfl rfl fun b1 => .assign rfl rfl <| .nil ?_
  refine .seq <| .seq <| .region <| .fieldP rfl fa47_0 rfl <| .loadP 0 fVal_0 rfl rfl ty3 rfl <| .nil ?_
  refine .block <| .seq <| .region <| .bin rfl rfl rfl rfl <| .assign rfl rfl <| .nil ?_
  refine .cond rfl (fun _ => ?_) (fun _ => ?_)
  · refine .seq <| .region <| .loadP 0 (Fld.self _) rfl rfl ty47 rfl <| .build rfl st47 z47 (.nil) rfl <| .eqT eq47 rfl rfl rfl <| .assign rfl rfl <| .nil ?_
    exact .ret1 Tryz.func110 Tryz.results110 (.tmp rfl) rfl (fun _ _ => .cons _ <| .slnil)
  · refine .seq <| .region <| .bin rfl rfl rfl rfl <| .assign rfl rfl <| .nil ?_
    refine .cond rfl (fun _ => ?_) (fun _ => ?_)
    · refine .seq <| .join1 (fun i2 => ⟨[(2, isB i2, none)], []⟩) (fun i2 => f119_j1 i2) (fun i2 => ?_) (fun hj1 => ?_)
      · exact .ret1 Tryz.func110 Tryz.results110 (.tmp rfl) rfl (fun _ _ => .slnil)
      · refine .region <| .fieldP rfl fa47_2 rfl <| .loadP 0 fVal_2 rfl rfl ty9 rfl <| .seq rfl rfl rfl <| .move rfl rfl <| .split 15 rfl (fun _ => ?_) (fun _ => ?_)
        · refine .on rfl rfl <| .fieldP rfl fa47_1 rfl <| .on rfl rfl <| .loadP 0 fVal_1 rfl rfl ty3 rfl <| .on rfl rfl <| .call0 (c139 fu _) n139 rfl rfl fun q3 => .pickT rfl rfl rfl <| .assign rfl rfl <| .nil ?_
          exact .keep [2] [] rfl (.drop (.cons _ <| .slnil) <| hj1 _)
        · refine .off rfl rfl rfl <| .off rfl rfl rfl <| .off rfl rfl rfl <| .pickF rfl rfl rfl <| .assign rfl rfl <| .nil ?_
          exact .keep [2] [] rfl (.drop (.cons _ <| .slnil) <| hj1 _)
    · refine .seq <| .region <| .bin rfl rfl rfl rfl <| .assign rfl rfl <| .nil ?_
      refine .cond rfl (fun _ => ?_) (fun _ => ?_)
      · refine .seq <| .join1 (fun i4 => ⟨[(2, isB i4, none)], []⟩) (fun i4 => f119_j2 i4) (fun i4 => ?_) (fun hj2 => ?_)
        · exact .ret1 Tryz.func110 Tryz.results110 (.tmp rfl) rfl (fun _ _ => .slnil)
        · refine .region <| .fieldP rfl fa47_1 rfl <| .loadP 0 fVal_1 rfl rfl ty3 rfl <| .bin rfl rfl rfl rfl <| .move rfl rfl <| .split 25 rfl (fun _ => ?_) (fun _ => ?_)
          · refine .on rfl rfl <| .fieldP rfl fa47_2 rfl <| .on rfl rfl <| .loadP 0 fVal_2 rfl rfl ty9 rfl <| .on rfl rfl <| .call0 (c140 fu _) n140 rfl rfl fun q5 => .pickT rfl rfl rfl <| .assign rfl rfl <| .nil ?_
            exact .keep [2] [] rfl (.drop (.cons _ <| .slnil) <| hj2 _)
          · refine .off rfl rfl rfl <| .off rfl rfl rfl <| .off rfl rfl rfl <| .pickF rfl rfl rfl <| .assign rfl rfl <| .nil ?_
            exact .keep [2] [] rfl (.drop (.cons _ <| .slnil) <| hj2 _)
      · refine .skip <| .inBlock <| .seq <| .region <| .assign rfl rfl <| .nil ?_
        exact .ret1 Tryz.func110 Tryz.results110 (.tmp rfl) rfl (fun _ _ => .cons _ <| .slnil)
end Go.Proofs.YtejobmamkeoheaaGreatDoor
