/- Functions of the program: what each answers, and that the machine answers so. -/
import Derived.Test.YtejobmamkeoheaaGreatDoorQ5TA6
import Derived.KernelRfl
set_option linter.all false
namespace Go.Proofs.YtejobmamkeoheaaGreatDoor
open Go Go.HL
def f56_j1 (i1 : Bool) : Option Bool := some i1
def f56 (fu : Nat) (a0 : Int) (a1 : Int) (a2 : Int) : Option Bool := cond (decide (a1 ≤ a0)) (f56_j1 (decide (a0 ≤ a2))) (f56_j1 false)
theorem n56 : ∃ fn c, Tryz.prog.funcs[67]? = some fn ∧ (fn.name == "runtime.NumGoroutine") = false ∧ fn.body = some c := ⟨_, _, Tryz.func67, by kernel_rfl, rfl⟩
theorem c56 (fu : Nat) (a0 : Int) (a1 : Int) (a2 : Int) : Ctr Tryz.prog 67 [isI .i64 a0, isI .i64 a1, isI .i64 a2] [] (f56 fu a0 a1 a2) (fun _ _ => []) (fun q => isB q) := by
  refine Ctr.of_W Tryz.func67 rfl Tryz.ntmps67 rfl fun A w => ?_
  unfold f56
  refine .seq <| .region <| .assign rfl rfl <| .nil ?_
  refine .seq <| .join1 (fun i1 => ⟨[(6, isB i1, none)], []⟩) (fun i1 => f56_j1 i1) (fun i1 => ?_) (fun hj1 => ?_)
  · exact .ret1 Tryz.func67 Tryz.results67 (.tmp rfl) rfl (fun _ _ => .slnil)
  · refine .region <| .move rfl rfl <| .move rfl rfl <| .bin rfl rfl rfl rfl <| .move rfl rfl <| .split 10 rfl (fun _ => ?_) (fun _ => ?_)
    · refine .on rfl rfl <| .move rfl rfl <| .on rfl rfl <| .move rfl rfl <| .on rfl rfl <| .bin rfl rfl rfl rfl <| .pickT rfl rfl rfl <| .assign rfl rfl <| .nil ?_
      exact .keep [6] [] rfl (hj1 _)
    · refine .off rfl rfl rfl <| .off rfl rfl rfl <| .off rfl rfl rfl <| .pickF rfl rfl rfl <| .assign rfl rfl <| .nil ?_
      exact .keep [6] [] rfl (hj1 _)
def f128_j2 (i1 : Int) (rec1 : Int → Option Bool) (i2 : Bool) : Option Bool := cond i2 (some false) (rec1 (IntKind.i64.wrap (i1 + 1)))
def f128_l1 (fu : Nat) (a0 : List UInt8) : Nat → Int → Option Bool
  | 0, _ => none
  | n1 + 1, i1 => cond (decide (i1 < (List.length a0 : Int))) (cond (decide (0 ≤ i1) && decide (i1 < (List.length a0 : Int))) (cond (decide ((((a0.getD i1.toNat 0).toNat : Nat) : Int) < 97)) (f128_j2 i1 (f128_l1 fu a0 n1) true) (cond (decide (0 ≤ i1) && decide (i1 < (List.length a0 : Int))) (f128_j2 i1 (f128_l1 fu a0 n1) (decide (122 < (((a0.getD i1.toNat 0).toNat : Nat) : Int)))) none)) none) ((f56 fu (List.length a0 : Int) 1 3).bind fun q3 => some q3)
def f128 (fu : Nat) (a0 : List UInt8) : Option Bool := f128_l1 fu a0 fu 0
theorem n128 : ∃ fn c, Tryz.prog.funcs[137]? = some fn ∧ (fn.name == "runtime.NumGoroutine") = false ∧ fn.body = some c := ⟨_, _, Tryz.func137, by kernel_rfl, rfl⟩
theorem c128 (fu : Nat) (a0 : List UInt8) : Ctr Tryz.prog 137 [isS a0] [] (f128 fu a0) (fun _ _ => []) (fun q => isB q) := by
  refine Ctr.of_W Tryz.func137 rfl Tryz.ntmps137 rfl fun A w => ?_
  unfold f128
  refine .seq <| .region <| .assign rfl rfl <| .nil ?_
  refine .seq <| .seq <| .region <| .move rfl rfl <| .lenS rfl Tryz.underlying9 rfl <| .move rfl rfl <| .nil ?_
  refine .block <| .loop <| .keep [0, 5, 6] [] rfl ?_
  refine (show ∀ (n1 : Nat) (i1 : Int), W _ _ _ _ _ ⟨[(0, isS a0, none), (5, isI .i64 (List.length a0 : Int), none), (6, isI .i64 i1, none)], []⟩ (f128_l1 fu a0 n1 i1) from ?_) fu _
  intro n1
  induction n1 with
  | zero => exact fun _ => .stop
  | succ n1 ih1 =>
    intro i1
    refine .inLoop <| .seq <| .region <| .bin rfl rfl rfl rfl <| .nil ?_
    refine .seq <| .cond rfl (fun _ => ?_) (fun _ => ?_)
    · refine .skip <| .seq <| .block <| .seq <| .region <| .move rfl rfl <| .assign rfl rfl <| .nil ?_
      refine .seq <| .join1 (fun i2 => ⟨[(0, isS a0, none), (5, isI .i64 (List.length a0 : Int), none), (6, isI .i64 i1, none), (18, isB i2, none)], []⟩) (fun i2 => f128_j2 i1 (f128_l1 fu a0 n1) i2) (fun i2 => ?_) (fun hj2 => ?_)
      · refine .cond rfl (fun _ => ?_) (fun _ => ?_)
        · refine .seq <| .region <| .assign rfl rfl <| .nil ?_
          exact .ret1 Tryz.func137 Tryz.results137 (.tmp rfl) rfl (fun _ _ => .slnil)
        · refine .skip <| .inBlock <| .region <| .bin rfl rfl rfl rfl <| .move rfl rfl <| .nil ?_
          exact .keep [0, 5, 6] [] rfl (ih1 _)
      · refine .region <| .move rfl rfl <| .move rfl rfl <| .idxS rfl rfl Tryz.underlying9 rfl <| .bin rfl rfl rfl rfl <| .move rfl rfl <| .split 13 rfl (fun _ => ?_) (fun _ => ?_)
        · refine .off rfl rfl rfl <| .off rfl rfl rfl <| .off rfl rfl rfl <| .off rfl rfl rfl <| .pickT rfl rfl rfl <| .nil ?_
          exact .keep [0, 5, 6, 18] [] rfl (hj2 _)
        · refine .on rfl rfl <| .move rfl rfl <| .on rfl rfl <| .move rfl rfl <| .on rfl rfl <| .idxS rfl rfl Tryz.underlying9 rfl <| .on rfl rfl <| .bin rfl rfl rfl rfl <| .pickF rfl rfl rfl <| .nil ?_
          exact .keep [0, 5, 6, 18] [] rfl (hj2 _)
    · refine .exit rfl <| .seq <| .region <| .move rfl rfl <| .lenS rfl Tryz.underlying9 rfl <| .call0 (c56 fu _ _ _) n56 rfl rfl fun q3 => .assign rfl rfl <| .nil ?_
      exact .ret1 Tryz.func137 Tryz.results137 (.tmp rfl) rfl (fun _ _ => .slnil)
def f25_j1 (i2 : Bool) : Option Bool := some i2
def f25_j4 (i4 : Int) (rec1 : Int → Option Bool) (i5 : Bool) : Option Bool := cond i5 (some false) (rec1 (IntKind.i64.wrap (i4 + 1)))
def f25_j5 (rec1 : Int → Option Bool) (i6 : Bool) : Option Bool := some i6
def f25_l1 (a0 : Val) : Nat → Int → Option Bool
  | 0, _ => none
  | n1 + 1, i4 => cond (decide (i4 < (List.length a0.text : Int))) (cond (decide (0 ≤ i4) && decide (i4 < (List.length a0.text : Int))) (cond (decide ((((a0.text.getD i4.toNat 0).toNat : Nat) : Int) < 97)) (cond (decide ((((a0.text.getD i4.toNat 0).toNat : Nat) : Int) < 48)) (f25_j4 i4 (f25_l1 a0 n1) (!decide ((((a0.text.getD i4.toNat 0).toNat : Nat) : Int) = 45))) (cond (decide (57 < (((a0.text.getD i4.toNat 0).toNat : Nat) : Int))) (f25_j4 i4 (f25_l1 a0 n1) (!decide ((((a0.text.getD i4.toNat 0).toNat : Nat) : Int) = 45))) (f25_j4 i4 (f25_l1 a0 n1) false))) (cond (decide (122 < (((a0.text.getD i4.toNat 0).toNat : Nat) : Int))) (cond (decide ((((a0.text.getD i4.toNat 0).toNat : Nat) : Int) < 48)) (f25_j4 i4 (f25_l1 a0 n1) (!decide ((((a0.text.getD i4.toNat 0).toNat : Nat) : Int) = 45))) (cond (decide (57 < (((a0.text.getD i4.toNat 0).toNat : Nat) : Int))) (f25_j4 i4 (f25_l1 a0 n1) (!decide ((((a0.text.getD i4.toNat 0).toNat : Nat) : Int) = 45))) (f25_j4 i4 (f25_l1 a0 n1) false))) (f25_j4 i4 (f25_l1 a0 n1) false))) none) (cond (decide (a0.n = 0)) (f25_j5 (f25_l1 a0 n1) (decide ((List.length a0.text : Int) ≤ 4))) (f25_j5 (f25_l1 a0 n1) false))
def f25 (fu : Nat) (a0 : Val) : Option Bool := cond (decide (a0.kind = 0)) (some (decide (a0 = (⟨d0_47.kind, d0_47.n, d0_47.text⟩ : Val)))) (cond (decide (a0.kind = 1)) ((f56 fu a0.n (-999) 999).bind fun q3 => cond q3 (f25_j1 (decide (a0.text = ([] : List UInt8)))) (f25_j1 false)) (cond (decide (a0.kind = 2)) (f25_l1 a0 fu 0) (some false)))
theorem n25 : ∃ fn c, Tryz.prog.funcs[100]? = some fn ∧ (fn.name == "runtime.NumGoroutine") = false ∧ fn.body = some c := ⟨_, _, Tryz.func100, by kernel_rfl, rfl⟩
theorem c25 (fu : Nat) (a0 : Val) : Ctr Tryz.prog 100 [tVal.va a0] [] (f25 fu a0) (fun _ _ => []) (fun q => isB q) := by
  refine Ctr.of_W Tryz.func100 rfl Tryz.ntmps100 rfl fun A w => ?_
  unfold f25
  refine .seq <| .region <| .box (T := tVal) rfl rfl fun b1 => .assign rfl rfl <| .nil ?_
  refine .seq <| .seq <| .region <| .fieldP rfl fa47_0 rfl <| .loadP 0 fVal_0 rfl rfl ty3 rfl <| .nil ?_
  refine .block <| .seq <| .region <| .bin rfl rfl rfl rfl <| .assign rfl rfl <| .nil ?_
  refine .cond rfl (fun _ => ?_) (fun _ => ?_)
  · refine .seq <| .region <| .loadP 0 (Fld.self _) rfl rfl ty47 rfl <| .build rfl st47 z47 (.nil) rfl <| .eqT eq47 rfl rfl rfl <| .assign rfl rfl <| .nil ?_
    exact .ret1 Tryz.func100 Tryz.results100 (.tmp rfl) rfl (fun _ _ => .cons _ <| .slnil)
  · refine .seq <| .region <| .bin rfl rfl rfl rfl <| .assign rfl rfl <| .nil ?_
    refine .cond rfl (fun _ => ?_) (fun _ => ?_)
    · refine .seq <| .join1 (fun i2 => ⟨[(2, isB i2, none)], []⟩) (fun i2 => f25_j1 i2) (fun i2 => ?_) (fun hj1 => ?_)
      · exact .ret1 Tryz.func100 Tryz.results100 (.tmp rfl) rfl (fun _ _ => .slnil)
      · refine .region <| .fieldP rfl fa47_1 rfl <| .loadP 0 fVal_1 rfl rfl ty3 rfl <| .call0 (c56 fu _ _ _) n56 rfl rfl fun q3 => .move rfl rfl <| .split 17 rfl (fun _ => ?_) (fun _ => ?_)
        · refine .on rfl rfl <| .fieldP rfl fa47_2 rfl <| .on rfl rfl <| .loadP 0 fVal_2 rfl rfl ty9 rfl <| .on rfl rfl <| .seq rfl rfl rfl <| .pickT rfl rfl rfl <| .assign rfl rfl <| .nil ?_
          exact .keep [2] [] rfl (.drop (.cons _ <| .slnil) <| hj1 _)
        · refine .off rfl rfl rfl <| .off rfl rfl rfl <| .off rfl rfl rfl <| .pickF rfl rfl rfl <| .assign rfl rfl <| .nil ?_
          exact .keep [2] [] rfl (.drop (.cons _ <| .slnil) <| hj1 _)
    · refine .seq <| .region <| .bin rfl rfl rfl rfl <| .assign rfl rfl <| .nil ?_
      refine .cond rfl (fun _ => ?_) (fun _ => ?_)
      · refine .seq <| .seq <| .region <| .fieldP rfl fa47_2 rfl <| .loadP 0 fVal_2 rfl rfl ty9 rfl <| .lenS rfl Tryz.underlying9 rfl <| .move rfl rfl <| .nil ?_
        refine .block <| .loop <| .keep [1, 26, 27] [] rfl ?_
        refine (show ∀ (n1 : Nat) (i4 : Int), W _ _ _ _ _ ⟨[(1, isP b1 0, none), (26, isI .i64 (List.length a0.text : Int), none), (27, isI .i64 i4, none)], [boxO b1 tVal a0 []]⟩ (f25_l1 a0 n1 i4) from ?_) fu _
        intro n1
        induction n1 with
        | zero => exact fun _ => .stop
        | succ n1 ih1 =>
          intro i4
          refine .inLoop <| .seq <| .region <| .bin rfl rfl rfl rfl <| .nil ?_
          refine .seq <| .cond rfl (fun _ => ?_) (fun _ => ?_)
          · refine .skip <| .seq <| .block <| .seq <| .region <| .move rfl rfl <| .assign rfl rfl <| .nil ?_
            refine .seq <| .region <| .fieldP rfl fa47_2 rfl <| .loadP 0 fVal_2 rfl rfl ty9 rfl <| .move rfl rfl <| .idxS rfl rfl Tryz.underlying9 rfl <| .assign rfl rfl <| .nil ?_
            refine .seq <| .join1 (fun i5 => ⟨[(1, isP b1 0, none), (26, isI .i64 (List.length a0.text : Int), none), (27, isI .i64 i4, none), (51, isB i5, none)], [boxO b1 tVal a0 []]⟩) (fun i5 => f25_j4 i4 (f25_l1 a0 n1) i5) (fun i5 => ?_) (fun hj4 => ?_)
            · refine .cond rfl (fun _ => ?_) (fun _ => ?_)
              · refine .seq <| .region <| .assign rfl rfl <| .nil ?_
                exact .ret1 Tryz.func100 Tryz.results100 (.tmp rfl) rfl (fun _ _ => .cons _ <| .slnil)
              · refine .skip <| .inBlock <| .region <| .bin rfl rfl rfl rfl <| .move rfl rfl <| .nil ?_
                exact .keep [1, 26, 27] [] rfl (ih1 _)
            · refine .region <| .move rfl rfl <| .bin rfl rfl rfl rfl <| .move rfl rfl <| .split 36 rfl (fun _ => ?_) (fun _ => ?_)
              · refine .off rfl rfl rfl <| .off rfl rfl rfl <| .pickT rfl rfl rfl <| .move rfl rfl <| .on rfl rfl <| .move rfl rfl <| .on rfl rfl <| .bin rfl rfl rfl rfl <| .on rfl rfl <| .move rfl rfl <| .split 43 rfl (fun _ => ?_) (fun _ => ?_)
                · refine .off rfl rfl rfl <| .off rfl rfl rfl <| .on rfl rfl <| .pickT rfl rfl rfl <| .pickT rfl rfl rfl <| .move rfl rfl <| .on rfl rfl <| .move rfl rfl <| .on rfl rfl <| .bin rfl rfl rfl rfl <| .pickT rfl rfl rfl <| .nil ?_
                  exact .keep [1, 26, 27, 51] [] rfl (hj4 _)
                · refine .on rfl rfl <| .move rfl rfl <| .on rfl rfl <| .bin rfl rfl rfl rfl <| .on rfl rfl <| .pickF rfl rfl rfl <| .pickT rfl rfl rfl <| .move rfl rfl <| .split 48 rfl (fun _ => ?_) (fun _ => ?_)
                  · refine .on rfl rfl <| .move rfl rfl <| .on rfl rfl <| .bin rfl rfl rfl rfl <| .pickT rfl rfl rfl <| .nil ?_
                    exact .keep [1, 26, 27, 51] [] rfl (hj4 _)
                  · refine .off rfl rfl rfl <| .off rfl rfl rfl <| .pickF rfl rfl rfl <| .nil ?_
                    exact .keep [1, 26, 27, 51] [] rfl (hj4 _)
              · refine .on rfl rfl <| .move rfl rfl <| .on rfl rfl <| .bin rfl rfl rfl rfl <| .pickF rfl rfl rfl <| .move rfl rfl <| .split 40 rfl (fun _ => ?_) (fun _ => ?_)
                · refine .on rfl rfl <| .move rfl rfl <| .on rfl rfl <| .bin rfl rfl rfl rfl <| .on rfl rfl <| .move rfl rfl <| .split 43 rfl (fun _ => ?_) (fun _ => ?_)
                  · refine .off rfl rfl rfl <| .off rfl rfl rfl <| .on rfl rfl <| .pickT rfl rfl rfl <| .pickT rfl rfl rfl <| .move rfl rfl <| .on rfl rfl <| .move rfl rfl <| .on rfl rfl <| .bin rfl rfl rfl rfl <| .pickT rfl rfl rfl <| .nil ?_
                    exact .keep [1, 26, 27, 51] [] rfl (hj4 _)
                  · refine .on rfl rfl <| .move rfl rfl <| .on rfl rfl <| .bin rfl rfl rfl rfl <| .on rfl rfl <| .pickF rfl rfl rfl <| .pickT rfl rfl rfl <| .move rfl rfl <| .split 48 rfl (fun _ => ?_) (fun _ => ?_)
                    · refine .on rfl rfl <| .move rfl rfl <| .on rfl rfl <| .bin rfl rfl rfl rfl <| .pickT rfl rfl rfl <| .nil ?_
                      exact .keep [1, 26, 27, 51] [] rfl (hj4 _)
                    · refine .off rfl rfl rfl <| .off rfl rfl rfl <| .pickF rfl rfl rfl <| .nil ?_
                      exact .keep [1, 26, 27, 51] [] rfl (hj4 _)
                · refine .off rfl rfl rfl <| .off rfl rfl rfl <| .off rfl rfl rfl <| .offU rfl rfl rfl <| .offU rfl rfl rfl <| .off rfl rfl rfl <| .pickF rfl rfl rfl <| .move rfl rfl <| .off rfl rfl rfl <| .off rfl rfl rfl <| .pickF rfl rfl rfl <| .nil ?_
                  exact .keep [1, 26, 27, 51] [] rfl (hj4 _)
          · refine .exit rfl <| .seq <| .join1 (fun i6 => ⟨[(2, isB i6, none)], []⟩) (fun i6 => f25_j5 (f25_l1 a0 n1) i6) (fun i6 => ?_) (fun hj5 => ?_)
            · exact .ret1 Tryz.func100 Tryz.results100 (.tmp rfl) rfl (fun _ _ => .slnil)
            · refine .region <| .fieldP rfl fa47_1 rfl <| .loadP 0 fVal_1 rfl rfl ty3 rfl <| .bin rfl rfl rfl rfl <| .move rfl rfl <| .split 56 rfl (fun _ => ?_) (fun _ => ?_)
              · refine .on rfl rfl <| .fieldP rfl fa47_2 rfl <| .on rfl rfl <| .loadP 0 fVal_2 rfl rfl ty9 rfl <| .on rfl rfl <| .lenS rfl Tryz.underlying9 rfl <| .on rfl rfl <| .bin rfl rfl rfl rfl <| .pickT rfl rfl rfl <| .assign rfl rfl <| .nil ?_
                exact .keep [2] [] rfl (.drop (.cons _ <| .slnil) <| hj5 _)
              · refine .off rfl rfl rfl <| .off rfl rfl rfl <| .off rfl rfl rfl <| .off rfl rfl rfl <| .pickF rfl rfl rfl <| .assign rfl rfl <| .nil ?_
                exact .keep [2] [] rfl (.drop (.cons _ <| .slnil) <| hj5 _)
      · refine .skip <| .inBlock <| .seq <| .region <| .assign rfl rfl <| .nil ?_
        exact .ret1 Tryz.func100 Tryz.results100 (.tmp rfl) rfl (fun _ _ => .cons _ <| .slnil)
def f92_j1 (i2 : Bool) : Option Bool := some i2
def f92 (fu : Nat) (a0 : Val) (a1 : Int) : Option Bool := cond (decide (a0.kind = 0)) (f92_j1 true) (f92_j1 (decide (a0.kind = a1)))
theorem n92 : ∃ fn c, Tryz.prog.funcs[101]? = some fn ∧ (fn.name == "runtime.NumGoroutine") = false ∧ fn.body = some c := ⟨_, _, Tryz.func101, by kernel_rfl, rfl⟩
theorem c92 (fu : Nat) (a0 : Val) (a1 : Int) : Ctr Tryz.prog 101 [tVal.va a0, isI .i64 a1] [] (f92 fu a0 a1) (fun _ _ => []) (fun q => isB q) := by
  refine Ctr.of_W Tryz.func101 rfl Tryz.ntmps101 rfl fun A w => ?_
  unfold f92
  refine .seq <| .region <| .box (T := tVal) rfl rfl fun b1 => .assign rfl rfl <| .nil ?_
  refine .seq <| .join1 (fun i2 => ⟨[(4, isB i2, none)], []⟩) (fun i2 => f92_j1 i2) (fun i2 => ?_) (fun hj1 => ?_)
  · exact .ret1 Tryz.func101 Tryz.results101 (.tmp rfl) rfl (fun _ _ => .slnil)
  · refine .region <| .fieldP rfl fa47_0 rfl <| .loadP 0 fVal_0 rfl rfl ty3 rfl <| .bin rfl rfl rfl rfl <| .move rfl rfl <| .split 8 rfl (fun _ => ?_) (fun _ => ?_)
    · refine .off rfl rfl rfl <| .off rfl rfl rfl <| .off rfl rfl rfl <| .off rfl rfl rfl <| .pickT rfl rfl rfl <| .assign rfl rfl <| .nil ?_
      exact .keep [4] [] rfl (.drop (.cons _ <| .slnil) <| hj1 _)
    · refine .on rfl rfl <| .fieldP rfl fa47_0 rfl <| .on rfl rfl <| .loadP 0 fVal_0 rfl rfl ty3 rfl <| .on rfl rfl <| .move rfl rfl <| .on rfl rfl <| .bin rfl rfl rfl rfl <| .pickF rfl rfl rfl <| .assign rfl rfl <| .nil ?_
      exact .keep [4] [] rfl (.drop (.cons _ <| .slnil) <| hj1 _)
def f103_j1 (i2 : Bool) : Option Bool := some i2
def f103 (fu : Nat) (a0 : Col) : Option Bool := (f128 fu a0.name).bind fun q3 => cond q3 ((f56 fu a0.kind 1 2).bind fun q4 => cond q4 ((f25 fu a0.def_).bind fun q5 => cond q5 ((f92 fu a0.def_ a0.kind).bind fun q6 => cond q6 (cond (!a0.once) (f103_j1 true) (f103_j1 (decide (a0.def_.kind = 0)))) (f103_j1 false)) (f103_j1 false)) (f103_j1 false)) (f103_j1 false)
theorem n103 : ∃ fn c, Tryz.prog.funcs[120]? = some fn ∧ (fn.name == "runtime.NumGoroutine") = false ∧ fn.body = some c := ⟨_, _, Tryz.func120, by kernel_rfl, rfl⟩
theorem c103 (fu : Nat) (a0 : Col) : Ctr Tryz.prog 120 [tCol.va a0] [] (f103 fu a0) (fun _ _ => []) (fun q => isB q) := by
  refine Ctr.of_W Tryz.func120 rfl Tryz.ntmps120 rfl fun A w => ?_
  unfold f103
  refine .seq <| .region <| .box (T := tCol) rfl rfl fun b1 => .assign rfl rfl <| .nil ?_
  refine .seq <| .join1 (fun i2 => ⟨[(2, isB i2, none)], []⟩) (fun i2 => f103_j1 i2) (fun i2 => ?_) (fun hj1 => ?_)
  · exact .ret1 Tryz.func120 Tryz.results120 (.tmp rfl) rfl (fun _ _ => .slnil)
  · refine .region <| .fieldP rfl fa52_0 rfl <| .loadP 0 fCol_0 rfl rfl ty9 rfl <| .call0 (c128 fu _) n128 rfl rfl fun q3 => .move rfl rfl <| .split 6 rfl (fun _ => ?_) (fun _ => ?_)
    · refine .on rfl rfl <| .fieldP rfl fa52_1 rfl <| .on rfl rfl <| .loadP 0 fCol_1 rfl rfl ty3 rfl <| .on rfl rfl <| .call0 (c56 fu _ _ _) n56 rfl rfl fun q4 => .pickT rfl rfl rfl <| .move rfl rfl <| .split 11 rfl (fun _ => ?_) (fun _ => ?_)
      · refine .on rfl rfl <| .fieldP rfl fa52_4 rfl <| .on rfl rfl <| .loadP 0 fCol_4 rfl rfl ty47 rfl <| .on rfl rfl <| .call0 (c25 fu _) n25 rfl rfl fun q5 => .pickT rfl rfl rfl <| .move rfl rfl <| .split 16 rfl (fun _ => ?_) (fun _ => ?_)
        · refine .on rfl rfl <| .fieldP rfl fa52_4 rfl <| .on rfl rfl <| .loadP 0 fCol_4 rfl rfl ty47 rfl <| .on rfl rfl <| .fieldP rfl fa52_1 rfl <| .on rfl rfl <| .loadP 0 fCol_1 rfl rfl ty3 rfl <| .on rfl rfl <| .call0 (c92 fu _ _) n92 rfl rfl fun q6 => .pickT rfl rfl rfl <| .move rfl rfl <| .split 23 rfl (fun _ => ?_) (fun _ => ?_)
          · refine .on rfl rfl <| .fieldP rfl fa52_3 rfl <| .on rfl rfl <| .loadP 0 fCol_3 rfl rfl ty4 rfl <| .on rfl rfl <| .not rfl rfl <| .on rfl rfl <| .move rfl rfl <| .split 27 rfl (fun _ => ?_) (fun _ => ?_)
            · refine .off rfl rfl rfl <| .off rfl rfl rfl <| .off rfl rfl rfl <| .off rfl rfl rfl <| .on rfl rfl <| .pickT rfl rfl rfl <| .pickT rfl rfl rfl <| .assign rfl rfl <| .nil ?_
              exact .keep [2] [] rfl (.drop (.cons _ <| .slnil) <| hj1 _)
            · refine .on rfl rfl <| .fieldP rfl fa52_4 rfl <| .on rfl rfl <| .fieldP rfl fa47_0 rfl <| .on rfl rfl <| .loadP 0 (fCol_4.comp fVal_0) rfl rfl ty3 rfl <| .on rfl rfl <| .bin rfl rfl rfl rfl <| .on rfl rfl <| .pickF rfl rfl rfl <| .pickT rfl rfl rfl <| .assign rfl rfl <| .nil ?_
              exact .keep [2] [] rfl (.drop (.cons _ <| .slnil) <| hj1 _)
          · refine .off rfl rfl rfl <| .off rfl rfl rfl <| .off rfl rfl rfl <| .off rfl rfl rfl <| .offU rfl rfl rfl <| .offU rfl rfl rfl <| .offU rfl rfl rfl <| .offU rfl rfl rfl <| .off rfl rfl rfl <| .pickF rfl rfl rfl <| .assign rfl rfl <| .nil ?_
            exact .keep [2] [] rfl (.drop (.cons _ <| .slnil) <| hj1 _)
        · refine .off rfl rfl rfl <| .off rfl rfl rfl <| .off rfl rfl rfl <| .off rfl rfl rfl <| .off rfl rfl rfl <| .pickF rfl rfl rfl <| .move rfl rfl <| .off rfl rfl rfl <| .off rfl rfl rfl <| .off rfl rfl rfl <| .off rfl rfl rfl <| .offU rfl rfl rfl <| .offU rfl rfl rfl <| .offU rfl rfl rfl <| .offU rfl rfl rfl <| .off rfl rfl rfl <| .pickF rfl rfl rfl <| .assign rfl rfl <| .nil ?_
          exact .keep [2] [] rfl (.drop (.cons _ <| .slnil) <| hj1 _)
      · refine .off rfl rfl rfl <| .off rfl rfl rfl <| .off rfl rfl rfl <| .pickF rfl rfl rfl <| .move rfl rfl <| .off rfl rfl rfl <| .off rfl rfl rfl <| .off rfl rfl rfl <| .off rfl rfl rfl <| .off rfl rfl rfl <| .pickF rfl rfl rfl <| .move rfl rfl <| .off rfl rfl rfl <| .off rfl rfl rfl <| .off rfl rfl rfl <| .off rfl rfl rfl <| .offU rfl rfl rfl <| .offU rfl rfl rfl <| .offU rfl rfl rfl <| .offU rfl rfl rfl <| .off rfl rfl rfl <| .pickF rfl rfl rfl <| .assign rfl rfl <| .nil ?_
        exact .keep [2] [] rfl (.drop (.cons _ <| .slnil) <| hj1 _)
    · refine .off rfl rfl rfl <| .off rfl rfl rfl <| .off rfl rfl rfl <| .pickF rfl rfl rfl <| .move rfl rfl <| .off rfl rfl rfl <| .off rfl rfl rfl <| .off rfl rfl rfl <| .pickF rfl rfl rfl <| .move rfl rfl <| .off rfl rfl rfl <| .off rfl rfl rfl <| .off rfl rfl rfl <| .off rfl rfl rfl <| .off rfl rfl rfl <| .pickF rfl rfl rfl <| .move rfl rfl <| .off rfl rfl rfl <| .off rfl rfl rfl <| .off rfl rfl rfl <| .off rfl rfl rfl <| .offU rfl rfl rfl <| .offU rfl rfl rfl <| .offU rfl rfl rfl <| .offU rfl rfl rfl <| .off rfl rfl rfl <| .pickF rfl rfl rfl <| .assign rfl rfl <| .nil ?_
      exact .keep [2] [] rfl (.drop (.cons _ <| .slnil) <| hj1 _)
def f105 (a0 : Col) (a1 : List UInt8) : Option Bool := some (decide (a0.name = a1))
theorem n105 : ∃ fn c, Tryz.prog.funcs[133]? = some fn ∧ (fn.name == "runtime.NumGoroutine") = false ∧ fn.body = some c := ⟨_, _, Tryz.func133, by kernel_rfl, rfl⟩
theorem c105 (a0 : Col) (a1 : List UInt8) : Ctr Tryz.prog 133 [tCol.va a0, isAt tS a1] [] (f105 a0 a1) (fun _ _ => []) (fun q => isB q) := by
  refine Ctr.of_W Tryz.func133 rfl Tryz.ntmps133 rfl fun A w => ?_
  unfold f105
  refine .seq <| .region <| .box (T := tCol) rfl rfl fun b1 => .assign rfl rfl <| .nil ?_
  refine .seq <| .region <| .fieldP rfl fa52_0 rfl <| .loadP 0 fCol_0 rfl rfl ty9 rfl <| .load rfl ty9 rfl <| .seq rfl rfl rfl <| .assign rfl rfl <| .nil ?_
  exact .ret1 Tryz.func133 Tryz.results133 (.tmp rfl) rfl (fun _ _ => .cons _ <| .slnil)
def f104_l1 (a0 : List Col) (a1 : Col → Option Bool) : Nat → Int → Option Int
  | 0, _ => none
  | n1 + 1, i1 => cond (decide (i1 < (List.length a0 : Int))) (cond (decide (0 ≤ i1) && decide (i1 < (List.length a0 : Int))) ((a1 (a0.getD i1.toNat default)).bind fun q2 => cond q2 (some i1) ((f104_l1 a0 a1 n1) (IntKind.i64.wrap (i1 + 1)))) none) (some (-1))
def f104 (fu : Nat) (a0 : List Col) (a1 : Col → Option Bool) : Option Int := f104_l1 a0 a1 fu 0
theorem n104 : ∃ fn c, Tryz.prog.funcs[132]? = some fn ∧ (fn.name == "runtime.NumGoroutine") = false ∧ fn.body = some c := ⟨_, _, Tryz.func132, by kernel_rfl, rfl⟩
theorem c104 (fu : Nat) (a0 : List Col) (a1 : Col → Option Bool) (g1 : Nat) (k1 : List VA) (hn1 : ∃ fn c, Tryz.prog.funcs[g1]? = some fn ∧ (fn.name == "runtime.NumGoroutine") = false ∧ fn.body = some c) (hc1 : ∀ (x0 : Col), Ctr Tryz.prog g1 ([tCol.va x0] ++ k1) [] (a1 x0) (fun _ _ => []) (fun q => isB q)) : Ctr Tryz.prog 132 [(tL tCol).va a0, isClo g1 k1] [] (f104 fu a0 a1) (fun _ _ => []) (fun q => isI .i64 q) := by
  refine Ctr.of_W Tryz.func132 rfl Tryz.ntmps132 rfl fun A w => ?_
  unfold f104
  refine .seq <| .region <| .assign rfl rfl <| .nil ?_
  refine .seq <| .seq <| .region <| .move rfl rfl <| .lenL rfl Tryz.underlying28 rfl <| .move rfl rfl <| .nil ?_
  refine .block <| .loop <| .keep [0, 1, 7, 8] [] rfl ?_
  refine (show ∀ (n1 : Nat) (i1 : Int), W _ _ _ _ _ ⟨[(0, (tL tCol).va a0, none), (1, isClo g1 k1, none), (7, isI .i64 (List.length a0 : Int), none), (8, isI .i64 i1, none)], []⟩ (f104_l1 a0 a1 n1 i1) from ?_) fu _
  intro n1
  induction n1 with
  | zero => exact fun _ => .stop
  | succ n1 ih1 =>
    intro i1
    refine .inLoop <| .seq <| .region <| .bin rfl rfl rfl rfl <| .nil ?_
    refine .seq <| .cond rfl (fun _ => ?_) (fun _ => ?_)
    · refine .skip <| .seq <| .block <| .seq <| .region <| .move rfl rfl <| .assign rfl rfl <| .nil ?_
      refine .seq <| .region <| .move rfl rfl <| .move rfl rfl <| .move rfl rfl <| .elemAt rfl rfl Tryz.underlying28 ty52 rfl <| .load rfl ty52 rfl <| .callC rfl (hc1 _) hn1 rfl rfl fun q2 => .nil ?_
      refine .cond rfl (fun _ => ?_) (fun _ => ?_)
      · refine .seq <| .region <| .move rfl rfl <| .assign rfl rfl <| .nil ?_
        exact .ret1 Tryz.func132 Tryz.results132 (.tmp rfl) rfl (fun _ _ => .slnil)
      · refine .skip <| .inBlock <| .region <| .bin rfl rfl rfl rfl <| .move rfl rfl <| .nil ?_
        exact .keep [0, 1, 7, 8] [] rfl (ih1 _)
    · refine .exit rfl <| .seq <| .region <| .assign rfl rfl <| .nil ?_
      exact .ret1 Tryz.func132 Tryz.results132 (.tmp rfl) rfl (fun _ _ => .slnil)
def f68 (fu : Nat) (a0 : List Col) (a1 : List UInt8) : Option Int := (f104 fu a0 (fun x0 => f105 x0 a1)).bind fun q2 => some q2
theorem n68 : ∃ fn c, Tryz.prog.funcs[112]? = some fn ∧ (fn.name == "runtime.NumGoroutine") = false ∧ fn.body = some c := ⟨_, _, Tryz.func112, by kernel_rfl, rfl⟩
theorem c68 (fu : Nat) (a0 : List Col) (a1 : List UInt8) : Ctr Tryz.prog 112 [(tL tCol).va a0, isS a1] [] (f68 fu a0 a1) (fun _ _ => []) (fun q => isI .i64 q) := by
  refine Ctr.of_W Tryz.func112 rfl Tryz.ntmps112 rfl fun A w => ?_
  unfold f68
  refine .seq <| .region <| .box (T := tS) rfl rfl fun b1 => .assign rfl rfl <| .nil ?_
  refine .seq <| .region <| .move rfl rfl <| .frzP 0 3 rfl rfl <| .makeF rfl rfl <| .call0 (c104 fu _ (fun x0 => f105 x0 a1) 133 [isAt tS a1] n105 (fun x0 => c105 x0 a1)) n104 rfl rfl fun q2 => .assign rfl rfl <| .nil ?_
  exact .ret1 Tryz.func112 Tryz.results112 (.tmp rfl) rfl (fun _ _ => .slnil)
def f67_j2 (i1 : Int) (rec1 : Int → Option Bool) (i3 : Bool) : Option Bool := cond i3 (some false) (rec1 (IntKind.i64.wrap (i1 + 1)))
def f67_l1 (fu : Nat) (a0 : List Col) : Nat → Int → Option Bool
  | 0, _ => none
  | n1 + 1, i1 => cond (decide (i1 < (List.length a0 : Int))) (cond (decide (0 ≤ i1) && decide (i1 < (List.length a0 : Int))) ((f103 fu (a0.getD i1.toNat default)).bind fun q4 => cond (!q4) (f67_j2 i1 (f67_l1 fu a0 n1) true) ((f68 fu a0 ((a0.getD i1.toNat default).name)).bind fun q5 => f67_j2 i1 (f67_l1 fu a0 n1) (!decide (q5 = i1)))) none) ((f56 fu (List.length a0 : Int) 1 5).bind fun q6 => some q6)
def f67 (fu : Nat) (a0 : List Col) : Option Bool := f67_l1 fu a0 fu 0
theorem n67 : ∃ fn c, Tryz.prog.funcs[98]? = some fn ∧ (fn.name == "runtime.NumGoroutine") = false ∧ fn.body = some c := ⟨_, _, Tryz.func98, by kernel_rfl, rfl⟩
theorem c67 (fu : Nat) (a0 : List Col) : Ctr Tryz.prog 98 [(tL tCol).va a0] [] (f67 fu a0) (fun _ _ => []) (fun q => isB q) := by
  refine Ctr.of_W Tryz.func98 rfl Tryz.ntmps98 rfl fun A w => ?_
  unfold f67
  refine .seq <| .region <| .assign rfl rfl <| .nil ?_
  refine .seq <| .seq <| .region <| .move rfl rfl <| .lenL rfl Tryz.underlying28 rfl <| .move rfl rfl <| .nil ?_
  refine .block <| .loop <| .keep [0, 5, 6, 7] [] rfl ?_
  refine (show ∀ (n1 : Nat) (i1 : Int), W _ _ _ _ _ ⟨[(0, (tL tCol).va a0, none), (5, (tL tCol).va a0, none), (6, isI .i64 (List.length a0 : Int), none), (7, isI .i64 i1, none)], []⟩ (f67_l1 fu a0 n1 i1) from ?_) fu _
  intro n1
  induction n1 with
  | zero => exact fun _ => .stop
  | succ n1 ih1 =>
    intro i1
    refine .inLoop <| .seq <| .region <| .bin rfl rfl rfl rfl <| .nil ?_
    refine .seq <| .cond rfl (fun _ => ?_) (fun _ => ?_)
    · refine .skip <| .seq <| .block <| .seq <| .region <| .move rfl rfl <| .elemAt rfl rfl Tryz.underlying28 ty52 rfl <| .load rfl ty52 rfl <| .alloc tCol d0_52 [] z52 rfl fun b2 => .assign rfl rfl <| .storeP 0 (Fld.self _) rfl rfl rfl ty52 <| .nil ?_
      refine .seq <| .join1 (fun i3 => ⟨[(0, (tL tCol).va a0, none), (5, (tL tCol).va a0, none), (6, isI .i64 (List.length a0 : Int), none), (7, isI .i64 i1, none), (22, isB i3, none)], []⟩) (fun i3 => f67_j2 i1 (f67_l1 fu a0 n1) i3) (fun i3 => ?_) (fun hj2 => ?_)
      · refine .cond rfl (fun _ => ?_) (fun _ => ?_)
        · refine .seq <| .region <| .assign rfl rfl <| .nil ?_
          exact .ret1 Tryz.func98 Tryz.results98 (.tmp rfl) rfl (fun _ _ => .slnil)
        · refine .skip <| .inBlock <| .region <| .bin rfl rfl rfl rfl <| .move rfl rfl <| .nil ?_
          exact .keep [0, 5, 6, 7] [] rfl (ih1 _)
      · refine .region <| .loadP 0 (Fld.self _) rfl rfl ty52 rfl <| .call0 (c103 fu _) n103 rfl rfl fun q4 => .not rfl rfl <| .move rfl rfl <| .split 15 rfl (fun _ => ?_) (fun _ => ?_)
        · refine .off rfl rfl rfl <| .off rfl rfl rfl <| .off rfl rfl rfl <| .off rfl rfl rfl <| .off rfl rfl rfl <| .off rfl rfl rfl <| .pickT rfl rfl rfl <| .nil ?_
          exact .keep [0, 5, 6, 7, 22] [] rfl (.drop (.cons _ <| .slnil) <| hj2 _)
        · refine .on rfl rfl <| .move rfl rfl <| .on rfl rfl <| .fieldP rfl fa52_0 rfl <| .on rfl rfl <| .loadP 0 fCol_0 rfl rfl ty9 rfl <| .on rfl rfl <| .call0 (c68 fu _ _) n68 rfl rfl fun q5 => .on rfl rfl <| .move rfl rfl <| .on rfl rfl <| .bin rfl rfl rfl rfl <| .pickF rfl rfl rfl <| .nil ?_
          exact .keep [0, 5, 6, 7, 22] [] rfl (.drop (.cons _ <| .slnil) <| hj2 _)
    · refine .exit rfl <| .seq <| .region <| .move rfl rfl <| .lenL rfl Tryz.underlying28 rfl <| .call0 (c56 fu _ _ _) n56 rfl rfl fun q6 => .assign rfl rfl <| .nil ?_
      exact .ret1 Tryz.func98 Tryz.results98 (.tmp rfl) rfl (fun _ _ => .slnil)
def f122 (a0 : List Col) : Option (List Col) := cond (decide (List.length ([] : List Col) + List.length a0 ≤ CAP)) (some (([] : List Col) ++ a0)) none
theorem n122 : ∃ fn c, Tryz.prog.funcs[122]? = some fn ∧ (fn.name == "runtime.NumGoroutine") = false ∧ fn.body = some c := ⟨_, _, Tryz.func122, by kernel_rfl, rfl⟩
theorem c122 (a0 : List Col) : CtrL Tryz.prog 122 [(tL tCol).va a0] [] (f122 a0) (fun v => v) (fun q v => [arrO tCol v q]) (fun _ v => tRaw.va v) := by
  refine CtrL.of_W Tryz.func122 rfl Tryz.ntmps122 rfl fun A w => ?_
  unfold f122
  refine .seq <| .region <| .assign rfl rfl <| .arrNil tCol <| .nil ?_
  refine .seq <| .seq <| .region <| .move rfl rfl <| .eqNil rfl Tryz.underlying28 rfl fun nb1 hnb1 => .nil ?_
  refine .eqr (r' := cond nb1 (cond (decide (List.length ([] : List Col) + List.length a0 ≤ CAP)) (some (([] : List Col) ++ a0)) none) (cond (decide (List.length ([] : List Col) + List.length a0 ≤ CAP)) (some (([] : List Col) ++ a0)) none)) ?_ <| .cond rfl (fun _ => ?_) (fun _ => ?_)
  · cases nb1 <;> rfl
  · obtain rfl := hnb1 (by assumption)
    refine .eqr (r' := some ([] : List Col)) (by simp) ?_
    refine .seq <| .region <| .assign rfl rfl <| .nil ?_
    exact .toRaw 0 2 rfl rfl <| .retL1 (.slice none 0 0) Tryz.func122 Tryz.results122 (.tmp rfl) rfl (fun _ _ _ h => h.1) (.cons_cons _ <| .slnil)
  · refine .skip <| .seq <| .region <| .lit (T := tCol) Tryz.underlying28 el52 rfl rfl (.nil) rfl fun v2 => .toArr 0 5 rfl rfl rfl <| .move rfl rfl <| .appA (T := tCol) 0 rfl rfl rfl Tryz.underlying28 el52 rfl fun v3 => .assign rfl rfl <| .nil ?_
    exact .toRaw 0 2 rfl rfl <| .retL1 v3 Tryz.func122 Tryz.results122 (.tmp rfl) rfl (fun _ _ _ h => h.1) (.cons_cons _ <| .cons _ <| .slnil)
def f121 (a0 : List Col) : Option (List Col) := some a0
theorem n121 : ∃ fn c, Tryz.prog.funcs[121]? = some fn ∧ (fn.name == "runtime.NumGoroutine") = false ∧ fn.body = some c := ⟨_, _, Tryz.func121, by kernel_rfl, rfl⟩
theorem c121 (vp0 : Value) (a0 : List Col) : CtrL Tryz.prog 121 [isV vp0] [arrO tCol vp0 a0] (f121 a0) (fun v => v) (fun q v => [arrO tCol v q]) (fun _ v => tRaw.va v) := by
  refine CtrL.of_W Tryz.func121 rfl Tryz.ntmps121 rfl fun A w => ?_
  unfold f121
  refine .know 0 rfl <| .seq <| .region <| .assign rfl rfl <| .arrNil tCol <| .nil ?_
  refine .seq <| .region <| .move rfl rfl <| .move rfl rfl <| .lenA 1 rfl rfl Tryz.underlying28 rfl <| .move rfl rfl <| .lenA 1 rfl rfl Tryz.underlying28 rfl <| .clip (T := tCol) 1 rfl rfl rfl rfl Tryz.underlying28 el52 rfl fun v1 => .assign rfl rfl <| .nil ?_
  exact .toRaw 1 2 rfl rfl <| .retL1 v1 Tryz.func121 Tryz.results121 (.tmp rfl) rfl (fun _ _ _ h => h.1) (.cons _ <| .cons_cons _ <| .slnil)
def f91 (a0 : List Col) : Option (List Col) := (f122 a0).bind fun q1 => (f121 q1).bind fun q3 => some q3
theorem n91 : ∃ fn c, Tryz.prog.funcs[99]? = some fn ∧ (fn.name == "runtime.NumGoroutine") = false ∧ fn.body = some c := ⟨_, _, Tryz.func99, by kernel_rfl, rfl⟩
theorem c91 (a0 : List Col) : CtrL Tryz.prog 99 [(tL tCol).va a0] [] (f91 a0) (fun v => v) (fun q v => [arrO tCol v q]) (fun _ v => tRaw.va v) := by
  refine CtrL.of_W Tryz.func99 rfl Tryz.ntmps99 rfl fun A w => ?_
  unfold f91
  refine .seq <| .region <| .assign rfl rfl <| .arrNil tCol <| .nil ?_
  refine .seq <| .region <| .move rfl rfl <| .callL0 (c122 _) n122 rfl rfl fun q1 v2 => .unRaw 4 rfl <| .callS 0 (c121 _ _) rfl n121 rfl rfl fun q3 v4 => .unRaw 5 rfl <| .assign rfl rfl <| .nil ?_
  exact .toRaw 0 2 rfl rfl <| .retL1 v4 Tryz.func99 Tryz.results99 (.tmp rfl) rfl (fun _ _ _ h => h.1) (.cons_cons _ <| .cons _ <| .slnil)
def f112_j1 (a0 : Change) (i3 : Change) : Option Bool := some (decide (i3 = a0))
def f112 (fu : Nat) (a0 : Change) : Option Bool := cond (decide (a0.kind = 1)) (f112_j1 a0 ({ (⟨a0.kind, d0_56.name, d0_56.new, d0_56.col⟩ : Change) with col := a0.col } : Change)) (cond (decide (a0.kind = 2)) (f112_j1 a0 ({ (⟨a0.kind, d0_56.name, d0_56.new, d0_56.col⟩ : Change) with name := a0.name } : Change)) (cond (decide (a0.kind = 3)) (f112_j1 a0 ({ ({ (⟨a0.kind, d0_56.name, d0_56.new, d0_56.col⟩ : Change) with name := a0.name } : Change) with new := a0.new } : Change)) (cond (decide (a0.kind = 4)) (f112_j1 a0 ({ ({ (⟨a0.kind, d0_56.name, d0_56.new, d0_56.col⟩ : Change) with name := a0.name } : Change) with col := ({ ({ (⟨a0.kind, d0_56.name, d0_56.new, d0_56.col⟩ : Change) with name := a0.name } : Change).col with kind := a0.col.kind } : Col) } : Change)) (some false))))
theorem n112 : ∃ fn c, Tryz.prog.funcs[113]? = some fn ∧ (fn.name == "runtime.NumGoroutine") = false ∧ fn.body = some c := ⟨_, _, Tryz.func113, by kernel_rfl, rfl⟩
theorem c112 (fu : Nat) (a0 : Change) : Ctr Tryz.prog 113 [tChange.va a0] [] (f112 fu a0) (fun _ _ => []) (fun q => isB q) := by
  refine Ctr.of_W Tryz.func113 rfl Tryz.ntmps113 rfl fun A w => ?_
  unfold f112
  refine .seq <| .region <| .box (T := tChange) rfl rfl fun b1 => .assign rfl rfl <| .nil ?_
  refine .seq <| .region <| .fieldP rfl fa56_0 rfl <| .loadP 0 fChange_0 rfl rfl ty3 rfl <| .build rfl st56 z56 (.cons fChange_0 rfl rfl <| .nil) rfl <| .alloc tChange d0_56 [] z56 rfl fun b2 => .storeP 0 (Fld.self _) rfl rfl rfl ty56 <| .nil ?_
  refine .seq <| .seq <| .region <| .fieldP rfl fa56_0 rfl <| .loadP 1 fChange_0 rfl rfl ty3 rfl <| .nil ?_
  refine .block <| .seq <| .region <| .bin rfl rfl rfl rfl <| .assign rfl rfl <| .nil ?_
  refine .join1 (fun i3 => ⟨[(1, isP b1 0, none), (3, isP b2 0, none)], [boxO b2 tChange i3 [], boxO b1 tChange a0 []]⟩) (fun i3 => f112_j1 a0 i3) (fun i3 => ?_) (fun hj1 => ?_)
  · refine .inBlock <| .seq <| .region <| .loadP 0 (Fld.self _) rfl rfl ty56 rfl <| .loadP 1 (Fld.self _) rfl rfl ty56 rfl <| .eqT eq56 rfl rfl rfl <| .assign rfl rfl <| .nil ?_
    exact .ret1 Tryz.func113 Tryz.results113 (.tmp rfl) rfl (fun _ _ => .cons _ <| .cons _ <| .slnil)
  · refine .cond rfl (fun _ => ?_) (fun _ => ?_)
    · refine .region <| .fieldP rfl fa56_3 rfl <| .loadP 1 fChange_3 rfl rfl ty52 rfl <| .fieldP rfl fa56_3 rfl <| .storeP 0 fChange_3 rfl rfl rfl ty52 <| .nil ?_
      exact .keep [1, 3] [] rfl (hj1 _)
    · refine .seq <| .region <| .bin rfl rfl rfl rfl <| .assign rfl rfl <| .nil ?_
      refine .cond rfl (fun _ => ?_) (fun _ => ?_)
      · refine .region <| .fieldP rfl fa56_1 rfl <| .loadP 1 fChange_1 rfl rfl ty9 rfl <| .fieldP rfl fa56_1 rfl <| .storeP 0 fChange_1 rfl rfl rfl ty9 <| .nil ?_
        exact .keep [1, 3] [] rfl (hj1 _)
      · refine .seq <| .region <| .bin rfl rfl rfl rfl <| .assign rfl rfl <| .nil ?_
        refine .cond rfl (fun _ => ?_) (fun _ => ?_)
        · refine .drawS 6 [] [5] [0] mix (by kernel_rfl) (.cons (fun _ _ _ hP hE h => .fieldP (hE.op rfl) fa56_1 rfl <| h) <| .cons (fun _ _ _ hP hE h => .loadP 1 fChange_1 (hE.op rfl) (hP.get rfl rfl) ty9 rfl <| h) <| .cons (fun _ _ _ hP hE h => .fieldP (hE.op rfl) fa56_2 rfl <| h) <| .cons (fun _ _ _ hP hE h => .loadP 1 fChange_2 (hE.op rfl) (hP.get rfl rfl) ty9 rfl <| h) <| .cons (fun _ _ _ hP hE h => .fieldP (hE.op rfl) fa56_1 rfl <| h) <| .skip <| .nil) rfl <| .consS rfl fun _ _ hE h => .storeP 0 fChange_1 (hE.op rfl) rfl (hE.op rfl) ty9 <| h _ (.hole rfl <| .same <| .nil) <| .nil <| .fieldP rfl fa56_2 rfl <| .storeP 0 fChange_2 rfl rfl rfl ty9 <| .nil ?_
          exact .keep [1, 3] [] rfl (hj1 _)
        · refine .seq <| .region <| .bin rfl rfl rfl rfl <| .assign rfl rfl <| .nil ?_
          refine .cond rfl (fun _ => ?_) (fun _ => ?_)
          · refine .drawS 7 [] [6] [0] mix (by kernel_rfl) (.cons (fun _ _ _ hP hE h => .fieldP (hE.op rfl) fa56_1 rfl <| h) <| .cons (fun _ _ _ hP hE h => .loadP 1 fChange_1 (hE.op rfl) (hP.get rfl rfl) ty9 rfl <| h) <| .cons (fun _ _ _ hP hE h => .fieldP (hE.op rfl) fa56_3 rfl <| h) <| .cons (fun _ _ _ hP hE h => .fieldP (hE.op rfl) fa52_1 rfl <| h) <| .cons (fun _ _ _ hP hE h => .loadP 1 (fChange_3.comp fCol_1) (hE.op rfl) (hP.get rfl rfl) ty3 rfl <| h) <| .cons (fun _ _ _ hP hE h => .fieldP (hE.op rfl) fa56_1 rfl <| h) <| .skip <| .nil) rfl <| .consS rfl fun _ _ hE h => .storeP 0 fChange_1 (hE.op rfl) rfl (hE.op rfl) ty9 <| h _ (.hole rfl <| .same <| .nil) <| .nil <| .fieldP rfl fa56_3 rfl <| .fieldP rfl fa52_1 rfl <| .storeP 0 (fChange_3.comp fCol_1) rfl rfl rfl ty3 <| .nil ?_
            exact .keep [1, 3] [] rfl (hj1 _)
          · refine .seq <| .region <| .assign rfl rfl <| .nil ?_
            exact .ret1 Tryz.func113 Tryz.results113 (.tmp rfl) rfl (fun _ _ => .cons _ <| .cons _ <| .slnil)
def f113 (a0 : List Col) (a1 a2 : Int) : Option (List Col) := cond (decide (0 ≤ a1) && decide (a1 ≤ a2) && decide (a2 ≤ (List.length a0 : Int))) (some (a0.take a1.toNat ++ a0.drop a2.toNat)) none
theorem n113 : ∃ fn c, Tryz.prog.funcs[114]? = some fn ∧ (fn.name == "runtime.NumGoroutine") = false ∧ fn.body = some c := ⟨_, _, Tryz.func114, by kernel_rfl, rfl⟩
theorem c113 (v0 : Value) (a0 : List Col) (a1 a2 : Int) : CtrL Tryz.prog 114 [isV v0, isI .i64 a1, isI .i64 a2] [arrO tCol v0 a0] (f113 a0 a1 a2) (fun v => v) (fun q v => [arrO tCol v q]) (fun _ v => tRaw.va v) := by
  refine CtrL.of_W Tryz.func114 rfl Tryz.ntmps114 rfl fun A w => ?_
  unfold f113
  refine .pcond (fun h => ?_) (fun _ => .stop)
  simp only [Bool.and_eq_true, decide_eq_true_eq] at h
  obtain ⟨⟨h1, h2⟩, h3⟩ := h
  obtain ⟨i, rfl⟩ : ∃ i : Nat, a1 = i := ⟨a1.toNat, by omega⟩
  obtain ⟨j, rfl⟩ : ∃ j : Nat, a2 = j := ⟨a2.toNat, by omega⟩
  refine .arrV 0 rfl fun ad n c hv hn hnc hlim had => ?_
  subst hv
  have hij : i ≤ j := by omega
  have hjn : j ≤ n := by omega
  refine .seq <| .region <| .assign rfl rfl <| .nil <| .seq <| .region <| .move rfl rfl <| .move rfl rfl <| .move rfl rfl <| .move rfl rfl <| .lenV rfl Tryz.underlying28 rfl <| .sliceV (T := tCol) (l := i) (h' := j) (m := n) rfl Tryz.underlying28 el52 ⟨_, rfl⟩ ⟨_, rfl⟩ ⟨_, rfl⟩ hij hjn hnc rfl rfl <| .nil ?_
  refine .eqr (r' := cond (decide ((i : Int) = (j : Int))) (some (a0.take i ++ a0.drop j)) (some (a0.take i ++ a0.drop j))) (by cases decide ((i : Int) = (j : Int)) <;> rfl) ?_
  refine .seq <| .seq <| .region <| .move rfl rfl <| .move rfl rfl <| .bin rfl rfl rfl rfl <| .nil <| .cond rfl (fun h => ?_) (fun h => ?_)
  · simp only [decide_eq_true_eq, Int.natCast_inj] at h
    subst h
    refine .eqr (r' := some a0) (by simp) ?_
    refine .seq <| .region <| .move rfl rfl <| .assign rfl rfl <| .nil ?_
    exact .toRaw 0 6 rfl rfl <| .retL1 _ Tryz.func114 Tryz.results114 (.tmp rfl) rfl (fun _ _ _ h => h.1) (.cons_cons _ .slnil)
  · simp only [decide_eq_false_iff_not, Int.natCast_inj] at h
    have hc : 0 < c := by omega
    obtain ⟨b, o, rfl⟩ := had hc
    have hi : i < j := by omega
    have e1 : (if c = 0 then some (⟨b, o, none⟩ : Addr) else (some (⟨b, o, none⟩ : Addr)).map (·.add (0 * tCol.sz))) = some ⟨b, o, none⟩ := by rw [if_neg (by omega)]; simp [Addr.add0]
    have e2 : i + (n - j) - 0 = i + (n - j) := by omega
    have e3 : (if c = i + (n - j) then some (⟨b, o, none⟩ : Addr) else (some (⟨b, o, none⟩ : Addr)).map (·.add ((i + (n - j)) * tCol.sz))) = some ⟨b, o + (i + (n - j)) * tCol.sz, none⟩ := by rw [if_neg (by omega)]; simp [Addr.add0]
    refine .skip <| .seq <| .region <| .move rfl rfl <| .lenV rfl Tryz.underlying28 rfl <| .assign rfl rfl <| .nil ?_
    refine .seq <| .draw 6 [] mix (by kernel_rfl) (.cons (fun _ _ _ hP hE h => .move (hE.op rfl) rfl <| h) <| .cons (fun _ _ _ hP hE h => .move (hE.op rfl) rfl <| h) <| .cons (fun _ _ _ hP hE h => .sliceV (T := tCol) (lo := none) (hi := some _) (mx := none) (l := 0) (h' := i) (m := c) (hE.op rfl) Tryz.underlying28 el52 rfl ⟨_, hE.op rfl⟩ rfl (Nat.zero_le _) (by omega) (Nat.le_refl _) e1 rfl <| h) <|
      .cons (fun _ _ _ hP hE h => .move (hE.op rfl) rfl <| h) <| .cons (fun _ _ _ hP hE h => .move (hE.op rfl) rfl <| h) <| .cons (fun _ _ _ hP hE h => .sliceV (T := tCol) (lo := some _) (hi := none) (mx := none) (l := j) (h' := n) (m := c) (hE.op rfl) Tryz.underlying28 el52 ⟨_, hE.op rfl⟩ ⟨rfl, rfl⟩ rfl hjn hnc (Nat.le_refl _) rfl rfl <| h) <| .nil) rfl <| ?_
    refine .appDel (T := tCol) 0 rfl rfl rfl hc hij hjn (fun hl => by rw [if_neg (by omega)]; simp [Addr.add0]) Tryz.underlying28 el52 rfl <| .assign rfl rfl <| .nil ?_
    refine .seq <| .region <| .move rfl rfl <| .move rfl rfl <| .lenV rfl Tryz.underlying28 rfl <| .move rfl rfl <| .sliceV (T := tCol) (lo := some _) (hi := some _) (mx := none) (l := i + (n - j)) (h' := n) (m := c) rfl Tryz.underlying28 el52 ⟨_, rfl⟩ ⟨_, rfl⟩ rfl (by omega) hnc (Nat.le_refl _) e3 rfl <| .clearV (T := tCol) 0 rfl rfl hc (by omega) (by omega) Tryz.underlying28 el52 z52 <| .nil ?_
    refine .seq <| .region <| .move rfl rfl <| .assign rfl rfl <| .nil ?_
    exact .toRaw 0 6 rfl rfl <| .retL1 _ Tryz.func114 Tryz.results114 (.tmp rfl) rfl (fun _ _ _ h => h.1) (.cons_cons _ .slnil)
def f132_j1 (q2 : Int × Bool) (i4 : Bool) : Option Val := cond i4 (some (⟨d0_47.kind, d0_47.n, d0_47.text⟩ : Val)) (some (⟨1, q2.1, d0_47.text⟩ : Val))
def f132 (fu : Nat) (a0 : List UInt8) : Option Val := (f144 a0).bind fun q2 => cond q2.2 (f132_j1 q2 true) ((f25 fu (⟨1, q2.1, d0_47.text⟩ : Val)).bind fun q5 => cond (!q5) (f132_j1 q2 true) ((f131 q2.1).bind fun q6 => f132_j1 q2 (!decide (q6 = a0))))
theorem n132 : ∃ fn c, Tryz.prog.funcs[135]? = some fn ∧ (fn.name == "runtime.NumGoroutine") = false ∧ fn.body = some c := ⟨_, _, Tryz.func135, by kernel_rfl, rfl⟩
theorem c132 (fu : Nat) (a0 : List UInt8) : Ctr Tryz.prog 135 [isS a0] [] (f132 fu a0) (fun _ _ => []) (fun q => tVal.va q) := by
  refine Ctr.of_W Tryz.func135 rfl Tryz.ntmps135 rfl fun A w => ?_
  unfold f132
  refine .seq <| .region <| .alloc tVal d0_47 [] z47 rfl fun b1 => .nil ?_
  refine .seq <| .region <| .move rfl rfl <| .call0 (c144 _) n144 rfl rfl fun q2 => .move rfl rfl <| .extract rfl rfl rfl <| .extract rfl rfl rfl <| .assign rfl rfl <| .assign rfl rfl <| .nil ?_
  refine .seq <| .region <| .move rfl rfl <| .build rfl st47 z47 (.cons fVal_0 rfl rfl <| .cons fVal_1 rfl rfl <| .nil) rfl <| .alloc tVal d0_47 [] z47 rfl fun b3 => .storeP 0 (Fld.self _) rfl rfl rfl ty47 <| .nil ?_
  refine .seq <| .seq <| .join1 (fun i4 => ⟨[(2, isP b1 0, none), (5, isP b3 0, none), (25, isB i4, none)], [boxO b3 tVal (⟨1, q2.1, d0_47.text⟩ : Val) [], boxO b1 tVal d0_47 []]⟩) (fun i4 => f132_j1 q2 i4) (fun i4 => ?_) (fun hj1 => ?_)
  · refine .cond rfl (fun _ => ?_) (fun _ => ?_)
    · refine .seq <| .region <| .build rfl st47 z47 (.nil) rfl <| .storeP 1 (Fld.self _) rfl rfl rfl ty47 <| .nil ?_
      exact .ret1 Tryz.func135 Tryz.results135 (.cell 1 rfl rfl ty47) rfl (fun _ _ => .cons _ <| .cons _ <| .slnil)
    · refine .skip <| .seq <| .region <| .loadP 0 (Fld.self _) rfl rfl ty47 rfl <| .storeP 1 (Fld.self _) rfl rfl rfl ty47 <| .nil ?_
      exact .ret1 Tryz.func135 Tryz.results135 (.cell 1 rfl rfl ty47) rfl (fun _ _ => .cons _ <| .cons _ <| .slnil)
  · refine .region <| .move rfl rfl <| .errNe rfl Tryz.underlying160 rfl <| .move rfl rfl <| .split 15 rfl (fun _ => ?_) (fun _ => ?_)
    · refine .off rfl rfl rfl <| .off rfl rfl rfl <| .off rfl rfl rfl <| .pickT rfl rfl rfl <| .move rfl rfl <| .off rfl rfl rfl <| .off rfl rfl rfl <| .off rfl rfl rfl <| .off rfl rfl rfl <| .pickT rfl rfl rfl <| .nil ?_
      exact .keep [2, 5, 25] [] rfl (hj1 _)
    · refine .on rfl rfl <| .loadP 0 (Fld.self _) rfl rfl ty47 rfl <| .on rfl rfl <| .call0 (c25 fu _) n25 rfl rfl fun q5 => .on rfl rfl <| .not rfl rfl <| .pickF rfl rfl rfl <| .move rfl rfl <| .split 20 rfl (fun _ => ?_) (fun _ => ?_)
      · refine .off rfl rfl rfl <| .off rfl rfl rfl <| .off rfl rfl rfl <| .off rfl rfl rfl <| .pickT rfl rfl rfl <| .nil ?_
        exact .keep [2, 5, 25] [] rfl (hj1 _)
      · refine .on rfl rfl <| .move rfl rfl <| .on rfl rfl <| .call0 (c131 _) n131 rfl rfl fun q6 => .on rfl rfl <| .move rfl rfl <| .on rfl rfl <| .sne rfl rfl rfl <| .pickF rfl rfl rfl <| .nil ?_
        exact .keep [2, 5, 25] [] rfl (hj1 _)
def f114_j1 (fu : Nat) (a0 : Val) (a1 : Int) (i3 : Bool) : Option Val := cond i3 (some (⟨d0_47.kind, d0_47.n, d0_47.text⟩ : Val)) (cond (decide (a0.kind = a1)) (some a0) (cond (decide (a1 = 2)) ((f131 a0.n).bind fun q4 => some (⟨2, d0_47.n, q4⟩ : Val)) ((f132 fu a0.text).bind fun q5 => some q5)))
def f114 (fu : Nat) (a0 : Val) (a1 : Int) : Option Val := (f25 fu a0).bind fun q6 => cond (!q6) (f114_j1 fu a0 a1 true) (cond (decide (a0.kind = 0)) (f114_j1 fu a0 a1 true) ((f56 fu a1 1 2).bind fun q7 => f114_j1 fu a0 a1 (!q7)))
theorem n114 : ∃ fn c, Tryz.prog.funcs[115]? = some fn ∧ (fn.name == "runtime.NumGoroutine") = false ∧ fn.body = some c := ⟨_, _, Tryz.func115, by kernel_rfl, rfl⟩
theorem c114 (fu : Nat) (a0 : Val) (a1 : Int) : Ctr Tryz.prog 115 [tVal.va a0, isI .i64 a1] [] (f114 fu a0 a1) (fun _ _ => []) (fun q => tVal.va q) := by
  refine Ctr.of_W Tryz.func115 rfl Tryz.ntmps115 rfl fun A w => ?_
  unfold f114
  refine .seq <| .region <| .box (T := tVal) rfl rfl fun b1 => .alloc tVal d0_47 [] z47 rfl fun b2 => .nil ?_
  refine .seq <| .block <| .seq <| .join1 (fun i3 => ⟨[(1, isI .i64 a1, none), (2, isP b1 0, none), (4, isP b2 0, none), (5, isB i3, none)], [boxO b2 tVal d0_47 [], boxO b1 tVal a0 []]⟩) (fun i3 => f114_j1 fu a0 a1 i3) (fun i3 => ?_) (fun hj1 => ?_)
  · refine .cond rfl (fun _ => ?_) (fun _ => ?_)
    · refine .seq <| .region <| .build rfl st47 z47 (.nil) rfl <| .storeP 0 (Fld.self _) rfl rfl rfl ty47 <| .nil ?_
      exact .ret1 Tryz.func115 Tryz.results115 (.cell 0 rfl rfl ty47) rfl (fun _ _ => .cons _ <| .cons _ <| .slnil)
    · refine .seq <| .region <| .fieldP rfl fa47_0 rfl <| .loadP 1 fVal_0 rfl rfl ty3 rfl <| .move rfl rfl <| .bin rfl rfl rfl rfl <| .assign rfl rfl <| .nil ?_
      refine .cond rfl (fun _ => ?_) (fun _ => ?_)
      · refine .seq <| .region <| .loadP 1 (Fld.self _) rfl rfl ty47 rfl <| .storeP 0 (Fld.self _) rfl rfl rfl ty47 <| .nil ?_
        exact .ret1 Tryz.func115 Tryz.results115 (.cell 0 rfl rfl ty47) rfl (fun _ _ => .cons _ <| .cons _ <| .slnil)
      · refine .seq <| .region <| .move rfl rfl <| .bin rfl rfl rfl rfl <| .assign rfl rfl <| .nil ?_
        refine .cond rfl (fun _ => ?_) (fun _ => ?_)
        · refine .seq <| .region <| .fieldP rfl fa47_1 rfl <| .loadP 1 fVal_1 rfl rfl ty3 rfl <| .call0 (c131 _) n131 rfl rfl fun q4 => .build rfl st47 z47 (.cons fVal_0 rfl rfl <| .cons fVal_2 rfl rfl <| .nil) rfl <| .storeP 0 (Fld.self _) rfl rfl rfl ty47 <| .nil ?_
          exact .ret1 Tryz.func115 Tryz.results115 (.cell 0 rfl rfl ty47) rfl (fun _ _ => .cons _ <| .cons _ <| .slnil)
        · refine .skip <| .inBlock <| .seq <| .region <| .fieldP rfl fa47_2 rfl <| .loadP 1 fVal_2 rfl rfl ty9 rfl <| .call0 (c132 fu _) n132 rfl rfl fun q5 => .storeP 0 (Fld.self _) rfl rfl rfl ty47 <| .nil ?_
          exact .ret1 Tryz.func115 Tryz.results115 (.cell 0 rfl rfl ty47) rfl (fun _ _ => .cons _ <| .cons _ <| .slnil)
  · refine .region <| .loadP 1 (Fld.self _) rfl rfl ty47 rfl <| .call0 (c25 fu _) n25 rfl rfl fun q6 => .not rfl rfl <| .move rfl rfl <| .split 9 rfl (fun _ => ?_) (fun _ => ?_)
    · refine .off rfl rfl rfl <| .off rfl rfl rfl <| .off rfl rfl rfl <| .pickT rfl rfl rfl <| .move rfl rfl <| .off rfl rfl rfl <| .off rfl rfl rfl <| .off rfl rfl rfl <| .pickT rfl rfl rfl <| .assign rfl rfl <| .nil ?_
      exact .keep [1, 2, 4, 5] [] rfl (hj1 _)
    · refine .on rfl rfl <| .fieldP rfl fa47_0 rfl <| .on rfl rfl <| .loadP 1 fVal_0 rfl rfl ty3 rfl <| .on rfl rfl <| .bin rfl rfl rfl rfl <| .pickF rfl rfl rfl <| .move rfl rfl <| .split 14 rfl (fun _ => ?_) (fun _ => ?_)
      · refine .off rfl rfl rfl <| .off rfl rfl rfl <| .off rfl rfl rfl <| .pickT rfl rfl rfl <| .assign rfl rfl <| .nil ?_
        exact .keep [1, 2, 4, 5] [] rfl (hj1 _)
      · refine .on rfl rfl <| .move rfl rfl <| .on rfl rfl <| .call0 (c56 fu _ _ _) n56 rfl rfl fun q7 => .on rfl rfl <| .not rfl rfl <| .pickF rfl rfl rfl <| .assign rfl rfl <| .nil ?_
        exact .keep [1, 2, 4, 5] [] rfl (hj1 _)
end Go.Proofs.YtejobmamkeoheaaGreatDoor
