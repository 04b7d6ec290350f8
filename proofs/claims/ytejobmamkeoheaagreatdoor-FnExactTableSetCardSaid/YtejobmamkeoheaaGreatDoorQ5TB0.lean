/- Functions of the program: what each answers, and that the machine answers so. -/
import Derived.Test.YtejobmamkeoheaaGreatDoorQ5TA13
import Derived.KernelRfl
import Derived.KernelRfl
set_option linter.all false
namespace Go.Proofs.YtejobmamkeoheaaGreatDoor
open Go Go.HL
def f3081 (a0 : Val) (a1 : Int) : Option Int := cond (decide ((IntKind.i64.wrap (a1 - (List.length a0.text : Int))) < 0)) (some (-1)) (some (IntKind.i64.wrap (a1 - (List.length a0.text : Int))))
theorem n3081 : ∃ fn c, Tryz.prog.funcs[81]? = some fn ∧ (fn.name == "runtime.NumGoroutine") = false ∧ fn.body = some c := ⟨_, _, Tryz.func81, by kernel_rfl, rfl⟩
theorem c3081 (a0 : Val) (a1 : Int) : Ctr Tryz.prog 81 [tVal.va a0, isI .i64 a1] [] (f3081 a0 a1) (fun _ _ => []) (fun q => isI .i64 q) := by
  refine Ctr.of_W Tryz.func81 rfl Tryz.ntmps81 rfl fun A w => ?_
  unfold f3081
  refine .seq <| .region <| .box (T := tVal) rfl rfl fun b1 => .assign rfl rfl <| .nil ?_
  refine .seq <| .region <| .move rfl rfl <| .fieldP rfl fa3040_2 rfl <| .loadP 0 fVal_2 rfl rfl ty9 rfl <| .lenS rfl Tryz.underlying9 rfl <| .bin rfl rfl rfl rfl <| .assign rfl rfl <| .nil ?_
  refine .seq <| .seq <| .region <| .move rfl rfl <| .bin rfl rfl rfl rfl <| .nil ?_
  refine .cond rfl (fun _ => ?_) (fun _ => ?_)
  · refine .seq <| .region <| .assign rfl rfl <| .nil ?_
    exact .ret1 Tryz.func81 Tryz.results81 (.tmp rfl) rfl (fun _ _ => .cons _ <| .slnil)
  · refine .skip <| .seq <| .region <| .move rfl rfl <| .assign rfl rfl <| .nil ?_
    exact .ret1 Tryz.func81 Tryz.results81 (.tmp rfl) rfl (fun _ _ => .cons _ <| .slnil)
def f3046 (a0 : Col) (a1 : Int) : Option Int := cond (decide ((IntKind.i64.wrap (a1 - (List.length a0.name : Int))) < 0)) (some (-1)) ((f3081 a0.def_ (IntKind.i64.wrap (a1 - (List.length a0.name : Int)))).bind fun q2 => cond (decide (q2 < 0)) (some (-1)) (some q2))
theorem n3046 : ∃ fn c, Tryz.prog.funcs[46]? = some fn ∧ (fn.name == "runtime.NumGoroutine") = false ∧ fn.body = some c := ⟨_, _, Tryz.func46, by kernel_rfl, rfl⟩
theorem c3046 (a0 : Col) (a1 : Int) : Ctr Tryz.prog 46 [tCol.va a0, isI .i64 a1] [] (f3046 a0 a1) (fun _ _ => []) (fun q => isI .i64 q) := by
  refine Ctr.of_W Tryz.func46 rfl Tryz.ntmps46 rfl fun A w => ?_
  unfold f3046
  refine .seq <| .region <| .box (T := tCol) rfl rfl fun b1 => .assign rfl rfl <| .nil ?_
  refine .seq <| .region <| .move rfl rfl <| .fieldP rfl fa3042_0 rfl <| .loadP 0 fCol_0 rfl rfl ty9 rfl <| .lenS rfl Tryz.underlying9 rfl <| .bin rfl rfl rfl rfl <| .assign rfl rfl <| .nil ?_
  refine .seq <| .seq <| .region <| .move rfl rfl <| .bin rfl rfl rfl rfl <| .nil ?_
  refine .cond rfl (fun _ => ?_) (fun _ => ?_)
  · refine .seq <| .region <| .assign rfl rfl <| .nil ?_
    exact .ret1 Tryz.func46 Tryz.results46 (.tmp rfl) rfl (fun _ _ => .cons _ <| .slnil)
  · refine .skip <| .seq <| .region <| .fieldP rfl fa3042_4 rfl <| .loadP 0 fCol_4 rfl rfl ty3040 rfl <| .move rfl rfl <| .call0 (c3081 _ _) n3081 rfl rfl fun q2 => .assign rfl rfl <| .nil ?_
    refine .seq <| .seq <| .region <| .move rfl rfl <| .bin rfl rfl rfl rfl <| .nil ?_
    refine .cond rfl (fun _ => ?_) (fun _ => ?_)
    · refine .seq <| .region <| .assign rfl rfl <| .nil ?_
      exact .ret1 Tryz.func46 Tryz.results46 (.tmp rfl) rfl (fun _ _ => .cons _ <| .slnil)
    · refine .skip <| .seq <| .region <| .move rfl rfl <| .assign rfl rfl <| .nil ?_
      exact .ret1 Tryz.func46 Tryz.results46 (.tmp rfl) rfl (fun _ _ => .cons _ <| .slnil)
def f3026_l1 (a0 : List Col) : Nat → Int → Int → Option Int
  | 0, _, _ => none
  | n3001 + 1, i1, i2 => cond (decide (i2 < (List.length a0 : Int))) (cond (decide (0 ≤ i2) && decide (i2 < (List.length a0 : Int))) ((f3046 (a0.getD i2.toNat default) i1).bind fun q3 => cond (decide (q3 < 0)) (some (-1)) ((f3026_l1 a0 n3001) q3 (IntKind.i64.wrap (i2 + 1)))) none) (some i1)
def f3026 (fu : Nat) (a0 : List Col) (a1 : Int) : Option Int := cond (decide ((IntKind.i64.wrap (a1 - (List.length a0 : Int))) < 0)) (some (-1)) (f3026_l1 a0 fu (IntKind.i64.wrap (a1 - (List.length a0 : Int))) 0)
theorem n3026 : ∃ fn c, Tryz.prog.funcs[26]? = some fn ∧ (fn.name == "runtime.NumGoroutine") = false ∧ fn.body = some c := ⟨_, _, Tryz.func26, by kernel_rfl, rfl⟩
theorem c3026 (fu : Nat) (a0 : List Col) (a1 : Int) : Ctr Tryz.prog 26 [(tL tCol).va a0, isI .i64 a1] [] (f3026 fu a0 a1) (fun _ _ => []) (fun q => isI .i64 q) := by
  refine Ctr.of_W Tryz.func26 rfl Tryz.ntmps26 rfl fun A w => ?_
  unfold f3026
  refine .seq <| .region <| .assign rfl rfl <| .nil ?_
  refine .seq <| .region <| .move rfl rfl <| .move rfl rfl <| .lenL rfl Tryz.underlying22 rfl <| .bin rfl rfl rfl rfl <| .assign rfl rfl <| .nil ?_
  refine .seq <| .seq <| .region <| .move rfl rfl <| .bin rfl rfl rfl rfl <| .nil ?_
  refine .cond rfl (fun _ => ?_) (fun _ => ?_)
  · refine .seq <| .region <| .assign rfl rfl <| .nil ?_
    exact .ret1 Tryz.func26 Tryz.results26 (.tmp rfl) rfl (fun _ _ => .slnil)
  · refine .skip <| .seq <| .seq <| .region <| .assign rfl rfl <| .nil ?_
    refine .block <| .loop <| .keep [0, 1, 5] [] rfl ?_
    refine (show ∀ (n3001 : Nat) (i1 : Int) (i2 : Int), W _ _ _ _ _ ⟨[(0, (tL tCol).va a0, none), (1, isI .i64 i1, none), (5, isI .i64 i2, none)], []⟩ (f3026_l1 a0 n3001 i1 i2) from ?_) fu _ _
    intro n3001
    induction n3001 with
    | zero => exact fun _ _ => .stop
    | succ n3001 ih1 =>
      intro i1 i2
      refine .inLoop <| .seq <| .seq <| .region <| .move rfl rfl <| .move rfl rfl <| .lenL rfl Tryz.underlying22 rfl <| .bin rfl rfl rfl rfl <| .nil ?_
      refine .cond rfl (fun _ => ?_) (fun _ => ?_)
      · refine .skip <| .seq <| .block <| .seq <| .region <| .move rfl rfl <| .move rfl rfl <| .elemAt rfl rfl Tryz.underlying22 ty3042 rfl <| .load rfl ty3042 rfl <| .move rfl rfl <| .call0 (c3046 _ _) n3046 rfl rfl fun q3 => .assign rfl rfl <| .nil ?_
        refine .seq <| .region <| .move rfl rfl <| .bin rfl rfl rfl rfl <| .nil ?_
        refine .cond rfl (fun _ => ?_) (fun _ => ?_)
        · refine .seq <| .region <| .assign rfl rfl <| .nil ?_
          exact .ret1 Tryz.func26 Tryz.results26 (.tmp rfl) rfl (fun _ _ => .slnil)
        · refine .skip <| .inBlock <| .region <| .move rfl rfl <| .bin rfl rfl rfl rfl <| .assign rfl rfl <| .nil ?_
          exact .keep [0, 1, 5] [] rfl (ih1 _ _)
      · refine .exit rfl <| .seq <| .region <| .move rfl rfl <| .assign rfl rfl <| .nil ?_
        exact .ret1 Tryz.func26 Tryz.results26 (.tmp rfl) rfl (fun _ _ => .slnil)
def f3014 (a0 : Change) (a1 : Int) : Option Int := cond (decide ((IntKind.i64.wrap (a1 - (List.length a0.name : Int))) < 0)) (some (-1)) (cond (decide ((IntKind.i64.wrap ((IntKind.i64.wrap (a1 - (List.length a0.name : Int))) - (List.length a0.new : Int))) < 0)) (some (-1)) ((f3046 a0.col (IntKind.i64.wrap ((IntKind.i64.wrap (a1 - (List.length a0.name : Int))) - (List.length a0.new : Int)))).bind fun q2 => cond (decide (q2 < 0)) (some (-1)) (some q2)))
theorem n3014 : ∃ fn c, Tryz.prog.funcs[14]? = some fn ∧ (fn.name == "runtime.NumGoroutine") = false ∧ fn.body = some c := ⟨_, _, Tryz.func14, by kernel_rfl, rfl⟩
theorem c3014 (a0 : Change) (a1 : Int) : Ctr Tryz.prog 14 [tChange.va a0, isI .i64 a1] [] (f3014 a0 a1) (fun _ _ => []) (fun q => isI .i64 q) := by
  refine Ctr.of_W Tryz.func14 rfl Tryz.ntmps14 rfl fun A w => ?_
  unfold f3014
  refine .seq <| .region <| .box (T := tChange) rfl rfl fun b1 => .assign rfl rfl <| .nil ?_
  refine .seq <| .region <| .move rfl rfl <| .fieldP rfl fa3044_1 rfl <| .loadP 0 fChange_1 rfl rfl ty9 rfl <| .lenS rfl Tryz.underlying9 rfl <| .bin rfl rfl rfl rfl <| .assign rfl rfl <| .nil ?_
  refine .seq <| .seq <| .region <| .move rfl rfl <| .bin rfl rfl rfl rfl <| .nil ?_
  refine .cond rfl (fun _ => ?_) (fun _ => ?_)
  · refine .seq <| .region <| .assign rfl rfl <| .nil ?_
    exact .ret1 Tryz.func14 Tryz.results14 (.tmp rfl) rfl (fun _ _ => .cons _ <| .slnil)
  · refine .skip <| .seq <| .region <| .move rfl rfl <| .fieldP rfl fa3044_2 rfl <| .loadP 0 fChange_2 rfl rfl ty9 rfl <| .lenS rfl Tryz.underlying9 rfl <| .bin rfl rfl rfl rfl <| .assign rfl rfl <| .nil ?_
    refine .seq <| .seq <| .region <| .move rfl rfl <| .bin rfl rfl rfl rfl <| .nil ?_
    refine .cond rfl (fun _ => ?_) (fun _ => ?_)
    · refine .seq <| .region <| .assign rfl rfl <| .nil ?_
      exact .ret1 Tryz.func14 Tryz.results14 (.tmp rfl) rfl (fun _ _ => .cons _ <| .slnil)
    · refine .skip <| .seq <| .region <| .fieldP rfl fa3044_3 rfl <| .loadP 0 fChange_3 rfl rfl ty3042 rfl <| .move rfl rfl <| .call0 (c3046 _ _) n3046 rfl rfl fun q2 => .assign rfl rfl <| .nil ?_
      refine .seq <| .seq <| .region <| .move rfl rfl <| .bin rfl rfl rfl rfl <| .nil ?_
      refine .cond rfl (fun _ => ?_) (fun _ => ?_)
      · refine .seq <| .region <| .assign rfl rfl <| .nil ?_
        exact .ret1 Tryz.func14 Tryz.results14 (.tmp rfl) rfl (fun _ _ => .cons _ <| .slnil)
      · refine .skip <| .seq <| .region <| .move rfl rfl <| .assign rfl rfl <| .nil ?_
        exact .ret1 Tryz.func14 Tryz.results14 (.tmp rfl) rfl (fun _ _ => .cons _ <| .slnil)
def f3027_l1 (a0 : List Change) : Nat → Int → Int → Option Int
  | 0, _, _ => none
  | n3001 + 1, i1, i2 => cond (decide (i2 < (List.length a0 : Int))) (cond (decide (0 ≤ i2) && decide (i2 < (List.length a0 : Int))) ((f3014 (a0.getD i2.toNat default) i1).bind fun q3 => cond (decide (q3 < 0)) (some (-1)) ((f3027_l1 a0 n3001) q3 (IntKind.i64.wrap (i2 + 1)))) none) (some i1)
def f3027 (fu : Nat) (a0 : List Change) (a1 : Int) : Option Int := cond (decide ((IntKind.i64.wrap (a1 - (List.length a0 : Int))) < 0)) (some (-1)) (f3027_l1 a0 fu (IntKind.i64.wrap (a1 - (List.length a0 : Int))) 0)
theorem n3027 : ∃ fn c, Tryz.prog.funcs[27]? = some fn ∧ (fn.name == "runtime.NumGoroutine") = false ∧ fn.body = some c := ⟨_, _, Tryz.func27, by kernel_rfl, rfl⟩
theorem c3027 (fu : Nat) (a0 : List Change) (a1 : Int) : Ctr Tryz.prog 27 [(tL tChange).va a0, isI .i64 a1] [] (f3027 fu a0 a1) (fun _ _ => []) (fun q => isI .i64 q) := by
  refine Ctr.of_W Tryz.func27 rfl Tryz.ntmps27 rfl fun A w => ?_
  unfold f3027
  refine .seq <| .region <| .assign rfl rfl <| .nil ?_
  refine .seq <| .region <| .move rfl rfl <| .move rfl rfl <| .lenL rfl Tryz.underlying23 rfl <| .bin rfl rfl rfl rfl <| .assign rfl rfl <| .nil ?_
  refine .seq <| .seq <| .region <| .move rfl rfl <| .bin rfl rfl rfl rfl <| .nil ?_
  refine .cond rfl (fun _ => ?_) (fun _ => ?_)
  · refine .seq <| .region <| .assign rfl rfl <| .nil ?_
    exact .ret1 Tryz.func27 Tryz.results27 (.tmp rfl) rfl (fun _ _ => .slnil)
  · refine .skip <| .seq <| .seq <| .region <| .assign rfl rfl <| .nil ?_
    refine .block <| .loop <| .keep [0, 1, 5] [] rfl ?_
    refine (show ∀ (n3001 : Nat) (i1 : Int) (i2 : Int), W _ _ _ _ _ ⟨[(0, (tL tChange).va a0, none), (1, isI .i64 i1, none), (5, isI .i64 i2, none)], []⟩ (f3027_l1 a0 n3001 i1 i2) from ?_) fu _ _
    intro n3001
    induction n3001 with
    | zero => exact fun _ _ => .stop
    | succ n3001 ih1 =>
      intro i1 i2
      refine .inLoop <| .seq <| .seq <| .region <| .move rfl rfl <| .move rfl rfl <| .lenL rfl Tryz.underlying23 rfl <| .bin rfl rfl rfl rfl <| .nil ?_
      refine .cond rfl (fun _ => ?_) (fun _ => ?_)
      · refine .skip <| .seq <| .block <| .seq <| .region <| .move rfl rfl <| .move rfl rfl <| .elemAt rfl rfl Tryz.underlying23 ty3044 rfl <| .load rfl ty3044 rfl <| .move rfl rfl <| .call0 (c3014 _ _) n3014 rfl rfl fun q3 => .assign rfl rfl <| .nil ?_
        refine .seq <| .region <| .move rfl rfl <| .bin rfl rfl rfl rfl <| .nil ?_
        refine .cond rfl (fun _ => ?_) (fun _ => ?_)
        · refine .seq <| .region <| .assign rfl rfl <| .nil ?_
          exact .ret1 Tryz.func27 Tryz.results27 (.tmp rfl) rfl (fun _ _ => .slnil)
        · refine .skip <| .inBlock <| .region <| .move rfl rfl <| .bin rfl rfl rfl rfl <| .assign rfl rfl <| .nil ?_
          exact .keep [0, 1, 5] [] rfl (ih1 _ _)
      · refine .exit rfl <| .seq <| .region <| .move rfl rfl <| .assign rfl rfl <| .nil ?_
        exact .ret1 Tryz.func27 Tryz.results27 (.tmp rfl) rfl (fun _ _ => .slnil)
def f3094_l1 (a0 : List Val) : Nat → Int → Int → Option Int
  | 0, _, _ => none
  | n3001 + 1, i1, i2 => cond (decide (i2 < (List.length a0 : Int))) (cond (decide (0 ≤ i2) && decide (i2 < (List.length a0 : Int))) ((f3081 (a0.getD i2.toNat default) i1).bind fun q3 => cond (decide (q3 < 0)) (some (-1)) ((f3094_l1 a0 n3001) q3 (IntKind.i64.wrap (i2 + 1)))) none) (some i1)
def f3094 (fu : Nat) (a0 : List Val) (a1 : Int) : Option Int := cond (decide ((IntKind.i64.wrap (a1 - (List.length a0 : Int))) < 0)) (some (-1)) (f3094_l1 a0 fu (IntKind.i64.wrap (a1 - (List.length a0 : Int))) 0)
theorem n3094 : ∃ fn c, Tryz.prog.funcs[94]? = some fn ∧ (fn.name == "runtime.NumGoroutine") = false ∧ fn.body = some c := ⟨_, _, Tryz.func94, by kernel_rfl, rfl⟩
theorem c3094 (fu : Nat) (a0 : List Val) (a1 : Int) : Ctr Tryz.prog 94 [(tL tVal).va a0, isI .i64 a1] [] (f3094 fu a0 a1) (fun _ _ => []) (fun q => isI .i64 q) := by
  refine Ctr.of_W Tryz.func94 rfl Tryz.ntmps94 rfl fun A w => ?_
  unfold f3094
  refine .seq <| .region <| .assign rfl rfl <| .nil ?_
  refine .seq <| .region <| .move rfl rfl <| .move rfl rfl <| .lenL rfl Tryz.underlying93 rfl <| .bin rfl rfl rfl rfl <| .assign rfl rfl <| .nil ?_
  refine .seq <| .seq <| .region <| .move rfl rfl <| .bin rfl rfl rfl rfl <| .nil ?_
  refine .cond rfl (fun _ => ?_) (fun _ => ?_)
  · refine .seq <| .region <| .assign rfl rfl <| .nil ?_
    exact .ret1 Tryz.func94 Tryz.results94 (.tmp rfl) rfl (fun _ _ => .slnil)
  · refine .skip <| .seq <| .seq <| .region <| .assign rfl rfl <| .nil ?_
    refine .block <| .loop <| .keep [0, 1, 5] [] rfl ?_
    refine (show ∀ (n3001 : Nat) (i1 : Int) (i2 : Int), W _ _ _ _ _ ⟨[(0, (tL tVal).va a0, none), (1, isI .i64 i1, none), (5, isI .i64 i2, none)], []⟩ (f3094_l1 a0 n3001 i1 i2) from ?_) fu _ _
    intro n3001
    induction n3001 with
    | zero => exact fun _ _ => .stop
    | succ n3001 ih1 =>
      intro i1 i2
      refine .inLoop <| .seq <| .seq <| .region <| .move rfl rfl <| .move rfl rfl <| .lenL rfl Tryz.underlying93 rfl <| .bin rfl rfl rfl rfl <| .nil ?_
      refine .cond rfl (fun _ => ?_) (fun _ => ?_)
      · refine .skip <| .seq <| .block <| .seq <| .region <| .move rfl rfl <| .move rfl rfl <| .elemAt rfl rfl Tryz.underlying93 ty3040 rfl <| .load rfl ty3040 rfl <| .move rfl rfl <| .call0 (c3081 _ _) n3081 rfl rfl fun q3 => .assign rfl rfl <| .nil ?_
        refine .seq <| .region <| .move rfl rfl <| .bin rfl rfl rfl rfl <| .nil ?_
        refine .cond rfl (fun _ => ?_) (fun _ => ?_)
        · refine .seq <| .region <| .assign rfl rfl <| .nil ?_
          exact .ret1 Tryz.func94 Tryz.results94 (.tmp rfl) rfl (fun _ _ => .slnil)
        · refine .skip <| .inBlock <| .region <| .move rfl rfl <| .bin rfl rfl rfl rfl <| .assign rfl rfl <| .nil ?_
          exact .keep [0, 1, 5] [] rfl (ih1 _ _)
      · refine .exit rfl <| .seq <| .region <| .move rfl rfl <| .assign rfl rfl <| .nil ?_
        exact .ret1 Tryz.func94 Tryz.results94 (.tmp rfl) rfl (fun _ _ => .slnil)
def f3058 (fu : Nat) (a0 : Row) (a1 : Int) : Option Int := (f3094 fu a0.vals a1).bind fun q2 => cond (decide (q2 < 0)) (some (-1)) (some q2)
theorem n3058 : ∃ fn c, Tryz.prog.funcs[58]? = some fn ∧ (fn.name == "runtime.NumGoroutine") = false ∧ fn.body = some c := ⟨_, _, Tryz.func58, by kernel_rfl, rfl⟩
theorem c3058 (fu : Nat) (a0 : Row) (a1 : Int) : Ctr Tryz.prog 58 [tRow.va a0, isI .i64 a1] [] (f3058 fu a0 a1) (fun _ _ => []) (fun q => isI .i64 q) := by
  refine Ctr.of_W Tryz.func58 rfl Tryz.ntmps58 rfl fun A w => ?_
  unfold f3058
  refine .seq <| .region <| .box (T := tRow) rfl rfl fun b1 => .assign rfl rfl <| .nil ?_
  refine .seq <| .region <| .fieldP rfl fa3095_2 rfl <| .loadP 0 fRow_2 rfl rfl ty3093 rfl <| .move rfl rfl <| .call0 (c3094 fu _ _) n3094 rfl rfl fun q2 => .assign rfl rfl <| .nil ?_
  refine .seq <| .seq <| .region <| .move rfl rfl <| .bin rfl rfl rfl rfl <| .nil ?_
  refine .cond rfl (fun _ => ?_) (fun _ => ?_)
  · refine .seq <| .region <| .assign rfl rfl <| .nil ?_
    exact .ret1 Tryz.func58 Tryz.results58 (.tmp rfl) rfl (fun _ _ => .cons _ <| .slnil)
  · refine .skip <| .seq <| .region <| .move rfl rfl <| .assign rfl rfl <| .nil ?_
    exact .ret1 Tryz.func58 Tryz.results58 (.tmp rfl) rfl (fun _ _ => .cons _ <| .slnil)
def f3028_l1 (fu : Nat) (a0 : List Row) : Nat → Int → Int → Option Int
  | 0, _, _ => none
  | n3001 + 1, i1, i2 => cond (decide (i2 < (List.length a0 : Int))) (cond (decide (0 ≤ i2) && decide (i2 < (List.length a0 : Int))) ((f3058 fu (a0.getD i2.toNat default) i1).bind fun q3 => cond (decide (q3 < 0)) (some (-1)) ((f3028_l1 fu a0 n3001) q3 (IntKind.i64.wrap (i2 + 1)))) none) (some i1)
def f3028 (fu : Nat) (a0 : List Row) (a1 : Int) : Option Int := cond (decide ((IntKind.i64.wrap (a1 - (List.length a0 : Int))) < 0)) (some (-1)) (f3028_l1 fu a0 fu (IntKind.i64.wrap (a1 - (List.length a0 : Int))) 0)
theorem n3028 : ∃ fn c, Tryz.prog.funcs[28]? = some fn ∧ (fn.name == "runtime.NumGoroutine") = false ∧ fn.body = some c := ⟨_, _, Tryz.func28, by kernel_rfl, rfl⟩
theorem c3028 (fu : Nat) (a0 : List Row) (a1 : Int) : Ctr Tryz.prog 28 [(tL tRow).va a0, isI .i64 a1] [] (f3028 fu a0 a1) (fun _ _ => []) (fun q => isI .i64 q) := by
  refine Ctr.of_W Tryz.func28 rfl Tryz.ntmps28 rfl fun A w => ?_
  unfold f3028
  refine .seq <| .region <| .assign rfl rfl <| .nil ?_
  refine .seq <| .region <| .move rfl rfl <| .move rfl rfl <| .lenL rfl Tryz.underlying24 rfl <| .bin rfl rfl rfl rfl <| .assign rfl rfl <| .nil ?_
  refine .seq <| .seq <| .region <| .move rfl rfl <| .bin rfl rfl rfl rfl <| .nil ?_
  refine .cond rfl (fun _ => ?_) (fun _ => ?_)
  · refine .seq <| .region <| .assign rfl rfl <| .nil ?_
    exact .ret1 Tryz.func28 Tryz.results28 (.tmp rfl) rfl (fun _ _ => .slnil)
  · refine .skip <| .seq <| .seq <| .region <| .assign rfl rfl <| .nil ?_
    refine .block <| .loop <| .keep [0, 1, 5] [] rfl ?_
    refine (show ∀ (n3001 : Nat) (i1 : Int) (i2 : Int), W _ _ _ _ _ ⟨[(0, (tL tRow).va a0, none), (1, isI .i64 i1, none), (5, isI .i64 i2, none)], []⟩ (f3028_l1 fu a0 n3001 i1 i2) from ?_) fu _ _
    intro n3001
    induction n3001 with
    | zero => exact fun _ _ => .stop
    | succ n3001 ih1 =>
      intro i1 i2
      refine .inLoop <| .seq <| .seq <| .region <| .move rfl rfl <| .move rfl rfl <| .lenL rfl Tryz.underlying24 rfl <| .bin rfl rfl rfl rfl <| .nil ?_
      refine .cond rfl (fun _ => ?_) (fun _ => ?_)
      · refine .skip <| .seq <| .block <| .seq <| .region <| .move rfl rfl <| .move rfl rfl <| .elemAt rfl rfl Tryz.underlying24 ty3095 rfl <| .load rfl ty3095 rfl <| .move rfl rfl <| .call0 (c3058 fu _ _) n3058 rfl rfl fun q3 => .assign rfl rfl <| .nil ?_
        refine .seq <| .region <| .move rfl rfl <| .bin rfl rfl rfl rfl <| .nil ?_
        refine .cond rfl (fun _ => ?_) (fun _ => ?_)
        · refine .seq <| .region <| .assign rfl rfl <| .nil ?_
          exact .ret1 Tryz.func28 Tryz.results28 (.tmp rfl) rfl (fun _ _ => .slnil)
        · refine .skip <| .inBlock <| .region <| .move rfl rfl <| .bin rfl rfl rfl rfl <| .assign rfl rfl <| .nil ?_
          exact .keep [0, 1, 5] [] rfl (ih1 _ _)
      · refine .exit rfl <| .seq <| .region <| .move rfl rfl <| .assign rfl rfl <| .nil ?_
        exact .ret1 Tryz.func28 Tryz.results28 (.tmp rfl) rfl (fun _ _ => .slnil)
def f3007 (fu : Nat) (a0 : Table) (a1 : Int) : Option Int := (f3026 fu a0.first a1).bind fun q2 => cond (decide (q2 < 0)) (some (-1)) ((f3027 fu a0.changes q2).bind fun q3 => cond (decide (q3 < 0)) (some (-1)) ((f3028 fu a0.rows q3).bind fun q4 => cond (decide (q4 < 0)) (some (-1)) (some q4)))
theorem n3007 : ∃ fn c, Tryz.prog.funcs[7]? = some fn ∧ (fn.name == "runtime.NumGoroutine") = false ∧ fn.body = some c := ⟨_, _, Tryz.func7, by kernel_rfl, rfl⟩
theorem c3007 (fu : Nat) (a0 : Table) (a1 : Int) : Ctr Tryz.prog 7 [tTable.va a0, isI .i64 a1] [] (f3007 fu a0 a1) (fun _ _ => []) (fun q => isI .i64 q) := by
  refine Ctr.of_W Tryz.func7 rfl Tryz.ntmps7 rfl fun A w => ?_
  unfold f3007
  refine .seq <| .region <| .box (T := tTable) rfl rfl fun b1 => .assign rfl rfl <| .nil ?_
  refine .seq <| .region <| .fieldP rfl fa3026_0 rfl <| .loadP 0 fTable_0 rfl rfl ty3022 rfl <| .move rfl rfl <| .call0 (c3026 fu _ _) n3026 rfl rfl fun q2 => .assign rfl rfl <| .nil ?_
  refine .seq <| .seq <| .region <| .move rfl rfl <| .bin rfl rfl rfl rfl <| .nil ?_
  refine .cond rfl (fun _ => ?_) (fun _ => ?_)
  · refine .seq <| .region <| .assign rfl rfl <| .nil ?_
    exact .ret1 Tryz.func7 Tryz.results7 (.tmp rfl) rfl (fun _ _ => .cons _ <| .slnil)
  · refine .skip <| .seq <| .region <| .fieldP rfl fa3026_1 rfl <| .loadP 0 fTable_1 rfl rfl ty3023 rfl <| .move rfl rfl <| .call0 (c3027 fu _ _) n3027 rfl rfl fun q3 => .assign rfl rfl <| .nil ?_
    refine .seq <| .seq <| .region <| .move rfl rfl <| .bin rfl rfl rfl rfl <| .nil ?_
    refine .cond rfl (fun _ => ?_) (fun _ => ?_)
    · refine .seq <| .region <| .assign rfl rfl <| .nil ?_
      exact .ret1 Tryz.func7 Tryz.results7 (.tmp rfl) rfl (fun _ _ => .cons _ <| .slnil)
    · refine .skip <| .seq <| .region <| .fieldP rfl fa3026_2 rfl <| .loadP 0 fTable_2 rfl rfl ty3024 rfl <| .move rfl rfl <| .call0 (c3028 fu _ _) n3028 rfl rfl fun q4 => .assign rfl rfl <| .nil ?_
      refine .seq <| .seq <| .region <| .move rfl rfl <| .bin rfl rfl rfl rfl <| .nil ?_
      refine .cond rfl (fun _ => ?_) (fun _ => ?_)
      · refine .seq <| .region <| .assign rfl rfl <| .nil ?_
        exact .ret1 Tryz.func7 Tryz.results7 (.tmp rfl) rfl (fun _ _ => .cons _ <| .slnil)
      · refine .skip <| .seq <| .region <| .move rfl rfl <| .assign rfl rfl <| .nil ?_
        exact .ret1 Tryz.func7 Tryz.results7 (.tmp rfl) rfl (fun _ _ => .cons _ <| .slnil)
def f3085 (a0 : Val) : Option Val := some ({ ({ ({ d0_47 with kind := a0.kind } : Val) with n := a0.n } : Val) with text := a0.text } : Val)
theorem n3085 : ∃ fn c, Tryz.prog.funcs[85]? = some fn ∧ (fn.name == "runtime.NumGoroutine") = false ∧ fn.body = some c := ⟨_, _, Tryz.func85, by kernel_rfl, rfl⟩
theorem c3085 (a0 : Val) : Ctr Tryz.prog 85 [tVal.va a0] [] (f3085 a0) (fun _ _ => []) (fun q => tVal.va q) := by
  refine Ctr.of_W Tryz.func85 rfl Tryz.ntmps85 rfl fun A w => ?_
  unfold f3085
  refine .seq <| .region <| .box (T := tVal) rfl rfl fun b1 => .alloc tVal d0_47 [] z47 rfl fun b2 => .nil ?_
  refine .seq <| .region <| .alloc tVal d0_47 [] z47 rfl fun b3 => .nil ?_
  refine .seq <| .region <| .fieldP rfl fa3040_0 rfl <| .loadP 2 fVal_0 rfl rfl ty3 rfl <| .fieldP rfl fa47_0 rfl <| .storeP 0 fVal_0 rfl rfl rfl ty3 <| .nil ?_
  refine .seq <| .region <| .fieldP rfl fa3040_1 rfl <| .loadP 2 fVal_1 rfl rfl ty3 rfl <| .fieldP rfl fa47_1 rfl <| .storeP 0 fVal_1 rfl rfl rfl ty3 <| .nil ?_
  refine .seq <| .region <| .fieldP rfl fa3040_2 rfl <| .loadP 2 fVal_2 rfl rfl ty9 rfl <| .fieldP rfl fa47_2 rfl <| .storeP 0 fVal_2 rfl rfl rfl ty9 <| .nil ?_
  refine .seq <| .region <| .loadP 0 (Fld.self _) rfl rfl ty47 rfl <| .storeP 1 (Fld.self _) rfl rfl rfl ty47 <| .nil ?_
  exact .ret1 Tryz.func85 Tryz.results85 (.cell 1 rfl rfl ty47) rfl (fun _ _ => .cons _ <| .cons _ <| .cons _ <| .slnil)
def f3048 (a0 : Col) : Option Col := (f3085 a0.def_).bind fun q4 => some ({ ({ ({ ({ ({ d0_52 with name := a0.name } : Col) with kind := a0.kind } : Col) with need := a0.need } : Col) with once := a0.once } : Col) with def_ := q4 } : Col)
theorem n3048 : ∃ fn c, Tryz.prog.funcs[48]? = some fn ∧ (fn.name == "runtime.NumGoroutine") = false ∧ fn.body = some c := ⟨_, _, Tryz.func48, by kernel_rfl, rfl⟩
theorem c3048 (a0 : Col) : Ctr Tryz.prog 48 [tCol.va a0] [] (f3048 a0) (fun _ _ => []) (fun q => tCol.va q) := by
  refine Ctr.of_W Tryz.func48 rfl Tryz.ntmps48 rfl fun A w => ?_
  unfold f3048
  refine .seq <| .region <| .box (T := tCol) rfl rfl fun b1 => .alloc tCol d0_52 [] z52 rfl fun b2 => .nil ?_
  refine .seq <| .region <| .alloc tCol d0_52 [] z52 rfl fun b3 => .nil ?_
  refine .seq <| .region <| .fieldP rfl fa3042_0 rfl <| .loadP 2 fCol_0 rfl rfl ty9 rfl <| .fieldP rfl fa52_0 rfl <| .storeP 0 fCol_0 rfl rfl rfl ty9 <| .nil ?_
  refine .seq <| .region <| .fieldP rfl fa3042_1 rfl <| .loadP 2 fCol_1 rfl rfl ty3 rfl <| .fieldP rfl fa52_1 rfl <| .storeP 0 fCol_1 rfl rfl rfl ty3 <| .nil ?_
  refine .seq <| .region <| .fieldP rfl fa3042_2 rfl <| .loadP 2 fCol_2 rfl rfl ty4 rfl <| .fieldP rfl fa52_2 rfl <| .storeP 0 fCol_2 rfl rfl rfl ty4 <| .nil ?_
  refine .seq <| .region <| .fieldP rfl fa3042_3 rfl <| .loadP 2 fCol_3 rfl rfl ty4 rfl <| .fieldP rfl fa52_3 rfl <| .storeP 0 fCol_3 rfl rfl rfl ty4 <| .nil ?_
  refine .seq <| .region <| .fieldP rfl fa3042_4 rfl <| .loadP 2 fCol_4 rfl rfl ty3040 rfl <| .call0 (c3085 _) n3085 rfl rfl fun q4 => .fieldP rfl fa52_4 rfl <| .storeP 0 fCol_4 rfl rfl rfl ty47 <| .nil ?_
  refine .seq <| .region <| .loadP 0 (Fld.self _) rfl rfl ty52 rfl <| .storeP 1 (Fld.self _) rfl rfl rfl ty52 <| .nil ?_
  exact .ret1 Tryz.func48 Tryz.results48 (.cell 1 rfl rfl ty52) rfl (fun _ _ => .cons _ <| .cons _ <| .cons _ <| .slnil)
def f3032_l1 (a0 : List Col) : Nat → Int → (List Col) → Option (List Col)
  | 0, _, _ => none
  | n3001 + 1, i2, i3 => cond (decide (i2 < (List.length a0 : Int))) (cond (decide (0 ≤ i2) && decide (i2 < (List.length a0 : Int))) ((f3048 (a0.getD i2.toNat default)).bind fun q4 => cond (decide (0 ≤ i2) && decide (i2 < (List.length i3 : Int))) ((f3032_l1 a0 n3001) (IntKind.i64.wrap (i2 + 1)) (i3.set i2.toNat q4)) none) none) (some i3)
def f3032 (fu : Nat) (a0 : List Col) : Option (List Col) := cond (decide (0 ≤ (List.length a0 : Int)) && decide ((List.length a0 : Int) ≤ (CAP : Int))) (f3032_l1 a0 fu 0 (List.replicate (List.length a0 : Int).toNat d0_52)) none
theorem n3032 : ∃ fn c, Tryz.prog.funcs[32]? = some fn ∧ (fn.name == "runtime.NumGoroutine") = false ∧ fn.body = some c := ⟨_, _, Tryz.func32, by kernel_rfl, rfl⟩
theorem c3032 (fu : Nat) (a0 : List Col) : CtrL Tryz.prog 32 [(tL tCol).va a0] [] (f3032 fu a0) (fun v => v) (fun q v => [arrO tCol v q]) (fun _ v => tRaw.va v) := by
  refine CtrL.of_W Tryz.func32 rfl Tryz.ntmps32 rfl fun A w => ?_
  unfold f3032
  refine .seq <| .region <| .assign rfl rfl <| .arrNil tCol <| .nil ?_
  refine .seq <| .region <| .move rfl rfl <| .lenL rfl Tryz.underlying22 rfl <| .makeSlice (T := tCol) rfl rfl Tryz.underlying28 el52 z52 rfl fun v1 => .assign rfl rfl <| .nil ?_
  refine .seq <| .seq <| .region <| .assign rfl rfl <| .nil ?_
  refine .block <| .loop <| .drop (.cons_cons _ <| .cons _ <| .slnil) <| .keep [0, 4] [3] rfl ?_
  refine (show ∀ (n3001 : Nat) (i2 : Int) (i3 : List Col), W _ _ _ _ _ ⟨[(0, (tL tCol).va a0, none), (4, isI .i64 i2, none), (3, isV v1, some v1)], [arrO tCol v1 i3]⟩ (f3032_l1 a0 n3001 i2 i3) from ?_) fu _ _
  intro n3001
  induction n3001 with
  | zero => exact fun _ _ => .stop
  | succ n3001 ih1 =>
    intro i2 i3
    refine .inLoop <| .seq <| .seq <| .region <| .move rfl rfl <| .move rfl rfl <| .lenL rfl Tryz.underlying22 rfl <| .bin rfl rfl rfl rfl <| .nil ?_
    refine .cond rfl (fun _ => ?_) (fun _ => ?_)
    · refine .skip <| .seq <| .block <| .region <| .move rfl rfl <| .move rfl rfl <| .move rfl rfl <| .move rfl rfl <| .elemAt rfl rfl Tryz.underlying22 ty3042 rfl <| .load rfl ty3042 rfl <| .call0 (c3048 _) n3048 rfl rfl fun q4 => .elemA 0 rfl rfl rfl Tryz.underlying28 ty52 rfl <| .storeA 0 (Fld.self _) rfl rfl rfl ty52 <| .nil ?_
      refine .inBlock <| .region <| .move rfl rfl <| .bin rfl rfl rfl rfl <| .assign rfl rfl <| .nil ?_
      exact .keep [0, 4] [3] rfl (ih1 _ _)
    · refine .exit rfl <| .seq <| .region <| .move rfl rfl <| .assign rfl rfl <| .nil ?_
      exact .toRaw 0 2 rfl rfl <| .retL1 v1 Tryz.func32 Tryz.results32 (.tmp rfl) rfl (fun _ _ _ h => h.1) (.cons_cons _ <| .slnil)
def f3016 (a0 : Change) : Option Change := (f3048 a0.col).bind fun q4 => some ({ ({ ({ ({ d0_56 with kind := a0.kind } : Change) with name := a0.name } : Change) with new := a0.new } : Change) with col := q4 } : Change)
theorem n3016 : ∃ fn c, Tryz.prog.funcs[16]? = some fn ∧ (fn.name == "runtime.NumGoroutine") = false ∧ fn.body = some c := ⟨_, _, Tryz.func16, by kernel_rfl, rfl⟩
theorem c3016 (a0 : Change) : Ctr Tryz.prog 16 [tChange.va a0] [] (f3016 a0) (fun _ _ => []) (fun q => tChange.va q) := by
  refine Ctr.of_W Tryz.func16 rfl Tryz.ntmps16 rfl fun A w => ?_
  unfold f3016
  refine .seq <| .region <| .box (T := tChange) rfl rfl fun b1 => .alloc tChange d0_56 [] z56 rfl fun b2 => .nil ?_
  refine .seq <| .region <| .alloc tChange d0_56 [] z56 rfl fun b3 => .nil ?_
  refine .seq <| .region <| .fieldP rfl fa3044_0 rfl <| .loadP 2 fChange_0 rfl rfl ty3 rfl <| .fieldP rfl fa56_0 rfl <| .storeP 0 fChange_0 rfl rfl rfl ty3 <| .nil ?_
  refine .seq <| .region <| .fieldP rfl fa3044_1 rfl <| .loadP 2 fChange_1 rfl rfl ty9 rfl <| .fieldP rfl fa56_1 rfl <| .storeP 0 fChange_1 rfl rfl rfl ty9 <| .nil ?_
  refine .seq <| .region <| .fieldP rfl fa3044_2 rfl <| .loadP 2 fChange_2 rfl rfl ty9 rfl <| .fieldP rfl fa56_2 rfl <| .storeP 0 fChange_2 rfl rfl rfl ty9 <| .nil ?_
  refine .seq <| .region <| .fieldP rfl fa3044_3 rfl <| .loadP 2 fChange_3 rfl rfl ty3042 rfl <| .call0 (c3048 _) n3048 rfl rfl fun q4 => .fieldP rfl fa56_3 rfl <| .storeP 0 fChange_3 rfl rfl rfl ty52 <| .nil ?_
  refine .seq <| .region <| .loadP 0 (Fld.self _) rfl rfl ty56 rfl <| .storeP 1 (Fld.self _) rfl rfl rfl ty56 <| .nil ?_
  exact .ret1 Tryz.func16 Tryz.results16 (.cell 1 rfl rfl ty56) rfl (fun _ _ => .cons _ <| .cons _ <| .cons _ <| .slnil)
def f3033_l1 (a0 : List Change) : Nat → Int → (List Change) → Option (List Change)
  | 0, _, _ => none
  | n3001 + 1, i2, i3 => cond (decide (i2 < (List.length a0 : Int))) (cond (decide (0 ≤ i2) && decide (i2 < (List.length a0 : Int))) ((f3016 (a0.getD i2.toNat default)).bind fun q4 => cond (decide (0 ≤ i2) && decide (i2 < (List.length i3 : Int))) ((f3033_l1 a0 n3001) (IntKind.i64.wrap (i2 + 1)) (i3.set i2.toNat q4)) none) none) (some i3)
def f3033 (fu : Nat) (a0 : List Change) : Option (List Change) := cond (decide (0 ≤ (List.length a0 : Int)) && decide ((List.length a0 : Int) ≤ (CAP : Int))) (f3033_l1 a0 fu 0 (List.replicate (List.length a0 : Int).toNat d0_56)) none
theorem n3033 : ∃ fn c, Tryz.prog.funcs[33]? = some fn ∧ (fn.name == "runtime.NumGoroutine") = false ∧ fn.body = some c := ⟨_, _, Tryz.func33, by kernel_rfl, rfl⟩
theorem c3033 (fu : Nat) (a0 : List Change) : CtrL Tryz.prog 33 [(tL tChange).va a0] [] (f3033 fu a0) (fun v => v) (fun q v => [arrO tChange v q]) (fun _ v => tRaw.va v) := by
  refine CtrL.of_W Tryz.func33 rfl Tryz.ntmps33 rfl fun A w => ?_
  unfold f3033
  refine .seq <| .region <| .assign rfl rfl <| .arrNil tChange <| .nil ?_
  refine .seq <| .region <| .move rfl rfl <| .lenL rfl Tryz.underlying23 rfl <| .makeSlice (T := tChange) rfl rfl Tryz.underlying29 el56 z56 rfl fun v1 => .assign rfl rfl <| .nil ?_
  refine .seq <| .seq <| .region <| .assign rfl rfl <| .nil ?_
  refine .block <| .loop <| .drop (.cons_cons _ <| .cons _ <| .slnil) <| .keep [0, 4] [3] rfl ?_
  refine (show ∀ (n3001 : Nat) (i2 : Int) (i3 : List Change), W _ _ _ _ _ ⟨[(0, (tL tChange).va a0, none), (4, isI .i64 i2, none), (3, isV v1, some v1)], [arrO tChange v1 i3]⟩ (f3033_l1 a0 n3001 i2 i3) from ?_) fu _ _
  intro n3001
  induction n3001 with
  | zero => exact fun _ _ => .stop
  | succ n3001 ih1 =>
    intro i2 i3
    refine .inLoop <| .seq <| .seq <| .region <| .move rfl rfl <| .move rfl rfl <| .lenL rfl Tryz.underlying23 rfl <| .bin rfl rfl rfl rfl <| .nil ?_
    refine .cond rfl (fun _ => ?_) (fun _ => ?_)
    · refine .skip <| .seq <| .block <| .region <| .move rfl rfl <| .move rfl rfl <| .move rfl rfl <| .move rfl rfl <| .elemAt rfl rfl Tryz.underlying23 ty3044 rfl <| .load rfl ty3044 rfl <| .call0 (c3016 _) n3016 rfl rfl fun q4 => .elemA 0 rfl rfl rfl Tryz.underlying29 ty56 rfl <| .storeA 0 (Fld.self _) rfl rfl rfl ty56 <| .nil ?_
      refine .inBlock <| .region <| .move rfl rfl <| .bin rfl rfl rfl rfl <| .assign rfl rfl <| .nil ?_
      exact .keep [0, 4] [3] rfl (ih1 _ _)
    · refine .exit rfl <| .seq <| .region <| .move rfl rfl <| .assign rfl rfl <| .nil ?_
      exact .toRaw 0 2 rfl rfl <| .retL1 v1 Tryz.func33 Tryz.results33 (.tmp rfl) rfl (fun _ _ _ h => h.1) (.cons_cons _ <| .slnil)
def f3097_l1 (a0 : List Val) : Nat → Int → (List Val) → Option (List Val)
  | 0, _, _ => none
  | n3001 + 1, i2, i3 => cond (decide (i2 < (List.length a0 : Int))) (cond (decide (0 ≤ i2) && decide (i2 < (List.length a0 : Int))) ((f3085 (a0.getD i2.toNat default)).bind fun q4 => cond (decide (0 ≤ i2) && decide (i2 < (List.length i3 : Int))) ((f3097_l1 a0 n3001) (IntKind.i64.wrap (i2 + 1)) (i3.set i2.toNat q4)) none) none) (some i3)
def f3097 (fu : Nat) (a0 : List Val) : Option (List Val) := cond (decide (0 ≤ (List.length a0 : Int)) && decide ((List.length a0 : Int) ≤ (CAP : Int))) (f3097_l1 a0 fu 0 (List.replicate (List.length a0 : Int).toNat d0_47)) none
theorem n3097 : ∃ fn c, Tryz.prog.funcs[97]? = some fn ∧ (fn.name == "runtime.NumGoroutine") = false ∧ fn.body = some c := ⟨_, _, Tryz.func97, by kernel_rfl, rfl⟩
theorem c3097 (fu : Nat) (a0 : List Val) : CtrL Tryz.prog 97 [(tL tVal).va a0] [] (f3097 fu a0) (fun v => v) (fun q v => [arrO tVal v q]) (fun _ v => tRaw.va v) := by
  refine CtrL.of_W Tryz.func97 rfl Tryz.ntmps97 rfl fun A w => ?_
  unfold f3097
  refine .seq <| .region <| .assign rfl rfl <| .arrNil tVal <| .nil ?_
  refine .seq <| .region <| .move rfl rfl <| .lenL rfl Tryz.underlying93 rfl <| .makeSlice (T := tVal) rfl rfl Tryz.underlying102 el47 z47 rfl fun v1 => .assign rfl rfl <| .nil ?_
  refine .seq <| .seq <| .region <| .assign rfl rfl <| .nil ?_
  refine .block <| .loop <| .drop (.cons_cons _ <| .cons _ <| .slnil) <| .keep [0, 4] [3] rfl ?_
  refine (show ∀ (n3001 : Nat) (i2 : Int) (i3 : List Val), W _ _ _ _ _ ⟨[(0, (tL tVal).va a0, none), (4, isI .i64 i2, none), (3, isV v1, some v1)], [arrO tVal v1 i3]⟩ (f3097_l1 a0 n3001 i2 i3) from ?_) fu _ _
  intro n3001
  induction n3001 with
  | zero => exact fun _ _ => .stop
  | succ n3001 ih1 =>
    intro i2 i3
    refine .inLoop <| .seq <| .seq <| .region <| .move rfl rfl <| .move rfl rfl <| .lenL rfl Tryz.underlying93 rfl <| .bin rfl rfl rfl rfl <| .nil ?_
    refine .cond rfl (fun _ => ?_) (fun _ => ?_)
    · refine .skip <| .seq <| .block <| .region <| .move rfl rfl <| .move rfl rfl <| .move rfl rfl <| .move rfl rfl <| .elemAt rfl rfl Tryz.underlying93 ty3040 rfl <| .load rfl ty3040 rfl <| .call0 (c3085 _) n3085 rfl rfl fun q4 => .elemA 0 rfl rfl rfl Tryz.underlying102 ty47 rfl <| .storeA 0 (Fld.self _) rfl rfl rfl ty47 <| .nil ?_
      refine .inBlock <| .region <| .move rfl rfl <| .bin rfl rfl rfl rfl <| .assign rfl rfl <| .nil ?_
      exact .keep [0, 4] [3] rfl (ih1 _ _)
    · refine .exit rfl <| .seq <| .region <| .move rfl rfl <| .assign rfl rfl <| .nil ?_
      exact .toRaw 0 2 rfl rfl <| .retL1 v1 Tryz.func97 Tryz.results97 (.tmp rfl) rfl (fun _ _ _ h => h.1) (.cons_cons _ <| .slnil)
def f3065 (fu : Nat) (a0 : Row) : Option Row := (f3097 fu a0.vals).bind fun q4 => some ({ ({ ({ d0_37 with id := a0.id } : Row) with ver := a0.ver } : Row) with vals := q4 } : Row)
theorem n3065 : ∃ fn c, Tryz.prog.funcs[65]? = some fn ∧ (fn.name == "runtime.NumGoroutine") = false ∧ fn.body = some c := ⟨_, _, Tryz.func65, by kernel_rfl, rfl⟩
def f3034_l1 (fu : Nat) (a0 : List Row) : Nat → Int → (List Row) → Option (List Row)
  | 0, _, _ => none
  | n3001 + 1, i2, i3 => cond (decide (i2 < (List.length a0 : Int))) (cond (decide (0 ≤ i2) && decide (i2 < (List.length a0 : Int))) ((f3065 fu (a0.getD i2.toNat default)).bind fun q4 => cond (decide (0 ≤ i2) && decide (i2 < (List.length i3 : Int))) ((f3034_l1 fu a0 n3001) (IntKind.i64.wrap (i2 + 1)) (i3.set i2.toNat q4)) none) none) (some i3)
def f3034 (fu : Nat) (a0 : List Row) : Option (List Row) := cond (decide (0 ≤ (List.length a0 : Int)) && decide ((List.length a0 : Int) ≤ (CAP : Int))) (f3034_l1 fu a0 fu 0 (List.replicate (List.length a0 : Int).toNat d0_37)) none
theorem n3034 : ∃ fn c, Tryz.prog.funcs[34]? = some fn ∧ (fn.name == "runtime.NumGoroutine") = false ∧ fn.body = some c := ⟨_, _, Tryz.func34, by kernel_rfl, rfl⟩
def f3009 (fu : Nat) (a0 : Table) : Option Table := (f3032 fu a0.first).bind fun q4 => (f3033 fu a0.changes).bind fun q5 => (f3034 fu a0.rows).bind fun q6 => some ({ ({ ({ ({ d0_27 with first := q4 } : Table) with changes := q5 } : Table) with rows := q6 } : Table) with next := a0.next } : Table)
theorem n3009 : ∃ fn c, Tryz.prog.funcs[9]? = some fn ∧ (fn.name == "runtime.NumGoroutine") = false ∧ fn.body = some c := ⟨_, _, Tryz.func9, by kernel_rfl, rfl⟩
def f3093 (a0 : Val) (a1 : Val) : Option Bool := cond (!decide (a0.kind = a1.kind)) (some false) (cond (!decide (a0.n = a1.n)) (some false) (cond (!decide (a0.text = a1.text)) (some false) (some true)))
theorem n3093 : ∃ fn c, Tryz.prog.funcs[93]? = some fn ∧ (fn.name == "runtime.NumGoroutine") = false ∧ fn.body = some c := ⟨_, _, Tryz.func93, by kernel_rfl, rfl⟩
theorem c3093 (a0 : Val) (a1 : Val) : Ctr Tryz.prog 93 [tVal.va a0, tVal.va a1] [] (f3093 a0 a1) (fun _ _ => []) (fun q => isB q) := by
  refine Ctr.of_W Tryz.func93 rfl Tryz.ntmps93 rfl fun A w => ?_
  unfold f3093
  refine .seq <| .region <| .box (T := tVal) rfl rfl fun b1 => .box (T := tVal) rfl rfl fun b2 => .assign rfl rfl <| .nil ?_
  refine .seq <| .seq <| .region <| .fieldP rfl fa47_0 rfl <| .loadP 1 fVal_0 rfl rfl ty3 rfl <| .fieldP rfl fa47_0 rfl <| .loadP 0 fVal_0 rfl rfl ty3 rfl <| .bin rfl rfl rfl rfl <| .nil ?_
  refine .cond rfl (fun _ => ?_) (fun _ => ?_)
  · refine .seq <| .region <| .assign rfl rfl <| .nil ?_
    exact .ret1 Tryz.func93 Tryz.results93 (.tmp rfl) rfl (fun _ _ => .cons _ <| .cons _ <| .slnil)
  · refine .skip <| .seq <| .seq <| .region <| .fieldP rfl fa47_1 rfl <| .loadP 1 fVal_1 rfl rfl ty3 rfl <| .fieldP rfl fa47_1 rfl <| .loadP 0 fVal_1 rfl rfl ty3 rfl <| .bin rfl rfl rfl rfl <| .nil ?_
    refine .cond rfl (fun _ => ?_) (fun _ => ?_)
    · refine .seq <| .region <| .assign rfl rfl <| .nil ?_
      exact .ret1 Tryz.func93 Tryz.results93 (.tmp rfl) rfl (fun _ _ => .cons _ <| .cons _ <| .slnil)
    · refine .skip <| .seq <| .seq <| .region <| .fieldP rfl fa47_2 rfl <| .loadP 1 fVal_2 rfl rfl ty9 rfl <| .fieldP rfl fa47_2 rfl <| .loadP 0 fVal_2 rfl rfl ty9 rfl <| .sne rfl rfl rfl <| .nil ?_
      refine .cond rfl (fun _ => ?_) (fun _ => ?_)
      · refine .seq <| .region <| .assign rfl rfl <| .nil ?_
        exact .ret1 Tryz.func93 Tryz.results93 (.tmp rfl) rfl (fun _ _ => .cons _ <| .cons _ <| .slnil)
      · refine .skip <| .seq <| .region <| .assign rfl rfl <| .nil ?_
        exact .ret1 Tryz.func93 Tryz.results93 (.tmp rfl) rfl (fun _ _ => .cons _ <| .cons _ <| .slnil)
def f3076 (a0 : Col) (a1 : Col) : Option Bool := cond (!decide (a0.name = a1.name)) (some false) (cond (!decide (a0.kind = a1.kind)) (some false) (cond (!(a0.need == a1.need)) (some false) (cond (!(a0.once == a1.once)) (some false) ((f3093 a0.def_ a1.def_).bind fun q3 => cond (!q3) (some false) (some true)))))
theorem n3076 : ∃ fn c, Tryz.prog.funcs[76]? = some fn ∧ (fn.name == "runtime.NumGoroutine") = false ∧ fn.body = some c := ⟨_, _, Tryz.func76, by kernel_rfl, rfl⟩
theorem c3076 (a0 : Col) (a1 : Col) : Ctr Tryz.prog 76 [tCol.va a0, tCol.va a1] [] (f3076 a0 a1) (fun _ _ => []) (fun q => isB q) := by
  refine Ctr.of_W Tryz.func76 rfl Tryz.ntmps76 rfl fun A w => ?_
  unfold f3076
  refine .seq <| .region <| .box (T := tCol) rfl rfl fun b1 => .box (T := tCol) rfl rfl fun b2 => .assign rfl rfl <| .nil ?_
  refine .seq <| .seq <| .region <| .fieldP rfl fa52_0 rfl <| .loadP 1 fCol_0 rfl rfl ty9 rfl <| .fieldP rfl fa52_0 rfl <| .loadP 0 fCol_0 rfl rfl ty9 rfl <| .sne rfl rfl rfl <| .nil ?_
  refine .cond rfl (fun _ => ?_) (fun _ => ?_)
  · refine .seq <| .region <| .assign rfl rfl <| .nil ?_
    exact .ret1 Tryz.func76 Tryz.results76 (.tmp rfl) rfl (fun _ _ => .cons _ <| .cons _ <| .slnil)
  · refine .skip <| .seq <| .seq <| .region <| .fieldP rfl fa52_1 rfl <| .loadP 1 fCol_1 rfl rfl ty3 rfl <| .fieldP rfl fa52_1 rfl <| .loadP 0 fCol_1 rfl rfl ty3 rfl <| .bin rfl rfl rfl rfl <| .nil ?_
    refine .cond rfl (fun _ => ?_) (fun _ => ?_)
    · refine .seq <| .region <| .assign rfl rfl <| .nil ?_
      exact .ret1 Tryz.func76 Tryz.results76 (.tmp rfl) rfl (fun _ _ => .cons _ <| .cons _ <| .slnil)
    · refine .skip <| .seq <| .seq <| .region <| .fieldP rfl fa52_2 rfl <| .loadP 1 fCol_2 rfl rfl ty4 rfl <| .fieldP rfl fa52_2 rfl <| .loadP 0 fCol_2 rfl rfl ty4 rfl <| .bne rfl rfl Tryz.underlying4 rfl <| .nil ?_
      refine .cond rfl (fun _ => ?_) (fun _ => ?_)
      · refine .seq <| .region <| .assign rfl rfl <| .nil ?_
        exact .ret1 Tryz.func76 Tryz.results76 (.tmp rfl) rfl (fun _ _ => .cons _ <| .cons _ <| .slnil)
      · refine .skip <| .seq <| .seq <| .region <| .fieldP rfl fa52_3 rfl <| .loadP 1 fCol_3 rfl rfl ty4 rfl <| .fieldP rfl fa52_3 rfl <| .loadP 0 fCol_3 rfl rfl ty4 rfl <| .bne rfl rfl Tryz.underlying4 rfl <| .nil ?_
        refine .cond rfl (fun _ => ?_) (fun _ => ?_)
        · refine .seq <| .region <| .assign rfl rfl <| .nil ?_
          exact .ret1 Tryz.func76 Tryz.results76 (.tmp rfl) rfl (fun _ _ => .cons _ <| .cons _ <| .slnil)
        · refine .skip <| .seq <| .seq <| .region <| .fieldP rfl fa52_4 rfl <| .loadP 1 fCol_4 rfl rfl ty47 rfl <| .fieldP rfl fa52_4 rfl <| .loadP 0 fCol_4 rfl rfl ty47 rfl <| .call0 (c3093 _ _) n3093 rfl rfl fun q3 => .not rfl rfl <| .nil ?_
          refine .cond rfl (fun _ => ?_) (fun _ => ?_)
          · refine .seq <| .region <| .assign rfl rfl <| .nil ?_
            exact .ret1 Tryz.func76 Tryz.results76 (.tmp rfl) rfl (fun _ _ => .cons _ <| .cons _ <| .slnil)
          · refine .skip <| .seq <| .region <| .assign rfl rfl <| .nil ?_
            exact .ret1 Tryz.func76 Tryz.results76 (.tmp rfl) rfl (fun _ _ => .cons _ <| .cons _ <| .slnil)
def f3037_l1 (a0 : List Col) (a1 : List Col) : Nat → Int → Option Bool
  | 0, _ => none
  | n3001 + 1, i1 => cond (decide (i1 < (List.length a0 : Int))) (cond (decide (0 ≤ i1) && decide (i1 < (List.length a0 : Int))) (cond (decide (0 ≤ i1) && decide (i1 < (List.length a1 : Int))) ((f3076 (a0.getD i1.toNat default) (a1.getD i1.toNat default)).bind fun q2 => cond (!q2) (some false) ((f3037_l1 a0 a1 n3001) (IntKind.i64.wrap (i1 + 1)))) none) none) (some true)
def f3037 (fu : Nat) (a0 : List Col) (a1 : List Col) : Option Bool := cond (!decide ((List.length a0 : Int) = (List.length a1 : Int))) (some false) (f3037_l1 a0 a1 fu 0)
theorem n3037 : ∃ fn c, Tryz.prog.funcs[37]? = some fn ∧ (fn.name == "runtime.NumGoroutine") = false ∧ fn.body = some c := ⟨_, _, Tryz.func37, by kernel_rfl, rfl⟩
theorem c3037 (fu : Nat) (a0 : List Col) (a1 : List Col) : Ctr Tryz.prog 37 [(tL tCol).va a0, (tL tCol).va a1] [] (f3037 fu a0 a1) (fun _ _ => []) (fun q => isB q) := by
  refine Ctr.of_W Tryz.func37 rfl Tryz.ntmps37 rfl fun A w => ?_
  unfold f3037
  refine .seq <| .region <| .assign rfl rfl <| .nil ?_
  refine .seq <| .seq <| .region <| .move rfl rfl <| .lenL rfl Tryz.underlying28 rfl <| .move rfl rfl <| .lenL rfl Tryz.underlying28 rfl <| .bin rfl rfl rfl rfl <| .nil ?_
  refine .cond rfl (fun _ => ?_) (fun _ => ?_)
  · refine .seq <| .region <| .assign rfl rfl <| .nil ?_
    exact .ret1 Tryz.func37 Tryz.results37 (.tmp rfl) rfl (fun _ _ => .slnil)
  · refine .skip <| .seq <| .seq <| .region <| .assign rfl rfl <| .nil ?_
    refine .block <| .loop <| .keep [0, 1, 5] [] rfl ?_
    refine (show ∀ (n3001 : Nat) (i1 : Int), W _ _ _ _ _ ⟨[(0, (tL tCol).va a0, none), (1, (tL tCol).va a1, none), (5, isI .i64 i1, none)], []⟩ (f3037_l1 a0 a1 n3001 i1) from ?_) fu _
    intro n3001
    induction n3001 with
    | zero => exact fun _ => .stop
    | succ n3001 ih1 =>
      intro i1
      refine .inLoop <| .seq <| .seq <| .region <| .move rfl rfl <| .move rfl rfl <| .lenL rfl Tryz.underlying28 rfl <| .bin rfl rfl rfl rfl <| .nil ?_
      refine .cond rfl (fun _ => ?_) (fun _ => ?_)
      · refine .skip <| .seq <| .block <| .seq <| .pT fun h3 => ?_
        refine .pT fun h4 => ?_
        refine .draw 8 [] mix (by kernel_rfl) (.cons (fun _ _ _ hP hE h => .move (hE.op rfl) rfl <| h) <| .cons (fun _ _ _ hP hE h => .move (hE.op rfl) rfl <| h) <| .cons (fun _ _ _ hP hE h => .useC h3 <| .elemAt (hE.op rfl) (hE.op rfl) Tryz.underlying28 ty52 rfl <| h) <| .cons (fun _ _ _ hP hE h => .load (hE.op rfl) ty52 rfl <| h) <| .cons (fun _ _ _ hP hE h => .move (hE.op rfl) rfl <| h) <| .cons (fun _ _ _ hP hE h => .move (hE.op rfl) rfl <| h) <| .cons (fun _ _ _ hP hE h => .useC h4 <| .elemAt (hE.op rfl) (hE.op rfl) Tryz.underlying28 ty52 rfl <| h) <| .cons (fun _ _ _ hP hE h => .load (hE.op rfl) ty52 rfl <| h) <| .nil) rfl <| .call0 (c3076 _ _) n3076 rfl rfl fun q2 => .not rfl rfl <| .nil ?_
        refine .cond rfl (fun _ => ?_) (fun _ => ?_)
        · refine .seq <| .region <| .assign rfl rfl <| .nil ?_
          exact .ret1 Tryz.func37 Tryz.results37 (.tmp rfl) rfl (fun _ _ => .slnil)
        · refine .skip <| .inBlock <| .region <| .move rfl rfl <| .bin rfl rfl rfl rfl <| .assign rfl rfl <| .nil ?_
          exact .keep [0, 1, 5] [] rfl (ih1 _)
      · refine .exit rfl <| .seq <| .region <| .assign rfl rfl <| .nil ?_
        exact .ret1 Tryz.func37 Tryz.results37 (.tmp rfl) rfl (fun _ _ => .slnil)
def f3077 (a0 : Change) (a1 : Change) : Option Bool := cond (!decide (a0.kind = a1.kind)) (some false) (cond (!decide (a0.name = a1.name)) (some false) (cond (!decide (a0.new = a1.new)) (some false) ((f3076 a0.col a1.col).bind fun q3 => cond (!q3) (some false) (some true))))
theorem n3077 : ∃ fn c, Tryz.prog.funcs[77]? = some fn ∧ (fn.name == "runtime.NumGoroutine") = false ∧ fn.body = some c := ⟨_, _, Tryz.func77, by kernel_rfl, rfl⟩
theorem c3077 (a0 : Change) (a1 : Change) : Ctr Tryz.prog 77 [tChange.va a0, tChange.va a1] [] (f3077 a0 a1) (fun _ _ => []) (fun q => isB q) := by
  refine Ctr.of_W Tryz.func77 rfl Tryz.ntmps77 rfl fun A w => ?_
  unfold f3077
  refine .seq <| .region <| .box (T := tChange) rfl rfl fun b1 => .box (T := tChange) rfl rfl fun b2 => .assign rfl rfl <| .nil ?_
  refine .seq <| .seq <| .region <| .fieldP rfl fa56_0 rfl <| .loadP 1 fChange_0 rfl rfl ty3 rfl <| .fieldP rfl fa56_0 rfl <| .loadP 0 fChange_0 rfl rfl ty3 rfl <| .bin rfl rfl rfl rfl <| .nil ?_
  refine .cond rfl (fun _ => ?_) (fun _ => ?_)
  · refine .seq <| .region <| .assign rfl rfl <| .nil ?_
    exact .ret1 Tryz.func77 Tryz.results77 (.tmp rfl) rfl (fun _ _ => .cons _ <| .cons _ <| .slnil)
  · refine .skip <| .seq <| .seq <| .region <| .fieldP rfl fa56_1 rfl <| .loadP 1 fChange_1 rfl rfl ty9 rfl <| .fieldP rfl fa56_1 rfl <| .loadP 0 fChange_1 rfl rfl ty9 rfl <| .sne rfl rfl rfl <| .nil ?_
    refine .cond rfl (fun _ => ?_) (fun _ => ?_)
    · refine .seq <| .region <| .assign rfl rfl <| .nil ?_
      exact .ret1 Tryz.func77 Tryz.results77 (.tmp rfl) rfl (fun _ _ => .cons _ <| .cons _ <| .slnil)
    · refine .skip <| .seq <| .seq <| .region <| .fieldP rfl fa56_2 rfl <| .loadP 1 fChange_2 rfl rfl ty9 rfl <| .fieldP rfl fa56_2 rfl <| .loadP 0 fChange_2 rfl rfl ty9 rfl <| .sne rfl rfl rfl <| .nil ?_
      refine .cond rfl (fun _ => ?_) (fun _ => ?_)
      · refine .seq <| .region <| .assign rfl rfl <| .nil ?_
        exact .ret1 Tryz.func77 Tryz.results77 (.tmp rfl) rfl (fun _ _ => .cons _ <| .cons _ <| .slnil)
      · refine .skip <| .seq <| .seq <| .region <| .fieldP rfl fa56_3 rfl <| .loadP 1 fChange_3 rfl rfl ty52 rfl <| .fieldP rfl fa56_3 rfl <| .loadP 0 fChange_3 rfl rfl ty52 rfl <| .call0 (c3076 _ _) n3076 rfl rfl fun q3 => .not rfl rfl <| .nil ?_
        refine .cond rfl (fun _ => ?_) (fun _ => ?_)
        · refine .seq <| .region <| .assign rfl rfl <| .nil ?_
          exact .ret1 Tryz.func77 Tryz.results77 (.tmp rfl) rfl (fun _ _ => .cons _ <| .cons _ <| .slnil)
        · refine .skip <| .seq <| .region <| .assign rfl rfl <| .nil ?_
          exact .ret1 Tryz.func77 Tryz.results77 (.tmp rfl) rfl (fun _ _ => .cons _ <| .cons _ <| .slnil)
end Go.Proofs.YtejobmamkeoheaaGreatDoor
