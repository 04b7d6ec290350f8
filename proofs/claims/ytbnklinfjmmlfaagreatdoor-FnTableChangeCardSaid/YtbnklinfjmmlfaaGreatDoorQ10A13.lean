/- Functions of the program: what each answers, and that the machine answers so. -/
import Derived.Test.YtbnklinfjmmlfaaGreatDoorQ10A12
import Derived.KernelRfl
set_option linter.unusedVariables false
set_option linter.unusedSimpArgs false
set_option linter.deprecated false
set_option linter.unusedSectionVars false
set_option linter.all false
namespace Go.Proofs.YtbnklinfjmmlfaaGreatDoor
open Go Go.HL
def f35 (fu : Nat) (a0 : List Col) (a1 : Change) : Option ((List Col) × Bool) := (f67 fu a0).bind fun q2 => cond (!q2) (some (([] : List Col), false)) ((f78 fu a0 a1).bind fun q3 => some (q3.1, q3.2))
theorem n35 : ∃ fn c, Tryz.prog.funcs[35]? = some fn ∧ (fn.name == "runtime.NumGoroutine") = false ∧ fn.body = some c := ⟨_, _, Tryz.func35, by kernel_rfl, rfl⟩
theorem c35 (fu : Nat) (a0 : List Col) (a1 : Change) : Ctr Tryz.prog 35 [(tL tCol).va a0, tChange.va a1] [] (f35 fu a0 a1) (fun _ _ => []) (fun q => tup [(tL tCol).va q.1, isB q.2]) := by
  refine Ctr.of_W Tryz.func35 rfl Tryz.ntmps35 rfl fun A w => ?_
  unfold f35
  refine .seq <| .region <| .box (T := tChange) rfl rfl fun b1 => .assignNil tCol rfl <| .assign rfl rfl <| .nil ?_
  refine .seq <| .seq <| .region <| .move rfl rfl <| .call0 (c67 fu _) n67 rfl rfl fun q2 => .not rfl rfl <| .nil ?_
  refine .cond rfl (fun _ => ?_) (fun _ => ?_)
  · refine .seq <| .region <| .assignNil tCol rfl <| .assign rfl rfl <| .nil ?_
    exact .ret2 Tryz.func35 Tryz.results35 (.tmp rfl) (.tmp rfl) rfl (fun _ => .cons _ <| .slnil)
  · refine .skip <| .seq <| .region <| .move rfl rfl <| .loadP 0 (Fld.self _) rfl rfl ty56 rfl <| .call0 (c78 fu _ _) n78 rfl rfl fun q3 => .extract rfl rfl rfl <| .extract rfl rfl rfl <| .assign rfl rfl <| .assign rfl rfl <| .nil ?_
    exact .ret2 Tryz.func35 Tryz.results35 (.tmp rfl) (.tmp rfl) rfl (fun _ => .cons _ <| .slnil)
def f36_j1 (fu : Nat) (a0 : List Col) (a1 : Change) (a2 : List Val) (i3 : Bool) : Option (List Val) := cond i3 (some ([] : List Val)) ((f79 fu a0 a1 a2).bind fun q4 => some q4)
def f36 (fu : Nat) (a0 : List Col) (a1 : Change) (a2 : List Val) : Option (List Val) := (f35 fu a0 a1).bind fun q2 => cond (!q2.2) (f36_j1 fu a0 a1 a2 true) (f36_j1 fu a0 a1 a2 (!decide ((List.length a2 : Int) = (List.length a0 : Int))))
theorem n36 : ∃ fn c, Tryz.prog.funcs[36]? = some fn ∧ (fn.name == "runtime.NumGoroutine") = false ∧ fn.body = some c := ⟨_, _, Tryz.func36, by kernel_rfl, rfl⟩
theorem c36 (fu : Nat) (a0 : List Col) (a1 : Change) (a2 : List Val) : Ctr Tryz.prog 36 [(tL tCol).va a0, tChange.va a1, (tL tVal).va a2] [] (f36 fu a0 a1 a2) (fun _ _ => []) (fun q => (tL tVal).va q) := by
  refine Ctr.of_W Tryz.func36 rfl Tryz.ntmps36 rfl fun A w => ?_
  unfold f36
  refine .seq <| .region <| .box (T := tChange) rfl rfl fun b1 => .assignNil tVal rfl <| .nil ?_
  refine .seq <| .seq <| .region <| .move rfl rfl <| .loadP 0 (Fld.self _) rfl rfl ty56 rfl <| .call0 (c35 fu _ _) n35 rfl rfl fun q2 => .move rfl rfl <| .extract rfl rfl rfl <| .extract rfl rfl rfl <| .assign rfl rfl <| .assign rfl rfl <| .nil ?_
  refine .seq <| .join1 (fun i3 => ⟨[(0, (tL tCol).va a0, none), (2, (tL tVal).va a2, none), (4, isP b1 0, none), (23, isB i3, none)], [boxO b1 tChange a1 []]⟩) (fun i3 => f36_j1 fu a0 a1 a2 i3) (fun i3 => ?_) (fun hj1 => ?_)
  · refine .cond rfl (fun _ => ?_) (fun _ => ?_)
    · refine .seq <| .region <| .assignNil tVal rfl <| .nil ?_
      exact .ret1 Tryz.func36 Tryz.results36 (.tmp rfl) rfl (fun _ _ => .cons _ <| .slnil)
    · refine .skip <| .seq <| .region <| .move rfl rfl <| .loadP 0 (Fld.self _) rfl rfl ty56 rfl <| .move rfl rfl <| .call0 (CtrL.plain (c79 fu _ _ _)) n79 rfl rfl fun q4 => .assign rfl rfl <| .nil ?_
      exact .ret1 Tryz.func36 Tryz.results36 (.tmp rfl) rfl (fun _ _ => .cons _ <| .slnil)
  · refine .region <| .move rfl rfl <| .not rfl rfl <| .move rfl rfl <| .split 17 rfl (fun _ => ?_) (fun _ => ?_)
    · refine .off rfl rfl rfl <| .off rfl rfl rfl <| .off rfl rfl rfl <| .off rfl rfl rfl <| .off rfl rfl rfl <| .pickT rfl rfl rfl <| .nil ?_
      exact .keep [0, 2, 4, 23] [] rfl (hj1 _)
    · refine .on rfl rfl <| .move rfl rfl <| .on rfl rfl <| .lenL rfl Tryz.underlying32 rfl <| .on rfl rfl <| .move rfl rfl <| .on rfl rfl <| .lenL rfl Tryz.underlying23 rfl <| .on rfl rfl <| .bin rfl rfl rfl rfl <| .pickF rfl rfl rfl <| .nil ?_
      exact .keep [0, 2, 4, 23] [] rfl (hj1 _)
end Go.Proofs.YtbnklinfjmmlfaaGreatDoor
