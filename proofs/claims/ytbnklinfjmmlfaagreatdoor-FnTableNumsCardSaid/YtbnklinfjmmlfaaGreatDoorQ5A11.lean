/- Functions of the program: what each answers, and that the machine answers so. -/
import Derived.Test.YtbnklinfjmmlfaaGreatDoorQ5A10
import Derived.KernelRfl
set_option linter.unusedVariables false
set_option linter.unusedSimpArgs false
set_option linter.deprecated false
set_option linter.unusedSectionVars false
set_option linter.all false
namespace Go.Proofs.YtbnklinfjmmlfaaGreatDoor
open Go Go.HL
def f27 (fu : Nat) (a0 : List Int) : Option (Table × Change) := (f60 fu a0).bind fun q3 => (f61 fu q3).bind fun q5 => (f63 fu q5.1).bind fun q7 => (f70 fu q5.2 q7).bind fun q8 => some (q5.1, q8.1)
theorem n27 : ∃ fn c, Tryz.prog.funcs[27]? = some fn ∧ (fn.name == "runtime.NumGoroutine") = false ∧ fn.body = some c := ⟨_, _, Tryz.func27, by kernel_rfl, rfl⟩
theorem c27 (fu : Nat) (a0 : List Int) : Ctr Tryz.prog 27 [(tL (tI .u8)).va a0] [] (f27 fu a0) (fun _ _ => []) (fun q => tup [tTable.va q.1, tChange.va q.2]) := by
  refine Ctr.of_W Tryz.func27 rfl Tryz.ntmps27 rfl fun A w => ?_
  unfold f27
  refine .seq <| .region <| .alloc tTable d0_27 [] z27 rfl fun b1 => .alloc tChange d0_56 [] z56 rfl fun b2 => .nil ?_
  refine .seq <| .region <| .move rfl rfl <| .callP (c60 fu _) n60 rfl rfl fun q3 b4 => .assign rfl rfl <| .nil ?_
  refine .seq <| .region <| .move rfl rfl <| .call1 0 (c61 fu _ _) rfl n61 rfl rfl fun q5 => .alloc tTable d0_27 [] z27 rfl fun b6 => .storeP 0 (Fld.self _) rfl rfl rfl ty27 <| .nil ?_
  refine .seq <| .pbind fun q7 h1 => ?_
  refine .pbind fun q8 h2 => ?_
  refine .drawS 5 [] [4] [1] mix (by kernel_rfl) (.cons (fun _ _ _ hP hE h => .loadP 0 (Fld.self _) (hE.op rfl) (hP.get rfl rfl) ty27 rfl <| h) <| .cons (fun _ _ _ hP hE h => .move (hE.op rfl) rfl <| h) <| .cons (fun _ _ _ hP hE h => .loadP 0 (Fld.self _) (hE.op rfl) (hP.get rfl rfl) ty27 rfl <| h) <| .cons (fun _ _ _ hP hE h => .bindE h1 (fun r h => .call0 (c63 fu _) n63 (hE.ops rfl) rfl h) <| h) <| .skip <| .nil) rfl <| .cons (d := 14) rfl rfl fun _ _ hE h => .bindE h2 (fun r h => .call1 1 (c70 fu _ _ _) rfl n70 (hE.ops rfl) rfl h) <| h _ _ (.same <| .hole rfl <| .same <| .same <| .nil) <| .nil <| .storeP 3 (Fld.self _) rfl rfl rfl ty27 <| .storeP 2 (Fld.self _) rfl rfl rfl ty56 <| .nil ?_
  exact .ret2 Tryz.func27 Tryz.results27 (.cell 3 rfl rfl ty27) (.cell 2 rfl rfl ty56) rfl (fun _ => .cons _ <| .cons _ <| .cons _ <| .cons _ <| .slnil)
end Go.Proofs.YtbnklinfjmmlfaaGreatDoor
