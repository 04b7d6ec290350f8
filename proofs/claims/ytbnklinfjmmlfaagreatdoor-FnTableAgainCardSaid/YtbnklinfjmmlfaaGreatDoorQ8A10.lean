/- Functions of the program: what each answers, and that the machine answers so. -/
import Derived.Test.YtbnklinfjmmlfaaGreatDoorQ8A9
import Derived.KernelRfl
set_option linter.unusedVariables false
set_option linter.unusedSimpArgs false
set_option linter.deprecated false
set_option linter.unusedSectionVars false
set_option linter.all false
namespace Go.Proofs.YtbnklinfjmmlfaaGreatDoor
open Go Go.HL
def f18_l1 (a0 : List Val) (a1 : List Val) : Nat → Int → Option Bool
  | 0, _ => none
  | n1 + 1, i1 => cond (decide (i1 < (List.length a0 : Int))) (cond (decide (0 ≤ i1) && decide (i1 < (List.length a0 : Int))) (cond (decide (0 ≤ i1) && decide (i1 < (List.length a1 : Int))) (cond (!decide ((a0.getD i1.toNat default) = (a1.getD i1.toNat default))) (some false) ((f18_l1 a0 a1 n1) (IntKind.i64.wrap (i1 + 1)))) none) none) (some true)
def f18 (fu : Nat) (a0 : List Val) (a1 : List Val) : Option Bool := cond (!decide ((List.length a0 : Int) = (List.length a1 : Int))) (some false) (f18_l1 a0 a1 fu 0)
theorem n18 : ∃ fn c, Tryz.prog.funcs[18]? = some fn ∧ (fn.name == "runtime.NumGoroutine") = false ∧ fn.body = some c := ⟨_, _, Tryz.func18, by kernel_rfl, rfl⟩
theorem c18 (fu : Nat) (a0 : List Val) (a1 : List Val) : Ctr Tryz.prog 18 [(tL tVal).va a0, (tL tVal).va a1] [] (f18 fu a0 a1) (fun _ _ => []) (fun q => isB q) := by
  refine Ctr.of_W Tryz.func18 rfl Tryz.ntmps18 rfl fun A w => ?_
  unfold f18
  refine .seq <| .region <| .assign rfl rfl <| .nil ?_
  refine .seq <| .seq <| .region <| .move rfl rfl <| .lenL rfl Tryz.underlying32 rfl <| .move rfl rfl <| .lenL rfl Tryz.underlying32 rfl <| .bin rfl rfl rfl rfl <| .nil ?_
  refine .cond rfl (fun _ => ?_) (fun _ => ?_)
  · refine .seq <| .region <| .assign rfl rfl <| .nil ?_
    exact .ret1 Tryz.func18 Tryz.results18 (.tmp rfl) rfl (fun _ _ => .slnil)
  · refine .skip <| .seq <| .seq <| .region <| .assign rfl rfl <| .nil ?_
    refine .block <| .loop <| .keep [0, 1, 5] [] rfl ?_
    refine (show ∀ (n1 : Nat) (i1 : Int), W _ _ _ _ _ ⟨[(0, (tL tVal).va a0, none), (1, (tL tVal).va a1, none), (5, isI .i64 i1, none)], []⟩ (f18_l1 a0 a1 n1 i1) from ?_) fu _
    intro n1
    induction n1 with
    | zero => exact fun _ => .stop
    | succ n1 ih1 =>
      intro i1
      refine .inLoop <| .seq <| .seq <| .region <| .move rfl rfl <| .move rfl rfl <| .lenL rfl Tryz.underlying32 rfl <| .bin rfl rfl rfl rfl <| .nil ?_
      refine .cond rfl (fun _ => ?_) (fun _ => ?_)
      · refine .skip <| .seq <| .block <| .seq <| .pT fun h3 => ?_
        refine .pT fun h4 => ?_
        refine .draw 8 [] mix (by kernel_rfl) (.cons (fun _ _ _ hP hE h => .move (hE.op rfl) rfl <| h) <| .cons (fun _ _ _ hP hE h => .move (hE.op rfl) rfl <| h) <| .cons (fun _ _ _ hP hE h => .useC h3 <| .elemAt (hE.op rfl) (hE.op rfl) Tryz.underlying32 ty47 rfl <| h) <| .cons (fun _ _ _ hP hE h => .load (hE.op rfl) ty47 rfl <| h) <| .cons (fun _ _ _ hP hE h => .move (hE.op rfl) rfl <| h) <| .cons (fun _ _ _ hP hE h => .move (hE.op rfl) rfl <| h) <| .cons (fun _ _ _ hP hE h => .useC h4 <| .elemAt (hE.op rfl) (hE.op rfl) Tryz.underlying32 ty47 rfl <| h) <| .cons (fun _ _ _ hP hE h => .load (hE.op rfl) ty47 rfl <| h) <| .nil) rfl <| .neT eq47 rfl rfl rfl <| .nil ?_
        refine .cond rfl (fun _ => ?_) (fun _ => ?_)
        · refine .seq <| .region <| .assign rfl rfl <| .nil ?_
          exact .ret1 Tryz.func18 Tryz.results18 (.tmp rfl) rfl (fun _ _ => .slnil)
        · refine .skip <| .inBlock <| .region <| .move rfl rfl <| .bin rfl rfl rfl rfl <| .assign rfl rfl <| .nil ?_
          exact .keep [0, 1, 5] [] rfl (ih1 _)
      · refine .exit rfl <| .seq <| .region <| .assign rfl rfl <| .nil ?_
        exact .ret1 Tryz.func18 Tryz.results18 (.tmp rfl) rfl (fun _ _ => .slnil)
def f98 (fu : Nat) (a0 : Table) : Option (List Col) := (f17 fu a0).bind fun q2 => cond (!q2) (some ([] : List Col)) ((f53 fu a0).bind fun q3 => some q3)
theorem n98 : ∃ fn c, Tryz.prog.funcs[98]? = some fn ∧ (fn.name == "runtime.NumGoroutine") = false ∧ fn.body = some c := ⟨_, _, Tryz.func98, by kernel_rfl, rfl⟩
theorem c98 (fu : Nat) (a0 : Table) : Ctr Tryz.prog 98 [tTable.va a0] [] (f98 fu a0) (fun _ _ => []) (fun q => (tL tCol).va q) := by
  refine Ctr.of_W Tryz.func98 rfl Tryz.ntmps98 rfl fun A w => ?_
  unfold f98
  refine .seq <| .region <| .box (T := tTable) rfl rfl fun b1 => .assignNil tCol rfl <| .nil ?_
  refine .seq <| .seq <| .region <| .loadP 0 (Fld.self _) rfl rfl ty27 rfl <| .call0 (c17 fu _) n17 rfl rfl fun q2 => .not rfl rfl <| .nil ?_
  refine .cond rfl (fun _ => ?_) (fun _ => ?_)
  · refine .seq <| .region <| .litN (T := tCol) Tryz.underlying23 el52 rfl rfl (.nil) rfl <| .assign rfl rfl <| .nil ?_
    exact .ret1 Tryz.func98 Tryz.results98 (.tmp rfl) rfl (fun _ _ => .cons _ <| .slnil)
  · refine .skip <| .seq <| .region <| .loadP 0 (Fld.self _) rfl rfl ty27 rfl <| .call0 (c53 fu _) n53 rfl rfl fun q3 => .assign rfl rfl <| .nil ?_
    exact .ret1 Tryz.func98 Tryz.results98 (.tmp rfl) rfl (fun _ _ => .cons _ <| .slnil)
def f63 (fu : Nat) (a0 : Table) : Option (List Col) := (f98 fu a0).bind fun q2 => some q2
theorem n63 : ∃ fn c, Tryz.prog.funcs[63]? = some fn ∧ (fn.name == "runtime.NumGoroutine") = false ∧ fn.body = some c := ⟨_, _, Tryz.func63, by kernel_rfl, rfl⟩
theorem c63 (fu : Nat) (a0 : Table) : Ctr Tryz.prog 63 [tTable.va a0] [] (f63 fu a0) (fun _ _ => []) (fun q => (tL tCol).va q) := by
  refine Ctr.of_W Tryz.func63 rfl Tryz.ntmps63 rfl fun A w => ?_
  unfold f63
  refine .seq <| .region <| .box (T := tTable) rfl rfl fun b1 => .assignNil tCol rfl <| .nil ?_
  refine .seq <| .region <| .loadP 0 (Fld.self _) rfl rfl ty27 rfl <| .call0 (c98 fu _) n98 rfl rfl fun q2 => .assign rfl rfl <| .nil ?_
  exact .ret1 Tryz.func63 Tryz.results63 (.tmp rfl) rfl (fun _ _ => .cons _ <| .slnil)
def f23 (fu : Nat) (a0 : Table) : Option (List Col) := (f19 fu a0).bind fun q2 => cond (!q2) (some ([] : List Col)) ((f66 fu a0).bind fun q3 => some q3)
theorem n23 : ∃ fn c, Tryz.prog.funcs[23]? = some fn ∧ (fn.name == "runtime.NumGoroutine") = false ∧ fn.body = some c := ⟨_, _, Tryz.func23, by kernel_rfl, rfl⟩
theorem c23 (fu : Nat) (a0 : Table) : Ctr Tryz.prog 23 [tTable.va a0] [] (f23 fu a0) (fun _ _ => []) (fun q => (tL tCol).va q) := by
  refine Ctr.of_W Tryz.func23 rfl Tryz.ntmps23 rfl fun A w => ?_
  unfold f23
  refine .seq <| .region <| .box (T := tTable) rfl rfl fun b1 => .assignNil tCol rfl <| .nil ?_
  refine .seq <| .seq <| .region <| .loadP 0 (Fld.self _) rfl rfl ty27 rfl <| .call0 (c19 fu _) n19 rfl rfl fun q2 => .not rfl rfl <| .nil ?_
  refine .cond rfl (fun _ => ?_) (fun _ => ?_)
  · refine .seq <| .region <| .assignNil tCol rfl <| .nil ?_
    exact .ret1 Tryz.func23 Tryz.results23 (.tmp rfl) rfl (fun _ _ => .cons _ <| .slnil)
  · refine .skip <| .seq <| .region <| .loadP 0 (Fld.self _) rfl rfl ty27 rfl <| .call0 (c66 fu _) n66 rfl rfl fun q3 => .assign rfl rfl <| .nil ?_
    exact .ret1 Tryz.func23 Tryz.results23 (.tmp rfl) rfl (fun _ _ => .cons _ <| .slnil)
end Go.Proofs.YtbnklinfjmmlfaaGreatDoor
