/- Functions of the program: what each answers, and that the machine answers so. -/
import Derived.Test.YtbnklinfjmmlfaaGreatDoorQ9A12
import Derived.KernelRfl
set_option linter.unusedVariables false
set_option linter.unusedSimpArgs false
set_option linter.deprecated false
set_option linter.unusedSectionVars false
set_option linter.all false
namespace Go.Proofs.YtbnklinfjmmlfaaGreatDoor
open Go Go.HL
def f9_j2 (i12 : Bool) : Option Bool := some i12
def f9_j1 (fu : Nat) (q1 : Table × Int × (List Set)) (q3 : Table × Int) (q5 : Table × Int) (i7 : Bool) : Option Bool := cond i7 (some (decide (q3.2 = q5.2))) ((f21 fu q1.1 q1.2.2).bind fun q8 => (f13 fu q1.1 q1.2.1).bind fun q10 => cond (decide ((List.length q3.1.rows : Int) = (List.length q1.1.rows : Int))) (cond ((decide ((List.length q8.1.rows : Int) = (IntKind.i64.wrap ((List.length q1.1.rows : Int) + 1)))) == (decide (q8.2 = 0))) (cond ((decide ((List.length q10.1.rows : Int) = (IntKind.i64.wrap ((List.length q1.1.rows : Int) - 1)))) == (decide (q10.2 = 0))) (cond (decide ((List.length q1.1.rows : Int) ≤ (List.length q8.1.rows : Int))) (f9_j2 (decide ((List.length q10.1.rows : Int) ≤ (List.length q1.1.rows : Int)))) (f9_j2 false)) (f9_j2 false)) (f9_j2 false)) (f9_j2 false))
def f9 (fu : Nat) (a0 : List Int) : Option Bool := cond (decide (1048576 < (List.length a0 : Int))) (some true) ((f31 fu a0).bind fun q1 => (f32 fu q1.1 q1.2.1 q1.2.2).bind fun q3 => (f33 fu q1.1 q1.2.1 q1.2.2).bind fun q5 => cond (!decide (q3.2 = q5.2)) (f9_j1 fu q1 q3 q5 true) ((f17 fu q1.1).bind fun q13 => f9_j1 fu q1 q3 q5 (!q13)))
theorem c9 (fu : Nat) (a0 : List Int) : Ctr Tryz.prog 9 [(tL (tI .u8)).va a0] [] (f9 fu a0) (fun _ _ => []) (fun q => isB q) := by
  refine Ctr.of_W Tryz.func9 rfl Tryz.ntmps9 rfl fun A w => ?_
  unfold f9
  refine .seq <| .region <| .assign rfl rfl <| .nil ?_
  refine .seq <| .seq <| .region <| .move rfl rfl <| .lenL rfl Tryz.underlying22 rfl <| .bin rfl rfl rfl rfl <| .nil ?_
  refine .cond rfl (fun _ => ?_) (fun _ => ?_)
  · refine .seq <| .region <| .assign rfl rfl <| .nil ?_
    exact .ret1 Tryz.func9 Tryz.results9 (.tmp rfl) rfl (fun _ _ => .slnil)
  · refine .skip <| .seq <| .region <| .move rfl rfl <| .call0 (c31 fu _) n31 rfl rfl fun q1 => .move rfl rfl <| .extract rfl rfl rfl <| .extract rfl rfl rfl <| .extract rfl rfl rfl <| .alloc tTable d0_27 [] z27 rfl fun b2 => .storeP 0 (Fld.self _) rfl rfl rfl ty27 <| .assign rfl rfl <| .assign rfl rfl <| .nil ?_
    refine .seq <| .region <| .loadP 0 (Fld.self _) rfl rfl ty27 rfl <| .move rfl rfl <| .move rfl rfl <| .call0 (c32 fu _ _ _) n32 rfl rfl fun q3 => .move rfl rfl <| .extract rfl rfl rfl <| .extract rfl rfl rfl <| .alloc tTable d0_27 [] z27 rfl fun b4 => .storeP 0 (Fld.self _) rfl rfl rfl ty27 <| .assign rfl rfl <| .nil ?_
    refine .seq <| .region <| .loadP 1 (Fld.self _) rfl rfl ty27 rfl <| .move rfl rfl <| .move rfl rfl <| .call0 (c33 fu _ _ _) n33 rfl rfl fun q5 => .move rfl rfl <| .extract rfl rfl rfl <| .extract rfl rfl rfl <| .alloc tTable d0_27 [] z27 rfl fun b6 => .storeP 0 (Fld.self _) rfl rfl rfl ty27 <| .assign rfl rfl <| .nil ?_
    refine .seq <| .seq <| .join1 (fun i7 => ⟨[(3, isP b2 0, none), (4, isI .i64 q1.2.1, none), (5, (tL tSet).va q1.2.2, none), (6, isP b4 0, none), (7, isI .i64 q3.2, none), (9, isI .i64 q5.2, none), (45, isB i7, none)], [boxO b4 tTable q3.1 [], boxO b2 tTable q1.1 []]⟩) (fun i7 => f9_j1 fu q1 q3 q5 i7) (fun i7 => ?_) (fun hj1 => ?_)
    · refine .cond rfl (fun _ => ?_) (fun _ => ?_)
      · refine .seq <| .region <| .move rfl rfl <| .move rfl rfl <| .bin rfl rfl rfl rfl <| .assign rfl rfl <| .nil ?_
        exact .ret1 Tryz.func9 Tryz.results9 (.tmp rfl) rfl (fun _ _ => .cons _ <| .cons _ <| .slnil)
      · refine .skip <| .seq <| .region <| .loadP 1 (Fld.self _) rfl rfl ty27 rfl <| .move rfl rfl <| .call0 (c21 fu _ _) n21 rfl rfl fun q8 => .move rfl rfl <| .extract rfl rfl rfl <| .extract rfl rfl rfl <| .alloc tTable d0_27 [] z27 rfl fun b9 => .storeP 0 (Fld.self _) rfl rfl rfl ty27 <| .assign rfl rfl <| .nil ?_
        refine .seq <| .region <| .loadP 2 (Fld.self _) rfl rfl ty27 rfl <| .move rfl rfl <| .call0 (c13 fu _ _) n13 rfl rfl fun q10 => .move rfl rfl <| .extract rfl rfl rfl <| .extract rfl rfl rfl <| .alloc tTable d0_27 [] z27 rfl fun b11 => .storeP 0 (Fld.self _) rfl rfl rfl ty27 <| .assign rfl rfl <| .nil ?_
        refine .seq <| .region <| .fieldP rfl fa27_2 rfl <| .loadP 3 fTable_2 rfl rfl ty25 rfl <| .lenL rfl Tryz.underlying25 rfl <| .assign rfl rfl <| .nil ?_
        refine .seq <| .join1 (fun i12 => ⟨[(2, isB i12, none)], []⟩) (fun i12 => f9_j2 i12) (fun i12 => ?_) (fun hj2 => ?_)
        · exact .ret1 Tryz.func9 Tryz.results9 (.tmp rfl) rfl (fun _ _ => .slnil)
        · refine .region <| .fieldP rfl fa27_2 rfl <| .loadP 2 fTable_2 rfl rfl ty25 rfl <| .lenL rfl Tryz.underlying25 rfl <| .move rfl rfl <| .bin rfl rfl rfl rfl <| .move rfl rfl <| .split 69 rfl (fun _ => ?_) (fun _ => ?_)
          · refine .on rfl rfl <| .fieldP rfl fa27_2 rfl <| .on rfl rfl <| .loadP 1 fTable_2 rfl rfl ty25 rfl <| .on rfl rfl <| .lenL rfl Tryz.underlying25 rfl <| .on rfl rfl <| .move rfl rfl <| .on rfl rfl <| .bin rfl rfl rfl rfl <| .on rfl rfl <| .bin rfl rfl rfl rfl <| .on rfl rfl <| .move rfl rfl <| .on rfl rfl <| .bin rfl rfl rfl rfl <| .on rfl rfl <| .beq rfl rfl Tryz.underlying4 rfl <| .pickT rfl rfl rfl <| .move rfl rfl <| .split 80 rfl (fun _ => ?_) (fun _ => ?_)
            · refine .on rfl rfl <| .fieldP rfl fa27_2 rfl <| .on rfl rfl <| .loadP 0 fTable_2 rfl rfl ty25 rfl <| .on rfl rfl <| .lenL rfl Tryz.underlying25 rfl <| .on rfl rfl <| .move rfl rfl <| .on rfl rfl <| .bin rfl rfl rfl rfl <| .on rfl rfl <| .bin rfl rfl rfl rfl <| .on rfl rfl <| .move rfl rfl <| .on rfl rfl <| .bin rfl rfl rfl rfl <| .on rfl rfl <| .beq rfl rfl Tryz.underlying4 rfl <| .pickT rfl rfl rfl <| .move rfl rfl <| .split 91 rfl (fun _ => ?_) (fun _ => ?_)
              · refine .on rfl rfl <| .fieldP rfl fa27_2 rfl <| .on rfl rfl <| .loadP 1 fTable_2 rfl rfl ty25 rfl <| .on rfl rfl <| .lenL rfl Tryz.underlying25 rfl <| .on rfl rfl <| .move rfl rfl <| .on rfl rfl <| .bin rfl rfl rfl rfl <| .pickT rfl rfl rfl <| .move rfl rfl <| .split 98 rfl (fun _ => ?_) (fun _ => ?_)
                · refine .on rfl rfl <| .fieldP rfl fa27_2 rfl <| .on rfl rfl <| .loadP 0 fTable_2 rfl rfl ty25 rfl <| .on rfl rfl <| .lenL rfl Tryz.underlying25 rfl <| .on rfl rfl <| .move rfl rfl <| .on rfl rfl <| .bin rfl rfl rfl rfl <| .pickT rfl rfl rfl <| .assign rfl rfl <| .nil ?_
                  exact .keep [2] [] rfl (.drop (.cons _ <| .cons _ <| .cons _ <| .cons _ <| .slnil) <| hj2 _)
                · refine .off rfl rfl rfl <| .off rfl rfl rfl <| .off rfl rfl rfl <| .off rfl rfl rfl <| .off rfl rfl rfl <| .pickF rfl rfl rfl <| .assign rfl rfl <| .nil ?_
                  exact .keep [2] [] rfl (.drop (.cons _ <| .cons _ <| .cons _ <| .cons _ <| .slnil) <| hj2 _)
              · refine .off rfl rfl rfl <| .off rfl rfl rfl <| .off rfl rfl rfl <| .off rfl rfl rfl <| .off rfl rfl rfl <| .pickF rfl rfl rfl <| .move rfl rfl <| .off rfl rfl rfl <| .off rfl rfl rfl <| .off rfl rfl rfl <| .off rfl rfl rfl <| .off rfl rfl rfl <| .pickF rfl rfl rfl <| .assign rfl rfl <| .nil ?_
                exact .keep [2] [] rfl (.drop (.cons _ <| .cons _ <| .cons _ <| .cons _ <| .slnil) <| hj2 _)
            · refine .off rfl rfl rfl <| .off rfl rfl rfl <| .off rfl rfl rfl <| .off rfl rfl rfl <| .off rfl rfl rfl <| .off rfl rfl rfl <| .off rfl rfl rfl <| .off rfl rfl rfl <| .off rfl rfl rfl <| .pickF rfl rfl rfl <| .move rfl rfl <| .off rfl rfl rfl <| .off rfl rfl rfl <| .off rfl rfl rfl <| .off rfl rfl rfl <| .off rfl rfl rfl <| .pickF rfl rfl rfl <| .move rfl rfl <| .off rfl rfl rfl <| .off rfl rfl rfl <| .off rfl rfl rfl <| .off rfl rfl rfl <| .off rfl rfl rfl <| .pickF rfl rfl rfl <| .assign rfl rfl <| .nil ?_
              exact .keep [2] [] rfl (.drop (.cons _ <| .cons _ <| .cons _ <| .cons _ <| .slnil) <| hj2 _)
          · refine .off rfl rfl rfl <| .off rfl rfl rfl <| .off rfl rfl rfl <| .off rfl rfl rfl <| .off rfl rfl rfl <| .off rfl rfl rfl <| .off rfl rfl rfl <| .off rfl rfl rfl <| .off rfl rfl rfl <| .pickF rfl rfl rfl <| .move rfl rfl <| .off rfl rfl rfl <| .off rfl rfl rfl <| .off rfl rfl rfl <| .off rfl rfl rfl <| .off rfl rfl rfl <| .off rfl rfl rfl <| .off rfl rfl rfl <| .off rfl rfl rfl <| .off rfl rfl rfl <| .pickF rfl rfl rfl <| .move rfl rfl <| .off rfl rfl rfl <| .off rfl rfl rfl <| .off rfl rfl rfl <| .off rfl rfl rfl <| .off rfl rfl rfl <| .pickF rfl rfl rfl <| .move rfl rfl <| .off rfl rfl rfl <| .off rfl rfl rfl <| .off rfl rfl rfl <| .off rfl rfl rfl <| .off rfl rfl rfl <| .pickF rfl rfl rfl <| .assign rfl rfl <| .nil ?_
            exact .keep [2] [] rfl (.drop (.cons _ <| .cons _ <| .cons _ <| .cons _ <| .slnil) <| hj2 _)
    · refine .region <| .move rfl rfl <| .move rfl rfl <| .bin rfl rfl rfl rfl <| .move rfl rfl <| .split 41 rfl (fun _ => ?_) (fun _ => ?_)
      · refine .off rfl rfl rfl <| .off rfl rfl rfl <| .off rfl rfl rfl <| .pickT rfl rfl rfl <| .nil ?_
        exact .keep [3, 4, 5, 6, 7, 9, 45] [] rfl (.drop (.cons _ <| .cons_cons _ <| .cons_cons _ <| .slnil) <| hj1 _)
      · refine .on rfl rfl <| .loadP 2 (Fld.self _) rfl rfl ty27 rfl <| .on rfl rfl <| .call0 (c17 fu _) n17 rfl rfl fun q13 => .on rfl rfl <| .not rfl rfl <| .pickF rfl rfl rfl <| .nil ?_
        exact .keep [3, 4, 5, 6, 7, 9, 45] [] rfl (.drop (.cons _ <| .cons_cons _ <| .cons_cons _ <| .slnil) <| hj1 _)
end Go.Proofs.YtbnklinfjmmlfaaGreatDoor
