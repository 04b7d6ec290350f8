/- Functions of the program: what each answers, and that the machine answers so. -/
import Derived.Test.YtlkhmcajnfombaaGreatDoorQ1003A12
import Derived.KernelRfl
import Derived.KernelRfl
set_option linter.unusedVariables false
set_option linter.unusedSimpArgs false
set_option linter.deprecated false
set_option linter.unusedSectionVars false
set_option linter.all false
namespace Go.Proofs.YtlkhmcajnfombaaGreatDoor
open Go Go.HL
def f1003_j3 (i15 : Bool) : Option Bool := some i15
def f1003_j2 (fu : Nat) (q2 : Table × Int × (List Set)) (q4 : Table × Int) (q6 : Table × Int) (q8 : Table × Int) (i10 : Bool) : Option Bool := cond i10 (some (decide (q6.2 = q8.2))) ((f13 fu q6.1 q4.2).bind fun q11 => (f13 fu q2.1 q4.2).bind fun q12 => (f32 fu q12.1 q2.2.1 q2.2.2).bind fun q14 => cond (decide (q11.2 = q12.2)) (cond (decide (q14.2 = 0)) ((f15 fu q11.1 q14.1).bind fun q16 => f1003_j3 q16) (f1003_j3 false)) (f1003_j3 false))
def f1003_j1 (fu : Nat) (a0 : List Int) (a1 : List Int) (i1 : Bool) : Option Bool := cond i1 (some true) ((f31 fu a0).bind fun q2 => (f12 fu a1).bind fun q4 => (f32 fu q2.1 q2.2.1 q2.2.2).bind fun q6 => (f33 fu q2.1 q2.2.1 q2.2.2).bind fun q8 => cond (!decide (q6.2 = q8.2)) (f1003_j2 fu q2 q4 q6 q8 true) (cond (!decide (q6.2 = 0)) (f1003_j2 fu q2 q4 q6 q8 true) (f1003_j2 fu q2 q4 q6 q8 (decide (q4.2 = q2.2.1)))))
def f1003 (fu : Nat) (a0 : List Int) (a1 : List Int) : Option Bool := cond (decide (1048576 < (List.length a0 : Int))) (f1003_j1 fu a0 a1 true) (f1003_j1 fu a0 a1 (decide (1048576 < (List.length a1 : Int))))
theorem c1003 (fu : Nat) (a0 : List Int) (a1 : List Int) : Ctr Tryz.prog 3 [(tL (tI .u8)).va a0, (tL (tI .u8)).va a1] [] (f1003 fu a0 a1) (fun _ _ => []) (fun q => isB q) := by
  refine Ctr.of_W Tryz.func3 rfl Tryz.ntmps3 rfl fun A w => ?_
  unfold f1003
  refine .seq <| .region <| .assign rfl rfl <| .nil ?_
  refine .seq <| .seq <| .join1 (fun i1 => ⟨[(0, (tL (tI .u8)).va a0, none), (1, (tL (tI .u8)).va a1, none), (25, isB i1, none)], []⟩) (fun i1 => f1003_j1 fu a0 a1 i1) (fun i1 => ?_) (fun hj1 => ?_)
  · refine .cond rfl (fun _ => ?_) (fun _ => ?_)
    · refine .seq <| .region <| .assign rfl rfl <| .nil ?_
      exact .ret1 Tryz.func3 Tryz.results3 (.tmp rfl) rfl (fun _ _ => .slnil)
    · refine .skip <| .seq <| .region <| .move rfl rfl <| .call0 (c31 fu _) n31 rfl rfl fun q2 => .move rfl rfl <| .extract rfl rfl rfl <| .extract rfl rfl rfl <| .extract rfl rfl rfl <| .alloc tTable d0_27 [] z27 rfl fun b3 => .storeP 0 (Fld.self _) rfl rfl rfl ty27 <| .assign rfl rfl <| .assign rfl rfl <| .nil ?_
      refine .seq <| .region <| .move rfl rfl <| .call0 (c12 fu _) n12 rfl rfl fun q4 => .move rfl rfl <| .extract rfl rfl rfl <| .extract rfl rfl rfl <| .alloc tTable d0_27 [] z27 rfl fun b5 => .storeP 0 (Fld.self _) rfl rfl rfl ty27 <| .assign rfl rfl <| .nil ?_
      refine .seq <| .region <| .loadP 1 (Fld.self _) rfl rfl ty27 rfl <| .move rfl rfl <| .move rfl rfl <| .call0 (c32 fu _ _ _) n32 rfl rfl fun q6 => .move rfl rfl <| .extract rfl rfl rfl <| .extract rfl rfl rfl <| .alloc tTable d0_27 [] z27 rfl fun b7 => .storeP 0 (Fld.self _) rfl rfl rfl ty27 <| .assign rfl rfl <| .nil ?_
      refine .seq <| .region <| .loadP 2 (Fld.self _) rfl rfl ty27 rfl <| .move rfl rfl <| .move rfl rfl <| .call0 (c33 fu _ _ _) n33 rfl rfl fun q8 => .move rfl rfl <| .extract rfl rfl rfl <| .extract rfl rfl rfl <| .alloc tTable d0_27 [] z27 rfl fun b9 => .storeP 0 (Fld.self _) rfl rfl rfl ty27 <| .assign rfl rfl <| .nil ?_
      refine .seq <| .seq <| .join1 (fun i10 => ⟨[(5, isP b3 0, none), (6, isI .i64 q2.2.1, none), (7, (tL tSet).va q2.2.2, none), (9, isI .i64 q4.2, none), (10, isP b7 0, none), (11, isI .i64 q6.2, none), (13, isI .i64 q8.2, none), (62, isB i10, none)], [boxO b7 tTable q6.1 [], boxO b3 tTable q2.1 []]⟩) (fun i10 => f1003_j2 fu q2 q4 q6 q8 i10) (fun i10 => ?_) (fun hj2 => ?_)
      · refine .cond rfl (fun _ => ?_) (fun _ => ?_)
        · refine .seq <| .region <| .move rfl rfl <| .move rfl rfl <| .bin rfl rfl rfl rfl <| .assign rfl rfl <| .nil ?_
          exact .ret1 Tryz.func3 Tryz.results3 (.tmp rfl) rfl (fun _ _ => .cons _ <| .cons _ <| .slnil)
        · refine .skip <| .seq <| .region <| .loadP 0 (Fld.self _) rfl rfl ty27 rfl <| .move rfl rfl <| .call0 (c13 fu _ _) n13 rfl rfl fun q11 => .move rfl rfl <| .extract rfl rfl rfl <| .extract rfl rfl rfl <| .storeP 0 (Fld.self _) rfl rfl rfl ty27 <| .assign rfl rfl <| .nil ?_
          refine .seq <| .region <| .loadP 1 (Fld.self _) rfl rfl ty27 rfl <| .move rfl rfl <| .call0 (c13 fu _ _) n13 rfl rfl fun q12 => .move rfl rfl <| .extract rfl rfl rfl <| .extract rfl rfl rfl <| .alloc tTable d0_27 [] z27 rfl fun b13 => .storeP 0 (Fld.self _) rfl rfl rfl ty27 <| .assign rfl rfl <| .nil ?_
          refine .seq <| .region <| .loadP 0 (Fld.self _) rfl rfl ty27 rfl <| .move rfl rfl <| .move rfl rfl <| .call0 (c32 fu _ _ _) n32 rfl rfl fun q14 => .move rfl rfl <| .extract rfl rfl rfl <| .extract rfl rfl rfl <| .storeP 0 (Fld.self _) rfl rfl rfl ty27 <| .assign rfl rfl <| .nil ?_
          refine .seq <| .join1 (fun i15 => ⟨[(4, isB i15, none)], []⟩) (fun i15 => f1003_j3 i15) (fun i15 => ?_) (fun hj3 => ?_)
          · exact .ret1 Tryz.func3 Tryz.results3 (.tmp rfl) rfl (fun _ _ => .slnil)
          · refine .region <| .move rfl rfl <| .move rfl rfl <| .bin rfl rfl rfl rfl <| .move rfl rfl <| .split 88 rfl (fun _ => ?_) (fun _ => ?_)
            · refine .on rfl rfl <| .move rfl rfl <| .on rfl rfl <| .bin rfl rfl rfl rfl <| .pickT rfl rfl rfl <| .move rfl rfl <| .split 92 rfl (fun _ => ?_) (fun _ => ?_)
              · refine .on rfl rfl <| .loadP 1 (Fld.self _) rfl rfl ty27 rfl <| .on rfl rfl <| .loadP 0 (Fld.self _) rfl rfl ty27 rfl <| .on rfl rfl <| .call0 (c15 fu _ _) n15 rfl rfl fun q16 => .pickT rfl rfl rfl <| .assign rfl rfl <| .nil ?_
                exact .keep [4] [] rfl (.drop (.cons _ <| .cons _ <| .cons _ <| .slnil) <| hj3 _)
              · refine .off rfl rfl rfl <| .off rfl rfl rfl <| .off rfl rfl rfl <| .pickF rfl rfl rfl <| .assign rfl rfl <| .nil ?_
                exact .keep [4] [] rfl (.drop (.cons _ <| .cons _ <| .cons _ <| .slnil) <| hj3 _)
            · refine .off rfl rfl rfl <| .off rfl rfl rfl <| .pickF rfl rfl rfl <| .move rfl rfl <| .off rfl rfl rfl <| .off rfl rfl rfl <| .off rfl rfl rfl <| .pickF rfl rfl rfl <| .assign rfl rfl <| .nil ?_
              exact .keep [4] [] rfl (.drop (.cons _ <| .cons _ <| .cons _ <| .slnil) <| hj3 _)
      · refine .region <| .move rfl rfl <| .move rfl rfl <| .bin rfl rfl rfl rfl <| .move rfl rfl <| .split 54 rfl (fun _ => ?_) (fun _ => ?_)
        · refine .off rfl rfl rfl <| .off rfl rfl rfl <| .pickT rfl rfl rfl <| .move rfl rfl <| .off rfl rfl rfl <| .off rfl rfl rfl <| .off rfl rfl rfl <| .pickT rfl rfl rfl <| .nil ?_
          exact .keep [5, 6, 7, 9, 10, 11, 13, 62] [] rfl (.drop (.cons _ <| .cons_cons _ <| .cons _ <| .cons_cons _ <| .slnil) <| hj2 _)
        · refine .on rfl rfl <| .move rfl rfl <| .on rfl rfl <| .bin rfl rfl rfl rfl <| .pickF rfl rfl rfl <| .move rfl rfl <| .split 58 rfl (fun _ => ?_) (fun _ => ?_)
          · refine .off rfl rfl rfl <| .off rfl rfl rfl <| .off rfl rfl rfl <| .pickT rfl rfl rfl <| .nil ?_
            exact .keep [5, 6, 7, 9, 10, 11, 13, 62] [] rfl (.drop (.cons _ <| .cons_cons _ <| .cons _ <| .cons_cons _ <| .slnil) <| hj2 _)
          · refine .on rfl rfl <| .move rfl rfl <| .on rfl rfl <| .move rfl rfl <| .on rfl rfl <| .bin rfl rfl rfl rfl <| .pickF rfl rfl rfl <| .nil ?_
            exact .keep [5, 6, 7, 9, 10, 11, 13, 62] [] rfl (.drop (.cons _ <| .cons_cons _ <| .cons _ <| .cons_cons _ <| .slnil) <| hj2 _)
  · refine .region <| .move rfl rfl <| .lenL rfl Tryz.underlying22 rfl <| .bin rfl rfl rfl rfl <| .move rfl rfl <| .split 21 rfl (fun _ => ?_) (fun _ => ?_)
    · refine .off rfl rfl rfl <| .off rfl rfl rfl <| .off rfl rfl rfl <| .pickT rfl rfl rfl <| .nil ?_
      exact .keep [0, 1, 25] [] rfl (hj1 _)
    · refine .on rfl rfl <| .move rfl rfl <| .on rfl rfl <| .lenL rfl Tryz.underlying22 rfl <| .on rfl rfl <| .bin rfl rfl rfl rfl <| .pickF rfl rfl rfl <| .nil ?_
      exact .keep [0, 1, 25] [] rfl (hj1 _)
end Go.Proofs.YtlkhmcajnfombaaGreatDoor
