/- Functions of the program: what each answers, and that the machine answers so. -/
import Derived.Test.YtbnklinfjmmlfaaGreatDoorQ6A10
import Derived.KernelRfl
import Derived.KernelRfl
set_option linter.unusedVariables false
set_option linter.unusedSimpArgs false
set_option linter.deprecated false
set_option linter.unusedSectionVars false
set_option linter.all false
namespace Go.Proofs.YtbnklinfjmmlfaaGreatDoor
open Go Go.HL
def f6_j3 (i13 : Bool) : Option Bool := some i13
def f6_j4 (i17 : Bool) : Option Bool := some i17
def f6_j2 (fu : Nat) (q1 : Table × (List Set)) (q3 : Table × Int) (q8 : Table × Int) (q10 : Table × Int) (i12 : Bool) : Option Bool := cond i12 (cond (decide (q8.2 = 0)) (f6_j3 (decide (q10.2 = 4))) (f6_j3 false)) ((f16 fu q10.1 q1.1.next).bind fun q14 => (f16 fu q10.1 (IntKind.i64.wrap (q1.1.next + 1))).bind fun q15 => (f16 fu q3.1 q1.1.next).bind fun q16 => cond (!q14.2) (cond q15.2 ((f18 fu q15.1 q16.1).bind fun q18 => cond q18 (f6_j4 (decide (q10.1.next = (IntKind.i64.wrap (q1.1.next + 2))))) (f6_j4 false)) (f6_j4 false)) (f6_j4 false))
def f6_j1 (fu : Nat) (q1 : Table × (List Set)) (q3 : Table × Int) (q5 : Table × Int) (i7 : Bool) : Option Bool := cond i7 (some (decide (q3.2 = q5.2))) ((f13 fu q3.1 q1.1.next).bind fun q8 => (f21 fu q8.1 q1.2).bind fun q10 => cond (!decide (q8.2 = 0)) (f6_j2 fu q1 q3 q8 q10 true) (f6_j2 fu q1 q3 q8 q10 (!decide (q10.2 = 0))))
def f6 (fu : Nat) (a0 : List Int) : Option Bool := cond (decide (1048576 < (List.length a0 : Int))) (some true) ((f20 fu a0).bind fun q1 => (f21 fu q1.1 q1.2).bind fun q3 => (f22 fu q1.1 q1.2).bind fun q5 => cond (!decide (q3.2 = q5.2)) (f6_j1 fu q1 q3 q5 true) (f6_j1 fu q1 q3 q5 (!decide (q3.2 = 0))))
theorem c6 (fu : Nat) (a0 : List Int) : Ctr Tryz.prog 6 [(tL (tI .u8)).va a0] [] (f6 fu a0) (fun _ _ => []) (fun q => isB q) := by
  refine Ctr.of_W Tryz.func6 rfl Tryz.ntmps6 rfl fun A w => ?_
  unfold f6
  refine .seq <| .region <| .assign rfl rfl <| .nil ?_
  refine .seq <| .seq <| .region <| .move rfl rfl <| .lenL rfl Tryz.underlying22 rfl <| .bin rfl rfl rfl rfl <| .nil ?_
  refine .cond rfl (fun _ => ?_) (fun _ => ?_)
  · refine .seq <| .region <| .assign rfl rfl <| .nil ?_
    exact .ret1 Tryz.func6 Tryz.results6 (.tmp rfl) rfl (fun _ _ => .slnil)
  · refine .skip <| .seq <| .region <| .move rfl rfl <| .call0 (c20 fu _) n20 rfl rfl fun q1 => .move rfl rfl <| .extract rfl rfl rfl <| .extract rfl rfl rfl <| .alloc tTable d0_27 [] z27 rfl fun b2 => .storeP 0 (Fld.self _) rfl rfl rfl ty27 <| .assign rfl rfl <| .nil ?_
    refine .seq <| .region <| .loadP 0 (Fld.self _) rfl rfl ty27 rfl <| .move rfl rfl <| .call0 (c21 fu _ _) n21 rfl rfl fun q3 => .move rfl rfl <| .extract rfl rfl rfl <| .extract rfl rfl rfl <| .alloc tTable d0_27 [] z27 rfl fun b4 => .storeP 0 (Fld.self _) rfl rfl rfl ty27 <| .assign rfl rfl <| .nil ?_
    refine .seq <| .region <| .loadP 1 (Fld.self _) rfl rfl ty27 rfl <| .move rfl rfl <| .call0 (c22 fu _ _) n22 rfl rfl fun q5 => .move rfl rfl <| .extract rfl rfl rfl <| .extract rfl rfl rfl <| .alloc tTable d0_27 [] z27 rfl fun b6 => .storeP 0 (Fld.self _) rfl rfl rfl ty27 <| .assign rfl rfl <| .nil ?_
    refine .seq <| .seq <| .join1 (fun i7 => ⟨[(3, isP b2 0, none), (4, (tL tSet).va q1.2, none), (5, isP b4 0, none), (6, isI .i64 q3.2, none), (8, isI .i64 q5.2, none), (46, isB i7, none)], [boxO b4 tTable q3.1 [], boxO b2 tTable q1.1 []]⟩) (fun i7 => f6_j1 fu q1 q3 q5 i7) (fun i7 => ?_) (fun hj1 => ?_)
    · refine .cond rfl (fun _ => ?_) (fun _ => ?_)
      · refine .seq <| .region <| .move rfl rfl <| .move rfl rfl <| .bin rfl rfl rfl rfl <| .assign rfl rfl <| .nil ?_
        exact .ret1 Tryz.func6 Tryz.results6 (.tmp rfl) rfl (fun _ _ => .cons _ <| .cons _ <| .slnil)
      · refine .skip <| .seq <| .region <| .fieldP rfl fa27_3 rfl <| .loadP 1 fTable_3 rfl rfl ty3 rfl <| .assign rfl rfl <| .nil ?_
        refine .seq <| .region <| .loadP 0 (Fld.self _) rfl rfl ty27 rfl <| .move rfl rfl <| .call0 (c13 fu _ _) n13 rfl rfl fun q8 => .move rfl rfl <| .extract rfl rfl rfl <| .extract rfl rfl rfl <| .alloc tTable d0_27 [] z27 rfl fun b9 => .storeP 0 (Fld.self _) rfl rfl rfl ty27 <| .assign rfl rfl <| .nil ?_
        refine .seq <| .region <| .loadP 0 (Fld.self _) rfl rfl ty27 rfl <| .move rfl rfl <| .call0 (c21 fu _ _) n21 rfl rfl fun q10 => .move rfl rfl <| .extract rfl rfl rfl <| .extract rfl rfl rfl <| .alloc tTable d0_27 [] z27 rfl fun b11 => .storeP 0 (Fld.self _) rfl rfl rfl ty27 <| .assign rfl rfl <| .nil ?_
        refine .seq <| .seq <| .join1 (fun i12 => ⟨[(5, isP b4 0, none), (9, isI .i64 q1.1.next, none), (11, isI .i64 q8.2, none), (12, isP b11 0, none), (13, isI .i64 q10.2, none), (69, isB i12, none)], [boxO b11 tTable q10.1 [], boxO b4 tTable q3.1 []]⟩) (fun i12 => f6_j2 fu q1 q3 q8 q10 i12) (fun i12 => ?_) (fun hj2 => ?_)
        · refine .cond rfl (fun _ => ?_) (fun _ => ?_)
          · refine .seq <| .join1 (fun i13 => ⟨[(2, isB i13, none)], []⟩) (fun i13 => f6_j3 i13) (fun i13 => ?_) (fun hj3 => ?_)
            · exact .ret1 Tryz.func6 Tryz.results6 (.tmp rfl) rfl (fun _ _ => .slnil)
            · refine .region <| .move rfl rfl <| .bin rfl rfl rfl rfl <| .move rfl rfl <| .split 72 rfl (fun _ => ?_) (fun _ => ?_)
              · refine .on rfl rfl <| .move rfl rfl <| .on rfl rfl <| .bin rfl rfl rfl rfl <| .pickT rfl rfl rfl <| .assign rfl rfl <| .nil ?_
                exact .keep [2] [] rfl (.drop (.cons _ <| .cons _ <| .slnil) <| hj3 _)
              · refine .off rfl rfl rfl <| .off rfl rfl rfl <| .pickF rfl rfl rfl <| .assign rfl rfl <| .nil ?_
                exact .keep [2] [] rfl (.drop (.cons _ <| .cons _ <| .slnil) <| hj3 _)
          · refine .skip <| .seq <| .region <| .loadP 0 (Fld.self _) rfl rfl ty27 rfl <| .move rfl rfl <| .call0 (c16 fu _ _) n16 rfl rfl fun q14 => .move rfl rfl <| .extract rfl rfl rfl <| .extract rfl rfl rfl <| .assign rfl rfl <| .assign rfl rfl <| .nil ?_
            refine .seq <| .region <| .loadP 0 (Fld.self _) rfl rfl ty27 rfl <| .move rfl rfl <| .bin rfl rfl rfl rfl <| .call0 (c16 fu _ _) n16 rfl rfl fun q15 => .move rfl rfl <| .extract rfl rfl rfl <| .extract rfl rfl rfl <| .assign rfl rfl <| .assign rfl rfl <| .nil ?_
            refine .seq <| .region <| .loadP 1 (Fld.self _) rfl rfl ty27 rfl <| .move rfl rfl <| .call0 (c16 fu _ _) n16 rfl rfl fun q16 => .move rfl rfl <| .extract rfl rfl rfl <| .extract rfl rfl rfl <| .assign rfl rfl <| .assign rfl rfl <| .nil ?_
            refine .seq <| .join1 (fun i17 => ⟨[(2, isB i17, none)], []⟩) (fun i17 => f6_j4 i17) (fun i17 => ?_) (fun hj4 => ?_)
            · exact .ret1 Tryz.func6 Tryz.results6 (.tmp rfl) rfl (fun _ _ => .slnil)
            · refine .region <| .move rfl rfl <| .not rfl rfl <| .move rfl rfl <| .split 97 rfl (fun _ => ?_) (fun _ => ?_)
              · refine .on rfl rfl <| .move rfl rfl <| .pickT rfl rfl rfl <| .move rfl rfl <| .split 100 rfl (fun _ => ?_) (fun _ => ?_)
                · refine .on rfl rfl <| .move rfl rfl <| .on rfl rfl <| .move rfl rfl <| .on rfl rfl <| .call0 (c18 fu _ _) n18 rfl rfl fun q18 => .pickT rfl rfl rfl <| .move rfl rfl <| .split 105 rfl (fun _ => ?_) (fun _ => ?_)
                  · refine .on rfl rfl <| .fieldP rfl fa27_3 rfl <| .on rfl rfl <| .loadP 0 fTable_3 rfl rfl ty3 rfl <| .on rfl rfl <| .move rfl rfl <| .on rfl rfl <| .bin rfl rfl rfl rfl <| .on rfl rfl <| .bin rfl rfl rfl rfl <| .pickT rfl rfl rfl <| .assign rfl rfl <| .nil ?_
                    exact .keep [2] [] rfl (.drop (.cons _ <| .cons _ <| .slnil) <| hj4 _)
                  · refine .off rfl rfl rfl <| .off rfl rfl rfl <| .off rfl rfl rfl <| .off rfl rfl rfl <| .off rfl rfl rfl <| .pickF rfl rfl rfl <| .assign rfl rfl <| .nil ?_
                    exact .keep [2] [] rfl (.drop (.cons _ <| .cons _ <| .slnil) <| hj4 _)
                · refine .off rfl rfl rfl <| .off rfl rfl rfl <| .off rfl rfl rfl <| .pickF rfl rfl rfl <| .move rfl rfl <| .off rfl rfl rfl <| .off rfl rfl rfl <| .off rfl rfl rfl <| .off rfl rfl rfl <| .off rfl rfl rfl <| .pickF rfl rfl rfl <| .assign rfl rfl <| .nil ?_
                  exact .keep [2] [] rfl (.drop (.cons _ <| .cons _ <| .slnil) <| hj4 _)
              · refine .off rfl rfl rfl <| .pickF rfl rfl rfl <| .move rfl rfl <| .off rfl rfl rfl <| .off rfl rfl rfl <| .off rfl rfl rfl <| .pickF rfl rfl rfl <| .move rfl rfl <| .off rfl rfl rfl <| .off rfl rfl rfl <| .off rfl rfl rfl <| .off rfl rfl rfl <| .off rfl rfl rfl <| .pickF rfl rfl rfl <| .assign rfl rfl <| .nil ?_
                exact .keep [2] [] rfl (.drop (.cons _ <| .cons _ <| .slnil) <| hj4 _)
        · refine .region <| .move rfl rfl <| .bin rfl rfl rfl rfl <| .move rfl rfl <| .split 66 rfl (fun _ => ?_) (fun _ => ?_)
          · refine .off rfl rfl rfl <| .off rfl rfl rfl <| .pickT rfl rfl rfl <| .nil ?_
            exact .keep [5, 9, 11, 12, 13, 69] [] rfl (.drop (.cons_cons _ <| .cons _ <| .cons_cons _ <| .cons _ <| .slnil) <| hj2 _)
          · refine .on rfl rfl <| .move rfl rfl <| .on rfl rfl <| .bin rfl rfl rfl rfl <| .pickF rfl rfl rfl <| .nil ?_
            exact .keep [5, 9, 11, 12, 13, 69] [] rfl (.drop (.cons_cons _ <| .cons _ <| .cons_cons _ <| .cons _ <| .slnil) <| hj2 _)
    · refine .region <| .move rfl rfl <| .move rfl rfl <| .bin rfl rfl rfl rfl <| .move rfl rfl <| .split 43 rfl (fun _ => ?_) (fun _ => ?_)
      · refine .off rfl rfl rfl <| .off rfl rfl rfl <| .pickT rfl rfl rfl <| .nil ?_
        exact .keep [3, 4, 5, 6, 8, 46] [] rfl (.drop (.cons _ <| .cons_cons _ <| .cons_cons _ <| .slnil) <| hj1 _)
      · refine .on rfl rfl <| .move rfl rfl <| .on rfl rfl <| .bin rfl rfl rfl rfl <| .pickF rfl rfl rfl <| .nil ?_
        exact .keep [3, 4, 5, 6, 8, 46] [] rfl (.drop (.cons _ <| .cons_cons _ <| .cons_cons _ <| .slnil) <| hj1 _)
end Go.Proofs.YtbnklinfjmmlfaaGreatDoor
