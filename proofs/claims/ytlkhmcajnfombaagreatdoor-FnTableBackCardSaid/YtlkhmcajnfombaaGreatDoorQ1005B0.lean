/- Functions of the program: what each answers, and that the machine answers so. -/
import Derived.Test.YtlkhmcajnfombaaGreatDoorQ1005A14
import Derived.KernelRfl
set_option linter.unusedVariables false
set_option linter.unusedSimpArgs false
set_option linter.deprecated false
set_option linter.unusedSectionVars false
set_option linter.all false
namespace Go.Proofs.YtlkhmcajnfombaaGreatDoor
open Go Go.HL
def f1005_j2 (i14 : Bool) : Option Bool := some i14
def f1005_j1 (fu : Nat) (q1 : Table × Int × (List Set)) (q3 : Table × Int) (q5 : Table × Int) (i7 : Bool) : Option Bool := cond i7 (some (decide (q3.2 = q5.2))) ((f16 fu q1.1 q1.2.1).bind fun q8 => (f23 fu q1.1).bind fun q9 => (f38 fu q9 q8.1).bind fun q10 => (f32 fu q3.1 q1.2.1 q10).bind fun q11 => (f16 fu q11.1 q1.2.1).bind fun q13 => cond (decide (q11.2 = 0)) (cond q13.2 ((f18 fu q13.1 q8.1).bind fun q15 => cond q15 ((f30 fu q11.1 q1.1).bind fun q16 => f1005_j2 q16) (f1005_j2 false)) (f1005_j2 false)) (f1005_j2 false))
def f1005 (fu : Nat) (a0 : List Int) : Option Bool := cond (decide (1048576 < (List.length a0 : Int))) (some true) ((f31 fu a0).bind fun q1 => (f32 fu q1.1 q1.2.1 q1.2.2).bind fun q3 => (f33 fu q1.1 q1.2.1 q1.2.2).bind fun q5 => cond (!decide (q3.2 = q5.2)) (f1005_j1 fu q1 q3 q5 true) (f1005_j1 fu q1 q3 q5 (!decide (q3.2 = 0))))
theorem c1005 (fu : Nat) (a0 : List Int) : Ctr Tryz.prog 5 [(tL (tI .u8)).va a0] [] (f1005 fu a0) (fun _ _ => []) (fun q => isB q) := by
  refine Ctr.of_W Tryz.func5 rfl Tryz.ntmps5 rfl fun A w => ?_
  unfold f1005
  refine .seq <| .region <| .assign rfl rfl <| .nil ?_
  refine .seq <| .seq <| .region <| .move rfl rfl <| .lenL rfl Tryz.underlying22 rfl <| .bin rfl rfl rfl rfl <| .nil ?_
  refine .cond rfl (fun _ => ?_) (fun _ => ?_)
  · refine .seq <| .region <| .assign rfl rfl <| .nil ?_
    exact .ret1 Tryz.func5 Tryz.results5 (.tmp rfl) rfl (fun _ _ => .slnil)
  · refine .skip <| .seq <| .region <| .move rfl rfl <| .call0 (c31 fu _) n31 rfl rfl fun q1 => .move rfl rfl <| .extract rfl rfl rfl <| .extract rfl rfl rfl <| .extract rfl rfl rfl <| .alloc tTable d0_27 [] z27 rfl fun b2 => .storeP 0 (Fld.self _) rfl rfl rfl ty27 <| .assign rfl rfl <| .assign rfl rfl <| .nil ?_
    refine .seq <| .region <| .loadP 0 (Fld.self _) rfl rfl ty27 rfl <| .move rfl rfl <| .move rfl rfl <| .call0 (c32 fu _ _ _) n32 rfl rfl fun q3 => .move rfl rfl <| .extract rfl rfl rfl <| .extract rfl rfl rfl <| .alloc tTable d0_27 [] z27 rfl fun b4 => .storeP 0 (Fld.self _) rfl rfl rfl ty27 <| .assign rfl rfl <| .nil ?_
    refine .seq <| .region <| .loadP 1 (Fld.self _) rfl rfl ty27 rfl <| .move rfl rfl <| .move rfl rfl <| .call0 (c33 fu _ _ _) n33 rfl rfl fun q5 => .move rfl rfl <| .extract rfl rfl rfl <| .extract rfl rfl rfl <| .alloc tTable d0_27 [] z27 rfl fun b6 => .storeP 0 (Fld.self _) rfl rfl rfl ty27 <| .assign rfl rfl <| .nil ?_
    refine .seq <| .seq <| .join1 (fun i7 => ⟨[(3, isP b2 0, none), (4, isI .i64 q1.2.1, none), (6, isP b4 0, none), (7, isI .i64 q3.2, none), (9, isI .i64 q5.2, none), (45, isB i7, none)], [boxO b4 tTable q3.1 [], boxO b2 tTable q1.1 []]⟩) (fun i7 => f1005_j1 fu q1 q3 q5 i7) (fun i7 => ?_) (fun hj1 => ?_)
    · refine .cond rfl (fun _ => ?_) (fun _ => ?_)
      · refine .seq <| .region <| .move rfl rfl <| .move rfl rfl <| .bin rfl rfl rfl rfl <| .assign rfl rfl <| .nil ?_
        exact .ret1 Tryz.func5 Tryz.results5 (.tmp rfl) rfl (fun _ _ => .cons _ <| .cons _ <| .slnil)
      · refine .skip <| .seq <| .region <| .loadP 1 (Fld.self _) rfl rfl ty27 rfl <| .move rfl rfl <| .call0 (c16 fu _ _) n16 rfl rfl fun q8 => .move rfl rfl <| .extract rfl rfl rfl <| .extract rfl rfl rfl <| .assign rfl rfl <| .assign rfl rfl <| .nil ?_
        refine .seq <| .pbind fun q9 h1 => ?_
        refine .pbind fun q10 h2 => ?_
        refine .pbind fun q11 h3 => ?_
        refine .drawS 11 [9] [10] [] mix (by kernel_rfl) (.cons (fun _ _ _ hP hE h => .loadP 0 (Fld.self _) (hE.op rfl) (hP.get rfl rfl) ty27 rfl <| h) <| .cons (fun _ _ _ hP hE h => .move (hE.op rfl) rfl <| h) <| .cons (fun _ _ _ hP hE h => .loadP 1 (Fld.self _) (hE.op rfl) (hP.get rfl rfl) ty27 rfl <| h) <| .cons (fun _ _ _ hP hE h => .bindE h1 (fun r h => .call0 (c23 fu _) n23 (hE.ops rfl) rfl h) <| h) <| .cons (fun _ _ _ hP hE h => .move (hE.op rfl) rfl <| h) <| .cons (fun _ _ _ hP hE h => .bindE h2 (fun r h => .call0 (c38 fu _ _) n38 (hE.ops rfl) rfl h) <| h) <| .cons (fun _ _ _ hP hE h => .bindE h3 (fun r h => .call0 (c32 fu _ _ _) n32 (hE.ops rfl) rfl h) <| h) <| .cons (fun _ _ _ hP hE h => .move (hE.op rfl) rfl <| h) <| .cons (fun _ _ _ hP hE h => .extract (hE.op rfl) rfl rfl <| h) <| .cons (fun _ _ _ hP hE h => .extract (hE.op rfl) rfl rfl <| h) <| .skip <| .nil) rfl <| .cons (d := 12) rfl rfl fun _ _ hE h => .alloc tTable d0_27 [] z27 rfl fun b12 => .toEnd <| h _ _ (.same <| .same <| .nil) <| .nil <| .storeP 2 (Fld.self _) rfl rfl rfl ty27 <| .assign rfl rfl <| .nil ?_
        refine .seq <| .region <| .loadP 2 (Fld.self _) rfl rfl ty27 rfl <| .move rfl rfl <| .call0 (c16 fu _ _) n16 rfl rfl fun q13 => .move rfl rfl <| .extract rfl rfl rfl <| .extract rfl rfl rfl <| .assign rfl rfl <| .assign rfl rfl <| .nil ?_
        refine .seq <| .join1 (fun i14 => ⟨[(2, isB i14, none)], []⟩) (fun i14 => f1005_j2 i14) (fun i14 => ?_) (fun hj2 => ?_)
        · exact .ret1 Tryz.func5 Tryz.results5 (.tmp rfl) rfl (fun _ _ => .slnil)
        · refine .region <| .move rfl rfl <| .bin rfl rfl rfl rfl <| .move rfl rfl <| .split 73 rfl (fun _ => ?_) (fun _ => ?_)
          · refine .on rfl rfl <| .move rfl rfl <| .pickT rfl rfl rfl <| .move rfl rfl <| .split 76 rfl (fun _ => ?_) (fun _ => ?_)
            · refine .on rfl rfl <| .move rfl rfl <| .on rfl rfl <| .move rfl rfl <| .on rfl rfl <| .call0 (c18 fu _ _) n18 rfl rfl fun q15 => .pickT rfl rfl rfl <| .move rfl rfl <| .split 81 rfl (fun _ => ?_) (fun _ => ?_)
              · refine .on rfl rfl <| .loadP 2 (Fld.self _) rfl rfl ty27 rfl <| .on rfl rfl <| .loadP 1 (Fld.self _) rfl rfl ty27 rfl <| .on rfl rfl <| .call0 (c30 fu _ _) n30 rfl rfl fun q16 => .pickT rfl rfl rfl <| .assign rfl rfl <| .nil ?_
                exact .keep [2] [] rfl (.drop (.cons _ <| .cons _ <| .cons _ <| .slnil) <| hj2 _)
              · refine .off rfl rfl rfl <| .off rfl rfl rfl <| .off rfl rfl rfl <| .pickF rfl rfl rfl <| .assign rfl rfl <| .nil ?_
                exact .keep [2] [] rfl (.drop (.cons _ <| .cons _ <| .cons _ <| .slnil) <| hj2 _)
            · refine .off rfl rfl rfl <| .off rfl rfl rfl <| .off rfl rfl rfl <| .pickF rfl rfl rfl <| .move rfl rfl <| .off rfl rfl rfl <| .off rfl rfl rfl <| .off rfl rfl rfl <| .pickF rfl rfl rfl <| .assign rfl rfl <| .nil ?_
              exact .keep [2] [] rfl (.drop (.cons _ <| .cons _ <| .cons _ <| .slnil) <| hj2 _)
          · refine .off rfl rfl rfl <| .pickF rfl rfl rfl <| .move rfl rfl <| .off rfl rfl rfl <| .off rfl rfl rfl <| .off rfl rfl rfl <| .pickF rfl rfl rfl <| .move rfl rfl <| .off rfl rfl rfl <| .off rfl rfl rfl <| .off rfl rfl rfl <| .pickF rfl rfl rfl <| .assign rfl rfl <| .nil ?_
            exact .keep [2] [] rfl (.drop (.cons _ <| .cons _ <| .cons _ <| .slnil) <| hj2 _)
    · refine .region <| .move rfl rfl <| .move rfl rfl <| .bin rfl rfl rfl rfl <| .move rfl rfl <| .split 42 rfl (fun _ => ?_) (fun _ => ?_)
      · refine .off rfl rfl rfl <| .off rfl rfl rfl <| .pickT rfl rfl rfl <| .nil ?_
        exact .keep [3, 4, 6, 7, 9, 45] [] rfl (.drop (.cons _ <| .cons_cons _ <| .cons_cons _ <| .slnil) <| hj1 _)
      · refine .on rfl rfl <| .move rfl rfl <| .on rfl rfl <| .bin rfl rfl rfl rfl <| .pickF rfl rfl rfl <| .nil ?_
        exact .keep [3, 4, 6, 7, 9, 45] [] rfl (.drop (.cons _ <| .cons_cons _ <| .cons_cons _ <| .slnil) <| hj1 _)
end Go.Proofs.YtlkhmcajnfombaaGreatDoor
