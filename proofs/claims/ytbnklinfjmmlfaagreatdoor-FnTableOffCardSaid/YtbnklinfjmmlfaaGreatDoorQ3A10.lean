/- Functions of the program: what each answers, and that the machine answers so. -/
import Derived.Test.YtbnklinfjmmlfaaGreatDoorQ3A9
import Derived.KernelRfl
set_option linter.unusedVariables false
set_option linter.unusedSimpArgs false
set_option linter.deprecated false
set_option linter.unusedSectionVars false
set_option linter.all false
namespace Go.Proofs.YtbnklinfjmmlfaaGreatDoor
open Go Go.HL
def f18_l1 (a0 : List Val) (a1 : List Val) : Nat → Int → Option Bool
  | 0, _ => none
  | n1 + 1, i1 => cond (decide (i1 < (List.length a0 : Int))) (cond (decide (0 ≤ i1) && decide (i1 < (List.length a0 : Int))) (cond (decide (0 ≤ i1) && decide (i1 < (List.length a1 : Int))) (cond (!decide ((a0.getD i1.toNat default) = (a1.getD i1.toNat default))) (some false) ((f18_l1 a0 a1 n1) (IntKind.i64.wrap (i1 + 1)))) none) none) (some true)
def f18 (fu : Nat) (a0 : List Val) (a1 : List Val) : Option Bool := cond (!decide ((List.length a0 : Int) = (List.length a1 : Int))) (some false) (f18_l1 a0 a1 fu 0)
theorem n18 : ∃ fn c, Tryz.prog.funcs[18]? = some fn ∧ (fn.name == "runtime.NumGoroutine") = false ∧ fn.body = some c := ⟨_, _, Tryz.func18, by kernel_rfl, rfl⟩
theorem c18 (fu : Nat) (a0 : List Val) (a1 : List Val) : Ctr Tryz.prog 18 [(tL tVal).va a0, (tL tVal).va a1] [] (f18 fu a0 a1) (fun _ _ => []) (fun q => isB q) := by
  refine Ctr.of_W Tryz.func18 rfl Tryz.ntmps18 rfl fun A w => ?_
  unfold f18
  refine .seq <| .region <| .assign rfl rfl <| .nil ?_
  refine .seq <| .seq <| .region <| .move rfl rfl <| .lenL rfl Tryz.underlying32 rfl <| .move rfl rfl <| .lenL rfl Tryz.underlying32 rfl <| .bin rfl rfl rfl rfl <| .nil ?_
  refine .cond rfl (fun _ => ?_) (fun _ => ?_)
  · refine .seq <| .region <| .assign rfl rfl <| .nil ?_
    exact .ret1 Tryz.func18 Tryz.results18 (.tmp rfl) rfl (fun _ _ => .slnil)
  · refine .skip <| .seq <| .seq <| .region <| .assign rfl rfl <| .nil ?_
    refine .block <| .loop <| .keep [0, 1, 5] [] rfl ?_
    refine (show ∀ (n1 : Nat) (i1 : Int), W _ _ _ _ _ ⟨[(0, (tL tVal).va a0, none), (1, (tL tVal).va a1, none), (5, isI .i64 i1, none)], []⟩ (f18_l1 a0 a1 n1 i1) from ?_) fu _
    intro n1
    induction n1 with
    | zero => exact fun _ => .stop
    | succ n1 ih1 =>
      intro i1
      refine .inLoop <| .seq <| .seq <| .region <| .move rfl rfl <| .move rfl rfl <| .lenL rfl Tryz.underlying32 rfl <| .bin rfl rfl rfl rfl <| .nil ?_
      refine .cond rfl (fun _ => ?_) (fun _ => ?_)
      · refine .skip <| .seq <| .block <| .seq <| .pT fun h3 => ?_
        refine .pT fun h4 => ?_
        refine .draw 8 [] mix (by kernel_rfl) (.cons (fun _ _ _ hP hE h => .move (hE.op rfl) rfl <| h) <| .cons (fun _ _ _ hP hE h => .move (hE.op rfl) rfl <| h) <| .cons (fun _ _ _ hP hE h => .useC h3 <| .elemAt (hE.op rfl) (hE.op rfl) Tryz.underlying32 ty47 rfl <| h) <| .cons (fun _ _ _ hP hE h => .load (hE.op rfl) ty47 rfl <| h) <| .cons (fun _ _ _ hP hE h => .move (hE.op rfl) rfl <| h) <| .cons (fun _ _ _ hP hE h => .move (hE.op rfl) rfl <| h) <| .cons (fun _ _ _ hP hE h => .useC h4 <| .elemAt (hE.op rfl) (hE.op rfl) Tryz.underlying32 ty47 rfl <| h) <| .cons (fun _ _ _ hP hE h => .load (hE.op rfl) ty47 rfl <| h) <| .nil) rfl <| .neT eq47 rfl rfl rfl <| .nil ?_
        refine .cond rfl (fun _ => ?_) (fun _ => ?_)
        · refine .seq <| .region <| .assign rfl rfl <| .nil ?_
          exact .ret1 Tryz.func18 Tryz.results18 (.tmp rfl) rfl (fun _ _ => .slnil)
        · refine .skip <| .inBlock <| .region <| .move rfl rfl <| .bin rfl rfl rfl rfl <| .assign rfl rfl <| .nil ?_
          exact .keep [0, 1, 5] [] rfl (ih1 _)
      · refine .exit rfl <| .seq <| .region <| .assign rfl rfl <| .nil ?_
        exact .ret1 Tryz.func18 Tryz.results18 (.tmp rfl) rfl (fun _ _ => .slnil)
def f3_j2 (i10 : Bool) : Option Bool := some i10
def f3_j3 (i11 : Bool) : Option Bool := some i11
def f3_j6 (i14 : Int) (rec1 : Int → Option Bool) (i17 : Bool) : Option Bool := cond i17 (some false) (rec1 (IntKind.i64.wrap (i14 + 1)))
def f3_j7 (rec1 : Int → Option Bool) (i19 : Bool) : Option Bool := some i19
def f3_l1 (fu : Nat) (q1 : Table × Int) (q3 : Table × Int) (q13 : (List Val) × Bool) : Nat → Int → Option Bool
  | 0, _ => none
  | n1 + 1, i14 => cond (decide (i14 < (List.length q3.1.rows : Int))) (cond (decide (0 ≤ i14) && decide (i14 < (List.length q3.1.rows : Int))) ((f16 fu q3.1 ((q3.1.rows.getD i14.toNat default).id)).bind fun q15 => cond (decide (0 ≤ i14) && decide (i14 < (List.length q3.1.rows : Int))) ((f16 fu q1.1 ((q3.1.rows.getD i14.toNat default).id)).bind fun q16 => cond (!q16.2) (f3_j6 i14 (f3_l1 fu q1 q3 q13 n1) true) ((f18 fu q15.1 q16.1).bind fun q18 => f3_j6 i14 (f3_l1 fu q1 q3 q13 n1) (!q18))) none) none) (cond (decide (q3.2 = 0)) (cond (!q13.2) (cond (decide ((List.length q3.1.rows : Int) = (IntKind.i64.wrap ((List.length q1.1.rows : Int) - 1)))) ((f19 fu q3.1).bind fun q20 => cond q20 (cond (decide (q3.1.next = q1.1.next)) (f3_j7 (f3_l1 fu q1 q3 q13 n1) (decide (q1.2 < q3.1.next))) (f3_j7 (f3_l1 fu q1 q3 q13 n1) false)) (f3_j7 (f3_l1 fu q1 q3 q13 n1) false)) (f3_j7 (f3_l1 fu q1 q3 q13 n1) false)) (f3_j7 (f3_l1 fu q1 q3 q13 n1) false)) (f3_j7 (f3_l1 fu q1 q3 q13 n1) false))
def f3_j1 (fu : Nat) (q1 : Table × Int) (q3 : Table × Int) (i7 : Bool) : Option Bool := cond i7 (some false) ((f16 fu q1.1 q1.2).bind fun q8 => (f17 fu q1.1).bind fun q9 => cond (!q9) (cond (decide (q3.2 = 1)) (f3_j2 (!q8.2)) (f3_j2 false)) (cond (!q8.2) (cond (decide (q3.2 = 5)) ((f15 fu q3.1 q1.1).bind fun q12 => f3_j3 q12) (f3_j3 false)) ((f16 fu q3.1 q1.2).bind fun q13 => f3_l1 fu q1 q3 q13 fu 0)))
def f3 (fu : Nat) (a0 : List Int) : Option Bool := cond (decide (1048576 < (List.length a0 : Int))) (some true) ((f12 fu a0).bind fun q1 => (f13 fu q1.1 q1.2).bind fun q3 => (f14 fu q1.1 q1.2).bind fun q5 => cond (!decide (q3.2 = q5.2)) (f3_j1 fu q1 q3 true) ((f15 fu q3.1 q5.1).bind fun q21 => f3_j1 fu q1 q3 (!q21)))
theorem c3 (fu : Nat) (a0 : List Int) : Ctr Tryz.prog 3 [(tL (tI .u8)).va a0] [] (f3 fu a0) (fun _ _ => []) (fun q => isB q) := by
  refine Ctr.of_W Tryz.func3 rfl Tryz.ntmps3 rfl fun A w => ?_
  unfold f3
  refine .seq <| .region <| .assign rfl rfl <| .nil ?_
  refine .seq <| .seq <| .region <| .move rfl rfl <| .lenL rfl Tryz.underlying22 rfl <| .bin rfl rfl rfl rfl <| .nil ?_
  refine .cond rfl (fun _ => ?_) (fun _ => ?_)
  · refine .seq <| .region <| .assign rfl rfl <| .nil ?_
    exact .ret1 Tryz.func3 Tryz.results3 (.tmp rfl) rfl (fun _ _ => .slnil)
  · refine .skip <| .seq <| .region <| .move rfl rfl <| .call0 (c12 fu _) n12 rfl rfl fun q1 => .move rfl rfl <| .extract rfl rfl rfl <| .extract rfl rfl rfl <| .alloc tTable d0_27 [] z27 rfl fun b2 => .storeP 0 (Fld.self _) rfl rfl rfl ty27 <| .assign rfl rfl <| .nil ?_
    refine .seq <| .region <| .loadP 0 (Fld.self _) rfl rfl ty27 rfl <| .move rfl rfl <| .call0 (c13 fu _ _) n13 rfl rfl fun q3 => .move rfl rfl <| .extract rfl rfl rfl <| .extract rfl rfl rfl <| .alloc tTable d0_27 [] z27 rfl fun b4 => .storeP 0 (Fld.self _) rfl rfl rfl ty27 <| .assign rfl rfl <| .nil ?_
    refine .seq <| .region <| .loadP 1 (Fld.self _) rfl rfl ty27 rfl <| .move rfl rfl <| .call0 (c14 fu _ _) n14 rfl rfl fun q5 => .move rfl rfl <| .extract rfl rfl rfl <| .extract rfl rfl rfl <| .alloc tTable d0_27 [] z27 rfl fun b6 => .storeP 0 (Fld.self _) rfl rfl rfl ty27 <| .assign rfl rfl <| .nil ?_
    refine .seq <| .seq <| .join1 (fun i7 => ⟨[(3, isP b2 0, none), (4, isI .i64 q1.2, none), (5, isP b4 0, none), (6, isI .i64 q3.2, none), (46, isB i7, none)], [boxO b4 tTable q3.1 [], boxO b2 tTable q1.1 []]⟩) (fun i7 => f3_j1 fu q1 q3 i7) (fun i7 => ?_) (fun hj1 => ?_)
    · refine .cond rfl (fun _ => ?_) (fun _ => ?_)
      · refine .seq <| .region <| .assign rfl rfl <| .nil ?_
        exact .ret1 Tryz.func3 Tryz.results3 (.tmp rfl) rfl (fun _ _ => .cons _ <| .cons _ <| .slnil)
      · refine .skip <| .seq <| .region <| .loadP 1 (Fld.self _) rfl rfl ty27 rfl <| .move rfl rfl <| .call0 (c16 fu _ _) n16 rfl rfl fun q8 => .move rfl rfl <| .extract rfl rfl rfl <| .extract rfl rfl rfl <| .assign rfl rfl <| .assign rfl rfl <| .nil ?_
        refine .seq <| .seq <| .region <| .loadP 1 (Fld.self _) rfl rfl ty27 rfl <| .call0 (c17 fu _) n17 rfl rfl fun q9 => .not rfl rfl <| .nil ?_
        refine .cond rfl (fun _ => ?_) (fun _ => ?_)
        · refine .seq <| .join1 (fun i10 => ⟨[(2, isB i10, none)], []⟩) (fun i10 => f3_j2 i10) (fun i10 => ?_) (fun hj2 => ?_)
          · exact .ret1 Tryz.func3 Tryz.results3 (.tmp rfl) rfl (fun _ _ => .slnil)
          · refine .region <| .move rfl rfl <| .bin rfl rfl rfl rfl <| .move rfl rfl <| .split 58 rfl (fun _ => ?_) (fun _ => ?_)
            · refine .on rfl rfl <| .move rfl rfl <| .on rfl rfl <| .not rfl rfl <| .pickT rfl rfl rfl <| .assign rfl rfl <| .nil ?_
              exact .keep [2] [] rfl (.drop (.cons _ <| .cons _ <| .slnil) <| hj2 _)
            · refine .off rfl rfl rfl <| .off rfl rfl rfl <| .pickF rfl rfl rfl <| .assign rfl rfl <| .nil ?_
              exact .keep [2] [] rfl (.drop (.cons _ <| .cons _ <| .slnil) <| hj2 _)
        · refine .skip <| .seq <| .seq <| .region <| .move rfl rfl <| .not rfl rfl <| .nil ?_
          refine .cond rfl (fun _ => ?_) (fun _ => ?_)
          · refine .seq <| .join1 (fun i11 => ⟨[(2, isB i11, none)], []⟩) (fun i11 => f3_j3 i11) (fun i11 => ?_) (fun hj3 => ?_)
            · exact .ret1 Tryz.func3 Tryz.results3 (.tmp rfl) rfl (fun _ _ => .slnil)
            · refine .region <| .move rfl rfl <| .bin rfl rfl rfl rfl <| .move rfl rfl <| .split 66 rfl (fun _ => ?_) (fun _ => ?_)
              · refine .on rfl rfl <| .loadP 0 (Fld.self _) rfl rfl ty27 rfl <| .on rfl rfl <| .loadP 1 (Fld.self _) rfl rfl ty27 rfl <| .on rfl rfl <| .call0 (c15 fu _ _) n15 rfl rfl fun q12 => .pickT rfl rfl rfl <| .assign rfl rfl <| .nil ?_
                exact .keep [2] [] rfl (.drop (.cons _ <| .cons _ <| .slnil) <| hj3 _)
              · refine .off rfl rfl rfl <| .off rfl rfl rfl <| .off rfl rfl rfl <| .pickF rfl rfl rfl <| .assign rfl rfl <| .nil ?_
                exact .keep [2] [] rfl (.drop (.cons _ <| .cons _ <| .slnil) <| hj3 _)
          · refine .skip <| .seq <| .region <| .loadP 0 (Fld.self _) rfl rfl ty27 rfl <| .move rfl rfl <| .call0 (c16 fu _ _) n16 rfl rfl fun q13 => .move rfl rfl <| .extract rfl rfl rfl <| .extract rfl rfl rfl <| .assign rfl rfl <| .assign rfl rfl <| .nil ?_
            refine .seq <| .seq <| .region <| .assign rfl rfl <| .nil ?_
            refine .block <| .loop <| .keep [3, 4, 5, 6, 12, 13] [] rfl ?_
            refine (show ∀ (n1 : Nat) (i14 : Int), W _ _ _ _ _ ⟨[(3, isP b2 0, none), (4, isI .i64 q1.2, none), (5, isP b4 0, none), (6, isI .i64 q3.2, none), (12, isB q13.2, none), (13, isI .i64 i14, none)], [boxO b4 tTable q3.1 [], boxO b2 tTable q1.1 []]⟩ (f3_l1 fu q1 q3 q13 n1 i14) from ?_) fu _
            intro n1
            induction n1 with
            | zero => exact fun _ => .stop
            | succ n1 ih1 =>
              intro i14
              refine .inLoop <| .seq <| .seq <| .region <| .move rfl rfl <| .fieldP rfl fa27_2 rfl <| .loadP 0 fTable_2 rfl rfl ty25 rfl <| .lenL rfl Tryz.underlying25 rfl <| .bin rfl rfl rfl rfl <| .nil ?_
              refine .cond rfl (fun _ => ?_) (fun _ => ?_)
              · refine .skip <| .seq <| .block <| .seq <| .pT fun h3 => ?_
                refine .draw 7 [] mix (by kernel_rfl) (.cons (fun _ _ _ hP hE h => .loadP 0 (Fld.self _) (hE.op rfl) (hP.get rfl rfl) ty27 rfl <| h) <| .cons (fun _ _ _ hP hE h => .fieldP (hE.op rfl) fa27_2 rfl <| h) <| .cons (fun _ _ _ hP hE h => .loadP 0 fTable_2 (hE.op rfl) (hP.get rfl rfl) ty25 rfl <| h) <| .cons (fun _ _ _ hP hE h => .move (hE.op rfl) rfl <| h) <| .cons (fun _ _ _ hP hE h => .useC h3 <| .elemAt (hE.op rfl) (hE.op rfl) Tryz.underlying25 ty37 rfl <| h) <| .cons (fun _ _ _ hP hE h => .fieldAt fRow_0 (hE.op rfl) fa37_0 rfl <| h) <| .cons (fun _ _ _ hP hE h => .load (hE.op rfl) ty3 rfl <| h) <| .nil) rfl <| .call0 (c16 fu _ _) n16 rfl rfl fun q15 => .move rfl rfl <| .extract rfl rfl rfl <| .extract rfl rfl rfl <| .assign rfl rfl <| .assign rfl rfl <| .nil ?_
                refine .seq <| .pT fun h4 => ?_
                refine .draw 7 [] mix (by kernel_rfl) (.cons (fun _ _ _ hP hE h => .loadP 1 (Fld.self _) (hE.op rfl) (hP.get rfl rfl) ty27 rfl <| h) <| .cons (fun _ _ _ hP hE h => .fieldP (hE.op rfl) fa27_2 rfl <| h) <| .cons (fun _ _ _ hP hE h => .loadP 0 fTable_2 (hE.op rfl) (hP.get rfl rfl) ty25 rfl <| h) <| .cons (fun _ _ _ hP hE h => .move (hE.op rfl) rfl <| h) <| .cons (fun _ _ _ hP hE h => .useC h4 <| .elemAt (hE.op rfl) (hE.op rfl) Tryz.underlying25 ty37 rfl <| h) <| .cons (fun _ _ _ hP hE h => .fieldAt fRow_0 (hE.op rfl) fa37_0 rfl <| h) <| .cons (fun _ _ _ hP hE h => .load (hE.op rfl) ty3 rfl <| h) <| .nil) rfl <| .call0 (c16 fu _ _) n16 rfl rfl fun q16 => .move rfl rfl <| .extract rfl rfl rfl <| .extract rfl rfl rfl <| .assign rfl rfl <| .assign rfl rfl <| .nil ?_
                refine .seq <| .join1 (fun i17 => ⟨[(3, isP b2 0, none), (4, isI .i64 q1.2, none), (5, isP b4 0, none), (6, isI .i64 q3.2, none), (12, isB q13.2, none), (13, isI .i64 i14, none), (113, isB i17, none)], [boxO b4 tTable q3.1 [], boxO b2 tTable q1.1 []]⟩) (fun i17 => f3_j6 i14 (f3_l1 fu q1 q3 q13 n1) i17) (fun i17 => ?_) (fun hj6 => ?_)
                · refine .cond rfl (fun _ => ?_) (fun _ => ?_)
                  · refine .seq <| .region <| .assign rfl rfl <| .nil ?_
                    exact .ret1 Tryz.func3 Tryz.results3 (.tmp rfl) rfl (fun _ _ => .cons _ <| .cons _ <| .slnil)
                  · refine .skip <| .inBlock <| .region <| .move rfl rfl <| .bin rfl rfl rfl rfl <| .assign rfl rfl <| .nil ?_
                    exact .keep [3, 4, 5, 6, 12, 13] [] rfl (ih1 _)
                · refine .region <| .move rfl rfl <| .not rfl rfl <| .move rfl rfl <| .split 108 rfl (fun _ => ?_) (fun _ => ?_)
                  · refine .off rfl rfl rfl <| .off rfl rfl rfl <| .off rfl rfl rfl <| .off rfl rfl rfl <| .pickT rfl rfl rfl <| .nil ?_
                    exact .keep [3, 4, 5, 6, 12, 13, 113] [] rfl (hj6 _)
                  · refine .on rfl rfl <| .move rfl rfl <| .on rfl rfl <| .move rfl rfl <| .on rfl rfl <| .call0 (c18 fu _ _) n18 rfl rfl fun q18 => .on rfl rfl <| .not rfl rfl <| .pickF rfl rfl rfl <| .nil ?_
                    exact .keep [3, 4, 5, 6, 12, 13, 113] [] rfl (hj6 _)
              · refine .exit rfl <| .seq <| .join1 (fun i19 => ⟨[(2, isB i19, none)], []⟩) (fun i19 => f3_j7 (f3_l1 fu q1 q3 q13 n1) i19) (fun i19 => ?_) (fun hj7 => ?_)
                · exact .ret1 Tryz.func3 Tryz.results3 (.tmp rfl) rfl (fun _ _ => .slnil)
                · refine .region <| .move rfl rfl <| .bin rfl rfl rfl rfl <| .move rfl rfl <| .split 116 rfl (fun _ => ?_) (fun _ => ?_)
                  · refine .on rfl rfl <| .move rfl rfl <| .on rfl rfl <| .not rfl rfl <| .pickT rfl rfl rfl <| .move rfl rfl <| .split 120 rfl (fun _ => ?_) (fun _ => ?_)
                    · refine .on rfl rfl <| .fieldP rfl fa27_2 rfl <| .on rfl rfl <| .loadP 0 fTable_2 rfl rfl ty25 rfl <| .on rfl rfl <| .lenL rfl Tryz.underlying25 rfl <| .on rfl rfl <| .fieldP rfl fa27_2 rfl <| .on rfl rfl <| .loadP 1 fTable_2 rfl rfl ty25 rfl <| .on rfl rfl <| .lenL rfl Tryz.underlying25 rfl <| .on rfl rfl <| .bin rfl rfl rfl rfl <| .on rfl rfl <| .bin rfl rfl rfl rfl <| .pickT rfl rfl rfl <| .move rfl rfl <| .split 130 rfl (fun _ => ?_) (fun _ => ?_)
                      · refine .on rfl rfl <| .loadP 0 (Fld.self _) rfl rfl ty27 rfl <| .on rfl rfl <| .call0 (c19 fu _) n19 rfl rfl fun q20 => .pickT rfl rfl rfl <| .move rfl rfl <| .split 134 rfl (fun _ => ?_) (fun _ => ?_)
                        · refine .on rfl rfl <| .fieldP rfl fa27_3 rfl <| .on rfl rfl <| .loadP 0 fTable_3 rfl rfl ty3 rfl <| .on rfl rfl <| .fieldP rfl fa27_3 rfl <| .on rfl rfl <| .loadP 1 fTable_3 rfl rfl ty3 rfl <| .on rfl rfl <| .bin rfl rfl rfl rfl <| .pickT rfl rfl rfl <| .move rfl rfl <| .split 141 rfl (fun _ => ?_) (fun _ => ?_)
                          · refine .on rfl rfl <| .move rfl rfl <| .on rfl rfl <| .fieldP rfl fa27_3 rfl <| .on rfl rfl <| .loadP 0 fTable_3 rfl rfl ty3 rfl <| .on rfl rfl <| .bin rfl rfl rfl rfl <| .pickT rfl rfl rfl <| .assign rfl rfl <| .nil ?_
                            exact .keep [2] [] rfl (.drop (.cons _ <| .cons _ <| .slnil) <| hj7 _)
                          · refine .off rfl rfl rfl <| .off rfl rfl rfl <| .off rfl rfl rfl <| .off rfl rfl rfl <| .pickF rfl rfl rfl <| .assign rfl rfl <| .nil ?_
                            exact .keep [2] [] rfl (.drop (.cons _ <| .cons _ <| .slnil) <| hj7 _)
                        · refine .off rfl rfl rfl <| .off rfl rfl rfl <| .off rfl rfl rfl <| .off rfl rfl rfl <| .off rfl rfl rfl <| .pickF rfl rfl rfl <| .move rfl rfl <| .off rfl rfl rfl <| .off rfl rfl rfl <| .off rfl rfl rfl <| .off rfl rfl rfl <| .pickF rfl rfl rfl <| .assign rfl rfl <| .nil ?_
                          exact .keep [2] [] rfl (.drop (.cons _ <| .cons _ <| .slnil) <| hj7 _)
                      · refine .off rfl rfl rfl <| .off rfl rfl rfl <| .pickF rfl rfl rfl <| .move rfl rfl <| .off rfl rfl rfl <| .off rfl rfl rfl <| .off rfl rfl rfl <| .off rfl rfl rfl <| .off rfl rfl rfl <| .pickF rfl rfl rfl <| .move rfl rfl <| .off rfl rfl rfl <| .off rfl rfl rfl <| .off rfl rfl rfl <| .off rfl rfl rfl <| .pickF rfl rfl rfl <| .assign rfl rfl <| .nil ?_
                        exact .keep [2] [] rfl (.drop (.cons _ <| .cons _ <| .slnil) <| hj7 _)
                    · refine .off rfl rfl rfl <| .off rfl rfl rfl <| .off rfl rfl rfl <| .off rfl rfl rfl <| .off rfl rfl rfl <| .off rfl rfl rfl <| .off rfl rfl rfl <| .off rfl rfl rfl <| .pickF rfl rfl rfl <| .move rfl rfl <| .off rfl rfl rfl <| .off rfl rfl rfl <| .pickF rfl rfl rfl <| .move rfl rfl <| .off rfl rfl rfl <| .off rfl rfl rfl <| .off rfl rfl rfl <| .off rfl rfl rfl <| .off rfl rfl rfl <| .pickF rfl rfl rfl <| .move rfl rfl <| .off rfl rfl rfl <| .off rfl rfl rfl <| .off rfl rfl rfl <| .off rfl rfl rfl <| .pickF rfl rfl rfl <| .assign rfl rfl <| .nil ?_
                      exact .keep [2] [] rfl (.drop (.cons _ <| .cons _ <| .slnil) <| hj7 _)
                  · refine .off rfl rfl rfl <| .off rfl rfl rfl <| .pickF rfl rfl rfl <| .move rfl rfl <| .off rfl rfl rfl <| .off rfl rfl rfl <| .off rfl rfl rfl <| .off rfl rfl rfl <| .off rfl rfl rfl <| .off rfl rfl rfl <| .off rfl rfl rfl <| .off rfl rfl rfl <| .pickF rfl rfl rfl <| .move rfl rfl <| .off rfl rfl rfl <| .off rfl rfl rfl <| .pickF rfl rfl rfl <| .move rfl rfl <| .off rfl rfl rfl <| .off rfl rfl rfl <| .off rfl rfl rfl <| .off rfl rfl rfl <| .off rfl rfl rfl <| .pickF rfl rfl rfl <| .move rfl rfl <| .off rfl rfl rfl <| .off rfl rfl rfl <| .off rfl rfl rfl <| .off rfl rfl rfl <| .pickF rfl rfl rfl <| .assign rfl rfl <| .nil ?_
                    exact .keep [2] [] rfl (.drop (.cons _ <| .cons _ <| .slnil) <| hj7 _)
    · refine .region <| .move rfl rfl <| .move rfl rfl <| .bin rfl rfl rfl rfl <| .move rfl rfl <| .split 41 rfl (fun _ => ?_) (fun _ => ?_)
      · refine .off rfl rfl rfl <| .off rfl rfl rfl <| .off rfl rfl rfl <| .off rfl rfl rfl <| .pickT rfl rfl rfl <| .nil ?_
        exact .keep [3, 4, 5, 6, 46] [] rfl (.drop (.cons _ <| .cons_cons _ <| .cons_cons _ <| .slnil) <| hj1 _)
      · refine .on rfl rfl <| .loadP 1 (Fld.self _) rfl rfl ty27 rfl <| .on rfl rfl <| .loadP 0 (Fld.self _) rfl rfl ty27 rfl <| .on rfl rfl <| .call0 (c15 fu _ _) n15 rfl rfl fun q21 => .on rfl rfl <| .not rfl rfl <| .pickF rfl rfl rfl <| .nil ?_
        exact .keep [3, 4, 5, 6, 46] [] rfl (.drop (.cons _ <| .cons_cons _ <| .cons_cons _ <| .slnil) <| hj1 _)
end Go.Proofs.YtbnklinfjmmlfaaGreatDoor
