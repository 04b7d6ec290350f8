/- Functions of the program: what each answers, and that the machine answers so. -/
import Derived.Test.YtbnklinfjmmlfaaGreatDoorQ10A13
import Derived.KernelRfl
set_option linter.unusedVariables false
set_option linter.unusedSimpArgs false
set_option linter.deprecated false
set_option linter.unusedSectionVars false
set_option linter.all false
namespace Go.Proofs.YtbnklinfjmmlfaaGreatDoor
open Go Go.HL
def f10_j3 (i10 : Bool) : Option Bool := some i10
def f10_j6 (i17 : Int) (rec1 : Int → Option Bool) (i20 : Bool) : Option Bool := cond i20 (some false) (rec1 (IntKind.i64.wrap (i17 + 1)))
def f10_j7 (rec1 : Int → Option Bool) (i23 : Bool) : Option Bool := some i23
def f10_l1 (fu : Nat) (q1 : Table × Change) (q4 : Table × Int) (q15 : (List Col)) (q16 : (List Col) × Bool) : Nat → Int → Option Bool
  | 0, _ => none
  | n1 + 1, i17 => cond (decide (i17 < (List.length q1.1.rows : Int))) (cond (decide (0 ≤ i17) && decide (i17 < (List.length q1.1.rows : Int))) ((f16 fu q1.1 ((q1.1.rows.getD i17.toNat default).id)).bind fun q18 => cond (decide (0 ≤ i17) && decide (i17 < (List.length q1.1.rows : Int))) ((f16 fu q4.1 ((q1.1.rows.getD i17.toNat default).id)).bind fun q19 => cond (!q19.2) (f10_j6 i17 (f10_l1 fu q1 q4 q15 q16 n1) true) ((f36 fu q15 q1.2 q18.1).bind fun q21 => (f18 fu q19.1 q21).bind fun q22 => f10_j6 i17 (f10_l1 fu q1 q4 q15 q16 n1) (!q22))) none) none) (cond q16.2 ((f23 fu q4.1).bind fun q24 => (f37 fu q24 q16.1).bind fun q25 => cond q25 ((f19 fu q4.1).bind fun q26 => cond q26 (cond (decide ((List.length q4.1.rows : Int) = (List.length q1.1.rows : Int))) (f10_j7 (f10_l1 fu q1 q4 q15 q16 n1) (decide ((List.length q4.1.changes : Int) = (IntKind.i64.wrap ((List.length q1.1.changes : Int) + 1))))) (f10_j7 (f10_l1 fu q1 q4 q15 q16 n1) false)) (f10_j7 (f10_l1 fu q1 q4 q15 q16 n1) false)) (f10_j7 (f10_l1 fu q1 q4 q15 q16 n1) false)) (f10_j7 (f10_l1 fu q1 q4 q15 q16 n1) false))
def f10_j2 (fu : Nat) (q1 : Table × Change) (q4 : Table × Int) (i9 : Bool) : Option Bool := cond i9 ((f15 fu q4.1 q1.1).bind fun q11 => cond q11 ((f17 fu q1.1).bind fun q12 => cond q12 (f10_j3 true) (cond (decide (q4.2 = 1)) ((f15 fu q4.1 (⟨d0_27.first, d0_27.changes, d0_27.rows, d0_27.next⟩ : Table)).bind fun q13 => f10_j3 q13) (f10_j3 false))) (cond (decide (q4.2 = 1)) ((f15 fu q4.1 (⟨d0_27.first, d0_27.changes, d0_27.rows, d0_27.next⟩ : Table)).bind fun q14 => f10_j3 q14) (f10_j3 false))) ((f23 fu q1.1).bind fun q15 => (f35 fu q15 q1.2).bind fun q16 => f10_l1 fu q1 q4 q15 q16 fu 0)
def f10_j1 (fu : Nat) (q1 : Table × Change) (q4 : Table × Int) (i8 : Bool) : Option Bool := cond i8 (some false) ((f17 fu q1.1).bind fun q27 => cond (!q27) (f10_j2 fu q1 q4 true) (f10_j2 fu q1 q4 (!decide (q4.2 = 0))))
def f10 (fu : Nat) (a0 : List Int) : Option Bool := cond (decide (1048576 < (List.length a0 : Int))) (some true) ((f27 fu a0).bind fun q1 => (f28 fu q1.1 q1.2).bind fun q4 => (f29 fu q1.1 q1.2).bind fun q6 => cond (!decide (q4.2 = q6.2)) (f10_j1 fu q1 q4 true) ((f15 fu q4.1 q6.1).bind fun q28 => f10_j1 fu q1 q4 (!q28)))
theorem c10 (fu : Nat) (a0 : List Int) : Ctr Tryz.prog 10 [(tL (tI .u8)).va a0] [] (f10 fu a0) (fun _ _ => []) (fun q => isB q) := by
  refine Ctr.of_W Tryz.func10 rfl Tryz.ntmps10 rfl fun A w => ?_
  unfold f10
  refine .seq <| .region <| .assign rfl rfl <| .nil ?_
  refine .seq <| .seq <| .region <| .move rfl rfl <| .lenL rfl Tryz.underlying22 rfl <| .bin rfl rfl rfl rfl <| .nil ?_
  refine .cond rfl (fun _ => ?_) (fun _ => ?_)
  · refine .seq <| .region <| .assign rfl rfl <| .nil ?_
    exact .ret1 Tryz.func10 Tryz.results10 (.tmp rfl) rfl (fun _ _ => .slnil)
  · refine .skip <| .seq <| .region <| .move rfl rfl <| .call0 (c27 fu _) n27 rfl rfl fun q1 => .move rfl rfl <| .extract rfl rfl rfl <| .extract rfl rfl rfl <| .alloc tTable d0_27 [] z27 rfl fun b2 => .alloc tChange d0_56 [] z56 rfl fun b3 => .storeP 1 (Fld.self _) rfl rfl rfl ty27 <| .storeP 0 (Fld.self _) rfl rfl rfl ty56 <| .nil ?_
    refine .seq <| .region <| .loadP 1 (Fld.self _) rfl rfl ty27 rfl <| .loadP 0 (Fld.self _) rfl rfl ty56 rfl <| .call0 (c28 fu _ _) n28 rfl rfl fun q4 => .move rfl rfl <| .extract rfl rfl rfl <| .extract rfl rfl rfl <| .alloc tTable d0_27 [] z27 rfl fun b5 => .storeP 0 (Fld.self _) rfl rfl rfl ty27 <| .assign rfl rfl <| .nil ?_
    refine .seq <| .region <| .loadP 2 (Fld.self _) rfl rfl ty27 rfl <| .loadP 1 (Fld.self _) rfl rfl ty56 rfl <| .call0 (c29 fu _ _) n29 rfl rfl fun q6 => .move rfl rfl <| .extract rfl rfl rfl <| .extract rfl rfl rfl <| .alloc tTable d0_27 [] z27 rfl fun b7 => .storeP 0 (Fld.self _) rfl rfl rfl ty27 <| .assign rfl rfl <| .nil ?_
    refine .seq <| .seq <| .join1 (fun i8 => ⟨[(3, isP b2 0, none), (4, isP b3 0, none), (5, isP b5 0, none), (6, isI .i64 q4.2, none), (45, isB i8, none)], [boxO b5 tTable q4.1 [], boxO b3 tChange q1.2 [], boxO b2 tTable q1.1 []]⟩) (fun i8 => f10_j1 fu q1 q4 i8) (fun i8 => ?_) (fun hj1 => ?_)
    · refine .cond rfl (fun _ => ?_) (fun _ => ?_)
      · refine .seq <| .region <| .assign rfl rfl <| .nil ?_
        exact .ret1 Tryz.func10 Tryz.results10 (.tmp rfl) rfl (fun _ _ => .cons _ <| .cons _ <| .cons _ <| .slnil)
      · refine .skip <| .seq <| .seq <| .join1 (fun i9 => ⟨[(3, isP b2 0, none), (4, isP b3 0, none), (5, isP b5 0, none), (6, isI .i64 q4.2, none), (52, isB i9, none)], [boxO b5 tTable q4.1 [], boxO b3 tChange q1.2 [], boxO b2 tTable q1.1 []]⟩) (fun i9 => f10_j2 fu q1 q4 i9) (fun i9 => ?_) (fun hj2 => ?_)
        · refine .cond rfl (fun _ => ?_) (fun _ => ?_)
          · refine .seq <| .join1 (fun i10 => ⟨[(2, isB i10, none)], []⟩) (fun i10 => f10_j3 i10) (fun i10 => ?_) (fun hj3 => ?_)
            · exact .ret1 Tryz.func10 Tryz.results10 (.tmp rfl) rfl (fun _ _ => .slnil)
            · refine .region <| .loadP 0 (Fld.self _) rfl rfl ty27 rfl <| .loadP 2 (Fld.self _) rfl rfl ty27 rfl <| .call0 (c15 fu _ _) n15 rfl rfl fun q11 => .move rfl rfl <| .split 56 rfl (fun _ => ?_) (fun _ => ?_)
              · refine .on rfl rfl <| .loadP 2 (Fld.self _) rfl rfl ty27 rfl <| .on rfl rfl <| .call0 (c17 fu _) n17 rfl rfl fun q12 => .pickT rfl rfl rfl <| .move rfl rfl <| .split 60 rfl (fun _ => ?_) (fun _ => ?_)
                · refine .off rfl rfl rfl <| .off rfl rfl rfl <| .off rfl rfl rfl <| .offU rfl rfl rfl <| .offU rfl rfl rfl <| .offU rfl rfl rfl <| .off rfl rfl rfl <| .pickT rfl rfl rfl <| .assign rfl rfl <| .nil ?_
                  exact .keep [2] [] rfl (.drop (.cons _ <| .cons _ <| .cons _ <| .slnil) <| hj3 _)
                · refine .on rfl rfl <| .move rfl rfl <| .on rfl rfl <| .bin rfl rfl rfl rfl <| .on rfl rfl <| .move rfl rfl <| .split 63 rfl (fun _ => ?_) (fun _ => ?_)
                  · refine .on rfl rfl <| .loadP 0 (Fld.self _) rfl rfl ty27 rfl <| .on rfl rfl <| .build rfl st27 z27 (.nil) rfl <| .on rfl rfl <| .call0 (c15 fu _ _) n15 rfl rfl fun q13 => .on rfl rfl <| .pickT rfl rfl rfl <| .pickF rfl rfl rfl <| .assign rfl rfl <| .nil ?_
                    exact .keep [2] [] rfl (.drop (.cons _ <| .cons _ <| .cons _ <| .slnil) <| hj3 _)
                  · refine .off rfl rfl rfl <| .off rfl rfl rfl <| .off rfl rfl rfl <| .on rfl rfl <| .pickF rfl rfl rfl <| .pickF rfl rfl rfl <| .assign rfl rfl <| .nil ?_
                    exact .keep [2] [] rfl (.drop (.cons _ <| .cons _ <| .cons _ <| .slnil) <| hj3 _)
              · refine .off rfl rfl rfl <| .off rfl rfl rfl <| .pickF rfl rfl rfl <| .move rfl rfl <| .on rfl rfl <| .move rfl rfl <| .on rfl rfl <| .bin rfl rfl rfl rfl <| .on rfl rfl <| .move rfl rfl <| .split 63 rfl (fun _ => ?_) (fun _ => ?_)
                · refine .on rfl rfl <| .loadP 0 (Fld.self _) rfl rfl ty27 rfl <| .on rfl rfl <| .build rfl st27 z27 (.nil) rfl <| .on rfl rfl <| .call0 (c15 fu _ _) n15 rfl rfl fun q14 => .on rfl rfl <| .pickT rfl rfl rfl <| .pickF rfl rfl rfl <| .assign rfl rfl <| .nil ?_
                  exact .keep [2] [] rfl (.drop (.cons _ <| .cons _ <| .cons _ <| .slnil) <| hj3 _)
                · refine .off rfl rfl rfl <| .off rfl rfl rfl <| .off rfl rfl rfl <| .on rfl rfl <| .pickF rfl rfl rfl <| .pickF rfl rfl rfl <| .assign rfl rfl <| .nil ?_
                  exact .keep [2] [] rfl (.drop (.cons _ <| .cons _ <| .cons _ <| .slnil) <| hj3 _)
          · refine .skip <| .seq <| .region <| .loadP 2 (Fld.self _) rfl rfl ty27 rfl <| .call0 (c23 fu _) n23 rfl rfl fun q15 => .assign rfl rfl <| .nil ?_
            refine .seq <| .region <| .move rfl rfl <| .loadP 1 (Fld.self _) rfl rfl ty56 rfl <| .call0 (c35 fu _ _) n35 rfl rfl fun q16 => .move rfl rfl <| .extract rfl rfl rfl <| .extract rfl rfl rfl <| .assign rfl rfl <| .assign rfl rfl <| .nil ?_
            refine .seq <| .seq <| .region <| .assign rfl rfl <| .nil ?_
            refine .block <| .loop <| .keep [3, 4, 5, 9, 10, 11, 12] [] rfl ?_
            refine (show ∀ (n1 : Nat) (i17 : Int), W _ _ _ _ _ ⟨[(3, isP b2 0, none), (4, isP b3 0, none), (5, isP b5 0, none), (9, (tL tCol).va q15, none), (10, (tL tCol).va q16.1, none), (11, isB q16.2, none), (12, isI .i64 i17, none)], [boxO b5 tTable q4.1 [], boxO b3 tChange q1.2 [], boxO b2 tTable q1.1 []]⟩ (f10_l1 fu q1 q4 q15 q16 n1 i17) from ?_) fu _
            intro n1
            induction n1 with
            | zero => exact fun _ => .stop
            | succ n1 ih1 =>
              intro i17
              refine .inLoop <| .seq <| .seq <| .region <| .move rfl rfl <| .fieldP rfl fa27_2 rfl <| .loadP 2 fTable_2 rfl rfl ty25 rfl <| .lenL rfl Tryz.underlying25 rfl <| .bin rfl rfl rfl rfl <| .nil ?_
              refine .cond rfl (fun _ => ?_) (fun _ => ?_)
              · refine .skip <| .seq <| .block <| .seq <| .pT fun h3 => ?_
                refine .draw 7 [] mix (by kernel_rfl) (.cons (fun _ _ _ hP hE h => .loadP 2 (Fld.self _) (hE.op rfl) (hP.get rfl rfl) ty27 rfl <| h) <| .cons (fun _ _ _ hP hE h => .fieldP (hE.op rfl) fa27_2 rfl <| h) <| .cons (fun _ _ _ hP hE h => .loadP 2 fTable_2 (hE.op rfl) (hP.get rfl rfl) ty25 rfl <| h) <| .cons (fun _ _ _ hP hE h => .move (hE.op rfl) rfl <| h) <| .cons (fun _ _ _ hP hE h => .useC h3 <| .elemAt (hE.op rfl) (hE.op rfl) Tryz.underlying25 ty37 rfl <| h) <| .cons (fun _ _ _ hP hE h => .fieldAt fRow_0 (hE.op rfl) fa37_0 rfl <| h) <| .cons (fun _ _ _ hP hE h => .load (hE.op rfl) ty3 rfl <| h) <| .nil) rfl <| .call0 (c16 fu _ _) n16 rfl rfl fun q18 => .move rfl rfl <| .extract rfl rfl rfl <| .extract rfl rfl rfl <| .assign rfl rfl <| .assign rfl rfl <| .nil ?_
                refine .seq <| .pT fun h4 => ?_
                refine .draw 7 [] mix (by kernel_rfl) (.cons (fun _ _ _ hP hE h => .loadP 0 (Fld.self _) (hE.op rfl) (hP.get rfl rfl) ty27 rfl <| h) <| .cons (fun _ _ _ hP hE h => .fieldP (hE.op rfl) fa27_2 rfl <| h) <| .cons (fun _ _ _ hP hE h => .loadP 2 fTable_2 (hE.op rfl) (hP.get rfl rfl) ty25 rfl <| h) <| .cons (fun _ _ _ hP hE h => .move (hE.op rfl) rfl <| h) <| .cons (fun _ _ _ hP hE h => .useC h4 <| .elemAt (hE.op rfl) (hE.op rfl) Tryz.underlying25 ty37 rfl <| h) <| .cons (fun _ _ _ hP hE h => .fieldAt fRow_0 (hE.op rfl) fa37_0 rfl <| h) <| .cons (fun _ _ _ hP hE h => .load (hE.op rfl) ty3 rfl <| h) <| .nil) rfl <| .call0 (c16 fu _ _) n16 rfl rfl fun q19 => .move rfl rfl <| .extract rfl rfl rfl <| .extract rfl rfl rfl <| .assign rfl rfl <| .assign rfl rfl <| .nil ?_
                refine .seq <| .join1 (fun i20 => ⟨[(3, isP b2 0, none), (4, isP b3 0, none), (5, isP b5 0, none), (9, (tL tCol).va q15, none), (10, (tL tCol).va q16.1, none), (11, isB q16.2, none), (12, isI .i64 i17, none), (116, isB i20, none)], [boxO b5 tTable q4.1 [], boxO b3 tChange q1.2 [], boxO b2 tTable q1.1 []]⟩) (fun i20 => f10_j6 i17 (f10_l1 fu q1 q4 q15 q16 n1) i20) (fun i20 => ?_) (fun hj6 => ?_)
                · refine .cond rfl (fun _ => ?_) (fun _ => ?_)
                  · refine .seq <| .region <| .assign rfl rfl <| .nil ?_
                    exact .ret1 Tryz.func10 Tryz.results10 (.tmp rfl) rfl (fun _ _ => .cons _ <| .cons _ <| .cons _ <| .slnil)
                  · refine .skip <| .inBlock <| .region <| .move rfl rfl <| .bin rfl rfl rfl rfl <| .assign rfl rfl <| .nil ?_
                    exact .keep [3, 4, 5, 9, 10, 11, 12] [] rfl (ih1 _)
                · refine .region <| .move rfl rfl <| .not rfl rfl <| .move rfl rfl <| .split 108 rfl (fun _ => ?_) (fun _ => ?_)
                  · refine .off rfl rfl rfl <| .off rfl rfl rfl <| .off rfl rfl rfl <| .off rfl rfl rfl <| .off rfl rfl rfl <| .off rfl rfl rfl <| .off rfl rfl rfl <| .pickT rfl rfl rfl <| .nil ?_
                    exact .keep [3, 4, 5, 9, 10, 11, 12, 116] [] rfl (hj6 _)
                  · refine .on rfl rfl <| .move rfl rfl <| .on rfl rfl <| .move rfl rfl <| .on rfl rfl <| .loadP 1 (Fld.self _) rfl rfl ty56 rfl <| .on rfl rfl <| .move rfl rfl <| .on rfl rfl <| .call0 (c36 fu _ _ _) n36 rfl rfl fun q21 => .on rfl rfl <| .call0 (c18 fu _ _) n18 rfl rfl fun q22 => .on rfl rfl <| .not rfl rfl <| .pickF rfl rfl rfl <| .nil ?_
                    exact .keep [3, 4, 5, 9, 10, 11, 12, 116] [] rfl (hj6 _)
              · refine .exit rfl <| .seq <| .join1 (fun i23 => ⟨[(2, isB i23, none)], []⟩) (fun i23 => f10_j7 (f10_l1 fu q1 q4 q15 q16 n1) i23) (fun i23 => ?_) (fun hj7 => ?_)
                · exact .ret1 Tryz.func10 Tryz.results10 (.tmp rfl) rfl (fun _ _ => .slnil)
                · refine .region <| .move rfl rfl <| .move rfl rfl <| .split 118 rfl (fun _ => ?_) (fun _ => ?_)
                  · refine .on rfl rfl <| .loadP 0 (Fld.self _) rfl rfl ty27 rfl <| .on rfl rfl <| .call0 (c23 fu _) n23 rfl rfl fun q24 => .on rfl rfl <| .move rfl rfl <| .on rfl rfl <| .call0 (c37 fu _ _) n37 rfl rfl fun q25 => .pickT rfl rfl rfl <| .move rfl rfl <| .split 124 rfl (fun _ => ?_) (fun _ => ?_)
                    · refine .on rfl rfl <| .loadP 0 (Fld.self _) rfl rfl ty27 rfl <| .on rfl rfl <| .call0 (c19 fu _) n19 rfl rfl fun q26 => .pickT rfl rfl rfl <| .move rfl rfl <| .split 128 rfl (fun _ => ?_) (fun _ => ?_)
                      · refine .on rfl rfl <| .fieldP rfl fa27_2 rfl <| .on rfl rfl <| .loadP 0 fTable_2 rfl rfl ty25 rfl <| .on rfl rfl <| .lenL rfl Tryz.underlying25 rfl <| .on rfl rfl <| .fieldP rfl fa27_2 rfl <| .on rfl rfl <| .loadP 2 fTable_2 rfl rfl ty25 rfl <| .on rfl rfl <| .lenL rfl Tryz.underlying25 rfl <| .on rfl rfl <| .bin rfl rfl rfl rfl <| .pickT rfl rfl rfl <| .move rfl rfl <| .split 137 rfl (fun _ => ?_) (fun _ => ?_)
                        · refine .on rfl rfl <| .fieldP rfl fa27_1 rfl <| .on rfl rfl <| .loadP 0 fTable_1 rfl rfl ty24 rfl <| .on rfl rfl <| .lenL rfl Tryz.underlying24 rfl <| .on rfl rfl <| .fieldP rfl fa27_1 rfl <| .on rfl rfl <| .loadP 2 fTable_1 rfl rfl ty24 rfl <| .on rfl rfl <| .lenL rfl Tryz.underlying24 rfl <| .on rfl rfl <| .bin rfl rfl rfl rfl <| .on rfl rfl <| .bin rfl rfl rfl rfl <| .pickT rfl rfl rfl <| .assign rfl rfl <| .nil ?_
                          exact .keep [2] [] rfl (.drop (.cons _ <| .cons _ <| .cons _ <| .slnil) <| hj7 _)
                        · refine .off rfl rfl rfl <| .off rfl rfl rfl <| .off rfl rfl rfl <| .off rfl rfl rfl <| .off rfl rfl rfl <| .off rfl rfl rfl <| .off rfl rfl rfl <| .off rfl rfl rfl <| .pickF rfl rfl rfl <| .assign rfl rfl <| .nil ?_
                          exact .keep [2] [] rfl (.drop (.cons _ <| .cons _ <| .cons _ <| .slnil) <| hj7 _)
                      · refine .off rfl rfl rfl <| .off rfl rfl rfl <| .off rfl rfl rfl <| .off rfl rfl rfl <| .off rfl rfl rfl <| .off rfl rfl rfl <| .off rfl rfl rfl <| .pickF rfl rfl rfl <| .move rfl rfl <| .off rfl rfl rfl <| .off rfl rfl rfl <| .off rfl rfl rfl <| .off rfl rfl rfl <| .off rfl rfl rfl <| .off rfl rfl rfl <| .off rfl rfl rfl <| .off rfl rfl rfl <| .pickF rfl rfl rfl <| .assign rfl rfl <| .nil ?_
                        exact .keep [2] [] rfl (.drop (.cons _ <| .cons _ <| .cons _ <| .slnil) <| hj7 _)
                    · refine .off rfl rfl rfl <| .off rfl rfl rfl <| .pickF rfl rfl rfl <| .move rfl rfl <| .off rfl rfl rfl <| .off rfl rfl rfl <| .off rfl rfl rfl <| .off rfl rfl rfl <| .off rfl rfl rfl <| .off rfl rfl rfl <| .off rfl rfl rfl <| .pickF rfl rfl rfl <| .move rfl rfl <| .off rfl rfl rfl <| .off rfl rfl rfl <| .off rfl rfl rfl <| .off rfl rfl rfl <| .off rfl rfl rfl <| .off rfl rfl rfl <| .off rfl rfl rfl <| .off rfl rfl rfl <| .pickF rfl rfl rfl <| .assign rfl rfl <| .nil ?_
                      exact .keep [2] [] rfl (.drop (.cons _ <| .cons _ <| .cons _ <| .slnil) <| hj7 _)
                  · refine .off rfl rfl rfl <| .off rfl rfl rfl <| .off rfl rfl rfl <| .off rfl rfl rfl <| .pickF rfl rfl rfl <| .move rfl rfl <| .off rfl rfl rfl <| .off rfl rfl rfl <| .pickF rfl rfl rfl <| .move rfl rfl <| .off rfl rfl rfl <| .off rfl rfl rfl <| .off rfl rfl rfl <| .off rfl rfl rfl <| .off rfl rfl rfl <| .off rfl rfl rfl <| .off rfl rfl rfl <| .pickF rfl rfl rfl <| .move rfl rfl <| .off rfl rfl rfl <| .off rfl rfl rfl <| .off rfl rfl rfl <| .off rfl rfl rfl <| .off rfl rfl rfl <| .off rfl rfl rfl <| .off rfl rfl rfl <| .off rfl rfl rfl <| .pickF rfl rfl rfl <| .assign rfl rfl <| .nil ?_
                    exact .keep [2] [] rfl (.drop (.cons _ <| .cons _ <| .cons _ <| .slnil) <| hj7 _)
        · refine .region <| .loadP 2 (Fld.self _) rfl rfl ty27 rfl <| .call0 (c17 fu _) n17 rfl rfl fun q27 => .not rfl rfl <| .move rfl rfl <| .split 49 rfl (fun _ => ?_) (fun _ => ?_)
          · refine .off rfl rfl rfl <| .off rfl rfl rfl <| .pickT rfl rfl rfl <| .nil ?_
            exact .keep [3, 4, 5, 6, 52] [] rfl (hj2 _)
          · refine .on rfl rfl <| .move rfl rfl <| .on rfl rfl <| .bin rfl rfl rfl rfl <| .pickF rfl rfl rfl <| .nil ?_
            exact .keep [3, 4, 5, 6, 52] [] rfl (hj2 _)
    · refine .region <| .move rfl rfl <| .move rfl rfl <| .bin rfl rfl rfl rfl <| .move rfl rfl <| .split 40 rfl (fun _ => ?_) (fun _ => ?_)
      · refine .off rfl rfl rfl <| .off rfl rfl rfl <| .off rfl rfl rfl <| .off rfl rfl rfl <| .pickT rfl rfl rfl <| .nil ?_
        exact .keep [3, 4, 5, 6, 45] [] rfl (.drop (.cons _ <| .cons_cons _ <| .cons_cons _ <| .cons_cons _ <| .slnil) <| hj1 _)
      · refine .on rfl rfl <| .loadP 1 (Fld.self _) rfl rfl ty27 rfl <| .on rfl rfl <| .loadP 0 (Fld.self _) rfl rfl ty27 rfl <| .on rfl rfl <| .call0 (c15 fu _ _) n15 rfl rfl fun q28 => .on rfl rfl <| .not rfl rfl <| .pickF rfl rfl rfl <| .nil ?_
        exact .keep [3, 4, 5, 6, 45] [] rfl (.drop (.cons _ <| .cons_cons _ <| .cons_cons _ <| .cons_cons _ <| .slnil) <| hj1 _)
end Go.Proofs.YtbnklinfjmmlfaaGreatDoor
