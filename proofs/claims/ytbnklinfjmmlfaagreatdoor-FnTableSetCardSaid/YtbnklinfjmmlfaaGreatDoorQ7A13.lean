/- Functions of the program: what each answers, and that the machine answers so. -/
import Derived.Test.YtbnklinfjmmlfaaGreatDoorQ7A12
import Derived.KernelRfl
set_option linter.unusedVariables false
set_option linter.unusedSimpArgs false
set_option linter.deprecated false
set_option linter.unusedSectionVars false
set_option linter.all false
namespace Go.Proofs.YtbnklinfjmmlfaaGreatDoor
open Go Go.HL
def f7_j3 (i9 : Bool) : Option Bool := some i9
def f7_j22 (i21 : Int) (rec1 : Int → Option Bool) (rec2 : Int → Option Bool) (rec3 : Int → Val → Option Bool) (i24 : Val) : Option Bool := rec3 (IntKind.i64.wrap (i21 + 1)) i24
def f7_j21 (q1 : Table × Int × (List Set)) (i21 : Int) (i22 : Val) (rec1 : Int → Option Bool) (rec2 : Int → Option Bool) (rec3 : Int → Val → Option Bool) (i23 : Bool) : Option Bool := cond i23 (cond (decide (0 ≤ i21) && decide (i21 < (List.length q1.2.2 : Int))) (f7_j22 i21 rec1 rec2 rec3 ((q1.2.2.getD i21.toNat default).val)) none) (f7_j22 i21 rec1 rec2 rec3 i22)
def f7_l3 (q1 : Table × Int × (List Set)) (q14 : (List Col)) (i15 : Int) (q17 : (List Val) × Bool) (i19 : Int) (rec1 : Int → Option Bool) (rec2 : Int → Option Bool) : Nat → Int → Val → Option Bool
  | 0, _, _ => none
  | n3 + 1, i21, i22 => cond (decide (i21 < (List.length q1.2.2 : Int))) (cond (decide (0 ≤ i21) && decide (i21 < (List.length q1.2.2 : Int))) (cond (decide (0 ≤ i19) && decide (i19 < (List.length q14 : Int))) (cond (decide (((q1.2.2.getD i21.toNat default).name) = ((q14.getD i19.toNat default).name))) (cond (decide (0 ≤ i15) && decide (i15 < (List.length q1.1.rows : Int))) (f7_j21 q1 i21 i22 rec1 rec2 (f7_l3 q1 q14 i15 q17 i19 rec1 rec2 n3) (decide (((q1.1.rows.getD i15.toNat default).id) = q1.2.1))) none) (f7_j21 q1 i21 i22 rec1 rec2 (f7_l3 q1 q14 i15 q17 i19 rec1 rec2 n3) false)) none) none) (cond (decide (0 ≤ i19) && decide (i19 < (List.length q17.1 : Int))) (cond (!decide ((q17.1.getD i19.toNat default) = i22)) (some false) (rec2 (IntKind.i64.wrap (i19 + 1)))) none)
def f7_l2 (fu : Nat) (q1 : Table × Int × (List Set)) (q14 : (List Col)) (i15 : Int) (q16 : (List Val) × Bool) (q17 : (List Val) × Bool) (rec1 : Int → Option Bool) : Nat → Int → Option Bool
  | 0, _ => none
  | n2 + 1, i19 => cond (decide (i19 < (List.length q14 : Int))) (cond (decide (0 ≤ i19) && decide (i19 < (List.length q16.1 : Int))) (f7_l3 q1 q14 i15 q17 i19 rec1 (f7_l2 fu q1 q14 i15 q16 q17 rec1 n2) fu 0 (q16.1.getD i19.toNat default)) none) (rec1 (IntKind.i64.wrap (i15 + 1)))
def f7_j14 (fu : Nat) (q1 : Table × Int × (List Set)) (q14 : (List Col)) (i15 : Int) (q16 : (List Val) × Bool) (q17 : (List Val) × Bool) (rec1 : Int → Option Bool) (i18 : Bool) : Option Bool := cond i18 (some false) (f7_l2 fu q1 q14 i15 q16 q17 rec1 fu 0)
def f7_j23 (rec1 : Int → Option Bool) (i25 : Bool) : Option Bool := some i25
def f7_l1 (fu : Nat) (q1 : Table × Int × (List Set)) (q3 : Table × Int) (q14 : (List Col)) : Nat → Int → Option Bool
  | 0, _ => none
  | n1 + 1, i15 => cond (decide (i15 < (List.length q1.1.rows : Int))) (cond (decide (0 ≤ i15) && decide (i15 < (List.length q1.1.rows : Int))) ((f16 fu q1.1 ((q1.1.rows.getD i15.toNat default).id)).bind fun q16 => cond (decide (0 ≤ i15) && decide (i15 < (List.length q1.1.rows : Int))) ((f16 fu q3.1 ((q1.1.rows.getD i15.toNat default).id)).bind fun q17 => cond (!q17.2) (f7_j14 fu q1 q14 i15 q16 q17 (f7_l1 fu q1 q3 q14 n1) true) (f7_j14 fu q1 q14 i15 q16 q17 (f7_l1 fu q1 q3 q14 n1) (!decide ((List.length q16.1 : Int) = (List.length q17.1 : Int))))) none) none) ((f19 fu q3.1).bind fun q26 => cond q26 (cond (decide ((List.length q3.1.rows : Int) = (List.length q1.1.rows : Int))) (f7_j23 (f7_l1 fu q1 q3 q14 n1) (decide (q3.1.next = q1.1.next))) (f7_j23 (f7_l1 fu q1 q3 q14 n1) false)) (f7_j23 (f7_l1 fu q1 q3 q14 n1) false))
def f7_j2 (fu : Nat) (q1 : Table × Int × (List Set)) (q3 : Table × Int) (i8 : Bool) : Option Bool := cond i8 ((f15 fu q3.1 q1.1).bind fun q10 => cond q10 ((f17 fu q1.1).bind fun q11 => cond q11 (f7_j3 true) (cond (decide (q3.2 = 1)) ((f15 fu q3.1 (⟨d0_27.first, d0_27.changes, d0_27.rows, d0_27.next⟩ : Table)).bind fun q12 => f7_j3 q12) (f7_j3 false))) (cond (decide (q3.2 = 1)) ((f15 fu q3.1 (⟨d0_27.first, d0_27.changes, d0_27.rows, d0_27.next⟩ : Table)).bind fun q13 => f7_j3 q13) (f7_j3 false))) ((f23 fu q1.1).bind fun q14 => f7_l1 fu q1 q3 q14 fu 0)
def f7_j1 (fu : Nat) (q1 : Table × Int × (List Set)) (q3 : Table × Int) (i7 : Bool) : Option Bool := cond i7 (some false) ((f17 fu q1.1).bind fun q27 => cond (!q27) (f7_j2 fu q1 q3 true) (f7_j2 fu q1 q3 (!decide (q3.2 = 0))))
def f7 (fu : Nat) (a0 : List Int) : Option Bool := cond (decide (1048576 < (List.length a0 : Int))) (some true) ((f31 fu a0).bind fun q1 => (f32 fu q1.1 q1.2.1 q1.2.2).bind fun q3 => (f33 fu q1.1 q1.2.1 q1.2.2).bind fun q5 => cond (!decide (q3.2 = q5.2)) (f7_j1 fu q1 q3 true) ((f15 fu q3.1 q5.1).bind fun q28 => f7_j1 fu q1 q3 (!q28)))
theorem c7 (fu : Nat) (a0 : List Int) : Ctr Tryz.prog 7 [(tL (tI .u8)).va a0] [] (f7 fu a0) (fun _ _ => []) (fun q => isB q) := by
  refine Ctr.of_W Tryz.func7 rfl Tryz.ntmps7 rfl fun A w => ?_
  unfold f7
  refine .seq <| .region <| .assign rfl rfl <| .nil ?_
  refine .seq <| .seq <| .region <| .move rfl rfl <| .lenL rfl Tryz.underlying22 rfl <| .bin rfl rfl rfl rfl <| .nil ?_
  refine .cond rfl (fun _ => ?_) (fun _ => ?_)
  · refine .seq <| .region <| .assign rfl rfl <| .nil ?_
    exact .ret1 Tryz.func7 Tryz.results7 (.tmp rfl) rfl (fun _ _ => .slnil)
  · refine .skip <| .seq <| .region <| .move rfl rfl <| .call0 (c31 fu _) n31 rfl rfl fun q1 => .move rfl rfl <| .extract rfl rfl rfl <| .extract rfl rfl rfl <| .extract rfl rfl rfl <| .alloc tTable d0_27 [] z27 rfl fun b2 => .storeP 0 (Fld.self _) rfl rfl rfl ty27 <| .assign rfl rfl <| .assign rfl rfl <| .nil ?_
    refine .seq <| .region <| .loadP 0 (Fld.self _) rfl rfl ty27 rfl <| .move rfl rfl <| .move rfl rfl <| .call0 (c32 fu _ _ _) n32 rfl rfl fun q3 => .move rfl rfl <| .extract rfl rfl rfl <| .extract rfl rfl rfl <| .alloc tTable d0_27 [] z27 rfl fun b4 => .storeP 0 (Fld.self _) rfl rfl rfl ty27 <| .assign rfl rfl <| .nil ?_
    refine .seq <| .region <| .loadP 1 (Fld.self _) rfl rfl ty27 rfl <| .move rfl rfl <| .move rfl rfl <| .call0 (c33 fu _ _ _) n33 rfl rfl fun q5 => .move rfl rfl <| .extract rfl rfl rfl <| .extract rfl rfl rfl <| .alloc tTable d0_27 [] z27 rfl fun b6 => .storeP 0 (Fld.self _) rfl rfl rfl ty27 <| .assign rfl rfl <| .nil ?_
    refine .seq <| .seq <| .join1 (fun i7 => ⟨[(3, isP b2 0, none), (4, isI .i64 q1.2.1, none), (5, (tL tSet).va q1.2.2, none), (6, isP b4 0, none), (7, isI .i64 q3.2, none), (50, isB i7, none)], [boxO b4 tTable q3.1 [], boxO b2 tTable q1.1 []]⟩) (fun i7 => f7_j1 fu q1 q3 i7) (fun i7 => ?_) (fun hj1 => ?_)
    · refine .cond rfl (fun _ => ?_) (fun _ => ?_)
      · refine .seq <| .region <| .assign rfl rfl <| .nil ?_
        exact .ret1 Tryz.func7 Tryz.results7 (.tmp rfl) rfl (fun _ _ => .cons _ <| .cons _ <| .slnil)
      · refine .skip <| .seq <| .seq <| .join1 (fun i8 => ⟨[(3, isP b2 0, none), (4, isI .i64 q1.2.1, none), (5, (tL tSet).va q1.2.2, none), (6, isP b4 0, none), (7, isI .i64 q3.2, none), (57, isB i8, none)], [boxO b4 tTable q3.1 [], boxO b2 tTable q1.1 []]⟩) (fun i8 => f7_j2 fu q1 q3 i8) (fun i8 => ?_) (fun hj2 => ?_)
        · refine .cond rfl (fun _ => ?_) (fun _ => ?_)
          · refine .seq <| .join1 (fun i9 => ⟨[(2, isB i9, none)], []⟩) (fun i9 => f7_j3 i9) (fun i9 => ?_) (fun hj3 => ?_)
            · exact .ret1 Tryz.func7 Tryz.results7 (.tmp rfl) rfl (fun _ _ => .slnil)
            · refine .region <| .loadP 0 (Fld.self _) rfl rfl ty27 rfl <| .loadP 1 (Fld.self _) rfl rfl ty27 rfl <| .call0 (c15 fu _ _) n15 rfl rfl fun q10 => .move rfl rfl <| .split 61 rfl (fun _ => ?_) (fun _ => ?_)
              · refine .on rfl rfl <| .loadP 1 (Fld.self _) rfl rfl ty27 rfl <| .on rfl rfl <| .call0 (c17 fu _) n17 rfl rfl fun q11 => .pickT rfl rfl rfl <| .move rfl rfl <| .split 65 rfl (fun _ => ?_) (fun _ => ?_)
                · refine .off rfl rfl rfl <| .off rfl rfl rfl <| .off rfl rfl rfl <| .offU rfl rfl rfl <| .offU rfl rfl rfl <| .offU rfl rfl rfl <| .off rfl rfl rfl <| .pickT rfl rfl rfl <| .assign rfl rfl <| .nil ?_
                  exact .keep [2] [] rfl (.drop (.cons _ <| .cons _ <| .slnil) <| hj3 _)
                · refine .on rfl rfl <| .move rfl rfl <| .on rfl rfl <| .bin rfl rfl rfl rfl <| .on rfl rfl <| .move rfl rfl <| .split 68 rfl (fun _ => ?_) (fun _ => ?_)
                  · refine .on rfl rfl <| .loadP 0 (Fld.self _) rfl rfl ty27 rfl <| .on rfl rfl <| .build rfl st27 z27 (.nil) rfl <| .on rfl rfl <| .call0 (c15 fu _ _) n15 rfl rfl fun q12 => .on rfl rfl <| .pickT rfl rfl rfl <| .pickF rfl rfl rfl <| .assign rfl rfl <| .nil ?_
                    exact .keep [2] [] rfl (.drop (.cons _ <| .cons _ <| .slnil) <| hj3 _)
                  · refine .off rfl rfl rfl <| .off rfl rfl rfl <| .off rfl rfl rfl <| .on rfl rfl <| .pickF rfl rfl rfl <| .pickF rfl rfl rfl <| .assign rfl rfl <| .nil ?_
                    exact .keep [2] [] rfl (.drop (.cons _ <| .cons _ <| .slnil) <| hj3 _)
              · refine .off rfl rfl rfl <| .off rfl rfl rfl <| .pickF rfl rfl rfl <| .move rfl rfl <| .on rfl rfl <| .move rfl rfl <| .on rfl rfl <| .bin rfl rfl rfl rfl <| .on rfl rfl <| .move rfl rfl <| .split 68 rfl (fun _ => ?_) (fun _ => ?_)
                · refine .on rfl rfl <| .loadP 0 (Fld.self _) rfl rfl ty27 rfl <| .on rfl rfl <| .build rfl st27 z27 (.nil) rfl <| .on rfl rfl <| .call0 (c15 fu _ _) n15 rfl rfl fun q13 => .on rfl rfl <| .pickT rfl rfl rfl <| .pickF rfl rfl rfl <| .assign rfl rfl <| .nil ?_
                  exact .keep [2] [] rfl (.drop (.cons _ <| .cons _ <| .slnil) <| hj3 _)
                · refine .off rfl rfl rfl <| .off rfl rfl rfl <| .off rfl rfl rfl <| .on rfl rfl <| .pickF rfl rfl rfl <| .pickF rfl rfl rfl <| .assign rfl rfl <| .nil ?_
                  exact .keep [2] [] rfl (.drop (.cons _ <| .cons _ <| .slnil) <| hj3 _)
          · refine .skip <| .seq <| .region <| .loadP 1 (Fld.self _) rfl rfl ty27 rfl <| .call0 (c23 fu _) n23 rfl rfl fun q14 => .assign rfl rfl <| .nil ?_
            refine .seq <| .seq <| .region <| .assign rfl rfl <| .nil ?_
            refine .block <| .loop <| .keep [3, 4, 5, 6, 10, 11] [] rfl ?_
            refine (show ∀ (n1 : Nat) (i15 : Int), W _ _ _ _ _ ⟨[(3, isP b2 0, none), (4, isI .i64 q1.2.1, none), (5, (tL tSet).va q1.2.2, none), (6, isP b4 0, none), (10, (tL tCol).va q14, none), (11, isI .i64 i15, none)], [boxO b4 tTable q3.1 [], boxO b2 tTable q1.1 []]⟩ (f7_l1 fu q1 q3 q14 n1 i15) from ?_) fu _
            intro n1
            induction n1 with
            | zero => exact fun _ => .stop
            | succ n1 ih1 =>
              intro i15
              refine .inLoop <| .seq <| .seq <| .region <| .move rfl rfl <| .fieldP rfl fa27_2 rfl <| .loadP 1 fTable_2 rfl rfl ty25 rfl <| .lenL rfl Tryz.underlying25 rfl <| .bin rfl rfl rfl rfl <| .nil ?_
              refine .cond rfl (fun _ => ?_) (fun _ => ?_)
              · refine .skip <| .seq <| .block <| .seq <| .pT fun h23 => ?_
                refine .draw 7 [] mix (by kernel_rfl) (.cons (fun _ _ _ hP hE h => .loadP 1 (Fld.self _) (hE.op rfl) (hP.get rfl rfl) ty27 rfl <| h) <| .cons (fun _ _ _ hP hE h => .fieldP (hE.op rfl) fa27_2 rfl <| h) <| .cons (fun _ _ _ hP hE h => .loadP 1 fTable_2 (hE.op rfl) (hP.get rfl rfl) ty25 rfl <| h) <| .cons (fun _ _ _ hP hE h => .move (hE.op rfl) rfl <| h) <| .cons (fun _ _ _ hP hE h => .useC h23 <| .elemAt (hE.op rfl) (hE.op rfl) Tryz.underlying25 ty37 rfl <| h) <| .cons (fun _ _ _ hP hE h => .fieldAt fRow_0 (hE.op rfl) fa37_0 rfl <| h) <| .cons (fun _ _ _ hP hE h => .load (hE.op rfl) ty3 rfl <| h) <| .nil) rfl <| .call0 (c16 fu _ _) n16 rfl rfl fun q16 => .move rfl rfl <| .extract rfl rfl rfl <| .extract rfl rfl rfl <| .assign rfl rfl <| .assign rfl rfl <| .nil ?_
                refine .seq <| .pT fun h24 => ?_
                refine .draw 7 [] mix (by kernel_rfl) (.cons (fun _ _ _ hP hE h => .loadP 0 (Fld.self _) (hE.op rfl) (hP.get rfl rfl) ty27 rfl <| h) <| .cons (fun _ _ _ hP hE h => .fieldP (hE.op rfl) fa27_2 rfl <| h) <| .cons (fun _ _ _ hP hE h => .loadP 1 fTable_2 (hE.op rfl) (hP.get rfl rfl) ty25 rfl <| h) <| .cons (fun _ _ _ hP hE h => .move (hE.op rfl) rfl <| h) <| .cons (fun _ _ _ hP hE h => .useC h24 <| .elemAt (hE.op rfl) (hE.op rfl) Tryz.underlying25 ty37 rfl <| h) <| .cons (fun _ _ _ hP hE h => .fieldAt fRow_0 (hE.op rfl) fa37_0 rfl <| h) <| .cons (fun _ _ _ hP hE h => .load (hE.op rfl) ty3 rfl <| h) <| .nil) rfl <| .call0 (c16 fu _ _) n16 rfl rfl fun q17 => .move rfl rfl <| .extract rfl rfl rfl <| .extract rfl rfl rfl <| .assign rfl rfl <| .assign rfl rfl <| .nil ?_
                refine .seq <| .seq <| .join1 (fun i18 => ⟨[(3, isP b2 0, none), (4, isI .i64 q1.2.1, none), (5, (tL tSet).va q1.2.2, none), (6, isP b4 0, none), (10, (tL tCol).va q14, none), (11, isI .i64 i15, none), (12, (tL tVal).va q16.1, none), (14, (tL tVal).va q17.1, none), (113, isB i18, none)], [boxO b4 tTable q3.1 [], boxO b2 tTable q1.1 []]⟩) (fun i18 => f7_j14 fu q1 q14 i15 q16 q17 (f7_l1 fu q1 q3 q14 n1) i18) (fun i18 => ?_) (fun hj14 => ?_)
                · refine .cond rfl (fun _ => ?_) (fun _ => ?_)
                  · refine .seq <| .region <| .assign rfl rfl <| .nil ?_
                    exact .ret1 Tryz.func7 Tryz.results7 (.tmp rfl) rfl (fun _ _ => .cons _ <| .cons _ <| .slnil)
                  · refine .skip <| .seq <| .region <| .assign rfl rfl <| .nil ?_
                    refine .block <| .loop <| .keep [3, 4, 5, 6, 10, 11, 12, 14, 16] [] rfl ?_
                    refine (show ∀ (n2 : Nat) (i19 : Int), W _ _ _ _ _ ⟨[(3, isP b2 0, none), (4, isI .i64 q1.2.1, none), (5, (tL tSet).va q1.2.2, none), (6, isP b4 0, none), (10, (tL tCol).va q14, none), (11, isI .i64 i15, none), (12, (tL tVal).va q16.1, none), (14, (tL tVal).va q17.1, none), (16, isI .i64 i19, none)], [boxO b4 tTable q3.1 [], boxO b2 tTable q1.1 []]⟩ (f7_l2 fu q1 q14 i15 q16 q17 (f7_l1 fu q1 q3 q14 n1) n2 i19) from ?_) fu _
                    intro n2
                    induction n2 with
                    | zero => exact fun _ => .stop
                    | succ n2 ih2 =>
                      intro i19
                      refine .inLoop <| .seq <| .seq <| .region <| .move rfl rfl <| .move rfl rfl <| .lenL rfl Tryz.underlying23 rfl <| .bin rfl rfl rfl rfl <| .nil ?_
                      refine .cond rfl (fun _ => ?_) (fun _ => ?_)
                      · refine .skip <| .seq <| .block <| .seq <| .region <| .move rfl rfl <| .move rfl rfl <| .elemAt rfl rfl Tryz.underlying32 ty47 rfl <| .load rfl ty47 rfl <| .alloc tVal d0_47 [] z47 rfl fun b20 => .storeP 0 (Fld.self _) rfl rfl rfl ty47 <| .nil ?_
                        refine .seq <| .seq <| .region <| .assign rfl rfl <| .nil ?_
                        refine .block <| .loop <| .keep [3, 4, 5, 6, 10, 11, 12, 14, 16, 17, 18] [] rfl ?_
                        refine (show ∀ (n3 : Nat) (i21 : Int) (i22 : Val), W _ _ _ _ _ ⟨[(3, isP b2 0, none), (4, isI .i64 q1.2.1, none), (5, (tL tSet).va q1.2.2, none), (6, isP b4 0, none), (10, (tL tCol).va q14, none), (11, isI .i64 i15, none), (12, (tL tVal).va q16.1, none), (14, (tL tVal).va q17.1, none), (16, isI .i64 i19, none), (17, isP b20 0, none), (18, isI .i64 i21, none)], [boxO b20 tVal i22 [], boxO b4 tTable q3.1 [], boxO b2 tTable q1.1 []]⟩ (f7_l3 q1 q14 i15 q17 i19 (f7_l1 fu q1 q3 q14 n1) (f7_l2 fu q1 q14 i15 q16 q17 (f7_l1 fu q1 q3 q14 n1) n2) n3 i21 i22) from ?_) fu _ _
                        intro n3
                        induction n3 with
                        | zero => exact fun _ _ => .stop
                        | succ n3 ih3 =>
                          intro i21 i22
                          refine .inLoop <| .seq <| .seq <| .region <| .move rfl rfl <| .move rfl rfl <| .lenL rfl Tryz.underlying40 rfl <| .bin rfl rfl rfl rfl <| .nil ?_
                          refine .cond rfl (fun _ => ?_) (fun _ => ?_)
                          · refine .skip <| .seq <| .block <| .seq <| .join1 (fun i23 => ⟨[(3, isP b2 0, none), (4, isI .i64 q1.2.1, none), (5, (tL tSet).va q1.2.2, none), (6, isP b4 0, none), (10, (tL tCol).va q14, none), (11, isI .i64 i15, none), (12, (tL tVal).va q16.1, none), (14, (tL tVal).va q17.1, none), (16, isI .i64 i19, none), (17, isP b20 0, none), (18, isI .i64 i21, none), (150, isB i23, none)], [boxO b20 tVal i22 [], boxO b4 tTable q3.1 [], boxO b2 tTable q1.1 []]⟩) (fun i23 => f7_j21 q1 i21 i22 (f7_l1 fu q1 q3 q14 n1) (f7_l2 fu q1 q14 i15 q16 q17 (f7_l1 fu q1 q3 q14 n1) n2) (f7_l3 q1 q14 i15 q17 i19 (f7_l1 fu q1 q3 q14 n1) (f7_l2 fu q1 q14 i15 q16 q17 (f7_l1 fu q1 q3 q14 n1) n2) n3) i23) (fun i23 => ?_) (fun hj21 => ?_)
                            · refine .join1 (fun i24 => ⟨[(3, isP b2 0, none), (4, isI .i64 q1.2.1, none), (5, (tL tSet).va q1.2.2, none), (6, isP b4 0, none), (10, (tL tCol).va q14, none), (11, isI .i64 i15, none), (12, (tL tVal).va q16.1, none), (14, (tL tVal).va q17.1, none), (16, isI .i64 i19, none), (17, isP b20 0, none), (18, isI .i64 i21, none)], [boxO b20 tVal i24 [], boxO b4 tTable q3.1 [], boxO b2 tTable q1.1 []]⟩) (fun i24 => f7_j22 i21 (f7_l1 fu q1 q3 q14 n1) (f7_l2 fu q1 q14 i15 q16 q17 (f7_l1 fu q1 q3 q14 n1) n2) (f7_l3 q1 q14 i15 q17 i19 (f7_l1 fu q1 q3 q14 n1) (f7_l2 fu q1 q14 i15 q16 q17 (f7_l1 fu q1 q3 q14 n1) n2) n3) i24) (fun i24 => ?_) (fun hj22 => ?_)
                              · refine .inBlock <| .region <| .move rfl rfl <| .bin rfl rfl rfl rfl <| .assign rfl rfl <| .nil ?_
                                exact .keep [3, 4, 5, 6, 10, 11, 12, 14, 16, 17, 18] [] rfl (ih3 _ _)
                              · refine .cond rfl (fun _ => ?_) (fun _ => ?_)
                                · refine .region <| .move rfl rfl <| .move rfl rfl <| .elemAt rfl rfl Tryz.underlying40 ty49 rfl <| .fieldAt fSet_1 rfl fa49_1 rfl <| .load rfl ty47 rfl <| .storeP 0 (Fld.self _) rfl rfl rfl ty47 <| .nil ?_
                                  exact .keep [3, 4, 5, 6, 10, 11, 12, 14, 16, 17, 18] [] rfl (hj22 _)
                                · exact .skip <| .keep [3, 4, 5, 6, 10, 11, 12, 14, 16, 17, 18] [] rfl (hj22 _)
                            · refine .pT fun h40 => ?_
                              refine .pT fun h41 => ?_
                              refine .pcond (fun h42 => ?_) (fun h42 => ?_)
                              · refine .pT fun h43 => ?_
                                refine .draw 19 [] mix (by kernel_rfl) (.cons (fun _ _ _ hP hE h => .move (hE.op rfl) rfl <| h) <| .cons (fun _ _ _ hP hE h => .move (hE.op rfl) rfl <| h) <| .cons (fun _ _ _ hP hE h => .useC h40 <| .elemAt (hE.op rfl) (hE.op rfl) Tryz.underlying40 ty49 rfl <| h) <| .cons (fun _ _ _ hP hE h => .fieldAt fSet_0 (hE.op rfl) fa49_0 rfl <| h) <| .cons (fun _ _ _ hP hE h => .load (hE.op rfl) ty9 rfl <| h) <| .cons (fun _ _ _ hP hE h => .move (hE.op rfl) rfl <| h) <| .cons (fun _ _ _ hP hE h => .move (hE.op rfl) rfl <| h) <| .cons (fun _ _ _ hP hE h => .useC h41 <| .elemAt (hE.op rfl) (hE.op rfl) Tryz.underlying23 ty52 rfl <| h) <| .cons (fun _ _ _ hP hE h => .fieldAt fCol_0 (hE.op rfl) fa52_0 rfl <| h) <| .cons (fun _ _ _ hP hE h => .load (hE.op rfl) ty9 rfl <| h) <| .cons (fun _ _ _ hP hE h => .seq (hE.op rfl) (hE.op rfl) rfl <| h) <| .cons (fun _ _ _ hP hE h => .move (hE.op rfl) rfl <| .noV <| .useEq h42 h) <| .cons (fun _ _ _ hP hE h => .on rfl (hE _ _ rfl) <| .fieldP (hE.op rfl) fa27_2 rfl <| h) <| .cons (fun _ _ _ hP hE h => .on rfl (hE _ _ rfl) <| .loadP 2 fTable_2 (hE.op rfl) (hP.get rfl rfl) ty25 rfl <| h) <| .cons (fun _ _ _ hP hE h => .on rfl (hE _ _ rfl) <| .move (hE.op rfl) rfl <| h) <| .cons (fun _ _ _ hP hE h => .on rfl (hE _ _ rfl) <| .useC h43 <| .elemAt (hE.op rfl) (hE.op rfl) Tryz.underlying25 ty37 rfl <| h) <| .cons (fun _ _ _ hP hE h => .on rfl (hE _ _ rfl) <| .fieldAt fRow_0 (hE.op rfl) fa37_0 rfl <| h) <| .cons (fun _ _ _ hP hE h => .on rfl (hE _ _ rfl) <| .load (hE.op rfl) ty3 rfl <| h) <| .cons (fun _ _ _ hP hE h => .on rfl (hE _ _ rfl) <| .move (hE.op rfl) rfl <| h) <| .nil) rfl <| .on rfl rfl <| .bin rfl rfl rfl rfl <| .pickT rfl rfl rfl <| .nil ?_
                                exact .keep [3, 4, 5, 6, 10, 11, 12, 14, 16, 17, 18, 150] [] rfl (hj21 _)
                              · refine .draw 19 [] mix (by kernel_rfl) (.cons (fun _ _ _ hP hE h => .move (hE.op rfl) rfl <| h) <| .cons (fun _ _ _ hP hE h => .move (hE.op rfl) rfl <| h) <| .cons (fun _ _ _ hP hE h => .useC h40 <| .elemAt (hE.op rfl) (hE.op rfl) Tryz.underlying40 ty49 rfl <| h) <| .cons (fun _ _ _ hP hE h => .fieldAt fSet_0 (hE.op rfl) fa49_0 rfl <| h) <| .cons (fun _ _ _ hP hE h => .load (hE.op rfl) ty9 rfl <| h) <| .cons (fun _ _ _ hP hE h => .move (hE.op rfl) rfl <| h) <| .cons (fun _ _ _ hP hE h => .move (hE.op rfl) rfl <| h) <| .cons (fun _ _ _ hP hE h => .useC h41 <| .elemAt (hE.op rfl) (hE.op rfl) Tryz.underlying23 ty52 rfl <| h) <| .cons (fun _ _ _ hP hE h => .fieldAt fCol_0 (hE.op rfl) fa52_0 rfl <| h) <| .cons (fun _ _ _ hP hE h => .load (hE.op rfl) ty9 rfl <| h) <| .cons (fun _ _ _ hP hE h => .seq (hE.op rfl) (hE.op rfl) rfl <| h) <| .cons (fun _ _ _ hP hE h => .move (hE.op rfl) rfl <| .noV <| .useEq h42 h) <| .cons (fun _ _ _ hP hE h => .off rfl (hE _ _ rfl) rfl <| h) <| .cons (fun _ _ _ hP hE h => .off rfl (hE _ _ rfl) rfl <| h) <| .cons (fun _ _ _ hP hE h => .off rfl (hE _ _ rfl) rfl <| h) <| .cons (fun _ _ _ hP hE h => .off rfl (hE _ _ rfl) rfl <| h) <| .cons (fun _ _ _ hP hE h => .off rfl (hE _ _ rfl) rfl <| h) <| .cons (fun _ _ _ hP hE h => .off rfl (hE _ _ rfl) rfl <| h) <| .cons (fun _ _ _ hP hE h => .off rfl (hE _ _ rfl) rfl <| h) <| .nil) rfl <| .off rfl rfl rfl <| .pickF rfl rfl rfl <| .nil ?_
                                exact .keep [3, 4, 5, 6, 10, 11, 12, 14, 16, 17, 18, 150] [] rfl (hj21 _)
                          · refine .exit rfl <| .seq <| .pT fun h44 => ?_
                            refine .draw 5 [] mix (by kernel_rfl) (.cons (fun _ _ _ hP hE h => .move (hE.op rfl) rfl <| h) <| .cons (fun _ _ _ hP hE h => .move (hE.op rfl) rfl <| h) <| .cons (fun _ _ _ hP hE h => .useC h44 <| .elemAt (hE.op rfl) (hE.op rfl) Tryz.underlying32 ty47 rfl <| h) <| .cons (fun _ _ _ hP hE h => .load (hE.op rfl) ty47 rfl <| h) <| .cons (fun _ _ _ hP hE h => .loadP 0 (Fld.self _) (hE.op rfl) (hP.get rfl rfl) ty47 rfl <| h) <| .nil) rfl <| .neT eq47 rfl rfl rfl <| .nil ?_
                            refine .cond rfl (fun _ => ?_) (fun _ => ?_)
                            · refine .seq <| .region <| .assign rfl rfl <| .nil ?_
                              exact .ret1 Tryz.func7 Tryz.results7 (.tmp rfl) rfl (fun _ _ => .cons _ <| .cons _ <| .cons _ <| .slnil)
                            · refine .skip <| .inBlock <| .region <| .move rfl rfl <| .bin rfl rfl rfl rfl <| .assign rfl rfl <| .nil ?_
                              exact .keep [3, 4, 5, 6, 10, 11, 12, 14, 16] [] rfl (.drop (.cons _ <| .cons_cons _ <| .cons_cons _ <| .slnil) <| ih2 _)
                      · refine .exit rfl <| .inBlock <| .region <| .move rfl rfl <| .bin rfl rfl rfl rfl <| .assign rfl rfl <| .nil ?_
                        exact .keep [3, 4, 5, 6, 10, 11] [] rfl (ih1 _)
                · refine .region <| .move rfl rfl <| .not rfl rfl <| .move rfl rfl <| .split 107 rfl (fun _ => ?_) (fun _ => ?_)
                  · refine .off rfl rfl rfl <| .off rfl rfl rfl <| .off rfl rfl rfl <| .off rfl rfl rfl <| .off rfl rfl rfl <| .pickT rfl rfl rfl <| .nil ?_
                    exact .keep [3, 4, 5, 6, 10, 11, 12, 14, 113] [] rfl (hj14 _)
                  · refine .on rfl rfl <| .move rfl rfl <| .on rfl rfl <| .lenL rfl Tryz.underlying32 rfl <| .on rfl rfl <| .move rfl rfl <| .on rfl rfl <| .lenL rfl Tryz.underlying32 rfl <| .on rfl rfl <| .bin rfl rfl rfl rfl <| .pickF rfl rfl rfl <| .nil ?_
                    exact .keep [3, 4, 5, 6, 10, 11, 12, 14, 113] [] rfl (hj14 _)
              · refine .exit rfl <| .seq <| .join1 (fun i25 => ⟨[(2, isB i25, none)], []⟩) (fun i25 => f7_j23 (f7_l1 fu q1 q3 q14 n1) i25) (fun i25 => ?_) (fun hj23 => ?_)
                · exact .ret1 Tryz.func7 Tryz.results7 (.tmp rfl) rfl (fun _ _ => .slnil)
                · refine .region <| .loadP 0 (Fld.self _) rfl rfl ty27 rfl <| .call0 (c19 fu _) n19 rfl rfl fun q26 => .move rfl rfl <| .split 164 rfl (fun _ => ?_) (fun _ => ?_)
                  · refine .on rfl rfl <| .fieldP rfl fa27_2 rfl <| .on rfl rfl <| .loadP 0 fTable_2 rfl rfl ty25 rfl <| .on rfl rfl <| .lenL rfl Tryz.underlying25 rfl <| .on rfl rfl <| .fieldP rfl fa27_2 rfl <| .on rfl rfl <| .loadP 1 fTable_2 rfl rfl ty25 rfl <| .on rfl rfl <| .lenL rfl Tryz.underlying25 rfl <| .on rfl rfl <| .bin rfl rfl rfl rfl <| .pickT rfl rfl rfl <| .move rfl rfl <| .split 173 rfl (fun _ => ?_) (fun _ => ?_)
                    · refine .on rfl rfl <| .fieldP rfl fa27_3 rfl <| .on rfl rfl <| .loadP 0 fTable_3 rfl rfl ty3 rfl <| .on rfl rfl <| .fieldP rfl fa27_3 rfl <| .on rfl rfl <| .loadP 1 fTable_3 rfl rfl ty3 rfl <| .on rfl rfl <| .bin rfl rfl rfl rfl <| .pickT rfl rfl rfl <| .assign rfl rfl <| .nil ?_
                      exact .keep [2] [] rfl (.drop (.cons _ <| .cons _ <| .slnil) <| hj23 _)
                    · refine .off rfl rfl rfl <| .off rfl rfl rfl <| .off rfl rfl rfl <| .off rfl rfl rfl <| .off rfl rfl rfl <| .pickF rfl rfl rfl <| .assign rfl rfl <| .nil ?_
                      exact .keep [2] [] rfl (.drop (.cons _ <| .cons _ <| .slnil) <| hj23 _)
                  · refine .off rfl rfl rfl <| .off rfl rfl rfl <| .off rfl rfl rfl <| .off rfl rfl rfl <| .off rfl rfl rfl <| .off rfl rfl rfl <| .off rfl rfl rfl <| .pickF rfl rfl rfl <| .move rfl rfl <| .off rfl rfl rfl <| .off rfl rfl rfl <| .off rfl rfl rfl <| .off rfl rfl rfl <| .off rfl rfl rfl <| .pickF rfl rfl rfl <| .assign rfl rfl <| .nil ?_
                    exact .keep [2] [] rfl (.drop (.cons _ <| .cons _ <| .slnil) <| hj23 _)
        · refine .region <| .loadP 1 (Fld.self _) rfl rfl ty27 rfl <| .call0 (c17 fu _) n17 rfl rfl fun q27 => .not rfl rfl <| .move rfl rfl <| .split 54 rfl (fun _ => ?_) (fun _ => ?_)
          · refine .off rfl rfl rfl <| .off rfl rfl rfl <| .pickT rfl rfl rfl <| .nil ?_
            exact .keep [3, 4, 5, 6, 7, 57] [] rfl (hj2 _)
          · refine .on rfl rfl <| .move rfl rfl <| .on rfl rfl <| .bin rfl rfl rfl rfl <| .pickF rfl rfl rfl <| .nil ?_
            exact .keep [3, 4, 5, 6, 7, 57] [] rfl (hj2 _)
    · refine .region <| .move rfl rfl <| .move rfl rfl <| .bin rfl rfl rfl rfl <| .move rfl rfl <| .split 45 rfl (fun _ => ?_) (fun _ => ?_)
      · refine .off rfl rfl rfl <| .off rfl rfl rfl <| .off rfl rfl rfl <| .off rfl rfl rfl <| .pickT rfl rfl rfl <| .nil ?_
        exact .keep [3, 4, 5, 6, 7, 50] [] rfl (.drop (.cons _ <| .cons_cons _ <| .cons_cons _ <| .slnil) <| hj1 _)
      · refine .on rfl rfl <| .loadP 1 (Fld.self _) rfl rfl ty27 rfl <| .on rfl rfl <| .loadP 0 (Fld.self _) rfl rfl ty27 rfl <| .on rfl rfl <| .call0 (c15 fu _ _) n15 rfl rfl fun q28 => .on rfl rfl <| .not rfl rfl <| .pickF rfl rfl rfl <| .nil ?_
        exact .keep [3, 4, 5, 6, 7, 50] [] rfl (.drop (.cons _ <| .cons_cons _ <| .cons_cons _ <| .slnil) <| hj1 _)
end Go.Proofs.YtbnklinfjmmlfaaGreatDoor
