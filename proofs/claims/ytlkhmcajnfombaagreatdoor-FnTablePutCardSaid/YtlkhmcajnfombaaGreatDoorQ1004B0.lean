/- Functions of the program: what each answers, and that the machine answers so. -/
import Derived.Test.YtlkhmcajnfombaaGreatDoorQ1004A10
import Derived.KernelRfl
import Derived.KernelRfl
set_option linter.unusedVariables false
set_option linter.unusedSimpArgs false
set_option linter.deprecated false
set_option linter.unusedSectionVars false
set_option linter.all false
namespace Go.Proofs.YtlkhmcajnfombaaGreatDoor
open Go Go.HL
def f1004_j2 (i9 : Bool) : Option Bool := some i9
def f1004_j9 (i17 : Int) (rec1 : Int → Option Bool) (rec2 : Int → Val → Option Bool) (i19 : Val) : Option Bool := rec2 (IntKind.i64.wrap (i17 + 1)) i19
def f1004_l2 (q1 : Table × (List Set)) (q12 : (List Col)) (q13 : (List Val) × Bool) (i14 : Int) (rec1 : Int → Option Bool) : Nat → Int → Val → Option Bool
  | 0, _, _ => none
  | n2 + 1, i17, i18 => cond (decide (i17 < (List.length q1.2 : Int))) (cond (decide (0 ≤ i17) && decide (i17 < (List.length q1.2 : Int))) (cond (decide (0 ≤ i14) && decide (i14 < (List.length q12 : Int))) (cond (decide (((q1.2.getD i17.toNat default).name) = ((q12.getD i14.toNat default).name))) (cond (decide (0 ≤ i17) && decide (i17 < (List.length q1.2 : Int))) (f1004_j9 i17 rec1 (f1004_l2 q1 q12 q13 i14 rec1 n2) ((q1.2.getD i17.toNat default).val)) none) (f1004_j9 i17 rec1 (f1004_l2 q1 q12 q13 i14 rec1 n2) i18)) none) none) (cond (decide (0 ≤ i14) && decide (i14 < (List.length q13.1 : Int))) (cond (!decide ((q13.1.getD i14.toNat default) = i18)) (some false) (rec1 (IntKind.i64.wrap (i14 + 1)))) none)
def f1004_j10 (rec1 : Int → Option Bool) (i22 : Bool) : Option Bool := some i22
def f1004_j7 (fu : Nat) (q1 : Table × (List Set)) (q3 : Table × Int) (q12 : (List Col)) (q13 : (List Val) × Bool) (i14 : Int) (rec1 : Int → Option Bool) (i15 : Bool) : Option Bool := cond i15 (cond (decide (0 ≤ i14) && decide (i14 < (List.length q12 : Int))) (f1004_l2 q1 q12 q13 i14 rec1 fu 0 ((q12.getD i14.toNat default).def_)) none) ((f13 fu q3.1 q1.1.next).bind fun q20 => cond q13.2 ((f19 fu q3.1).bind fun q23 => cond q23 (cond (decide (q3.1.next = (IntKind.i64.wrap (q1.1.next + 1)))) (cond (decide (q20.2 = 0)) ((f15 fu ({ q20.1 with next := q1.1.next } : Table) q1.1).bind fun q24 => f1004_j10 rec1 q24) (f1004_j10 rec1 false)) (f1004_j10 rec1 false)) (f1004_j10 rec1 false)) (f1004_j10 rec1 false))
def f1004_l1 (fu : Nat) (q1 : Table × (List Set)) (q3 : Table × Int) (q12 : (List Col)) (q13 : (List Val) × Bool) : Nat → Int → Option Bool
  | 0, _ => none
  | n1 + 1, i14 => cond (decide (i14 < (List.length q12 : Int))) (f1004_j7 fu q1 q3 q12 q13 i14 (f1004_l1 fu q1 q3 q12 q13 n1) q13.2) (f1004_j7 fu q1 q3 q12 q13 i14 (f1004_l1 fu q1 q3 q12 q13 n1) false)
def f1004_j1 (fu : Nat) (q1 : Table × (List Set)) (q3 : Table × Int) (i7 : Bool) : Option Bool := cond i7 (some false) ((f17 fu q1.1).bind fun q8 => cond (!q8) (cond (decide (q3.2 = 1)) ((f15 fu q3.1 (⟨d0_27.first, d0_27.changes, d0_27.rows, d0_27.next⟩ : Table)).bind fun q10 => f1004_j2 q10) (f1004_j2 false)) (cond (!decide (q3.2 = 0)) ((f15 fu q3.1 q1.1).bind fun q11 => some q11) ((f23 fu q1.1).bind fun q12 => (f16 fu q3.1 q1.1.next).bind fun q13 => f1004_l1 fu q1 q3 q12 q13 fu 0)))
def f1004 (fu : Nat) (a0 : List Int) : Option Bool := cond (decide (1048576 < (List.length a0 : Int))) (some true) ((f20 fu a0).bind fun q1 => (f21 fu q1.1 q1.2).bind fun q3 => (f22 fu q1.1 q1.2).bind fun q5 => cond (!decide (q3.2 = q5.2)) (f1004_j1 fu q1 q3 true) ((f15 fu q3.1 q5.1).bind fun q25 => cond (!q25) (f1004_j1 fu q1 q3 true) ((f19 fu q1.1).bind fun q26 => (f17 fu q1.1).bind fun q27 => f1004_j1 fu q1 q3 (!(q26 == q27)))))
theorem c1004 (fu : Nat) (a0 : List Int) : Ctr Tryz.prog 4 [(tL (tI .u8)).va a0] [] (f1004 fu a0) (fun _ _ => []) (fun q => isB q) := by
  refine Ctr.of_W Tryz.func4 rfl Tryz.ntmps4 rfl fun A w => ?_
  unfold f1004
  refine .seq <| .region <| .assign rfl rfl <| .nil ?_
  refine .seq <| .seq <| .region <| .move rfl rfl <| .lenL rfl Tryz.underlying22 rfl <| .bin rfl rfl rfl rfl <| .nil ?_
  refine .cond rfl (fun _ => ?_) (fun _ => ?_)
  · refine .seq <| .region <| .assign rfl rfl <| .nil ?_
    exact .ret1 Tryz.func4 Tryz.results4 (.tmp rfl) rfl (fun _ _ => .slnil)
  · refine .skip <| .seq <| .region <| .move rfl rfl <| .call0 (c20 fu _) n20 rfl rfl fun q1 => .move rfl rfl <| .extract rfl rfl rfl <| .extract rfl rfl rfl <| .alloc tTable d0_27 [] z27 rfl fun b2 => .storeP 0 (Fld.self _) rfl rfl rfl ty27 <| .assign rfl rfl <| .nil ?_
    refine .seq <| .region <| .loadP 0 (Fld.self _) rfl rfl ty27 rfl <| .move rfl rfl <| .call0 (c21 fu _ _) n21 rfl rfl fun q3 => .move rfl rfl <| .extract rfl rfl rfl <| .extract rfl rfl rfl <| .alloc tTable d0_27 [] z27 rfl fun b4 => .storeP 0 (Fld.self _) rfl rfl rfl ty27 <| .assign rfl rfl <| .nil ?_
    refine .seq <| .region <| .loadP 1 (Fld.self _) rfl rfl ty27 rfl <| .move rfl rfl <| .call0 (c22 fu _ _) n22 rfl rfl fun q5 => .move rfl rfl <| .extract rfl rfl rfl <| .extract rfl rfl rfl <| .alloc tTable d0_27 [] z27 rfl fun b6 => .storeP 0 (Fld.self _) rfl rfl rfl ty27 <| .assign rfl rfl <| .nil ?_
    refine .seq <| .seq <| .join1 (fun i7 => ⟨[(3, isP b2 0, none), (4, (tL tSet).va q1.2, none), (5, isP b4 0, none), (6, isI .i64 q3.2, none), (52, isB i7, none)], [boxO b4 tTable q3.1 [], boxO b2 tTable q1.1 []]⟩) (fun i7 => f1004_j1 fu q1 q3 i7) (fun i7 => ?_) (fun hj1 => ?_)
    · refine .cond rfl (fun _ => ?_) (fun _ => ?_)
      · refine .seq <| .region <| .assign rfl rfl <| .nil ?_
        exact .ret1 Tryz.func4 Tryz.results4 (.tmp rfl) rfl (fun _ _ => .cons _ <| .cons _ <| .slnil)
      · refine .skip <| .seq <| .seq <| .region <| .loadP 1 (Fld.self _) rfl rfl ty27 rfl <| .call0 (c17 fu _) n17 rfl rfl fun q8 => .not rfl rfl <| .nil ?_
        refine .cond rfl (fun _ => ?_) (fun _ => ?_)
        · refine .seq <| .join1 (fun i9 => ⟨[(2, isB i9, none)], []⟩) (fun i9 => f1004_j2 i9) (fun i9 => ?_) (fun hj2 => ?_)
          · exact .ret1 Tryz.func4 Tryz.results4 (.tmp rfl) rfl (fun _ _ => .slnil)
          · refine .region <| .move rfl rfl <| .bin rfl rfl rfl rfl <| .move rfl rfl <| .split 58 rfl (fun _ => ?_) (fun _ => ?_)
            · refine .on rfl rfl <| .loadP 0 (Fld.self _) rfl rfl ty27 rfl <| .on rfl rfl <| .build rfl st27 z27 (.nil) rfl <| .on rfl rfl <| .call0 (c15 fu _ _) n15 rfl rfl fun q10 => .pickT rfl rfl rfl <| .assign rfl rfl <| .nil ?_
              exact .keep [2] [] rfl (.drop (.cons _ <| .cons _ <| .slnil) <| hj2 _)
            · refine .off rfl rfl rfl <| .off rfl rfl rfl <| .off rfl rfl rfl <| .pickF rfl rfl rfl <| .assign rfl rfl <| .nil ?_
              exact .keep [2] [] rfl (.drop (.cons _ <| .cons _ <| .slnil) <| hj2 _)
        · refine .skip <| .seq <| .seq <| .region <| .move rfl rfl <| .bin rfl rfl rfl rfl <| .nil ?_
          refine .cond rfl (fun _ => ?_) (fun _ => ?_)
          · refine .seq <| .region <| .loadP 0 (Fld.self _) rfl rfl ty27 rfl <| .loadP 1 (Fld.self _) rfl rfl ty27 rfl <| .call0 (c15 fu _ _) n15 rfl rfl fun q11 => .assign rfl rfl <| .nil ?_
            exact .ret1 Tryz.func4 Tryz.results4 (.tmp rfl) rfl (fun _ _ => .cons _ <| .cons _ <| .slnil)
          · refine .skip <| .seq <| .region <| .loadP 1 (Fld.self _) rfl rfl ty27 rfl <| .call0 (c23 fu _) n23 rfl rfl fun q12 => .assign rfl rfl <| .nil ?_
            refine .seq <| .region <| .loadP 0 (Fld.self _) rfl rfl ty27 rfl <| .fieldP rfl fa27_3 rfl <| .loadP 1 fTable_3 rfl rfl ty3 rfl <| .call0 (c16 fu _ _) n16 rfl rfl fun q13 => .move rfl rfl <| .extract rfl rfl rfl <| .extract rfl rfl rfl <| .assign rfl rfl <| .assign rfl rfl <| .nil ?_
            refine .seq <| .seq <| .region <| .assign rfl rfl <| .nil ?_
            refine .block <| .loop <| .keep [3, 4, 5, 9, 10, 11, 12] [] rfl ?_
            refine (show ∀ (n1 : Nat) (i14 : Int), W _ _ _ _ _ ⟨[(3, isP b2 0, none), (4, (tL tSet).va q1.2, none), (5, isP b4 0, none), (9, (tL tCol).va q12, none), (10, (tL tVal).va q13.1, none), (11, isB q13.2, none), (12, isI .i64 i14, none)], [boxO b4 tTable q3.1 [], boxO b2 tTable q1.1 []]⟩ (f1004_l1 fu q1 q3 q12 q13 n1 i14) from ?_) fu _
            intro n1
            induction n1 with
            | zero => exact fun _ => .stop
            | succ n1 ih1 =>
              intro i14
              refine .inLoop <| .seq <| .seq <| .join1 (fun i15 => ⟨[(3, isP b2 0, none), (4, (tL tSet).va q1.2, none), (5, isP b4 0, none), (9, (tL tCol).va q12, none), (10, (tL tVal).va q13.1, none), (11, isB q13.2, none), (12, isI .i64 i14, none), (83, isB i15, none)], [boxO b4 tTable q3.1 [], boxO b2 tTable q1.1 []]⟩) (fun i15 => f1004_j7 fu q1 q3 q12 q13 i14 (f1004_l1 fu q1 q3 q12 q13 n1) i15) (fun i15 => ?_) (fun hj7 => ?_)
              · refine .cond rfl (fun _ => ?_) (fun _ => ?_)
                · refine .skip <| .seq <| .block <| .seq <| .region <| .move rfl rfl <| .move rfl rfl <| .elemAt rfl rfl Tryz.underlying23 ty52 rfl <| .fieldAt fCol_4 rfl fa52_4 rfl <| .load rfl ty47 rfl <| .alloc tVal d0_47 [] z47 rfl fun b16 => .storeP 0 (Fld.self _) rfl rfl rfl ty47 <| .nil ?_
                  refine .seq <| .seq <| .region <| .assign rfl rfl <| .nil ?_
                  refine .block <| .loop <| .keep [3, 4, 5, 9, 10, 11, 12, 13, 14] [] rfl ?_
                  refine (show ∀ (n2 : Nat) (i17 : Int) (i18 : Val), W _ _ _ _ _ ⟨[(3, isP b2 0, none), (4, (tL tSet).va q1.2, none), (5, isP b4 0, none), (9, (tL tCol).va q12, none), (10, (tL tVal).va q13.1, none), (11, isB q13.2, none), (12, isI .i64 i14, none), (13, isP b16 0, none), (14, isI .i64 i17, none)], [boxO b16 tVal i18 [], boxO b4 tTable q3.1 [], boxO b2 tTable q1.1 []]⟩ (f1004_l2 q1 q12 q13 i14 (f1004_l1 fu q1 q3 q12 q13 n1) n2 i17 i18) from ?_) fu _ _
                  intro n2
                  induction n2 with
                  | zero => exact fun _ _ => .stop
                  | succ n2 ih2 =>
                    intro i17 i18
                    refine .inLoop <| .seq <| .seq <| .region <| .move rfl rfl <| .move rfl rfl <| .lenL rfl Tryz.underlying28 rfl <| .bin rfl rfl rfl rfl <| .nil ?_
                    refine .cond rfl (fun _ => ?_) (fun _ => ?_)
                    · refine .skip <| .seq <| .block <| .seq <| .pT fun h10 => ?_
                      refine .pT fun h11 => ?_
                      refine .draw 10 [] mix (by kernel_rfl) (.cons (fun _ _ _ hP hE h => .move (hE.op rfl) rfl <| h) <| .cons (fun _ _ _ hP hE h => .move (hE.op rfl) rfl <| h) <| .cons (fun _ _ _ hP hE h => .useC h10 <| .elemAt (hE.op rfl) (hE.op rfl) Tryz.underlying28 ty49 rfl <| h) <| .cons (fun _ _ _ hP hE h => .fieldAt fSet_0 (hE.op rfl) fa49_0 rfl <| h) <| .cons (fun _ _ _ hP hE h => .load (hE.op rfl) ty9 rfl <| h) <| .cons (fun _ _ _ hP hE h => .move (hE.op rfl) rfl <| h) <| .cons (fun _ _ _ hP hE h => .move (hE.op rfl) rfl <| h) <| .cons (fun _ _ _ hP hE h => .useC h11 <| .elemAt (hE.op rfl) (hE.op rfl) Tryz.underlying23 ty52 rfl <| h) <| .cons (fun _ _ _ hP hE h => .fieldAt fCol_0 (hE.op rfl) fa52_0 rfl <| h) <| .cons (fun _ _ _ hP hE h => .load (hE.op rfl) ty9 rfl <| h) <| .nil) rfl <| .seq rfl rfl rfl <| .nil ?_
                      refine .join1 (fun i19 => ⟨[(3, isP b2 0, none), (4, (tL tSet).va q1.2, none), (5, isP b4 0, none), (9, (tL tCol).va q12, none), (10, (tL tVal).va q13.1, none), (11, isB q13.2, none), (12, isI .i64 i14, none), (13, isP b16 0, none), (14, isI .i64 i17, none)], [boxO b16 tVal i19 [], boxO b4 tTable q3.1 [], boxO b2 tTable q1.1 []]⟩) (fun i19 => f1004_j9 i17 (f1004_l1 fu q1 q3 q12 q13 n1) (f1004_l2 q1 q12 q13 i14 (f1004_l1 fu q1 q3 q12 q13 n1) n2) i19) (fun i19 => ?_) (fun hj9 => ?_)
                      · refine .inBlock <| .region <| .move rfl rfl <| .bin rfl rfl rfl rfl <| .assign rfl rfl <| .nil ?_
                        exact .keep [3, 4, 5, 9, 10, 11, 12, 13, 14] [] rfl (ih2 _ _)
                      · refine .cond rfl (fun _ => ?_) (fun _ => ?_)
                        · refine .region <| .move rfl rfl <| .move rfl rfl <| .elemAt rfl rfl Tryz.underlying28 ty49 rfl <| .fieldAt fSet_1 rfl fa49_1 rfl <| .load rfl ty47 rfl <| .storeP 0 (Fld.self _) rfl rfl rfl ty47 <| .nil ?_
                          exact .keep [3, 4, 5, 9, 10, 11, 12, 13, 14] [] rfl (hj9 _)
                        · exact .skip <| .keep [3, 4, 5, 9, 10, 11, 12, 13, 14] [] rfl (hj9 _)
                    · refine .exit rfl <| .seq <| .pT fun h12 => ?_
                      refine .draw 5 [] mix (by kernel_rfl) (.cons (fun _ _ _ hP hE h => .move (hE.op rfl) rfl <| h) <| .cons (fun _ _ _ hP hE h => .move (hE.op rfl) rfl <| h) <| .cons (fun _ _ _ hP hE h => .useC h12 <| .elemAt (hE.op rfl) (hE.op rfl) Tryz.underlying42 ty47 rfl <| h) <| .cons (fun _ _ _ hP hE h => .load (hE.op rfl) ty47 rfl <| h) <| .cons (fun _ _ _ hP hE h => .loadP 0 (Fld.self _) (hE.op rfl) (hP.get rfl rfl) ty47 rfl <| h) <| .nil) rfl <| .neT eq47 rfl rfl rfl <| .nil ?_
                      refine .cond rfl (fun _ => ?_) (fun _ => ?_)
                      · refine .seq <| .region <| .assign rfl rfl <| .nil ?_
                        exact .ret1 Tryz.func4 Tryz.results4 (.tmp rfl) rfl (fun _ _ => .cons _ <| .cons _ <| .cons _ <| .slnil)
                      · refine .skip <| .inBlock <| .region <| .move rfl rfl <| .bin rfl rfl rfl rfl <| .assign rfl rfl <| .nil ?_
                        exact .keep [3, 4, 5, 9, 10, 11, 12] [] rfl (.drop (.cons _ <| .cons_cons _ <| .cons_cons _ <| .slnil) <| ih1 _)
                · refine .exit rfl <| .seq <| .region <| .loadP 0 (Fld.self _) rfl rfl ty27 rfl <| .fieldP rfl fa27_3 rfl <| .loadP 1 fTable_3 rfl rfl ty3 rfl <| .call0 (c13 fu _ _) n13 rfl rfl fun q20 => .move rfl rfl <| .extract rfl rfl rfl <| .extract rfl rfl rfl <| .alloc tTable d0_27 [] z27 rfl fun b21 => .storeP 0 (Fld.self _) rfl rfl rfl ty27 <| .assign rfl rfl <| .nil ?_
                  refine .seq <| .region <| .fieldP rfl fa27_3 rfl <| .loadP 2 fTable_3 rfl rfl ty3 rfl <| .fieldP rfl fa27_3 rfl <| .storeP 0 fTable_3 rfl rfl rfl ty3 <| .nil ?_
                  refine .seq <| .join1 (fun i22 => ⟨[(2, isB i22, none)], []⟩) (fun i22 => f1004_j10 (f1004_l1 fu q1 q3 q12 q13 n1) i22) (fun i22 => ?_) (fun hj10 => ?_)
                  · exact .ret1 Tryz.func4 Tryz.results4 (.tmp rfl) rfl (fun _ _ => .slnil)
                  · refine .region <| .move rfl rfl <| .move rfl rfl <| .split 130 rfl (fun _ => ?_) (fun _ => ?_)
                    · refine .on rfl rfl <| .loadP 1 (Fld.self _) rfl rfl ty27 rfl <| .on rfl rfl <| .call0 (c19 fu _) n19 rfl rfl fun q23 => .pickT rfl rfl rfl <| .move rfl rfl <| .split 134 rfl (fun _ => ?_) (fun _ => ?_)
                      · refine .on rfl rfl <| .fieldP rfl fa27_3 rfl <| .on rfl rfl <| .loadP 1 fTable_3 rfl rfl ty3 rfl <| .on rfl rfl <| .fieldP rfl fa27_3 rfl <| .on rfl rfl <| .loadP 2 fTable_3 rfl rfl ty3 rfl <| .on rfl rfl <| .bin rfl rfl rfl rfl <| .on rfl rfl <| .bin rfl rfl rfl rfl <| .pickT rfl rfl rfl <| .move rfl rfl <| .split 142 rfl (fun _ => ?_) (fun _ => ?_)
                        · refine .on rfl rfl <| .move rfl rfl <| .on rfl rfl <| .bin rfl rfl rfl rfl <| .pickT rfl rfl rfl <| .move rfl rfl <| .split 146 rfl (fun _ => ?_) (fun _ => ?_)
                          · refine .on rfl rfl <| .loadP 0 (Fld.self _) rfl rfl ty27 rfl <| .on rfl rfl <| .loadP 2 (Fld.self _) rfl rfl ty27 rfl <| .on rfl rfl <| .call0 (c15 fu _ _) n15 rfl rfl fun q24 => .pickT rfl rfl rfl <| .assign rfl rfl <| .nil ?_
                            exact .keep [2] [] rfl (.drop (.cons _ <| .cons _ <| .cons _ <| .slnil) <| hj10 _)
                          · refine .off rfl rfl rfl <| .off rfl rfl rfl <| .off rfl rfl rfl <| .pickF rfl rfl rfl <| .assign rfl rfl <| .nil ?_
                            exact .keep [2] [] rfl (.drop (.cons _ <| .cons _ <| .cons _ <| .slnil) <| hj10 _)
                        · refine .off rfl rfl rfl <| .off rfl rfl rfl <| .pickF rfl rfl rfl <| .move rfl rfl <| .off rfl rfl rfl <| .off rfl rfl rfl <| .off rfl rfl rfl <| .pickF rfl rfl rfl <| .assign rfl rfl <| .nil ?_
                          exact .keep [2] [] rfl (.drop (.cons _ <| .cons _ <| .cons _ <| .slnil) <| hj10 _)
                      · refine .off rfl rfl rfl <| .off rfl rfl rfl <| .off rfl rfl rfl <| .off rfl rfl rfl <| .off rfl rfl rfl <| .off rfl rfl rfl <| .pickF rfl rfl rfl <| .move rfl rfl <| .off rfl rfl rfl <| .off rfl rfl rfl <| .pickF rfl rfl rfl <| .move rfl rfl <| .off rfl rfl rfl <| .off rfl rfl rfl <| .off rfl rfl rfl <| .pickF rfl rfl rfl <| .assign rfl rfl <| .nil ?_
                        exact .keep [2] [] rfl (.drop (.cons _ <| .cons _ <| .cons _ <| .slnil) <| hj10 _)
                    · refine .off rfl rfl rfl <| .off rfl rfl rfl <| .pickF rfl rfl rfl <| .move rfl rfl <| .off rfl rfl rfl <| .off rfl rfl rfl <| .off rfl rfl rfl <| .off rfl rfl rfl <| .off rfl rfl rfl <| .off rfl rfl rfl <| .pickF rfl rfl rfl <| .move rfl rfl <| .off rfl rfl rfl <| .off rfl rfl rfl <| .pickF rfl rfl rfl <| .move rfl rfl <| .off rfl rfl rfl <| .off rfl rfl rfl <| .off rfl rfl rfl <| .pickF rfl rfl rfl <| .assign rfl rfl <| .nil ?_
                      exact .keep [2] [] rfl (.drop (.cons _ <| .cons _ <| .cons _ <| .slnil) <| hj10 _)
              · refine .region <| .move rfl rfl <| .move rfl rfl <| .lenL rfl Tryz.underlying23 rfl <| .bin rfl rfl rfl rfl <| .move rfl rfl <| .split 81 rfl (fun _ => ?_) (fun _ => ?_)
                · refine .on rfl rfl <| .move rfl rfl <| .pickT rfl rfl rfl <| .nil ?_
                  exact .keep [3, 4, 5, 9, 10, 11, 12, 83] [] rfl (hj7 _)
                · refine .off rfl rfl rfl <| .pickF rfl rfl rfl <| .nil ?_
                  exact .keep [3, 4, 5, 9, 10, 11, 12, 83] [] rfl (hj7 _)
    · refine .pcond (fun h13 => ?_) (fun h13 => ?_)
      · refine .draw 13 [] mix (by kernel_rfl) (.cons (fun _ _ _ hP hE h => .move (hE.op rfl) rfl <| h) <| .cons (fun _ _ _ hP hE h => .move (hE.op rfl) rfl <| h) <| .cons (fun _ _ _ hP hE h => .bin rfl (hE.op rfl) (hE.op rfl) rfl <| h) <| .cons (fun _ _ _ hP hE h => .move (hE.op rfl) rfl <| .noV <| .useEq h13 h) <| .cons (fun _ _ _ hP hE h => .off rfl (hE _ _ rfl) rfl <| h) <| .cons (fun _ _ _ hP hE h => .off rfl (hE _ _ rfl) rfl <| h) <| .cons (fun _ _ _ hP hE h => .off rfl (hE _ _ rfl) rfl <| h) <| .cons (fun _ _ _ hP hE h => .off rfl (hE _ _ rfl) rfl <| h) <| .cons (fun _ _ _ hP hE h => .pickT (hE.op rfl) (hE.op rfl) rfl <| h) <| .cons (fun _ _ _ hP hE h => .move (hE.op rfl) rfl <| h) <| .cons (fun _ _ _ hP hE h => .off rfl (hE _ _ rfl) rfl <| h) <| .cons (fun _ _ _ hP hE h => .off rfl (hE _ _ rfl) rfl <| h) <| .cons (fun _ _ _ hP hE h => .off rfl (hE _ _ rfl) rfl <| h) <| .nil) rfl <| .off rfl rfl rfl <| .off rfl rfl rfl <| .pickT rfl rfl rfl <| .nil ?_
        exact .keep [3, 4, 5, 6, 52] [] rfl (.drop (.cons _ <| .cons_cons _ <| .cons_cons _ <| .slnil) <| hj1 _)
      · refine .pbind fun q25 h14 => ?_
        refine .pcond (fun h15 => ?_) (fun h15 => ?_)
        · refine .draw 13 [] mix (by kernel_rfl) (.cons (fun _ _ _ hP hE h => .move (hE.op rfl) rfl <| h) <| .cons (fun _ _ _ hP hE h => .move (hE.op rfl) rfl <| h) <| .cons (fun _ _ _ hP hE h => .bin rfl (hE.op rfl) (hE.op rfl) rfl <| h) <| .cons (fun _ _ _ hP hE h => .move (hE.op rfl) rfl <| .noV <| .useEq h13 h) <| .cons (fun _ _ _ hP hE h => .on rfl (hE _ _ rfl) <| .loadP 1 (Fld.self _) (hE.op rfl) (hP.get rfl rfl) ty27 rfl <| h) <| .cons (fun _ _ _ hP hE h => .on rfl (hE _ _ rfl) <| .loadP 0 (Fld.self _) (hE.op rfl) (hP.get rfl rfl) ty27 rfl <| h) <| .cons (fun _ _ _ hP hE h => .on rfl (hE _ _ rfl) <| .bindE h14 (fun r h => .call0 (c15 fu _ _) n15 (hE.ops rfl) rfl h) <| h) <| .cons (fun _ _ _ hP hE h => .on rfl (hE _ _ rfl) <| .not (hE.op rfl) rfl <| h) <| .cons (fun _ _ _ hP hE h => .pickF (hE.op rfl) (hE.op rfl) rfl <| h) <| .cons (fun _ _ _ hP hE h => .move (hE.op rfl) rfl <| .noV <| .useEq h15 h) <| .cons (fun _ _ _ hP hE h => .off rfl (hE _ _ rfl) rfl <| h) <| .cons (fun _ _ _ hP hE h => .off rfl (hE _ _ rfl) rfl <| h) <| .cons (fun _ _ _ hP hE h => .off rfl (hE _ _ rfl) rfl <| h) <| .nil) rfl <| .off rfl rfl rfl <| .off rfl rfl rfl <| .pickT rfl rfl rfl <| .nil ?_
          exact .keep [3, 4, 5, 6, 52] [] rfl (.drop (.cons _ <| .cons_cons _ <| .cons_cons _ <| .slnil) <| hj1 _)
        · refine .pbind fun q26 h16 => ?_
          refine .draw 13 [] mix (by kernel_rfl) (.cons (fun _ _ _ hP hE h => .move (hE.op rfl) rfl <| h) <| .cons (fun _ _ _ hP hE h => .move (hE.op rfl) rfl <| h) <| .cons (fun _ _ _ hP hE h => .bin rfl (hE.op rfl) (hE.op rfl) rfl <| h) <| .cons (fun _ _ _ hP hE h => .move (hE.op rfl) rfl <| .noV <| .useEq h13 h) <| .cons (fun _ _ _ hP hE h => .on rfl (hE _ _ rfl) <| .loadP 1 (Fld.self _) (hE.op rfl) (hP.get rfl rfl) ty27 rfl <| h) <| .cons (fun _ _ _ hP hE h => .on rfl (hE _ _ rfl) <| .loadP 0 (Fld.self _) (hE.op rfl) (hP.get rfl rfl) ty27 rfl <| h) <| .cons (fun _ _ _ hP hE h => .on rfl (hE _ _ rfl) <| .bindE h14 (fun r h => .call0 (c15 fu _ _) n15 (hE.ops rfl) rfl h) <| h) <| .cons (fun _ _ _ hP hE h => .on rfl (hE _ _ rfl) <| .not (hE.op rfl) rfl <| h) <| .cons (fun _ _ _ hP hE h => .pickF (hE.op rfl) (hE.op rfl) rfl <| h) <| .cons (fun _ _ _ hP hE h => .move (hE.op rfl) rfl <| .noV <| .useEq h15 h) <| .cons (fun _ _ _ hP hE h => .on rfl (hE _ _ rfl) <| .loadP 2 (Fld.self _) (hE.op rfl) (hP.get rfl rfl) ty27 rfl <| h) <| .cons (fun _ _ _ hP hE h => .on rfl (hE _ _ rfl) <| .bindE h16 (fun r h => .call0 (c19 fu _) n19 (hE.ops rfl) rfl h) <| h) <| .cons (fun _ _ _ hP hE h => .on rfl (hE _ _ rfl) <| .loadP 2 (Fld.self _) (hE.op rfl) (hP.get rfl rfl) ty27 rfl <| h) <| .nil) rfl <| .on rfl rfl <| .call0 (c17 fu _) n17 rfl rfl fun q27 => .on rfl rfl <| .bne rfl rfl Tryz.underlying4 rfl <| .pickF rfl rfl rfl <| .nil ?_
          exact .keep [3, 4, 5, 6, 52] [] rfl (.drop (.cons _ <| .cons_cons _ <| .cons_cons _ <| .slnil) <| hj1 _)
end Go.Proofs.YtlkhmcajnfombaaGreatDoor
