/- Functions of the program: what each answers, and that the machine answers so. -/
import Derived.Test.YtlkhmcajnfombaaGreatDoorQ1007A10
import Derived.KernelRfl
import Derived.KernelRfl
set_option linter.unusedVariables false
set_option linter.unusedSimpArgs false
set_option linter.deprecated false
set_option linter.unusedSectionVars false
set_option linter.all false
namespace Go.Proofs.YtlkhmcajnfombaaGreatDoor
open Go Go.HL
def f37 (fu : Nat) (a0 : List Col) (a1 : List Col) : Option Bool := (f43 fu a0 a1).bind fun q1 => some q1
theorem n37 : ∃ fn c, Tryz.prog.funcs[59]? = some fn ∧ (fn.name == "runtime.NumGoroutine") = false ∧ fn.body = some c := ⟨_, _, Tryz.func59, by kernel_rfl, rfl⟩
theorem c37 (fu : Nat) (a0 : List Col) (a1 : List Col) : Ctr Tryz.prog 59 [(tL tCol).va a0, (tL tCol).va a1] [] (f37 fu a0 a1) (fun _ _ => []) (fun q => isB q) := by
  refine Ctr.of_W Tryz.func59 rfl Tryz.ntmps59 rfl fun A w => ?_
  unfold f37
  refine .seq <| .region <| .assign rfl rfl <| .nil ?_
  refine .seq <| .region <| .move rfl rfl <| .move rfl rfl <| .call0 (c43 fu _ _) n43 rfl rfl fun q1 => .assign rfl rfl <| .nil ?_
  exact .ret1 Tryz.func59 Tryz.results59 (.tmp rfl) rfl (fun _ _ => .slnil)
def f30_j3 (i4 : Int) (rec1 : Int → Option Bool) (i7 : Bool) : Option Bool := cond i7 (some false) (rec1 (IntKind.i64.wrap (i4 + 1)))
def f30_l1 (fu : Nat) (a0 : Table) (a1 : Table) : Nat → Int → Option Bool
  | 0, _ => none
  | n1 + 1, i4 => cond (decide (i4 < (List.length a0.rows : Int))) (cond (decide (0 ≤ i4) && decide (i4 < (List.length a0.rows : Int))) ((f16 fu a0 ((a0.rows.getD i4.toNat default).id)).bind fun q5 => cond (decide (0 ≤ i4) && decide (i4 < (List.length a0.rows : Int))) ((f16 fu a1 ((a0.rows.getD i4.toNat default).id)).bind fun q6 => cond (!q5.2) (f30_j3 i4 (f30_l1 fu a0 a1 n1) true) (cond (!q6.2) (f30_j3 i4 (f30_l1 fu a0 a1 n1) true) ((f18 fu q5.1 q6.1).bind fun q8 => f30_j3 i4 (f30_l1 fu a0 a1 n1) (!q8)))) none) none) (some true)
def f30_j1 (fu : Nat) (a0 : Table) (a1 : Table) (i3 : Bool) : Option Bool := cond i3 (some false) (f30_l1 fu a0 a1 fu 0)
def f30 (fu : Nat) (a0 : Table) (a1 : Table) : Option Bool := (f23 fu a0).bind fun q9 => (f23 fu a1).bind fun q10 => (f37 fu q9 q10).bind fun q11 => cond (!q11) (f30_j1 fu a0 a1 true) (cond (!decide ((List.length a0.rows : Int) = (List.length a1.rows : Int))) (f30_j1 fu a0 a1 true) (f30_j1 fu a0 a1 (!decide (a0.next = a1.next))))
theorem n30 : ∃ fn c, Tryz.prog.funcs[23]? = some fn ∧ (fn.name == "runtime.NumGoroutine") = false ∧ fn.body = some c := ⟨_, _, Tryz.func23, by kernel_rfl, rfl⟩
theorem c30 (fu : Nat) (a0 : Table) (a1 : Table) : Ctr Tryz.prog 23 [tTable.va a0, tTable.va a1] [] (f30 fu a0 a1) (fun _ _ => []) (fun q => isB q) := by
  refine Ctr.of_W Tryz.func23 rfl Tryz.ntmps23 rfl fun A w => ?_
  unfold f30
  refine .seq <| .region <| .box (T := tTable) rfl rfl fun b1 => .box (T := tTable) rfl rfl fun b2 => .assign rfl rfl <| .nil ?_
  refine .seq <| .seq <| .join1 (fun i3 => ⟨[(2, isP b1 0, none), (3, isP b2 0, none), (31, isB i3, none)], [boxO b2 tTable a1 [], boxO b1 tTable a0 []]⟩) (fun i3 => f30_j1 fu a0 a1 i3) (fun i3 => ?_) (fun hj1 => ?_)
  · refine .cond rfl (fun _ => ?_) (fun _ => ?_)
    · refine .seq <| .region <| .assign rfl rfl <| .nil ?_
      exact .ret1 Tryz.func23 Tryz.results23 (.tmp rfl) rfl (fun _ _ => .cons _ <| .cons _ <| .slnil)
    · refine .skip <| .seq <| .seq <| .region <| .assign rfl rfl <| .nil ?_
      refine .block <| .loop <| .keep [2, 3, 5] [] rfl ?_
      refine (show ∀ (n1 : Nat) (i4 : Int), W _ _ _ _ _ ⟨[(2, isP b1 0, none), (3, isP b2 0, none), (5, isI .i64 i4, none)], [boxO b2 tTable a1 [], boxO b1 tTable a0 []]⟩ (f30_l1 fu a0 a1 n1 i4) from ?_) fu _
      intro n1
      induction n1 with
      | zero => exact fun _ => .stop
      | succ n1 ih1 =>
        intro i4
        refine .inLoop <| .seq <| .seq <| .region <| .move rfl rfl <| .fieldP rfl fa27_2 rfl <| .loadP 1 fTable_2 rfl rfl ty25 rfl <| .lenL rfl Tryz.underlying25 rfl <| .bin rfl rfl rfl rfl <| .nil ?_
        refine .cond rfl (fun _ => ?_) (fun _ => ?_)
        · refine .skip <| .seq <| .block <| .seq <| .pT fun h3 => ?_
          refine .draw 7 [] mix (by kernel_rfl) (.cons (fun _ _ _ hP hE h => .loadP 1 (Fld.self _) (hE.op rfl) (hP.get rfl rfl) ty27 rfl <| h) <| .cons (fun _ _ _ hP hE h => .fieldP (hE.op rfl) fa27_2 rfl <| h) <| .cons (fun _ _ _ hP hE h => .loadP 1 fTable_2 (hE.op rfl) (hP.get rfl rfl) ty25 rfl <| h) <| .cons (fun _ _ _ hP hE h => .move (hE.op rfl) rfl <| h) <| .cons (fun _ _ _ hP hE h => .useC h3 <| .elemAt (hE.op rfl) (hE.op rfl) Tryz.underlying25 ty37 rfl <| h) <| .cons (fun _ _ _ hP hE h => .fieldAt fRow_0 (hE.op rfl) fa37_0 rfl <| h) <| .cons (fun _ _ _ hP hE h => .load (hE.op rfl) ty3 rfl <| h) <| .nil) rfl <| .call0 (c16 fu _ _) n16 rfl rfl fun q5 => .move rfl rfl <| .extract rfl rfl rfl <| .extract rfl rfl rfl <| .assign rfl rfl <| .assign rfl rfl <| .nil ?_
          refine .seq <| .pT fun h4 => ?_
          refine .draw 7 [] mix (by kernel_rfl) (.cons (fun _ _ _ hP hE h => .loadP 0 (Fld.self _) (hE.op rfl) (hP.get rfl rfl) ty27 rfl <| h) <| .cons (fun _ _ _ hP hE h => .fieldP (hE.op rfl) fa27_2 rfl <| h) <| .cons (fun _ _ _ hP hE h => .loadP 1 fTable_2 (hE.op rfl) (hP.get rfl rfl) ty25 rfl <| h) <| .cons (fun _ _ _ hP hE h => .move (hE.op rfl) rfl <| h) <| .cons (fun _ _ _ hP hE h => .useC h4 <| .elemAt (hE.op rfl) (hE.op rfl) Tryz.underlying25 ty37 rfl <| h) <| .cons (fun _ _ _ hP hE h => .fieldAt fRow_0 (hE.op rfl) fa37_0 rfl <| h) <| .cons (fun _ _ _ hP hE h => .load (hE.op rfl) ty3 rfl <| h) <| .nil) rfl <| .call0 (c16 fu _ _) n16 rfl rfl fun q6 => .move rfl rfl <| .extract rfl rfl rfl <| .extract rfl rfl rfl <| .assign rfl rfl <| .assign rfl rfl <| .nil ?_
          refine .seq <| .join1 (fun i7 => ⟨[(2, isP b1 0, none), (3, isP b2 0, none), (5, isI .i64 i4, none), (72, isB i7, none)], [boxO b2 tTable a1 [], boxO b1 tTable a0 []]⟩) (fun i7 => f30_j3 i4 (f30_l1 fu a0 a1 n1) i7) (fun i7 => ?_) (fun hj3 => ?_)
          · refine .cond rfl (fun _ => ?_) (fun _ => ?_)
            · refine .seq <| .region <| .assign rfl rfl <| .nil ?_
              exact .ret1 Tryz.func23 Tryz.results23 (.tmp rfl) rfl (fun _ _ => .cons _ <| .cons _ <| .slnil)
            · refine .skip <| .inBlock <| .region <| .move rfl rfl <| .bin rfl rfl rfl rfl <| .assign rfl rfl <| .nil ?_
              exact .keep [2, 3, 5] [] rfl (ih1 _)
          · refine .region <| .move rfl rfl <| .not rfl rfl <| .move rfl rfl <| .split 63 rfl (fun _ => ?_) (fun _ => ?_)
            · refine .off rfl rfl rfl <| .off rfl rfl rfl <| .pickT rfl rfl rfl <| .move rfl rfl <| .off rfl rfl rfl <| .off rfl rfl rfl <| .off rfl rfl rfl <| .off rfl rfl rfl <| .pickT rfl rfl rfl <| .nil ?_
              exact .keep [2, 3, 5, 72] [] rfl (hj3 _)
            · refine .on rfl rfl <| .move rfl rfl <| .on rfl rfl <| .not rfl rfl <| .pickF rfl rfl rfl <| .move rfl rfl <| .split 67 rfl (fun _ => ?_) (fun _ => ?_)
              · refine .off rfl rfl rfl <| .off rfl rfl rfl <| .off rfl rfl rfl <| .off rfl rfl rfl <| .pickT rfl rfl rfl <| .nil ?_
                exact .keep [2, 3, 5, 72] [] rfl (hj3 _)
              · refine .on rfl rfl <| .move rfl rfl <| .on rfl rfl <| .move rfl rfl <| .on rfl rfl <| .call0 (c18 fu _ _) n18 rfl rfl fun q8 => .on rfl rfl <| .not rfl rfl <| .pickF rfl rfl rfl <| .nil ?_
                exact .keep [2, 3, 5, 72] [] rfl (hj3 _)
        · refine .exit rfl <| .seq <| .region <| .assign rfl rfl <| .nil ?_
          exact .ret1 Tryz.func23 Tryz.results23 (.tmp rfl) rfl (fun _ _ => .cons _ <| .cons _ <| .slnil)
  · refine .pbind fun q9 h5 => ?_
    refine .pbind fun q10 h6 => ?_
    refine .pbind fun q11 h7 => ?_
    refine .pcond (fun h8 => ?_) (fun h8 => ?_)
    · refine .draw 20 [] mix (by kernel_rfl) (.cons (fun _ _ _ hP hE h => .loadP 1 (Fld.self _) (hE.op rfl) (hP.get rfl rfl) ty27 rfl <| h) <| .cons (fun _ _ _ hP hE h => .bindE h5 (fun r h => .call0 (c23 fu _) n23 (hE.ops rfl) rfl h) <| h) <| .cons (fun _ _ _ hP hE h => .loadP 0 (Fld.self _) (hE.op rfl) (hP.get rfl rfl) ty27 rfl <| h) <| .cons (fun _ _ _ hP hE h => .bindE h6 (fun r h => .call0 (c23 fu _) n23 (hE.ops rfl) rfl h) <| h) <| .cons (fun _ _ _ hP hE h => .bindE h7 (fun r h => .call0 (c37 fu _ _) n37 (hE.ops rfl) rfl h) <| h) <| .cons (fun _ _ _ hP hE h => .not (hE.op rfl) rfl <| h) <| .cons (fun _ _ _ hP hE h => .move (hE.op rfl) rfl <| .noV <| .useEq h8 h) <| .cons (fun _ _ _ hP hE h => .off rfl (hE _ _ rfl) rfl <| h) <| .cons (fun _ _ _ hP hE h => .off rfl (hE _ _ rfl) rfl <| h) <| .cons (fun _ _ _ hP hE h => .off rfl (hE _ _ rfl) rfl <| h) <| .cons (fun _ _ _ hP hE h => .off rfl (hE _ _ rfl) rfl <| h) <| .cons (fun _ _ _ hP hE h => .off rfl (hE _ _ rfl) rfl <| h) <| .cons (fun _ _ _ hP hE h => .off rfl (hE _ _ rfl) rfl <| h) <| .cons (fun _ _ _ hP hE h => .off rfl (hE _ _ rfl) rfl <| h) <| .cons (fun _ _ _ hP hE h => .pickT (hE.op rfl) (hE.op rfl) rfl <| h) <| .cons (fun _ _ _ hP hE h => .move (hE.op rfl) rfl <| h) <| .cons (fun _ _ _ hP hE h => .off rfl (hE _ _ rfl) rfl <| h) <| .cons (fun _ _ _ hP hE h => .off rfl (hE _ _ rfl) rfl <| h) <| .cons (fun _ _ _ hP hE h => .off rfl (hE _ _ rfl) rfl <| h) <| .cons (fun _ _ _ hP hE h => .off rfl (hE _ _ rfl) rfl <| h) <| .nil) rfl <| .off rfl rfl rfl <| .pickT rfl rfl rfl <| .nil ?_
      exact .keep [2, 3, 31] [] rfl (hj1 _)
    · refine .pcond (fun h9 => ?_) (fun h9 => ?_)
      · refine .draw 20 [] mix (by kernel_rfl) (.cons (fun _ _ _ hP hE h => .loadP 1 (Fld.self _) (hE.op rfl) (hP.get rfl rfl) ty27 rfl <| h) <| .cons (fun _ _ _ hP hE h => .bindE h5 (fun r h => .call0 (c23 fu _) n23 (hE.ops rfl) rfl h) <| h) <| .cons (fun _ _ _ hP hE h => .loadP 0 (Fld.self _) (hE.op rfl) (hP.get rfl rfl) ty27 rfl <| h) <| .cons (fun _ _ _ hP hE h => .bindE h6 (fun r h => .call0 (c23 fu _) n23 (hE.ops rfl) rfl h) <| h) <| .cons (fun _ _ _ hP hE h => .bindE h7 (fun r h => .call0 (c37 fu _ _) n37 (hE.ops rfl) rfl h) <| h) <| .cons (fun _ _ _ hP hE h => .not (hE.op rfl) rfl <| h) <| .cons (fun _ _ _ hP hE h => .move (hE.op rfl) rfl <| .noV <| .useEq h8 h) <| .cons (fun _ _ _ hP hE h => .on rfl (hE _ _ rfl) <| .fieldP (hE.op rfl) fa27_2 rfl <| h) <| .cons (fun _ _ _ hP hE h => .on rfl (hE _ _ rfl) <| .loadP 1 fTable_2 (hE.op rfl) (hP.get rfl rfl) ty25 rfl <| h) <| .cons (fun _ _ _ hP hE h => .on rfl (hE _ _ rfl) <| .lenL (hE.op rfl) Tryz.underlying25 rfl <| h) <| .cons (fun _ _ _ hP hE h => .on rfl (hE _ _ rfl) <| .fieldP (hE.op rfl) fa27_2 rfl <| h) <| .cons (fun _ _ _ hP hE h => .on rfl (hE _ _ rfl) <| .loadP 0 fTable_2 (hE.op rfl) (hP.get rfl rfl) ty25 rfl <| h) <| .cons (fun _ _ _ hP hE h => .on rfl (hE _ _ rfl) <| .lenL (hE.op rfl) Tryz.underlying25 rfl <| h) <| .cons (fun _ _ _ hP hE h => .on rfl (hE _ _ rfl) <| .bin rfl (hE.op rfl) (hE.op rfl) rfl <| h) <| .cons (fun _ _ _ hP hE h => .pickF (hE.op rfl) (hE.op rfl) rfl <| h) <| .cons (fun _ _ _ hP hE h => .move (hE.op rfl) rfl <| .noV <| .useEq h9 h) <| .cons (fun _ _ _ hP hE h => .off rfl (hE _ _ rfl) rfl <| h) <| .cons (fun _ _ _ hP hE h => .off rfl (hE _ _ rfl) rfl <| h) <| .cons (fun _ _ _ hP hE h => .off rfl (hE _ _ rfl) rfl <| h) <| .cons (fun _ _ _ hP hE h => .off rfl (hE _ _ rfl) rfl <| h) <| .nil) rfl <| .off rfl rfl rfl <| .pickT rfl rfl rfl <| .nil ?_
        exact .keep [2, 3, 31] [] rfl (hj1 _)
      · refine .draw 20 [] mix (by kernel_rfl) (.cons (fun _ _ _ hP hE h => .loadP 1 (Fld.self _) (hE.op rfl) (hP.get rfl rfl) ty27 rfl <| h) <| .cons (fun _ _ _ hP hE h => .bindE h5 (fun r h => .call0 (c23 fu _) n23 (hE.ops rfl) rfl h) <| h) <| .cons (fun _ _ _ hP hE h => .loadP 0 (Fld.self _) (hE.op rfl) (hP.get rfl rfl) ty27 rfl <| h) <| .cons (fun _ _ _ hP hE h => .bindE h6 (fun r h => .call0 (c23 fu _) n23 (hE.ops rfl) rfl h) <| h) <| .cons (fun _ _ _ hP hE h => .bindE h7 (fun r h => .call0 (c37 fu _ _) n37 (hE.ops rfl) rfl h) <| h) <| .cons (fun _ _ _ hP hE h => .not (hE.op rfl) rfl <| h) <| .cons (fun _ _ _ hP hE h => .move (hE.op rfl) rfl <| .noV <| .useEq h8 h) <| .cons (fun _ _ _ hP hE h => .on rfl (hE _ _ rfl) <| .fieldP (hE.op rfl) fa27_2 rfl <| h) <| .cons (fun _ _ _ hP hE h => .on rfl (hE _ _ rfl) <| .loadP 1 fTable_2 (hE.op rfl) (hP.get rfl rfl) ty25 rfl <| h) <| .cons (fun _ _ _ hP hE h => .on rfl (hE _ _ rfl) <| .lenL (hE.op rfl) Tryz.underlying25 rfl <| h) <| .cons (fun _ _ _ hP hE h => .on rfl (hE _ _ rfl) <| .fieldP (hE.op rfl) fa27_2 rfl <| h) <| .cons (fun _ _ _ hP hE h => .on rfl (hE _ _ rfl) <| .loadP 0 fTable_2 (hE.op rfl) (hP.get rfl rfl) ty25 rfl <| h) <| .cons (fun _ _ _ hP hE h => .on rfl (hE _ _ rfl) <| .lenL (hE.op rfl) Tryz.underlying25 rfl <| h) <| .cons (fun _ _ _ hP hE h => .on rfl (hE _ _ rfl) <| .bin rfl (hE.op rfl) (hE.op rfl) rfl <| h) <| .cons (fun _ _ _ hP hE h => .pickF (hE.op rfl) (hE.op rfl) rfl <| h) <| .cons (fun _ _ _ hP hE h => .move (hE.op rfl) rfl <| .noV <| .useEq h9 h) <| .cons (fun _ _ _ hP hE h => .on rfl (hE _ _ rfl) <| .fieldP (hE.op rfl) fa27_3 rfl <| h) <| .cons (fun _ _ _ hP hE h => .on rfl (hE _ _ rfl) <| .loadP 1 fTable_3 (hE.op rfl) (hP.get rfl rfl) ty3 rfl <| h) <| .cons (fun _ _ _ hP hE h => .on rfl (hE _ _ rfl) <| .fieldP (hE.op rfl) fa27_3 rfl <| h) <| .cons (fun _ _ _ hP hE h => .on rfl (hE _ _ rfl) <| .loadP 0 fTable_3 (hE.op rfl) (hP.get rfl rfl) ty3 rfl <| h) <| .nil) rfl <| .on rfl rfl <| .bin rfl rfl rfl rfl <| .pickF rfl rfl rfl <| .nil ?_
        exact .keep [2, 3, 31] [] rfl (hj1 _)
def f75 (fu : Nat) (a0 : Table) (a1 : Int) (a2 : List Set) : Option (Table × Int) := (f48 fu a0 a1).bind fun q3 => cond (decide (q3 < 0)) ((f80 fu a0).bind fun q4 => some (q4, 5)) ((f66 fu a0).bind fun q6 => (f80 fu a0).bind fun q7 => cond (decide (0 ≤ q3) && decide (q3 < (List.length a0.rows : Int))) ((f49 fu a0 (a0.rows.getD q3.toNat default)).bind fun q10 => (f99 fu q6 q10 a2).bind fun q12 => cond (!q12.1) ((f80 fu a0).bind fun q13 => some (q13, 1)) (cond (decide (0 ≤ q3) && decide (q3 < (List.length q7.rows : Int))) ((f58 fu q6 q12.2).bind fun q15 => cond (!q15) ((f80 fu a0).bind fun q16 => some (q16, 2)) ((f59 fu (⟨q7.first, q7.changes, q7.rows.set q3.toNat (⟨a1, (List.length a0.changes : Int), q12.2⟩ : Row), q7.next⟩ : Table)).bind fun q18 => cond (!q18) ((f80 fu a0).bind fun q19 => some (q19, 3)) (some ((⟨q7.first, q7.changes, q7.rows.set q3.toNat (⟨a1, (List.length a0.changes : Int), q12.2⟩ : Row), q7.next⟩ : Table), 0)))) none)) none)
theorem n75 : ∃ fn c, Tryz.prog.funcs[35]? = some fn ∧ (fn.name == "runtime.NumGoroutine") = false ∧ fn.body = some c := ⟨_, _, Tryz.func35, by kernel_rfl, rfl⟩
theorem c75 (fu : Nat) (a0 : Table) (a1 : Int) (a2 : List Set) : Ctr Tryz.prog 35 [tTable.va a0, isI .i64 a1, (tL tSet).va a2] [] (f75 fu a0 a1 a2) (fun _ _ => []) (fun q => tup [tTable.va q.1, isI .i64 q.2]) := by
  refine Ctr.of_W Tryz.func35 rfl Tryz.ntmps35 rfl fun A w => ?_
  unfold f75
  refine .seq <| .region <| .box (T := tTable) rfl rfl fun b1 => .alloc tTableA d0A27 [] zA27 rfl fun b2 => .assign rfl rfl <| .nil ?_
  refine .seq <| .region <| .loadP 1 (Fld.self _) rfl rfl ty27 rfl <| .move rfl rfl <| .call0 (c48 fu _ _) n48 rfl rfl fun q3 => .assign rfl rfl <| .nil ?_
  refine .seq <| .seq <| .region <| .move rfl rfl <| .bin rfl rfl rfl rfl <| .nil ?_
  refine .cond rfl (fun _ => ?_) (fun _ => ?_)
  · refine .seq <| .region <| .loadP 1 (Fld.self _) rfl rfl ty27 rfl <| .callL0 (c80 fu _) n80 rfl rfl fun q4 p5 => .storeP 2 (Fld.self _) rfl rfl rfl ty27 <| .assign rfl rfl <| .nil ?_
    exact .frzBox 2 0 conv27 rfl rfl <| .ret2 Tryz.func35 Tryz.results35 (.cell 2 rfl rfl ty27) (.tmp rfl) rfl (fun _ => .cons _ <| .cons _ <| .cons _ <| .cons _ <| .slnil)
  · refine .skip <| .seq <| .region <| .loadP 1 (Fld.self _) rfl rfl ty27 rfl <| .call0 (c66 fu _) n66 rfl rfl fun q6 => .assign rfl rfl <| .nil ?_
    refine .seq <| .region <| .loadP 1 (Fld.self _) rfl rfl ty27 rfl <| .callL0 (c80 fu _) n80 rfl rfl fun q7 p8 => .alloc tTableA d0A27 [] zA27 rfl fun b9 => .storeP 0 (Fld.self _) rfl rfl rfl ty27 <| .nil ?_
    refine .seq <| .pT fun h1 => ?_
    refine .draw 6 [] mix (by kernel_rfl) (.cons (fun _ _ _ hP hE h => .loadP 4 (Fld.self _) (hE.op rfl) (hP.get rfl rfl) ty27 rfl <| h) <| .cons (fun _ _ _ hP hE h => .fieldP (hE.op rfl) fa27_2 rfl <| h) <| .cons (fun _ _ _ hP hE h => .loadP 4 fTable_2 (hE.op rfl) (hP.get rfl rfl) ty25 rfl <| h) <| .cons (fun _ _ _ hP hE h => .move (hE.op rfl) rfl <| h) <| .cons (fun _ _ _ hP hE h => .useC h1 <| .elemAt (hE.op rfl) (hE.op rfl) Tryz.underlying25 ty37 rfl <| h) <| .cons (fun _ _ _ hP hE h => .load (hE.op rfl) ty37 rfl <| h) <| .nil) rfl <| .callL0 (c49 fu _ _) n49 rfl rfl fun q10 v11 => .unRaw 29 rfl <| .assign rfl rfl <| .nil ?_
    refine .seq <| .seq <| .region <| .move rfl rfl <| .move rfl rfl <| .move rfl rfl <| .call1 0 (c99 fu _ _ _ _) rfl n99 rfl rfl fun q12 => .not rfl rfl <| .nil ?_
    refine .cond rfl (fun _ => ?_) (fun _ => ?_)
    · refine .seq <| .region <| .loadP 5 (Fld.self _) rfl rfl ty27 rfl <| .callL0 (c80 fu _) n80 rfl rfl fun q13 p14 => .storeP 6 (Fld.self _) rfl rfl rfl ty27 <| .assign rfl rfl <| .nil ?_
      exact .frzBox 6 0 conv27 rfl rfl <| .ret2 Tryz.func35 Tryz.results35 (.cell 6 rfl rfl ty27) (.tmp rfl) rfl (fun _ => .cons _ <| .cons _ <| .cons _ <| .cons _ <| .cons _ <| .cons _ <| .cons _ <| .cons _ <| .slnil)
    · refine .skip <| .seq <| .region <| .fieldP rfl fa27_2 rfl <| .loadR 1 fTableA_2 rfl rfl ty25 rfl <| .know 38 rfl <| .move rfl rfl <| .move rfl rfl <| .fieldP rfl fa27_1 rfl <| .loadP 5 fTable_1 rfl rfl ty24 rfl <| .lenL rfl Tryz.underlying24 rfl <| .move rfl rfl <| .frz 0 11 rfl rfl <| .also 44 11 rfl rfl <| .build rfl st37 z37 (.cons fRow_0 rfl rfl <| .cons fRow_1 rfl rfl <| .cons fRow_2 rfl rfl <| .nil) rfl <| .elemA 2 rfl rfl rfl Tryz.underlying25 ty37 rfl <| .storeA 2 (Fld.self _) rfl rfl rfl ty37 <| .nil ?_
      refine .seq <| .block <| .seq <| .region <| .move rfl rfl <| .move rfl rfl <| .call0 (c58 fu _ _) n58 rfl rfl fun q15 => .not rfl rfl <| .assign rfl rfl <| .nil ?_
      refine .cond rfl (fun _ => ?_) (fun _ => ?_)
      · refine .seq <| .region <| .loadP 5 (Fld.self _) rfl rfl ty27 rfl <| .callL0 (c80 fu _) n80 rfl rfl fun q16 p17 => .storeP 6 (Fld.self _) rfl rfl rfl ty27 <| .assign rfl rfl <| .nil ?_
        exact .frzBox 6 0 conv27 rfl rfl <| .ret2 Tryz.func35 Tryz.results35 (.cell 6 rfl rfl ty27) (.tmp rfl) rfl (fun _ => .cons _ <| .cons _ <| .cons _ <| .cons _ <| .cons _ <| .cons _ <| .cons _ <| .cons _ <| .slnil)
      · refine .seq <| .frzBox 1 2 conv27 rfl rfl <| .region <| .loadP 1 (Fld.self _) rfl rfl ty27 rfl <| .call0 (c59 fu _) n59 rfl rfl fun q18 => .not rfl rfl <| .assign rfl rfl <| .nil ?_
        refine .cond rfl (fun _ => ?_) (fun _ => ?_)
        · refine .seq <| .region <| .loadP 5 (Fld.self _) rfl rfl ty27 rfl <| .callL0 (c80 fu _) n80 rfl rfl fun q19 p20 => .storeP 6 (Fld.self _) rfl rfl rfl ty27 <| .assign rfl rfl <| .nil ?_
          exact .frzBox 6 0 conv27 rfl rfl <| .ret2 Tryz.func35 Tryz.results35 (.cell 6 rfl rfl ty27) (.tmp rfl) rfl (fun _ => .cons _ <| .cons _ <| .cons _ <| .cons _ <| .cons _ <| .cons _ <| .cons _ <| .cons _ <| .slnil)
        · refine .skip <| .inBlock <| .seq <| .region <| .loadP 1 (Fld.self _) rfl rfl ty27 rfl <| .storeW 4 rfl rfl rfl rfl ty27 <| .assign rfl rfl <| .nil ?_
          exact .ret2 Tryz.func35 Tryz.results35 (.cell 4 rfl rfl ty27) (.tmp rfl) rfl (fun _ => .cons _ <| .cons _ <| .cons _ <| .cons _ <| .cons _ <| .cons _ <| .slnil)
def f32 (fu : Nat) (a0 : Table) (a1 : Int) (a2 : List Set) : Option (Table × Int) := (f19 fu a0).bind fun q3 => cond (!q3) (some ((⟨d0_27.first, d0_27.changes, d0_27.rows, d0_27.next⟩ : Table), 1)) ((f75 fu a0 a1 a2).bind fun q4 => some (q4.1, q4.2))
theorem n32 : ∃ fn c, Tryz.prog.funcs[10]? = some fn ∧ (fn.name == "runtime.NumGoroutine") = false ∧ fn.body = some c := ⟨_, _, Tryz.func10, by kernel_rfl, rfl⟩
theorem c32 (fu : Nat) (a0 : Table) (a1 : Int) (a2 : List Set) : Ctr Tryz.prog 10 [tTable.va a0, isI .i64 a1, (tL tSet).va a2] [] (f32 fu a0 a1 a2) (fun _ _ => []) (fun q => tup [tTable.va q.1, isI .i64 q.2]) := by
  refine Ctr.of_W Tryz.func10 rfl Tryz.ntmps10 rfl fun A w => ?_
  unfold f32
  refine .seq <| .region <| .box (T := tTable) rfl rfl fun b1 => .alloc tTable d0_27 [] z27 rfl fun b2 => .assign rfl rfl <| .nil ?_
  refine .seq <| .seq <| .region <| .loadP 1 (Fld.self _) rfl rfl ty27 rfl <| .call0 (c19 fu _) n19 rfl rfl fun q3 => .not rfl rfl <| .nil ?_
  refine .cond rfl (fun _ => ?_) (fun _ => ?_)
  · refine .seq <| .region <| .build rfl st27 z27 (.nil) rfl <| .storeP 0 (Fld.self _) rfl rfl rfl ty27 <| .assign rfl rfl <| .nil ?_
    exact .ret2 Tryz.func10 Tryz.results10 (.cell 0 rfl rfl ty27) (.tmp rfl) rfl (fun _ => .cons _ <| .cons _ <| .slnil)
  · refine .skip <| .seq <| .region <| .loadP 1 (Fld.self _) rfl rfl ty27 rfl <| .move rfl rfl <| .move rfl rfl <| .call0 (c75 fu _ _ _) n75 rfl rfl fun q4 => .extract rfl rfl rfl <| .extract rfl rfl rfl <| .storeP 0 (Fld.self _) rfl rfl rfl ty27 <| .assign rfl rfl <| .nil ?_
    exact .ret2 Tryz.func10 Tryz.results10 (.cell 0 rfl rfl ty27) (.tmp rfl) rfl (fun _ => .cons _ <| .cons _ <| .slnil)
end Go.Proofs.YtlkhmcajnfombaaGreatDoor
