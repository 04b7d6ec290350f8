/- Functions of the program: what each answers, and that the machine answers so. -/
import Derived.Test.YtlkhmcajnfombaaGreatDoorQ1004A8
import Derived.KernelRfl
set_option linter.unusedVariables false
set_option linter.unusedSimpArgs false
set_option linter.deprecated false
set_option linter.unusedSectionVars false
set_option linter.all false
namespace Go.Proofs.YtlkhmcajnfombaaGreatDoor
open Go Go.HL
def f51_j4 (i3 : Int) (rec1 : Int → Option Bool) (i6 : Bool) : Option Bool := cond i6 (some false) (rec1 (IntKind.i64.wrap (i3 + 1)))
def f51_j3 (fu : Nat) (a0 : Table) (q2 : (List Col)) (i3 : Int) (rec1 : Int → Option Bool) (i5 : Bool) : Option Bool := cond i5 (some false) ((f89 fu a0 ((a0.rows.getD i3.toNat default).ver)).bind fun q7 => (f88 fu q7 ((a0.rows.getD i3.toNat default).vals)).bind fun q8 => cond (!q8) (f51_j4 i3 rec1 true) ((f90 fu a0 (a0.rows.getD i3.toNat default)).bind fun q9 => (f88 fu q2 q9).bind fun q10 => f51_j4 i3 rec1 (!q10)))
def f51_l1 (fu : Nat) (a0 : Table) (q2 : (List Col)) : Nat → Int → Option Bool
  | 0, _ => none
  | n1 + 1, i3 => cond (decide (i3 < (List.length a0.rows : Int))) (cond (decide (0 ≤ i3) && decide (i3 < (List.length a0.rows : Int))) (cond (decide (((a0.rows.getD i3.toNat default).ver) < 0)) (f51_j3 fu a0 q2 i3 (f51_l1 fu a0 q2 n1) true) (cond (decide ((List.length a0.changes : Int) < ((a0.rows.getD i3.toNat default).ver))) (f51_j3 fu a0 q2 i3 (f51_l1 fu a0 q2 n1) true) (cond (decide (((a0.rows.getD i3.toNat default).id) < 1)) (f51_j3 fu a0 q2 i3 (f51_l1 fu a0 q2 n1) true) (cond (decide (a0.next ≤ ((a0.rows.getD i3.toNat default).id))) (f51_j3 fu a0 q2 i3 (f51_l1 fu a0 q2 n1) true) (cond (decide (0 < i3)) (cond (decide (0 ≤ (IntKind.i64.wrap (i3 - 1))) && decide ((IntKind.i64.wrap (i3 - 1)) < (List.length a0.rows : Int))) (f51_j3 fu a0 q2 i3 (f51_l1 fu a0 q2 n1) (decide (((a0.rows.getD i3.toNat default).id) ≤ ((a0.rows.getD (IntKind.i64.wrap (i3 - 1)).toNat default).id)))) none) (f51_j3 fu a0 q2 i3 (f51_l1 fu a0 q2 n1) false)))))) none) (some true)
def f51 (fu : Nat) (a0 : Table) : Option Bool := (f53 fu a0).bind fun q2 => f51_l1 fu a0 q2 fu 0
theorem n51 : ∃ fn c, Tryz.prog.funcs[53]? = some fn ∧ (fn.name == "runtime.NumGoroutine") = false ∧ fn.body = some c := ⟨_, _, Tryz.func53, by kernel_rfl, rfl⟩
theorem c51 (fu : Nat) (a0 : Table) : Ctr Tryz.prog 53 [tTable.va a0] [] (f51 fu a0) (fun _ _ => []) (fun q => isB q) := by
  refine Ctr.of_W Tryz.func53 rfl Tryz.ntmps53 rfl fun A w => ?_
  unfold f51
  refine .seq <| .region <| .box (T := tTable) rfl rfl fun b1 => .assign rfl rfl <| .nil ?_
  refine .seq <| .region <| .loadP 0 (Fld.self _) rfl rfl ty27 rfl <| .call0 (c53 fu _) n53 rfl rfl fun q2 => .assign rfl rfl <| .nil ?_
  refine .seq <| .seq <| .region <| .assign rfl rfl <| .nil ?_
  refine .block <| .loop <| .keep [1, 3, 4] [] rfl ?_
  refine (show ∀ (n1 : Nat) (i3 : Int), W _ _ _ _ _ ⟨[(1, isP b1 0, none), (3, (tL tCol).va q2, none), (4, isI .i64 i3, none)], [boxO b1 tTable a0 []]⟩ (f51_l1 fu a0 q2 n1 i3) from ?_) fu _
  intro n1
  induction n1 with
  | zero => exact fun _ => .stop
  | succ n1 ih1 =>
    intro i3
    refine .inLoop <| .seq <| .seq <| .region <| .move rfl rfl <| .fieldP rfl fa27_2 rfl <| .loadP 0 fTable_2 rfl rfl ty25 rfl <| .lenL rfl Tryz.underlying25 rfl <| .bin rfl rfl rfl rfl <| .nil ?_
    refine .cond rfl (fun _ => ?_) (fun _ => ?_)
    · refine .skip <| .seq <| .block <| .seq <| .region <| .fieldP rfl fa27_2 rfl <| .loadP 0 fTable_2 rfl rfl ty25 rfl <| .move rfl rfl <| .elemAt rfl rfl Tryz.underlying25 ty37 rfl <| .load rfl ty37 rfl <| .alloc tRow d0_37 [] z37 rfl fun b4 => .storeP 0 (Fld.self _) rfl rfl rfl ty37 <| .nil ?_
      refine .seq <| .seq <| .join1 (fun i5 => ⟨[(1, isP b1 0, none), (3, (tL tCol).va q2, none), (4, isI .i64 i3, none), (5, isP b4 0, none), (58, isB i5, none)], [boxO b4 tRow (a0.rows.getD i3.toNat default) [], boxO b1 tTable a0 []]⟩) (fun i5 => f51_j3 fu a0 q2 i3 (f51_l1 fu a0 q2 n1) i5) (fun i5 => ?_) (fun hj3 => ?_)
      · refine .cond rfl (fun _ => ?_) (fun _ => ?_)
        · refine .seq <| .region <| .assign rfl rfl <| .nil ?_
          exact .ret1 Tryz.func53 Tryz.results53 (.tmp rfl) rfl (fun _ _ => .cons _ <| .cons _ <| .slnil)
        · refine .skip <| .seq <| .join1 (fun i6 => ⟨[(1, isP b1 0, none), (3, (tL tCol).va q2, none), (4, isI .i64 i3, none), (74, isB i6, none)], [boxO b1 tTable a0 []]⟩) (fun i6 => f51_j4 i3 (f51_l1 fu a0 q2 n1) i6) (fun i6 => ?_) (fun hj4 => ?_)
          · refine .cond rfl (fun _ => ?_) (fun _ => ?_)
            · refine .seq <| .region <| .assign rfl rfl <| .nil ?_
              exact .ret1 Tryz.func53 Tryz.results53 (.tmp rfl) rfl (fun _ _ => .cons _ <| .slnil)
            · refine .skip <| .inBlock <| .region <| .move rfl rfl <| .bin rfl rfl rfl rfl <| .assign rfl rfl <| .nil ?_
              exact .keep [1, 3, 4] [] rfl (ih1 _)
          · refine .pbind fun q7 h11 => ?_
            refine .pbind fun q8 h12 => ?_
            refine .pcond (fun h13 => ?_) (fun h13 => ?_)
            · refine .draw 13 [] mix (by kernel_rfl) (.cons (fun _ _ _ hP hE h => .loadP 1 (Fld.self _) (hE.op rfl) (hP.get rfl rfl) ty27 rfl <| h) <| .cons (fun _ _ _ hP hE h => .fieldP (hE.op rfl) fa37_1 rfl <| h) <| .cons (fun _ _ _ hP hE h => .loadP 0 fRow_1 (hE.op rfl) (hP.get rfl rfl) ty3 rfl <| h) <| .cons (fun _ _ _ hP hE h => .bindE h11 (fun r h => .call0 (c89 fu _ _) n89 (hE.ops rfl) rfl h) <| h) <| .cons (fun _ _ _ hP hE h => .fieldP (hE.op rfl) fa37_2 rfl <| h) <| .cons (fun _ _ _ hP hE h => .loadP 0 fRow_2 (hE.op rfl) (hP.get rfl rfl) ty32 rfl <| h) <| .cons (fun _ _ _ hP hE h => .bindE h12 (fun r h => .call0 (c88 fu _ _) n88 (hE.ops rfl) rfl h) <| h) <| .cons (fun _ _ _ hP hE h => .not (hE.op rfl) rfl <| h) <| .cons (fun _ _ _ hP hE h => .move (hE.op rfl) rfl <| .noV <| .useEq h13 h) <| .cons (fun _ _ _ hP hE h => .off rfl (hE _ _ rfl) rfl <| h) <| .cons (fun _ _ _ hP hE h => .off rfl (hE _ _ rfl) rfl <| h) <| .cons (fun _ _ _ hP hE h => .off rfl (hE _ _ rfl) rfl <| h) <| .cons (fun _ _ _ hP hE h => .off rfl (hE _ _ rfl) rfl <| h) <| .nil) rfl <| .off rfl rfl rfl <| .off rfl rfl rfl <| .pickT rfl rfl rfl <| .nil ?_
              exact .keep [1, 3, 4, 74] [] rfl (.drop (.cons _ <| .cons_cons _ <| .slnil) <| hj4 _)
            · refine .pbind fun q9 h14 => ?_
              refine .draw 13 [] mix (by kernel_rfl) (.cons (fun _ _ _ hP hE h => .loadP 1 (Fld.self _) (hE.op rfl) (hP.get rfl rfl) ty27 rfl <| h) <| .cons (fun _ _ _ hP hE h => .fieldP (hE.op rfl) fa37_1 rfl <| h) <| .cons (fun _ _ _ hP hE h => .loadP 0 fRow_1 (hE.op rfl) (hP.get rfl rfl) ty3 rfl <| h) <| .cons (fun _ _ _ hP hE h => .bindE h11 (fun r h => .call0 (c89 fu _ _) n89 (hE.ops rfl) rfl h) <| h) <| .cons (fun _ _ _ hP hE h => .fieldP (hE.op rfl) fa37_2 rfl <| h) <| .cons (fun _ _ _ hP hE h => .loadP 0 fRow_2 (hE.op rfl) (hP.get rfl rfl) ty32 rfl <| h) <| .cons (fun _ _ _ hP hE h => .bindE h12 (fun r h => .call0 (c88 fu _ _) n88 (hE.ops rfl) rfl h) <| h) <| .cons (fun _ _ _ hP hE h => .not (hE.op rfl) rfl <| h) <| .cons (fun _ _ _ hP hE h => .move (hE.op rfl) rfl <| .noV <| .useEq h13 h) <| .cons (fun _ _ _ hP hE h => .on rfl (hE _ _ rfl) <| .move (hE.op rfl) rfl <| h) <| .cons (fun _ _ _ hP hE h => .on rfl (hE _ _ rfl) <| .loadP 1 (Fld.self _) (hE.op rfl) (hP.get rfl rfl) ty27 rfl <| h) <| .cons (fun _ _ _ hP hE h => .on rfl (hE _ _ rfl) <| .loadP 0 (Fld.self _) (hE.op rfl) (hP.get rfl rfl) ty37 rfl <| h) <| .cons (fun _ _ _ hP hE h => .on rfl (hE _ _ rfl) <| .bindE h14 (fun r h => .call0 (c90 fu _ _) n90 (hE.ops rfl) rfl h) <| h) <| .nil) rfl <| .on rfl rfl <| .call0 (c88 fu _ _) n88 rfl rfl fun q10 => .on rfl rfl <| .not rfl rfl <| .pickF rfl rfl rfl <| .nil ?_
              exact .keep [1, 3, 4, 74] [] rfl (.drop (.cons _ <| .cons_cons _ <| .slnil) <| hj4 _)
      · refine .pcond (fun h15 => ?_) (fun h15 => ?_)
        · refine .draw 36 [] mix (by kernel_rfl) (.cons (fun _ _ _ hP hE h => .fieldP (hE.op rfl) fa37_1 rfl <| h) <| .cons (fun _ _ _ hP hE h => .loadP 0 fRow_1 (hE.op rfl) (hP.get rfl rfl) ty3 rfl <| h) <| .cons (fun _ _ _ hP hE h => .bin rfl (hE.op rfl) (hE.op rfl) rfl <| h) <| .cons (fun _ _ _ hP hE h => .move (hE.op rfl) rfl <| .noV <| .useEq h15 h) <| .cons (fun _ _ _ hP hE h => .off rfl (hE _ _ rfl) rfl <| h) <| .cons (fun _ _ _ hP hE h => .off rfl (hE _ _ rfl) rfl <| h) <| .cons (fun _ _ _ hP hE h => .off rfl (hE _ _ rfl) rfl <| h) <| .cons (fun _ _ _ hP hE h => .off rfl (hE _ _ rfl) rfl <| h) <| .cons (fun _ _ _ hP hE h => .off rfl (hE _ _ rfl) rfl <| h) <| .cons (fun _ _ _ hP hE h => .off rfl (hE _ _ rfl) rfl <| h) <| .cons (fun _ _ _ hP hE h => .pickT (hE.op rfl) (hE.op rfl) rfl <| h) <| .cons (fun _ _ _ hP hE h => .move (hE.op rfl) rfl <| h) <| .cons (fun _ _ _ hP hE h => .off rfl (hE _ _ rfl) rfl <| h) <| .cons (fun _ _ _ hP hE h => .off rfl (hE _ _ rfl) rfl <| h) <| .cons (fun _ _ _ hP hE h => .off rfl (hE _ _ rfl) rfl <| h) <| .cons (fun _ _ _ hP hE h => .pickT (hE.op rfl) (hE.op rfl) rfl <| h) <| .cons (fun _ _ _ hP hE h => .move (hE.op rfl) rfl <| h) <| .cons (fun _ _ _ hP hE h => .off rfl (hE _ _ rfl) rfl <| h) <| .cons (fun _ _ _ hP hE h => .off rfl (hE _ _ rfl) rfl <| h) <| .cons (fun _ _ _ hP hE h => .off rfl (hE _ _ rfl) rfl <| h) <| .cons (fun _ _ _ hP hE h => .off rfl (hE _ _ rfl) rfl <| h) <| .cons (fun _ _ _ hP hE h => .off rfl (hE _ _ rfl) rfl <| h) <| .cons (fun _ _ _ hP hE h => .pickT (hE.op rfl) (hE.op rfl) rfl <| h) <| .cons (fun _ _ _ hP hE h => .move (hE.op rfl) rfl <| h) <| .cons (fun _ _ _ hP hE h => .off rfl (hE _ _ rfl) rfl <| h) <| .cons (fun _ _ _ hP hE h => .off rfl (hE _ _ rfl) rfl <| h) <| .cons (fun _ _ _ hP hE h => .off rfl (hE _ _ rfl) rfl <| h) <| .cons (fun _ _ _ hP hE h => .offU rfl (hE _ _ rfl) rfl <| h) <| .cons (fun _ _ _ hP hE h => .offU rfl (hE _ _ rfl) rfl <| h) <| .cons (fun _ _ _ hP hE h => .offU rfl (hE _ _ rfl) rfl <| h) <| .cons (fun _ _ _ hP hE h => .offU rfl (hE _ _ rfl) rfl <| h) <| .cons (fun _ _ _ hP hE h => .offU rfl (hE _ _ rfl) rfl <| h) <| .cons (fun _ _ _ hP hE h => .offU rfl (hE _ _ rfl) rfl <| h) <| .cons (fun _ _ _ hP hE h => .offU rfl (hE _ _ rfl) rfl <| h) <| .cons (fun _ _ _ hP hE h => .offU rfl (hE _ _ rfl) rfl <| h) <| .cons (fun _ _ _ hP hE h => .offU rfl (hE _ _ rfl) rfl <| h) <| .nil) rfl <| .offU rfl rfl rfl <| .off rfl rfl rfl <| .pickT rfl rfl rfl <| .nil ?_
          exact .keep [1, 3, 4, 5, 58] [] rfl (hj3 _)
        · refine .pcond (fun h16 => ?_) (fun h16 => ?_)
          · refine .draw 36 [] mix (by kernel_rfl) (.cons (fun _ _ _ hP hE h => .fieldP (hE.op rfl) fa37_1 rfl <| h) <| .cons (fun _ _ _ hP hE h => .loadP 0 fRow_1 (hE.op rfl) (hP.get rfl rfl) ty3 rfl <| h) <| .cons (fun _ _ _ hP hE h => .bin rfl (hE.op rfl) (hE.op rfl) rfl <| h) <| .cons (fun _ _ _ hP hE h => .move (hE.op rfl) rfl <| .noV <| .useEq h15 h) <| .cons (fun _ _ _ hP hE h => .on rfl (hE _ _ rfl) <| .fieldP (hE.op rfl) fa37_1 rfl <| h) <| .cons (fun _ _ _ hP hE h => .on rfl (hE _ _ rfl) <| .loadP 0 fRow_1 (hE.op rfl) (hP.get rfl rfl) ty3 rfl <| h) <| .cons (fun _ _ _ hP hE h => .on rfl (hE _ _ rfl) <| .fieldP (hE.op rfl) fa27_1 rfl <| h) <| .cons (fun _ _ _ hP hE h => .on rfl (hE _ _ rfl) <| .loadP 1 fTable_1 (hE.op rfl) (hP.get rfl rfl) ty24 rfl <| h) <| .cons (fun _ _ _ hP hE h => .on rfl (hE _ _ rfl) <| .lenL (hE.op rfl) Tryz.underlying24 rfl <| h) <| .cons (fun _ _ _ hP hE h => .on rfl (hE _ _ rfl) <| .bin rfl (hE.op rfl) (hE.op rfl) rfl <| h) <| .cons (fun _ _ _ hP hE h => .pickF (hE.op rfl) (hE.op rfl) rfl <| h) <| .cons (fun _ _ _ hP hE h => .move (hE.op rfl) rfl <| .noV <| .useEq h16 h) <| .cons (fun _ _ _ hP hE h => .off rfl (hE _ _ rfl) rfl <| h) <| .cons (fun _ _ _ hP hE h => .off rfl (hE _ _ rfl) rfl <| h) <| .cons (fun _ _ _ hP hE h => .off rfl (hE _ _ rfl) rfl <| h) <| .cons (fun _ _ _ hP hE h => .pickT (hE.op rfl) (hE.op rfl) rfl <| h) <| .cons (fun _ _ _ hP hE h => .move (hE.op rfl) rfl <| h) <| .cons (fun _ _ _ hP hE h => .off rfl (hE _ _ rfl) rfl <| h) <| .cons (fun _ _ _ hP hE h => .off rfl (hE _ _ rfl) rfl <| h) <| .cons (fun _ _ _ hP hE h => .off rfl (hE _ _ rfl) rfl <| h) <| .cons (fun _ _ _ hP hE h => .off rfl (hE _ _ rfl) rfl <| h) <| .cons (fun _ _ _ hP hE h => .off rfl (hE _ _ rfl) rfl <| h) <| .cons (fun _ _ _ hP hE h => .pickT (hE.op rfl) (hE.op rfl) rfl <| h) <| .cons (fun _ _ _ hP hE h => .move (hE.op rfl) rfl <| h) <| .cons (fun _ _ _ hP hE h => .off rfl (hE _ _ rfl) rfl <| h) <| .cons (fun _ _ _ hP hE h => .off rfl (hE _ _ rfl) rfl <| h) <| .cons (fun _ _ _ hP hE h => .off rfl (hE _ _ rfl) rfl <| h) <| .cons (fun _ _ _ hP hE h => .offU rfl (hE _ _ rfl) rfl <| h) <| .cons (fun _ _ _ hP hE h => .offU rfl (hE _ _ rfl) rfl <| h) <| .cons (fun _ _ _ hP hE h => .offU rfl (hE _ _ rfl) rfl <| h) <| .cons (fun _ _ _ hP hE h => .offU rfl (hE _ _ rfl) rfl <| h) <| .cons (fun _ _ _ hP hE h => .offU rfl (hE _ _ rfl) rfl <| h) <| .cons (fun _ _ _ hP hE h => .offU rfl (hE _ _ rfl) rfl <| h) <| .cons (fun _ _ _ hP hE h => .offU rfl (hE _ _ rfl) rfl <| h) <| .cons (fun _ _ _ hP hE h => .offU rfl (hE _ _ rfl) rfl <| h) <| .cons (fun _ _ _ hP hE h => .offU rfl (hE _ _ rfl) rfl <| h) <| .nil) rfl <| .offU rfl rfl rfl <| .off rfl rfl rfl <| .pickT rfl rfl rfl <| .nil ?_
            exact .keep [1, 3, 4, 5, 58] [] rfl (hj3 _)
          · refine .pcond (fun h17 => ?_) (fun h17 => ?_)
            · refine .draw 36 [] mix (by kernel_rfl) (.cons (fun _ _ _ hP hE h => .fieldP (hE.op rfl) fa37_1 rfl <| h) <| .cons (fun _ _ _ hP hE h => .loadP 0 fRow_1 (hE.op rfl) (hP.get rfl rfl) ty3 rfl <| h) <| .cons (fun _ _ _ hP hE h => .bin rfl (hE.op rfl) (hE.op rfl) rfl <| h) <| .cons (fun _ _ _ hP hE h => .move (hE.op rfl) rfl <| .noV <| .useEq h15 h) <| .cons (fun _ _ _ hP hE h => .on rfl (hE _ _ rfl) <| .fieldP (hE.op rfl) fa37_1 rfl <| h) <| .cons (fun _ _ _ hP hE h => .on rfl (hE _ _ rfl) <| .loadP 0 fRow_1 (hE.op rfl) (hP.get rfl rfl) ty3 rfl <| h) <| .cons (fun _ _ _ hP hE h => .on rfl (hE _ _ rfl) <| .fieldP (hE.op rfl) fa27_1 rfl <| h) <| .cons (fun _ _ _ hP hE h => .on rfl (hE _ _ rfl) <| .loadP 1 fTable_1 (hE.op rfl) (hP.get rfl rfl) ty24 rfl <| h) <| .cons (fun _ _ _ hP hE h => .on rfl (hE _ _ rfl) <| .lenL (hE.op rfl) Tryz.underlying24 rfl <| h) <| .cons (fun _ _ _ hP hE h => .on rfl (hE _ _ rfl) <| .bin rfl (hE.op rfl) (hE.op rfl) rfl <| h) <| .cons (fun _ _ _ hP hE h => .pickF (hE.op rfl) (hE.op rfl) rfl <| h) <| .cons (fun _ _ _ hP hE h => .move (hE.op rfl) rfl <| .noV <| .useEq h16 h) <| .cons (fun _ _ _ hP hE h => .on rfl (hE _ _ rfl) <| .fieldP (hE.op rfl) fa37_0 rfl <| h) <| .cons (fun _ _ _ hP hE h => .on rfl (hE _ _ rfl) <| .loadP 0 fRow_0 (hE.op rfl) (hP.get rfl rfl) ty3 rfl <| h) <| .cons (fun _ _ _ hP hE h => .on rfl (hE _ _ rfl) <| .bin rfl (hE.op rfl) (hE.op rfl) rfl <| h) <| .cons (fun _ _ _ hP hE h => .pickF (hE.op rfl) (hE.op rfl) rfl <| h) <| .cons (fun _ _ _ hP hE h => .move (hE.op rfl) rfl <| .noV <| .useEq h17 h) <| .cons (fun _ _ _ hP hE h => .off rfl (hE _ _ rfl) rfl <| h) <| .cons (fun _ _ _ hP hE h => .off rfl (hE _ _ rfl) rfl <| h) <| .cons (fun _ _ _ hP hE h => .off rfl (hE _ _ rfl) rfl <| h) <| .cons (fun _ _ _ hP hE h => .off rfl (hE _ _ rfl) rfl <| h) <| .cons (fun _ _ _ hP hE h => .off rfl (hE _ _ rfl) rfl <| h) <| .cons (fun _ _ _ hP hE h => .pickT (hE.op rfl) (hE.op rfl) rfl <| h) <| .cons (fun _ _ _ hP hE h => .move (hE.op rfl) rfl <| h) <| .cons (fun _ _ _ hP hE h => .off rfl (hE _ _ rfl) rfl <| h) <| .cons (fun _ _ _ hP hE h => .off rfl (hE _ _ rfl) rfl <| h) <| .cons (fun _ _ _ hP hE h => .off rfl (hE _ _ rfl) rfl <| h) <| .cons (fun _ _ _ hP hE h => .offU rfl (hE _ _ rfl) rfl <| h) <| .cons (fun _ _ _ hP hE h => .offU rfl (hE _ _ rfl) rfl <| h) <| .cons (fun _ _ _ hP hE h => .offU rfl (hE _ _ rfl) rfl <| h) <| .cons (fun _ _ _ hP hE h => .offU rfl (hE _ _ rfl) rfl <| h) <| .cons (fun _ _ _ hP hE h => .offU rfl (hE _ _ rfl) rfl <| h) <| .cons (fun _ _ _ hP hE h => .offU rfl (hE _ _ rfl) rfl <| h) <| .cons (fun _ _ _ hP hE h => .offU rfl (hE _ _ rfl) rfl <| h) <| .cons (fun _ _ _ hP hE h => .offU rfl (hE _ _ rfl) rfl <| h) <| .cons (fun _ _ _ hP hE h => .offU rfl (hE _ _ rfl) rfl <| h) <| .nil) rfl <| .offU rfl rfl rfl <| .off rfl rfl rfl <| .pickT rfl rfl rfl <| .nil ?_
              exact .keep [1, 3, 4, 5, 58] [] rfl (hj3 _)
            · refine .pcond (fun h18 => ?_) (fun h18 => ?_)
              · refine .draw 36 [] mix (by kernel_rfl) (.cons (fun _ _ _ hP hE h => .fieldP (hE.op rfl) fa37_1 rfl <| h) <| .cons (fun _ _ _ hP hE h => .loadP 0 fRow_1 (hE.op rfl) (hP.get rfl rfl) ty3 rfl <| h) <| .cons (fun _ _ _ hP hE h => .bin rfl (hE.op rfl) (hE.op rfl) rfl <| h) <| .cons (fun _ _ _ hP hE h => .move (hE.op rfl) rfl <| .noV <| .useEq h15 h) <| .cons (fun _ _ _ hP hE h => .on rfl (hE _ _ rfl) <| .fieldP (hE.op rfl) fa37_1 rfl <| h) <| .cons (fun _ _ _ hP hE h => .on rfl (hE _ _ rfl) <| .loadP 0 fRow_1 (hE.op rfl) (hP.get rfl rfl) ty3 rfl <| h) <| .cons (fun _ _ _ hP hE h => .on rfl (hE _ _ rfl) <| .fieldP (hE.op rfl) fa27_1 rfl <| h) <| .cons (fun _ _ _ hP hE h => .on rfl (hE _ _ rfl) <| .loadP 1 fTable_1 (hE.op rfl) (hP.get rfl rfl) ty24 rfl <| h) <| .cons (fun _ _ _ hP hE h => .on rfl (hE _ _ rfl) <| .lenL (hE.op rfl) Tryz.underlying24 rfl <| h) <| .cons (fun _ _ _ hP hE h => .on rfl (hE _ _ rfl) <| .bin rfl (hE.op rfl) (hE.op rfl) rfl <| h) <| .cons (fun _ _ _ hP hE h => .pickF (hE.op rfl) (hE.op rfl) rfl <| h) <| .cons (fun _ _ _ hP hE h => .move (hE.op rfl) rfl <| .noV <| .useEq h16 h) <| .cons (fun _ _ _ hP hE h => .on rfl (hE _ _ rfl) <| .fieldP (hE.op rfl) fa37_0 rfl <| h) <| .cons (fun _ _ _ hP hE h => .on rfl (hE _ _ rfl) <| .loadP 0 fRow_0 (hE.op rfl) (hP.get rfl rfl) ty3 rfl <| h) <| .cons (fun _ _ _ hP hE h => .on rfl (hE _ _ rfl) <| .bin rfl (hE.op rfl) (hE.op rfl) rfl <| h) <| .cons (fun _ _ _ hP hE h => .pickF (hE.op rfl) (hE.op rfl) rfl <| h) <| .cons (fun _ _ _ hP hE h => .move (hE.op rfl) rfl <| .noV <| .useEq h17 h) <| .cons (fun _ _ _ hP hE h => .on rfl (hE _ _ rfl) <| .fieldP (hE.op rfl) fa37_0 rfl <| h) <| .cons (fun _ _ _ hP hE h => .on rfl (hE _ _ rfl) <| .loadP 0 fRow_0 (hE.op rfl) (hP.get rfl rfl) ty3 rfl <| h) <| .cons (fun _ _ _ hP hE h => .on rfl (hE _ _ rfl) <| .fieldP (hE.op rfl) fa27_3 rfl <| h) <| .cons (fun _ _ _ hP hE h => .on rfl (hE _ _ rfl) <| .loadP 1 fTable_3 (hE.op rfl) (hP.get rfl rfl) ty3 rfl <| h) <| .cons (fun _ _ _ hP hE h => .on rfl (hE _ _ rfl) <| .bin rfl (hE.op rfl) (hE.op rfl) rfl <| h) <| .cons (fun _ _ _ hP hE h => .pickF (hE.op rfl) (hE.op rfl) rfl <| h) <| .cons (fun _ _ _ hP hE h => .move (hE.op rfl) rfl <| .noV <| .useEq h18 h) <| .cons (fun _ _ _ hP hE h => .off rfl (hE _ _ rfl) rfl <| h) <| .cons (fun _ _ _ hP hE h => .off rfl (hE _ _ rfl) rfl <| h) <| .cons (fun _ _ _ hP hE h => .off rfl (hE _ _ rfl) rfl <| h) <| .cons (fun _ _ _ hP hE h => .offU rfl (hE _ _ rfl) rfl <| h) <| .cons (fun _ _ _ hP hE h => .offU rfl (hE _ _ rfl) rfl <| h) <| .cons (fun _ _ _ hP hE h => .offU rfl (hE _ _ rfl) rfl <| h) <| .cons (fun _ _ _ hP hE h => .offU rfl (hE _ _ rfl) rfl <| h) <| .cons (fun _ _ _ hP hE h => .offU rfl (hE _ _ rfl) rfl <| h) <| .cons (fun _ _ _ hP hE h => .offU rfl (hE _ _ rfl) rfl <| h) <| .cons (fun _ _ _ hP hE h => .offU rfl (hE _ _ rfl) rfl <| h) <| .cons (fun _ _ _ hP hE h => .offU rfl (hE _ _ rfl) rfl <| h) <| .cons (fun _ _ _ hP hE h => .offU rfl (hE _ _ rfl) rfl <| h) <| .nil) rfl <| .offU rfl rfl rfl <| .off rfl rfl rfl <| .pickT rfl rfl rfl <| .nil ?_
                exact .keep [1, 3, 4, 5, 58] [] rfl (hj3 _)
              · refine .pcond (fun h19 => ?_) (fun h19 => ?_)
                · refine .pT fun h20 => ?_
                  refine .draw 36 [] mix (by kernel_rfl) (.cons (fun _ _ _ hP hE h => .fieldP (hE.op rfl) fa37_1 rfl <| h) <| .cons (fun _ _ _ hP hE h => .loadP 0 fRow_1 (hE.op rfl) (hP.get rfl rfl) ty3 rfl <| h) <| .cons (fun _ _ _ hP hE h => .bin rfl (hE.op rfl) (hE.op rfl) rfl <| h) <| .cons (fun _ _ _ hP hE h => .move (hE.op rfl) rfl <| .noV <| .useEq h15 h) <| .cons (fun _ _ _ hP hE h => .on rfl (hE _ _ rfl) <| .fieldP (hE.op rfl) fa37_1 rfl <| h) <| .cons (fun _ _ _ hP hE h => .on rfl (hE _ _ rfl) <| .loadP 0 fRow_1 (hE.op rfl) (hP.get rfl rfl) ty3 rfl <| h) <| .cons (fun _ _ _ hP hE h => .on rfl (hE _ _ rfl) <| .fieldP (hE.op rfl) fa27_1 rfl <| h) <| .cons (fun _ _ _ hP hE h => .on rfl (hE _ _ rfl) <| .loadP 1 fTable_1 (hE.op rfl) (hP.get rfl rfl) ty24 rfl <| h) <| .cons (fun _ _ _ hP hE h => .on rfl (hE _ _ rfl) <| .lenL (hE.op rfl) Tryz.underlying24 rfl <| h) <| .cons (fun _ _ _ hP hE h => .on rfl (hE _ _ rfl) <| .bin rfl (hE.op rfl) (hE.op rfl) rfl <| h) <| .cons (fun _ _ _ hP hE h => .pickF (hE.op rfl) (hE.op rfl) rfl <| h) <| .cons (fun _ _ _ hP hE h => .move (hE.op rfl) rfl <| .noV <| .useEq h16 h) <| .cons (fun _ _ _ hP hE h => .on rfl (hE _ _ rfl) <| .fieldP (hE.op rfl) fa37_0 rfl <| h) <| .cons (fun _ _ _ hP hE h => .on rfl (hE _ _ rfl) <| .loadP 0 fRow_0 (hE.op rfl) (hP.get rfl rfl) ty3 rfl <| h) <| .cons (fun _ _ _ hP hE h => .on rfl (hE _ _ rfl) <| .bin rfl (hE.op rfl) (hE.op rfl) rfl <| h) <| .cons (fun _ _ _ hP hE h => .pickF (hE.op rfl) (hE.op rfl) rfl <| h) <| .cons (fun _ _ _ hP hE h => .move (hE.op rfl) rfl <| .noV <| .useEq h17 h) <| .cons (fun _ _ _ hP hE h => .on rfl (hE _ _ rfl) <| .fieldP (hE.op rfl) fa37_0 rfl <| h) <| .cons (fun _ _ _ hP hE h => .on rfl (hE _ _ rfl) <| .loadP 0 fRow_0 (hE.op rfl) (hP.get rfl rfl) ty3 rfl <| h) <| .cons (fun _ _ _ hP hE h => .on rfl (hE _ _ rfl) <| .fieldP (hE.op rfl) fa27_3 rfl <| h) <| .cons (fun _ _ _ hP hE h => .on rfl (hE _ _ rfl) <| .loadP 1 fTable_3 (hE.op rfl) (hP.get rfl rfl) ty3 rfl <| h) <| .cons (fun _ _ _ hP hE h => .on rfl (hE _ _ rfl) <| .bin rfl (hE.op rfl) (hE.op rfl) rfl <| h) <| .cons (fun _ _ _ hP hE h => .pickF (hE.op rfl) (hE.op rfl) rfl <| h) <| .cons (fun _ _ _ hP hE h => .move (hE.op rfl) rfl <| .noV <| .useEq h18 h) <| .cons (fun _ _ _ hP hE h => .on rfl (hE _ _ rfl) <| .move (hE.op rfl) rfl <| h) <| .cons (fun _ _ _ hP hE h => .on rfl (hE _ _ rfl) <| .bin rfl (hE.op rfl) (hE.op rfl) rfl <| h) <| .cons (fun _ _ _ hP hE h => .on rfl (hE _ _ rfl) <| .move (hE.op rfl) rfl <| .noV <| .useEq h19 h) <| .cons (fun _ _ _ hP hE h => .on rfl (hE _ _ rfl) <| .fieldP (hE.op rfl) fa27_2 rfl <| h) <| .cons (fun _ _ _ hP hE h => .on rfl (hE _ _ rfl) <| .loadP 1 fTable_2 (hE.op rfl) (hP.get rfl rfl) ty25 rfl <| h) <| .cons (fun _ _ _ hP hE h => .on rfl (hE _ _ rfl) <| .move (hE.op rfl) rfl <| h) <| .cons (fun _ _ _ hP hE h => .on rfl (hE _ _ rfl) <| .bin rfl (hE.op rfl) (hE.op rfl) rfl <| h) <| .cons (fun _ _ _ hP hE h => .on rfl (hE _ _ rfl) <| .useC h20 <| .elemAt (hE.op rfl) (hE.op rfl) Tryz.underlying25 ty37 rfl <| h) <| .cons (fun _ _ _ hP hE h => .on rfl (hE _ _ rfl) <| .fieldAt fRow_0 (hE.op rfl) fa37_0 rfl <| h) <| .cons (fun _ _ _ hP hE h => .on rfl (hE _ _ rfl) <| .load (hE.op rfl) ty3 rfl <| h) <| .cons (fun _ _ _ hP hE h => .on rfl (hE _ _ rfl) <| .fieldP (hE.op rfl) fa37_0 rfl <| h) <| .cons (fun _ _ _ hP hE h => .on rfl (hE _ _ rfl) <| .loadP 0 fRow_0 (hE.op rfl) (hP.get rfl rfl) ty3 rfl <| h) <| .nil) rfl <| .on rfl rfl <| .bin rfl rfl rfl rfl <| .on rfl rfl <| .pickT rfl rfl rfl <| .pickF rfl rfl rfl <| .nil ?_
                  exact .keep [1, 3, 4, 5, 58] [] rfl (hj3 _)
                · refine .draw 36 [] mix (by kernel_rfl) (.cons (fun _ _ _ hP hE h => .fieldP (hE.op rfl) fa37_1 rfl <| h) <| .cons (fun _ _ _ hP hE h => .loadP 0 fRow_1 (hE.op rfl) (hP.get rfl rfl) ty3 rfl <| h) <| .cons (fun _ _ _ hP hE h => .bin rfl (hE.op rfl) (hE.op rfl) rfl <| h) <| .cons (fun _ _ _ hP hE h => .move (hE.op rfl) rfl <| .noV <| .useEq h15 h) <| .cons (fun _ _ _ hP hE h => .on rfl (hE _ _ rfl) <| .fieldP (hE.op rfl) fa37_1 rfl <| h) <| .cons (fun _ _ _ hP hE h => .on rfl (hE _ _ rfl) <| .loadP 0 fRow_1 (hE.op rfl) (hP.get rfl rfl) ty3 rfl <| h) <| .cons (fun _ _ _ hP hE h => .on rfl (hE _ _ rfl) <| .fieldP (hE.op rfl) fa27_1 rfl <| h) <| .cons (fun _ _ _ hP hE h => .on rfl (hE _ _ rfl) <| .loadP 1 fTable_1 (hE.op rfl) (hP.get rfl rfl) ty24 rfl <| h) <| .cons (fun _ _ _ hP hE h => .on rfl (hE _ _ rfl) <| .lenL (hE.op rfl) Tryz.underlying24 rfl <| h) <| .cons (fun _ _ _ hP hE h => .on rfl (hE _ _ rfl) <| .bin rfl (hE.op rfl) (hE.op rfl) rfl <| h) <| .cons (fun _ _ _ hP hE h => .pickF (hE.op rfl) (hE.op rfl) rfl <| h) <| .cons (fun _ _ _ hP hE h => .move (hE.op rfl) rfl <| .noV <| .useEq h16 h) <| .cons (fun _ _ _ hP hE h => .on rfl (hE _ _ rfl) <| .fieldP (hE.op rfl) fa37_0 rfl <| h) <| .cons (fun _ _ _ hP hE h => .on rfl (hE _ _ rfl) <| .loadP 0 fRow_0 (hE.op rfl) (hP.get rfl rfl) ty3 rfl <| h) <| .cons (fun _ _ _ hP hE h => .on rfl (hE _ _ rfl) <| .bin rfl (hE.op rfl) (hE.op rfl) rfl <| h) <| .cons (fun _ _ _ hP hE h => .pickF (hE.op rfl) (hE.op rfl) rfl <| h) <| .cons (fun _ _ _ hP hE h => .move (hE.op rfl) rfl <| .noV <| .useEq h17 h) <| .cons (fun _ _ _ hP hE h => .on rfl (hE _ _ rfl) <| .fieldP (hE.op rfl) fa37_0 rfl <| h) <| .cons (fun _ _ _ hP hE h => .on rfl (hE _ _ rfl) <| .loadP 0 fRow_0 (hE.op rfl) (hP.get rfl rfl) ty3 rfl <| h) <| .cons (fun _ _ _ hP hE h => .on rfl (hE _ _ rfl) <| .fieldP (hE.op rfl) fa27_3 rfl <| h) <| .cons (fun _ _ _ hP hE h => .on rfl (hE _ _ rfl) <| .loadP 1 fTable_3 (hE.op rfl) (hP.get rfl rfl) ty3 rfl <| h) <| .cons (fun _ _ _ hP hE h => .on rfl (hE _ _ rfl) <| .bin rfl (hE.op rfl) (hE.op rfl) rfl <| h) <| .cons (fun _ _ _ hP hE h => .pickF (hE.op rfl) (hE.op rfl) rfl <| h) <| .cons (fun _ _ _ hP hE h => .move (hE.op rfl) rfl <| .noV <| .useEq h18 h) <| .cons (fun _ _ _ hP hE h => .on rfl (hE _ _ rfl) <| .move (hE.op rfl) rfl <| h) <| .cons (fun _ _ _ hP hE h => .on rfl (hE _ _ rfl) <| .bin rfl (hE.op rfl) (hE.op rfl) rfl <| h) <| .cons (fun _ _ _ hP hE h => .on rfl (hE _ _ rfl) <| .move (hE.op rfl) rfl <| .noV <| .useEq h19 h) <| .cons (fun _ _ _ hP hE h => .off rfl (hE _ _ rfl) rfl <| h) <| .cons (fun _ _ _ hP hE h => .off rfl (hE _ _ rfl) rfl <| h) <| .cons (fun _ _ _ hP hE h => .off rfl (hE _ _ rfl) rfl <| h) <| .cons (fun _ _ _ hP hE h => .off rfl (hE _ _ rfl) rfl <| h) <| .cons (fun _ _ _ hP hE h => .off rfl (hE _ _ rfl) rfl <| h) <| .cons (fun _ _ _ hP hE h => .off rfl (hE _ _ rfl) rfl <| h) <| .cons (fun _ _ _ hP hE h => .off rfl (hE _ _ rfl) rfl <| h) <| .cons (fun _ _ _ hP hE h => .off rfl (hE _ _ rfl) rfl <| h) <| .cons (fun _ _ _ hP hE h => .off rfl (hE _ _ rfl) rfl <| h) <| .nil) rfl <| .off rfl rfl rfl <| .on rfl rfl <| .pickF rfl rfl rfl <| .pickF rfl rfl rfl <| .nil ?_
                  exact .keep [1, 3, 4, 5, 58] [] rfl (hj3 _)
    · refine .exit rfl <| .seq <| .region <| .assign rfl rfl <| .nil ?_
      exact .ret1 Tryz.func53 Tryz.results53 (.tmp rfl) rfl (fun _ _ => .cons _ <| .slnil)
def f54_l1 (fu : Nat) (a0 : Table) : Nat → Int → (List (List Val)) → Option (List (List Val))
  | 0, _, _ => none
  | n1 + 1, i3, i4 => cond (decide (i3 < (List.length a0.rows : Int))) (cond (decide (0 ≤ i3) && decide (i3 < (List.length a0.rows : Int))) ((f90 fu a0 (a0.rows.getD i3.toNat default)).bind fun q6 => cond (decide (List.length i4 + List.length ([q6] : List (List Val)) ≤ CAP)) ((f54_l1 fu a0 n1) (IntKind.i64.wrap (i3 + 1)) (i4 ++ ([q6] : List (List Val)))) none) none) (some i4)
def f54 (fu : Nat) (a0 : Table) : Option (List (List Val)) := f54_l1 fu a0 fu 0 ([] : List (List Val))
theorem n54 : ∃ fn c, Tryz.prog.funcs[56]? = some fn ∧ (fn.name == "runtime.NumGoroutine") = false ∧ fn.body = some c := ⟨_, _, Tryz.func56, by kernel_rfl, rfl⟩
theorem c54 (fu : Nat) (a0 : Table) : Ctr Tryz.prog 56 [tTable.va a0] [] (f54 fu a0) (fun _ _ => []) (fun q => (tL (tL tVal)).va q) := by
  refine Ctr.of_W Tryz.func56 rfl Tryz.ntmps56 rfl fun A w => ?_
  unfold f54
  refine .seq <| .region <| .box (T := tTable) rfl rfl fun b1 => .assignNil (tL tVal) rfl <| .nil ?_
  refine .seq <| .region <| .lit (T := (tL tVal)) Tryz.underlying82 el32 rfl rfl (.nil) rfl fun v2 => .assign rfl rfl <| .nil ?_
  refine .seq <| .seq <| .region <| .assign rfl rfl <| .nil ?_
  refine .block <| .loop <| .keep [1, 4] [3] rfl ?_
  refine (show ∀ (n1 : Nat) (i3 : Int) (i4 : List (List Val)) (v5 : Value), W _ _ _ _ _ ⟨[(1, isP b1 0, none), (4, isI .i64 i3, none), (3, (tL (tL tVal)).va i4, some v5)], [appO 1 v5, boxO b1 tTable a0 []]⟩ (f54_l1 fu a0 n1 i3 i4) from ?_) fu _ _ _
  intro n1
  induction n1 with
  | zero => exact fun _ _ _ => .stop
  | succ n1 ih1 =>
    intro i3 i4 v5
    refine .inLoop <| .seq <| .seq <| .region <| .move rfl rfl <| .fieldP rfl fa27_2 rfl <| .loadP 1 fTable_2 rfl rfl ty25 rfl <| .lenL rfl Tryz.underlying25 rfl <| .bin rfl rfl rfl rfl <| .nil ?_
    refine .cond rfl (fun _ => ?_) (fun _ => ?_)
    · refine .skip <| .seq <| .block <| .pT fun h2 => ?_
      refine .draw 7 [0] mix (by kernel_rfl) (.cons (fun _ _ _ hP hE h => .move (hE.op rfl) rfl <| h) <| .cons (fun _ _ _ hP hE h => .loadP 1 (Fld.self _) (hE.op rfl) (hP.get rfl rfl) ty27 rfl <| h) <| .cons (fun _ _ _ hP hE h => .fieldP (hE.op rfl) fa27_2 rfl <| h) <| .cons (fun _ _ _ hP hE h => .loadP 1 fTable_2 (hE.op rfl) (hP.get rfl rfl) ty25 rfl <| h) <| .cons (fun _ _ _ hP hE h => .move (hE.op rfl) rfl <| h) <| .cons (fun _ _ _ hP hE h => .useC h2 <| .elemAt (hE.op rfl) (hE.op rfl) Tryz.underlying25 ty37 rfl <| h) <| .cons (fun _ _ _ hP hE h => .load (hE.op rfl) ty37 rfl <| h) <| .nil) rfl <| .call0 (c90 fu _ _) n90 rfl rfl fun q6 => .litN (T := (tL tVal)) Tryz.underlying82 el32 rfl rfl (.cons rfl <| .nil) rfl <| .app (T := (tL tVal)) 0 rfl rfl rfl Tryz.underlying82 el32 rfl fun v7 => .assign rfl rfl <| .nil ?_
      refine .inBlock <| .region <| .move rfl rfl <| .bin rfl rfl rfl rfl <| .assign rfl rfl <| .nil ?_
      exact .keep [1, 4] [3] rfl (ih1 _ _ _)
    · refine .exit rfl <| .seq <| .region <| .move rfl rfl <| .assign rfl rfl <| .nil ?_
      exact .ret1 Tryz.func56 Tryz.results56 (.tmp rfl) rfl (fun _ _ => .cons _ <| .cons _ <| .slnil)
def f17_j1 (fu : Nat) (a0 : Table) (i3 : Bool) : Option Bool := cond i3 (some false) ((f53 fu a0).bind fun q4 => (f54 fu a0).bind fun q5 => (f52 fu q4 q5).bind fun q6 => some (!q6))
def f17 (fu : Nat) (a0 : Table) : Option Bool := (f50 fu a0.first a0.changes).bind fun q2 => cond (!q2.2) (f17_j1 fu a0 true) (cond (decide (8 < (List.length a0.changes : Int))) (f17_j1 fu a0 true) (cond (decide (8 < (List.length a0.rows : Int))) (f17_j1 fu a0 true) (cond (decide (a0.next < 1)) (f17_j1 fu a0 true) (cond (decide (60 < a0.next)) (f17_j1 fu a0 true) ((f51 fu a0).bind fun q7 => f17_j1 fu a0 (!q7))))))
theorem n17 : ∃ fn c, Tryz.prog.funcs[18]? = some fn ∧ (fn.name == "runtime.NumGoroutine") = false ∧ fn.body = some c := ⟨_, _, Tryz.func18, by kernel_rfl, rfl⟩
theorem c17 (fu : Nat) (a0 : Table) : Ctr Tryz.prog 18 [tTable.va a0] [] (f17 fu a0) (fun _ _ => []) (fun q => isB q) := by
  refine Ctr.of_W Tryz.func18 rfl Tryz.ntmps18 rfl fun A w => ?_
  unfold f17
  refine .seq <| .region <| .box (T := tTable) rfl rfl fun b1 => .assign rfl rfl <| .nil ?_
  refine .seq <| .region <| .fieldP rfl fa27_0 rfl <| .loadP 0 fTable_0 rfl rfl ty23 rfl <| .fieldP rfl fa27_1 rfl <| .loadP 0 fTable_1 rfl rfl ty24 rfl <| .call0 (c50 fu _ _) n50 rfl rfl fun q2 => .move rfl rfl <| .extract rfl rfl rfl <| .extract rfl rfl rfl <| .assign rfl rfl <| .assign rfl rfl <| .nil ?_
  refine .seq <| .seq <| .join1 (fun i3 => ⟨[(1, isP b1 0, none), (41, isB i3, none)], [boxO b1 tTable a0 []]⟩) (fun i3 => f17_j1 fu a0 i3) (fun i3 => ?_) (fun hj1 => ?_)
  · refine .cond rfl (fun _ => ?_) (fun _ => ?_)
    · refine .seq <| .region <| .assign rfl rfl <| .nil ?_
      exact .ret1 Tryz.func18 Tryz.results18 (.tmp rfl) rfl (fun _ _ => .cons _ <| .slnil)
    · refine .skip <| .seq <| .pbind fun q4 h1 => ?_
      refine .draw 3 [] mix (by kernel_rfl) (.cons (fun _ _ _ hP hE h => .loadP 0 (Fld.self _) (hE.op rfl) (hP.get rfl rfl) ty27 rfl <| h) <| .cons (fun _ _ _ hP hE h => .bindE h1 (fun r h => .call0 (c53 fu _) n53 (hE.ops rfl) rfl h) <| h) <| .cons (fun _ _ _ hP hE h => .loadP 0 (Fld.self _) (hE.op rfl) (hP.get rfl rfl) ty27 rfl <| h) <| .nil) rfl <| .call0 (c54 fu _) n54 rfl rfl fun q5 => .call0 (c52 fu _ _) n52 rfl rfl fun q6 => .not rfl rfl <| .assign rfl rfl <| .nil ?_
      exact .ret1 Tryz.func18 Tryz.results18 (.tmp rfl) rfl (fun _ _ => .cons _ <| .slnil)
  · refine .region <| .move rfl rfl <| .not rfl rfl <| .move rfl rfl <| .split 15 rfl (fun _ => ?_) (fun _ => ?_)
    · refine .off rfl rfl rfl <| .off rfl rfl rfl <| .off rfl rfl rfl <| .off rfl rfl rfl <| .pickT rfl rfl rfl <| .move rfl rfl <| .off rfl rfl rfl <| .off rfl rfl rfl <| .off rfl rfl rfl <| .off rfl rfl rfl <| .pickT rfl rfl rfl <| .move rfl rfl <| .off rfl rfl rfl <| .off rfl rfl rfl <| .off rfl rfl rfl <| .pickT rfl rfl rfl <| .move rfl rfl <| .off rfl rfl rfl <| .off rfl rfl rfl <| .off rfl rfl rfl <| .pickT rfl rfl rfl <| .move rfl rfl <| .off rfl rfl rfl <| .off rfl rfl rfl <| .off rfl rfl rfl <| .pickT rfl rfl rfl <| .nil ?_
      exact .keep [1, 41] [] rfl (hj1 _)
    · refine .on rfl rfl <| .fieldP rfl fa27_1 rfl <| .on rfl rfl <| .loadP 0 fTable_1 rfl rfl ty24 rfl <| .on rfl rfl <| .lenL rfl Tryz.underlying24 rfl <| .on rfl rfl <| .bin rfl rfl rfl rfl <| .pickF rfl rfl rfl <| .move rfl rfl <| .split 21 rfl (fun _ => ?_) (fun _ => ?_)
      · refine .off rfl rfl rfl <| .off rfl rfl rfl <| .off rfl rfl rfl <| .off rfl rfl rfl <| .pickT rfl rfl rfl <| .move rfl rfl <| .off rfl rfl rfl <| .off rfl rfl rfl <| .off rfl rfl rfl <| .pickT rfl rfl rfl <| .move rfl rfl <| .off rfl rfl rfl <| .off rfl rfl rfl <| .off rfl rfl rfl <| .pickT rfl rfl rfl <| .move rfl rfl <| .off rfl rfl rfl <| .off rfl rfl rfl <| .off rfl rfl rfl <| .pickT rfl rfl rfl <| .nil ?_
        exact .keep [1, 41] [] rfl (hj1 _)
      · refine .on rfl rfl <| .fieldP rfl fa27_2 rfl <| .on rfl rfl <| .loadP 0 fTable_2 rfl rfl ty25 rfl <| .on rfl rfl <| .lenL rfl Tryz.underlying25 rfl <| .on rfl rfl <| .bin rfl rfl rfl rfl <| .pickF rfl rfl rfl <| .move rfl rfl <| .split 27 rfl (fun _ => ?_) (fun _ => ?_)
        · refine .off rfl rfl rfl <| .off rfl rfl rfl <| .off rfl rfl rfl <| .pickT rfl rfl rfl <| .move rfl rfl <| .off rfl rfl rfl <| .off rfl rfl rfl <| .off rfl rfl rfl <| .pickT rfl rfl rfl <| .move rfl rfl <| .off rfl rfl rfl <| .off rfl rfl rfl <| .off rfl rfl rfl <| .pickT rfl rfl rfl <| .nil ?_
          exact .keep [1, 41] [] rfl (hj1 _)
        · refine .on rfl rfl <| .fieldP rfl fa27_3 rfl <| .on rfl rfl <| .loadP 0 fTable_3 rfl rfl ty3 rfl <| .on rfl rfl <| .bin rfl rfl rfl rfl <| .pickF rfl rfl rfl <| .move rfl rfl <| .split 32 rfl (fun _ => ?_) (fun _ => ?_)
          · refine .off rfl rfl rfl <| .off rfl rfl rfl <| .off rfl rfl rfl <| .pickT rfl rfl rfl <| .move rfl rfl <| .off rfl rfl rfl <| .off rfl rfl rfl <| .off rfl rfl rfl <| .pickT rfl rfl rfl <| .nil ?_
            exact .keep [1, 41] [] rfl (hj1 _)
          · refine .on rfl rfl <| .fieldP rfl fa27_3 rfl <| .on rfl rfl <| .loadP 0 fTable_3 rfl rfl ty3 rfl <| .on rfl rfl <| .bin rfl rfl rfl rfl <| .pickF rfl rfl rfl <| .move rfl rfl <| .split 37 rfl (fun _ => ?_) (fun _ => ?_)
            · refine .off rfl rfl rfl <| .off rfl rfl rfl <| .off rfl rfl rfl <| .pickT rfl rfl rfl <| .nil ?_
              exact .keep [1, 41] [] rfl (hj1 _)
            · refine .on rfl rfl <| .loadP 0 (Fld.self _) rfl rfl ty27 rfl <| .on rfl rfl <| .call0 (c51 fu _) n51 rfl rfl fun q7 => .on rfl rfl <| .not rfl rfl <| .pickF rfl rfl rfl <| .nil ?_
              exact .keep [1, 41] [] rfl (hj1 _)
def f43_l1 (a0 : List Col) (a1 : List Col) : Nat → Int → Option Bool
  | 0, _ => none
  | n1 + 1, i1 => cond (decide (i1 < (List.length a0 : Int))) (cond (decide (0 ≤ i1) && decide (i1 < (List.length a0 : Int))) (cond (decide (0 ≤ i1) && decide (i1 < (List.length a1 : Int))) (cond (!decide ((a0.getD i1.toNat default) = (a1.getD i1.toNat default))) (some false) ((f43_l1 a0 a1 n1) (IntKind.i64.wrap (i1 + 1)))) none) none) (some true)
def f43 (fu : Nat) (a0 : List Col) (a1 : List Col) : Option Bool := cond (!decide ((List.length a0 : Int) = (List.length a1 : Int))) (some false) (f43_l1 a0 a1 fu 0)
theorem n43 : ∃ fn c, Tryz.prog.funcs[39]? = some fn ∧ (fn.name == "runtime.NumGoroutine") = false ∧ fn.body = some c := ⟨_, _, Tryz.func39, by kernel_rfl, rfl⟩
theorem c43 (fu : Nat) (a0 : List Col) (a1 : List Col) : Ctr Tryz.prog 39 [(tL tCol).va a0, (tL tCol).va a1] [] (f43 fu a0 a1) (fun _ _ => []) (fun q => isB q) := by
  refine Ctr.of_W Tryz.func39 rfl Tryz.ntmps39 rfl fun A w => ?_
  unfold f43
  refine .seq <| .region <| .assign rfl rfl <| .nil ?_
  refine .seq <| .seq <| .region <| .move rfl rfl <| .lenL rfl Tryz.underlying23 rfl <| .move rfl rfl <| .lenL rfl Tryz.underlying23 rfl <| .bin rfl rfl rfl rfl <| .nil ?_
  refine .cond rfl (fun _ => ?_) (fun _ => ?_)
  · refine .seq <| .region <| .assign rfl rfl <| .nil ?_
    exact .ret1 Tryz.func39 Tryz.results39 (.tmp rfl) rfl (fun _ _ => .slnil)
  · refine .skip <| .seq <| .seq <| .region <| .move rfl rfl <| .lenL rfl Tryz.underlying23 rfl <| .move rfl rfl <| .nil ?_
    refine .block <| .loop <| .keep [0, 1, 12, 13] [] rfl ?_
    refine (show ∀ (n1 : Nat) (i1 : Int), W _ _ _ _ _ ⟨[(0, (tL tCol).va a0, none), (1, (tL tCol).va a1, none), (12, isI .i64 (List.length a0 : Int), none), (13, isI .i64 i1, none)], []⟩ (f43_l1 a0 a1 n1 i1) from ?_) fu _
    intro n1
    induction n1 with
    | zero => exact fun _ => .stop
    | succ n1 ih1 =>
      intro i1
      refine .inLoop <| .seq <| .region <| .bin rfl rfl rfl rfl <| .nil ?_
      refine .seq <| .cond rfl (fun _ => ?_) (fun _ => ?_)
      · refine .skip <| .seq <| .block <| .seq <| .region <| .move rfl rfl <| .assign rfl rfl <| .nil ?_
        refine .seq <| .pT fun h3 => ?_
        refine .pT fun h4 => ?_
        refine .draw 8 [] mix (by kernel_rfl) (.cons (fun _ _ _ hP hE h => .move (hE.op rfl) rfl <| h) <| .cons (fun _ _ _ hP hE h => .move (hE.op rfl) rfl <| h) <| .cons (fun _ _ _ hP hE h => .useC h3 <| .elemAt (hE.op rfl) (hE.op rfl) Tryz.underlying23 ty52 rfl <| h) <| .cons (fun _ _ _ hP hE h => .load (hE.op rfl) ty52 rfl <| h) <| .cons (fun _ _ _ hP hE h => .move (hE.op rfl) rfl <| h) <| .cons (fun _ _ _ hP hE h => .move (hE.op rfl) rfl <| h) <| .cons (fun _ _ _ hP hE h => .useC h4 <| .elemAt (hE.op rfl) (hE.op rfl) Tryz.underlying23 ty52 rfl <| h) <| .cons (fun _ _ _ hP hE h => .load (hE.op rfl) ty52 rfl <| h) <| .nil) rfl <| .neT eq52 rfl rfl rfl <| .nil ?_
        refine .cond rfl (fun _ => ?_) (fun _ => ?_)
        · refine .seq <| .region <| .assign rfl rfl <| .nil ?_
          exact .ret1 Tryz.func39 Tryz.results39 (.tmp rfl) rfl (fun _ _ => .slnil)
        · refine .skip <| .inBlock <| .region <| .bin rfl rfl rfl rfl <| .move rfl rfl <| .nil ?_
          exact .keep [0, 1, 12, 13] [] rfl (ih1 _)
      · refine .exit rfl <| .seq <| .region <| .assign rfl rfl <| .nil ?_
        exact .ret1 Tryz.func39 Tryz.results39 (.tmp rfl) rfl (fun _ _ => .slnil)
def f44_l1 (a0 : List Change) (a1 : List Change) : Nat → Int → Option Bool
  | 0, _ => none
  | n1 + 1, i1 => cond (decide (i1 < (List.length a0 : Int))) (cond (decide (0 ≤ i1) && decide (i1 < (List.length a0 : Int))) (cond (decide (0 ≤ i1) && decide (i1 < (List.length a1 : Int))) (cond (!decide ((a0.getD i1.toNat default) = (a1.getD i1.toNat default))) (some false) ((f44_l1 a0 a1 n1) (IntKind.i64.wrap (i1 + 1)))) none) none) (some true)
def f44 (fu : Nat) (a0 : List Change) (a1 : List Change) : Option Bool := cond (!decide ((List.length a0 : Int) = (List.length a1 : Int))) (some false) (f44_l1 a0 a1 fu 0)
theorem n44 : ∃ fn c, Tryz.prog.funcs[40]? = some fn ∧ (fn.name == "runtime.NumGoroutine") = false ∧ fn.body = some c := ⟨_, _, Tryz.func40, by kernel_rfl, rfl⟩
theorem c44 (fu : Nat) (a0 : List Change) (a1 : List Change) : Ctr Tryz.prog 40 [(tL tChange).va a0, (tL tChange).va a1] [] (f44 fu a0 a1) (fun _ _ => []) (fun q => isB q) := by
  refine Ctr.of_W Tryz.func40 rfl Tryz.ntmps40 rfl fun A w => ?_
  unfold f44
  refine .seq <| .region <| .assign rfl rfl <| .nil ?_
  refine .seq <| .seq <| .region <| .move rfl rfl <| .lenL rfl Tryz.underlying24 rfl <| .move rfl rfl <| .lenL rfl Tryz.underlying24 rfl <| .bin rfl rfl rfl rfl <| .nil ?_
  refine .cond rfl (fun _ => ?_) (fun _ => ?_)
  · refine .seq <| .region <| .assign rfl rfl <| .nil ?_
    exact .ret1 Tryz.func40 Tryz.results40 (.tmp rfl) rfl (fun _ _ => .slnil)
  · refine .skip <| .seq <| .seq <| .region <| .move rfl rfl <| .lenL rfl Tryz.underlying24 rfl <| .move rfl rfl <| .nil ?_
    refine .block <| .loop <| .keep [0, 1, 12, 13] [] rfl ?_
    refine (show ∀ (n1 : Nat) (i1 : Int), W _ _ _ _ _ ⟨[(0, (tL tChange).va a0, none), (1, (tL tChange).va a1, none), (12, isI .i64 (List.length a0 : Int), none), (13, isI .i64 i1, none)], []⟩ (f44_l1 a0 a1 n1 i1) from ?_) fu _
    intro n1
    induction n1 with
    | zero => exact fun _ => .stop
    | succ n1 ih1 =>
      intro i1
      refine .inLoop <| .seq <| .region <| .bin rfl rfl rfl rfl <| .nil ?_
      refine .seq <| .cond rfl (fun _ => ?_) (fun _ => ?_)
      · refine .skip <| .seq <| .block <| .seq <| .region <| .move rfl rfl <| .assign rfl rfl <| .nil ?_
        refine .seq <| .pT fun h3 => ?_
        refine .pT fun h4 => ?_
        refine .draw 8 [] mix (by kernel_rfl) (.cons (fun _ _ _ hP hE h => .move (hE.op rfl) rfl <| h) <| .cons (fun _ _ _ hP hE h => .move (hE.op rfl) rfl <| h) <| .cons (fun _ _ _ hP hE h => .useC h3 <| .elemAt (hE.op rfl) (hE.op rfl) Tryz.underlying24 ty56 rfl <| h) <| .cons (fun _ _ _ hP hE h => .load (hE.op rfl) ty56 rfl <| h) <| .cons (fun _ _ _ hP hE h => .move (hE.op rfl) rfl <| h) <| .cons (fun _ _ _ hP hE h => .move (hE.op rfl) rfl <| h) <| .cons (fun _ _ _ hP hE h => .useC h4 <| .elemAt (hE.op rfl) (hE.op rfl) Tryz.underlying24 ty56 rfl <| h) <| .cons (fun _ _ _ hP hE h => .load (hE.op rfl) ty56 rfl <| h) <| .nil) rfl <| .neT eq56 rfl rfl rfl <| .nil ?_
        refine .cond rfl (fun _ => ?_) (fun _ => ?_)
        · refine .seq <| .region <| .assign rfl rfl <| .nil ?_
          exact .ret1 Tryz.func40 Tryz.results40 (.tmp rfl) rfl (fun _ _ => .slnil)
        · refine .skip <| .inBlock <| .region <| .bin rfl rfl rfl rfl <| .move rfl rfl <| .nil ?_
          exact .keep [0, 1, 12, 13] [] rfl (ih1 _)
      · refine .exit rfl <| .seq <| .region <| .assign rfl rfl <| .nil ?_
        exact .ret1 Tryz.func40 Tryz.results40 (.tmp rfl) rfl (fun _ _ => .slnil)
def f45_l1 (a0 : List Row) (a1 : List Row) (a2 : Row → Row → Option Bool) : Nat → Int → Option Bool
  | 0, _ => none
  | n1 + 1, i1 => cond (decide (i1 < (List.length a0 : Int))) (cond (decide (0 ≤ i1) && decide (i1 < (List.length a0 : Int))) (cond (decide (0 ≤ i1) && decide (i1 < (List.length a1 : Int))) ((a2 (a0.getD i1.toNat default) (a1.getD i1.toNat default)).bind fun q4 => cond (!q4) (some false) ((f45_l1 a0 a1 a2 n1) (IntKind.i64.wrap (i1 + 1)))) none) none) (some true)
def f45 (fu : Nat) (a0 : List Row) (a1 : List Row) (a2 : Row → Row → Option Bool) : Option Bool := cond (!decide ((List.length a0 : Int) = (List.length a1 : Int))) (some false) (f45_l1 a0 a1 a2 fu 0)
theorem n45 : ∃ fn c, Tryz.prog.funcs[41]? = some fn ∧ (fn.name == "runtime.NumGoroutine") = false ∧ fn.body = some c := ⟨_, _, Tryz.func41, by kernel_rfl, rfl⟩
theorem c45 (fu : Nat) (a0 : List Row) (a1 : List Row) (a2 : Row → Row → Option Bool) (g2 : Nat) (k2 : List VA) (hn2 : ∃ fn c, Tryz.prog.funcs[g2]? = some fn ∧ (fn.name == "runtime.NumGoroutine") = false ∧ fn.body = some c) (hc2 : ∀ (x0 : Row) (x1 : Row), Ctr Tryz.prog g2 ([tRow.va x0, tRow.va x1] ++ k2) [] (a2 x0 x1) (fun _ _ => []) (fun q => isB q)) : Ctr Tryz.prog 41 [(tL tRow).va a0, (tL tRow).va a1, isClo g2 k2] [] (f45 fu a0 a1 a2) (fun _ _ => []) (fun q => isB q) := by
  refine Ctr.of_W Tryz.func41 rfl Tryz.ntmps41 rfl fun A w => ?_
  unfold f45
  refine .seq <| .region <| .assign rfl rfl <| .nil ?_
  refine .seq <| .seq <| .region <| .move rfl rfl <| .lenL rfl Tryz.underlying25 rfl <| .move rfl rfl <| .lenL rfl Tryz.underlying25 rfl <| .bin rfl rfl rfl rfl <| .nil ?_
  refine .cond rfl (fun _ => ?_) (fun _ => ?_)
  · refine .seq <| .region <| .assign rfl rfl <| .nil ?_
    exact .ret1 Tryz.func41 Tryz.results41 (.tmp rfl) rfl (fun _ _ => .slnil)
  · refine .skip <| .seq <| .seq <| .region <| .move rfl rfl <| .lenL rfl Tryz.underlying25 rfl <| .move rfl rfl <| .nil ?_
    refine .block <| .loop <| .keep [1, 2, 15, 16, 17] [] rfl ?_
    refine (show ∀ (n1 : Nat) (i1 : Int), W _ _ _ _ _ ⟨[(1, (tL tRow).va a1, none), (2, isClo g2 k2, none), (15, (tL tRow).va a0, none), (16, isI .i64 (List.length a0 : Int), none), (17, isI .i64 i1, none)], []⟩ (f45_l1 a0 a1 a2 n1 i1) from ?_) fu _
    intro n1
    induction n1 with
    | zero => exact fun _ => .stop
    | succ n1 ih1 =>
      intro i1
      refine .inLoop <| .seq <| .region <| .bin rfl rfl rfl rfl <| .nil ?_
      refine .seq <| .cond rfl (fun _ => ?_) (fun _ => ?_)
      · refine .skip <| .seq <| .block <| .seq <| .region <| .move rfl rfl <| .elemAt rfl rfl Tryz.underlying25 ty37 rfl <| .load rfl ty37 rfl <| .alloc tRow d0_37 [] z37 rfl fun b2 => .assign rfl rfl <| .storeP 0 (Fld.self _) rfl rfl rfl ty37 <| .nil ?_
        refine .seq <| .region <| .move rfl rfl <| .move rfl rfl <| .elemAt rfl rfl Tryz.underlying25 ty37 rfl <| .load rfl ty37 rfl <| .alloc tRow d0_37 [] z37 rfl fun b3 => .storeP 0 (Fld.self _) rfl rfl rfl ty37 <| .nil ?_
        refine .seq <| .region <| .move rfl rfl <| .loadP 1 (Fld.self _) rfl rfl ty37 rfl <| .loadP 0 (Fld.self _) rfl rfl ty37 rfl <| .callC rfl (hc2 _ _) hn2 rfl rfl fun q4 => .not rfl rfl <| .nil ?_
        refine .cond rfl (fun _ => ?_) (fun _ => ?_)
        · refine .seq <| .region <| .assign rfl rfl <| .nil ?_
          exact .ret1 Tryz.func41 Tryz.results41 (.tmp rfl) rfl (fun _ _ => .cons _ <| .cons _ <| .slnil)
        · refine .skip <| .inBlock <| .region <| .bin rfl rfl rfl rfl <| .move rfl rfl <| .nil ?_
          exact .keep [1, 2, 15, 16, 17] [] rfl (.drop (.cons _ <| .cons _ <| .slnil) <| ih1 _)
      · refine .exit rfl <| .seq <| .region <| .assign rfl rfl <| .nil ?_
        exact .ret1 Tryz.func41 Tryz.results41 (.tmp rfl) rfl (fun _ _ => .slnil)
def f47_l1 (a0 : List Val) (a1 : List Val) : Nat → Int → Option Bool
  | 0, _ => none
  | n1 + 1, i1 => cond (decide (i1 < (List.length a0 : Int))) (cond (decide (0 ≤ i1) && decide (i1 < (List.length a0 : Int))) (cond (decide (0 ≤ i1) && decide (i1 < (List.length a1 : Int))) (cond (!decide ((a0.getD i1.toNat default) = (a1.getD i1.toNat default))) (some false) ((f47_l1 a0 a1 n1) (IntKind.i64.wrap (i1 + 1)))) none) none) (some true)
def f47 (fu : Nat) (a0 : List Val) (a1 : List Val) : Option Bool := cond (!decide ((List.length a0 : Int) = (List.length a1 : Int))) (some false) (f47_l1 a0 a1 fu 0)
theorem n47 : ∃ fn c, Tryz.prog.funcs[43]? = some fn ∧ (fn.name == "runtime.NumGoroutine") = false ∧ fn.body = some c := ⟨_, _, Tryz.func43, by kernel_rfl, rfl⟩
theorem c47 (fu : Nat) (a0 : List Val) (a1 : List Val) : Ctr Tryz.prog 43 [(tL tVal).va a0, (tL tVal).va a1] [] (f47 fu a0 a1) (fun _ _ => []) (fun q => isB q) := by
  refine Ctr.of_W Tryz.func43 rfl Tryz.ntmps43 rfl fun A w => ?_
  unfold f47
  refine .seq <| .region <| .assign rfl rfl <| .nil ?_
  refine .seq <| .seq <| .region <| .move rfl rfl <| .lenL rfl Tryz.underlying42 rfl <| .move rfl rfl <| .lenL rfl Tryz.underlying42 rfl <| .bin rfl rfl rfl rfl <| .nil ?_
  refine .cond rfl (fun _ => ?_) (fun _ => ?_)
  · refine .seq <| .region <| .assign rfl rfl <| .nil ?_
    exact .ret1 Tryz.func43 Tryz.results43 (.tmp rfl) rfl (fun _ _ => .slnil)
  · refine .skip <| .seq <| .seq <| .region <| .move rfl rfl <| .lenL rfl Tryz.underlying42 rfl <| .move rfl rfl <| .nil ?_
    refine .block <| .loop <| .keep [0, 1, 12, 13] [] rfl ?_
    refine (show ∀ (n1 : Nat) (i1 : Int), W _ _ _ _ _ ⟨[(0, (tL tVal).va a0, none), (1, (tL tVal).va a1, none), (12, isI .i64 (List.length a0 : Int), none), (13, isI .i64 i1, none)], []⟩ (f47_l1 a0 a1 n1 i1) from ?_) fu _
    intro n1
    induction n1 with
    | zero => exact fun _ => .stop
    | succ n1 ih1 =>
      intro i1
      refine .inLoop <| .seq <| .region <| .bin rfl rfl rfl rfl <| .nil ?_
      refine .seq <| .cond rfl (fun _ => ?_) (fun _ => ?_)
      · refine .skip <| .seq <| .block <| .seq <| .region <| .move rfl rfl <| .assign rfl rfl <| .nil ?_
        refine .seq <| .pT fun h3 => ?_
        refine .pT fun h4 => ?_
        refine .draw 8 [] mix (by kernel_rfl) (.cons (fun _ _ _ hP hE h => .move (hE.op rfl) rfl <| h) <| .cons (fun _ _ _ hP hE h => .move (hE.op rfl) rfl <| h) <| .cons (fun _ _ _ hP hE h => .useC h3 <| .elemAt (hE.op rfl) (hE.op rfl) Tryz.underlying42 ty47 rfl <| h) <| .cons (fun _ _ _ hP hE h => .load (hE.op rfl) ty47 rfl <| h) <| .cons (fun _ _ _ hP hE h => .move (hE.op rfl) rfl <| h) <| .cons (fun _ _ _ hP hE h => .move (hE.op rfl) rfl <| h) <| .cons (fun _ _ _ hP hE h => .useC h4 <| .elemAt (hE.op rfl) (hE.op rfl) Tryz.underlying42 ty47 rfl <| h) <| .cons (fun _ _ _ hP hE h => .load (hE.op rfl) ty47 rfl <| h) <| .nil) rfl <| .neT eq47 rfl rfl rfl <| .nil ?_
        refine .cond rfl (fun _ => ?_) (fun _ => ?_)
        · refine .seq <| .region <| .assign rfl rfl <| .nil ?_
          exact .ret1 Tryz.func43 Tryz.results43 (.tmp rfl) rfl (fun _ _ => .slnil)
        · refine .skip <| .inBlock <| .region <| .bin rfl rfl rfl rfl <| .move rfl rfl <| .nil ?_
          exact .keep [0, 1, 12, 13] [] rfl (ih1 _)
      · refine .exit rfl <| .seq <| .region <| .assign rfl rfl <| .nil ?_
        exact .ret1 Tryz.func43 Tryz.results43 (.tmp rfl) rfl (fun _ _ => .slnil)
def f46_j1 (i3 : Bool) : Option Bool := some i3
def f46 (fu : Nat) (a0 : Row) (a1 : Row) : Option Bool := cond (decide (a0.id = a1.id)) (cond (decide (a0.ver = a1.ver)) ((f47 fu a0.vals a1.vals).bind fun q4 => f46_j1 q4) (f46_j1 false)) (f46_j1 false)
theorem n46 : ∃ fn c, Tryz.prog.funcs[42]? = some fn ∧ (fn.name == "runtime.NumGoroutine") = false ∧ fn.body = some c := ⟨_, _, Tryz.func42, by kernel_rfl, rfl⟩
theorem c46 (fu : Nat) (a0 : Row) (a1 : Row) : Ctr Tryz.prog 42 [tRow.va a0, tRow.va a1] [] (f46 fu a0 a1) (fun _ _ => []) (fun q => isB q) := by
  refine Ctr.of_W Tryz.func42 rfl Tryz.ntmps42 rfl fun A w => ?_
  unfold f46
  refine .seq <| .region <| .box (T := tRow) rfl rfl fun b1 => .box (T := tRow) rfl rfl fun b2 => .assign rfl rfl <| .nil ?_
  refine .seq <| .join1 (fun i3 => ⟨[(4, isB i3, none)], []⟩) (fun i3 => f46_j1 i3) (fun i3 => ?_) (fun hj1 => ?_)
  · exact .ret1 Tryz.func42 Tryz.results42 (.tmp rfl) rfl (fun _ _ => .slnil)
  · refine .region <| .fieldP rfl fa37_0 rfl <| .loadP 1 fRow_0 rfl rfl ty3 rfl <| .fieldP rfl fa37_0 rfl <| .loadP 0 fRow_0 rfl rfl ty3 rfl <| .bin rfl rfl rfl rfl <| .move rfl rfl <| .split 10 rfl (fun _ => ?_) (fun _ => ?_)
    · refine .on rfl rfl <| .fieldP rfl fa37_1 rfl <| .on rfl rfl <| .loadP 1 fRow_1 rfl rfl ty3 rfl <| .on rfl rfl <| .fieldP rfl fa37_1 rfl <| .on rfl rfl <| .loadP 0 fRow_1 rfl rfl ty3 rfl <| .on rfl rfl <| .bin rfl rfl rfl rfl <| .pickT rfl rfl rfl <| .move rfl rfl <| .split 17 rfl (fun _ => ?_) (fun _ => ?_)
      · refine .on rfl rfl <| .fieldP rfl fa37_2 rfl <| .on rfl rfl <| .loadP 1 fRow_2 rfl rfl ty32 rfl <| .on rfl rfl <| .fieldP rfl fa37_2 rfl <| .on rfl rfl <| .loadP 0 fRow_2 rfl rfl ty32 rfl <| .on rfl rfl <| .call0 (c47 fu _ _) n47 rfl rfl fun q4 => .pickT rfl rfl rfl <| .assign rfl rfl <| .nil ?_
        exact .keep [4] [] rfl (.drop (.cons _ <| .cons _ <| .slnil) <| hj1 _)
      · refine .off rfl rfl rfl <| .off rfl rfl rfl <| .off rfl rfl rfl <| .off rfl rfl rfl <| .off rfl rfl rfl <| .pickF rfl rfl rfl <| .assign rfl rfl <| .nil ?_
        exact .keep [4] [] rfl (.drop (.cons _ <| .cons _ <| .slnil) <| hj1 _)
    · refine .off rfl rfl rfl <| .off rfl rfl rfl <| .off rfl rfl rfl <| .off rfl rfl rfl <| .off rfl rfl rfl <| .pickF rfl rfl rfl <| .move rfl rfl <| .off rfl rfl rfl <| .off rfl rfl rfl <| .off rfl rfl rfl <| .off rfl rfl rfl <| .off rfl rfl rfl <| .pickF rfl rfl rfl <| .assign rfl rfl <| .nil ?_
      exact .keep [4] [] rfl (.drop (.cons _ <| .cons _ <| .slnil) <| hj1 _)
def f15_j1 (i3 : Bool) : Option Bool := some i3
def f15 (fu : Nat) (a0 : Table) (a1 : Table) : Option Bool := (f43 fu a0.first a1.first).bind fun q4 => cond q4 ((f44 fu a0.changes a1.changes).bind fun q5 => cond q5 (cond (decide (a0.next = a1.next)) ((f45 fu a0.rows a1.rows (fun x0 x1 => f46 fu x0 x1)).bind fun q6 => f15_j1 q6) (f15_j1 false)) (f15_j1 false)) (f15_j1 false)
theorem n15 : ∃ fn c, Tryz.prog.funcs[13]? = some fn ∧ (fn.name == "runtime.NumGoroutine") = false ∧ fn.body = some c := ⟨_, _, Tryz.func13, by kernel_rfl, rfl⟩
theorem c15 (fu : Nat) (a0 : Table) (a1 : Table) : Ctr Tryz.prog 13 [tTable.va a0, tTable.va a1] [] (f15 fu a0 a1) (fun _ _ => []) (fun q => isB q) := by
  refine Ctr.of_W Tryz.func13 rfl Tryz.ntmps13 rfl fun A w => ?_
  unfold f15
  refine .seq <| .region <| .box (T := tTable) rfl rfl fun b1 => .box (T := tTable) rfl rfl fun b2 => .assign rfl rfl <| .nil ?_
  refine .seq <| .join1 (fun i3 => ⟨[(4, isB i3, none)], []⟩) (fun i3 => f15_j1 i3) (fun i3 => ?_) (fun hj1 => ?_)
  · exact .ret1 Tryz.func13 Tryz.results13 (.tmp rfl) rfl (fun _ _ => .slnil)
  · refine .region <| .fieldP rfl fa27_0 rfl <| .loadP 1 fTable_0 rfl rfl ty23 rfl <| .fieldP rfl fa27_0 rfl <| .loadP 0 fTable_0 rfl rfl ty23 rfl <| .call0 (c43 fu _ _) n43 rfl rfl fun q4 => .move rfl rfl <| .split 10 rfl (fun _ => ?_) (fun _ => ?_)
    · refine .on rfl rfl <| .fieldP rfl fa27_1 rfl <| .on rfl rfl <| .loadP 1 fTable_1 rfl rfl ty24 rfl <| .on rfl rfl <| .fieldP rfl fa27_1 rfl <| .on rfl rfl <| .loadP 0 fTable_1 rfl rfl ty24 rfl <| .on rfl rfl <| .call0 (c44 fu _ _) n44 rfl rfl fun q5 => .pickT rfl rfl rfl <| .move rfl rfl <| .split 17 rfl (fun _ => ?_) (fun _ => ?_)
      · refine .on rfl rfl <| .fieldP rfl fa27_3 rfl <| .on rfl rfl <| .loadP 1 fTable_3 rfl rfl ty3 rfl <| .on rfl rfl <| .fieldP rfl fa27_3 rfl <| .on rfl rfl <| .loadP 0 fTable_3 rfl rfl ty3 rfl <| .on rfl rfl <| .bin rfl rfl rfl rfl <| .pickT rfl rfl rfl <| .move rfl rfl <| .split 24 rfl (fun _ => ?_) (fun _ => ?_)
        · refine .on rfl rfl <| .fieldP rfl fa27_2 rfl <| .on rfl rfl <| .loadP 1 fTable_2 rfl rfl ty25 rfl <| .on rfl rfl <| .fieldP rfl fa27_2 rfl <| .on rfl rfl <| .loadP 0 fTable_2 rfl rfl ty25 rfl <| .on rfl rfl <| .call0 (c45 fu _ _ (fun x0 x1 => f46 fu x0 x1) 42 [] n46 (fun x0 x1 => c46 fu x0 x1)) n45 rfl rfl fun q6 => .pickT rfl rfl rfl <| .assign rfl rfl <| .nil ?_
          exact .keep [4] [] rfl (.drop (.cons _ <| .cons _ <| .slnil) <| hj1 _)
        · refine .off rfl rfl rfl <| .off rfl rfl rfl <| .off rfl rfl rfl <| .off rfl rfl rfl <| .off rfl rfl rfl <| .pickF rfl rfl rfl <| .assign rfl rfl <| .nil ?_
          exact .keep [4] [] rfl (.drop (.cons _ <| .cons _ <| .slnil) <| hj1 _)
      · refine .off rfl rfl rfl <| .off rfl rfl rfl <| .off rfl rfl rfl <| .off rfl rfl rfl <| .off rfl rfl rfl <| .pickF rfl rfl rfl <| .move rfl rfl <| .off rfl rfl rfl <| .off rfl rfl rfl <| .off rfl rfl rfl <| .off rfl rfl rfl <| .off rfl rfl rfl <| .pickF rfl rfl rfl <| .assign rfl rfl <| .nil ?_
        exact .keep [4] [] rfl (.drop (.cons _ <| .cons _ <| .slnil) <| hj1 _)
    · refine .off rfl rfl rfl <| .off rfl rfl rfl <| .off rfl rfl rfl <| .off rfl rfl rfl <| .off rfl rfl rfl <| .pickF rfl rfl rfl <| .move rfl rfl <| .off rfl rfl rfl <| .off rfl rfl rfl <| .off rfl rfl rfl <| .off rfl rfl rfl <| .off rfl rfl rfl <| .pickF rfl rfl rfl <| .move rfl rfl <| .off rfl rfl rfl <| .off rfl rfl rfl <| .off rfl rfl rfl <| .off rfl rfl rfl <| .off rfl rfl rfl <| .pickF rfl rfl rfl <| .assign rfl rfl <| .nil ?_
      exact .keep [4] [] rfl (.drop (.cons _ <| .cons _ <| .slnil) <| hj1 _)
def f16_j1 (fu : Nat) (a0 : Table) (q2 : Int) (i3 : Bool) : Option ((List Val) × Bool) := cond i3 (some (([] : List Val), false)) (cond (decide (0 ≤ q2) && decide (q2 < (List.length a0.rows : Int))) ((f49 fu a0 (a0.rows.getD q2.toNat default)).bind fun q4 => some (q4, true)) none)
def f16 (fu : Nat) (a0 : Table) (a1 : Int) : Option ((List Val) × Bool) := (f48 fu a0 a1).bind fun q2 => (f19 fu a0).bind fun q5 => cond (!q5) (f16_j1 fu a0 q2 true) (f16_j1 fu a0 q2 (decide (q2 < 0)))
theorem n16 : ∃ fn c, Tryz.prog.funcs[20]? = some fn ∧ (fn.name == "runtime.NumGoroutine") = false ∧ fn.body = some c := ⟨_, _, Tryz.func20, by kernel_rfl, rfl⟩
theorem c16 (fu : Nat) (a0 : Table) (a1 : Int) : Ctr Tryz.prog 20 [tTable.va a0, isI .i64 a1] [] (f16 fu a0 a1) (fun _ _ => []) (fun q => tup [(tL tVal).va q.1, isB q.2]) := by
  refine Ctr.of_W Tryz.func20 rfl Tryz.ntmps20 rfl fun A w => ?_
  unfold f16
  refine .seq <| .region <| .box (T := tTable) rfl rfl fun b1 => .assignNil tVal rfl <| .assign rfl rfl <| .nil ?_
  refine .seq <| .region <| .loadP 0 (Fld.self _) rfl rfl ty27 rfl <| .move rfl rfl <| .call0 (c48 fu _ _) n48 rfl rfl fun q2 => .assign rfl rfl <| .nil ?_
  refine .seq <| .seq <| .join1 (fun i3 => ⟨[(2, isP b1 0, none), (6, isI .i64 q2, none), (16, isB i3, none)], [boxO b1 tTable a0 []]⟩) (fun i3 => f16_j1 fu a0 q2 i3) (fun i3 => ?_) (fun hj1 => ?_)
  · refine .cond rfl (fun _ => ?_) (fun _ => ?_)
    · refine .seq <| .region <| .assignNil tVal rfl <| .assign rfl rfl <| .nil ?_
      exact .ret2 Tryz.func20 Tryz.results20 (.tmp rfl) (.tmp rfl) rfl (fun _ => .cons _ <| .slnil)
    · refine .skip <| .seq <| .pT fun h1 => ?_
      refine .draw 6 [] mix (by kernel_rfl) (.cons (fun _ _ _ hP hE h => .loadP 0 (Fld.self _) (hE.op rfl) (hP.get rfl rfl) ty27 rfl <| h) <| .cons (fun _ _ _ hP hE h => .fieldP (hE.op rfl) fa27_2 rfl <| h) <| .cons (fun _ _ _ hP hE h => .loadP 0 fTable_2 (hE.op rfl) (hP.get rfl rfl) ty25 rfl <| h) <| .cons (fun _ _ _ hP hE h => .move (hE.op rfl) rfl <| h) <| .cons (fun _ _ _ hP hE h => .useC h1 <| .elemAt (hE.op rfl) (hE.op rfl) Tryz.underlying25 ty37 rfl <| h) <| .cons (fun _ _ _ hP hE h => .load (hE.op rfl) ty37 rfl <| h) <| .nil) rfl <| .call0 (CtrL.plain (c49 fu _ _)) n49 rfl rfl fun q4 => .assign rfl rfl <| .assign rfl rfl <| .nil ?_
      exact .ret2 Tryz.func20 Tryz.results20 (.tmp rfl) (.tmp rfl) rfl (fun _ => .cons _ <| .slnil)
  · refine .region <| .loadP 0 (Fld.self _) rfl rfl ty27 rfl <| .call0 (c19 fu _) n19 rfl rfl fun q5 => .not rfl rfl <| .move rfl rfl <| .split 13 rfl (fun _ => ?_) (fun _ => ?_)
    · refine .off rfl rfl rfl <| .off rfl rfl rfl <| .pickT rfl rfl rfl <| .nil ?_
      exact .keep [2, 6, 16] [] rfl (hj1 _)
    · refine .on rfl rfl <| .move rfl rfl <| .on rfl rfl <| .bin rfl rfl rfl rfl <| .pickF rfl rfl rfl <| .nil ?_
      exact .keep [2, 6, 16] [] rfl (hj1 _)
end Go.Proofs.YtlkhmcajnfombaaGreatDoor
