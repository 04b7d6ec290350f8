/- Functions of the program: what each answers, and that the machine answers so. -/
import Derived.Test.YtejobmamkeoheaaGreatDoorQ5TA0
import Derived.KernelRfl
set_option linter.all false
namespace Go.Proofs.YtejobmamkeoheaaGreatDoor
open Go Go.HL
def f117_j1 (i2 : Bool) : Option Bool := some i2
def f117 (fu : Nat) (a0 : Col) : Option Bool := (f135 fu a0.name).bind fun q3 => cond q3 (cond (decide (a0.kind = 1)) ((f119 fu a0.def_).bind fun q4 => cond q4 (cond (decide (a0.def_.kind = 0)) (cond (!a0.once) (f117_j1 true) (f117_j1 (decide (a0.def_.kind = 0)))) (cond (decide (a0.def_.kind = a0.kind)) (cond (!a0.once) (f117_j1 true) (f117_j1 (decide (a0.def_.kind = 0)))) (f117_j1 false))) (f117_j1 false)) (cond (decide (a0.kind = 2)) ((f119 fu a0.def_).bind fun q5 => cond q5 (cond (decide (a0.def_.kind = 0)) (cond (!a0.once) (f117_j1 true) (f117_j1 (decide (a0.def_.kind = 0)))) (cond (decide (a0.def_.kind = a0.kind)) (cond (!a0.once) (f117_j1 true) (f117_j1 (decide (a0.def_.kind = 0)))) (f117_j1 false))) (f117_j1 false)) (f117_j1 false))) (f117_j1 false)
theorem n117 : ∃ fn c, Tryz.prog.funcs[119]? = some fn ∧ (fn.name == "runtime.NumGoroutine") = false ∧ fn.body = some c := ⟨_, _, Tryz.func119, by kernel_rfl, rfl⟩
theorem c117 (fu : Nat) (a0 : Col) : Ctr Tryz.prog 119 [tCol.va a0] [] (f117 fu a0) (fun _ _ => []) (fun q => isB q) := by
  refine Ctr.of_W Tryz.func119 rfl Tryz.ntmps119 rfl fun A w => ?_
  unfold f117
  refine .seq <| .region <| .box (T := tCol) rfl rfl fun b1 => .assign rfl rfl <| .nil ?_
  refine .seq <| .join1 (fun i2 => ⟨[(2, isB i2, none)], []⟩) (fun i2 => f117_j1 i2) (fun i2 => ?_) (fun hj1 => ?_)
  · exact .ret1 Tryz.func119 Tryz.results119 (.tmp rfl) rfl (fun _ _ => .slnil)
  · refine .region <| .fieldP rfl fa52_0 rfl <| .loadP 0 fCol_0 rfl rfl ty9 rfl <| .call0 (c135 fu _) n135 rfl rfl fun q3 => .move rfl rfl <| .split 6 rfl (fun _ => ?_) (fun _ => ?_)
    · refine .on rfl rfl <| .fieldP rfl fa52_1 rfl <| .on rfl rfl <| .loadP 0 fCol_1 rfl rfl ty3 rfl <| .on rfl rfl <| .bin rfl rfl rfl rfl <| .on rfl rfl <| .move rfl rfl <| .split 10 rfl (fun _ => ?_) (fun _ => ?_)
      · refine .off rfl rfl rfl <| .off rfl rfl rfl <| .off rfl rfl rfl <| .on rfl rfl <| .pickT rfl rfl rfl <| .pickT rfl rfl rfl <| .move rfl rfl <| .on rfl rfl <| .fieldP rfl fa52_4 rfl <| .on rfl rfl <| .loadP 0 fCol_4 rfl rfl ty47 rfl <| .on rfl rfl <| .call0 (c119 fu _) n119 rfl rfl fun q4 => .pickT rfl rfl rfl <| .move rfl rfl <| .split 21 rfl (fun _ => ?_) (fun _ => ?_)
        · refine .on rfl rfl <| .fieldP rfl fa52_4 rfl <| .on rfl rfl <| .fieldP rfl fa47_0 rfl <| .on rfl rfl <| .loadP 0 (fCol_4.comp fVal_0) rfl rfl ty3 rfl <| .on rfl rfl <| .bin rfl rfl rfl rfl <| .on rfl rfl <| .move rfl rfl <| .split 26 rfl (fun _ => ?_) (fun _ => ?_)
          · refine .off rfl rfl rfl <| .off rfl rfl rfl <| .off rfl rfl rfl <| .off rfl rfl rfl <| .off rfl rfl rfl <| .off rfl rfl rfl <| .on rfl rfl <| .pickT rfl rfl rfl <| .pickT rfl rfl rfl <| .move rfl rfl <| .on rfl rfl <| .fieldP rfl fa52_3 rfl <| .on rfl rfl <| .loadP 0 fCol_3 rfl rfl ty4 rfl <| .on rfl rfl <| .not rfl rfl <| .on rfl rfl <| .move rfl rfl <| .split 39 rfl (fun _ => ?_) (fun _ => ?_)
            · refine .off rfl rfl rfl <| .off rfl rfl rfl <| .off rfl rfl rfl <| .off rfl rfl rfl <| .on rfl rfl <| .pickT rfl rfl rfl <| .pickT rfl rfl rfl <| .assign rfl rfl <| .nil ?_
              exact .keep [2] [] rfl (.drop (.cons _ <| .slnil) <| hj1 _)
            · refine .on rfl rfl <| .fieldP rfl fa52_4 rfl <| .on rfl rfl <| .fieldP rfl fa47_0 rfl <| .on rfl rfl <| .loadP 0 (fCol_4.comp fVal_0) rfl rfl ty3 rfl <| .on rfl rfl <| .bin rfl rfl rfl rfl <| .on rfl rfl <| .pickF rfl rfl rfl <| .pickT rfl rfl rfl <| .assign rfl rfl <| .nil ?_
              exact .keep [2] [] rfl (.drop (.cons _ <| .slnil) <| hj1 _)
          · refine .on rfl rfl <| .fieldP rfl fa52_4 rfl <| .on rfl rfl <| .fieldP rfl fa47_0 rfl <| .on rfl rfl <| .loadP 0 (fCol_4.comp fVal_0) rfl rfl ty3 rfl <| .on rfl rfl <| .fieldP rfl fa52_1 rfl <| .on rfl rfl <| .loadP 0 fCol_1 rfl rfl ty3 rfl <| .on rfl rfl <| .bin rfl rfl rfl rfl <| .on rfl rfl <| .pickF rfl rfl rfl <| .pickT rfl rfl rfl <| .move rfl rfl <| .split 35 rfl (fun _ => ?_) (fun _ => ?_)
            · refine .on rfl rfl <| .fieldP rfl fa52_3 rfl <| .on rfl rfl <| .loadP 0 fCol_3 rfl rfl ty4 rfl <| .on rfl rfl <| .not rfl rfl <| .on rfl rfl <| .move rfl rfl <| .split 39 rfl (fun _ => ?_) (fun _ => ?_)
              · refine .off rfl rfl rfl <| .off rfl rfl rfl <| .off rfl rfl rfl <| .off rfl rfl rfl <| .on rfl rfl <| .pickT rfl rfl rfl <| .pickT rfl rfl rfl <| .assign rfl rfl <| .nil ?_
                exact .keep [2] [] rfl (.drop (.cons _ <| .slnil) <| hj1 _)
              · refine .on rfl rfl <| .fieldP rfl fa52_4 rfl <| .on rfl rfl <| .fieldP rfl fa47_0 rfl <| .on rfl rfl <| .loadP 0 (fCol_4.comp fVal_0) rfl rfl ty3 rfl <| .on rfl rfl <| .bin rfl rfl rfl rfl <| .on rfl rfl <| .pickF rfl rfl rfl <| .pickT rfl rfl rfl <| .assign rfl rfl <| .nil ?_
                exact .keep [2] [] rfl (.drop (.cons _ <| .slnil) <| hj1 _)
            · refine .off rfl rfl rfl <| .off rfl rfl rfl <| .off rfl rfl rfl <| .off rfl rfl rfl <| .offU rfl rfl rfl <| .offU rfl rfl rfl <| .offU rfl rfl rfl <| .offU rfl rfl rfl <| .off rfl rfl rfl <| .pickF rfl rfl rfl <| .assign rfl rfl <| .nil ?_
              exact .keep [2] [] rfl (.drop (.cons _ <| .slnil) <| hj1 _)
        · refine .off rfl rfl rfl <| .off rfl rfl rfl <| .off rfl rfl rfl <| .off rfl rfl rfl <| .off rfl rfl rfl <| .offU rfl rfl rfl <| .offU rfl rfl rfl <| .offU rfl rfl rfl <| .offU rfl rfl rfl <| .offU rfl rfl rfl <| .offU rfl rfl rfl <| .off rfl rfl rfl <| .pickF rfl rfl rfl <| .move rfl rfl <| .off rfl rfl rfl <| .off rfl rfl rfl <| .off rfl rfl rfl <| .off rfl rfl rfl <| .offU rfl rfl rfl <| .offU rfl rfl rfl <| .offU rfl rfl rfl <| .offU rfl rfl rfl <| .off rfl rfl rfl <| .pickF rfl rfl rfl <| .assign rfl rfl <| .nil ?_
          exact .keep [2] [] rfl (.drop (.cons _ <| .slnil) <| hj1 _)
      · refine .on rfl rfl <| .fieldP rfl fa52_1 rfl <| .on rfl rfl <| .loadP 0 fCol_1 rfl rfl ty3 rfl <| .on rfl rfl <| .bin rfl rfl rfl rfl <| .on rfl rfl <| .pickF rfl rfl rfl <| .pickT rfl rfl rfl <| .move rfl rfl <| .split 16 rfl (fun _ => ?_) (fun _ => ?_)
        · refine .on rfl rfl <| .fieldP rfl fa52_4 rfl <| .on rfl rfl <| .loadP 0 fCol_4 rfl rfl ty47 rfl <| .on rfl rfl <| .call0 (c119 fu _) n119 rfl rfl fun q5 => .pickT rfl rfl rfl <| .move rfl rfl <| .split 21 rfl (fun _ => ?_) (fun _ => ?_)
          · refine .on rfl rfl <| .fieldP rfl fa52_4 rfl <| .on rfl rfl <| .fieldP rfl fa47_0 rfl <| .on rfl rfl <| .loadP 0 (fCol_4.comp fVal_0) rfl rfl ty3 rfl <| .on rfl rfl <| .bin rfl rfl rfl rfl <| .on rfl rfl <| .move rfl rfl <| .split 26 rfl (fun _ => ?_) (fun _ => ?_)
            · refine .off rfl rfl rfl <| .off rfl rfl rfl <| .off rfl rfl rfl <| .off rfl rfl rfl <| .off rfl rfl rfl <| .off rfl rfl rfl <| .on rfl rfl <| .pickT rfl rfl rfl <| .pickT rfl rfl rfl <| .move rfl rfl <| .on rfl rfl <| .fieldP rfl fa52_3 rfl <| .on rfl rfl <| .loadP 0 fCol_3 rfl rfl ty4 rfl <| .on rfl rfl <| .not rfl rfl <| .on rfl rfl <| .move rfl rfl <| .split 39 rfl (fun _ => ?_) (fun _ => ?_)
              · refine .off rfl rfl rfl <| .off rfl rfl rfl <| .off rfl rfl rfl <| .off rfl rfl rfl <| .on rfl rfl <| .pickT rfl rfl rfl <| .pickT rfl rfl rfl <| .assign rfl rfl <| .nil ?_
                exact .keep [2] [] rfl (.drop (.cons _ <| .slnil) <| hj1 _)
              · refine .on rfl rfl <| .fieldP rfl fa52_4 rfl <| .on rfl rfl <| .fieldP rfl fa47_0 rfl <| .on rfl rfl <| .loadP 0 (fCol_4.comp fVal_0) rfl rfl ty3 rfl <| .on rfl rfl <| .bin rfl rfl rfl rfl <| .on rfl rfl <| .pickF rfl rfl rfl <| .pickT rfl rfl rfl <| .assign rfl rfl <| .nil ?_
                exact .keep [2] [] rfl (.drop (.cons _ <| .slnil) <| hj1 _)
            · refine .on rfl rfl <| .fieldP rfl fa52_4 rfl <| .on rfl rfl <| .fieldP rfl fa47_0 rfl <| .on rfl rfl <| .loadP 0 (fCol_4.comp fVal_0) rfl rfl ty3 rfl <| .on rfl rfl <| .fieldP rfl fa52_1 rfl <| .on rfl rfl <| .loadP 0 fCol_1 rfl rfl ty3 rfl <| .on rfl rfl <| .bin rfl rfl rfl rfl <| .on rfl rfl <| .pickF rfl rfl rfl <| .pickT rfl rfl rfl <| .move rfl rfl <| .split 35 rfl (fun _ => ?_) (fun _ => ?_)
              · refine .on rfl rfl <| .fieldP rfl fa52_3 rfl <| .on rfl rfl <| .loadP 0 fCol_3 rfl rfl ty4 rfl <| .on rfl rfl <| .not rfl rfl <| .on rfl rfl <| .move rfl rfl <| .split 39 rfl (fun _ => ?_) (fun _ => ?_)
                · refine .off rfl rfl rfl <| .off rfl rfl rfl <| .off rfl rfl rfl <| .off rfl rfl rfl <| .on rfl rfl <| .pickT rfl rfl rfl <| .pickT rfl rfl rfl <| .assign rfl rfl <| .nil ?_
                  exact .keep [2] [] rfl (.drop (.cons _ <| .slnil) <| hj1 _)
                · refine .on rfl rfl <| .fieldP rfl fa52_4 rfl <| .on rfl rfl <| .fieldP rfl fa47_0 rfl <| .on rfl rfl <| .loadP 0 (fCol_4.comp fVal_0) rfl rfl ty3 rfl <| .on rfl rfl <| .bin rfl rfl rfl rfl <| .on rfl rfl <| .pickF rfl rfl rfl <| .pickT rfl rfl rfl <| .assign rfl rfl <| .nil ?_
                  exact .keep [2] [] rfl (.drop (.cons _ <| .slnil) <| hj1 _)
              · refine .off rfl rfl rfl <| .off rfl rfl rfl <| .off rfl rfl rfl <| .off rfl rfl rfl <| .offU rfl rfl rfl <| .offU rfl rfl rfl <| .offU rfl rfl rfl <| .offU rfl rfl rfl <| .off rfl rfl rfl <| .pickF rfl rfl rfl <| .assign rfl rfl <| .nil ?_
                exact .keep [2] [] rfl (.drop (.cons _ <| .slnil) <| hj1 _)
          · refine .off rfl rfl rfl <| .off rfl rfl rfl <| .off rfl rfl rfl <| .off rfl rfl rfl <| .off rfl rfl rfl <| .offU rfl rfl rfl <| .offU rfl rfl rfl <| .offU rfl rfl rfl <| .offU rfl rfl rfl <| .offU rfl rfl rfl <| .offU rfl rfl rfl <| .off rfl rfl rfl <| .pickF rfl rfl rfl <| .move rfl rfl <| .off rfl rfl rfl <| .off rfl rfl rfl <| .off rfl rfl rfl <| .off rfl rfl rfl <| .offU rfl rfl rfl <| .offU rfl rfl rfl <| .offU rfl rfl rfl <| .offU rfl rfl rfl <| .off rfl rfl rfl <| .pickF rfl rfl rfl <| .assign rfl rfl <| .nil ?_
            exact .keep [2] [] rfl (.drop (.cons _ <| .slnil) <| hj1 _)
        · refine .off rfl rfl rfl <| .off rfl rfl rfl <| .off rfl rfl rfl <| .pickF rfl rfl rfl <| .move rfl rfl <| .off rfl rfl rfl <| .off rfl rfl rfl <| .off rfl rfl rfl <| .off rfl rfl rfl <| .off rfl rfl rfl <| .offU rfl rfl rfl <| .offU rfl rfl rfl <| .offU rfl rfl rfl <| .offU rfl rfl rfl <| .offU rfl rfl rfl <| .offU rfl rfl rfl <| .off rfl rfl rfl <| .pickF rfl rfl rfl <| .move rfl rfl <| .off rfl rfl rfl <| .off rfl rfl rfl <| .off rfl rfl rfl <| .off rfl rfl rfl <| .offU rfl rfl rfl <| .offU rfl rfl rfl <| .offU rfl rfl rfl <| .offU rfl rfl rfl <| .off rfl rfl rfl <| .pickF rfl rfl rfl <| .assign rfl rfl <| .nil ?_
          exact .keep [2] [] rfl (.drop (.cons _ <| .slnil) <| hj1 _)
    · refine .off rfl rfl rfl <| .off rfl rfl rfl <| .off rfl rfl rfl <| .off rfl rfl rfl <| .offU rfl rfl rfl <| .offU rfl rfl rfl <| .offU rfl rfl rfl <| .off rfl rfl rfl <| .pickF rfl rfl rfl <| .move rfl rfl <| .off rfl rfl rfl <| .off rfl rfl rfl <| .off rfl rfl rfl <| .pickF rfl rfl rfl <| .move rfl rfl <| .off rfl rfl rfl <| .off rfl rfl rfl <| .off rfl rfl rfl <| .off rfl rfl rfl <| .off rfl rfl rfl <| .offU rfl rfl rfl <| .offU rfl rfl rfl <| .offU rfl rfl rfl <| .offU rfl rfl rfl <| .offU rfl rfl rfl <| .offU rfl rfl rfl <| .off rfl rfl rfl <| .pickF rfl rfl rfl <| .move rfl rfl <| .off rfl rfl rfl <| .off rfl rfl rfl <| .off rfl rfl rfl <| .off rfl rfl rfl <| .offU rfl rfl rfl <| .offU rfl rfl rfl <| .offU rfl rfl rfl <| .offU rfl rfl rfl <| .off rfl rfl rfl <| .pickF rfl rfl rfl <| .assign rfl rfl <| .nil ?_
      exact .keep [2] [] rfl (.drop (.cons _ <| .slnil) <| hj1 _)
def f86_j3 (i1 : Int) (rec1 : Int → Option Bool) (i2 : Bool) : Option Bool := cond i2 (some false) (rec1 (IntKind.i64.wrap (i1 + 1)))
def f86_j4 (rec1 : Int → Option Bool) (i5 : Bool) : Option Bool := some i5
def f86_l1 (fu : Nat) (a0 : List Col) : Nat → Int → Option Bool
  | 0, _ => none
  | n1 + 1, i1 => cond (decide (i1 < (List.length a0 : Int))) (cond (decide (0 ≤ i1) && decide (i1 < (List.length a0 : Int))) ((f117 fu (a0.getD i1.toNat default)).bind fun q3 => cond (!q3) (f86_j3 i1 (f86_l1 fu a0 n1) true) (cond (decide (0 ≤ i1) && decide (i1 < (List.length a0 : Int))) ((f108 fu a0 ((a0.getD i1.toNat default).name)).bind fun q4 => f86_j3 i1 (f86_l1 fu a0 n1) (!decide (q4 = i1))) none)) none) (cond (decide (1 ≤ (List.length a0 : Int))) (f86_j4 (f86_l1 fu a0 n1) (decide ((List.length a0 : Int) ≤ 5))) (f86_j4 (f86_l1 fu a0 n1) false))
def f86 (fu : Nat) (a0 : List Col) : Option Bool := f86_l1 fu a0 fu 0
theorem n86 : ∃ fn c, Tryz.prog.funcs[95]? = some fn ∧ (fn.name == "runtime.NumGoroutine") = false ∧ fn.body = some c := ⟨_, _, Tryz.func95, by kernel_rfl, rfl⟩
theorem c86 (fu : Nat) (a0 : List Col) : Ctr Tryz.prog 95 [(tL tCol).va a0] [] (f86 fu a0) (fun _ _ => []) (fun q => isB q) := by
  refine Ctr.of_W Tryz.func95 rfl Tryz.ntmps95 rfl fun A w => ?_
  unfold f86
  refine .seq <| .region <| .assign rfl rfl <| .nil ?_
  refine .seq <| .seq <| .region <| .assign rfl rfl <| .nil ?_
  refine .block <| .loop <| .keep [0, 3] [] rfl ?_
  refine (show ∀ (n1 : Nat) (i1 : Int), W _ _ _ _ _ ⟨[(0, (tL tCol).va a0, none), (3, isI .i64 i1, none)], []⟩ (f86_l1 fu a0 n1 i1) from ?_) fu _
  intro n1
  induction n1 with
  | zero => exact fun _ => .stop
  | succ n1 ih1 =>
    intro i1
    refine .inLoop <| .seq <| .seq <| .region <| .move rfl rfl <| .move rfl rfl <| .lenL rfl Tryz.underlying28 rfl <| .bin rfl rfl rfl rfl <| .nil ?_
    refine .cond rfl (fun _ => ?_) (fun _ => ?_)
    · refine .skip <| .seq <| .block <| .seq <| .join1 (fun i2 => ⟨[(0, (tL tCol).va a0, none), (3, isI .i64 i1, none), (26, isB i2, none)], []⟩) (fun i2 => f86_j3 i1 (f86_l1 fu a0 n1) i2) (fun i2 => ?_) (fun hj3 => ?_)
      · refine .cond rfl (fun _ => ?_) (fun _ => ?_)
        · refine .seq <| .region <| .assign rfl rfl <| .nil ?_
          exact .ret1 Tryz.func95 Tryz.results95 (.tmp rfl) rfl (fun _ _ => .slnil)
        · refine .skip <| .inBlock <| .region <| .move rfl rfl <| .bin rfl rfl rfl rfl <| .assign rfl rfl <| .nil ?_
          exact .keep [0, 3] [] rfl (ih1 _)
      · refine .region <| .move rfl rfl <| .move rfl rfl <| .elemAt rfl rfl Tryz.underlying28 ty52 rfl <| .load rfl ty52 rfl <| .call0 (c117 fu _) n117 rfl rfl fun q3 => .not rfl rfl <| .move rfl rfl <| .split 16 rfl (fun _ => ?_) (fun _ => ?_)
        · refine .off rfl rfl rfl <| .off rfl rfl rfl <| .off rfl rfl rfl <| .off rfl rfl rfl <| .off rfl rfl rfl <| .off rfl rfl rfl <| .off rfl rfl rfl <| .off rfl rfl rfl <| .off rfl rfl rfl <| .pickT rfl rfl rfl <| .nil ?_
          exact .keep [0, 3, 26] [] rfl (hj3 _)
        · refine .on rfl rfl <| .move rfl rfl <| .on rfl rfl <| .move rfl rfl <| .on rfl rfl <| .move rfl rfl <| .on rfl rfl <| .elemAt rfl rfl Tryz.underlying28 ty52 rfl <| .on rfl rfl <| .fieldAt fCol_0 rfl fa52_0 rfl <| .on rfl rfl <| .load rfl ty9 rfl <| .on rfl rfl <| .call0 (c108 fu _ _) n108 rfl rfl fun q4 => .on rfl rfl <| .move rfl rfl <| .on rfl rfl <| .bin rfl rfl rfl rfl <| .pickF rfl rfl rfl <| .nil ?_
          exact .keep [0, 3, 26] [] rfl (hj3 _)
    · refine .exit rfl <| .seq <| .join1 (fun i5 => ⟨[(2, isB i5, none)], []⟩) (fun i5 => f86_j4 (f86_l1 fu a0 n1) i5) (fun i5 => ?_) (fun hj4 => ?_)
      · exact .ret1 Tryz.func95 Tryz.results95 (.tmp rfl) rfl (fun _ _ => .slnil)
      · refine .region <| .move rfl rfl <| .lenL rfl Tryz.underlying28 rfl <| .bin rfl rfl rfl rfl <| .move rfl rfl <| .split 30 rfl (fun _ => ?_) (fun _ => ?_)
        · refine .on rfl rfl <| .move rfl rfl <| .on rfl rfl <| .lenL rfl Tryz.underlying28 rfl <| .on rfl rfl <| .bin rfl rfl rfl rfl <| .pickT rfl rfl rfl <| .assign rfl rfl <| .nil ?_
          exact .keep [2] [] rfl (hj4 _)
        · refine .off rfl rfl rfl <| .off rfl rfl rfl <| .off rfl rfl rfl <| .pickF rfl rfl rfl <| .assign rfl rfl <| .nil ?_
          exact .keep [2] [] rfl (hj4 _)
def f136 (a0 : Change) : Option Col := cond (decide (a0.kind = 4)) (some (⟨d0_52.name, a0.col.kind, d0_52.need, d0_52.once, d0_52.def_⟩ : Col)) (some (⟨d0_52.name, d0_52.kind, d0_52.need, d0_52.once, d0_52.def_⟩ : Col))
theorem n136 : ∃ fn c, Tryz.prog.funcs[126]? = some fn ∧ (fn.name == "runtime.NumGoroutine") = false ∧ fn.body = some c := ⟨_, _, Tryz.func126, by kernel_rfl, rfl⟩
theorem c136 (a0 : Change) : Ctr Tryz.prog 126 [tChange.va a0] [] (f136 a0) (fun _ _ => []) (fun q => tCol.va q) := by
  refine Ctr.of_W Tryz.func126 rfl Tryz.ntmps126 rfl fun A w => ?_
  unfold f136
  refine .seq <| .region <| .box (T := tChange) rfl rfl fun b1 => .alloc tCol d0_52 [] z52 rfl fun b2 => .nil ?_
  refine .seq <| .seq <| .region <| .fieldP rfl fa56_0 rfl <| .loadP 1 fChange_0 rfl rfl ty3 rfl <| .bin rfl rfl rfl rfl <| .nil ?_
  refine .cond rfl (fun _ => ?_) (fun _ => ?_)
  · refine .seq <| .region <| .fieldP rfl fa56_3 rfl <| .fieldP rfl fa52_1 rfl <| .loadP 1 (fChange_3.comp fCol_1) rfl rfl ty3 rfl <| .build rfl st52 z52 (.cons fCol_1 rfl rfl <| .nil) rfl <| .storeP 0 (Fld.self _) rfl rfl rfl ty52 <| .nil ?_
    exact .ret1 Tryz.func126 Tryz.results126 (.cell 0 rfl rfl ty52) rfl (fun _ _ => .cons _ <| .cons _ <| .slnil)
  · refine .skip <| .seq <| .region <| .build rfl st52 z52 (.nil) rfl <| .storeP 0 (Fld.self _) rfl rfl rfl ty52 <| .nil ?_
    exact .ret1 Tryz.func126 Tryz.results126 (.cell 0 rfl rfl ty52) rfl (fun _ _ => .cons _ <| .cons _ <| .slnil)
def f137 (a0 : List Col) (a1 : Int) : Option (List Col) := cond (decide (0 ≤ (0 : Int)) && decide ((0 : Int) ≤ a1) && decide (a1 ≤ (List.length a0 : Int))) (cond (decide (List.length ([] : List Col) + List.length ((a0.take a1.toNat).drop (0 : Int).toNat) ≤ CAP)) (cond (decide (0 ≤ (IntKind.i64.wrap (a1 + 1))) && decide ((IntKind.i64.wrap (a1 + 1)) ≤ (List.length a0 : Int)) && decide ((List.length a0 : Int) ≤ (List.length a0 : Int))) (cond (decide (List.length (([] : List Col) ++ ((a0.take a1.toNat).drop (0 : Int).toNat)) + List.length ((a0.take (List.length a0 : Int).toNat).drop (IntKind.i64.wrap (a1 + 1)).toNat) ≤ CAP)) (some ((([] : List Col) ++ ((a0.take a1.toNat).drop (0 : Int).toNat)) ++ ((a0.take (List.length a0 : Int).toNat).drop (IntKind.i64.wrap (a1 + 1)).toNat))) none) none) none) none
theorem n137 : ∃ fn c, Tryz.prog.funcs[127]? = some fn ∧ (fn.name == "runtime.NumGoroutine") = false ∧ fn.body = some c := ⟨_, _, Tryz.func127, by kernel_rfl, rfl⟩
theorem c137 (a0 : List Col) (a1 : Int) : Ctr Tryz.prog 127 [(tL tCol).va a0, isI .i64 a1] [] (f137 a0 a1) (fun _ _ => []) (fun q => (tL tCol).va q) := by
  refine Ctr.of_W Tryz.func127 rfl Tryz.ntmps127 rfl fun A w => ?_
  unfold f137
  refine .seq <| .region <| .assignNil tCol rfl <| .nil ?_
  refine .seq <| .pT fun h1 => ?_
  refine .pT fun h2 => ?_
  refine .pT fun h3 => ?_
  refine .drawS 9 [] [4] [] mix (by kernel_rfl) (.cons (fun _ _ _ hP hE h => .litE tCol Tryz.underlying28 el52 rfl rfl <| h) <| .cons (fun _ _ _ hP hE h => .move (hE.op rfl) rfl <| h) <| .cons (fun _ _ _ hP hE h => .move (hE.op rfl) rfl <| h) <| .cons (fun _ _ _ hP hE h => .useC h1 <| .cut (hE.op rfl) Tryz.underlying28 el52 rfl ⟨_, (hE.op rfl)⟩ rfl <| h) <| .skip <| .cons (fun _ _ _ hP hE h => .move (hE.op rfl) rfl <| h) <| .cons (fun _ _ _ hP hE h => .move (hE.op rfl) rfl <| h) <| .cons (fun _ _ _ hP hE h => .bin rfl (hE.op rfl) (hE.op rfl) rfl <| h) <| .cons (fun _ _ _ hP hE h => .useC h3 <| .cut (hE.op rfl) Tryz.underlying28 el52 ⟨_, (hE.op rfl)⟩ rfl rfl <| h) <| .nil) rfl <| .cons (d := 9) rfl rfl fun _ _ hE h => .useC h2 <| .appE (T := tCol) (hE.op rfl) (hE.op rfl) rfl Tryz.underlying28 el52 rfl fun v1 => .toEnd <| h _ _ (.nil) <| .nil <| .app (T := tCol) 0 rfl rfl rfl Tryz.underlying28 el52 rfl fun v2 => .assign rfl rfl <| .nil ?_
  exact .ret1 Tryz.func127 Tryz.results127 (.tmp rfl) rfl (fun _ _ => .cons _ <| .slnil)
def f145_j6 (i2 : List UInt8) (i4 : Int) (i5 : Int) (rec1 : Int → Int → Option (Int × Bool)) (i6 : Bool) : Option (Int × Bool) := cond i6 (some (0, false)) (cond (decide (0 ≤ i5) && decide (i5 < (List.length i2 : Int))) (rec1 (IntKind.i64.wrap ((IntKind.i64.wrap (i4 * 10)) + (IntKind.i64.wrap (IntKind.u8.wrap ((((i2.getD i5.toNat 0).toNat : Nat) : Int) - 48))))) (IntKind.i64.wrap (i5 + 1))) none)
def f145_j7 (rec1 : Int → Int → Option (Int × Bool)) (i7 : Int) : Option (Int × Bool) := some (i7, true)
def f145_l1 (i1 : Bool) (i2 : List UInt8) : Nat → Int → Int → Option (Int × Bool)
  | 0, _, _ => none
  | n1 + 1, i4, i5 => cond (decide (i5 < (List.length i2 : Int))) (cond (decide (0 ≤ i5) && decide (i5 < (List.length i2 : Int))) (cond (decide ((((i2.getD i5.toNat 0).toNat : Nat) : Int) < 48)) (f145_j6 i2 i4 i5 (f145_l1 i1 i2 n1) true) (cond (decide (0 ≤ i5) && decide (i5 < (List.length i2 : Int))) (f145_j6 i2 i4 i5 (f145_l1 i1 i2 n1) (decide (57 < (((i2.getD i5.toNat 0).toNat : Nat) : Int)))) none)) none) (cond i1 (f145_j7 (f145_l1 i1 i2 n1) (IntKind.i64.wrap (0 - i4))) (f145_j7 (f145_l1 i1 i2 n1) i4))
def f145_j3 (fu : Nat) (i1 : Bool) (i2 : List UInt8) (i3 : Bool) : Option (Int × Bool) := cond i3 (some (0, false)) (f145_l1 i1 i2 fu 0 0)
def f145_j2 (fu : Nat) (i1 : Bool) (i2 : List UInt8) : Option (Int × Bool) := cond (decide ((List.length i2 : Int) = 0)) (f145_j3 fu i1 i2 true) (cond (decide (17 < (List.length i2 : Int))) (f145_j3 fu i1 i2 true) (cond (decide (0 ≤ (0 : Int)) && decide ((0 : Int) < (List.length i2 : Int))) (cond (decide ((((i2.getD (0 : Int).toNat 0).toNat : Nat) : Int) = 48)) (cond (decide (1 < (List.length i2 : Int))) (f145_j3 fu i1 i2 true) (f145_j3 fu i1 i2 i1)) (f145_j3 fu i1 i2 false)) none))
def f145_j1 (fu : Nat) (a0 : List UInt8) (i1 : Bool) : Option (Int × Bool) := cond i1 (cond (decide (0 ≤ (1 : Int)) && decide ((1 : Int) ≤ (List.length a0 : Int)) && decide ((List.length a0 : Int) ≤ (List.length a0 : Int))) (f145_j2 fu i1 ((a0.take (List.length a0 : Int).toNat).drop (1 : Int).toNat)) none) (f145_j2 fu i1 a0)
def f145 (fu : Nat) (a0 : List UInt8) : Option (Int × Bool) := cond (decide (0 < (List.length a0 : Int))) (cond (decide (0 ≤ (0 : Int)) && decide ((0 : Int) < (List.length a0 : Int))) (f145_j1 fu a0 (decide ((((a0.getD (0 : Int).toNat 0).toNat : Nat) : Int) = 45))) none) (f145_j1 fu a0 false)
theorem n145 : ∃ fn c, Tryz.prog.funcs[139]? = some fn ∧ (fn.name == "runtime.NumGoroutine") = false ∧ fn.body = some c := ⟨_, _, Tryz.func139, by kernel_rfl, rfl⟩
theorem c145 (fu : Nat) (a0 : List UInt8) : Ctr Tryz.prog 139 [isS a0] [] (f145 fu a0) (fun _ _ => []) (fun q => tup [isI .i64 q.1, isB q.2]) := by
  refine Ctr.of_W Tryz.func139 rfl Tryz.ntmps139 rfl fun A w => ?_
  unfold f145
  refine .seq <| .region <| .assign rfl rfl <| .assign rfl rfl <| .nil ?_
  refine .seq <| .join1 (fun i1 => ⟨[(0, isS a0, none), (4, isB i1, none)], []⟩) (fun i1 => f145_j1 fu a0 i1) (fun i1 => ?_) (fun hj1 => ?_)
  · refine .seq <| .seq <| .region <| .move rfl rfl <| .nil ?_
    refine .join1 (fun i2 => ⟨[(0, isS i2, none), (4, isB i1, none)], []⟩) (fun i2 => f145_j2 fu i1 i2) (fun i2 => ?_) (fun hj2 => ?_)
    · refine .seq <| .seq <| .join1 (fun i3 => ⟨[(0, isS i2, none), (4, isB i1, none), (38, isB i3, none)], []⟩) (fun i3 => f145_j3 fu i1 i2 i3) (fun i3 => ?_) (fun hj3 => ?_)
      · refine .cond rfl (fun _ => ?_) (fun _ => ?_)
        · refine .seq <| .region <| .assign rfl rfl <| .assign rfl rfl <| .nil ?_
          exact .ret2 Tryz.func139 Tryz.results139 (.tmp rfl) (.tmp rfl) rfl (fun _ => .slnil)
        · refine .skip <| .seq <| .region <| .assign rfl rfl <| .nil ?_
          refine .seq <| .seq <| .region <| .assign rfl rfl <| .nil ?_
          refine .block <| .loop <| .keep [0, 4, 5, 6] [] rfl ?_
          refine (show ∀ (n1 : Nat) (i4 : Int) (i5 : Int), W _ _ _ _ _ ⟨[(0, isS i2, none), (4, isB i1, none), (5, isI .i64 i4, none), (6, isI .i64 i5, none)], []⟩ (f145_l1 i1 i2 n1 i4 i5) from ?_) fu _ _
          intro n1
          induction n1 with
          | zero => exact fun _ _ => .stop
          | succ n1 ih1 =>
            intro i4 i5
            refine .inLoop <| .seq <| .seq <| .region <| .move rfl rfl <| .move rfl rfl <| .lenS rfl Tryz.underlying9 rfl <| .bin rfl rfl rfl rfl <| .nil ?_
            refine .cond rfl (fun _ => ?_) (fun _ => ?_)
            · refine .skip <| .seq <| .block <| .seq <| .seq <| .join1 (fun i6 => ⟨[(0, isS i2, none), (4, isB i1, none), (5, isI .i64 i4, none), (6, isI .i64 i5, none), (54, isB i6, none)], []⟩) (fun i6 => f145_j6 i2 i4 i5 (f145_l1 i1 i2 n1) i6) (fun i6 => ?_) (fun hj6 => ?_)
              · refine .cond rfl (fun _ => ?_) (fun _ => ?_)
                · refine .seq <| .region <| .assign rfl rfl <| .assign rfl rfl <| .nil ?_
                  exact .ret2 Tryz.func139 Tryz.results139 (.tmp rfl) (.tmp rfl) rfl (fun _ => .slnil)
                · refine .skip <| .region <| .move rfl rfl <| .bin rfl rfl rfl rfl <| .move rfl rfl <| .move rfl rfl <| .idxS rfl rfl Tryz.underlying9 rfl <| .bin rfl rfl rfl rfl <| .conv rfl ⟨_, Tryz.underlying5⟩ Tryz.underlying3 rfl <| .bin rfl rfl rfl rfl <| .assign rfl rfl <| .nil ?_
                  refine .inBlock <| .region <| .move rfl rfl <| .bin rfl rfl rfl rfl <| .assign rfl rfl <| .nil ?_
                  exact .keep [0, 4, 5, 6] [] rfl (ih1 _ _)
              · refine .region <| .move rfl rfl <| .move rfl rfl <| .idxS rfl rfl Tryz.underlying9 rfl <| .bin rfl rfl rfl rfl <| .move rfl rfl <| .split 49 rfl (fun _ => ?_) (fun _ => ?_)
                · refine .off rfl rfl rfl <| .off rfl rfl rfl <| .off rfl rfl rfl <| .off rfl rfl rfl <| .pickT rfl rfl rfl <| .nil ?_
                  exact .keep [0, 4, 5, 6, 54] [] rfl (hj6 _)
                · refine .on rfl rfl <| .move rfl rfl <| .on rfl rfl <| .move rfl rfl <| .on rfl rfl <| .idxS rfl rfl Tryz.underlying9 rfl <| .on rfl rfl <| .bin rfl rfl rfl rfl <| .pickF rfl rfl rfl <| .nil ?_
                  exact .keep [0, 4, 5, 6, 54] [] rfl (hj6 _)
            · refine .exit rfl <| .seq <| .seq <| .region <| .move rfl rfl <| .nil ?_
              refine .join1 (fun i7 => ⟨[(5, isI .i64 i7, none)], []⟩) (fun i7 => f145_j7 (f145_l1 i1 i2 n1) i7) (fun i7 => ?_) (fun hj7 => ?_)
              · refine .seq <| .region <| .move rfl rfl <| .assign rfl rfl <| .assign rfl rfl <| .nil ?_
                exact .ret2 Tryz.func139 Tryz.results139 (.tmp rfl) (.tmp rfl) rfl (fun _ => .slnil)
              · refine .cond rfl (fun _ => ?_) (fun _ => ?_)
                · refine .region <| .move rfl rfl <| .neg rfl rfl <| .assign rfl rfl <| .nil ?_
                  exact .keep [5] [] rfl (hj7 _)
                · exact .skip <| .keep [5] [] rfl (hj7 _)
      · refine .region <| .move rfl rfl <| .lenS rfl Tryz.underlying9 rfl <| .bin rfl rfl rfl rfl <| .move rfl rfl <| .split 21 rfl (fun _ => ?_) (fun _ => ?_)
        · refine .off rfl rfl rfl <| .off rfl rfl rfl <| .off rfl rfl rfl <| .pickT rfl rfl rfl <| .move rfl rfl <| .off rfl rfl rfl <| .off rfl rfl rfl <| .off rfl rfl rfl <| .off rfl rfl rfl <| .offU rfl rfl rfl <| .offU rfl rfl rfl <| .offU rfl rfl rfl <| .offU rfl rfl rfl <| .offU rfl rfl rfl <| .offU rfl rfl rfl <| .off rfl rfl rfl <| .pickT rfl rfl rfl <| .nil ?_
          exact .keep [0, 4, 38] [] rfl (hj3 _)
        · refine .on rfl rfl <| .move rfl rfl <| .on rfl rfl <| .lenS rfl Tryz.underlying9 rfl <| .on rfl rfl <| .bin rfl rfl rfl rfl <| .pickF rfl rfl rfl <| .move rfl rfl <| .split 26 rfl (fun _ => ?_) (fun _ => ?_)
          · refine .off rfl rfl rfl <| .off rfl rfl rfl <| .off rfl rfl rfl <| .off rfl rfl rfl <| .offU rfl rfl rfl <| .offU rfl rfl rfl <| .offU rfl rfl rfl <| .offU rfl rfl rfl <| .offU rfl rfl rfl <| .offU rfl rfl rfl <| .off rfl rfl rfl <| .pickT rfl rfl rfl <| .nil ?_
            exact .keep [0, 4, 38] [] rfl (hj3 _)
          · refine .on rfl rfl <| .move rfl rfl <| .on rfl rfl <| .idxS rfl rfl Tryz.underlying9 rfl <| .on rfl rfl <| .bin rfl rfl rfl rfl <| .on rfl rfl <| .move rfl rfl <| .split 30 rfl (fun _ => ?_) (fun _ => ?_)
            · refine .on rfl rfl <| .move rfl rfl <| .on rfl rfl <| .lenS rfl Tryz.underlying9 rfl <| .on rfl rfl <| .bin rfl rfl rfl rfl <| .on rfl rfl <| .move rfl rfl <| .split 34 rfl (fun _ => ?_) (fun _ => ?_)
              · refine .off rfl rfl rfl <| .on rfl rfl <| .pickT rfl rfl rfl <| .on rfl rfl <| .pickT rfl rfl rfl <| .pickF rfl rfl rfl <| .nil ?_
                exact .keep [0, 4, 38] [] rfl (hj3 _)
              · refine .on rfl rfl <| .move rfl rfl <| .on rfl rfl <| .pickF rfl rfl rfl <| .on rfl rfl <| .pickT rfl rfl rfl <| .pickF rfl rfl rfl <| .nil ?_
                exact .keep [0, 4, 38] [] rfl (hj3 _)
            · refine .off rfl rfl rfl <| .off rfl rfl rfl <| .off rfl rfl rfl <| .off rfl rfl rfl <| .offU rfl rfl rfl <| .off rfl rfl rfl <| .on rfl rfl <| .pickF rfl rfl rfl <| .pickF rfl rfl rfl <| .nil ?_
              exact .keep [0, 4, 38] [] rfl (hj3 _)
    · refine .cond rfl (fun _ => ?_) (fun _ => ?_)
      · refine .region <| .move rfl rfl <| .cutS rfl Tryz.underlying9 ⟨_, rfl⟩ rfl rfl <| .assign rfl rfl <| .nil ?_
        exact .keep [0, 4] [] rfl (hj2 _)
      · exact .skip <| .keep [0, 4] [] rfl (hj2 _)
  · refine .region <| .move rfl rfl <| .lenS rfl Tryz.underlying9 rfl <| .bin rfl rfl rfl rfl <| .move rfl rfl <| .split 10 rfl (fun _ => ?_) (fun _ => ?_)
    · refine .on rfl rfl <| .move rfl rfl <| .on rfl rfl <| .idxS rfl rfl Tryz.underlying9 rfl <| .on rfl rfl <| .bin rfl rfl rfl rfl <| .pickT rfl rfl rfl <| .assign rfl rfl <| .nil ?_
      exact .keep [0, 4] [] rfl (hj1 _)
    · refine .off rfl rfl rfl <| .off rfl rfl rfl <| .off rfl rfl rfl <| .pickF rfl rfl rfl <| .assign rfl rfl <| .nil ?_
      exact .keep [0, 4] [] rfl (hj1 _)
def f146_l1 : Nat → Int → (List UInt8) → Option (List UInt8)
  | 0, _, _ => none
  | n1 + 1, i2, i3 => cond (decide (9 < i2)) (cond (decide ((10 : Int) = 0)) none (cond (decide (List.length (strI ([IntKind.u8.wrap (IntKind.i64.wrap (48 + (i2.tmod 10)))] : List Int)) + List.length i3 ≤ CAP)) (cond (decide ((10 : Int) = 0)) none ((f146_l1 n1) (IntKind.i64.wrap (i2.tdiv 10)) ((strI ([IntKind.u8.wrap (IntKind.i64.wrap (48 + (i2.tmod 10)))] : List Int)) ++ i3))) none)) (cond (decide (List.length (strI ([IntKind.u8.wrap (IntKind.i64.wrap (48 + i2))] : List Int)) + List.length i3 ≤ CAP)) (some ((strI ([IntKind.u8.wrap (IntKind.i64.wrap (48 + i2))] : List Int)) ++ i3)) none)
def f146 : Nat → Int → Option (List UInt8)
  | 0, _ => none
  | fu + 1, a0 => cond (decide (a0 < (-9223372036854775807))) (some ([45, 57, 50, 50, 51, 51, 55, 50, 48, 51, 54, 56, 53, 52, 55, 55, 53, 56, 48, 56] : List UInt8)) (cond (decide (a0 < 0)) ((f146 fu (IntKind.i64.wrap (0 - a0))).bind fun q1 => cond (decide (List.length ([45] : List UInt8) + List.length q1 ≤ CAP)) (some (([45] : List UInt8) ++ q1)) none) (f146_l1 fu a0 ([] : List UInt8)))
theorem n146 : ∃ fn c, Tryz.prog.funcs[140]? = some fn ∧ (fn.name == "runtime.NumGoroutine") = false ∧ fn.body = some c := ⟨_, _, Tryz.func140, by kernel_rfl, rfl⟩
theorem c146 (fu : Nat) : ∀ (a0 : Int), Ctr Tryz.prog 140 [isI .i64 a0] [] (f146 fu a0) (fun _ _ => []) (fun q => isS q) := by
  induction fu with
  | zero => exact fun _ => Ctr.none
  | succ fu ih =>
    intro a0
    refine Ctr.of_W Tryz.func140 rfl Tryz.ntmps140 rfl fun A w => ?_
    rw [f146]
    refine .seq <| .region <| .assign rfl rfl <| .nil ?_
    refine .seq <| .seq <| .region <| .move rfl rfl <| .bin rfl rfl rfl rfl <| .nil ?_
    refine .cond rfl (fun _ => ?_) (fun _ => ?_)
    · refine .seq <| .region <| .assign rfl rfl <| .nil ?_
      exact .ret1 Tryz.func140 Tryz.results140 (.tmp rfl) rfl (fun _ _ => .slnil)
    · refine .skip <| .seq <| .seq <| .region <| .move rfl rfl <| .bin rfl rfl rfl rfl <| .nil ?_
      refine .cond rfl (fun _ => ?_) (fun _ => ?_)
      · refine .seq <| .region <| .move rfl rfl <| .neg rfl rfl <| .call0 (ih _) n146 rfl rfl fun q1 => .cat rfl rfl rfl <| .assign rfl rfl <| .nil ?_
        exact .ret1 Tryz.func140 Tryz.results140 (.tmp rfl) rfl (fun _ _ => .slnil)
      · refine .skip <| .seq <| .region <| .assign rfl rfl <| .nil ?_
        refine .seq <| .block <| .loop <| .keep [0, 3] [] rfl ?_
        refine (show ∀ (n1 : Nat) (i2 : Int) (i3 : List UInt8), W _ _ _ _ _ ⟨[(0, isI .i64 i2, none), (3, isS i3, none)], []⟩ (f146_l1 n1 i2 i3) from ?_) fu _ _
        intro n1
        induction n1 with
        | zero => exact fun _ _ => .stop
        | succ n1 ih1 =>
          intro i2 i3
          refine .inLoop <| .seq <| .seq <| .region <| .move rfl rfl <| .bin rfl rfl rfl rfl <| .nil ?_
          refine .cond rfl (fun _ => ?_) (fun _ => ?_)
          · refine .skip <| .block <| .seq <| .region <| .move rfl rfl <| .rem rfl rfl rfl <| .bin rfl rfl rfl rfl <| .conv rfl ⟨_, Tryz.underlying3⟩ Tryz.underlying5 rfl <| .litN (T := (tI .u8)) Tryz.underlying130 el5 rfl rfl (.cons rfl <| .nil) rfl <| .convBS rfl Tryz.underlying130 Tryz.underlying5 Tryz.underlying9 rfl <| .move rfl rfl <| .cat rfl rfl rfl <| .assign rfl rfl <| .nil ?_
            refine .region <| .move rfl rfl <| .quo rfl rfl rfl <| .assign rfl rfl <| .nil ?_
            exact .inBlock <| .keep [0, 3] [] rfl (ih1 _ _)
          · refine .exit rfl <| .seq <| .region <| .move rfl rfl <| .bin rfl rfl rfl rfl <| .conv rfl ⟨_, Tryz.underlying3⟩ Tryz.underlying5 rfl <| .litN (T := (tI .u8)) Tryz.underlying130 el5 rfl rfl (.cons rfl <| .nil) rfl <| .convBS rfl Tryz.underlying130 Tryz.underlying5 Tryz.underlying9 rfl <| .move rfl rfl <| .cat rfl rfl rfl <| .assign rfl rfl <| .nil ?_
            exact .ret1 Tryz.func140 Tryz.results140 (.tmp rfl) rfl (fun _ _ => .slnil)
def f138_j2 (a1 : Int) (q3 : Int × Bool) (i6 : Bool) : Option Val := cond i6 (some (⟨a1, q3.1, d0_47.text⟩ : Val)) (some (⟨d0_47.kind, d0_47.n, d0_47.text⟩ : Val))
def f138_j1 (fu : Nat) (a0 : Val) (a1 : Int) (q3 : Int × Bool) (i4 : Bool) : Option Val := cond i4 (some (⟨d0_47.kind, d0_47.n, d0_47.text⟩ : Val)) (cond (decide (a0.kind = a1)) (some a0) (cond (decide (a1 = 2)) ((f146 fu a0.n).bind fun q5 => some (⟨a1, d0_47.n, q5⟩ : Val)) (cond q3.2 ((f139 fu q3.1).bind fun q7 => f138_j2 a1 q3 q7) (f138_j2 a1 q3 false))))
def f138 (fu : Nat) (a0 : Val) (a1 : Int) : Option Val := (f145 fu a0.text).bind fun q3 => (f119 fu a0).bind fun q8 => cond (!q8) (f138_j1 fu a0 a1 q3 true) (cond (decide (a1 < 1)) (f138_j1 fu a0 a1 q3 true) (cond (decide (2 < a1)) (f138_j1 fu a0 a1 q3 true) (f138_j1 fu a0 a1 q3 (decide (a0.kind = 0)))))
theorem n138 : ∃ fn c, Tryz.prog.funcs[128]? = some fn ∧ (fn.name == "runtime.NumGoroutine") = false ∧ fn.body = some c := ⟨_, _, Tryz.func128, by kernel_rfl, rfl⟩
theorem c138 (fu : Nat) (a0 : Val) (a1 : Int) : Ctr Tryz.prog 128 [tVal.va a0, isI .i64 a1] [] (f138 fu a0 a1) (fun _ _ => []) (fun q => tVal.va q) := by
  refine Ctr.of_W Tryz.func128 rfl Tryz.ntmps128 rfl fun A w => ?_
  unfold f138
  refine .seq <| .region <| .box (T := tVal) rfl rfl fun b1 => .alloc tVal d0_47 [] z47 rfl fun b2 => .nil ?_
  refine .seq <| .region <| .fieldP rfl fa47_2 rfl <| .loadP 1 fVal_2 rfl rfl ty9 rfl <| .call0 (c145 fu _) n145 rfl rfl fun q3 => .move rfl rfl <| .extract rfl rfl rfl <| .extract rfl rfl rfl <| .assign rfl rfl <| .assign rfl rfl <| .nil ?_
  refine .seq <| .block <| .seq <| .join1 (fun i4 => ⟨[(1, isI .i64 a1, none), (2, isP b1 0, none), (4, isP b2 0, none), (5, isI .i64 q3.1, none), (6, isB q3.2, none), (13, isB i4, none)], [boxO b2 tVal d0_47 [], boxO b1 tVal a0 []]⟩) (fun i4 => f138_j1 fu a0 a1 q3 i4) (fun i4 => ?_) (fun hj1 => ?_)
  · refine .cond rfl (fun _ => ?_) (fun _ => ?_)
    · refine .seq <| .region <| .build rfl st47 z47 (.nil) rfl <| .storeP 0 (Fld.self _) rfl rfl rfl ty47 <| .nil ?_
      exact .ret1 Tryz.func128 Tryz.results128 (.cell 0 rfl rfl ty47) rfl (fun _ _ => .cons _ <| .cons _ <| .slnil)
    · refine .seq <| .region <| .fieldP rfl fa47_0 rfl <| .loadP 1 fVal_0 rfl rfl ty3 rfl <| .move rfl rfl <| .bin rfl rfl rfl rfl <| .assign rfl rfl <| .nil ?_
      refine .cond rfl (fun _ => ?_) (fun _ => ?_)
      · refine .seq <| .region <| .loadP 1 (Fld.self _) rfl rfl ty47 rfl <| .storeP 0 (Fld.self _) rfl rfl rfl ty47 <| .nil ?_
        exact .ret1 Tryz.func128 Tryz.results128 (.cell 0 rfl rfl ty47) rfl (fun _ _ => .cons _ <| .cons _ <| .slnil)
      · refine .seq <| .region <| .move rfl rfl <| .bin rfl rfl rfl rfl <| .assign rfl rfl <| .nil ?_
        refine .cond rfl (fun _ => ?_) (fun _ => ?_)
        · refine .seq <| .region <| .move rfl rfl <| .fieldP rfl fa47_1 rfl <| .loadP 1 fVal_1 rfl rfl ty3 rfl <| .call0 (c146 fu _) n146 rfl rfl fun q5 => .build rfl st47 z47 (.cons fVal_0 rfl rfl <| .cons fVal_2 rfl rfl <| .nil) rfl <| .storeP 0 (Fld.self _) rfl rfl rfl ty47 <| .nil ?_
          exact .ret1 Tryz.func128 Tryz.results128 (.cell 0 rfl rfl ty47) rfl (fun _ _ => .cons _ <| .cons _ <| .slnil)
        · refine .seq <| .join1 (fun i6 => ⟨[(1, isI .i64 a1, none), (4, isP b2 0, none), (5, isI .i64 q3.1, none), (45, isB i6, none)], [boxO b2 tVal d0_47 []]⟩) (fun i6 => f138_j2 a1 q3 i6) (fun i6 => ?_) (fun hj2 => ?_)
          · refine .cond rfl (fun _ => ?_) (fun _ => ?_)
            · refine .seq <| .region <| .move rfl rfl <| .move rfl rfl <| .build rfl st47 z47 (.cons fVal_0 rfl rfl <| .cons fVal_1 rfl rfl <| .nil) rfl <| .storeP 0 (Fld.self _) rfl rfl rfl ty47 <| .nil ?_
              exact .ret1 Tryz.func128 Tryz.results128 (.cell 0 rfl rfl ty47) rfl (fun _ _ => .cons _ <| .slnil)
            · refine .skip <| .inBlock <| .seq <| .region <| .build rfl st47 z47 (.nil) rfl <| .storeP 0 (Fld.self _) rfl rfl rfl ty47 <| .nil ?_
              exact .ret1 Tryz.func128 Tryz.results128 (.cell 0 rfl rfl ty47) rfl (fun _ _ => .cons _ <| .slnil)
          · refine .region <| .move rfl rfl <| .move rfl rfl <| .split 47 rfl (fun _ => ?_) (fun _ => ?_)
            · refine .on rfl rfl <| .move rfl rfl <| .on rfl rfl <| .call0 (c139 fu _) n139 rfl rfl fun q7 => .pickT rfl rfl rfl <| .assign rfl rfl <| .nil ?_
              exact .keep [1, 4, 5, 45] [] rfl (.drop (.cons_cons _ <| .cons _ <| .slnil) <| hj2 _)
            · refine .off rfl rfl rfl <| .off rfl rfl rfl <| .pickF rfl rfl rfl <| .assign rfl rfl <| .nil ?_
              exact .keep [1, 4, 5, 45] [] rfl (.drop (.cons_cons _ <| .cons _ <| .slnil) <| hj2 _)
  · refine .region <| .loadP 1 (Fld.self _) rfl rfl ty47 rfl <| .call0 (c119 fu _) n119 rfl rfl fun q8 => .not rfl rfl <| .move rfl rfl <| .split 17 rfl (fun _ => ?_) (fun _ => ?_)
    · refine .off rfl rfl rfl <| .off rfl rfl rfl <| .pickT rfl rfl rfl <| .move rfl rfl <| .off rfl rfl rfl <| .off rfl rfl rfl <| .pickT rfl rfl rfl <| .move rfl rfl <| .off rfl rfl rfl <| .off rfl rfl rfl <| .off rfl rfl rfl <| .pickT rfl rfl rfl <| .assign rfl rfl <| .nil ?_
      exact .keep [1, 2, 4, 5, 6, 13] [] rfl (hj1 _)
    · refine .on rfl rfl <| .move rfl rfl <| .on rfl rfl <| .bin rfl rfl rfl rfl <| .pickF rfl rfl rfl <| .move rfl rfl <| .split 21 rfl (fun _ => ?_) (fun _ => ?_)
      · refine .off rfl rfl rfl <| .off rfl rfl rfl <| .pickT rfl rfl rfl <| .move rfl rfl <| .off rfl rfl rfl <| .off rfl rfl rfl <| .off rfl rfl rfl <| .pickT rfl rfl rfl <| .assign rfl rfl <| .nil ?_
        exact .keep [1, 2, 4, 5, 6, 13] [] rfl (hj1 _)
      · refine .on rfl rfl <| .move rfl rfl <| .on rfl rfl <| .bin rfl rfl rfl rfl <| .pickF rfl rfl rfl <| .move rfl rfl <| .split 25 rfl (fun _ => ?_) (fun _ => ?_)
        · refine .off rfl rfl rfl <| .off rfl rfl rfl <| .off rfl rfl rfl <| .pickT rfl rfl rfl <| .assign rfl rfl <| .nil ?_
          exact .keep [1, 2, 4, 5, 6, 13] [] rfl (hj1 _)
        · refine .on rfl rfl <| .fieldP rfl fa47_0 rfl <| .on rfl rfl <| .loadP 1 fVal_0 rfl rfl ty3 rfl <| .on rfl rfl <| .bin rfl rfl rfl rfl <| .pickF rfl rfl rfl <| .assign rfl rfl <| .nil ?_
          exact .keep [1, 2, 4, 5, 6, 13] [] rfl (hj1 _)
end Go.Proofs.YtejobmamkeoheaaGreatDoor
