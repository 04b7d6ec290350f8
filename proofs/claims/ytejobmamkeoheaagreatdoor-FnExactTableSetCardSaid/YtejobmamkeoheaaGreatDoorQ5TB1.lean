/- Functions of the program: what each answers, and that the machine answers so. -/
import Derived.Test.YtejobmamkeoheaaGreatDoorQ5TB0
import Derived.KernelRfl
set_option linter.all false
namespace Go.Proofs.YtejobmamkeoheaaGreatDoor
open Go Go.HL
def f3038_l1 (a0 : List Change) (a1 : List Change) : Nat → Int → Option Bool
  | 0, _ => none
  | n3001 + 1, i1 => cond (decide (i1 < (List.length a0 : Int))) (cond (decide (0 ≤ i1) && decide (i1 < (List.length a0 : Int))) (cond (decide (0 ≤ i1) && decide (i1 < (List.length a1 : Int))) ((f3077 (a0.getD i1.toNat default) (a1.getD i1.toNat default)).bind fun q2 => cond (!q2) (some false) ((f3038_l1 a0 a1 n3001) (IntKind.i64.wrap (i1 + 1)))) none) none) (some true)
def f3038 (fu : Nat) (a0 : List Change) (a1 : List Change) : Option Bool := cond (!decide ((List.length a0 : Int) = (List.length a1 : Int))) (some false) (f3038_l1 a0 a1 fu 0)
theorem n3038 : ∃ fn c, Tryz.prog.funcs[38]? = some fn ∧ (fn.name == "runtime.NumGoroutine") = false ∧ fn.body = some c := ⟨_, _, Tryz.func38, by kernel_rfl, rfl⟩
theorem c3038 (fu : Nat) (a0 : List Change) (a1 : List Change) : Ctr Tryz.prog 38 [(tL tChange).va a0, (tL tChange).va a1] [] (f3038 fu a0 a1) (fun _ _ => []) (fun q => isB q) := by
  refine Ctr.of_W Tryz.func38 rfl Tryz.ntmps38 rfl fun A w => ?_
  unfold f3038
  refine .seq <| .region <| .assign rfl rfl <| .nil ?_
  refine .seq <| .seq <| .region <| .move rfl rfl <| .lenL rfl Tryz.underlying29 rfl <| .move rfl rfl <| .lenL rfl Tryz.underlying29 rfl <| .bin rfl rfl rfl rfl <| .nil ?_
  refine .cond rfl (fun _ => ?_) (fun _ => ?_)
  · refine .seq <| .region <| .assign rfl rfl <| .nil ?_
    exact .ret1 Tryz.func38 Tryz.results38 (.tmp rfl) rfl (fun _ _ => .slnil)
  · refine .skip <| .seq <| .seq <| .region <| .assign rfl rfl <| .nil ?_
    refine .block <| .loop <| .keep [0, 1, 5] [] rfl ?_
    refine (show ∀ (n3001 : Nat) (i1 : Int), W _ _ _ _ _ ⟨[(0, (tL tChange).va a0, none), (1, (tL tChange).va a1, none), (5, isI .i64 i1, none)], []⟩ (f3038_l1 a0 a1 n3001 i1) from ?_) fu _
    intro n3001
    induction n3001 with
    | zero => exact fun _ => .stop
    | succ n3001 ih1 =>
      intro i1
      refine .inLoop <| .seq <| .seq <| .region <| .move rfl rfl <| .move rfl rfl <| .lenL rfl Tryz.underlying29 rfl <| .bin rfl rfl rfl rfl <| .nil ?_
      refine .cond rfl (fun _ => ?_) (fun _ => ?_)
      · refine .skip <| .seq <| .block <| .seq <| .pT fun h3 => ?_
        refine .pT fun h4 => ?_
        refine .draw 8 [] mix (by kernel_rfl) (.cons (fun _ _ _ hP hE h => .move (hE.op rfl) rfl <| h) <| .cons (fun _ _ _ hP hE h => .move (hE.op rfl) rfl <| h) <| .cons (fun _ _ _ hP hE h => .useC h3 <| .elemAt (hE.op rfl) (hE.op rfl) Tryz.underlying29 ty56 rfl <| h) <| .cons (fun _ _ _ hP hE h => .load (hE.op rfl) ty56 rfl <| h) <| .cons (fun _ _ _ hP hE h => .move (hE.op rfl) rfl <| h) <| .cons (fun _ _ _ hP hE h => .move (hE.op rfl) rfl <| h) <| .cons (fun _ _ _ hP hE h => .useC h4 <| .elemAt (hE.op rfl) (hE.op rfl) Tryz.underlying29 ty56 rfl <| h) <| .cons (fun _ _ _ hP hE h => .load (hE.op rfl) ty56 rfl <| h) <| .nil) rfl <| .call0 (c3077 _ _) n3077 rfl rfl fun q2 => .not rfl rfl <| .nil ?_
        refine .cond rfl (fun _ => ?_) (fun _ => ?_)
        · refine .seq <| .region <| .assign rfl rfl <| .nil ?_
          exact .ret1 Tryz.func38 Tryz.results38 (.tmp rfl) rfl (fun _ _ => .slnil)
        · refine .skip <| .inBlock <| .region <| .move rfl rfl <| .bin rfl rfl rfl rfl <| .assign rfl rfl <| .nil ?_
          exact .keep [0, 1, 5] [] rfl (ih1 _)
      · refine .exit rfl <| .seq <| .region <| .assign rfl rfl <| .nil ?_
        exact .ret1 Tryz.func38 Tryz.results38 (.tmp rfl) rfl (fun _ _ => .slnil)
def f3108_l1 (a0 : List Val) (a1 : List Val) : Nat → Int → Option Bool
  | 0, _ => none
  | n3001 + 1, i1 => cond (decide (i1 < (List.length a0 : Int))) (cond (decide (0 ≤ i1) && decide (i1 < (List.length a0 : Int))) (cond (decide (0 ≤ i1) && decide (i1 < (List.length a1 : Int))) ((f3093 (a0.getD i1.toNat default) (a1.getD i1.toNat default)).bind fun q2 => cond (!q2) (some false) ((f3108_l1 a0 a1 n3001) (IntKind.i64.wrap (i1 + 1)))) none) none) (some true)
def f3108 (fu : Nat) (a0 : List Val) (a1 : List Val) : Option Bool := cond (!decide ((List.length a0 : Int) = (List.length a1 : Int))) (some false) (f3108_l1 a0 a1 fu 0)
theorem n3108 : ∃ fn c, Tryz.prog.funcs[108]? = some fn ∧ (fn.name == "runtime.NumGoroutine") = false ∧ fn.body = some c := ⟨_, _, Tryz.func108, by kernel_rfl, rfl⟩
theorem c3108 (fu : Nat) (a0 : List Val) (a1 : List Val) : Ctr Tryz.prog 108 [(tL tVal).va a0, (tL tVal).va a1] [] (f3108 fu a0 a1) (fun _ _ => []) (fun q => isB q) := by
  refine Ctr.of_W Tryz.func108 rfl Tryz.ntmps108 rfl fun A w => ?_
  unfold f3108
  refine .seq <| .region <| .assign rfl rfl <| .nil ?_
  refine .seq <| .seq <| .region <| .move rfl rfl <| .lenL rfl Tryz.underlying102 rfl <| .move rfl rfl <| .lenL rfl Tryz.underlying102 rfl <| .bin rfl rfl rfl rfl <| .nil ?_
  refine .cond rfl (fun _ => ?_) (fun _ => ?_)
  · refine .seq <| .region <| .assign rfl rfl <| .nil ?_
    exact .ret1 Tryz.func108 Tryz.results108 (.tmp rfl) rfl (fun _ _ => .slnil)
  · refine .skip <| .seq <| .seq <| .region <| .assign rfl rfl <| .nil ?_
    refine .block <| .loop <| .keep [0, 1, 5] [] rfl ?_
    refine (show ∀ (n3001 : Nat) (i1 : Int), W _ _ _ _ _ ⟨[(0, (tL tVal).va a0, none), (1, (tL tVal).va a1, none), (5, isI .i64 i1, none)], []⟩ (f3108_l1 a0 a1 n3001 i1) from ?_) fu _
    intro n3001
    induction n3001 with
    | zero => exact fun _ => .stop
    | succ n3001 ih1 =>
      intro i1
      refine .inLoop <| .seq <| .seq <| .region <| .move rfl rfl <| .move rfl rfl <| .lenL rfl Tryz.underlying102 rfl <| .bin rfl rfl rfl rfl <| .nil ?_
      refine .cond rfl (fun _ => ?_) (fun _ => ?_)
      · refine .skip <| .seq <| .block <| .seq <| .pT fun h3 => ?_
        refine .pT fun h4 => ?_
        refine .draw 8 [] mix (by kernel_rfl) (.cons (fun _ _ _ hP hE h => .move (hE.op rfl) rfl <| h) <| .cons (fun _ _ _ hP hE h => .move (hE.op rfl) rfl <| h) <| .cons (fun _ _ _ hP hE h => .useC h3 <| .elemAt (hE.op rfl) (hE.op rfl) Tryz.underlying102 ty47 rfl <| h) <| .cons (fun _ _ _ hP hE h => .load (hE.op rfl) ty47 rfl <| h) <| .cons (fun _ _ _ hP hE h => .move (hE.op rfl) rfl <| h) <| .cons (fun _ _ _ hP hE h => .move (hE.op rfl) rfl <| h) <| .cons (fun _ _ _ hP hE h => .useC h4 <| .elemAt (hE.op rfl) (hE.op rfl) Tryz.underlying102 ty47 rfl <| h) <| .cons (fun _ _ _ hP hE h => .load (hE.op rfl) ty47 rfl <| h) <| .nil) rfl <| .call0 (c3093 _ _) n3093 rfl rfl fun q2 => .not rfl rfl <| .nil ?_
        refine .cond rfl (fun _ => ?_) (fun _ => ?_)
        · refine .seq <| .region <| .assign rfl rfl <| .nil ?_
          exact .ret1 Tryz.func108 Tryz.results108 (.tmp rfl) rfl (fun _ _ => .slnil)
        · refine .skip <| .inBlock <| .region <| .move rfl rfl <| .bin rfl rfl rfl rfl <| .assign rfl rfl <| .nil ?_
          exact .keep [0, 1, 5] [] rfl (ih1 _)
      · refine .exit rfl <| .seq <| .region <| .assign rfl rfl <| .nil ?_
        exact .ret1 Tryz.func108 Tryz.results108 (.tmp rfl) rfl (fun _ _ => .slnil)
def f3078 (fu : Nat) (a0 : Row) (a1 : Row) : Option Bool := cond (!decide (a0.id = a1.id)) (some false) (cond (!decide (a0.ver = a1.ver)) (some false) ((f3108 fu a0.vals a1.vals).bind fun q3 => cond (!q3) (some false) (some true)))
theorem n3078 : ∃ fn c, Tryz.prog.funcs[78]? = some fn ∧ (fn.name == "runtime.NumGoroutine") = false ∧ fn.body = some c := ⟨_, _, Tryz.func78, by kernel_rfl, rfl⟩
theorem c3078 (fu : Nat) (a0 : Row) (a1 : Row) : Ctr Tryz.prog 78 [tRow.va a0, tRow.va a1] [] (f3078 fu a0 a1) (fun _ _ => []) (fun q => isB q) := by
  refine Ctr.of_W Tryz.func78 rfl Tryz.ntmps78 rfl fun A w => ?_
  unfold f3078
  refine .seq <| .region <| .box (T := tRow) rfl rfl fun b1 => .box (T := tRow) rfl rfl fun b2 => .assign rfl rfl <| .nil ?_
  refine .seq <| .seq <| .region <| .fieldP rfl fa37_0 rfl <| .loadP 1 fRow_0 rfl rfl ty3 rfl <| .fieldP rfl fa37_0 rfl <| .loadP 0 fRow_0 rfl rfl ty3 rfl <| .bin rfl rfl rfl rfl <| .nil ?_
  refine .cond rfl (fun _ => ?_) (fun _ => ?_)
  · refine .seq <| .region <| .assign rfl rfl <| .nil ?_
    exact .ret1 Tryz.func78 Tryz.results78 (.tmp rfl) rfl (fun _ _ => .cons _ <| .cons _ <| .slnil)
  · refine .skip <| .seq <| .seq <| .region <| .fieldP rfl fa37_1 rfl <| .loadP 1 fRow_1 rfl rfl ty3 rfl <| .fieldP rfl fa37_1 rfl <| .loadP 0 fRow_1 rfl rfl ty3 rfl <| .bin rfl rfl rfl rfl <| .nil ?_
    refine .cond rfl (fun _ => ?_) (fun _ => ?_)
    · refine .seq <| .region <| .assign rfl rfl <| .nil ?_
      exact .ret1 Tryz.func78 Tryz.results78 (.tmp rfl) rfl (fun _ _ => .cons _ <| .cons _ <| .slnil)
    · refine .skip <| .seq <| .seq <| .region <| .fieldP rfl fa37_2 rfl <| .loadP 1 fRow_2 rfl rfl ty32 rfl <| .fieldP rfl fa37_2 rfl <| .loadP 0 fRow_2 rfl rfl ty32 rfl <| .call0 (c3108 fu _ _) n3108 rfl rfl fun q3 => .not rfl rfl <| .nil ?_
      refine .cond rfl (fun _ => ?_) (fun _ => ?_)
      · refine .seq <| .region <| .assign rfl rfl <| .nil ?_
        exact .ret1 Tryz.func78 Tryz.results78 (.tmp rfl) rfl (fun _ _ => .cons _ <| .cons _ <| .slnil)
      · refine .skip <| .seq <| .region <| .assign rfl rfl <| .nil ?_
        exact .ret1 Tryz.func78 Tryz.results78 (.tmp rfl) rfl (fun _ _ => .cons _ <| .cons _ <| .slnil)
def f3039_l1 (fu : Nat) (a0 : List Row) (a1 : List Row) : Nat → Int → Option Bool
  | 0, _ => none
  | n3001 + 1, i1 => cond (decide (i1 < (List.length a0 : Int))) (cond (decide (0 ≤ i1) && decide (i1 < (List.length a0 : Int))) (cond (decide (0 ≤ i1) && decide (i1 < (List.length a1 : Int))) ((f3078 fu (a0.getD i1.toNat default) (a1.getD i1.toNat default)).bind fun q2 => cond (!q2) (some false) ((f3039_l1 fu a0 a1 n3001) (IntKind.i64.wrap (i1 + 1)))) none) none) (some true)
def f3039 (fu : Nat) (a0 : List Row) (a1 : List Row) : Option Bool := cond (!decide ((List.length a0 : Int) = (List.length a1 : Int))) (some false) (f3039_l1 fu a0 a1 fu 0)
theorem n3039 : ∃ fn c, Tryz.prog.funcs[39]? = some fn ∧ (fn.name == "runtime.NumGoroutine") = false ∧ fn.body = some c := ⟨_, _, Tryz.func39, by kernel_rfl, rfl⟩
theorem c3039 (fu : Nat) (a0 : List Row) (a1 : List Row) : Ctr Tryz.prog 39 [(tL tRow).va a0, (tL tRow).va a1] [] (f3039 fu a0 a1) (fun _ _ => []) (fun q => isB q) := by
  refine Ctr.of_W Tryz.func39 rfl Tryz.ntmps39 rfl fun A w => ?_
  unfold f3039
  refine .seq <| .region <| .assign rfl rfl <| .nil ?_
  refine .seq <| .seq <| .region <| .move rfl rfl <| .lenL rfl Tryz.underlying30 rfl <| .move rfl rfl <| .lenL rfl Tryz.underlying30 rfl <| .bin rfl rfl rfl rfl <| .nil ?_
  refine .cond rfl (fun _ => ?_) (fun _ => ?_)
  · refine .seq <| .region <| .assign rfl rfl <| .nil ?_
    exact .ret1 Tryz.func39 Tryz.results39 (.tmp rfl) rfl (fun _ _ => .slnil)
  · refine .skip <| .seq <| .seq <| .region <| .assign rfl rfl <| .nil ?_
    refine .block <| .loop <| .keep [0, 1, 5] [] rfl ?_
    refine (show ∀ (n3001 : Nat) (i1 : Int), W _ _ _ _ _ ⟨[(0, (tL tRow).va a0, none), (1, (tL tRow).va a1, none), (5, isI .i64 i1, none)], []⟩ (f3039_l1 fu a0 a1 n3001 i1) from ?_) fu _
    intro n3001
    induction n3001 with
    | zero => exact fun _ => .stop
    | succ n3001 ih1 =>
      intro i1
      refine .inLoop <| .seq <| .seq <| .region <| .move rfl rfl <| .move rfl rfl <| .lenL rfl Tryz.underlying30 rfl <| .bin rfl rfl rfl rfl <| .nil ?_
      refine .cond rfl (fun _ => ?_) (fun _ => ?_)
      · refine .skip <| .seq <| .block <| .seq <| .pT fun h3 => ?_
        refine .pT fun h4 => ?_
        refine .draw 8 [] mix (by kernel_rfl) (.cons (fun _ _ _ hP hE h => .move (hE.op rfl) rfl <| h) <| .cons (fun _ _ _ hP hE h => .move (hE.op rfl) rfl <| h) <| .cons (fun _ _ _ hP hE h => .useC h3 <| .elemAt (hE.op rfl) (hE.op rfl) Tryz.underlying30 ty37 rfl <| h) <| .cons (fun _ _ _ hP hE h => .load (hE.op rfl) ty37 rfl <| h) <| .cons (fun _ _ _ hP hE h => .move (hE.op rfl) rfl <| h) <| .cons (fun _ _ _ hP hE h => .move (hE.op rfl) rfl <| h) <| .cons (fun _ _ _ hP hE h => .useC h4 <| .elemAt (hE.op rfl) (hE.op rfl) Tryz.underlying30 ty37 rfl <| h) <| .cons (fun _ _ _ hP hE h => .load (hE.op rfl) ty37 rfl <| h) <| .nil) rfl <| .call0 (c3078 fu _ _) n3078 rfl rfl fun q2 => .not rfl rfl <| .nil ?_
        refine .cond rfl (fun _ => ?_) (fun _ => ?_)
        · refine .seq <| .region <| .assign rfl rfl <| .nil ?_
          exact .ret1 Tryz.func39 Tryz.results39 (.tmp rfl) rfl (fun _ _ => .slnil)
        · refine .skip <| .inBlock <| .region <| .move rfl rfl <| .bin rfl rfl rfl rfl <| .assign rfl rfl <| .nil ?_
          exact .keep [0, 1, 5] [] rfl (ih1 _)
      · refine .exit rfl <| .seq <| .region <| .assign rfl rfl <| .nil ?_
        exact .ret1 Tryz.func39 Tryz.results39 (.tmp rfl) rfl (fun _ _ => .slnil)
def f3011 (fu : Nat) (a0 : Table) (a1 : Table) : Option Bool := (f3037 fu a0.first a1.first).bind fun q3 => cond (!q3) (some false) ((f3038 fu a0.changes a1.changes).bind fun q4 => cond (!q4) (some false) ((f3039 fu a0.rows a1.rows).bind fun q5 => cond (!q5) (some false) (cond (!decide (a0.next = a1.next)) (some false) (some true))))
theorem n3011 : ∃ fn c, Tryz.prog.funcs[11]? = some fn ∧ (fn.name == "runtime.NumGoroutine") = false ∧ fn.body = some c := ⟨_, _, Tryz.func11, by kernel_rfl, rfl⟩
theorem c3011 (fu : Nat) (a0 : Table) (a1 : Table) : Ctr Tryz.prog 11 [tTable.va a0, tTable.va a1] [] (f3011 fu a0 a1) (fun _ _ => []) (fun q => isB q) := by
  refine Ctr.of_W Tryz.func11 rfl Tryz.ntmps11 rfl fun A w => ?_
  unfold f3011
  refine .seq <| .region <| .box (T := tTable) rfl rfl fun b1 => .box (T := tTable) rfl rfl fun b2 => .assign rfl rfl <| .nil ?_
  refine .seq <| .seq <| .region <| .fieldP rfl fa27_0 rfl <| .loadP 1 fTable_0 rfl rfl ty23 rfl <| .fieldP rfl fa27_0 rfl <| .loadP 0 fTable_0 rfl rfl ty23 rfl <| .call0 (c3037 fu _ _) n3037 rfl rfl fun q3 => .not rfl rfl <| .nil ?_
  refine .cond rfl (fun _ => ?_) (fun _ => ?_)
  · refine .seq <| .region <| .assign rfl rfl <| .nil ?_
    exact .ret1 Tryz.func11 Tryz.results11 (.tmp rfl) rfl (fun _ _ => .cons _ <| .cons _ <| .slnil)
  · refine .skip <| .seq <| .seq <| .region <| .fieldP rfl fa27_1 rfl <| .loadP 1 fTable_1 rfl rfl ty24 rfl <| .fieldP rfl fa27_1 rfl <| .loadP 0 fTable_1 rfl rfl ty24 rfl <| .call0 (c3038 fu _ _) n3038 rfl rfl fun q4 => .not rfl rfl <| .nil ?_
    refine .cond rfl (fun _ => ?_) (fun _ => ?_)
    · refine .seq <| .region <| .assign rfl rfl <| .nil ?_
      exact .ret1 Tryz.func11 Tryz.results11 (.tmp rfl) rfl (fun _ _ => .cons _ <| .cons _ <| .slnil)
    · refine .skip <| .seq <| .seq <| .region <| .fieldP rfl fa27_2 rfl <| .loadP 1 fTable_2 rfl rfl ty25 rfl <| .fieldP rfl fa27_2 rfl <| .loadP 0 fTable_2 rfl rfl ty25 rfl <| .call0 (c3039 fu _ _) n3039 rfl rfl fun q5 => .not rfl rfl <| .nil ?_
      refine .cond rfl (fun _ => ?_) (fun _ => ?_)
      · refine .seq <| .region <| .assign rfl rfl <| .nil ?_
        exact .ret1 Tryz.func11 Tryz.results11 (.tmp rfl) rfl (fun _ _ => .cons _ <| .cons _ <| .slnil)
      · refine .skip <| .seq <| .seq <| .region <| .fieldP rfl fa27_3 rfl <| .loadP 1 fTable_3 rfl rfl ty3 rfl <| .fieldP rfl fa27_3 rfl <| .loadP 0 fTable_3 rfl rfl ty3 rfl <| .bin rfl rfl rfl rfl <| .nil ?_
        refine .cond rfl (fun _ => ?_) (fun _ => ?_)
        · refine .seq <| .region <| .assign rfl rfl <| .nil ?_
          exact .ret1 Tryz.func11 Tryz.results11 (.tmp rfl) rfl (fun _ _ => .cons _ <| .cons _ <| .slnil)
        · refine .skip <| .seq <| .region <| .assign rfl rfl <| .nil ?_
          exact .ret1 Tryz.func11 Tryz.results11 (.tmp rfl) rfl (fun _ _ => .cons _ <| .cons _ <| .slnil)
def f3055_l1 : Nat → Int → (List UInt8) → Option (List UInt8)
  | 0, _, _ => none
  | n3001 + 1, i1, i2 => cond (decide (0 < i1)) (cond (decide ((10 : Int) = 0)) none (cond (decide (List.length (strI ([IntKind.u8.wrap (IntKind.i64.wrap (48 + (i1.tmod 10)))] : List Int)) + List.length i2 ≤ CAP)) (cond (decide ((10 : Int) = 0)) none ((f3055_l1 n3001) (IntKind.i64.wrap (i1.tdiv 10)) ((strI ([IntKind.u8.wrap (IntKind.i64.wrap (48 + (i1.tmod 10)))] : List Int)) ++ i2))) none)) (cond (decide (List.length ([109] : List UInt8) + List.length i2 ≤ CAP)) (some (([109] : List UInt8) ++ i2)) none)
def f3055 (fu : Nat) (a0 : Int) : Option (List UInt8) := cond (decide (a0 ≤ 0)) (some ([109, 48] : List UInt8)) (f3055_l1 fu a0 ([] : List UInt8))
theorem n3055 : ∃ fn c, Tryz.prog.funcs[55]? = some fn ∧ (fn.name == "runtime.NumGoroutine") = false ∧ fn.body = some c := ⟨_, _, Tryz.func55, by kernel_rfl, rfl⟩
theorem c3055 (fu : Nat) (a0 : Int) : Ctr Tryz.prog 55 [isI .i64 a0] [] (f3055 fu a0) (fun _ _ => []) (fun q => isS q) := by
  refine Ctr.of_W Tryz.func55 rfl Tryz.ntmps55 rfl fun A w => ?_
  unfold f3055
  refine .seq <| .region <| .assign rfl rfl <| .nil ?_
  refine .seq <| .seq <| .region <| .move rfl rfl <| .bin rfl rfl rfl rfl <| .nil ?_
  refine .cond rfl (fun _ => ?_) (fun _ => ?_)
  · refine .seq <| .region <| .assign rfl rfl <| .nil ?_
    exact .ret1 Tryz.func55 Tryz.results55 (.tmp rfl) rfl (fun _ _ => .slnil)
  · refine .skip <| .seq <| .region <| .assign rfl rfl <| .nil ?_
    refine .seq <| .block <| .loop <| .keep [0, 3] [] rfl ?_
    refine (show ∀ (n3001 : Nat) (i1 : Int) (i2 : List UInt8), W _ _ _ _ _ ⟨[(0, isI .i64 i1, none), (3, isS i2, none)], []⟩ (f3055_l1 n3001 i1 i2) from ?_) fu _ _
    intro n3001
    induction n3001 with
    | zero => exact fun _ _ => .stop
    | succ n3001 ih1 =>
      intro i1 i2
      refine .inLoop <| .seq <| .seq <| .region <| .move rfl rfl <| .bin rfl rfl rfl rfl <| .nil ?_
      refine .cond rfl (fun _ => ?_) (fun _ => ?_)
      · refine .skip <| .block <| .seq <| .region <| .move rfl rfl <| .rem rfl rfl rfl <| .bin rfl rfl rfl rfl <| .conv rfl ⟨_, Tryz.underlying3⟩ Tryz.underlying5 rfl <| .litN (T := (tI .u8)) Tryz.underlying130 el5 rfl rfl (.cons rfl <| .nil) rfl <| .convBS rfl Tryz.underlying130 Tryz.underlying5 Tryz.underlying9 rfl <| .move rfl rfl <| .cat rfl rfl rfl <| .assign rfl rfl <| .nil ?_
        refine .region <| .move rfl rfl <| .quo rfl rfl rfl <| .assign rfl rfl <| .nil ?_
        exact .inBlock <| .keep [0, 3] [] rfl (ih1 _ _)
      · refine .exit rfl <| .seq <| .region <| .move rfl rfl <| .cat rfl rfl rfl <| .assign rfl rfl <| .nil ?_
        exact .ret1 Tryz.func55 Tryz.results55 (.tmp rfl) rfl (fun _ _ => .slnil)
def f3043_l1 (fu : Nat) (a0 : List Col) : Nat → Int → Int → Option Int
  | 0, _, _ => none
  | n3001 + 1, i1, i2 => cond (decide (i2 < (List.length a0 : Int))) (cond (decide (0 ≤ i2) && decide (i2 < (List.length a0 : Int))) ((f3055 fu i1).bind fun q3 => cond (!decide (((a0.getD i2.toNat default).name) = q3)) (some (-1)) (cond (decide (0 ≤ i2) && decide (i2 < (List.length a0 : Int))) (cond (!decide (((a0.getD i2.toNat default).kind) = (IntKind.i64.wrap (i1 + 1)))) (some (-1)) (cond (decide (0 ≤ i2) && decide (i2 < (List.length a0 : Int))) (cond (decide ((3 : Int) = 0)) none (cond (!(((a0.getD i2.toNat default).need) == (decide (((IntKind.i64.wrap ((IntKind.i64.wrap (i1 + 1)) + 1)).tmod 3) = 0)))) (some (-1)) (cond (decide (0 ≤ i2) && decide (i2 < (List.length a0 : Int))) (cond (decide ((3 : Int) = 0)) none (cond (!(((a0.getD i2.toNat default).once) == (decide (((IntKind.i64.wrap ((IntKind.i64.wrap ((IntKind.i64.wrap (i1 + 1)) + 1)) + 1)).tmod 3) = 0)))) (some (-1)) (cond (decide (0 ≤ i2) && decide (i2 < (List.length a0 : Int))) (cond (!decide ((((a0.getD i2.toNat default).def_).kind) = (IntKind.i64.wrap ((IntKind.i64.wrap ((IntKind.i64.wrap ((IntKind.i64.wrap (i1 + 1)) + 1)) + 1)) + 1)))) (some (-1)) (cond (decide (0 ≤ i2) && decide (i2 < (List.length a0 : Int))) (cond (!decide ((((a0.getD i2.toNat default).def_).n) = (IntKind.i64.wrap ((IntKind.i64.wrap ((IntKind.i64.wrap ((IntKind.i64.wrap ((IntKind.i64.wrap (i1 + 1)) + 1)) + 1)) + 1)) + 1)))) (some (-1)) (cond (decide (0 ≤ i2) && decide (i2 < (List.length a0 : Int))) ((f3055 fu (IntKind.i64.wrap ((IntKind.i64.wrap ((IntKind.i64.wrap ((IntKind.i64.wrap ((IntKind.i64.wrap ((IntKind.i64.wrap (i1 + 1)) + 1)) + 1)) + 1)) + 1)) + 1))).bind fun q4 => cond (!decide ((((a0.getD i2.toNat default).def_).text) = q4)) (some (-1)) ((f3043_l1 fu a0 n3001) (IntKind.i64.wrap ((IntKind.i64.wrap ((IntKind.i64.wrap ((IntKind.i64.wrap ((IntKind.i64.wrap ((IntKind.i64.wrap ((IntKind.i64.wrap (i1 + 1)) + 1)) + 1)) + 1)) + 1)) + 1)) + 1)) (IntKind.i64.wrap (i2 + 1)))) none)) none)) none))) none))) none)) none)) none) (some i1)
def f3043 (fu : Nat) (a0 : List Col) (a1 : Int) : Option Int := f3043_l1 fu a0 fu a1 0
theorem n3043 : ∃ fn c, Tryz.prog.funcs[43]? = some fn ∧ (fn.name == "runtime.NumGoroutine") = false ∧ fn.body = some c := ⟨_, _, Tryz.func43, by kernel_rfl, rfl⟩
theorem c3043 (fu : Nat) (a0 : List Col) (a1 : Int) : Ctr Tryz.prog 43 [(tL tCol).va a0, isI .i64 a1] [] (f3043 fu a0 a1) (fun _ _ => []) (fun q => isI .i64 q) := by
  refine Ctr.of_W Tryz.func43 rfl Tryz.ntmps43 rfl fun A w => ?_
  unfold f3043
  refine .seq <| .region <| .assign rfl rfl <| .nil ?_
  refine .seq <| .seq <| .region <| .assign rfl rfl <| .nil ?_
  refine .block <| .loop <| .keep [0, 1, 5] [] rfl ?_
  refine (show ∀ (n3001 : Nat) (i1 : Int) (i2 : Int), W _ _ _ _ _ ⟨[(0, (tL tCol).va a0, none), (1, isI .i64 i1, none), (5, isI .i64 i2, none)], []⟩ (f3043_l1 fu a0 n3001 i1 i2) from ?_) fu _ _
  intro n3001
  induction n3001 with
  | zero => exact fun _ _ => .stop
  | succ n3001 ih1 =>
    intro i1 i2
    refine .inLoop <| .seq <| .seq <| .region <| .move rfl rfl <| .move rfl rfl <| .lenL rfl Tryz.underlying28 rfl <| .bin rfl rfl rfl rfl <| .nil ?_
    refine .cond rfl (fun _ => ?_) (fun _ => ?_)
    · refine .skip <| .seq <| .block <| .seq <| .seq <| .pT fun h5 => ?_
      refine .pbind fun q3 h6 => ?_
      refine .draw 7 [] mix (by kernel_rfl) (.cons (fun _ _ _ hP hE h => .move (hE.op rfl) rfl <| h) <| .cons (fun _ _ _ hP hE h => .move (hE.op rfl) rfl <| h) <| .cons (fun _ _ _ hP hE h => .useC h5 <| .elemAt (hE.op rfl) (hE.op rfl) Tryz.underlying28 ty52 rfl <| h) <| .cons (fun _ _ _ hP hE h => .fieldAt fCol_0 (hE.op rfl) fa52_0 rfl <| h) <| .cons (fun _ _ _ hP hE h => .load (hE.op rfl) ty9 rfl <| h) <| .cons (fun _ _ _ hP hE h => .move (hE.op rfl) rfl <| h) <| .cons (fun _ _ _ hP hE h => .bindE h6 (fun r h => .call0 (c3055 fu _) n3055 (hE.ops rfl) rfl h) <| h) <| .nil) rfl <| .sne rfl rfl rfl <| .nil ?_
      refine .cond rfl (fun _ => ?_) (fun _ => ?_)
      · refine .seq <| .region <| .assign rfl rfl <| .nil ?_
        exact .ret1 Tryz.func43 Tryz.results43 (.tmp rfl) rfl (fun _ _ => .slnil)
      · refine .skip <| .seq <| .region <| .move rfl rfl <| .bin rfl rfl rfl rfl <| .assign rfl rfl <| .nil ?_
        refine .seq <| .seq <| .region <| .move rfl rfl <| .move rfl rfl <| .elemAt rfl rfl Tryz.underlying28 ty52 rfl <| .fieldAt fCol_1 rfl fa52_1 rfl <| .load rfl ty3 rfl <| .move rfl rfl <| .bin rfl rfl rfl rfl <| .nil ?_
        refine .cond rfl (fun _ => ?_) (fun _ => ?_)
        · refine .seq <| .region <| .assign rfl rfl <| .nil ?_
          exact .ret1 Tryz.func43 Tryz.results43 (.tmp rfl) rfl (fun _ _ => .slnil)
        · refine .skip <| .seq <| .region <| .move rfl rfl <| .bin rfl rfl rfl rfl <| .assign rfl rfl <| .nil ?_
          refine .seq <| .seq <| .region <| .move rfl rfl <| .move rfl rfl <| .elemAt rfl rfl Tryz.underlying28 ty52 rfl <| .fieldAt fCol_2 rfl fa52_2 rfl <| .load rfl ty4 rfl <| .move rfl rfl <| .rem rfl rfl rfl <| .bin rfl rfl rfl rfl <| .bne rfl rfl Tryz.underlying4 rfl <| .nil ?_
          refine .cond rfl (fun _ => ?_) (fun _ => ?_)
          · refine .seq <| .region <| .assign rfl rfl <| .nil ?_
            exact .ret1 Tryz.func43 Tryz.results43 (.tmp rfl) rfl (fun _ _ => .slnil)
          · refine .skip <| .seq <| .region <| .move rfl rfl <| .bin rfl rfl rfl rfl <| .assign rfl rfl <| .nil ?_
            refine .seq <| .seq <| .region <| .move rfl rfl <| .move rfl rfl <| .elemAt rfl rfl Tryz.underlying28 ty52 rfl <| .fieldAt fCol_3 rfl fa52_3 rfl <| .load rfl ty4 rfl <| .move rfl rfl <| .rem rfl rfl rfl <| .bin rfl rfl rfl rfl <| .bne rfl rfl Tryz.underlying4 rfl <| .nil ?_
            refine .cond rfl (fun _ => ?_) (fun _ => ?_)
            · refine .seq <| .region <| .assign rfl rfl <| .nil ?_
              exact .ret1 Tryz.func43 Tryz.results43 (.tmp rfl) rfl (fun _ _ => .slnil)
            · refine .skip <| .seq <| .region <| .move rfl rfl <| .bin rfl rfl rfl rfl <| .assign rfl rfl <| .nil ?_
              refine .seq <| .seq <| .region <| .move rfl rfl <| .move rfl rfl <| .elemAt rfl rfl Tryz.underlying28 ty52 rfl <| .fieldAt fCol_4 rfl fa52_4 rfl <| .fieldAt fVal_0 rfl fa47_0 rfl <| .load rfl ty3 rfl <| .move rfl rfl <| .bin rfl rfl rfl rfl <| .nil ?_
              refine .cond rfl (fun _ => ?_) (fun _ => ?_)
              · refine .seq <| .region <| .assign rfl rfl <| .nil ?_
                exact .ret1 Tryz.func43 Tryz.results43 (.tmp rfl) rfl (fun _ _ => .slnil)
              · refine .skip <| .seq <| .region <| .move rfl rfl <| .bin rfl rfl rfl rfl <| .assign rfl rfl <| .nil ?_
                refine .seq <| .seq <| .region <| .move rfl rfl <| .move rfl rfl <| .elemAt rfl rfl Tryz.underlying28 ty52 rfl <| .fieldAt fCol_4 rfl fa52_4 rfl <| .fieldAt fVal_1 rfl fa47_1 rfl <| .load rfl ty3 rfl <| .move rfl rfl <| .bin rfl rfl rfl rfl <| .nil ?_
                refine .cond rfl (fun _ => ?_) (fun _ => ?_)
                · refine .seq <| .region <| .assign rfl rfl <| .nil ?_
                  exact .ret1 Tryz.func43 Tryz.results43 (.tmp rfl) rfl (fun _ _ => .slnil)
                · refine .skip <| .seq <| .region <| .move rfl rfl <| .bin rfl rfl rfl rfl <| .assign rfl rfl <| .nil ?_
                  refine .seq <| .seq <| .pT fun h7 => ?_
                  refine .pbind fun q4 h8 => ?_
                  refine .draw 8 [] mix (by kernel_rfl) (.cons (fun _ _ _ hP hE h => .move (hE.op rfl) rfl <| h) <| .cons (fun _ _ _ hP hE h => .move (hE.op rfl) rfl <| h) <| .cons (fun _ _ _ hP hE h => .useC h7 <| .elemAt (hE.op rfl) (hE.op rfl) Tryz.underlying28 ty52 rfl <| h) <| .cons (fun _ _ _ hP hE h => .fieldAt fCol_4 (hE.op rfl) fa52_4 rfl <| h) <| .cons (fun _ _ _ hP hE h => .fieldAt fVal_2 (hE.op rfl) fa47_2 rfl <| h) <| .cons (fun _ _ _ hP hE h => .load (hE.op rfl) ty9 rfl <| h) <| .cons (fun _ _ _ hP hE h => .move (hE.op rfl) rfl <| h) <| .cons (fun _ _ _ hP hE h => .bindE h8 (fun r h => .call0 (c3055 fu _) n3055 (hE.ops rfl) rfl h) <| h) <| .nil) rfl <| .sne rfl rfl rfl <| .nil ?_
                  refine .cond rfl (fun _ => ?_) (fun _ => ?_)
                  · refine .seq <| .region <| .assign rfl rfl <| .nil ?_
                    exact .ret1 Tryz.func43 Tryz.results43 (.tmp rfl) rfl (fun _ _ => .slnil)
                  · refine .skip <| .region <| .move rfl rfl <| .bin rfl rfl rfl rfl <| .assign rfl rfl <| .nil ?_
                    refine .inBlock <| .region <| .move rfl rfl <| .bin rfl rfl rfl rfl <| .assign rfl rfl <| .nil ?_
                    exact .keep [0, 1, 5] [] rfl (ih1 _ _)
    · refine .exit rfl <| .seq <| .region <| .move rfl rfl <| .assign rfl rfl <| .nil ?_
      exact .ret1 Tryz.func43 Tryz.results43 (.tmp rfl) rfl (fun _ _ => .slnil)
def f3044_l1 (fu : Nat) (a0 : List Change) : Nat → Int → Int → Option Int
  | 0, _, _ => none
  | n3001 + 1, i1, i2 => cond (decide (i2 < (List.length a0 : Int))) (cond (decide (0 ≤ i2) && decide (i2 < (List.length a0 : Int))) (cond (!decide (((a0.getD i2.toNat default).kind) = i1)) (some (-1)) (cond (decide (0 ≤ i2) && decide (i2 < (List.length a0 : Int))) ((f3055 fu (IntKind.i64.wrap (i1 + 1))).bind fun q3 => cond (!decide (((a0.getD i2.toNat default).name) = q3)) (some (-1)) (cond (decide (0 ≤ i2) && decide (i2 < (List.length a0 : Int))) ((f3055 fu (IntKind.i64.wrap ((IntKind.i64.wrap (i1 + 1)) + 1))).bind fun q4 => cond (!decide (((a0.getD i2.toNat default).new) = q4)) (some (-1)) (cond (decide (0 ≤ i2) && decide (i2 < (List.length a0 : Int))) ((f3055 fu (IntKind.i64.wrap ((IntKind.i64.wrap ((IntKind.i64.wrap (i1 + 1)) + 1)) + 1))).bind fun q5 => cond (!decide ((((a0.getD i2.toNat default).col).name) = q5)) (some (-1)) (cond (decide (0 ≤ i2) && decide (i2 < (List.length a0 : Int))) (cond (!decide ((((a0.getD i2.toNat default).col).kind) = (IntKind.i64.wrap ((IntKind.i64.wrap ((IntKind.i64.wrap ((IntKind.i64.wrap (i1 + 1)) + 1)) + 1)) + 1)))) (some (-1)) (cond (decide (0 ≤ i2) && decide (i2 < (List.length a0 : Int))) (cond (decide ((3 : Int) = 0)) none (cond (!((((a0.getD i2.toNat default).col).need) == (decide (((IntKind.i64.wrap ((IntKind.i64.wrap ((IntKind.i64.wrap ((IntKind.i64.wrap ((IntKind.i64.wrap (i1 + 1)) + 1)) + 1)) + 1)) + 1)).tmod 3) = 0)))) (some (-1)) (cond (decide (0 ≤ i2) && decide (i2 < (List.length a0 : Int))) (cond (decide ((3 : Int) = 0)) none (cond (!((((a0.getD i2.toNat default).col).once) == (decide (((IntKind.i64.wrap ((IntKind.i64.wrap ((IntKind.i64.wrap ((IntKind.i64.wrap ((IntKind.i64.wrap ((IntKind.i64.wrap (i1 + 1)) + 1)) + 1)) + 1)) + 1)) + 1)).tmod 3) = 0)))) (some (-1)) (cond (decide (0 ≤ i2) && decide (i2 < (List.length a0 : Int))) (cond (!decide (((((a0.getD i2.toNat default).col).def_).kind) = (IntKind.i64.wrap ((IntKind.i64.wrap ((IntKind.i64.wrap ((IntKind.i64.wrap ((IntKind.i64.wrap ((IntKind.i64.wrap ((IntKind.i64.wrap (i1 + 1)) + 1)) + 1)) + 1)) + 1)) + 1)) + 1)))) (some (-1)) (cond (decide (0 ≤ i2) && decide (i2 < (List.length a0 : Int))) (cond (!decide (((((a0.getD i2.toNat default).col).def_).n) = (IntKind.i64.wrap ((IntKind.i64.wrap ((IntKind.i64.wrap ((IntKind.i64.wrap ((IntKind.i64.wrap ((IntKind.i64.wrap ((IntKind.i64.wrap ((IntKind.i64.wrap (i1 + 1)) + 1)) + 1)) + 1)) + 1)) + 1)) + 1)) + 1)))) (some (-1)) (cond (decide (0 ≤ i2) && decide (i2 < (List.length a0 : Int))) ((f3055 fu (IntKind.i64.wrap ((IntKind.i64.wrap ((IntKind.i64.wrap ((IntKind.i64.wrap ((IntKind.i64.wrap ((IntKind.i64.wrap ((IntKind.i64.wrap ((IntKind.i64.wrap ((IntKind.i64.wrap (i1 + 1)) + 1)) + 1)) + 1)) + 1)) + 1)) + 1)) + 1)) + 1))).bind fun q6 => cond (!decide (((((a0.getD i2.toNat default).col).def_).text) = q6)) (some (-1)) ((f3044_l1 fu a0 n3001) (IntKind.i64.wrap ((IntKind.i64.wrap ((IntKind.i64.wrap ((IntKind.i64.wrap ((IntKind.i64.wrap ((IntKind.i64.wrap ((IntKind.i64.wrap ((IntKind.i64.wrap ((IntKind.i64.wrap ((IntKind.i64.wrap (i1 + 1)) + 1)) + 1)) + 1)) + 1)) + 1)) + 1)) + 1)) + 1)) + 1)) (IntKind.i64.wrap (i2 + 1)))) none)) none)) none))) none))) none)) none)) none)) none)) none)) none) (some i1)
def f3044 (fu : Nat) (a0 : List Change) (a1 : Int) : Option Int := f3044_l1 fu a0 fu a1 0
theorem n3044 : ∃ fn c, Tryz.prog.funcs[44]? = some fn ∧ (fn.name == "runtime.NumGoroutine") = false ∧ fn.body = some c := ⟨_, _, Tryz.func44, by kernel_rfl, rfl⟩
theorem c3044 (fu : Nat) (a0 : List Change) (a1 : Int) : Ctr Tryz.prog 44 [(tL tChange).va a0, isI .i64 a1] [] (f3044 fu a0 a1) (fun _ _ => []) (fun q => isI .i64 q) := by
  refine Ctr.of_W Tryz.func44 rfl Tryz.ntmps44 rfl fun A w => ?_
  unfold f3044
  refine .seq <| .region <| .assign rfl rfl <| .nil ?_
  refine .seq <| .seq <| .region <| .assign rfl rfl <| .nil ?_
  refine .block <| .loop <| .keep [0, 1, 5] [] rfl ?_
  refine (show ∀ (n3001 : Nat) (i1 : Int) (i2 : Int), W _ _ _ _ _ ⟨[(0, (tL tChange).va a0, none), (1, isI .i64 i1, none), (5, isI .i64 i2, none)], []⟩ (f3044_l1 fu a0 n3001 i1 i2) from ?_) fu _ _
  intro n3001
  induction n3001 with
  | zero => exact fun _ _ => .stop
  | succ n3001 ih1 =>
    intro i1 i2
    refine .inLoop <| .seq <| .seq <| .region <| .move rfl rfl <| .move rfl rfl <| .lenL rfl Tryz.underlying29 rfl <| .bin rfl rfl rfl rfl <| .nil ?_
    refine .cond rfl (fun _ => ?_) (fun _ => ?_)
    · refine .skip <| .seq <| .block <| .seq <| .seq <| .region <| .move rfl rfl <| .move rfl rfl <| .elemAt rfl rfl Tryz.underlying29 ty56 rfl <| .fieldAt fChange_0 rfl fa56_0 rfl <| .load rfl ty3 rfl <| .move rfl rfl <| .bin rfl rfl rfl rfl <| .nil ?_
      refine .cond rfl (fun _ => ?_) (fun _ => ?_)
      · refine .seq <| .region <| .assign rfl rfl <| .nil ?_
        exact .ret1 Tryz.func44 Tryz.results44 (.tmp rfl) rfl (fun _ _ => .slnil)
      · refine .skip <| .seq <| .region <| .move rfl rfl <| .bin rfl rfl rfl rfl <| .assign rfl rfl <| .nil ?_
        refine .seq <| .seq <| .pT fun h9 => ?_
        refine .pbind fun q3 h10 => ?_
        refine .draw 7 [] mix (by kernel_rfl) (.cons (fun _ _ _ hP hE h => .move (hE.op rfl) rfl <| h) <| .cons (fun _ _ _ hP hE h => .move (hE.op rfl) rfl <| h) <| .cons (fun _ _ _ hP hE h => .useC h9 <| .elemAt (hE.op rfl) (hE.op rfl) Tryz.underlying29 ty56 rfl <| h) <| .cons (fun _ _ _ hP hE h => .fieldAt fChange_1 (hE.op rfl) fa56_1 rfl <| h) <| .cons (fun _ _ _ hP hE h => .load (hE.op rfl) ty9 rfl <| h) <| .cons (fun _ _ _ hP hE h => .move (hE.op rfl) rfl <| h) <| .cons (fun _ _ _ hP hE h => .bindE h10 (fun r h => .call0 (c3055 fu _) n3055 (hE.ops rfl) rfl h) <| h) <| .nil) rfl <| .sne rfl rfl rfl <| .nil ?_
        refine .cond rfl (fun _ => ?_) (fun _ => ?_)
        · refine .seq <| .region <| .assign rfl rfl <| .nil ?_
          exact .ret1 Tryz.func44 Tryz.results44 (.tmp rfl) rfl (fun _ _ => .slnil)
        · refine .skip <| .seq <| .region <| .move rfl rfl <| .bin rfl rfl rfl rfl <| .assign rfl rfl <| .nil ?_
          refine .seq <| .seq <| .pT fun h11 => ?_
          refine .pbind fun q4 h12 => ?_
          refine .draw 7 [] mix (by kernel_rfl) (.cons (fun _ _ _ hP hE h => .move (hE.op rfl) rfl <| h) <| .cons (fun _ _ _ hP hE h => .move (hE.op rfl) rfl <| h) <| .cons (fun _ _ _ hP hE h => .useC h11 <| .elemAt (hE.op rfl) (hE.op rfl) Tryz.underlying29 ty56 rfl <| h) <| .cons (fun _ _ _ hP hE h => .fieldAt fChange_2 (hE.op rfl) fa56_2 rfl <| h) <| .cons (fun _ _ _ hP hE h => .load (hE.op rfl) ty9 rfl <| h) <| .cons (fun _ _ _ hP hE h => .move (hE.op rfl) rfl <| h) <| .cons (fun _ _ _ hP hE h => .bindE h12 (fun r h => .call0 (c3055 fu _) n3055 (hE.ops rfl) rfl h) <| h) <| .nil) rfl <| .sne rfl rfl rfl <| .nil ?_
          refine .cond rfl (fun _ => ?_) (fun _ => ?_)
          · refine .seq <| .region <| .assign rfl rfl <| .nil ?_
            exact .ret1 Tryz.func44 Tryz.results44 (.tmp rfl) rfl (fun _ _ => .slnil)
          · refine .skip <| .seq <| .region <| .move rfl rfl <| .bin rfl rfl rfl rfl <| .assign rfl rfl <| .nil ?_
            refine .seq <| .seq <| .pT fun h13 => ?_
            refine .pbind fun q5 h14 => ?_
            refine .draw 8 [] mix (by kernel_rfl) (.cons (fun _ _ _ hP hE h => .move (hE.op rfl) rfl <| h) <| .cons (fun _ _ _ hP hE h => .move (hE.op rfl) rfl <| h) <| .cons (fun _ _ _ hP hE h => .useC h13 <| .elemAt (hE.op rfl) (hE.op rfl) Tryz.underlying29 ty56 rfl <| h) <| .cons (fun _ _ _ hP hE h => .fieldAt fChange_3 (hE.op rfl) fa56_3 rfl <| h) <| .cons (fun _ _ _ hP hE h => .fieldAt fCol_0 (hE.op rfl) fa52_0 rfl <| h) <| .cons (fun _ _ _ hP hE h => .load (hE.op rfl) ty9 rfl <| h) <| .cons (fun _ _ _ hP hE h => .move (hE.op rfl) rfl <| h) <| .cons (fun _ _ _ hP hE h => .bindE h14 (fun r h => .call0 (c3055 fu _) n3055 (hE.ops rfl) rfl h) <| h) <| .nil) rfl <| .sne rfl rfl rfl <| .nil ?_
            refine .cond rfl (fun _ => ?_) (fun _ => ?_)
            · refine .seq <| .region <| .assign rfl rfl <| .nil ?_
              exact .ret1 Tryz.func44 Tryz.results44 (.tmp rfl) rfl (fun _ _ => .slnil)
            · refine .skip <| .seq <| .region <| .move rfl rfl <| .bin rfl rfl rfl rfl <| .assign rfl rfl <| .nil ?_
              refine .seq <| .seq <| .region <| .move rfl rfl <| .move rfl rfl <| .elemAt rfl rfl Tryz.underlying29 ty56 rfl <| .fieldAt fChange_3 rfl fa56_3 rfl <| .fieldAt fCol_1 rfl fa52_1 rfl <| .load rfl ty3 rfl <| .move rfl rfl <| .bin rfl rfl rfl rfl <| .nil ?_
              refine .cond rfl (fun _ => ?_) (fun _ => ?_)
              · refine .seq <| .region <| .assign rfl rfl <| .nil ?_
                exact .ret1 Tryz.func44 Tryz.results44 (.tmp rfl) rfl (fun _ _ => .slnil)
              · refine .skip <| .seq <| .region <| .move rfl rfl <| .bin rfl rfl rfl rfl <| .assign rfl rfl <| .nil ?_
                refine .seq <| .seq <| .region <| .move rfl rfl <| .move rfl rfl <| .elemAt rfl rfl Tryz.underlying29 ty56 rfl <| .fieldAt fChange_3 rfl fa56_3 rfl <| .fieldAt fCol_2 rfl fa52_2 rfl <| .load rfl ty4 rfl <| .move rfl rfl <| .rem rfl rfl rfl <| .bin rfl rfl rfl rfl <| .bne rfl rfl Tryz.underlying4 rfl <| .nil ?_
                refine .cond rfl (fun _ => ?_) (fun _ => ?_)
                · refine .seq <| .region <| .assign rfl rfl <| .nil ?_
                  exact .ret1 Tryz.func44 Tryz.results44 (.tmp rfl) rfl (fun _ _ => .slnil)
                · refine .skip <| .seq <| .region <| .move rfl rfl <| .bin rfl rfl rfl rfl <| .assign rfl rfl <| .nil ?_
                  refine .seq <| .seq <| .region <| .move rfl rfl <| .move rfl rfl <| .elemAt rfl rfl Tryz.underlying29 ty56 rfl <| .fieldAt fChange_3 rfl fa56_3 rfl <| .fieldAt fCol_3 rfl fa52_3 rfl <| .load rfl ty4 rfl <| .move rfl rfl <| .rem rfl rfl rfl <| .bin rfl rfl rfl rfl <| .bne rfl rfl Tryz.underlying4 rfl <| .nil ?_
                  refine .cond rfl (fun _ => ?_) (fun _ => ?_)
                  · refine .seq <| .region <| .assign rfl rfl <| .nil ?_
                    exact .ret1 Tryz.func44 Tryz.results44 (.tmp rfl) rfl (fun _ _ => .slnil)
                  · refine .skip <| .seq <| .region <| .move rfl rfl <| .bin rfl rfl rfl rfl <| .assign rfl rfl <| .nil ?_
                    refine .seq <| .seq <| .region <| .move rfl rfl <| .move rfl rfl <| .elemAt rfl rfl Tryz.underlying29 ty56 rfl <| .fieldAt fChange_3 rfl fa56_3 rfl <| .fieldAt fCol_4 rfl fa52_4 rfl <| .fieldAt fVal_0 rfl fa47_0 rfl <| .load rfl ty3 rfl <| .move rfl rfl <| .bin rfl rfl rfl rfl <| .nil ?_
                    refine .cond rfl (fun _ => ?_) (fun _ => ?_)
                    · refine .seq <| .region <| .assign rfl rfl <| .nil ?_
                      exact .ret1 Tryz.func44 Tryz.results44 (.tmp rfl) rfl (fun _ _ => .slnil)
                    · refine .skip <| .seq <| .region <| .move rfl rfl <| .bin rfl rfl rfl rfl <| .assign rfl rfl <| .nil ?_
                      refine .seq <| .seq <| .region <| .move rfl rfl <| .move rfl rfl <| .elemAt rfl rfl Tryz.underlying29 ty56 rfl <| .fieldAt fChange_3 rfl fa56_3 rfl <| .fieldAt fCol_4 rfl fa52_4 rfl <| .fieldAt fVal_1 rfl fa47_1 rfl <| .load rfl ty3 rfl <| .move rfl rfl <| .bin rfl rfl rfl rfl <| .nil ?_
                      refine .cond rfl (fun _ => ?_) (fun _ => ?_)
                      · refine .seq <| .region <| .assign rfl rfl <| .nil ?_
                        exact .ret1 Tryz.func44 Tryz.results44 (.tmp rfl) rfl (fun _ _ => .slnil)
                      · refine .skip <| .seq <| .region <| .move rfl rfl <| .bin rfl rfl rfl rfl <| .assign rfl rfl <| .nil ?_
                        refine .seq <| .seq <| .pT fun h15 => ?_
                        refine .pbind fun q6 h16 => ?_
                        refine .draw 9 [] mix (by kernel_rfl) (.cons (fun _ _ _ hP hE h => .move (hE.op rfl) rfl <| h) <| .cons (fun _ _ _ hP hE h => .move (hE.op rfl) rfl <| h) <| .cons (fun _ _ _ hP hE h => .useC h15 <| .elemAt (hE.op rfl) (hE.op rfl) Tryz.underlying29 ty56 rfl <| h) <| .cons (fun _ _ _ hP hE h => .fieldAt fChange_3 (hE.op rfl) fa56_3 rfl <| h) <| .cons (fun _ _ _ hP hE h => .fieldAt fCol_4 (hE.op rfl) fa52_4 rfl <| h) <| .cons (fun _ _ _ hP hE h => .fieldAt fVal_2 (hE.op rfl) fa47_2 rfl <| h) <| .cons (fun _ _ _ hP hE h => .load (hE.op rfl) ty9 rfl <| h) <| .cons (fun _ _ _ hP hE h => .move (hE.op rfl) rfl <| h) <| .cons (fun _ _ _ hP hE h => .bindE h16 (fun r h => .call0 (c3055 fu _) n3055 (hE.ops rfl) rfl h) <| h) <| .nil) rfl <| .sne rfl rfl rfl <| .nil ?_
                        refine .cond rfl (fun _ => ?_) (fun _ => ?_)
                        · refine .seq <| .region <| .assign rfl rfl <| .nil ?_
                          exact .ret1 Tryz.func44 Tryz.results44 (.tmp rfl) rfl (fun _ _ => .slnil)
                        · refine .skip <| .region <| .move rfl rfl <| .bin rfl rfl rfl rfl <| .assign rfl rfl <| .nil ?_
                          refine .inBlock <| .region <| .move rfl rfl <| .bin rfl rfl rfl rfl <| .assign rfl rfl <| .nil ?_
                          exact .keep [0, 1, 5] [] rfl (ih1 _ _)
    · refine .exit rfl <| .seq <| .region <| .move rfl rfl <| .assign rfl rfl <| .nil ?_
      exact .ret1 Tryz.func44 Tryz.results44 (.tmp rfl) rfl (fun _ _ => .slnil)
def f3080_l1 (fu : Nat) (a0 : List Val) : Nat → Int → Int → Option Int
  | 0, _, _ => none
  | n3001 + 1, i1, i2 => cond (decide (i2 < (List.length a0 : Int))) (cond (decide (0 ≤ i2) && decide (i2 < (List.length a0 : Int))) (cond (!decide (((a0.getD i2.toNat default).kind) = i1)) (some (-1)) (cond (decide (0 ≤ i2) && decide (i2 < (List.length a0 : Int))) (cond (!decide (((a0.getD i2.toNat default).n) = (IntKind.i64.wrap (i1 + 1)))) (some (-1)) (cond (decide (0 ≤ i2) && decide (i2 < (List.length a0 : Int))) ((f3055 fu (IntKind.i64.wrap ((IntKind.i64.wrap (i1 + 1)) + 1))).bind fun q3 => cond (!decide (((a0.getD i2.toNat default).text) = q3)) (some (-1)) ((f3080_l1 fu a0 n3001) (IntKind.i64.wrap ((IntKind.i64.wrap ((IntKind.i64.wrap (i1 + 1)) + 1)) + 1)) (IntKind.i64.wrap (i2 + 1)))) none)) none)) none) (some i1)
def f3080 (fu : Nat) (a0 : List Val) (a1 : Int) : Option Int := f3080_l1 fu a0 fu a1 0
theorem n3080 : ∃ fn c, Tryz.prog.funcs[80]? = some fn ∧ (fn.name == "runtime.NumGoroutine") = false ∧ fn.body = some c := ⟨_, _, Tryz.func80, by kernel_rfl, rfl⟩
theorem c3080 (fu : Nat) (a0 : List Val) (a1 : Int) : Ctr Tryz.prog 80 [(tL tVal).va a0, isI .i64 a1] [] (f3080 fu a0 a1) (fun _ _ => []) (fun q => isI .i64 q) := by
  refine Ctr.of_W Tryz.func80 rfl Tryz.ntmps80 rfl fun A w => ?_
  unfold f3080
  refine .seq <| .region <| .assign rfl rfl <| .nil ?_
  refine .seq <| .seq <| .region <| .assign rfl rfl <| .nil ?_
  refine .block <| .loop <| .keep [0, 1, 5] [] rfl ?_
  refine (show ∀ (n3001 : Nat) (i1 : Int) (i2 : Int), W _ _ _ _ _ ⟨[(0, (tL tVal).va a0, none), (1, isI .i64 i1, none), (5, isI .i64 i2, none)], []⟩ (f3080_l1 fu a0 n3001 i1 i2) from ?_) fu _ _
  intro n3001
  induction n3001 with
  | zero => exact fun _ _ => .stop
  | succ n3001 ih1 =>
    intro i1 i2
    refine .inLoop <| .seq <| .seq <| .region <| .move rfl rfl <| .move rfl rfl <| .lenL rfl Tryz.underlying102 rfl <| .bin rfl rfl rfl rfl <| .nil ?_
    refine .cond rfl (fun _ => ?_) (fun _ => ?_)
    · refine .skip <| .seq <| .block <| .seq <| .seq <| .region <| .move rfl rfl <| .move rfl rfl <| .elemAt rfl rfl Tryz.underlying102 ty47 rfl <| .fieldAt fVal_0 rfl fa47_0 rfl <| .load rfl ty3 rfl <| .move rfl rfl <| .bin rfl rfl rfl rfl <| .nil ?_
      refine .cond rfl (fun _ => ?_) (fun _ => ?_)
      · refine .seq <| .region <| .assign rfl rfl <| .nil ?_
        exact .ret1 Tryz.func80 Tryz.results80 (.tmp rfl) rfl (fun _ _ => .slnil)
      · refine .skip <| .seq <| .region <| .move rfl rfl <| .bin rfl rfl rfl rfl <| .assign rfl rfl <| .nil ?_
        refine .seq <| .seq <| .region <| .move rfl rfl <| .move rfl rfl <| .elemAt rfl rfl Tryz.underlying102 ty47 rfl <| .fieldAt fVal_1 rfl fa47_1 rfl <| .load rfl ty3 rfl <| .move rfl rfl <| .bin rfl rfl rfl rfl <| .nil ?_
        refine .cond rfl (fun _ => ?_) (fun _ => ?_)
        · refine .seq <| .region <| .assign rfl rfl <| .nil ?_
          exact .ret1 Tryz.func80 Tryz.results80 (.tmp rfl) rfl (fun _ _ => .slnil)
        · refine .skip <| .seq <| .region <| .move rfl rfl <| .bin rfl rfl rfl rfl <| .assign rfl rfl <| .nil ?_
          refine .seq <| .seq <| .pT fun h3 => ?_
          refine .pbind fun q3 h4 => ?_
          refine .draw 7 [] mix (by kernel_rfl) (.cons (fun _ _ _ hP hE h => .move (hE.op rfl) rfl <| h) <| .cons (fun _ _ _ hP hE h => .move (hE.op rfl) rfl <| h) <| .cons (fun _ _ _ hP hE h => .useC h3 <| .elemAt (hE.op rfl) (hE.op rfl) Tryz.underlying102 ty47 rfl <| h) <| .cons (fun _ _ _ hP hE h => .fieldAt fVal_2 (hE.op rfl) fa47_2 rfl <| h) <| .cons (fun _ _ _ hP hE h => .load (hE.op rfl) ty9 rfl <| h) <| .cons (fun _ _ _ hP hE h => .move (hE.op rfl) rfl <| h) <| .cons (fun _ _ _ hP hE h => .bindE h4 (fun r h => .call0 (c3055 fu _) n3055 (hE.ops rfl) rfl h) <| h) <| .nil) rfl <| .sne rfl rfl rfl <| .nil ?_
          refine .cond rfl (fun _ => ?_) (fun _ => ?_)
          · refine .seq <| .region <| .assign rfl rfl <| .nil ?_
            exact .ret1 Tryz.func80 Tryz.results80 (.tmp rfl) rfl (fun _ _ => .slnil)
          · refine .skip <| .region <| .move rfl rfl <| .bin rfl rfl rfl rfl <| .assign rfl rfl <| .nil ?_
            refine .inBlock <| .region <| .move rfl rfl <| .bin rfl rfl rfl rfl <| .assign rfl rfl <| .nil ?_
            exact .keep [0, 1, 5] [] rfl (ih1 _ _)
    · refine .exit rfl <| .seq <| .region <| .move rfl rfl <| .assign rfl rfl <| .nil ?_
      exact .ret1 Tryz.func80 Tryz.results80 (.tmp rfl) rfl (fun _ _ => .slnil)
def f3045_l1 (fu : Nat) (a0 : List Row) : Nat → Int → Int → Option Int
  | 0, _, _ => none
  | n3001 + 1, i1, i2 => cond (decide (i2 < (List.length a0 : Int))) (cond (decide (0 ≤ i2) && decide (i2 < (List.length a0 : Int))) (cond (!decide (((a0.getD i2.toNat default).id) = i1)) (some (-1)) (cond (decide (0 ≤ i2) && decide (i2 < (List.length a0 : Int))) (cond (!decide (((a0.getD i2.toNat default).ver) = (IntKind.i64.wrap (i1 + 1)))) (some (-1)) (cond (decide (0 ≤ i2) && decide (i2 < (List.length a0 : Int))) ((f3080 fu ((a0.getD i2.toNat default).vals) (IntKind.i64.wrap ((IntKind.i64.wrap (i1 + 1)) + 1))).bind fun q3 => cond (decide (q3 < 0)) (some (-1)) ((f3045_l1 fu a0 n3001) q3 (IntKind.i64.wrap (i2 + 1)))) none)) none)) none) (some i1)
def f3045 (fu : Nat) (a0 : List Row) (a1 : Int) : Option Int := f3045_l1 fu a0 fu a1 0
theorem n3045 : ∃ fn c, Tryz.prog.funcs[45]? = some fn ∧ (fn.name == "runtime.NumGoroutine") = false ∧ fn.body = some c := ⟨_, _, Tryz.func45, by kernel_rfl, rfl⟩
theorem c3045 (fu : Nat) (a0 : List Row) (a1 : Int) : Ctr Tryz.prog 45 [(tL tRow).va a0, isI .i64 a1] [] (f3045 fu a0 a1) (fun _ _ => []) (fun q => isI .i64 q) := by
  refine Ctr.of_W Tryz.func45 rfl Tryz.ntmps45 rfl fun A w => ?_
  unfold f3045
  refine .seq <| .region <| .assign rfl rfl <| .nil ?_
  refine .seq <| .seq <| .region <| .assign rfl rfl <| .nil ?_
  refine .block <| .loop <| .keep [0, 1, 5] [] rfl ?_
  refine (show ∀ (n3001 : Nat) (i1 : Int) (i2 : Int), W _ _ _ _ _ ⟨[(0, (tL tRow).va a0, none), (1, isI .i64 i1, none), (5, isI .i64 i2, none)], []⟩ (f3045_l1 fu a0 n3001 i1 i2) from ?_) fu _ _
  intro n3001
  induction n3001 with
  | zero => exact fun _ _ => .stop
  | succ n3001 ih1 =>
    intro i1 i2
    refine .inLoop <| .seq <| .seq <| .region <| .move rfl rfl <| .move rfl rfl <| .lenL rfl Tryz.underlying30 rfl <| .bin rfl rfl rfl rfl <| .nil ?_
    refine .cond rfl (fun _ => ?_) (fun _ => ?_)
    · refine .skip <| .seq <| .block <| .seq <| .seq <| .region <| .move rfl rfl <| .move rfl rfl <| .elemAt rfl rfl Tryz.underlying30 ty37 rfl <| .fieldAt fRow_0 rfl fa37_0 rfl <| .load rfl ty3 rfl <| .move rfl rfl <| .bin rfl rfl rfl rfl <| .nil ?_
      refine .cond rfl (fun _ => ?_) (fun _ => ?_)
      · refine .seq <| .region <| .assign rfl rfl <| .nil ?_
        exact .ret1 Tryz.func45 Tryz.results45 (.tmp rfl) rfl (fun _ _ => .slnil)
      · refine .skip <| .seq <| .region <| .move rfl rfl <| .bin rfl rfl rfl rfl <| .assign rfl rfl <| .nil ?_
        refine .seq <| .seq <| .region <| .move rfl rfl <| .move rfl rfl <| .elemAt rfl rfl Tryz.underlying30 ty37 rfl <| .fieldAt fRow_1 rfl fa37_1 rfl <| .load rfl ty3 rfl <| .move rfl rfl <| .bin rfl rfl rfl rfl <| .nil ?_
        refine .cond rfl (fun _ => ?_) (fun _ => ?_)
        · refine .seq <| .region <| .assign rfl rfl <| .nil ?_
          exact .ret1 Tryz.func45 Tryz.results45 (.tmp rfl) rfl (fun _ _ => .slnil)
        · refine .skip <| .seq <| .region <| .move rfl rfl <| .bin rfl rfl rfl rfl <| .assign rfl rfl <| .nil ?_
          refine .seq <| .region <| .move rfl rfl <| .move rfl rfl <| .elemAt rfl rfl Tryz.underlying30 ty37 rfl <| .fieldAt fRow_2 rfl fa37_2 rfl <| .load rfl ty32 rfl <| .move rfl rfl <| .call0 (c3080 fu _ _) n3080 rfl rfl fun q3 => .assign rfl rfl <| .nil ?_
          refine .seq <| .region <| .move rfl rfl <| .bin rfl rfl rfl rfl <| .nil ?_
          refine .cond rfl (fun _ => ?_) (fun _ => ?_)
          · refine .seq <| .region <| .assign rfl rfl <| .nil ?_
            exact .ret1 Tryz.func45 Tryz.results45 (.tmp rfl) rfl (fun _ _ => .slnil)
          · refine .skip <| .inBlock <| .region <| .move rfl rfl <| .bin rfl rfl rfl rfl <| .assign rfl rfl <| .nil ?_
            exact .keep [0, 1, 5] [] rfl (ih1 _ _)
    · refine .exit rfl <| .seq <| .region <| .move rfl rfl <| .assign rfl rfl <| .nil ?_
      exact .ret1 Tryz.func45 Tryz.results45 (.tmp rfl) rfl (fun _ _ => .slnil)
def f3013 (fu : Nat) (a0 : Table) (a1 : Int) : Option Int := (f3043 fu a0.first a1).bind fun q2 => cond (decide (q2 < 0)) (some (-1)) ((f3044 fu a0.changes q2).bind fun q3 => cond (decide (q3 < 0)) (some (-1)) ((f3045 fu a0.rows q3).bind fun q4 => cond (decide (q4 < 0)) (some (-1)) (some q4)))
theorem n3013 : ∃ fn c, Tryz.prog.funcs[13]? = some fn ∧ (fn.name == "runtime.NumGoroutine") = false ∧ fn.body = some c := ⟨_, _, Tryz.func13, by kernel_rfl, rfl⟩
theorem c3013 (fu : Nat) (a0 : Table) (a1 : Int) : Ctr Tryz.prog 13 [tTable.va a0, isI .i64 a1] [] (f3013 fu a0 a1) (fun _ _ => []) (fun q => isI .i64 q) := by
  refine Ctr.of_W Tryz.func13 rfl Tryz.ntmps13 rfl fun A w => ?_
  unfold f3013
  refine .seq <| .region <| .box (T := tTable) rfl rfl fun b1 => .assign rfl rfl <| .nil ?_
  refine .seq <| .region <| .fieldP rfl fa27_0 rfl <| .loadP 0 fTable_0 rfl rfl ty23 rfl <| .move rfl rfl <| .call0 (c3043 fu _ _) n3043 rfl rfl fun q2 => .assign rfl rfl <| .nil ?_
  refine .seq <| .seq <| .region <| .move rfl rfl <| .bin rfl rfl rfl rfl <| .nil ?_
  refine .cond rfl (fun _ => ?_) (fun _ => ?_)
  · refine .seq <| .region <| .assign rfl rfl <| .nil ?_
    exact .ret1 Tryz.func13 Tryz.results13 (.tmp rfl) rfl (fun _ _ => .cons _ <| .slnil)
  · refine .skip <| .seq <| .region <| .fieldP rfl fa27_1 rfl <| .loadP 0 fTable_1 rfl rfl ty24 rfl <| .move rfl rfl <| .call0 (c3044 fu _ _) n3044 rfl rfl fun q3 => .assign rfl rfl <| .nil ?_
    refine .seq <| .seq <| .region <| .move rfl rfl <| .bin rfl rfl rfl rfl <| .nil ?_
    refine .cond rfl (fun _ => ?_) (fun _ => ?_)
    · refine .seq <| .region <| .assign rfl rfl <| .nil ?_
      exact .ret1 Tryz.func13 Tryz.results13 (.tmp rfl) rfl (fun _ _ => .cons _ <| .slnil)
    · refine .skip <| .seq <| .region <| .fieldP rfl fa27_2 rfl <| .loadP 0 fTable_2 rfl rfl ty25 rfl <| .move rfl rfl <| .call0 (c3045 fu _ _) n3045 rfl rfl fun q4 => .assign rfl rfl <| .nil ?_
      refine .seq <| .seq <| .region <| .move rfl rfl <| .bin rfl rfl rfl rfl <| .nil ?_
      refine .cond rfl (fun _ => ?_) (fun _ => ?_)
      · refine .seq <| .region <| .assign rfl rfl <| .nil ?_
        exact .ret1 Tryz.func13 Tryz.results13 (.tmp rfl) rfl (fun _ _ => .cons _ <| .slnil)
      · refine .skip <| .seq <| .region <| .move rfl rfl <| .assign rfl rfl <| .nil ?_
        exact .ret1 Tryz.func13 Tryz.results13 (.tmp rfl) rfl (fun _ _ => .cons _ <| .slnil)
def f3015 (fu : Nat) (a0 : Table) (a1 : Change) : Option (Table × Int) := (f17 fu a0).bind fun q4 => cond (!q4) (some ((⟨d0_27.first, d0_27.changes, d0_27.rows, d0_27.next⟩ : Table), 1)) ((f42 fu a0).bind fun q5 => (f72 fu q5 a1).bind fun q7 => some (q7.1, q7.2))
theorem n3015 : ∃ fn c, Tryz.prog.funcs[15]? = some fn ∧ (fn.name == "runtime.NumGoroutine") = false ∧ fn.body = some c := ⟨_, _, Tryz.func15, by kernel_rfl, rfl⟩
theorem c3015 (fu : Nat) (a0 : Table) (a1 : Change) : Ctr Tryz.prog 15 [tTable.va a0, tChange.va a1] [] (f3015 fu a0 a1) (fun _ _ => []) (fun q => tup [tTable.va q.1, isI .i64 q.2]) := by
  refine Ctr.of_W Tryz.func15 rfl Tryz.ntmps15 rfl fun A w => ?_
  unfold f3015
  refine .seq <| .region <| .box (T := tTable) rfl rfl fun b1 => .box (T := tChange) rfl rfl fun b2 => .alloc tTable d0_27 [] z27 rfl fun b3 => .assign rfl rfl <| .nil ?_
  refine .seq <| .seq <| .region <| .loadP 2 (Fld.self _) rfl rfl ty27 rfl <| .call0 (c17 fu _) n17 rfl rfl fun q4 => .not rfl rfl <| .nil ?_
  refine .cond rfl (fun _ => ?_) (fun _ => ?_)
  · refine .seq <| .region <| .build rfl st27 z27 (.nil) rfl <| .storeP 0 (Fld.self _) rfl rfl rfl ty27 <| .assign rfl rfl <| .nil ?_
    exact .ret2 Tryz.func15 Tryz.results15 (.cell 0 rfl rfl ty27) (.tmp rfl) rfl (fun _ => .cons _ <| .cons _ <| .cons _ <| .slnil)
  · refine .skip <| .seq <| .pbind fun q5 h1 => ?_
    refine .drawS 3 [] [1] [] mix (by kernel_rfl) (.cons (fun _ _ _ hP hE h => .loadP 2 (Fld.self _) (hE.op rfl) (hP.get rfl rfl) ty27 rfl <| h) <| .skip <| .cons (fun _ _ _ hP hE h => .loadP 1 (Fld.self _) (hE.op rfl) (hP.get rfl rfl) ty56 rfl <| h) <| .nil) rfl <| .cons (d := 11) rfl rfl fun _ _ hE h => .bindE2 h1 (fun r h => .callL0 (c42 fu _) n42 (hE.ops rfl) rfl h) fun p6 => .toEnd <| .toEnd <| h _ _ (.same <| .same <| .same <| .nil) <| .nil <| .callS 3 (c72 fu _ _ _ _) rfl n72 rfl rfl fun q7 p8 => .extract rfl rfl rfl <| .extract rfl rfl rfl <| .frzT 14 3 conv27 rfl rfl <| .storeP 0 (Fld.self _) rfl rfl rfl ty27 <| .assign rfl rfl <| .nil ?_
    exact .ret2 Tryz.func15 Tryz.results15 (.cell 0 rfl rfl ty27) (.tmp rfl) rfl (fun _ => .cons _ <| .cons _ <| .cons _ <| .cons _ <| .cons _ <| .slnil)
def f3017 (fu : Nat) (a0 : Table) (a1 : Change) : Option (Table × Int) := (f19 fu a0).bind fun q4 => cond (!q4) (some ((⟨d0_27.first, d0_27.changes, d0_27.rows, d0_27.next⟩ : Table), 1)) ((f71 fu a0 a1).bind fun q5 => some (q5.1, q5.2))
theorem n3017 : ∃ fn c, Tryz.prog.funcs[17]? = some fn ∧ (fn.name == "runtime.NumGoroutine") = false ∧ fn.body = some c := ⟨_, _, Tryz.func17, by kernel_rfl, rfl⟩
def f3050 (a0 : Set) (a1 : Int) : Option Int := cond (decide ((IntKind.i64.wrap (a1 - (List.length a0.name : Int))) < 0)) (some (-1)) ((f3081 a0.val (IntKind.i64.wrap (a1 - (List.length a0.name : Int)))).bind fun q2 => cond (decide (q2 < 0)) (some (-1)) (some q2))
theorem n3050 : ∃ fn c, Tryz.prog.funcs[50]? = some fn ∧ (fn.name == "runtime.NumGoroutine") = false ∧ fn.body = some c := ⟨_, _, Tryz.func50, by kernel_rfl, rfl⟩
theorem c3050 (a0 : Set) (a1 : Int) : Ctr Tryz.prog 50 [tSet.va a0, isI .i64 a1] [] (f3050 a0 a1) (fun _ _ => []) (fun q => isI .i64 q) := by
  refine Ctr.of_W Tryz.func50 rfl Tryz.ntmps50 rfl fun A w => ?_
  unfold f3050
  refine .seq <| .region <| .box (T := tSet) rfl rfl fun b1 => .assign rfl rfl <| .nil ?_
  refine .seq <| .region <| .move rfl rfl <| .fieldP rfl fa3084_0 rfl <| .loadP 0 fSet_0 rfl rfl ty9 rfl <| .lenS rfl Tryz.underlying9 rfl <| .bin rfl rfl rfl rfl <| .assign rfl rfl <| .nil ?_
  refine .seq <| .seq <| .region <| .move rfl rfl <| .bin rfl rfl rfl rfl <| .nil ?_
  refine .cond rfl (fun _ => ?_) (fun _ => ?_)
  · refine .seq <| .region <| .assign rfl rfl <| .nil ?_
    exact .ret1 Tryz.func50 Tryz.results50 (.tmp rfl) rfl (fun _ _ => .cons _ <| .slnil)
  · refine .skip <| .seq <| .region <| .fieldP rfl fa3084_1 rfl <| .loadP 0 fSet_1 rfl rfl ty3040 rfl <| .move rfl rfl <| .call0 (c3081 _ _) n3081 rfl rfl fun q2 => .assign rfl rfl <| .nil ?_
    refine .seq <| .seq <| .region <| .move rfl rfl <| .bin rfl rfl rfl rfl <| .nil ?_
    refine .cond rfl (fun _ => ?_) (fun _ => ?_)
    · refine .seq <| .region <| .assign rfl rfl <| .nil ?_
      exact .ret1 Tryz.func50 Tryz.results50 (.tmp rfl) rfl (fun _ _ => .cons _ <| .slnil)
    · refine .skip <| .seq <| .region <| .move rfl rfl <| .assign rfl rfl <| .nil ?_
      exact .ret1 Tryz.func50 Tryz.results50 (.tmp rfl) rfl (fun _ _ => .cons _ <| .slnil)
def f3018_l1 (a0 : List Set) : Nat → Int → Int → Option Int
  | 0, _, _ => none
  | n3001 + 1, i1, i2 => cond (decide (i2 < (List.length a0 : Int))) (cond (decide (0 ≤ i2) && decide (i2 < (List.length a0 : Int))) ((f3050 (a0.getD i2.toNat default) i1).bind fun q3 => cond (decide (q3 < 0)) (some (-1)) ((f3018_l1 a0 n3001) q3 (IntKind.i64.wrap (i2 + 1)))) none) (some i1)
def f3018 (fu : Nat) (a0 : List Set) (a1 : Int) : Option Int := cond (decide ((IntKind.i64.wrap (a1 - (List.length a0 : Int))) < 0)) (some (-1)) (f3018_l1 a0 fu (IntKind.i64.wrap (a1 - (List.length a0 : Int))) 0)
theorem n3018 : ∃ fn c, Tryz.prog.funcs[18]? = some fn ∧ (fn.name == "runtime.NumGoroutine") = false ∧ fn.body = some c := ⟨_, _, Tryz.func18, by kernel_rfl, rfl⟩
theorem c3018 (fu : Nat) (a0 : List Set) (a1 : Int) : Ctr Tryz.prog 18 [(tL tSet).va a0, isI .i64 a1] [] (f3018 fu a0 a1) (fun _ _ => []) (fun q => isI .i64 q) := by
  refine Ctr.of_W Tryz.func18 rfl Tryz.ntmps18 rfl fun A w => ?_
  unfold f3018
  refine .seq <| .region <| .assign rfl rfl <| .nil ?_
  refine .seq <| .region <| .move rfl rfl <| .move rfl rfl <| .lenL rfl Tryz.underlying54 rfl <| .bin rfl rfl rfl rfl <| .assign rfl rfl <| .nil ?_
  refine .seq <| .seq <| .region <| .move rfl rfl <| .bin rfl rfl rfl rfl <| .nil ?_
  refine .cond rfl (fun _ => ?_) (fun _ => ?_)
  · refine .seq <| .region <| .assign rfl rfl <| .nil ?_
    exact .ret1 Tryz.func18 Tryz.results18 (.tmp rfl) rfl (fun _ _ => .slnil)
  · refine .skip <| .seq <| .seq <| .region <| .assign rfl rfl <| .nil ?_
    refine .block <| .loop <| .keep [0, 1, 5] [] rfl ?_
    refine (show ∀ (n3001 : Nat) (i1 : Int) (i2 : Int), W _ _ _ _ _ ⟨[(0, (tL tSet).va a0, none), (1, isI .i64 i1, none), (5, isI .i64 i2, none)], []⟩ (f3018_l1 a0 n3001 i1 i2) from ?_) fu _ _
    intro n3001
    induction n3001 with
    | zero => exact fun _ _ => .stop
    | succ n3001 ih1 =>
      intro i1 i2
      refine .inLoop <| .seq <| .seq <| .region <| .move rfl rfl <| .move rfl rfl <| .lenL rfl Tryz.underlying54 rfl <| .bin rfl rfl rfl rfl <| .nil ?_
      refine .cond rfl (fun _ => ?_) (fun _ => ?_)
      · refine .skip <| .seq <| .block <| .seq <| .region <| .move rfl rfl <| .move rfl rfl <| .elemAt rfl rfl Tryz.underlying54 ty3084 rfl <| .load rfl ty3084 rfl <| .move rfl rfl <| .call0 (c3050 _ _) n3050 rfl rfl fun q3 => .assign rfl rfl <| .nil ?_
        refine .seq <| .region <| .move rfl rfl <| .bin rfl rfl rfl rfl <| .nil ?_
        refine .cond rfl (fun _ => ?_) (fun _ => ?_)
        · refine .seq <| .region <| .assign rfl rfl <| .nil ?_
          exact .ret1 Tryz.func18 Tryz.results18 (.tmp rfl) rfl (fun _ _ => .slnil)
        · refine .skip <| .inBlock <| .region <| .move rfl rfl <| .bin rfl rfl rfl rfl <| .assign rfl rfl <| .nil ?_
          exact .keep [0, 1, 5] [] rfl (ih1 _ _)
      · refine .exit rfl <| .seq <| .region <| .move rfl rfl <| .assign rfl rfl <| .nil ?_
        exact .ret1 Tryz.func18 Tryz.results18 (.tmp rfl) rfl (fun _ _ => .slnil)
def f3052 (a0 : Set) : Option Set := (f3085 a0.val).bind fun q4 => some ({ ({ d0_49 with name := a0.name } : Set) with val := q4 } : Set)
theorem n3052 : ∃ fn c, Tryz.prog.funcs[52]? = some fn ∧ (fn.name == "runtime.NumGoroutine") = false ∧ fn.body = some c := ⟨_, _, Tryz.func52, by kernel_rfl, rfl⟩
theorem c3052 (a0 : Set) : Ctr Tryz.prog 52 [tSet.va a0] [] (f3052 a0) (fun _ _ => []) (fun q => tSet.va q) := by
  refine Ctr.of_W Tryz.func52 rfl Tryz.ntmps52 rfl fun A w => ?_
  unfold f3052
  refine .seq <| .region <| .box (T := tSet) rfl rfl fun b1 => .alloc tSet d0_49 [] z49 rfl fun b2 => .nil ?_
  refine .seq <| .region <| .alloc tSet d0_49 [] z49 rfl fun b3 => .nil ?_
  refine .seq <| .region <| .fieldP rfl fa3084_0 rfl <| .loadP 2 fSet_0 rfl rfl ty9 rfl <| .fieldP rfl fa49_0 rfl <| .storeP 0 fSet_0 rfl rfl rfl ty9 <| .nil ?_
  refine .seq <| .region <| .fieldP rfl fa3084_1 rfl <| .loadP 2 fSet_1 rfl rfl ty3040 rfl <| .call0 (c3085 _) n3085 rfl rfl fun q4 => .fieldP rfl fa49_1 rfl <| .storeP 0 fSet_1 rfl rfl rfl ty47 <| .nil ?_
  refine .seq <| .region <| .loadP 0 (Fld.self _) rfl rfl ty49 rfl <| .storeP 1 (Fld.self _) rfl rfl rfl ty49 <| .nil ?_
  exact .ret1 Tryz.func52 Tryz.results52 (.cell 1 rfl rfl ty49) rfl (fun _ _ => .cons _ <| .cons _ <| .cons _ <| .slnil)
def f3020_l1 (a0 : List Set) : Nat → Int → (List Set) → Option (List Set)
  | 0, _, _ => none
  | n3001 + 1, i2, i3 => cond (decide (i2 < (List.length a0 : Int))) (cond (decide (0 ≤ i2) && decide (i2 < (List.length a0 : Int))) ((f3052 (a0.getD i2.toNat default)).bind fun q4 => cond (decide (0 ≤ i2) && decide (i2 < (List.length i3 : Int))) ((f3020_l1 a0 n3001) (IntKind.i64.wrap (i2 + 1)) (i3.set i2.toNat q4)) none) none) (some i3)
def f3020 (fu : Nat) (a0 : List Set) : Option (List Set) := cond (decide (0 ≤ (List.length a0 : Int)) && decide ((List.length a0 : Int) ≤ (CAP : Int))) (f3020_l1 a0 fu 0 (List.replicate (List.length a0 : Int).toNat d0_49)) none
theorem n3020 : ∃ fn c, Tryz.prog.funcs[20]? = some fn ∧ (fn.name == "runtime.NumGoroutine") = false ∧ fn.body = some c := ⟨_, _, Tryz.func20, by kernel_rfl, rfl⟩
theorem c3020 (fu : Nat) (a0 : List Set) : CtrL Tryz.prog 20 [(tL tSet).va a0] [] (f3020 fu a0) (fun v => v) (fun q v => [arrO tSet v q]) (fun _ v => tRaw.va v) := by
  refine CtrL.of_W Tryz.func20 rfl Tryz.ntmps20 rfl fun A w => ?_
  unfold f3020
  refine .seq <| .region <| .assign rfl rfl <| .arrNil tSet <| .nil ?_
  refine .seq <| .region <| .move rfl rfl <| .lenL rfl Tryz.underlying54 rfl <| .makeSlice (T := tSet) rfl rfl Tryz.underlying57 el49 z49 rfl fun v1 => .assign rfl rfl <| .nil ?_
  refine .seq <| .seq <| .region <| .assign rfl rfl <| .nil ?_
  refine .block <| .loop <| .drop (.cons_cons _ <| .cons _ <| .slnil) <| .keep [0, 4] [3] rfl ?_
  refine (show ∀ (n3001 : Nat) (i2 : Int) (i3 : List Set), W _ _ _ _ _ ⟨[(0, (tL tSet).va a0, none), (4, isI .i64 i2, none), (3, isV v1, some v1)], [arrO tSet v1 i3]⟩ (f3020_l1 a0 n3001 i2 i3) from ?_) fu _ _
  intro n3001
  induction n3001 with
  | zero => exact fun _ _ => .stop
  | succ n3001 ih1 =>
    intro i2 i3
    refine .inLoop <| .seq <| .seq <| .region <| .move rfl rfl <| .move rfl rfl <| .lenL rfl Tryz.underlying54 rfl <| .bin rfl rfl rfl rfl <| .nil ?_
    refine .cond rfl (fun _ => ?_) (fun _ => ?_)
    · refine .skip <| .seq <| .block <| .region <| .move rfl rfl <| .move rfl rfl <| .move rfl rfl <| .move rfl rfl <| .elemAt rfl rfl Tryz.underlying54 ty3084 rfl <| .load rfl ty3084 rfl <| .call0 (c3052 _) n3052 rfl rfl fun q4 => .elemA 0 rfl rfl rfl Tryz.underlying57 ty49 rfl <| .storeA 0 (Fld.self _) rfl rfl rfl ty49 <| .nil ?_
      refine .inBlock <| .region <| .move rfl rfl <| .bin rfl rfl rfl rfl <| .assign rfl rfl <| .nil ?_
      exact .keep [0, 4] [3] rfl (ih1 _ _)
    · refine .exit rfl <| .seq <| .region <| .move rfl rfl <| .assign rfl rfl <| .nil ?_
      exact .toRaw 0 2 rfl rfl <| .retL1 v1 Tryz.func20 Tryz.results20 (.tmp rfl) rfl (fun _ _ _ h => h.1) (.cons_cons _ <| .slnil)
def f3019 (fu : Nat) (a0 : Table) (a1 : List Set) : Option (Table × Int) := (f17 fu a0).bind fun q3 => cond (!q3) (some ((⟨d0_27.first, d0_27.changes, d0_27.rows, d0_27.next⟩ : Table), 1)) ((f42 fu a0).bind fun q4 => (f65 fu q4 a1).bind fun q6 => some (q6.1, q6.2))
theorem n3019 : ∃ fn c, Tryz.prog.funcs[19]? = some fn ∧ (fn.name == "runtime.NumGoroutine") = false ∧ fn.body = some c := ⟨_, _, Tryz.func19, by kernel_rfl, rfl⟩
theorem c3019 (fu : Nat) (a0 : Table) (a1 : List Set) : Ctr Tryz.prog 19 [tTable.va a0, (tL tSet).va a1] [] (f3019 fu a0 a1) (fun _ _ => []) (fun q => tup [tTable.va q.1, isI .i64 q.2]) := by
  refine Ctr.of_W Tryz.func19 rfl Tryz.ntmps19 rfl fun A w => ?_
  unfold f3019
  refine .seq <| .region <| .box (T := tTable) rfl rfl fun b1 => .alloc tTable d0_27 [] z27 rfl fun b2 => .assign rfl rfl <| .nil ?_
  refine .seq <| .seq <| .region <| .loadP 1 (Fld.self _) rfl rfl ty27 rfl <| .call0 (c17 fu _) n17 rfl rfl fun q3 => .not rfl rfl <| .nil ?_
  refine .cond rfl (fun _ => ?_) (fun _ => ?_)
  · refine .seq <| .region <| .build rfl st27 z27 (.nil) rfl <| .storeP 0 (Fld.self _) rfl rfl rfl ty27 <| .assign rfl rfl <| .nil ?_
    exact .ret2 Tryz.func19 Tryz.results19 (.cell 0 rfl rfl ty27) (.tmp rfl) rfl (fun _ => .cons _ <| .cons _ <| .slnil)
  · refine .skip <| .seq <| .region <| .loadP 1 (Fld.self _) rfl rfl ty27 rfl <| .callL0 (c42 fu _) n42 rfl rfl fun q4 p5 => .move rfl rfl <| .callS 0 (c65 fu _ _ _ _) rfl n65 rfl rfl fun q6 p7 => .extract rfl rfl rfl <| .extract rfl rfl rfl <| .frzT 14 0 conv27 rfl rfl <| .storeP 2 (Fld.self _) rfl rfl rfl ty27 <| .assign rfl rfl <| .nil ?_
    exact .ret2 Tryz.func19 Tryz.results19 (.cell 2 rfl rfl ty27) (.tmp rfl) rfl (fun _ => .cons _ <| .cons _ <| .cons _ <| .cons _ <| .slnil)
def f3021 (fu : Nat) (a0 : Table) (a1 : List Set) : Option (Table × Int) := (f19 fu a0).bind fun q3 => cond (!q3) (some ((⟨d0_27.first, d0_27.changes, d0_27.rows, d0_27.next⟩ : Table), 1)) ((f64 fu a0 a1).bind fun q4 => some (q4.1, q4.2))
theorem n3021 : ∃ fn c, Tryz.prog.funcs[21]? = some fn ∧ (fn.name == "runtime.NumGoroutine") = false ∧ fn.body = some c := ⟨_, _, Tryz.func21, by kernel_rfl, rfl⟩
def f3054 (a0 : Set) (a1 : Set) : Option Bool := cond (!decide (a0.name = a1.name)) (some false) ((f3093 a0.val a1.val).bind fun q3 => cond (!q3) (some false) (some true))
theorem n3054 : ∃ fn c, Tryz.prog.funcs[54]? = some fn ∧ (fn.name == "runtime.NumGoroutine") = false ∧ fn.body = some c := ⟨_, _, Tryz.func54, by kernel_rfl, rfl⟩
theorem c3054 (a0 : Set) (a1 : Set) : Ctr Tryz.prog 54 [tSet.va a0, tSet.va a1] [] (f3054 a0 a1) (fun _ _ => []) (fun q => isB q) := by
  refine Ctr.of_W Tryz.func54 rfl Tryz.ntmps54 rfl fun A w => ?_
  unfold f3054
  refine .seq <| .region <| .box (T := tSet) rfl rfl fun b1 => .box (T := tSet) rfl rfl fun b2 => .assign rfl rfl <| .nil ?_
  refine .seq <| .seq <| .region <| .fieldP rfl fa49_0 rfl <| .loadP 1 fSet_0 rfl rfl ty9 rfl <| .fieldP rfl fa49_0 rfl <| .loadP 0 fSet_0 rfl rfl ty9 rfl <| .sne rfl rfl rfl <| .nil ?_
  refine .cond rfl (fun _ => ?_) (fun _ => ?_)
  · refine .seq <| .region <| .assign rfl rfl <| .nil ?_
    exact .ret1 Tryz.func54 Tryz.results54 (.tmp rfl) rfl (fun _ _ => .cons _ <| .cons _ <| .slnil)
  · refine .skip <| .seq <| .seq <| .region <| .fieldP rfl fa49_1 rfl <| .loadP 1 fSet_1 rfl rfl ty47 rfl <| .fieldP rfl fa49_1 rfl <| .loadP 0 fSet_1 rfl rfl ty47 rfl <| .call0 (c3093 _ _) n3093 rfl rfl fun q3 => .not rfl rfl <| .nil ?_
    refine .cond rfl (fun _ => ?_) (fun _ => ?_)
    · refine .seq <| .region <| .assign rfl rfl <| .nil ?_
      exact .ret1 Tryz.func54 Tryz.results54 (.tmp rfl) rfl (fun _ _ => .cons _ <| .cons _ <| .slnil)
    · refine .skip <| .seq <| .region <| .assign rfl rfl <| .nil ?_
      exact .ret1 Tryz.func54 Tryz.results54 (.tmp rfl) rfl (fun _ _ => .cons _ <| .cons _ <| .slnil)
def f3022_l1 (a0 : List Set) (a1 : List Set) : Nat → Int → Option Bool
  | 0, _ => none
  | n3001 + 1, i1 => cond (decide (i1 < (List.length a0 : Int))) (cond (decide (0 ≤ i1) && decide (i1 < (List.length a0 : Int))) (cond (decide (0 ≤ i1) && decide (i1 < (List.length a1 : Int))) ((f3054 (a0.getD i1.toNat default) (a1.getD i1.toNat default)).bind fun q2 => cond (!q2) (some false) ((f3022_l1 a0 a1 n3001) (IntKind.i64.wrap (i1 + 1)))) none) none) (some true)
def f3022 (fu : Nat) (a0 : List Set) (a1 : List Set) : Option Bool := cond (!decide ((List.length a0 : Int) = (List.length a1 : Int))) (some false) (f3022_l1 a0 a1 fu 0)
theorem n3022 : ∃ fn c, Tryz.prog.funcs[22]? = some fn ∧ (fn.name == "runtime.NumGoroutine") = false ∧ fn.body = some c := ⟨_, _, Tryz.func22, by kernel_rfl, rfl⟩
theorem c3022 (fu : Nat) (a0 : List Set) (a1 : List Set) : Ctr Tryz.prog 22 [(tL tSet).va a0, (tL tSet).va a1] [] (f3022 fu a0 a1) (fun _ _ => []) (fun q => isB q) := by
  refine Ctr.of_W Tryz.func22 rfl Tryz.ntmps22 rfl fun A w => ?_
  unfold f3022
  refine .seq <| .region <| .assign rfl rfl <| .nil ?_
  refine .seq <| .seq <| .region <| .move rfl rfl <| .lenL rfl Tryz.underlying57 rfl <| .move rfl rfl <| .lenL rfl Tryz.underlying57 rfl <| .bin rfl rfl rfl rfl <| .nil ?_
  refine .cond rfl (fun _ => ?_) (fun _ => ?_)
  · refine .seq <| .region <| .assign rfl rfl <| .nil ?_
    exact .ret1 Tryz.func22 Tryz.results22 (.tmp rfl) rfl (fun _ _ => .slnil)
  · refine .skip <| .seq <| .seq <| .region <| .assign rfl rfl <| .nil ?_
    refine .block <| .loop <| .keep [0, 1, 5] [] rfl ?_
    refine (show ∀ (n3001 : Nat) (i1 : Int), W _ _ _ _ _ ⟨[(0, (tL tSet).va a0, none), (1, (tL tSet).va a1, none), (5, isI .i64 i1, none)], []⟩ (f3022_l1 a0 a1 n3001 i1) from ?_) fu _
    intro n3001
    induction n3001 with
    | zero => exact fun _ => .stop
    | succ n3001 ih1 =>
      intro i1
      refine .inLoop <| .seq <| .seq <| .region <| .move rfl rfl <| .move rfl rfl <| .lenL rfl Tryz.underlying57 rfl <| .bin rfl rfl rfl rfl <| .nil ?_
      refine .cond rfl (fun _ => ?_) (fun _ => ?_)
      · refine .skip <| .seq <| .block <| .seq <| .pT fun h3 => ?_
        refine .pT fun h4 => ?_
        refine .draw 8 [] mix (by kernel_rfl) (.cons (fun _ _ _ hP hE h => .move (hE.op rfl) rfl <| h) <| .cons (fun _ _ _ hP hE h => .move (hE.op rfl) rfl <| h) <| .cons (fun _ _ _ hP hE h => .useC h3 <| .elemAt (hE.op rfl) (hE.op rfl) Tryz.underlying57 ty49 rfl <| h) <| .cons (fun _ _ _ hP hE h => .load (hE.op rfl) ty49 rfl <| h) <| .cons (fun _ _ _ hP hE h => .move (hE.op rfl) rfl <| h) <| .cons (fun _ _ _ hP hE h => .move (hE.op rfl) rfl <| h) <| .cons (fun _ _ _ hP hE h => .useC h4 <| .elemAt (hE.op rfl) (hE.op rfl) Tryz.underlying57 ty49 rfl <| h) <| .cons (fun _ _ _ hP hE h => .load (hE.op rfl) ty49 rfl <| h) <| .nil) rfl <| .call0 (c3054 _ _) n3054 rfl rfl fun q2 => .not rfl rfl <| .nil ?_
        refine .cond rfl (fun _ => ?_) (fun _ => ?_)
        · refine .seq <| .region <| .assign rfl rfl <| .nil ?_
          exact .ret1 Tryz.func22 Tryz.results22 (.tmp rfl) rfl (fun _ _ => .slnil)
        · refine .skip <| .inBlock <| .region <| .move rfl rfl <| .bin rfl rfl rfl rfl <| .assign rfl rfl <| .nil ?_
          exact .keep [0, 1, 5] [] rfl (ih1 _)
      · refine .exit rfl <| .seq <| .region <| .assign rfl rfl <| .nil ?_
        exact .ret1 Tryz.func22 Tryz.results22 (.tmp rfl) rfl (fun _ _ => .slnil)
def f3024 (fu : Nat) (a0 : Table) (a1 : Int) (a2 : List Set) : Option (Table × Int) := (f17 fu a0).bind fun q3 => cond (!q3) (some ((⟨d0_27.first, d0_27.changes, d0_27.rows, d0_27.next⟩ : Table), 1)) ((f42 fu a0).bind fun q4 => (f76 fu q4 a1 a2).bind fun q6 => some (q6.1, q6.2))
theorem n3024 : ∃ fn c, Tryz.prog.funcs[24]? = some fn ∧ (fn.name == "runtime.NumGoroutine") = false ∧ fn.body = some c := ⟨_, _, Tryz.func24, by kernel_rfl, rfl⟩
theorem c3024 (fu : Nat) (a0 : Table) (a1 : Int) (a2 : List Set) : Ctr Tryz.prog 24 [tTable.va a0, isI .i64 a1, (tL tSet).va a2] [] (f3024 fu a0 a1 a2) (fun _ _ => []) (fun q => tup [tTable.va q.1, isI .i64 q.2]) := by
  refine Ctr.of_W Tryz.func24 rfl Tryz.ntmps24 rfl fun A w => ?_
  unfold f3024
  refine .seq <| .region <| .box (T := tTable) rfl rfl fun b1 => .alloc tTable d0_27 [] z27 rfl fun b2 => .assign rfl rfl <| .nil ?_
  refine .seq <| .seq <| .region <| .loadP 1 (Fld.self _) rfl rfl ty27 rfl <| .call0 (c17 fu _) n17 rfl rfl fun q3 => .not rfl rfl <| .nil ?_
  refine .cond rfl (fun _ => ?_) (fun _ => ?_)
  · refine .seq <| .region <| .build rfl st27 z27 (.nil) rfl <| .storeP 0 (Fld.self _) rfl rfl rfl ty27 <| .assign rfl rfl <| .nil ?_
    exact .ret2 Tryz.func24 Tryz.results24 (.cell 0 rfl rfl ty27) (.tmp rfl) rfl (fun _ => .cons _ <| .cons _ <| .slnil)
  · refine .skip <| .seq <| .region <| .loadP 1 (Fld.self _) rfl rfl ty27 rfl <| .callL0 (c42 fu _) n42 rfl rfl fun q4 p5 => .move rfl rfl <| .move rfl rfl <| .callS 0 (c76 fu _ _ _ _ _) rfl n76 rfl rfl fun q6 p7 => .extract rfl rfl rfl <| .extract rfl rfl rfl <| .frzT 17 0 conv27 rfl rfl <| .storeP 2 (Fld.self _) rfl rfl rfl ty27 <| .assign rfl rfl <| .nil ?_
    exact .ret2 Tryz.func24 Tryz.results24 (.cell 2 rfl rfl ty27) (.tmp rfl) rfl (fun _ => .cons _ <| .cons _ <| .cons _ <| .cons _ <| .slnil)
def f3025 (fu : Nat) (a0 : Table) (a1 : Int) (a2 : List Set) : Option (Table × Int) := (f19 fu a0).bind fun q3 => cond (!q3) (some ((⟨d0_27.first, d0_27.changes, d0_27.rows, d0_27.next⟩ : Table), 1)) ((f75 fu a0 a1 a2).bind fun q4 => some (q4.1, q4.2))
theorem n3025 : ∃ fn c, Tryz.prog.funcs[25]? = some fn ∧ (fn.name == "runtime.NumGoroutine") = false ∧ fn.body = some c := ⟨_, _, Tryz.func25, by kernel_rfl, rfl⟩
end Go.Proofs.YtejobmamkeoheaaGreatDoor
