/- Functions that write through all of a list: what each leaves, and that the machine does so. -/
import Derived.Test.YtejobmamkeoheaaGreatDoorQ5TX12
import Derived.KernelRfl
set_option linter.all false
namespace Go.Proofs.YtejobmamkeoheaaGreatDoor
open Go Go.HL
def f3079_l1 (fu : Nat) : Nat → Int → List Val → List Val → Option (Int × (List Val))
  | 0, _, _, _ => none
  | _ + 1, i1, s, [] => some (i1, s)
  | n1 + 1, i1, s, _ :: zs => (f3055 fu (IntKind.i64.wrap ((IntKind.i64.wrap (i1 + 1)) + 1))).bind fun q4 => f3079_l1 fu n1 (IntKind.i64.wrap ((IntKind.i64.wrap ((IntKind.i64.wrap (i1 + 1)) + 1)) + 1)) (s ++ [(⟨i1, IntKind.i64.wrap (i1 + 1), q4⟩ : Val)]) zs
def f3079 (fu : Nat) (a0 : List Val) (a1 : Int) : Option (Int × (List Val)) := f3079_l1 fu fu a1 [] a0
theorem n3079 : ∃ fn c, Tryz.prog.funcs[79]? = some fn ∧ (fn.name == "runtime.NumGoroutine") = false ∧ fn.body = some c := ⟨_, _, Tryz.func79, by kernel_rfl, rfl⟩
theorem c3079 (fu : Nat) (vp0 : Value) (a0 : List Val) (a1 : Int) : Ctr Tryz.prog 79 [isV vp0, isI .i64 a1] [arrO tVal vp0 a0] (f3079 fu a0 a1) (fun q _ => [arrO tVal vp0 q.2]) (fun q => isI .i64 q.1) := by
  refine Ctr.of_W Tryz.func79 rfl Tryz.ntmps79 rfl fun A w => ?_
  unfold f3079
  refine .know 0 rfl <| .seq <| .region <| .assign rfl rfl <| .nil ?_
  refine .seq <| .seq <| .region <| .assign rfl rfl <| .nil ?_
  refine .block <| .loop <| .keep [1, 5] [0] rfl ?_
  refine (show ∀ (n1 : Nat) (i1 : Int) (s zs : List Val), W _ _ _ _ _ ⟨[(1, isI .i64 i1, none), (5, isI .i64 (s.length : Int), none), (0, isV vp0, some vp0)], [arrO tVal vp0 (s ++ zs)]⟩ (f3079_l1 fu n1 i1 s zs) from ?_) fu _ [] _
  intro n1
  induction n1 with
  | zero => exact fun _ _ _ => .stop
  | succ n1 ih1 =>
    intro i1 s zs
    refine W_limA 0 rfl fun hlim => ?_
    refine .inLoop <| .seq <| .seq <| .region <| .move rfl rfl <| .move rfl rfl <| .lenA 0 rfl rfl Tryz.underlying102 rfl <| .bin rfl rfl rfl rfl <| .nil ?_
    refine .eqr (r' := cond (decide ((s.length : Int) < ((s ++ zs).length : Int))) (f3079_l1 fu (n1 + 1) i1 s zs) (f3079_l1 fu (n1 + 1) i1 s zs)) (by cases decide ((s.length : Int) < ((s ++ zs).length : Int)) <;> rfl) ?_
    refine .cond rfl (fun hlt => ?_) (fun hge => ?_)
    · obtain ⟨z, zs, rfl⟩ := more_of hlt
      refine .skip <| .seq <| .block <| .seq <| .region <| .move rfl rfl <| .move rfl rfl <| .move rfl rfl <| .elemM 0 rfl rfl rfl Tryz.underlying102 ty47 rfl <| .fieldA rfl fa47_0 rfl <| .storeM 0 fVal_0 rfl rfl rfl ty3 <| .nil ?_
      refine .seq <| .region <| .move rfl rfl <| .bin rfl rfl rfl rfl <| .assign rfl rfl <| .nil ?_
      refine .seq <| .region <| .move rfl rfl <| .move rfl rfl <| .move rfl rfl <| .elemM 0 rfl rfl rfl Tryz.underlying102 ty47 rfl <| .fieldA rfl fa47_1 rfl <| .storeM 0 fVal_1 rfl rfl rfl ty3 <| .nil ?_
      refine .seq <| .region <| .move rfl rfl <| .bin rfl rfl rfl rfl <| .assign rfl rfl <| .nil ?_
      refine .seq <| .region <| .move rfl rfl <| .move rfl rfl <| .move rfl rfl <| .call0 (c3055 fu _) n3055 rfl rfl fun q4 => .elemM 0 rfl rfl rfl Tryz.underlying102 ty47 rfl <| .fieldA rfl fa47_2 rfl <| .storeM 0 fVal_2 rfl rfl rfl ty9 <| .nil ?_
      refine .region <| .move rfl rfl <| .bin rfl rfl rfl rfl <| .assign rfl rfl <| .nil ?_
      refine .inBlock <| .region <| .move rfl rfl <| .bin rfl rfl rfl rfl <| .assign rfl rfl <| .nil ?_
      have hx := ih1 (IntKind.i64.wrap ((IntKind.i64.wrap ((IntKind.i64.wrap (i1 + 1)) + 1)) + 1)) (s ++ [(⟨i1, IntKind.i64.wrap (i1 + 1), q4⟩ : Val)]) zs
      rw [List.append_assoc, List.length_append, List.length_singleton, len_next hlim] at hx
      exact .keep [1, 5] [0] rfl hx
    · obtain rfl := none_of hge
      rw [List.append_nil]
      refine .exit rfl <| .seq <| .region <| .move rfl rfl <| .assign rfl rfl <| .nil ?_
      exact .ret1 Tryz.func79 Tryz.results79 (.tmp rfl) rfl (fun _ _ => .cons_cons _ <| .slnil)
def f3040_l1 (fu : Nat) : Nat → Int → List Col → List Col → Option (Int × (List Col))
  | 0, _, _, _ => none
  | _ + 1, i1, s, [] => some (i1, s)
  | n1 + 1, i1, s, _ :: zs => (f3055 fu i1).bind fun q4 => (f3055 fu (IntKind.i64.wrap ((IntKind.i64.wrap ((IntKind.i64.wrap ((IntKind.i64.wrap ((IntKind.i64.wrap ((IntKind.i64.wrap (i1 + 1)) + 1)) + 1)) + 1)) + 1)) + 1))).bind fun q5 => f3040_l1 fu n1 (IntKind.i64.wrap ((IntKind.i64.wrap ((IntKind.i64.wrap ((IntKind.i64.wrap ((IntKind.i64.wrap ((IntKind.i64.wrap ((IntKind.i64.wrap (i1 + 1)) + 1)) + 1)) + 1)) + 1)) + 1)) + 1)) (s ++ [(⟨q4, IntKind.i64.wrap (i1 + 1), decide (Int.tmod (IntKind.i64.wrap ((IntKind.i64.wrap (i1 + 1)) + 1)) 3 = 0), decide (Int.tmod (IntKind.i64.wrap ((IntKind.i64.wrap ((IntKind.i64.wrap (i1 + 1)) + 1)) + 1)) 3 = 0), ⟨IntKind.i64.wrap ((IntKind.i64.wrap ((IntKind.i64.wrap ((IntKind.i64.wrap (i1 + 1)) + 1)) + 1)) + 1), IntKind.i64.wrap ((IntKind.i64.wrap ((IntKind.i64.wrap ((IntKind.i64.wrap ((IntKind.i64.wrap (i1 + 1)) + 1)) + 1)) + 1)) + 1), q5⟩⟩ : Col)]) zs
def f3040 (fu : Nat) (a0 : List Col) (a1 : Int) : Option (Int × (List Col)) := f3040_l1 fu fu a1 [] a0
theorem n3040 : ∃ fn c, Tryz.prog.funcs[40]? = some fn ∧ (fn.name == "runtime.NumGoroutine") = false ∧ fn.body = some c := ⟨_, _, Tryz.func40, by kernel_rfl, rfl⟩
theorem c3040 (fu : Nat) (vp0 : Value) (a0 : List Col) (a1 : Int) : Ctr Tryz.prog 40 [isV vp0, isI .i64 a1] [arrO tCol vp0 a0] (f3040 fu a0 a1) (fun q _ => [arrO tCol vp0 q.2]) (fun q => isI .i64 q.1) := by
  refine Ctr.of_W Tryz.func40 rfl Tryz.ntmps40 rfl fun A w => ?_
  unfold f3040
  refine .know 0 rfl <| .seq <| .region <| .assign rfl rfl <| .nil ?_
  refine .seq <| .seq <| .region <| .assign rfl rfl <| .nil ?_
  refine .block <| .loop <| .keep [1, 5] [0] rfl ?_
  refine (show ∀ (n1 : Nat) (i1 : Int) (s zs : List Col), W _ _ _ _ _ ⟨[(1, isI .i64 i1, none), (5, isI .i64 (s.length : Int), none), (0, isV vp0, some vp0)], [arrO tCol vp0 (s ++ zs)]⟩ (f3040_l1 fu n1 i1 s zs) from ?_) fu _ [] _
  intro n1
  induction n1 with
  | zero => exact fun _ _ _ => .stop
  | succ n1 ih1 =>
    intro i1 s zs
    refine W_limA 0 rfl fun hlim => ?_
    refine .inLoop <| .seq <| .seq <| .region <| .move rfl rfl <| .move rfl rfl <| .lenA 0 rfl rfl Tryz.underlying28 rfl <| .bin rfl rfl rfl rfl <| .nil ?_
    refine .eqr (r' := cond (decide ((s.length : Int) < ((s ++ zs).length : Int))) (f3040_l1 fu (n1 + 1) i1 s zs) (f3040_l1 fu (n1 + 1) i1 s zs)) (by cases decide ((s.length : Int) < ((s ++ zs).length : Int)) <;> rfl) ?_
    refine .cond rfl (fun hlt => ?_) (fun hge => ?_)
    · obtain ⟨z, zs, rfl⟩ := more_of hlt
      refine .skip <| .seq <| .block <| .seq <| .region <| .move rfl rfl <| .move rfl rfl <| .move rfl rfl <| .call0 (c3055 fu _) n3055 rfl rfl fun q4 => .elemM 0 rfl rfl rfl Tryz.underlying28 ty52 rfl <| .fieldA rfl fa52_0 rfl <| .storeM 0 fCol_0 rfl rfl rfl ty9 <| .nil ?_
      refine .seq <| .region <| .move rfl rfl <| .bin rfl rfl rfl rfl <| .assign rfl rfl <| .nil ?_
      refine .seq <| .region <| .move rfl rfl <| .move rfl rfl <| .move rfl rfl <| .elemM 0 rfl rfl rfl Tryz.underlying28 ty52 rfl <| .fieldA rfl fa52_1 rfl <| .storeM 0 fCol_1 rfl rfl rfl ty3 <| .nil ?_
      refine .seq <| .region <| .move rfl rfl <| .bin rfl rfl rfl rfl <| .assign rfl rfl <| .nil ?_
      refine .seq <| .region <| .move rfl rfl <| .move rfl rfl <| .move rfl rfl <| .useN (rfl : decide ((3 : Int) = 0) = false) <| .rem rfl rfl rfl <| .bin rfl rfl rfl rfl <| .elemM 0 rfl rfl rfl Tryz.underlying28 ty52 rfl <| .fieldA rfl fa52_2 rfl <| .storeM 0 fCol_2 rfl rfl rfl ty4 <| .nil ?_
      refine .seq <| .region <| .move rfl rfl <| .bin rfl rfl rfl rfl <| .assign rfl rfl <| .nil ?_
      refine .seq <| .region <| .move rfl rfl <| .move rfl rfl <| .move rfl rfl <| .useN (rfl : decide ((3 : Int) = 0) = false) <| .rem rfl rfl rfl <| .bin rfl rfl rfl rfl <| .elemM 0 rfl rfl rfl Tryz.underlying28 ty52 rfl <| .fieldA rfl fa52_3 rfl <| .storeM 0 fCol_3 rfl rfl rfl ty4 <| .nil ?_
      refine .seq <| .region <| .move rfl rfl <| .bin rfl rfl rfl rfl <| .assign rfl rfl <| .nil ?_
      refine .seq <| .region <| .move rfl rfl <| .move rfl rfl <| .move rfl rfl <| .elemM 0 rfl rfl rfl Tryz.underlying28 ty52 rfl <| .fieldA rfl fa52_4 rfl <| .fieldA rfl fa47_0 rfl <| .storeM 0 (fCol_4.comp fVal_0) rfl rfl rfl ty3 <| .nil ?_
      refine .seq <| .region <| .move rfl rfl <| .bin rfl rfl rfl rfl <| .assign rfl rfl <| .nil ?_
      refine .seq <| .region <| .move rfl rfl <| .move rfl rfl <| .move rfl rfl <| .elemM 0 rfl rfl rfl Tryz.underlying28 ty52 rfl <| .fieldA rfl fa52_4 rfl <| .fieldA rfl fa47_1 rfl <| .storeM 0 (fCol_4.comp fVal_1) rfl rfl rfl ty3 <| .nil ?_
      refine .seq <| .region <| .move rfl rfl <| .bin rfl rfl rfl rfl <| .assign rfl rfl <| .nil ?_
      refine .seq <| .region <| .move rfl rfl <| .move rfl rfl <| .move rfl rfl <| .call0 (c3055 fu _) n3055 rfl rfl fun q5 => .elemM 0 rfl rfl rfl Tryz.underlying28 ty52 rfl <| .fieldA rfl fa52_4 rfl <| .fieldA rfl fa47_2 rfl <| .storeM 0 (fCol_4.comp fVal_2) rfl rfl rfl ty9 <| .nil ?_
      refine .region <| .move rfl rfl <| .bin rfl rfl rfl rfl <| .assign rfl rfl <| .nil ?_
      refine .inBlock <| .region <| .move rfl rfl <| .bin rfl rfl rfl rfl <| .assign rfl rfl <| .nil ?_
      have hx := ih1 (IntKind.i64.wrap ((IntKind.i64.wrap ((IntKind.i64.wrap ((IntKind.i64.wrap ((IntKind.i64.wrap ((IntKind.i64.wrap ((IntKind.i64.wrap (i1 + 1)) + 1)) + 1)) + 1)) + 1)) + 1)) + 1)) (s ++ [(⟨q4, IntKind.i64.wrap (i1 + 1), decide (Int.tmod (IntKind.i64.wrap ((IntKind.i64.wrap (i1 + 1)) + 1)) 3 = 0), decide (Int.tmod (IntKind.i64.wrap ((IntKind.i64.wrap ((IntKind.i64.wrap (i1 + 1)) + 1)) + 1)) 3 = 0), ⟨IntKind.i64.wrap ((IntKind.i64.wrap ((IntKind.i64.wrap ((IntKind.i64.wrap (i1 + 1)) + 1)) + 1)) + 1), IntKind.i64.wrap ((IntKind.i64.wrap ((IntKind.i64.wrap ((IntKind.i64.wrap ((IntKind.i64.wrap (i1 + 1)) + 1)) + 1)) + 1)) + 1), q5⟩⟩ : Col)]) zs
      rw [List.append_assoc, List.length_append, List.length_singleton, len_next hlim] at hx
      exact .keep [1, 5] [0] rfl hx
    · obtain rfl := none_of hge
      rw [List.append_nil]
      refine .exit rfl <| .seq <| .region <| .move rfl rfl <| .assign rfl rfl <| .nil ?_
      exact .ret1 Tryz.func40 Tryz.results40 (.tmp rfl) rfl (fun _ _ => .cons_cons _ <| .slnil)
def f3041_l1 (fu : Nat) : Nat → Int → List Change → List Change → Option (Int × (List Change))
  | 0, _, _, _ => none
  | _ + 1, i1, s, [] => some (i1, s)
  | n1 + 1, i1, s, _ :: zs => (f3055 fu (IntKind.i64.wrap (i1 + 1))).bind fun q4 => (f3055 fu (IntKind.i64.wrap ((IntKind.i64.wrap (i1 + 1)) + 1))).bind fun q5 => (f3055 fu (IntKind.i64.wrap ((IntKind.i64.wrap ((IntKind.i64.wrap (i1 + 1)) + 1)) + 1))).bind fun q6 => (f3055 fu (IntKind.i64.wrap ((IntKind.i64.wrap ((IntKind.i64.wrap ((IntKind.i64.wrap ((IntKind.i64.wrap ((IntKind.i64.wrap ((IntKind.i64.wrap ((IntKind.i64.wrap ((IntKind.i64.wrap (i1 + 1)) + 1)) + 1)) + 1)) + 1)) + 1)) + 1)) + 1)) + 1))).bind fun q7 => f3041_l1 fu n1 (IntKind.i64.wrap ((IntKind.i64.wrap ((IntKind.i64.wrap ((IntKind.i64.wrap ((IntKind.i64.wrap ((IntKind.i64.wrap ((IntKind.i64.wrap ((IntKind.i64.wrap ((IntKind.i64.wrap ((IntKind.i64.wrap (i1 + 1)) + 1)) + 1)) + 1)) + 1)) + 1)) + 1)) + 1)) + 1)) + 1)) (s ++ [(⟨i1, q4, q5, ⟨q6, IntKind.i64.wrap ((IntKind.i64.wrap ((IntKind.i64.wrap ((IntKind.i64.wrap (i1 + 1)) + 1)) + 1)) + 1), decide (Int.tmod (IntKind.i64.wrap ((IntKind.i64.wrap ((IntKind.i64.wrap ((IntKind.i64.wrap ((IntKind.i64.wrap (i1 + 1)) + 1)) + 1)) + 1)) + 1)) 3 = 0), decide (Int.tmod (IntKind.i64.wrap ((IntKind.i64.wrap ((IntKind.i64.wrap ((IntKind.i64.wrap ((IntKind.i64.wrap ((IntKind.i64.wrap (i1 + 1)) + 1)) + 1)) + 1)) + 1)) + 1)) 3 = 0), ⟨IntKind.i64.wrap ((IntKind.i64.wrap ((IntKind.i64.wrap ((IntKind.i64.wrap ((IntKind.i64.wrap ((IntKind.i64.wrap ((IntKind.i64.wrap (i1 + 1)) + 1)) + 1)) + 1)) + 1)) + 1)) + 1), IntKind.i64.wrap ((IntKind.i64.wrap ((IntKind.i64.wrap ((IntKind.i64.wrap ((IntKind.i64.wrap ((IntKind.i64.wrap ((IntKind.i64.wrap ((IntKind.i64.wrap (i1 + 1)) + 1)) + 1)) + 1)) + 1)) + 1)) + 1)) + 1), q7⟩⟩⟩ : Change)]) zs
def f3041 (fu : Nat) (a0 : List Change) (a1 : Int) : Option (Int × (List Change)) := f3041_l1 fu fu a1 [] a0
theorem n3041 : ∃ fn c, Tryz.prog.funcs[41]? = some fn ∧ (fn.name == "runtime.NumGoroutine") = false ∧ fn.body = some c := ⟨_, _, Tryz.func41, by kernel_rfl, rfl⟩
theorem c3041 (fu : Nat) (vp0 : Value) (a0 : List Change) (a1 : Int) : Ctr Tryz.prog 41 [isV vp0, isI .i64 a1] [arrO tChange vp0 a0] (f3041 fu a0 a1) (fun q _ => [arrO tChange vp0 q.2]) (fun q => isI .i64 q.1) := by
  refine Ctr.of_W Tryz.func41 rfl Tryz.ntmps41 rfl fun A w => ?_
  unfold f3041
  refine .know 0 rfl <| .seq <| .region <| .assign rfl rfl <| .nil ?_
  refine .seq <| .seq <| .region <| .assign rfl rfl <| .nil ?_
  refine .block <| .loop <| .keep [1, 5] [0] rfl ?_
  refine (show ∀ (n1 : Nat) (i1 : Int) (s zs : List Change), W _ _ _ _ _ ⟨[(1, isI .i64 i1, none), (5, isI .i64 (s.length : Int), none), (0, isV vp0, some vp0)], [arrO tChange vp0 (s ++ zs)]⟩ (f3041_l1 fu n1 i1 s zs) from ?_) fu _ [] _
  intro n1
  induction n1 with
  | zero => exact fun _ _ _ => .stop
  | succ n1 ih1 =>
    intro i1 s zs
    refine W_limA 0 rfl fun hlim => ?_
    refine .inLoop <| .seq <| .seq <| .region <| .move rfl rfl <| .move rfl rfl <| .lenA 0 rfl rfl Tryz.underlying29 rfl <| .bin rfl rfl rfl rfl <| .nil ?_
    refine .eqr (r' := cond (decide ((s.length : Int) < ((s ++ zs).length : Int))) (f3041_l1 fu (n1 + 1) i1 s zs) (f3041_l1 fu (n1 + 1) i1 s zs)) (by cases decide ((s.length : Int) < ((s ++ zs).length : Int)) <;> rfl) ?_
    refine .cond rfl (fun hlt => ?_) (fun hge => ?_)
    · obtain ⟨z, zs, rfl⟩ := more_of hlt
      refine .skip <| .seq <| .block <| .seq <| .region <| .move rfl rfl <| .move rfl rfl <| .move rfl rfl <| .elemM 0 rfl rfl rfl Tryz.underlying29 ty56 rfl <| .fieldA rfl fa56_0 rfl <| .storeM 0 fChange_0 rfl rfl rfl ty3 <| .nil ?_
      refine .seq <| .region <| .move rfl rfl <| .bin rfl rfl rfl rfl <| .assign rfl rfl <| .nil ?_
      refine .seq <| .region <| .move rfl rfl <| .move rfl rfl <| .move rfl rfl <| .call0 (c3055 fu _) n3055 rfl rfl fun q4 => .elemM 0 rfl rfl rfl Tryz.underlying29 ty56 rfl <| .fieldA rfl fa56_1 rfl <| .storeM 0 fChange_1 rfl rfl rfl ty9 <| .nil ?_
      refine .seq <| .region <| .move rfl rfl <| .bin rfl rfl rfl rfl <| .assign rfl rfl <| .nil ?_
      refine .seq <| .region <| .move rfl rfl <| .move rfl rfl <| .move rfl rfl <| .call0 (c3055 fu _) n3055 rfl rfl fun q5 => .elemM 0 rfl rfl rfl Tryz.underlying29 ty56 rfl <| .fieldA rfl fa56_2 rfl <| .storeM 0 fChange_2 rfl rfl rfl ty9 <| .nil ?_
      refine .seq <| .region <| .move rfl rfl <| .bin rfl rfl rfl rfl <| .assign rfl rfl <| .nil ?_
      refine .seq <| .region <| .move rfl rfl <| .move rfl rfl <| .move rfl rfl <| .call0 (c3055 fu _) n3055 rfl rfl fun q6 => .elemM 0 rfl rfl rfl Tryz.underlying29 ty56 rfl <| .fieldA rfl fa56_3 rfl <| .fieldA rfl fa52_0 rfl <| .storeM 0 (fChange_3.comp fCol_0) rfl rfl rfl ty9 <| .nil ?_
      refine .seq <| .region <| .move rfl rfl <| .bin rfl rfl rfl rfl <| .assign rfl rfl <| .nil ?_
      refine .seq <| .region <| .move rfl rfl <| .move rfl rfl <| .move rfl rfl <| .elemM 0 rfl rfl rfl Tryz.underlying29 ty56 rfl <| .fieldA rfl fa56_3 rfl <| .fieldA rfl fa52_1 rfl <| .storeM 0 (fChange_3.comp fCol_1) rfl rfl rfl ty3 <| .nil ?_
      refine .seq <| .region <| .move rfl rfl <| .bin rfl rfl rfl rfl <| .assign rfl rfl <| .nil ?_
      refine .seq <| .region <| .move rfl rfl <| .move rfl rfl <| .move rfl rfl <| .useN (rfl : decide ((3 : Int) = 0) = false) <| .rem rfl rfl rfl <| .bin rfl rfl rfl rfl <| .elemM 0 rfl rfl rfl Tryz.underlying29 ty56 rfl <| .fieldA rfl fa56_3 rfl <| .fieldA rfl fa52_2 rfl <| .storeM 0 (fChange_3.comp fCol_2) rfl rfl rfl ty4 <| .nil ?_
      refine .seq <| .region <| .move rfl rfl <| .bin rfl rfl rfl rfl <| .assign rfl rfl <| .nil ?_
      refine .seq <| .region <| .move rfl rfl <| .move rfl rfl <| .move rfl rfl <| .useN (rfl : decide ((3 : Int) = 0) = false) <| .rem rfl rfl rfl <| .bin rfl rfl rfl rfl <| .elemM 0 rfl rfl rfl Tryz.underlying29 ty56 rfl <| .fieldA rfl fa56_3 rfl <| .fieldA rfl fa52_3 rfl <| .storeM 0 (fChange_3.comp fCol_3) rfl rfl rfl ty4 <| .nil ?_
      refine .seq <| .region <| .move rfl rfl <| .bin rfl rfl rfl rfl <| .assign rfl rfl <| .nil ?_
      refine .seq <| .region <| .move rfl rfl <| .move rfl rfl <| .move rfl rfl <| .elemM 0 rfl rfl rfl Tryz.underlying29 ty56 rfl <| .fieldA rfl fa56_3 rfl <| .fieldA rfl fa52_4 rfl <| .fieldA rfl fa47_0 rfl <| .storeM 0 (fChange_3.comp (fCol_4.comp fVal_0)) rfl rfl rfl ty3 <| .nil ?_
      refine .seq <| .region <| .move rfl rfl <| .bin rfl rfl rfl rfl <| .assign rfl rfl <| .nil ?_
      refine .seq <| .region <| .move rfl rfl <| .move rfl rfl <| .move rfl rfl <| .elemM 0 rfl rfl rfl Tryz.underlying29 ty56 rfl <| .fieldA rfl fa56_3 rfl <| .fieldA rfl fa52_4 rfl <| .fieldA rfl fa47_1 rfl <| .storeM 0 (fChange_3.comp (fCol_4.comp fVal_1)) rfl rfl rfl ty3 <| .nil ?_
      refine .seq <| .region <| .move rfl rfl <| .bin rfl rfl rfl rfl <| .assign rfl rfl <| .nil ?_
      refine .seq <| .region <| .move rfl rfl <| .move rfl rfl <| .move rfl rfl <| .call0 (c3055 fu _) n3055 rfl rfl fun q7 => .elemM 0 rfl rfl rfl Tryz.underlying29 ty56 rfl <| .fieldA rfl fa56_3 rfl <| .fieldA rfl fa52_4 rfl <| .fieldA rfl fa47_2 rfl <| .storeM 0 (fChange_3.comp (fCol_4.comp fVal_2)) rfl rfl rfl ty9 <| .nil ?_
      refine .region <| .move rfl rfl <| .bin rfl rfl rfl rfl <| .assign rfl rfl <| .nil ?_
      refine .inBlock <| .region <| .move rfl rfl <| .bin rfl rfl rfl rfl <| .assign rfl rfl <| .nil ?_
      have hx := ih1 (IntKind.i64.wrap ((IntKind.i64.wrap ((IntKind.i64.wrap ((IntKind.i64.wrap ((IntKind.i64.wrap ((IntKind.i64.wrap ((IntKind.i64.wrap ((IntKind.i64.wrap ((IntKind.i64.wrap ((IntKind.i64.wrap (i1 + 1)) + 1)) + 1)) + 1)) + 1)) + 1)) + 1)) + 1)) + 1)) + 1)) (s ++ [(⟨i1, q4, q5, ⟨q6, IntKind.i64.wrap ((IntKind.i64.wrap ((IntKind.i64.wrap ((IntKind.i64.wrap (i1 + 1)) + 1)) + 1)) + 1), decide (Int.tmod (IntKind.i64.wrap ((IntKind.i64.wrap ((IntKind.i64.wrap ((IntKind.i64.wrap ((IntKind.i64.wrap (i1 + 1)) + 1)) + 1)) + 1)) + 1)) 3 = 0), decide (Int.tmod (IntKind.i64.wrap ((IntKind.i64.wrap ((IntKind.i64.wrap ((IntKind.i64.wrap ((IntKind.i64.wrap ((IntKind.i64.wrap (i1 + 1)) + 1)) + 1)) + 1)) + 1)) + 1)) 3 = 0), ⟨IntKind.i64.wrap ((IntKind.i64.wrap ((IntKind.i64.wrap ((IntKind.i64.wrap ((IntKind.i64.wrap ((IntKind.i64.wrap ((IntKind.i64.wrap (i1 + 1)) + 1)) + 1)) + 1)) + 1)) + 1)) + 1), IntKind.i64.wrap ((IntKind.i64.wrap ((IntKind.i64.wrap ((IntKind.i64.wrap ((IntKind.i64.wrap ((IntKind.i64.wrap ((IntKind.i64.wrap ((IntKind.i64.wrap (i1 + 1)) + 1)) + 1)) + 1)) + 1)) + 1)) + 1)) + 1), q7⟩⟩⟩ : Change)]) zs
      rw [List.append_assoc, List.length_append, List.length_singleton, len_next hlim] at hx
      exact .keep [1, 5] [0] rfl hx
    · obtain rfl := none_of hge
      rw [List.append_nil]
      refine .exit rfl <| .seq <| .region <| .move rfl rfl <| .assign rfl rfl <| .nil ?_
      exact .ret1 Tryz.func41 Tryz.results41 (.tmp rfl) rfl (fun _ _ => .cons_cons _ <| .slnil)
def f3023_l1 (fu : Nat) : Nat → Int → List Set → List Set → Option (Int × (List Set))
  | 0, _, _, _ => none
  | _ + 1, i1, s, [] => some (i1, s)
  | n1 + 1, i1, s, _ :: zs => (f3055 fu i1).bind fun q4 => (f3055 fu (IntKind.i64.wrap ((IntKind.i64.wrap ((IntKind.i64.wrap (i1 + 1)) + 1)) + 1))).bind fun q5 => f3023_l1 fu n1 (IntKind.i64.wrap ((IntKind.i64.wrap ((IntKind.i64.wrap ((IntKind.i64.wrap (i1 + 1)) + 1)) + 1)) + 1)) (s ++ [(⟨q4, ⟨IntKind.i64.wrap (i1 + 1), IntKind.i64.wrap ((IntKind.i64.wrap (i1 + 1)) + 1), q5⟩⟩ : Set)]) zs
def f3023 (fu : Nat) (a0 : List Set) (a1 : Int) : Option (Int × (List Set)) := f3023_l1 fu fu a1 [] a0
theorem n3023 : ∃ fn c, Tryz.prog.funcs[23]? = some fn ∧ (fn.name == "runtime.NumGoroutine") = false ∧ fn.body = some c := ⟨_, _, Tryz.func23, by kernel_rfl, rfl⟩
theorem c3023 (fu : Nat) (vp0 : Value) (a0 : List Set) (a1 : Int) : Ctr Tryz.prog 23 [isV vp0, isI .i64 a1] [arrO tSet vp0 a0] (f3023 fu a0 a1) (fun q _ => [arrO tSet vp0 q.2]) (fun q => isI .i64 q.1) := by
  refine Ctr.of_W Tryz.func23 rfl Tryz.ntmps23 rfl fun A w => ?_
  unfold f3023
  refine .know 0 rfl <| .seq <| .region <| .assign rfl rfl <| .nil ?_
  refine .seq <| .seq <| .region <| .assign rfl rfl <| .nil ?_
  refine .block <| .loop <| .keep [1, 5] [0] rfl ?_
  refine (show ∀ (n1 : Nat) (i1 : Int) (s zs : List Set), W _ _ _ _ _ ⟨[(1, isI .i64 i1, none), (5, isI .i64 (s.length : Int), none), (0, isV vp0, some vp0)], [arrO tSet vp0 (s ++ zs)]⟩ (f3023_l1 fu n1 i1 s zs) from ?_) fu _ [] _
  intro n1
  induction n1 with
  | zero => exact fun _ _ _ => .stop
  | succ n1 ih1 =>
    intro i1 s zs
    refine W_limA 0 rfl fun hlim => ?_
    refine .inLoop <| .seq <| .seq <| .region <| .move rfl rfl <| .move rfl rfl <| .lenA 0 rfl rfl Tryz.underlying57 rfl <| .bin rfl rfl rfl rfl <| .nil ?_
    refine .eqr (r' := cond (decide ((s.length : Int) < ((s ++ zs).length : Int))) (f3023_l1 fu (n1 + 1) i1 s zs) (f3023_l1 fu (n1 + 1) i1 s zs)) (by cases decide ((s.length : Int) < ((s ++ zs).length : Int)) <;> rfl) ?_
    refine .cond rfl (fun hlt => ?_) (fun hge => ?_)
    · obtain ⟨z, zs, rfl⟩ := more_of hlt
      refine .skip <| .seq <| .block <| .seq <| .region <| .move rfl rfl <| .move rfl rfl <| .move rfl rfl <| .call0 (c3055 fu _) n3055 rfl rfl fun q4 => .elemM 0 rfl rfl rfl Tryz.underlying57 ty49 rfl <| .fieldA rfl fa49_0 rfl <| .storeM 0 fSet_0 rfl rfl rfl ty9 <| .nil ?_
      refine .seq <| .region <| .move rfl rfl <| .bin rfl rfl rfl rfl <| .assign rfl rfl <| .nil ?_
      refine .seq <| .region <| .move rfl rfl <| .move rfl rfl <| .move rfl rfl <| .elemM 0 rfl rfl rfl Tryz.underlying57 ty49 rfl <| .fieldA rfl fa49_1 rfl <| .fieldA rfl fa47_0 rfl <| .storeM 0 (fSet_1.comp fVal_0) rfl rfl rfl ty3 <| .nil ?_
      refine .seq <| .region <| .move rfl rfl <| .bin rfl rfl rfl rfl <| .assign rfl rfl <| .nil ?_
      refine .seq <| .region <| .move rfl rfl <| .move rfl rfl <| .move rfl rfl <| .elemM 0 rfl rfl rfl Tryz.underlying57 ty49 rfl <| .fieldA rfl fa49_1 rfl <| .fieldA rfl fa47_1 rfl <| .storeM 0 (fSet_1.comp fVal_1) rfl rfl rfl ty3 <| .nil ?_
      refine .seq <| .region <| .move rfl rfl <| .bin rfl rfl rfl rfl <| .assign rfl rfl <| .nil ?_
      refine .seq <| .region <| .move rfl rfl <| .move rfl rfl <| .move rfl rfl <| .call0 (c3055 fu _) n3055 rfl rfl fun q5 => .elemM 0 rfl rfl rfl Tryz.underlying57 ty49 rfl <| .fieldA rfl fa49_1 rfl <| .fieldA rfl fa47_2 rfl <| .storeM 0 (fSet_1.comp fVal_2) rfl rfl rfl ty9 <| .nil ?_
      refine .region <| .move rfl rfl <| .bin rfl rfl rfl rfl <| .assign rfl rfl <| .nil ?_
      refine .inBlock <| .region <| .move rfl rfl <| .bin rfl rfl rfl rfl <| .assign rfl rfl <| .nil ?_
      have hx := ih1 (IntKind.i64.wrap ((IntKind.i64.wrap ((IntKind.i64.wrap ((IntKind.i64.wrap (i1 + 1)) + 1)) + 1)) + 1)) (s ++ [(⟨q4, ⟨IntKind.i64.wrap (i1 + 1), IntKind.i64.wrap ((IntKind.i64.wrap (i1 + 1)) + 1), q5⟩⟩ : Set)]) zs
      rw [List.append_assoc, List.length_append, List.length_singleton, len_next hlim] at hx
      exact .keep [1, 5] [0] rfl hx
    · obtain rfl := none_of hge
      rw [List.append_nil]
      refine .exit rfl <| .seq <| .region <| .move rfl rfl <| .assign rfl rfl <| .nil ?_
      exact .ret1 Tryz.func23 Tryz.results23 (.tmp rfl) rfl (fun _ _ => .cons_cons _ <| .slnil)
end Go.Proofs.YtejobmamkeoheaaGreatDoor
