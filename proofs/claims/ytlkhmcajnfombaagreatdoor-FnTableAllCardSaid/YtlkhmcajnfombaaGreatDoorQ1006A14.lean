/- Functions of the program: what each answers, and that the machine answers so. -/
import Derived.Test.YtlkhmcajnfombaaGreatDoorQ1006A13
import Derived.KernelRfl
set_option linter.unusedVariables false
set_option linter.unusedSimpArgs false
set_option linter.deprecated false
set_option linter.unusedSectionVars false
set_option linter.all false
namespace Go.Proofs.YtlkhmcajnfombaaGreatDoor
open Go Go.HL
def f38_j2 (a0 : List Col) (a1 : List Val) (i2 : Int) (i3 : List Set) (rec1 : Int → (List Set) → Option (List Set)) (i5 : Bool) : Option (List Set) := cond i5 (cond (decide (0 ≤ i2) && decide (i2 < (List.length a0 : Int))) (cond (decide (0 ≤ i2) && decide (i2 < (List.length a1 : Int))) (cond (decide (List.length i3 + List.length ([(⟨(a0.getD i2.toNat default).name, a1.getD i2.toNat default⟩ : Set)] : List Set) ≤ CAP)) (rec1 (IntKind.i64.wrap (i2 + 1)) (i3 ++ ([(⟨(a0.getD i2.toNat default).name, a1.getD i2.toNat default⟩ : Set)] : List Set))) none) none) none) (some i3)
def f38_l1 (a0 : List Col) (a1 : List Val) : Nat → Int → (List Set) → Option (List Set)
  | 0, _, _ => none
  | n1 + 1, i2, i3 => cond (decide (i2 < (List.length a0 : Int))) (f38_j2 a0 a1 i2 i3 (f38_l1 a0 a1 n1) (decide (i2 < (List.length a1 : Int)))) (f38_j2 a0 a1 i2 i3 (f38_l1 a0 a1 n1) false)
def f38 (fu : Nat) (a0 : List Col) (a1 : List Val) : Option (List Set) := f38_l1 a0 a1 fu 0 ([] : List Set)
theorem n38 : ∃ fn c, Tryz.prog.funcs[21]? = some fn ∧ (fn.name == "runtime.NumGoroutine") = false ∧ fn.body = some c := ⟨_, _, Tryz.func21, by kernel_rfl, rfl⟩
theorem c38 (fu : Nat) (a0 : List Col) (a1 : List Val) : Ctr Tryz.prog 21 [(tL tCol).va a0, (tL tVal).va a1] [] (f38 fu a0 a1) (fun _ _ => []) (fun q => (tL tSet).va q) := by
  refine Ctr.of_W Tryz.func21 rfl Tryz.ntmps21 rfl fun A w => ?_
  unfold f38
  refine .seq <| .region <| .assignNil tSet rfl <| .nil ?_
  refine .seq <| .region <| .lit (T := tSet) Tryz.underlying28 el49 rfl rfl (.nil) rfl fun v1 => .assign rfl rfl <| .nil ?_
  refine .seq <| .seq <| .region <| .assign rfl rfl <| .nil ?_
  refine .block <| .loop <| .keep [0, 1, 6] [5] rfl ?_
  refine (show ∀ (n1 : Nat) (i2 : Int) (i3 : List Set) (v4 : Value), W _ _ _ _ _ ⟨[(0, (tL tCol).va a0, none), (1, (tL tVal).va a1, none), (6, isI .i64 i2, none), (5, (tL tSet).va i3, some v4)], [appO 4 v4]⟩ (f38_l1 a0 a1 n1 i2 i3) from ?_) fu _ _ _
  intro n1
  induction n1 with
  | zero => exact fun _ _ _ => .stop
  | succ n1 ih1 =>
    intro i2 i3 v4
    refine .inLoop <| .seq <| .seq <| .join1 (fun i5 => ⟨[(0, (tL tCol).va a0, none), (1, (tL tVal).va a1, none), (6, isI .i64 i2, none), (17, isB i5, none), (5, (tL tSet).va i3, some v4)], [appO 4 v4]⟩) (fun i5 => f38_j2 a0 a1 i2 i3 (f38_l1 a0 a1 n1) i5) (fun i5 => ?_) (fun hj2 => ?_)
    · refine .cond rfl (fun _ => ?_) (fun _ => ?_)
      · refine .skip <| .seq <| .block <| .pT fun h3 => ?_
        refine .pT fun h4 => ?_
        refine .draw 10 [0] mix (by kernel_rfl) (.cons (fun _ _ _ hP hE h => .move (hE.op rfl) rfl <| h) <| .cons (fun _ _ _ hP hE h => .move (hE.op rfl) rfl <| h) <| .cons (fun _ _ _ hP hE h => .move (hE.op rfl) rfl <| h) <| .cons (fun _ _ _ hP hE h => .useC h3 <| .elemAt (hE.op rfl) (hE.op rfl) Tryz.underlying23 ty52 rfl <| h) <| .cons (fun _ _ _ hP hE h => .fieldAt fCol_0 (hE.op rfl) fa52_0 rfl <| h) <| .cons (fun _ _ _ hP hE h => .load (hE.op rfl) ty9 rfl <| h) <| .cons (fun _ _ _ hP hE h => .move (hE.op rfl) rfl <| h) <| .cons (fun _ _ _ hP hE h => .move (hE.op rfl) rfl <| h) <| .cons (fun _ _ _ hP hE h => .useC h4 <| .elemAt (hE.op rfl) (hE.op rfl) Tryz.underlying42 ty47 rfl <| h) <| .cons (fun _ _ _ hP hE h => .load (hE.op rfl) ty47 rfl <| h) <| .nil) rfl <| .build rfl st49 z49 (.cons fSet_0 rfl rfl <| .cons fSet_1 rfl rfl <| .nil) rfl <| .litN (T := tSet) Tryz.underlying28 el49 rfl rfl (.cons rfl <| .nil) rfl <| .app (T := tSet) 0 rfl rfl rfl Tryz.underlying28 el49 rfl fun v6 => .assign rfl rfl <| .nil ?_
        refine .inBlock <| .region <| .move rfl rfl <| .bin rfl rfl rfl rfl <| .assign rfl rfl <| .nil ?_
        exact .keep [0, 1, 6] [5] rfl (ih1 _ _ _)
      · refine .exit rfl <| .seq <| .region <| .move rfl rfl <| .assign rfl rfl <| .nil ?_
        exact .ret1 Tryz.func21 Tryz.results21 (.tmp rfl) rfl (fun _ _ => .cons _ <| .slnil)
    · refine .region <| .move rfl rfl <| .move rfl rfl <| .lenL rfl Tryz.underlying23 rfl <| .bin rfl rfl rfl rfl <| .move rfl rfl <| .split 12 rfl (fun _ => ?_) (fun _ => ?_)
      · refine .on rfl rfl <| .move rfl rfl <| .on rfl rfl <| .move rfl rfl <| .on rfl rfl <| .lenL rfl Tryz.underlying42 rfl <| .on rfl rfl <| .bin rfl rfl rfl rfl <| .pickT rfl rfl rfl <| .nil ?_
        exact .keep [0, 1, 6, 17] [5] rfl (hj2 _)
      · refine .off rfl rfl rfl <| .off rfl rfl rfl <| .off rfl rfl rfl <| .off rfl rfl rfl <| .pickF rfl rfl rfl <| .nil ?_
        exact .keep [0, 1, 6, 17] [5] rfl (hj2 _)
end Go.Proofs.YtlkhmcajnfombaaGreatDoor
