/- Functions of the program: what each answers, and that the machine answers so. -/
import Derived.Test.YtbnklinfjmmlfaaGreatDoorQ11A12
import Derived.KernelRfl
import Derived.KernelRfl
set_option linter.unusedVariables false
set_option linter.unusedSimpArgs false
set_option linter.deprecated false
set_option linter.unusedSectionVars false
set_option linter.all false
namespace Go.Proofs.YtbnklinfjmmlfaaGreatDoor
open Go Go.HL
def f38_j2 (a0 : List Col) (a1 : List Val) (i2 : Int) (i3 : List Set) (rec1 : Int → (List Set) → Option (List Set)) (i5 : Bool) : Option (List Set) := cond i5 (cond (decide (0 ≤ i2) && decide (i2 < (List.length a0 : Int))) (cond (decide (0 ≤ i2) && decide (i2 < (List.length a1 : Int))) (cond (decide (List.length i3 + List.length ([(⟨(a0.getD i2.toNat default).name, a1.getD i2.toNat default⟩ : Set)] : List Set) ≤ CAP)) (rec1 (IntKind.i64.wrap (i2 + 1)) (i3 ++ ([(⟨(a0.getD i2.toNat default).name, a1.getD i2.toNat default⟩ : Set)] : List Set))) none) none) none) (some i3)
def f38_l1 (a0 : List Col) (a1 : List Val) : Nat → Int → (List Set) → Option (List Set)
  | 0, _, _ => none
  | n1 + 1, i2, i3 => cond (decide (i2 < (List.length a0 : Int))) (f38_j2 a0 a1 i2 i3 (f38_l1 a0 a1 n1) (decide (i2 < (List.length a1 : Int)))) (f38_j2 a0 a1 i2 i3 (f38_l1 a0 a1 n1) false)
def f38 (fu : Nat) (a0 : List Col) (a1 : List Val) : Option (List Set) := f38_l1 a0 a1 fu 0 ([] : List Set)
theorem n38 : ∃ fn c, Tryz.prog.funcs[38]? = some fn ∧ (fn.name == "runtime.NumGoroutine") = false ∧ fn.body = some c := ⟨_, _, Tryz.func38, by kernel_rfl, rfl⟩
theorem c38 (fu : Nat) (a0 : List Col) (a1 : List Val) : Ctr Tryz.prog 38 [(tL tCol).va a0, (tL tVal).va a1] [] (f38 fu a0 a1) (fun _ _ => []) (fun q => (tL tSet).va q) := by
  refine Ctr.of_W Tryz.func38 rfl Tryz.ntmps38 rfl fun A w => ?_
  unfold f38
  refine .seq <| .region <| .assignNil tSet rfl <| .nil ?_
  refine .seq <| .region <| .lit (T := tSet) Tryz.underlying40 el49 rfl rfl (.nil) rfl fun v1 => .assign rfl rfl <| .nil ?_
  refine .seq <| .seq <| .region <| .assign rfl rfl <| .nil ?_
  refine .block <| .loop <| .keep [0, 1, 6] [5] rfl ?_
  refine (show ∀ (n1 : Nat) (i2 : Int) (i3 : List Set) (v4 : Value), W _ _ _ _ _ ⟨[(0, (tL tCol).va a0, none), (1, (tL tVal).va a1, none), (6, isI .i64 i2, none), (5, (tL tSet).va i3, some v4)], [appO 4 v4]⟩ (f38_l1 a0 a1 n1 i2 i3) from ?_) fu _ _ _
  intro n1
  induction n1 with
  | zero => exact fun _ _ _ => .stop
  | succ n1 ih1 =>
    intro i2 i3 v4
    refine .inLoop <| .seq <| .seq <| .join1 (fun i5 => ⟨[(0, (tL tCol).va a0, none), (1, (tL tVal).va a1, none), (6, isI .i64 i2, none), (17, isB i5, none), (5, (tL tSet).va i3, some v4)], [appO 4 v4]⟩) (fun i5 => f38_j2 a0 a1 i2 i3 (f38_l1 a0 a1 n1) i5) (fun i5 => ?_) (fun hj2 => ?_)
    · refine .cond rfl (fun _ => ?_) (fun _ => ?_)
      · refine .skip <| .seq <| .block <| .pT fun h3 => ?_
        refine .pT fun h4 => ?_
        refine .draw 10 [0] mix (by kernel_rfl) (.cons (fun _ _ _ hP hE h => .move (hE.op rfl) rfl <| h) <| .cons (fun _ _ _ hP hE h => .move (hE.op rfl) rfl <| h) <| .cons (fun _ _ _ hP hE h => .move (hE.op rfl) rfl <| h) <| .cons (fun _ _ _ hP hE h => .useC h3 <| .elemAt (hE.op rfl) (hE.op rfl) Tryz.underlying23 ty52 rfl <| h) <| .cons (fun _ _ _ hP hE h => .fieldAt fCol_0 (hE.op rfl) fa52_0 rfl <| h) <| .cons (fun _ _ _ hP hE h => .load (hE.op rfl) ty9 rfl <| h) <| .cons (fun _ _ _ hP hE h => .move (hE.op rfl) rfl <| h) <| .cons (fun _ _ _ hP hE h => .move (hE.op rfl) rfl <| h) <| .cons (fun _ _ _ hP hE h => .useC h4 <| .elemAt (hE.op rfl) (hE.op rfl) Tryz.underlying32 ty47 rfl <| h) <| .cons (fun _ _ _ hP hE h => .load (hE.op rfl) ty47 rfl <| h) <| .nil) rfl <| .build rfl st49 z49 (.cons fSet_0 rfl rfl <| .cons fSet_1 rfl rfl <| .nil) rfl <| .litN (T := tSet) Tryz.underlying40 el49 rfl rfl (.cons rfl <| .nil) rfl <| .app (T := tSet) 0 rfl rfl rfl Tryz.underlying40 el49 rfl fun v6 => .assign rfl rfl <| .nil ?_
        refine .inBlock <| .region <| .move rfl rfl <| .bin rfl rfl rfl rfl <| .assign rfl rfl <| .nil ?_
        exact .keep [0, 1, 6] [5] rfl (ih1 _ _ _)
      · refine .exit rfl <| .seq <| .region <| .move rfl rfl <| .assign rfl rfl <| .nil ?_
        exact .ret1 Tryz.func38 Tryz.results38 (.tmp rfl) rfl (fun _ _ => .cons _ <| .slnil)
    · refine .region <| .move rfl rfl <| .move rfl rfl <| .lenL rfl Tryz.underlying23 rfl <| .bin rfl rfl rfl rfl <| .move rfl rfl <| .split 12 rfl (fun _ => ?_) (fun _ => ?_)
      · refine .on rfl rfl <| .move rfl rfl <| .on rfl rfl <| .move rfl rfl <| .on rfl rfl <| .lenL rfl Tryz.underlying32 rfl <| .on rfl rfl <| .bin rfl rfl rfl rfl <| .pickT rfl rfl rfl <| .nil ?_
        exact .keep [0, 1, 6, 17] [5] rfl (hj2 _)
      · refine .off rfl rfl rfl <| .off rfl rfl rfl <| .off rfl rfl rfl <| .off rfl rfl rfl <| .pickF rfl rfl rfl <| .nil ?_
        exact .keep [0, 1, 6, 17] [5] rfl (hj2 _)
def f11_j2 (i15 : Bool) : Option Bool := some i15
def f11_j1 (fu : Nat) (q1 : Table × Int × (List Set)) (q3 : Table × Int) (q5 : Table × Int) (i7 : Bool) : Option Bool := cond i7 (some (decide (q3.2 = q5.2))) ((f32 fu q3.1 q1.2.1 q1.2.2).bind fun q8 => (f16 fu q3.1 q1.2.1).bind fun q10 => (f23 fu q3.1).bind fun q11 => (f38 fu q11 q10.1).bind fun q12 => (f32 fu q3.1 q1.2.1 q12).bind fun q13 => cond (decide (q8.2 = 0)) ((f15 fu q3.1 q8.1).bind fun q16 => cond q16 (cond (decide (q13.2 = 0)) ((f15 fu q3.1 q13.1).bind fun q17 => f11_j2 q17) (f11_j2 false)) (f11_j2 false)) (f11_j2 false))
def f11 (fu : Nat) (a0 : List Int) : Option Bool := cond (decide (1048576 < (List.length a0 : Int))) (some true) ((f31 fu a0).bind fun q1 => (f32 fu q1.1 q1.2.1 q1.2.2).bind fun q3 => (f33 fu q1.1 q1.2.1 q1.2.2).bind fun q5 => cond (!decide (q3.2 = q5.2)) (f11_j1 fu q1 q3 q5 true) (f11_j1 fu q1 q3 q5 (!decide (q3.2 = 0))))
theorem c11 (fu : Nat) (a0 : List Int) : Ctr Tryz.prog 11 [(tL (tI .u8)).va a0] [] (f11 fu a0) (fun _ _ => []) (fun q => isB q) := by
  refine Ctr.of_W Tryz.func11 rfl Tryz.ntmps11 rfl fun A w => ?_
  unfold f11
  refine .seq <| .region <| .assign rfl rfl <| .nil ?_
  refine .seq <| .seq <| .region <| .move rfl rfl <| .lenL rfl Tryz.underlying22 rfl <| .bin rfl rfl rfl rfl <| .nil ?_
  refine .cond rfl (fun _ => ?_) (fun _ => ?_)
  · refine .seq <| .region <| .assign rfl rfl <| .nil ?_
    exact .ret1 Tryz.func11 Tryz.results11 (.tmp rfl) rfl (fun _ _ => .slnil)
  · refine .skip <| .seq <| .region <| .move rfl rfl <| .call0 (c31 fu _) n31 rfl rfl fun q1 => .move rfl rfl <| .extract rfl rfl rfl <| .extract rfl rfl rfl <| .extract rfl rfl rfl <| .alloc tTable d0_27 [] z27 rfl fun b2 => .storeP 0 (Fld.self _) rfl rfl rfl ty27 <| .assign rfl rfl <| .assign rfl rfl <| .nil ?_
    refine .seq <| .region <| .loadP 0 (Fld.self _) rfl rfl ty27 rfl <| .move rfl rfl <| .move rfl rfl <| .call0 (c32 fu _ _ _) n32 rfl rfl fun q3 => .move rfl rfl <| .extract rfl rfl rfl <| .extract rfl rfl rfl <| .alloc tTable d0_27 [] z27 rfl fun b4 => .storeP 0 (Fld.self _) rfl rfl rfl ty27 <| .assign rfl rfl <| .nil ?_
    refine .seq <| .region <| .loadP 1 (Fld.self _) rfl rfl ty27 rfl <| .move rfl rfl <| .move rfl rfl <| .call0 (c33 fu _ _ _) n33 rfl rfl fun q5 => .move rfl rfl <| .extract rfl rfl rfl <| .extract rfl rfl rfl <| .alloc tTable d0_27 [] z27 rfl fun b6 => .storeP 0 (Fld.self _) rfl rfl rfl ty27 <| .assign rfl rfl <| .nil ?_
    refine .seq <| .seq <| .join1 (fun i7 => ⟨[(4, isI .i64 q1.2.1, none), (5, (tL tSet).va q1.2.2, none), (6, isP b4 0, none), (7, isI .i64 q3.2, none), (9, isI .i64 q5.2, none), (45, isB i7, none)], [boxO b4 tTable q3.1 []]⟩) (fun i7 => f11_j1 fu q1 q3 q5 i7) (fun i7 => ?_) (fun hj1 => ?_)
    · refine .cond rfl (fun _ => ?_) (fun _ => ?_)
      · refine .seq <| .region <| .move rfl rfl <| .move rfl rfl <| .bin rfl rfl rfl rfl <| .assign rfl rfl <| .nil ?_
        exact .ret1 Tryz.func11 Tryz.results11 (.tmp rfl) rfl (fun _ _ => .cons _ <| .slnil)
      · refine .skip <| .seq <| .region <| .loadP 0 (Fld.self _) rfl rfl ty27 rfl <| .move rfl rfl <| .move rfl rfl <| .call0 (c32 fu _ _ _) n32 rfl rfl fun q8 => .move rfl rfl <| .extract rfl rfl rfl <| .extract rfl rfl rfl <| .alloc tTable d0_27 [] z27 rfl fun b9 => .storeP 0 (Fld.self _) rfl rfl rfl ty27 <| .assign rfl rfl <| .nil ?_
        refine .seq <| .region <| .loadP 1 (Fld.self _) rfl rfl ty27 rfl <| .move rfl rfl <| .call0 (c16 fu _ _) n16 rfl rfl fun q10 => .move rfl rfl <| .extract rfl rfl rfl <| .extract rfl rfl rfl <| .assign rfl rfl <| .assign rfl rfl <| .nil ?_
        refine .seq <| .pbind fun q11 h1 => ?_
        refine .pbind fun q12 h2 => ?_
        refine .pbind fun q13 h3 => ?_
        refine .drawS 11 [9] [10] [] mix (by kernel_rfl) (.cons (fun _ _ _ hP hE h => .loadP 1 (Fld.self _) (hE.op rfl) (hP.get rfl rfl) ty27 rfl <| h) <| .cons (fun _ _ _ hP hE h => .move (hE.op rfl) rfl <| h) <| .cons (fun _ _ _ hP hE h => .loadP 1 (Fld.self _) (hE.op rfl) (hP.get rfl rfl) ty27 rfl <| h) <| .cons (fun _ _ _ hP hE h => .bindE h1 (fun r h => .call0 (c23 fu _) n23 (hE.ops rfl) rfl h) <| h) <| .cons (fun _ _ _ hP hE h => .move (hE.op rfl) rfl <| h) <| .cons (fun _ _ _ hP hE h => .bindE h2 (fun r h => .call0 (c38 fu _ _) n38 (hE.ops rfl) rfl h) <| h) <| .cons (fun _ _ _ hP hE h => .bindE h3 (fun r h => .call0 (c32 fu _ _ _) n32 (hE.ops rfl) rfl h) <| h) <| .cons (fun _ _ _ hP hE h => .move (hE.op rfl) rfl <| h) <| .cons (fun _ _ _ hP hE h => .extract (hE.op rfl) rfl rfl <| h) <| .cons (fun _ _ _ hP hE h => .extract (hE.op rfl) rfl rfl <| h) <| .skip <| .nil) rfl <| .cons (d := 14) rfl rfl fun _ _ hE h => .alloc tTable d0_27 [] z27 rfl fun b14 => .toEnd <| h _ _ (.same <| .same <| .nil) <| .nil <| .storeP 2 (Fld.self _) rfl rfl rfl ty27 <| .assign rfl rfl <| .nil ?_
        refine .seq <| .join1 (fun i15 => ⟨[(2, isB i15, none)], []⟩) (fun i15 => f11_j2 i15) (fun i15 => ?_) (fun hj2 => ?_)
        · exact .ret1 Tryz.func11 Tryz.results11 (.tmp rfl) rfl (fun _ _ => .slnil)
        · refine .region <| .move rfl rfl <| .bin rfl rfl rfl rfl <| .move rfl rfl <| .split 74 rfl (fun _ => ?_) (fun _ => ?_)
          · refine .on rfl rfl <| .loadP 1 (Fld.self _) rfl rfl ty27 rfl <| .on rfl rfl <| .loadP 0 (Fld.self _) rfl rfl ty27 rfl <| .on rfl rfl <| .call0 (c15 fu _ _) n15 rfl rfl fun q16 => .pickT rfl rfl rfl <| .move rfl rfl <| .split 79 rfl (fun _ => ?_) (fun _ => ?_)
            · refine .on rfl rfl <| .move rfl rfl <| .on rfl rfl <| .bin rfl rfl rfl rfl <| .pickT rfl rfl rfl <| .move rfl rfl <| .split 83 rfl (fun _ => ?_) (fun _ => ?_)
              · refine .on rfl rfl <| .loadP 1 (Fld.self _) rfl rfl ty27 rfl <| .on rfl rfl <| .loadP 2 (Fld.self _) rfl rfl ty27 rfl <| .on rfl rfl <| .call0 (c15 fu _ _) n15 rfl rfl fun q17 => .pickT rfl rfl rfl <| .assign rfl rfl <| .nil ?_
                exact .keep [2] [] rfl (.drop (.cons _ <| .cons _ <| .cons _ <| .slnil) <| hj2 _)
              · refine .off rfl rfl rfl <| .off rfl rfl rfl <| .off rfl rfl rfl <| .pickF rfl rfl rfl <| .assign rfl rfl <| .nil ?_
                exact .keep [2] [] rfl (.drop (.cons _ <| .cons _ <| .cons _ <| .slnil) <| hj2 _)
            · refine .off rfl rfl rfl <| .off rfl rfl rfl <| .pickF rfl rfl rfl <| .move rfl rfl <| .off rfl rfl rfl <| .off rfl rfl rfl <| .off rfl rfl rfl <| .pickF rfl rfl rfl <| .assign rfl rfl <| .nil ?_
              exact .keep [2] [] rfl (.drop (.cons _ <| .cons _ <| .cons _ <| .slnil) <| hj2 _)
          · refine .off rfl rfl rfl <| .off rfl rfl rfl <| .off rfl rfl rfl <| .pickF rfl rfl rfl <| .move rfl rfl <| .off rfl rfl rfl <| .off rfl rfl rfl <| .pickF rfl rfl rfl <| .move rfl rfl <| .off rfl rfl rfl <| .off rfl rfl rfl <| .off rfl rfl rfl <| .pickF rfl rfl rfl <| .assign rfl rfl <| .nil ?_
            exact .keep [2] [] rfl (.drop (.cons _ <| .cons _ <| .cons _ <| .slnil) <| hj2 _)
    · refine .region <| .move rfl rfl <| .move rfl rfl <| .bin rfl rfl rfl rfl <| .move rfl rfl <| .split 42 rfl (fun _ => ?_) (fun _ => ?_)
      · refine .off rfl rfl rfl <| .off rfl rfl rfl <| .pickT rfl rfl rfl <| .nil ?_
        exact .keep [4, 5, 6, 7, 9, 45] [] rfl (.drop (.cons _ <| .cons_cons _ <| .cons _ <| .slnil) <| hj1 _)
      · refine .on rfl rfl <| .move rfl rfl <| .on rfl rfl <| .bin rfl rfl rfl rfl <| .pickF rfl rfl rfl <| .nil ?_
        exact .keep [4, 5, 6, 7, 9, 45] [] rfl (.drop (.cons _ <| .cons_cons _ <| .cons _ <| .slnil) <| hj1 _)
end Go.Proofs.YtbnklinfjmmlfaaGreatDoor
