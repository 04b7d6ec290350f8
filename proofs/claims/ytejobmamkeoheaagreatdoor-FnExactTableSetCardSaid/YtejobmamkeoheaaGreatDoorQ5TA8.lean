/- Functions of the program: what each answers, and that the machine answers so. -/
import Derived.Test.YtejobmamkeoheaaGreatDoorQ5TA7
import Derived.KernelRfl
set_option linter.all false
namespace Go.Proofs.YtejobmamkeoheaaGreatDoor
open Go Go.HL
def f78_j2 (fu : Nat) (a0 : List Col) (i7 : List Col) : Option ((List Col) × Bool) := (f67 fu i7).bind fun q8 => cond (!q8) ((f91 a0).bind fun q9 => some (q9, false)) ((f91 i7).bind fun q10 => some (q10, true))
def f78_j3 (fu : Nat) (a0 : List Col) (a1 : Change) (q2 : (List Col)) (i11 : Bool) : Option ((List Col) × Bool) := cond i11 (some (q2, false)) (cond (decide (List.length q2 + List.length ([a1.col] : List Col) ≤ CAP)) (f78_j2 fu a0 (q2 ++ ([a1.col] : List Col))) none)
def f78_j1 (fu : Nat) (a0 : List Col) (a1 : Change) (q2 : (List Col)) (q4 : Int) (i5 : Bool) : Option ((List Col) × Bool) := cond i5 (some (q2, false)) (cond (decide (a1.kind = 1)) (cond a1.col.need (f78_j3 fu a0 a1 q2 (decide (a1.col.def_.kind = 0))) (f78_j3 fu a0 a1 q2 false)) (cond (decide (a1.kind = 2)) ((f113 q2 q4 (IntKind.i64.wrap (q4 + 1))).bind fun q13 => f78_j2 fu a0 q13) (cond (decide (a1.kind = 3)) (cond (decide (0 ≤ q4) && decide (q4 < (List.length q2 : Int))) (f78_j2 fu a0 (q2.set q4.toNat ({ (q2.getD q4.toNat default) with name := a1.new } : Col))) none) (cond (decide (a1.kind = 4)) (cond (decide (0 ≤ q4) && decide (q4 < (List.length q2 : Int))) (cond (decide (a1.col.kind = ((q2.getD q4.toNat default).kind))) (some (q2, false)) (cond (decide (0 ≤ q4) && decide (q4 < (List.length q2 : Int))) ((f114 fu ((q2.getD q4.toNat default).def_) a1.col.kind).bind fun q15 => cond (decide (0 ≤ q4) && decide (q4 < (List.length q2 : Int))) (cond (decide (0 ≤ q4) && decide (q4 < (List.length (q2.set q4.toNat ({ (q2.getD q4.toNat default) with kind := a1.col.kind } : Col)) : Int))) (f78_j2 fu a0 ((q2.set q4.toNat ({ (q2.getD q4.toNat default) with kind := a1.col.kind } : Col)).set q4.toNat ({ ((q2.set q4.toNat ({ (q2.getD q4.toNat default) with kind := a1.col.kind } : Col)).getD q4.toNat default) with def_ := q15 } : Col))) none) none) none)) none) (f78_j2 fu a0 q2)))))
def f78 (fu : Nat) (a0 : List Col) (a1 : Change) : Option ((List Col) × Bool) := (f91 a0).bind fun q2 => (f68 fu a0 a1.name).bind fun q4 => (f112 fu a1).bind fun q16 => cond (!q16) (f78_j1 fu a0 a1 q2 q4 true) (cond (!decide (a1.kind = 1)) (f78_j1 fu a0 a1 q2 q4 (decide (q4 < 0))) (f78_j1 fu a0 a1 q2 q4 false))
theorem n78 : ∃ fn c, Tryz.prog.funcs[86]? = some fn ∧ (fn.name == "runtime.NumGoroutine") = false ∧ fn.body = some c := ⟨_, _, Tryz.func86, by kernel_rfl, rfl⟩
theorem c78 (fu : Nat) (a0 : List Col) (a1 : Change) : Ctr Tryz.prog 86 [(tL tCol).va a0, tChange.va a1] [] (f78 fu a0 a1) (fun _ _ => []) (fun q => tup [(tL tCol).va q.1, isB q.2]) := by
  refine Ctr.of_W Tryz.func86 rfl Tryz.ntmps86 rfl fun A w => ?_
  unfold f78
  refine .seq <| .region <| .box (T := tChange) rfl rfl fun b1 => .assignNil tCol rfl <| .assign rfl rfl <| .nil ?_
  refine .seq <| .region <| .move rfl rfl <| .callL0 (c91 _) n91 rfl rfl fun q2 v3 => .unRaw 9 rfl <| .assign rfl rfl <| .nil ?_
  refine .seq <| .region <| .move rfl rfl <| .fieldP rfl fa56_1 rfl <| .loadP 1 fChange_1 rfl rfl ty9 rfl <| .call0 (c68 fu _ _) n68 rfl rfl fun q4 => .assign rfl rfl <| .nil ?_
  refine .seq <| .seq <| .join1 (fun i5 => ⟨[(0, (tL tCol).va a0, none), (3, isP b1 0, none), (7, isI .i64 q4, none), (25, isB i5, none), (6, isV v3, some v3)], [arrO tCol v3 q2, boxO b1 tChange a1 []]⟩) (fun i5 => f78_j1 fu a0 a1 q2 q4 i5) (fun i5 => ?_) (fun hj1 => ?_)
  · refine .cond rfl (fun _ => ?_) (fun _ => ?_)
    · refine .seq <| .region <| .move rfl rfl <| .assign rfl rfl <| .assign rfl rfl <| .nil ?_
      exact .frz 0 4 rfl rfl <| .ret2 Tryz.func86 Tryz.results86 (.tmp rfl) (.tmp rfl) rfl (fun _ => .cons _ <| .cons _ <| .slnil)
    · refine .skip <| .seq <| .seq <| .region <| .fieldP rfl fa56_0 rfl <| .loadP 1 fChange_0 rfl rfl ty3 rfl <| .nil ?_
      refine .block <| .seq <| .region <| .bin rfl rfl rfl rfl <| .assign rfl rfl <| .nil ?_
      refine .join2 (fun v6 i7 => ⟨[(0, (tL tCol).va a0, none), (6, isV v6, some v6)], [arrO tCol v6 i7]⟩) (fun v6 i7 => f78_j2 fu a0 i7) (fun v6 i7 => ?_) (fun hj2 => ?_)
      · refine .inBlock <| .seq <| .seq <| .region <| .move rfl rfl <| .frz 0 6 rfl rfl <| .also 94 6 rfl rfl <| .call0 (c67 fu _) n67 rfl rfl fun q8 => .not rfl rfl <| .nil ?_
        refine .cond rfl (fun _ => ?_) (fun _ => ?_)
        · refine .seq <| .region <| .move rfl rfl <| .call0 (CtrL.plain (c91 _)) n91 rfl rfl fun q9 => .assign rfl rfl <| .assign rfl rfl <| .nil ?_
          exact .ret2 Tryz.func86 Tryz.results86 (.tmp rfl) (.tmp rfl) rfl (fun _ => .cons _ <| .slnil)
        · refine .skip <| .seq <| .region <| .move rfl rfl <| .call0 (CtrL.plain (c91 _)) n91 rfl rfl fun q10 => .assign rfl rfl <| .assign rfl rfl <| .nil ?_
          exact .ret2 Tryz.func86 Tryz.results86 (.tmp rfl) (.tmp rfl) rfl (fun _ => .cons _ <| .slnil)
      · refine .cond rfl (fun _ => ?_) (fun _ => ?_)
        · refine .seq <| .seq <| .join1 (fun i11 => ⟨[(0, (tL tCol).va a0, none), (3, isP b1 0, none), (40, isB i11, none), (6, isV v3, some v3)], [arrO tCol v3 q2, boxO b1 tChange a1 []]⟩) (fun i11 => f78_j3 fu a0 a1 q2 i11) (fun i11 => ?_) (fun hj3 => ?_)
          · refine .cond rfl (fun _ => ?_) (fun _ => ?_)
            · refine .seq <| .region <| .move rfl rfl <| .assign rfl rfl <| .assign rfl rfl <| .nil ?_
              exact .frz 0 4 rfl rfl <| .ret2 Tryz.func86 Tryz.results86 (.tmp rfl) (.tmp rfl) rfl (fun _ => .cons _ <| .cons _ <| .slnil)
            · refine .skip <| .region <| .move rfl rfl <| .fieldP rfl fa56_3 rfl <| .loadP 1 fChange_3 rfl rfl ty52 rfl <| .litN (T := tCol) Tryz.underlying28 el52 rfl rfl (.cons rfl <| .nil) rfl <| .appA (T := tCol) 0 rfl rfl rfl Tryz.underlying28 el52 rfl fun v12 => .assign rfl rfl <| .nil ?_
              exact .keep [0] [6] rfl (.drop (.cons_cons _ <| .cons _ <| .slnil) <| hj2 _ _)
          · refine .region <| .fieldP rfl fa56_3 rfl <| .fieldP rfl fa52_2 rfl <| .loadP 1 (fChange_3.comp fCol_2) rfl rfl ty4 rfl <| .move rfl rfl <| .split 34 rfl (fun _ => ?_) (fun _ => ?_)
            · refine .on rfl rfl <| .fieldP rfl fa56_3 rfl <| .on rfl rfl <| .fieldP rfl fa52_4 rfl <| .on rfl rfl <| .fieldP rfl fa47_0 rfl <| .on rfl rfl <| .loadP 1 (fChange_3.comp (fCol_4.comp fVal_0)) rfl rfl ty3 rfl <| .on rfl rfl <| .bin rfl rfl rfl rfl <| .pickT rfl rfl rfl <| .nil ?_
              exact .keep [0, 3, 40] [6] rfl (hj3 _)
            · refine .off rfl rfl rfl <| .off rfl rfl rfl <| .off rfl rfl rfl <| .off rfl rfl rfl <| .off rfl rfl rfl <| .pickF rfl rfl rfl <| .nil ?_
              exact .keep [0, 3, 40] [6] rfl (hj3 _)
        · refine .seq <| .region <| .bin rfl rfl rfl rfl <| .assign rfl rfl <| .nil ?_
          refine .cond rfl (fun _ => ?_) (fun _ => ?_)
          · refine .region <| .move rfl rfl <| .move rfl rfl <| .move rfl rfl <| .bin rfl rfl rfl rfl <| .callS 0 (c113 _ _ _ _) rfl n113 rfl rfl fun q13 v14 => .unRaw 53 rfl <| .assign rfl rfl <| .nil ?_
            exact .keep [0] [6] rfl (.drop (.cons_cons _ <| .cons _ <| .slnil) <| hj2 _ _)
          · refine .seq <| .region <| .bin rfl rfl rfl rfl <| .assign rfl rfl <| .nil ?_
            refine .cond rfl (fun _ => ?_) (fun _ => ?_)
            · refine .region <| .move rfl rfl <| .move rfl rfl <| .fieldP rfl fa56_2 rfl <| .loadP 1 fChange_2 rfl rfl ty9 rfl <| .elemA 0 rfl rfl rfl Tryz.underlying28 ty52 rfl <| .fieldA rfl fa52_0 rfl <| .storeA 0 fCol_0 rfl rfl rfl ty9 <| .nil ?_
              exact .keep [0] [6] rfl (.drop (.cons_cons _ <| .cons _ <| .slnil) <| hj2 _ _)
            · refine .seq <| .region <| .bin rfl rfl rfl rfl <| .assign rfl rfl <| .nil ?_
              refine .cond rfl (fun _ => ?_) (fun _ => ?_)
              · refine .seq <| .seq <| .pT fun h1 => ?_
                refine .draw 8 [] mix (by kernel_rfl) (.cons (fun _ _ _ hP hE h => .fieldP (hE.op rfl) fa56_3 rfl <| h) <| .cons (fun _ _ _ hP hE h => .fieldP (hE.op rfl) fa52_1 rfl <| h) <| .cons (fun _ _ _ hP hE h => .loadP 1 (fChange_3.comp fCol_1) (hE.op rfl) (hP.get rfl rfl) ty3 rfl <| h) <| .cons (fun _ _ _ hP hE h => .move (hE.op rfl) rfl <| h) <| .cons (fun _ _ _ hP hE h => .move (hE.op rfl) rfl <| h) <| .cons (fun _ _ _ hP hE h => .useC h1 <| .elemA 0 (hE.op rfl) (hE.op rfl) (hP.get rfl rfl) Tryz.underlying28 ty52 rfl <| h) <| .cons (fun _ _ _ hP hE h => .fieldA (hE.op rfl) fa52_1 rfl <| h) <| .cons (fun _ _ _ hP hE h => .loadA 0 fCol_1 (hE.op rfl) (hP.get rfl rfl) ty3 rfl <| h) <| .nil) rfl <| .bin rfl rfl rfl rfl <| .nil ?_
                refine .cond rfl (fun _ => ?_) (fun _ => ?_)
                · refine .seq <| .region <| .move rfl rfl <| .assign rfl rfl <| .assign rfl rfl <| .nil ?_
                  exact .frz 0 4 rfl rfl <| .ret2 Tryz.func86 Tryz.results86 (.tmp rfl) (.tmp rfl) rfl (fun _ => .cons _ <| .cons _ <| .slnil)
                · refine .skip <| .pT fun h2 => ?_
                  refine .pbind fun q15 h3 => ?_
                  refine .draw 16 [2, 3] mix (by kernel_rfl) (.cons (fun _ _ _ hP hE h => .move (hE.op rfl) rfl <| h) <| .cons (fun _ _ _ hP hE h => .move (hE.op rfl) rfl <| h) <| .cons (fun _ _ _ hP hE h => .move (hE.op rfl) rfl <| h) <| .cons (fun _ _ _ hP hE h => .move (hE.op rfl) rfl <| h) <| .cons (fun _ _ _ hP hE h => .fieldP (hE.op rfl) fa56_3 rfl <| h) <| .cons (fun _ _ _ hP hE h => .fieldP (hE.op rfl) fa52_1 rfl <| h) <| .cons (fun _ _ _ hP hE h => .loadP 1 (fChange_3.comp fCol_1) (hE.op rfl) (hP.get rfl rfl) ty3 rfl <| h) <| .cons (fun _ _ _ hP hE h => .move (hE.op rfl) rfl <| h) <| .cons (fun _ _ _ hP hE h => .move (hE.op rfl) rfl <| h) <| .cons (fun _ _ _ hP hE h => .useC h2 <| .elemA 0 (hE.op rfl) (hE.op rfl) (hP.get rfl rfl) Tryz.underlying28 ty52 rfl <| h) <| .cons (fun _ _ _ hP hE h => .fieldA (hE.op rfl) fa52_4 rfl <| h) <| .cons (fun _ _ _ hP hE h => .loadA 0 fCol_4 (hE.op rfl) (hP.get rfl rfl) ty47 rfl <| h) <| .cons (fun _ _ _ hP hE h => .fieldP (hE.op rfl) fa56_3 rfl <| h) <| .cons (fun _ _ _ hP hE h => .fieldP (hE.op rfl) fa52_1 rfl <| h) <| .cons (fun _ _ _ hP hE h => .loadP 1 (fChange_3.comp fCol_1) (hE.op rfl) (hP.get rfl rfl) ty3 rfl <| h) <| .cons (fun _ _ _ hP hE h => .bindE h3 (fun r h => .call0 (c114 fu _ _) n114 (hE.ops rfl) rfl h) <| h) <| .nil) rfl <| .elemA 0 rfl rfl rfl Tryz.underlying28 ty52 rfl <| .fieldA rfl fa52_1 rfl <| .storeA 0 fCol_1 rfl rfl rfl ty3 <| .elemA 0 rfl rfl rfl Tryz.underlying28 ty52 rfl <| .fieldA rfl fa52_4 rfl <| .storeA 0 fCol_4 rfl rfl rfl ty47 <| .nil ?_
                  exact .keep [0] [6] rfl (.drop (.cons_cons _ <| .cons _ <| .slnil) <| hj2 _ _)
              · exact .skip <| .keep [0] [6] rfl (.drop (.cons_cons _ <| .cons _ <| .slnil) <| hj2 _ _)
  · refine .region <| .loadP 1 (Fld.self _) rfl rfl ty56 rfl <| .call0 (c112 fu _) n112 rfl rfl fun q16 => .not rfl rfl <| .move rfl rfl <| .split 17 rfl (fun _ => ?_) (fun _ => ?_)
    · refine .off rfl rfl rfl <| .off rfl rfl rfl <| .off rfl rfl rfl <| .off rfl rfl rfl <| .offU rfl rfl rfl <| .offU rfl rfl rfl <| .off rfl rfl rfl <| .pickT rfl rfl rfl <| .nil ?_
      exact .keep [0, 3, 7, 25] [6] rfl (hj1 _)
    · refine .on rfl rfl <| .fieldP rfl fa56_0 rfl <| .on rfl rfl <| .loadP 1 fChange_0 rfl rfl ty3 rfl <| .on rfl rfl <| .bin rfl rfl rfl rfl <| .on rfl rfl <| .move rfl rfl <| .split 21 rfl (fun _ => ?_) (fun _ => ?_)
      · refine .on rfl rfl <| .move rfl rfl <| .on rfl rfl <| .bin rfl rfl rfl rfl <| .on rfl rfl <| .pickT rfl rfl rfl <| .pickF rfl rfl rfl <| .nil ?_
        exact .keep [0, 3, 7, 25] [6] rfl (hj1 _)
      · refine .off rfl rfl rfl <| .off rfl rfl rfl <| .on rfl rfl <| .pickF rfl rfl rfl <| .pickF rfl rfl rfl <| .nil ?_
        exact .keep [0, 3, 7, 25] [6] rfl (hj1 _)
def f57_l1 (fu : Nat) (a1 : List Change) : Nat → (List Col) → Int → Option ((List Col) × Bool)
  | 0, _, _ => none
  | n1 + 1, i2, i3 => cond (decide (i3 < (List.length a1 : Int))) (cond (decide (0 ≤ i3) && decide (i3 < (List.length a1 : Int))) ((f78 fu i2 (a1.getD i3.toNat default)).bind fun q5 => cond (!q5.2) (some (([] : List Col), false)) ((f57_l1 fu a1 n1) q5.1 (IntKind.i64.wrap (i3 + 1)))) none) (some (i2, true))
def f57 (fu : Nat) (a0 : List Col) (a1 : List Change) : Option ((List Col) × Bool) := (f91 a0).bind fun q1 => f57_l1 fu a1 fu q1 0
theorem n57 : ∃ fn c, Tryz.prog.funcs[68]? = some fn ∧ (fn.name == "runtime.NumGoroutine") = false ∧ fn.body = some c := ⟨_, _, Tryz.func68, by kernel_rfl, rfl⟩
theorem c57 (fu : Nat) (a0 : List Col) (a1 : List Change) : Ctr Tryz.prog 68 [(tL tCol).va a0, (tL tChange).va a1] [] (f57 fu a0 a1) (fun _ _ => []) (fun q => tup [(tL tCol).va q.1, isB q.2]) := by
  refine Ctr.of_W Tryz.func68 rfl Tryz.ntmps68 rfl fun A w => ?_
  unfold f57
  refine .seq <| .region <| .assignNil tCol rfl <| .assign rfl rfl <| .nil ?_
  refine .seq <| .region <| .move rfl rfl <| .call0 (CtrL.plain (c91 _)) n91 rfl rfl fun q1 => .assign rfl rfl <| .nil ?_
  refine .seq <| .seq <| .region <| .move rfl rfl <| .lenL rfl Tryz.underlying29 rfl <| .move rfl rfl <| .nil ?_
  refine .block <| .loop <| .keep [6, 13, 14, 15] [] rfl ?_
  refine (show ∀ (n1 : Nat) (i2 : List Col) (i3 : Int), W _ _ _ _ _ ⟨[(6, (tL tCol).va i2, none), (13, (tL tChange).va a1, none), (14, isI .i64 (List.length a1 : Int), none), (15, isI .i64 i3, none)], []⟩ (f57_l1 fu a1 n1 i2 i3) from ?_) fu _ _
  intro n1
  induction n1 with
  | zero => exact fun _ _ => .stop
  | succ n1 ih1 =>
    intro i2 i3
    refine .inLoop <| .seq <| .region <| .bin rfl rfl rfl rfl <| .nil ?_
    refine .seq <| .cond rfl (fun _ => ?_) (fun _ => ?_)
    · refine .skip <| .seq <| .block <| .seq <| .region <| .elemAt rfl rfl Tryz.underlying29 ty56 rfl <| .load rfl ty56 rfl <| .alloc tChange d0_56 [] z56 rfl fun b4 => .storeP 0 (Fld.self _) rfl rfl rfl ty56 <| .nil ?_
      refine .seq <| .region <| .move rfl rfl <| .loadP 0 (Fld.self _) rfl rfl ty56 rfl <| .call0 (c78 fu _ _) n78 rfl rfl fun q5 => .move rfl rfl <| .extract rfl rfl rfl <| .extract rfl rfl rfl <| .assign rfl rfl <| .assign rfl rfl <| .nil ?_
      refine .seq <| .seq <| .region <| .move rfl rfl <| .not rfl rfl <| .nil ?_
      refine .cond rfl (fun _ => ?_) (fun _ => ?_)
      · refine .seq <| .region <| .assignNil tCol rfl <| .assign rfl rfl <| .nil ?_
        exact .ret2 Tryz.func68 Tryz.results68 (.tmp rfl) (.tmp rfl) rfl (fun _ => .cons _ <| .slnil)
      · refine .skip <| .region <| .move rfl rfl <| .assign rfl rfl <| .nil ?_
        refine .inBlock <| .region <| .bin rfl rfl rfl rfl <| .move rfl rfl <| .nil ?_
        exact .keep [6, 13, 14, 15] [] rfl (.drop (.cons _ <| .slnil) <| ih1 _ _)
    · refine .exit rfl <| .seq <| .region <| .move rfl rfl <| .assign rfl rfl <| .assign rfl rfl <| .nil ?_
      exact .ret2 Tryz.func68 Tryz.results68 (.tmp rfl) (.tmp rfl) rfl (fun _ => .slnil)
def f55 (fu : Nat) (a0 : List Col) (a1 : List Change) : Option ((List Col) × Bool) := (f67 fu a0).bind fun q1 => cond (!q1) (some (([] : List Col), false)) ((f57 fu a0 a1).bind fun q2 => some (q2.1, q2.2))
theorem n55 : ∃ fn c, Tryz.prog.funcs[66]? = some fn ∧ (fn.name == "runtime.NumGoroutine") = false ∧ fn.body = some c := ⟨_, _, Tryz.func66, by kernel_rfl, rfl⟩
theorem c55 (fu : Nat) (a0 : List Col) (a1 : List Change) : Ctr Tryz.prog 66 [(tL tCol).va a0, (tL tChange).va a1] [] (f55 fu a0 a1) (fun _ _ => []) (fun q => tup [(tL tCol).va q.1, isB q.2]) := by
  refine Ctr.of_W Tryz.func66 rfl Tryz.ntmps66 rfl fun A w => ?_
  unfold f55
  refine .seq <| .region <| .assignNil tCol rfl <| .assign rfl rfl <| .nil ?_
  refine .seq <| .seq <| .region <| .move rfl rfl <| .call0 (c67 fu _) n67 rfl rfl fun q1 => .not rfl rfl <| .nil ?_
  refine .cond rfl (fun _ => ?_) (fun _ => ?_)
  · refine .seq <| .region <| .assignNil tCol rfl <| .assign rfl rfl <| .nil ?_
    exact .ret2 Tryz.func66 Tryz.results66 (.tmp rfl) (.tmp rfl) rfl (fun _ => .slnil)
  · refine .skip <| .seq <| .region <| .move rfl rfl <| .move rfl rfl <| .call0 (c57 fu _ _) n57 rfl rfl fun q2 => .extract rfl rfl rfl <| .extract rfl rfl rfl <| .assign rfl rfl <| .assign rfl rfl <| .nil ?_
    exact .ret2 Tryz.func66 Tryz.results66 (.tmp rfl) (.tmp rfl) rfl (fun _ => .slnil)
def f58_j2 (i1 : Int) (rec1 : Int → Option Bool) (i3 : Bool) : Option Bool := cond i3 (some false) (rec1 (IntKind.i64.wrap (i1 + 1)))
def f58_l1 (fu : Nat) (a0 : List Col) (a1 : List Val) : Nat → Int → Option Bool
  | 0, _ => none
  | n1 + 1, i1 => cond (decide (i1 < (List.length a1 : Int))) (cond (decide (0 ≤ i1) && decide (i1 < (List.length a1 : Int))) ((f25 fu (a1.getD i1.toNat default)).bind fun q4 => cond (!q4) (f58_j2 i1 (f58_l1 fu a0 a1 n1) true) (cond (decide (0 ≤ i1) && decide (i1 < (List.length a0 : Int))) ((f92 fu (a1.getD i1.toNat default) ((a0.getD i1.toNat default).kind)).bind fun q5 => cond (!q5) (f58_j2 i1 (f58_l1 fu a0 a1 n1) true) (cond (decide (0 ≤ i1) && decide (i1 < (List.length a0 : Int))) (cond ((a0.getD i1.toNat default).need) (f58_j2 i1 (f58_l1 fu a0 a1 n1) (decide (((a1.getD i1.toNat default).kind) = 0))) (f58_j2 i1 (f58_l1 fu a0 a1 n1) false)) none)) none)) none) (some true)
def f58 (fu : Nat) (a0 : List Col) (a1 : List Val) : Option Bool := cond (!decide ((List.length a1 : Int) = (List.length a0 : Int))) (some false) (f58_l1 fu a0 a1 fu 0)
theorem n58 : ∃ fn c, Tryz.prog.funcs[69]? = some fn ∧ (fn.name == "runtime.NumGoroutine") = false ∧ fn.body = some c := ⟨_, _, Tryz.func69, by kernel_rfl, rfl⟩
theorem c58 (fu : Nat) (a0 : List Col) (a1 : List Val) : Ctr Tryz.prog 69 [(tL tCol).va a0, (tL tVal).va a1] [] (f58 fu a0 a1) (fun _ _ => []) (fun q => isB q) := by
  refine Ctr.of_W Tryz.func69 rfl Tryz.ntmps69 rfl fun A w => ?_
  unfold f58
  refine .seq <| .region <| .assign rfl rfl <| .nil ?_
  refine .seq <| .seq <| .region <| .move rfl rfl <| .lenL rfl Tryz.underlying102 rfl <| .move rfl rfl <| .lenL rfl Tryz.underlying28 rfl <| .bin rfl rfl rfl rfl <| .nil ?_
  refine .cond rfl (fun _ => ?_) (fun _ => ?_)
  · refine .seq <| .region <| .assign rfl rfl <| .nil ?_
    exact .ret1 Tryz.func69 Tryz.results69 (.tmp rfl) rfl (fun _ _ => .slnil)
  · refine .skip <| .seq <| .seq <| .region <| .move rfl rfl <| .lenL rfl Tryz.underlying102 rfl <| .move rfl rfl <| .nil ?_
    refine .block <| .loop <| .keep [0, 12, 13, 14] [] rfl ?_
    refine (show ∀ (n1 : Nat) (i1 : Int), W _ _ _ _ _ ⟨[(0, (tL tCol).va a0, none), (12, (tL tVal).va a1, none), (13, isI .i64 (List.length a1 : Int), none), (14, isI .i64 i1, none)], []⟩ (f58_l1 fu a0 a1 n1 i1) from ?_) fu _
    intro n1
    induction n1 with
    | zero => exact fun _ => .stop
    | succ n1 ih1 =>
      intro i1
      refine .inLoop <| .seq <| .region <| .bin rfl rfl rfl rfl <| .nil ?_
      refine .seq <| .cond rfl (fun _ => ?_) (fun _ => ?_)
      · refine .skip <| .seq <| .block <| .seq <| .region <| .move rfl rfl <| .elemAt rfl rfl Tryz.underlying102 ty47 rfl <| .load rfl ty47 rfl <| .alloc tVal d0_47 [] z47 rfl fun b2 => .assign rfl rfl <| .storeP 0 (Fld.self _) rfl rfl rfl ty47 <| .nil ?_
        refine .seq <| .join1 (fun i3 => ⟨[(0, (tL tCol).va a0, none), (12, (tL tVal).va a1, none), (13, isI .i64 (List.length a1 : Int), none), (14, isI .i64 i1, none), (43, isB i3, none)], []⟩) (fun i3 => f58_j2 i1 (f58_l1 fu a0 a1 n1) i3) (fun i3 => ?_) (fun hj2 => ?_)
        · refine .cond rfl (fun _ => ?_) (fun _ => ?_)
          · refine .seq <| .region <| .assign rfl rfl <| .nil ?_
            exact .ret1 Tryz.func69 Tryz.results69 (.tmp rfl) rfl (fun _ _ => .slnil)
          · refine .skip <| .inBlock <| .region <| .bin rfl rfl rfl rfl <| .move rfl rfl <| .nil ?_
            exact .keep [0, 12, 13, 14] [] rfl (ih1 _)
        · refine .pbind fun q4 h6 => ?_
          refine .pcond (fun h7 => ?_) (fun h7 => ?_)
          · refine .draw 16 [] mix (by kernel_rfl) (.cons (fun _ _ _ hP hE h => .loadP 0 (Fld.self _) (hE.op rfl) (hP.get rfl rfl) ty47 rfl <| h) <| .cons (fun _ _ _ hP hE h => .bindE h6 (fun r h => .call0 (c25 fu _) n25 (hE.ops rfl) rfl h) <| h) <| .cons (fun _ _ _ hP hE h => .not (hE.op rfl) rfl <| h) <| .cons (fun _ _ _ hP hE h => .move (hE.op rfl) rfl <| .noV <| .useEq h7 h) <| .cons (fun _ _ _ hP hE h => .off rfl (hE _ _ rfl) rfl <| h) <| .cons (fun _ _ _ hP hE h => .off rfl (hE _ _ rfl) rfl <| h) <| .cons (fun _ _ _ hP hE h => .off rfl (hE _ _ rfl) rfl <| h) <| .cons (fun _ _ _ hP hE h => .off rfl (hE _ _ rfl) rfl <| h) <| .cons (fun _ _ _ hP hE h => .off rfl (hE _ _ rfl) rfl <| h) <| .cons (fun _ _ _ hP hE h => .off rfl (hE _ _ rfl) rfl <| h) <| .cons (fun _ _ _ hP hE h => .off rfl (hE _ _ rfl) rfl <| h) <| .cons (fun _ _ _ hP hE h => .off rfl (hE _ _ rfl) rfl <| h) <| .cons (fun _ _ _ hP hE h => .pickT (hE.op rfl) (hE.op rfl) rfl <| h) <| .cons (fun _ _ _ hP hE h => .move (hE.op rfl) rfl <| h) <| .cons (fun _ _ _ hP hE h => .off rfl (hE _ _ rfl) rfl <| h) <| .cons (fun _ _ _ hP hE h => .off rfl (hE _ _ rfl) rfl <| h) <| .nil) rfl <| .off rfl rfl rfl <| .off rfl rfl rfl <| .off rfl rfl rfl <| .off rfl rfl rfl <| .offU rfl rfl rfl <| .offU rfl rfl rfl <| .offU rfl rfl rfl <| .off rfl rfl rfl <| .pickT rfl rfl rfl <| .nil ?_
            exact .keep [0, 12, 13, 14, 43] [] rfl (.drop (.cons _ <| .slnil) <| hj2 _)
          · refine .pT fun h8 => ?_
            refine .pbind fun q5 h9 => ?_
            refine .pcond (fun h10 => ?_) (fun h10 => ?_)
            · refine .draw 16 [] mix (by kernel_rfl) (.cons (fun _ _ _ hP hE h => .loadP 0 (Fld.self _) (hE.op rfl) (hP.get rfl rfl) ty47 rfl <| h) <| .cons (fun _ _ _ hP hE h => .bindE h6 (fun r h => .call0 (c25 fu _) n25 (hE.ops rfl) rfl h) <| h) <| .cons (fun _ _ _ hP hE h => .not (hE.op rfl) rfl <| h) <| .cons (fun _ _ _ hP hE h => .move (hE.op rfl) rfl <| .noV <| .useEq h7 h) <| .cons (fun _ _ _ hP hE h => .on rfl (hE _ _ rfl) <| .loadP 0 (Fld.self _) (hE.op rfl) (hP.get rfl rfl) ty47 rfl <| h) <| .cons (fun _ _ _ hP hE h => .on rfl (hE _ _ rfl) <| .move (hE.op rfl) rfl <| h) <| .cons (fun _ _ _ hP hE h => .on rfl (hE _ _ rfl) <| .move (hE.op rfl) rfl <| h) <| .cons (fun _ _ _ hP hE h => .on rfl (hE _ _ rfl) <| .useC h8 <| .elemAt (hE.op rfl) (hE.op rfl) Tryz.underlying28 ty52 rfl <| h) <| .cons (fun _ _ _ hP hE h => .on rfl (hE _ _ rfl) <| .fieldAt fCol_1 (hE.op rfl) fa52_1 rfl <| h) <| .cons (fun _ _ _ hP hE h => .on rfl (hE _ _ rfl) <| .load (hE.op rfl) ty3 rfl <| h) <| .cons (fun _ _ _ hP hE h => .on rfl (hE _ _ rfl) <| .bindE h9 (fun r h => .call0 (c92 fu _ _) n92 (hE.ops rfl) rfl h) <| h) <| .cons (fun _ _ _ hP hE h => .on rfl (hE _ _ rfl) <| .not (hE.op rfl) rfl <| h) <| .cons (fun _ _ _ hP hE h => .pickF (hE.op rfl) (hE.op rfl) rfl <| h) <| .cons (fun _ _ _ hP hE h => .move (hE.op rfl) rfl <| .noV <| .useEq h10 h) <| .cons (fun _ _ _ hP hE h => .off rfl (hE _ _ rfl) rfl <| h) <| .cons (fun _ _ _ hP hE h => .off rfl (hE _ _ rfl) rfl <| h) <| .nil) rfl <| .off rfl rfl rfl <| .off rfl rfl rfl <| .off rfl rfl rfl <| .off rfl rfl rfl <| .offU rfl rfl rfl <| .offU rfl rfl rfl <| .offU rfl rfl rfl <| .off rfl rfl rfl <| .pickT rfl rfl rfl <| .nil ?_
              exact .keep [0, 12, 13, 14, 43] [] rfl (.drop (.cons _ <| .slnil) <| hj2 _)
            · refine .draw 16 [] mix (by kernel_rfl) (.cons (fun _ _ _ hP hE h => .loadP 0 (Fld.self _) (hE.op rfl) (hP.get rfl rfl) ty47 rfl <| h) <| .cons (fun _ _ _ hP hE h => .bindE h6 (fun r h => .call0 (c25 fu _) n25 (hE.ops rfl) rfl h) <| h) <| .cons (fun _ _ _ hP hE h => .not (hE.op rfl) rfl <| h) <| .cons (fun _ _ _ hP hE h => .move (hE.op rfl) rfl <| .noV <| .useEq h7 h) <| .cons (fun _ _ _ hP hE h => .on rfl (hE _ _ rfl) <| .loadP 0 (Fld.self _) (hE.op rfl) (hP.get rfl rfl) ty47 rfl <| h) <| .cons (fun _ _ _ hP hE h => .on rfl (hE _ _ rfl) <| .move (hE.op rfl) rfl <| h) <| .cons (fun _ _ _ hP hE h => .on rfl (hE _ _ rfl) <| .move (hE.op rfl) rfl <| h) <| .cons (fun _ _ _ hP hE h => .on rfl (hE _ _ rfl) <| .useC h8 <| .elemAt (hE.op rfl) (hE.op rfl) Tryz.underlying28 ty52 rfl <| h) <| .cons (fun _ _ _ hP hE h => .on rfl (hE _ _ rfl) <| .fieldAt fCol_1 (hE.op rfl) fa52_1 rfl <| h) <| .cons (fun _ _ _ hP hE h => .on rfl (hE _ _ rfl) <| .load (hE.op rfl) ty3 rfl <| h) <| .cons (fun _ _ _ hP hE h => .on rfl (hE _ _ rfl) <| .bindE h9 (fun r h => .call0 (c92 fu _ _) n92 (hE.ops rfl) rfl h) <| h) <| .cons (fun _ _ _ hP hE h => .on rfl (hE _ _ rfl) <| .not (hE.op rfl) rfl <| h) <| .cons (fun _ _ _ hP hE h => .pickF (hE.op rfl) (hE.op rfl) rfl <| h) <| .cons (fun _ _ _ hP hE h => .move (hE.op rfl) rfl <| .noV <| .useEq h10 h) <| .cons (fun _ _ _ hP hE h => .on rfl (hE _ _ rfl) <| .move (hE.op rfl) rfl <| h) <| .cons (fun _ _ _ hP hE h => .on rfl (hE _ _ rfl) <| .move (hE.op rfl) rfl <| h) <| .nil) rfl <| .on rfl rfl <| .elemAt rfl rfl Tryz.underlying28 ty52 rfl <| .on rfl rfl <| .fieldAt fCol_2 rfl fa52_2 rfl <| .on rfl rfl <| .load rfl ty4 rfl <| .on rfl rfl <| .move rfl rfl <| .split 38 rfl (fun _ => ?_) (fun _ => ?_)
              · refine .on rfl rfl <| .fieldP rfl fa47_0 rfl <| .on rfl rfl <| .loadP 0 fVal_0 rfl rfl ty3 rfl <| .on rfl rfl <| .bin rfl rfl rfl rfl <| .on rfl rfl <| .pickT rfl rfl rfl <| .pickF rfl rfl rfl <| .nil ?_
                exact .keep [0, 12, 13, 14, 43] [] rfl (.drop (.cons _ <| .slnil) <| hj2 _)
              · refine .off rfl rfl rfl <| .off rfl rfl rfl <| .off rfl rfl rfl <| .on rfl rfl <| .pickF rfl rfl rfl <| .pickF rfl rfl rfl <| .nil ?_
                exact .keep [0, 12, 13, 14, 43] [] rfl (.drop (.cons _ <| .slnil) <| hj2 _)
      · refine .exit rfl <| .seq <| .region <| .assign rfl rfl <| .nil ?_
        exact .ret1 Tryz.func69 Tryz.results69 (.tmp rfl) rfl (fun _ _ => .slnil)
def f134 (a0 : List Val) : Option (List Val) := cond (decide (List.length ([] : List Val) + List.length a0 ≤ CAP)) (some (([] : List Val) ++ a0)) none
theorem n134 : ∃ fn c, Tryz.prog.funcs[125]? = some fn ∧ (fn.name == "runtime.NumGoroutine") = false ∧ fn.body = some c := ⟨_, _, Tryz.func125, by kernel_rfl, rfl⟩
theorem c134 (a0 : List Val) : CtrL Tryz.prog 125 [(tL tVal).va a0] [] (f134 a0) (fun v => v) (fun q v => [arrO tVal v q]) (fun _ v => tRaw.va v) := by
  refine CtrL.of_W Tryz.func125 rfl Tryz.ntmps125 rfl fun A w => ?_
  unfold f134
  refine .seq <| .region <| .assign rfl rfl <| .arrNil tVal <| .nil ?_
  refine .seq <| .seq <| .region <| .move rfl rfl <| .eqNil rfl Tryz.underlying102 rfl fun nb1 hnb1 => .nil ?_
  refine .eqr (r' := cond nb1 (cond (decide (List.length ([] : List Val) + List.length a0 ≤ CAP)) (some (([] : List Val) ++ a0)) none) (cond (decide (List.length ([] : List Val) + List.length a0 ≤ CAP)) (some (([] : List Val) ++ a0)) none)) ?_ <| .cond rfl (fun _ => ?_) (fun _ => ?_)
  · cases nb1 <;> rfl
  · obtain rfl := hnb1 (by assumption)
    refine .eqr (r' := some ([] : List Val)) (by simp) ?_
    refine .seq <| .region <| .assign rfl rfl <| .nil ?_
    exact .toRaw 0 2 rfl rfl <| .retL1 (.slice none 0 0) Tryz.func125 Tryz.results125 (.tmp rfl) rfl (fun _ _ _ h => h.1) (.cons_cons _ <| .slnil)
  · refine .skip <| .seq <| .region <| .lit (T := tVal) Tryz.underlying102 el47 rfl rfl (.nil) rfl fun v2 => .toArr 0 5 rfl rfl rfl <| .move rfl rfl <| .appA (T := tVal) 0 rfl rfl rfl Tryz.underlying102 el47 rfl fun v3 => .assign rfl rfl <| .nil ?_
    exact .toRaw 0 2 rfl rfl <| .retL1 v3 Tryz.func125 Tryz.results125 (.tmp rfl) rfl (fun _ _ _ h => h.1) (.cons_cons _ <| .cons _ <| .slnil)
def f133 (a0 : List Val) : Option (List Val) := some a0
theorem n133 : ∃ fn c, Tryz.prog.funcs[124]? = some fn ∧ (fn.name == "runtime.NumGoroutine") = false ∧ fn.body = some c := ⟨_, _, Tryz.func124, by kernel_rfl, rfl⟩
theorem c133 (vp0 : Value) (a0 : List Val) : CtrL Tryz.prog 124 [isV vp0] [arrO tVal vp0 a0] (f133 a0) (fun v => v) (fun q v => [arrO tVal v q]) (fun _ v => tRaw.va v) := by
  refine CtrL.of_W Tryz.func124 rfl Tryz.ntmps124 rfl fun A w => ?_
  unfold f133
  refine .know 0 rfl <| .seq <| .region <| .assign rfl rfl <| .arrNil tVal <| .nil ?_
  refine .seq <| .region <| .move rfl rfl <| .move rfl rfl <| .lenA 1 rfl rfl Tryz.underlying102 rfl <| .move rfl rfl <| .lenA 1 rfl rfl Tryz.underlying102 rfl <| .clip (T := tVal) 1 rfl rfl rfl rfl Tryz.underlying102 el47 rfl fun v1 => .assign rfl rfl <| .nil ?_
  exact .toRaw 1 2 rfl rfl <| .retL1 v1 Tryz.func124 Tryz.results124 (.tmp rfl) rfl (fun _ _ _ h => h.1) (.cons _ <| .cons_cons _ <| .slnil)
def f115 (a0 : List Val) : Option (List Val) := (f134 a0).bind fun q1 => (f133 q1).bind fun q3 => some q3
theorem n115 : ∃ fn c, Tryz.prog.funcs[103]? = some fn ∧ (fn.name == "runtime.NumGoroutine") = false ∧ fn.body = some c := ⟨_, _, Tryz.func103, by kernel_rfl, rfl⟩
theorem c115 (a0 : List Val) : CtrL Tryz.prog 103 [(tL tVal).va a0] [] (f115 a0) (fun v => v) (fun q v => [arrO tVal v q]) (fun _ v => tRaw.va v) := by
  refine CtrL.of_W Tryz.func103 rfl Tryz.ntmps103 rfl fun A w => ?_
  unfold f115
  refine .seq <| .region <| .assign rfl rfl <| .arrNil tVal <| .nil ?_
  refine .seq <| .region <| .move rfl rfl <| .callL0 (c134 _) n134 rfl rfl fun q1 v2 => .unRaw 4 rfl <| .callS 0 (c133 _ _) rfl n133 rfl rfl fun q3 v4 => .unRaw 5 rfl <| .assign rfl rfl <| .nil ?_
  exact .toRaw 0 2 rfl rfl <| .retL1 v4 Tryz.func103 Tryz.results103 (.tmp rfl) rfl (fun _ _ _ h => h.1) (.cons_cons _ <| .cons _ <| .slnil)
def f116 (a0 : List Val) (a1 a2 : Int) : Option (List Val) := cond (decide (0 ≤ a1) && decide (a1 ≤ a2) && decide (a2 ≤ (List.length a0 : Int))) (some (a0.take a1.toNat ++ a0.drop a2.toNat)) none
theorem n116 : ∃ fn c, Tryz.prog.funcs[138]? = some fn ∧ (fn.name == "runtime.NumGoroutine") = false ∧ fn.body = some c := ⟨_, _, Tryz.func138, by kernel_rfl, rfl⟩
theorem c116 (v0 : Value) (a0 : List Val) (a1 a2 : Int) : CtrL Tryz.prog 138 [isV v0, isI .i64 a1, isI .i64 a2] [arrO tVal v0 a0] (f116 a0 a1 a2) (fun v => v) (fun q v => [arrO tVal v q]) (fun _ v => tRaw.va v) := by
  refine CtrL.of_W Tryz.func138 rfl Tryz.ntmps138 rfl fun A w => ?_
  unfold f116
  refine .pcond (fun h => ?_) (fun _ => .stop)
  simp only [Bool.and_eq_true, decide_eq_true_eq] at h
  obtain ⟨⟨h1, h2⟩, h3⟩ := h
  obtain ⟨i, rfl⟩ : ∃ i : Nat, a1 = i := ⟨a1.toNat, by omega⟩
  obtain ⟨j, rfl⟩ : ∃ j : Nat, a2 = j := ⟨a2.toNat, by omega⟩
  refine .arrV 0 rfl fun ad n c hv hn hnc hlim had => ?_
  subst hv
  have hij : i ≤ j := by omega
  have hjn : j ≤ n := by omega
  refine .seq <| .region <| .assign rfl rfl <| .nil <| .seq <| .region <| .move rfl rfl <| .move rfl rfl <| .move rfl rfl <| .move rfl rfl <| .lenV rfl Tryz.underlying102 rfl <| .sliceV (T := tVal) (l := i) (h' := j) (m := n) rfl Tryz.underlying102 el47 ⟨_, rfl⟩ ⟨_, rfl⟩ ⟨_, rfl⟩ hij hjn hnc rfl rfl <| .nil ?_
  refine .eqr (r' := cond (decide ((i : Int) = (j : Int))) (some (a0.take i ++ a0.drop j)) (some (a0.take i ++ a0.drop j))) (by cases decide ((i : Int) = (j : Int)) <;> rfl) ?_
  refine .seq <| .seq <| .region <| .move rfl rfl <| .move rfl rfl <| .bin rfl rfl rfl rfl <| .nil <| .cond rfl (fun h => ?_) (fun h => ?_)
  · simp only [decide_eq_true_eq, Int.natCast_inj] at h
    subst h
    refine .eqr (r' := some a0) (by simp) ?_
    refine .seq <| .region <| .move rfl rfl <| .assign rfl rfl <| .nil ?_
    exact .toRaw 0 6 rfl rfl <| .retL1 _ Tryz.func138 Tryz.results138 (.tmp rfl) rfl (fun _ _ _ h => h.1) (.cons_cons _ .slnil)
  · simp only [decide_eq_false_iff_not, Int.natCast_inj] at h
    have hc : 0 < c := by omega
    obtain ⟨b, o, rfl⟩ := had hc
    have hi : i < j := by omega
    have e1 : (if c = 0 then some (⟨b, o, none⟩ : Addr) else (some (⟨b, o, none⟩ : Addr)).map (·.add (0 * tVal.sz))) = some ⟨b, o, none⟩ := by rw [if_neg (by omega)]; simp [Addr.add0]
    have e2 : i + (n - j) - 0 = i + (n - j) := by omega
    have e3 : (if c = i + (n - j) then some (⟨b, o, none⟩ : Addr) else (some (⟨b, o, none⟩ : Addr)).map (·.add ((i + (n - j)) * tVal.sz))) = some ⟨b, o + (i + (n - j)) * tVal.sz, none⟩ := by rw [if_neg (by omega)]; simp [Addr.add0]
    refine .skip <| .seq <| .region <| .move rfl rfl <| .lenV rfl Tryz.underlying102 rfl <| .assign rfl rfl <| .nil ?_
    refine .seq <| .draw 6 [] mix (by kernel_rfl) (.cons (fun _ _ _ hP hE h => .move (hE.op rfl) rfl <| h) <| .cons (fun _ _ _ hP hE h => .move (hE.op rfl) rfl <| h) <| .cons (fun _ _ _ hP hE h => .sliceV (T := tVal) (lo := none) (hi := some _) (mx := none) (l := 0) (h' := i) (m := c) (hE.op rfl) Tryz.underlying102 el47 rfl ⟨_, hE.op rfl⟩ rfl (Nat.zero_le _) (by omega) (Nat.le_refl _) e1 rfl <| h) <|
      .cons (fun _ _ _ hP hE h => .move (hE.op rfl) rfl <| h) <| .cons (fun _ _ _ hP hE h => .move (hE.op rfl) rfl <| h) <| .cons (fun _ _ _ hP hE h => .sliceV (T := tVal) (lo := some _) (hi := none) (mx := none) (l := j) (h' := n) (m := c) (hE.op rfl) Tryz.underlying102 el47 ⟨_, hE.op rfl⟩ ⟨rfl, rfl⟩ rfl hjn hnc (Nat.le_refl _) rfl rfl <| h) <| .nil) rfl <| ?_
    refine .appDel (T := tVal) 0 rfl rfl rfl hc hij hjn (fun hl => by rw [if_neg (by omega)]; simp [Addr.add0]) Tryz.underlying102 el47 rfl <| .assign rfl rfl <| .nil ?_
    refine .seq <| .region <| .move rfl rfl <| .move rfl rfl <| .lenV rfl Tryz.underlying102 rfl <| .move rfl rfl <| .sliceV (T := tVal) (lo := some _) (hi := some _) (mx := none) (l := i + (n - j)) (h' := n) (m := c) rfl Tryz.underlying102 el47 ⟨_, rfl⟩ ⟨_, rfl⟩ rfl (by omega) hnc (Nat.le_refl _) e3 rfl <| .clearV (T := tVal) 0 rfl rfl hc (by omega) (by omega) Tryz.underlying102 el47 z47 <| .nil ?_
    refine .seq <| .region <| .move rfl rfl <| .assign rfl rfl <| .nil ?_
    exact .toRaw 0 6 rfl rfl <| .retL1 _ Tryz.func138 Tryz.results138 (.tmp rfl) rfl (fun _ _ _ h => h.1) (.cons_cons _ .slnil)
def f79_j1 (i6 : List Val) : Option (List Val) := (f115 i6).bind fun q7 => some q7
def f79 (fu : Nat) (a0 : List Col) (a1 : Change) (a2 : List Val) : Option (List Val) := (f115 a2).bind fun q2 => (f68 fu a0 a1.name).bind fun q4 => cond (decide (a1.kind = 1)) (cond (decide (List.length q2 + List.length ([a1.col.def_] : List Val) ≤ CAP)) (f79_j1 (q2 ++ ([a1.col.def_] : List Val))) none) (cond (decide (a1.kind = 2)) ((f116 q2 q4 (IntKind.i64.wrap (q4 + 1))).bind fun q10 => f79_j1 q10) (cond (decide (a1.kind = 4)) (cond (decide (0 ≤ q4) && decide (q4 < (List.length q2 : Int))) ((f114 fu (q2.getD q4.toNat default) a1.col.kind).bind fun q12 => cond (decide (0 ≤ q4) && decide (q4 < (List.length q2 : Int))) (f79_j1 (q2.set q4.toNat q12)) none) none) (f79_j1 q2)))
theorem n79 : ∃ fn c, Tryz.prog.funcs[123]? = some fn ∧ (fn.name == "runtime.NumGoroutine") = false ∧ fn.body = some c := ⟨_, _, Tryz.func123, by kernel_rfl, rfl⟩
theorem c79 (fu : Nat) (a0 : List Col) (a1 : Change) (a2 : List Val) : CtrL Tryz.prog 123 [(tL tCol).va a0, tChange.va a1, (tL tVal).va a2] [] (f79 fu a0 a1 a2) (fun v => v) (fun q v => [arrO tVal v q]) (fun _ v => tRaw.va v) := by
  refine CtrL.of_W Tryz.func123 rfl Tryz.ntmps123 rfl fun A w => ?_
  unfold f79
  refine .seq <| .region <| .box (T := tChange) rfl rfl fun b1 => .assign rfl rfl <| .arrNil tVal <| .nil ?_
  refine .seq <| .region <| .move rfl rfl <| .callL0 (c115 _) n115 rfl rfl fun q2 v3 => .unRaw 10 rfl <| .assign rfl rfl <| .nil ?_
  refine .seq <| .region <| .move rfl rfl <| .fieldP rfl fa56_1 rfl <| .loadP 2 fChange_1 rfl rfl ty9 rfl <| .call0 (c68 fu _ _) n68 rfl rfl fun q4 => .assign rfl rfl <| .nil ?_
  refine .seq <| .seq <| .region <| .fieldP rfl fa56_0 rfl <| .loadP 2 fChange_0 rfl rfl ty3 rfl <| .nil ?_
  refine .block <| .seq <| .region <| .bin rfl rfl rfl rfl <| .assign rfl rfl <| .nil ?_
  refine .join2 (fun v5 i6 => ⟨[(7, isV v5, some v5)], [arrO tVal v5 i6]⟩) (fun v5 i6 => f79_j1 i6) (fun v5 i6 => ?_) (fun hj1 => ?_)
  · refine .inBlock <| .seq <| .region <| .move rfl rfl <| .frz 0 7 rfl rfl <| .also 45 7 rfl rfl <| .callL0 (c115 _) n115 rfl rfl fun q7 v8 => .unRaw 46 rfl <| .assign rfl rfl <| .nil ?_
    exact .toRaw 0 6 rfl rfl <| .retL1 v8 Tryz.func123 Tryz.results123 (.tmp rfl) rfl (fun _ _ _ h => h.1) (.cons_cons _ <| .cons _ <| .slnil)
  · refine .cond rfl (fun _ => ?_) (fun _ => ?_)
    · refine .region <| .move rfl rfl <| .fieldP rfl fa56_3 rfl <| .fieldP rfl fa52_4 rfl <| .loadP 2 (fChange_3.comp fCol_4) rfl rfl ty47 rfl <| .litN (T := tVal) Tryz.underlying102 el47 rfl rfl (.cons rfl <| .nil) rfl <| .appA (T := tVal) 0 rfl rfl rfl Tryz.underlying102 el47 rfl fun v9 => .assign rfl rfl <| .nil ?_
      exact .keep [] [7] rfl (.drop (.cons_cons _ <| .cons _ <| .cons _ <| .slnil) <| hj1 _ _)
    · refine .seq <| .region <| .bin rfl rfl rfl rfl <| .assign rfl rfl <| .nil ?_
      refine .cond rfl (fun _ => ?_) (fun _ => ?_)
      · refine .region <| .move rfl rfl <| .move rfl rfl <| .move rfl rfl <| .bin rfl rfl rfl rfl <| .callS 0 (c116 _ _ _ _) rfl n116 rfl rfl fun q10 v11 => .unRaw 31 rfl <| .assign rfl rfl <| .nil ?_
        exact .keep [] [7] rfl (.drop (.cons_cons _ <| .cons _ <| .cons _ <| .slnil) <| hj1 _ _)
      · refine .seq <| .region <| .bin rfl rfl rfl rfl <| .assign rfl rfl <| .nil ?_
        refine .cond rfl (fun _ => ?_) (fun _ => ?_)
        · refine .pT fun h1 => ?_
          refine .draw 9 [0, 1] mix (by kernel_rfl) (.cons (fun _ _ _ hP hE h => .move (hE.op rfl) rfl <| h) <| .cons (fun _ _ _ hP hE h => .move (hE.op rfl) rfl <| h) <| .cons (fun _ _ _ hP hE h => .move (hE.op rfl) rfl <| h) <| .cons (fun _ _ _ hP hE h => .move (hE.op rfl) rfl <| h) <| .cons (fun _ _ _ hP hE h => .useC h1 <| .elemA 0 (hE.op rfl) (hE.op rfl) (hP.get rfl rfl) Tryz.underlying102 ty47 rfl <| h) <| .cons (fun _ _ _ hP hE h => .loadA 0 (Fld.self _) (hE.op rfl) (hP.get rfl rfl) ty47 rfl <| h) <| .cons (fun _ _ _ hP hE h => .fieldP (hE.op rfl) fa56_3 rfl <| h) <| .cons (fun _ _ _ hP hE h => .fieldP (hE.op rfl) fa52_1 rfl <| h) <| .cons (fun _ _ _ hP hE h => .loadP 2 (fChange_3.comp fCol_1) (hE.op rfl) (hP.get rfl rfl) ty3 rfl <| h) <| .nil) rfl <| .call0 (c114 fu _ _) n114 rfl rfl fun q12 => .elemA 0 rfl rfl rfl Tryz.underlying102 ty47 rfl <| .storeA 0 (Fld.self _) rfl rfl rfl ty47 <| .nil ?_
          exact .keep [] [7] rfl (.drop (.cons_cons _ <| .cons _ <| .cons _ <| .slnil) <| hj1 _ _)
        · exact .skip <| .keep [] [7] rfl (.drop (.cons_cons _ <| .cons _ <| .cons _ <| .slnil) <| hj1 _ _)
def f85_l1 (fu : Nat) (a1 : List Change) : Nat → (List Col) → Int → (List Val) → Option (List Val)
  | 0, _, _, _ => none
  | n1 + 1, i3, i4, i6 => cond (decide (i4 < (List.length a1 : Int))) (cond (decide (0 ≤ i4) && decide (i4 < (List.length a1 : Int))) ((f79 fu i3 (a1.getD i4.toNat default) i6).bind fun q8 => (f78 fu i3 (a1.getD i4.toNat default)).bind fun q10 => (f85_l1 fu a1 n1) q10.1 (IntKind.i64.wrap (i4 + 1)) q8) none) (some i6)
def f85 (fu : Nat) (a0 : List Col) (a1 : List Change) (a2 : List Val) : Option (List Val) := (f115 a2).bind fun q1 => f85_l1 fu a1 fu a0 0 q1
theorem n85 : ∃ fn c, Tryz.prog.funcs[102]? = some fn ∧ (fn.name == "runtime.NumGoroutine") = false ∧ fn.body = some c := ⟨_, _, Tryz.func102, by kernel_rfl, rfl⟩
theorem c85 (fu : Nat) (a0 : List Col) (a1 : List Change) (a2 : List Val) : CtrL Tryz.prog 102 [(tL tCol).va a0, (tL tChange).va a1, (tL tVal).va a2] [] (f85 fu a0 a1 a2) (fun v => v) (fun q v => [arrO tVal v q]) (fun _ v => tRaw.va v) := by
  refine CtrL.of_W Tryz.func102 rfl Tryz.ntmps102 rfl fun A w => ?_
  unfold f85
  refine .seq <| .region <| .assign rfl rfl <| .arrNil tVal <| .nil ?_
  refine .seq <| .region <| .move rfl rfl <| .callL0 (c115 _) n115 rfl rfl fun q1 v2 => .unRaw 11 rfl <| .assign rfl rfl <| .nil ?_
  refine .seq <| .seq <| .region <| .move rfl rfl <| .lenL rfl Tryz.underlying29 rfl <| .move rfl rfl <| .nil ?_
  refine .block <| .loop <| .drop (.cons_cons _ <| .cons _ <| .slnil) <| .keep [0, 12, 13, 14] [7] rfl ?_
  refine (show ∀ (n1 : Nat) (i3 : List Col) (i4 : Int) (v5 : Value) (i6 : List Val), W _ _ _ _ _ ⟨[(0, (tL tCol).va i3, none), (12, (tL tChange).va a1, none), (13, isI .i64 (List.length a1 : Int), none), (14, isI .i64 i4, none), (7, isV v5, some v5)], [arrO tVal v5 i6]⟩ (f85_l1 fu a1 n1 i3 i4 i6) from ?_) fu _ _ _ _
  intro n1
  induction n1 with
  | zero => exact fun _ _ _ _ => .stop
  | succ n1 ih1 =>
    intro i3 i4 v5 i6
    refine .inLoop <| .seq <| .region <| .bin rfl rfl rfl rfl <| .nil ?_
    refine .seq <| .cond rfl (fun _ => ?_) (fun _ => ?_)
    · refine .skip <| .seq <| .block <| .seq <| .region <| .elemAt rfl rfl Tryz.underlying29 ty56 rfl <| .load rfl ty56 rfl <| .alloc tChange d0_56 [] z56 rfl fun b7 => .storeP 0 (Fld.self _) rfl rfl rfl ty56 <| .nil ?_
      refine .seq <| .region <| .move rfl rfl <| .loadP 0 (Fld.self _) rfl rfl ty56 rfl <| .move rfl rfl <| .frz 1 7 rfl rfl <| .also 20 7 rfl rfl <| .callL0 (c79 fu _ _ _) n79 rfl rfl fun q8 v9 => .unRaw 21 rfl <| .assign rfl rfl <| .nil ?_
      refine .region <| .move rfl rfl <| .loadP 1 (Fld.self _) rfl rfl ty56 rfl <| .call0 (c78 fu _ _) n78 rfl rfl fun q10 => .move rfl rfl <| .extract rfl rfl rfl <| .extract rfl rfl rfl <| .assign rfl rfl <| .nil ?_
      refine .inBlock <| .region <| .bin rfl rfl rfl rfl <| .move rfl rfl <| .nil ?_
      exact .keep [0, 12, 13, 14] [7] rfl (.drop (.cons_cons _ <| .cons _ <| .cons _ <| .slnil) <| ih1 _ _ _ _)
    · refine .exit rfl <| .seq <| .region <| .move rfl rfl <| .assign rfl rfl <| .nil ?_
      exact .toRaw 0 6 rfl rfl <| .retL1 v5 Tryz.func102 Tryz.results102 (.tmp rfl) rfl (fun _ _ _ h => h.1) (.cons_cons _ <| .slnil)
def f49 (fu : Nat) (a0 : Table) (a1 : Row) : Option (List Val) := cond (decide (0 ≤ (0 : Int)) && decide ((0 : Int) ≤ a1.ver) && decide (a1.ver ≤ (List.length a0.changes : Int))) ((f57 fu a0.first ((a0.changes.take a1.ver.toNat).drop (0 : Int).toNat)).bind fun q3 => cond (decide (0 ≤ a1.ver) && decide (a1.ver ≤ (List.length a0.changes : Int)) && decide ((List.length a0.changes : Int) ≤ (List.length a0.changes : Int))) ((f85 fu q3.1 ((a0.changes.take (List.length a0.changes : Int).toNat).drop a1.ver.toNat) a1.vals).bind fun q4 => some q4) none) none
theorem n49 : ∃ fn c, Tryz.prog.funcs[70]? = some fn ∧ (fn.name == "runtime.NumGoroutine") = false ∧ fn.body = some c := ⟨_, _, Tryz.func70, by kernel_rfl, rfl⟩
theorem c49 (fu : Nat) (a0 : Table) (a1 : Row) : CtrL Tryz.prog 70 [tTable.va a0, tRow.va a1] [] (f49 fu a0 a1) (fun v => v) (fun q v => [arrO tVal v q]) (fun _ v => tRaw.va v) := by
  refine CtrL.of_W Tryz.func70 rfl Tryz.ntmps70 rfl fun A w => ?_
  unfold f49
  refine .seq <| .region <| .box (T := tTable) rfl rfl fun b1 => .box (T := tRow) rfl rfl fun b2 => .assign rfl rfl <| .arrNil tVal <| .nil ?_
  refine .seq <| .pT fun h1 => ?_
  refine .draw 7 [] mix (by kernel_rfl) (.cons (fun _ _ _ hP hE h => .fieldP (hE.op rfl) fa27_0 rfl <| h) <| .cons (fun _ _ _ hP hE h => .loadP 2 fTable_0 (hE.op rfl) (hP.get rfl rfl) ty23 rfl <| h) <| .cons (fun _ _ _ hP hE h => .fieldP (hE.op rfl) fa27_1 rfl <| h) <| .cons (fun _ _ _ hP hE h => .loadP 2 fTable_1 (hE.op rfl) (hP.get rfl rfl) ty24 rfl <| h) <| .cons (fun _ _ _ hP hE h => .fieldP (hE.op rfl) fa37_1 rfl <| h) <| .cons (fun _ _ _ hP hE h => .loadP 1 fRow_1 (hE.op rfl) (hP.get rfl rfl) ty3 rfl <| h) <| .cons (fun _ _ _ hP hE h => .useC h1 <| .cut (hE.op rfl) Tryz.underlying29 el56 rfl ⟨_, (hE.op rfl)⟩ rfl <| h) <| .nil) rfl <| .call0 (c57 fu _ _) n57 rfl rfl fun q3 => .move rfl rfl <| .extract rfl rfl rfl <| .extract rfl rfl rfl <| .assign rfl rfl <| .assign rfl rfl <| .nil ?_
  refine .seq <| .pT fun h2 => ?_
  refine .draw 8 [] mix (by kernel_rfl) (.cons (fun _ _ _ hP hE h => .move (hE.op rfl) rfl <| h) <| .cons (fun _ _ _ hP hE h => .fieldP (hE.op rfl) fa27_1 rfl <| h) <| .cons (fun _ _ _ hP hE h => .loadP 2 fTable_1 (hE.op rfl) (hP.get rfl rfl) ty24 rfl <| h) <| .cons (fun _ _ _ hP hE h => .fieldP (hE.op rfl) fa37_1 rfl <| h) <| .cons (fun _ _ _ hP hE h => .loadP 1 fRow_1 (hE.op rfl) (hP.get rfl rfl) ty3 rfl <| h) <| .cons (fun _ _ _ hP hE h => .useC h2 <| .cut (hE.op rfl) Tryz.underlying29 el56 ⟨_, (hE.op rfl)⟩ rfl rfl <| h) <| .cons (fun _ _ _ hP hE h => .fieldP (hE.op rfl) fa37_2 rfl <| h) <| .cons (fun _ _ _ hP hE h => .loadP 1 fRow_2 (hE.op rfl) (hP.get rfl rfl) ty32 rfl <| h) <| .nil) rfl <| .callL0 (c85 fu _ _ _) n85 rfl rfl fun q4 v5 => .unRaw 26 rfl <| .assign rfl rfl <| .nil ?_
  exact .toRaw 0 4 rfl rfl <| .retL1 v5 Tryz.func70 Tryz.results70 (.tmp rfl) rfl (fun _ _ _ h => h.1) (.cons_cons _ <| .cons _ <| .cons _ <| .cons _ <| .slnil)
def f66 (fu : Nat) (a0 : Table) : Option (List Col) := (f57 fu a0.first a0.changes).bind fun q2 => some q2.1
theorem n66 : ∃ fn c, Tryz.prog.funcs[87]? = some fn ∧ (fn.name == "runtime.NumGoroutine") = false ∧ fn.body = some c := ⟨_, _, Tryz.func87, by kernel_rfl, rfl⟩
theorem c66 (fu : Nat) (a0 : Table) : Ctr Tryz.prog 87 [tTable.va a0] [] (f66 fu a0) (fun _ _ => []) (fun q => (tL tCol).va q) := by
  refine Ctr.of_W Tryz.func87 rfl Tryz.ntmps87 rfl fun A w => ?_
  unfold f66
  refine .seq <| .region <| .box (T := tTable) rfl rfl fun b1 => .assignNil tCol rfl <| .nil ?_
  refine .seq <| .region <| .fieldP rfl fa27_0 rfl <| .loadP 0 fTable_0 rfl rfl ty23 rfl <| .fieldP rfl fa27_1 rfl <| .loadP 0 fTable_1 rfl rfl ty24 rfl <| .call0 (c57 fu _ _) n57 rfl rfl fun q2 => .move rfl rfl <| .extract rfl rfl rfl <| .extract rfl rfl rfl <| .assign rfl rfl <| .assign rfl rfl <| .nil ?_
  refine .seq <| .region <| .move rfl rfl <| .assign rfl rfl <| .nil ?_
  exact .ret1 Tryz.func87 Tryz.results87 (.tmp rfl) rfl (fun _ _ => .cons _ <| .slnil)
def f59_j4 (i3 : Int) (i6 : Int) (i7 : List Val) (q9 : (List Val)) (rec1 : Int → Option Bool) (rec2 : Int → (List Val) → Option Bool) (i11 : Bool) : Option Bool := cond i11 (some false) (rec2 (IntKind.i64.wrap (i6 + 1)) (cond (memK (q9.getD i3.toNat default) i7) i7 (i7 ++ [q9.getD i3.toNat default])))
def f59_l2 (fu : Nat) (a0 : Table) (q2 : (List Col)) (i3 : Int) (rec1 : Int → Option Bool) : Nat → Int → (List Val) → Option Bool
  | 0, _, _ => none
  | n2 + 1, i6, i7 => cond (decide (i6 < (List.length a0.rows : Int))) (cond (decide (0 ≤ i6) && decide (i6 < (List.length a0.rows : Int))) ((f49 fu a0 (a0.rows.getD i6.toNat default)).bind fun q9 => cond (decide (0 ≤ i3) && decide (i3 < (List.length q9 : Int))) (cond ((q2.getD i3.toNat default).once) (cond (!decide (((q9.getD i3.toNat default).kind) = 0)) (f59_j4 i3 i6 i7 q9 rec1 (f59_l2 fu a0 q2 i3 rec1 n2) (memK (q9.getD i3.toNat default) i7)) (f59_j4 i3 i6 i7 q9 rec1 (f59_l2 fu a0 q2 i3 rec1 n2) false)) (f59_j4 i3 i6 i7 q9 rec1 (f59_l2 fu a0 q2 i3 rec1 n2) false)) none) none) (rec1 (IntKind.i64.wrap (i3 + 1)))
def f59_l1 (fu : Nat) (a0 : Table) (q2 : (List Col)) : Nat → Int → Option Bool
  | 0, _ => none
  | n1 + 1, i3 => cond (decide (i3 < (List.length q2 : Int))) (cond (decide (0 ≤ i3) && decide (i3 < (List.length q2 : Int))) (f59_l2 fu a0 q2 i3 (f59_l1 fu a0 q2 n1) fu 0 ([] : List Val)) none) (some true)
def f59 (fu : Nat) (a0 : Table) : Option Bool := (f66 fu a0).bind fun q2 => f59_l1 fu a0 q2 fu 0
theorem n59 : ∃ fn c, Tryz.prog.funcs[71]? = some fn ∧ (fn.name == "runtime.NumGoroutine") = false ∧ fn.body = some c := ⟨_, _, Tryz.func71, by kernel_rfl, rfl⟩
theorem c59 (fu : Nat) (a0 : Table) : Ctr Tryz.prog 71 [tTable.va a0] [] (f59 fu a0) (fun _ _ => []) (fun q => isB q) := by
  refine Ctr.of_W Tryz.func71 rfl Tryz.ntmps71 rfl fun A w => ?_
  unfold f59
  refine .seq <| .region <| .box (T := tTable) rfl rfl fun b1 => .assign rfl rfl <| .nil ?_
  refine .seq <| .seq <| .region <| .loadP 0 (Fld.self _) rfl rfl ty27 rfl <| .call0 (c66 fu _) n66 rfl rfl fun q2 => .lenL rfl Tryz.underlying28 rfl <| .move rfl rfl <| .nil ?_
  refine .block <| .loop <| .keep [1, 10, 11, 12] [] rfl ?_
  refine (show ∀ (n1 : Nat) (i3 : Int), W _ _ _ _ _ ⟨[(1, isP b1 0, none), (10, (tL tCol).va q2, none), (11, isI .i64 (List.length q2 : Int), none), (12, isI .i64 i3, none)], [boxO b1 tTable a0 []]⟩ (f59_l1 fu a0 q2 n1 i3) from ?_) fu _
  intro n1
  induction n1 with
  | zero => exact fun _ => .stop
  | succ n1 ih1 =>
    intro i3
    refine .inLoop <| .seq <| .region <| .bin rfl rfl rfl rfl <| .nil ?_
    refine .seq <| .cond rfl (fun _ => ?_) (fun _ => ?_)
    · refine .skip <| .seq <| .block <| .seq <| .region <| .move rfl rfl <| .elemAt rfl rfl Tryz.underlying28 ty52 rfl <| .load rfl ty52 rfl <| .alloc tCol d0_52 [] z52 rfl fun b4 => .assign rfl rfl <| .storeP 0 (Fld.self _) rfl rfl rfl ty52 <| .nil ?_
      refine .seq <| .region <| .makeMap mk47 rfl fun v5 => .assign rfl rfl <| .nil ?_
      refine .seq <| .region <| .fieldP rfl fa27_2 rfl <| .loadP 2 fTable_2 rfl rfl ty25 rfl <| .lenL rfl Tryz.underlying30 rfl <| .move rfl rfl <| .nil ?_
      refine .block <| .loop <| .keep [1, 3, 4, 10, 11, 12, 19, 20, 21] [5] rfl ?_
      refine (show ∀ (n2 : Nat) (i6 : Int) (i7 : List Val), W _ _ _ _ _ ⟨[(1, isP b1 0, none), (3, isI .i64 i3, none), (4, isP b4 0, none), (10, (tL tCol).va q2, none), (11, isI .i64 (List.length q2 : Int), none), (12, isI .i64 i3, none), (19, (tL tRow).va a0.rows, none), (20, isI .i64 (List.length a0.rows : Int), none), (21, isI .i64 i6, none), (5, isV v5, some v5)], [mapO mk47 v5 i7, boxO b4 tCol (q2.getD i3.toNat default) [], boxO b1 tTable a0 []]⟩ (f59_l2 fu a0 q2 i3 (f59_l1 fu a0 q2 n1) n2 i6 i7) from ?_) fu _ _
      intro n2
      induction n2 with
      | zero => exact fun _ _ => .stop
      | succ n2 ih2 =>
        intro i6 i7
        refine .inLoop <| .seq <| .region <| .bin rfl rfl rfl rfl <| .nil ?_
        refine .seq <| .cond rfl (fun _ => ?_) (fun _ => ?_)
        · refine .skip <| .seq <| .block <| .seq <| .region <| .elemAt rfl rfl Tryz.underlying30 ty37 rfl <| .load rfl ty37 rfl <| .alloc tRow d0_37 [] z37 rfl fun b8 => .storeP 0 (Fld.self _) rfl rfl rfl ty37 <| .nil ?_
          refine .seq <| .region <| .loadP 3 (Fld.self _) rfl rfl ty27 rfl <| .loadP 0 (Fld.self _) rfl rfl ty37 rfl <| .call0 (CtrL.plain (c49 fu _ _)) n49 rfl rfl fun q9 => .move rfl rfl <| .elemAt rfl rfl Tryz.underlying102 ty47 rfl <| .load rfl ty47 rfl <| .alloc tVal d0_47 [] z47 rfl fun b10 => .storeP 0 (Fld.self _) rfl rfl rfl ty47 <| .nil ?_
          refine .seq <| .seq <| .join1 (fun i11 => ⟨[(1, isP b1 0, none), (3, isI .i64 i3, none), (4, isP b4 0, none), (8, isP b10 0, none), (10, (tL tCol).va q2, none), (11, isI .i64 (List.length q2 : Int), none), (12, isI .i64 i3, none), (19, (tL tRow).va a0.rows, none), (20, isI .i64 (List.length a0.rows : Int), none), (21, isI .i64 i6, none), (42, isB i11, none), (5, isV v5, some v5)], [boxO b10 tVal (q9.getD i3.toNat default) [], mapO mk47 v5 i7, boxO b4 tCol (q2.getD i3.toNat default) [], boxO b1 tTable a0 []]⟩) (fun i11 => f59_j4 i3 i6 i7 q9 (f59_l1 fu a0 q2 n1) (f59_l2 fu a0 q2 i3 (f59_l1 fu a0 q2 n1) n2) i11) (fun i11 => ?_) (fun hj4 => ?_)
          · refine .cond rfl (fun _ => ?_) (fun _ => ?_)
            · refine .seq <| .region <| .assign rfl rfl <| .nil ?_
              exact .ret1 Tryz.func71 Tryz.results71 (.tmp rfl) rfl (fun _ _ => .cons _ <| .cons _ <| .cons _ <| .cons _ <| .slnil)
            · refine .skip <| .region <| .move rfl rfl <| .loadP 0 (Fld.self _) rfl rfl ty47 rfl <| .mapAdd (T := tVal) 1 rfl rfl rfl Tryz.underlying139 key47 <| .nil ?_
              refine .inBlock <| .region <| .bin rfl rfl rfl rfl <| .move rfl rfl <| .nil ?_
              exact .keep [1, 3, 4, 10, 11, 12, 19, 20, 21] [5] rfl (.drop (.cons _ <| .cons_cons _ <| .cons_cons _ <| .cons_cons _ <| .slnil) <| ih2 _ _)
          · refine .region <| .fieldP rfl fa52_3 rfl <| .loadP 3 fCol_3 rfl rfl ty4 rfl <| .move rfl rfl <| .split 33 rfl (fun _ => ?_) (fun _ => ?_)
            · refine .on rfl rfl <| .fieldP rfl fa47_0 rfl <| .on rfl rfl <| .loadP 0 fVal_0 rfl rfl ty3 rfl <| .on rfl rfl <| .bin rfl rfl rfl rfl <| .pickT rfl rfl rfl <| .move rfl rfl <| .split 38 rfl (fun _ => ?_) (fun _ => ?_)
              · refine .on rfl rfl <| .move rfl rfl <| .on rfl rfl <| .loadP 0 (Fld.self _) rfl rfl ty47 rfl <| .on rfl rfl <| .lookup (T := tVal) 2 rfl rfl rfl Tryz.underlying139 key47 (by kernel_rfl) rfl <| .pickT rfl rfl rfl <| .nil ?_
                exact .keep [1, 3, 4, 8, 10, 11, 12, 19, 20, 21, 42] [5] rfl (.drop (.cons_cons _ <| .cons _ <| .cons_cons _ <| .cons_cons _ <| .cons_cons _ <| .slnil) <| hj4 _)
              · refine .off rfl rfl rfl <| .off rfl rfl rfl <| .off rfl rfl rfl <| .pickF rfl rfl rfl <| .nil ?_
                exact .keep [1, 3, 4, 8, 10, 11, 12, 19, 20, 21, 42] [5] rfl (.drop (.cons_cons _ <| .cons _ <| .cons_cons _ <| .cons_cons _ <| .cons_cons _ <| .slnil) <| hj4 _)
            · refine .off rfl rfl rfl <| .off rfl rfl rfl <| .off rfl rfl rfl <| .pickF rfl rfl rfl <| .move rfl rfl <| .off rfl rfl rfl <| .off rfl rfl rfl <| .off rfl rfl rfl <| .pickF rfl rfl rfl <| .nil ?_
              exact .keep [1, 3, 4, 8, 10, 11, 12, 19, 20, 21, 42] [5] rfl (.drop (.cons_cons _ <| .cons _ <| .cons_cons _ <| .cons_cons _ <| .cons_cons _ <| .slnil) <| hj4 _)
        · refine .exit rfl <| .inBlock <| .region <| .bin rfl rfl rfl rfl <| .move rfl rfl <| .nil ?_
          exact .keep [1, 10, 11, 12] [] rfl (.drop (.cons _ <| .cons _ <| .cons_cons _ <| .slnil) <| ih1 _)
    · refine .exit rfl <| .seq <| .region <| .assign rfl rfl <| .nil ?_
      exact .ret1 Tryz.func71 Tryz.results71 (.tmp rfl) rfl (fun _ _ => .cons _ <| .slnil)
end Go.Proofs.YtejobmamkeoheaaGreatDoor
