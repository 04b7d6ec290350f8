/- Functions of the program: what each answers, and that the machine answers so. -/
import Derived.Test.YtejobmamkeoheaaGreatDoorQ5TA1
import Derived.KernelRfl
set_option linter.all false
namespace Go.Proofs.YtejobmamkeoheaaGreatDoor
open Go Go.HL
def f118_j4 (fu : Nat) (a0 : List Col) (a1 : Change) (q2 : Int) (i10 : Bool) : Option (List Col) := cond i10 (cond (decide (0 ≤ q2) && decide (q2 < (List.length (([] : List Col) ++ a0) : Int))) (cond (decide (0 ≤ q2) && decide (q2 < (List.length a0 : Int))) ((f138 fu ((a0.getD q2.toNat default).def_) a1.col.kind).bind fun q11 => cond (decide (0 ≤ q2) && decide (q2 < (List.length ((([] : List Col) ++ a0).set q2.toNat ({ ((([] : List Col) ++ a0).getD q2.toNat default) with kind := a1.col.kind } : Col)) : Int))) (some (((([] : List Col) ++ a0).set q2.toNat ({ ((([] : List Col) ++ a0).getD q2.toNat default) with kind := a1.col.kind } : Col)).set q2.toNat ({ (((([] : List Col) ++ a0).set q2.toNat ({ ((([] : List Col) ++ a0).getD q2.toNat default) with kind := a1.col.kind } : Col)).getD q2.toNat default) with def_ := q11 } : Col))) none) none) none) (some ([] : List Col))
def f118_j3 (fu : Nat) (a0 : List Col) (a1 : Change) (q2 : Int) (i8 : Bool) : Option (List Col) := cond i8 ((f137 a0 q2).bind fun q9 => some q9) (cond (decide (a1.kind = 3)) (cond (decide (0 ≤ q2) && decide (q2 < (List.length (([] : List Col) ++ a0) : Int))) (some ((([] : List Col) ++ a0).set q2.toNat ({ ((([] : List Col) ++ a0).getD q2.toNat default) with name := a1.new } : Col))) none) (cond (decide (a1.kind = 4)) (cond (decide (a1.new = ([] : List UInt8))) (cond (decide (0 ≤ q2) && decide (q2 < (List.length a0 : Int))) (f118_j4 fu a0 a1 q2 (!decide (a1.col.kind = ((a0.getD q2.toNat default).kind)))) none) (f118_j4 fu a0 a1 q2 false)) (f118_j4 fu a0 a1 q2 false)))
def f118_j2 (fu : Nat) (a0 : List Col) (a1 : Change) (q2 : Int) (i7 : Bool) : Option (List Col) := cond i7 (some ([] : List Col)) (cond (decide (a1.kind = 2)) (f118_j3 fu a0 a1 q2 (decide (a1.new = ([] : List UInt8)))) (f118_j3 fu a0 a1 q2 false))
def f118_j1 (fu : Nat) (a0 : List Col) (a1 : Change) (q2 : Int) (i5 : Bool) : Option (List Col) := cond i5 (cond (decide (List.length (([] : List Col) ++ a0) + List.length ([a1.col] : List Col) ≤ CAP)) (some ((([] : List Col) ++ a0) ++ ([a1.col] : List Col))) none) (cond (decide (a1.kind = 1)) (f118_j2 fu a0 a1 q2 true) (cond (decide (q2 < 0)) (f118_j2 fu a0 a1 q2 true) ((f136 a1).bind fun q12 => f118_j2 fu a0 a1 q2 (!decide (a1.col = q12)))))
def f118 (fu : Nat) (a0 : List Col) (a1 : Change) : Option (List Col) := (f108 fu a0 a1.name).bind fun q2 => cond (decide (List.length ([] : List Col) + List.length a0 ≤ CAP)) (cond (decide (a1.kind = 1)) (cond (decide (a1.name = ([] : List UInt8))) (cond (decide (a1.new = ([] : List UInt8))) (cond (!a1.col.need) (f118_j1 fu a0 a1 q2 true) (f118_j1 fu a0 a1 q2 (!decide (a1.col.def_.kind = 0)))) (f118_j1 fu a0 a1 q2 false)) (f118_j1 fu a0 a1 q2 false)) (f118_j1 fu a0 a1 q2 false)) none
theorem n118 : ∃ fn c, Tryz.prog.funcs[109]? = some fn ∧ (fn.name == "runtime.NumGoroutine") = false ∧ fn.body = some c := ⟨_, _, Tryz.func109, by kernel_rfl, rfl⟩
theorem c118 (fu : Nat) (a0 : List Col) (a1 : Change) : Ctr Tryz.prog 109 [(tL tCol).va a0, tChange.va a1] [] (f118 fu a0 a1) (fun _ _ => []) (fun q => (tL tCol).va q) := by
  refine Ctr.of_W Tryz.func109 rfl Tryz.ntmps109 rfl fun A w => ?_
  unfold f118
  refine .seq <| .region <| .box (T := tChange) rfl rfl fun b1 => .assignNil tCol rfl <| .nil ?_
  refine .seq <| .region <| .move rfl rfl <| .fieldP rfl fa56_1 rfl <| .loadP 0 fChange_1 rfl rfl ty9 rfl <| .call0 (c108 fu _ _) n108 rfl rfl fun q2 => .assign rfl rfl <| .nil ?_
  refine .seq <| .region <| .lit (T := tCol) Tryz.underlying28 el52 rfl rfl (.nil) rfl fun v3 => .toArr 0 11 rfl rfl rfl <| .move rfl rfl <| .appA (T := tCol) 0 rfl rfl rfl Tryz.underlying28 el52 rfl fun v4 => .assign rfl rfl <| .nil ?_
  refine .seq <| .block <| .seq <| .join1 (fun i5 => ⟨[(0, (tL tCol).va a0, none), (3, isP b1 0, none), (5, isI .i64 q2, none), (14, isB i5, none), (6, isV v4, some v4)], [arrO tCol v4 (([] : List Col) ++ a0), boxO b1 tChange a1 []]⟩) (fun i5 => f118_j1 fu a0 a1 q2 i5) (fun i5 => ?_) (fun hj1 => ?_)
  · refine .cond rfl (fun _ => ?_) (fun _ => ?_)
    · refine .seq <| .region <| .move rfl rfl <| .fieldP rfl fa56_3 rfl <| .loadP 1 fChange_3 rfl rfl ty52 rfl <| .litN (T := tCol) Tryz.underlying28 el52 rfl rfl (.cons rfl <| .nil) rfl <| .frz 0 6 rfl rfl <| .also 41 6 rfl rfl <| .app (T := tCol) 0 rfl rfl rfl Tryz.underlying28 el52 rfl fun v6 => .assign rfl rfl <| .nil ?_
      exact .ret1 Tryz.func109 Tryz.results109 (.tmp rfl) rfl (fun _ _ => .cons _ <| .cons _ <| .slnil)
    · refine .seq <| .join1 (fun i7 => ⟨[(0, (tL tCol).va a0, none), (3, isP b1 0, none), (5, isI .i64 q2, none), (46, isB i7, none), (6, isV v4, some v4)], [arrO tCol v4 (([] : List Col) ++ a0), boxO b1 tChange a1 []]⟩) (fun i7 => f118_j2 fu a0 a1 q2 i7) (fun i7 => ?_) (fun hj2 => ?_)
      · refine .cond rfl (fun _ => ?_) (fun _ => ?_)
        · refine .seq <| .region <| .litN (T := tCol) Tryz.underlying28 el52 rfl rfl (.nil) rfl <| .assign rfl rfl <| .nil ?_
          exact .ret1 Tryz.func109 Tryz.results109 (.tmp rfl) rfl (fun _ _ => .cons _ <| .cons _ <| .slnil)
        · refine .seq <| .join1 (fun i8 => ⟨[(0, (tL tCol).va a0, none), (3, isP b1 0, none), (5, isI .i64 q2, none), (62, isB i8, none), (6, isV v4, some v4)], [arrO tCol v4 (([] : List Col) ++ a0), boxO b1 tChange a1 []]⟩) (fun i8 => f118_j3 fu a0 a1 q2 i8) (fun i8 => ?_) (fun hj3 => ?_)
          · refine .cond rfl (fun _ => ?_) (fun _ => ?_)
            · refine .seq <| .region <| .move rfl rfl <| .move rfl rfl <| .call0 (c137 _ _) n137 rfl rfl fun q9 => .assign rfl rfl <| .nil ?_
              exact .ret1 Tryz.func109 Tryz.results109 (.tmp rfl) rfl (fun _ _ => .cons _ <| .cons _ <| .slnil)
            · refine .seq <| .region <| .fieldP rfl fa56_0 rfl <| .loadP 1 fChange_0 rfl rfl ty3 rfl <| .bin rfl rfl rfl rfl <| .assign rfl rfl <| .nil ?_
              refine .cond rfl (fun _ => ?_) (fun _ => ?_)
              · refine .seq <| .region <| .move rfl rfl <| .move rfl rfl <| .fieldP rfl fa56_2 rfl <| .loadP 1 fChange_2 rfl rfl ty9 rfl <| .elemA 0 rfl rfl rfl Tryz.underlying28 ty52 rfl <| .fieldA rfl fa52_0 rfl <| .storeA 0 fCol_0 rfl rfl rfl ty9 <| .nil ?_
                refine .seq <| .region <| .move rfl rfl <| .assign rfl rfl <| .nil ?_
                exact .frz 0 4 rfl rfl <| .ret1 Tryz.func109 Tryz.results109 (.tmp rfl) rfl (fun _ _ => .cons _ <| .cons _ <| .slnil)
              · refine .seq <| .join1 (fun i10 => ⟨[(0, (tL tCol).va a0, none), (3, isP b1 0, none), (5, isI .i64 q2, none), (85, isB i10, none), (6, isV v4, some v4)], [arrO tCol v4 (([] : List Col) ++ a0), boxO b1 tChange a1 []]⟩) (fun i10 => f118_j4 fu a0 a1 q2 i10) (fun i10 => ?_) (fun hj4 => ?_)
                · refine .cond rfl (fun _ => ?_) (fun _ => ?_)
                  · refine .seq <| .region <| .move rfl rfl <| .move rfl rfl <| .fieldP rfl fa56_3 rfl <| .fieldP rfl fa52_1 rfl <| .loadP 1 (fChange_3.comp fCol_1) rfl rfl ty3 rfl <| .elemA 0 rfl rfl rfl Tryz.underlying28 ty52 rfl <| .fieldA rfl fa52_1 rfl <| .storeA 0 fCol_1 rfl rfl rfl ty3 <| .nil ?_
                    refine .seq <| .pT fun h1 => ?_
                    refine .draw 10 [0, 1] mix (by kernel_rfl) (.cons (fun _ _ _ hP hE h => .move (hE.op rfl) rfl <| h) <| .cons (fun _ _ _ hP hE h => .move (hE.op rfl) rfl <| h) <| .cons (fun _ _ _ hP hE h => .move (hE.op rfl) rfl <| h) <| .cons (fun _ _ _ hP hE h => .move (hE.op rfl) rfl <| h) <| .cons (fun _ _ _ hP hE h => .useC h1 <| .elemAt (hE.op rfl) (hE.op rfl) Tryz.underlying28 ty52 rfl <| h) <| .cons (fun _ _ _ hP hE h => .fieldAt fCol_4 (hE.op rfl) fa52_4 rfl <| h) <| .cons (fun _ _ _ hP hE h => .load (hE.op rfl) ty47 rfl <| h) <| .cons (fun _ _ _ hP hE h => .fieldP (hE.op rfl) fa56_3 rfl <| h) <| .cons (fun _ _ _ hP hE h => .fieldP (hE.op rfl) fa52_1 rfl <| h) <| .cons (fun _ _ _ hP hE h => .loadP 1 (fChange_3.comp fCol_1) (hE.op rfl) (hP.get rfl rfl) ty3 rfl <| h) <| .nil) rfl <| .call0 (c138 fu _ _) n138 rfl rfl fun q11 => .elemA 0 rfl rfl rfl Tryz.underlying28 ty52 rfl <| .fieldA rfl fa52_4 rfl <| .storeA 0 fCol_4 rfl rfl rfl ty47 <| .nil ?_
                    refine .seq <| .region <| .move rfl rfl <| .assign rfl rfl <| .nil ?_
                    exact .frz 0 4 rfl rfl <| .ret1 Tryz.func109 Tryz.results109 (.tmp rfl) rfl (fun _ _ => .cons _ <| .cons _ <| .slnil)
                  · refine .skip <| .inBlock <| .seq <| .region <| .litN (T := tCol) Tryz.underlying28 el52 rfl rfl (.nil) rfl <| .assign rfl rfl <| .nil ?_
                    exact .ret1 Tryz.func109 Tryz.results109 (.tmp rfl) rfl (fun _ _ => .cons _ <| .cons _ <| .slnil)
                · refine .pcond (fun h2 => ?_) (fun h2 => ?_)
                  · refine .pcond (fun h3 => ?_) (fun h3 => ?_)
                    · refine .pT fun h4 => ?_
                      refine .draw 17 [] mix (by kernel_rfl) (.cons (fun _ _ _ hP hE h => .fieldP (hE.op rfl) fa56_0 rfl <| h) <| .cons (fun _ _ _ hP hE h => .loadP 1 fChange_0 (hE.op rfl) (hP.get rfl rfl) ty3 rfl <| h) <| .cons (fun _ _ _ hP hE h => .bin rfl (hE.op rfl) (hE.op rfl) rfl <| h) <| .cons (fun _ _ _ hP hE h => .move (hE.op rfl) rfl <| .noV <| .useEq h2 h) <| .cons (fun _ _ _ hP hE h => .on rfl (hE _ _ rfl) <| .fieldP (hE.op rfl) fa56_2 rfl <| h) <| .cons (fun _ _ _ hP hE h => .on rfl (hE _ _ rfl) <| .loadP 1 fChange_2 (hE.op rfl) (hP.get rfl rfl) ty9 rfl <| h) <| .cons (fun _ _ _ hP hE h => .on rfl (hE _ _ rfl) <| .seq (hE.op rfl) (hE.op rfl) rfl <| h) <| .cons (fun _ _ _ hP hE h => .pickT (hE.op rfl) (hE.op rfl) rfl <| h) <| .cons (fun _ _ _ hP hE h => .move (hE.op rfl) rfl <| .noV <| .useEq h3 h) <| .cons (fun _ _ _ hP hE h => .on rfl (hE _ _ rfl) <| .fieldP (hE.op rfl) fa56_3 rfl <| h) <| .cons (fun _ _ _ hP hE h => .on rfl (hE _ _ rfl) <| .fieldP (hE.op rfl) fa52_1 rfl <| h) <| .cons (fun _ _ _ hP hE h => .on rfl (hE _ _ rfl) <| .loadP 1 (fChange_3.comp fCol_1) (hE.op rfl) (hP.get rfl rfl) ty3 rfl <| h) <| .cons (fun _ _ _ hP hE h => .on rfl (hE _ _ rfl) <| .move (hE.op rfl) rfl <| h) <| .cons (fun _ _ _ hP hE h => .on rfl (hE _ _ rfl) <| .move (hE.op rfl) rfl <| h) <| .cons (fun _ _ _ hP hE h => .on rfl (hE _ _ rfl) <| .useC h4 <| .elemAt (hE.op rfl) (hE.op rfl) Tryz.underlying28 ty52 rfl <| h) <| .cons (fun _ _ _ hP hE h => .on rfl (hE _ _ rfl) <| .fieldAt fCol_1 (hE.op rfl) fa52_1 rfl <| h) <| .cons (fun _ _ _ hP hE h => .on rfl (hE _ _ rfl) <| .load (hE.op rfl) ty3 rfl <| h) <| .nil) rfl <| .on rfl rfl <| .bin rfl rfl rfl rfl <| .pickT rfl rfl rfl <| .assign rfl rfl <| .nil ?_
                      exact .keep [0, 3, 5, 85] [6] rfl (hj4 _)
                    · refine .draw 17 [] mix (by kernel_rfl) (.cons (fun _ _ _ hP hE h => .fieldP (hE.op rfl) fa56_0 rfl <| h) <| .cons (fun _ _ _ hP hE h => .loadP 1 fChange_0 (hE.op rfl) (hP.get rfl rfl) ty3 rfl <| h) <| .cons (fun _ _ _ hP hE h => .bin rfl (hE.op rfl) (hE.op rfl) rfl <| h) <| .cons (fun _ _ _ hP hE h => .move (hE.op rfl) rfl <| .noV <| .useEq h2 h) <| .cons (fun _ _ _ hP hE h => .on rfl (hE _ _ rfl) <| .fieldP (hE.op rfl) fa56_2 rfl <| h) <| .cons (fun _ _ _ hP hE h => .on rfl (hE _ _ rfl) <| .loadP 1 fChange_2 (hE.op rfl) (hP.get rfl rfl) ty9 rfl <| h) <| .cons (fun _ _ _ hP hE h => .on rfl (hE _ _ rfl) <| .seq (hE.op rfl) (hE.op rfl) rfl <| h) <| .cons (fun _ _ _ hP hE h => .pickT (hE.op rfl) (hE.op rfl) rfl <| h) <| .cons (fun _ _ _ hP hE h => .move (hE.op rfl) rfl <| .noV <| .useEq h3 h) <| .cons (fun _ _ _ hP hE h => .off rfl (hE _ _ rfl) rfl <| h) <| .cons (fun _ _ _ hP hE h => .off rfl (hE _ _ rfl) rfl <| h) <| .cons (fun _ _ _ hP hE h => .off rfl (hE _ _ rfl) rfl <| h) <| .cons (fun _ _ _ hP hE h => .off rfl (hE _ _ rfl) rfl <| h) <| .cons (fun _ _ _ hP hE h => .off rfl (hE _ _ rfl) rfl <| h) <| .cons (fun _ _ _ hP hE h => .off rfl (hE _ _ rfl) rfl <| h) <| .cons (fun _ _ _ hP hE h => .off rfl (hE _ _ rfl) rfl <| h) <| .cons (fun _ _ _ hP hE h => .off rfl (hE _ _ rfl) rfl <| h) <| .nil) rfl <| .off rfl rfl rfl <| .pickF rfl rfl rfl <| .assign rfl rfl <| .nil ?_
                      exact .keep [0, 3, 5, 85] [6] rfl (hj4 _)
                  · refine .draw 17 [] mix (by kernel_rfl) (.cons (fun _ _ _ hP hE h => .fieldP (hE.op rfl) fa56_0 rfl <| h) <| .cons (fun _ _ _ hP hE h => .loadP 1 fChange_0 (hE.op rfl) (hP.get rfl rfl) ty3 rfl <| h) <| .cons (fun _ _ _ hP hE h => .bin rfl (hE.op rfl) (hE.op rfl) rfl <| h) <| .cons (fun _ _ _ hP hE h => .move (hE.op rfl) rfl <| .noV <| .useEq h2 h) <| .cons (fun _ _ _ hP hE h => .off rfl (hE _ _ rfl) rfl <| h) <| .cons (fun _ _ _ hP hE h => .off rfl (hE _ _ rfl) rfl <| h) <| .cons (fun _ _ _ hP hE h => .off rfl (hE _ _ rfl) rfl <| h) <| .cons (fun _ _ _ hP hE h => .pickF (hE.op rfl) (hE.op rfl) rfl <| h) <| .cons (fun _ _ _ hP hE h => .move (hE.op rfl) rfl <| h) <| .cons (fun _ _ _ hP hE h => .off rfl (hE _ _ rfl) rfl <| h) <| .cons (fun _ _ _ hP hE h => .off rfl (hE _ _ rfl) rfl <| h) <| .cons (fun _ _ _ hP hE h => .off rfl (hE _ _ rfl) rfl <| h) <| .cons (fun _ _ _ hP hE h => .off rfl (hE _ _ rfl) rfl <| h) <| .cons (fun _ _ _ hP hE h => .off rfl (hE _ _ rfl) rfl <| h) <| .cons (fun _ _ _ hP hE h => .off rfl (hE _ _ rfl) rfl <| h) <| .cons (fun _ _ _ hP hE h => .off rfl (hE _ _ rfl) rfl <| h) <| .cons (fun _ _ _ hP hE h => .off rfl (hE _ _ rfl) rfl <| h) <| .nil) rfl <| .off rfl rfl rfl <| .pickF rfl rfl rfl <| .assign rfl rfl <| .nil ?_
                    exact .keep [0, 3, 5, 85] [6] rfl (hj4 _)
          · refine .region <| .fieldP rfl fa56_0 rfl <| .loadP 1 fChange_0 rfl rfl ty3 rfl <| .bin rfl rfl rfl rfl <| .move rfl rfl <| .split 66 rfl (fun _ => ?_) (fun _ => ?_)
            · refine .on rfl rfl <| .fieldP rfl fa56_2 rfl <| .on rfl rfl <| .loadP 1 fChange_2 rfl rfl ty9 rfl <| .on rfl rfl <| .seq rfl rfl rfl <| .pickT rfl rfl rfl <| .assign rfl rfl <| .nil ?_
              exact .keep [0, 3, 5, 62] [6] rfl (hj3 _)
            · refine .off rfl rfl rfl <| .off rfl rfl rfl <| .off rfl rfl rfl <| .pickF rfl rfl rfl <| .assign rfl rfl <| .nil ?_
              exact .keep [0, 3, 5, 62] [6] rfl (hj3 _)
      · refine .pcond (fun h5 => ?_) (fun h5 => ?_)
        · refine .draw 12 [] mix (by kernel_rfl) (.cons (fun _ _ _ hP hE h => .fieldP (hE.op rfl) fa56_0 rfl <| h) <| .cons (fun _ _ _ hP hE h => .loadP 1 fChange_0 (hE.op rfl) (hP.get rfl rfl) ty3 rfl <| h) <| .cons (fun _ _ _ hP hE h => .bin rfl (hE.op rfl) (hE.op rfl) rfl <| h) <| .cons (fun _ _ _ hP hE h => .move (hE.op rfl) rfl <| .noV <| .useEq h5 h) <| .cons (fun _ _ _ hP hE h => .off rfl (hE _ _ rfl) rfl <| h) <| .cons (fun _ _ _ hP hE h => .off rfl (hE _ _ rfl) rfl <| h) <| .cons (fun _ _ _ hP hE h => .pickT (hE.op rfl) (hE.op rfl) rfl <| h) <| .cons (fun _ _ _ hP hE h => .move (hE.op rfl) rfl <| h) <| .cons (fun _ _ _ hP hE h => .off rfl (hE _ _ rfl) rfl <| h) <| .cons (fun _ _ _ hP hE h => .off rfl (hE _ _ rfl) rfl <| h) <| .cons (fun _ _ _ hP hE h => .off rfl (hE _ _ rfl) rfl <| h) <| .cons (fun _ _ _ hP hE h => .off rfl (hE _ _ rfl) rfl <| h) <| .nil) rfl <| .off rfl rfl rfl <| .pickT rfl rfl rfl <| .assign rfl rfl <| .nil ?_
          exact .keep [0, 3, 5, 46] [6] rfl (hj2 _)
        · refine .pcond (fun h6 => ?_) (fun h6 => ?_)
          · refine .draw 12 [] mix (by kernel_rfl) (.cons (fun _ _ _ hP hE h => .fieldP (hE.op rfl) fa56_0 rfl <| h) <| .cons (fun _ _ _ hP hE h => .loadP 1 fChange_0 (hE.op rfl) (hP.get rfl rfl) ty3 rfl <| h) <| .cons (fun _ _ _ hP hE h => .bin rfl (hE.op rfl) (hE.op rfl) rfl <| h) <| .cons (fun _ _ _ hP hE h => .move (hE.op rfl) rfl <| .noV <| .useEq h5 h) <| .cons (fun _ _ _ hP hE h => .on rfl (hE _ _ rfl) <| .move (hE.op rfl) rfl <| h) <| .cons (fun _ _ _ hP hE h => .on rfl (hE _ _ rfl) <| .bin rfl (hE.op rfl) (hE.op rfl) rfl <| h) <| .cons (fun _ _ _ hP hE h => .pickF (hE.op rfl) (hE.op rfl) rfl <| h) <| .cons (fun _ _ _ hP hE h => .move (hE.op rfl) rfl <| .noV <| .useEq h6 h) <| .cons (fun _ _ _ hP hE h => .off rfl (hE _ _ rfl) rfl <| h) <| .cons (fun _ _ _ hP hE h => .off rfl (hE _ _ rfl) rfl <| h) <| .cons (fun _ _ _ hP hE h => .off rfl (hE _ _ rfl) rfl <| h) <| .cons (fun _ _ _ hP hE h => .off rfl (hE _ _ rfl) rfl <| h) <| .nil) rfl <| .off rfl rfl rfl <| .pickT rfl rfl rfl <| .assign rfl rfl <| .nil ?_
            exact .keep [0, 3, 5, 46] [6] rfl (hj2 _)
          · refine .pbind fun q12 h7 => ?_
            refine .draw 12 [] mix (by kernel_rfl) (.cons (fun _ _ _ hP hE h => .fieldP (hE.op rfl) fa56_0 rfl <| h) <| .cons (fun _ _ _ hP hE h => .loadP 1 fChange_0 (hE.op rfl) (hP.get rfl rfl) ty3 rfl <| h) <| .cons (fun _ _ _ hP hE h => .bin rfl (hE.op rfl) (hE.op rfl) rfl <| h) <| .cons (fun _ _ _ hP hE h => .move (hE.op rfl) rfl <| .noV <| .useEq h5 h) <| .cons (fun _ _ _ hP hE h => .on rfl (hE _ _ rfl) <| .move (hE.op rfl) rfl <| h) <| .cons (fun _ _ _ hP hE h => .on rfl (hE _ _ rfl) <| .bin rfl (hE.op rfl) (hE.op rfl) rfl <| h) <| .cons (fun _ _ _ hP hE h => .pickF (hE.op rfl) (hE.op rfl) rfl <| h) <| .cons (fun _ _ _ hP hE h => .move (hE.op rfl) rfl <| .noV <| .useEq h6 h) <| .cons (fun _ _ _ hP hE h => .on rfl (hE _ _ rfl) <| .fieldP (hE.op rfl) fa56_3 rfl <| h) <| .cons (fun _ _ _ hP hE h => .on rfl (hE _ _ rfl) <| .loadP 1 fChange_3 (hE.op rfl) (hP.get rfl rfl) ty52 rfl <| h) <| .cons (fun _ _ _ hP hE h => .on rfl (hE _ _ rfl) <| .loadP 1 (Fld.self _) (hE.op rfl) (hP.get rfl rfl) ty56 rfl <| h) <| .cons (fun _ _ _ hP hE h => .on rfl (hE _ _ rfl) <| .bindE h7 (fun r h => .call0 (c136 _) n136 (hE.ops rfl) rfl h) <| h) <| .nil) rfl <| .on rfl rfl <| .neT eq52 rfl rfl rfl <| .pickF rfl rfl rfl <| .assign rfl rfl <| .nil ?_
            exact .keep [0, 3, 5, 46] [6] rfl (hj2 _)
  · refine .region <| .fieldP rfl fa56_0 rfl <| .loadP 1 fChange_0 rfl rfl ty3 rfl <| .bin rfl rfl rfl rfl <| .move rfl rfl <| .split 18 rfl (fun _ => ?_) (fun _ => ?_)
    · refine .on rfl rfl <| .fieldP rfl fa56_1 rfl <| .on rfl rfl <| .loadP 1 fChange_1 rfl rfl ty9 rfl <| .on rfl rfl <| .seq rfl rfl rfl <| .pickT rfl rfl rfl <| .move rfl rfl <| .split 23 rfl (fun _ => ?_) (fun _ => ?_)
      · refine .on rfl rfl <| .fieldP rfl fa56_2 rfl <| .on rfl rfl <| .loadP 1 fChange_2 rfl rfl ty9 rfl <| .on rfl rfl <| .seq rfl rfl rfl <| .pickT rfl rfl rfl <| .move rfl rfl <| .split 28 rfl (fun _ => ?_) (fun _ => ?_)
        · refine .on rfl rfl <| .fieldP rfl fa56_3 rfl <| .on rfl rfl <| .fieldP rfl fa52_2 rfl <| .on rfl rfl <| .loadP 1 (fChange_3.comp fCol_2) rfl rfl ty4 rfl <| .on rfl rfl <| .not rfl rfl <| .on rfl rfl <| .move rfl rfl <| .split 33 rfl (fun _ => ?_) (fun _ => ?_)
          · refine .off rfl rfl rfl <| .off rfl rfl rfl <| .off rfl rfl rfl <| .off rfl rfl rfl <| .off rfl rfl rfl <| .on rfl rfl <| .pickT rfl rfl rfl <| .pickT rfl rfl rfl <| .assign rfl rfl <| .nil ?_
            exact .keep [0, 3, 5, 14] [6] rfl (hj1 _)
          · refine .on rfl rfl <| .fieldP rfl fa56_3 rfl <| .on rfl rfl <| .fieldP rfl fa52_4 rfl <| .on rfl rfl <| .fieldP rfl fa47_0 rfl <| .on rfl rfl <| .loadP 1 (fChange_3.comp (fCol_4.comp fVal_0)) rfl rfl ty3 rfl <| .on rfl rfl <| .bin rfl rfl rfl rfl <| .on rfl rfl <| .pickF rfl rfl rfl <| .pickT rfl rfl rfl <| .assign rfl rfl <| .nil ?_
            exact .keep [0, 3, 5, 14] [6] rfl (hj1 _)
        · refine .off rfl rfl rfl <| .off rfl rfl rfl <| .off rfl rfl rfl <| .off rfl rfl rfl <| .off rfl rfl rfl <| .offU rfl rfl rfl <| .offU rfl rfl rfl <| .offU rfl rfl rfl <| .offU rfl rfl rfl <| .offU rfl rfl rfl <| .off rfl rfl rfl <| .pickF rfl rfl rfl <| .assign rfl rfl <| .nil ?_
          exact .keep [0, 3, 5, 14] [6] rfl (hj1 _)
      · refine .off rfl rfl rfl <| .off rfl rfl rfl <| .off rfl rfl rfl <| .pickF rfl rfl rfl <| .move rfl rfl <| .off rfl rfl rfl <| .off rfl rfl rfl <| .off rfl rfl rfl <| .off rfl rfl rfl <| .off rfl rfl rfl <| .offU rfl rfl rfl <| .offU rfl rfl rfl <| .offU rfl rfl rfl <| .offU rfl rfl rfl <| .offU rfl rfl rfl <| .off rfl rfl rfl <| .pickF rfl rfl rfl <| .assign rfl rfl <| .nil ?_
        exact .keep [0, 3, 5, 14] [6] rfl (hj1 _)
    · refine .off rfl rfl rfl <| .off rfl rfl rfl <| .off rfl rfl rfl <| .pickF rfl rfl rfl <| .move rfl rfl <| .off rfl rfl rfl <| .off rfl rfl rfl <| .off rfl rfl rfl <| .pickF rfl rfl rfl <| .move rfl rfl <| .off rfl rfl rfl <| .off rfl rfl rfl <| .off rfl rfl rfl <| .off rfl rfl rfl <| .off rfl rfl rfl <| .offU rfl rfl rfl <| .offU rfl rfl rfl <| .offU rfl rfl rfl <| .offU rfl rfl rfl <| .offU rfl rfl rfl <| .off rfl rfl rfl <| .pickF rfl rfl rfl <| .assign rfl rfl <| .nil ?_
      exact .keep [0, 3, 5, 14] [6] rfl (hj1 _)
def f87 (fu : Nat) (a0 : List Col) (a1 : Change) : Option ((List Col) × Bool) := (f86 fu a0).bind fun q2 => cond (!q2) (some (([] : List Col), false)) ((f118 fu a0 a1).bind fun q3 => (f86 fu q3).bind fun q4 => cond (!q4) (cond (decide (List.length ([] : List Col) + List.length a0 ≤ CAP)) (some (([] : List Col) ++ a0, false)) none) (some (q3, true)))
theorem n87 : ∃ fn c, Tryz.prog.funcs[82]? = some fn ∧ (fn.name == "runtime.NumGoroutine") = false ∧ fn.body = some c := ⟨_, _, Tryz.func82, by kernel_rfl, rfl⟩
theorem c87 (fu : Nat) (a0 : List Col) (a1 : Change) : Ctr Tryz.prog 82 [(tL tCol).va a0, tChange.va a1] [] (f87 fu a0 a1) (fun _ _ => []) (fun q => tup [(tL tCol).va q.1, isB q.2]) := by
  refine Ctr.of_W Tryz.func82 rfl Tryz.ntmps82 rfl fun A w => ?_
  unfold f87
  refine .seq <| .region <| .box (T := tChange) rfl rfl fun b1 => .assignNil tCol rfl <| .assign rfl rfl <| .nil ?_
  refine .seq <| .seq <| .region <| .move rfl rfl <| .call0 (c86 fu _) n86 rfl rfl fun q2 => .not rfl rfl <| .nil ?_
  refine .cond rfl (fun _ => ?_) (fun _ => ?_)
  · refine .seq <| .region <| .litN (T := tCol) Tryz.underlying28 el52 rfl rfl (.nil) rfl <| .assign rfl rfl <| .assign rfl rfl <| .nil ?_
    exact .ret2 Tryz.func82 Tryz.results82 (.tmp rfl) (.tmp rfl) rfl (fun _ => .cons _ <| .slnil)
  · refine .skip <| .seq <| .region <| .move rfl rfl <| .loadP 0 (Fld.self _) rfl rfl ty56 rfl <| .call0 (c118 fu _ _) n118 rfl rfl fun q3 => .assign rfl rfl <| .nil ?_
    refine .seq <| .seq <| .region <| .move rfl rfl <| .call0 (c86 fu _) n86 rfl rfl fun q4 => .not rfl rfl <| .nil ?_
    refine .cond rfl (fun _ => ?_) (fun _ => ?_)
    · refine .seq <| .region <| .lit (T := tCol) Tryz.underlying28 el52 rfl rfl (.nil) rfl fun v5 => .move rfl rfl <| .app (T := tCol) 0 rfl rfl rfl Tryz.underlying28 el52 rfl fun v6 => .assign rfl rfl <| .assign rfl rfl <| .nil ?_
      exact .ret2 Tryz.func82 Tryz.results82 (.tmp rfl) (.tmp rfl) rfl (fun _ => .cons _ <| .cons _ <| .slnil)
    · refine .skip <| .seq <| .region <| .move rfl rfl <| .assign rfl rfl <| .assign rfl rfl <| .nil ?_
      exact .ret2 Tryz.func82 Tryz.results82 (.tmp rfl) (.tmp rfl) rfl (fun _ => .cons _ <| .slnil)
def f50_l1 (fu : Nat) (a1 : List Change) : Nat → (List Col) → Int → Option ((List Col) × Bool)
  | 0, _, _ => none
  | n1 + 1, i4, i5 => cond (decide (i5 < (List.length a1 : Int))) (cond (decide (0 ≤ i5) && decide (i5 < (List.length a1 : Int))) ((f87 fu i4 (a1.getD i5.toNat default)).bind fun q6 => cond (!q6.2) (some (([] : List Col), false)) ((f50_l1 fu a1 n1) q6.1 (IntKind.i64.wrap (i5 + 1)))) none) (some (i4, true))
def f50 (fu : Nat) (a0 : List Col) (a1 : List Change) : Option ((List Col) × Bool) := (f86 fu a0).bind fun q1 => cond (!q1) (some (([] : List Col), false)) (cond (decide (List.length ([] : List Col) + List.length a0 ≤ CAP)) (f50_l1 fu a1 fu (([] : List Col) ++ a0) 0) none)
theorem n50 : ∃ fn c, Tryz.prog.funcs[59]? = some fn ∧ (fn.name == "runtime.NumGoroutine") = false ∧ fn.body = some c := ⟨_, _, Tryz.func59, by kernel_rfl, rfl⟩
theorem c50 (fu : Nat) (a0 : List Col) (a1 : List Change) : Ctr Tryz.prog 59 [(tL tCol).va a0, (tL tChange).va a1] [] (f50 fu a0 a1) (fun _ _ => []) (fun q => tup [(tL tCol).va q.1, isB q.2]) := by
  refine Ctr.of_W Tryz.func59 rfl Tryz.ntmps59 rfl fun A w => ?_
  unfold f50
  refine .seq <| .region <| .assignNil tCol rfl <| .assign rfl rfl <| .nil ?_
  refine .seq <| .seq <| .region <| .move rfl rfl <| .call0 (c86 fu _) n86 rfl rfl fun q1 => .not rfl rfl <| .nil ?_
  refine .cond rfl (fun _ => ?_) (fun _ => ?_)
  · refine .seq <| .region <| .litN (T := tCol) Tryz.underlying28 el52 rfl rfl (.nil) rfl <| .assign rfl rfl <| .assign rfl rfl <| .nil ?_
    exact .ret2 Tryz.func59 Tryz.results59 (.tmp rfl) (.tmp rfl) rfl (fun _ => .slnil)
  · refine .skip <| .seq <| .region <| .lit (T := tCol) Tryz.underlying28 el52 rfl rfl (.nil) rfl fun v2 => .move rfl rfl <| .app (T := tCol) 0 rfl rfl rfl Tryz.underlying28 el52 rfl fun v3 => .assign rfl rfl <| .nil ?_
    refine .seq <| .seq <| .region <| .assign rfl rfl <| .nil ?_
    refine .block <| .loop <| .drop (.cons _ <| .slnil) <| .keep [1, 6, 7] [] rfl ?_
    refine (show ∀ (n1 : Nat) (i4 : List Col) (i5 : Int), W _ _ _ _ _ ⟨[(1, (tL tChange).va a1, none), (6, (tL tCol).va i4, none), (7, isI .i64 i5, none)], []⟩ (f50_l1 fu a1 n1 i4 i5) from ?_) fu _ _
    intro n1
    induction n1 with
    | zero => exact fun _ _ => .stop
    | succ n1 ih1 =>
      intro i4 i5
      refine .inLoop <| .seq <| .seq <| .region <| .move rfl rfl <| .move rfl rfl <| .lenL rfl Tryz.underlying29 rfl <| .bin rfl rfl rfl rfl <| .nil ?_
      refine .cond rfl (fun _ => ?_) (fun _ => ?_)
      · refine .skip <| .seq <| .block <| .seq <| .region <| .assign rfl rfl <| .nil ?_
        refine .seq <| .region <| .move rfl rfl <| .move rfl rfl <| .move rfl rfl <| .elemAt rfl rfl Tryz.underlying29 ty56 rfl <| .load rfl ty56 rfl <| .call0 (c87 fu _ _) n87 rfl rfl fun q6 => .move rfl rfl <| .extract rfl rfl rfl <| .extract rfl rfl rfl <| .assign rfl rfl <| .assign rfl rfl <| .nil ?_
        refine .seq <| .region <| .move rfl rfl <| .not rfl rfl <| .nil ?_
        refine .cond rfl (fun _ => ?_) (fun _ => ?_)
        · refine .seq <| .region <| .litN (T := tCol) Tryz.underlying28 el52 rfl rfl (.nil) rfl <| .assign rfl rfl <| .assign rfl rfl <| .nil ?_
          exact .ret2 Tryz.func59 Tryz.results59 (.tmp rfl) (.tmp rfl) rfl (fun _ => .slnil)
        · refine .skip <| .inBlock <| .region <| .move rfl rfl <| .bin rfl rfl rfl rfl <| .assign rfl rfl <| .nil ?_
          exact .keep [1, 6, 7] [] rfl (ih1 _ _)
      · refine .exit rfl <| .seq <| .region <| .move rfl rfl <| .assign rfl rfl <| .assign rfl rfl <| .nil ?_
        exact .ret2 Tryz.func59 Tryz.results59 (.tmp rfl) (.tmp rfl) rfl (fun _ => .slnil)
def f89 (fu : Nat) (a0 : Table) (a1 : Int) : Option (List Col) := cond (decide (0 ≤ (0 : Int)) && decide ((0 : Int) ≤ a1) && decide (a1 ≤ (List.length a0.changes : Int))) ((f50 fu a0.first ((a0.changes.take a1.toNat).drop (0 : Int).toNat)).bind fun q2 => some q2.1) none
theorem n89 : ∃ fn c, Tryz.prog.funcs[96]? = some fn ∧ (fn.name == "runtime.NumGoroutine") = false ∧ fn.body = some c := ⟨_, _, Tryz.func96, by kernel_rfl, rfl⟩
theorem c89 (fu : Nat) (a0 : Table) (a1 : Int) : Ctr Tryz.prog 96 [tTable.va a0, isI .i64 a1] [] (f89 fu a0 a1) (fun _ _ => []) (fun q => (tL tCol).va q) := by
  refine Ctr.of_W Tryz.func96 rfl Tryz.ntmps96 rfl fun A w => ?_
  unfold f89
  refine .seq <| .region <| .box (T := tTable) rfl rfl fun b1 => .assignNil tCol rfl <| .nil ?_
  refine .seq <| .pT fun h1 => ?_
  refine .draw 6 [] mix (by kernel_rfl) (.cons (fun _ _ _ hP hE h => .fieldP (hE.op rfl) fa27_0 rfl <| h) <| .cons (fun _ _ _ hP hE h => .loadP 0 fTable_0 (hE.op rfl) (hP.get rfl rfl) ty23 rfl <| h) <| .cons (fun _ _ _ hP hE h => .fieldP (hE.op rfl) fa27_1 rfl <| h) <| .cons (fun _ _ _ hP hE h => .loadP 0 fTable_1 (hE.op rfl) (hP.get rfl rfl) ty24 rfl <| h) <| .cons (fun _ _ _ hP hE h => .move (hE.op rfl) rfl <| h) <| .cons (fun _ _ _ hP hE h => .useC h1 <| .cut (hE.op rfl) Tryz.underlying29 el56 rfl ⟨_, (hE.op rfl)⟩ rfl <| h) <| .nil) rfl <| .call0 (c50 fu _ _) n50 rfl rfl fun q2 => .move rfl rfl <| .extract rfl rfl rfl <| .extract rfl rfl rfl <| .assign rfl rfl <| .assign rfl rfl <| .nil ?_
  refine .seq <| .region <| .move rfl rfl <| .assign rfl rfl <| .nil ?_
  exact .ret1 Tryz.func96 Tryz.results96 (.tmp rfl) rfl (fun _ _ => .cons _ <| .slnil)
def f89o (fu : Nat) (a0 : Table) (a1 : Int) : Option (List Col) := cond (decide (0 ≤ (0 : Int)) && decide ((0 : Int) ≤ a1) && decide (a1 ≤ (List.length a0.changes : Int))) ((f50 fu a0.first ((a0.changes.take a1.toNat).drop (0 : Int).toNat)).bind fun q2 => some q2.1) none
theorem c89o (fu : Nat) (vp0 : Value) (cp0 : Value) (a0 : Table) (a1 : Int) : Ctr Tryz.prog 96 [tTableA.va (⟨a0.first, (cp0, a0.changes), vp0, a0.next⟩ : TableA), isI .i64 a1] [arrO tRow vp0 a0.rows] (f89o fu a0 a1) (fun _ _ => [arrO tRow vp0 a0.rows]) (fun q => (tL tCol).va q) := by
  refine Ctr.of_W Tryz.func96 rfl Tryz.ntmps96 rfl fun A w => ?_
  unfold f89o
  refine .seq <| .region <| .box (T := tTableA) rfl rfl fun b1 => .assignNil tCol rfl <| .nil ?_
  refine .seq <| .pT fun h1 => ?_
  refine .draw 6 [] mix (by kernel_rfl) (.cons (fun _ _ _ hP hE h => .fieldP (hE.op rfl) fa27_0 rfl <| h) <| .cons (fun _ _ _ hP hE h => .loadP 0 fTableA_0 (hE.op rfl) (hP.get rfl rfl) ty23 rfl <| h) <| .cons (fun _ _ _ hP hE h => .fieldP (hE.op rfl) fa27_1 rfl <| h) <| .cons (fun _ _ _ hP hE h => .loadK 0 fTableA_1 (hE.op rfl) (hP.get rfl rfl) ty24 rfl <| h) <| .cons (fun _ _ _ hP hE h => .move (hE.op rfl) rfl <| h) <| .cons (fun _ _ _ hP hE h => .useC h1 <| .cut (hE.op rfl) Tryz.underlying29 el56 rfl ⟨_, (hE.op rfl)⟩ rfl <| h) <| .nil) rfl <| .call0 (c50 fu _ _) n50 rfl rfl fun q2 => .move rfl rfl <| .extract rfl rfl rfl <| .extract rfl rfl rfl <| .assign rfl rfl <| .assign rfl rfl <| .nil ?_
  refine .seq <| .region <| .move rfl rfl <| .assign rfl rfl <| .nil ?_
  exact .ret1 Tryz.func96 Tryz.results96 (.tmp rfl) rfl (fun _ _ => .cons _ <| .cons_cons _ <| .slnil)
def f53 (fu : Nat) (a0 : Table) : Option (List Col) := (f89 fu a0 (List.length a0.changes : Int)).bind fun q2 => some q2
theorem n53 : ∃ fn c, Tryz.prog.funcs[62]? = some fn ∧ (fn.name == "runtime.NumGoroutine") = false ∧ fn.body = some c := ⟨_, _, Tryz.func62, by kernel_rfl, rfl⟩
theorem c53 (fu : Nat) (a0 : Table) : Ctr Tryz.prog 62 [tTable.va a0] [] (f53 fu a0) (fun _ _ => []) (fun q => (tL tCol).va q) := by
  refine Ctr.of_W Tryz.func62 rfl Tryz.ntmps62 rfl fun A w => ?_
  unfold f53
  refine .seq <| .region <| .box (T := tTable) rfl rfl fun b1 => .assignNil tCol rfl <| .nil ?_
  refine .seq <| .region <| .loadP 0 (Fld.self _) rfl rfl ty27 rfl <| .fieldP rfl fa27_1 rfl <| .loadP 0 fTable_1 rfl rfl ty24 rfl <| .lenL rfl Tryz.underlying29 rfl <| .call0 (c89 fu _ _) n89 rfl rfl fun q2 => .assign rfl rfl <| .nil ?_
  exact .ret1 Tryz.func62 Tryz.results62 (.tmp rfl) rfl (fun _ _ => .cons _ <| .slnil)
def f53o (fu : Nat) (a0 : Table) : Option (List Col) := (f89o fu a0 (List.length a0.changes : Int)).bind fun q2 => some q2
theorem c53o (fu : Nat) (vp0 : Value) (cp0 : Value) (a0 : Table) : Ctr Tryz.prog 62 [tTableA.va (⟨a0.first, (cp0, a0.changes), vp0, a0.next⟩ : TableA)] [arrO tRow vp0 a0.rows] (f53o fu a0) (fun _ _ => [arrO tRow vp0 a0.rows]) (fun q => (tL tCol).va q) := by
  refine Ctr.of_W Tryz.func62 rfl Tryz.ntmps62 rfl fun A w => ?_
  unfold f53o
  refine .seq <| .region <| .box (T := tTableA) rfl rfl fun b1 => .assignNil tCol rfl <| .nil ?_
  refine .seq <| .region <| .loadP 0 (Fld.self _) rfl rfl ty27 rfl <| .fieldP rfl fa27_1 rfl <| .loadKV 0 fTableA_1 rfl rfl ty24 rfl <| .lenL rfl Tryz.underlying29 rfl <| .callR 1 (c89o fu _ _ _ _) rfl n89 rfl rfl fun q2 => .assign rfl rfl <| .nil ?_
  exact .ret1 Tryz.func62 Tryz.results62 (.tmp rfl) rfl (fun _ _ => .cons _ <| .cons_cons _ <| .slnil)
def f82_l1 (a0 : Table) (a1 : Int) : Nat → Int → Option Int
  | 0, _ => none
  | n1 + 1, i2 => cond (decide (i2 < (List.length a0.rows : Int))) (cond (decide (0 ≤ i2) && decide (i2 < (List.length a0.rows : Int))) (cond (decide (((a0.rows.getD i2.toNat default).id) = a1)) (some i2) ((f82_l1 a0 a1 n1) (IntKind.i64.wrap (i2 + 1)))) none) (some (-1))
def f82 (fu : Nat) (a0 : Table) (a1 : Int) : Option Int := f82_l1 a0 a1 fu 0
theorem n82 : ∃ fn c, Tryz.prog.funcs[64]? = some fn ∧ (fn.name == "runtime.NumGoroutine") = false ∧ fn.body = some c := ⟨_, _, Tryz.func64, by kernel_rfl, rfl⟩
def f82o_l1 (a0 : Table) (a1 : Int) : Nat → Int → Option Int
  | 0, _ => none
  | n1 + 1, i2 => cond (decide (i2 < (List.length a0.rows : Int))) (cond (decide (0 ≤ i2) && decide (i2 < (List.length a0.rows : Int))) (cond (decide (((a0.rows.getD i2.toNat default).id) = a1)) (some i2) ((f82o_l1 a0 a1 n1) (IntKind.i64.wrap (i2 + 1)))) none) (some (-1))
def f82o (fu : Nat) (a0 : Table) (a1 : Int) : Option Int := f82o_l1 a0 a1 fu 0
theorem c82o (fu : Nat) (vp0 : Value) (cp0 : Value) (a0 : Table) (a1 : Int) : Ctr Tryz.prog 64 [tTableA.va (⟨a0.first, (cp0, a0.changes), vp0, a0.next⟩ : TableA), isI .i64 a1] [arrO tRow vp0 a0.rows] (f82o fu a0 a1) (fun _ _ => [arrO tRow vp0 a0.rows]) (fun q => isI .i64 q) := by
  refine Ctr.of_W Tryz.func64 rfl Tryz.ntmps64 rfl fun A w => ?_
  unfold f82o
  refine .seq <| .region <| .box (T := tTableA) rfl rfl fun b1 => .assign rfl rfl <| .nil ?_
  refine .seq <| .seq <| .region <| .assign rfl rfl <| .nil ?_
  refine .block <| .loop <| .keep [1, 2, 5] [] rfl ?_
  refine (show ∀ (n1 : Nat) (i2 : Int), W _ _ _ _ _ ⟨[(1, isI .i64 a1, none), (2, isP b1 0, none), (5, isI .i64 i2, none)], [boxO b1 tTableA (⟨a0.first, (cp0, a0.changes), vp0, a0.next⟩ : TableA) [], arrO tRow vp0 a0.rows]⟩ (f82o_l1 a0 a1 n1 i2) from ?_) fu _
  intro n1
  induction n1 with
  | zero => exact fun _ => .stop
  | succ n1 ih1 =>
    intro i2
    refine .inLoop <| .seq <| .seq <| .region <| .move rfl rfl <| .fieldP rfl fa27_2 rfl <| .loadR 0 fTableA_2 rfl rfl ty25 rfl <| .know 8 rfl <| .lenA 1 rfl rfl Tryz.underlying30 rfl <| .bin rfl rfl rfl rfl <| .nil ?_
    refine .cond rfl (fun _ => ?_) (fun _ => ?_)
    · refine .skip <| .seq <| .block <| .seq <| .region <| .fieldP rfl fa27_2 rfl <| .loadR 0 fTableA_2 rfl rfl ty25 rfl <| .know 14 rfl <| .move rfl rfl <| .elemA 1 rfl rfl rfl Tryz.underlying30 ty37 rfl <| .fieldA rfl fa37_0 rfl <| .loadA 1 fRow_0 rfl rfl ty3 rfl <| .move rfl rfl <| .bin rfl rfl rfl rfl <| .nil ?_
      refine .cond rfl (fun _ => ?_) (fun _ => ?_)
      · refine .seq <| .region <| .move rfl rfl <| .assign rfl rfl <| .nil ?_
        exact .ret1 Tryz.func64 Tryz.results64 (.tmp rfl) rfl (fun _ _ => .cons _ <| .cons_cons _ <| .slnil)
      · refine .skip <| .inBlock <| .region <| .move rfl rfl <| .bin rfl rfl rfl rfl <| .assign rfl rfl <| .nil ?_
        exact .keep [1, 2, 5] [] rfl (ih1 _)
    · refine .exit rfl <| .seq <| .region <| .assign rfl rfl <| .nil ?_
      exact .ret1 Tryz.func64 Tryz.results64 (.tmp rfl) rfl (fun _ _ => .cons _ <| .cons_cons _ <| .slnil)
end Go.Proofs.YtejobmamkeoheaaGreatDoor
