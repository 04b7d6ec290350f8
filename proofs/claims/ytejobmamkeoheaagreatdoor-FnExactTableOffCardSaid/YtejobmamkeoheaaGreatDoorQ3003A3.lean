/- Functions of the program: what each answers, and that the machine answers so. -/
import Derived.Test.YtejobmamkeoheaaGreatDoorQ3003A2
import Derived.KernelRfl
set_option linter.all false
namespace Go.Proofs.YtejobmamkeoheaaGreatDoor
open Go Go.HL
def f141_j1 (i5 : List Val) : Option (List Val) := some i5
def f141 (fu : Nat) (a0 : List Col) (a1 : Change) (a2 : List Val) : Option (List Val) := (f108 fu a0 a1.name).bind fun q2 => cond (decide (List.length ([] : List Val) + List.length a2 ≤ CAP)) (cond (decide (a1.kind = 1)) (cond (decide (List.length (([] : List Val) ++ a2) + List.length ([a1.col.def_] : List Val) ≤ CAP)) (some ((([] : List Val) ++ a2) ++ ([a1.col.def_] : List Val))) none) (cond (decide (a1.kind = 2)) (cond (decide (0 ≤ (0 : Int)) && decide ((0 : Int) ≤ q2) && decide (q2 ≤ (List.length a2 : Int))) (cond (decide (List.length ([] : List Val) + List.length ((a2.take q2.toNat).drop (0 : Int).toNat) ≤ CAP)) (cond (decide (0 ≤ (IntKind.i64.wrap (q2 + 1))) && decide ((IntKind.i64.wrap (q2 + 1)) ≤ (List.length a2 : Int)) && decide ((List.length a2 : Int) ≤ (List.length a2 : Int))) (cond (decide (List.length (([] : List Val) ++ ((a2.take q2.toNat).drop (0 : Int).toNat)) + List.length ((a2.take (List.length a2 : Int).toNat).drop (IntKind.i64.wrap (q2 + 1)).toNat) ≤ CAP)) (some ((([] : List Val) ++ ((a2.take q2.toNat).drop (0 : Int).toNat)) ++ ((a2.take (List.length a2 : Int).toNat).drop (IntKind.i64.wrap (q2 + 1)).toNat))) none) none) none) none) (cond (decide (a1.kind = 4)) (cond (decide (0 ≤ q2) && decide (q2 < (List.length a2 : Int))) ((f138 fu (a2.getD q2.toNat default) a1.col.kind).bind fun q9 => cond (decide (0 ≤ q2) && decide (q2 < (List.length (([] : List Val) ++ a2) : Int))) (f141_j1 ((([] : List Val) ++ a2).set q2.toNat q9)) none) none) (f141_j1 (([] : List Val) ++ a2))))) none
theorem n141 : ∃ fn c, Tryz.prog.funcs[131]? = some fn ∧ (fn.name == "runtime.NumGoroutine") = false ∧ fn.body = some c := ⟨_, _, Tryz.func131, by kernel_rfl, rfl⟩
theorem c141 (fu : Nat) (a0 : List Col) (a1 : Change) (a2 : List Val) : Ctr Tryz.prog 131 [(tL tCol).va a0, tChange.va a1, (tL tVal).va a2] [] (f141 fu a0 a1 a2) (fun _ _ => []) (fun q => (tL tVal).va q) := by
  refine Ctr.of_W Tryz.func131 rfl Tryz.ntmps131 rfl fun A w => ?_
  unfold f141
  refine .seq <| .region <| .box (T := tChange) rfl rfl fun b1 => .assignNil tVal rfl <| .nil ?_
  refine .seq <| .region <| .move rfl rfl <| .fieldP rfl fa56_1 rfl <| .loadP 0 fChange_1 rfl rfl ty9 rfl <| .call0 (c108 fu _ _) n108 rfl rfl fun q2 => .assign rfl rfl <| .nil ?_
  refine .seq <| .region <| .lit (T := tVal) Tryz.underlying102 el47 rfl rfl (.nil) rfl fun v3 => .toArr 0 13 rfl rfl rfl <| .move rfl rfl <| .appA (T := tVal) 0 rfl rfl rfl Tryz.underlying102 el47 rfl fun v4 => .assign rfl rfl <| .nil ?_
  refine .seq <| .seq <| .region <| .fieldP rfl fa56_0 rfl <| .loadP 1 fChange_0 rfl rfl ty3 rfl <| .nil ?_
  refine .block <| .seq <| .region <| .bin rfl rfl rfl rfl <| .assign rfl rfl <| .nil ?_
  refine .join1 (fun i5 => ⟨[(8, isV v4, some v4)], [arrO tVal v4 i5]⟩) (fun i5 => f141_j1 i5) (fun i5 => ?_) (fun hj1 => ?_)
  · refine .inBlock <| .seq <| .region <| .move rfl rfl <| .assign rfl rfl <| .nil ?_
    exact .frz 0 6 rfl rfl <| .ret1 Tryz.func131 Tryz.results131 (.tmp rfl) rfl (fun _ _ => .cons _ <| .slnil)
  · refine .cond rfl (fun _ => ?_) (fun _ => ?_)
    · refine .seq <| .region <| .move rfl rfl <| .fieldP rfl fa56_3 rfl <| .fieldP rfl fa52_4 rfl <| .loadP 1 (fChange_3.comp fCol_4) rfl rfl ty47 rfl <| .litN (T := tVal) Tryz.underlying102 el47 rfl rfl (.cons rfl <| .nil) rfl <| .frz 0 8 rfl rfl <| .also 20 8 rfl rfl <| .app (T := tVal) 0 rfl rfl rfl Tryz.underlying102 el47 rfl fun v6 => .assign rfl rfl <| .nil ?_
      exact .ret1 Tryz.func131 Tryz.results131 (.tmp rfl) rfl (fun _ _ => .cons _ <| .cons _ <| .slnil)
    · refine .seq <| .region <| .bin rfl rfl rfl rfl <| .assign rfl rfl <| .nil ?_
      refine .cond rfl (fun _ => ?_) (fun _ => ?_)
      · refine .seq <| .pT fun h1 => ?_
        refine .pT fun h2 => ?_
        refine .pT fun h3 => ?_
        refine .drawS 9 [] [4] [] mix (by kernel_rfl) (.cons (fun _ _ _ hP hE h => .litE tVal Tryz.underlying102 el47 rfl rfl <| h) <| .cons (fun _ _ _ hP hE h => .move (hE.op rfl) rfl <| h) <| .cons (fun _ _ _ hP hE h => .move (hE.op rfl) rfl <| h) <| .cons (fun _ _ _ hP hE h => .useC h1 <| .cut (hE.op rfl) Tryz.underlying102 el47 rfl ⟨_, (hE.op rfl)⟩ rfl <| h) <| .skip <| .cons (fun _ _ _ hP hE h => .move (hE.op rfl) rfl <| h) <| .cons (fun _ _ _ hP hE h => .move (hE.op rfl) rfl <| h) <| .cons (fun _ _ _ hP hE h => .bin rfl (hE.op rfl) (hE.op rfl) rfl <| h) <| .cons (fun _ _ _ hP hE h => .useC h3 <| .cut (hE.op rfl) Tryz.underlying102 el47 ⟨_, (hE.op rfl)⟩ rfl rfl <| h) <| .nil) rfl <| .cons (d := 32) rfl rfl fun _ _ hE h => .useC h2 <| .appE (T := tVal) (hE.op rfl) (hE.op rfl) rfl Tryz.underlying102 el47 rfl fun v7 => .toEnd <| h _ _ (.same <| .same <| .nil) <| .nil <| .app (T := tVal) 2 rfl rfl rfl Tryz.underlying102 el47 rfl fun v8 => .assign rfl rfl <| .nil ?_
        exact .ret1 Tryz.func131 Tryz.results131 (.tmp rfl) rfl (fun _ _ => .cons _ <| .cons _ <| .cons _ <| .slnil)
      · refine .seq <| .region <| .bin rfl rfl rfl rfl <| .assign rfl rfl <| .nil ?_
        refine .cond rfl (fun _ => ?_) (fun _ => ?_)
        · refine .pT fun h4 => ?_
          refine .draw 9 [0, 1] mix (by kernel_rfl) (.cons (fun _ _ _ hP hE h => .move (hE.op rfl) rfl <| h) <| .cons (fun _ _ _ hP hE h => .move (hE.op rfl) rfl <| h) <| .cons (fun _ _ _ hP hE h => .move (hE.op rfl) rfl <| h) <| .cons (fun _ _ _ hP hE h => .move (hE.op rfl) rfl <| h) <| .cons (fun _ _ _ hP hE h => .useC h4 <| .elemAt (hE.op rfl) (hE.op rfl) Tryz.underlying102 ty47 rfl <| h) <| .cons (fun _ _ _ hP hE h => .load (hE.op rfl) ty47 rfl <| h) <| .cons (fun _ _ _ hP hE h => .fieldP (hE.op rfl) fa56_3 rfl <| h) <| .cons (fun _ _ _ hP hE h => .fieldP (hE.op rfl) fa52_1 rfl <| h) <| .cons (fun _ _ _ hP hE h => .loadP 1 (fChange_3.comp fCol_1) (hE.op rfl) (hP.get rfl rfl) ty3 rfl <| h) <| .nil) rfl <| .call0 (c138 fu _ _) n138 rfl rfl fun q9 => .elemA 0 rfl rfl rfl Tryz.underlying102 ty47 rfl <| .storeA 0 (Fld.self _) rfl rfl rfl ty47 <| .nil ?_
          exact .keep [] [8] rfl (.drop (.cons_cons _ <| .cons _ <| .slnil) <| hj1 _)
        · exact .skip <| .keep [] [8] rfl (.drop (.cons_cons _ <| .cons _ <| .slnil) <| hj1 _)
def f120_l1 (fu : Nat) (a1 : List Change) : Nat → (List Col) → (List Val) → Int → Option (List Val)
  | 0, _, _, _ => none
  | n1 + 1, i5, i6, i7 => cond (decide (i7 < (List.length a1 : Int))) (cond (decide (0 ≤ i7) && decide (i7 < (List.length a1 : Int))) ((f141 fu i5 (a1.getD i7.toNat default) i6).bind fun q8 => cond (decide (0 ≤ i7) && decide (i7 < (List.length a1 : Int))) ((f87 fu i5 (a1.getD i7.toNat default)).bind fun q9 => (f120_l1 fu a1 n1) q9.1 q8 (IntKind.i64.wrap (i7 + 1))) none) none) (some i6)
def f120_j1 (fu : Nat) (a0 : List Col) (a1 : List Change) (a2 : List Val) (i2 : Bool) : Option (List Val) := cond i2 (some ([] : List Val)) (cond (decide (List.length ([] : List Val) + List.length a2 ≤ CAP)) (f120_l1 fu a1 fu a0 (([] : List Val) ++ a2) 0) none)
def f120 (fu : Nat) (a0 : List Col) (a1 : List Change) (a2 : List Val) : Option (List Val) := (f50 fu a0 a1).bind fun q1 => cond (!q1.2) (f120_j1 fu a0 a1 a2 true) (f120_j1 fu a0 a1 a2 (!decide ((List.length a2 : Int) = (List.length a0 : Int))))
theorem n120 : ∃ fn c, Tryz.prog.funcs[111]? = some fn ∧ (fn.name == "runtime.NumGoroutine") = false ∧ fn.body = some c := ⟨_, _, Tryz.func111, by kernel_rfl, rfl⟩
theorem c120 (fu : Nat) (a0 : List Col) (a1 : List Change) (a2 : List Val) : Ctr Tryz.prog 111 [(tL tCol).va a0, (tL tChange).va a1, (tL tVal).va a2] [] (f120 fu a0 a1 a2) (fun _ _ => []) (fun q => (tL tVal).va q) := by
  refine Ctr.of_W Tryz.func111 rfl Tryz.ntmps111 rfl fun A w => ?_
  unfold f120
  refine .seq <| .region <| .assignNil tVal rfl <| .nil ?_
  refine .seq <| .region <| .move rfl rfl <| .move rfl rfl <| .call0 (c50 fu _ _) n50 rfl rfl fun q1 => .move rfl rfl <| .extract rfl rfl rfl <| .extract rfl rfl rfl <| .assign rfl rfl <| .assign rfl rfl <| .nil ?_
  refine .seq <| .seq <| .join1 (fun i2 => ⟨[(0, (tL tCol).va a0, none), (1, (tL tChange).va a1, none), (2, (tL tVal).va a2, none), (25, isB i2, none)], []⟩) (fun i2 => f120_j1 fu a0 a1 a2 i2) (fun i2 => ?_) (fun hj1 => ?_)
  · refine .cond rfl (fun _ => ?_) (fun _ => ?_)
    · refine .seq <| .region <| .litN (T := tVal) Tryz.underlying102 el47 rfl rfl (.nil) rfl <| .assign rfl rfl <| .nil ?_
      exact .ret1 Tryz.func111 Tryz.results111 (.tmp rfl) rfl (fun _ _ => .slnil)
    · refine .skip <| .seq <| .region <| .lit (T := tVal) Tryz.underlying102 el47 rfl rfl (.nil) rfl fun v3 => .move rfl rfl <| .app (T := tVal) 0 rfl rfl rfl Tryz.underlying102 el47 rfl fun v4 => .assign rfl rfl <| .nil ?_
      refine .seq <| .seq <| .region <| .assign rfl rfl <| .nil ?_
      refine .block <| .loop <| .drop (.cons _ <| .slnil) <| .keep [0, 1, 9, 10] [] rfl ?_
      refine (show ∀ (n1 : Nat) (i5 : List Col) (i6 : List Val) (i7 : Int), W _ _ _ _ _ ⟨[(0, (tL tCol).va i5, none), (1, (tL tChange).va a1, none), (9, (tL tVal).va i6, none), (10, isI .i64 i7, none)], []⟩ (f120_l1 fu a1 n1 i5 i6 i7) from ?_) fu _ _ _
      intro n1
      induction n1 with
      | zero => exact fun _ _ _ => .stop
      | succ n1 ih1 =>
        intro i5 i6 i7
        refine .inLoop <| .seq <| .seq <| .region <| .move rfl rfl <| .move rfl rfl <| .lenL rfl Tryz.underlying29 rfl <| .bin rfl rfl rfl rfl <| .nil ?_
        refine .cond rfl (fun _ => ?_) (fun _ => ?_)
        · refine .skip <| .seq <| .block <| .seq <| .region <| .move rfl rfl <| .move rfl rfl <| .move rfl rfl <| .elemAt rfl rfl Tryz.underlying29 ty56 rfl <| .load rfl ty56 rfl <| .move rfl rfl <| .call0 (c141 fu _ _ _) n141 rfl rfl fun q8 => .assign rfl rfl <| .nil ?_
          refine .region <| .move rfl rfl <| .move rfl rfl <| .move rfl rfl <| .elemAt rfl rfl Tryz.underlying29 ty56 rfl <| .load rfl ty56 rfl <| .call0 (c87 fu _ _) n87 rfl rfl fun q9 => .move rfl rfl <| .extract rfl rfl rfl <| .extract rfl rfl rfl <| .assign rfl rfl <| .nil ?_
          refine .inBlock <| .region <| .move rfl rfl <| .bin rfl rfl rfl rfl <| .assign rfl rfl <| .nil ?_
          exact .keep [0, 1, 9, 10] [] rfl (ih1 _ _ _)
        · refine .exit rfl <| .seq <| .region <| .move rfl rfl <| .assign rfl rfl <| .nil ?_
          exact .ret1 Tryz.func111 Tryz.results111 (.tmp rfl) rfl (fun _ _ => .slnil)
  · refine .region <| .move rfl rfl <| .not rfl rfl <| .move rfl rfl <| .split 19 rfl (fun _ => ?_) (fun _ => ?_)
    · refine .off rfl rfl rfl <| .off rfl rfl rfl <| .off rfl rfl rfl <| .off rfl rfl rfl <| .off rfl rfl rfl <| .pickT rfl rfl rfl <| .nil ?_
      exact .keep [0, 1, 2, 25] [] rfl (hj1 _)
    · refine .on rfl rfl <| .move rfl rfl <| .on rfl rfl <| .lenL rfl Tryz.underlying102 rfl <| .on rfl rfl <| .move rfl rfl <| .on rfl rfl <| .lenL rfl Tryz.underlying28 rfl <| .on rfl rfl <| .bin rfl rfl rfl rfl <| .pickF rfl rfl rfl <| .nil ?_
      exact .keep [0, 1, 2, 25] [] rfl (hj1 _)
def f90 (fu : Nat) (a0 : Table) (a1 : Row) : Option (List Val) := (f89 fu a0 a1.ver).bind fun q3 => cond (decide (0 ≤ a1.ver) && decide (a1.ver ≤ (List.length a0.changes : Int)) && decide ((List.length a0.changes : Int) ≤ (List.length a0.changes : Int))) ((f120 fu q3 ((a0.changes.take (List.length a0.changes : Int).toNat).drop a1.ver.toNat) a1.vals).bind fun q4 => some q4) none
theorem n90 : ∃ fn c, Tryz.prog.funcs[84]? = some fn ∧ (fn.name == "runtime.NumGoroutine") = false ∧ fn.body = some c := ⟨_, _, Tryz.func84, by kernel_rfl, rfl⟩
theorem c90 (fu : Nat) (a0 : Table) (a1 : Row) : Ctr Tryz.prog 84 [tTable.va a0, tRow.va a1] [] (f90 fu a0 a1) (fun _ _ => []) (fun q => (tL tVal).va q) := by
  refine Ctr.of_W Tryz.func84 rfl Tryz.ntmps84 rfl fun A w => ?_
  unfold f90
  refine .seq <| .region <| .box (T := tTable) rfl rfl fun b1 => .box (T := tRow) rfl rfl fun b2 => .assignNil tVal rfl <| .nil ?_
  refine .seq <| .pbind fun q3 h1 => ?_
  refine .pT fun h2 => ?_
  refine .draw 11 [] mix (by kernel_rfl) (.cons (fun _ _ _ hP hE h => .loadP 1 (Fld.self _) (hE.op rfl) (hP.get rfl rfl) ty27 rfl <| h) <| .cons (fun _ _ _ hP hE h => .fieldP (hE.op rfl) fa37_1 rfl <| h) <| .cons (fun _ _ _ hP hE h => .loadP 0 fRow_1 (hE.op rfl) (hP.get rfl rfl) ty3 rfl <| h) <| .cons (fun _ _ _ hP hE h => .bindE h1 (fun r h => .call0 (c89 fu _ _) n89 (hE.ops rfl) rfl h) <| h) <| .cons (fun _ _ _ hP hE h => .fieldP (hE.op rfl) fa27_1 rfl <| h) <| .cons (fun _ _ _ hP hE h => .loadP 1 fTable_1 (hE.op rfl) (hP.get rfl rfl) ty24 rfl <| h) <| .cons (fun _ _ _ hP hE h => .fieldP (hE.op rfl) fa37_1 rfl <| h) <| .cons (fun _ _ _ hP hE h => .loadP 0 fRow_1 (hE.op rfl) (hP.get rfl rfl) ty3 rfl <| h) <| .cons (fun _ _ _ hP hE h => .useC h2 <| .cut (hE.op rfl) Tryz.underlying29 el56 ⟨_, (hE.op rfl)⟩ rfl rfl <| h) <| .cons (fun _ _ _ hP hE h => .fieldP (hE.op rfl) fa37_2 rfl <| h) <| .cons (fun _ _ _ hP hE h => .loadP 0 fRow_2 (hE.op rfl) (hP.get rfl rfl) ty32 rfl <| h) <| .nil) rfl <| .call0 (c120 fu _ _ _) n120 rfl rfl fun q4 => .assign rfl rfl <| .nil ?_
  exact .ret1 Tryz.func84 Tryz.results84 (.tmp rfl) rfl (fun _ _ => .cons _ <| .cons _ <| .slnil)
end Go.Proofs.YtejobmamkeoheaaGreatDoor
