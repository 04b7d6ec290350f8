/- Functions of the program: what each answers, and that the machine answers so. -/
import Derived.Test.YtbnklinfjmmlfaaGreatDoorQ5A11
import Derived.KernelRfl
set_option linter.unusedVariables false
set_option linter.unusedSimpArgs false
set_option linter.deprecated false
set_option linter.unusedSectionVars false
set_option linter.all false
namespace Go.Proofs.YtbnklinfjmmlfaaGreatDoor
open Go Go.HL
def f71_l1 (fu : Nat) (a0 : Table) (q5 : (List Col) × Bool) (q8 : Table) (q12 : (List Change)) : Nat → Int → Option (Table × Int)
  | 0, _ => none
  | n1 + 1, i14 => cond (decide (i14 < (List.length q8.rows : Int))) (cond (decide (0 ≤ i14) && decide (i14 < (List.length q8.rows : Int))) ((f49 fu (⟨q8.first, q12, q8.rows, q8.next⟩ : Table) (q8.rows.getD i14.toNat default)).bind fun q16 => (f58 fu q5.1 q16).bind fun q17 => cond (!q17) ((f80 fu a0).bind fun q18 => some (q18, 2)) ((f71_l1 fu a0 q5 q8 q12 n1) (IntKind.i64.wrap (i14 + 1)))) none) (cond (decide ((List.length a0.changes : Int) = 8)) ((f80 fu a0).bind fun q20 => some (q20, 4)) (some ((⟨q8.first, q12, q8.rows, q8.next⟩ : Table), 0)))
def f71 (fu : Nat) (a0 : Table) (a1 : Change) : Option (Table × Int) := (f66 fu a0).bind fun q4 => (f78 fu q4 a1).bind fun q5 => cond (!q5.2) ((f80 fu a0).bind fun q6 => some (q6, 1)) ((f80 fu a0).bind fun q8 => cond (decide (List.length q8.changes + List.length ([a1] : List Change) ≤ CAP)) ((f109 (q8.changes ++ ([a1] : List Change))).bind fun q12 => f71_l1 fu a0 q5 q8 q12 fu 0) none)
theorem n71 : ∃ fn c, Tryz.prog.funcs[71]? = some fn ∧ (fn.name == "runtime.NumGoroutine") = false ∧ fn.body = some c := ⟨_, _, Tryz.func71, by kernel_rfl, rfl⟩
theorem c71 (fu : Nat) (a0 : Table) (a1 : Change) : Ctr Tryz.prog 71 [tTable.va a0, tChange.va a1] [] (f71 fu a0 a1) (fun _ _ => []) (fun q => tup [tTable.va q.1, isI .i64 q.2]) := by
  refine Ctr.of_W Tryz.func71 rfl Tryz.ntmps71 rfl fun A w => ?_
  unfold f71
  refine .seq <| .region <| .box (T := tTable) rfl rfl fun b1 => .box (T := tChange) rfl rfl fun b2 => .alloc tTableA d0A27 [] zA27 rfl fun b3 => .assign rfl rfl <| .nil ?_
  refine .seq <| .pbind fun q4 h1 => ?_
  refine .draw 3 [] mix (by kernel_rfl) (.cons (fun _ _ _ hP hE h => .loadP 2 (Fld.self _) (hE.op rfl) (hP.get rfl rfl) ty27 rfl <| h) <| .cons (fun _ _ _ hP hE h => .bindE h1 (fun r h => .call0 (c66 fu _) n66 (hE.ops rfl) rfl h) <| h) <| .cons (fun _ _ _ hP hE h => .loadP 1 (Fld.self _) (hE.op rfl) (hP.get rfl rfl) ty56 rfl <| h) <| .nil) rfl <| .call0 (c78 fu _ _) n78 rfl rfl fun q5 => .move rfl rfl <| .extract rfl rfl rfl <| .extract rfl rfl rfl <| .assign rfl rfl <| .assign rfl rfl <| .nil ?_
  refine .seq <| .seq <| .region <| .move rfl rfl <| .not rfl rfl <| .nil ?_
  refine .cond rfl (fun _ => ?_) (fun _ => ?_)
  · refine .seq <| .region <| .loadP 2 (Fld.self _) rfl rfl ty27 rfl <| .callL0 (c80 fu _) n80 rfl rfl fun q6 p7 => .storeP 2 (Fld.self _) rfl rfl rfl ty27 <| .assign rfl rfl <| .nil ?_
    exact .frzBox 2 0 conv27 rfl rfl <| .ret2 Tryz.func71 Tryz.results71 (.cell 2 rfl rfl ty27) (.tmp rfl) rfl (fun _ => .cons _ <| .cons _ <| .cons _ <| .cons _ <| .cons _ <| .slnil)
  · refine .skip <| .seq <| .region <| .loadP 2 (Fld.self _) rfl rfl ty27 rfl <| .callL0 (c80 fu _) n80 rfl rfl fun q8 p9 => .alloc tTableA d0A27 [] zA27 rfl fun b10 => .storeP 0 (Fld.self _) rfl rfl rfl ty27 <| .nil ?_
    refine .seq <| .region <| .fieldP rfl fa27_1 rfl <| .loadKV 0 fTableA_1 rfl rfl ty24 rfl <| .loadP 4 (Fld.self _) rfl rfl ty56 rfl <| .litN (T := tChange) Tryz.underlying24 el56 rfl rfl (.cons rfl <| .nil) rfl <| .app (T := tChange) 2 rfl rfl rfl Tryz.underlying24 el56 rfl fun v11 => .call0 (CtrL.plain (c109 _)) n109 rfl rfl fun q12 => .fieldP rfl fa27_1 rfl <| .name 29 rfl fun v13 => .toK 29 rfl <| .storeP 0 fTableA_1 rfl rfl rfl ty24 <| .nil ?_
    refine .seq <| .seq <| .region <| .fieldP rfl fa27_2 rfl <| .loadR 0 fTableA_2 rfl rfl ty25 rfl <| .know 32 rfl <| .lenA 1 rfl rfl Tryz.underlying25 rfl <| .move rfl rfl <| .nil ?_
    refine .block <| .frz 1 32 rfl rfl <| .boxFrom 0 32 conv27 rfl rfl <| .loop <| .drop (.cons_cons _ <| .cons_cons _ <| .cons _ <| .cons_cons _ <| .cons _ <| .cons_cons _ <| .slnil) <| .keep [2, 4, 6, 8, 33, 34] [32] rfl ?_
    refine (show ∀ (n1 : Nat) (i14 : Int), W _ _ _ _ _ ⟨[(2, isP b1 0, none), (4, isP b3 0, none), (6, (tL tCol).va q5.1, none), (8, isP b10 0, none), (33, isI .i64 (List.length q8.rows : Int), none), (34, isI .i64 i14, none), (32, (tL tRow).va q8.rows, some p9.1)], [boxO b10 tTable (⟨q8.first, q12, q8.rows, q8.next⟩ : Table) [], appO 3 p9.1, boxO b3 tTableA (⟨([] : List Col), ((.slice none 0 0), ([] : List Change)), (.slice none 0 0), (0 : Int)⟩ : TableA) [], boxO b1 tTable a0 []]⟩ (f71_l1 fu a0 q5 q8 q12 n1 i14) from ?_) fu _
    intro n1
    induction n1 with
    | zero => exact fun _ => .stop
    | succ n1 ih1 =>
      intro i14
      refine .inLoop <| .seq <| .region <| .bin rfl rfl rfl rfl <| .nil ?_
      refine .seq <| .cond rfl (fun _ => ?_) (fun _ => ?_)
      · refine .skip <| .seq <| .block <| .seq <| .region <| .elemAt rfl rfl Tryz.underlying25 ty37 rfl <| .load rfl ty37 rfl <| .alloc tRow d0_37 [] z37 rfl fun b15 => .storeP 0 (Fld.self _) rfl rfl rfl ty37 <| .nil ?_
        refine .seq <| .region <| .move rfl rfl <| .loadP 1 (Fld.self _) rfl rfl ty27 rfl <| .loadP 0 (Fld.self _) rfl rfl ty37 rfl <| .call0 (CtrL.plain (c49 fu _ _)) n49 rfl rfl fun q16 => .call0 (c58 fu _ _) n58 rfl rfl fun q17 => .not rfl rfl <| .nil ?_
        refine .cond rfl (fun _ => ?_) (fun _ => ?_)
        · refine .seq <| .region <| .loadP 4 (Fld.self _) rfl rfl ty27 rfl <| .callL0 (c80 fu _) n80 rfl rfl fun q18 p19 => .storeP 5 (Fld.self _) rfl rfl rfl ty27 <| .assign rfl rfl <| .nil ?_
          exact .frzBox 5 0 conv27 rfl rfl <| .ret2 Tryz.func71 Tryz.results71 (.cell 5 rfl rfl ty27) (.tmp rfl) rfl (fun _ => .cons _ <| .cons _ <| .cons _ <| .cons _ <| .cons _ <| .cons _ <| .cons _ <| .slnil)
        · refine .skip <| .inBlock <| .region <| .bin rfl rfl rfl rfl <| .move rfl rfl <| .nil ?_
          exact .keep [2, 4, 6, 8, 33, 34] [32] rfl (.drop (.cons _ <| .cons_cons _ <| .cons_cons _ <| .cons_cons _ <| .cons_cons _ <| .slnil) <| ih1 _)
      · refine .exit rfl <| .seq <| .seq <| .region <| .fieldP rfl fa27_1 rfl <| .loadP 3 fTable_1 rfl rfl ty24 rfl <| .lenL rfl Tryz.underlying24 rfl <| .bin rfl rfl rfl rfl <| .nil ?_
        refine .cond rfl (fun _ => ?_) (fun _ => ?_)
        · refine .seq <| .region <| .loadP 3 (Fld.self _) rfl rfl ty27 rfl <| .callL0 (c80 fu _) n80 rfl rfl fun q20 p21 => .storeP 4 (Fld.self _) rfl rfl rfl ty27 <| .assign rfl rfl <| .nil ?_
          exact .frzBox 4 0 conv27 rfl rfl <| .ret2 Tryz.func71 Tryz.results71 (.cell 4 rfl rfl ty27) (.tmp rfl) rfl (fun _ => .cons _ <| .cons _ <| .cons _ <| .cons _ <| .cons _ <| .cons _ <| .slnil)
        · refine .skip <| .seq <| .region <| .loadP 0 (Fld.self _) rfl rfl ty27 rfl <| .storeW 2 rfl rfl rfl rfl ty27 <| .assign rfl rfl <| .nil ?_
          exact .ret2 Tryz.func71 Tryz.results71 (.cell 2 rfl rfl ty27) (.tmp rfl) rfl (fun _ => .cons _ <| .cons _ <| .cons _ <| .cons _ <| .slnil)
def f28 (fu : Nat) (a0 : Table) (a1 : Change) : Option (Table × Int) := (f19 fu a0).bind fun q4 => cond (!q4) (some ((⟨d0_27.first, d0_27.changes, d0_27.rows, d0_27.next⟩ : Table), 1)) ((f71 fu a0 a1).bind fun q5 => some (q5.1, q5.2))
theorem n28 : ∃ fn c, Tryz.prog.funcs[28]? = some fn ∧ (fn.name == "runtime.NumGoroutine") = false ∧ fn.body = some c := ⟨_, _, Tryz.func28, by kernel_rfl, rfl⟩
theorem c28 (fu : Nat) (a0 : Table) (a1 : Change) : Ctr Tryz.prog 28 [tTable.va a0, tChange.va a1] [] (f28 fu a0 a1) (fun _ _ => []) (fun q => tup [tTable.va q.1, isI .i64 q.2]) := by
  refine Ctr.of_W Tryz.func28 rfl Tryz.ntmps28 rfl fun A w => ?_
  unfold f28
  refine .seq <| .region <| .box (T := tTable) rfl rfl fun b1 => .box (T := tChange) rfl rfl fun b2 => .alloc tTable d0_27 [] z27 rfl fun b3 => .assign rfl rfl <| .nil ?_
  refine .seq <| .seq <| .region <| .loadP 2 (Fld.self _) rfl rfl ty27 rfl <| .call0 (c19 fu _) n19 rfl rfl fun q4 => .not rfl rfl <| .nil ?_
  refine .cond rfl (fun _ => ?_) (fun _ => ?_)
  · refine .seq <| .region <| .build rfl st27 z27 (.nil) rfl <| .storeP 0 (Fld.self _) rfl rfl rfl ty27 <| .assign rfl rfl <| .nil ?_
    exact .ret2 Tryz.func28 Tryz.results28 (.cell 0 rfl rfl ty27) (.tmp rfl) rfl (fun _ => .cons _ <| .cons _ <| .cons _ <| .slnil)
  · refine .skip <| .seq <| .region <| .loadP 2 (Fld.self _) rfl rfl ty27 rfl <| .loadP 1 (Fld.self _) rfl rfl ty56 rfl <| .call0 (c71 fu _ _) n71 rfl rfl fun q5 => .extract rfl rfl rfl <| .extract rfl rfl rfl <| .storeP 0 (Fld.self _) rfl rfl rfl ty27 <| .assign rfl rfl <| .nil ?_
    exact .ret2 Tryz.func28 Tryz.results28 (.cell 0 rfl rfl ty27) (.tmp rfl) rfl (fun _ => .cons _ <| .cons _ <| .cons _ <| .slnil)
def f29 (fu : Nat) (a0 : Table) (a1 : Change) : Option (Table × Int) := (f17 fu a0).bind fun q4 => cond (!q4) (some ((⟨d0_27.first, d0_27.changes, d0_27.rows, d0_27.next⟩ : Table), 1)) ((f42 fu a0).bind fun q5 => (f72 fu q5 a1).bind fun q7 => some (q7.1, q7.2))
theorem n29 : ∃ fn c, Tryz.prog.funcs[29]? = some fn ∧ (fn.name == "runtime.NumGoroutine") = false ∧ fn.body = some c := ⟨_, _, Tryz.func29, by kernel_rfl, rfl⟩
theorem c29 (fu : Nat) (a0 : Table) (a1 : Change) : Ctr Tryz.prog 29 [tTable.va a0, tChange.va a1] [] (f29 fu a0 a1) (fun _ _ => []) (fun q => tup [tTable.va q.1, isI .i64 q.2]) := by
  refine Ctr.of_W Tryz.func29 rfl Tryz.ntmps29 rfl fun A w => ?_
  unfold f29
  refine .seq <| .region <| .box (T := tTable) rfl rfl fun b1 => .box (T := tChange) rfl rfl fun b2 => .alloc tTable d0_27 [] z27 rfl fun b3 => .assign rfl rfl <| .nil ?_
  refine .seq <| .seq <| .region <| .loadP 2 (Fld.self _) rfl rfl ty27 rfl <| .call0 (c17 fu _) n17 rfl rfl fun q4 => .not rfl rfl <| .nil ?_
  refine .cond rfl (fun _ => ?_) (fun _ => ?_)
  · refine .seq <| .region <| .build rfl st27 z27 (.nil) rfl <| .storeP 0 (Fld.self _) rfl rfl rfl ty27 <| .assign rfl rfl <| .nil ?_
    exact .ret2 Tryz.func29 Tryz.results29 (.cell 0 rfl rfl ty27) (.tmp rfl) rfl (fun _ => .cons _ <| .cons _ <| .cons _ <| .slnil)
  · refine .skip <| .seq <| .pbind fun q5 h1 => ?_
    refine .drawS 3 [] [1] [] mix (by kernel_rfl) (.cons (fun _ _ _ hP hE h => .loadP 2 (Fld.self _) (hE.op rfl) (hP.get rfl rfl) ty27 rfl <| h) <| .skip <| .cons (fun _ _ _ hP hE h => .loadP 1 (Fld.self _) (hE.op rfl) (hP.get rfl rfl) ty56 rfl <| h) <| .nil) rfl <| .cons (d := 11) rfl rfl fun _ _ hE h => .bindE2 h1 (fun r h => .callL0 (c42 fu _) n42 (hE.ops rfl) rfl h) fun p6 => .toEnd <| .toEnd <| h _ _ (.same <| .same <| .same <| .nil) <| .nil <| .callS 3 (c72 fu _ _ _ _) rfl n72 rfl rfl fun q7 p8 => .extract rfl rfl rfl <| .extract rfl rfl rfl <| .frzT 14 3 conv27 rfl rfl <| .storeP 0 (Fld.self _) rfl rfl rfl ty27 <| .assign rfl rfl <| .nil ?_
    exact .ret2 Tryz.func29 Tryz.results29 (.cell 0 rfl rfl ty27) (.tmp rfl) rfl (fun _ => .cons _ <| .cons _ <| .cons _ <| .cons _ <| .cons _ <| .slnil)
def f37 (fu : Nat) (a0 : List Col) (a1 : List Col) : Option Bool := (f43 fu a0 a1).bind fun q1 => some q1
theorem n37 : ∃ fn c, Tryz.prog.funcs[37]? = some fn ∧ (fn.name == "runtime.NumGoroutine") = false ∧ fn.body = some c := ⟨_, _, Tryz.func37, by kernel_rfl, rfl⟩
theorem c37 (fu : Nat) (a0 : List Col) (a1 : List Col) : Ctr Tryz.prog 37 [(tL tCol).va a0, (tL tCol).va a1] [] (f37 fu a0 a1) (fun _ _ => []) (fun q => isB q) := by
  refine Ctr.of_W Tryz.func37 rfl Tryz.ntmps37 rfl fun A w => ?_
  unfold f37
  refine .seq <| .region <| .assign rfl rfl <| .nil ?_
  refine .seq <| .region <| .move rfl rfl <| .move rfl rfl <| .call0 (c43 fu _ _) n43 rfl rfl fun q1 => .assign rfl rfl <| .nil ?_
  exact .ret1 Tryz.func37 Tryz.results37 (.tmp rfl) rfl (fun _ _ => .slnil)
def f30_j3 (i4 : Int) (rec1 : Int → Option Bool) (i7 : Bool) : Option Bool := cond i7 (some false) (rec1 (IntKind.i64.wrap (i4 + 1)))
def f30_l1 (fu : Nat) (a0 : Table) (a1 : Table) : Nat → Int → Option Bool
  | 0, _ => none
  | n1 + 1, i4 => cond (decide (i4 < (List.length a0.rows : Int))) (cond (decide (0 ≤ i4) && decide (i4 < (List.length a0.rows : Int))) ((f16 fu a0 ((a0.rows.getD i4.toNat default).id)).bind fun q5 => cond (decide (0 ≤ i4) && decide (i4 < (List.length a0.rows : Int))) ((f16 fu a1 ((a0.rows.getD i4.toNat default).id)).bind fun q6 => cond (!q5.2) (f30_j3 i4 (f30_l1 fu a0 a1 n1) true) (cond (!q6.2) (f30_j3 i4 (f30_l1 fu a0 a1 n1) true) ((f18 fu q5.1 q6.1).bind fun q8 => f30_j3 i4 (f30_l1 fu a0 a1 n1) (!q8)))) none) none) (some true)
def f30_j1 (fu : Nat) (a0 : Table) (a1 : Table) (i3 : Bool) : Option Bool := cond i3 (some false) (f30_l1 fu a0 a1 fu 0)
def f30 (fu : Nat) (a0 : Table) (a1 : Table) : Option Bool := (f23 fu a0).bind fun q9 => (f23 fu a1).bind fun q10 => (f37 fu q9 q10).bind fun q11 => cond (!q11) (f30_j1 fu a0 a1 true) (cond (!decide ((List.length a0.rows : Int) = (List.length a1.rows : Int))) (f30_j1 fu a0 a1 true) (f30_j1 fu a0 a1 (!decide (a0.next = a1.next))))
theorem n30 : ∃ fn c, Tryz.prog.funcs[30]? = some fn ∧ (fn.name == "runtime.NumGoroutine") = false ∧ fn.body = some c := ⟨_, _, Tryz.func30, by kernel_rfl, rfl⟩
theorem c30 (fu : Nat) (a0 : Table) (a1 : Table) : Ctr Tryz.prog 30 [tTable.va a0, tTable.va a1] [] (f30 fu a0 a1) (fun _ _ => []) (fun q => isB q) := by
  refine Ctr.of_W Tryz.func30 rfl Tryz.ntmps30 rfl fun A w => ?_
  unfold f30
  refine .seq <| .region <| .box (T := tTable) rfl rfl fun b1 => .box (T := tTable) rfl rfl fun b2 => .assign rfl rfl <| .nil ?_
  refine .seq <| .seq <| .join1 (fun i3 => ⟨[(2, isP b1 0, none), (3, isP b2 0, none), (31, isB i3, none)], [boxO b2 tTable a1 [], boxO b1 tTable a0 []]⟩) (fun i3 => f30_j1 fu a0 a1 i3) (fun i3 => ?_) (fun hj1 => ?_)
  · refine .cond rfl (fun _ => ?_) (fun _ => ?_)
    · refine .seq <| .region <| .assign rfl rfl <| .nil ?_
      exact .ret1 Tryz.func30 Tryz.results30 (.tmp rfl) rfl (fun _ _ => .cons _ <| .cons _ <| .slnil)
    · refine .skip <| .seq <| .seq <| .region <| .assign rfl rfl <| .nil ?_
      refine .block <| .loop <| .keep [2, 3, 5] [] rfl ?_
      refine (show ∀ (n1 : Nat) (i4 : Int), W _ _ _ _ _ ⟨[(2, isP b1 0, none), (3, isP b2 0, none), (5, isI .i64 i4, none)], [boxO b2 tTable a1 [], boxO b1 tTable a0 []]⟩ (f30_l1 fu a0 a1 n1 i4) from ?_) fu _
      intro n1
      induction n1 with
      | zero => exact fun _ => .stop
      | succ n1 ih1 =>
        intro i4
        refine .inLoop <| .seq <| .seq <| .region <| .move rfl rfl <| .fieldP rfl fa27_2 rfl <| .loadP 1 fTable_2 rfl rfl ty25 rfl <| .lenL rfl Tryz.underlying25 rfl <| .bin rfl rfl rfl rfl <| .nil ?_
        refine .cond rfl (fun _ => ?_) (fun _ => ?_)
        · refine .skip <| .seq <| .block <| .seq <| .pT fun h3 => ?_
          refine .draw 7 [] mix (by kernel_rfl) (.cons (fun _ _ _ hP hE h => .loadP 1 (Fld.self _) (hE.op rfl) (hP.get rfl rfl) ty27 rfl <| h) <| .cons (fun _ _ _ hP hE h => .fieldP (hE.op rfl) fa27_2 rfl <| h) <| .cons (fun _ _ _ hP hE h => .loadP 1 fTable_2 (hE.op rfl) (hP.get rfl rfl) ty25 rfl <| h) <| .cons (fun _ _ _ hP hE h => .move (hE.op rfl) rfl <| h) <| .cons (fun _ _ _ hP hE h => .useC h3 <| .elemAt (hE.op rfl) (hE.op rfl) Tryz.underlying25 ty37 rfl <| h) <| .cons (fun _ _ _ hP hE h => .fieldAt fRow_0 (hE.op rfl) fa37_0 rfl <| h) <| .cons (fun _ _ _ hP hE h => .load (hE.op rfl) ty3 rfl <| h) <| .nil) rfl <| .call0 (c16 fu _ _) n16 rfl rfl fun q5 => .move rfl rfl <| .extract rfl rfl rfl <| .extract rfl rfl rfl <| .assign rfl rfl <| .assign rfl rfl <| .nil ?_
          refine .seq <| .pT fun h4 => ?_
          refine .draw 7 [] mix (by kernel_rfl) (.cons (fun _ _ _ hP hE h => .loadP 0 (Fld.self _) (hE.op rfl) (hP.get rfl rfl) ty27 rfl <| h) <| .cons (fun _ _ _ hP hE h => .fieldP (hE.op rfl) fa27_2 rfl <| h) <| .cons (fun _ _ _ hP hE h => .loadP 1 fTable_2 (hE.op rfl) (hP.get rfl rfl) ty25 rfl <| h) <| .cons (fun _ _ _ hP hE h => .move (hE.op rfl) rfl <| h) <| .cons (fun _ _ _ hP hE h => .useC h4 <| .elemAt (hE.op rfl) (hE.op rfl) Tryz.underlying25 ty37 rfl <| h) <| .cons (fun _ _ _ hP hE h => .fieldAt fRow_0 (hE.op rfl) fa37_0 rfl <| h) <| .cons (fun _ _ _ hP hE h => .load (hE.op rfl) ty3 rfl <| h) <| .nil) rfl <| .call0 (c16 fu _ _) n16 rfl rfl fun q6 => .move rfl rfl <| .extract rfl rfl rfl <| .extract rfl rfl rfl <| .assign rfl rfl <| .assign rfl rfl <| .nil ?_
          refine .seq <| .join1 (fun i7 => ⟨[(2, isP b1 0, none), (3, isP b2 0, none), (5, isI .i64 i4, none), (72, isB i7, none)], [boxO b2 tTable a1 [], boxO b1 tTable a0 []]⟩) (fun i7 => f30_j3 i4 (f30_l1 fu a0 a1 n1) i7) (fun i7 => ?_) (fun hj3 => ?_)
          · refine .cond rfl (fun _ => ?_) (fun _ => ?_)
            · refine .seq <| .region <| .assign rfl rfl <| .nil ?_
              exact .ret1 Tryz.func30 Tryz.results30 (.tmp rfl) rfl (fun _ _ => .cons _ <| .cons _ <| .slnil)
            · refine .skip <| .inBlock <| .region <| .move rfl rfl <| .bin rfl rfl rfl rfl <| .assign rfl rfl <| .nil ?_
              exact .keep [2, 3, 5] [] rfl (ih1 _)
          · refine .region <| .move rfl rfl <| .not rfl rfl <| .move rfl rfl <| .split 63 rfl (fun _ => ?_) (fun _ => ?_)
            · refine .off rfl rfl rfl <| .off rfl rfl rfl <| .pickT rfl rfl rfl <| .move rfl rfl <| .off rfl rfl rfl <| .off rfl rfl rfl <| .off rfl rfl rfl <| .off rfl rfl rfl <| .pickT rfl rfl rfl <| .nil ?_
              exact .keep [2, 3, 5, 72] [] rfl (hj3 _)
            · refine .on rfl rfl <| .move rfl rfl <| .on rfl rfl <| .not rfl rfl <| .pickF rfl rfl rfl <| .move rfl rfl <| .split 67 rfl (fun _ => ?_) (fun _ => ?_)
              · refine .off rfl rfl rfl <| .off rfl rfl rfl <| .off rfl rfl rfl <| .off rfl rfl rfl <| .pickT rfl rfl rfl <| .nil ?_
                exact .keep [2, 3, 5, 72] [] rfl (hj3 _)
              · refine .on rfl rfl <| .move rfl rfl <| .on rfl rfl <| .move rfl rfl <| .on rfl rfl <| .call0 (c18 fu _ _) n18 rfl rfl fun q8 => .on rfl rfl <| .not rfl rfl <| .pickF rfl rfl rfl <| .nil ?_
                exact .keep [2, 3, 5, 72] [] rfl (hj3 _)
        · refine .exit rfl <| .seq <| .region <| .assign rfl rfl <| .nil ?_
          exact .ret1 Tryz.func30 Tryz.results30 (.tmp rfl) rfl (fun _ _ => .cons _ <| .cons _ <| .slnil)
  · refine .pbind fun q9 h5 => ?_
    refine .pbind fun q10 h6 => ?_
    refine .pbind fun q11 h7 => ?_
    refine .pcond (fun h8 => ?_) (fun h8 => ?_)
    · refine .draw 20 [] mix (by kernel_rfl) (.cons (fun _ _ _ hP hE h => .loadP 1 (Fld.self _) (hE.op rfl) (hP.get rfl rfl) ty27 rfl <| h) <| .cons (fun _ _ _ hP hE h => .bindE h5 (fun r h => .call0 (c23 fu _) n23 (hE.ops rfl) rfl h) <| h) <| .cons (fun _ _ _ hP hE h => .loadP 0 (Fld.self _) (hE.op rfl) (hP.get rfl rfl) ty27 rfl <| h) <| .cons (fun _ _ _ hP hE h => .bindE h6 (fun r h => .call0 (c23 fu _) n23 (hE.ops rfl) rfl h) <| h) <| .cons (fun _ _ _ hP hE h => .bindE h7 (fun r h => .call0 (c37 fu _ _) n37 (hE.ops rfl) rfl h) <| h) <| .cons (fun _ _ _ hP hE h => .not (hE.op rfl) rfl <| h) <| .cons (fun _ _ _ hP hE h => .move (hE.op rfl) rfl <| .noV <| .useEq h8 h) <| .cons (fun _ _ _ hP hE h => .off rfl (hE _ _ rfl) rfl <| h) <| .cons (fun _ _ _ hP hE h => .off rfl (hE _ _ rfl) rfl <| h) <| .cons (fun _ _ _ hP hE h => .off rfl (hE _ _ rfl) rfl <| h) <| .cons (fun _ _ _ hP hE h => .off rfl (hE _ _ rfl) rfl <| h) <| .cons (fun _ _ _ hP hE h => .off rfl (hE _ _ rfl) rfl <| h) <| .cons (fun _ _ _ hP hE h => .off rfl (hE _ _ rfl) rfl <| h) <| .cons (fun _ _ _ hP hE h => .off rfl (hE _ _ rfl) rfl <| h) <| .cons (fun _ _ _ hP hE h => .pickT (hE.op rfl) (hE.op rfl) rfl <| h) <| .cons (fun _ _ _ hP hE h => .move (hE.op rfl) rfl <| h) <| .cons (fun _ _ _ hP hE h => .off rfl (hE _ _ rfl) rfl <| h) <| .cons (fun _ _ _ hP hE h => .off rfl (hE _ _ rfl) rfl <| h) <| .cons (fun _ _ _ hP hE h => .off rfl (hE _ _ rfl) rfl <| h) <| .cons (fun _ _ _ hP hE h => .off rfl (hE _ _ rfl) rfl <| h) <| .nil) rfl <| .off rfl rfl rfl <| .pickT rfl rfl rfl <| .nil ?_
      exact .keep [2, 3, 31] [] rfl (hj1 _)
    · refine .pcond (fun h9 => ?_) (fun h9 => ?_)
      · refine .draw 20 [] mix (by kernel_rfl) (.cons (fun _ _ _ hP hE h => .loadP 1 (Fld.self _) (hE.op rfl) (hP.get rfl rfl) ty27 rfl <| h) <| .cons (fun _ _ _ hP hE h => .bindE h5 (fun r h => .call0 (c23 fu _) n23 (hE.ops rfl) rfl h) <| h) <| .cons (fun _ _ _ hP hE h => .loadP 0 (Fld.self _) (hE.op rfl) (hP.get rfl rfl) ty27 rfl <| h) <| .cons (fun _ _ _ hP hE h => .bindE h6 (fun r h => .call0 (c23 fu _) n23 (hE.ops rfl) rfl h) <| h) <| .cons (fun _ _ _ hP hE h => .bindE h7 (fun r h => .call0 (c37 fu _ _) n37 (hE.ops rfl) rfl h) <| h) <| .cons (fun _ _ _ hP hE h => .not (hE.op rfl) rfl <| h) <| .cons (fun _ _ _ hP hE h => .move (hE.op rfl) rfl <| .noV <| .useEq h8 h) <| .cons (fun _ _ _ hP hE h => .on rfl (hE _ _ rfl) <| .fieldP (hE.op rfl) fa27_2 rfl <| h) <| .cons (fun _ _ _ hP hE h => .on rfl (hE _ _ rfl) <| .loadP 1 fTable_2 (hE.op rfl) (hP.get rfl rfl) ty25 rfl <| h) <| .cons (fun _ _ _ hP hE h => .on rfl (hE _ _ rfl) <| .lenL (hE.op rfl) Tryz.underlying25 rfl <| h) <| .cons (fun _ _ _ hP hE h => .on rfl (hE _ _ rfl) <| .fieldP (hE.op rfl) fa27_2 rfl <| h) <| .cons (fun _ _ _ hP hE h => .on rfl (hE _ _ rfl) <| .loadP 0 fTable_2 (hE.op rfl) (hP.get rfl rfl) ty25 rfl <| h) <| .cons (fun _ _ _ hP hE h => .on rfl (hE _ _ rfl) <| .lenL (hE.op rfl) Tryz.underlying25 rfl <| h) <| .cons (fun _ _ _ hP hE h => .on rfl (hE _ _ rfl) <| .bin rfl (hE.op rfl) (hE.op rfl) rfl <| h) <| .cons (fun _ _ _ hP hE h => .pickF (hE.op rfl) (hE.op rfl) rfl <| h) <| .cons (fun _ _ _ hP hE h => .move (hE.op rfl) rfl <| .noV <| .useEq h9 h) <| .cons (fun _ _ _ hP hE h => .off rfl (hE _ _ rfl) rfl <| h) <| .cons (fun _ _ _ hP hE h => .off rfl (hE _ _ rfl) rfl <| h) <| .cons (fun _ _ _ hP hE h => .off rfl (hE _ _ rfl) rfl <| h) <| .cons (fun _ _ _ hP hE h => .off rfl (hE _ _ rfl) rfl <| h) <| .nil) rfl <| .off rfl rfl rfl <| .pickT rfl rfl rfl <| .nil ?_
        exact .keep [2, 3, 31] [] rfl (hj1 _)
      · refine .draw 20 [] mix (by kernel_rfl) (.cons (fun _ _ _ hP hE h => .loadP 1 (Fld.self _) (hE.op rfl) (hP.get rfl rfl) ty27 rfl <| h) <| .cons (fun _ _ _ hP hE h => .bindE h5 (fun r h => .call0 (c23 fu _) n23 (hE.ops rfl) rfl h) <| h) <| .cons (fun _ _ _ hP hE h => .loadP 0 (Fld.self _) (hE.op rfl) (hP.get rfl rfl) ty27 rfl <| h) <| .cons (fun _ _ _ hP hE h => .bindE h6 (fun r h => .call0 (c23 fu _) n23 (hE.ops rfl) rfl h) <| h) <| .cons (fun _ _ _ hP hE h => .bindE h7 (fun r h => .call0 (c37 fu _ _) n37 (hE.ops rfl) rfl h) <| h) <| .cons (fun _ _ _ hP hE h => .not (hE.op rfl) rfl <| h) <| .cons (fun _ _ _ hP hE h => .move (hE.op rfl) rfl <| .noV <| .useEq h8 h) <| .cons (fun _ _ _ hP hE h => .on rfl (hE _ _ rfl) <| .fieldP (hE.op rfl) fa27_2 rfl <| h) <| .cons (fun _ _ _ hP hE h => .on rfl (hE _ _ rfl) <| .loadP 1 fTable_2 (hE.op rfl) (hP.get rfl rfl) ty25 rfl <| h) <| .cons (fun _ _ _ hP hE h => .on rfl (hE _ _ rfl) <| .lenL (hE.op rfl) Tryz.underlying25 rfl <| h) <| .cons (fun _ _ _ hP hE h => .on rfl (hE _ _ rfl) <| .fieldP (hE.op rfl) fa27_2 rfl <| h) <| .cons (fun _ _ _ hP hE h => .on rfl (hE _ _ rfl) <| .loadP 0 fTable_2 (hE.op rfl) (hP.get rfl rfl) ty25 rfl <| h) <| .cons (fun _ _ _ hP hE h => .on rfl (hE _ _ rfl) <| .lenL (hE.op rfl) Tryz.underlying25 rfl <| h) <| .cons (fun _ _ _ hP hE h => .on rfl (hE _ _ rfl) <| .bin rfl (hE.op rfl) (hE.op rfl) rfl <| h) <| .cons (fun _ _ _ hP hE h => .pickF (hE.op rfl) (hE.op rfl) rfl <| h) <| .cons (fun _ _ _ hP hE h => .move (hE.op rfl) rfl <| .noV <| .useEq h9 h) <| .cons (fun _ _ _ hP hE h => .on rfl (hE _ _ rfl) <| .fieldP (hE.op rfl) fa27_3 rfl <| h) <| .cons (fun _ _ _ hP hE h => .on rfl (hE _ _ rfl) <| .loadP 1 fTable_3 (hE.op rfl) (hP.get rfl rfl) ty3 rfl <| h) <| .cons (fun _ _ _ hP hE h => .on rfl (hE _ _ rfl) <| .fieldP (hE.op rfl) fa27_3 rfl <| h) <| .cons (fun _ _ _ hP hE h => .on rfl (hE _ _ rfl) <| .loadP 0 fTable_3 (hE.op rfl) (hP.get rfl rfl) ty3 rfl <| h) <| .nil) rfl <| .on rfl rfl <| .bin rfl rfl rfl rfl <| .pickF rfl rfl rfl <| .nil ?_
        exact .keep [2, 3, 31] [] rfl (hj1 _)
def f5_j3 (i10 : Int) (rec1 : Int → Option Bool) (i14 : Bool) : Option Bool := cond i14 (some false) (rec1 (IntKind.i64.wrap (i10 + 1)))
def f5_l1 (fu : Nat) (q1 : Table × Change) (q4 : (List Col)) : Nat → Int → Option Bool
  | 0, _ => none
  | n1 + 1, i10 => cond (decide (i10 < (List.length q4 : Int))) (cond (decide (0 ≤ i10) && decide (i10 < (List.length q4 : Int))) (cond (!decide (((q4.getD i10.toNat default).kind) = 1)) ((f5_l1 fu q1 q4 n1) (IntKind.i64.wrap (i10 + 1))) (cond (decide (0 ≤ i10) && decide (i10 < (List.length q4 : Int))) ((f28 fu q1.1 (⟨4, (q4.getD i10.toNat default).name, d0_56.new, (⟨d0_52.name, 2, d0_52.need, d0_52.once, d0_52.def_⟩ : Col)⟩ : Change)).bind fun q11 => cond (decide (0 ≤ i10) && decide (i10 < (List.length q4 : Int))) ((f28 fu q11.1 (⟨4, (q4.getD i10.toNat default).name, d0_56.new, (⟨d0_52.name, 1, d0_52.need, d0_52.once, d0_52.def_⟩ : Col)⟩ : Change)).bind fun q13 => cond (!decide (q11.2 = 0)) (f5_j3 i10 (f5_l1 fu q1 q4 n1) true) (cond (!decide (q13.2 = 0)) (f5_j3 i10 (f5_l1 fu q1 q4 n1) true) ((f30 fu q13.1 q1.1).bind fun q15 => f5_j3 i10 (f5_l1 fu q1 q4 n1) (!q15)))) none) none)) none) (some true)
def f5_j1 (fu : Nat) (q1 : Table × Change) (q4 : (List Col)) (q5 : Table × Int) (q7 : Table × Int) (i9 : Bool) : Option Bool := cond i9 (some (decide (q5.2 = q7.2))) (f5_l1 fu q1 q4 fu 0)
def f5 (fu : Nat) (a0 : List Int) : Option Bool := cond (decide (1048576 < (List.length a0 : Int))) (some true) ((f27 fu a0).bind fun q1 => (f23 fu q1.1).bind fun q4 => (f28 fu q1.1 q1.2).bind fun q5 => (f29 fu q1.1 q1.2).bind fun q7 => cond (!decide (q5.2 = q7.2)) (f5_j1 fu q1 q4 q5 q7 true) ((f17 fu q1.1).bind fun q16 => cond (!q16) (f5_j1 fu q1 q4 q5 q7 true) (f5_j1 fu q1 q4 q5 q7 (decide (6 < (List.length q1.1.changes : Int))))))
theorem c5 (fu : Nat) (a0 : List Int) : Ctr Tryz.prog 5 [(tL (tI .u8)).va a0] [] (f5 fu a0) (fun _ _ => []) (fun q => isB q) := by
  refine Ctr.of_W Tryz.func5 rfl Tryz.ntmps5 rfl fun A w => ?_
  unfold f5
  refine .seq <| .region <| .assign rfl rfl <| .nil ?_
  refine .seq <| .seq <| .region <| .move rfl rfl <| .lenL rfl Tryz.underlying22 rfl <| .bin rfl rfl rfl rfl <| .nil ?_
  refine .cond rfl (fun _ => ?_) (fun _ => ?_)
  · refine .seq <| .region <| .assign rfl rfl <| .nil ?_
    exact .ret1 Tryz.func5 Tryz.results5 (.tmp rfl) rfl (fun _ _ => .slnil)
  · refine .skip <| .seq <| .region <| .move rfl rfl <| .call0 (c27 fu _) n27 rfl rfl fun q1 => .move rfl rfl <| .extract rfl rfl rfl <| .extract rfl rfl rfl <| .alloc tTable d0_27 [] z27 rfl fun b2 => .alloc tChange d0_56 [] z56 rfl fun b3 => .storeP 1 (Fld.self _) rfl rfl rfl ty27 <| .storeP 0 (Fld.self _) rfl rfl rfl ty56 <| .nil ?_
    refine .seq <| .region <| .loadP 1 (Fld.self _) rfl rfl ty27 rfl <| .call0 (c23 fu _) n23 rfl rfl fun q4 => .assign rfl rfl <| .nil ?_
    refine .seq <| .region <| .loadP 1 (Fld.self _) rfl rfl ty27 rfl <| .loadP 0 (Fld.self _) rfl rfl ty56 rfl <| .call0 (c28 fu _ _) n28 rfl rfl fun q5 => .move rfl rfl <| .extract rfl rfl rfl <| .extract rfl rfl rfl <| .alloc tTable d0_27 [] z27 rfl fun b6 => .storeP 0 (Fld.self _) rfl rfl rfl ty27 <| .assign rfl rfl <| .nil ?_
    refine .seq <| .region <| .loadP 2 (Fld.self _) rfl rfl ty27 rfl <| .loadP 1 (Fld.self _) rfl rfl ty56 rfl <| .call0 (c29 fu _ _) n29 rfl rfl fun q7 => .move rfl rfl <| .extract rfl rfl rfl <| .extract rfl rfl rfl <| .alloc tTable d0_27 [] z27 rfl fun b8 => .storeP 0 (Fld.self _) rfl rfl rfl ty27 <| .assign rfl rfl <| .nil ?_
    refine .seq <| .seq <| .join1 (fun i9 => ⟨[(3, isP b2 0, none), (5, (tL tCol).va q4, none), (7, isI .i64 q5.2, none), (9, isI .i64 q7.2, none), (49, isB i9, none)], [boxO b2 tTable q1.1 []]⟩) (fun i9 => f5_j1 fu q1 q4 q5 q7 i9) (fun i9 => ?_) (fun hj1 => ?_)
    · refine .cond rfl (fun _ => ?_) (fun _ => ?_)
      · refine .seq <| .region <| .move rfl rfl <| .move rfl rfl <| .bin rfl rfl rfl rfl <| .assign rfl rfl <| .nil ?_
        exact .ret1 Tryz.func5 Tryz.results5 (.tmp rfl) rfl (fun _ _ => .cons _ <| .slnil)
      · refine .skip <| .seq <| .seq <| .region <| .assign rfl rfl <| .nil ?_
        refine .block <| .loop <| .keep [3, 5, 10] [] rfl ?_
        refine (show ∀ (n1 : Nat) (i10 : Int), W _ _ _ _ _ ⟨[(3, isP b2 0, none), (5, (tL tCol).va q4, none), (10, isI .i64 i10, none)], [boxO b2 tTable q1.1 []]⟩ (f5_l1 fu q1 q4 n1 i10) from ?_) fu _
        intro n1
        induction n1 with
        | zero => exact fun _ => .stop
        | succ n1 ih1 =>
          intro i10
          refine .inLoop <| .seq <| .seq <| .region <| .move rfl rfl <| .move rfl rfl <| .lenL rfl Tryz.underlying23 rfl <| .bin rfl rfl rfl rfl <| .nil ?_
          refine .cond rfl (fun _ => ?_) (fun _ => ?_)
          · refine .skip <| .seq <| .block <| .seq <| .seq <| .region <| .move rfl rfl <| .move rfl rfl <| .elemAt rfl rfl Tryz.underlying23 ty52 rfl <| .fieldAt fCol_1 rfl fa52_1 rfl <| .load rfl ty3 rfl <| .bin rfl rfl rfl rfl <| .nil ?_
            refine .cond rfl (fun _ => ?_) (fun _ => ?_)
            · refine .exit rfl <| .region <| .move rfl rfl <| .bin rfl rfl rfl rfl <| .assign rfl rfl <| .nil ?_
              exact .keep [3, 5, 10] [] rfl (ih1 _)
            · refine .skip <| .seq <| .pT fun h4 => ?_
              refine .pbind fun q11 h5 => ?_
              refine .drawS 13 [11] [12] [] mix (by kernel_rfl) (.cons (fun _ _ _ hP hE h => .loadP 0 (Fld.self _) (hE.op rfl) (hP.get rfl rfl) ty27 rfl <| h) <| .cons (fun _ _ _ hP hE h => .move (hE.op rfl) rfl <| h) <| .cons (fun _ _ _ hP hE h => .move (hE.op rfl) rfl <| h) <| .cons (fun _ _ _ hP hE h => .useC h4 <| .elemAt (hE.op rfl) (hE.op rfl) Tryz.underlying23 ty52 rfl <| h) <| .cons (fun _ _ _ hP hE h => .fieldAt fCol_0 (hE.op rfl) fa52_0 rfl <| h) <| .cons (fun _ _ _ hP hE h => .load (hE.op rfl) ty9 rfl <| h) <| .cons (fun _ _ _ hP hE h => .build rfl st52 z52 (.cons fCol_1 rfl (hE.op rfl) <| .nil) rfl <| h) <| .cons (fun _ _ _ hP hE h => .build rfl st56 z56 (.cons fChange_0 rfl (hE.op rfl) <| .cons fChange_1 rfl (hE.op rfl) <| .cons fChange_3 rfl (hE.op rfl) <| .nil) rfl <| h) <| .cons (fun _ _ _ hP hE h => .bindE h5 (fun r h => .call0 (c28 fu _ _) n28 (hE.ops rfl) rfl h) <| h) <| .cons (fun _ _ _ hP hE h => .move (hE.op rfl) rfl <| h) <| .cons (fun _ _ _ hP hE h => .extract (hE.op rfl) rfl rfl <| h) <| .cons (fun _ _ _ hP hE h => .extract (hE.op rfl) rfl rfl <| h) <| .skip <| .nil) rfl <| .cons (d := 11) rfl rfl fun _ _ hE h => .alloc tTable d0_27 [] z27 rfl fun b12 => .toEnd <| h _ _ (.same <| .nil) <| .nil <| .storeP 1 (Fld.self _) rfl rfl rfl ty27 <| .assign rfl rfl <| .nil ?_
              refine .seq <| .pT fun h6 => ?_
              refine .draw 8 [] mix (by kernel_rfl) (.cons (fun _ _ _ hP hE h => .loadP 1 (Fld.self _) (hE.op rfl) (hP.get rfl rfl) ty27 rfl <| h) <| .cons (fun _ _ _ hP hE h => .move (hE.op rfl) rfl <| h) <| .cons (fun _ _ _ hP hE h => .move (hE.op rfl) rfl <| h) <| .cons (fun _ _ _ hP hE h => .useC h6 <| .elemAt (hE.op rfl) (hE.op rfl) Tryz.underlying23 ty52 rfl <| h) <| .cons (fun _ _ _ hP hE h => .fieldAt fCol_0 (hE.op rfl) fa52_0 rfl <| h) <| .cons (fun _ _ _ hP hE h => .load (hE.op rfl) ty9 rfl <| h) <| .cons (fun _ _ _ hP hE h => .build rfl st52 z52 (.cons fCol_1 rfl (hE.op rfl) <| .nil) rfl <| h) <| .cons (fun _ _ _ hP hE h => .build rfl st56 z56 (.cons fChange_0 rfl (hE.op rfl) <| .cons fChange_1 rfl (hE.op rfl) <| .cons fChange_3 rfl (hE.op rfl) <| .nil) rfl <| h) <| .nil) rfl <| .call0 (c28 fu _ _) n28 rfl rfl fun q13 => .move rfl rfl <| .extract rfl rfl rfl <| .extract rfl rfl rfl <| .storeP 1 (Fld.self _) rfl rfl rfl ty27 <| .assign rfl rfl <| .nil ?_
              refine .seq <| .join1 (fun i14 => ⟨[(3, isP b2 0, none), (5, (tL tCol).va q4, none), (10, isI .i64 i10, none), (100, isB i14, none)], [boxO b2 tTable q1.1 []]⟩) (fun i14 => f5_j3 i10 (f5_l1 fu q1 q4 n1) i14) (fun i14 => ?_) (fun hj3 => ?_)
              · refine .cond rfl (fun _ => ?_) (fun _ => ?_)
                · refine .seq <| .region <| .assign rfl rfl <| .nil ?_
                  exact .ret1 Tryz.func5 Tryz.results5 (.tmp rfl) rfl (fun _ _ => .cons _ <| .slnil)
                · refine .skip <| .inBlock <| .region <| .move rfl rfl <| .bin rfl rfl rfl rfl <| .assign rfl rfl <| .nil ?_
                  exact .keep [3, 5, 10] [] rfl (ih1 _)
              · refine .region <| .move rfl rfl <| .bin rfl rfl rfl rfl <| .move rfl rfl <| .split 91 rfl (fun _ => ?_) (fun _ => ?_)
                · refine .off rfl rfl rfl <| .off rfl rfl rfl <| .pickT rfl rfl rfl <| .move rfl rfl <| .off rfl rfl rfl <| .off rfl rfl rfl <| .off rfl rfl rfl <| .off rfl rfl rfl <| .pickT rfl rfl rfl <| .nil ?_
                  exact .keep [3, 5, 10, 100] [] rfl (.drop (.cons_cons _ <| .cons _ <| .slnil) <| hj3 _)
                · refine .on rfl rfl <| .move rfl rfl <| .on rfl rfl <| .bin rfl rfl rfl rfl <| .pickF rfl rfl rfl <| .move rfl rfl <| .split 95 rfl (fun _ => ?_) (fun _ => ?_)
                  · refine .off rfl rfl rfl <| .off rfl rfl rfl <| .off rfl rfl rfl <| .off rfl rfl rfl <| .pickT rfl rfl rfl <| .nil ?_
                    exact .keep [3, 5, 10, 100] [] rfl (.drop (.cons_cons _ <| .cons _ <| .slnil) <| hj3 _)
                  · refine .on rfl rfl <| .loadP 1 (Fld.self _) rfl rfl ty27 rfl <| .on rfl rfl <| .loadP 0 (Fld.self _) rfl rfl ty27 rfl <| .on rfl rfl <| .call0 (c30 fu _ _) n30 rfl rfl fun q15 => .on rfl rfl <| .not rfl rfl <| .pickF rfl rfl rfl <| .nil ?_
                    exact .keep [3, 5, 10, 100] [] rfl (.drop (.cons_cons _ <| .cons _ <| .slnil) <| hj3 _)
          · refine .exit rfl <| .seq <| .region <| .assign rfl rfl <| .nil ?_
            exact .ret1 Tryz.func5 Tryz.results5 (.tmp rfl) rfl (fun _ _ => .cons _ <| .slnil)
    · refine .region <| .move rfl rfl <| .move rfl rfl <| .bin rfl rfl rfl rfl <| .move rfl rfl <| .split 39 rfl (fun _ => ?_) (fun _ => ?_)
      · refine .off rfl rfl rfl <| .off rfl rfl rfl <| .off rfl rfl rfl <| .pickT rfl rfl rfl <| .move rfl rfl <| .off rfl rfl rfl <| .off rfl rfl rfl <| .off rfl rfl rfl <| .off rfl rfl rfl <| .pickT rfl rfl rfl <| .nil ?_
        exact .keep [3, 5, 7, 9, 49] [] rfl (.drop (.cons _ <| .cons _ <| .cons _ <| .cons_cons _ <| .slnil) <| hj1 _)
      · refine .on rfl rfl <| .loadP 3 (Fld.self _) rfl rfl ty27 rfl <| .on rfl rfl <| .call0 (c17 fu _) n17 rfl rfl fun q16 => .on rfl rfl <| .not rfl rfl <| .pickF rfl rfl rfl <| .move rfl rfl <| .split 44 rfl (fun _ => ?_) (fun _ => ?_)
        · refine .off rfl rfl rfl <| .off rfl rfl rfl <| .off rfl rfl rfl <| .off rfl rfl rfl <| .pickT rfl rfl rfl <| .nil ?_
          exact .keep [3, 5, 7, 9, 49] [] rfl (.drop (.cons _ <| .cons _ <| .cons _ <| .cons_cons _ <| .slnil) <| hj1 _)
        · refine .on rfl rfl <| .fieldP rfl fa27_1 rfl <| .on rfl rfl <| .loadP 3 fTable_1 rfl rfl ty24 rfl <| .on rfl rfl <| .lenL rfl Tryz.underlying24 rfl <| .on rfl rfl <| .bin rfl rfl rfl rfl <| .pickF rfl rfl rfl <| .nil ?_
          exact .keep [3, 5, 7, 9, 49] [] rfl (.drop (.cons _ <| .cons _ <| .cons _ <| .cons_cons _ <| .slnil) <| hj1 _)
end Go.Proofs.YtbnklinfjmmlfaaGreatDoor
