/- Functions of the program: what each answers, and that the machine answers so. -/
import Derived.Test.YtlkhmcajnfombaaGreatDoorQ1006A14
import Derived.KernelRfl
set_option linter.unusedVariables false
set_option linter.unusedSimpArgs false
set_option linter.deprecated false
set_option linter.unusedSectionVars false
set_option linter.all false
namespace Go.Proofs.YtlkhmcajnfombaaGreatDoor
open Go Go.HL
def f1024 (fu : Nat) (a0 : List Int) : Option Table := (f60 fu a0).bind fun q2 => (f61 fu q2).bind fun q4 => some q4.1
theorem n1024 : ∃ fn c, Tryz.prog.funcs[24]? = some fn ∧ (fn.name == "runtime.NumGoroutine") = false ∧ fn.body = some c := ⟨_, _, Tryz.func24, by kernel_rfl, rfl⟩
theorem c1024 (fu : Nat) (a0 : List Int) : Ctr Tryz.prog 24 [(tL (tI .u8)).va a0] [] (f1024 fu a0) (fun _ _ => []) (fun q => tTable.va q) := by
  refine Ctr.of_W Tryz.func24 rfl Tryz.ntmps24 rfl fun A w => ?_
  unfold f1024
  refine .seq <| .region <| .alloc tTable d0_27 [] z27 rfl fun b1 => .nil ?_
  refine .seq <| .region <| .move rfl rfl <| .callP (c60 fu _) n60 rfl rfl fun q2 b3 => .call1 0 (c61 fu _ _) rfl n61 rfl rfl fun q4 => .storeP 1 (Fld.self _) rfl rfl rfl ty27 <| .nil ?_
  exact .ret1 Tryz.func24 Tryz.results24 (.cell 1 rfl rfl ty27) rfl (fun _ _ => .cons _ <| .cons _ <| .slnil)
def f1026_l1 (fu : Nat) (a0 : Table) : Nat → Int → Table → Option Table
  | 0, _, _ => none
  | n1 + 1, i6, i7 => cond (decide (i6 < (List.length a0.rows : Int))) (cond (decide (0 ≤ i6) && decide (i6 < (List.length a0.rows : Int))) (cond (decide (0 ≤ i6) && decide (i6 < (List.length a0.rows : Int))) ((f90 fu a0 (a0.rows.getD i6.toNat default)).bind fun q9 => cond (decide (List.length i7.rows + List.length ([(⟨(a0.rows.getD i6.toNat default).id, d0_37.ver, q9⟩ : Row)] : List Row) ≤ CAP)) ((f1026_l1 fu a0 n1) (IntKind.i64.wrap (i6 + 1)) (⟨i7.first, i7.changes, i7.rows ++ ([(⟨(a0.rows.getD i6.toNat default).id, d0_37.ver, q9⟩ : Row)] : List Row), i7.next⟩ : Table)) none) none) none) (some i7)
def f1026 (fu : Nat) (a0 : Table) : Option Table := (f17 fu a0).bind fun q3 => cond (!q3) (some (⟨([] : List Col), ([] : List Change), ([] : List Row), (0 : Int)⟩ : Table)) ((f53 fu a0).bind fun q4 => f1026_l1 fu a0 fu 0 (⟨q4, ([] : List Change), ([] : List Row), a0.next⟩ : Table))
theorem n1026 : ∃ fn c, Tryz.prog.funcs[26]? = some fn ∧ (fn.name == "runtime.NumGoroutine") = false ∧ fn.body = some c := ⟨_, _, Tryz.func26, by kernel_rfl, rfl⟩
theorem c1026 (fu : Nat) (a0 : Table) : Ctr Tryz.prog 26 [tTable.va a0] [] (f1026 fu a0) (fun _ _ => []) (fun q => tTable.va q) := by
  refine Ctr.of_W Tryz.func26 rfl Tryz.ntmps26 rfl fun A w => ?_
  unfold f1026
  refine .seq <| .region <| .box (T := tTable) rfl rfl fun b1 => .alloc tTableA d0A27 [] zA27 rfl fun b2 => .nil ?_
  refine .seq <| .seq <| .region <| .loadP 1 (Fld.self _) rfl rfl ty27 rfl <| .call0 (c17 fu _) n17 rfl rfl fun q3 => .not rfl rfl <| .nil ?_
  refine .cond rfl (fun _ => ?_) (fun _ => ?_)
  · refine .seq <| .region <| .buildA rfl st27 zA27 (.nil) rfl <| .storeP 0 (Fld.self _) rfl rfl rfl ty27 <| .arrNil tRow <| .nil ?_
    exact .frzBox 1 0 conv27 rfl rfl <| .ret1 Tryz.func26 Tryz.results26 (.cell 1 rfl rfl ty27) rfl (fun _ _ => .cons _ <| .cons _ <| .cons _ <| .slnil)
  · refine .skip <| .seq <| .pbind fun q4 h1 => ?_
    refine .drawS 6 [] [5] [] mix (by kernel_rfl) (.cons (fun _ _ _ hP hE h => .loadP 1 (Fld.self _) (hE.op rfl) (hP.get rfl rfl) ty27 rfl <| h) <| .cons (fun _ _ _ hP hE h => .bindE h1 (fun r h => .call0 (c53 fu _) n53 (hE.ops rfl) rfl h) <| h) <| .cons (fun _ _ _ hP hE h => .fieldP (hE.op rfl) fa27_3 rfl <| h) <| .cons (fun _ _ _ hP hE h => .loadP 1 fTable_3 (hE.op rfl) (hP.get rfl rfl) ty3 rfl <| h) <| .cons (fun _ _ _ hP hE h => .buildA rfl st27 zA27 (.cons fTableA_0 rfl (vOf (hE.op rfl)) <| .cons fTableA_3 rfl (vOf (hE.op rfl)) <| .nil) rfl <| h) <| .skip <| .nil) rfl <| .cons (d := 3) rfl rfl fun _ _ hE h => .alloc tTableA d0A27 [] zA27 rfl fun b5 => .toEnd <| h _ _ (.same <| .same <| .nil) <| .nil <| .storeP 2 (Fld.self _) rfl rfl rfl ty27 <| .arrNil tRow <| .nil ?_
    refine .seq <| .seq <| .region <| .assign rfl rfl <| .nil ?_
    refine .block <| .loop <| .keep [1, 2, 3, 4] [] rfl ?_
    refine (show ∀ (n1 : Nat) (i6 : Int) (i7 : Table) (v8 : Value), W _ _ _ _ _ ⟨[(1, isP b1 0, none), (2, isP b2 0, none), (3, isP b5 0, none), (4, isI .i64 i6, none)], [arrO tRow v8 i7.rows, boxO b2 tTableA (⟨([] : List Col), ((.slice none 0 0), ([] : List Change)), (.slice none 0 0), (0 : Int)⟩ : TableA) [], boxO b1 tTable a0 [], boxO b5 tTableA (⟨i7.first, ((.slice none 0 0), i7.changes), v8, i7.next⟩ : TableA) []]⟩ (f1026_l1 fu a0 n1 i6 i7) from ?_) fu _ _ _
    intro n1
    induction n1 with
    | zero => exact fun _ _ _ => .stop
    | succ n1 ih1 =>
      intro i6 i7 v8
      refine .inLoop <| .seq <| .seq <| .region <| .move rfl rfl <| .fieldP rfl fa27_2 rfl <| .loadP 2 fTable_2 rfl rfl ty25 rfl <| .lenL rfl Tryz.underlying25 rfl <| .bin rfl rfl rfl rfl <| .nil ?_
      refine .cond rfl (fun _ => ?_) (fun _ => ?_)
      · refine .skip <| .seq <| .block <| .pT fun h5 => ?_
        refine .pT fun h6 => ?_
        refine .pbind fun q9 h7 => ?_
        refine .draw 17 [] mix (by kernel_rfl) (.cons (fun _ _ _ hP hE h => .fieldP (hE.op rfl) fa27_2 rfl <| h) <| .cons (fun _ _ _ hP hE h => .loadR 3 fTableA_2 (hE.op rfl) (hP.get rfl rfl) ty25 rfl <| h) <| .cons (fun _ _ _ hP hE h => .fieldP (hE.op rfl) fa27_2 rfl <| h) <| .cons (fun _ _ _ hP hE h => .loadP 2 fTable_2 (hE.op rfl) (hP.get rfl rfl) ty25 rfl <| h) <| .cons (fun _ _ _ hP hE h => .move (hE.op rfl) rfl <| h) <| .cons (fun _ _ _ hP hE h => .useC h5 <| .elemAt (hE.op rfl) (hE.op rfl) Tryz.underlying25 ty37 rfl <| h) <| .cons (fun _ _ _ hP hE h => .fieldAt fRow_0 (hE.op rfl) fa37_0 rfl <| h) <| .cons (fun _ _ _ hP hE h => .load (hE.op rfl) ty3 rfl <| h) <| .cons (fun _ _ _ hP hE h => .loadP 2 (Fld.self _) (hE.op rfl) (hP.get rfl rfl) ty27 rfl <| h) <| .cons (fun _ _ _ hP hE h => .fieldP (hE.op rfl) fa27_2 rfl <| h) <| .cons (fun _ _ _ hP hE h => .loadP 2 fTable_2 (hE.op rfl) (hP.get rfl rfl) ty25 rfl <| h) <| .cons (fun _ _ _ hP hE h => .move (hE.op rfl) rfl <| h) <| .cons (fun _ _ _ hP hE h => .useC h6 <| .elemAt (hE.op rfl) (hE.op rfl) Tryz.underlying25 ty37 rfl <| h) <| .cons (fun _ _ _ hP hE h => .load (hE.op rfl) ty37 rfl <| h) <| .cons (fun _ _ _ hP hE h => .bindE h7 (fun r h => .call0 (c90 fu _ _) n90 (hE.ops rfl) rfl h) <| h) <| .cons (fun _ _ _ hP hE h => .build rfl st37 z37 (.cons fRow_0 rfl (hE.op rfl) <| .cons fRow_2 rfl (hE.op rfl) <| .nil) rfl <| h) <| .cons (fun _ _ _ hP hE h => .litN (T := tRow) Tryz.underlying25 el37 rfl rfl (.cons (hE.op rfl) <| .nil) rfl <| h) <| .nil) rfl <| .appA (T := tRow) 0 rfl rfl rfl Tryz.underlying25 el37 rfl fun v10 => .fieldP rfl fa27_2 rfl <| .toRaw (T := tRow) 0 38 rfl rfl <| .storeP 3 fTableA_2 rfl rfl rfl ty25 <| .nil ?_
        refine .inBlock <| .region <| .move rfl rfl <| .bin rfl rfl rfl rfl <| .assign rfl rfl <| .nil ?_
        exact .keep [1, 2, 3, 4] [] rfl (ih1 _ _ _)
      · refine .exit rfl <| .seq <| .region <| .loadP 3 (Fld.self _) rfl rfl ty27 rfl <| .storeP 1 (Fld.self _) rfl rfl rfl ty27 <| .nil ?_
        exact .frzBox 1 0 conv27 rfl rfl <| .ret1 Tryz.func26 Tryz.results26 (.cell 1 rfl rfl ty27) rfl (fun _ _ => .cons _ <| .cons _ <| .cons _ <| .cons _ <| .slnil)
def f1027 (fu : Nat) (a0 : List Col) : Option Table := (f67 fu a0).bind fun q2 => cond (!q2) (some (⟨d0_27.first, d0_27.changes, d0_27.rows, d0_27.next⟩ : Table)) ((f91 a0).bind fun q3 => some (⟨q3, d0_27.changes, d0_27.rows, 1⟩ : Table))
theorem n1027 : ∃ fn c, Tryz.prog.funcs[27]? = some fn ∧ (fn.name == "runtime.NumGoroutine") = false ∧ fn.body = some c := ⟨_, _, Tryz.func27, by kernel_rfl, rfl⟩
theorem c1027 (fu : Nat) (a0 : List Col) : Ctr Tryz.prog 27 [(tL tCol).va a0] [] (f1027 fu a0) (fun _ _ => []) (fun q => tTable.va q) := by
  refine Ctr.of_W Tryz.func27 rfl Tryz.ntmps27 rfl fun A w => ?_
  unfold f1027
  refine .seq <| .region <| .alloc tTable d0_27 [] z27 rfl fun b1 => .nil ?_
  refine .seq <| .seq <| .region <| .move rfl rfl <| .call0 (c67 fu _) n67 rfl rfl fun q2 => .not rfl rfl <| .nil ?_
  refine .cond rfl (fun _ => ?_) (fun _ => ?_)
  · refine .seq <| .region <| .build rfl st27 z27 (.nil) rfl <| .storeP 0 (Fld.self _) rfl rfl rfl ty27 <| .nil ?_
    exact .ret1 Tryz.func27 Tryz.results27 (.cell 0 rfl rfl ty27) rfl (fun _ _ => .cons _ <| .slnil)
  · refine .skip <| .seq <| .region <| .move rfl rfl <| .call0 (CtrL.plain (c91 _)) n91 rfl rfl fun q3 => .build rfl st27 z27 (.cons fTable_0 rfl rfl <| .cons fTable_3 rfl rfl <| .nil) rfl <| .storeP 0 (Fld.self _) rfl rfl rfl ty27 <| .nil ?_
    exact .ret1 Tryz.func27 Tryz.results27 (.cell 0 rfl rfl ty27) rfl (fun _ _ => .cons _ <| .slnil)
def f1006_j4 (i11 : Int) (q15 : Table × Int) (rec1 : Int → Table → Option Bool) (i17 : Bool) : Option Bool := cond i17 (some false) (rec1 (IntKind.i64.wrap (i11 + 1)) q15.1)
def f1006_j5 (rec1 : Int → Table → Option Bool) (i19 : Bool) : Option Bool := some i19
def f1006_l1 (fu : Nat) (q1 : Table) (q8 : (List Col)) : Nat → Int → Table → Option Bool
  | 0, _, _ => none
  | n1 + 1, i11, i12 => cond (decide (i11 < (List.length q1.rows : Int))) (cond (decide (0 ≤ i11) && decide (i11 < (List.length q1.rows : Int))) ((f16 fu q1 ((q1.rows.getD i11.toNat default).id)).bind fun q13 => (f38 fu q8 q13.1).bind fun q14 => (f21 fu i12 q14).bind fun q15 => (f16 fu q15.1 (IntKind.i64.wrap (i11 + 1))).bind fun q16 => cond (!decide (q15.2 = 0)) (f1006_j4 i11 q15 (f1006_l1 fu q1 q8 n1) true) (cond (!q16.2) (f1006_j4 i11 q15 (f1006_l1 fu q1 q8 n1) true) ((f18 fu q16.1 q13.1).bind fun q18 => f1006_j4 i11 q15 (f1006_l1 fu q1 q8 n1) (!q18)))) none) (cond (decide ((List.length i12.rows : Int) = (List.length q1.rows : Int))) (f1006_j5 (f1006_l1 fu q1 q8 n1) (decide (i12.next = (IntKind.i64.wrap ((List.length q1.rows : Int) + 1))))) (f1006_j5 (f1006_l1 fu q1 q8 n1) false))
def f1006_j1 (fu : Nat) (q1 : Table) (q3 : Table) (i5 : Bool) : Option Bool := cond i5 ((f1026 fu q1).bind fun q6 => (f15 fu q3 q6).bind fun q7 => some q7) ((f23 fu q1).bind fun q8 => (f1027 fu q8).bind fun q9 => f1006_l1 fu q1 q8 fu 0 q9)
def f1006 (fu : Nat) (a0 : List Int) : Option Bool := cond (decide (1048576 < (List.length a0 : Int))) (some true) ((f1024 fu a0).bind fun q1 => (f34 fu q1).bind fun q3 => (f1026 fu q1).bind fun q20 => (f15 fu q3 q20).bind fun q21 => cond (!q21) (f1006_j1 fu q1 q3 true) ((f17 fu q1).bind fun q22 => f1006_j1 fu q1 q3 (!q22)))
theorem c1006 (fu : Nat) (a0 : List Int) : Ctr Tryz.prog 6 [(tL (tI .u8)).va a0] [] (f1006 fu a0) (fun _ _ => []) (fun q => isB q) := by
  refine Ctr.of_W Tryz.func6 rfl Tryz.ntmps6 rfl fun A w => ?_
  unfold f1006
  refine .seq <| .region <| .assign rfl rfl <| .nil ?_
  refine .seq <| .seq <| .region <| .move rfl rfl <| .lenL rfl Tryz.underlying22 rfl <| .bin rfl rfl rfl rfl <| .nil ?_
  refine .cond rfl (fun _ => ?_) (fun _ => ?_)
  · refine .seq <| .region <| .assign rfl rfl <| .nil ?_
    exact .ret1 Tryz.func6 Tryz.results6 (.tmp rfl) rfl (fun _ _ => .slnil)
  · refine .skip <| .seq <| .region <| .move rfl rfl <| .call0 (c1024 fu _) n1024 rfl rfl fun q1 => .alloc tTable d0_27 [] z27 rfl fun b2 => .storeP 0 (Fld.self _) rfl rfl rfl ty27 <| .nil ?_
    refine .seq <| .region <| .loadP 0 (Fld.self _) rfl rfl ty27 rfl <| .call0 (c34 fu _) n34 rfl rfl fun q3 => .alloc tTable d0_27 [] z27 rfl fun b4 => .storeP 0 (Fld.self _) rfl rfl rfl ty27 <| .nil ?_
    refine .seq <| .seq <| .join1 (fun i5 => ⟨[(3, isP b2 0, none), (4, isP b4 0, none), (29, isB i5, none)], [boxO b4 tTable q3 [], boxO b2 tTable q1 []]⟩) (fun i5 => f1006_j1 fu q1 q3 i5) (fun i5 => ?_) (fun hj1 => ?_)
    · refine .cond rfl (fun _ => ?_) (fun _ => ?_)
      · refine .seq <| .pbind fun q6 h1 => ?_
        refine .draw 3 [] mix (by kernel_rfl) (.cons (fun _ _ _ hP hE h => .loadP 0 (Fld.self _) (hE.op rfl) (hP.get rfl rfl) ty27 rfl <| h) <| .cons (fun _ _ _ hP hE h => .loadP 1 (Fld.self _) (hE.op rfl) (hP.get rfl rfl) ty27 rfl <| h) <| .cons (fun _ _ _ hP hE h => .bindE h1 (fun r h => .call0 (c1026 fu _) n1026 (hE.ops rfl) rfl h) <| h) <| .nil) rfl <| .call0 (c15 fu _ _) n15 rfl rfl fun q7 => .assign rfl rfl <| .nil ?_
        exact .ret1 Tryz.func6 Tryz.results6 (.tmp rfl) rfl (fun _ _ => .cons _ <| .cons _ <| .slnil)
      · refine .skip <| .seq <| .region <| .loadP 1 (Fld.self _) rfl rfl ty27 rfl <| .call0 (c23 fu _) n23 rfl rfl fun q8 => .assign rfl rfl <| .nil ?_
        refine .seq <| .region <| .move rfl rfl <| .call0 (c1027 fu _) n1027 rfl rfl fun q9 => .alloc tTable d0_27 [] z27 rfl fun b10 => .storeP 0 (Fld.self _) rfl rfl rfl ty27 <| .nil ?_
        refine .seq <| .seq <| .region <| .assign rfl rfl <| .nil ?_
        refine .block <| .loop <| .drop (.cons_cons _ <| .cons _ <| .cons_cons _ <| .slnil) <| .keep [3, 5, 6, 7] [] rfl ?_
        refine (show ∀ (n1 : Nat) (i11 : Int) (i12 : Table), W _ _ _ _ _ ⟨[(3, isP b2 0, none), (5, (tL tCol).va q8, none), (6, isP b10 0, none), (7, isI .i64 i11, none)], [boxO b10 tTable i12 [], boxO b2 tTable q1 []]⟩ (f1006_l1 fu q1 q8 n1 i11 i12) from ?_) fu _ _
        intro n1
        induction n1 with
        | zero => exact fun _ _ => .stop
        | succ n1 ih1 =>
          intro i11 i12
          refine .inLoop <| .seq <| .seq <| .region <| .move rfl rfl <| .fieldP rfl fa27_2 rfl <| .loadP 1 fTable_2 rfl rfl ty25 rfl <| .lenL rfl Tryz.underlying25 rfl <| .bin rfl rfl rfl rfl <| .nil ?_
          refine .cond rfl (fun _ => ?_) (fun _ => ?_)
          · refine .skip <| .seq <| .block <| .seq <| .pT fun h4 => ?_
            refine .draw 7 [] mix (by kernel_rfl) (.cons (fun _ _ _ hP hE h => .loadP 1 (Fld.self _) (hE.op rfl) (hP.get rfl rfl) ty27 rfl <| h) <| .cons (fun _ _ _ hP hE h => .fieldP (hE.op rfl) fa27_2 rfl <| h) <| .cons (fun _ _ _ hP hE h => .loadP 1 fTable_2 (hE.op rfl) (hP.get rfl rfl) ty25 rfl <| h) <| .cons (fun _ _ _ hP hE h => .move (hE.op rfl) rfl <| h) <| .cons (fun _ _ _ hP hE h => .useC h4 <| .elemAt (hE.op rfl) (hE.op rfl) Tryz.underlying25 ty37 rfl <| h) <| .cons (fun _ _ _ hP hE h => .fieldAt fRow_0 (hE.op rfl) fa37_0 rfl <| h) <| .cons (fun _ _ _ hP hE h => .load (hE.op rfl) ty3 rfl <| h) <| .nil) rfl <| .call0 (c16 fu _ _) n16 rfl rfl fun q13 => .move rfl rfl <| .extract rfl rfl rfl <| .extract rfl rfl rfl <| .assign rfl rfl <| .assign rfl rfl <| .nil ?_
            refine .seq <| .region <| .assign rfl rfl <| .nil ?_
            refine .seq <| .pbind fun q14 h5 => ?_
            refine .draw 4 [] mix (by kernel_rfl) (.cons (fun _ _ _ hP hE h => .loadP 0 (Fld.self _) (hE.op rfl) (hP.get rfl rfl) ty27 rfl <| h) <| .cons (fun _ _ _ hP hE h => .move (hE.op rfl) rfl <| h) <| .cons (fun _ _ _ hP hE h => .move (hE.op rfl) rfl <| h) <| .cons (fun _ _ _ hP hE h => .bindE h5 (fun r h => .call0 (c38 fu _ _) n38 (hE.ops rfl) rfl h) <| h) <| .nil) rfl <| .call0 (c21 fu _ _) n21 rfl rfl fun q15 => .move rfl rfl <| .extract rfl rfl rfl <| .extract rfl rfl rfl <| .storeP 0 (Fld.self _) rfl rfl rfl ty27 <| .assign rfl rfl <| .nil ?_
            refine .seq <| .region <| .loadP 0 (Fld.self _) rfl rfl ty27 rfl <| .move rfl rfl <| .bin rfl rfl rfl rfl <| .call0 (c16 fu _ _) n16 rfl rfl fun q16 => .move rfl rfl <| .extract rfl rfl rfl <| .extract rfl rfl rfl <| .assign rfl rfl <| .assign rfl rfl <| .nil ?_
            refine .seq <| .join1 (fun i17 => ⟨[(3, isP b2 0, none), (5, (tL tCol).va q8, none), (6, isP b10 0, none), (7, isI .i64 i11, none), (82, isB i17, none)], [boxO b10 tTable q15.1 [], boxO b2 tTable q1 []]⟩) (fun i17 => f1006_j4 i11 q15 (f1006_l1 fu q1 q8 n1) i17) (fun i17 => ?_) (fun hj4 => ?_)
            · refine .cond rfl (fun _ => ?_) (fun _ => ?_)
              · refine .seq <| .region <| .assign rfl rfl <| .nil ?_
                exact .ret1 Tryz.func6 Tryz.results6 (.tmp rfl) rfl (fun _ _ => .cons _ <| .cons _ <| .slnil)
              · refine .skip <| .inBlock <| .region <| .move rfl rfl <| .bin rfl rfl rfl rfl <| .assign rfl rfl <| .nil ?_
                exact .keep [3, 5, 6, 7] [] rfl (ih1 _ _)
            · refine .region <| .move rfl rfl <| .bin rfl rfl rfl rfl <| .move rfl rfl <| .split 73 rfl (fun _ => ?_) (fun _ => ?_)
              · refine .off rfl rfl rfl <| .off rfl rfl rfl <| .pickT rfl rfl rfl <| .move rfl rfl <| .off rfl rfl rfl <| .off rfl rfl rfl <| .off rfl rfl rfl <| .off rfl rfl rfl <| .pickT rfl rfl rfl <| .nil ?_
                exact .keep [3, 5, 6, 7, 82] [] rfl (hj4 _)
              · refine .on rfl rfl <| .move rfl rfl <| .on rfl rfl <| .not rfl rfl <| .pickF rfl rfl rfl <| .move rfl rfl <| .split 77 rfl (fun _ => ?_) (fun _ => ?_)
                · refine .off rfl rfl rfl <| .off rfl rfl rfl <| .off rfl rfl rfl <| .off rfl rfl rfl <| .pickT rfl rfl rfl <| .nil ?_
                  exact .keep [3, 5, 6, 7, 82] [] rfl (hj4 _)
                · refine .on rfl rfl <| .move rfl rfl <| .on rfl rfl <| .move rfl rfl <| .on rfl rfl <| .call0 (c18 fu _ _) n18 rfl rfl fun q18 => .on rfl rfl <| .not rfl rfl <| .pickF rfl rfl rfl <| .nil ?_
                  exact .keep [3, 5, 6, 7, 82] [] rfl (hj4 _)
          · refine .exit rfl <| .seq <| .join1 (fun i19 => ⟨[(2, isB i19, none)], []⟩) (fun i19 => f1006_j5 (f1006_l1 fu q1 q8 n1) i19) (fun i19 => ?_) (fun hj5 => ?_)
            · exact .ret1 Tryz.func6 Tryz.results6 (.tmp rfl) rfl (fun _ _ => .slnil)
            · refine .region <| .fieldP rfl fa27_2 rfl <| .loadP 0 fTable_2 rfl rfl ty25 rfl <| .lenL rfl Tryz.underlying25 rfl <| .fieldP rfl fa27_2 rfl <| .loadP 1 fTable_2 rfl rfl ty25 rfl <| .lenL rfl Tryz.underlying25 rfl <| .bin rfl rfl rfl rfl <| .move rfl rfl <| .split 90 rfl (fun _ => ?_) (fun _ => ?_)
              · refine .on rfl rfl <| .fieldP rfl fa27_3 rfl <| .on rfl rfl <| .loadP 0 fTable_3 rfl rfl ty3 rfl <| .on rfl rfl <| .fieldP rfl fa27_2 rfl <| .on rfl rfl <| .loadP 1 fTable_2 rfl rfl ty25 rfl <| .on rfl rfl <| .lenL rfl Tryz.underlying25 rfl <| .on rfl rfl <| .bin rfl rfl rfl rfl <| .on rfl rfl <| .bin rfl rfl rfl rfl <| .pickT rfl rfl rfl <| .assign rfl rfl <| .nil ?_
                exact .keep [2] [] rfl (.drop (.cons _ <| .cons _ <| .slnil) <| hj5 _)
              · refine .off rfl rfl rfl <| .off rfl rfl rfl <| .off rfl rfl rfl <| .off rfl rfl rfl <| .off rfl rfl rfl <| .off rfl rfl rfl <| .off rfl rfl rfl <| .pickF rfl rfl rfl <| .assign rfl rfl <| .nil ?_
                exact .keep [2] [] rfl (.drop (.cons _ <| .cons _ <| .slnil) <| hj5 _)
    · refine .pbind fun q20 h6 => ?_
      refine .draw 3 [] mix (by kernel_rfl) (.cons (fun _ _ _ hP hE h => .loadP 0 (Fld.self _) (hE.op rfl) (hP.get rfl rfl) ty27 rfl <| h) <| .cons (fun _ _ _ hP hE h => .loadP 1 (Fld.self _) (hE.op rfl) (hP.get rfl rfl) ty27 rfl <| h) <| .cons (fun _ _ _ hP hE h => .bindE h6 (fun r h => .call0 (c1026 fu _) n1026 (hE.ops rfl) rfl h) <| h) <| .nil) rfl <| .call0 (c15 fu _ _) n15 rfl rfl fun q21 => .not rfl rfl <| .move rfl rfl <| .split 25 rfl (fun _ => ?_) (fun _ => ?_)
      · refine .off rfl rfl rfl <| .off rfl rfl rfl <| .off rfl rfl rfl <| .pickT rfl rfl rfl <| .nil ?_
        exact .keep [3, 4, 29] [] rfl (hj1 _)
      · refine .on rfl rfl <| .loadP 1 (Fld.self _) rfl rfl ty27 rfl <| .on rfl rfl <| .call0 (c17 fu _) n17 rfl rfl fun q22 => .on rfl rfl <| .not rfl rfl <| .pickF rfl rfl rfl <| .nil ?_
        exact .keep [3, 4, 29] [] rfl (hj1 _)
end Go.Proofs.YtlkhmcajnfombaaGreatDoor
