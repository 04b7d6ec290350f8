/- Functions of the program: what each answers, and that the machine answers so. -/
import Derived.Test.YtlkhmcajnfombaaGreatDoorQ1003A10
import Derived.KernelRfl
import Derived.KernelRfl
set_option linter.unusedVariables false
set_option linter.unusedSimpArgs false
set_option linter.deprecated false
set_option linter.unusedSectionVars false
set_option linter.all false
namespace Go.Proofs.YtlkhmcajnfombaaGreatDoor
open Go Go.HL
def f31_j2 (fu : Nat) (q4 : Table × Rd) (i9 : Int) (i10 : Rd) : Option (Table × Int × (List Set)) := (f63 fu q4.1).bind fun q11 => (f62 fu i10 q11).bind fun q12 => some (q4.1, i9, q12.1)
def f31_j1 (fu : Nat) (q4 : Table × Rd) (q6 : Int × Rd) (i7 : Bool) (i8 : Rd) : Option (Table × Int × (List Set)) := cond i7 ((f74 fu i8 (List.length q4.1.rows : Int)).bind fun q13 => cond (decide (0 ≤ q13.1) && decide (q13.1 < (List.length q4.1.rows : Int))) (f31_j2 fu q4 ((q4.1.rows.getD q13.1.toNat default).id) q13.2) none) (f31_j2 fu q4 q6.1 i8)
def f31 (fu : Nat) (a0 : List Int) : Option (Table × Int × (List Set)) := (f60 fu a0).bind fun q2 => (f61 fu q2).bind fun q4 => (f73 fu q4.2 ([0, 1, 2, 3, 99] : List Int)).bind fun q6 => cond (decide (0 < (List.length q4.1.rows : Int))) ((f74 fu q6.2 6).bind fun q14 => f31_j1 fu q4 q6 (decide (0 < q14.1)) q14.2) (f31_j1 fu q4 q6 false q6.2)
theorem n31 : ∃ fn c, Tryz.prog.funcs[8]? = some fn ∧ (fn.name == "runtime.NumGoroutine") = false ∧ fn.body = some c := ⟨_, _, Tryz.func8, by kernel_rfl, rfl⟩
theorem c31 (fu : Nat) (a0 : List Int) : Ctr Tryz.prog 8 [(tL (tI .u8)).va a0] [] (f31 fu a0) (fun _ _ => []) (fun q => tup [tTable.va q.1, isI .i64 q.2.1, (tL tSet).va q.2.2]) := by
  refine Ctr.of_W Tryz.func8 rfl Tryz.ntmps8 rfl fun A w => ?_
  unfold f31
  refine .seq <| .region <| .alloc tTable d0_27 [] z27 rfl fun b1 => .assign rfl rfl <| .assignNil tSet rfl <| .nil ?_
  refine .seq <| .region <| .move rfl rfl <| .callP (c60 fu _) n60 rfl rfl fun q2 b3 => .assign rfl rfl <| .nil ?_
  refine .seq <| .region <| .move rfl rfl <| .call1 0 (c61 fu _ _) rfl n61 rfl rfl fun q4 => .alloc tTable d0_27 [] z27 rfl fun b5 => .storeP 0 (Fld.self _) rfl rfl rfl ty27 <| .nil ?_
  refine .seq <| .region <| .move rfl rfl <| .litN (T := (tI .i64)) Tryz.underlying63 el3 rfl rfl (.cons rfl <| .cons rfl <| .cons rfl <| .cons rfl <| .cons rfl <| .nil) rfl <| .call1 1 (c73 fu _ _ _) rfl n73 rfl rfl fun q6 => .assign rfl rfl <| .nil ?_
  refine .seq <| .seq <| .join2 (fun i7 i8 => ⟨[(2, isP b1 0, none), (5, isP b3 0, none), (6, isP b5 0, none), (7, isI .i64 q6.1, none), (23, isB i7, none)], [boxO b5 tTable q4.1 [], boxO b3 tRd i8 [], boxO b1 tTable d0_27 []]⟩) (fun i7 i8 => f31_j1 fu q4 q6 i7 i8) (fun i7 i8 => ?_) (fun hj1 => ?_)
  · refine .join2 (fun i9 i10 => ⟨[(2, isP b1 0, none), (5, isP b3 0, none), (6, isP b5 0, none), (7, isI .i64 i9, none)], [boxO b5 tTable q4.1 [], boxO b3 tRd i10 [], boxO b1 tTable d0_27 []]⟩) (fun i9 i10 => f31_j2 fu q4 i9 i10) (fun i9 i10 => ?_) (fun hj2 => ?_)
    · refine .seq <| .pbind fun q11 h1 => ?_
      refine .pbind fun q12 h2 => ?_
      refine .drawS 6 [1] [5] [1] mix (by kernel_rfl) (.cons (fun _ _ _ hP hE h => .loadP 0 (Fld.self _) (hE.op rfl) (hP.get rfl rfl) ty27 rfl <| h) <| .cons (fun _ _ _ hP hE h => .move (hE.op rfl) rfl <| h) <| .cons (fun _ _ _ hP hE h => .move (hE.op rfl) rfl <| h) <| .cons (fun _ _ _ hP hE h => .loadP 0 (Fld.self _) (hE.op rfl) (hP.get rfl rfl) ty27 rfl <| h) <| .cons (fun _ _ _ hP hE h => .bindE h1 (fun r h => .call0 (c63 fu _) n63 (hE.ops rfl) rfl h) <| h) <| .skip <| .nil) rfl <| .cons (d := 39) rfl rfl fun _ _ hE h => .bindE h2 (fun r h => .call1 1 (c62 fu _ _ _) rfl n62 (hE.ops rfl) rfl h) <| h _ _ (.same <| .hole rfl <| .same <| .nil) <| .nil <| .storeP 2 (Fld.self _) rfl rfl rfl ty27 <| .assign rfl rfl <| .assign rfl rfl <| .nil ?_
      exact .ret3 Tryz.func8 Tryz.results8 (.cell 2 rfl rfl ty27) (.tmp rfl) (.tmp rfl) rfl (fun _ => .cons _ <| .cons _ <| .cons _ <| .slnil)
    · refine .cond rfl (fun _ => ?_) (fun _ => ?_)
      · refine .pbind fun q13 h3 => ?_
        refine .drawS 7 [] [6] [1] mix (by kernel_rfl) (.cons (fun _ _ _ hP hE h => .fieldP (hE.op rfl) fa27_2 rfl <| h) <| .cons (fun _ _ _ hP hE h => .loadP 0 fTable_2 (hE.op rfl) (hP.get rfl rfl) ty25 rfl <| h) <| .cons (fun _ _ _ hP hE h => .move (hE.op rfl) rfl <| h) <| .cons (fun _ _ _ hP hE h => .fieldP (hE.op rfl) fa27_2 rfl <| h) <| .cons (fun _ _ _ hP hE h => .loadP 0 fTable_2 (hE.op rfl) (hP.get rfl rfl) ty25 rfl <| h) <| .cons (fun _ _ _ hP hE h => .lenL (hE.op rfl) Tryz.underlying25 rfl <| h) <| .skip <| .nil) rfl <| .cons (d := 30) rfl rfl fun _ _ hE h => .bindE h3 (fun r h => .call1 1 (c74 fu _ _ _) rfl n74 (hE.ops rfl) rfl h) <| h _ _ (.same <| .hole rfl <| .same <| .nil) <| .nil <| .elemAt rfl rfl Tryz.underlying25 ty37 rfl <| .fieldAt fRow_0 rfl fa37_0 rfl <| .load rfl ty3 rfl <| .assign rfl rfl <| .nil ?_
        exact .keep [2, 5, 6, 7] [] rfl (hj2 _ _)
      · exact .skip <| .keep [2, 5, 6, 7] [] rfl (hj2 _ _)
  · refine .region <| .fieldP rfl fa27_2 rfl <| .loadP 0 fTable_2 rfl rfl ty25 rfl <| .lenL rfl Tryz.underlying25 rfl <| .bin rfl rfl rfl rfl <| .move rfl rfl <| .split 19 rfl (fun _ => ?_) (fun _ => ?_)
    · refine .on rfl rfl <| .move rfl rfl <| .on rfl rfl <| .call1 1 (c74 fu _ _ _) rfl n74 rfl rfl fun q14 => .on rfl rfl <| .bin rfl rfl rfl rfl <| .pickT rfl rfl rfl <| .nil ?_
      exact .keep [2, 5, 6, 7, 23] [] rfl (hj1 _ _)
    · refine .off rfl rfl rfl <| .off rfl rfl rfl <| .off rfl rfl rfl <| .pickF rfl rfl rfl <| .nil ?_
      exact .keep [2, 5, 6, 7, 23] [] rfl (hj1 _ _)
def f75 (fu : Nat) (a0 : Table) (a1 : Int) (a2 : List Set) : Option (Table × Int) := (f48 fu a0 a1).bind fun q3 => cond (decide (q3 < 0)) ((f80 fu a0).bind fun q4 => some (q4, 5)) ((f66 fu a0).bind fun q6 => (f80 fu a0).bind fun q7 => cond (decide (0 ≤ q3) && decide (q3 < (List.length a0.rows : Int))) ((f49 fu a0 (a0.rows.getD q3.toNat default)).bind fun q10 => (f99 fu q6 q10 a2).bind fun q12 => cond (!q12.1) ((f80 fu a0).bind fun q13 => some (q13, 1)) (cond (decide (0 ≤ q3) && decide (q3 < (List.length q7.rows : Int))) ((f58 fu q6 q12.2).bind fun q15 => cond (!q15) ((f80 fu a0).bind fun q16 => some (q16, 2)) ((f59 fu (⟨q7.first, q7.changes, q7.rows.set q3.toNat (⟨a1, (List.length a0.changes : Int), q12.2⟩ : Row), q7.next⟩ : Table)).bind fun q18 => cond (!q18) ((f80 fu a0).bind fun q19 => some (q19, 3)) (some ((⟨q7.first, q7.changes, q7.rows.set q3.toNat (⟨a1, (List.length a0.changes : Int), q12.2⟩ : Row), q7.next⟩ : Table), 0)))) none)) none)
theorem n75 : ∃ fn c, Tryz.prog.funcs[35]? = some fn ∧ (fn.name == "runtime.NumGoroutine") = false ∧ fn.body = some c := ⟨_, _, Tryz.func35, by kernel_rfl, rfl⟩
theorem c75 (fu : Nat) (a0 : Table) (a1 : Int) (a2 : List Set) : Ctr Tryz.prog 35 [tTable.va a0, isI .i64 a1, (tL tSet).va a2] [] (f75 fu a0 a1 a2) (fun _ _ => []) (fun q => tup [tTable.va q.1, isI .i64 q.2]) := by
  refine Ctr.of_W Tryz.func35 rfl Tryz.ntmps35 rfl fun A w => ?_
  unfold f75
  refine .seq <| .region <| .box (T := tTable) rfl rfl fun b1 => .alloc tTableA d0A27 [] zA27 rfl fun b2 => .assign rfl rfl <| .nil ?_
  refine .seq <| .region <| .loadP 1 (Fld.self _) rfl rfl ty27 rfl <| .move rfl rfl <| .call0 (c48 fu _ _) n48 rfl rfl fun q3 => .assign rfl rfl <| .nil ?_
  refine .seq <| .seq <| .region <| .move rfl rfl <| .bin rfl rfl rfl rfl <| .nil ?_
  refine .cond rfl (fun _ => ?_) (fun _ => ?_)
  · refine .seq <| .region <| .loadP 1 (Fld.self _) rfl rfl ty27 rfl <| .callL0 (c80 fu _) n80 rfl rfl fun q4 p5 => .storeP 2 (Fld.self _) rfl rfl rfl ty27 <| .assign rfl rfl <| .nil ?_
    exact .frzBox 2 0 conv27 rfl rfl <| .ret2 Tryz.func35 Tryz.results35 (.cell 2 rfl rfl ty27) (.tmp rfl) rfl (fun _ => .cons _ <| .cons _ <| .cons _ <| .cons _ <| .slnil)
  · refine .skip <| .seq <| .region <| .loadP 1 (Fld.self _) rfl rfl ty27 rfl <| .call0 (c66 fu _) n66 rfl rfl fun q6 => .assign rfl rfl <| .nil ?_
    refine .seq <| .region <| .loadP 1 (Fld.self _) rfl rfl ty27 rfl <| .callL0 (c80 fu _) n80 rfl rfl fun q7 p8 => .alloc tTableA d0A27 [] zA27 rfl fun b9 => .storeP 0 (Fld.self _) rfl rfl rfl ty27 <| .nil ?_
    refine .seq <| .pT fun h1 => ?_
    refine .draw 6 [] mix (by kernel_rfl) (.cons (fun _ _ _ hP hE h => .loadP 4 (Fld.self _) (hE.op rfl) (hP.get rfl rfl) ty27 rfl <| h) <| .cons (fun _ _ _ hP hE h => .fieldP (hE.op rfl) fa27_2 rfl <| h) <| .cons (fun _ _ _ hP hE h => .loadP 4 fTable_2 (hE.op rfl) (hP.get rfl rfl) ty25 rfl <| h) <| .cons (fun _ _ _ hP hE h => .move (hE.op rfl) rfl <| h) <| .cons (fun _ _ _ hP hE h => .useC h1 <| .elemAt (hE.op rfl) (hE.op rfl) Tryz.underlying25 ty37 rfl <| h) <| .cons (fun _ _ _ hP hE h => .load (hE.op rfl) ty37 rfl <| h) <| .nil) rfl <| .callL0 (c49 fu _ _) n49 rfl rfl fun q10 v11 => .unRaw 29 rfl <| .assign rfl rfl <| .nil ?_
    refine .seq <| .seq <| .region <| .move rfl rfl <| .move rfl rfl <| .move rfl rfl <| .call1 0 (c99 fu _ _ _ _) rfl n99 rfl rfl fun q12 => .not rfl rfl <| .nil ?_
    refine .cond rfl (fun _ => ?_) (fun _ => ?_)
    · refine .seq <| .region <| .loadP 5 (Fld.self _) rfl rfl ty27 rfl <| .callL0 (c80 fu _) n80 rfl rfl fun q13 p14 => .storeP 6 (Fld.self _) rfl rfl rfl ty27 <| .assign rfl rfl <| .nil ?_
      exact .frzBox 6 0 conv27 rfl rfl <| .ret2 Tryz.func35 Tryz.results35 (.cell 6 rfl rfl ty27) (.tmp rfl) rfl (fun _ => .cons _ <| .cons _ <| .cons _ <| .cons _ <| .cons _ <| .cons _ <| .cons _ <| .cons _ <| .slnil)
    · refine .skip <| .seq <| .region <| .fieldP rfl fa27_2 rfl <| .loadR 1 fTableA_2 rfl rfl ty25 rfl <| .know 38 rfl <| .move rfl rfl <| .move rfl rfl <| .fieldP rfl fa27_1 rfl <| .loadP 5 fTable_1 rfl rfl ty24 rfl <| .lenL rfl Tryz.underlying24 rfl <| .move rfl rfl <| .frz 0 11 rfl rfl <| .also 44 11 rfl rfl <| .build rfl st37 z37 (.cons fRow_0 rfl rfl <| .cons fRow_1 rfl rfl <| .cons fRow_2 rfl rfl <| .nil) rfl <| .elemA 2 rfl rfl rfl Tryz.underlying25 ty37 rfl <| .storeA 2 (Fld.self _) rfl rfl rfl ty37 <| .nil ?_
      refine .seq <| .block <| .seq <| .region <| .move rfl rfl <| .move rfl rfl <| .call0 (c58 fu _ _) n58 rfl rfl fun q15 => .not rfl rfl <| .assign rfl rfl <| .nil ?_
      refine .cond rfl (fun _ => ?_) (fun _ => ?_)
      · refine .seq <| .region <| .loadP 5 (Fld.self _) rfl rfl ty27 rfl <| .callL0 (c80 fu _) n80 rfl rfl fun q16 p17 => .storeP 6 (Fld.self _) rfl rfl rfl ty27 <| .assign rfl rfl <| .nil ?_
        exact .frzBox 6 0 conv27 rfl rfl <| .ret2 Tryz.func35 Tryz.results35 (.cell 6 rfl rfl ty27) (.tmp rfl) rfl (fun _ => .cons _ <| .cons _ <| .cons _ <| .cons _ <| .cons _ <| .cons _ <| .cons _ <| .cons _ <| .slnil)
      · refine .seq <| .frzBox 1 2 conv27 rfl rfl <| .region <| .loadP 1 (Fld.self _) rfl rfl ty27 rfl <| .call0 (c59 fu _) n59 rfl rfl fun q18 => .not rfl rfl <| .assign rfl rfl <| .nil ?_
        refine .cond rfl (fun _ => ?_) (fun _ => ?_)
        · refine .seq <| .region <| .loadP 5 (Fld.self _) rfl rfl ty27 rfl <| .callL0 (c80 fu _) n80 rfl rfl fun q19 p20 => .storeP 6 (Fld.self _) rfl rfl rfl ty27 <| .assign rfl rfl <| .nil ?_
          exact .frzBox 6 0 conv27 rfl rfl <| .ret2 Tryz.func35 Tryz.results35 (.cell 6 rfl rfl ty27) (.tmp rfl) rfl (fun _ => .cons _ <| .cons _ <| .cons _ <| .cons _ <| .cons _ <| .cons _ <| .cons _ <| .cons _ <| .slnil)
        · refine .skip <| .inBlock <| .seq <| .region <| .loadP 1 (Fld.self _) rfl rfl ty27 rfl <| .storeW 4 rfl rfl rfl rfl ty27 <| .assign rfl rfl <| .nil ?_
          exact .ret2 Tryz.func35 Tryz.results35 (.cell 4 rfl rfl ty27) (.tmp rfl) rfl (fun _ => .cons _ <| .cons _ <| .cons _ <| .cons _ <| .cons _ <| .cons _ <| .slnil)
def f32 (fu : Nat) (a0 : Table) (a1 : Int) (a2 : List Set) : Option (Table × Int) := (f19 fu a0).bind fun q3 => cond (!q3) (some ((⟨d0_27.first, d0_27.changes, d0_27.rows, d0_27.next⟩ : Table), 1)) ((f75 fu a0 a1 a2).bind fun q4 => some (q4.1, q4.2))
theorem n32 : ∃ fn c, Tryz.prog.funcs[10]? = some fn ∧ (fn.name == "runtime.NumGoroutine") = false ∧ fn.body = some c := ⟨_, _, Tryz.func10, by kernel_rfl, rfl⟩
theorem c32 (fu : Nat) (a0 : Table) (a1 : Int) (a2 : List Set) : Ctr Tryz.prog 10 [tTable.va a0, isI .i64 a1, (tL tSet).va a2] [] (f32 fu a0 a1 a2) (fun _ _ => []) (fun q => tup [tTable.va q.1, isI .i64 q.2]) := by
  refine Ctr.of_W Tryz.func10 rfl Tryz.ntmps10 rfl fun A w => ?_
  unfold f32
  refine .seq <| .region <| .box (T := tTable) rfl rfl fun b1 => .alloc tTable d0_27 [] z27 rfl fun b2 => .assign rfl rfl <| .nil ?_
  refine .seq <| .seq <| .region <| .loadP 1 (Fld.self _) rfl rfl ty27 rfl <| .call0 (c19 fu _) n19 rfl rfl fun q3 => .not rfl rfl <| .nil ?_
  refine .cond rfl (fun _ => ?_) (fun _ => ?_)
  · refine .seq <| .region <| .build rfl st27 z27 (.nil) rfl <| .storeP 0 (Fld.self _) rfl rfl rfl ty27 <| .assign rfl rfl <| .nil ?_
    exact .ret2 Tryz.func10 Tryz.results10 (.cell 0 rfl rfl ty27) (.tmp rfl) rfl (fun _ => .cons _ <| .cons _ <| .slnil)
  · refine .skip <| .seq <| .region <| .loadP 1 (Fld.self _) rfl rfl ty27 rfl <| .move rfl rfl <| .move rfl rfl <| .call0 (c75 fu _ _ _) n75 rfl rfl fun q4 => .extract rfl rfl rfl <| .extract rfl rfl rfl <| .storeP 0 (Fld.self _) rfl rfl rfl ty27 <| .assign rfl rfl <| .nil ?_
    exact .ret2 Tryz.func10 Tryz.results10 (.cell 0 rfl rfl ty27) (.tmp rfl) rfl (fun _ => .cons _ <| .cons _ <| .slnil)
def f33 (fu : Nat) (a0 : Table) (a1 : Int) (a2 : List Set) : Option (Table × Int) := (f17 fu a0).bind fun q3 => cond (!q3) (some ((⟨d0_27.first, d0_27.changes, d0_27.rows, d0_27.next⟩ : Table), 1)) ((f42 fu a0).bind fun q4 => (f76 fu q4 a1 a2).bind fun q6 => some (q6.1, q6.2))
theorem n33 : ∃ fn c, Tryz.prog.funcs[11]? = some fn ∧ (fn.name == "runtime.NumGoroutine") = false ∧ fn.body = some c := ⟨_, _, Tryz.func11, by kernel_rfl, rfl⟩
theorem c33 (fu : Nat) (a0 : Table) (a1 : Int) (a2 : List Set) : Ctr Tryz.prog 11 [tTable.va a0, isI .i64 a1, (tL tSet).va a2] [] (f33 fu a0 a1 a2) (fun _ _ => []) (fun q => tup [tTable.va q.1, isI .i64 q.2]) := by
  refine Ctr.of_W Tryz.func11 rfl Tryz.ntmps11 rfl fun A w => ?_
  unfold f33
  refine .seq <| .region <| .box (T := tTable) rfl rfl fun b1 => .alloc tTable d0_27 [] z27 rfl fun b2 => .assign rfl rfl <| .nil ?_
  refine .seq <| .seq <| .region <| .loadP 1 (Fld.self _) rfl rfl ty27 rfl <| .call0 (c17 fu _) n17 rfl rfl fun q3 => .not rfl rfl <| .nil ?_
  refine .cond rfl (fun _ => ?_) (fun _ => ?_)
  · refine .seq <| .region <| .build rfl st27 z27 (.nil) rfl <| .storeP 0 (Fld.self _) rfl rfl rfl ty27 <| .assign rfl rfl <| .nil ?_
    exact .ret2 Tryz.func11 Tryz.results11 (.cell 0 rfl rfl ty27) (.tmp rfl) rfl (fun _ => .cons _ <| .cons _ <| .slnil)
  · refine .skip <| .seq <| .region <| .loadP 1 (Fld.self _) rfl rfl ty27 rfl <| .callL0 (c42 fu _) n42 rfl rfl fun q4 p5 => .move rfl rfl <| .move rfl rfl <| .callS 0 (c76 fu _ _ _ _ _) rfl n76 rfl rfl fun q6 p7 => .extract rfl rfl rfl <| .extract rfl rfl rfl <| .frzT 17 0 conv27 rfl rfl <| .storeP 2 (Fld.self _) rfl rfl rfl ty27 <| .assign rfl rfl <| .nil ?_
    exact .ret2 Tryz.func11 Tryz.results11 (.cell 2 rfl rfl ty27) (.tmp rfl) rfl (fun _ => .cons _ <| .cons _ <| .cons _ <| .cons _ <| .slnil)
end Go.Proofs.YtlkhmcajnfombaaGreatDoor
