/- Functions of the program: what each answers, and that the machine answers so. -/
import Derived.Test.YtlkhmcajnfombaaGreatDoorQ1007A13
import Derived.KernelRfl
import Derived.KernelRfl
set_option linter.unusedVariables false
set_option linter.unusedSimpArgs false
set_option linter.deprecated false
set_option linter.unusedSectionVars false
set_option linter.all false
namespace Go.Proofs.YtlkhmcajnfombaaGreatDoor
open Go Go.HL
def f1024 (fu : Nat) (a0 : List Int) : Option Table := (f60 fu a0).bind fun q2 => (f61 fu q2).bind fun q4 => some q4.1
theorem n1024 : ∃ fn c, Tryz.prog.funcs[24]? = some fn ∧ (fn.name == "runtime.NumGoroutine") = false ∧ fn.body = some c := ⟨_, _, Tryz.func24, by kernel_rfl, rfl⟩
theorem c1024 (fu : Nat) (a0 : List Int) : Ctr Tryz.prog 24 [(tL (tI .u8)).va a0] [] (f1024 fu a0) (fun _ _ => []) (fun q => tTable.va q) := by
  refine Ctr.of_W Tryz.func24 rfl Tryz.ntmps24 rfl fun A w => ?_
  unfold f1024
  refine .seq <| .region <| .alloc tTable d0_27 [] z27 rfl fun b1 => .nil ?_
  refine .seq <| .region <| .move rfl rfl <| .callP (c60 fu _) n60 rfl rfl fun q2 b3 => .call1 0 (c61 fu _ _) rfl n61 rfl rfl fun q4 => .storeP 1 (Fld.self _) rfl rfl rfl ty27 <| .nil ?_
  exact .ret1 Tryz.func24 Tryz.results24 (.cell 1 rfl rfl ty27) rfl (fun _ _ => .cons _ <| .cons _ <| .slnil)
def f1026_l1 (fu : Nat) (a0 : Table) : Nat → Int → Table → Option Table
  | 0, _, _ => none
  | n1 + 1, i6, i7 => cond (decide (i6 < (List.length a0.rows : Int))) (cond (decide (0 ≤ i6) && decide (i6 < (List.length a0.rows : Int))) (cond (decide (0 ≤ i6) && decide (i6 < (List.length a0.rows : Int))) ((f90 fu a0 (a0.rows.getD i6.toNat default)).bind fun q9 => cond (decide (List.length i7.rows + List.length ([(⟨(a0.rows.getD i6.toNat default).id, d0_37.ver, q9⟩ : Row)] : List Row) ≤ CAP)) ((f1026_l1 fu a0 n1) (IntKind.i64.wrap (i6 + 1)) (⟨i7.first, i7.changes, i7.rows ++ ([(⟨(a0.rows.getD i6.toNat default).id, d0_37.ver, q9⟩ : Row)] : List Row), i7.next⟩ : Table)) none) none) none) (some i7)
def f1026 (fu : Nat) (a0 : Table) : Option Table := (f17 fu a0).bind fun q3 => cond (!q3) (some (⟨([] : List Col), ([] : List Change), ([] : List Row), (0 : Int)⟩ : Table)) ((f53 fu a0).bind fun q4 => f1026_l1 fu a0 fu 0 (⟨q4, ([] : List Change), ([] : List Row), a0.next⟩ : Table))
theorem n1026 : ∃ fn c, Tryz.prog.funcs[26]? = some fn ∧ (fn.name == "runtime.NumGoroutine") = false ∧ fn.body = some c := ⟨_, _, Tryz.func26, by kernel_rfl, rfl⟩
theorem c1026 (fu : Nat) (a0 : Table) : Ctr Tryz.prog 26 [tTable.va a0] [] (f1026 fu a0) (fun _ _ => []) (fun q => tTable.va q) := by
  refine Ctr.of_W Tryz.func26 rfl Tryz.ntmps26 rfl fun A w => ?_
  unfold f1026
  refine .seq <| .region <| .box (T := tTable) rfl rfl fun b1 => .alloc tTableA d0A27 [] zA27 rfl fun b2 => .nil ?_
  refine .seq <| .seq <| .region <| .loadP 1 (Fld.self _) rfl rfl ty27 rfl <| .call0 (c17 fu _) n17 rfl rfl fun q3 => .not rfl rfl <| .nil ?_
  refine .cond rfl (fun _ => ?_) (fun _ => ?_)
  · refine .seq <| .region <| .buildA rfl st27 zA27 (.nil) rfl <| .storeP 0 (Fld.self _) rfl rfl rfl ty27 <| .arrNil tRow <| .nil ?_
    exact .frzBox 1 0 conv27 rfl rfl <| .ret1 Tryz.func26 Tryz.results26 (.cell 1 rfl rfl ty27) rfl (fun _ _ => .cons _ <| .cons _ <| .cons _ <| .slnil)
  · refine .skip <| .seq <| .pbind fun q4 h1 => ?_
    refine .drawS 6 [] [5] [] mix (by kernel_rfl) (.cons (fun _ _ _ hP hE h => .loadP 1 (Fld.self _) (hE.op rfl) (hP.get rfl rfl) ty27 rfl <| h) <| .cons (fun _ _ _ hP hE h => .bindE h1 (fun r h => .call0 (c53 fu _) n53 (hE.ops rfl) rfl h) <| h) <| .cons (fun _ _ _ hP hE h => .fieldP (hE.op rfl) fa27_3 rfl <| h) <| .cons (fun _ _ _ hP hE h => .loadP 1 fTable_3 (hE.op rfl) (hP.get rfl rfl) ty3 rfl <| h) <| .cons (fun _ _ _ hP hE h => .buildA rfl st27 zA27 (.cons fTableA_0 rfl (vOf (hE.op rfl)) <| .cons fTableA_3 rfl (vOf (hE.op rfl)) <| .nil) rfl <| h) <| .skip <| .nil) rfl <| .cons (d := 3) rfl rfl fun _ _ hE h => .alloc tTableA d0A27 [] zA27 rfl fun b5 => .toEnd <| h _ _ (.same <| .same <| .nil) <| .nil <| .storeP 2 (Fld.self _) rfl rfl rfl ty27 <| .arrNil tRow <| .nil ?_
    refine .seq <| .seq <| .region <| .assign rfl rfl <| .nil ?_
    refine .block <| .loop <| .keep [1, 2, 3, 4] [] rfl ?_
    refine (show ∀ (n1 : Nat) (i6 : Int) (i7 : Table) (v8 : Value), W _ _ _ _ _ ⟨[(1, isP b1 0, none), (2, isP b2 0, none), (3, isP b5 0, none), (4, isI .i64 i6, none)], [arrO tRow v8 i7.rows, boxO b2 tTableA (⟨([] : List Col), ((.slice none 0 0), ([] : List Change)), (.slice none 0 0), (0 : Int)⟩ : TableA) [], boxO b1 tTable a0 [], boxO b5 tTableA (⟨i7.first, ((.slice none 0 0), i7.changes), v8, i7.next⟩ : TableA) []]⟩ (f1026_l1 fu a0 n1 i6 i7) from ?_) fu _ _ _
    intro n1
    induction n1 with
    | zero => exact fun _ _ _ => .stop
    | succ n1 ih1 =>
      intro i6 i7 v8
      refine .inLoop <| .seq <| .seq <| .region <| .move rfl rfl <| .fieldP rfl fa27_2 rfl <| .loadP 2 fTable_2 rfl rfl ty25 rfl <| .lenL rfl Tryz.underlying25 rfl <| .bin rfl rfl rfl rfl <| .nil ?_
      refine .cond rfl (fun _ => ?_) (fun _ => ?_)
      · refine .skip <| .seq <| .block <| .pT fun h5 => ?_
        refine .pT fun h6 => ?_
        refine .pbind fun q9 h7 => ?_
        refine .draw 17 [] mix (by kernel_rfl) (.cons (fun _ _ _ hP hE h => .fieldP (hE.op rfl) fa27_2 rfl <| h) <| .cons (fun _ _ _ hP hE h => .loadR 3 fTableA_2 (hE.op rfl) (hP.get rfl rfl) ty25 rfl <| h) <| .cons (fun _ _ _ hP hE h => .fieldP (hE.op rfl) fa27_2 rfl <| h) <| .cons (fun _ _ _ hP hE h => .loadP 2 fTable_2 (hE.op rfl) (hP.get rfl rfl) ty25 rfl <| h) <| .cons (fun _ _ _ hP hE h => .move (hE.op rfl) rfl <| h) <| .cons (fun _ _ _ hP hE h => .useC h5 <| .elemAt (hE.op rfl) (hE.op rfl) Tryz.underlying25 ty37 rfl <| h) <| .cons (fun _ _ _ hP hE h => .fieldAt fRow_0 (hE.op rfl) fa37_0 rfl <| h) <| .cons (fun _ _ _ hP hE h => .load (hE.op rfl) ty3 rfl <| h) <| .cons (fun _ _ _ hP hE h => .loadP 2 (Fld.self _) (hE.op rfl) (hP.get rfl rfl) ty27 rfl <| h) <| .cons (fun _ _ _ hP hE h => .fieldP (hE.op rfl) fa27_2 rfl <| h) <| .cons (fun _ _ _ hP hE h => .loadP 2 fTable_2 (hE.op rfl) (hP.get rfl rfl) ty25 rfl <| h) <| .cons (fun _ _ _ hP hE h => .move (hE.op rfl) rfl <| h) <| .cons (fun _ _ _ hP hE h => .useC h6 <| .elemAt (hE.op rfl) (hE.op rfl) Tryz.underlying25 ty37 rfl <| h) <| .cons (fun _ _ _ hP hE h => .load (hE.op rfl) ty37 rfl <| h) <| .cons (fun _ _ _ hP hE h => .bindE h7 (fun r h => .call0 (c90 fu _ _) n90 (hE.ops rfl) rfl h) <| h) <| .cons (fun _ _ _ hP hE h => .build rfl st37 z37 (.cons fRow_0 rfl (hE.op rfl) <| .cons fRow_2 rfl (hE.op rfl) <| .nil) rfl <| h) <| .cons (fun _ _ _ hP hE h => .litN (T := tRow) Tryz.underlying25 el37 rfl rfl (.cons (hE.op rfl) <| .nil) rfl <| h) <| .nil) rfl <| .appA (T := tRow) 0 rfl rfl rfl Tryz.underlying25 el37 rfl fun v10 => .fieldP rfl fa27_2 rfl <| .toRaw (T := tRow) 0 38 rfl rfl <| .storeP 3 fTableA_2 rfl rfl rfl ty25 <| .nil ?_
        refine .inBlock <| .region <| .move rfl rfl <| .bin rfl rfl rfl rfl <| .assign rfl rfl <| .nil ?_
        exact .keep [1, 2, 3, 4] [] rfl (ih1 _ _ _)
      · refine .exit rfl <| .seq <| .region <| .loadP 3 (Fld.self _) rfl rfl ty27 rfl <| .storeP 1 (Fld.self _) rfl rfl rfl ty27 <| .nil ?_
        exact .frzBox 1 0 conv27 rfl rfl <| .ret1 Tryz.func26 Tryz.results26 (.cell 1 rfl rfl ty27) rfl (fun _ _ => .cons _ <| .cons _ <| .cons _ <| .cons _ <| .slnil)
end Go.Proofs.YtlkhmcajnfombaaGreatDoor
