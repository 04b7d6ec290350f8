/- Functions of the program: what each answers, and that the machine answers so. -/
import Derived.Test.YtlkhmcajnfombaaGreatDoorQ1006A10
import Derived.KernelRfl
import Derived.KernelRfl
set_option linter.unusedVariables false
set_option linter.unusedSimpArgs false
set_option linter.deprecated false
set_option linter.unusedSectionVars false
set_option linter.all false
namespace Go.Proofs.YtlkhmcajnfombaaGreatDoor
open Go Go.HL
def f34_l1 (fu : Nat) (a0 : Table) (i5 : Table) : Nat → Int → (List Row) → Option Table
  | 0, _, _ => none
  | n1 + 1, i7, i8 => cond (decide (i7 < (List.length a0.rows : Int))) (cond (decide (0 ≤ i7) && decide (i7 < (List.length a0.rows : Int))) ((f49 fu a0 (a0.rows.getD i7.toNat default)).bind fun q10 => cond (decide (0 ≤ i7) && decide (i7 < (List.length i8 : Int))) ((f34_l1 fu a0 i5 n1) (IntKind.i64.wrap (i7 + 1)) (i8.set i7.toNat (⟨(a0.rows.getD i7.toNat default).id, 0, q10⟩ : Row))) none) none) (some (⟨i5.first, i5.changes, i8, i5.next⟩ : Table))
def f34_j1 (fu : Nat) (a0 : Table) (i5 : Table) : Option Table := f34_l1 fu a0 i5 fu 0 i5.rows
def f34 (fu : Nat) (a0 : Table) : Option Table := (f19 fu a0).bind fun q3 => cond (!q3) (some (⟨([] : List Col), ([] : List Change), ([] : List Row), (0 : Int)⟩ : Table)) ((f66 fu a0).bind fun q12 => (f77 a0.rows).bind fun q13 => f34_j1 fu a0 (⟨q12, ([] : List Change), q13, a0.next⟩ : Table))
theorem n34 : ∃ fn c, Tryz.prog.funcs[25]? = some fn ∧ (fn.name == "runtime.NumGoroutine") = false ∧ fn.body = some c := ⟨_, _, Tryz.func25, by kernel_rfl, rfl⟩
theorem c34 (fu : Nat) (a0 : Table) : Ctr Tryz.prog 25 [tTable.va a0] [] (f34 fu a0) (fun _ _ => []) (fun q => tTable.va q) := by
  refine Ctr.of_W Tryz.func25 rfl Tryz.ntmps25 rfl fun A w => ?_
  unfold f34
  refine .seq <| .region <| .box (T := tTable) rfl rfl fun b1 => .alloc tTableA d0A27 [] zA27 rfl fun b2 => .nil ?_
  refine .seq <| .seq <| .region <| .loadP 1 (Fld.self _) rfl rfl ty27 rfl <| .call0 (c19 fu _) n19 rfl rfl fun q3 => .not rfl rfl <| .nil ?_
  refine .cond rfl (fun _ => ?_) (fun _ => ?_)
  · refine .seq <| .region <| .buildA rfl st27 zA27 (.nil) rfl <| .storeP 0 (Fld.self _) rfl rfl rfl ty27 <| .arrNil tRow <| .nil ?_
    exact .frzBox 1 0 conv27 rfl rfl <| .ret1 Tryz.func25 Tryz.results25 (.cell 1 rfl rfl ty27) rfl (fun _ _ => .cons _ <| .cons _ <| .cons _ <| .slnil)
  · refine .skip <| .seq <| .join3 (fun b4 i5 v6 => ⟨[(1, isP b1 0, none), (2, isP b2 0, none), (3, isP b4 0, none)], [boxO b2 tTableA (⟨([] : List Col), ((.slice none 0 0), ([] : List Change)), (.slice none 0 0), (0 : Int)⟩ : TableA) [], boxO b1 tTable a0 [], arrO tRow v6 i5.rows, boxO b4 tTableA (⟨i5.first, ((.slice none 0 0), i5.changes), v6, i5.next⟩ : TableA) []]⟩) (fun b4 i5 v6 => f34_j1 fu a0 i5) (fun b4 i5 v6 => ?_) (fun hj1 => ?_)
    · refine .seq <| .seq <| .region <| .fieldP rfl fa27_2 rfl <| .loadP 1 fTable_2 rfl rfl ty25 rfl <| .lenL rfl Tryz.underlying25 rfl <| .move rfl rfl <| .nil ?_
      refine .block <| .loop <| .keep [1, 2, 3, 19, 20, 21] [] rfl ?_
      refine (show ∀ (n1 : Nat) (i7 : Int) (i8 : List Row), W _ _ _ _ _ ⟨[(1, isP b1 0, none), (2, isP b2 0, none), (3, isP b4 0, none), (19, (tL tRow).va a0.rows, none), (20, isI .i64 (List.length a0.rows : Int), none), (21, isI .i64 i7, none)], [boxO b2 tTableA (⟨([] : List Col), ((.slice none 0 0), ([] : List Change)), (.slice none 0 0), (0 : Int)⟩ : TableA) [], boxO b1 tTable a0 [], arrO tRow v6 i8, boxO b4 tTableA (⟨i5.first, ((.slice none 0 0), i5.changes), v6, i5.next⟩ : TableA) []]⟩ (f34_l1 fu a0 i5 n1 i7 i8) from ?_) fu _ _
      intro n1
      induction n1 with
      | zero => exact fun _ _ => .stop
      | succ n1 ih1 =>
        intro i7 i8
        refine .inLoop <| .seq <| .region <| .bin rfl rfl rfl rfl <| .nil ?_
        refine .seq <| .cond rfl (fun _ => ?_) (fun _ => ?_)
        · refine .skip <| .seq <| .block <| .seq <| .region <| .move rfl rfl <| .elemAt rfl rfl Tryz.underlying25 ty37 rfl <| .load rfl ty37 rfl <| .alloc tRow d0_37 [] z37 rfl fun b9 => .assign rfl rfl <| .storeP 0 (Fld.self _) rfl rfl rfl ty37 <| .nil ?_
          refine .pbind fun q10 h2 => ?_
          refine .draw 9 [] mix (by kernel_rfl) (.cons (fun _ _ _ hP hE h => .fieldP (hE.op rfl) fa27_2 rfl <| h) <| .cons (fun _ _ _ hP hE h => .loadR 4 fTableA_2 (hE.op rfl) (hP.get rfl rfl) ty25 rfl <| h) <| .cons (fun _ _ _ hP hE h => .move (hE.op rfl) rfl <| h) <| .cons (fun _ _ _ hP hE h => .fieldP (hE.op rfl) fa37_0 rfl <| h) <| .cons (fun _ _ _ hP hE h => .loadP 0 fRow_0 (hE.op rfl) (hP.get rfl rfl) ty3 rfl <| h) <| .cons (fun _ _ _ hP hE h => .loadP 2 (Fld.self _) (hE.op rfl) (hP.get rfl rfl) ty27 rfl <| h) <| .cons (fun _ _ _ hP hE h => .loadP 0 (Fld.self _) (hE.op rfl) (hP.get rfl rfl) ty37 rfl <| h) <| .cons (fun _ _ _ hP hE h => .bindE h2 (fun r h => .call0 (CtrL.plain (c49 fu _ _)) n49 (hE.ops rfl) rfl h) <| h) <| .cons (fun _ _ _ hP hE h => .build rfl st37 z37 (.cons fRow_0 rfl (hE.op rfl) <| .cons fRow_1 rfl (hE.op rfl) <| .cons fRow_2 rfl (hE.op rfl) <| .nil) rfl <| h) <| .nil) rfl <| .elemA 3 rfl rfl rfl Tryz.underlying25 ty37 rfl <| .storeA 3 (Fld.self _) rfl rfl rfl ty37 <| .nil ?_
          refine .inBlock <| .region <| .bin rfl rfl rfl rfl <| .move rfl rfl <| .nil ?_
          exact .keep [1, 2, 3, 19, 20, 21] [] rfl (.drop (.cons _ <| .cons_cons _ <| .cons_cons _ <| .cons_cons _ <| .cons_cons _ <| .slnil) <| ih1 _ _)
        · refine .exit rfl <| .seq <| .region <| .loadP 3 (Fld.self _) rfl rfl ty27 rfl <| .storeP 0 (Fld.self _) rfl rfl rfl ty27 <| .nil ?_
          exact .frzBox 0 2 conv27 rfl rfl <| .ret1 Tryz.func25 Tryz.results25 (.cell 0 rfl rfl ty27) rfl (fun _ _ => .cons _ <| .cons _ <| .cons _ <| .cons _ <| .slnil)
    · refine .pbind fun q12 h3 => ?_
      refine .pbind fun q13 h4 => ?_
      refine .drawF 9 [] [4, 7] (some 8) [] mix (by kernel_rfl) (.cons (fun _ _ _ hP hE h => .loadP 1 (Fld.self _) (hE.op rfl) (hP.get rfl rfl) ty27 rfl <| h) <| .cons (fun _ _ _ hP hE h => .bindE h3 (fun r h => .call0 (c66 fu _) n66 (hE.ops rfl) rfl h) <| h) <| .cons (fun _ _ _ hP hE h => .fieldP (hE.op rfl) fa27_2 rfl <| h) <| .cons (fun _ _ _ hP hE h => .loadP 1 fTable_2 (hE.op rfl) (hP.get rfl rfl) ty25 rfl <| h) <| .skip <| .cons (fun _ _ _ hP hE h => .fieldP (hE.op rfl) fa27_3 rfl <| h) <| .cons (fun _ _ _ hP hE h => .loadP 1 fTable_3 (hE.op rfl) (hP.get rfl rfl) ty3 rfl <| h) <| .skip <| .skip <| .nil) rfl ?_
      refine .next ?_ ?_
      · refine .put 14 rfl rfl fun _ _ hE h => .bindE2 h4 (fun r h => .callL0 (c77 _) n77 (hE.ops rfl) rfl h) fun v14 => .toEnd <| h _ _ (.same <| .same <| .nil) ?_
        refine .next ?_ ?_
        · refine .put 17 rfl rfl fun _ _ hE h => .buildA rfl st27 zA27 (.cons fTableA_0 rfl (vOf (hE.op rfl)) <| .cons fTableA_2 rfl (vOf (hE.op rfl)) <| .cons fTableA_3 rfl (vOf (hE.op rfl)) <| .nil) rfl <| h _ _ (.same <| .same <| .nil) ?_
          refine .last <| .put 3 rfl rfl fun _ _ hE h => .alloc tTableA d0A27 [] zA27 rfl fun b11 => .toEnd <| h _ _ (.same <| .same <| .nil) <| .nil <| .storeP 3 (Fld.self _) rfl rfl rfl ty27 <| .nil ?_
          exact .keep [1, 2, 3] [] rfl (hj1 _ _ _)
        · refine .put 3 rfl rfl fun _ _ hE h => .alloc tTableA d0A27 [] zA27 rfl fun b11 => .toEnd <| h _ _ (.same <| .same <| .nil) <| .cons (d := 17) rfl rfl fun _ _ hE h => .buildA rfl st27 zA27 (.cons fTableA_0 rfl (vOf (hE.op rfl)) <| .cons fTableA_2 rfl (vOf (hE.op rfl)) <| .cons fTableA_3 rfl (vOf (hE.op rfl)) <| .nil) rfl <| h _ _ (.same <| .same <| .nil) <| .nil <| .storeP 3 (Fld.self _) rfl rfl rfl ty27 <| .nil ?_
          exact .keep [1, 2, 3] [] rfl (hj1 _ _ _)
      · refine .put 3 rfl rfl fun _ _ hE h => .alloc tTableA d0A27 [] zA27 rfl fun b11 => .toEnd <| h _ _ (.same <| .same <| .nil) <| .cons (d := 14) rfl rfl fun _ _ hE h => .bindE2 h4 (fun r h => .callL0 (c77 _) n77 (hE.ops rfl) rfl h) fun v14 => .toEnd <| h _ _ (.same <| .same <| .nil) <| .cons (d := 17) rfl rfl fun _ _ hE h => .buildA rfl st27 zA27 (.cons fTableA_0 rfl (vOf (hE.op rfl)) <| .cons fTableA_2 rfl (vOf (hE.op rfl)) <| .cons fTableA_3 rfl (vOf (hE.op rfl)) <| .nil) rfl <| h _ _ (.same <| .same <| .nil) <| .nil <| .pick [0, 0, 1, 0] rfl <| .storeP 3 (Fld.self _) rfl rfl rfl ty27 <| .nil ?_
        exact .keep [1, 2, 3] [] rfl (hj1 _ _ _)
end Go.Proofs.YtlkhmcajnfombaaGreatDoor
