/- Functions of the program: what each answers, and that the machine answers so. -/
import Derived.Test.YtlkhmcajnfombaaGreatDoorQ1004A4
import Derived.KernelRfl
set_option linter.unusedVariables false
set_option linter.unusedSimpArgs false
set_option linter.deprecated false
set_option linter.unusedSectionVars false
set_option linter.all false
namespace Go.Proofs.YtlkhmcajnfombaaGreatDoor
open Go Go.HL
theorem c42k (K fu : Nat) (a0 : Table) : CtrE Tryz.prog 37 [tTable.va a0] [] (f42 fu a0) tabV (fun q p (g : List RowA) => [arrO tRowA p.1 g, appO 10 p.2, factO K g q.rows, kO K g q.rows]) (fun q p => tTableA.va (⟨q.first, (p.2, q.changes), p.1, q.next⟩ : TableA)) := by
  refine CtrE.of_W Tryz.func37 rfl Tryz.ntmps37 rfl fun A w => ?_
  unfold f42
  refine .seq <| .region <| .box (T := tTable) rfl rfl fun b1 => .alloc tTableA d0A27 [] zA27 rfl fun b2 => .nil ?_
  refine .seq <| .join2 (fun b3 v4 => ⟨[(1, isP b1 0, none), (2, isP b2 0, none), (3, isP b3 0, none)], [arrO tRowA (.slice none 0 0) ([] : List RowA), boxO b2 tTableA (⟨([] : List Col), ((.slice none 0 0), ([] : List Change)), (.slice none 0 0), (0 : Int)⟩ : TableA) [], boxO b1 tTable a0 [], appO 10 v4, boxO b3 tTableA (⟨([] : List Col) ++ a0.first, (v4, ([] : List Change) ++ a0.changes), (.slice none 0 0), a0.next⟩ : TableA) []]⟩) (fun b3 v4 => f42_j1 fu a0) (fun b3 v4 => ?_) (fun hj1 => ?_)
  · refine .seq <| .seq <| .region <| .assign rfl rfl <| .nil ?_
    refine W_own0 (factO K [] []) rfl (fun _ _ => ⟨rfl, fun i ra r h => by simp at h⟩) <| W_own0 (kO K [] []) rfl (fun _ _ => trivial) ?_
    refine .block <| .loop <| .keep [1, 2, 3, 4] [] rfl ?_
    refine (show ∀ (n1 : Nat) (i5 : Int) (i6 : Table) (v7 : Value) (g : List RowA), W _ _ _ _ _ ⟨[(1, isP b1 0, none), (2, isP b2 0, none), (3, isP b3 0, none), (4, isI .i64 i5, none)], [arrO tRowA v7 g, boxO b2 tTableA (⟨([] : List Col), ((.slice none 0 0), ([] : List Change)), (.slice none 0 0), (0 : Int)⟩ : TableA) [], boxO b1 tTable a0 [], appO 10 v4, boxO b3 tTableA (⟨i6.first, (v4, i6.changes), v7, i6.next⟩ : TableA) [], factO K g i6.rows, kO K g i6.rows]⟩ (f42_l1 a0 n1 i5 i6) from ?_) fu _ _ _ _
    intro n1
    induction n1 with
    | zero => exact fun _ _ _ _ => .stop
    | succ n1 ih1 =>
      intro i5 i6 v7 g
      refine W_factLen 5 rfl fun hlen => ?_
      refine .inLoop <| .seq <| .seq <| .region <| .move rfl rfl <| .fieldP rfl fa27_2 rfl <| .loadP 2 fTable_2 rfl rfl ty25 rfl <| .lenL rfl Tryz.underlying25 rfl <| .bin rfl rfl rfl rfl <| .nil ?_
      refine .cond rfl (fun _ => ?_) (fun _ => ?_)
      · refine .skip <| .seq <| .block <| .pT fun h5 => ?_
        refine .pT fun h6 => ?_
        refine .pT fun h7 => ?_
        refine .pT fun h8 => ?_
        rw [← hlen]
        by_cases hK : i6.rows.length = K
        · subst hK
          refine .drawS 24 [] [21, 22, 23] [] mix (by kernel_rfl) (.cons (fun _ _ _ hP hE h => .fieldP (hE.op rfl) fa27_2 rfl <| h) <| .cons (fun _ _ _ hP hE h => .loadR 4 fTableA_2 (hE.op rfl) (hP.get rfl rfl) ty25 rfl <| h) <| .cons (fun _ _ _ hP hE h => .fieldP (hE.op rfl) fa27_2 rfl <| h) <| .cons (fun _ _ _ hP hE h => .loadP 2 fTable_2 (hE.op rfl) (hP.get rfl rfl) ty25 rfl <| h) <| .cons (fun _ _ _ hP hE h => .move (hE.op rfl) rfl <| h) <| .cons (fun _ _ _ hP hE h => .useC h5 <| .elemAt (hE.op rfl) (hE.op rfl) Tryz.underlying25 ty37 rfl <| h) <| .cons (fun _ _ _ hP hE h => .fieldAt fRow_0 (hE.op rfl) fa37_0 rfl <| h) <| .cons (fun _ _ _ hP hE h => .load (hE.op rfl) ty3 rfl <| h) <| .cons (fun _ _ _ hP hE h => .fieldP (hE.op rfl) fa27_2 rfl <| h) <| .cons (fun _ _ _ hP hE h => .loadP 2 fTable_2 (hE.op rfl) (hP.get rfl rfl) ty25 rfl <| h) <| .cons (fun _ _ _ hP hE h => .move (hE.op rfl) rfl <| h) <| .cons (fun _ _ _ hP hE h => .useC h6 <| .elemAt (hE.op rfl) (hE.op rfl) Tryz.underlying25 ty37 rfl <| h) <| .cons (fun _ _ _ hP hE h => .fieldAt fRow_1 (hE.op rfl) fa37_1 rfl <| h) <| .cons (fun _ _ _ hP hE h => .load (hE.op rfl) ty3 rfl <| h) <| .cons (fun _ _ _ hP hE h => .litE tVal Tryz.underlying42 el47 rfl rfl <| h) <| .cons (fun _ _ _ hP hE h => .fieldP (hE.op rfl) fa27_2 rfl <| h) <| .cons (fun _ _ _ hP hE h => .loadP 2 fTable_2 (hE.op rfl) (hP.get rfl rfl) ty25 rfl <| h) <| .cons (fun _ _ _ hP hE h => .move (hE.op rfl) rfl <| h) <| .cons (fun _ _ _ hP hE h => .useC h7 <| .elemAt (hE.op rfl) (hE.op rfl) Tryz.underlying25 ty37 rfl <| h) <| .cons (fun _ _ _ hP hE h => .fieldAt fRow_2 (hE.op rfl) fa37_2 rfl <| h) <| .cons (fun _ _ _ hP hE h => .load (hE.op rfl) ty32 rfl <| h) <| .skip <| .skip <| .skip <| .nil) rfl <| .cons (d := 44) rfl rfl fun _ _ hE h => .useC h8 <| .appEA (T := tVal) (hE.op rfl) (hE.op rfl) rfl Tryz.underlying42 el47 rfl fun v8 => .toEnd <| h _ _ (.same <| .same <| .same <| .same <| .same <| .same <| .same <| .nil) <| .cons (d := 45) rfl rfl fun _ _ hE h => .buildA rfl st37 zRA (.cons fRowA_0 rfl (vOf (hE.op rfl)) <| .cons fRowA_1 rfl (vOf (hE.op rfl)) <| .cons fRowA_2 rfl (rOf (T := tVal) 7 (hE.op rfl) rfl) <| .nil) rfl <| h _ _ (.same <| .same <| .same <| .same <| .same <| .same <| .same <| .nil) <| .cons (d := 46) rfl rfl fun _ _ hE h => .litN (T := tRowA) Tryz.underlying25 el37 rfl rfl (.cons (hE.op rfl) <| .nil) rfl <| h _ _ (.same <| .same <| .same <| .same <| .same <| .same <| .same <| .nil) <| .nil <| WO_eqr (by rfl) <| .appA (T := tRowA) 0 rfl rfl rfl Tryz.underlying25 el37 rfl fun v9 => WO_factAddK 5 (a0.rows.getD i5.toNat default).id (a0.rows.getD i5.toNat default).ver v8 ([] ++ (a0.rows.getD i5.toNat default).vals) rfl <| .fieldP rfl fa27_2 rfl <| .toRaw (T := tRowA) 0 47 rfl rfl <| .storeP 4 fTableA_2 rfl rfl rfl ty25 <| .nil ?_
          refine .inBlock <| .region <| .move rfl rfl <| .bin rfl rfl rfl rfl <| .assign rfl rfl <| .nil ?_
          exact .keep [1, 2, 3, 4] [] rfl (.pick [0, 0, 0, 0, 0, 0, 1] rfl <| W_bEq (by show _ = [_, _, _, _, _, _, kO _ (g ++ [_]) (i6.rows ++ [_])]; rw [kO_new hlen]; rfl) <| ih1 _ _ v9 (g ++ [⟨(a0.rows.getD i5.toNat default).id, (a0.rows.getD i5.toNat default).ver, v8⟩]))
        · refine .drawS 24 [] [21, 22, 23] [] mix (by kernel_rfl) (.cons (fun _ _ _ hP hE h => .fieldP (hE.op rfl) fa27_2 rfl <| h) <| .cons (fun _ _ _ hP hE h => .loadR 4 fTableA_2 (hE.op rfl) (hP.get rfl rfl) ty25 rfl <| h) <| .cons (fun _ _ _ hP hE h => .fieldP (hE.op rfl) fa27_2 rfl <| h) <| .cons (fun _ _ _ hP hE h => .loadP 2 fTable_2 (hE.op rfl) (hP.get rfl rfl) ty25 rfl <| h) <| .cons (fun _ _ _ hP hE h => .move (hE.op rfl) rfl <| h) <| .cons (fun _ _ _ hP hE h => .useC h5 <| .elemAt (hE.op rfl) (hE.op rfl) Tryz.underlying25 ty37 rfl <| h) <| .cons (fun _ _ _ hP hE h => .fieldAt fRow_0 (hE.op rfl) fa37_0 rfl <| h) <| .cons (fun _ _ _ hP hE h => .load (hE.op rfl) ty3 rfl <| h) <| .cons (fun _ _ _ hP hE h => .fieldP (hE.op rfl) fa27_2 rfl <| h) <| .cons (fun _ _ _ hP hE h => .loadP 2 fTable_2 (hE.op rfl) (hP.get rfl rfl) ty25 rfl <| h) <| .cons (fun _ _ _ hP hE h => .move (hE.op rfl) rfl <| h) <| .cons (fun _ _ _ hP hE h => .useC h6 <| .elemAt (hE.op rfl) (hE.op rfl) Tryz.underlying25 ty37 rfl <| h) <| .cons (fun _ _ _ hP hE h => .fieldAt fRow_1 (hE.op rfl) fa37_1 rfl <| h) <| .cons (fun _ _ _ hP hE h => .load (hE.op rfl) ty3 rfl <| h) <| .cons (fun _ _ _ hP hE h => .litE tVal Tryz.underlying42 el47 rfl rfl <| h) <| .cons (fun _ _ _ hP hE h => .fieldP (hE.op rfl) fa27_2 rfl <| h) <| .cons (fun _ _ _ hP hE h => .loadP 2 fTable_2 (hE.op rfl) (hP.get rfl rfl) ty25 rfl <| h) <| .cons (fun _ _ _ hP hE h => .move (hE.op rfl) rfl <| h) <| .cons (fun _ _ _ hP hE h => .useC h7 <| .elemAt (hE.op rfl) (hE.op rfl) Tryz.underlying25 ty37 rfl <| h) <| .cons (fun _ _ _ hP hE h => .fieldAt fRow_2 (hE.op rfl) fa37_2 rfl <| h) <| .cons (fun _ _ _ hP hE h => .load (hE.op rfl) ty32 rfl <| h) <| .skip <| .skip <| .skip <| .nil) rfl <| .cons (d := 44) rfl rfl fun _ _ hE h => .useC h8 <| .appE (T := tVal) (hE.op rfl) (hE.op rfl) rfl Tryz.underlying42 el47 rfl fun v8 => .toEnd <| h _ _ (.same <| .same <| .same <| .same <| .same <| .same <| .same <| .nil) <| .cons (d := 45) rfl rfl fun _ _ hE h => .buildA rfl st37 zRA (.cons fRowA_0 rfl (vOf (hE.op rfl)) <| .cons fRowA_1 rfl (vOf (hE.op rfl)) <| .cons fRowA_2 rfl (rkOf (hE.op rfl)) <| .nil) rfl <| h _ _ (.same <| .same <| .same <| .same <| .same <| .same <| .same <| .nil) <| .cons (d := 46) rfl rfl fun _ _ hE h => .litN (T := tRowA) Tryz.underlying25 el37 rfl rfl (.cons (hE.op rfl) <| .nil) rfl <| h _ _ (.same <| .same <| .same <| .same <| .same <| .same <| .same <| .nil) <| .nil <| WO_eqr (by rfl) <| .appA (T := tRowA) 0 rfl rfl rfl Tryz.underlying25 el37 rfl fun v9 => WO_factAdd 5 44 (a0.rows.getD i5.toNat default).id (a0.rows.getD i5.toNat default).ver rfl rfl <| .fieldP rfl fa27_2 rfl <| .toRaw (T := tRowA) 0 47 rfl rfl <| .storeP 4 fTableA_2 rfl rfl rfl ty25 <| .nil ?_
          refine .inBlock <| .region <| .move rfl rfl <| .bin rfl rfl rfl rfl <| .assign rfl rfl <| .nil ?_
          exact .keep [1, 2, 3, 4] [] rfl (.pick [0, 0, 0, 0, 0, 0, 0] rfl <| W_bEq (by show _ = [_, _, _, _, _, _, kO _ (g ++ [_]) (i6.rows ++ [_])]; rw [kO_old hlen hK]; rfl) <| ih1 _ _ v9 (g ++ [⟨(a0.rows.getD i5.toNat default).id, (a0.rows.getD i5.toNat default).ver, v8⟩]))
      · refine .exit rfl <| .seq <| .region <| .loadP 4 (Fld.self _) rfl rfl ty27 rfl <| .storeP 1 (Fld.self _) rfl rfl rfl ty27 <| .nil ?_
        exact .retE1 g (v7, v4) Tryz.func37 Tryz.results37 (.cell 1 rfl rfl ty27) rfl (fun _ _ _ h => tabV_of h) (.cons_cons _ <| .cons _ <| .cons _ <| .cons_cons _ <| .cons _ <| .cons_cons _ <| .cons_cons _ <| .slnil)
  · refine .pT fun h9 => ?_
    refine .pT fun h10 => ?_
    refine .drawF 12 [] [3, 7, 10] (some 11) [] mix (by kernel_rfl) (.cons (fun _ _ _ hP hE h => .litE tCol Tryz.underlying23 el52 rfl rfl <| h) <| .cons (fun _ _ _ hP hE h => .fieldP (hE.op rfl) fa27_0 rfl <| h) <| .cons (fun _ _ _ hP hE h => .loadP 1 fTable_0 (hE.op rfl) (hP.get rfl rfl) ty23 rfl <| h) <| .skip <| .cons (fun _ _ _ hP hE h => .litE tChange Tryz.underlying24 el56 rfl rfl <| h) <| .cons (fun _ _ _ hP hE h => .fieldP (hE.op rfl) fa27_1 rfl <| h) <| .cons (fun _ _ _ hP hE h => .loadP 1 fTable_1 (hE.op rfl) (hP.get rfl rfl) ty24 rfl <| h) <| .skip <| .cons (fun _ _ _ hP hE h => .fieldP (hE.op rfl) fa27_3 rfl <| h) <| .cons (fun _ _ _ hP hE h => .loadP 1 fTable_3 (hE.op rfl) (hP.get rfl rfl) ty3 rfl <| h) <| .skip <| .skip <| .nil) rfl ?_
    refine .next ?_ ?_
    · refine .put 8 rfl rfl fun _ _ hE h => .useC h9 <| .appE (T := tCol) (hE.op rfl) (hE.op rfl) rfl Tryz.underlying23 el52 rfl fun v11 => .toEnd <| h _ _ (.same <| .same <| .nil) ?_
      refine .next ?_ ?_
      · refine .put 12 rfl rfl fun _ _ hE h => .useC h10 <| .appE (T := tChange) (hE.op rfl) (hE.op rfl) rfl Tryz.underlying24 el56 rfl fun v12 => .toEnd <| h _ _ (.same <| .same <| .nil) ?_
        refine .next ?_ ?_
        · refine .put 15 rfl rfl fun _ _ hE h => .buildA rfl st27 zA27 (.cons fTableA_0 rfl (vOf (hE.op rfl)) <| .cons fTableA_1 rfl (kOf (hE.op rfl)) <| .cons fTableA_3 rfl (vOf (hE.op rfl)) <| .nil) rfl <| h _ _ (.same <| .same <| .nil) ?_
          refine .last <| .put 3 rfl rfl fun _ _ hE h => .alloc tTableA d0A27 [] zA27 rfl fun b10 => .toEnd <| h _ _ (.same <| .same <| .nil) <| .nil <| .storeP 4 (Fld.self _) rfl rfl rfl ty27 <| .arrNil tRowA <| .nil ?_
          exact .keep [1, 2, 3] [] rfl (.drop (.cons_cons _ <| .cons_cons _ <| .cons_cons _ <| .cons _ <| .cons_cons _ <| .cons_cons _ <| .slnil) <| hj1 _ _)
        · refine .put 3 rfl rfl fun _ _ hE h => .alloc tTableA d0A27 [] zA27 rfl fun b10 => .toEnd <| h _ _ (.same <| .same <| .nil) <| .cons (d := 15) rfl rfl fun _ _ hE h => .buildA rfl st27 zA27 (.cons fTableA_0 rfl (vOf (hE.op rfl)) <| .cons fTableA_1 rfl (kOf (hE.op rfl)) <| .cons fTableA_3 rfl (vOf (hE.op rfl)) <| .nil) rfl <| h _ _ (.same <| .same <| .nil) <| .nil <| .storeP 4 (Fld.self _) rfl rfl rfl ty27 <| .arrNil tRowA <| .nil ?_
          exact .keep [1, 2, 3] [] rfl (.drop (.cons_cons _ <| .cons_cons _ <| .cons_cons _ <| .cons _ <| .cons_cons _ <| .cons_cons _ <| .slnil) <| hj1 _ _)
      · refine .put 3 rfl rfl fun _ _ hE h => .alloc tTableA d0A27 [] zA27 rfl fun b10 => .toEnd <| h _ _ (.same <| .same <| .nil) <| .cons (d := 12) rfl rfl fun _ _ hE h => .useC h10 <| .appE (T := tChange) (hE.op rfl) (hE.op rfl) rfl Tryz.underlying24 el56 rfl fun v12 => .toEnd <| h _ _ (.same <| .same <| .nil) <| .cons (d := 15) rfl rfl fun _ _ hE h => .buildA rfl st27 zA27 (.cons fTableA_0 rfl (vOf (hE.op rfl)) <| .cons fTableA_1 rfl (kOf (hE.op rfl)) <| .cons fTableA_3 rfl (vOf (hE.op rfl)) <| .nil) rfl <| h _ _ (.same <| .same <| .nil) <| .nil <| .pick [0, 0, 0, 1, 0] rfl <| .storeP 4 (Fld.self _) rfl rfl rfl ty27 <| .arrNil tRowA <| .nil ?_
        exact .keep [1, 2, 3] [] rfl (.drop (.cons_cons _ <| .cons_cons _ <| .cons_cons _ <| .cons _ <| .cons_cons _ <| .cons_cons _ <| .slnil) <| hj1 _ _)
    · refine .put 3 rfl rfl fun _ _ hE h => .alloc tTableA d0A27 [] zA27 rfl fun b10 => .toEnd <| h _ _ (.same <| .same <| .nil) <| .cons (d := 8) rfl rfl fun _ _ hE h => .useC h9 <| .appE (T := tCol) (hE.op rfl) (hE.op rfl) rfl Tryz.underlying23 el52 rfl fun v11 => .toEnd <| h _ _ (.same <| .same <| .nil) <| .cons (d := 12) rfl rfl fun _ _ hE h => .useC h10 <| .appE (T := tChange) (hE.op rfl) (hE.op rfl) rfl Tryz.underlying24 el56 rfl fun v12 => .toEnd <| h _ _ (.same <| .same <| .nil) <| .cons (d := 15) rfl rfl fun _ _ hE h => .buildA rfl st27 zA27 (.cons fTableA_0 rfl (vOf (hE.op rfl)) <| .cons fTableA_1 rfl (kOf (hE.op rfl)) <| .cons fTableA_3 rfl (vOf (hE.op rfl)) <| .nil) rfl <| h _ _ (.same <| .same <| .nil) <| .nil <| .pick [0, 0, 1, 1, 0] rfl <| .storeP 4 (Fld.self _) rfl rfl rfl ty27 <| .arrNil tRowA <| .nil ?_
      exact .keep [1, 2, 3] [] rfl (.drop (.cons_cons _ <| .cons_cons _ <| .cons_cons _ <| .cons _ <| .cons_cons _ <| .cons_cons _ <| .slnil) <| hj1 _ _)
def f72_l1 (fu : Nat) (a0 : Table) (a1 : Change) (q6 : Table) (q10 : (List Col)) : Nat → Int → Option (Table × Int)
  | 0, _ => none
  | n1 + 1, i11 => cond (decide (i11 < (List.length q6.rows : Int))) (cond (decide (0 ≤ i11) && decide (i11 < (List.length q6.rows : Int))) ((f90o fu (⟨q6.first, q6.changes ++ ([a1] : List Change), q6.rows, q6.next⟩ : Table) (q6.rows.getD i11.toNat default)).bind fun q12 => (f88 fu q10 q12).bind fun q13 => cond (!q13) (some (a0, 2)) ((f72_l1 fu a0 a1 q6 q10 n1) (IntKind.i64.wrap (i11 + 1)))) none) (cond (decide (8 ≤ (List.length a0.changes : Int))) (some (a0, 4)) (some ((⟨q6.first, q6.changes ++ ([a1] : List Change), q6.rows, q6.next⟩ : Table), 0)))
def f72 (fu : Nat) (a0 : Table) (a1 : Change) : Option (Table × Int) := (f53o fu a0).bind fun q4 => (f87 fu q4 a1).bind fun q5 => cond (!q5.2) (some (a0, 1)) ((f42o fu a0).bind fun q6 => cond (decide (List.length q6.changes + List.length ([a1] : List Change) ≤ CAP)) ((f53o fu (⟨q6.first, q6.changes ++ ([a1] : List Change), q6.rows, q6.next⟩ : Table)).bind fun q10 => f72_l1 fu a0 a1 q6 q10 fu 0) none)
theorem n72 : ∃ fn c, Tryz.prog.funcs[117]? = some fn ∧ (fn.name == "runtime.NumGoroutine") = false ∧ fn.body = some c := ⟨_, _, Tryz.func117, by kernel_rfl, rfl⟩
theorem c72 (fu : Nat) (vp0 : Value) (cp0 : Value) (a0 : Table) (a1 : Change) : CtrL Tryz.prog 117 [tTableA.va (⟨a0.first, (cp0, a0.changes), vp0, a0.next⟩ : TableA), tChange.va a1] [arrO tRow vp0 a0.rows] (f72 fu a0 a1) (fun v => tabV (tupV 0 v)) (fun q p => [arrO tRow p.1 q.1.rows]) (fun q p => tup [tTableA.va (⟨q.1.first, (p.2, q.1.changes), p.1, q.1.next⟩ : TableA), isI .i64 q.2]) := by
  refine CtrL.of_W Tryz.func117 rfl Tryz.ntmps117 rfl fun A w => ?_
  unfold f72
  refine .seq <| .region <| .box (T := tTableA) rfl rfl fun b1 => .box (T := tChange) rfl rfl fun b2 => .alloc tTableA d0A27 [] zA27 rfl fun b3 => .assign rfl rfl <| .nil ?_
  refine .seq <| .pbind fun q4 h1 => ?_
  refine .draw 3 [] mix (by kernel_rfl) (.cons (fun _ _ _ hP hE h => .loadP 2 (Fld.self _) (hE.op rfl) (hP.get rfl rfl) ty27 rfl <| h) <| .cons (fun _ _ _ hP hE h => .bindE h1 (fun r h => .callR 3 (c53o fu _ _ _) (hP.get rfl rfl) n53 (hE.ops rfl) rfl h) <| h) <| .cons (fun _ _ _ hP hE h => .loadP 1 (Fld.self _) (hE.op rfl) (hP.get rfl rfl) ty56 rfl <| h) <| .nil) rfl <| .call0 (c87 fu _ _) n87 rfl rfl fun q5 => .move rfl rfl <| .extract rfl rfl rfl <| .extract rfl rfl rfl <| .assign rfl rfl <| .assign rfl rfl <| .nil ?_
  refine .seq <| .seq <| .region <| .move rfl rfl <| .not rfl rfl <| .nil ?_
  refine .cond rfl (fun _ => ?_) (fun _ => ?_)
  · refine .seq <| .region <| .loadP 2 (Fld.self _) rfl rfl ty27 rfl <| .storeP 0 (Fld.self _) rfl rfl rfl ty27 <| .assign rfl rfl <| .nil ?_
    exact .retL2 (vp0, cp0) Tryz.func117 Tryz.results117 (.cell 0 rfl rfl ty27) (.tmp rfl) rfl (fun _ _ _ h => tabV_of h) (.cons _ <| .cons _ <| .cons _ <| .cons_cons _ <| .slnil)
  · refine .skip <| .seq <| .region <| .loadP 2 (Fld.self _) rfl rfl ty27 rfl <| .callRL 3 (c42o fu _ _ _) rfl n42 rfl rfl fun q6 p7 => .alloc tTableA d0A27 [] zA27 rfl fun b8 => .storeP 0 (Fld.self _) rfl rfl rfl ty27 <| .nil ?_
    refine .seq <| .region <| .fieldP rfl fa27_1 rfl <| .loadKV 0 fTableA_1 rfl rfl ty24 rfl <| .loadP 4 (Fld.self _) rfl rfl ty56 rfl <| .litN (T := tChange) Tryz.underlying24 el56 rfl rfl (.cons rfl <| .nil) rfl <| .app (T := tChange) 2 rfl rfl rfl Tryz.underlying24 el56 rfl fun v9 => .fieldP rfl fa27_1 rfl <| .toK 27 rfl <| .storeP 0 fTableA_1 rfl rfl rfl ty24 <| .nil ?_
    refine .seq <| .region <| .loadP 0 (Fld.self _) rfl rfl ty27 rfl <| .callR 1 (c53o fu _ _ _) rfl n53 rfl rfl fun q10 => .assign rfl rfl <| .nil ?_
    refine .seq <| .seq <| .region <| .assign rfl rfl <| .nil ?_
    refine .block <| .loop <| .drop (.cons_cons _ <| .cons_cons _ <| .cons_cons _ <| .cons_cons _ <| .cons _ <| .cons_cons _ <| .cons_cons _ <| .slnil) <| .keep [2, 4, 8, 9, 10] [] rfl ?_
    refine (show ∀ (n1 : Nat) (i11 : Int), W _ _ _ _ _ ⟨[(2, isP b1 0, none), (4, isP b3 0, none), (8, isP b8 0, none), (9, (tL tCol).va q10, none), (10, isI .i64 i11, none)], [boxO b8 tTableA (⟨q6.first, (v9, q6.changes ++ ([a1] : List Change)), p7.1, q6.next⟩ : TableA) [], arrO tRow p7.1 q6.rows, appO 10 v9, boxO b3 tTableA (⟨([] : List Col), ((.slice none 0 0), ([] : List Change)), (.slice none 0 0), (0 : Int)⟩ : TableA) [], boxO b1 tTableA (⟨a0.first, (cp0, a0.changes), vp0, a0.next⟩ : TableA) [], arrO tRow vp0 a0.rows]⟩ (f72_l1 fu a0 a1 q6 q10 n1 i11) from ?_) fu _
    intro n1
    induction n1 with
    | zero => exact fun _ => .stop
    | succ n1 ih1 =>
      intro i11
      refine .inLoop <| .seq <| .seq <| .region <| .move rfl rfl <| .fieldP rfl fa27_2 rfl <| .loadR 0 fTableA_2 rfl rfl ty25 rfl <| .know 33 rfl <| .lenA 1 rfl rfl Tryz.underlying25 rfl <| .bin rfl rfl rfl rfl <| .nil ?_
      refine .cond rfl (fun _ => ?_) (fun _ => ?_)
      · refine .skip <| .seq <| .block <| .seq <| .pT fun h3 => ?_
        refine .draw 7 [0] mix (by kernel_rfl) (.cons (fun _ _ _ hP hE h => .move (hE.op rfl) rfl <| h) <| .cons (fun _ _ _ hP hE h => .loadP 0 (Fld.self _) (hE.op rfl) (hP.get rfl rfl) ty27 rfl <| h) <| .cons (fun _ _ _ hP hE h => .fieldP (hE.op rfl) fa27_2 rfl <| h) <| .cons (fun _ _ _ hP hE h => .loadR 0 fTableA_2 (hE.op rfl) (hP.get rfl rfl) ty25 rfl <| h) <| .cons (fun _ _ _ hP hE h => .move (hE.op rfl) rfl <| h) <| .cons (fun _ _ _ hP hE h => .useC h3 <| .elemA 1 (hE.op rfl) (hE.op rfl) (hP.get rfl rfl) Tryz.underlying25 ty37 rfl <| h) <| .cons (fun _ _ _ hP hE h => .loadA 1 (Fld.self _) (hE.op rfl) (hP.get rfl rfl) ty37 rfl <| h) <| .nil) rfl <| .callR 1 (c90o fu _ _ _ _) rfl n90 rfl rfl fun q12 => .call0 (c88 fu _ _) n88 rfl rfl fun q13 => .not rfl rfl <| .nil ?_
        refine .cond rfl (fun _ => ?_) (fun _ => ?_)
        · refine .seq <| .region <| .loadP 4 (Fld.self _) rfl rfl ty27 rfl <| .storeP 3 (Fld.self _) rfl rfl rfl ty27 <| .assign rfl rfl <| .nil ?_
          exact .retL2 (vp0, cp0) Tryz.func117 Tryz.results117 (.cell 3 rfl rfl ty27) (.tmp rfl) rfl (fun _ _ _ h => tabV_of h) (.cons _ <| .cons _ <| .cons _ <| .cons _ <| .cons _ <| .cons_cons _ <| .slnil)
        · refine .skip <| .inBlock <| .region <| .move rfl rfl <| .bin rfl rfl rfl rfl <| .assign rfl rfl <| .nil ?_
          exact .keep [2, 4, 8, 9, 10] [] rfl (ih1 _)
      · refine .exit rfl <| .seq <| .seq <| .region <| .fieldP rfl fa27_1 rfl <| .loadKV 4 fTableA_1 rfl rfl ty24 rfl <| .lenL rfl Tryz.underlying24 rfl <| .bin rfl rfl rfl rfl <| .nil ?_
        refine .cond rfl (fun _ => ?_) (fun _ => ?_)
        · refine .seq <| .region <| .loadP 4 (Fld.self _) rfl rfl ty27 rfl <| .storeP 3 (Fld.self _) rfl rfl rfl ty27 <| .assign rfl rfl <| .nil ?_
          exact .retL2 (vp0, cp0) Tryz.func117 Tryz.results117 (.cell 3 rfl rfl ty27) (.tmp rfl) rfl (fun _ _ _ h => tabV_of h) (.cons _ <| .cons _ <| .cons _ <| .cons _ <| .cons _ <| .cons_cons _ <| .slnil)
        · refine .skip <| .seq <| .region <| .loadP 0 (Fld.self _) rfl rfl ty27 rfl <| .storeP 3 (Fld.self _) rfl rfl rfl ty27 <| .assign rfl rfl <| .nil ?_
          exact .retL2 (p7.1, v9) Tryz.func117 Tryz.results117 (.cell 3 rfl rfl ty27) (.tmp rfl) rfl (fun _ _ _ h => tabV_of h) (.cons _ <| .cons_cons _ <| .cons _ <| .cons _ <| .cons _ <| .cons _ <| .slnil)
def f101_l1 (a0 : List Col) : Nat → Int → (List Val) → Option (List Val)
  | 0, _, _ => none
  | n1 + 1, i2, i3 => cond (decide (i2 < (List.length a0 : Int))) (cond (decide (0 ≤ i2) && decide (i2 < (List.length a0 : Int))) (cond (decide (List.length i3 + List.length ([(a0.getD i2.toNat default).def_] : List Val) ≤ CAP)) ((f101_l1 a0 n1) (IntKind.i64.wrap (i2 + 1)) (i3 ++ ([(a0.getD i2.toNat default).def_] : List Val))) none) none) (some i3)
def f101 (fu : Nat) (a0 : List Col) : Option (List Val) := f101_l1 a0 fu 0 ([] : List Val)
theorem n101 : ∃ fn c, Tryz.prog.funcs[76]? = some fn ∧ (fn.name == "runtime.NumGoroutine") = false ∧ fn.body = some c := ⟨_, _, Tryz.func76, by kernel_rfl, rfl⟩
theorem c101 (fu : Nat) (a0 : List Col) : Ctr Tryz.prog 76 [(tL tCol).va a0] [] (f101 fu a0) (fun _ _ => []) (fun q => (tL tVal).va q) := by
  refine Ctr.of_W Tryz.func76 rfl Tryz.ntmps76 rfl fun A w => ?_
  unfold f101
  refine .seq <| .region <| .assignNil tVal rfl <| .nil ?_
  refine .seq <| .region <| .lit (T := tVal) Tryz.underlying42 el47 rfl rfl (.nil) rfl fun v1 => .assign rfl rfl <| .nil ?_
  refine .seq <| .seq <| .region <| .assign rfl rfl <| .nil ?_
  refine .block <| .loop <| .keep [0, 4] [3] rfl ?_
  refine (show ∀ (n1 : Nat) (i2 : Int) (i3 : List Val) (v4 : Value), W _ _ _ _ _ ⟨[(0, (tL tCol).va a0, none), (4, isI .i64 i2, none), (3, (tL tVal).va i3, some v4)], [appO 3 v4]⟩ (f101_l1 a0 n1 i2 i3) from ?_) fu _ _ _
  intro n1
  induction n1 with
  | zero => exact fun _ _ _ => .stop
  | succ n1 ih1 =>
    intro i2 i3 v4
    refine .inLoop <| .seq <| .seq <| .region <| .move rfl rfl <| .move rfl rfl <| .lenL rfl Tryz.underlying23 rfl <| .bin rfl rfl rfl rfl <| .nil ?_
    refine .cond rfl (fun _ => ?_) (fun _ => ?_)
    · refine .skip <| .seq <| .block <| .region <| .move rfl rfl <| .move rfl rfl <| .move rfl rfl <| .elemAt rfl rfl Tryz.underlying23 ty52 rfl <| .fieldAt fCol_4 rfl fa52_4 rfl <| .load rfl ty47 rfl <| .litN (T := tVal) Tryz.underlying42 el47 rfl rfl (.cons rfl <| .nil) rfl <| .app (T := tVal) 0 rfl rfl rfl Tryz.underlying42 el47 rfl fun v5 => .assign rfl rfl <| .nil ?_
      refine .inBlock <| .region <| .move rfl rfl <| .bin rfl rfl rfl rfl <| .assign rfl rfl <| .nil ?_
      exact .keep [0, 4] [3] rfl (ih1 _ _ _)
    · refine .exit rfl <| .seq <| .region <| .move rfl rfl <| .assign rfl rfl <| .nil ?_
      exact .ret1 Tryz.func76 Tryz.results76 (.tmp rfl) rfl (fun _ _ => .cons _ <| .slnil)
def f65_j2 (a0 : Table) (q5 : (List Val) × Bool) (i9 : Int) : Option (Table × Int) := cond (!decide (i9 = 0)) (some (a0, i9)) (cond (decide (List.length a0.rows + List.length ([(⟨a0.next, (List.length a0.changes : Int), q5.1⟩ : Row)] : List Row) ≤ CAP)) (some ((⟨a0.first, a0.changes, a0.rows ++ ([(⟨a0.next, (List.length a0.changes : Int), q5.1⟩ : Row)] : List Row), IntKind.i64.wrap (a0.next + 1)⟩ : Table), i9)) none)
def f65_j1 (a0 : Table) (q5 : (List Val) × Bool) (q7 : Int) (i8 : Bool) : Option (Table × Int) := cond i8 (f65_j2 a0 q5 4) (f65_j2 a0 q5 q7)
def f65 (fu : Nat) (a0 : Table) (a1 : List Set) : Option (Table × Int) := (f53o fu a0).bind fun q3 => (f101 fu q3).bind fun q4 => (f100 fu q3 q4 a1).bind fun q5 => cond (!q5.2) (some (a0, 1)) ((f102o fu a0 (⟨a0.next, (List.length a0.changes : Int), q5.1⟩ : Row)).bind fun q7 => cond (decide (q7 = 0)) (cond (decide (8 ≤ (List.length a0.rows : Int))) (f65_j1 a0 q5 q7 true) (f65_j1 a0 q5 q7 (decide (60 ≤ a0.next)))) (f65_j1 a0 q5 q7 false))
theorem n65 : ∃ fn c, Tryz.prog.funcs[45]? = some fn ∧ (fn.name == "runtime.NumGoroutine") = false ∧ fn.body = some c := ⟨_, _, Tryz.func45, by kernel_rfl, rfl⟩
theorem c65 (fu : Nat) (vp0 : Value) (cp0 : Value) (a0 : Table) (a1 : List Set) : CtrL Tryz.prog 45 [tTableA.va (⟨a0.first, (cp0, a0.changes), vp0, a0.next⟩ : TableA), (tL tSet).va a1] [arrO tRow vp0 a0.rows] (f65 fu a0 a1) (fun v => tabV (tupV 0 v)) (fun q p => [arrO tRow p.1 q.1.rows]) (fun q p => tup [tTableA.va (⟨q.1.first, (p.2, q.1.changes), p.1, q.1.next⟩ : TableA), isI .i64 q.2]) := by
  refine CtrL.of_W Tryz.func45 rfl Tryz.ntmps45 rfl fun A w => ?_
  unfold f65
  refine .seq <| .region <| .box (T := tTableA) rfl rfl fun b1 => .alloc tTableA d0A27 [] zA27 rfl fun b2 => .assign rfl rfl <| .nil ?_
  refine .seq <| .region <| .loadP 1 (Fld.self _) rfl rfl ty27 rfl <| .callR 2 (c53o fu _ _ _) rfl n53 rfl rfl fun q3 => .assign rfl rfl <| .nil ?_
  refine .seq <| .region <| .move rfl rfl <| .move rfl rfl <| .call0 (c101 fu _) n101 rfl rfl fun q4 => .move rfl rfl <| .call0 (c100 fu _ _ _) n100 rfl rfl fun q5 => .move rfl rfl <| .extract rfl rfl rfl <| .extract rfl rfl rfl <| .assign rfl rfl <| .assign rfl rfl <| .nil ?_
  refine .seq <| .seq <| .region <| .move rfl rfl <| .not rfl rfl <| .nil ?_
  refine .cond rfl (fun _ => ?_) (fun _ => ?_)
  · refine .seq <| .region <| .loadP 1 (Fld.self _) rfl rfl ty27 rfl <| .storeP 0 (Fld.self _) rfl rfl rfl ty27 <| .assign rfl rfl <| .nil ?_
    exact .retL2 (vp0, cp0) Tryz.func45 Tryz.results45 (.cell 0 rfl rfl ty27) (.tmp rfl) rfl (fun _ _ _ h => tabV_of h) (.cons _ <| .cons _ <| .cons_cons _ <| .slnil)
  · refine .skip <| .seq <| .region <| .fieldP rfl fa27_3 rfl <| .loadP 1 fTableA_3 rfl rfl ty3 rfl <| .fieldP rfl fa27_1 rfl <| .loadKV 1 fTableA_1 rfl rfl ty24 rfl <| .lenL rfl Tryz.underlying24 rfl <| .move rfl rfl <| .build rfl st37 z37 (.cons fRow_0 rfl rfl <| .cons fRow_1 rfl rfl <| .cons fRow_2 rfl rfl <| .nil) rfl <| .alloc tRow d0_37 [] z37 rfl fun b6 => .storeP 0 (Fld.self _) rfl rfl rfl ty37 <| .nil ?_
    refine .seq <| .region <| .loadP 2 (Fld.self _) rfl rfl ty27 rfl <| .loadP 0 (Fld.self _) rfl rfl ty37 rfl <| .callR 3 (c102o fu _ _ _ _) rfl n102 rfl rfl fun q7 => .assign rfl rfl <| .nil ?_
    refine .seq <| .seq <| .join1 (fun i8 => ⟨[(2, isP b1 0, none), (4, isP b2 0, none), (9, isP b6 0, none), (10, isI .i64 q7, none), (46, isB i8, none)], [boxO b6 tRow (⟨a0.next, (List.length a0.changes : Int), q5.1⟩ : Row) [], boxO b2 tTableA (⟨([] : List Col), ((.slice none 0 0), ([] : List Change)), (.slice none 0 0), (0 : Int)⟩ : TableA) [], boxO b1 tTableA (⟨a0.first, (cp0, a0.changes), vp0, a0.next⟩ : TableA) [], arrO tRow vp0 a0.rows]⟩) (fun i8 => f65_j1 a0 q5 q7 i8) (fun i8 => ?_) (fun hj1 => ?_)
    · refine .join1 (fun i9 => ⟨[(2, isP b1 0, none), (4, isP b2 0, none), (9, isP b6 0, none), (10, isI .i64 i9, none)], [boxO b6 tRow (⟨a0.next, (List.length a0.changes : Int), q5.1⟩ : Row) [], boxO b2 tTableA (⟨([] : List Col), ((.slice none 0 0), ([] : List Change)), (.slice none 0 0), (0 : Int)⟩ : TableA) [], boxO b1 tTableA (⟨a0.first, (cp0, a0.changes), vp0, a0.next⟩ : TableA) [], arrO tRow vp0 a0.rows]⟩) (fun i9 => f65_j2 a0 q5 i9) (fun i9 => ?_) (fun hj2 => ?_)
      · refine .seq <| .seq <| .region <| .move rfl rfl <| .bin rfl rfl rfl rfl <| .nil ?_
        refine .cond rfl (fun _ => ?_) (fun _ => ?_)
        · refine .seq <| .region <| .loadP 2 (Fld.self _) rfl rfl ty27 rfl <| .move rfl rfl <| .storeP 1 (Fld.self _) rfl rfl rfl ty27 <| .assign rfl rfl <| .nil ?_
          exact .retL2 (vp0, cp0) Tryz.func45 Tryz.results45 (.cell 1 rfl rfl ty27) (.tmp rfl) rfl (fun _ _ _ h => tabV_of h) (.cons _ <| .cons _ <| .cons _ <| .cons_cons _ <| .slnil)
        · refine .skip <| .seq <| .region <| .fieldP rfl fa27_2 rfl <| .loadR 2 fTableA_2 rfl rfl ty25 rfl <| .know 52 rfl <| .loadP 0 (Fld.self _) rfl rfl ty37 rfl <| .litN (T := tRow) Tryz.underlying25 el37 rfl rfl (.cons rfl <| .nil) rfl <| .appA (T := tRow) 3 rfl rfl rfl Tryz.underlying25 el37 rfl fun v10 => .fieldP rfl fa27_2 rfl <| .toRaw (T := tRow) 3 55 rfl rfl <| .storeP 2 fTableA_2 rfl rfl rfl ty25 <| .nil ?_
          refine .seq <| .region <| .fieldP rfl fa27_3 rfl <| .loadP 2 fTableA_3 rfl rfl ty3 rfl <| .bin rfl rfl rfl rfl <| .fieldP rfl fa27_3 rfl <| .storeP 2 fTableA_3 rfl rfl rfl ty3 <| .nil ?_
          refine .seq <| .region <| .loadP 2 (Fld.self _) rfl rfl ty27 rfl <| .move rfl rfl <| .storeP 1 (Fld.self _) rfl rfl rfl ty27 <| .assign rfl rfl <| .nil ?_
          exact .retL2 (v10, cp0) Tryz.func45 Tryz.results45 (.cell 1 rfl rfl ty27) (.tmp rfl) rfl (fun _ _ _ h => tabV_of h) (.cons _ <| .cons _ <| .cons _ <| .cons_cons _ <| .slnil)
      · refine .cond rfl (fun _ => ?_) (fun _ => ?_)
        · refine .region <| .assign rfl rfl <| .nil ?_
          exact .keep [2, 4, 9, 10] [] rfl (hj2 _)
        · exact .skip <| .keep [2, 4, 9, 10] [] rfl (hj2 _)
    · refine .region <| .move rfl rfl <| .bin rfl rfl rfl rfl <| .move rfl rfl <| .split 36 rfl (fun _ => ?_) (fun _ => ?_)
      · refine .on rfl rfl <| .fieldP rfl fa27_2 rfl <| .on rfl rfl <| .loadR 2 fTableA_2 rfl rfl ty25 rfl <| .know 38 rfl <| .on rfl rfl <| .lenA 3 rfl rfl Tryz.underlying25 rfl <| .on rfl rfl <| .bin rfl rfl rfl rfl <| .on rfl rfl <| .move rfl rfl <| .split 41 rfl (fun _ => ?_) (fun _ => ?_)
        · refine .off rfl rfl rfl <| .off rfl rfl rfl <| .off rfl rfl rfl <| .on rfl rfl <| .pickT rfl rfl rfl <| .pickT rfl rfl rfl <| .nil ?_
          exact .keep [2, 4, 9, 10, 46] [] rfl (hj1 _)
        · refine .on rfl rfl <| .fieldP rfl fa27_3 rfl <| .on rfl rfl <| .loadP 2 fTableA_3 rfl rfl ty3 rfl <| .on rfl rfl <| .bin rfl rfl rfl rfl <| .on rfl rfl <| .pickF rfl rfl rfl <| .pickT rfl rfl rfl <| .nil ?_
          exact .keep [2, 4, 9, 10, 46] [] rfl (hj1 _)
      · refine .off rfl rfl rfl <| .off rfl rfl rfl <| .off rfl rfl rfl <| .off rfl rfl rfl <| .off rfl rfl rfl <| .offU rfl rfl rfl <| .offU rfl rfl rfl <| .offU rfl rfl rfl <| .off rfl rfl rfl <| .pickF rfl rfl rfl <| .nil ?_
        exact .keep [2, 4, 9, 10, 46] [] rfl (hj1 _)
def f126_j1 (i7 : Table) (i10 : Rd) : Option (Table × Rd) := some (i7, i10)
def f126_j2 (fu : Nat) (a1 : Table) (q3 : (List Col)) (q5 : Int × Rd) (q6 : Int × Rd) (i13 : Bool) : Option (Table × Rd) := cond i13 ((f62 fu q6.2 q3).bind fun q14 => (f76 fu a1 (IntKind.i64.wrap (q5.1 + 1)) q14.1).bind fun q15 => f126_j1 q15.1 q14.2) (cond (decide (q6.1 = 3)) ((f70 fu q6.2 q3).bind fun q17 => (f72 fu a1 q17.1).bind fun q18 => f126_j1 q18.1 q17.2) ((f62 fu q6.2 q3).bind fun q20 => (f65 fu a1 q20.1).bind fun q21 => f126_j1 q21.1 q20.2))
def f126 (fu : Nat) (a0 : Rd) (a1 : Table) : Option (Table × Rd) := (f53o fu a1).bind fun q3 => (f142 1 a1.next).bind fun q4 => (f74 fu a0 q4).bind fun q5 => (f74 fu q5.2 8).bind fun q6 => cond (decide (q6.1 = 0)) ((f41 fu a1 (IntKind.i64.wrap (q5.1 + 1))).bind fun q11 => f126_j1 q11.1 q6.2) (cond (decide (q6.1 = 1)) (f126_j2 fu a1 q3 q5 q6 (decide (q6.1 = 1))) (f126_j2 fu a1 q3 q5 q6 (decide (q6.1 = 2))))
theorem n126 : ∃ fn c, Tryz.prog.funcs[97]? = some fn ∧ (fn.name == "runtime.NumGoroutine") = false ∧ fn.body = some c := ⟨_, _, Tryz.func97, by kernel_rfl, rfl⟩
theorem c126 (fu : Nat) (bp0 : Nat) (a0 : Rd) (vp1 : Value) (cp1 : Value) (a1 : Table) : CtrL Tryz.prog 97 [isP bp0 0, tTableA.va (⟨a1.first, (cp1, a1.changes), vp1, a1.next⟩ : TableA)] [boxO bp0 tRd a0 [], arrO tRow vp1 a1.rows] (f126 fu a0 a1) tabV (fun q p => [arrO tRow p.1 q.1.rows, boxO bp0 tRd q.2 []]) (fun q p => tTableA.va (⟨q.1.first, (p.2, q.1.changes), p.1, q.1.next⟩ : TableA)) := by
  refine CtrL.of_W Tryz.func97 rfl Tryz.ntmps97 rfl fun A w => ?_
  unfold f126
  refine .seq <| .region <| .box (T := tTableA) rfl rfl fun b1 => .alloc tTableA d0A27 [] zA27 rfl fun b2 => .nil ?_
  refine .seq <| .region <| .loadP 1 (Fld.self _) rfl rfl ty27 rfl <| .callR 3 (c53o fu _ _ _) rfl n53 rfl rfl fun q3 => .assign rfl rfl <| .nil ?_
  refine .seq <| .region <| .move rfl rfl <| .fieldP rfl fa27_3 rfl <| .loadP 1 fTableA_3 rfl rfl ty3 rfl <| .call0 (c142 _ _) n142 rfl rfl fun q4 => .call1 2 (c74 fu _ _ _) rfl n74 rfl rfl fun q5 => .bin rfl rfl rfl rfl <| .assign rfl rfl <| .nil ?_
  refine .seq <| .seq <| .region <| .move rfl rfl <| .call1 2 (c74 fu _ _ _) rfl n74 rfl rfl fun q6 => .nil ?_
  refine .block <| .seq <| .region <| .bin rfl rfl rfl rfl <| .assign rfl rfl <| .nil ?_
  refine .join4 (fun i7 v8 v9 i10 => ⟨[(3, isP b1 0, none), (4, isP b2 0, none)], [boxO b2 tTableA (⟨([] : List Col), ((.slice none 0 0), ([] : List Change)), (.slice none 0 0), (0 : Int)⟩ : TableA) [], boxO b1 tTableA (⟨i7.first, (v9, i7.changes), v8, i7.next⟩ : TableA) [], boxO bp0 tRd i10 [], arrO tRow v8 i7.rows]⟩) (fun i7 v8 v9 i10 => f126_j1 i7 i10) (fun i7 v8 v9 i10 => ?_) (fun hj1 => ?_)
  · refine .inBlock <| .seq <| .region <| .loadP 1 (Fld.self _) rfl rfl ty27 rfl <| .storeP 0 (Fld.self _) rfl rfl rfl ty27 <| .nil ?_
    exact .pick [3, 2, 0] rfl <| .retL1 (v8, v9) Tryz.func97 Tryz.results97 (.cell 2 rfl rfl ty27) rfl (fun _ _ _ h => tabV_of h) (.cons_cons _ <| .cons_cons _ <| .cons _ <| .slnil)
  · refine .cond rfl (fun _ => ?_) (fun _ => ?_)
    · refine .region <| .loadP 1 (Fld.self _) rfl rfl ty27 rfl <| .move rfl rfl <| .callS 3 (c41 fu _ _ _ _) rfl n41 rfl rfl fun q11 p12 => .move rfl rfl <| .extract rfl rfl rfl <| .extract rfl rfl rfl <| .storeP 1 (Fld.self _) rfl rfl rfl ty27 <| .nil ?_
      exact .keep [3, 4] [] rfl (hj1 _ _ _ _)
    · refine .seq <| .seq <| .region <| .bin rfl rfl rfl rfl <| .assign rfl rfl <| .nil ?_
      refine .join1 (fun i13 => ⟨[(0, isP bp0 0, none), (3, isP b1 0, none), (4, isP b2 0, none), (5, (tL tCol).va q3, none), (6, isI .i64 (IntKind.i64.wrap (q5.1 + 1)), none), (16, isI .i64 q6.1, none), (33, isB i13, none)], [boxO b2 tTableA (⟨([] : List Col), ((.slice none 0 0), ([] : List Change)), (.slice none 0 0), (0 : Int)⟩ : TableA) [], boxO b1 tTableA (⟨a1.first, (cp1, a1.changes), vp1, a1.next⟩ : TableA) [], boxO bp0 tRd q6.2 [], arrO tRow vp1 a1.rows]⟩) (fun i13 => f126_j2 fu a1 q3 q5 q6 i13) (fun i13 => ?_) (fun hj2 => ?_)
      · refine .cond rfl (fun _ => ?_) (fun _ => ?_)
        · refine .pbind fun q14 h1 => ?_
          refine .drawS 5 [] [4] [2] mix (by kernel_rfl) (.cons (fun _ _ _ hP hE h => .loadP 1 (Fld.self _) (hE.op rfl) (hP.get rfl rfl) ty27 rfl <| h) <| .cons (fun _ _ _ hP hE h => .move (hE.op rfl) rfl <| h) <| .cons (fun _ _ _ hP hE h => .move (hE.op rfl) rfl <| h) <| .cons (fun _ _ _ hP hE h => .move (hE.op rfl) rfl <| h) <| .skip <| .nil) rfl <| .cons (d := 41) rfl rfl fun _ _ hE h => .bindE h1 (fun r h => .call1 2 (c62 fu _ _ _) rfl n62 (hE.ops rfl) rfl h) <| h _ _ (.same <| .same <| .hole rfl <| .same <| .nil) <| .nil <| .callS 3 (c76 fu _ _ _ _ _) rfl n76 rfl rfl fun q15 p16 => .move rfl rfl <| .extract rfl rfl rfl <| .extract rfl rfl rfl <| .storeP 1 (Fld.self _) rfl rfl rfl ty27 <| .nil ?_
          exact .keep [3, 4] [] rfl (hj1 _ _ _ _)
        · refine .seq <| .region <| .bin rfl rfl rfl rfl <| .assign rfl rfl <| .nil ?_
          refine .cond rfl (fun _ => ?_) (fun _ => ?_)
          · refine .pbind fun q17 h2 => ?_
            refine .drawS 4 [] [3] [2] mix (by kernel_rfl) (.cons (fun _ _ _ hP hE h => .loadP 1 (Fld.self _) (hE.op rfl) (hP.get rfl rfl) ty27 rfl <| h) <| .cons (fun _ _ _ hP hE h => .move (hE.op rfl) rfl <| h) <| .cons (fun _ _ _ hP hE h => .move (hE.op rfl) rfl <| h) <| .skip <| .nil) rfl <| .cons (d := 51) rfl rfl fun _ _ hE h => .bindE h2 (fun r h => .call1 2 (c70 fu _ _ _) rfl n70 (hE.ops rfl) rfl h) <| h _ _ (.same <| .same <| .hole rfl <| .same <| .nil) <| .nil <| .callS 3 (c72 fu _ _ _ _) rfl n72 rfl rfl fun q18 p19 => .move rfl rfl <| .extract rfl rfl rfl <| .extract rfl rfl rfl <| .storeP 1 (Fld.self _) rfl rfl rfl ty27 <| .nil ?_
            exact .keep [3, 4] [] rfl (hj1 _ _ _ _)
          · refine .pbind fun q20 h3 => ?_
            refine .drawS 4 [] [3] [2] mix (by kernel_rfl) (.cons (fun _ _ _ hP hE h => .loadP 1 (Fld.self _) (hE.op rfl) (hP.get rfl rfl) ty27 rfl <| h) <| .cons (fun _ _ _ hP hE h => .move (hE.op rfl) rfl <| h) <| .cons (fun _ _ _ hP hE h => .move (hE.op rfl) rfl <| h) <| .skip <| .nil) rfl <| .cons (d := 21) rfl rfl fun _ _ hE h => .bindE h3 (fun r h => .call1 2 (c62 fu _ _ _) rfl n62 (hE.ops rfl) rfl h) <| h _ _ (.same <| .same <| .hole rfl <| .same <| .nil) <| .nil <| .callS 3 (c65 fu _ _ _ _) rfl n65 rfl rfl fun q21 p22 => .move rfl rfl <| .extract rfl rfl rfl <| .extract rfl rfl rfl <| .storeP 1 (Fld.self _) rfl rfl rfl ty27 <| .nil ?_
            exact .keep [3, 4] [] rfl (hj1 _ _ _ _)
      · refine .cond rfl (fun _ => ?_) (fun _ => ?_)
        · exact .skip <| .keep [0, 3, 4, 5, 6, 16, 33] [] rfl (hj2 _)
        · refine .region <| .bin rfl rfl rfl rfl <| .assign rfl rfl <| .nil ?_
          exact .keep [0, 3, 4, 5, 6, 16, 33] [] rfl (hj2 _)
def f94_l1 (fu : Nat) : Nat → Int → Table → Rd → Option (Table × Rd)
  | 0, _, _, _ => none
  | n1 + 1, i7, i8, i11 => cond (decide (0 < i7)) ((f126 fu i11 i8).bind fun q12 => (f94_l1 fu n1) (IntKind.i64.wrap (i7 - 1)) q12.1 q12.2) ((f42o fu i8).bind fun q14 => some (q14, i11))
def f94 (fu : Nat) (a0 : Rd) : Option (Table × Rd) := (f125 fu a0).bind fun q2 => (f124 fu q2.1).bind fun q3 => (f73 fu q2.2 ([6, 10, 16, 24, 3, 0] : List Int)).bind fun q6 => f94_l1 fu fu q6.1 q3 q6.2
theorem n94 : ∃ fn c, Tryz.prog.funcs[65]? = some fn ∧ (fn.name == "runtime.NumGoroutine") = false ∧ fn.body = some c := ⟨_, _, Tryz.func65, by kernel_rfl, rfl⟩
theorem c94 (fu : Nat) (bp0 : Nat) (a0 : Rd) : Ctr Tryz.prog 65 [isP bp0 0] [boxO bp0 tRd a0 []] (f94 fu a0) (fun q _ => [boxO bp0 tRd q.2 []]) (fun q => tTable.va q.1) := by
  refine Ctr.of_W Tryz.func65 rfl Tryz.ntmps65 rfl fun A w => ?_
  unfold f94
  refine .seq <| .region <| .alloc tTableA d0A27 [] zA27 rfl fun b1 => .nil ?_
  refine .seq <| .region <| .move rfl rfl <| .call1 1 (c125 fu _ _) rfl n125 rfl rfl fun q2 => .callL0 (c124 fu _) n124 rfl rfl fun q3 p4 => .alloc tTableA d0A27 [] zA27 rfl fun b5 => .storeP 0 (Fld.self _) rfl rfl rfl ty27 <| .nil ?_
  refine .seq <| .seq <| .region <| .move rfl rfl <| .litN (T := (tI .i64)) Tryz.underlying63 el3 rfl rfl (.cons rfl <| .cons rfl <| .cons rfl <| .cons rfl <| .cons rfl <| .cons rfl <| .nil) rfl <| .call1 3 (c73 fu _ _ _) rfl n73 rfl rfl fun q6 => .assign rfl rfl <| .nil ?_
  refine .block <| .loop <| .keep [0, 2, 3, 4] [] rfl ?_
  refine (show ∀ (n1 : Nat) (i7 : Int) (i8 : Table) (v9 : Value) (v10 : Value) (i11 : Rd), W _ _ _ _ _ ⟨[(0, isP bp0 0, none), (2, isP b1 0, none), (3, isP b5 0, none), (4, isI .i64 i7, none)], [boxO b5 tTableA (⟨i8.first, (v10, i8.changes), v9, i8.next⟩ : TableA) [], arrO tRow v9 i8.rows, boxO b1 tTableA (⟨([] : List Col), ((.slice none 0 0), ([] : List Change)), (.slice none 0 0), (0 : Int)⟩ : TableA) [], boxO bp0 tRd i11 []]⟩ (f94_l1 fu n1 i7 i8 i11) from ?_) fu _ _ _ _ _
  intro n1
  induction n1 with
  | zero => exact fun _ _ _ _ _ => .stop
  | succ n1 ih1 =>
    intro i7 i8 v9 v10 i11
    refine .inLoop <| .seq <| .seq <| .region <| .move rfl rfl <| .bin rfl rfl rfl rfl <| .nil ?_
    refine .cond rfl (fun _ => ?_) (fun _ => ?_)
    · refine .skip <| .seq <| .block <| .region <| .move rfl rfl <| .loadP 0 (Fld.self _) rfl rfl ty27 rfl <| .callL2 3 1 (c126 fu _ _ _ _ _) rfl rfl n126 rfl rfl fun q12 p13 => .storeP 2 (Fld.self _) rfl rfl rfl ty27 <| .nil ?_
      refine .inBlock <| .region <| .move rfl rfl <| .bin rfl rfl rfl rfl <| .assign rfl rfl <| .nil ?_
      exact .keep [0, 2, 3, 4] [] rfl (.pick [2, 0, 1, 0] rfl <| ih1 _ _ _ _ _)
    · refine .exit rfl <| .seq <| .region <| .loadP 0 (Fld.self _) rfl rfl ty27 rfl <| .callRL 1 (c42o fu _ _ _) rfl n42 rfl rfl fun q14 p15 => .storeP 4 (Fld.self _) rfl rfl rfl ty27 <| .nil ?_
      exact .frzBox 4 0 conv27 rfl rfl <| .ret1 Tryz.func65 Tryz.results65 (.cell 4 rfl rfl ty27) rfl (fun _ _ => .cons _ <| .cons _ <| .cons _ <| .cons _ <| .cons _ <| .cons_cons _ <| .slnil)
def f123_j1 (i5 : List Col) (i6 : Rd) : Option ((List Col) × Rd) := some (i5, i6)
def f123 (fu : Nat) (a0 : Rd) (a1 : List Col) : Option ((List Col) × Rd) := cond (decide (List.length ([] : List Col) + List.length a1 ≤ CAP)) (cond (decide ((List.length (([] : List Col) ++ a1) : Int) = 0)) (some (([] : List Col) ++ a1, a0)) ((f74 fu a0 (List.length (([] : List Col) ++ a1) : Int)).bind fun q3 => (f74 fu q3.2 60).bind fun q4 => cond (decide (q4.1 = 0)) ((f96 fu q4.2 ([([] : List UInt8), ([65] : List UInt8), ([97, 98, 99, 100] : List UInt8), ([97] : List UInt8)] : List (List UInt8))).bind fun q7 => cond (decide (0 ≤ q3.1) && decide (q3.1 < (List.length (([] : List Col) ++ a1) : Int))) (f123_j1 ((([] : List Col) ++ a1).set q3.1.toNat ({ ((([] : List Col) ++ a1).getD q3.1.toNat default) with name := q7.1 } : Col)) q7.2) none) (cond (decide (q4.1 = 1)) ((f73 fu q4.2 ([0, 3, 1, 2] : List Int)).bind fun q8 => cond (decide (0 ≤ q3.1) && decide (q3.1 < (List.length (([] : List Col) ++ a1) : Int))) (f123_j1 ((([] : List Col) ++ a1).set q3.1.toNat ({ ((([] : List Col) ++ a1).getD q3.1.toNat default) with kind := q8.1 } : Col)) q8.2) none) (cond (decide (q4.1 = 2)) ((f97 fu q4.2).bind fun q9 => cond (decide (0 ≤ q3.1) && decide (q3.1 < (List.length (([] : List Col) ++ a1) : Int))) (f123_j1 ((([] : List Col) ++ a1).set q3.1.toNat ({ ((([] : List Col) ++ a1).getD q3.1.toNat default) with def_ := q9.1 } : Col)) q9.2) none) (cond (decide (q4.1 = 3)) (cond (decide (0 ≤ q3.1) && decide (q3.1 < (List.length (([] : List Col) ++ a1) : Int))) (cond (decide (List.length (([] : List Col) ++ a1) + List.length ([(([] : List Col) ++ a1).getD q3.1.toNat default] : List Col) ≤ CAP)) (some ((([] : List Col) ++ a1) ++ ([(([] : List Col) ++ a1).getD q3.1.toNat default] : List Col), q4.2)) none) none) (cond (decide (q4.1 = 4)) (some (([] : List Col), q4.2)) (cond (decide (q4.1 = 5)) (cond (decide (0 ≤ q3.1) && decide (q3.1 < (List.length (([] : List Col) ++ a1) : Int))) (cond (decide (0 ≤ q3.1) && decide (q3.1 < (List.length (([] : List Col) ++ a1) : Int))) (f123_j1 ((([] : List Col) ++ a1).set q3.1.toNat ({ ((([] : List Col) ++ a1).getD q3.1.toNat default) with once := !(((([] : List Col) ++ a1).getD q3.1.toNat default).once) } : Col)) q4.2) none) none) (f123_j1 (([] : List Col) ++ a1) q4.2)))))))) none
theorem n123 : ∃ fn c, Tryz.prog.funcs[94]? = some fn ∧ (fn.name == "runtime.NumGoroutine") = false ∧ fn.body = some c := ⟨_, _, Tryz.func94, by kernel_rfl, rfl⟩
theorem c123 (fu : Nat) (bp0 : Nat) (a0 : Rd) (a1 : List Col) : Ctr Tryz.prog 94 [isP bp0 0, (tL tCol).va a1] [boxO bp0 tRd a0 []] (f123 fu a0 a1) (fun q _ => [boxO bp0 tRd q.2 []]) (fun q => (tL tCol).va q.1) := by
  refine Ctr.of_W Tryz.func94 rfl Tryz.ntmps94 rfl fun A w => ?_
  unfold f123
  refine .seq <| .region <| .assignNil tCol rfl <| .nil ?_
  refine .seq <| .region <| .lit (T := tCol) Tryz.underlying23 el52 rfl rfl (.nil) rfl fun v1 => .toArr 0 7 rfl rfl rfl <| .move rfl rfl <| .appA (T := tCol) 0 rfl rfl rfl Tryz.underlying23 el52 rfl fun v2 => .assign rfl rfl <| .nil ?_
  refine .seq <| .seq <| .region <| .move rfl rfl <| .lenA 0 rfl rfl Tryz.underlying23 rfl <| .bin rfl rfl rfl rfl <| .nil ?_
  refine .cond rfl (fun _ => ?_) (fun _ => ?_)
  · refine .seq <| .region <| .move rfl rfl <| .assign rfl rfl <| .nil ?_
    exact .frz 0 4 rfl rfl <| .ret1 Tryz.func94 Tryz.results94 (.tmp rfl) rfl (fun _ _ => .cons _ <| .cons_cons _ <| .slnil)
  · refine .skip <| .seq <| .region <| .move rfl rfl <| .move rfl rfl <| .lenA 0 rfl rfl Tryz.underlying23 rfl <| .call1 1 (c74 fu _ _ _) rfl n74 rfl rfl fun q3 => .assign rfl rfl <| .nil ?_
    refine .seq <| .seq <| .region <| .move rfl rfl <| .call1 1 (c74 fu _ _ _) rfl n74 rfl rfl fun q4 => .nil ?_
    refine .block <| .seq <| .region <| .bin rfl rfl rfl rfl <| .assign rfl rfl <| .nil ?_
    refine .join2 (fun i5 i6 => ⟨[(5, isV v2, some v2)], [arrO tCol v2 i5, boxO bp0 tRd i6 []]⟩) (fun i5 i6 => f123_j1 i5 i6) (fun i5 i6 => ?_) (fun hj1 => ?_)
    · refine .inBlock <| .seq <| .region <| .move rfl rfl <| .assign rfl rfl <| .nil ?_
      exact .frz 0 4 rfl rfl <| .ret1 Tryz.func94 Tryz.results94 (.tmp rfl) rfl (fun _ _ => .cons _ <| .cons_cons _ <| .slnil)
    · refine .cond rfl (fun _ => ?_) (fun _ => ?_)
      · refine .region <| .move rfl rfl <| .move rfl rfl <| .move rfl rfl <| .litN (T := tS) Tryz.underlying94 el9 rfl rfl (.cons rfl <| .cons rfl <| .cons rfl <| .cons rfl <| .nil) rfl <| .call1 1 (c96 fu _ _ _) rfl n96 rfl rfl fun q7 => .elemA 0 rfl rfl rfl Tryz.underlying23 ty52 rfl <| .fieldA rfl fa52_0 rfl <| .storeA 0 fCol_0 rfl rfl rfl ty9 <| .nil ?_
        exact .keep [] [5] rfl (hj1 _ _)
      · refine .seq <| .region <| .bin rfl rfl rfl rfl <| .assign rfl rfl <| .nil ?_
        refine .cond rfl (fun _ => ?_) (fun _ => ?_)
        · refine .region <| .move rfl rfl <| .move rfl rfl <| .move rfl rfl <| .litN (T := (tI .i64)) Tryz.underlying63 el3 rfl rfl (.cons rfl <| .cons rfl <| .cons rfl <| .cons rfl <| .nil) rfl <| .call1 1 (c73 fu _ _ _) rfl n73 rfl rfl fun q8 => .elemA 0 rfl rfl rfl Tryz.underlying23 ty52 rfl <| .fieldA rfl fa52_1 rfl <| .storeA 0 fCol_1 rfl rfl rfl ty3 <| .nil ?_
          exact .keep [] [5] rfl (hj1 _ _)
        · refine .seq <| .region <| .bin rfl rfl rfl rfl <| .assign rfl rfl <| .nil ?_
          refine .cond rfl (fun _ => ?_) (fun _ => ?_)
          · refine .region <| .move rfl rfl <| .move rfl rfl <| .move rfl rfl <| .call1 1 (c97 fu _ _) rfl n97 rfl rfl fun q9 => .elemA 0 rfl rfl rfl Tryz.underlying23 ty52 rfl <| .fieldA rfl fa52_4 rfl <| .storeA 0 fCol_4 rfl rfl rfl ty47 <| .nil ?_
            exact .keep [] [5] rfl (hj1 _ _)
          · refine .seq <| .region <| .bin rfl rfl rfl rfl <| .assign rfl rfl <| .nil ?_
            refine .cond rfl (fun _ => ?_) (fun _ => ?_)
            · refine .seq <| .region <| .move rfl rfl <| .move rfl rfl <| .move rfl rfl <| .elemA 0 rfl rfl rfl Tryz.underlying23 ty52 rfl <| .loadA 0 (Fld.self _) rfl rfl ty52 rfl <| .litN (T := tCol) Tryz.underlying23 el52 rfl rfl (.cons rfl <| .nil) rfl <| .frz 0 5 rfl rfl <| .also 48 5 rfl rfl <| .also 49 5 rfl rfl <| .app (T := tCol) 0 rfl rfl rfl Tryz.underlying23 el52 rfl fun v10 => .assign rfl rfl <| .nil ?_
              exact .ret1 Tryz.func94 Tryz.results94 (.tmp rfl) rfl (fun _ _ => .cons _ <| .cons_cons _ <| .slnil)
            · refine .seq <| .region <| .bin rfl rfl rfl rfl <| .assign rfl rfl <| .nil ?_
              refine .cond rfl (fun _ => ?_) (fun _ => ?_)
              · refine .seq <| .region <| .litN (T := tCol) Tryz.underlying23 el52 rfl rfl (.nil) rfl <| .assign rfl rfl <| .nil ?_
                exact .ret1 Tryz.func94 Tryz.results94 (.tmp rfl) rfl (fun _ _ => .cons _ <| .cons_cons _ <| .slnil)
              · refine .seq <| .region <| .bin rfl rfl rfl rfl <| .assign rfl rfl <| .nil ?_
                refine .cond rfl (fun _ => ?_) (fun _ => ?_)
                · refine .region <| .move rfl rfl <| .move rfl rfl <| .move rfl rfl <| .move rfl rfl <| .elemA 0 rfl rfl rfl Tryz.underlying23 ty52 rfl <| .fieldA rfl fa52_3 rfl <| .loadA 0 fCol_3 rfl rfl ty4 rfl <| .not rfl rfl <| .elemA 0 rfl rfl rfl Tryz.underlying23 ty52 rfl <| .fieldA rfl fa52_3 rfl <| .storeA 0 fCol_3 rfl rfl rfl ty4 <| .nil ?_
                  exact .keep [] [5] rfl (hj1 _ _)
                · exact .skip <| .keep [] [5] rfl (hj1 _ _)
end Go.Proofs.YtlkhmcajnfombaaGreatDoor
