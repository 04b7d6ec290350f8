/- Functions of the program: what each answers, and that the machine answers so. -/
import Derived.Test.YtlkhmcajnfombaaGreatDoorQ1003A3
import Derived.KernelRfl
set_option linter.unusedVariables false
set_option linter.unusedSimpArgs false
set_option linter.deprecated false
set_option linter.unusedSectionVars false
set_option linter.all false
namespace Go.Proofs.YtlkhmcajnfombaaGreatDoor
open Go Go.HL
def f102_j2 (i5 : Int) (rec1 : Int → (List (List Val)) → Option Int) (i8 : List (List Val)) : Option Int := rec1 (IntKind.i64.wrap (i5 + 1)) i8
def f102_l1 (fu : Nat) (a0 : Table) (a1 : Row) (q3 : (List Col)) : Nat → Int → (List (List Val)) → Option Int
  | 0, _, _ => none
  | n1 + 1, i5, i6 => cond (decide (i5 < (List.length a0.rows : Int))) (cond (decide (0 ≤ i5) && decide (i5 < (List.length a0.rows : Int))) (cond (!decide (((a0.rows.getD i5.toNat default).id) = a1.id)) (cond (decide (0 ≤ i5) && decide (i5 < (List.length a0.rows : Int))) ((f90 fu a0 (a0.rows.getD i5.toNat default)).bind fun q10 => cond (decide (List.length i6 + List.length ([q10] : List (List Val)) ≤ CAP)) (f102_j2 i5 (f102_l1 fu a0 a1 q3 n1) (i6 ++ ([q10] : List (List Val)))) none) none) (f102_j2 i5 (f102_l1 fu a0 a1 q3 n1) i6)) none) ((f88 fu q3 a1.vals).bind fun q12 => cond (!q12) (some 2) ((f52 fu q3 i6).bind fun q13 => cond q13 (some 3) (some 0)))
def f102 (fu : Nat) (a0 : Table) (a1 : Row) : Option Int := (f53 fu a0).bind fun q3 => f102_l1 fu a0 a1 q3 fu 0 ([a1.vals] : List (List Val))
theorem n102 : ∃ fn c, Tryz.prog.funcs[74]? = some fn ∧ (fn.name == "runtime.NumGoroutine") = false ∧ fn.body = some c := ⟨_, _, Tryz.func74, by kernel_rfl, rfl⟩
def f102o_j2 (i5 : Int) (rec1 : Int → (List (List Val)) → Option Int) (i8 : List (List Val)) : Option Int := rec1 (IntKind.i64.wrap (i5 + 1)) i8
def f102o_l1 (fu : Nat) (a0 : Table) (a1 : Row) (q3 : (List Col)) : Nat → Int → (List (List Val)) → Option Int
  | 0, _, _ => none
  | n1 + 1, i5, i6 => cond (decide (i5 < (List.length a0.rows : Int))) (cond (decide (0 ≤ i5) && decide (i5 < (List.length a0.rows : Int))) (cond (!decide (((a0.rows.getD i5.toNat default).id) = a1.id)) (cond (decide (0 ≤ i5) && decide (i5 < (List.length a0.rows : Int))) ((f90o fu a0 (a0.rows.getD i5.toNat default)).bind fun q10 => cond (decide (List.length i6 + List.length ([q10] : List (List Val)) ≤ CAP)) (f102o_j2 i5 (f102o_l1 fu a0 a1 q3 n1) (i6 ++ ([q10] : List (List Val)))) none) none) (f102o_j2 i5 (f102o_l1 fu a0 a1 q3 n1) i6)) none) ((f88 fu q3 a1.vals).bind fun q12 => cond (!q12) (some 2) ((f52 fu q3 i6).bind fun q13 => cond q13 (some 3) (some 0)))
def f102o (fu : Nat) (a0 : Table) (a1 : Row) : Option Int := (f53o fu a0).bind fun q3 => f102o_l1 fu a0 a1 q3 fu 0 ([a1.vals] : List (List Val))
theorem c102o (fu : Nat) (vp0 : Value) (cp0 : Value) (a0 : Table) (a1 : Row) : Ctr Tryz.prog 74 [tTableA.va (⟨a0.first, (cp0, a0.changes), vp0, a0.next⟩ : TableA), tRow.va a1] [arrO tRow vp0 a0.rows] (f102o fu a0 a1) (fun _ _ => [arrO tRow vp0 a0.rows]) (fun q => isI .i64 q) := by
  refine Ctr.of_W Tryz.func74 rfl Tryz.ntmps74 rfl fun A w => ?_
  unfold f102o
  refine .seq <| .region <| .box (T := tTableA) rfl rfl fun b1 => .box (T := tRow) rfl rfl fun b2 => .assign rfl rfl <| .nil ?_
  refine .seq <| .region <| .loadP 1 (Fld.self _) rfl rfl ty27 rfl <| .callR 2 (c53o fu _ _ _) rfl n53 rfl rfl fun q3 => .assign rfl rfl <| .nil ?_
  refine .seq <| .region <| .fieldP rfl fa37_2 rfl <| .loadP 0 fRow_2 rfl rfl ty32 rfl <| .lit (T := (tL tVal)) Tryz.underlying82 el32 rfl rfl (.cons rfl <| .nil) rfl fun v4 => .assign rfl rfl <| .nil ?_
  refine .seq <| .seq <| .region <| .assign rfl rfl <| .nil ?_
  refine .block <| .loop <| .keep [2, 3, 5, 7] [6] rfl ?_
  refine (show ∀ (n1 : Nat) (i5 : Int) (i6 : List (List Val)) (v7 : Value), W _ _ _ _ _ ⟨[(2, isP b1 0, none), (3, isP b2 0, none), (5, (tL tCol).va q3, none), (7, isI .i64 i5, none), (6, (tL (tL tVal)).va i6, some v7)], [appO 1 v7, boxO b2 tRow a1 [], boxO b1 tTableA (⟨a0.first, (cp0, a0.changes), vp0, a0.next⟩ : TableA) [], arrO tRow vp0 a0.rows]⟩ (f102o_l1 fu a0 a1 q3 n1 i5 i6) from ?_) fu _ _ _
  intro n1
  induction n1 with
  | zero => exact fun _ _ _ => .stop
  | succ n1 ih1 =>
    intro i5 i6 v7
    refine .inLoop <| .seq <| .seq <| .region <| .move rfl rfl <| .fieldP rfl fa27_2 rfl <| .loadR 2 fTableA_2 rfl rfl ty25 rfl <| .know 15 rfl <| .lenA 3 rfl rfl Tryz.underlying25 rfl <| .bin rfl rfl rfl rfl <| .nil ?_
    refine .cond rfl (fun _ => ?_) (fun _ => ?_)
    · refine .skip <| .seq <| .block <| .seq <| .pT fun h3 => ?_
      refine .draw 8 [] mix (by kernel_rfl) (.cons (fun _ _ _ hP hE h => .fieldP (hE.op rfl) fa27_2 rfl <| h) <| .cons (fun _ _ _ hP hE h => .loadR 2 fTableA_2 (hE.op rfl) (hP.get rfl rfl) ty25 rfl <| h) <| .cons (fun _ _ _ hP hE h => .move (hE.op rfl) rfl <| h) <| .cons (fun _ _ _ hP hE h => .useC h3 <| .elemA 3 (hE.op rfl) (hE.op rfl) (hP.get rfl rfl) Tryz.underlying25 ty37 rfl <| h) <| .cons (fun _ _ _ hP hE h => .fieldA (hE.op rfl) fa37_0 rfl <| h) <| .cons (fun _ _ _ hP hE h => .loadA 3 fRow_0 (hE.op rfl) (hP.get rfl rfl) ty3 rfl <| h) <| .cons (fun _ _ _ hP hE h => .fieldP (hE.op rfl) fa37_0 rfl <| h) <| .cons (fun _ _ _ hP hE h => .loadP 1 fRow_0 (hE.op rfl) (hP.get rfl rfl) ty3 rfl <| h) <| .nil) rfl <| .bin rfl rfl rfl rfl <| .nil ?_
      refine .join2 (fun i8 v9 => ⟨[(2, isP b1 0, none), (3, isP b2 0, none), (5, (tL tCol).va q3, none), (7, isI .i64 i5, none), (6, (tL (tL tVal)).va i8, some v9)], [appO 1 v9, boxO b2 tRow a1 [], boxO b1 tTableA (⟨a0.first, (cp0, a0.changes), vp0, a0.next⟩ : TableA) [], arrO tRow vp0 a0.rows]⟩) (fun i8 v9 => f102o_j2 i5 (f102o_l1 fu a0 a1 q3 n1) i8) (fun i8 v9 => ?_) (fun hj2 => ?_)
      · refine .inBlock <| .region <| .move rfl rfl <| .bin rfl rfl rfl rfl <| .assign rfl rfl <| .nil ?_
        exact .keep [2, 3, 5, 7] [6] rfl (ih1 _ _ _)
      · refine .cond rfl (fun _ => ?_) (fun _ => ?_)
        · refine .pT fun h4 => ?_
          refine .draw 7 [0] mix (by kernel_rfl) (.cons (fun _ _ _ hP hE h => .move (hE.op rfl) rfl <| h) <| .cons (fun _ _ _ hP hE h => .loadP 2 (Fld.self _) (hE.op rfl) (hP.get rfl rfl) ty27 rfl <| h) <| .cons (fun _ _ _ hP hE h => .fieldP (hE.op rfl) fa27_2 rfl <| h) <| .cons (fun _ _ _ hP hE h => .loadR 2 fTableA_2 (hE.op rfl) (hP.get rfl rfl) ty25 rfl <| h) <| .cons (fun _ _ _ hP hE h => .move (hE.op rfl) rfl <| h) <| .cons (fun _ _ _ hP hE h => .useC h4 <| .elemA 3 (hE.op rfl) (hE.op rfl) (hP.get rfl rfl) Tryz.underlying25 ty37 rfl <| h) <| .cons (fun _ _ _ hP hE h => .loadA 3 (Fld.self _) (hE.op rfl) (hP.get rfl rfl) ty37 rfl <| h) <| .nil) rfl <| .callR 3 (c90o fu _ _ _ _) rfl n90 rfl rfl fun q10 => .litN (T := (tL tVal)) Tryz.underlying82 el32 rfl rfl (.cons rfl <| .nil) rfl <| .app (T := (tL tVal)) 0 rfl rfl rfl Tryz.underlying82 el32 rfl fun v11 => .assign rfl rfl <| .nil ?_
          exact .keep [2, 3, 5, 7] [6] rfl (hj2 _ _)
        · exact .skip <| .keep [2, 3, 5, 7] [6] rfl (hj2 _ _)
    · refine .exit rfl <| .seq <| .block <| .seq <| .region <| .move rfl rfl <| .fieldP rfl fa37_2 rfl <| .loadP 1 fRow_2 rfl rfl ty32 rfl <| .call0 (c88 fu _ _) n88 rfl rfl fun q12 => .not rfl rfl <| .assign rfl rfl <| .nil ?_
      refine .cond rfl (fun _ => ?_) (fun _ => ?_)
      · refine .seq <| .region <| .assign rfl rfl <| .nil ?_
        exact .ret1 Tryz.func74 Tryz.results74 (.tmp rfl) rfl (fun _ _ => .cons _ <| .cons _ <| .cons _ <| .cons_cons _ <| .slnil)
      · refine .seq <| .region <| .move rfl rfl <| .move rfl rfl <| .call0 (c52 fu _ _) n52 rfl rfl fun q13 => .assign rfl rfl <| .nil ?_
        refine .cond rfl (fun _ => ?_) (fun _ => ?_)
        · refine .seq <| .region <| .assign rfl rfl <| .nil ?_
          exact .ret1 Tryz.func74 Tryz.results74 (.tmp rfl) rfl (fun _ _ => .cons _ <| .cons _ <| .cons _ <| .cons_cons _ <| .slnil)
        · refine .skip <| .inBlock <| .seq <| .region <| .assign rfl rfl <| .nil ?_
          exact .ret1 Tryz.func74 Tryz.results74 (.tmp rfl) rfl (fun _ _ => .cons _ <| .cons _ <| .cons _ <| .cons_cons _ <| .slnil)
def f76_j1 (a0 : Table) (q8 : Int) (i9 : List Row) : Option (Table × Int) := some ((⟨a0.first, a0.changes, i9, a0.next⟩ : Table), q8)
def f76 (fu : Nat) (a0 : Table) (a1 : Int) (a2 : List Set) : Option (Table × Int) := (f82o fu a0 a1).bind fun q3 => cond (decide (q3 < 0)) (some (a0, 5)) ((f53o fu a0).bind fun q4 => cond (decide (0 ≤ q3) && decide (q3 < (List.length a0.rows : Int))) ((f90o fu a0 (a0.rows.getD q3.toNat default)).bind fun q5 => (f100 fu q4 q5 a2).bind fun q6 => cond (!q6.2) (some (a0, 1)) ((f102o fu a0 (⟨a1, (List.length a0.changes : Int), q6.1⟩ : Row)).bind fun q8 => cond (decide (q8 = 0)) (cond (decide (0 ≤ q3) && decide (q3 < (List.length a0.rows : Int))) (f76_j1 a0 q8 (a0.rows.set q3.toNat (⟨a1, (List.length a0.changes : Int), q6.1⟩ : Row))) none) (f76_j1 a0 q8 a0.rows))) none)
theorem n76 : ∃ fn c, Tryz.prog.funcs[36]? = some fn ∧ (fn.name == "runtime.NumGoroutine") = false ∧ fn.body = some c := ⟨_, _, Tryz.func36, by kernel_rfl, rfl⟩
theorem c76 (fu : Nat) (vp0 : Value) (cp0 : Value) (a0 : Table) (a1 : Int) (a2 : List Set) : CtrL Tryz.prog 36 [tTableA.va (⟨a0.first, (cp0, a0.changes), vp0, a0.next⟩ : TableA), isI .i64 a1, (tL tSet).va a2] [arrO tRow vp0 a0.rows] (f76 fu a0 a1 a2) (fun v => tabV (tupV 0 v)) (fun q p => [arrO tRow p.1 q.1.rows]) (fun q p => tup [tTableA.va (⟨q.1.first, (p.2, q.1.changes), p.1, q.1.next⟩ : TableA), isI .i64 q.2]) := by
  refine CtrL.of_W Tryz.func36 rfl Tryz.ntmps36 rfl fun A w => ?_
  unfold f76
  refine .seq <| .region <| .box (T := tTableA) rfl rfl fun b1 => .alloc tTableA d0A27 [] zA27 rfl fun b2 => .assign rfl rfl <| .nil ?_
  refine .seq <| .region <| .loadP 1 (Fld.self _) rfl rfl ty27 rfl <| .move rfl rfl <| .callR 2 (c82o fu _ _ _ _) rfl n82 rfl rfl fun q3 => .assign rfl rfl <| .nil ?_
  refine .seq <| .seq <| .region <| .move rfl rfl <| .bin rfl rfl rfl rfl <| .nil ?_
  refine .cond rfl (fun _ => ?_) (fun _ => ?_)
  · refine .seq <| .region <| .loadP 1 (Fld.self _) rfl rfl ty27 rfl <| .storeP 0 (Fld.self _) rfl rfl rfl ty27 <| .assign rfl rfl <| .nil ?_
    exact .retL2 (vp0, cp0) Tryz.func36 Tryz.results36 (.cell 0 rfl rfl ty27) (.tmp rfl) rfl (fun _ _ _ h => tabV_of h) (.cons _ <| .cons _ <| .cons_cons _ <| .slnil)
  · refine .skip <| .seq <| .pbind fun q4 h1 => ?_
    refine .pT fun h2 => ?_
    refine .pbind fun q5 h3 => ?_
    refine .draw 10 [] mix (by kernel_rfl) (.cons (fun _ _ _ hP hE h => .loadP 1 (Fld.self _) (hE.op rfl) (hP.get rfl rfl) ty27 rfl <| h) <| .cons (fun _ _ _ hP hE h => .bindE h1 (fun r h => .callR 2 (c53o fu _ _ _) (hP.get rfl rfl) n53 (hE.ops rfl) rfl h) <| h) <| .cons (fun _ _ _ hP hE h => .loadP 1 (Fld.self _) (hE.op rfl) (hP.get rfl rfl) ty27 rfl <| h) <| .cons (fun _ _ _ hP hE h => .fieldP (hE.op rfl) fa27_2 rfl <| h) <| .cons (fun _ _ _ hP hE h => .loadR 1 fTableA_2 (hE.op rfl) (hP.get rfl rfl) ty25 rfl <| h) <| .cons (fun _ _ _ hP hE h => .move (hE.op rfl) rfl <| h) <| .cons (fun _ _ _ hP hE h => .useC h2 <| .elemA 2 (hE.op rfl) (hE.op rfl) (hP.get rfl rfl) Tryz.underlying25 ty37 rfl <| h) <| .cons (fun _ _ _ hP hE h => .loadA 2 (Fld.self _) (hE.op rfl) (hP.get rfl rfl) ty37 rfl <| h) <| .cons (fun _ _ _ hP hE h => .bindE h3 (fun r h => .callR 2 (c90o fu _ _ _ _) (hP.get rfl rfl) n90 (hE.ops rfl) rfl h) <| h) <| .cons (fun _ _ _ hP hE h => .move (hE.op rfl) rfl <| h) <| .nil) rfl <| .call0 (c100 fu _ _ _) n100 rfl rfl fun q6 => .move rfl rfl <| .extract rfl rfl rfl <| .extract rfl rfl rfl <| .assign rfl rfl <| .assign rfl rfl <| .nil ?_
    refine .seq <| .seq <| .region <| .move rfl rfl <| .not rfl rfl <| .nil ?_
    refine .cond rfl (fun _ => ?_) (fun _ => ?_)
    · refine .seq <| .region <| .loadP 1 (Fld.self _) rfl rfl ty27 rfl <| .storeP 0 (Fld.self _) rfl rfl rfl ty27 <| .assign rfl rfl <| .nil ?_
      exact .retL2 (vp0, cp0) Tryz.func36 Tryz.results36 (.cell 0 rfl rfl ty27) (.tmp rfl) rfl (fun _ _ _ h => tabV_of h) (.cons _ <| .cons _ <| .cons_cons _ <| .slnil)
    · refine .skip <| .seq <| .region <| .move rfl rfl <| .fieldP rfl fa27_1 rfl <| .loadKV 1 fTableA_1 rfl rfl ty24 rfl <| .lenL rfl Tryz.underlying24 rfl <| .move rfl rfl <| .build rfl st37 z37 (.cons fRow_0 rfl rfl <| .cons fRow_1 rfl rfl <| .cons fRow_2 rfl rfl <| .nil) rfl <| .alloc tRow d0_37 [] z37 rfl fun b7 => .storeP 0 (Fld.self _) rfl rfl rfl ty37 <| .nil ?_
      refine .seq <| .region <| .loadP 2 (Fld.self _) rfl rfl ty27 rfl <| .loadP 0 (Fld.self _) rfl rfl ty37 rfl <| .callR 3 (c102o fu _ _ _ _) rfl n102 rfl rfl fun q8 => .assign rfl rfl <| .nil ?_
      refine .seq <| .seq <| .region <| .move rfl rfl <| .bin rfl rfl rfl rfl <| .nil ?_
      refine .join1 (fun i9 => ⟨[(3, isP b1 0, none), (6, isP b2 0, none), (12, isI .i64 q8, none)], [boxO b2 tTableA (⟨([] : List Col), ((.slice none 0 0), ([] : List Change)), (.slice none 0 0), (0 : Int)⟩ : TableA) [], boxO b1 tTableA (⟨a0.first, (cp0, a0.changes), vp0, a0.next⟩ : TableA) [], arrO tRow vp0 i9]⟩) (fun i9 => f76_j1 a0 q8 i9) (fun i9 => ?_) (fun hj1 => ?_)
      · refine .seq <| .region <| .loadP 1 (Fld.self _) rfl rfl ty27 rfl <| .move rfl rfl <| .storeP 0 (Fld.self _) rfl rfl rfl ty27 <| .assign rfl rfl <| .nil ?_
        exact .retL2 (vp0, cp0) Tryz.func36 Tryz.results36 (.cell 0 rfl rfl ty27) (.tmp rfl) rfl (fun _ _ _ h => tabV_of h) (.cons _ <| .cons _ <| .cons_cons _ <| .slnil)
      · refine .cond rfl (fun _ => ?_) (fun _ => ?_)
        · refine .region <| .fieldP rfl fa27_2 rfl <| .loadR 2 fTableA_2 rfl rfl ty25 rfl <| .know 48 rfl <| .move rfl rfl <| .loadP 0 (Fld.self _) rfl rfl ty37 rfl <| .elemA 3 rfl rfl rfl Tryz.underlying25 ty37 rfl <| .storeA 3 (Fld.self _) rfl rfl rfl ty37 <| .nil ?_
          exact .keep [3, 6, 12] [] rfl (.drop (.cons _ <| .cons_cons _ <| .cons_cons _ <| .cons_cons _ <| .slnil) <| hj1 _)
        · exact .skip <| .keep [3, 6, 12] [] rfl (.drop (.cons _ <| .cons_cons _ <| .cons_cons _ <| .cons_cons _ <| .slnil) <| hj1 _)
def f70_j4 (i13 : Change) (i14 : Rd) : Option (Change × Rd) := some (i13, i14)
def f70_j3 (fu : Nat) (i10 : Change) (i11 : Rd) : Option (Change × Rd) := (f74 fu i11 50).bind fun q12 => cond (decide (q12.1 = 0)) ((f73 fu q12.2 ([0, 5, -1, 2] : List Int)).bind fun q15 => f70_j4 ({ i10 with kind := q15.1 } : Change) q15.2) (cond (decide (q12.1 = 1)) ((f96 fu q12.2 ([([] : List UInt8), ([65] : List UInt8), ([97, 98, 99, 100] : List UInt8), ([97] : List UInt8)] : List (List UInt8))).bind fun q16 => f70_j4 ({ i10 with name := q16.1 } : Change) q16.2) (cond (decide (q12.1 = 2)) ((f96 fu q12.2 ([([113] : List UInt8), ([65] : List UInt8), ([97, 98, 99, 100] : List UInt8)] : List (List UInt8))).bind fun q17 => f70_j4 ({ i10 with new := q17.1 } : Change) q17.2) (cond (decide (q12.1 = 3)) ((f73 fu q12.2 ([0, 3, 1] : List Int)).bind fun q18 => f70_j4 ({ i10 with col := ({ i10.col with kind := q18.1 } : Col) } : Change) q18.2) (cond (decide (q12.1 = 4)) (f70_j4 ({ i10 with col := ({ i10.col with need := !i10.col.need } : Col) } : Change) q12.2) (f70_j4 i10 q12.2)))))
def f70_j5 (fu : Nat) (i6 : List UInt8) (q8 : Int × Rd) (q21 : Col × Rd) (i22 : Bool) (i23 : Rd) : Option (Change × Rd) := cond i22 (f70_j3 fu ({ ({ ({ (⟨IntKind.i64.wrap (1 + q8.1), i6, d0_56.new, d0_56.col⟩ : Change) with name := ([] : List UInt8) } : Change) with col := q21.1 } : Change) with col := ({ ({ ({ (⟨IntKind.i64.wrap (1 + q8.1), i6, d0_56.new, d0_56.col⟩ : Change) with name := ([] : List UInt8) } : Change) with col := q21.1 } : Change).col with need := false } : Col) } : Change) i23) (f70_j3 fu ({ ({ (⟨IntKind.i64.wrap (1 + q8.1), i6, d0_56.new, d0_56.col⟩ : Change) with name := ([] : List UInt8) } : Change) with col := q21.1 } : Change) i23)
def f70_j6 (fu : Nat) (a1 : List Col) (i6 : List UInt8) (q8 : Int × Rd) (q26 : Int × Rd) (q27 : Int) (i28 : Bool) (i29 : Rd) : Option (Change × Rd) := cond i28 (cond (decide (0 ≤ q27) && decide (q27 < (List.length a1 : Int))) (f70_j3 fu ({ ({ (⟨IntKind.i64.wrap (1 + q8.1), i6, d0_56.new, d0_56.col⟩ : Change) with col := ({ (⟨IntKind.i64.wrap (1 + q8.1), i6, d0_56.new, d0_56.col⟩ : Change).col with kind := IntKind.i64.wrap (1 + q26.1) } : Col) } : Change) with col := ({ ({ (⟨IntKind.i64.wrap (1 + q8.1), i6, d0_56.new, d0_56.col⟩ : Change) with col := ({ (⟨IntKind.i64.wrap (1 + q8.1), i6, d0_56.new, d0_56.col⟩ : Change).col with kind := IntKind.i64.wrap (1 + q26.1) } : Col) } : Change).col with kind := IntKind.i64.wrap (3 - ((a1.getD q27.toNat default).kind)) } : Col) } : Change) i29) none) (f70_j3 fu ({ (⟨IntKind.i64.wrap (1 + q8.1), i6, d0_56.new, d0_56.col⟩ : Change) with col := ({ (⟨IntKind.i64.wrap (1 + q8.1), i6, d0_56.new, d0_56.col⟩ : Change).col with kind := IntKind.i64.wrap (1 + q26.1) } : Col) } : Change) i29)
def f70_j2 (fu : Nat) (a1 : List Col) (i6 : List UInt8) (i7 : Rd) : Option (Change × Rd) := (f74 fu i7 4).bind fun q8 => cond (decide (((⟨IntKind.i64.wrap (1 + q8.1), i6, d0_56.new, d0_56.col⟩ : Change).kind) = 1)) ((f106).bind fun q19 => (f96 fu q8.2 q19).bind fun q20 => (f107 fu q20.2 q20.1).bind fun q21 => cond ((({ ({ (⟨IntKind.i64.wrap (1 + q8.1), i6, d0_56.new, d0_56.col⟩ : Change) with name := ([] : List UInt8) } : Change) with col := q21.1 } : Change).col).need) (cond (decide ((((({ ({ (⟨IntKind.i64.wrap (1 + q8.1), i6, d0_56.new, d0_56.col⟩ : Change) with name := ([] : List UInt8) } : Change) with col := q21.1 } : Change).col).def_).kind) = 0)) ((f74 fu q21.2 4).bind fun q24 => f70_j5 fu i6 q8 q21 (decide (0 < q24.1)) q24.2) (f70_j5 fu i6 q8 q21 false q21.2)) (f70_j5 fu i6 q8 q21 false q21.2)) (cond (decide (((⟨IntKind.i64.wrap (1 + q8.1), i6, d0_56.new, d0_56.col⟩ : Change).kind) = 3)) ((f96 fu q8.2 ([([97] : List UInt8), ([98] : List UInt8), ([99] : List UInt8), ([100] : List UInt8), ([101] : List UInt8), ([120] : List UInt8), ([121, 121] : List UInt8)] : List (List UInt8))).bind fun q25 => f70_j3 fu ({ (⟨IntKind.i64.wrap (1 + q8.1), i6, d0_56.new, d0_56.col⟩ : Change) with new := q25.1 } : Change) q25.2) (cond (decide (((⟨IntKind.i64.wrap (1 + q8.1), i6, d0_56.new, d0_56.col⟩ : Change).kind) = 4)) ((f74 fu q8.2 2).bind fun q26 => (f108 fu a1 i6).bind fun q27 => cond (decide (0 ≤ q27)) ((f74 fu q26.2 6).bind fun q30 => f70_j6 fu a1 i6 q8 q26 q27 (decide (0 < q30.1)) q30.2) (f70_j6 fu a1 i6 q8 q26 q27 false q26.2)) (f70_j3 fu (⟨IntKind.i64.wrap (1 + q8.1), i6, d0_56.new, d0_56.col⟩ : Change) q8.2)))
def f70_j1 (fu : Nat) (a1 : List Col) (q3 : (List UInt8) × Rd) (i4 : Bool) (i5 : Rd) : Option (Change × Rd) := cond i4 ((f74 fu i5 (List.length a1 : Int)).bind fun q31 => cond (decide (0 ≤ q31.1) && decide (q31.1 < (List.length a1 : Int))) (f70_j2 fu a1 ((a1.getD q31.1.toNat default).name) q31.2) none) (f70_j2 fu a1 q3.1 i5)
def f70 (fu : Nat) (a0 : Rd) (a1 : List Col) : Option (Change × Rd) := (f106).bind fun q2 => (f96 fu a0 q2).bind fun q3 => cond (decide (0 < (List.length a1 : Int))) ((f74 fu q3.2 6).bind fun q32 => f70_j1 fu a1 q3 (decide (0 < q32.1)) q32.2) (f70_j1 fu a1 q3 false q3.2)
theorem n70 : ∃ fn c, Tryz.prog.funcs[118]? = some fn ∧ (fn.name == "runtime.NumGoroutine") = false ∧ fn.body = some c := ⟨_, _, Tryz.func118, by kernel_rfl, rfl⟩
theorem c70 (fu : Nat) (bp0 : Nat) (a0 : Rd) (a1 : List Col) : Ctr Tryz.prog 118 [isP bp0 0, (tL tCol).va a1] [boxO bp0 tRd a0 []] (f70 fu a0 a1) (fun q _ => [boxO bp0 tRd q.2 []]) (fun q => tChange.va q.1) := by
  refine Ctr.of_W Tryz.func118 rfl Tryz.ntmps118 rfl fun A w => ?_
  unfold f70
  refine .seq <| .region <| .alloc tChange d0_56 [] z56 rfl fun b1 => .nil ?_
  refine .seq <| .region <| .move rfl rfl <| .call0 (c106) n106 rfl rfl fun q2 => .call1 1 (c96 fu _ _ _) rfl n96 rfl rfl fun q3 => .assign rfl rfl <| .nil ?_
  refine .seq <| .seq <| .join2 (fun i4 i5 => ⟨[(0, isP bp0 0, none), (1, (tL tCol).va a1, none), (4, isP b1 0, none), (5, isS q3.1, none), (18, isB i4, none)], [boxO b1 tChange d0_56 [], boxO bp0 tRd i5 []]⟩) (fun i4 i5 => f70_j1 fu a1 q3 i4 i5) (fun i4 i5 => ?_) (fun hj1 => ?_)
  · refine .join2 (fun i6 i7 => ⟨[(0, isP bp0 0, none), (1, (tL tCol).va a1, none), (4, isP b1 0, none), (5, isS i6, none)], [boxO b1 tChange d0_56 [], boxO bp0 tRd i7 []]⟩) (fun i6 i7 => f70_j2 fu a1 i6 i7) (fun i6 i7 => ?_) (fun hj2 => ?_)
    · refine .seq <| .region <| .move rfl rfl <| .call1 1 (c74 fu _ _ _) rfl n74 rfl rfl fun q8 => .bin rfl rfl rfl rfl <| .move rfl rfl <| .build rfl st56 z56 (.cons fChange_0 rfl rfl <| .cons fChange_1 rfl rfl <| .nil) rfl <| .alloc tChange d0_56 [] z56 rfl fun b9 => .storeP 0 (Fld.self _) rfl rfl rfl ty56 <| .nil ?_
      refine .seq <| .seq <| .region <| .fieldP rfl fa56_0 rfl <| .loadP 0 fChange_0 rfl rfl ty3 rfl <| .nil ?_
      refine .block <| .seq <| .region <| .bin rfl rfl rfl rfl <| .assign rfl rfl <| .nil ?_
      refine .join2 (fun i10 i11 => ⟨[(0, isP bp0 0, none), (4, isP b1 0, none), (6, isP b9 0, none)], [boxO b9 tChange i10 [], boxO b1 tChange d0_56 [], boxO bp0 tRd i11 []]⟩) (fun i10 i11 => f70_j3 fu i10 i11) (fun i10 i11 => ?_) (fun hj3 => ?_)
      · refine .inBlock <| .seq <| .seq <| .region <| .move rfl rfl <| .call1 2 (c74 fu _ _ _) rfl n74 rfl rfl fun q12 => .nil ?_
        refine .block <| .seq <| .region <| .bin rfl rfl rfl rfl <| .assign rfl rfl <| .nil ?_
        refine .join2 (fun i13 i14 => ⟨[(4, isP b1 0, none), (6, isP b9 0, none)], [boxO b9 tChange i13 [], boxO b1 tChange d0_56 [], boxO bp0 tRd i14 []]⟩) (fun i13 i14 => f70_j4 i13 i14) (fun i13 i14 => ?_) (fun hj4 => ?_)
        · refine .inBlock <| .seq <| .region <| .loadP 0 (Fld.self _) rfl rfl ty56 rfl <| .storeP 1 (Fld.self _) rfl rfl rfl ty56 <| .nil ?_
          exact .ret1 Tryz.func118 Tryz.results118 (.cell 1 rfl rfl ty56) rfl (fun _ _ => .cons _ <| .cons _ <| .cons_cons _ <| .slnil)
        · refine .cond rfl (fun _ => ?_) (fun _ => ?_)
          · refine .region <| .move rfl rfl <| .litN (T := (tI .i64)) Tryz.underlying63 el3 rfl rfl (.cons rfl <| .cons rfl <| .cons rfl <| .cons rfl <| .nil) rfl <| .call1 2 (c73 fu _ _ _) rfl n73 rfl rfl fun q15 => .fieldP rfl fa56_0 rfl <| .storeP 0 fChange_0 rfl rfl rfl ty3 <| .nil ?_
            exact .keep [4, 6] [] rfl (hj4 _ _)
          · refine .seq <| .region <| .bin rfl rfl rfl rfl <| .assign rfl rfl <| .nil ?_
            refine .cond rfl (fun _ => ?_) (fun _ => ?_)
            · refine .region <| .move rfl rfl <| .litN (T := tS) Tryz.underlying94 el9 rfl rfl (.cons rfl <| .cons rfl <| .cons rfl <| .cons rfl <| .nil) rfl <| .call1 2 (c96 fu _ _ _) rfl n96 rfl rfl fun q16 => .fieldP rfl fa56_1 rfl <| .storeP 0 fChange_1 rfl rfl rfl ty9 <| .nil ?_
              exact .keep [4, 6] [] rfl (hj4 _ _)
            · refine .seq <| .region <| .bin rfl rfl rfl rfl <| .assign rfl rfl <| .nil ?_
              refine .cond rfl (fun _ => ?_) (fun _ => ?_)
              · refine .region <| .move rfl rfl <| .litN (T := tS) Tryz.underlying94 el9 rfl rfl (.cons rfl <| .cons rfl <| .cons rfl <| .nil) rfl <| .call1 2 (c96 fu _ _ _) rfl n96 rfl rfl fun q17 => .fieldP rfl fa56_2 rfl <| .storeP 0 fChange_2 rfl rfl rfl ty9 <| .nil ?_
                exact .keep [4, 6] [] rfl (hj4 _ _)
              · refine .seq <| .region <| .bin rfl rfl rfl rfl <| .assign rfl rfl <| .nil ?_
                refine .cond rfl (fun _ => ?_) (fun _ => ?_)
                · refine .region <| .move rfl rfl <| .litN (T := (tI .i64)) Tryz.underlying63 el3 rfl rfl (.cons rfl <| .cons rfl <| .cons rfl <| .nil) rfl <| .call1 2 (c73 fu _ _ _) rfl n73 rfl rfl fun q18 => .fieldP rfl fa56_3 rfl <| .fieldP rfl fa52_1 rfl <| .storeP 0 (fChange_3.comp fCol_1) rfl rfl rfl ty3 <| .nil ?_
                  exact .keep [4, 6] [] rfl (hj4 _ _)
                · refine .seq <| .region <| .bin rfl rfl rfl rfl <| .assign rfl rfl <| .nil ?_
                  refine .cond rfl (fun _ => ?_) (fun _ => ?_)
                  · refine .region <| .fieldP rfl fa56_3 rfl <| .fieldP rfl fa52_2 rfl <| .loadP 0 (fChange_3.comp fCol_2) rfl rfl ty4 rfl <| .not rfl rfl <| .fieldP rfl fa56_3 rfl <| .fieldP rfl fa52_2 rfl <| .storeP 0 (fChange_3.comp fCol_2) rfl rfl rfl ty4 <| .nil ?_
                    exact .keep [4, 6] [] rfl (hj4 _ _)
                  · exact .skip <| .keep [4, 6] [] rfl (hj4 _ _)
      · refine .cond rfl (fun _ => ?_) (fun _ => ?_)
        · refine .seq <| .region <| .fieldP rfl fa56_1 rfl <| .storeP 0 fChange_1 rfl rfl rfl ty9 <| .nil ?_
          refine .seq <| .region <| .move rfl rfl <| .move rfl rfl <| .call0 (c106) n106 rfl rfl fun q19 => .call1 2 (c96 fu _ _ _) rfl n96 rfl rfl fun q20 => .call1 2 (c107 fu _ _ _) rfl n107 rfl rfl fun q21 => .fieldP rfl fa56_3 rfl <| .storeP 0 fChange_3 rfl rfl rfl ty52 <| .nil ?_
          refine .seq <| .join2 (fun i22 i23 => ⟨[(0, isP bp0 0, none), (4, isP b1 0, none), (6, isP b9 0, none), (57, isB i22, none)], [boxO b9 tChange ({ ({ (⟨IntKind.i64.wrap (1 + q8.1), i6, d0_56.new, d0_56.col⟩ : Change) with name := ([] : List UInt8) } : Change) with col := q21.1 } : Change) [], boxO b1 tChange d0_56 [], boxO bp0 tRd i23 []]⟩) (fun i22 i23 => f70_j5 fu i6 q8 q21 i22 i23) (fun i22 i23 => ?_) (fun hj5 => ?_)
          · refine .cond rfl (fun _ => ?_) (fun _ => ?_)
            · refine .region <| .fieldP rfl fa56_3 rfl <| .fieldP rfl fa52_2 rfl <| .storeP 0 (fChange_3.comp fCol_2) rfl rfl rfl ty4 <| .nil ?_
              exact .keep [0, 4, 6] [] rfl (hj3 _ _)
            · exact .skip <| .keep [0, 4, 6] [] rfl (hj3 _ _)
          · refine .region <| .fieldP rfl fa56_3 rfl <| .fieldP rfl fa52_2 rfl <| .loadP 0 (fChange_3.comp fCol_2) rfl rfl ty4 rfl <| .move rfl rfl <| .split 46 rfl (fun _ => ?_) (fun _ => ?_)
            · refine .on rfl rfl <| .fieldP rfl fa56_3 rfl <| .on rfl rfl <| .fieldP rfl fa52_4 rfl <| .on rfl rfl <| .fieldP rfl fa47_0 rfl <| .on rfl rfl <| .loadP 0 (fChange_3.comp (fCol_4.comp fVal_0)) rfl rfl ty3 rfl <| .on rfl rfl <| .bin rfl rfl rfl rfl <| .pickT rfl rfl rfl <| .move rfl rfl <| .split 53 rfl (fun _ => ?_) (fun _ => ?_)
              · refine .on rfl rfl <| .move rfl rfl <| .on rfl rfl <| .call1 2 (c74 fu _ _ _) rfl n74 rfl rfl fun q24 => .on rfl rfl <| .bin rfl rfl rfl rfl <| .pickT rfl rfl rfl <| .nil ?_
                exact .keep [0, 4, 6, 57] [] rfl (hj5 _ _)
              · refine .off rfl rfl rfl <| .off rfl rfl rfl <| .off rfl rfl rfl <| .pickF rfl rfl rfl <| .nil ?_
                exact .keep [0, 4, 6, 57] [] rfl (hj5 _ _)
            · refine .off rfl rfl rfl <| .off rfl rfl rfl <| .off rfl rfl rfl <| .off rfl rfl rfl <| .off rfl rfl rfl <| .pickF rfl rfl rfl <| .move rfl rfl <| .off rfl rfl rfl <| .off rfl rfl rfl <| .off rfl rfl rfl <| .pickF rfl rfl rfl <| .nil ?_
              exact .keep [0, 4, 6, 57] [] rfl (hj5 _ _)
        · refine .seq <| .region <| .bin rfl rfl rfl rfl <| .assign rfl rfl <| .nil ?_
          refine .cond rfl (fun _ => ?_) (fun _ => ?_)
          · refine .region <| .move rfl rfl <| .litN (T := tS) Tryz.underlying94 el9 rfl rfl (.cons rfl <| .cons rfl <| .cons rfl <| .cons rfl <| .cons rfl <| .cons rfl <| .cons rfl <| .nil) rfl <| .call1 2 (c96 fu _ _ _) rfl n96 rfl rfl fun q25 => .fieldP rfl fa56_2 rfl <| .storeP 0 fChange_2 rfl rfl rfl ty9 <| .nil ?_
            exact .keep [0, 4, 6] [] rfl (hj3 _ _)
          · refine .seq <| .region <| .bin rfl rfl rfl rfl <| .assign rfl rfl <| .nil ?_
            refine .cond rfl (fun _ => ?_) (fun _ => ?_)
            · refine .seq <| .region <| .move rfl rfl <| .call1 2 (c74 fu _ _ _) rfl n74 rfl rfl fun q26 => .bin rfl rfl rfl rfl <| .fieldP rfl fa56_3 rfl <| .fieldP rfl fa52_1 rfl <| .storeP 0 (fChange_3.comp fCol_1) rfl rfl rfl ty3 <| .nil ?_
              refine .seq <| .region <| .move rfl rfl <| .move rfl rfl <| .call0 (c108 fu _ _) n108 rfl rfl fun q27 => .assign rfl rfl <| .nil ?_
              refine .seq <| .join2 (fun i28 i29 => ⟨[(0, isP bp0 0, none), (1, (tL tCol).va a1, none), (4, isP b1 0, none), (6, isP b9 0, none), (7, isI .i64 q27, none), (82, isB i28, none)], [boxO b9 tChange ({ (⟨IntKind.i64.wrap (1 + q8.1), i6, d0_56.new, d0_56.col⟩ : Change) with col := ({ (⟨IntKind.i64.wrap (1 + q8.1), i6, d0_56.new, d0_56.col⟩ : Change).col with kind := IntKind.i64.wrap (1 + q26.1) } : Col) } : Change) [], boxO b1 tChange d0_56 [], boxO bp0 tRd i29 []]⟩) (fun i28 i29 => f70_j6 fu a1 i6 q8 q26 q27 i28 i29) (fun i28 i29 => ?_) (fun hj6 => ?_)
              · refine .cond rfl (fun _ => ?_) (fun _ => ?_)
                · refine .region <| .move rfl rfl <| .move rfl rfl <| .elemAt rfl rfl Tryz.underlying23 ty52 rfl <| .fieldAt fCol_1 rfl fa52_1 rfl <| .load rfl ty3 rfl <| .bin rfl rfl rfl rfl <| .fieldP rfl fa56_3 rfl <| .fieldP rfl fa52_1 rfl <| .storeP 0 (fChange_3.comp fCol_1) rfl rfl rfl ty3 <| .nil ?_
                  exact .keep [0, 4, 6] [] rfl (hj3 _ _)
                · exact .skip <| .keep [0, 4, 6] [] rfl (hj3 _ _)
              · refine .region <| .move rfl rfl <| .bin rfl rfl rfl rfl <| .move rfl rfl <| .split 78 rfl (fun _ => ?_) (fun _ => ?_)
                · refine .on rfl rfl <| .move rfl rfl <| .on rfl rfl <| .call1 2 (c74 fu _ _ _) rfl n74 rfl rfl fun q30 => .on rfl rfl <| .bin rfl rfl rfl rfl <| .pickT rfl rfl rfl <| .nil ?_
                  exact .keep [0, 1, 4, 6, 7, 82] [] rfl (hj6 _ _)
                · refine .off rfl rfl rfl <| .off rfl rfl rfl <| .off rfl rfl rfl <| .pickF rfl rfl rfl <| .nil ?_
                  exact .keep [0, 1, 4, 6, 7, 82] [] rfl (hj6 _ _)
            · exact .skip <| .keep [0, 4, 6] [] rfl (hj3 _ _)
    · refine .cond rfl (fun _ => ?_) (fun _ => ?_)
      · refine .region <| .move rfl rfl <| .move rfl rfl <| .move rfl rfl <| .lenL rfl Tryz.underlying23 rfl <| .call1 1 (c74 fu _ _ _) rfl n74 rfl rfl fun q31 => .elemAt rfl rfl Tryz.underlying23 ty52 rfl <| .fieldAt fCol_0 rfl fa52_0 rfl <| .load rfl ty9 rfl <| .assign rfl rfl <| .nil ?_
        exact .keep [0, 1, 4, 5] [] rfl (hj2 _ _)
      · exact .skip <| .keep [0, 1, 4, 5] [] rfl (hj2 _ _)
  · refine .region <| .move rfl rfl <| .lenL rfl Tryz.underlying23 rfl <| .bin rfl rfl rfl rfl <| .move rfl rfl <| .split 14 rfl (fun _ => ?_) (fun _ => ?_)
    · refine .on rfl rfl <| .move rfl rfl <| .on rfl rfl <| .call1 1 (c74 fu _ _ _) rfl n74 rfl rfl fun q32 => .on rfl rfl <| .bin rfl rfl rfl rfl <| .pickT rfl rfl rfl <| .nil ?_
      exact .keep [0, 1, 4, 5, 18] [] rfl (hj1 _ _)
    · refine .off rfl rfl rfl <| .off rfl rfl rfl <| .off rfl rfl rfl <| .pickF rfl rfl rfl <| .nil ?_
      exact .keep [0, 1, 4, 5, 18] [] rfl (hj1 _ _)
def f42_l1 (a0 : Table) : Nat → Int → Table → Option Table
  | 0, _, _ => none
  | n1 + 1, i5, i6 => cond (decide (i5 < (List.length a0.rows : Int))) (cond (decide (0 ≤ i5) && decide (i5 < (List.length a0.rows : Int))) (cond (decide (0 ≤ i5) && decide (i5 < (List.length a0.rows : Int))) (cond (decide (0 ≤ i5) && decide (i5 < (List.length a0.rows : Int))) (cond (decide (List.length ([] : List Val) + List.length ((a0.rows.getD i5.toNat default).vals) ≤ CAP)) (cond (decide (List.length i6.rows + List.length ([(⟨(a0.rows.getD i5.toNat default).id, (a0.rows.getD i5.toNat default).ver, ([] : List Val) ++ ((a0.rows.getD i5.toNat default).vals)⟩ : Row)] : List Row) ≤ CAP)) ((f42_l1 a0 n1) (IntKind.i64.wrap (i5 + 1)) (⟨i6.first, i6.changes, i6.rows ++ ([(⟨(a0.rows.getD i5.toNat default).id, (a0.rows.getD i5.toNat default).ver, ([] : List Val) ++ ((a0.rows.getD i5.toNat default).vals)⟩ : Row)] : List Row), i6.next⟩ : Table)) none) none) none) none) none) (some i6)
def f42_j1 (fu : Nat) (a0 : Table) : Option Table := f42_l1 a0 fu 0 (⟨([] : List Col) ++ a0.first, ([] : List Change) ++ a0.changes, ([] : List Row), a0.next⟩ : Table)
def f42 (fu : Nat) (a0 : Table) : Option Table := cond (decide (List.length ([] : List Col) + List.length a0.first ≤ CAP)) (cond (decide (List.length ([] : List Change) + List.length a0.changes ≤ CAP)) (f42_j1 fu a0) none) none
theorem n42 : ∃ fn c, Tryz.prog.funcs[37]? = some fn ∧ (fn.name == "runtime.NumGoroutine") = false ∧ fn.body = some c := ⟨_, _, Tryz.func37, by kernel_rfl, rfl⟩
theorem c42 (fu : Nat) (a0 : Table) : CtrL Tryz.prog 37 [tTable.va a0] [] (f42 fu a0) tabV (fun q p => [arrO tRow p.1 q.rows, appO 10 p.2]) (fun q p => tTableA.va (⟨q.first, (p.2, q.changes), p.1, q.next⟩ : TableA)) := by
  refine CtrL.of_W Tryz.func37 rfl Tryz.ntmps37 rfl fun A w => ?_
  unfold f42
  refine .seq <| .region <| .box (T := tTable) rfl rfl fun b1 => .alloc tTableA d0A27 [] zA27 rfl fun b2 => .nil ?_
  refine .seq <| .join2 (fun b3 v4 => ⟨[(1, isP b1 0, none), (2, isP b2 0, none), (3, isP b3 0, none)], [arrO tRow (.slice none 0 0) ([] : List Row), boxO b2 tTableA (⟨([] : List Col), ((.slice none 0 0), ([] : List Change)), (.slice none 0 0), (0 : Int)⟩ : TableA) [], boxO b1 tTable a0 [], appO 10 v4, boxO b3 tTableA (⟨([] : List Col) ++ a0.first, (v4, ([] : List Change) ++ a0.changes), (.slice none 0 0), a0.next⟩ : TableA) []]⟩) (fun b3 v4 => f42_j1 fu a0) (fun b3 v4 => ?_) (fun hj1 => ?_)
  · refine .seq <| .seq <| .region <| .assign rfl rfl <| .nil ?_
    refine .block <| .loop <| .keep [1, 2, 3, 4] [] rfl ?_
    refine (show ∀ (n1 : Nat) (i5 : Int) (i6 : Table) (v7 : Value), W _ _ _ _ _ ⟨[(1, isP b1 0, none), (2, isP b2 0, none), (3, isP b3 0, none), (4, isI .i64 i5, none)], [arrO tRow v7 i6.rows, boxO b2 tTableA (⟨([] : List Col), ((.slice none 0 0), ([] : List Change)), (.slice none 0 0), (0 : Int)⟩ : TableA) [], boxO b1 tTable a0 [], appO 10 v4, boxO b3 tTableA (⟨i6.first, (v4, i6.changes), v7, i6.next⟩ : TableA) []]⟩ (f42_l1 a0 n1 i5 i6) from ?_) fu _ _ _
    intro n1
    induction n1 with
    | zero => exact fun _ _ _ => .stop
    | succ n1 ih1 =>
      intro i5 i6 v7
      refine .inLoop <| .seq <| .seq <| .region <| .move rfl rfl <| .fieldP rfl fa27_2 rfl <| .loadP 2 fTable_2 rfl rfl ty25 rfl <| .lenL rfl Tryz.underlying25 rfl <| .bin rfl rfl rfl rfl <| .nil ?_
      refine .cond rfl (fun _ => ?_) (fun _ => ?_)
      · refine .skip <| .seq <| .block <| .pT fun h5 => ?_
        refine .pT fun h6 => ?_
        refine .pT fun h7 => ?_
        refine .pT fun h8 => ?_
        refine .drawS 24 [] [21, 22, 23] [] mix (by kernel_rfl) (.cons (fun _ _ _ hP hE h => .fieldP (hE.op rfl) fa27_2 rfl <| h) <| .cons (fun _ _ _ hP hE h => .loadR 4 fTableA_2 (hE.op rfl) (hP.get rfl rfl) ty25 rfl <| h) <| .cons (fun _ _ _ hP hE h => .fieldP (hE.op rfl) fa27_2 rfl <| h) <| .cons (fun _ _ _ hP hE h => .loadP 2 fTable_2 (hE.op rfl) (hP.get rfl rfl) ty25 rfl <| h) <| .cons (fun _ _ _ hP hE h => .move (hE.op rfl) rfl <| h) <| .cons (fun _ _ _ hP hE h => .useC h5 <| .elemAt (hE.op rfl) (hE.op rfl) Tryz.underlying25 ty37 rfl <| h) <| .cons (fun _ _ _ hP hE h => .fieldAt fRow_0 (hE.op rfl) fa37_0 rfl <| h) <| .cons (fun _ _ _ hP hE h => .load (hE.op rfl) ty3 rfl <| h) <| .cons (fun _ _ _ hP hE h => .fieldP (hE.op rfl) fa27_2 rfl <| h) <| .cons (fun _ _ _ hP hE h => .loadP 2 fTable_2 (hE.op rfl) (hP.get rfl rfl) ty25 rfl <| h) <| .cons (fun _ _ _ hP hE h => .move (hE.op rfl) rfl <| h) <| .cons (fun _ _ _ hP hE h => .useC h6 <| .elemAt (hE.op rfl) (hE.op rfl) Tryz.underlying25 ty37 rfl <| h) <| .cons (fun _ _ _ hP hE h => .fieldAt fRow_1 (hE.op rfl) fa37_1 rfl <| h) <| .cons (fun _ _ _ hP hE h => .load (hE.op rfl) ty3 rfl <| h) <| .cons (fun _ _ _ hP hE h => .litE tVal Tryz.underlying42 el47 rfl rfl <| h) <| .cons (fun _ _ _ hP hE h => .fieldP (hE.op rfl) fa27_2 rfl <| h) <| .cons (fun _ _ _ hP hE h => .loadP 2 fTable_2 (hE.op rfl) (hP.get rfl rfl) ty25 rfl <| h) <| .cons (fun _ _ _ hP hE h => .move (hE.op rfl) rfl <| h) <| .cons (fun _ _ _ hP hE h => .useC h7 <| .elemAt (hE.op rfl) (hE.op rfl) Tryz.underlying25 ty37 rfl <| h) <| .cons (fun _ _ _ hP hE h => .fieldAt fRow_2 (hE.op rfl) fa37_2 rfl <| h) <| .cons (fun _ _ _ hP hE h => .load (hE.op rfl) ty32 rfl <| h) <| .skip <| .skip <| .skip <| .nil) rfl <| .cons (d := 44) rfl rfl fun _ _ hE h => .useC h8 <| .appE (T := tVal) (hE.op rfl) (hE.op rfl) rfl Tryz.underlying42 el47 rfl fun v8 => .toEnd <| h _ _ (.same <| .same <| .same <| .same <| .same <| .nil) <| .cons (d := 45) rfl rfl fun _ _ hE h => .build rfl st37 z37 (.cons fRow_0 rfl (hE.op rfl) <| .cons fRow_1 rfl (hE.op rfl) <| .cons fRow_2 rfl (hE.op rfl) <| .nil) rfl <| h _ _ (.same <| .same <| .same <| .same <| .same <| .nil) <| .cons (d := 46) rfl rfl fun _ _ hE h => .litN (T := tRow) Tryz.underlying25 el37 rfl rfl (.cons (hE.op rfl) <| .nil) rfl <| h _ _ (.same <| .same <| .same <| .same <| .same <| .nil) <| .nil <| .appA (T := tRow) 0 rfl rfl rfl Tryz.underlying25 el37 rfl fun v9 => .fieldP rfl fa27_2 rfl <| .toRaw (T := tRow) 0 47 rfl rfl <| .storeP 4 fTableA_2 rfl rfl rfl ty25 <| .nil ?_
        refine .inBlock <| .region <| .move rfl rfl <| .bin rfl rfl rfl rfl <| .assign rfl rfl <| .nil ?_
        exact .keep [1, 2, 3, 4] [] rfl (.drop (.cons_cons _ <| .cons_cons _ <| .cons_cons _ <| .cons_cons _ <| .cons_cons _ <| .cons _ <| .slnil) <| ih1 _ _ _)
      · refine .exit rfl <| .seq <| .region <| .loadP 4 (Fld.self _) rfl rfl ty27 rfl <| .storeP 1 (Fld.self _) rfl rfl rfl ty27 <| .nil ?_
        exact .retL1 (v7, v4) Tryz.func37 Tryz.results37 (.cell 1 rfl rfl ty27) rfl (fun _ _ _ h => tabV_of h) (.cons_cons _ <| .cons _ <| .cons _ <| .cons_cons _ <| .cons _ <| .slnil)
  · refine .pT fun h9 => ?_
    refine .pT fun h10 => ?_
    refine .drawF 12 [] [3, 7, 10] (some 11) [] mix (by kernel_rfl) (.cons (fun _ _ _ hP hE h => .litE tCol Tryz.underlying23 el52 rfl rfl <| h) <| .cons (fun _ _ _ hP hE h => .fieldP (hE.op rfl) fa27_0 rfl <| h) <| .cons (fun _ _ _ hP hE h => .loadP 1 fTable_0 (hE.op rfl) (hP.get rfl rfl) ty23 rfl <| h) <| .skip <| .cons (fun _ _ _ hP hE h => .litE tChange Tryz.underlying24 el56 rfl rfl <| h) <| .cons (fun _ _ _ hP hE h => .fieldP (hE.op rfl) fa27_1 rfl <| h) <| .cons (fun _ _ _ hP hE h => .loadP 1 fTable_1 (hE.op rfl) (hP.get rfl rfl) ty24 rfl <| h) <| .skip <| .cons (fun _ _ _ hP hE h => .fieldP (hE.op rfl) fa27_3 rfl <| h) <| .cons (fun _ _ _ hP hE h => .loadP 1 fTable_3 (hE.op rfl) (hP.get rfl rfl) ty3 rfl <| h) <| .skip <| .skip <| .nil) rfl ?_
    refine .next ?_ ?_
    · refine .put 8 rfl rfl fun _ _ hE h => .useC h9 <| .appE (T := tCol) (hE.op rfl) (hE.op rfl) rfl Tryz.underlying23 el52 rfl fun v11 => .toEnd <| h _ _ (.same <| .same <| .nil) ?_
      refine .next ?_ ?_
      · refine .put 12 rfl rfl fun _ _ hE h => .useC h10 <| .appE (T := tChange) (hE.op rfl) (hE.op rfl) rfl Tryz.underlying24 el56 rfl fun v12 => .toEnd <| h _ _ (.same <| .same <| .nil) ?_
        refine .next ?_ ?_
        · refine .put 15 rfl rfl fun _ _ hE h => .buildA rfl st27 zA27 (.cons fTableA_0 rfl (vOf (hE.op rfl)) <| .cons fTableA_1 rfl (kOf (hE.op rfl)) <| .cons fTableA_3 rfl (vOf (hE.op rfl)) <| .nil) rfl <| h _ _ (.same <| .same <| .nil) ?_
          refine .last <| .put 3 rfl rfl fun _ _ hE h => .alloc tTableA d0A27 [] zA27 rfl fun b10 => .toEnd <| h _ _ (.same <| .same <| .nil) <| .nil <| .storeP 4 (Fld.self _) rfl rfl rfl ty27 <| .arrNil tRow <| .nil ?_
          exact .keep [1, 2, 3] [] rfl (.drop (.cons_cons _ <| .cons_cons _ <| .cons_cons _ <| .cons _ <| .cons_cons _ <| .cons_cons _ <| .slnil) <| hj1 _ _)
        · refine .put 3 rfl rfl fun _ _ hE h => .alloc tTableA d0A27 [] zA27 rfl fun b10 => .toEnd <| h _ _ (.same <| .same <| .nil) <| .cons (d := 15) rfl rfl fun _ _ hE h => .buildA rfl st27 zA27 (.cons fTableA_0 rfl (vOf (hE.op rfl)) <| .cons fTableA_1 rfl (kOf (hE.op rfl)) <| .cons fTableA_3 rfl (vOf (hE.op rfl)) <| .nil) rfl <| h _ _ (.same <| .same <| .nil) <| .nil <| .storeP 4 (Fld.self _) rfl rfl rfl ty27 <| .arrNil tRow <| .nil ?_
          exact .keep [1, 2, 3] [] rfl (.drop (.cons_cons _ <| .cons_cons _ <| .cons_cons _ <| .cons _ <| .cons_cons _ <| .cons_cons _ <| .slnil) <| hj1 _ _)
      · refine .put 3 rfl rfl fun _ _ hE h => .alloc tTableA d0A27 [] zA27 rfl fun b10 => .toEnd <| h _ _ (.same <| .same <| .nil) <| .cons (d := 12) rfl rfl fun _ _ hE h => .useC h10 <| .appE (T := tChange) (hE.op rfl) (hE.op rfl) rfl Tryz.underlying24 el56 rfl fun v12 => .toEnd <| h _ _ (.same <| .same <| .nil) <| .cons (d := 15) rfl rfl fun _ _ hE h => .buildA rfl st27 zA27 (.cons fTableA_0 rfl (vOf (hE.op rfl)) <| .cons fTableA_1 rfl (kOf (hE.op rfl)) <| .cons fTableA_3 rfl (vOf (hE.op rfl)) <| .nil) rfl <| h _ _ (.same <| .same <| .nil) <| .nil <| .pick [0, 0, 0, 1, 0] rfl <| .storeP 4 (Fld.self _) rfl rfl rfl ty27 <| .arrNil tRow <| .nil ?_
        exact .keep [1, 2, 3] [] rfl (.drop (.cons_cons _ <| .cons_cons _ <| .cons_cons _ <| .cons _ <| .cons_cons _ <| .cons_cons _ <| .slnil) <| hj1 _ _)
    · refine .put 3 rfl rfl fun _ _ hE h => .alloc tTableA d0A27 [] zA27 rfl fun b10 => .toEnd <| h _ _ (.same <| .same <| .nil) <| .cons (d := 8) rfl rfl fun _ _ hE h => .useC h9 <| .appE (T := tCol) (hE.op rfl) (hE.op rfl) rfl Tryz.underlying23 el52 rfl fun v11 => .toEnd <| h _ _ (.same <| .same <| .nil) <| .cons (d := 12) rfl rfl fun _ _ hE h => .useC h10 <| .appE (T := tChange) (hE.op rfl) (hE.op rfl) rfl Tryz.underlying24 el56 rfl fun v12 => .toEnd <| h _ _ (.same <| .same <| .nil) <| .cons (d := 15) rfl rfl fun _ _ hE h => .buildA rfl st27 zA27 (.cons fTableA_0 rfl (vOf (hE.op rfl)) <| .cons fTableA_1 rfl (kOf (hE.op rfl)) <| .cons fTableA_3 rfl (vOf (hE.op rfl)) <| .nil) rfl <| h _ _ (.same <| .same <| .nil) <| .nil <| .pick [0, 0, 1, 1, 0] rfl <| .storeP 4 (Fld.self _) rfl rfl rfl ty27 <| .arrNil tRow <| .nil ?_
      exact .keep [1, 2, 3] [] rfl (.drop (.cons_cons _ <| .cons_cons _ <| .cons_cons _ <| .cons _ <| .cons_cons _ <| .cons_cons _ <| .slnil) <| hj1 _ _)
def f42o_l1 (a0 : Table) : Nat → Int → Table → Option Table
  | 0, _, _ => none
  | n1 + 1, i5, i6 => cond (decide (i5 < (List.length a0.rows : Int))) (cond (decide (0 ≤ i5) && decide (i5 < (List.length a0.rows : Int))) (cond (decide (0 ≤ i5) && decide (i5 < (List.length a0.rows : Int))) (cond (decide (0 ≤ i5) && decide (i5 < (List.length a0.rows : Int))) (cond (decide (List.length ([] : List Val) + List.length ((a0.rows.getD i5.toNat default).vals) ≤ CAP)) (cond (decide (List.length i6.rows + List.length ([(⟨(a0.rows.getD i5.toNat default).id, (a0.rows.getD i5.toNat default).ver, ([] : List Val) ++ ((a0.rows.getD i5.toNat default).vals)⟩ : Row)] : List Row) ≤ CAP)) ((f42o_l1 a0 n1) (IntKind.i64.wrap (i5 + 1)) (⟨i6.first, i6.changes, i6.rows ++ ([(⟨(a0.rows.getD i5.toNat default).id, (a0.rows.getD i5.toNat default).ver, ([] : List Val) ++ ((a0.rows.getD i5.toNat default).vals)⟩ : Row)] : List Row), i6.next⟩ : Table)) none) none) none) none) none) (some i6)
def f42o_j1 (fu : Nat) (a0 : Table) : Option Table := f42o_l1 a0 fu 0 (⟨([] : List Col) ++ a0.first, ([] : List Change) ++ a0.changes, ([] : List Row), a0.next⟩ : Table)
def f42o (fu : Nat) (a0 : Table) : Option Table := cond (decide (List.length ([] : List Col) + List.length a0.first ≤ CAP)) (cond (decide (List.length ([] : List Change) + List.length a0.changes ≤ CAP)) (f42o_j1 fu a0) none) none
theorem c42o (fu : Nat) (vp0 : Value) (cp0 : Value) (a0 : Table) : CtrL Tryz.prog 37 [tTableA.va (⟨a0.first, (cp0, a0.changes), vp0, a0.next⟩ : TableA)] [arrO tRow vp0 a0.rows] (f42o fu a0) tabV (fun q p => [arrO tRow p.1 q.rows, appO 10 p.2] ++ [arrO tRow vp0 a0.rows]) (fun q p => tTableA.va (⟨q.first, (p.2, q.changes), p.1, q.next⟩ : TableA)) := by
  refine CtrL.of_W Tryz.func37 rfl Tryz.ntmps37 rfl fun A w => ?_
  unfold f42o
  refine .seq <| .region <| .box (T := tTableA) rfl rfl fun b1 => .alloc tTableA d0A27 [] zA27 rfl fun b2 => .nil ?_
  refine .seq <| .join2 (fun b3 v4 => ⟨[(1, isP b1 0, none), (2, isP b2 0, none), (3, isP b3 0, none)], [arrO tRow (.slice none 0 0) ([] : List Row), boxO b2 tTableA (⟨([] : List Col), ((.slice none 0 0), ([] : List Change)), (.slice none 0 0), (0 : Int)⟩ : TableA) [], boxO b1 tTableA (⟨a0.first, (cp0, a0.changes), vp0, a0.next⟩ : TableA) [], arrO tRow vp0 a0.rows, appO 10 v4, boxO b3 tTableA (⟨([] : List Col) ++ a0.first, (v4, ([] : List Change) ++ a0.changes), (.slice none 0 0), a0.next⟩ : TableA) []]⟩) (fun b3 v4 => f42o_j1 fu a0) (fun b3 v4 => ?_) (fun hj1 => ?_)
  · refine .seq <| .seq <| .region <| .assign rfl rfl <| .nil ?_
    refine .block <| .loop <| .keep [1, 2, 3, 4] [] rfl ?_
    refine (show ∀ (n1 : Nat) (i5 : Int) (i6 : Table) (v7 : Value), W _ _ _ _ _ ⟨[(1, isP b1 0, none), (2, isP b2 0, none), (3, isP b3 0, none), (4, isI .i64 i5, none)], [arrO tRow v7 i6.rows, boxO b2 tTableA (⟨([] : List Col), ((.slice none 0 0), ([] : List Change)), (.slice none 0 0), (0 : Int)⟩ : TableA) [], boxO b1 tTableA (⟨a0.first, (cp0, a0.changes), vp0, a0.next⟩ : TableA) [], arrO tRow vp0 a0.rows, appO 10 v4, boxO b3 tTableA (⟨i6.first, (v4, i6.changes), v7, i6.next⟩ : TableA) []]⟩ (f42o_l1 a0 n1 i5 i6) from ?_) fu _ _ _
    intro n1
    induction n1 with
    | zero => exact fun _ _ _ => .stop
    | succ n1 ih1 =>
      intro i5 i6 v7
      refine .inLoop <| .seq <| .seq <| .region <| .move rfl rfl <| .fieldP rfl fa27_2 rfl <| .loadR 2 fTableA_2 rfl rfl ty25 rfl <| .know 18 rfl <| .lenA 3 rfl rfl Tryz.underlying25 rfl <| .bin rfl rfl rfl rfl <| .nil ?_
      refine .cond rfl (fun _ => ?_) (fun _ => ?_)
      · refine .skip <| .seq <| .block <| .pT fun h5 => ?_
        refine .pT fun h6 => ?_
        refine .pT fun h7 => ?_
        refine .pT fun h8 => ?_
        refine .drawS 24 [] [21, 22, 23] [] mix (by kernel_rfl) (.cons (fun _ _ _ hP hE h => .fieldP (hE.op rfl) fa27_2 rfl <| h) <| .cons (fun _ _ _ hP hE h => .loadR 5 fTableA_2 (hE.op rfl) (hP.get rfl rfl) ty25 rfl <| h) <| .cons (fun _ _ _ hP hE h => .fieldP (hE.op rfl) fa27_2 rfl <| h) <| .cons (fun _ _ _ hP hE h => .loadR 2 fTableA_2 (hE.op rfl) (hP.get rfl rfl) ty25 rfl <| h) <| .cons (fun _ _ _ hP hE h => .move (hE.op rfl) rfl <| h) <| .cons (fun _ _ _ hP hE h => .useC h5 <| .elemA 3 (hE.op rfl) (hE.op rfl) (hP.get rfl rfl) Tryz.underlying25 ty37 rfl <| h) <| .cons (fun _ _ _ hP hE h => .fieldA (hE.op rfl) fa37_0 rfl <| h) <| .cons (fun _ _ _ hP hE h => .loadA 3 fRow_0 (hE.op rfl) (hP.get rfl rfl) ty3 rfl <| h) <| .cons (fun _ _ _ hP hE h => .fieldP (hE.op rfl) fa27_2 rfl <| h) <| .cons (fun _ _ _ hP hE h => .loadR 2 fTableA_2 (hE.op rfl) (hP.get rfl rfl) ty25 rfl <| h) <| .cons (fun _ _ _ hP hE h => .move (hE.op rfl) rfl <| h) <| .cons (fun _ _ _ hP hE h => .useC h6 <| .elemA 3 (hE.op rfl) (hE.op rfl) (hP.get rfl rfl) Tryz.underlying25 ty37 rfl <| h) <| .cons (fun _ _ _ hP hE h => .fieldA (hE.op rfl) fa37_1 rfl <| h) <| .cons (fun _ _ _ hP hE h => .loadA 3 fRow_1 (hE.op rfl) (hP.get rfl rfl) ty3 rfl <| h) <| .cons (fun _ _ _ hP hE h => .litE tVal Tryz.underlying42 el47 rfl rfl <| h) <| .cons (fun _ _ _ hP hE h => .fieldP (hE.op rfl) fa27_2 rfl <| h) <| .cons (fun _ _ _ hP hE h => .loadR 2 fTableA_2 (hE.op rfl) (hP.get rfl rfl) ty25 rfl <| h) <| .cons (fun _ _ _ hP hE h => .move (hE.op rfl) rfl <| h) <| .cons (fun _ _ _ hP hE h => .useC h7 <| .elemA 3 (hE.op rfl) (hE.op rfl) (hP.get rfl rfl) Tryz.underlying25 ty37 rfl <| h) <| .cons (fun _ _ _ hP hE h => .fieldA (hE.op rfl) fa37_2 rfl <| h) <| .cons (fun _ _ _ hP hE h => .loadA 3 fRow_2 (hE.op rfl) (hP.get rfl rfl) ty32 rfl <| h) <| .skip <| .skip <| .skip <| .nil) rfl <| .cons (d := 44) rfl rfl fun _ _ hE h => .useC h8 <| .appE (T := tVal) (hE.op rfl) (hE.op rfl) rfl Tryz.underlying42 el47 rfl fun v8 => .toEnd <| h _ _ (.same <| .same <| .same <| .same <| .same <| .same <| .nil) <| .cons (d := 45) rfl rfl fun _ _ hE h => .build rfl st37 z37 (.cons fRow_0 rfl (hE.op rfl) <| .cons fRow_1 rfl (hE.op rfl) <| .cons fRow_2 rfl (hE.op rfl) <| .nil) rfl <| h _ _ (.same <| .same <| .same <| .same <| .same <| .same <| .nil) <| .cons (d := 46) rfl rfl fun _ _ hE h => .litN (T := tRow) Tryz.underlying25 el37 rfl rfl (.cons (hE.op rfl) <| .nil) rfl <| h _ _ (.same <| .same <| .same <| .same <| .same <| .same <| .nil) <| .nil <| .appA (T := tRow) 0 rfl rfl rfl Tryz.underlying25 el37 rfl fun v9 => .fieldP rfl fa27_2 rfl <| .toRaw (T := tRow) 0 47 rfl rfl <| .storeP 5 fTableA_2 rfl rfl rfl ty25 <| .nil ?_
        refine .inBlock <| .region <| .move rfl rfl <| .bin rfl rfl rfl rfl <| .assign rfl rfl <| .nil ?_
        exact .keep [1, 2, 3, 4] [] rfl (.drop (.cons_cons _ <| .cons_cons _ <| .cons_cons _ <| .cons_cons _ <| .cons_cons _ <| .cons_cons _ <| .cons _ <| .slnil) <| ih1 _ _ _)
      · refine .exit rfl <| .seq <| .region <| .loadP 5 (Fld.self _) rfl rfl ty27 rfl <| .storeP 1 (Fld.self _) rfl rfl rfl ty27 <| .nil ?_
        exact .pick [0, 3, 2, 0] rfl <| .retL1 (v7, v4) Tryz.func37 Tryz.results37 (.cell 3 rfl rfl ty27) rfl (fun _ _ _ h => tabV_of h) (.cons_cons _ <| .cons_cons _ <| .cons_cons _ <| .cons _ <| .slnil)
  · refine .pT fun h9 => ?_
    refine .pT fun h10 => ?_
    refine .drawF 12 [] [3, 7, 10] (some 11) [] mix (by kernel_rfl) (.cons (fun _ _ _ hP hE h => .litE tCol Tryz.underlying23 el52 rfl rfl <| h) <| .cons (fun _ _ _ hP hE h => .fieldP (hE.op rfl) fa27_0 rfl <| h) <| .cons (fun _ _ _ hP hE h => .loadP 1 fTableA_0 (hE.op rfl) (hP.get rfl rfl) ty23 rfl <| h) <| .skip <| .cons (fun _ _ _ hP hE h => .litE tChange Tryz.underlying24 el56 rfl rfl <| h) <| .cons (fun _ _ _ hP hE h => .fieldP (hE.op rfl) fa27_1 rfl <| h) <| .cons (fun _ _ _ hP hE h => .loadK 1 fTableA_1 (hE.op rfl) (hP.get rfl rfl) ty24 rfl <| h) <| .skip <| .cons (fun _ _ _ hP hE h => .fieldP (hE.op rfl) fa27_3 rfl <| h) <| .cons (fun _ _ _ hP hE h => .loadP 1 fTableA_3 (hE.op rfl) (hP.get rfl rfl) ty3 rfl <| h) <| .skip <| .skip <| .nil) rfl ?_
    refine .next ?_ ?_
    · refine .put 8 rfl rfl fun _ _ hE h => .useC h9 <| .appE (T := tCol) (hE.op rfl) (hE.op rfl) rfl Tryz.underlying23 el52 rfl fun v11 => .toEnd <| h _ _ (.same <| .same <| .same <| .nil) ?_
      refine .next ?_ ?_
      · refine .put 12 rfl rfl fun _ _ hE h => .useC h10 <| .appE (T := tChange) (hE.op rfl) (hE.op rfl) rfl Tryz.underlying24 el56 rfl fun v12 => .toEnd <| h _ _ (.same <| .same <| .same <| .nil) ?_
        refine .next ?_ ?_
        · refine .put 15 rfl rfl fun _ _ hE h => .buildA rfl st27 zA27 (.cons fTableA_0 rfl (vOf (hE.op rfl)) <| .cons fTableA_1 rfl (kOf (hE.op rfl)) <| .cons fTableA_3 rfl (vOf (hE.op rfl)) <| .nil) rfl <| h _ _ (.same <| .same <| .same <| .nil) ?_
          refine .last <| .put 3 rfl rfl fun _ _ hE h => .alloc tTableA d0A27 [] zA27 rfl fun b10 => .toEnd <| h _ _ (.same <| .same <| .same <| .nil) <| .nil <| .storeP 5 (Fld.self _) rfl rfl rfl ty27 <| .arrNil tRow <| .nil ?_
          exact .keep [1, 2, 3] [] rfl (.drop (.cons_cons _ <| .cons_cons _ <| .cons_cons _ <| .cons_cons _ <| .cons _ <| .cons_cons _ <| .cons_cons _ <| .slnil) <| hj1 _ _)
        · refine .put 3 rfl rfl fun _ _ hE h => .alloc tTableA d0A27 [] zA27 rfl fun b10 => .toEnd <| h _ _ (.same <| .same <| .same <| .nil) <| .cons (d := 15) rfl rfl fun _ _ hE h => .buildA rfl st27 zA27 (.cons fTableA_0 rfl (vOf (hE.op rfl)) <| .cons fTableA_1 rfl (kOf (hE.op rfl)) <| .cons fTableA_3 rfl (vOf (hE.op rfl)) <| .nil) rfl <| h _ _ (.same <| .same <| .same <| .nil) <| .nil <| .storeP 5 (Fld.self _) rfl rfl rfl ty27 <| .arrNil tRow <| .nil ?_
          exact .keep [1, 2, 3] [] rfl (.drop (.cons_cons _ <| .cons_cons _ <| .cons_cons _ <| .cons_cons _ <| .cons _ <| .cons_cons _ <| .cons_cons _ <| .slnil) <| hj1 _ _)
      · refine .put 3 rfl rfl fun _ _ hE h => .alloc tTableA d0A27 [] zA27 rfl fun b10 => .toEnd <| h _ _ (.same <| .same <| .same <| .nil) <| .cons (d := 12) rfl rfl fun _ _ hE h => .useC h10 <| .appE (T := tChange) (hE.op rfl) (hE.op rfl) rfl Tryz.underlying24 el56 rfl fun v12 => .toEnd <| h _ _ (.same <| .same <| .same <| .nil) <| .cons (d := 15) rfl rfl fun _ _ hE h => .buildA rfl st27 zA27 (.cons fTableA_0 rfl (vOf (hE.op rfl)) <| .cons fTableA_1 rfl (kOf (hE.op rfl)) <| .cons fTableA_3 rfl (vOf (hE.op rfl)) <| .nil) rfl <| h _ _ (.same <| .same <| .same <| .nil) <| .nil <| .pick [0, 0, 0, 0, 1, 0] rfl <| .storeP 5 (Fld.self _) rfl rfl rfl ty27 <| .arrNil tRow <| .nil ?_
        exact .keep [1, 2, 3] [] rfl (.drop (.cons_cons _ <| .cons_cons _ <| .cons_cons _ <| .cons_cons _ <| .cons _ <| .cons_cons _ <| .cons_cons _ <| .slnil) <| hj1 _ _)
    · refine .put 3 rfl rfl fun _ _ hE h => .alloc tTableA d0A27 [] zA27 rfl fun b10 => .toEnd <| h _ _ (.same <| .same <| .same <| .nil) <| .cons (d := 8) rfl rfl fun _ _ hE h => .useC h9 <| .appE (T := tCol) (hE.op rfl) (hE.op rfl) rfl Tryz.underlying23 el52 rfl fun v11 => .toEnd <| h _ _ (.same <| .same <| .same <| .nil) <| .cons (d := 12) rfl rfl fun _ _ hE h => .useC h10 <| .appE (T := tChange) (hE.op rfl) (hE.op rfl) rfl Tryz.underlying24 el56 rfl fun v12 => .toEnd <| h _ _ (.same <| .same <| .same <| .nil) <| .cons (d := 15) rfl rfl fun _ _ hE h => .buildA rfl st27 zA27 (.cons fTableA_0 rfl (vOf (hE.op rfl)) <| .cons fTableA_1 rfl (kOf (hE.op rfl)) <| .cons fTableA_3 rfl (vOf (hE.op rfl)) <| .nil) rfl <| h _ _ (.same <| .same <| .same <| .nil) <| .nil <| .pick [0, 0, 0, 1, 1, 0] rfl <| .storeP 5 (Fld.self _) rfl rfl rfl ty27 <| .arrNil tRow <| .nil ?_
      exact .keep [1, 2, 3] [] rfl (.drop (.cons_cons _ <| .cons_cons _ <| .cons_cons _ <| .cons_cons _ <| .cons _ <| .cons_cons _ <| .cons_cons _ <| .slnil) <| hj1 _ _)
end Go.Proofs.YtlkhmcajnfombaaGreatDoor
