/- Functions of the program: what each answers, and that the machine answers so. -/
import Derived.Test.YtlkhmcajnfombaaGreatDoorQ1003A1
import Derived.KernelRfl
set_option linter.unusedVariables false
set_option linter.unusedSimpArgs false
set_option linter.deprecated false
set_option linter.unusedSectionVars false
set_option linter.all false
namespace Go.Proofs.YtlkhmcajnfombaaGreatDoor
open Go Go.HL
def f53 (fu : Nat) (a0 : Table) : Option (List Col) := (f89 fu a0 (List.length a0.changes : Int)).bind fun q2 => some q2
theorem n53 : ∃ fn c, Tryz.prog.funcs[55]? = some fn ∧ (fn.name == "runtime.NumGoroutine") = false ∧ fn.body = some c := ⟨_, _, Tryz.func55, by kernel_rfl, rfl⟩
theorem c53 (fu : Nat) (a0 : Table) : Ctr Tryz.prog 55 [tTable.va a0] [] (f53 fu a0) (fun _ _ => []) (fun q => (tL tCol).va q) := by
  refine Ctr.of_W Tryz.func55 rfl Tryz.ntmps55 rfl fun A w => ?_
  unfold f53
  refine .seq <| .region <| .box (T := tTable) rfl rfl fun b1 => .assignNil tCol rfl <| .nil ?_
  refine .seq <| .region <| .loadP 0 (Fld.self _) rfl rfl ty27 rfl <| .fieldP rfl fa27_1 rfl <| .loadP 0 fTable_1 rfl rfl ty24 rfl <| .lenL rfl Tryz.underlying24 rfl <| .call0 (c89 fu _ _) n89 rfl rfl fun q2 => .assign rfl rfl <| .nil ?_
  exact .ret1 Tryz.func55 Tryz.results55 (.tmp rfl) rfl (fun _ _ => .cons _ <| .slnil)
def f53o (fu : Nat) (a0 : Table) : Option (List Col) := (f89o fu a0 (List.length a0.changes : Int)).bind fun q2 => some q2
theorem c53o (fu : Nat) (vp0 : Value) (cp0 : Value) (a0 : Table) : Ctr Tryz.prog 55 [tTableA.va (⟨a0.first, (cp0, a0.changes), vp0, a0.next⟩ : TableA)] [arrO tRow vp0 a0.rows] (f53o fu a0) (fun _ _ => [arrO tRow vp0 a0.rows]) (fun q => (tL tCol).va q) := by
  refine Ctr.of_W Tryz.func55 rfl Tryz.ntmps55 rfl fun A w => ?_
  unfold f53o
  refine .seq <| .region <| .box (T := tTableA) rfl rfl fun b1 => .assignNil tCol rfl <| .nil ?_
  refine .seq <| .region <| .loadP 0 (Fld.self _) rfl rfl ty27 rfl <| .fieldP rfl fa27_1 rfl <| .loadKV 0 fTableA_1 rfl rfl ty24 rfl <| .lenL rfl Tryz.underlying24 rfl <| .callR 1 (c89o fu _ _ _ _) rfl n89 rfl rfl fun q2 => .assign rfl rfl <| .nil ?_
  exact .ret1 Tryz.func55 Tryz.results55 (.tmp rfl) rfl (fun _ _ => .cons _ <| .cons_cons _ <| .slnil)
def f142 (a0 : Int) (a1 : Int) : Option Int := cond (decide (a1 < a0)) (some a0) (some a1)
theorem n142 : ∃ fn c, Tryz.prog.funcs[115]? = some fn ∧ (fn.name == "runtime.NumGoroutine") = false ∧ fn.body = some c := ⟨_, _, Tryz.func115, by kernel_rfl, rfl⟩
theorem c142 (a0 : Int) (a1 : Int) : Ctr Tryz.prog 115 [isI .i64 a0, isI .i64 a1] [] (f142 a0 a1) (fun _ _ => []) (fun q => isI .i64 q) := by
  refine Ctr.of_W Tryz.func115 rfl Tryz.ntmps115 rfl fun A w => ?_
  unfold f142
  refine .seq <| .region <| .assign rfl rfl <| .nil ?_
  refine .seq <| .seq <| .region <| .move rfl rfl <| .move rfl rfl <| .bin rfl rfl rfl rfl <| .nil ?_
  refine .cond rfl (fun _ => ?_) (fun _ => ?_)
  · refine .seq <| .region <| .move rfl rfl <| .assign rfl rfl <| .nil ?_
    exact .ret1 Tryz.func115 Tryz.results115 (.tmp rfl) rfl (fun _ _ => .slnil)
  · refine .skip <| .seq <| .region <| .move rfl rfl <| .assign rfl rfl <| .nil ?_
    exact .ret1 Tryz.func115 Tryz.results115 (.tmp rfl) rfl (fun _ _ => .slnil)
def f82_l1 (a0 : Table) (a1 : Int) : Nat → Int → Option Int
  | 0, _ => none
  | n1 + 1, i2 => cond (decide (i2 < (List.length a0.rows : Int))) (cond (decide (0 ≤ i2) && decide (i2 < (List.length a0.rows : Int))) (cond (decide (((a0.rows.getD i2.toNat default).id) = a1)) (some i2) ((f82_l1 a0 a1 n1) (IntKind.i64.wrap (i2 + 1)))) none) (some (-1))
def f82 (fu : Nat) (a0 : Table) (a1 : Int) : Option Int := f82_l1 a0 a1 fu 0
theorem n82 : ∃ fn c, Tryz.prog.funcs[72]? = some fn ∧ (fn.name == "runtime.NumGoroutine") = false ∧ fn.body = some c := ⟨_, _, Tryz.func72, by kernel_rfl, rfl⟩
def f82o_l1 (a0 : Table) (a1 : Int) : Nat → Int → Option Int
  | 0, _ => none
  | n1 + 1, i2 => cond (decide (i2 < (List.length a0.rows : Int))) (cond (decide (0 ≤ i2) && decide (i2 < (List.length a0.rows : Int))) (cond (decide (((a0.rows.getD i2.toNat default).id) = a1)) (some i2) ((f82o_l1 a0 a1 n1) (IntKind.i64.wrap (i2 + 1)))) none) (some (-1))
def f82o (fu : Nat) (a0 : Table) (a1 : Int) : Option Int := f82o_l1 a0 a1 fu 0
theorem c82o (fu : Nat) (vp0 : Value) (cp0 : Value) (a0 : Table) (a1 : Int) : Ctr Tryz.prog 72 [tTableA.va (⟨a0.first, (cp0, a0.changes), vp0, a0.next⟩ : TableA), isI .i64 a1] [arrO tRow vp0 a0.rows] (f82o fu a0 a1) (fun _ _ => [arrO tRow vp0 a0.rows]) (fun q => isI .i64 q) := by
  refine Ctr.of_W Tryz.func72 rfl Tryz.ntmps72 rfl fun A w => ?_
  unfold f82o
  refine .seq <| .region <| .box (T := tTableA) rfl rfl fun b1 => .assign rfl rfl <| .nil ?_
  refine .seq <| .seq <| .region <| .assign rfl rfl <| .nil ?_
  refine .block <| .loop <| .keep [1, 2, 5] [] rfl ?_
  refine (show ∀ (n1 : Nat) (i2 : Int), W _ _ _ _ _ ⟨[(1, isI .i64 a1, none), (2, isP b1 0, none), (5, isI .i64 i2, none)], [boxO b1 tTableA (⟨a0.first, (cp0, a0.changes), vp0, a0.next⟩ : TableA) [], arrO tRow vp0 a0.rows]⟩ (f82o_l1 a0 a1 n1 i2) from ?_) fu _
  intro n1
  induction n1 with
  | zero => exact fun _ => .stop
  | succ n1 ih1 =>
    intro i2
    refine .inLoop <| .seq <| .seq <| .region <| .move rfl rfl <| .fieldP rfl fa27_2 rfl <| .loadR 0 fTableA_2 rfl rfl ty25 rfl <| .know 8 rfl <| .lenA 1 rfl rfl Tryz.underlying25 rfl <| .bin rfl rfl rfl rfl <| .nil ?_
    refine .cond rfl (fun _ => ?_) (fun _ => ?_)
    · refine .skip <| .seq <| .block <| .seq <| .region <| .fieldP rfl fa27_2 rfl <| .loadR 0 fTableA_2 rfl rfl ty25 rfl <| .know 14 rfl <| .move rfl rfl <| .elemA 1 rfl rfl rfl Tryz.underlying25 ty37 rfl <| .fieldA rfl fa37_0 rfl <| .loadA 1 fRow_0 rfl rfl ty3 rfl <| .move rfl rfl <| .bin rfl rfl rfl rfl <| .nil ?_
      refine .cond rfl (fun _ => ?_) (fun _ => ?_)
      · refine .seq <| .region <| .move rfl rfl <| .assign rfl rfl <| .nil ?_
        exact .ret1 Tryz.func72 Tryz.results72 (.tmp rfl) rfl (fun _ _ => .cons _ <| .cons_cons _ <| .slnil)
      · refine .skip <| .inBlock <| .region <| .move rfl rfl <| .bin rfl rfl rfl rfl <| .assign rfl rfl <| .nil ?_
        exact .keep [1, 2, 5] [] rfl (ih1 _)
    · refine .exit rfl <| .seq <| .region <| .assign rfl rfl <| .nil ?_
      exact .ret1 Tryz.func72 Tryz.results72 (.tmp rfl) rfl (fun _ _ => .cons _ <| .cons_cons _ <| .slnil)
def f41 (fu : Nat) (a0 : Table) (a1 : Int) : Option (Table × Int) := (f82o fu a0 a1).bind fun q3 => cond (decide (q3 < 0)) (some (a0, 5)) (cond (decide (0 ≤ (0 : Int)) && decide ((0 : Int) ≤ q3) && decide (q3 ≤ (List.length a0.rows : Int))) (cond (decide (List.length ([] : List Row) + List.length ((a0.rows.take q3.toNat).drop (0 : Int).toNat) ≤ CAP)) (cond (decide (0 ≤ (IntKind.i64.wrap (q3 + 1))) && decide ((IntKind.i64.wrap (q3 + 1)) ≤ (List.length a0.rows : Int)) && decide ((List.length a0.rows : Int) ≤ (List.length a0.rows : Int))) (cond (decide (List.length (([] : List Row) ++ ((a0.rows.take q3.toNat).drop (0 : Int).toNat)) + List.length ((a0.rows.take (List.length a0.rows : Int).toNat).drop (IntKind.i64.wrap (q3 + 1)).toNat) ≤ CAP)) (some ((⟨a0.first, a0.changes, (([] : List Row) ++ ((a0.rows.take q3.toNat).drop (0 : Int).toNat)) ++ ((a0.rows.take (List.length a0.rows : Int).toNat).drop (IntKind.i64.wrap (q3 + 1)).toNat), a0.next⟩ : Table), 0)) none) none) none) none)
theorem n41 : ∃ fn c, Tryz.prog.funcs[116]? = some fn ∧ (fn.name == "runtime.NumGoroutine") = false ∧ fn.body = some c := ⟨_, _, Tryz.func116, by kernel_rfl, rfl⟩
theorem c41 (fu : Nat) (vp0 : Value) (cp0 : Value) (a0 : Table) (a1 : Int) : CtrL Tryz.prog 116 [tTableA.va (⟨a0.first, (cp0, a0.changes), vp0, a0.next⟩ : TableA), isI .i64 a1] [arrO tRow vp0 a0.rows] (f41 fu a0 a1) (fun v => tabV (tupV 0 v)) (fun q p => [arrO tRow p.1 q.1.rows]) (fun q p => tup [tTableA.va (⟨q.1.first, (p.2, q.1.changes), p.1, q.1.next⟩ : TableA), isI .i64 q.2]) := by
  refine CtrL.of_W Tryz.func116 rfl Tryz.ntmps116 rfl fun A w => ?_
  unfold f41
  refine .seq <| .region <| .box (T := tTableA) rfl rfl fun b1 => .alloc tTableA d0A27 [] zA27 rfl fun b2 => .assign rfl rfl <| .nil ?_
  refine .seq <| .region <| .loadP 1 (Fld.self _) rfl rfl ty27 rfl <| .move rfl rfl <| .callR 2 (c82o fu _ _ _ _) rfl n82 rfl rfl fun q3 => .assign rfl rfl <| .nil ?_
  refine .seq <| .seq <| .region <| .move rfl rfl <| .bin rfl rfl rfl rfl <| .nil ?_
  refine .cond rfl (fun _ => ?_) (fun _ => ?_)
  · refine .seq <| .region <| .loadP 1 (Fld.self _) rfl rfl ty27 rfl <| .storeP 0 (Fld.self _) rfl rfl rfl ty27 <| .assign rfl rfl <| .nil ?_
    exact .retL2 (vp0, cp0) Tryz.func116 Tryz.results116 (.cell 0 rfl rfl ty27) (.tmp rfl) rfl (fun _ _ _ h => tabV_of h) (.cons _ <| .cons _ <| .cons_cons _ <| .slnil)
  · refine .skip <| .seq <| .frzBox 1 2 conv27 rfl rfl <| .pT fun h1 => ?_
    refine .pT fun h2 => ?_
    refine .pT fun h3 => ?_
    refine .drawS 11 [] [5] [] mix (by kernel_rfl) (.cons (fun _ _ _ hP hE h => .litE tRow Tryz.underlying25 el37 rfl rfl <| h) <| .cons (fun _ _ _ hP hE h => .fieldP (hE.op rfl) fa27_2 rfl <| h) <| .cons (fun _ _ _ hP hE h => .loadP 1 fTable_2 (hE.op rfl) (hP.get rfl rfl) ty25 rfl <| h) <| .cons (fun _ _ _ hP hE h => .move (hE.op rfl) rfl <| h) <| .cons (fun _ _ _ hP hE h => .useC h1 <| .cut (hE.op rfl) Tryz.underlying25 el37 rfl ⟨_, (hE.op rfl)⟩ rfl <| h) <| .skip <| .cons (fun _ _ _ hP hE h => .fieldP (hE.op rfl) fa27_2 rfl <| h) <| .cons (fun _ _ _ hP hE h => .loadP 1 fTable_2 (hE.op rfl) (hP.get rfl rfl) ty25 rfl <| h) <| .cons (fun _ _ _ hP hE h => .move (hE.op rfl) rfl <| h) <| .cons (fun _ _ _ hP hE h => .bin rfl (hE.op rfl) (hE.op rfl) rfl <| h) <| .cons (fun _ _ _ hP hE h => .useC h3 <| .cut (hE.op rfl) Tryz.underlying25 el37 ⟨_, (hE.op rfl)⟩ rfl rfl <| h) <| .nil) rfl <| .cons (d := 18) rfl rfl fun _ _ hE h => .useC h2 <| .appEA (T := tRow) (hE.op rfl) (hE.op rfl) rfl Tryz.underlying25 el37 rfl fun v4 => .toEnd <| h _ _ (.same <| .same <| .same <| .nil) <| .nil <| .appA (T := tRow) 3 rfl rfl rfl Tryz.underlying25 el37 rfl fun v5 => .fieldP rfl fa27_2 rfl <| .unBox 1 convX27 rfl fun p6 => .toRaw (T := tRow) 3 24 rfl rfl <| .storeP 1 fTableA_2 rfl rfl rfl ty25 <| .nil ?_
    refine .seq <| .region <| .loadP 1 (Fld.self _) rfl rfl ty27 rfl <| .storeP 0 (Fld.self _) rfl rfl rfl ty27 <| .assign rfl rfl <| .nil ?_
    exact .retL2 (v5, p6.2) Tryz.func116 Tryz.results116 (.cell 0 rfl rfl ty27) (.tmp rfl) rfl (fun _ _ _ h => tabV_of h) (.cons _ <| .cons _ <| .cons _ <| .cons_cons _ <| .slnil)
def f127_j1 (i4 : Val) (i5 : Rd) : Option (Val × Rd) := some (i4, i5)
def f127 (fu : Nat) (a0 : Rd) (a1 : Val) : Option (Val × Rd) := (f74 fu a0 32).bind fun q3 => cond (decide (q3.1 = 0)) ((f73 fu q3.2 ([0, 3, -1, 1, 2] : List Int)).bind fun q6 => f127_j1 ({ a1 with kind := q6.1 } : Val) q6.2) (cond (decide (q3.1 = 1)) ((f73 fu q3.2 ([1000, -1000, 5, 9223372036854775807] : List Int)).bind fun q7 => f127_j1 ({ a1 with n := q7.1 } : Val) q7.2) (cond (decide (q3.1 = 2)) ((f96 fu q3.2 ([([97, 98, 99, 100, 101] : List UInt8), ([65] : List UInt8), ([113] : List UInt8), ([39] : List UInt8)] : List (List UInt8))).bind fun q8 => f127_j1 ({ a1 with text := q8.1 } : Val) q8.2) (f127_j1 a1 q3.2)))
theorem n127 : ∃ fn c, Tryz.prog.funcs[98]? = some fn ∧ (fn.name == "runtime.NumGoroutine") = false ∧ fn.body = some c := ⟨_, _, Tryz.func98, by kernel_rfl, rfl⟩
theorem c127 (fu : Nat) (bp0 : Nat) (a0 : Rd) (a1 : Val) : Ctr Tryz.prog 98 [isP bp0 0, tVal.va a1] [boxO bp0 tRd a0 []] (f127 fu a0 a1) (fun q _ => [boxO bp0 tRd q.2 []]) (fun q => tVal.va q.1) := by
  refine Ctr.of_W Tryz.func98 rfl Tryz.ntmps98 rfl fun A w => ?_
  unfold f127
  refine .seq <| .region <| .box (T := tVal) rfl rfl fun b1 => .alloc tVal d0_47 [] z47 rfl fun b2 => .nil ?_
  refine .seq <| .seq <| .region <| .move rfl rfl <| .call1 2 (c74 fu _ _ _) rfl n74 rfl rfl fun q3 => .nil ?_
  refine .block <| .seq <| .region <| .bin rfl rfl rfl rfl <| .assign rfl rfl <| .nil ?_
  refine .join2 (fun i4 i5 => ⟨[(3, isP b1 0, none), (4, isP b2 0, none)], [boxO b2 tVal d0_47 [], boxO b1 tVal i4 [], boxO bp0 tRd i5 []]⟩) (fun i4 i5 => f127_j1 i4 i5) (fun i4 i5 => ?_) (fun hj1 => ?_)
  · refine .inBlock <| .seq <| .region <| .loadP 1 (Fld.self _) rfl rfl ty47 rfl <| .storeP 0 (Fld.self _) rfl rfl rfl ty47 <| .nil ?_
    exact .ret1 Tryz.func98 Tryz.results98 (.cell 0 rfl rfl ty47) rfl (fun _ _ => .cons _ <| .cons _ <| .cons_cons _ <| .slnil)
  · refine .cond rfl (fun _ => ?_) (fun _ => ?_)
    · refine .region <| .move rfl rfl <| .litN (T := (tI .i64)) Tryz.underlying63 el3 rfl rfl (.cons rfl <| .cons rfl <| .cons rfl <| .cons rfl <| .cons rfl <| .nil) rfl <| .call1 2 (c73 fu _ _ _) rfl n73 rfl rfl fun q6 => .fieldP rfl fa47_0 rfl <| .storeP 1 fVal_0 rfl rfl rfl ty3 <| .nil ?_
      exact .keep [3, 4] [] rfl (hj1 _ _)
    · refine .seq <| .region <| .bin rfl rfl rfl rfl <| .assign rfl rfl <| .nil ?_
      refine .cond rfl (fun _ => ?_) (fun _ => ?_)
      · refine .region <| .move rfl rfl <| .litN (T := (tI .i64)) Tryz.underlying63 el3 rfl rfl (.cons rfl <| .cons rfl <| .cons rfl <| .cons rfl <| .nil) rfl <| .call1 2 (c73 fu _ _ _) rfl n73 rfl rfl fun q7 => .fieldP rfl fa47_1 rfl <| .storeP 1 fVal_1 rfl rfl rfl ty3 <| .nil ?_
        exact .keep [3, 4] [] rfl (hj1 _ _)
      · refine .seq <| .region <| .bin rfl rfl rfl rfl <| .assign rfl rfl <| .nil ?_
        refine .cond rfl (fun _ => ?_) (fun _ => ?_)
        · refine .region <| .move rfl rfl <| .litN (T := tS) Tryz.underlying94 el9 rfl rfl (.cons rfl <| .cons rfl <| .cons rfl <| .cons rfl <| .nil) rfl <| .call1 2 (c96 fu _ _ _) rfl n96 rfl rfl fun q8 => .fieldP rfl fa47_2 rfl <| .storeP 1 fVal_2 rfl rfl rfl ty9 <| .nil ?_
          exact .keep [3, 4] [] rfl (hj1 _ _)
        · exact .skip <| .keep [3, 4] [] rfl (hj1 _ _)
def f97 (fu : Nat) (a0 : Rd) : Option (Val × Rd) := (f74 fu a0 3).bind fun q2 => (f95 fu q2.2 q2.1).bind fun q3 => (f127 fu q3.2 q3.1).bind fun q4 => some (q4.1, q4.2)
theorem n97 : ∃ fn c, Tryz.prog.funcs[68]? = some fn ∧ (fn.name == "runtime.NumGoroutine") = false ∧ fn.body = some c := ⟨_, _, Tryz.func68, by kernel_rfl, rfl⟩
theorem c97 (fu : Nat) (bp0 : Nat) (a0 : Rd) : Ctr Tryz.prog 68 [isP bp0 0] [boxO bp0 tRd a0 []] (f97 fu a0) (fun q _ => [boxO bp0 tRd q.2 []]) (fun q => tVal.va q.1) := by
  refine Ctr.of_W Tryz.func68 rfl Tryz.ntmps68 rfl fun A w => ?_
  unfold f97
  refine .seq <| .region <| .alloc tVal d0_47 [] z47 rfl fun b1 => .nil ?_
  refine .seq <| .region <| .move rfl rfl <| .move rfl rfl <| .move rfl rfl <| .call1 1 (c74 fu _ _ _) rfl n74 rfl rfl fun q2 => .call1 1 (c95 fu _ _ _) rfl n95 rfl rfl fun q3 => .call1 1 (c127 fu _ _ _) rfl n127 rfl rfl fun q4 => .storeP 0 (Fld.self _) rfl rfl rfl ty47 <| .nil ?_
  exact .ret1 Tryz.func68 Tryz.results68 (.cell 0 rfl rfl ty47) rfl (fun _ _ => .cons _ <| .cons_cons _ <| .slnil)
def f62_j12 (i2 : Int) (rec1 : Int → (List Set) → Rd → Option ((List Set) × Rd)) (i9 : List Set) (i10 : Rd) : Option ((List Set) × Rd) := rec1 (IntKind.i64.wrap (i2 + 1)) i9 i10
def f62_j14 (a1 : List Col) (i2 : Int) (i4 : List Set) (i14 : Rd) (rec1 : Int → (List Set) → Rd → Option ((List Set) × Rd)) (i15 : Val) : Option ((List Set) × Rd) := cond (decide (0 ≤ i2) && decide (i2 < (List.length a1 : Int))) (cond (decide (List.length i4 + List.length ([(⟨(a1.getD i2.toNat default).name, i15⟩ : Set)] : List Set) ≤ CAP)) (f62_j12 i2 rec1 (i4 ++ ([(⟨(a1.getD i2.toNat default).name, i15⟩ : Set)] : List Set)) i14) none) none
def f62_j13 (a1 : List Col) (i2 : Int) (i4 : List Set) (q11 : Val × Rd) (rec1 : Int → (List Set) → Rd → Option ((List Set) × Rd)) (i13 : Bool) (i14 : Rd) : Option ((List Set) × Rd) := cond i13 (cond (decide (0 ≤ i2) && decide (i2 < (List.length a1 : Int))) (f62_j14 a1 i2 i4 i14 rec1 ({ q11.1 with kind := (a1.getD i2.toNat default).kind } : Val)) none) (f62_j14 a1 i2 i4 i14 rec1 q11.1)
def f62_j11 (fu : Nat) (a1 : List Col) (i2 : Int) (i4 : List Set) (rec1 : Int → (List Set) → Rd → Option ((List Set) × Rd)) (i6 : Bool) (i7 : Rd) : Option ((List Set) × Rd) := cond i6 (cond (decide (0 ≤ i2) && decide (i2 < (List.length a1 : Int))) ((f95 fu i7 ((a1.getD i2.toNat default).kind)).bind fun q11 => cond (decide (0 ≤ i2) && decide (i2 < (List.length a1 : Int))) (cond ((a1.getD i2.toNat default).need) (cond (decide (q11.1.kind = 0)) ((f74 fu q11.2 6).bind fun q17 => f62_j13 a1 i2 i4 q11 rec1 (decide (0 < q17.1)) q17.2) (f62_j13 a1 i2 i4 q11 rec1 false q11.2)) (f62_j13 a1 i2 i4 q11 rec1 false q11.2)) none) none) (f62_j12 i2 rec1 i4 i7)
def f62_j15 (rec1 : Int → (List Set) → Rd → Option ((List Set) × Rd)) (i20 : List Set) (i21 : Rd) : Option ((List Set) × Rd) := some (i20, i21)
def f62_l1 (fu : Nat) (a1 : List Col) : Nat → Int → (List Set) → Rd → Option ((List Set) × Rd)
  | 0, _, _, _ => none
  | n1 + 1, i2, i4, i5 => cond (decide (i2 < (List.length a1 : Int))) (cond (decide (0 ≤ i2) && decide (i2 < (List.length a1 : Int))) (cond ((a1.getD i2.toNat default).need) (f62_j11 fu a1 i2 i4 (f62_l1 fu a1 n1) true i5) ((f74 fu i5 2).bind fun q18 => f62_j11 fu a1 i2 i4 (f62_l1 fu a1 n1) (decide (q18.1 = 0)) q18.2)) none) ((f74 fu i5 40).bind fun q19 => cond (decide (q19.1 = 0)) ((f96 fu q19.2 ([([97] : List UInt8), ([122, 122] : List UInt8), ([] : List UInt8)] : List (List UInt8))).bind fun q22 => cond (decide (List.length i4 + List.length ([(⟨q22.1, d0_49.val⟩ : Set)] : List Set) ≤ CAP)) (some (i4 ++ ([(⟨q22.1, d0_49.val⟩ : Set)] : List Set), q22.2)) none) (cond (decide (q19.1 = 1)) (cond (decide (0 < (List.length i4 : Int))) ((f97 fu q19.2).bind fun q24 => cond (decide (0 ≤ (0 : Int)) && decide ((0 : Int) < (List.length i4 : Int))) (f62_j15 (f62_l1 fu a1 n1) (i4.set (0 : Int).toNat ({ (i4.getD (0 : Int).toNat default) with val := q24.1 } : Set)) q24.2) none) (f62_j15 (f62_l1 fu a1 n1) i4 q19.2)) (f62_j15 (f62_l1 fu a1 n1) i4 q19.2)))
def f62 (fu : Nat) (a0 : Rd) (a1 : List Col) : Option ((List Set) × Rd) := f62_l1 fu a1 fu 0 ([] : List Set) a0
theorem n62 : ∃ fn c, Tryz.prog.funcs[32]? = some fn ∧ (fn.name == "runtime.NumGoroutine") = false ∧ fn.body = some c := ⟨_, _, Tryz.func32, by kernel_rfl, rfl⟩
theorem c62 (fu : Nat) (bp0 : Nat) (a0 : Rd) (a1 : List Col) : Ctr Tryz.prog 32 [isP bp0 0, (tL tCol).va a1] [boxO bp0 tRd a0 []] (f62 fu a0 a1) (fun q _ => [boxO bp0 tRd q.2 []]) (fun q => (tL tSet).va q.1) := by
  refine Ctr.of_W Tryz.func32 rfl Tryz.ntmps32 rfl fun A w => ?_
  unfold f62
  refine .seq <| .region <| .assignNil tSet rfl <| .nil ?_
  refine .seq <| .region <| .lit (T := tSet) Tryz.underlying28 el49 rfl rfl (.nil) rfl fun v1 => .toArr 0 8 rfl rfl rfl <| .assign rfl rfl <| .nil ?_
  refine .seq <| .seq <| .region <| .assign rfl rfl <| .nil ?_
  refine .block <| .loop <| .keep [0, 1, 6] [5] rfl ?_
  refine (show ∀ (n1 : Nat) (i2 : Int) (v3 : Value) (i4 : List Set) (i5 : Rd), W _ _ _ _ _ ⟨[(0, isP bp0 0, none), (1, (tL tCol).va a1, none), (6, isI .i64 i2, none), (5, isV v3, some v3)], [arrO tSet v3 i4, boxO bp0 tRd i5 []]⟩ (f62_l1 fu a1 n1 i2 i4 i5) from ?_) fu _ _ _ _
  intro n1
  induction n1 with
  | zero => exact fun _ _ _ _ => .stop
  | succ n1 ih1 =>
    intro i2 v3 i4 i5
    refine .inLoop <| .seq <| .seq <| .region <| .move rfl rfl <| .move rfl rfl <| .lenL rfl Tryz.underlying23 rfl <| .bin rfl rfl rfl rfl <| .nil ?_
    refine .cond rfl (fun _ => ?_) (fun _ => ?_)
    · refine .skip <| .seq <| .block <| .seq <| .join2 (fun i6 i7 => ⟨[(0, isP bp0 0, none), (1, (tL tCol).va a1, none), (6, isI .i64 i2, none), (24, isB i6, none), (5, isV v3, some v3)], [arrO tSet v3 i4, boxO bp0 tRd i7 []]⟩) (fun i6 i7 => f62_j11 fu a1 i2 i4 (f62_l1 fu a1 n1) i6 i7) (fun i6 i7 => ?_) (fun hj11 => ?_)
      · refine .join3 (fun v8 i9 i10 => ⟨[(0, isP bp0 0, none), (1, (tL tCol).va a1, none), (6, isI .i64 i2, none), (5, isV v8, some v8)], [arrO tSet v8 i9, boxO bp0 tRd i10 []]⟩) (fun v8 i9 i10 => f62_j12 i2 (f62_l1 fu a1 n1) i9 i10) (fun v8 i9 i10 => ?_) (fun hj12 => ?_)
        · refine .inBlock <| .region <| .move rfl rfl <| .bin rfl rfl rfl rfl <| .assign rfl rfl <| .nil ?_
          exact .keep [0, 1, 6] [5] rfl (ih1 _ _ _ _)
        · refine .cond rfl (fun _ => ?_) (fun _ => ?_)
          · refine .seq <| .region <| .move rfl rfl <| .move rfl rfl <| .move rfl rfl <| .elemAt rfl rfl Tryz.underlying23 ty52 rfl <| .fieldAt fCol_1 rfl fa52_1 rfl <| .load rfl ty3 rfl <| .call1 1 (c95 fu _ _ _) rfl n95 rfl rfl fun q11 => .alloc tVal d0_47 [] z47 rfl fun b12 => .storeP 0 (Fld.self _) rfl rfl rfl ty47 <| .nil ?_
            refine .seq <| .seq <| .join2 (fun i13 i14 => ⟨[(0, isP bp0 0, none), (1, (tL tCol).va a1, none), (6, isI .i64 i2, none), (7, isP b12 0, none), (46, isB i13, none), (5, isV v3, some v3)], [boxO b12 tVal q11.1 [], arrO tSet v3 i4, boxO bp0 tRd i14 []]⟩) (fun i13 i14 => f62_j13 a1 i2 i4 q11 (f62_l1 fu a1 n1) i13 i14) (fun i13 i14 => ?_) (fun hj13 => ?_)
            · refine .join1 (fun i15 => ⟨[(0, isP bp0 0, none), (1, (tL tCol).va a1, none), (6, isI .i64 i2, none), (7, isP b12 0, none), (5, isV v3, some v3)], [boxO b12 tVal i15 [], arrO tSet v3 i4, boxO bp0 tRd i14 []]⟩) (fun i15 => f62_j14 a1 i2 i4 i14 (f62_l1 fu a1 n1) i15) (fun i15 => ?_) (fun hj14 => ?_)
              · refine .pT fun h3 => ?_
                refine .draw 7 [0] mix (by kernel_rfl) (.cons (fun _ _ _ hP hE h => .move (hE.op rfl) rfl <| h) <| .cons (fun _ _ _ hP hE h => .move (hE.op rfl) rfl <| h) <| .cons (fun _ _ _ hP hE h => .move (hE.op rfl) rfl <| h) <| .cons (fun _ _ _ hP hE h => .useC h3 <| .elemAt (hE.op rfl) (hE.op rfl) Tryz.underlying23 ty52 rfl <| h) <| .cons (fun _ _ _ hP hE h => .fieldAt fCol_0 (hE.op rfl) fa52_0 rfl <| h) <| .cons (fun _ _ _ hP hE h => .load (hE.op rfl) ty9 rfl <| h) <| .cons (fun _ _ _ hP hE h => .loadP 0 (Fld.self _) (hE.op rfl) (hP.get rfl rfl) ty47 rfl <| h) <| .nil) rfl <| .build rfl st49 z49 (.cons fSet_0 rfl rfl <| .cons fSet_1 rfl rfl <| .nil) rfl <| .litN (T := tSet) Tryz.underlying28 el49 rfl rfl (.cons rfl <| .nil) rfl <| .appA (T := tSet) 1 rfl rfl rfl Tryz.underlying28 el49 rfl fun v16 => .assign rfl rfl <| .nil ?_
                exact .keep [0, 1, 6] [5] rfl (.drop (.cons _ <| .cons_cons _ <| .cons_cons _ <| .slnil) <| hj12 _ _ _)
              · refine .cond rfl (fun _ => ?_) (fun _ => ?_)
                · refine .region <| .move rfl rfl <| .move rfl rfl <| .elemAt rfl rfl Tryz.underlying23 ty52 rfl <| .fieldAt fCol_1 rfl fa52_1 rfl <| .load rfl ty3 rfl <| .fieldP rfl fa47_0 rfl <| .storeP 0 fVal_0 rfl rfl rfl ty3 <| .nil ?_
                  exact .keep [0, 1, 6, 7] [5] rfl (hj14 _)
                · exact .skip <| .keep [0, 1, 6, 7] [5] rfl (hj14 _)
            · refine .region <| .move rfl rfl <| .move rfl rfl <| .elemAt rfl rfl Tryz.underlying23 ty52 rfl <| .fieldAt fCol_2 rfl fa52_2 rfl <| .load rfl ty4 rfl <| .move rfl rfl <| .split 37 rfl (fun _ => ?_) (fun _ => ?_)
              · refine .on rfl rfl <| .fieldP rfl fa47_0 rfl <| .on rfl rfl <| .loadP 0 fVal_0 rfl rfl ty3 rfl <| .on rfl rfl <| .bin rfl rfl rfl rfl <| .pickT rfl rfl rfl <| .move rfl rfl <| .split 42 rfl (fun _ => ?_) (fun _ => ?_)
                · refine .on rfl rfl <| .move rfl rfl <| .on rfl rfl <| .call1 2 (c74 fu _ _ _) rfl n74 rfl rfl fun q17 => .on rfl rfl <| .bin rfl rfl rfl rfl <| .pickT rfl rfl rfl <| .nil ?_
                  exact .keep [0, 1, 6, 7, 46] [5] rfl (hj13 _ _)
                · refine .off rfl rfl rfl <| .off rfl rfl rfl <| .off rfl rfl rfl <| .pickF rfl rfl rfl <| .nil ?_
                  exact .keep [0, 1, 6, 7, 46] [5] rfl (hj13 _ _)
              · refine .off rfl rfl rfl <| .off rfl rfl rfl <| .off rfl rfl rfl <| .pickF rfl rfl rfl <| .move rfl rfl <| .off rfl rfl rfl <| .off rfl rfl rfl <| .off rfl rfl rfl <| .pickF rfl rfl rfl <| .nil ?_
                exact .keep [0, 1, 6, 7, 46] [5] rfl (hj13 _ _)
          · exact .skip <| .keep [0, 1, 6] [5] rfl (hj12 _ _ _)
      · refine .region <| .move rfl rfl <| .move rfl rfl <| .elemAt rfl rfl Tryz.underlying23 ty52 rfl <| .fieldAt fCol_2 rfl fa52_2 rfl <| .load rfl ty4 rfl <| .move rfl rfl <| .split 20 rfl (fun _ => ?_) (fun _ => ?_)
        · refine .off rfl rfl rfl <| .off rfl rfl rfl <| .off rfl rfl rfl <| .pickT rfl rfl rfl <| .nil ?_
          exact .keep [0, 1, 6, 24] [5] rfl (hj11 _ _)
        · refine .on rfl rfl <| .move rfl rfl <| .on rfl rfl <| .call1 1 (c74 fu _ _ _) rfl n74 rfl rfl fun q18 => .on rfl rfl <| .bin rfl rfl rfl rfl <| .pickF rfl rfl rfl <| .nil ?_
          exact .keep [0, 1, 6, 24] [5] rfl (hj11 _ _)
    · refine .exit rfl <| .seq <| .seq <| .region <| .move rfl rfl <| .call1 1 (c74 fu _ _ _) rfl n74 rfl rfl fun q19 => .nil ?_
      refine .block <| .seq <| .region <| .bin rfl rfl rfl rfl <| .assign rfl rfl <| .nil ?_
      refine .join2 (fun i20 i21 => ⟨[(5, isV v3, some v3)], [arrO tSet v3 i20, boxO bp0 tRd i21 []]⟩) (fun i20 i21 => f62_j15 (f62_l1 fu a1 n1) i20 i21) (fun i20 i21 => ?_) (fun hj15 => ?_)
      · refine .inBlock <| .seq <| .region <| .move rfl rfl <| .assign rfl rfl <| .nil ?_
        exact .frz 0 4 rfl rfl <| .ret1 Tryz.func32 Tryz.results32 (.tmp rfl) rfl (fun _ _ => .cons _ <| .cons_cons _ <| .slnil)
      · refine .cond rfl (fun _ => ?_) (fun _ => ?_)
        · refine .seq <| .region <| .move rfl rfl <| .move rfl rfl <| .litN (T := tS) Tryz.underlying94 el9 rfl rfl (.cons rfl <| .cons rfl <| .cons rfl <| .nil) rfl <| .call1 1 (c96 fu _ _ _) rfl n96 rfl rfl fun q22 => .build rfl st49 z49 (.cons fSet_0 rfl rfl <| .nil) rfl <| .litN (T := tSet) Tryz.underlying28 el49 rfl rfl (.cons rfl <| .nil) rfl <| .frz 0 5 rfl rfl <| .also 67 5 rfl rfl <| .app (T := tSet) 0 rfl rfl rfl Tryz.underlying28 el49 rfl fun v23 => .assign rfl rfl <| .nil ?_
          exact .ret1 Tryz.func32 Tryz.results32 (.tmp rfl) rfl (fun _ _ => .cons _ <| .cons_cons _ <| .slnil)
        · refine .seq <| .region <| .bin rfl rfl rfl rfl <| .assign rfl rfl <| .nil ?_
          refine .cond rfl (fun _ => ?_) (fun _ => ?_)
          · refine .seq <| .region <| .move rfl rfl <| .lenA 0 rfl rfl Tryz.underlying28 rfl <| .bin rfl rfl rfl rfl <| .nil ?_
            refine .cond rfl (fun _ => ?_) (fun _ => ?_)
            · refine .region <| .move rfl rfl <| .move rfl rfl <| .call1 1 (c97 fu _ _) rfl n97 rfl rfl fun q24 => .elemA 0 rfl rfl rfl Tryz.underlying28 ty49 rfl <| .fieldA rfl fa49_1 rfl <| .storeA 0 fSet_1 rfl rfl rfl ty47 <| .nil ?_
              exact .keep [] [5] rfl (hj15 _ _)
            · exact .skip <| .keep [] [5] rfl (hj15 _ _)
          · exact .skip <| .keep [] [5] rfl (hj15 _ _)
def f141_j1 (i5 : List Val) : Option (List Val) := some i5
def f141 (fu : Nat) (a0 : List Col) (a1 : Change) (a2 : List Val) : Option (List Val) := (f108 fu a0 a1.name).bind fun q2 => cond (decide (List.length ([] : List Val) + List.length a2 ≤ CAP)) (cond (decide (a1.kind = 1)) (cond (decide (List.length (([] : List Val) ++ a2) + List.length ([a1.col.def_] : List Val) ≤ CAP)) (some ((([] : List Val) ++ a2) ++ ([a1.col.def_] : List Val))) none) (cond (decide (a1.kind = 2)) (cond (decide (0 ≤ (0 : Int)) && decide ((0 : Int) ≤ q2) && decide (q2 ≤ (List.length a2 : Int))) (cond (decide (List.length ([] : List Val) + List.length ((a2.take q2.toNat).drop (0 : Int).toNat) ≤ CAP)) (cond (decide (0 ≤ (IntKind.i64.wrap (q2 + 1))) && decide ((IntKind.i64.wrap (q2 + 1)) ≤ (List.length a2 : Int)) && decide ((List.length a2 : Int) ≤ (List.length a2 : Int))) (cond (decide (List.length (([] : List Val) ++ ((a2.take q2.toNat).drop (0 : Int).toNat)) + List.length ((a2.take (List.length a2 : Int).toNat).drop (IntKind.i64.wrap (q2 + 1)).toNat) ≤ CAP)) (some ((([] : List Val) ++ ((a2.take q2.toNat).drop (0 : Int).toNat)) ++ ((a2.take (List.length a2 : Int).toNat).drop (IntKind.i64.wrap (q2 + 1)).toNat))) none) none) none) none) (cond (decide (a1.kind = 4)) (cond (decide (0 ≤ q2) && decide (q2 < (List.length a2 : Int))) ((f138 fu (a2.getD q2.toNat default) a1.col.kind).bind fun q9 => cond (decide (0 ≤ q2) && decide (q2 < (List.length (([] : List Val) ++ a2) : Int))) (f141_j1 ((([] : List Val) ++ a2).set q2.toNat q9)) none) none) (f141_j1 (([] : List Val) ++ a2))))) none
theorem n141 : ∃ fn c, Tryz.prog.funcs[109]? = some fn ∧ (fn.name == "runtime.NumGoroutine") = false ∧ fn.body = some c := ⟨_, _, Tryz.func109, by kernel_rfl, rfl⟩
theorem c141 (fu : Nat) (a0 : List Col) (a1 : Change) (a2 : List Val) : Ctr Tryz.prog 109 [(tL tCol).va a0, tChange.va a1, (tL tVal).va a2] [] (f141 fu a0 a1 a2) (fun _ _ => []) (fun q => (tL tVal).va q) := by
  refine Ctr.of_W Tryz.func109 rfl Tryz.ntmps109 rfl fun A w => ?_
  unfold f141
  refine .seq <| .region <| .box (T := tChange) rfl rfl fun b1 => .assignNil tVal rfl <| .nil ?_
  refine .seq <| .region <| .move rfl rfl <| .fieldP rfl fa56_1 rfl <| .loadP 0 fChange_1 rfl rfl ty9 rfl <| .call0 (c108 fu _ _) n108 rfl rfl fun q2 => .assign rfl rfl <| .nil ?_
  refine .seq <| .region <| .lit (T := tVal) Tryz.underlying42 el47 rfl rfl (.nil) rfl fun v3 => .toArr 0 13 rfl rfl rfl <| .move rfl rfl <| .appA (T := tVal) 0 rfl rfl rfl Tryz.underlying42 el47 rfl fun v4 => .assign rfl rfl <| .nil ?_
  refine .seq <| .seq <| .region <| .fieldP rfl fa56_0 rfl <| .loadP 1 fChange_0 rfl rfl ty3 rfl <| .nil ?_
  refine .block <| .seq <| .region <| .bin rfl rfl rfl rfl <| .assign rfl rfl <| .nil ?_
  refine .join1 (fun i5 => ⟨[(8, isV v4, some v4)], [arrO tVal v4 i5]⟩) (fun i5 => f141_j1 i5) (fun i5 => ?_) (fun hj1 => ?_)
  · refine .inBlock <| .seq <| .region <| .move rfl rfl <| .assign rfl rfl <| .nil ?_
    exact .frz 0 6 rfl rfl <| .ret1 Tryz.func109 Tryz.results109 (.tmp rfl) rfl (fun _ _ => .cons _ <| .slnil)
  · refine .cond rfl (fun _ => ?_) (fun _ => ?_)
    · refine .seq <| .region <| .move rfl rfl <| .fieldP rfl fa56_3 rfl <| .fieldP rfl fa52_4 rfl <| .loadP 1 (fChange_3.comp fCol_4) rfl rfl ty47 rfl <| .litN (T := tVal) Tryz.underlying42 el47 rfl rfl (.cons rfl <| .nil) rfl <| .frz 0 8 rfl rfl <| .also 20 8 rfl rfl <| .app (T := tVal) 0 rfl rfl rfl Tryz.underlying42 el47 rfl fun v6 => .assign rfl rfl <| .nil ?_
      exact .ret1 Tryz.func109 Tryz.results109 (.tmp rfl) rfl (fun _ _ => .cons _ <| .cons _ <| .slnil)
    · refine .seq <| .region <| .bin rfl rfl rfl rfl <| .assign rfl rfl <| .nil ?_
      refine .cond rfl (fun _ => ?_) (fun _ => ?_)
      · refine .seq <| .pT fun h1 => ?_
        refine .pT fun h2 => ?_
        refine .pT fun h3 => ?_
        refine .drawS 9 [] [4] [] mix (by kernel_rfl) (.cons (fun _ _ _ hP hE h => .litE tVal Tryz.underlying42 el47 rfl rfl <| h) <| .cons (fun _ _ _ hP hE h => .move (hE.op rfl) rfl <| h) <| .cons (fun _ _ _ hP hE h => .move (hE.op rfl) rfl <| h) <| .cons (fun _ _ _ hP hE h => .useC h1 <| .cut (hE.op rfl) Tryz.underlying42 el47 rfl ⟨_, (hE.op rfl)⟩ rfl <| h) <| .skip <| .cons (fun _ _ _ hP hE h => .move (hE.op rfl) rfl <| h) <| .cons (fun _ _ _ hP hE h => .move (hE.op rfl) rfl <| h) <| .cons (fun _ _ _ hP hE h => .bin rfl (hE.op rfl) (hE.op rfl) rfl <| h) <| .cons (fun _ _ _ hP hE h => .useC h3 <| .cut (hE.op rfl) Tryz.underlying42 el47 ⟨_, (hE.op rfl)⟩ rfl rfl <| h) <| .nil) rfl <| .cons (d := 32) rfl rfl fun _ _ hE h => .useC h2 <| .appE (T := tVal) (hE.op rfl) (hE.op rfl) rfl Tryz.underlying42 el47 rfl fun v7 => .toEnd <| h _ _ (.same <| .same <| .nil) <| .nil <| .app (T := tVal) 2 rfl rfl rfl Tryz.underlying42 el47 rfl fun v8 => .assign rfl rfl <| .nil ?_
        exact .ret1 Tryz.func109 Tryz.results109 (.tmp rfl) rfl (fun _ _ => .cons _ <| .cons _ <| .cons _ <| .slnil)
      · refine .seq <| .region <| .bin rfl rfl rfl rfl <| .assign rfl rfl <| .nil ?_
        refine .cond rfl (fun _ => ?_) (fun _ => ?_)
        · refine .pT fun h4 => ?_
          refine .draw 9 [0, 1] mix (by kernel_rfl) (.cons (fun _ _ _ hP hE h => .move (hE.op rfl) rfl <| h) <| .cons (fun _ _ _ hP hE h => .move (hE.op rfl) rfl <| h) <| .cons (fun _ _ _ hP hE h => .move (hE.op rfl) rfl <| h) <| .cons (fun _ _ _ hP hE h => .move (hE.op rfl) rfl <| h) <| .cons (fun _ _ _ hP hE h => .useC h4 <| .elemAt (hE.op rfl) (hE.op rfl) Tryz.underlying42 ty47 rfl <| h) <| .cons (fun _ _ _ hP hE h => .load (hE.op rfl) ty47 rfl <| h) <| .cons (fun _ _ _ hP hE h => .fieldP (hE.op rfl) fa56_3 rfl <| h) <| .cons (fun _ _ _ hP hE h => .fieldP (hE.op rfl) fa52_1 rfl <| h) <| .cons (fun _ _ _ hP hE h => .loadP 1 (fChange_3.comp fCol_1) (hE.op rfl) (hP.get rfl rfl) ty3 rfl <| h) <| .nil) rfl <| .call0 (c138 fu _ _) n138 rfl rfl fun q9 => .elemA 0 rfl rfl rfl Tryz.underlying42 ty47 rfl <| .storeA 0 (Fld.self _) rfl rfl rfl ty47 <| .nil ?_
          exact .keep [] [8] rfl (.drop (.cons_cons _ <| .cons _ <| .slnil) <| hj1 _)
        · exact .skip <| .keep [] [8] rfl (.drop (.cons_cons _ <| .cons _ <| .slnil) <| hj1 _)
def f120_l1 (fu : Nat) (a1 : List Change) : Nat → (List Col) → (List Val) → Int → Option (List Val)
  | 0, _, _, _ => none
  | n1 + 1, i5, i6, i7 => cond (decide (i7 < (List.length a1 : Int))) (cond (decide (0 ≤ i7) && decide (i7 < (List.length a1 : Int))) ((f141 fu i5 (a1.getD i7.toNat default) i6).bind fun q8 => cond (decide (0 ≤ i7) && decide (i7 < (List.length a1 : Int))) ((f87 fu i5 (a1.getD i7.toNat default)).bind fun q9 => (f120_l1 fu a1 n1) q9.1 q8 (IntKind.i64.wrap (i7 + 1))) none) none) (some i6)
def f120_j1 (fu : Nat) (a0 : List Col) (a1 : List Change) (a2 : List Val) (i2 : Bool) : Option (List Val) := cond i2 (some ([] : List Val)) (cond (decide (List.length ([] : List Val) + List.length a2 ≤ CAP)) (f120_l1 fu a1 fu a0 (([] : List Val) ++ a2) 0) none)
def f120 (fu : Nat) (a0 : List Col) (a1 : List Change) (a2 : List Val) : Option (List Val) := (f50 fu a0 a1).bind fun q1 => cond (!q1.2) (f120_j1 fu a0 a1 a2 true) (f120_j1 fu a0 a1 a2 (!decide ((List.length a2 : Int) = (List.length a0 : Int))))
theorem n120 : ∃ fn c, Tryz.prog.funcs[89]? = some fn ∧ (fn.name == "runtime.NumGoroutine") = false ∧ fn.body = some c := ⟨_, _, Tryz.func89, by kernel_rfl, rfl⟩
theorem c120 (fu : Nat) (a0 : List Col) (a1 : List Change) (a2 : List Val) : Ctr Tryz.prog 89 [(tL tCol).va a0, (tL tChange).va a1, (tL tVal).va a2] [] (f120 fu a0 a1 a2) (fun _ _ => []) (fun q => (tL tVal).va q) := by
  refine Ctr.of_W Tryz.func89 rfl Tryz.ntmps89 rfl fun A w => ?_
  unfold f120
  refine .seq <| .region <| .assignNil tVal rfl <| .nil ?_
  refine .seq <| .region <| .move rfl rfl <| .move rfl rfl <| .call0 (c50 fu _ _) n50 rfl rfl fun q1 => .move rfl rfl <| .extract rfl rfl rfl <| .extract rfl rfl rfl <| .assign rfl rfl <| .assign rfl rfl <| .nil ?_
  refine .seq <| .seq <| .join1 (fun i2 => ⟨[(0, (tL tCol).va a0, none), (1, (tL tChange).va a1, none), (2, (tL tVal).va a2, none), (25, isB i2, none)], []⟩) (fun i2 => f120_j1 fu a0 a1 a2 i2) (fun i2 => ?_) (fun hj1 => ?_)
  · refine .cond rfl (fun _ => ?_) (fun _ => ?_)
    · refine .seq <| .region <| .litN (T := tVal) Tryz.underlying42 el47 rfl rfl (.nil) rfl <| .assign rfl rfl <| .nil ?_
      exact .ret1 Tryz.func89 Tryz.results89 (.tmp rfl) rfl (fun _ _ => .slnil)
    · refine .skip <| .seq <| .region <| .lit (T := tVal) Tryz.underlying42 el47 rfl rfl (.nil) rfl fun v3 => .move rfl rfl <| .app (T := tVal) 0 rfl rfl rfl Tryz.underlying42 el47 rfl fun v4 => .assign rfl rfl <| .nil ?_
      refine .seq <| .seq <| .region <| .assign rfl rfl <| .nil ?_
      refine .block <| .loop <| .drop (.cons _ <| .slnil) <| .keep [0, 1, 9, 10] [] rfl ?_
      refine (show ∀ (n1 : Nat) (i5 : List Col) (i6 : List Val) (i7 : Int), W _ _ _ _ _ ⟨[(0, (tL tCol).va i5, none), (1, (tL tChange).va a1, none), (9, (tL tVal).va i6, none), (10, isI .i64 i7, none)], []⟩ (f120_l1 fu a1 n1 i5 i6 i7) from ?_) fu _ _ _
      intro n1
      induction n1 with
      | zero => exact fun _ _ _ => .stop
      | succ n1 ih1 =>
        intro i5 i6 i7
        refine .inLoop <| .seq <| .seq <| .region <| .move rfl rfl <| .move rfl rfl <| .lenL rfl Tryz.underlying24 rfl <| .bin rfl rfl rfl rfl <| .nil ?_
        refine .cond rfl (fun _ => ?_) (fun _ => ?_)
        · refine .skip <| .seq <| .block <| .seq <| .region <| .move rfl rfl <| .move rfl rfl <| .move rfl rfl <| .elemAt rfl rfl Tryz.underlying24 ty56 rfl <| .load rfl ty56 rfl <| .move rfl rfl <| .call0 (c141 fu _ _ _) n141 rfl rfl fun q8 => .assign rfl rfl <| .nil ?_
          refine .region <| .move rfl rfl <| .move rfl rfl <| .move rfl rfl <| .elemAt rfl rfl Tryz.underlying24 ty56 rfl <| .load rfl ty56 rfl <| .call0 (c87 fu _ _) n87 rfl rfl fun q9 => .move rfl rfl <| .extract rfl rfl rfl <| .extract rfl rfl rfl <| .assign rfl rfl <| .nil ?_
          refine .inBlock <| .region <| .move rfl rfl <| .bin rfl rfl rfl rfl <| .assign rfl rfl <| .nil ?_
          exact .keep [0, 1, 9, 10] [] rfl (ih1 _ _ _)
        · refine .exit rfl <| .seq <| .region <| .move rfl rfl <| .assign rfl rfl <| .nil ?_
          exact .ret1 Tryz.func89 Tryz.results89 (.tmp rfl) rfl (fun _ _ => .slnil)
  · refine .region <| .move rfl rfl <| .not rfl rfl <| .move rfl rfl <| .split 19 rfl (fun _ => ?_) (fun _ => ?_)
    · refine .off rfl rfl rfl <| .off rfl rfl rfl <| .off rfl rfl rfl <| .off rfl rfl rfl <| .off rfl rfl rfl <| .pickT rfl rfl rfl <| .nil ?_
      exact .keep [0, 1, 2, 25] [] rfl (hj1 _)
    · refine .on rfl rfl <| .move rfl rfl <| .on rfl rfl <| .lenL rfl Tryz.underlying42 rfl <| .on rfl rfl <| .move rfl rfl <| .on rfl rfl <| .lenL rfl Tryz.underlying23 rfl <| .on rfl rfl <| .bin rfl rfl rfl rfl <| .pickF rfl rfl rfl <| .nil ?_
      exact .keep [0, 1, 2, 25] [] rfl (hj1 _)
def f90 (fu : Nat) (a0 : Table) (a1 : Row) : Option (List Val) := (f89 fu a0 a1.ver).bind fun q3 => cond (decide (0 ≤ a1.ver) && decide (a1.ver ≤ (List.length a0.changes : Int)) && decide ((List.length a0.changes : Int) ≤ (List.length a0.changes : Int))) ((f120 fu q3 ((a0.changes.take (List.length a0.changes : Int).toNat).drop a1.ver.toNat) a1.vals).bind fun q4 => some q4) none
theorem n90 : ∃ fn c, Tryz.prog.funcs[61]? = some fn ∧ (fn.name == "runtime.NumGoroutine") = false ∧ fn.body = some c := ⟨_, _, Tryz.func61, by kernel_rfl, rfl⟩
theorem c90 (fu : Nat) (a0 : Table) (a1 : Row) : Ctr Tryz.prog 61 [tTable.va a0, tRow.va a1] [] (f90 fu a0 a1) (fun _ _ => []) (fun q => (tL tVal).va q) := by
  refine Ctr.of_W Tryz.func61 rfl Tryz.ntmps61 rfl fun A w => ?_
  unfold f90
  refine .seq <| .region <| .box (T := tTable) rfl rfl fun b1 => .box (T := tRow) rfl rfl fun b2 => .assignNil tVal rfl <| .nil ?_
  refine .seq <| .pbind fun q3 h1 => ?_
  refine .pT fun h2 => ?_
  refine .draw 11 [] mix (by kernel_rfl) (.cons (fun _ _ _ hP hE h => .loadP 1 (Fld.self _) (hE.op rfl) (hP.get rfl rfl) ty27 rfl <| h) <| .cons (fun _ _ _ hP hE h => .fieldP (hE.op rfl) fa37_1 rfl <| h) <| .cons (fun _ _ _ hP hE h => .loadP 0 fRow_1 (hE.op rfl) (hP.get rfl rfl) ty3 rfl <| h) <| .cons (fun _ _ _ hP hE h => .bindE h1 (fun r h => .call0 (c89 fu _ _) n89 (hE.ops rfl) rfl h) <| h) <| .cons (fun _ _ _ hP hE h => .fieldP (hE.op rfl) fa27_1 rfl <| h) <| .cons (fun _ _ _ hP hE h => .loadP 1 fTable_1 (hE.op rfl) (hP.get rfl rfl) ty24 rfl <| h) <| .cons (fun _ _ _ hP hE h => .fieldP (hE.op rfl) fa37_1 rfl <| h) <| .cons (fun _ _ _ hP hE h => .loadP 0 fRow_1 (hE.op rfl) (hP.get rfl rfl) ty3 rfl <| h) <| .cons (fun _ _ _ hP hE h => .useC h2 <| .cut (hE.op rfl) Tryz.underlying24 el56 ⟨_, (hE.op rfl)⟩ rfl rfl <| h) <| .cons (fun _ _ _ hP hE h => .fieldP (hE.op rfl) fa37_2 rfl <| h) <| .cons (fun _ _ _ hP hE h => .loadP 0 fRow_2 (hE.op rfl) (hP.get rfl rfl) ty32 rfl <| h) <| .nil) rfl <| .call0 (c120 fu _ _ _) n120 rfl rfl fun q4 => .assign rfl rfl <| .nil ?_
  exact .ret1 Tryz.func61 Tryz.results61 (.tmp rfl) rfl (fun _ _ => .cons _ <| .cons _ <| .slnil)
def f90o (fu : Nat) (a0 : Table) (a1 : Row) : Option (List Val) := (f89o fu a0 a1.ver).bind fun q3 => cond (decide (0 ≤ a1.ver) && decide (a1.ver ≤ (List.length a0.changes : Int)) && decide ((List.length a0.changes : Int) ≤ (List.length a0.changes : Int))) ((f120 fu q3 ((a0.changes.take (List.length a0.changes : Int).toNat).drop a1.ver.toNat) a1.vals).bind fun q4 => some q4) none
theorem c90o (fu : Nat) (vp0 : Value) (cp0 : Value) (a0 : Table) (a1 : Row) : Ctr Tryz.prog 61 [tTableA.va (⟨a0.first, (cp0, a0.changes), vp0, a0.next⟩ : TableA), tRow.va a1] [arrO tRow vp0 a0.rows] (f90o fu a0 a1) (fun _ _ => [arrO tRow vp0 a0.rows]) (fun q => (tL tVal).va q) := by
  refine Ctr.of_W Tryz.func61 rfl Tryz.ntmps61 rfl fun A w => ?_
  unfold f90o
  refine .seq <| .region <| .box (T := tTableA) rfl rfl fun b1 => .box (T := tRow) rfl rfl fun b2 => .assignNil tVal rfl <| .nil ?_
  refine .seq <| .pbind fun q3 h1 => ?_
  refine .pT fun h2 => ?_
  refine .draw 11 [] mix (by kernel_rfl) (.cons (fun _ _ _ hP hE h => .loadP 1 (Fld.self _) (hE.op rfl) (hP.get rfl rfl) ty27 rfl <| h) <| .cons (fun _ _ _ hP hE h => .fieldP (hE.op rfl) fa37_1 rfl <| h) <| .cons (fun _ _ _ hP hE h => .loadP 0 fRow_1 (hE.op rfl) (hP.get rfl rfl) ty3 rfl <| h) <| .cons (fun _ _ _ hP hE h => .bindE h1 (fun r h => .callR 2 (c89o fu _ _ _ _) (hP.get rfl rfl) n89 (hE.ops rfl) rfl h) <| h) <| .cons (fun _ _ _ hP hE h => .fieldP (hE.op rfl) fa27_1 rfl <| h) <| .cons (fun _ _ _ hP hE h => .loadK 1 fTableA_1 (hE.op rfl) (hP.get rfl rfl) ty24 rfl <| h) <| .cons (fun _ _ _ hP hE h => .fieldP (hE.op rfl) fa37_1 rfl <| h) <| .cons (fun _ _ _ hP hE h => .loadP 0 fRow_1 (hE.op rfl) (hP.get rfl rfl) ty3 rfl <| h) <| .cons (fun _ _ _ hP hE h => .useC h2 <| .cut (hE.op rfl) Tryz.underlying24 el56 ⟨_, (hE.op rfl)⟩ rfl rfl <| h) <| .cons (fun _ _ _ hP hE h => .fieldP (hE.op rfl) fa37_2 rfl <| h) <| .cons (fun _ _ _ hP hE h => .loadP 0 fRow_2 (hE.op rfl) (hP.get rfl rfl) ty32 rfl <| h) <| .nil) rfl <| .call0 (c120 fu _ _ _) n120 rfl rfl fun q4 => .assign rfl rfl <| .nil ?_
  exact .ret1 Tryz.func61 Tryz.results61 (.tmp rfl) rfl (fun _ _ => .cons _ <| .cons _ <| .cons_cons _ <| .slnil)
end Go.Proofs.YtlkhmcajnfombaaGreatDoor
