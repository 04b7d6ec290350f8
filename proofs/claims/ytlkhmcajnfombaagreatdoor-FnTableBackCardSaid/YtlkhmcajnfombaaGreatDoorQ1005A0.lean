/- Functions of the program: what each answers, and that the machine answers so. -/
import Derived.Test.YtlkhmcajnfombaaGreatDoorQ1005Lib
import Derived.Test.YtlkhmcajnfombaaGreatDoorQ1005Deep
import Derived.KernelRfl
set_option linter.unusedVariables false
set_option linter.unusedSimpArgs false
set_option linter.deprecated false
set_option linter.unusedSectionVars false
set_option linter.all false
namespace Go.Proofs.YtlkhmcajnfombaaGreatDoor
open Go Go.HL
def f60_j1 (i1 : List Int) : Option Rd := some (⟨i1, d0_107.p⟩ : Rd)
def f60 (fu : Nat) (a0 : List Int) : Option Rd := cond (decide (2000 < (List.length a0 : Int))) (cond (decide (0 ≤ (0 : Int)) && decide ((0 : Int) ≤ (2000 : Int)) && decide ((2000 : Int) ≤ (List.length a0 : Int))) (f60_j1 ((a0.take (2000 : Int).toNat).drop (0 : Int).toNat)) none) (f60_j1 a0)
theorem n60 : ∃ fn c, Tryz.prog.funcs[28]? = some fn ∧ (fn.name == "runtime.NumGoroutine") = false ∧ fn.body = some c := ⟨_, _, Tryz.func28, by kernel_rfl, rfl⟩
theorem c60 (fu : Nat) (a0 : List Int) : Ctr Tryz.prog 28 [(tL (tI .u8)).va a0] [] (f60 fu a0) (fun q v => [boxO (ptrB v) tRd q []]) (fun q => isPtr) := by
  refine Ctr.of_W Tryz.func28 rfl Tryz.ntmps28 rfl fun A w => ?_
  unfold f60
  refine .seq <| .region <| .assign rfl rfl <| .nil ?_
  refine .seq <| .seq <| .region <| .move rfl rfl <| .lenL rfl Tryz.underlying22 rfl <| .bin rfl rfl rfl rfl <| .nil ?_
  refine .join1 (fun i1 => ⟨[(0, (tL (tI .u8)).va i1, none)], []⟩) (fun i1 => f60_j1 i1) (fun i1 => ?_) (fun hj1 => ?_)
  · refine .seq <| .region <| .move rfl rfl <| .build rfl st107 z107 (.cons fRd_0 rfl rfl <| .nil) rfl <| .box (T := tRd) rfl rfl fun b2 => .assign rfl rfl <| .nil ?_
    exact .toPtr 2 rfl <| .ret1 Tryz.func28 Tryz.results28 (.tmp rfl) rfl (fun v hv => by cases hv _ rfl; exact .cons_cons _ <| .slnil)
  · refine .cond rfl (fun _ => ?_) (fun _ => ?_)
    · refine .region <| .move rfl rfl <| .cut rfl Tryz.underlying22 el5 rfl ⟨_, rfl⟩ rfl <| .assign rfl rfl <| .nil ?_
      exact .keep [0] [] rfl (hj1 _)
    · exact .skip <| .keep [0] [] rfl (hj1 _)
def f74_j1 (a0 : Rd) (a1 : Int) (i1 : Bool) : Option (Int × Rd) := cond i1 (some (0, ({ a0 with p := IntKind.i64.wrap (a0.p + 1) } : Rd))) (cond (decide ((IntKind.i64.wrap ((({ a0 with p := IntKind.i64.wrap (a0.p + 1) } : Rd).p) - 1)) < (List.length (({ a0 with p := IntKind.i64.wrap (a0.p + 1) } : Rd).b) : Int))) (cond (decide (0 ≤ (IntKind.i64.wrap ((({ a0 with p := IntKind.i64.wrap (a0.p + 1) } : Rd).p) - 1))) && decide ((IntKind.i64.wrap ((({ a0 with p := IntKind.i64.wrap (a0.p + 1) } : Rd).p) - 1)) < (List.length (({ a0 with p := IntKind.i64.wrap (a0.p + 1) } : Rd).b) : Int))) (cond (decide ((a1 : Int) = 0)) none (some ((IntKind.i64.wrap ((({ a0 with p := IntKind.i64.wrap (a0.p + 1) } : Rd).b).getD (IntKind.i64.wrap ((({ a0 with p := IntKind.i64.wrap (a0.p + 1) } : Rd).p) - 1)).toNat default)).tmod a1, ({ a0 with p := IntKind.i64.wrap (a0.p + 1) } : Rd)))) none) (cond (decide (((List.length (({ a0 with p := IntKind.i64.wrap (a0.p + 1) } : Rd).b) : Int) : Int) = 0)) none (cond (decide (0 ≤ ((IntKind.i64.wrap ((({ a0 with p := IntKind.i64.wrap (a0.p + 1) } : Rd).p) - 1)).tmod (List.length (({ a0 with p := IntKind.i64.wrap (a0.p + 1) } : Rd).b) : Int))) && decide (((IntKind.i64.wrap ((({ a0 with p := IntKind.i64.wrap (a0.p + 1) } : Rd).p) - 1)).tmod (List.length (({ a0 with p := IntKind.i64.wrap (a0.p + 1) } : Rd).b) : Int)) < (List.length (({ a0 with p := IntKind.i64.wrap (a0.p + 1) } : Rd).b) : Int))) (cond (decide (((List.length (({ a0 with p := IntKind.i64.wrap (a0.p + 1) } : Rd).b) : Int) : Int) = 0)) none (cond (decide (0 ≤ ((IntKind.i64.wrap ((IntKind.i64.wrap ((IntKind.i64.wrap ((({ a0 with p := IntKind.i64.wrap (a0.p + 1) } : Rd).p) - 1)) * 7)) + 3)).tmod (List.length (({ a0 with p := IntKind.i64.wrap (a0.p + 1) } : Rd).b) : Int))) && decide (((IntKind.i64.wrap ((IntKind.i64.wrap ((IntKind.i64.wrap ((({ a0 with p := IntKind.i64.wrap (a0.p + 1) } : Rd).p) - 1)) * 7)) + 3)).tmod (List.length (({ a0 with p := IntKind.i64.wrap (a0.p + 1) } : Rd).b) : Int)) < (List.length (({ a0 with p := IntKind.i64.wrap (a0.p + 1) } : Rd).b) : Int))) (cond (decide (((List.length (({ a0 with p := IntKind.i64.wrap (a0.p + 1) } : Rd).b) : Int) : Int) = 0)) none (cond (decide ((64 : Int) = 0)) none (cond (decide ((a1 : Int) = 0)) none (some ((IntKind.i64.wrap (BitVec.ofInt 64 (IntKind.i64.wrap ((IntKind.i64.wrap ((IntKind.i64.wrap ((IntKind.i64.wrap ((IntKind.i64.wrap ((({ a0 with p := IntKind.i64.wrap (a0.p + 1) } : Rd).b).getD ((IntKind.i64.wrap ((({ a0 with p := IntKind.i64.wrap (a0.p + 1) } : Rd).p) - 1)).tmod (List.length (({ a0 with p := IntKind.i64.wrap (a0.p + 1) } : Rd).b) : Int)).toNat default)) * 131)) + (IntKind.i64.wrap ((IntKind.i64.wrap ((({ a0 with p := IntKind.i64.wrap (a0.p + 1) } : Rd).b).getD ((IntKind.i64.wrap ((IntKind.i64.wrap ((IntKind.i64.wrap ((({ a0 with p := IntKind.i64.wrap (a0.p + 1) } : Rd).p) - 1)) * 7)) + 3)).tmod (List.length (({ a0 with p := IntKind.i64.wrap (a0.p + 1) } : Rd).b) : Int)).toNat default)) * 1117)))) + (IntKind.i64.wrap ((IntKind.i64.wrap ((({ a0 with p := IntKind.i64.wrap (a0.p + 1) } : Rd).p) - 1)) * 29)))) + (IntKind.i64.wrap ((IntKind.i64.wrap ((IntKind.i64.wrap ((({ a0 with p := IntKind.i64.wrap (a0.p + 1) } : Rd).p) - 1)).tdiv (List.length (({ a0 with p := IntKind.i64.wrap (a0.p + 1) } : Rd).b) : Int))) * 53)))) ^^^ BitVec.ofInt 64 (IntKind.i64.wrap ((IntKind.i64.wrap ((IntKind.i64.wrap ((IntKind.i64.wrap ((IntKind.i64.wrap ((IntKind.i64.wrap ((({ a0 with p := IntKind.i64.wrap (a0.p + 1) } : Rd).b).getD ((IntKind.i64.wrap ((({ a0 with p := IntKind.i64.wrap (a0.p + 1) } : Rd).p) - 1)).tmod (List.length (({ a0 with p := IntKind.i64.wrap (a0.p + 1) } : Rd).b) : Int)).toNat default)) * 131)) + (IntKind.i64.wrap ((IntKind.i64.wrap ((({ a0 with p := IntKind.i64.wrap (a0.p + 1) } : Rd).b).getD ((IntKind.i64.wrap ((IntKind.i64.wrap ((IntKind.i64.wrap ((({ a0 with p := IntKind.i64.wrap (a0.p + 1) } : Rd).p) - 1)) * 7)) + 3)).tmod (List.length (({ a0 with p := IntKind.i64.wrap (a0.p + 1) } : Rd).b) : Int)).toNat default)) * 1117)))) + (IntKind.i64.wrap ((IntKind.i64.wrap ((({ a0 with p := IntKind.i64.wrap (a0.p + 1) } : Rd).p) - 1)) * 29)))) + (IntKind.i64.wrap ((IntKind.i64.wrap ((IntKind.i64.wrap ((({ a0 with p := IntKind.i64.wrap (a0.p + 1) } : Rd).p) - 1)).tdiv (List.length (({ a0 with p := IntKind.i64.wrap (a0.p + 1) } : Rd).b) : Int))) * 53)))).tdiv 64))).toNat).tmod a1, ({ a0 with p := IntKind.i64.wrap (a0.p + 1) } : Rd)))))) none)) none)))
def f74 (fu : Nat) (a0 : Rd) (a1 : Int) : Option (Int × Rd) := cond (decide (a1 < 1)) (f74_j1 a0 a1 true) (f74_j1 a0 a1 (decide ((List.length (({ a0 with p := IntKind.i64.wrap (a0.p + 1) } : Rd).b) : Int) = 0)))
theorem n74 : ∃ fn c, Tryz.prog.funcs[31]? = some fn ∧ (fn.name == "runtime.NumGoroutine") = false ∧ fn.body = some c := ⟨_, _, Tryz.func31, by kernel_rfl, rfl⟩
theorem c74 (fu : Nat) (bp0 : Nat) (a0 : Rd) (a1 : Int) : Ctr Tryz.prog 31 [isP bp0 0, isI .i64 a1] [boxO bp0 tRd a0 []] (f74 fu a0 a1) (fun q _ => [boxO bp0 tRd q.2 []]) (fun q => isI .i64 q.1) := by
  refine Ctr.of_W Tryz.func31 rfl Tryz.ntmps31 rfl fun A w => ?_
  unfold f74
  refine .seq <| .region <| .assign rfl rfl <| .nil ?_
  refine .seq <| .region <| .move rfl rfl <| .move rfl rfl <| .nilChk rfl rfl <| .fieldP rfl fa107_1 rfl <| .loadP 0 fRd_1 rfl rfl ty3 rfl <| .bin rfl rfl rfl rfl <| .nilChk rfl rfl <| .fieldP rfl fa107_1 rfl <| .storeP 0 fRd_1 rfl rfl rfl ty3 <| .nil ?_
  refine .seq <| .seq <| .join1 (fun i1 => ⟨[(0, isP bp0 0, none), (1, isI .i64 a1, none), (24, isB i1, none)], [boxO bp0 tRd ({ a0 with p := IntKind.i64.wrap (a0.p + 1) } : Rd) []]⟩) (fun i1 => f74_j1 a0 a1 i1) (fun i1 => ?_) (fun hj1 => ?_)
  · refine .cond rfl (fun _ => ?_) (fun _ => ?_)
    · refine .seq <| .region <| .assign rfl rfl <| .nil ?_
      exact .ret1 Tryz.func31 Tryz.results31 (.tmp rfl) rfl (fun _ _ => .cons_cons _ <| .slnil)
    · refine .skip <| .seq <| .region <| .move rfl rfl <| .nilChk rfl rfl <| .fieldP rfl fa107_1 rfl <| .loadP 0 fRd_1 rfl rfl ty3 rfl <| .bin rfl rfl rfl rfl <| .assign rfl rfl <| .nil ?_
      refine .seq <| .seq <| .region <| .move rfl rfl <| .move rfl rfl <| .nilChk rfl rfl <| .fieldP rfl fa107_0 rfl <| .loadP 0 fRd_0 rfl rfl ty22 rfl <| .lenL rfl Tryz.underlying22 rfl <| .bin rfl rfl rfl rfl <| .nil ?_
      refine .cond rfl (fun _ => ?_) (fun _ => ?_)
      · refine .seq <| .region <| .move rfl rfl <| .nilChk rfl rfl <| .fieldP rfl fa107_0 rfl <| .loadP 0 fRd_0 rfl rfl ty22 rfl <| .move rfl rfl <| .elemAt rfl rfl Tryz.underlying22 ty5 rfl <| .load rfl ty5 rfl <| .conv rfl ⟨_, Tryz.underlying5⟩ Tryz.underlying3 rfl <| .move rfl rfl <| .rem rfl rfl rfl <| .assign rfl rfl <| .nil ?_
        exact .ret1 Tryz.func31 Tryz.results31 (.tmp rfl) rfl (fun _ _ => .cons_cons _ <| .slnil)
      · refine .skip <| .seq <| .pF fun h1 => ?_
        refine .pT fun h2 => ?_
        refine .pF fun h3 => ?_
        refine .pT fun h4 => ?_
        refine .pF fun h5 => ?_
        refine .draw 44 [] mix (by kernel_rfl) (.cons (fun _ _ _ hP hE h => .move (hE.op rfl) rfl <| h) <| .cons (fun _ _ _ hP hE h => .nilChk (hE.op rfl) rfl <| h) <| .cons (fun _ _ _ hP hE h => .fieldP (hE.op rfl) fa107_0 rfl <| h) <| .cons (fun _ _ _ hP hE h => .loadP 0 fRd_0 (hE.op rfl) (hP.get rfl rfl) ty22 rfl <| h) <| .cons (fun _ _ _ hP hE h => .move (hE.op rfl) rfl <| h) <| .cons (fun _ _ _ hP hE h => .move (hE.op rfl) rfl <| h) <| .cons (fun _ _ _ hP hE h => .nilChk (hE.op rfl) rfl <| h) <| .cons (fun _ _ _ hP hE h => .fieldP (hE.op rfl) fa107_0 rfl <| h) <| .cons (fun _ _ _ hP hE h => .loadP 0 fRd_0 (hE.op rfl) (hP.get rfl rfl) ty22 rfl <| h) <| .cons (fun _ _ _ hP hE h => .lenL (hE.op rfl) Tryz.underlying22 rfl <| h) <| .cons (fun _ _ _ hP hE h => .useN h1 <| .rem (hE.op rfl) (hE.op rfl) rfl <| h) <| .cons (fun _ _ _ hP hE h => .useC h2 <| .elemAt (hE.op rfl) (hE.op rfl) Tryz.underlying22 ty5 rfl <| h) <| .cons (fun _ _ _ hP hE h => .load (hE.op rfl) ty5 rfl <| h) <| .cons (fun _ _ _ hP hE h => .conv (hE.op rfl) ⟨_, Tryz.underlying5⟩ Tryz.underlying3 rfl <| h) <| .cons (fun _ _ _ hP hE h => .bin rfl (hE.op rfl) (hE.op rfl) rfl <| h) <| .cons (fun _ _ _ hP hE h => .move (hE.op rfl) rfl <| h) <| .cons (fun _ _ _ hP hE h => .nilChk (hE.op rfl) rfl <| h) <| .cons (fun _ _ _ hP hE h => .fieldP (hE.op rfl) fa107_0 rfl <| h) <| .cons (fun _ _ _ hP hE h => .loadP 0 fRd_0 (hE.op rfl) (hP.get rfl rfl) ty22 rfl <| h) <| .cons (fun _ _ _ hP hE h => .move (hE.op rfl) rfl <| h) <| .cons (fun _ _ _ hP hE h => .bin rfl (hE.op rfl) (hE.op rfl) rfl <| h) <| .cons (fun _ _ _ hP hE h => .bin rfl (hE.op rfl) (hE.op rfl) rfl <| h) <| .cons (fun _ _ _ hP hE h => .move (hE.op rfl) rfl <| h) <| .cons (fun _ _ _ hP hE h => .nilChk (hE.op rfl) rfl <| h) <| .cons (fun _ _ _ hP hE h => .fieldP (hE.op rfl) fa107_0 rfl <| h) <| .cons (fun _ _ _ hP hE h => .loadP 0 fRd_0 (hE.op rfl) (hP.get rfl rfl) ty22 rfl <| h) <| .cons (fun _ _ _ hP hE h => .lenL (hE.op rfl) Tryz.underlying22 rfl <| h) <| .cons (fun _ _ _ hP hE h => .useN h3 <| .rem (hE.op rfl) (hE.op rfl) rfl <| h) <| .cons (fun _ _ _ hP hE h => .useC h4 <| .elemAt (hE.op rfl) (hE.op rfl) Tryz.underlying22 ty5 rfl <| h) <| .cons (fun _ _ _ hP hE h => .load (hE.op rfl) ty5 rfl <| h) <| .cons (fun _ _ _ hP hE h => .conv (hE.op rfl) ⟨_, Tryz.underlying5⟩ Tryz.underlying3 rfl <| h) <| .cons (fun _ _ _ hP hE h => .bin rfl (hE.op rfl) (hE.op rfl) rfl <| h) <| .cons (fun _ _ _ hP hE h => .bin rfl (hE.op rfl) (hE.op rfl) rfl <| h) <| .cons (fun _ _ _ hP hE h => .move (hE.op rfl) rfl <| h) <| .cons (fun _ _ _ hP hE h => .bin rfl (hE.op rfl) (hE.op rfl) rfl <| h) <| .cons (fun _ _ _ hP hE h => .bin rfl (hE.op rfl) (hE.op rfl) rfl <| h) <| .cons (fun _ _ _ hP hE h => .move (hE.op rfl) rfl <| h) <| .cons (fun _ _ _ hP hE h => .move (hE.op rfl) rfl <| h) <| .cons (fun _ _ _ hP hE h => .nilChk (hE.op rfl) rfl <| h) <| .cons (fun _ _ _ hP hE h => .fieldP (hE.op rfl) fa107_0 rfl <| h) <| .cons (fun _ _ _ hP hE h => .loadP 0 fRd_0 (hE.op rfl) (hP.get rfl rfl) ty22 rfl <| h) <| .cons (fun _ _ _ hP hE h => .lenL (hE.op rfl) Tryz.underlying22 rfl <| h) <| .cons (fun _ _ _ hP hE h => .useN h5 <| .quo (hE.op rfl) (hE.op rfl) rfl <| h) <| .cons (fun _ _ _ hP hE h => .bin rfl (hE.op rfl) (hE.op rfl) rfl <| h) <| .nil) rfl <| .bin rfl rfl rfl rfl <| .assign rfl rfl <| .nil ?_
        refine .seq <| .region <| .move rfl rfl <| .move rfl rfl <| .quo rfl rfl rfl <| .bin rfl rfl rfl rfl <| .assign rfl rfl <| .nil ?_
        refine .seq <| .region <| .move rfl rfl <| .move rfl rfl <| .rem rfl rfl rfl <| .assign rfl rfl <| .nil ?_
        exact .ret1 Tryz.func31 Tryz.results31 (.tmp rfl) rfl (fun _ _ => .cons_cons _ <| .slnil)
  · refine .region <| .move rfl rfl <| .bin rfl rfl rfl rfl <| .move rfl rfl <| .split 17 rfl (fun _ => ?_) (fun _ => ?_)
    · refine .off rfl rfl rfl <| .off rfl rfl rfl <| .off rfl rfl rfl <| .off rfl rfl rfl <| .off rfl rfl rfl <| .off rfl rfl rfl <| .pickT rfl rfl rfl <| .nil ?_
      exact .keep [0, 1, 24] [] rfl (hj1 _)
    · refine .on rfl rfl <| .move rfl rfl <| .on rfl rfl <| .nilChk rfl rfl <| .on rfl rfl <| .fieldP rfl fa107_0 rfl <| .on rfl rfl <| .loadP 0 fRd_0 rfl rfl ty22 rfl <| .on rfl rfl <| .lenL rfl Tryz.underlying22 rfl <| .on rfl rfl <| .bin rfl rfl rfl rfl <| .pickF rfl rfl rfl <| .nil ?_
      exact .keep [0, 1, 24] [] rfl (hj1 _)
def f106  : Option (List (List UInt8)) := some ([([97] : List UInt8), ([98] : List UInt8), ([99] : List UInt8), ([100] : List UInt8), ([101] : List UInt8), ([97, 98] : List UInt8)] : List (List UInt8))
theorem n106 : ∃ fn c, Tryz.prog.funcs[114]? = some fn ∧ (fn.name == "runtime.NumGoroutine") = false ∧ fn.body = some c := ⟨_, _, Tryz.func114, by kernel_rfl, rfl⟩
theorem c106  : Ctr Tryz.prog 114 [] [] (f106) (fun _ _ => []) (fun q => (tL tS).va q) := by
  refine Ctr.of_W Tryz.func114 rfl Tryz.ntmps114 rfl fun A w => ?_
  unfold f106
  refine .seq <| .region <| .assignNil tS rfl <| .nil ?_
  refine .seq <| .region <| .litN (T := tS) Tryz.underlying94 el9 rfl rfl (.cons rfl <| .cons rfl <| .cons rfl <| .cons rfl <| .cons rfl <| .cons rfl <| .nil) rfl <| .assign rfl rfl <| .nil ?_
  exact .ret1 Tryz.func114 Tryz.results114 (.tmp rfl) rfl (fun _ _ => .slnil)
def f96 (fu : Nat) (a0 : Rd) (a1 : List (List UInt8)) : Option ((List UInt8) × Rd) := (f74 fu a0 (List.length a1 : Int)).bind fun q1 => cond (decide (0 ≤ q1.1) && decide (q1.1 < (List.length a1 : Int))) (some (a1.getD q1.1.toNat default, q1.2)) none
theorem n96 : ∃ fn c, Tryz.prog.funcs[67]? = some fn ∧ (fn.name == "runtime.NumGoroutine") = false ∧ fn.body = some c := ⟨_, _, Tryz.func67, by kernel_rfl, rfl⟩
theorem c96 (fu : Nat) (bp0 : Nat) (a0 : Rd) (a1 : List (List UInt8)) : Ctr Tryz.prog 67 [isP bp0 0, (tL tS).va a1] [boxO bp0 tRd a0 []] (f96 fu a0 a1) (fun q _ => [boxO bp0 tRd q.2 []]) (fun q => isS q.1) := by
  refine Ctr.of_W Tryz.func67 rfl Tryz.ntmps67 rfl fun A w => ?_
  unfold f96
  refine .seq <| .region <| .assign rfl rfl <| .nil ?_
  refine .seq <| .region <| .move rfl rfl <| .move rfl rfl <| .move rfl rfl <| .lenL rfl Tryz.underlying94 rfl <| .call1 0 (c74 fu _ _ _) rfl n74 rfl rfl fun q1 => .elemAt rfl rfl Tryz.underlying94 ty9 rfl <| .load rfl ty9 rfl <| .assign rfl rfl <| .nil ?_
  exact .ret1 Tryz.func67 Tryz.results67 (.tmp rfl) rfl (fun _ _ => .cons_cons _ <| .slnil)
def f73 (fu : Nat) (a0 : Rd) (a1 : List Int) : Option (Int × Rd) := (f74 fu a0 (List.length a1 : Int)).bind fun q1 => cond (decide (0 ≤ q1.1) && decide (q1.1 < (List.length a1 : Int))) (some (a1.getD q1.1.toNat default, q1.2)) none
theorem n73 : ∃ fn c, Tryz.prog.funcs[30]? = some fn ∧ (fn.name == "runtime.NumGoroutine") = false ∧ fn.body = some c := ⟨_, _, Tryz.func30, by kernel_rfl, rfl⟩
theorem c73 (fu : Nat) (bp0 : Nat) (a0 : Rd) (a1 : List Int) : Ctr Tryz.prog 30 [isP bp0 0, (tL (tI .i64)).va a1] [boxO bp0 tRd a0 []] (f73 fu a0 a1) (fun q _ => [boxO bp0 tRd q.2 []]) (fun q => isI .i64 q.1) := by
  refine Ctr.of_W Tryz.func30 rfl Tryz.ntmps30 rfl fun A w => ?_
  unfold f73
  refine .seq <| .region <| .assign rfl rfl <| .nil ?_
  refine .seq <| .region <| .move rfl rfl <| .move rfl rfl <| .move rfl rfl <| .lenL rfl Tryz.underlying63 rfl <| .call1 0 (c74 fu _ _ _) rfl n74 rfl rfl fun q1 => .elemAt rfl rfl Tryz.underlying63 ty3 rfl <| .load rfl ty3 rfl <| .assign rfl rfl <| .nil ?_
  exact .ret1 Tryz.func30 Tryz.results30 (.tmp rfl) rfl (fun _ _ => .cons_cons _ <| .slnil)
def f95_j1 (fu : Nat) (a1 : Int) (i2 : Bool) (i3 : Rd) : Option (Val × Rd) := cond i2 (some ((⟨d0_47.kind, d0_47.n, d0_47.text⟩ : Val), i3)) (cond (decide (a1 = 1)) ((f73 fu i3 ([0, 1, 2, 3, -1, 7, 999, -999] : List Int)).bind fun q4 => some ((⟨a1, q4.1, d0_47.text⟩ : Val), q4.2)) ((f96 fu i3 ([([] : List UInt8), ([97] : List UInt8), ([98] : List UInt8), ([97, 98] : List UInt8), ([49, 50] : List UInt8), ([45, 53] : List UInt8), ([48, 48, 55] : List UInt8), ([122, 122, 122, 122] : List UInt8), ([51] : List UInt8)] : List (List UInt8))).bind fun q5 => some ((⟨a1, d0_47.n, q5.1⟩ : Val), q5.2)))
def f95 (fu : Nat) (a0 : Rd) (a1 : Int) : Option (Val × Rd) := (f74 fu a0 6).bind fun q6 => cond (decide (q6.1 = 0)) (f95_j1 fu a1 true q6.2) (f95_j1 fu a1 (decide (a1 = 0)) q6.2)
theorem n95 : ∃ fn c, Tryz.prog.funcs[66]? = some fn ∧ (fn.name == "runtime.NumGoroutine") = false ∧ fn.body = some c := ⟨_, _, Tryz.func66, by kernel_rfl, rfl⟩
theorem c95 (fu : Nat) (bp0 : Nat) (a0 : Rd) (a1 : Int) : Ctr Tryz.prog 66 [isP bp0 0, isI .i64 a1] [boxO bp0 tRd a0 []] (f95 fu a0 a1) (fun q _ => [boxO bp0 tRd q.2 []]) (fun q => tVal.va q.1) := by
  refine Ctr.of_W Tryz.func66 rfl Tryz.ntmps66 rfl fun A w => ?_
  unfold f95
  refine .seq <| .region <| .alloc tVal d0_47 [] z47 rfl fun b1 => .nil ?_
  refine .seq <| .seq <| .join2 (fun i2 i3 => ⟨[(0, isP bp0 0, none), (1, isI .i64 a1, none), (4, isP b1 0, none), (11, isB i2, none)], [boxO b1 tVal d0_47 [], boxO bp0 tRd i3 []]⟩) (fun i2 i3 => f95_j1 fu a1 i2 i3) (fun i2 i3 => ?_) (fun hj1 => ?_)
  · refine .cond rfl (fun _ => ?_) (fun _ => ?_)
    · refine .seq <| .region <| .build rfl st47 z47 (.nil) rfl <| .storeP 0 (Fld.self _) rfl rfl rfl ty47 <| .nil ?_
      exact .ret1 Tryz.func66 Tryz.results66 (.cell 0 rfl rfl ty47) rfl (fun _ _ => .cons _ <| .cons_cons _ <| .slnil)
    · refine .skip <| .seq <| .seq <| .region <| .move rfl rfl <| .bin rfl rfl rfl rfl <| .nil ?_
      refine .cond rfl (fun _ => ?_) (fun _ => ?_)
      · refine .seq <| .region <| .move rfl rfl <| .move rfl rfl <| .litN (T := (tI .i64)) Tryz.underlying63 el3 rfl rfl (.cons rfl <| .cons rfl <| .cons rfl <| .cons rfl <| .cons rfl <| .cons rfl <| .cons rfl <| .cons rfl <| .nil) rfl <| .call1 1 (c73 fu _ _ _) rfl n73 rfl rfl fun q4 => .build rfl st47 z47 (.cons fVal_0 rfl rfl <| .cons fVal_1 rfl rfl <| .nil) rfl <| .storeP 0 (Fld.self _) rfl rfl rfl ty47 <| .nil ?_
        exact .ret1 Tryz.func66 Tryz.results66 (.cell 0 rfl rfl ty47) rfl (fun _ _ => .cons _ <| .cons_cons _ <| .slnil)
      · refine .skip <| .seq <| .region <| .move rfl rfl <| .move rfl rfl <| .litN (T := tS) Tryz.underlying94 el9 rfl rfl (.cons rfl <| .cons rfl <| .cons rfl <| .cons rfl <| .cons rfl <| .cons rfl <| .cons rfl <| .cons rfl <| .cons rfl <| .nil) rfl <| .call1 1 (c96 fu _ _ _) rfl n96 rfl rfl fun q5 => .build rfl st47 z47 (.cons fVal_0 rfl rfl <| .cons fVal_2 rfl rfl <| .nil) rfl <| .storeP 0 (Fld.self _) rfl rfl rfl ty47 <| .nil ?_
        exact .ret1 Tryz.func66 Tryz.results66 (.cell 0 rfl rfl ty47) rfl (fun _ _ => .cons _ <| .cons_cons _ <| .slnil)
  · refine .region <| .move rfl rfl <| .call1 1 (c74 fu _ _ _) rfl n74 rfl rfl fun q6 => .bin rfl rfl rfl rfl <| .move rfl rfl <| .split 8 rfl (fun _ => ?_) (fun _ => ?_)
    · refine .off rfl rfl rfl <| .off rfl rfl rfl <| .pickT rfl rfl rfl <| .nil ?_
      exact .keep [0, 1, 4, 11] [] rfl (hj1 _ _)
    · refine .on rfl rfl <| .move rfl rfl <| .on rfl rfl <| .bin rfl rfl rfl rfl <| .pickF rfl rfl rfl <| .nil ?_
      exact .keep [0, 1, 4, 11] [] rfl (hj1 _ _)
def f107 (fu : Nat) (a0 : Rd) (a1 : List UInt8) : Option (Col × Rd) := (f74 fu a0 2).bind fun q2 => (f74 fu q2.2 4).bind fun q3 => (f74 fu q3.2 4).bind fun q5 => cond (decide (q5.1 = 0)) (some (({ (⟨a1, IntKind.i64.wrap (1 + q2.1), decide (q3.1 = 0), d0_52.once, d0_52.def_⟩ : Col) with once := true } : Col), q5.2)) ((f95 fu q5.2 ((⟨a1, IntKind.i64.wrap (1 + q2.1), decide (q3.1 = 0), d0_52.once, d0_52.def_⟩ : Col).kind)).bind fun q6 => some (({ (⟨a1, IntKind.i64.wrap (1 + q2.1), decide (q3.1 = 0), d0_52.once, d0_52.def_⟩ : Col) with def_ := q6.1 } : Col), q6.2))
theorem n107 : ∃ fn c, Tryz.prog.funcs[113]? = some fn ∧ (fn.name == "runtime.NumGoroutine") = false ∧ fn.body = some c := ⟨_, _, Tryz.func113, by kernel_rfl, rfl⟩
theorem c107 (fu : Nat) (bp0 : Nat) (a0 : Rd) (a1 : List UInt8) : Ctr Tryz.prog 113 [isP bp0 0, isS a1] [boxO bp0 tRd a0 []] (f107 fu a0 a1) (fun q _ => [boxO bp0 tRd q.2 []]) (fun q => tCol.va q.1) := by
  refine Ctr.of_W Tryz.func113 rfl Tryz.ntmps113 rfl fun A w => ?_
  unfold f107
  refine .seq <| .region <| .alloc tCol d0_52 [] z52 rfl fun b1 => .nil ?_
  refine .seq <| .region <| .move rfl rfl <| .move rfl rfl <| .call1 1 (c74 fu _ _ _) rfl n74 rfl rfl fun q2 => .bin rfl rfl rfl rfl <| .move rfl rfl <| .call1 1 (c74 fu _ _ _) rfl n74 rfl rfl fun q3 => .bin rfl rfl rfl rfl <| .build rfl st52 z52 (.cons fCol_0 rfl rfl <| .cons fCol_1 rfl rfl <| .cons fCol_2 rfl rfl <| .nil) rfl <| .alloc tCol d0_52 [] z52 rfl fun b4 => .storeP 0 (Fld.self _) rfl rfl rfl ty52 <| .nil ?_
  refine .seq <| .seq <| .region <| .move rfl rfl <| .call1 2 (c74 fu _ _ _) rfl n74 rfl rfl fun q5 => .bin rfl rfl rfl rfl <| .nil ?_
  refine .cond rfl (fun _ => ?_) (fun _ => ?_)
  · refine .seq <| .region <| .fieldP rfl fa52_3 rfl <| .storeP 0 fCol_3 rfl rfl rfl ty4 <| .nil ?_
    refine .seq <| .region <| .loadP 0 (Fld.self _) rfl rfl ty52 rfl <| .storeP 1 (Fld.self _) rfl rfl rfl ty52 <| .nil ?_
    exact .ret1 Tryz.func113 Tryz.results113 (.cell 1 rfl rfl ty52) rfl (fun _ _ => .cons _ <| .cons _ <| .cons_cons _ <| .slnil)
  · refine .skip <| .seq <| .region <| .move rfl rfl <| .fieldP rfl fa52_1 rfl <| .loadP 0 fCol_1 rfl rfl ty3 rfl <| .call1 2 (c95 fu _ _ _) rfl n95 rfl rfl fun q6 => .fieldP rfl fa52_4 rfl <| .storeP 0 fCol_4 rfl rfl rfl ty47 <| .nil ?_
    refine .seq <| .region <| .loadP 0 (Fld.self _) rfl rfl ty52 rfl <| .storeP 1 (Fld.self _) rfl rfl rfl ty52 <| .nil ?_
    exact .ret1 Tryz.func113 Tryz.results113 (.cell 1 rfl rfl ty52) rfl (fun _ _ => .cons _ <| .cons _ <| .cons_cons _ <| .slnil)
def f108_l1 (a0 : List Col) (a1 : List UInt8) : Nat → Int → Option Int
  | 0, _ => none
  | n1 + 1, i1 => cond (decide (i1 < (List.length a0 : Int))) (cond (decide (0 ≤ i1) && decide (i1 < (List.length a0 : Int))) (cond (decide (((a0.getD i1.toNat default).name) = a1)) (some i1) ((f108_l1 a0 a1 n1) (IntKind.i64.wrap (i1 + 1)))) none) (some (-1))
def f108 (fu : Nat) (a0 : List Col) (a1 : List UInt8) : Option Int := f108_l1 a0 a1 fu 0
theorem n108 : ∃ fn c, Tryz.prog.funcs[101]? = some fn ∧ (fn.name == "runtime.NumGoroutine") = false ∧ fn.body = some c := ⟨_, _, Tryz.func101, by kernel_rfl, rfl⟩
theorem c108 (fu : Nat) (a0 : List Col) (a1 : List UInt8) : Ctr Tryz.prog 101 [(tL tCol).va a0, isS a1] [] (f108 fu a0 a1) (fun _ _ => []) (fun q => isI .i64 q) := by
  refine Ctr.of_W Tryz.func101 rfl Tryz.ntmps101 rfl fun A w => ?_
  unfold f108
  refine .seq <| .region <| .assign rfl rfl <| .nil ?_
  refine .seq <| .seq <| .region <| .assign rfl rfl <| .nil ?_
  refine .block <| .loop <| .keep [0, 1, 5] [] rfl ?_
  refine (show ∀ (n1 : Nat) (i1 : Int), W _ _ _ _ _ ⟨[(0, (tL tCol).va a0, none), (1, isS a1, none), (5, isI .i64 i1, none)], []⟩ (f108_l1 a0 a1 n1 i1) from ?_) fu _
  intro n1
  induction n1 with
  | zero => exact fun _ => .stop
  | succ n1 ih1 =>
    intro i1
    refine .inLoop <| .seq <| .seq <| .region <| .move rfl rfl <| .move rfl rfl <| .lenL rfl Tryz.underlying23 rfl <| .bin rfl rfl rfl rfl <| .nil ?_
    refine .cond rfl (fun _ => ?_) (fun _ => ?_)
    · refine .skip <| .seq <| .block <| .seq <| .region <| .move rfl rfl <| .move rfl rfl <| .elemAt rfl rfl Tryz.underlying23 ty52 rfl <| .fieldAt fCol_0 rfl fa52_0 rfl <| .load rfl ty9 rfl <| .move rfl rfl <| .seq rfl rfl rfl <| .nil ?_
      refine .cond rfl (fun _ => ?_) (fun _ => ?_)
      · refine .seq <| .region <| .move rfl rfl <| .assign rfl rfl <| .nil ?_
        exact .ret1 Tryz.func101 Tryz.results101 (.tmp rfl) rfl (fun _ _ => .slnil)
      · refine .skip <| .inBlock <| .region <| .move rfl rfl <| .bin rfl rfl rfl rfl <| .assign rfl rfl <| .nil ?_
        exact .keep [0, 1, 5] [] rfl (ih1 _)
    · refine .exit rfl <| .seq <| .region <| .assign rfl rfl <| .nil ?_
      exact .ret1 Tryz.func101 Tryz.results101 (.tmp rfl) rfl (fun _ _ => .slnil)
def f125_j2 (i3 : Int) (q9 : Col × Rd) (rec1 : Int → (List Col) → Rd → Option ((List Col) × Rd)) (i12 : List Col) : Option ((List Col) × Rd) := rec1 (IntKind.i64.wrap (i3 - 1)) i12 q9.2
def f125_l1 (fu : Nat) : Nat → Int → (List Col) → Rd → Option ((List Col) × Rd)
  | 0, _, _, _ => none
  | n1 + 1, i3, i4, i6 => cond (decide (0 < i3)) ((f106).bind fun q7 => (f96 fu i6 q7).bind fun q8 => (f107 fu q8.2 q8.1).bind fun q9 => (f108 fu i4 q9.1.name).bind fun q11 => cond (decide (q11 < 0)) (cond (decide (List.length i4 + List.length ([q9.1] : List Col) ≤ CAP)) (f125_j2 i3 q9 (f125_l1 fu n1) (i4 ++ ([q9.1] : List Col))) none) (f125_j2 i3 q9 (f125_l1 fu n1) i4)) (some (i4, i6))
def f125 (fu : Nat) (a0 : Rd) : Option ((List Col) × Rd) := (f74 fu a0 4).bind fun q2 => f125_l1 fu fu (IntKind.i64.wrap (1 + q2.1)) ([] : List Col) q2.2
theorem n125 : ∃ fn c, Tryz.prog.funcs[96]? = some fn ∧ (fn.name == "runtime.NumGoroutine") = false ∧ fn.body = some c := ⟨_, _, Tryz.func96, by kernel_rfl, rfl⟩
theorem c125 (fu : Nat) (bp0 : Nat) (a0 : Rd) : Ctr Tryz.prog 96 [isP bp0 0] [boxO bp0 tRd a0 []] (f125 fu a0) (fun q _ => [boxO bp0 tRd q.2 []]) (fun q => (tL tCol).va q.1) := by
  refine Ctr.of_W Tryz.func96 rfl Tryz.ntmps96 rfl fun A w => ?_
  unfold f125
  refine .seq <| .region <| .assignNil tCol rfl <| .nil ?_
  refine .seq <| .region <| .lit (T := tCol) Tryz.underlying23 el52 rfl rfl (.nil) rfl fun v1 => .assign rfl rfl <| .nil ?_
  refine .seq <| .seq <| .region <| .move rfl rfl <| .call1 1 (c74 fu _ _ _) rfl n74 rfl rfl fun q2 => .bin rfl rfl rfl rfl <| .assign rfl rfl <| .nil ?_
  refine .block <| .loop <| .keep [0, 4] [3] rfl ?_
  refine (show ∀ (n1 : Nat) (i3 : Int) (i4 : List Col) (v5 : Value) (i6 : Rd), W _ _ _ _ _ ⟨[(0, isP bp0 0, none), (4, isI .i64 i3, none), (3, (tL tCol).va i4, some v5)], [appO 7 v5, boxO bp0 tRd i6 []]⟩ (f125_l1 fu n1 i3 i4 i6) from ?_) fu _ _ _ _
  intro n1
  induction n1 with
  | zero => exact fun _ _ _ _ => .stop
  | succ n1 ih1 =>
    intro i3 i4 v5 i6
    refine .inLoop <| .seq <| .seq <| .region <| .move rfl rfl <| .bin rfl rfl rfl rfl <| .nil ?_
    refine .cond rfl (fun _ => ?_) (fun _ => ?_)
    · refine .skip <| .seq <| .block <| .seq <| .region <| .move rfl rfl <| .move rfl rfl <| .call0 (c106) n106 rfl rfl fun q7 => .call1 1 (c96 fu _ _ _) rfl n96 rfl rfl fun q8 => .call1 1 (c107 fu _ _ _) rfl n107 rfl rfl fun q9 => .alloc tCol d0_52 [] z52 rfl fun b10 => .storeP 0 (Fld.self _) rfl rfl rfl ty52 <| .nil ?_
      refine .seq <| .region <| .move rfl rfl <| .fieldP rfl fa52_0 rfl <| .loadP 0 fCol_0 rfl rfl ty9 rfl <| .call0 (c108 fu _ _) n108 rfl rfl fun q11 => .bin rfl rfl rfl rfl <| .nil ?_
      refine .join2 (fun i12 v13 => ⟨[(0, isP bp0 0, none), (4, isI .i64 i3, none), (3, (tL tCol).va i12, some v13)], [appO 7 v13, boxO bp0 tRd q9.2 []]⟩) (fun i12 v13 => f125_j2 i3 q9 (f125_l1 fu n1) i12) (fun i12 v13 => ?_) (fun hj2 => ?_)
      · refine .inBlock <| .region <| .move rfl rfl <| .bin rfl rfl rfl rfl <| .assign rfl rfl <| .nil ?_
        exact .keep [0, 4] [3] rfl (ih1 _ _ _ _)
      · refine .cond rfl (fun _ => ?_) (fun _ => ?_)
        · refine .region <| .move rfl rfl <| .loadP 0 (Fld.self _) rfl rfl ty52 rfl <| .litN (T := tCol) Tryz.underlying23 el52 rfl rfl (.cons rfl <| .nil) rfl <| .app (T := tCol) 1 rfl rfl rfl Tryz.underlying23 el52 rfl fun v14 => .assign rfl rfl <| .nil ?_
          exact .keep [0, 4] [3] rfl (.drop (.cons _ <| .cons_cons _ <| .cons_cons _ <| .slnil) <| hj2 _ _)
        · exact .skip <| .keep [0, 4] [3] rfl (.drop (.cons _ <| .cons_cons _ <| .cons_cons _ <| .slnil) <| hj2 _ _)
    · refine .exit rfl <| .seq <| .region <| .move rfl rfl <| .assign rfl rfl <| .nil ?_
      exact .ret1 Tryz.func96 Tryz.results96 (.tmp rfl) rfl (fun _ _ => .cons _ <| .cons_cons _ <| .slnil)
def f135_j3 (i1 : Int) (rec1 : Int → Option Bool) (i2 : Bool) : Option Bool := cond i2 (some false) (rec1 (IntKind.i64.wrap (i1 + 1)))
def f135_j4 (rec1 : Int → Option Bool) (i3 : Bool) : Option Bool := some i3
def f135_l1 (a0 : List UInt8) : Nat → Int → Option Bool
  | 0, _ => none
  | n1 + 1, i1 => cond (decide (i1 < (List.length a0 : Int))) (cond (decide (0 ≤ i1) && decide (i1 < (List.length a0 : Int))) (cond (decide ((((a0.getD i1.toNat 0).toNat : Nat) : Int) < 97)) (f135_j3 i1 (f135_l1 a0 n1) true) (cond (decide (0 ≤ i1) && decide (i1 < (List.length a0 : Int))) (f135_j3 i1 (f135_l1 a0 n1) (decide (122 < (((a0.getD i1.toNat 0).toNat : Nat) : Int)))) none)) none) (cond (decide (1 ≤ (List.length a0 : Int))) (f135_j4 (f135_l1 a0 n1) (decide ((List.length a0 : Int) ≤ 3))) (f135_j4 (f135_l1 a0 n1) false))
def f135 (fu : Nat) (a0 : List UInt8) : Option Bool := f135_l1 a0 fu 0
theorem n135 : ∃ fn c, Tryz.prog.funcs[128]? = some fn ∧ (fn.name == "runtime.NumGoroutine") = false ∧ fn.body = some c := ⟨_, _, Tryz.func128, by kernel_rfl, rfl⟩
theorem c135 (fu : Nat) (a0 : List UInt8) : Ctr Tryz.prog 128 [isS a0] [] (f135 fu a0) (fun _ _ => []) (fun q => isB q) := by
  refine Ctr.of_W Tryz.func128 rfl Tryz.ntmps128 rfl fun A w => ?_
  unfold f135
  refine .seq <| .region <| .assign rfl rfl <| .nil ?_
  refine .seq <| .seq <| .region <| .assign rfl rfl <| .nil ?_
  refine .block <| .loop <| .keep [0, 3] [] rfl ?_
  refine (show ∀ (n1 : Nat) (i1 : Int), W _ _ _ _ _ ⟨[(0, isS a0, none), (3, isI .i64 i1, none)], []⟩ (f135_l1 a0 n1 i1) from ?_) fu _
  intro n1
  induction n1 with
  | zero => exact fun _ => .stop
  | succ n1 ih1 =>
    intro i1
    refine .inLoop <| .seq <| .seq <| .region <| .move rfl rfl <| .move rfl rfl <| .lenS rfl Tryz.underlying9 rfl <| .bin rfl rfl rfl rfl <| .nil ?_
    refine .cond rfl (fun _ => ?_) (fun _ => ?_)
    · refine .skip <| .seq <| .block <| .seq <| .join1 (fun i2 => ⟨[(0, isS a0, none), (3, isI .i64 i1, none), (19, isB i2, none)], []⟩) (fun i2 => f135_j3 i1 (f135_l1 a0 n1) i2) (fun i2 => ?_) (fun hj3 => ?_)
      · refine .cond rfl (fun _ => ?_) (fun _ => ?_)
        · refine .seq <| .region <| .assign rfl rfl <| .nil ?_
          exact .ret1 Tryz.func128 Tryz.results128 (.tmp rfl) rfl (fun _ _ => .slnil)
        · refine .skip <| .inBlock <| .region <| .move rfl rfl <| .bin rfl rfl rfl rfl <| .assign rfl rfl <| .nil ?_
          exact .keep [0, 3] [] rfl (ih1 _)
      · refine .region <| .move rfl rfl <| .move rfl rfl <| .idxS rfl rfl Tryz.underlying9 rfl <| .bin rfl rfl rfl rfl <| .move rfl rfl <| .split 14 rfl (fun _ => ?_) (fun _ => ?_)
        · refine .off rfl rfl rfl <| .off rfl rfl rfl <| .off rfl rfl rfl <| .off rfl rfl rfl <| .pickT rfl rfl rfl <| .nil ?_
          exact .keep [0, 3, 19] [] rfl (hj3 _)
        · refine .on rfl rfl <| .move rfl rfl <| .on rfl rfl <| .move rfl rfl <| .on rfl rfl <| .idxS rfl rfl Tryz.underlying9 rfl <| .on rfl rfl <| .bin rfl rfl rfl rfl <| .pickF rfl rfl rfl <| .nil ?_
          exact .keep [0, 3, 19] [] rfl (hj3 _)
    · refine .exit rfl <| .seq <| .join1 (fun i3 => ⟨[(2, isB i3, none)], []⟩) (fun i3 => f135_j4 (f135_l1 a0 n1) i3) (fun i3 => ?_) (fun hj4 => ?_)
      · exact .ret1 Tryz.func128 Tryz.results128 (.tmp rfl) rfl (fun _ _ => .slnil)
      · refine .region <| .move rfl rfl <| .lenS rfl Tryz.underlying9 rfl <| .bin rfl rfl rfl rfl <| .move rfl rfl <| .split 23 rfl (fun _ => ?_) (fun _ => ?_)
        · refine .on rfl rfl <| .move rfl rfl <| .on rfl rfl <| .lenS rfl Tryz.underlying9 rfl <| .on rfl rfl <| .bin rfl rfl rfl rfl <| .pickT rfl rfl rfl <| .assign rfl rfl <| .nil ?_
          exact .keep [2] [] rfl (hj4 _)
        · refine .off rfl rfl rfl <| .off rfl rfl rfl <| .off rfl rfl rfl <| .pickF rfl rfl rfl <| .assign rfl rfl <| .nil ?_
          exact .keep [2] [] rfl (hj4 _)
def f139_j1 (i1 : Bool) : Option Bool := some i1
def f139 (fu : Nat) (a0 : Int) : Option Bool := cond (decide ((-999) ≤ a0)) (f139_j1 (decide (a0 ≤ 999))) (f139_j1 false)
theorem n139 : ∃ fn c, Tryz.prog.funcs[123]? = some fn ∧ (fn.name == "runtime.NumGoroutine") = false ∧ fn.body = some c := ⟨_, _, Tryz.func123, by kernel_rfl, rfl⟩
theorem c139 (fu : Nat) (a0 : Int) : Ctr Tryz.prog 123 [isI .i64 a0] [] (f139 fu a0) (fun _ _ => []) (fun q => isB q) := by
  refine Ctr.of_W Tryz.func123 rfl Tryz.ntmps123 rfl fun A w => ?_
  unfold f139
  refine .seq <| .region <| .assign rfl rfl <| .nil ?_
  refine .seq <| .join1 (fun i1 => ⟨[(2, isB i1, none)], []⟩) (fun i1 => f139_j1 i1) (fun i1 => ?_) (fun hj1 => ?_)
  · exact .ret1 Tryz.func123 Tryz.results123 (.tmp rfl) rfl (fun _ _ => .slnil)
  · refine .region <| .move rfl rfl <| .bin rfl rfl rfl rfl <| .move rfl rfl <| .split 5 rfl (fun _ => ?_) (fun _ => ?_)
    · refine .on rfl rfl <| .move rfl rfl <| .on rfl rfl <| .bin rfl rfl rfl rfl <| .pickT rfl rfl rfl <| .assign rfl rfl <| .nil ?_
      exact .keep [2] [] rfl (hj1 _)
    · refine .off rfl rfl rfl <| .off rfl rfl rfl <| .pickF rfl rfl rfl <| .assign rfl rfl <| .nil ?_
      exact .keep [2] [] rfl (hj1 _)
def f140_j2 (i1 : Int) (rec1 : Int → Option Bool) (i2 : Bool) : Option Bool := cond i2 (some false) (rec1 (IntKind.i64.wrap (i1 + 1)))
def f140_l1 (a0 : List UInt8) : Nat → Int → Option Bool
  | 0, _ => none
  | n1 + 1, i1 => cond (decide (i1 < (List.length a0 : Int))) (cond (decide (0 ≤ i1) && decide (i1 < (List.length a0 : Int))) (cond (decide ((((a0.getD i1.toNat 0).toNat : Nat) : Int) < 97)) (cond (decide (0 ≤ i1) && decide (i1 < (List.length a0 : Int))) (cond (decide ((((a0.getD i1.toNat 0).toNat : Nat) : Int) < 48)) (cond (decide (0 ≤ i1) && decide (i1 < (List.length a0 : Int))) (f140_j2 i1 (f140_l1 a0 n1) (!decide ((((a0.getD i1.toNat 0).toNat : Nat) : Int) = 45))) none) (cond (decide (0 ≤ i1) && decide (i1 < (List.length a0 : Int))) (cond (decide (57 < (((a0.getD i1.toNat 0).toNat : Nat) : Int))) (cond (decide (0 ≤ i1) && decide (i1 < (List.length a0 : Int))) (f140_j2 i1 (f140_l1 a0 n1) (!decide ((((a0.getD i1.toNat 0).toNat : Nat) : Int) = 45))) none) (f140_j2 i1 (f140_l1 a0 n1) false)) none)) none) (cond (decide (0 ≤ i1) && decide (i1 < (List.length a0 : Int))) (cond (decide (122 < (((a0.getD i1.toNat 0).toNat : Nat) : Int))) (cond (decide (0 ≤ i1) && decide (i1 < (List.length a0 : Int))) (cond (decide ((((a0.getD i1.toNat 0).toNat : Nat) : Int) < 48)) (cond (decide (0 ≤ i1) && decide (i1 < (List.length a0 : Int))) (f140_j2 i1 (f140_l1 a0 n1) (!decide ((((a0.getD i1.toNat 0).toNat : Nat) : Int) = 45))) none) (cond (decide (0 ≤ i1) && decide (i1 < (List.length a0 : Int))) (cond (decide (57 < (((a0.getD i1.toNat 0).toNat : Nat) : Int))) (cond (decide (0 ≤ i1) && decide (i1 < (List.length a0 : Int))) (f140_j2 i1 (f140_l1 a0 n1) (!decide ((((a0.getD i1.toNat 0).toNat : Nat) : Int) = 45))) none) (f140_j2 i1 (f140_l1 a0 n1) false)) none)) none) (f140_j2 i1 (f140_l1 a0 n1) false)) none)) none) (some (decide ((List.length a0 : Int) ≤ 4)))
def f140 (fu : Nat) (a0 : List UInt8) : Option Bool := f140_l1 a0 fu 0
theorem n140 : ∃ fn c, Tryz.prog.funcs[124]? = some fn ∧ (fn.name == "runtime.NumGoroutine") = false ∧ fn.body = some c := ⟨_, _, Tryz.func124, by kernel_rfl, rfl⟩
theorem c140 (fu : Nat) (a0 : List UInt8) : Ctr Tryz.prog 124 [isS a0] [] (f140 fu a0) (fun _ _ => []) (fun q => isB q) := by
  refine Ctr.of_W Tryz.func124 rfl Tryz.ntmps124 rfl fun A w => ?_
  unfold f140
  refine .seq <| .region <| .assign rfl rfl <| .nil ?_
  refine .seq <| .seq <| .region <| .assign rfl rfl <| .nil ?_
  refine .block <| .loop <| .keep [0, 3] [] rfl ?_
  refine (show ∀ (n1 : Nat) (i1 : Int), W _ _ _ _ _ ⟨[(0, isS a0, none), (3, isI .i64 i1, none)], []⟩ (f140_l1 a0 n1 i1) from ?_) fu _
  intro n1
  induction n1 with
  | zero => exact fun _ => .stop
  | succ n1 ih1 =>
    intro i1
    refine .inLoop <| .seq <| .seq <| .region <| .move rfl rfl <| .move rfl rfl <| .lenS rfl Tryz.underlying9 rfl <| .bin rfl rfl rfl rfl <| .nil ?_
    refine .cond rfl (fun _ => ?_) (fun _ => ?_)
    · refine .skip <| .seq <| .block <| .seq <| .join1 (fun i2 => ⟨[(0, isS a0, none), (3, isI .i64 i1, none), (37, isB i2, none)], []⟩) (fun i2 => f140_j2 i1 (f140_l1 a0 n1) i2) (fun i2 => ?_) (fun hj2 => ?_)
      · refine .cond rfl (fun _ => ?_) (fun _ => ?_)
        · refine .seq <| .region <| .assign rfl rfl <| .nil ?_
          exact .ret1 Tryz.func124 Tryz.results124 (.tmp rfl) rfl (fun _ _ => .slnil)
        · refine .skip <| .inBlock <| .region <| .move rfl rfl <| .bin rfl rfl rfl rfl <| .assign rfl rfl <| .nil ?_
          exact .keep [0, 3] [] rfl (ih1 _)
      · refine .region <| .move rfl rfl <| .move rfl rfl <| .idxS rfl rfl Tryz.underlying9 rfl <| .bin rfl rfl rfl rfl <| .move rfl rfl <| .split 14 rfl (fun _ => ?_) (fun _ => ?_)
        · refine .off rfl rfl rfl <| .off rfl rfl rfl <| .off rfl rfl rfl <| .off rfl rfl rfl <| .pickT rfl rfl rfl <| .move rfl rfl <| .on rfl rfl <| .move rfl rfl <| .on rfl rfl <| .move rfl rfl <| .on rfl rfl <| .idxS rfl rfl Tryz.underlying9 rfl <| .on rfl rfl <| .bin rfl rfl rfl rfl <| .on rfl rfl <| .move rfl rfl <| .split 25 rfl (fun _ => ?_) (fun _ => ?_)
          · refine .off rfl rfl rfl <| .off rfl rfl rfl <| .off rfl rfl rfl <| .off rfl rfl rfl <| .on rfl rfl <| .pickT rfl rfl rfl <| .pickT rfl rfl rfl <| .move rfl rfl <| .on rfl rfl <| .move rfl rfl <| .on rfl rfl <| .move rfl rfl <| .on rfl rfl <| .idxS rfl rfl Tryz.underlying9 rfl <| .on rfl rfl <| .bin rfl rfl rfl rfl <| .pickT rfl rfl rfl <| .nil ?_
            exact .keep [0, 3, 37] [] rfl (hj2 _)
          · refine .on rfl rfl <| .move rfl rfl <| .on rfl rfl <| .move rfl rfl <| .on rfl rfl <| .idxS rfl rfl Tryz.underlying9 rfl <| .on rfl rfl <| .bin rfl rfl rfl rfl <| .on rfl rfl <| .pickF rfl rfl rfl <| .pickT rfl rfl rfl <| .move rfl rfl <| .split 32 rfl (fun _ => ?_) (fun _ => ?_)
            · refine .on rfl rfl <| .move rfl rfl <| .on rfl rfl <| .move rfl rfl <| .on rfl rfl <| .idxS rfl rfl Tryz.underlying9 rfl <| .on rfl rfl <| .bin rfl rfl rfl rfl <| .pickT rfl rfl rfl <| .nil ?_
              exact .keep [0, 3, 37] [] rfl (hj2 _)
            · refine .off rfl rfl rfl <| .off rfl rfl rfl <| .off rfl rfl rfl <| .off rfl rfl rfl <| .pickF rfl rfl rfl <| .nil ?_
              exact .keep [0, 3, 37] [] rfl (hj2 _)
        · refine .on rfl rfl <| .move rfl rfl <| .on rfl rfl <| .move rfl rfl <| .on rfl rfl <| .idxS rfl rfl Tryz.underlying9 rfl <| .on rfl rfl <| .bin rfl rfl rfl rfl <| .pickF rfl rfl rfl <| .move rfl rfl <| .split 20 rfl (fun _ => ?_) (fun _ => ?_)
          · refine .on rfl rfl <| .move rfl rfl <| .on rfl rfl <| .move rfl rfl <| .on rfl rfl <| .idxS rfl rfl Tryz.underlying9 rfl <| .on rfl rfl <| .bin rfl rfl rfl rfl <| .on rfl rfl <| .move rfl rfl <| .split 25 rfl (fun _ => ?_) (fun _ => ?_)
            · refine .off rfl rfl rfl <| .off rfl rfl rfl <| .off rfl rfl rfl <| .off rfl rfl rfl <| .on rfl rfl <| .pickT rfl rfl rfl <| .pickT rfl rfl rfl <| .move rfl rfl <| .on rfl rfl <| .move rfl rfl <| .on rfl rfl <| .move rfl rfl <| .on rfl rfl <| .idxS rfl rfl Tryz.underlying9 rfl <| .on rfl rfl <| .bin rfl rfl rfl rfl <| .pickT rfl rfl rfl <| .nil ?_
              exact .keep [0, 3, 37] [] rfl (hj2 _)
            · refine .on rfl rfl <| .move rfl rfl <| .on rfl rfl <| .move rfl rfl <| .on rfl rfl <| .idxS rfl rfl Tryz.underlying9 rfl <| .on rfl rfl <| .bin rfl rfl rfl rfl <| .on rfl rfl <| .pickF rfl rfl rfl <| .pickT rfl rfl rfl <| .move rfl rfl <| .split 32 rfl (fun _ => ?_) (fun _ => ?_)
              · refine .on rfl rfl <| .move rfl rfl <| .on rfl rfl <| .move rfl rfl <| .on rfl rfl <| .idxS rfl rfl Tryz.underlying9 rfl <| .on rfl rfl <| .bin rfl rfl rfl rfl <| .pickT rfl rfl rfl <| .nil ?_
                exact .keep [0, 3, 37] [] rfl (hj2 _)
              · refine .off rfl rfl rfl <| .off rfl rfl rfl <| .off rfl rfl rfl <| .off rfl rfl rfl <| .pickF rfl rfl rfl <| .nil ?_
                exact .keep [0, 3, 37] [] rfl (hj2 _)
          · refine .off rfl rfl rfl <| .off rfl rfl rfl <| .off rfl rfl rfl <| .off rfl rfl rfl <| .off rfl rfl rfl <| .offU rfl rfl rfl <| .offU rfl rfl rfl <| .offU rfl rfl rfl <| .offU rfl rfl rfl <| .off rfl rfl rfl <| .pickF rfl rfl rfl <| .move rfl rfl <| .off rfl rfl rfl <| .off rfl rfl rfl <| .off rfl rfl rfl <| .off rfl rfl rfl <| .pickF rfl rfl rfl <| .nil ?_
            exact .keep [0, 3, 37] [] rfl (hj2 _)
    · refine .exit rfl <| .seq <| .region <| .move rfl rfl <| .lenS rfl Tryz.underlying9 rfl <| .bin rfl rfl rfl rfl <| .assign rfl rfl <| .nil ?_
      exact .ret1 Tryz.func124 Tryz.results124 (.tmp rfl) rfl (fun _ _ => .slnil)
def f119_j1 (i2 : Bool) : Option Bool := some i2
def f119_j2 (i4 : Bool) : Option Bool := some i4
def f119 (fu : Nat) (a0 : Val) : Option Bool := cond (decide (a0.kind = 0)) (some (decide (a0 = (⟨d0_47.kind, d0_47.n, d0_47.text⟩ : Val)))) (cond (decide (a0.kind = 1)) (cond (decide (a0.text = ([] : List UInt8))) ((f139 fu a0.n).bind fun q3 => f119_j1 q3) (f119_j1 false)) (cond (decide (a0.kind = 2)) (cond (decide (a0.n = 0)) ((f140 fu a0.text).bind fun q5 => f119_j2 q5) (f119_j2 false)) (some false)))
theorem n119 : ∃ fn c, Tryz.prog.funcs[102]? = some fn ∧ (fn.name == "runtime.NumGoroutine") = false ∧ fn.body = some c := ⟨_, _, Tryz.func102, by kernel_rfl, rfl⟩
theorem c119 (fu : Nat) (a0 : Val) : Ctr Tryz.prog 102 [tVal.va a0] [] (f119 fu a0) (fun _ _ => []) (fun q => isB q) := by
  refine Ctr.of_W Tryz.func102 rfl Tryz.ntmps102 rfl fun A w => ?_
  unfold f119
  refine .seq <| .region <| .box (T := tVal) rfl rfl fun b1 => .assign rfl rfl <| .nil ?_
  refine .seq <| .seq <| .region <| .fieldP rfl fa47_0 rfl <| .loadP 0 fVal_0 rfl rfl ty3 rfl <| .nil ?_
  refine .block <| .seq <| .region <| .bin rfl rfl rfl rfl <| .assign rfl rfl <| .nil ?_
  refine .cond rfl (fun _ => ?_) (fun _ => ?_)
  · refine .seq <| .region <| .loadP 0 (Fld.self _) rfl rfl ty47 rfl <| .build rfl st47 z47 (.nil) rfl <| .eqT eq47 rfl rfl rfl <| .assign rfl rfl <| .nil ?_
    exact .ret1 Tryz.func102 Tryz.results102 (.tmp rfl) rfl (fun _ _ => .cons _ <| .slnil)
  · refine .seq <| .region <| .bin rfl rfl rfl rfl <| .assign rfl rfl <| .nil ?_
    refine .cond rfl (fun _ => ?_) (fun _ => ?_)
    · refine .seq <| .join1 (fun i2 => ⟨[(2, isB i2, none)], []⟩) (fun i2 => f119_j1 i2) (fun i2 => ?_) (fun hj1 => ?_)
      · exact .ret1 Tryz.func102 Tryz.results102 (.tmp rfl) rfl (fun _ _ => .slnil)
      · refine .region <| .fieldP rfl fa47_2 rfl <| .loadP 0 fVal_2 rfl rfl ty9 rfl <| .seq rfl rfl rfl <| .move rfl rfl <| .split 15 rfl (fun _ => ?_) (fun _ => ?_)
        · refine .on rfl rfl <| .fieldP rfl fa47_1 rfl <| .on rfl rfl <| .loadP 0 fVal_1 rfl rfl ty3 rfl <| .on rfl rfl <| .call0 (c139 fu _) n139 rfl rfl fun q3 => .pickT rfl rfl rfl <| .assign rfl rfl <| .nil ?_
          exact .keep [2] [] rfl (.drop (.cons _ <| .slnil) <| hj1 _)
        · refine .off rfl rfl rfl <| .off rfl rfl rfl <| .off rfl rfl rfl <| .pickF rfl rfl rfl <| .assign rfl rfl <| .nil ?_
          exact .keep [2] [] rfl (.drop (.cons _ <| .slnil) <| hj1 _)
    · refine .seq <| .region <| .bin rfl rfl rfl rfl <| .assign rfl rfl <| .nil ?_
      refine .cond rfl (fun _ => ?_) (fun _ => ?_)
      · refine .seq <| .join1 (fun i4 => ⟨[(2, isB i4, none)], []⟩) (fun i4 => f119_j2 i4) (fun i4 => ?_) (fun hj2 => ?_)
        · exact .ret1 Tryz.func102 Tryz.results102 (.tmp rfl) rfl (fun _ _ => .slnil)
        · refine .region <| .fieldP rfl fa47_1 rfl <| .loadP 0 fVal_1 rfl rfl ty3 rfl <| .bin rfl rfl rfl rfl <| .move rfl rfl <| .split 25 rfl (fun _ => ?_) (fun _ => ?_)
          · refine .on rfl rfl <| .fieldP rfl fa47_2 rfl <| .on rfl rfl <| .loadP 0 fVal_2 rfl rfl ty9 rfl <| .on rfl rfl <| .call0 (c140 fu _) n140 rfl rfl fun q5 => .pickT rfl rfl rfl <| .assign rfl rfl <| .nil ?_
            exact .keep [2] [] rfl (.drop (.cons _ <| .slnil) <| hj2 _)
          · refine .off rfl rfl rfl <| .off rfl rfl rfl <| .off rfl rfl rfl <| .pickF rfl rfl rfl <| .assign rfl rfl <| .nil ?_
            exact .keep [2] [] rfl (.drop (.cons _ <| .slnil) <| hj2 _)
      · refine .skip <| .inBlock <| .seq <| .region <| .assign rfl rfl <| .nil ?_
        exact .ret1 Tryz.func102 Tryz.results102 (.tmp rfl) rfl (fun _ _ => .cons _ <| .slnil)
def f117_j1 (i2 : Bool) : Option Bool := some i2
def f117 (fu : Nat) (a0 : Col) : Option Bool := (f135 fu a0.name).bind fun q3 => cond q3 (cond (decide (a0.kind = 1)) ((f119 fu a0.def_).bind fun q4 => cond q4 (cond (decide (a0.def_.kind = 0)) (cond (!a0.once) (f117_j1 true) (f117_j1 (decide (a0.def_.kind = 0)))) (cond (decide (a0.def_.kind = a0.kind)) (cond (!a0.once) (f117_j1 true) (f117_j1 (decide (a0.def_.kind = 0)))) (f117_j1 false))) (f117_j1 false)) (cond (decide (a0.kind = 2)) ((f119 fu a0.def_).bind fun q5 => cond q5 (cond (decide (a0.def_.kind = 0)) (cond (!a0.once) (f117_j1 true) (f117_j1 (decide (a0.def_.kind = 0)))) (cond (decide (a0.def_.kind = a0.kind)) (cond (!a0.once) (f117_j1 true) (f117_j1 (decide (a0.def_.kind = 0)))) (f117_j1 false))) (f117_j1 false)) (f117_j1 false))) (f117_j1 false)
theorem n117 : ∃ fn c, Tryz.prog.funcs[107]? = some fn ∧ (fn.name == "runtime.NumGoroutine") = false ∧ fn.body = some c := ⟨_, _, Tryz.func107, by kernel_rfl, rfl⟩
theorem c117 (fu : Nat) (a0 : Col) : Ctr Tryz.prog 107 [tCol.va a0] [] (f117 fu a0) (fun _ _ => []) (fun q => isB q) := by
  refine Ctr.of_W Tryz.func107 rfl Tryz.ntmps107 rfl fun A w => ?_
  unfold f117
  refine .seq <| .region <| .box (T := tCol) rfl rfl fun b1 => .assign rfl rfl <| .nil ?_
  refine .seq <| .join1 (fun i2 => ⟨[(2, isB i2, none)], []⟩) (fun i2 => f117_j1 i2) (fun i2 => ?_) (fun hj1 => ?_)
  · exact .ret1 Tryz.func107 Tryz.results107 (.tmp rfl) rfl (fun _ _ => .slnil)
  · refine .region <| .fieldP rfl fa52_0 rfl <| .loadP 0 fCol_0 rfl rfl ty9 rfl <| .call0 (c135 fu _) n135 rfl rfl fun q3 => .move rfl rfl <| .split 6 rfl (fun _ => ?_) (fun _ => ?_)
    · refine .on rfl rfl <| .fieldP rfl fa52_1 rfl <| .on rfl rfl <| .loadP 0 fCol_1 rfl rfl ty3 rfl <| .on rfl rfl <| .bin rfl rfl rfl rfl <| .on rfl rfl <| .move rfl rfl <| .split 10 rfl (fun _ => ?_) (fun _ => ?_)
      · refine .off rfl rfl rfl <| .off rfl rfl rfl <| .off rfl rfl rfl <| .on rfl rfl <| .pickT rfl rfl rfl <| .pickT rfl rfl rfl <| .move rfl rfl <| .on rfl rfl <| .fieldP rfl fa52_4 rfl <| .on rfl rfl <| .loadP 0 fCol_4 rfl rfl ty47 rfl <| .on rfl rfl <| .call0 (c119 fu _) n119 rfl rfl fun q4 => .pickT rfl rfl rfl <| .move rfl rfl <| .split 21 rfl (fun _ => ?_) (fun _ => ?_)
        · refine .on rfl rfl <| .fieldP rfl fa52_4 rfl <| .on rfl rfl <| .fieldP rfl fa47_0 rfl <| .on rfl rfl <| .loadP 0 (fCol_4.comp fVal_0) rfl rfl ty3 rfl <| .on rfl rfl <| .bin rfl rfl rfl rfl <| .on rfl rfl <| .move rfl rfl <| .split 26 rfl (fun _ => ?_) (fun _ => ?_)
          · refine .off rfl rfl rfl <| .off rfl rfl rfl <| .off rfl rfl rfl <| .off rfl rfl rfl <| .off rfl rfl rfl <| .off rfl rfl rfl <| .on rfl rfl <| .pickT rfl rfl rfl <| .pickT rfl rfl rfl <| .move rfl rfl <| .on rfl rfl <| .fieldP rfl fa52_3 rfl <| .on rfl rfl <| .loadP 0 fCol_3 rfl rfl ty4 rfl <| .on rfl rfl <| .not rfl rfl <| .on rfl rfl <| .move rfl rfl <| .split 39 rfl (fun _ => ?_) (fun _ => ?_)
            · refine .off rfl rfl rfl <| .off rfl rfl rfl <| .off rfl rfl rfl <| .off rfl rfl rfl <| .on rfl rfl <| .pickT rfl rfl rfl <| .pickT rfl rfl rfl <| .assign rfl rfl <| .nil ?_
              exact .keep [2] [] rfl (.drop (.cons _ <| .slnil) <| hj1 _)
            · refine .on rfl rfl <| .fieldP rfl fa52_4 rfl <| .on rfl rfl <| .fieldP rfl fa47_0 rfl <| .on rfl rfl <| .loadP 0 (fCol_4.comp fVal_0) rfl rfl ty3 rfl <| .on rfl rfl <| .bin rfl rfl rfl rfl <| .on rfl rfl <| .pickF rfl rfl rfl <| .pickT rfl rfl rfl <| .assign rfl rfl <| .nil ?_
              exact .keep [2] [] rfl (.drop (.cons _ <| .slnil) <| hj1 _)
          · refine .on rfl rfl <| .fieldP rfl fa52_4 rfl <| .on rfl rfl <| .fieldP rfl fa47_0 rfl <| .on rfl rfl <| .loadP 0 (fCol_4.comp fVal_0) rfl rfl ty3 rfl <| .on rfl rfl <| .fieldP rfl fa52_1 rfl <| .on rfl rfl <| .loadP 0 fCol_1 rfl rfl ty3 rfl <| .on rfl rfl <| .bin rfl rfl rfl rfl <| .on rfl rfl <| .pickF rfl rfl rfl <| .pickT rfl rfl rfl <| .move rfl rfl <| .split 35 rfl (fun _ => ?_) (fun _ => ?_)
            · refine .on rfl rfl <| .fieldP rfl fa52_3 rfl <| .on rfl rfl <| .loadP 0 fCol_3 rfl rfl ty4 rfl <| .on rfl rfl <| .not rfl rfl <| .on rfl rfl <| .move rfl rfl <| .split 39 rfl (fun _ => ?_) (fun _ => ?_)
              · refine .off rfl rfl rfl <| .off rfl rfl rfl <| .off rfl rfl rfl <| .off rfl rfl rfl <| .on rfl rfl <| .pickT rfl rfl rfl <| .pickT rfl rfl rfl <| .assign rfl rfl <| .nil ?_
                exact .keep [2] [] rfl (.drop (.cons _ <| .slnil) <| hj1 _)
              · refine .on rfl rfl <| .fieldP rfl fa52_4 rfl <| .on rfl rfl <| .fieldP rfl fa47_0 rfl <| .on rfl rfl <| .loadP 0 (fCol_4.comp fVal_0) rfl rfl ty3 rfl <| .on rfl rfl <| .bin rfl rfl rfl rfl <| .on rfl rfl <| .pickF rfl rfl rfl <| .pickT rfl rfl rfl <| .assign rfl rfl <| .nil ?_
                exact .keep [2] [] rfl (.drop (.cons _ <| .slnil) <| hj1 _)
            · refine .off rfl rfl rfl <| .off rfl rfl rfl <| .off rfl rfl rfl <| .off rfl rfl rfl <| .offU rfl rfl rfl <| .offU rfl rfl rfl <| .offU rfl rfl rfl <| .offU rfl rfl rfl <| .off rfl rfl rfl <| .pickF rfl rfl rfl <| .assign rfl rfl <| .nil ?_
              exact .keep [2] [] rfl (.drop (.cons _ <| .slnil) <| hj1 _)
        · refine .off rfl rfl rfl <| .off rfl rfl rfl <| .off rfl rfl rfl <| .off rfl rfl rfl <| .off rfl rfl rfl <| .offU rfl rfl rfl <| .offU rfl rfl rfl <| .offU rfl rfl rfl <| .offU rfl rfl rfl <| .offU rfl rfl rfl <| .offU rfl rfl rfl <| .off rfl rfl rfl <| .pickF rfl rfl rfl <| .move rfl rfl <| .off rfl rfl rfl <| .off rfl rfl rfl <| .off rfl rfl rfl <| .off rfl rfl rfl <| .offU rfl rfl rfl <| .offU rfl rfl rfl <| .offU rfl rfl rfl <| .offU rfl rfl rfl <| .off rfl rfl rfl <| .pickF rfl rfl rfl <| .assign rfl rfl <| .nil ?_
          exact .keep [2] [] rfl (.drop (.cons _ <| .slnil) <| hj1 _)
      · refine .on rfl rfl <| .fieldP rfl fa52_1 rfl <| .on rfl rfl <| .loadP 0 fCol_1 rfl rfl ty3 rfl <| .on rfl rfl <| .bin rfl rfl rfl rfl <| .on rfl rfl <| .pickF rfl rfl rfl <| .pickT rfl rfl rfl <| .move rfl rfl <| .split 16 rfl (fun _ => ?_) (fun _ => ?_)
        · refine .on rfl rfl <| .fieldP rfl fa52_4 rfl <| .on rfl rfl <| .loadP 0 fCol_4 rfl rfl ty47 rfl <| .on rfl rfl <| .call0 (c119 fu _) n119 rfl rfl fun q5 => .pickT rfl rfl rfl <| .move rfl rfl <| .split 21 rfl (fun _ => ?_) (fun _ => ?_)
          · refine .on rfl rfl <| .fieldP rfl fa52_4 rfl <| .on rfl rfl <| .fieldP rfl fa47_0 rfl <| .on rfl rfl <| .loadP 0 (fCol_4.comp fVal_0) rfl rfl ty3 rfl <| .on rfl rfl <| .bin rfl rfl rfl rfl <| .on rfl rfl <| .move rfl rfl <| .split 26 rfl (fun _ => ?_) (fun _ => ?_)
            · refine .off rfl rfl rfl <| .off rfl rfl rfl <| .off rfl rfl rfl <| .off rfl rfl rfl <| .off rfl rfl rfl <| .off rfl rfl rfl <| .on rfl rfl <| .pickT rfl rfl rfl <| .pickT rfl rfl rfl <| .move rfl rfl <| .on rfl rfl <| .fieldP rfl fa52_3 rfl <| .on rfl rfl <| .loadP 0 fCol_3 rfl rfl ty4 rfl <| .on rfl rfl <| .not rfl rfl <| .on rfl rfl <| .move rfl rfl <| .split 39 rfl (fun _ => ?_) (fun _ => ?_)
              · refine .off rfl rfl rfl <| .off rfl rfl rfl <| .off rfl rfl rfl <| .off rfl rfl rfl <| .on rfl rfl <| .pickT rfl rfl rfl <| .pickT rfl rfl rfl <| .assign rfl rfl <| .nil ?_
                exact .keep [2] [] rfl (.drop (.cons _ <| .slnil) <| hj1 _)
              · refine .on rfl rfl <| .fieldP rfl fa52_4 rfl <| .on rfl rfl <| .fieldP rfl fa47_0 rfl <| .on rfl rfl <| .loadP 0 (fCol_4.comp fVal_0) rfl rfl ty3 rfl <| .on rfl rfl <| .bin rfl rfl rfl rfl <| .on rfl rfl <| .pickF rfl rfl rfl <| .pickT rfl rfl rfl <| .assign rfl rfl <| .nil ?_
                exact .keep [2] [] rfl (.drop (.cons _ <| .slnil) <| hj1 _)
            · refine .on rfl rfl <| .fieldP rfl fa52_4 rfl <| .on rfl rfl <| .fieldP rfl fa47_0 rfl <| .on rfl rfl <| .loadP 0 (fCol_4.comp fVal_0) rfl rfl ty3 rfl <| .on rfl rfl <| .fieldP rfl fa52_1 rfl <| .on rfl rfl <| .loadP 0 fCol_1 rfl rfl ty3 rfl <| .on rfl rfl <| .bin rfl rfl rfl rfl <| .on rfl rfl <| .pickF rfl rfl rfl <| .pickT rfl rfl rfl <| .move rfl rfl <| .split 35 rfl (fun _ => ?_) (fun _ => ?_)
              · refine .on rfl rfl <| .fieldP rfl fa52_3 rfl <| .on rfl rfl <| .loadP 0 fCol_3 rfl rfl ty4 rfl <| .on rfl rfl <| .not rfl rfl <| .on rfl rfl <| .move rfl rfl <| .split 39 rfl (fun _ => ?_) (fun _ => ?_)
                · refine .off rfl rfl rfl <| .off rfl rfl rfl <| .off rfl rfl rfl <| .off rfl rfl rfl <| .on rfl rfl <| .pickT rfl rfl rfl <| .pickT rfl rfl rfl <| .assign rfl rfl <| .nil ?_
                  exact .keep [2] [] rfl (.drop (.cons _ <| .slnil) <| hj1 _)
                · refine .on rfl rfl <| .fieldP rfl fa52_4 rfl <| .on rfl rfl <| .fieldP rfl fa47_0 rfl <| .on rfl rfl <| .loadP 0 (fCol_4.comp fVal_0) rfl rfl ty3 rfl <| .on rfl rfl <| .bin rfl rfl rfl rfl <| .on rfl rfl <| .pickF rfl rfl rfl <| .pickT rfl rfl rfl <| .assign rfl rfl <| .nil ?_
                  exact .keep [2] [] rfl (.drop (.cons _ <| .slnil) <| hj1 _)
              · refine .off rfl rfl rfl <| .off rfl rfl rfl <| .off rfl rfl rfl <| .off rfl rfl rfl <| .offU rfl rfl rfl <| .offU rfl rfl rfl <| .offU rfl rfl rfl <| .offU rfl rfl rfl <| .off rfl rfl rfl <| .pickF rfl rfl rfl <| .assign rfl rfl <| .nil ?_
                exact .keep [2] [] rfl (.drop (.cons _ <| .slnil) <| hj1 _)
          · refine .off rfl rfl rfl <| .off rfl rfl rfl <| .off rfl rfl rfl <| .off rfl rfl rfl <| .off rfl rfl rfl <| .offU rfl rfl rfl <| .offU rfl rfl rfl <| .offU rfl rfl rfl <| .offU rfl rfl rfl <| .offU rfl rfl rfl <| .offU rfl rfl rfl <| .off rfl rfl rfl <| .pickF rfl rfl rfl <| .move rfl rfl <| .off rfl rfl rfl <| .off rfl rfl rfl <| .off rfl rfl rfl <| .off rfl rfl rfl <| .offU rfl rfl rfl <| .offU rfl rfl rfl <| .offU rfl rfl rfl <| .offU rfl rfl rfl <| .off rfl rfl rfl <| .pickF rfl rfl rfl <| .assign rfl rfl <| .nil ?_
            exact .keep [2] [] rfl (.drop (.cons _ <| .slnil) <| hj1 _)
        · refine .off rfl rfl rfl <| .off rfl rfl rfl <| .off rfl rfl rfl <| .pickF rfl rfl rfl <| .move rfl rfl <| .off rfl rfl rfl <| .off rfl rfl rfl <| .off rfl rfl rfl <| .off rfl rfl rfl <| .off rfl rfl rfl <| .offU rfl rfl rfl <| .offU rfl rfl rfl <| .offU rfl rfl rfl <| .offU rfl rfl rfl <| .offU rfl rfl rfl <| .offU rfl rfl rfl <| .off rfl rfl rfl <| .pickF rfl rfl rfl <| .move rfl rfl <| .off rfl rfl rfl <| .off rfl rfl rfl <| .off rfl rfl rfl <| .off rfl rfl rfl <| .offU rfl rfl rfl <| .offU rfl rfl rfl <| .offU rfl rfl rfl <| .offU rfl rfl rfl <| .off rfl rfl rfl <| .pickF rfl rfl rfl <| .assign rfl rfl <| .nil ?_
          exact .keep [2] [] rfl (.drop (.cons _ <| .slnil) <| hj1 _)
    · refine .off rfl rfl rfl <| .off rfl rfl rfl <| .off rfl rfl rfl <| .off rfl rfl rfl <| .offU rfl rfl rfl <| .offU rfl rfl rfl <| .offU rfl rfl rfl <| .off rfl rfl rfl <| .pickF rfl rfl rfl <| .move rfl rfl <| .off rfl rfl rfl <| .off rfl rfl rfl <| .off rfl rfl rfl <| .pickF rfl rfl rfl <| .move rfl rfl <| .off rfl rfl rfl <| .off rfl rfl rfl <| .off rfl rfl rfl <| .off rfl rfl rfl <| .off rfl rfl rfl <| .offU rfl rfl rfl <| .offU rfl rfl rfl <| .offU rfl rfl rfl <| .offU rfl rfl rfl <| .offU rfl rfl rfl <| .offU rfl rfl rfl <| .off rfl rfl rfl <| .pickF rfl rfl rfl <| .move rfl rfl <| .off rfl rfl rfl <| .off rfl rfl rfl <| .off rfl rfl rfl <| .off rfl rfl rfl <| .offU rfl rfl rfl <| .offU rfl rfl rfl <| .offU rfl rfl rfl <| .offU rfl rfl rfl <| .off rfl rfl rfl <| .pickF rfl rfl rfl <| .assign rfl rfl <| .nil ?_
      exact .keep [2] [] rfl (.drop (.cons _ <| .slnil) <| hj1 _)
end Go.Proofs.YtlkhmcajnfombaaGreatDoor
