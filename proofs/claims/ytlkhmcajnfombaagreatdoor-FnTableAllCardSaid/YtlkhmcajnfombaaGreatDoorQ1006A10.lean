/- Functions of the program: what each answers, and that the machine answers so. -/
import Derived.Test.YtlkhmcajnfombaaGreatDoorQ1006A9
import Derived.KernelRfl
set_option linter.unusedVariables false
set_option linter.unusedSimpArgs false
set_option linter.deprecated false
set_option linter.unusedSectionVars false
set_option linter.all false
namespace Go.Proofs.YtlkhmcajnfombaaGreatDoor
open Go Go.HL
def f18_l1 (a0 : List Val) (a1 : List Val) : Nat → Int → Option Bool
  | 0, _ => none
  | n1 + 1, i1 => cond (decide (i1 < (List.length a0 : Int))) (cond (decide (0 ≤ i1) && decide (i1 < (List.length a0 : Int))) (cond (decide (0 ≤ i1) && decide (i1 < (List.length a1 : Int))) (cond (!decide ((a0.getD i1.toNat default) = (a1.getD i1.toNat default))) (some false) ((f18_l1 a0 a1 n1) (IntKind.i64.wrap (i1 + 1)))) none) none) (some true)
def f18 (fu : Nat) (a0 : List Val) (a1 : List Val) : Option Bool := cond (!decide ((List.length a0 : Int) = (List.length a1 : Int))) (some false) (f18_l1 a0 a1 fu 0)
theorem n18 : ∃ fn c, Tryz.prog.funcs[22]? = some fn ∧ (fn.name == "runtime.NumGoroutine") = false ∧ fn.body = some c := ⟨_, _, Tryz.func22, by kernel_rfl, rfl⟩
theorem c18 (fu : Nat) (a0 : List Val) (a1 : List Val) : Ctr Tryz.prog 22 [(tL tVal).va a0, (tL tVal).va a1] [] (f18 fu a0 a1) (fun _ _ => []) (fun q => isB q) := by
  refine Ctr.of_W Tryz.func22 rfl Tryz.ntmps22 rfl fun A w => ?_
  unfold f18
  refine .seq <| .region <| .assign rfl rfl <| .nil ?_
  refine .seq <| .seq <| .region <| .move rfl rfl <| .lenL rfl Tryz.underlying42 rfl <| .move rfl rfl <| .lenL rfl Tryz.underlying42 rfl <| .bin rfl rfl rfl rfl <| .nil ?_
  refine .cond rfl (fun _ => ?_) (fun _ => ?_)
  · refine .seq <| .region <| .assign rfl rfl <| .nil ?_
    exact .ret1 Tryz.func22 Tryz.results22 (.tmp rfl) rfl (fun _ _ => .slnil)
  · refine .skip <| .seq <| .seq <| .region <| .assign rfl rfl <| .nil ?_
    refine .block <| .loop <| .keep [0, 1, 5] [] rfl ?_
    refine (show ∀ (n1 : Nat) (i1 : Int), W _ _ _ _ _ ⟨[(0, (tL tVal).va a0, none), (1, (tL tVal).va a1, none), (5, isI .i64 i1, none)], []⟩ (f18_l1 a0 a1 n1 i1) from ?_) fu _
    intro n1
    induction n1 with
    | zero => exact fun _ => .stop
    | succ n1 ih1 =>
      intro i1
      refine .inLoop <| .seq <| .seq <| .region <| .move rfl rfl <| .move rfl rfl <| .lenL rfl Tryz.underlying42 rfl <| .bin rfl rfl rfl rfl <| .nil ?_
      refine .cond rfl (fun _ => ?_) (fun _ => ?_)
      · refine .skip <| .seq <| .block <| .seq <| .pT fun h3 => ?_
        refine .pT fun h4 => ?_
        refine .draw 8 [] mix (by kernel_rfl) (.cons (fun _ _ _ hP hE h => .move (hE.op rfl) rfl <| h) <| .cons (fun _ _ _ hP hE h => .move (hE.op rfl) rfl <| h) <| .cons (fun _ _ _ hP hE h => .useC h3 <| .elemAt (hE.op rfl) (hE.op rfl) Tryz.underlying42 ty47 rfl <| h) <| .cons (fun _ _ _ hP hE h => .load (hE.op rfl) ty47 rfl <| h) <| .cons (fun _ _ _ hP hE h => .move (hE.op rfl) rfl <| h) <| .cons (fun _ _ _ hP hE h => .move (hE.op rfl) rfl <| h) <| .cons (fun _ _ _ hP hE h => .useC h4 <| .elemAt (hE.op rfl) (hE.op rfl) Tryz.underlying42 ty47 rfl <| h) <| .cons (fun _ _ _ hP hE h => .load (hE.op rfl) ty47 rfl <| h) <| .nil) rfl <| .neT eq47 rfl rfl rfl <| .nil ?_
        refine .cond rfl (fun _ => ?_) (fun _ => ?_)
        · refine .seq <| .region <| .assign rfl rfl <| .nil ?_
          exact .ret1 Tryz.func22 Tryz.results22 (.tmp rfl) rfl (fun _ _ => .slnil)
        · refine .skip <| .inBlock <| .region <| .move rfl rfl <| .bin rfl rfl rfl rfl <| .assign rfl rfl <| .nil ?_
          exact .keep [0, 1, 5] [] rfl (ih1 _)
      · refine .exit rfl <| .seq <| .region <| .assign rfl rfl <| .nil ?_
        exact .ret1 Tryz.func22 Tryz.results22 (.tmp rfl) rfl (fun _ _ => .slnil)
def f99_j2 (a2 : List Set) (i2 : Int) (i3 : List (List UInt8)) (i4 : List Val) (q6 : Int) (rec1 : Int → (List (List UInt8)) → (List Val) → Option (Bool × (List Val))) (i7 : Bool) : Option (Bool × (List Val)) := cond i7 (some (false, i4)) (cond (decide (0 ≤ q6) && decide (q6 < (List.length i4 : Int))) (rec1 (IntKind.i64.wrap (i2 + 1)) (cond (memK ((a2.getD i2.toNat default).name) i3) i3 (i3 ++ [(a2.getD i2.toNat default).name])) (i4.set q6.toNat ((a2.getD i2.toNat default).val))) none)
def f99_l1 (fu : Nat) (a0 : List Col) (a2 : List Set) : Nat → Int → (List (List UInt8)) → (List Val) → Option (Bool × (List Val))
  | 0, _, _, _ => none
  | n1 + 1, i2, i3, i4 => cond (decide (i2 < (List.length a2 : Int))) (cond (decide (0 ≤ i2) && decide (i2 < (List.length a2 : Int))) ((f68 fu a0 ((a2.getD i2.toNat default).name)).bind fun q6 => cond (decide (q6 < 0)) (f99_j2 a2 i2 i3 i4 q6 (f99_l1 fu a0 a2 n1) true) (cond (memK ((a2.getD i2.toNat default).name) i3) (f99_j2 a2 i2 i3 i4 q6 (f99_l1 fu a0 a2 n1) true) ((f25 fu ((a2.getD i2.toNat default).val)).bind fun q8 => cond (!q8) (f99_j2 a2 i2 i3 i4 q6 (f99_l1 fu a0 a2 n1) true) (cond (decide (0 ≤ q6) && decide (q6 < (List.length a0 : Int))) ((f92 fu ((a2.getD i2.toNat default).val) ((a0.getD q6.toNat default).kind)).bind fun q9 => f99_j2 a2 i2 i3 i4 q6 (f99_l1 fu a0 a2 n1) (!q9)) none)))) none) (some (true, i4))
def f99 (fu : Nat) (a0 : List Col) (a1 : List Val) (a2 : List Set) : Option (Bool × (List Val)) := f99_l1 fu a0 a2 fu 0 ([] : List (List UInt8)) a1
theorem n99 : ∃ fn c, Tryz.prog.funcs[71]? = some fn ∧ (fn.name == "runtime.NumGoroutine") = false ∧ fn.body = some c := ⟨_, _, Tryz.func71, by kernel_rfl, rfl⟩
theorem c99 (fu : Nat) (a0 : List Col) (vp1 : Value) (a1 : List Val) (a2 : List Set) : Ctr Tryz.prog 71 [(tL tCol).va a0, isV vp1, (tL tSet).va a2] [arrO tVal vp1 a1] (f99 fu a0 a1 a2) (fun q _ => [arrO tVal vp1 q.2]) (fun q => isB q.1) := by
  refine Ctr.of_W Tryz.func71 rfl Tryz.ntmps71 rfl fun A w => ?_
  unfold f99
  refine .know 1 rfl <| .seq <| .region <| .assign rfl rfl <| .nil ?_
  refine .seq <| .region <| .makeMap str rfl fun v1 => .assign rfl rfl <| .nil ?_
  refine .seq <| .seq <| .region <| .move rfl rfl <| .lenL rfl Tryz.underlying28 rfl <| .move rfl rfl <| .nil ?_
  refine .block <| .loop <| .keep [0, 12, 13, 14] [1, 7] rfl ?_
  refine (show ∀ (n1 : Nat) (i2 : Int) (i3 : List (List UInt8)) (i4 : List Val), W _ _ _ _ _ ⟨[(0, (tL tCol).va a0, none), (12, (tL tSet).va a2, none), (13, isI .i64 (List.length a2 : Int), none), (14, isI .i64 i2, none), (1, isV vp1, some vp1), (7, isV v1, some v1)], [mapO str v1 i3, arrO tVal vp1 i4]⟩ (f99_l1 fu a0 a2 n1 i2 i3 i4) from ?_) fu _ _ _
  intro n1
  induction n1 with
  | zero => exact fun _ _ _ => .stop
  | succ n1 ih1 =>
    intro i2 i3 i4
    refine .inLoop <| .seq <| .region <| .bin rfl rfl rfl rfl <| .nil ?_
    refine .seq <| .cond rfl (fun _ => ?_) (fun _ => ?_)
    · refine .skip <| .seq <| .block <| .seq <| .region <| .elemAt rfl rfl Tryz.underlying28 ty49 rfl <| .load rfl ty49 rfl <| .alloc tSet d0_49 [] z49 rfl fun b5 => .storeP 0 (Fld.self _) rfl rfl rfl ty49 <| .nil ?_
      refine .seq <| .region <| .move rfl rfl <| .fieldP rfl fa49_0 rfl <| .loadP 0 fSet_0 rfl rfl ty9 rfl <| .call0 (c68 fu _ _) n68 rfl rfl fun q6 => .assign rfl rfl <| .nil ?_
      refine .seq <| .seq <| .join1 (fun i7 => ⟨[(0, (tL tCol).va a0, none), (9, isP b5 0, none), (10, isI .i64 q6, none), (12, (tL tSet).va a2, none), (13, isI .i64 (List.length a2 : Int), none), (14, isI .i64 i2, none), (46, isB i7, none), (1, isV vp1, some vp1), (7, isV v1, some v1)], [boxO b5 tSet (a2.getD i2.toNat default) [], mapO str v1 i3, arrO tVal vp1 i4]⟩) (fun i7 => f99_j2 a2 i2 i3 i4 q6 (f99_l1 fu a0 a2 n1) i7) (fun i7 => ?_) (fun hj2 => ?_)
      · refine .cond rfl (fun _ => ?_) (fun _ => ?_)
        · refine .seq <| .region <| .assign rfl rfl <| .nil ?_
          exact .ret1 Tryz.func71 Tryz.results71 (.tmp rfl) rfl (fun _ _ => .cons _ <| .cons _ <| .cons_cons _ <| .slnil)
        · refine .skip <| .seq <| .region <| .move rfl rfl <| .fieldP rfl fa49_0 rfl <| .loadP 0 fSet_0 rfl rfl ty9 rfl <| .mapAdd (T := tS) 1 rfl rfl rfl Tryz.underlying118 key9 <| .nil ?_
          refine .region <| .move rfl rfl <| .move rfl rfl <| .fieldP rfl fa49_1 rfl <| .loadP 0 fSet_1 rfl rfl ty47 rfl <| .elemA 2 rfl rfl rfl Tryz.underlying42 ty47 rfl <| .storeA 2 (Fld.self _) rfl rfl rfl ty47 <| .nil ?_
          refine .inBlock <| .region <| .bin rfl rfl rfl rfl <| .move rfl rfl <| .nil ?_
          exact .keep [0, 12, 13, 14] [1, 7] rfl (.drop (.cons _ <| .cons_cons _ <| .cons_cons _ <| .slnil) <| ih1 _ _ _)
      · refine .pcond (fun h6 => ?_) (fun h6 => ?_)
        · refine .draw 22 [] mix (by kernel_rfl) (.cons (fun _ _ _ hP hE h => .move (hE.op rfl) rfl <| h) <| .cons (fun _ _ _ hP hE h => .bin rfl (hE.op rfl) (hE.op rfl) rfl <| h) <| .cons (fun _ _ _ hP hE h => .move (hE.op rfl) rfl <| .noV <| .useEq h6 h) <| .cons (fun _ _ _ hP hE h => .off rfl (hE _ _ rfl) rfl <| h) <| .cons (fun _ _ _ hP hE h => .off rfl (hE _ _ rfl) rfl <| h) <| .cons (fun _ _ _ hP hE h => .off rfl (hE _ _ rfl) rfl <| h) <| .cons (fun _ _ _ hP hE h => .off rfl (hE _ _ rfl) rfl <| h) <| .cons (fun _ _ _ hP hE h => .pickT (hE.op rfl) (hE.op rfl) rfl <| h) <| .cons (fun _ _ _ hP hE h => .move (hE.op rfl) rfl <| h) <| .cons (fun _ _ _ hP hE h => .off rfl (hE _ _ rfl) rfl <| h) <| .cons (fun _ _ _ hP hE h => .off rfl (hE _ _ rfl) rfl <| h) <| .cons (fun _ _ _ hP hE h => .off rfl (hE _ _ rfl) rfl <| h) <| .cons (fun _ _ _ hP hE h => .off rfl (hE _ _ rfl) rfl <| h) <| .cons (fun _ _ _ hP hE h => .pickT (hE.op rfl) (hE.op rfl) rfl <| h) <| .cons (fun _ _ _ hP hE h => .move (hE.op rfl) rfl <| h) <| .cons (fun _ _ _ hP hE h => .off rfl (hE _ _ rfl) rfl <| h) <| .cons (fun _ _ _ hP hE h => .off rfl (hE _ _ rfl) rfl <| h) <| .cons (fun _ _ _ hP hE h => .off rfl (hE _ _ rfl) rfl <| h) <| .cons (fun _ _ _ hP hE h => .off rfl (hE _ _ rfl) rfl <| h) <| .cons (fun _ _ _ hP hE h => .off rfl (hE _ _ rfl) rfl <| h) <| .cons (fun _ _ _ hP hE h => .off rfl (hE _ _ rfl) rfl <| h) <| .cons (fun _ _ _ hP hE h => .off rfl (hE _ _ rfl) rfl <| h) <| .nil) rfl <| .off rfl rfl rfl <| .off rfl rfl rfl <| .pickT rfl rfl rfl <| .nil ?_
          exact .keep [0, 9, 10, 12, 13, 14, 46] [1, 7] rfl (hj2 _)
        · refine .pcond (fun h7 => ?_) (fun h7 => ?_)
          · refine .draw 22 [] mix (by kernel_rfl) (.cons (fun _ _ _ hP hE h => .move (hE.op rfl) rfl <| h) <| .cons (fun _ _ _ hP hE h => .bin rfl (hE.op rfl) (hE.op rfl) rfl <| h) <| .cons (fun _ _ _ hP hE h => .move (hE.op rfl) rfl <| .noV <| .useEq h6 h) <| .cons (fun _ _ _ hP hE h => .on rfl (hE _ _ rfl) <| .move (hE.op rfl) rfl <| h) <| .cons (fun _ _ _ hP hE h => .on rfl (hE _ _ rfl) <| .fieldP (hE.op rfl) fa49_0 rfl <| h) <| .cons (fun _ _ _ hP hE h => .on rfl (hE _ _ rfl) <| .loadP 0 fSet_0 (hE.op rfl) (hP.get rfl rfl) ty9 rfl <| h) <| .cons (fun _ _ _ hP hE h => .on rfl (hE _ _ rfl) <| .lookup (T := tS) 1 (hE.op rfl) (hE.op rfl) (hP.get rfl rfl) Tryz.underlying118 key9 (by kernel_rfl) rfl <| h) <| .cons (fun _ _ _ hP hE h => .pickF (hE.op rfl) (hE.op rfl) rfl <| h) <| .cons (fun _ _ _ hP hE h => .move (hE.op rfl) rfl <| .noV <| .useEq h7 h) <| .cons (fun _ _ _ hP hE h => .off rfl (hE _ _ rfl) rfl <| h) <| .cons (fun _ _ _ hP hE h => .off rfl (hE _ _ rfl) rfl <| h) <| .cons (fun _ _ _ hP hE h => .off rfl (hE _ _ rfl) rfl <| h) <| .cons (fun _ _ _ hP hE h => .off rfl (hE _ _ rfl) rfl <| h) <| .cons (fun _ _ _ hP hE h => .pickT (hE.op rfl) (hE.op rfl) rfl <| h) <| .cons (fun _ _ _ hP hE h => .move (hE.op rfl) rfl <| h) <| .cons (fun _ _ _ hP hE h => .off rfl (hE _ _ rfl) rfl <| h) <| .cons (fun _ _ _ hP hE h => .off rfl (hE _ _ rfl) rfl <| h) <| .cons (fun _ _ _ hP hE h => .off rfl (hE _ _ rfl) rfl <| h) <| .cons (fun _ _ _ hP hE h => .off rfl (hE _ _ rfl) rfl <| h) <| .cons (fun _ _ _ hP hE h => .off rfl (hE _ _ rfl) rfl <| h) <| .cons (fun _ _ _ hP hE h => .off rfl (hE _ _ rfl) rfl <| h) <| .cons (fun _ _ _ hP hE h => .off rfl (hE _ _ rfl) rfl <| h) <| .nil) rfl <| .off rfl rfl rfl <| .off rfl rfl rfl <| .pickT rfl rfl rfl <| .nil ?_
            exact .keep [0, 9, 10, 12, 13, 14, 46] [1, 7] rfl (hj2 _)
          · refine .pbind fun q8 h8 => ?_
            refine .pcond (fun h9 => ?_) (fun h9 => ?_)
            · refine .draw 22 [] mix (by kernel_rfl) (.cons (fun _ _ _ hP hE h => .move (hE.op rfl) rfl <| h) <| .cons (fun _ _ _ hP hE h => .bin rfl (hE.op rfl) (hE.op rfl) rfl <| h) <| .cons (fun _ _ _ hP hE h => .move (hE.op rfl) rfl <| .noV <| .useEq h6 h) <| .cons (fun _ _ _ hP hE h => .on rfl (hE _ _ rfl) <| .move (hE.op rfl) rfl <| h) <| .cons (fun _ _ _ hP hE h => .on rfl (hE _ _ rfl) <| .fieldP (hE.op rfl) fa49_0 rfl <| h) <| .cons (fun _ _ _ hP hE h => .on rfl (hE _ _ rfl) <| .loadP 0 fSet_0 (hE.op rfl) (hP.get rfl rfl) ty9 rfl <| h) <| .cons (fun _ _ _ hP hE h => .on rfl (hE _ _ rfl) <| .lookup (T := tS) 1 (hE.op rfl) (hE.op rfl) (hP.get rfl rfl) Tryz.underlying118 key9 (by kernel_rfl) rfl <| h) <| .cons (fun _ _ _ hP hE h => .pickF (hE.op rfl) (hE.op rfl) rfl <| h) <| .cons (fun _ _ _ hP hE h => .move (hE.op rfl) rfl <| .noV <| .useEq h7 h) <| .cons (fun _ _ _ hP hE h => .on rfl (hE _ _ rfl) <| .fieldP (hE.op rfl) fa49_1 rfl <| h) <| .cons (fun _ _ _ hP hE h => .on rfl (hE _ _ rfl) <| .loadP 0 fSet_1 (hE.op rfl) (hP.get rfl rfl) ty47 rfl <| h) <| .cons (fun _ _ _ hP hE h => .on rfl (hE _ _ rfl) <| .bindE h8 (fun r h => .call0 (c25 fu _) n25 (hE.ops rfl) rfl h) <| h) <| .cons (fun _ _ _ hP hE h => .on rfl (hE _ _ rfl) <| .not (hE.op rfl) rfl <| h) <| .cons (fun _ _ _ hP hE h => .pickF (hE.op rfl) (hE.op rfl) rfl <| h) <| .cons (fun _ _ _ hP hE h => .move (hE.op rfl) rfl <| .noV <| .useEq h9 h) <| .cons (fun _ _ _ hP hE h => .off rfl (hE _ _ rfl) rfl <| h) <| .cons (fun _ _ _ hP hE h => .off rfl (hE _ _ rfl) rfl <| h) <| .cons (fun _ _ _ hP hE h => .off rfl (hE _ _ rfl) rfl <| h) <| .cons (fun _ _ _ hP hE h => .off rfl (hE _ _ rfl) rfl <| h) <| .cons (fun _ _ _ hP hE h => .off rfl (hE _ _ rfl) rfl <| h) <| .cons (fun _ _ _ hP hE h => .off rfl (hE _ _ rfl) rfl <| h) <| .cons (fun _ _ _ hP hE h => .off rfl (hE _ _ rfl) rfl <| h) <| .nil) rfl <| .off rfl rfl rfl <| .off rfl rfl rfl <| .pickT rfl rfl rfl <| .nil ?_
              exact .keep [0, 9, 10, 12, 13, 14, 46] [1, 7] rfl (hj2 _)
            · refine .pT fun h10 => ?_
              refine .draw 22 [] mix (by kernel_rfl) (.cons (fun _ _ _ hP hE h => .move (hE.op rfl) rfl <| h) <| .cons (fun _ _ _ hP hE h => .bin rfl (hE.op rfl) (hE.op rfl) rfl <| h) <| .cons (fun _ _ _ hP hE h => .move (hE.op rfl) rfl <| .noV <| .useEq h6 h) <| .cons (fun _ _ _ hP hE h => .on rfl (hE _ _ rfl) <| .move (hE.op rfl) rfl <| h) <| .cons (fun _ _ _ hP hE h => .on rfl (hE _ _ rfl) <| .fieldP (hE.op rfl) fa49_0 rfl <| h) <| .cons (fun _ _ _ hP hE h => .on rfl (hE _ _ rfl) <| .loadP 0 fSet_0 (hE.op rfl) (hP.get rfl rfl) ty9 rfl <| h) <| .cons (fun _ _ _ hP hE h => .on rfl (hE _ _ rfl) <| .lookup (T := tS) 1 (hE.op rfl) (hE.op rfl) (hP.get rfl rfl) Tryz.underlying118 key9 (by kernel_rfl) rfl <| h) <| .cons (fun _ _ _ hP hE h => .pickF (hE.op rfl) (hE.op rfl) rfl <| h) <| .cons (fun _ _ _ hP hE h => .move (hE.op rfl) rfl <| .noV <| .useEq h7 h) <| .cons (fun _ _ _ hP hE h => .on rfl (hE _ _ rfl) <| .fieldP (hE.op rfl) fa49_1 rfl <| h) <| .cons (fun _ _ _ hP hE h => .on rfl (hE _ _ rfl) <| .loadP 0 fSet_1 (hE.op rfl) (hP.get rfl rfl) ty47 rfl <| h) <| .cons (fun _ _ _ hP hE h => .on rfl (hE _ _ rfl) <| .bindE h8 (fun r h => .call0 (c25 fu _) n25 (hE.ops rfl) rfl h) <| h) <| .cons (fun _ _ _ hP hE h => .on rfl (hE _ _ rfl) <| .not (hE.op rfl) rfl <| h) <| .cons (fun _ _ _ hP hE h => .pickF (hE.op rfl) (hE.op rfl) rfl <| h) <| .cons (fun _ _ _ hP hE h => .move (hE.op rfl) rfl <| .noV <| .useEq h9 h) <| .cons (fun _ _ _ hP hE h => .on rfl (hE _ _ rfl) <| .fieldP (hE.op rfl) fa49_1 rfl <| h) <| .cons (fun _ _ _ hP hE h => .on rfl (hE _ _ rfl) <| .loadP 0 fSet_1 (hE.op rfl) (hP.get rfl rfl) ty47 rfl <| h) <| .cons (fun _ _ _ hP hE h => .on rfl (hE _ _ rfl) <| .move (hE.op rfl) rfl <| h) <| .cons (fun _ _ _ hP hE h => .on rfl (hE _ _ rfl) <| .move (hE.op rfl) rfl <| h) <| .cons (fun _ _ _ hP hE h => .on rfl (hE _ _ rfl) <| .useC h10 <| .elemAt (hE.op rfl) (hE.op rfl) Tryz.underlying23 ty52 rfl <| h) <| .cons (fun _ _ _ hP hE h => .on rfl (hE _ _ rfl) <| .fieldAt fCol_1 (hE.op rfl) fa52_1 rfl <| h) <| .cons (fun _ _ _ hP hE h => .on rfl (hE _ _ rfl) <| .load (hE.op rfl) ty3 rfl <| h) <| .nil) rfl <| .on rfl rfl <| .call0 (c92 fu _ _) n92 rfl rfl fun q9 => .on rfl rfl <| .not rfl rfl <| .pickF rfl rfl rfl <| .nil ?_
              exact .keep [0, 9, 10, 12, 13, 14, 46] [1, 7] rfl (hj2 _)
    · refine .exit rfl <| .seq <| .region <| .assign rfl rfl <| .nil ?_
      exact .ret1 Tryz.func71 Tryz.results71 (.tmp rfl) rfl (fun _ _ => .cons _ <| .cons_cons _ <| .slnil)
def f64_j2 (fu : Nat) (a0 : Table) (q4 : Table) (q15 : (List Row)) (rec1 : Int → (List Val) → Option (Table × Int)) (i23 : Bool) : Option (Table × Int) := cond i23 ((f80 fu a0).bind fun q24 => some (q24, 4)) (some ((⟨q4.first, q4.changes, q15, IntKind.i64.wrap (q4.next + 1)⟩ : Table), 0))
def f64_l1 (fu : Nat) (a0 : Table) (a1 : List Set) (q3 : (List Col)) (q4 : Table) : Nat → Int → (List Val) → Option (Table × Int)
  | 0, _, _ => none
  | n1 + 1, i8, i9 => cond (decide (i8 < (List.length q3 : Int))) (cond (decide (0 ≤ i8) && decide (i8 < (List.length q3 : Int))) (cond (decide (0 ≤ i8) && decide (i8 < (List.length i9 : Int))) ((f64_l1 fu a0 a1 q3 q4 n1) (IntKind.i64.wrap (i8 + 1)) (i9.set i8.toNat ((q3.getD i8.toNat default).def_))) none) none) ((f99 fu q3 i9 a1).bind fun q11 => cond (!q11.1) ((f80 fu a0).bind fun q12 => some (q12, 1)) (cond (decide (List.length q4.rows + List.length ([(⟨a0.next, (List.length a0.changes : Int), q11.2⟩ : Row)] : List Row) ≤ CAP)) ((f77 (q4.rows ++ ([(⟨a0.next, (List.length a0.changes : Int), q11.2⟩ : Row)] : List Row))).bind fun q15 => (f58 fu q3 q11.2).bind fun q17 => cond (!q17) ((f80 fu a0).bind fun q18 => some (q18, 2)) ((f59 fu (⟨q4.first, q4.changes, q15, IntKind.i64.wrap (q4.next + 1)⟩ : Table)).bind fun q20 => cond (!q20) ((f80 fu a0).bind fun q21 => some (q21, 3)) (cond (decide ((List.length a0.rows : Int) = 8)) (f64_j2 fu a0 q4 q15 (f64_l1 fu a0 a1 q3 q4 n1) true) (f64_j2 fu a0 q4 q15 (f64_l1 fu a0 a1 q3 q4 n1) (decide (a0.next = 60)))))) none))
def f64 (fu : Nat) (a0 : Table) (a1 : List Set) : Option (Table × Int) := (f66 fu a0).bind fun q3 => (f80 fu a0).bind fun q4 => cond (decide (0 ≤ (List.length q3 : Int)) && decide ((List.length q3 : Int) ≤ (CAP : Int))) (f64_l1 fu a0 a1 q3 q4 fu 0 (List.replicate (List.length q3 : Int).toNat d0_47)) none
theorem n64 : ∃ fn c, Tryz.prog.funcs[44]? = some fn ∧ (fn.name == "runtime.NumGoroutine") = false ∧ fn.body = some c := ⟨_, _, Tryz.func44, by kernel_rfl, rfl⟩
theorem c64 (fu : Nat) (a0 : Table) (a1 : List Set) : Ctr Tryz.prog 44 [tTable.va a0, (tL tSet).va a1] [] (f64 fu a0 a1) (fun _ _ => []) (fun q => tup [tTable.va q.1, isI .i64 q.2]) := by
  refine Ctr.of_W Tryz.func44 rfl Tryz.ntmps44 rfl fun A w => ?_
  unfold f64
  refine .seq <| .region <| .box (T := tTable) rfl rfl fun b1 => .alloc tTableA d0A27 [] zA27 rfl fun b2 => .assign rfl rfl <| .nil ?_
  refine .seq <| .region <| .loadP 1 (Fld.self _) rfl rfl ty27 rfl <| .call0 (c66 fu _) n66 rfl rfl fun q3 => .assign rfl rfl <| .nil ?_
  refine .seq <| .region <| .loadP 1 (Fld.self _) rfl rfl ty27 rfl <| .callL0 (c80 fu _) n80 rfl rfl fun q4 p5 => .alloc tTableA d0A27 [] zA27 rfl fun b6 => .storeP 0 (Fld.self _) rfl rfl rfl ty27 <| .nil ?_
  refine .seq <| .region <| .move rfl rfl <| .lenL rfl Tryz.underlying23 rfl <| .makeSlice (T := tVal) rfl rfl Tryz.underlying42 el47 z47 rfl fun v7 => .assign rfl rfl <| .nil ?_
  refine .seq <| .seq <| .region <| .move rfl rfl <| .lenL rfl Tryz.underlying23 rfl <| .move rfl rfl <| .nil ?_
  refine .block <| .loop <| .keep [1, 2, 4, 6, 7, 18, 19, 20] [8] rfl ?_
  refine (show ∀ (n1 : Nat) (i8 : Int) (i9 : List Val), W _ _ _ _ _ ⟨[(1, (tL tSet).va a1, none), (2, isP b1 0, none), (4, isP b2 0, none), (6, (tL tCol).va q3, none), (7, isP b6 0, none), (18, (tL tCol).va q3, none), (19, isI .i64 (List.length q3 : Int), none), (20, isI .i64 i8, none), (8, isV v7, some v7)], [arrO tVal v7 i9, boxO b6 tTableA (⟨q4.first, (p5.2, q4.changes), p5.1, q4.next⟩ : TableA) [], arrO tRow p5.1 q4.rows, appO 10 p5.2, boxO b2 tTableA (⟨([] : List Col), ((.slice none 0 0), ([] : List Change)), (.slice none 0 0), (0 : Int)⟩ : TableA) [], boxO b1 tTable a0 []]⟩ (f64_l1 fu a0 a1 q3 q4 n1 i8 i9) from ?_) fu _ _
  intro n1
  induction n1 with
  | zero => exact fun _ _ => .stop
  | succ n1 ih1 =>
    intro i8 i9
    refine .inLoop <| .seq <| .region <| .bin rfl rfl rfl rfl <| .nil ?_
    refine .seq <| .cond rfl (fun _ => ?_) (fun _ => ?_)
    · refine .skip <| .seq <| .block <| .seq <| .region <| .move rfl rfl <| .elemAt rfl rfl Tryz.underlying23 ty52 rfl <| .load rfl ty52 rfl <| .alloc tCol d0_52 [] z52 rfl fun b10 => .assign rfl rfl <| .storeP 0 (Fld.self _) rfl rfl rfl ty52 <| .nil ?_
      refine .region <| .move rfl rfl <| .move rfl rfl <| .fieldP rfl fa52_4 rfl <| .loadP 0 fCol_4 rfl rfl ty47 rfl <| .elemA 1 rfl rfl rfl Tryz.underlying42 ty47 rfl <| .storeA 1 (Fld.self _) rfl rfl rfl ty47 <| .nil ?_
      refine .inBlock <| .region <| .bin rfl rfl rfl rfl <| .move rfl rfl <| .nil ?_
      exact .keep [1, 2, 4, 6, 7, 18, 19, 20] [8] rfl (.drop (.cons _ <| .cons_cons _ <| .cons_cons _ <| .cons_cons _ <| .cons_cons _ <| .cons_cons _ <| .cons_cons _ <| .slnil) <| ih1 _ _)
    · refine .exit rfl <| .seq <| .seq <| .region <| .move rfl rfl <| .move rfl rfl <| .move rfl rfl <| .call1 0 (c99 fu _ _ _ _) rfl n99 rfl rfl fun q11 => .not rfl rfl <| .nil ?_
      refine .cond rfl (fun _ => ?_) (fun _ => ?_)
      · refine .seq <| .region <| .loadP 5 (Fld.self _) rfl rfl ty27 rfl <| .callL0 (c80 fu _) n80 rfl rfl fun q12 p13 => .storeP 6 (Fld.self _) rfl rfl rfl ty27 <| .assign rfl rfl <| .nil ?_
        exact .frzBox 6 0 conv27 rfl rfl <| .ret2 Tryz.func44 Tryz.results44 (.cell 6 rfl rfl ty27) (.tmp rfl) rfl (fun _ => .cons _ <| .cons _ <| .cons _ <| .cons _ <| .cons _ <| .cons _ <| .cons _ <| .cons _ <| .slnil)
      · refine .skip <| .seq <| .region <| .fieldP rfl fa27_2 rfl <| .loadR 1 fTableA_2 rfl rfl ty25 rfl <| .know 39 rfl <| .fieldP rfl fa27_3 rfl <| .loadP 5 fTable_3 rfl rfl ty3 rfl <| .fieldP rfl fa27_1 rfl <| .loadP 5 fTable_1 rfl rfl ty24 rfl <| .lenL rfl Tryz.underlying24 rfl <| .move rfl rfl <| .frz 0 8 rfl rfl <| .also 45 8 rfl rfl <| .build rfl st37 z37 (.cons fRow_0 rfl rfl <| .cons fRow_1 rfl rfl <| .cons fRow_2 rfl rfl <| .nil) rfl <| .litN (T := tRow) Tryz.underlying25 el37 rfl rfl (.cons rfl <| .nil) rfl <| .appA (T := tRow) 2 rfl rfl rfl Tryz.underlying25 el37 rfl fun v14 => .frz 2 48 rfl rfl <| .callL0 (c77 _) n77 rfl rfl fun q15 v16 => .unRaw 49 rfl <| .fieldP rfl fa27_2 rfl <| .toRaw (T := tRow) 0 49 rfl rfl <| .storeP 2 fTableA_2 rfl rfl rfl ty25 <| .nil ?_
        refine .seq <| .region <| .fieldP rfl fa27_3 rfl <| .loadP 2 fTableA_3 rfl rfl ty3 rfl <| .bin rfl rfl rfl rfl <| .fieldP rfl fa27_3 rfl <| .storeP 2 fTableA_3 rfl rfl rfl ty3 <| .nil ?_
        refine .seq <| .block <| .seq <| .region <| .move rfl rfl <| .move rfl rfl <| .call0 (c58 fu _ _) n58 rfl rfl fun q17 => .not rfl rfl <| .assign rfl rfl <| .nil ?_
        refine .cond rfl (fun _ => ?_) (fun _ => ?_)
        · refine .seq <| .region <| .loadP 6 (Fld.self _) rfl rfl ty27 rfl <| .callL0 (c80 fu _) n80 rfl rfl fun q18 p19 => .storeP 7 (Fld.self _) rfl rfl rfl ty27 <| .assign rfl rfl <| .nil ?_
          exact .frzBox 7 0 conv27 rfl rfl <| .ret2 Tryz.func44 Tryz.results44 (.cell 7 rfl rfl ty27) (.tmp rfl) rfl (fun _ => .cons _ <| .cons _ <| .cons _ <| .cons _ <| .cons _ <| .cons _ <| .cons _ <| .cons _ <| .cons _ <| .slnil)
        · refine .seq <| .frzBox 2 0 conv27 rfl rfl <| .region <| .loadP 2 (Fld.self _) rfl rfl ty27 rfl <| .call0 (c59 fu _) n59 rfl rfl fun q20 => .not rfl rfl <| .assign rfl rfl <| .nil ?_
          refine .cond rfl (fun _ => ?_) (fun _ => ?_)
          · refine .seq <| .region <| .loadP 6 (Fld.self _) rfl rfl ty27 rfl <| .callL0 (c80 fu _) n80 rfl rfl fun q21 p22 => .storeP 7 (Fld.self _) rfl rfl rfl ty27 <| .assign rfl rfl <| .nil ?_
            exact .frzBox 7 0 conv27 rfl rfl <| .ret2 Tryz.func44 Tryz.results44 (.cell 7 rfl rfl ty27) (.tmp rfl) rfl (fun _ => .cons _ <| .cons _ <| .cons _ <| .cons _ <| .cons _ <| .cons _ <| .cons _ <| .cons _ <| .cons _ <| .slnil)
          · refine .seq <| .join1 (fun i23 => ⟨[(2, isP b1 0, none), (4, isP b2 0, none), (7, isP b6 0, none), (68, isB i23, none)], [boxO b6 tTable (⟨q4.first, q4.changes, q15, IntKind.i64.wrap (q4.next + 1)⟩ : Table) [], boxO b2 tTableA (⟨([] : List Col), ((.slice none 0 0), ([] : List Change)), (.slice none 0 0), (0 : Int)⟩ : TableA) [], boxO b1 tTable a0 []]⟩) (fun i23 => f64_j2 fu a0 q4 q15 (f64_l1 fu a0 a1 q3 q4 n1) i23) (fun i23 => ?_) (fun hj2 => ?_)
            · refine .cond rfl (fun _ => ?_) (fun _ => ?_)
              · refine .seq <| .region <| .loadP 2 (Fld.self _) rfl rfl ty27 rfl <| .callL0 (c80 fu _) n80 rfl rfl fun q24 p25 => .storeP 3 (Fld.self _) rfl rfl rfl ty27 <| .assign rfl rfl <| .nil ?_
                exact .frzBox 3 0 conv27 rfl rfl <| .ret2 Tryz.func44 Tryz.results44 (.cell 3 rfl rfl ty27) (.tmp rfl) rfl (fun _ => .cons _ <| .cons _ <| .cons _ <| .cons _ <| .cons _ <| .slnil)
              · refine .skip <| .inBlock <| .seq <| .region <| .loadP 0 (Fld.self _) rfl rfl ty27 rfl <| .storeW 1 rfl rfl rfl rfl ty27 <| .assign rfl rfl <| .nil ?_
                exact .ret2 Tryz.func44 Tryz.results44 (.cell 1 rfl rfl ty27) (.tmp rfl) rfl (fun _ => .cons _ <| .cons _ <| .cons _ <| .slnil)
            · refine .region <| .fieldP rfl fa27_2 rfl <| .loadP 6 fTable_2 rfl rfl ty25 rfl <| .lenL rfl Tryz.underlying25 rfl <| .bin rfl rfl rfl rfl <| .move rfl rfl <| .split 73 rfl (fun _ => ?_) (fun _ => ?_)
              · refine .off rfl rfl rfl <| .off rfl rfl rfl <| .off rfl rfl rfl <| .pickT rfl rfl rfl <| .assign rfl rfl <| .nil ?_
                exact .keep [2, 4, 7, 68] [] rfl (.drop (.cons _ <| .cons _ <| .cons_cons _ <| .cons _ <| .cons _ <| .cons_cons _ <| .cons_cons _ <| .slnil) <| hj2 _)
              · refine .on rfl rfl <| .fieldP rfl fa27_3 rfl <| .on rfl rfl <| .loadP 6 fTable_3 rfl rfl ty3 rfl <| .on rfl rfl <| .bin rfl rfl rfl rfl <| .pickF rfl rfl rfl <| .assign rfl rfl <| .nil ?_
                exact .keep [2, 4, 7, 68] [] rfl (.drop (.cons _ <| .cons _ <| .cons_cons _ <| .cons _ <| .cons _ <| .cons_cons _ <| .cons_cons _ <| .slnil) <| hj2 _)
def f21 (fu : Nat) (a0 : Table) (a1 : List Set) : Option (Table × Int) := (f19 fu a0).bind fun q3 => cond (!q3) (some ((⟨d0_27.first, d0_27.changes, d0_27.rows, d0_27.next⟩ : Table), 1)) ((f64 fu a0 a1).bind fun q4 => some (q4.1, q4.2))
theorem n21 : ∃ fn c, Tryz.prog.funcs[15]? = some fn ∧ (fn.name == "runtime.NumGoroutine") = false ∧ fn.body = some c := ⟨_, _, Tryz.func15, by kernel_rfl, rfl⟩
theorem c21 (fu : Nat) (a0 : Table) (a1 : List Set) : Ctr Tryz.prog 15 [tTable.va a0, (tL tSet).va a1] [] (f21 fu a0 a1) (fun _ _ => []) (fun q => tup [tTable.va q.1, isI .i64 q.2]) := by
  refine Ctr.of_W Tryz.func15 rfl Tryz.ntmps15 rfl fun A w => ?_
  unfold f21
  refine .seq <| .region <| .box (T := tTable) rfl rfl fun b1 => .alloc tTable d0_27 [] z27 rfl fun b2 => .assign rfl rfl <| .nil ?_
  refine .seq <| .seq <| .region <| .loadP 1 (Fld.self _) rfl rfl ty27 rfl <| .call0 (c19 fu _) n19 rfl rfl fun q3 => .not rfl rfl <| .nil ?_
  refine .cond rfl (fun _ => ?_) (fun _ => ?_)
  · refine .seq <| .region <| .build rfl st27 z27 (.nil) rfl <| .storeP 0 (Fld.self _) rfl rfl rfl ty27 <| .assign rfl rfl <| .nil ?_
    exact .ret2 Tryz.func15 Tryz.results15 (.cell 0 rfl rfl ty27) (.tmp rfl) rfl (fun _ => .cons _ <| .cons _ <| .slnil)
  · refine .skip <| .seq <| .region <| .loadP 1 (Fld.self _) rfl rfl ty27 rfl <| .move rfl rfl <| .call0 (c64 fu _ _) n64 rfl rfl fun q4 => .extract rfl rfl rfl <| .extract rfl rfl rfl <| .storeP 0 (Fld.self _) rfl rfl rfl ty27 <| .assign rfl rfl <| .nil ?_
    exact .ret2 Tryz.func15 Tryz.results15 (.cell 0 rfl rfl ty27) (.tmp rfl) rfl (fun _ => .cons _ <| .cons _ <| .slnil)
def f23 (fu : Nat) (a0 : Table) : Option (List Col) := (f19 fu a0).bind fun q2 => cond (!q2) (some ([] : List Col)) ((f66 fu a0).bind fun q3 => some q3)
theorem n23 : ∃ fn c, Tryz.prog.funcs[19]? = some fn ∧ (fn.name == "runtime.NumGoroutine") = false ∧ fn.body = some c := ⟨_, _, Tryz.func19, by kernel_rfl, rfl⟩
theorem c23 (fu : Nat) (a0 : Table) : Ctr Tryz.prog 19 [tTable.va a0] [] (f23 fu a0) (fun _ _ => []) (fun q => (tL tCol).va q) := by
  refine Ctr.of_W Tryz.func19 rfl Tryz.ntmps19 rfl fun A w => ?_
  unfold f23
  refine .seq <| .region <| .box (T := tTable) rfl rfl fun b1 => .assignNil tCol rfl <| .nil ?_
  refine .seq <| .seq <| .region <| .loadP 0 (Fld.self _) rfl rfl ty27 rfl <| .call0 (c19 fu _) n19 rfl rfl fun q2 => .not rfl rfl <| .nil ?_
  refine .cond rfl (fun _ => ?_) (fun _ => ?_)
  · refine .seq <| .region <| .assignNil tCol rfl <| .nil ?_
    exact .ret1 Tryz.func19 Tryz.results19 (.tmp rfl) rfl (fun _ _ => .cons _ <| .slnil)
  · refine .skip <| .seq <| .region <| .loadP 0 (Fld.self _) rfl rfl ty27 rfl <| .call0 (c66 fu _) n66 rfl rfl fun q3 => .assign rfl rfl <| .nil ?_
    exact .ret1 Tryz.func19 Tryz.results19 (.tmp rfl) rfl (fun _ _ => .cons _ <| .slnil)
end Go.Proofs.YtlkhmcajnfombaaGreatDoor
