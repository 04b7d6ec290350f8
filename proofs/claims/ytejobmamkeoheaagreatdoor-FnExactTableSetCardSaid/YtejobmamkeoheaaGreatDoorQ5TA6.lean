/- Functions of the program: what each answers, and that the machine answers so. -/
import Derived.Test.YtejobmamkeoheaaGreatDoorQ5TA5
import Derived.KernelRfl
set_option linter.all false
namespace Go.Proofs.YtejobmamkeoheaaGreatDoor
open Go Go.HL
def f101_l1 (a0 : List Col) : Nat → Int → (List Val) → Option (List Val)
  | 0, _, _ => none
  | n1 + 1, i2, i3 => cond (decide (i2 < (List.length a0 : Int))) (cond (decide (0 ≤ i2) && decide (i2 < (List.length a0 : Int))) (cond (decide (List.length i3 + List.length ([(a0.getD i2.toNat default).def_] : List Val) ≤ CAP)) ((f101_l1 a0 n1) (IntKind.i64.wrap (i2 + 1)) (i3 ++ ([(a0.getD i2.toNat default).def_] : List Val))) none) none) (some i3)
def f101 (fu : Nat) (a0 : List Col) : Option (List Val) := f101_l1 a0 fu 0 ([] : List Val)
theorem n101 : ∃ fn c, Tryz.prog.funcs[90]? = some fn ∧ (fn.name == "runtime.NumGoroutine") = false ∧ fn.body = some c := ⟨_, _, Tryz.func90, by kernel_rfl, rfl⟩
theorem c101 (fu : Nat) (a0 : List Col) : Ctr Tryz.prog 90 [(tL tCol).va a0] [] (f101 fu a0) (fun _ _ => []) (fun q => (tL tVal).va q) := by
  refine Ctr.of_W Tryz.func90 rfl Tryz.ntmps90 rfl fun A w => ?_
  unfold f101
  refine .seq <| .region <| .assignNil tVal rfl <| .nil ?_
  refine .seq <| .region <| .lit (T := tVal) Tryz.underlying102 el47 rfl rfl (.nil) rfl fun v1 => .assign rfl rfl <| .nil ?_
  refine .seq <| .seq <| .region <| .assign rfl rfl <| .nil ?_
  refine .block <| .loop <| .keep [0, 4] [3] rfl ?_
  refine (show ∀ (n1 : Nat) (i2 : Int) (i3 : List Val) (v4 : Value), W _ _ _ _ _ ⟨[(0, (tL tCol).va a0, none), (4, isI .i64 i2, none), (3, (tL tVal).va i3, some v4)], [appO 3 v4]⟩ (f101_l1 a0 n1 i2 i3) from ?_) fu _ _ _
  intro n1
  induction n1 with
  | zero => exact fun _ _ _ => .stop
  | succ n1 ih1 =>
    intro i2 i3 v4
    refine .inLoop <| .seq <| .seq <| .region <| .move rfl rfl <| .move rfl rfl <| .lenL rfl Tryz.underlying28 rfl <| .bin rfl rfl rfl rfl <| .nil ?_
    refine .cond rfl (fun _ => ?_) (fun _ => ?_)
    · refine .skip <| .seq <| .block <| .region <| .move rfl rfl <| .move rfl rfl <| .move rfl rfl <| .elemAt rfl rfl Tryz.underlying28 ty52 rfl <| .fieldAt fCol_4 rfl fa52_4 rfl <| .load rfl ty47 rfl <| .litN (T := tVal) Tryz.underlying102 el47 rfl rfl (.cons rfl <| .nil) rfl <| .app (T := tVal) 0 rfl rfl rfl Tryz.underlying102 el47 rfl fun v5 => .assign rfl rfl <| .nil ?_
      refine .inBlock <| .region <| .move rfl rfl <| .bin rfl rfl rfl rfl <| .assign rfl rfl <| .nil ?_
      exact .keep [0, 4] [3] rfl (ih1 _ _ _)
    · refine .exit rfl <| .seq <| .region <| .move rfl rfl <| .assign rfl rfl <| .nil ?_
      exact .ret1 Tryz.func90 Tryz.results90 (.tmp rfl) rfl (fun _ _ => .cons _ <| .slnil)
def f65_j2 (a0 : Table) (q5 : (List Val) × Bool) (i9 : Int) : Option (Table × Int) := cond (!decide (i9 = 0)) (some (a0, i9)) (cond (decide (List.length a0.rows + List.length ([(⟨a0.next, (List.length a0.changes : Int), q5.1⟩ : Row)] : List Row) ≤ CAP)) (some ((⟨a0.first, a0.changes, a0.rows ++ ([(⟨a0.next, (List.length a0.changes : Int), q5.1⟩ : Row)] : List Row), IntKind.i64.wrap (a0.next + 1)⟩ : Table), i9)) none)
def f65_j1 (a0 : Table) (q5 : (List Val) × Bool) (q7 : Int) (i8 : Bool) : Option (Table × Int) := cond i8 (f65_j2 a0 q5 4) (f65_j2 a0 q5 q7)
def f65 (fu : Nat) (a0 : Table) (a1 : List Set) : Option (Table × Int) := (f53o fu a0).bind fun q3 => (f101 fu q3).bind fun q4 => (f100 fu q3 q4 a1).bind fun q5 => cond (!q5.2) (some (a0, 1)) ((f102o fu a0 (⟨a0.next, (List.length a0.changes : Int), q5.1⟩ : Row)).bind fun q7 => cond (decide (q7 = 0)) (cond (decide (8 ≤ (List.length a0.rows : Int))) (f65_j1 a0 q5 q7 true) (f65_j1 a0 q5 q7 (decide (60 ≤ a0.next)))) (f65_j1 a0 q5 q7 false))
theorem n65 : ∃ fn c, Tryz.prog.funcs[51]? = some fn ∧ (fn.name == "runtime.NumGoroutine") = false ∧ fn.body = some c := ⟨_, _, Tryz.func51, by kernel_rfl, rfl⟩
theorem c65 (fu : Nat) (vp0 : Value) (cp0 : Value) (a0 : Table) (a1 : List Set) : CtrL Tryz.prog 51 [tTableA.va (⟨a0.first, (cp0, a0.changes), vp0, a0.next⟩ : TableA), (tL tSet).va a1] [arrO tRow vp0 a0.rows] (f65 fu a0 a1) (fun v => tabV (tupV 0 v)) (fun q p => [arrO tRow p.1 q.1.rows]) (fun q p => tup [tTableA.va (⟨q.1.first, (p.2, q.1.changes), p.1, q.1.next⟩ : TableA), isI .i64 q.2]) := by
  refine CtrL.of_W Tryz.func51 rfl Tryz.ntmps51 rfl fun A w => ?_
  unfold f65
  refine .seq <| .region <| .box (T := tTableA) rfl rfl fun b1 => .alloc tTableA d0A27 [] zA27 rfl fun b2 => .assign rfl rfl <| .nil ?_
  refine .seq <| .region <| .loadP 1 (Fld.self _) rfl rfl ty27 rfl <| .callR 2 (c53o fu _ _ _) rfl n53 rfl rfl fun q3 => .assign rfl rfl <| .nil ?_
  refine .seq <| .region <| .move rfl rfl <| .move rfl rfl <| .call0 (c101 fu _) n101 rfl rfl fun q4 => .move rfl rfl <| .call0 (c100 fu _ _ _) n100 rfl rfl fun q5 => .move rfl rfl <| .extract rfl rfl rfl <| .extract rfl rfl rfl <| .assign rfl rfl <| .assign rfl rfl <| .nil ?_
  refine .seq <| .seq <| .region <| .move rfl rfl <| .not rfl rfl <| .nil ?_
  refine .cond rfl (fun _ => ?_) (fun _ => ?_)
  · refine .seq <| .region <| .loadP 1 (Fld.self _) rfl rfl ty27 rfl <| .storeP 0 (Fld.self _) rfl rfl rfl ty27 <| .assign rfl rfl <| .nil ?_
    exact .retL2 (vp0, cp0) Tryz.func51 Tryz.results51 (.cell 0 rfl rfl ty27) (.tmp rfl) rfl (fun _ _ _ h => tabV_of h) (.cons _ <| .cons _ <| .cons_cons _ <| .slnil)
  · refine .skip <| .seq <| .region <| .fieldP rfl fa27_3 rfl <| .loadP 1 fTableA_3 rfl rfl ty3 rfl <| .fieldP rfl fa27_1 rfl <| .loadKV 1 fTableA_1 rfl rfl ty24 rfl <| .lenL rfl Tryz.underlying29 rfl <| .move rfl rfl <| .build rfl st37 z37 (.cons fRow_0 rfl rfl <| .cons fRow_1 rfl rfl <| .cons fRow_2 rfl rfl <| .nil) rfl <| .alloc tRow d0_37 [] z37 rfl fun b6 => .storeP 0 (Fld.self _) rfl rfl rfl ty37 <| .nil ?_
    refine .seq <| .region <| .loadP 2 (Fld.self _) rfl rfl ty27 rfl <| .loadP 0 (Fld.self _) rfl rfl ty37 rfl <| .callR 3 (c102o fu _ _ _ _) rfl n102 rfl rfl fun q7 => .assign rfl rfl <| .nil ?_
    refine .seq <| .seq <| .join1 (fun i8 => ⟨[(2, isP b1 0, none), (4, isP b2 0, none), (9, isP b6 0, none), (10, isI .i64 q7, none), (46, isB i8, none)], [boxO b6 tRow (⟨a0.next, (List.length a0.changes : Int), q5.1⟩ : Row) [], boxO b2 tTableA (⟨([] : List Col), ((.slice none 0 0), ([] : List Change)), (.slice none 0 0), (0 : Int)⟩ : TableA) [], boxO b1 tTableA (⟨a0.first, (cp0, a0.changes), vp0, a0.next⟩ : TableA) [], arrO tRow vp0 a0.rows]⟩) (fun i8 => f65_j1 a0 q5 q7 i8) (fun i8 => ?_) (fun hj1 => ?_)
    · refine .join1 (fun i9 => ⟨[(2, isP b1 0, none), (4, isP b2 0, none), (9, isP b6 0, none), (10, isI .i64 i9, none)], [boxO b6 tRow (⟨a0.next, (List.length a0.changes : Int), q5.1⟩ : Row) [], boxO b2 tTableA (⟨([] : List Col), ((.slice none 0 0), ([] : List Change)), (.slice none 0 0), (0 : Int)⟩ : TableA) [], boxO b1 tTableA (⟨a0.first, (cp0, a0.changes), vp0, a0.next⟩ : TableA) [], arrO tRow vp0 a0.rows]⟩) (fun i9 => f65_j2 a0 q5 i9) (fun i9 => ?_) (fun hj2 => ?_)
      · refine .seq <| .seq <| .region <| .move rfl rfl <| .bin rfl rfl rfl rfl <| .nil ?_
        refine .cond rfl (fun _ => ?_) (fun _ => ?_)
        · refine .seq <| .region <| .loadP 2 (Fld.self _) rfl rfl ty27 rfl <| .move rfl rfl <| .storeP 1 (Fld.self _) rfl rfl rfl ty27 <| .assign rfl rfl <| .nil ?_
          exact .retL2 (vp0, cp0) Tryz.func51 Tryz.results51 (.cell 1 rfl rfl ty27) (.tmp rfl) rfl (fun _ _ _ h => tabV_of h) (.cons _ <| .cons _ <| .cons _ <| .cons_cons _ <| .slnil)
        · refine .skip <| .seq <| .region <| .fieldP rfl fa27_2 rfl <| .loadR 2 fTableA_2 rfl rfl ty25 rfl <| .know 52 rfl <| .loadP 0 (Fld.self _) rfl rfl ty37 rfl <| .litN (T := tRow) Tryz.underlying30 el37 rfl rfl (.cons rfl <| .nil) rfl <| .appA (T := tRow) 3 rfl rfl rfl Tryz.underlying30 el37 rfl fun v10 => .fieldP rfl fa27_2 rfl <| .toRaw (T := tRow) 3 55 rfl rfl <| .storeP 2 fTableA_2 rfl rfl rfl ty25 <| .nil ?_
          refine .seq <| .region <| .fieldP rfl fa27_3 rfl <| .loadP 2 fTableA_3 rfl rfl ty3 rfl <| .bin rfl rfl rfl rfl <| .fieldP rfl fa27_3 rfl <| .storeP 2 fTableA_3 rfl rfl rfl ty3 <| .nil ?_
          refine .seq <| .region <| .loadP 2 (Fld.self _) rfl rfl ty27 rfl <| .move rfl rfl <| .storeP 1 (Fld.self _) rfl rfl rfl ty27 <| .assign rfl rfl <| .nil ?_
          exact .retL2 (v10, cp0) Tryz.func51 Tryz.results51 (.cell 1 rfl rfl ty27) (.tmp rfl) rfl (fun _ _ _ h => tabV_of h) (.cons _ <| .cons _ <| .cons _ <| .cons_cons _ <| .slnil)
      · refine .cond rfl (fun _ => ?_) (fun _ => ?_)
        · refine .region <| .assign rfl rfl <| .nil ?_
          exact .keep [2, 4, 9, 10] [] rfl (hj2 _)
        · exact .skip <| .keep [2, 4, 9, 10] [] rfl (hj2 _)
    · refine .region <| .move rfl rfl <| .bin rfl rfl rfl rfl <| .move rfl rfl <| .split 36 rfl (fun _ => ?_) (fun _ => ?_)
      · refine .on rfl rfl <| .fieldP rfl fa27_2 rfl <| .on rfl rfl <| .loadR 2 fTableA_2 rfl rfl ty25 rfl <| .know 38 rfl <| .on rfl rfl <| .lenA 3 rfl rfl Tryz.underlying30 rfl <| .on rfl rfl <| .bin rfl rfl rfl rfl <| .on rfl rfl <| .move rfl rfl <| .split 41 rfl (fun _ => ?_) (fun _ => ?_)
        · refine .off rfl rfl rfl <| .off rfl rfl rfl <| .off rfl rfl rfl <| .on rfl rfl <| .pickT rfl rfl rfl <| .pickT rfl rfl rfl <| .nil ?_
          exact .keep [2, 4, 9, 10, 46] [] rfl (hj1 _)
        · refine .on rfl rfl <| .fieldP rfl fa27_3 rfl <| .on rfl rfl <| .loadP 2 fTableA_3 rfl rfl ty3 rfl <| .on rfl rfl <| .bin rfl rfl rfl rfl <| .on rfl rfl <| .pickF rfl rfl rfl <| .pickT rfl rfl rfl <| .nil ?_
          exact .keep [2, 4, 9, 10, 46] [] rfl (hj1 _)
      · refine .off rfl rfl rfl <| .off rfl rfl rfl <| .off rfl rfl rfl <| .off rfl rfl rfl <| .off rfl rfl rfl <| .offU rfl rfl rfl <| .offU rfl rfl rfl <| .offU rfl rfl rfl <| .off rfl rfl rfl <| .pickF rfl rfl rfl <| .nil ?_
        exact .keep [2, 4, 9, 10, 46] [] rfl (hj1 _)
end Go.Proofs.YtejobmamkeoheaaGreatDoor
