/- Functions of the program: what each answers, and that the machine answers so. -/
import Derived.Test.YtlkhmcajnfombaaGreatDoorQ1006A5
import Derived.KernelRfl
set_option linter.unusedVariables false
set_option linter.unusedSimpArgs false
set_option linter.deprecated false
set_option linter.unusedSectionVars false
set_option linter.all false
namespace Go.Proofs.YtlkhmcajnfombaaGreatDoor
open Go Go.HL
def f93_j1 (i12 : Table) (i14 : Rd) : Option (Table × Rd) := some (i12, i14)
def f93_j2 (fu : Nat) (q3 : Table) (q6 : Int × Rd) (i20 : Bool) : Option (Table × Rd) := cond i20 (cond (decide (0 ≤ (0 : Int)) && decide ((0 : Int) < (List.length q3.rows : Int))) ((f97 fu q6.2).bind fun q21 => cond (decide (0 ≤ (0 : Int)) && decide ((0 : Int) < (List.length ((q3.rows.getD (0 : Int).toNat default).vals) : Int))) (f93_j1 (⟨q3.first, q3.changes, q3.rows.set (0 : Int).toNat ({ (q3.rows.getD (0 : Int).toNat default) with vals := ((q3.rows.getD (0 : Int).toNat default).vals).set (0 : Int).toNat q21.1 } : Row), q3.next⟩ : Table) q21.2) none) none) (f93_j1 q3 q6.2)
def f93 (fu : Nat) (a0 : Rd) (a1 : Table) : Option (Table × Rd) := (f42 fu a1).bind fun q3 => (f74 fu a0 70).bind fun q6 => cond (decide (q6.1 = 0)) ((f123 fu q6.2 q3.first).bind fun q7 => (f123 fu q7.2 q7.1).bind fun q8 => (f123 fu q8.2 q8.1).bind fun q9 => (f123 fu q9.2 q9.1).bind fun q10 => some ((⟨q10.1, q3.changes, q3.rows, q3.next⟩ : Table), q10.2)) (cond (decide (q6.1 = 1)) (cond (decide (0 < (List.length q3.changes : Int))) (cond (decide (0 ≤ (1 : Int)) && decide ((1 : Int) ≤ (List.length q3.changes : Int)) && decide ((List.length q3.changes : Int) ≤ (List.length q3.changes : Int))) (some ((⟨q3.first, (q3.changes.take (List.length q3.changes : Int).toNat).drop (1 : Int).toNat, q3.rows, q3.next⟩ : Table), q6.2)) none) (some (q3, q6.2))) (cond (decide (q6.1 = 2)) (cond (decide (0 < (List.length q3.rows : Int))) ((f74 fu q6.2 (List.length q3.rows : Int)).bind fun q15 => (f73 fu q15.2 ([-1, 0, (List.length q3.changes : Int), 9] : List Int)).bind fun q16 => cond (decide (0 ≤ q15.1) && decide (q15.1 < (List.length q3.rows : Int))) (f93_j1 (⟨q3.first, q3.changes, q3.rows.set q15.1.toNat ({ (q3.rows.getD q15.1.toNat default) with ver := q16.1 } : Row), q3.next⟩ : Table) q16.2) none) (f93_j1 q3 q6.2)) (cond (decide (q6.1 = 3)) (cond (decide (0 < (List.length q3.rows : Int))) (cond (decide (0 ≤ (0 : Int)) && decide ((0 : Int) < (List.length q3.rows : Int))) (cond (decide (List.length q3.rows + List.length ([q3.rows.getD (0 : Int).toNat default] : List Row) ≤ CAP)) (f93_j1 (⟨q3.first, q3.changes, q3.rows ++ ([q3.rows.getD (0 : Int).toNat default] : List Row), q3.next⟩ : Table) q6.2) none) none) (f93_j1 q3 q6.2)) (cond (decide (q6.1 = 4)) ((f73 fu q6.2 ([0, 1, 60, 61] : List Int)).bind fun q18 => f93_j1 (⟨q3.first, q3.changes, q3.rows, q18.1⟩ : Table) q18.2) (cond (decide (q6.1 = 5)) (cond (decide (0 < (List.length q3.rows : Int))) ((f74 fu q6.2 (List.length q3.rows : Int)).bind fun q19 => cond (decide (0 ≤ q19.1) && decide (q19.1 < (List.length q3.rows : Int))) (cond (decide (List.length ((q3.rows.getD q19.1.toNat default).vals) + List.length ([(⟨d0_47.kind, d0_47.n, d0_47.text⟩ : Val)] : List Val) ≤ CAP)) (cond (decide (0 ≤ q19.1) && decide (q19.1 < (List.length q3.rows : Int))) (f93_j1 (⟨q3.first, q3.changes, q3.rows.set q19.1.toNat ({ (q3.rows.getD q19.1.toNat default) with vals := ((q3.rows.getD q19.1.toNat default).vals) ++ ([(⟨d0_47.kind, d0_47.n, d0_47.text⟩ : Val)] : List Val) } : Row), q3.next⟩ : Table) q19.2) none) none) none) (f93_j1 q3 q6.2)) (cond (decide (q6.1 = 6)) (cond (decide (0 < (List.length q3.rows : Int))) (cond (decide (0 ≤ (0 : Int)) && decide ((0 : Int) < (List.length q3.rows : Int))) (f93_j2 fu q3 q6 (decide (0 < (List.length ((q3.rows.getD (0 : Int).toNat default).vals) : Int)))) none) (f93_j2 fu q3 q6 false)) (f93_j1 q3 q6.2)))))))
theorem n93 : ∃ fn c, Tryz.prog.funcs[64]? = some fn ∧ (fn.name == "runtime.NumGoroutine") = false ∧ fn.body = some c := ⟨_, _, Tryz.func64, by kernel_rfl, rfl⟩
theorem c93 (fu : Nat) (bp0 : Nat) (a0 : Rd) (a1 : Table) : Ctr Tryz.prog 64 [isP bp0 0, tTable.va a1] [boxO bp0 tRd a0 []] (f93 fu a0 a1) (fun q _ => [boxO bp0 tRd q.2 []]) (fun q => tTable.va q.1) := by
  refine Ctr.of_W Tryz.func64 rfl Tryz.ntmps64 rfl fun A w => ?_
  unfold f93
  refine .pbind fun q3 hq3 => .pbind fun q6 hq6 => ?_
  by_cases e5 : q6.1 = 5
  · obtain ⟨K, hK⟩ : ∃ K : Nat, ∀ q, f74 fu q6.2 (List.length q3.rows : Int) = some q → q.1.toNat = K := by
      cases f74 fu q6.2 (List.length q3.rows : Int) with
      | none => exact ⟨0, fun q h => nomatch h⟩
      | some q => exact ⟨q.1.toNat, fun q' h' => by cases h'; rfl⟩
    refine .seq <| .region <| .box (T := tTable) rfl rfl fun b1 => .alloc tTableA d0A27 [] zA27 rfl fun b2 => .nil ?_
    refine .seq <| .region <| .loadP 1 (Fld.self _) rfl rfl ty27 rfl <| .bindK2 hq3 (fun r h => .callE (c42k K fu _) n42 rfl rfl h) fun p4 g => .alloc tTableA d0A27 [] zA27 rfl fun b5 => .storeP 0 (Fld.self _) rfl rfl rfl ty27 <| .nil ?_
    refine W_factLen 3 rfl fun hlen => ?_
    rw [← hlen]
    refine .seq <| .region <| .fieldP rfl fa27_2 rfl <| .loadR 0 fTableA_2 rfl rfl ty25 rfl <| .know 11 rfl <| .lenA (T := tRowA) 1 rfl rfl Tryz.underlying25 rfl <| .assign rfl rfl <| .nil ?_
    refine .seq <| .seq <| .region <| .move rfl rfl <| .bindK hq6 (fun r h => .call1 7 (c74 fu _ _ _) rfl n74 rfl rfl h) <| .nil ?_
    refine .block ?_
    refine .seq <| .region <| .bin rfl rfl rfl rfl <| .assign rfl rfl <| .nil ?_
    refine .cond rfl (fun hc => absurd (of_decide_eq_true hc) (by omega)) (fun _ => ?_)
    refine .seq <| .region <| .bin rfl rfl rfl rfl <| .assign rfl rfl <| .nil ?_
    refine .cond rfl (fun hc => absurd (of_decide_eq_true hc) (by omega)) (fun _ => ?_)
    refine .seq <| .region <| .bin rfl rfl rfl rfl <| .assign rfl rfl <| .nil ?_
    refine .cond rfl (fun hc => absurd (of_decide_eq_true hc) (by omega)) (fun _ => ?_)
    refine .seq <| .region <| .bin rfl rfl rfl rfl <| .assign rfl rfl <| .nil ?_
    refine .cond rfl (fun hc => absurd (of_decide_eq_true hc) (by omega)) (fun _ => ?_)
    refine .seq <| .region <| .bin rfl rfl rfl rfl <| .assign rfl rfl <| .nil ?_
    refine .cond rfl (fun hc => absurd (of_decide_eq_true hc) (by omega)) (fun _ => ?_)
    refine .seq <| .region <| .bin rfl rfl rfl rfl <| .assign rfl rfl <| .nil ?_
    refine .cond rfl (fun _ => ?_) (fun hc => absurd e5 (of_decide_eq_false hc))
    refine .seq <| .region <| .move rfl rfl <| .bin rfl rfl rfl rfl <| .nil ?_
    refine .cond rfl (fun _ => ?_) (fun _ => ?_)
    · refine .pbind fun q19 hq19 => ?_
      have hq := hK q19 (by rw [← hlen]; exact hq19)
      subst hq
      refine .seq <| .region <| .move rfl rfl <| .move rfl rfl <| .bindK hq19 (fun r h => .call1 7 (c74 fu _ _ _) rfl n74 rfl rfl h) <| .assign rfl rfl <| .nil ?_
      refine .pT fun h4 => .pT fun h5 => ?_
      have hlt : q19.1.toNat < q3.rows.length := by
        simp only [Bool.and_eq_true, decide_eq_true_eq] at h4
        omega
      refine W_bEq (by rw [kO_is hlt]) ?_
      refine .drawS 12 [] [11] [4] mix (by kernel_rfl) (.cons (fun _ _ _ hP hE h => .fieldP (hE.op rfl) fa27_2 rfl <| h) <| .cons (fun _ _ _ hP hE h => .loadR 0 fTableA_2 (hE.op rfl) (hP.get rfl rfl) ty25 rfl <| h) <| .cons (fun _ _ _ hP hE h => .move (hE.op rfl) rfl <| h) <| .cons (fun _ _ _ hP hE h => .fieldP (hE.op rfl) fa27_2 rfl <| h) <| .cons (fun _ _ _ hP hE h => .loadR 0 fTableA_2 (hE.op rfl) (hP.get rfl rfl) ty25 rfl <| h) <| .cons (fun _ _ _ hP hE h => .move (hE.op rfl) rfl <| h) <| .cons (fun _ _ _ hP hE h => .useC h4 <| .elemA (T := tRowA) 1 (hE.op rfl) (hE.op rfl) (hP.get rfl rfl) Tryz.underlying25 ty37 rfl <| h) <| .cons (fun _ _ _ hP hE h => .fieldA (hE.op rfl) fa37_2 rfl <| h) <| .cons (fun _ _ _ hP hE h => WO_loadAR 1 fRowA_2 (hE.op rfl) (hP.get rfl rfl) ty32 rfl <| h) <| .cons (fun _ _ _ hP hE h => .build rfl st47 z47 (.nil) rfl <| h) <| .cons (fun _ _ _ hP hE h => .litN (T := tVal) Tryz.underlying42 el47 rfl rfl (.cons (hE.op rfl) <| .nil) rfl <| h) <| .skip <| .nil) rfl <| .cons (d := 92) rfl rfl fun _ _ hE h => .useC h5 <| .appA (T := tVal) 4 (hE.op rfl) (hE.op rfl) rfl Tryz.underlying42 el47 rfl fun v9 => h _ _ (.same <| .same <| .same <| .same <| .hole rfl <| .same <| .same <| .same <| .nil) <| .nil <| .elemA (T := tRowA) 1 rfl rfl rfl Tryz.underlying25 ty37 rfl <| .fieldA rfl fa37_2 rfl <| .toRaw (T := tVal) 4 92 rfl rfl <| .storeA 1 fRowA_2 rfl rfl rfl ty32 <| .nil ?_
      refine W_factSet 3 v9 ((q3.rows.getD q19.1.toNat default).vals ++ [d0_47]) rfl <| W_bEq (by rw [← kO_set (ras := g) (w := v9) (xs := (q3.rows.getD q19.1.toNat default).vals ++ [d0_47]) hlen hlt]) <| W_close 1 3 4 rfl rfl rfl ?_
      refine .inBlock <| .seq <| .region <| .loadP 0 (Fld.self _) rfl rfl ty27 rfl <| .storeP 5 (Fld.self _) rfl rfl rfl ty27 <| .nil ?_
      exact .frzBox 5 1 conv27 rfl rfl <| .ret1 Tryz.func64 Tryz.results64 (.cell 5 rfl rfl ty27) rfl (fun _ _ => .cons _ <| .cons _ <| .cons _ <| .cons _ <| .cons _ <| .cons _ <| .cons _ <| .cons_cons _ <| .slnil)
    · refine .skip <| W_close 1 3 4 rfl rfl rfl ?_
      refine .inBlock <| .seq <| .region <| .loadP 0 (Fld.self _) rfl rfl ty27 rfl <| .storeP 5 (Fld.self _) rfl rfl rfl ty27 <| .nil ?_
      exact .frzBox 5 1 conv27 rfl rfl <| .ret1 Tryz.func64 Tryz.results64 (.cell 5 rfl rfl ty27) rfl (fun _ _ => .cons _ <| .cons _ <| .cons _ <| .cons _ <| .cons _ <| .cons _ <| .cons _ <| .cons_cons _ <| .slnil)
  · by_cases e6 : q6.1 = 6
    · refine .seq <| .region <| .box (T := tTable) rfl rfl fun b1 => .alloc tTableA d0A27 [] zA27 rfl fun b2 => .nil ?_
      refine .seq <| .region <| .loadP 1 (Fld.self _) rfl rfl ty27 rfl <| .bindK2 hq3 (fun r h => .callE (c42k 0 fu _) n42 rfl rfl h) fun p4 g => .alloc tTableA d0A27 [] zA27 rfl fun b5 => .storeP 0 (Fld.self _) rfl rfl rfl ty27 <| .nil ?_
      refine W_factLen 3 rfl fun hlen => ?_
      rw [← hlen]
      refine .seq <| .region <| .fieldP rfl fa27_2 rfl <| .loadR 0 fTableA_2 rfl rfl ty25 rfl <| .know 11 rfl <| .lenA (T := tRowA) 1 rfl rfl Tryz.underlying25 rfl <| .assign rfl rfl <| .nil ?_
      refine .seq <| .seq <| .region <| .move rfl rfl <| .bindK hq6 (fun r h => .call1 7 (c74 fu _ _ _) rfl n74 rfl rfl h) <| .nil ?_
      refine .block ?_
      refine .seq <| .region <| .bin rfl rfl rfl rfl <| .assign rfl rfl <| .nil ?_
      refine .cond rfl (fun hc => absurd (of_decide_eq_true hc) (by omega)) (fun _ => ?_)
      refine .seq <| .region <| .bin rfl rfl rfl rfl <| .assign rfl rfl <| .nil ?_
      refine .cond rfl (fun hc => absurd (of_decide_eq_true hc) (by omega)) (fun _ => ?_)
      refine .seq <| .region <| .bin rfl rfl rfl rfl <| .assign rfl rfl <| .nil ?_
      refine .cond rfl (fun hc => absurd (of_decide_eq_true hc) (by omega)) (fun _ => ?_)
      refine .seq <| .region <| .bin rfl rfl rfl rfl <| .assign rfl rfl <| .nil ?_
      refine .cond rfl (fun hc => absurd (of_decide_eq_true hc) (by omega)) (fun _ => ?_)
      refine .seq <| .region <| .bin rfl rfl rfl rfl <| .assign rfl rfl <| .nil ?_
      refine .cond rfl (fun hc => absurd (of_decide_eq_true hc) (by omega)) (fun _ => ?_)
      refine .seq <| .region <| .bin rfl rfl rfl rfl <| .assign rfl rfl <| .nil ?_
      refine .cond rfl (fun hc => absurd (of_decide_eq_true hc) (by omega)) (fun _ => ?_)
      refine .seq <| .region <| .bin rfl rfl rfl rfl <| .assign rfl rfl <| .nil ?_
      refine .cond rfl (fun _ => ?_) (fun hc => absurd e6 (of_decide_eq_false hc))
      refine .seq <| .region <| .move rfl rfl <| .bin rfl rfl rfl rfl <| .move rfl rfl <| .split 99 rfl (fun hs => ?_) (fun _ => ?_)
      · have hlt : 0 < q3.rows.length := by have := of_decide_eq_true hs; omega
        refine WO_bEq (by rw [kO_is hlt]) ?_
        refine .on rfl rfl <| .fieldP rfl fa27_2 rfl <| .on rfl rfl <| .loadR 0 fTableA_2 rfl rfl ty25 rfl <| .know 101 rfl <| .on rfl rfl <| .elemA (T := tRowA) 1 rfl rfl rfl Tryz.underlying25 ty37 rfl <| .on rfl rfl <| .fieldA rfl fa37_2 rfl <| .on rfl rfl <| WO_loadAR 1 fRowA_2 rfl rfl ty32 rfl <| .on rfl rfl <| .lenA (T := tVal) 4 rfl rfl Tryz.underlying42 rfl <| .on rfl rfl <| .bin rfl rfl rfl rfl <| .pickT rfl rfl rfl <| .nil ?_
        refine .cond rfl (fun _ => ?_) (fun _ => ?_)
        · refine .pT fun h6 => .pbind fun q21 h7 => ?_
          have h6' : (decide (0 ≤ (0 : Int)) && decide ((0 : Int) < (List.length g : Int))) = true := by rw [hlen]; exact h6
          refine .drawS 7 [] [6] [7] mix (by kernel_rfl) (.cons (fun _ _ _ hP hE h => .fieldP (hE.op rfl) fa27_2 rfl <| h) <| .cons (fun _ _ _ hP hE h => .loadR 0 fTableA_2 (hE.op rfl) (hP.get rfl rfl) ty25 rfl <| h) <| .cons (fun _ _ _ hP hE h => .useC h6' <| .elemA (T := tRowA) 1 (hE.op rfl) (hE.op rfl) (hP.get rfl rfl) Tryz.underlying25 ty37 rfl <| h) <| .cons (fun _ _ _ hP hE h => .fieldA (hE.op rfl) fa37_2 rfl <| h) <| .cons (fun _ _ _ hP hE h => WO_loadAR 1 fRowA_2 (hE.op rfl) (hP.get rfl rfl) ty32 rfl <| h) <| .cons (fun _ _ _ hP hE h => .move (hE.op rfl) rfl <| h) <| .skip <| .nil) rfl <| .cons (d := 114) rfl rfl fun _ _ hE h => .bindE h7 (fun r h => .call1 7 (c97 fu _ _) rfl n97 (hE.ops rfl) rfl h) <| h _ _ (.same <| .same <| .same <| .same <| .same <| .same <| .same <| .hole rfl <| .nil) <| .nil <| .elemA (T := tVal) 4 rfl rfl rfl Tryz.underlying42 ty47 rfl <| .storeA 4 (Fld.self _) rfl rfl rfl ty47 <| .nil ?_
          refine W_factVals 3 ((q3.rows.getD 0 default).vals.set 0 q21.1) rfl <| W_bEq (by rw [show Int.toNat 0 = 0 from rfl, ← kO_set2 (K := 0) (ras := g) (xs := (q3.rows.getD 0 default).vals.set 0 q21.1) hlen hlt]) <| W_close 1 3 4 rfl rfl rfl ?_
          refine .inBlock <| .seq <| .region <| .loadP 0 (Fld.self _) rfl rfl ty27 rfl <| .storeP 5 (Fld.self _) rfl rfl rfl ty27 <| .nil ?_
          exact .frzBox 5 1 conv27 rfl rfl <| .ret1 Tryz.func64 Tryz.results64 (.cell 5 rfl rfl ty27) rfl (fun _ _ => .cons _ <| .cons _ <| .cons _ <| .cons _ <| .cons _ <| .cons _ <| .cons _ <| .cons_cons _ <| .slnil)
        · refine .skip <| W_bEq (by rw [← kO_is (ras := g) hlt]) <| W_close 1 3 4 rfl rfl rfl ?_
          refine .inBlock <| .seq <| .region <| .loadP 0 (Fld.self _) rfl rfl ty27 rfl <| .storeP 5 (Fld.self _) rfl rfl rfl ty27 <| .nil ?_
          exact .frzBox 5 1 conv27 rfl rfl <| .ret1 Tryz.func64 Tryz.results64 (.cell 5 rfl rfl ty27) rfl (fun _ _ => .cons _ <| .cons _ <| .cons _ <| .cons _ <| .cons _ <| .cons _ <| .cons _ <| .cons_cons _ <| .slnil)
      · refine .off rfl rfl rfl <| .off rfl rfl rfl <| .off rfl rfl rfl <| .off rfl rfl rfl <| .off rfl rfl rfl <| .off rfl rfl rfl <| .off rfl rfl rfl <| .pickF rfl rfl rfl <| .nil ?_
        refine .eqr (r' := f93_j1 q3 q6.2) rfl <| .condF rfl <| .skip <| W_close 1 3 4 rfl rfl rfl ?_
        refine .inBlock <| .seq <| .region <| .loadP 0 (Fld.self _) rfl rfl ty27 rfl <| .storeP 5 (Fld.self _) rfl rfl rfl ty27 <| .nil ?_
        exact .frzBox 5 1 conv27 rfl rfl <| .ret1 Tryz.func64 Tryz.results64 (.cell 5 rfl rfl ty27) rfl (fun _ _ => .cons _ <| .cons _ <| .cons _ <| .cons _ <| .cons _ <| .cons _ <| .cons _ <| .cons_cons _ <| .slnil)
    · refine .seq <| .region <| .box (T := tTable) rfl rfl fun b1 => .alloc tTableA d0A27 [] zA27 rfl fun b2 => .nil ?_
      refine .seq <| .region <| .loadP 1 (Fld.self _) rfl rfl ty27 rfl <| WO_bindL hq3 (fun r h => .callL0 (c42 fu _) n42 rfl rfl h) fun p4 => .alloc tTableA d0A27 [] zA27 rfl fun b5 => .storeP 0 (Fld.self _) rfl rfl rfl ty27 <| .nil ?_
      refine .seq <| .region <| .fieldP rfl fa27_2 rfl <| .loadR 0 fTableA_2 rfl rfl ty25 rfl <| .know 11 rfl <| .lenA 1 rfl rfl Tryz.underlying25 rfl <| .assign rfl rfl <| .nil ?_
      refine .seq <| .seq <| .region <| .move rfl rfl <| .bindK hq6 (fun r h => .call1 5 (c74 fu _ _ _) rfl n74 rfl rfl h) <| .nil ?_
      refine .block <| .seq <| .region <| .bin rfl rfl rfl rfl <| .assign rfl rfl <| .nil ?_
      refine .cond rfl (fun _ => ?_) (fun _ => ?_)
      · refine .region <| .move rfl rfl <| .move rfl rfl <| .move rfl rfl <| .move rfl rfl <| .fieldP rfl fa27_0 rfl <| .loadP 0 fTableA_0 rfl rfl ty23 rfl <| .call1 5 (c123 fu _ _ _) rfl n123 rfl rfl fun q7 => .call1 5 (c123 fu _ _ _) rfl n123 rfl rfl fun q8 => .call1 5 (c123 fu _ _ _) rfl n123 rfl rfl fun q9 => .call1 5 (c123 fu _ _ _) rfl n123 rfl rfl fun q10 => .fieldP rfl fa27_0 rfl <| .storeP 0 fTableA_0 rfl rfl rfl ty23 <| .nil ?_
        refine .inBlock <| .seq <| .region <| .loadP 0 (Fld.self _) rfl rfl ty27 rfl <| .storeP 3 (Fld.self _) rfl rfl rfl ty27 <| .nil ?_
        exact .frzBox 3 1 conv27 rfl rfl <| .ret1 Tryz.func64 Tryz.results64 (.cell 3 rfl rfl ty27) rfl (fun _ _ => .cons _ <| .cons _ <| .cons _ <| .cons _ <| .cons _ <| .cons_cons _ <| .slnil)
      · refine .seq <| .region <| .bin rfl rfl rfl rfl <| .assign rfl rfl <| .nil ?_
        refine .cond rfl (fun _ => ?_) (fun _ => ?_)
        · refine .seq <| .region <| .fieldP rfl fa27_1 rfl <| .loadKV 0 fTableA_1 rfl rfl ty24 rfl <| .lenL rfl Tryz.underlying24 rfl <| .bin rfl rfl rfl rfl <| .nil ?_
          refine .cond rfl (fun _ => ?_) (fun _ => ?_)
          · refine .region <| .fieldP rfl fa27_1 rfl <| .loadKV 0 fTableA_1 rfl rfl ty24 rfl <| .cut rfl Tryz.underlying24 el56 ⟨_, rfl⟩ rfl rfl <| .fieldP rfl fa27_1 rfl <| .name 36 rfl fun v11 => .toK 36 rfl <| .storeP 0 fTableA_1 rfl rfl rfl ty24 <| .nil ?_
            refine .inBlock <| .seq <| .region <| .loadP 0 (Fld.self _) rfl rfl ty27 rfl <| .storeP 3 (Fld.self _) rfl rfl rfl ty27 <| .nil ?_
            exact .frzBox 3 1 conv27 rfl rfl <| .ret1 Tryz.func64 Tryz.results64 (.cell 3 rfl rfl ty27) rfl (fun _ _ => .cons _ <| .cons _ <| .cons _ <| .cons _ <| .cons _ <| .cons_cons _ <| .slnil)
          · refine .skip <| .inBlock <| .seq <| .region <| .loadP 0 (Fld.self _) rfl rfl ty27 rfl <| .storeP 3 (Fld.self _) rfl rfl rfl ty27 <| .nil ?_
            exact .frzBox 3 1 conv27 rfl rfl <| .ret1 Tryz.func64 Tryz.results64 (.cell 3 rfl rfl ty27) rfl (fun _ _ => .cons _ <| .cons _ <| .cons _ <| .cons _ <| .cons _ <| .cons_cons _ <| .slnil)
        · refine .seq <| .region <| .bin rfl rfl rfl rfl <| .assign rfl rfl <| .nil ?_
          refine .join3 (fun i12 v13 i14 => ⟨[(4, isP b2 0, none), (5, isP b5 0, none)], [boxO b5 tTableA (⟨i12.first, (p4.2, i12.changes), v13, i12.next⟩ : TableA) [], arrO tRow v13 i12.rows, appO 10 p4.2, boxO b2 tTableA (⟨([] : List Col), ((.slice none 0 0), ([] : List Change)), (.slice none 0 0), (0 : Int)⟩ : TableA) [], boxO bp0 tRd i14 []]⟩) (fun i12 v13 i14 => f93_j1 i12 i14) (fun i12 v13 i14 => ?_) (fun hj1 => ?_)
          · refine .inBlock <| .seq <| .region <| .loadP 0 (Fld.self _) rfl rfl ty27 rfl <| .storeP 3 (Fld.self _) rfl rfl rfl ty27 <| .nil ?_
            exact .frzBox 3 1 conv27 rfl rfl <| .ret1 Tryz.func64 Tryz.results64 (.cell 3 rfl rfl ty27) rfl (fun _ _ => .cons _ <| .cons _ <| .cons _ <| .cons _ <| .cons_cons _ <| .slnil)
          · refine .cond rfl (fun _ => ?_) (fun _ => ?_)
            · refine .seq <| .region <| .move rfl rfl <| .bin rfl rfl rfl rfl <| .nil ?_
              refine .cond rfl (fun _ => ?_) (fun _ => ?_)
              · refine .pbind fun q15 h1 => ?_
                refine .pbind fun q16 h2 => ?_
                refine .drawS 11 [] [4, 10] [5] mix (by kernel_rfl) (.cons (fun _ _ _ hP hE h => .fieldP (hE.op rfl) fa27_2 rfl <| h) <| .cons (fun _ _ _ hP hE h => .loadR 0 fTableA_2 (hE.op rfl) (hP.get rfl rfl) ty25 rfl <| h) <| .cons (fun _ _ _ hP hE h => .move (hE.op rfl) rfl <| h) <| .cons (fun _ _ _ hP hE h => .move (hE.op rfl) rfl <| h) <| .skip <| .cons (fun _ _ _ hP hE h => .move (hE.op rfl) rfl <| h) <| .cons (fun _ _ _ hP hE h => .fieldP (hE.op rfl) fa27_1 rfl <| h) <| .cons (fun _ _ _ hP hE h => .loadK 0 fTableA_1 (hE.op rfl) (hP.get rfl rfl) ty24 rfl <| h) <| .cons (fun _ _ _ hP hE h => .lenL (hE.op rfl) Tryz.underlying24 rfl <| h) <| .cons (fun _ _ _ hP hE h => .litN (T := (tI .i64)) Tryz.underlying63 el3 rfl rfl (.cons (hE.op rfl) <| .cons (hE.op rfl) <| .cons (hE.op rfl) <| .cons (hE.op rfl) <| .nil) rfl <| h) <| .skip <| .nil) rfl <| .cons (d := 46) rfl rfl fun _ _ hE h => .bindE h1 (fun r h => .call1 5 (c74 fu _ _ _) rfl n74 (hE.ops rfl) rfl h) <| h _ _ (.same <| .same <| .same <| .same <| .same <| .hole rfl <| .nil) <| .cons (d := 52) rfl rfl fun _ _ hE h => .bindE h2 (fun r h => .call1 5 (c73 fu _ _ _) rfl n73 (hE.ops rfl) rfl h) <| h _ _ (.same <| .same <| .same <| .same <| .same <| .hole rfl <| .nil) <| .nil <| .elemA 1 rfl rfl rfl Tryz.underlying25 ty37 rfl <| .fieldA rfl fa37_1 rfl <| .storeA 1 fRow_1 rfl rfl rfl ty3 <| .nil ?_
                exact .keep [4, 5] [] rfl (.drop (.cons_cons _ <| .cons_cons _ <| .cons_cons _ <| .cons_cons _ <| .cons _ <| .cons_cons _ <| .slnil) <| hj1 _ _ _)
              · exact .skip <| .keep [4, 5] [] rfl (.drop (.cons_cons _ <| .cons_cons _ <| .cons_cons _ <| .cons_cons _ <| .cons _ <| .cons_cons _ <| .slnil) <| hj1 _ _ _)
            · refine .seq <| .region <| .bin rfl rfl rfl rfl <| .assign rfl rfl <| .nil ?_
              refine .cond rfl (fun _ => ?_) (fun _ => ?_)
              · refine .seq <| .region <| .move rfl rfl <| .bin rfl rfl rfl rfl <| .nil ?_
                refine .cond rfl (fun _ => ?_) (fun _ => ?_)
                · refine .pT fun h3 => ?_
                  refine .draw 7 [] mix (by kernel_rfl) (.cons (fun _ _ _ hP hE h => .fieldP (hE.op rfl) fa27_2 rfl <| h) <| .cons (fun _ _ _ hP hE h => .loadR 0 fTableA_2 (hE.op rfl) (hP.get rfl rfl) ty25 rfl <| h) <| .cons (fun _ _ _ hP hE h => .fieldP (hE.op rfl) fa27_2 rfl <| h) <| .cons (fun _ _ _ hP hE h => .loadR 0 fTableA_2 (hE.op rfl) (hP.get rfl rfl) ty25 rfl <| h) <| .cons (fun _ _ _ hP hE h => .useC h3 <| .elemA 1 (hE.op rfl) (hE.op rfl) (hP.get rfl rfl) Tryz.underlying25 ty37 rfl <| h) <| .cons (fun _ _ _ hP hE h => .loadA 1 (Fld.self _) (hE.op rfl) (hP.get rfl rfl) ty37 rfl <| h) <| .cons (fun _ _ _ hP hE h => .litN (T := tRow) Tryz.underlying25 el37 rfl rfl (.cons (hE.op rfl) <| .nil) rfl <| h) <| .nil) rfl <| .appA (T := tRow) 1 rfl rfl rfl Tryz.underlying25 el37 rfl fun v17 => .fieldP rfl fa27_2 rfl <| .toRaw (T := tRow) 1 66 rfl rfl <| .storeP 0 fTableA_2 rfl rfl rfl ty25 <| .nil ?_
                  exact .keep [4, 5] [] rfl (.drop (.cons_cons _ <| .cons_cons _ <| .cons_cons _ <| .cons_cons _ <| .cons _ <| .cons_cons _ <| .slnil) <| hj1 _ _ _)
                · exact .skip <| .keep [4, 5] [] rfl (.drop (.cons_cons _ <| .cons_cons _ <| .cons_cons _ <| .cons_cons _ <| .cons _ <| .cons_cons _ <| .slnil) <| hj1 _ _ _)
              · refine .seq <| .region <| .bin rfl rfl rfl rfl <| .assign rfl rfl <| .nil ?_
                refine .cond rfl (fun _ => ?_) (fun _ => ?_)
                · refine .region <| .move rfl rfl <| .litN (T := (tI .i64)) Tryz.underlying63 el3 rfl rfl (.cons rfl <| .cons rfl <| .cons rfl <| .cons rfl <| .nil) rfl <| .call1 5 (c73 fu _ _ _) rfl n73 rfl rfl fun q18 => .fieldP rfl fa27_3 rfl <| .storeP 0 fTableA_3 rfl rfl rfl ty3 <| .nil ?_
                  exact .keep [4, 5] [] rfl (.drop (.cons_cons _ <| .cons_cons _ <| .cons_cons _ <| .cons_cons _ <| .cons _ <| .cons_cons _ <| .slnil) <| hj1 _ _ _)
                · refine .seq <| .region <| .bin rfl rfl rfl rfl <| .assign rfl rfl <| .nil ?_
                  refine .cond rfl (fun hc => absurd (of_decide_eq_true hc) e5) (fun _ => ?_)
                  · refine .seq <| .region <| .bin rfl rfl rfl rfl <| .assign rfl rfl <| .nil ?_
                    refine .cond rfl (fun hc => absurd (of_decide_eq_true hc) e6) (fun _ => ?_)
                    · exact .skip <| .keep [4, 5] [] rfl (.drop (.cons_cons _ <| .cons_cons _ <| .cons_cons _ <| .cons_cons _ <| .cons _ <| .cons_cons _ <| .slnil) <| hj1 _ _ _)
def f61 (fu : Nat) (a0 : Rd) : Option (Table × Rd) := (f94 fu a0).bind fun q2 => (f93 fu q2.2 q2.1).bind fun q3 => some (q3.1, q3.2)
theorem n61 : ∃ fn c, Tryz.prog.funcs[29]? = some fn ∧ (fn.name == "runtime.NumGoroutine") = false ∧ fn.body = some c := ⟨_, _, Tryz.func29, by kernel_rfl, rfl⟩
theorem c61 (fu : Nat) (bp0 : Nat) (a0 : Rd) : Ctr Tryz.prog 29 [isP bp0 0] [boxO bp0 tRd a0 []] (f61 fu a0) (fun q _ => [boxO bp0 tRd q.2 []]) (fun q => tTable.va q.1) := by
  refine Ctr.of_W Tryz.func29 rfl Tryz.ntmps29 rfl fun A w => ?_
  unfold f61
  refine .seq <| .region <| .alloc tTable d0_27 [] z27 rfl fun b1 => .nil ?_
  refine .seq <| .region <| .move rfl rfl <| .move rfl rfl <| .call1 1 (c94 fu _ _) rfl n94 rfl rfl fun q2 => .call1 1 (c93 fu _ _ _) rfl n93 rfl rfl fun q3 => .storeP 0 (Fld.self _) rfl rfl rfl ty27 <| .nil ?_
  exact .ret1 Tryz.func29 Tryz.results29 (.cell 0 rfl rfl ty27) rfl (fun _ _ => .cons _ <| .cons_cons _ <| .slnil)
def f56_j1 (i1 : Bool) : Option Bool := some i1
def f56 (fu : Nat) (a0 : Int) (a1 : Int) (a2 : Int) : Option Bool := cond (decide (a1 ≤ a0)) (f56_j1 (decide (a0 ≤ a2))) (f56_j1 false)
theorem n56 : ∃ fn c, Tryz.prog.funcs[47]? = some fn ∧ (fn.name == "runtime.NumGoroutine") = false ∧ fn.body = some c := ⟨_, _, Tryz.func47, by kernel_rfl, rfl⟩
theorem c56 (fu : Nat) (a0 : Int) (a1 : Int) (a2 : Int) : Ctr Tryz.prog 47 [isI .i64 a0, isI .i64 a1, isI .i64 a2] [] (f56 fu a0 a1 a2) (fun _ _ => []) (fun q => isB q) := by
  refine Ctr.of_W Tryz.func47 rfl Tryz.ntmps47 rfl fun A w => ?_
  unfold f56
  refine .seq <| .region <| .assign rfl rfl <| .nil ?_
  refine .seq <| .join1 (fun i1 => ⟨[(6, isB i1, none)], []⟩) (fun i1 => f56_j1 i1) (fun i1 => ?_) (fun hj1 => ?_)
  · exact .ret1 Tryz.func47 Tryz.results47 (.tmp rfl) rfl (fun _ _ => .slnil)
  · refine .region <| .move rfl rfl <| .move rfl rfl <| .bin rfl rfl rfl rfl <| .move rfl rfl <| .split 10 rfl (fun _ => ?_) (fun _ => ?_)
    · refine .on rfl rfl <| .move rfl rfl <| .on rfl rfl <| .move rfl rfl <| .on rfl rfl <| .bin rfl rfl rfl rfl <| .pickT rfl rfl rfl <| .assign rfl rfl <| .nil ?_
      exact .keep [6] [] rfl (hj1 _)
    · refine .off rfl rfl rfl <| .off rfl rfl rfl <| .off rfl rfl rfl <| .pickF rfl rfl rfl <| .assign rfl rfl <| .nil ?_
      exact .keep [6] [] rfl (hj1 _)
def f128_j2 (i1 : Int) (rec1 : Int → Option Bool) (i2 : Bool) : Option Bool := cond i2 (some false) (rec1 (IntKind.i64.wrap (i1 + 1)))
def f128_l1 (fu : Nat) (a0 : List UInt8) : Nat → Int → Option Bool
  | 0, _ => none
  | n1 + 1, i1 => cond (decide (i1 < (List.length a0 : Int))) (cond (decide (0 ≤ i1) && decide (i1 < (List.length a0 : Int))) (cond (decide ((((a0.getD i1.toNat 0).toNat : Nat) : Int) < 97)) (f128_j2 i1 (f128_l1 fu a0 n1) true) (cond (decide (0 ≤ i1) && decide (i1 < (List.length a0 : Int))) (f128_j2 i1 (f128_l1 fu a0 n1) (decide (122 < (((a0.getD i1.toNat 0).toNat : Nat) : Int)))) none)) none) ((f56 fu (List.length a0 : Int) 1 3).bind fun q3 => some q3)
def f128 (fu : Nat) (a0 : List UInt8) : Option Bool := f128_l1 fu a0 fu 0
theorem n128 : ∃ fn c, Tryz.prog.funcs[110]? = some fn ∧ (fn.name == "runtime.NumGoroutine") = false ∧ fn.body = some c := ⟨_, _, Tryz.func110, by kernel_rfl, rfl⟩
theorem c128 (fu : Nat) (a0 : List UInt8) : Ctr Tryz.prog 110 [isS a0] [] (f128 fu a0) (fun _ _ => []) (fun q => isB q) := by
  refine Ctr.of_W Tryz.func110 rfl Tryz.ntmps110 rfl fun A w => ?_
  unfold f128
  refine .seq <| .region <| .assign rfl rfl <| .nil ?_
  refine .seq <| .seq <| .region <| .move rfl rfl <| .lenS rfl Tryz.underlying9 rfl <| .move rfl rfl <| .nil ?_
  refine .block <| .loop <| .keep [0, 5, 6] [] rfl ?_
  refine (show ∀ (n1 : Nat) (i1 : Int), W _ _ _ _ _ ⟨[(0, isS a0, none), (5, isI .i64 (List.length a0 : Int), none), (6, isI .i64 i1, none)], []⟩ (f128_l1 fu a0 n1 i1) from ?_) fu _
  intro n1
  induction n1 with
  | zero => exact fun _ => .stop
  | succ n1 ih1 =>
    intro i1
    refine .inLoop <| .seq <| .region <| .bin rfl rfl rfl rfl <| .nil ?_
    refine .seq <| .cond rfl (fun _ => ?_) (fun _ => ?_)
    · refine .skip <| .seq <| .block <| .seq <| .region <| .move rfl rfl <| .assign rfl rfl <| .nil ?_
      refine .seq <| .join1 (fun i2 => ⟨[(0, isS a0, none), (5, isI .i64 (List.length a0 : Int), none), (6, isI .i64 i1, none), (18, isB i2, none)], []⟩) (fun i2 => f128_j2 i1 (f128_l1 fu a0 n1) i2) (fun i2 => ?_) (fun hj2 => ?_)
      · refine .cond rfl (fun _ => ?_) (fun _ => ?_)
        · refine .seq <| .region <| .assign rfl rfl <| .nil ?_
          exact .ret1 Tryz.func110 Tryz.results110 (.tmp rfl) rfl (fun _ _ => .slnil)
        · refine .skip <| .inBlock <| .region <| .bin rfl rfl rfl rfl <| .move rfl rfl <| .nil ?_
          exact .keep [0, 5, 6] [] rfl (ih1 _)
      · refine .region <| .move rfl rfl <| .move rfl rfl <| .idxS rfl rfl Tryz.underlying9 rfl <| .bin rfl rfl rfl rfl <| .move rfl rfl <| .split 13 rfl (fun _ => ?_) (fun _ => ?_)
        · refine .off rfl rfl rfl <| .off rfl rfl rfl <| .off rfl rfl rfl <| .off rfl rfl rfl <| .pickT rfl rfl rfl <| .nil ?_
          exact .keep [0, 5, 6, 18] [] rfl (hj2 _)
        · refine .on rfl rfl <| .move rfl rfl <| .on rfl rfl <| .move rfl rfl <| .on rfl rfl <| .idxS rfl rfl Tryz.underlying9 rfl <| .on rfl rfl <| .bin rfl rfl rfl rfl <| .pickF rfl rfl rfl <| .nil ?_
          exact .keep [0, 5, 6, 18] [] rfl (hj2 _)
    · refine .exit rfl <| .seq <| .region <| .move rfl rfl <| .lenS rfl Tryz.underlying9 rfl <| .call0 (c56 fu _ _ _) n56 rfl rfl fun q3 => .assign rfl rfl <| .nil ?_
      exact .ret1 Tryz.func110 Tryz.results110 (.tmp rfl) rfl (fun _ _ => .slnil)
def f25_j1 (i2 : Bool) : Option Bool := some i2
def f25_j4 (i4 : Int) (rec1 : Int → Option Bool) (i5 : Bool) : Option Bool := cond i5 (some false) (rec1 (IntKind.i64.wrap (i4 + 1)))
def f25_j5 (rec1 : Int → Option Bool) (i6 : Bool) : Option Bool := some i6
def f25_l1 (a0 : Val) : Nat → Int → Option Bool
  | 0, _ => none
  | n1 + 1, i4 => cond (decide (i4 < (List.length a0.text : Int))) (cond (decide (0 ≤ i4) && decide (i4 < (List.length a0.text : Int))) (cond (decide ((((a0.text.getD i4.toNat 0).toNat : Nat) : Int) < 97)) (cond (decide ((((a0.text.getD i4.toNat 0).toNat : Nat) : Int) < 48)) (f25_j4 i4 (f25_l1 a0 n1) (!decide ((((a0.text.getD i4.toNat 0).toNat : Nat) : Int) = 45))) (cond (decide (57 < (((a0.text.getD i4.toNat 0).toNat : Nat) : Int))) (f25_j4 i4 (f25_l1 a0 n1) (!decide ((((a0.text.getD i4.toNat 0).toNat : Nat) : Int) = 45))) (f25_j4 i4 (f25_l1 a0 n1) false))) (cond (decide (122 < (((a0.text.getD i4.toNat 0).toNat : Nat) : Int))) (cond (decide ((((a0.text.getD i4.toNat 0).toNat : Nat) : Int) < 48)) (f25_j4 i4 (f25_l1 a0 n1) (!decide ((((a0.text.getD i4.toNat 0).toNat : Nat) : Int) = 45))) (cond (decide (57 < (((a0.text.getD i4.toNat 0).toNat : Nat) : Int))) (f25_j4 i4 (f25_l1 a0 n1) (!decide ((((a0.text.getD i4.toNat 0).toNat : Nat) : Int) = 45))) (f25_j4 i4 (f25_l1 a0 n1) false))) (f25_j4 i4 (f25_l1 a0 n1) false))) none) (cond (decide (a0.n = 0)) (f25_j5 (f25_l1 a0 n1) (decide ((List.length a0.text : Int) ≤ 4))) (f25_j5 (f25_l1 a0 n1) false))
def f25 (fu : Nat) (a0 : Val) : Option Bool := cond (decide (a0.kind = 0)) (some (decide (a0 = (⟨d0_47.kind, d0_47.n, d0_47.text⟩ : Val)))) (cond (decide (a0.kind = 1)) ((f56 fu a0.n (-999) 999).bind fun q3 => cond q3 (f25_j1 (decide (a0.text = ([] : List UInt8)))) (f25_j1 false)) (cond (decide (a0.kind = 2)) (f25_l1 a0 fu 0) (some false)))
theorem n25 : ∃ fn c, Tryz.prog.funcs[78]? = some fn ∧ (fn.name == "runtime.NumGoroutine") = false ∧ fn.body = some c := ⟨_, _, Tryz.func78, by kernel_rfl, rfl⟩
theorem c25 (fu : Nat) (a0 : Val) : Ctr Tryz.prog 78 [tVal.va a0] [] (f25 fu a0) (fun _ _ => []) (fun q => isB q) := by
  refine Ctr.of_W Tryz.func78 rfl Tryz.ntmps78 rfl fun A w => ?_
  unfold f25
  refine .seq <| .region <| .box (T := tVal) rfl rfl fun b1 => .assign rfl rfl <| .nil ?_
  refine .seq <| .seq <| .region <| .fieldP rfl fa47_0 rfl <| .loadP 0 fVal_0 rfl rfl ty3 rfl <| .nil ?_
  refine .block <| .seq <| .region <| .bin rfl rfl rfl rfl <| .assign rfl rfl <| .nil ?_
  refine .cond rfl (fun _ => ?_) (fun _ => ?_)
  · refine .seq <| .region <| .loadP 0 (Fld.self _) rfl rfl ty47 rfl <| .build rfl st47 z47 (.nil) rfl <| .eqT eq47 rfl rfl rfl <| .assign rfl rfl <| .nil ?_
    exact .ret1 Tryz.func78 Tryz.results78 (.tmp rfl) rfl (fun _ _ => .cons _ <| .slnil)
  · refine .seq <| .region <| .bin rfl rfl rfl rfl <| .assign rfl rfl <| .nil ?_
    refine .cond rfl (fun _ => ?_) (fun _ => ?_)
    · refine .seq <| .join1 (fun i2 => ⟨[(2, isB i2, none)], []⟩) (fun i2 => f25_j1 i2) (fun i2 => ?_) (fun hj1 => ?_)
      · exact .ret1 Tryz.func78 Tryz.results78 (.tmp rfl) rfl (fun _ _ => .slnil)
      · refine .region <| .fieldP rfl fa47_1 rfl <| .loadP 0 fVal_1 rfl rfl ty3 rfl <| .call0 (c56 fu _ _ _) n56 rfl rfl fun q3 => .move rfl rfl <| .split 17 rfl (fun _ => ?_) (fun _ => ?_)
        · refine .on rfl rfl <| .fieldP rfl fa47_2 rfl <| .on rfl rfl <| .loadP 0 fVal_2 rfl rfl ty9 rfl <| .on rfl rfl <| .seq rfl rfl rfl <| .pickT rfl rfl rfl <| .assign rfl rfl <| .nil ?_
          exact .keep [2] [] rfl (.drop (.cons _ <| .slnil) <| hj1 _)
        · refine .off rfl rfl rfl <| .off rfl rfl rfl <| .off rfl rfl rfl <| .pickF rfl rfl rfl <| .assign rfl rfl <| .nil ?_
          exact .keep [2] [] rfl (.drop (.cons _ <| .slnil) <| hj1 _)
    · refine .seq <| .region <| .bin rfl rfl rfl rfl <| .assign rfl rfl <| .nil ?_
      refine .cond rfl (fun _ => ?_) (fun _ => ?_)
      · refine .seq <| .seq <| .region <| .fieldP rfl fa47_2 rfl <| .loadP 0 fVal_2 rfl rfl ty9 rfl <| .lenS rfl Tryz.underlying9 rfl <| .move rfl rfl <| .nil ?_
        refine .block <| .loop <| .keep [1, 26, 27] [] rfl ?_
        refine (show ∀ (n1 : Nat) (i4 : Int), W _ _ _ _ _ ⟨[(1, isP b1 0, none), (26, isI .i64 (List.length a0.text : Int), none), (27, isI .i64 i4, none)], [boxO b1 tVal a0 []]⟩ (f25_l1 a0 n1 i4) from ?_) fu _
        intro n1
        induction n1 with
        | zero => exact fun _ => .stop
        | succ n1 ih1 =>
          intro i4
          refine .inLoop <| .seq <| .region <| .bin rfl rfl rfl rfl <| .nil ?_
          refine .seq <| .cond rfl (fun _ => ?_) (fun _ => ?_)
          · refine .skip <| .seq <| .block <| .seq <| .region <| .move rfl rfl <| .assign rfl rfl <| .nil ?_
            refine .seq <| .region <| .fieldP rfl fa47_2 rfl <| .loadP 0 fVal_2 rfl rfl ty9 rfl <| .move rfl rfl <| .idxS rfl rfl Tryz.underlying9 rfl <| .assign rfl rfl <| .nil ?_
            refine .seq <| .join1 (fun i5 => ⟨[(1, isP b1 0, none), (26, isI .i64 (List.length a0.text : Int), none), (27, isI .i64 i4, none), (51, isB i5, none)], [boxO b1 tVal a0 []]⟩) (fun i5 => f25_j4 i4 (f25_l1 a0 n1) i5) (fun i5 => ?_) (fun hj4 => ?_)
            · refine .cond rfl (fun _ => ?_) (fun _ => ?_)
              · refine .seq <| .region <| .assign rfl rfl <| .nil ?_
                exact .ret1 Tryz.func78 Tryz.results78 (.tmp rfl) rfl (fun _ _ => .cons _ <| .slnil)
              · refine .skip <| .inBlock <| .region <| .bin rfl rfl rfl rfl <| .move rfl rfl <| .nil ?_
                exact .keep [1, 26, 27] [] rfl (ih1 _)
            · refine .region <| .move rfl rfl <| .bin rfl rfl rfl rfl <| .move rfl rfl <| .split 36 rfl (fun _ => ?_) (fun _ => ?_)
              · refine .off rfl rfl rfl <| .off rfl rfl rfl <| .pickT rfl rfl rfl <| .move rfl rfl <| .on rfl rfl <| .move rfl rfl <| .on rfl rfl <| .bin rfl rfl rfl rfl <| .on rfl rfl <| .move rfl rfl <| .split 43 rfl (fun _ => ?_) (fun _ => ?_)
                · refine .off rfl rfl rfl <| .off rfl rfl rfl <| .on rfl rfl <| .pickT rfl rfl rfl <| .pickT rfl rfl rfl <| .move rfl rfl <| .on rfl rfl <| .move rfl rfl <| .on rfl rfl <| .bin rfl rfl rfl rfl <| .pickT rfl rfl rfl <| .nil ?_
                  exact .keep [1, 26, 27, 51] [] rfl (hj4 _)
                · refine .on rfl rfl <| .move rfl rfl <| .on rfl rfl <| .bin rfl rfl rfl rfl <| .on rfl rfl <| .pickF rfl rfl rfl <| .pickT rfl rfl rfl <| .move rfl rfl <| .split 48 rfl (fun _ => ?_) (fun _ => ?_)
                  · refine .on rfl rfl <| .move rfl rfl <| .on rfl rfl <| .bin rfl rfl rfl rfl <| .pickT rfl rfl rfl <| .nil ?_
                    exact .keep [1, 26, 27, 51] [] rfl (hj4 _)
                  · refine .off rfl rfl rfl <| .off rfl rfl rfl <| .pickF rfl rfl rfl <| .nil ?_
                    exact .keep [1, 26, 27, 51] [] rfl (hj4 _)
              · refine .on rfl rfl <| .move rfl rfl <| .on rfl rfl <| .bin rfl rfl rfl rfl <| .pickF rfl rfl rfl <| .move rfl rfl <| .split 40 rfl (fun _ => ?_) (fun _ => ?_)
                · refine .on rfl rfl <| .move rfl rfl <| .on rfl rfl <| .bin rfl rfl rfl rfl <| .on rfl rfl <| .move rfl rfl <| .split 43 rfl (fun _ => ?_) (fun _ => ?_)
                  · refine .off rfl rfl rfl <| .off rfl rfl rfl <| .on rfl rfl <| .pickT rfl rfl rfl <| .pickT rfl rfl rfl <| .move rfl rfl <| .on rfl rfl <| .move rfl rfl <| .on rfl rfl <| .bin rfl rfl rfl rfl <| .pickT rfl rfl rfl <| .nil ?_
                    exact .keep [1, 26, 27, 51] [] rfl (hj4 _)
                  · refine .on rfl rfl <| .move rfl rfl <| .on rfl rfl <| .bin rfl rfl rfl rfl <| .on rfl rfl <| .pickF rfl rfl rfl <| .pickT rfl rfl rfl <| .move rfl rfl <| .split 48 rfl (fun _ => ?_) (fun _ => ?_)
                    · refine .on rfl rfl <| .move rfl rfl <| .on rfl rfl <| .bin rfl rfl rfl rfl <| .pickT rfl rfl rfl <| .nil ?_
                      exact .keep [1, 26, 27, 51] [] rfl (hj4 _)
                    · refine .off rfl rfl rfl <| .off rfl rfl rfl <| .pickF rfl rfl rfl <| .nil ?_
                      exact .keep [1, 26, 27, 51] [] rfl (hj4 _)
                · refine .off rfl rfl rfl <| .off rfl rfl rfl <| .off rfl rfl rfl <| .offU rfl rfl rfl <| .offU rfl rfl rfl <| .off rfl rfl rfl <| .pickF rfl rfl rfl <| .move rfl rfl <| .off rfl rfl rfl <| .off rfl rfl rfl <| .pickF rfl rfl rfl <| .nil ?_
                  exact .keep [1, 26, 27, 51] [] rfl (hj4 _)
          · refine .exit rfl <| .seq <| .join1 (fun i6 => ⟨[(2, isB i6, none)], []⟩) (fun i6 => f25_j5 (f25_l1 a0 n1) i6) (fun i6 => ?_) (fun hj5 => ?_)
            · exact .ret1 Tryz.func78 Tryz.results78 (.tmp rfl) rfl (fun _ _ => .slnil)
            · refine .region <| .fieldP rfl fa47_1 rfl <| .loadP 0 fVal_1 rfl rfl ty3 rfl <| .bin rfl rfl rfl rfl <| .move rfl rfl <| .split 56 rfl (fun _ => ?_) (fun _ => ?_)
              · refine .on rfl rfl <| .fieldP rfl fa47_2 rfl <| .on rfl rfl <| .loadP 0 fVal_2 rfl rfl ty9 rfl <| .on rfl rfl <| .lenS rfl Tryz.underlying9 rfl <| .on rfl rfl <| .bin rfl rfl rfl rfl <| .pickT rfl rfl rfl <| .assign rfl rfl <| .nil ?_
                exact .keep [2] [] rfl (.drop (.cons _ <| .slnil) <| hj5 _)
              · refine .off rfl rfl rfl <| .off rfl rfl rfl <| .off rfl rfl rfl <| .off rfl rfl rfl <| .pickF rfl rfl rfl <| .assign rfl rfl <| .nil ?_
                exact .keep [2] [] rfl (.drop (.cons _ <| .slnil) <| hj5 _)
      · refine .skip <| .inBlock <| .seq <| .region <| .assign rfl rfl <| .nil ?_
        exact .ret1 Tryz.func78 Tryz.results78 (.tmp rfl) rfl (fun _ _ => .cons _ <| .slnil)
def f92_j1 (i2 : Bool) : Option Bool := some i2
def f92 (fu : Nat) (a0 : Val) (a1 : Int) : Option Bool := cond (decide (a0.kind = 0)) (f92_j1 true) (f92_j1 (decide (a0.kind = a1)))
theorem n92 : ∃ fn c, Tryz.prog.funcs[79]? = some fn ∧ (fn.name == "runtime.NumGoroutine") = false ∧ fn.body = some c := ⟨_, _, Tryz.func79, by kernel_rfl, rfl⟩
theorem c92 (fu : Nat) (a0 : Val) (a1 : Int) : Ctr Tryz.prog 79 [tVal.va a0, isI .i64 a1] [] (f92 fu a0 a1) (fun _ _ => []) (fun q => isB q) := by
  refine Ctr.of_W Tryz.func79 rfl Tryz.ntmps79 rfl fun A w => ?_
  unfold f92
  refine .seq <| .region <| .box (T := tVal) rfl rfl fun b1 => .assign rfl rfl <| .nil ?_
  refine .seq <| .join1 (fun i2 => ⟨[(4, isB i2, none)], []⟩) (fun i2 => f92_j1 i2) (fun i2 => ?_) (fun hj1 => ?_)
  · exact .ret1 Tryz.func79 Tryz.results79 (.tmp rfl) rfl (fun _ _ => .slnil)
  · refine .region <| .fieldP rfl fa47_0 rfl <| .loadP 0 fVal_0 rfl rfl ty3 rfl <| .bin rfl rfl rfl rfl <| .move rfl rfl <| .split 8 rfl (fun _ => ?_) (fun _ => ?_)
    · refine .off rfl rfl rfl <| .off rfl rfl rfl <| .off rfl rfl rfl <| .off rfl rfl rfl <| .pickT rfl rfl rfl <| .assign rfl rfl <| .nil ?_
      exact .keep [4] [] rfl (.drop (.cons _ <| .slnil) <| hj1 _)
    · refine .on rfl rfl <| .fieldP rfl fa47_0 rfl <| .on rfl rfl <| .loadP 0 fVal_0 rfl rfl ty3 rfl <| .on rfl rfl <| .move rfl rfl <| .on rfl rfl <| .bin rfl rfl rfl rfl <| .pickF rfl rfl rfl <| .assign rfl rfl <| .nil ?_
      exact .keep [4] [] rfl (.drop (.cons _ <| .slnil) <| hj1 _)
def f103_j1 (i2 : Bool) : Option Bool := some i2
def f103 (fu : Nat) (a0 : Col) : Option Bool := (f128 fu a0.name).bind fun q3 => cond q3 ((f56 fu a0.kind 1 2).bind fun q4 => cond q4 ((f25 fu a0.def_).bind fun q5 => cond q5 ((f92 fu a0.def_ a0.kind).bind fun q6 => cond q6 (cond (!a0.once) (f103_j1 true) (f103_j1 (decide (a0.def_.kind = 0)))) (f103_j1 false)) (f103_j1 false)) (f103_j1 false)) (f103_j1 false)
theorem n103 : ∃ fn c, Tryz.prog.funcs[90]? = some fn ∧ (fn.name == "runtime.NumGoroutine") = false ∧ fn.body = some c := ⟨_, _, Tryz.func90, by kernel_rfl, rfl⟩
theorem c103 (fu : Nat) (a0 : Col) : Ctr Tryz.prog 90 [tCol.va a0] [] (f103 fu a0) (fun _ _ => []) (fun q => isB q) := by
  refine Ctr.of_W Tryz.func90 rfl Tryz.ntmps90 rfl fun A w => ?_
  unfold f103
  refine .seq <| .region <| .box (T := tCol) rfl rfl fun b1 => .assign rfl rfl <| .nil ?_
  refine .seq <| .join1 (fun i2 => ⟨[(2, isB i2, none)], []⟩) (fun i2 => f103_j1 i2) (fun i2 => ?_) (fun hj1 => ?_)
  · exact .ret1 Tryz.func90 Tryz.results90 (.tmp rfl) rfl (fun _ _ => .slnil)
  · refine .region <| .fieldP rfl fa52_0 rfl <| .loadP 0 fCol_0 rfl rfl ty9 rfl <| .call0 (c128 fu _) n128 rfl rfl fun q3 => .move rfl rfl <| .split 6 rfl (fun _ => ?_) (fun _ => ?_)
    · refine .on rfl rfl <| .fieldP rfl fa52_1 rfl <| .on rfl rfl <| .loadP 0 fCol_1 rfl rfl ty3 rfl <| .on rfl rfl <| .call0 (c56 fu _ _ _) n56 rfl rfl fun q4 => .pickT rfl rfl rfl <| .move rfl rfl <| .split 11 rfl (fun _ => ?_) (fun _ => ?_)
      · refine .on rfl rfl <| .fieldP rfl fa52_4 rfl <| .on rfl rfl <| .loadP 0 fCol_4 rfl rfl ty47 rfl <| .on rfl rfl <| .call0 (c25 fu _) n25 rfl rfl fun q5 => .pickT rfl rfl rfl <| .move rfl rfl <| .split 16 rfl (fun _ => ?_) (fun _ => ?_)
        · refine .on rfl rfl <| .fieldP rfl fa52_4 rfl <| .on rfl rfl <| .loadP 0 fCol_4 rfl rfl ty47 rfl <| .on rfl rfl <| .fieldP rfl fa52_1 rfl <| .on rfl rfl <| .loadP 0 fCol_1 rfl rfl ty3 rfl <| .on rfl rfl <| .call0 (c92 fu _ _) n92 rfl rfl fun q6 => .pickT rfl rfl rfl <| .move rfl rfl <| .split 23 rfl (fun _ => ?_) (fun _ => ?_)
          · refine .on rfl rfl <| .fieldP rfl fa52_3 rfl <| .on rfl rfl <| .loadP 0 fCol_3 rfl rfl ty4 rfl <| .on rfl rfl <| .not rfl rfl <| .on rfl rfl <| .move rfl rfl <| .split 27 rfl (fun _ => ?_) (fun _ => ?_)
            · refine .off rfl rfl rfl <| .off rfl rfl rfl <| .off rfl rfl rfl <| .off rfl rfl rfl <| .on rfl rfl <| .pickT rfl rfl rfl <| .pickT rfl rfl rfl <| .assign rfl rfl <| .nil ?_
              exact .keep [2] [] rfl (.drop (.cons _ <| .slnil) <| hj1 _)
            · refine .on rfl rfl <| .fieldP rfl fa52_4 rfl <| .on rfl rfl <| .fieldP rfl fa47_0 rfl <| .on rfl rfl <| .loadP 0 (fCol_4.comp fVal_0) rfl rfl ty3 rfl <| .on rfl rfl <| .bin rfl rfl rfl rfl <| .on rfl rfl <| .pickF rfl rfl rfl <| .pickT rfl rfl rfl <| .assign rfl rfl <| .nil ?_
              exact .keep [2] [] rfl (.drop (.cons _ <| .slnil) <| hj1 _)
          · refine .off rfl rfl rfl <| .off rfl rfl rfl <| .off rfl rfl rfl <| .off rfl rfl rfl <| .offU rfl rfl rfl <| .offU rfl rfl rfl <| .offU rfl rfl rfl <| .offU rfl rfl rfl <| .off rfl rfl rfl <| .pickF rfl rfl rfl <| .assign rfl rfl <| .nil ?_
            exact .keep [2] [] rfl (.drop (.cons _ <| .slnil) <| hj1 _)
        · refine .off rfl rfl rfl <| .off rfl rfl rfl <| .off rfl rfl rfl <| .off rfl rfl rfl <| .off rfl rfl rfl <| .pickF rfl rfl rfl <| .move rfl rfl <| .off rfl rfl rfl <| .off rfl rfl rfl <| .off rfl rfl rfl <| .off rfl rfl rfl <| .offU rfl rfl rfl <| .offU rfl rfl rfl <| .offU rfl rfl rfl <| .offU rfl rfl rfl <| .off rfl rfl rfl <| .pickF rfl rfl rfl <| .assign rfl rfl <| .nil ?_
          exact .keep [2] [] rfl (.drop (.cons _ <| .slnil) <| hj1 _)
      · refine .off rfl rfl rfl <| .off rfl rfl rfl <| .off rfl rfl rfl <| .pickF rfl rfl rfl <| .move rfl rfl <| .off rfl rfl rfl <| .off rfl rfl rfl <| .off rfl rfl rfl <| .off rfl rfl rfl <| .off rfl rfl rfl <| .pickF rfl rfl rfl <| .move rfl rfl <| .off rfl rfl rfl <| .off rfl rfl rfl <| .off rfl rfl rfl <| .off rfl rfl rfl <| .offU rfl rfl rfl <| .offU rfl rfl rfl <| .offU rfl rfl rfl <| .offU rfl rfl rfl <| .off rfl rfl rfl <| .pickF rfl rfl rfl <| .assign rfl rfl <| .nil ?_
        exact .keep [2] [] rfl (.drop (.cons _ <| .slnil) <| hj1 _)
    · refine .off rfl rfl rfl <| .off rfl rfl rfl <| .off rfl rfl rfl <| .pickF rfl rfl rfl <| .move rfl rfl <| .off rfl rfl rfl <| .off rfl rfl rfl <| .off rfl rfl rfl <| .pickF rfl rfl rfl <| .move rfl rfl <| .off rfl rfl rfl <| .off rfl rfl rfl <| .off rfl rfl rfl <| .off rfl rfl rfl <| .off rfl rfl rfl <| .pickF rfl rfl rfl <| .move rfl rfl <| .off rfl rfl rfl <| .off rfl rfl rfl <| .off rfl rfl rfl <| .off rfl rfl rfl <| .offU rfl rfl rfl <| .offU rfl rfl rfl <| .offU rfl rfl rfl <| .offU rfl rfl rfl <| .off rfl rfl rfl <| .pickF rfl rfl rfl <| .assign rfl rfl <| .nil ?_
      exact .keep [2] [] rfl (.drop (.cons _ <| .slnil) <| hj1 _)
def f105 (a0 : Col) (a1 : List UInt8) : Option Bool := some (decide (a0.name = a1))
theorem n105 : ∃ fn c, Tryz.prog.funcs[112]? = some fn ∧ (fn.name == "runtime.NumGoroutine") = false ∧ fn.body = some c := ⟨_, _, Tryz.func112, by kernel_rfl, rfl⟩
theorem c105 (a0 : Col) (a1 : List UInt8) : Ctr Tryz.prog 112 [tCol.va a0, isAt tS a1] [] (f105 a0 a1) (fun _ _ => []) (fun q => isB q) := by
  refine Ctr.of_W Tryz.func112 rfl Tryz.ntmps112 rfl fun A w => ?_
  unfold f105
  refine .seq <| .region <| .box (T := tCol) rfl rfl fun b1 => .assign rfl rfl <| .nil ?_
  refine .seq <| .region <| .fieldP rfl fa52_0 rfl <| .loadP 0 fCol_0 rfl rfl ty9 rfl <| .load rfl ty9 rfl <| .seq rfl rfl rfl <| .assign rfl rfl <| .nil ?_
  exact .ret1 Tryz.func112 Tryz.results112 (.tmp rfl) rfl (fun _ _ => .cons _ <| .slnil)
def f104_l1 (a0 : List Col) (a1 : Col → Option Bool) : Nat → Int → Option Int
  | 0, _ => none
  | n1 + 1, i1 => cond (decide (i1 < (List.length a0 : Int))) (cond (decide (0 ≤ i1) && decide (i1 < (List.length a0 : Int))) ((a1 (a0.getD i1.toNat default)).bind fun q2 => cond q2 (some i1) ((f104_l1 a0 a1 n1) (IntKind.i64.wrap (i1 + 1)))) none) (some (-1))
def f104 (fu : Nat) (a0 : List Col) (a1 : Col → Option Bool) : Option Int := f104_l1 a0 a1 fu 0
theorem n104 : ∃ fn c, Tryz.prog.funcs[111]? = some fn ∧ (fn.name == "runtime.NumGoroutine") = false ∧ fn.body = some c := ⟨_, _, Tryz.func111, by kernel_rfl, rfl⟩
theorem c104 (fu : Nat) (a0 : List Col) (a1 : Col → Option Bool) (g1 : Nat) (k1 : List VA) (hn1 : ∃ fn c, Tryz.prog.funcs[g1]? = some fn ∧ (fn.name == "runtime.NumGoroutine") = false ∧ fn.body = some c) (hc1 : ∀ (x0 : Col), Ctr Tryz.prog g1 ([tCol.va x0] ++ k1) [] (a1 x0) (fun _ _ => []) (fun q => isB q)) : Ctr Tryz.prog 111 [(tL tCol).va a0, isClo g1 k1] [] (f104 fu a0 a1) (fun _ _ => []) (fun q => isI .i64 q) := by
  refine Ctr.of_W Tryz.func111 rfl Tryz.ntmps111 rfl fun A w => ?_
  unfold f104
  refine .seq <| .region <| .assign rfl rfl <| .nil ?_
  refine .seq <| .seq <| .region <| .move rfl rfl <| .lenL rfl Tryz.underlying23 rfl <| .move rfl rfl <| .nil ?_
  refine .block <| .loop <| .keep [0, 1, 7, 8] [] rfl ?_
  refine (show ∀ (n1 : Nat) (i1 : Int), W _ _ _ _ _ ⟨[(0, (tL tCol).va a0, none), (1, isClo g1 k1, none), (7, isI .i64 (List.length a0 : Int), none), (8, isI .i64 i1, none)], []⟩ (f104_l1 a0 a1 n1 i1) from ?_) fu _
  intro n1
  induction n1 with
  | zero => exact fun _ => .stop
  | succ n1 ih1 =>
    intro i1
    refine .inLoop <| .seq <| .region <| .bin rfl rfl rfl rfl <| .nil ?_
    refine .seq <| .cond rfl (fun _ => ?_) (fun _ => ?_)
    · refine .skip <| .seq <| .block <| .seq <| .region <| .move rfl rfl <| .assign rfl rfl <| .nil ?_
      refine .seq <| .region <| .move rfl rfl <| .move rfl rfl <| .move rfl rfl <| .elemAt rfl rfl Tryz.underlying23 ty52 rfl <| .load rfl ty52 rfl <| .callC rfl (hc1 _) hn1 rfl rfl fun q2 => .nil ?_
      refine .cond rfl (fun _ => ?_) (fun _ => ?_)
      · refine .seq <| .region <| .move rfl rfl <| .assign rfl rfl <| .nil ?_
        exact .ret1 Tryz.func111 Tryz.results111 (.tmp rfl) rfl (fun _ _ => .slnil)
      · refine .skip <| .inBlock <| .region <| .bin rfl rfl rfl rfl <| .move rfl rfl <| .nil ?_
        exact .keep [0, 1, 7, 8] [] rfl (ih1 _)
    · refine .exit rfl <| .seq <| .region <| .assign rfl rfl <| .nil ?_
      exact .ret1 Tryz.func111 Tryz.results111 (.tmp rfl) rfl (fun _ _ => .slnil)
def f68 (fu : Nat) (a0 : List Col) (a1 : List UInt8) : Option Int := (f104 fu a0 (fun x0 => f105 x0 a1)).bind fun q2 => some q2
theorem n68 : ∃ fn c, Tryz.prog.funcs[91]? = some fn ∧ (fn.name == "runtime.NumGoroutine") = false ∧ fn.body = some c := ⟨_, _, Tryz.func91, by kernel_rfl, rfl⟩
theorem c68 (fu : Nat) (a0 : List Col) (a1 : List UInt8) : Ctr Tryz.prog 91 [(tL tCol).va a0, isS a1] [] (f68 fu a0 a1) (fun _ _ => []) (fun q => isI .i64 q) := by
  refine Ctr.of_W Tryz.func91 rfl Tryz.ntmps91 rfl fun A w => ?_
  unfold f68
  refine .seq <| .region <| .box (T := tS) rfl rfl fun b1 => .assign rfl rfl <| .nil ?_
  refine .seq <| .region <| .move rfl rfl <| .frzP 0 3 rfl rfl <| .makeF rfl rfl <| .call0 (c104 fu _ (fun x0 => f105 x0 a1) 112 [isAt tS a1] n105 (fun x0 => c105 x0 a1)) n104 rfl rfl fun q2 => .assign rfl rfl <| .nil ?_
  exact .ret1 Tryz.func91 Tryz.results91 (.tmp rfl) rfl (fun _ _ => .slnil)
end Go.Proofs.YtlkhmcajnfombaaGreatDoor
