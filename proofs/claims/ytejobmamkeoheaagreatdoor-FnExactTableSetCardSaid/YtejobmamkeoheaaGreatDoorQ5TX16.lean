/- (Table).set and impl.TableSet, all of the answer's memory handed back. -/
import Derived.Test.YtejobmamkeoheaaGreatDoorQ5TB2
set_option linter.all false
namespace Go.Proofs.YtejobmamkeoheaaGreatDoor
open Go Go.HL Tryz
theorem rowsO_set {s : List RowV} {j : Nat} {x : RowV} (h : j < s.length) : (arrO tVal x.at_ x.vals :: rowsO (s.eraseIdx j)).Perm (rowsO (s.set j x)) := by
  unfold rowsO
  rw [List.map_set, ← map_eraseIdxL]
  exact perm_set (O := arrO tVal s[j].at_ s[j].vals) (by rw [List.getElem?_map, List.getElem?_eq_getElem h]; rfl)
theorem rowsO_erase {s : List RowV} {j : Nat} : (rowsO (s.eraseIdx j)).Sublist (rowsO s) := (List.eraseIdx_sublist s j).map _
theorem c75d (fu : Nat) (a0 : Table) (a1 : Int) (a2 : List Set) : CtrE Tryz.prog 57 [tTable.va a0, isI .i64 a1, (tL tSet).va a2] [] (f75 fu a0 a1 a2) (fun v => tabD (tupV 0 v)) (fun q p s => tabO q.1 p s) (fun q p => tup [tTableD.va p, isI .i64 q.2]) := by
  refine CtrE.of_W func57 rfl ntmps57 rfl fun A w => ?_
  unfold f75
  refine .seq <| .region <| .box (T := tTable) rfl rfl fun b1 => .alloc tTableD d0D27 [] zD27 rfl fun b2 => .assign rfl rfl <| .nil ?_
  refine .seq <| .region <| .loadP 1 (Fld.self _) rfl rfl ty27 rfl <| .move rfl rfl <| .call0 (c48 fu _ _) n48 rfl rfl fun q3 => .assign rfl rfl <| .nil ?_
  refine .seq <| .seq <| .region <| .move rfl rfl <| .bin rfl rfl rfl rfl <| .nil ?_
  refine .cond rfl (fun _ => ?_) (fun _ => ?_)
  · refine .seq <| .region <| .loadP 1 (Fld.self _) rfl rfl ty27 rfl <| .callEb (c80d fu _) n80 rfl rfl fun q4 p5 s5 => .storeP 0 (Fld.self _) rfl rfl rfl ty27 <| .assign rfl rfl <| .nil ?_
    exact W_retE2 s5 p5 func57 results57 (.cell 0 rfl rfl ty27) (.tmp rfl) rfl (fun _ _ _ h => tabD_of h) (.cons _ <| .cons _ <| .refl _)
  · refine .skip <| .seq <| .region <| .loadP 1 (Fld.self _) rfl rfl ty27 rfl <| .call0 (c66 fu _) n66 rfl rfl fun q6 => .assign rfl rfl <| .nil ?_
    refine .seq <| .region <| .loadP 1 (Fld.self _) rfl rfl ty27 rfl <| .callEb (c80d fu _) n80 rfl rfl fun q7 p8 s8 => .alloc tTableD d0D27 [] zD27 rfl fun b9 => .storeP 0 (Fld.self _) rfl rfl rfl ty27 <| .nil ?_
    refine W_get 3 rfl fun hq => ?_
    obtain ⟨qf, qc, qr, qn⟩ := q7
    obtain ⟨pf, pc, pr, pn⟩ := p8
    obtain ⟨rfl, rfl⟩ : qr = s8.map RowV.r ∧ qn = pn := hq
    refine .seq <| .pT fun h1 => ?_
    refine .draw 6 [] mix (by kernel_rfl) (.cons (fun _ _ _ hP hE h => .loadP 2 (Fld.self _) (hE.op rfl) (hP.get rfl rfl) ty27 rfl <| h) <| .cons (fun _ _ _ hP hE h => .fieldP (hE.op rfl) fa27_2 rfl <| h) <| .cons (fun _ _ _ hP hE h => .loadP 2 fTable_2 (hE.op rfl) (hP.get rfl rfl) ty25 rfl <| h) <| .cons (fun _ _ _ hP hE h => .move (hE.op rfl) rfl <| h) <| .cons (fun _ _ _ hP hE h => .useC h1 <| .elemAt (hE.op rfl) (hE.op rfl) Tryz.underlying30 ty37 rfl <| h) <| .cons (fun _ _ _ hP hE h => .load (hE.op rfl) ty37 rfl <| h) <| .nil) rfl <| .callL0 (c49 fu _ _) n49 rfl rfl fun q10 v11 => .unRaw 29 rfl <| .assign rfl rfl <| .nil ?_
    refine .seq <| .seq <| .region <| .move rfl rfl <| .move rfl rfl <| .move rfl rfl <| .call1 0 (c99 fu _ _ _ _) rfl n99 rfl rfl fun q12 => .not rfl rfl <| .nil ?_
    refine .cond rfl (fun _ => ?_) (fun _ => ?_)
    · refine .seq <| .region <| .loadP 3 (Fld.self _) rfl rfl ty27 rfl <| .callEb (c80d fu _) n80 rfl rfl fun q13 p14 s14 => .storeP 2 (Fld.self _) rfl rfl rfl ty27 <| .assign rfl rfl <| .nil ?_
      exact W_retE2 s14 p14 func57 results57 (.cell 2 rfl rfl ty27) (.tmp rfl) rfl (fun _ _ _ h => tabD_of h) (.cons _ <| .cons _ <| .cons _ <| .cons _ <| List.sublist_append_right _ _)
    · refine .pT fun hb => ?_
      have hbA : (decide (0 ≤ q3) && decide (q3 < ((s8.map RowV.a).length : Int))) = true := row_in (xs := s8.map RowV.a) (by rw [List.length_map, List.length_map]) hb
      have hj : q3.toNat < s8.length := by
        simp only [Bool.and_eq_true, decide_eq_true_eq, List.length_map] at hb
        omega
      have e1 : (s8.map RowV.r).set q3.toNat (⟨a1, (List.length a0.changes : Int), q12.2⟩ : Row) = (s8.set q3.toNat (⟨a1, (List.length a0.changes : Int), v11, q12.2⟩ : RowV)).map RowV.r := by rw [List.map_set]
      have e2 : (s8.map RowV.a).set q3.toNat (⟨a1, (List.length a0.changes : Int), v11⟩ : RowA) = (s8.set q3.toNat (⟨a1, (List.length a0.changes : Int), v11, q12.2⟩ : RowV)).map RowV.a := by rw [List.map_set]
      have e3 := rowsO_set (x := (⟨a1, (List.length a0.changes : Int), v11, q12.2⟩ : RowV)) hj
      show W _ _ _ _ _ _ ((f58 fu q6 q12.2).bind fun q15 => cond (!q15) _ ((f59 fu (⟨qf, qc, (s8.map RowV.r).set q3.toNat (⟨a1, (List.length a0.changes : Int), q12.2⟩ : Row), qn⟩ : Table)).bind fun q18 => cond (!q18) _ (some ((⟨qf, qc, (s8.map RowV.r).set q3.toNat (⟨a1, (List.length a0.changes : Int), q12.2⟩ : Row), qn⟩ : Table), 0))))
      rw [e1]
      refine .skip <| .seq <| .region <| .fieldP rfl fa27_2 rfl <| .loadR 1 fTableD_2 rfl rfl ty25 rfl <| .know 38 rfl <| .move rfl rfl <| .move rfl rfl <| .fieldP rfl fa27_1 rfl <| .loadP 3 fTable_1 rfl rfl ty24 rfl <| .lenL rfl Tryz.underlying29 rfl <| .move rfl rfl <| .toRaw (T := tVal) 0 44 rfl rfl <| .buildA rfl st37 zRA (.cons fRowA_0 rfl (vOf rfl) <| .cons fRowA_1 rfl (vOf rfl) <| .cons fRowA_2 rfl (vOf rfl) <| .nil) rfl <| ?_
      refine .useC hbA <| .elemA 7 rfl rfl rfl Tryz.underlying30 ty37 rfl <| .storeA 7 (Fld.self _) rfl rfl rfl ty37 <| .nil ?_
      rw [e2]
      refine .seq <| .block <| .seq <| .region <| .move rfl rfl <| .move rfl rfl <| .callLendP (c58 fu _ _) (.keep <| .deep [arrO tVal v11 q12.2] (fun Q hQ => by rw [List.mem_singleton.1 hQ]; exact .head _) arr_lend .nil) (fun _ _ _ _ _ _ h => h) n58 rfl rfl fun q15 => .not rfl rfl <| .assign rfl rfl <| .nil ?_
      refine .cond rfl (fun _ => ?_) (fun _ => ?_)
      · refine .seq <| .region <| .loadP 3 (Fld.self _) rfl rfl ty27 rfl <| .callEb (c80d fu _) n80 rfl rfl fun q16 p17 s17 => .storeP 2 (Fld.self _) rfl rfl rfl ty27 <| .assign rfl rfl <| .nil ?_
        exact W_retE2 s17 p17 func57 results57 (.cell 2 rfl rfl ty27) (.tmp rfl) rfl (fun _ _ _ h => tabD_of h) (.cons _ <| .cons _ <| .cons _ <| .cons _ <| List.sublist_append_right _ _)
      · refine .seq <| W_sel [1, 1, 1, 2, 2, 2, 0] rfl <| .drop (.cons_cons _ <| .cons_cons _ <| .cons_cons _ <| .cons_cons _ <| .cons_cons _ <| .cons_cons _ <| .cons_cons _ <| .cons _ <| rowsO_erase (j := q3.toNat)) ?_
        refine .perm (B' := [boxO b9 tTableD ⟨pf, pc, pr, qn⟩ [], boxO b2 tTableD d0D27 [], boxO b1 tTable a0 [], arrO tCol pf qf, arrO tChange pc qc, arrO tRowA pr _] ++ rowsO (s8.set q3.toNat (⟨a1, (List.length a0.changes : Int), v11, q12.2⟩ : RowV))) (List.Perm.append_left [_, _, _, _, _, _] e3) ?_
        generalize (s8.set q3.toNat (⟨a1, (List.length a0.changes : Int), v11, q12.2⟩ : RowV)) = s5
        refine W_fact (p := s5.map RowV.r = s5.map RowV.r ∧ qn = qn) ⟨rfl, rfl⟩ ?_
        refine W_sel [1, 1, 1] rfl <| .region <| .loadP 0 (Fld.self _) rfl rfl ty27 rfl <| .callLendP (c59 fu _) (.deep (tabO ⟨qf, qc, s5.map RowV.r, qn⟩ ⟨pf, pc, pr, qn⟩ s5) (fun Q hQ => .tail _ <| .tail _ <| .tail _ hQ) tabD_read .nil) (fun _ _ _ _ _ _ h => h) n59 rfl rfl fun q18 => .not rfl rfl <| .assign rfl rfl <| .nil ?_
        refine .cond rfl (fun _ => ?_) (fun _ => ?_)
        · refine .seq <| .region <| .loadP 2 (Fld.self _) rfl rfl ty27 rfl <| .callEb (c80d fu _) n80 rfl rfl fun q19 p20 s20 => .storeP 1 (Fld.self _) rfl rfl rfl ty27 <| .assign rfl rfl <| .nil ?_
          exact W_retE2 s20 p20 func57 results57 (.cell 1 rfl rfl ty27) (.tmp rfl) rfl (fun _ _ _ h => tabD_of h) (.cons _ <| .cons _ <| .cons _ <| List.sublist_append_right _ _)
        · refine .skip <| .inBlock <| .seq <| .region <| .loadP 0 (Fld.self _) rfl rfl ty27 rfl <| .storeP 1 (Fld.self _) rfl rfl rfl ty27 <| .assign rfl rfl <| .nil ?_
          exact W_retE2 s5 ⟨pf, pc, pr, qn⟩ func57 results57 (.cell 1 rfl rfl ty27) (.tmp rfl) rfl (fun _ _ _ h => tabD_of h) (.cons _ <| .cons _ <| .cons _ <| .refl _)
theorem c3025d (fu : Nat) (a0 : Table) (a1 : Int) (a2 : List Set) : CtrE Tryz.prog 25 [tTable.va a0, isI .i64 a1, (tL tSet).va a2] [] (f3025 fu a0 a1 a2) (fun v => tabD (tupV 0 v)) (fun q p s => tabO q.1 p s) (fun q p => tup [tTableD.va p, isI .i64 q.2]) := by
  refine CtrE.of_W func25 rfl ntmps25 rfl fun A w => ?_
  unfold f3025
  refine .seq <| .region <| .box (T := tTable) rfl rfl fun b1 => .alloc tTableD d0D27 [] zD27 rfl fun b2 => .assign rfl rfl <| .nil ?_
  refine .seq <| .seq <| .region <| .loadP 1 (Fld.self _) rfl rfl ty27 rfl <| .call0 (c19 fu _) n19 rfl rfl fun q3 => .not rfl rfl <| .nil ?_
  refine .cond rfl (fun _ => ?_) (fun _ => ?_)
  · refine .seq <| .region <| .buildA rfl st27 zD27 (.nil) rfl <| .storeP 0 (Fld.self _) rfl rfl rfl ty27 <| .assign rfl rfl <| .nil ?_
    refine .arrNil tRowA <| .arrNil tChange <| .arrNil tCol <| W_fact (p := ([] : List Row) = ([] : List RowV).map RowV.r ∧ (0 : Int) = 0) ⟨rfl, rfl⟩ ?_
    exact W_retE2 [] d0D27 func25 results25 (.cell 4 rfl rfl ty27) (.tmp rfl) rfl (fun _ _ _ h => tabD_of h) (.cons_cons _ <| .cons_cons _ <| .cons_cons _ <| .cons_cons _ <| List.nil_sublist _)
  · refine .skip <| .seq <| .region <| .loadP 1 (Fld.self _) rfl rfl ty27 rfl <| .move rfl rfl <| .move rfl rfl <| .callEb (c75d fu _ _ _) n75 rfl rfl fun q4 p s => .extract rfl rfl rfl <| .extract rfl rfl rfl <| .storeP 0 (Fld.self _) rfl rfl rfl ty27 <| .assign rfl rfl <| .nil ?_
    exact W_retE2 s p func25 results25 (.cell 0 rfl rfl ty27) (.tmp rfl) rfl (fun _ _ _ h => tabD_of h) (.cons _ <| .cons _ <| .refl _)
end Go.Proofs.YtejobmamkeoheaaGreatDoor
/- Rows and tables written all through: markRowS, markTable. -/
namespace Go.Proofs.YtejobmamkeoheaaGreatDoor
open Go Go.HL Tryz
def f3042_l1 (fu : Nat) : Nat → Int → List Row → List Row → Option (Int × (List Row))
  | 0, _, _, _ => none
  | _ + 1, i1, s, [] => some (i1, s)
  | n1 + 1, i1, s, z :: zs => (f3079 fu z.vals (IntKind.i64.wrap (IntKind.i64.wrap (i1 + 1) + 1))).bind fun q4 => f3042_l1 fu n1 q4.1 (s ++ [(⟨i1, IntKind.i64.wrap (i1 + 1), q4.2⟩ : Row)]) zs
def f3042 (fu : Nat) (a0 : List Row) (a1 : Int) : Option (Int × (List Row)) := f3042_l1 fu fu a1 [] a0
theorem n3042 : ∃ fn c, Tryz.prog.funcs[42]? = some fn ∧ (fn.name == "runtime.NumGoroutine") = false ∧ fn.body = some c := ⟨_, _, Tryz.func42, by kernel_rfl, rfl⟩
theorem rowsO_mid {s zs : List RowV} {z : RowV} : (rowsO (s ++ z :: zs)).Perm (arrO tVal z.at_ z.vals :: (rowsO s ++ rowsO zs)) := by
  unfold rowsO
  rw [List.map_append, List.map_cons]
  exact List.perm_middle
theorem c3042 (fu : Nat) (vp0 : Value) (s0 : List RowV) (a1 : Int) : CtrE Tryz.prog 42 [isV vp0, isI .i64 a1] (arrO tRowA vp0 (s0.map RowV.a) :: rowsO s0) (f3042 fu (s0.map RowV.r) a1) (fun _ => ()) (fun q _ (s : List RowV) => sureO (q.2 = s.map RowV.r) :: arrO tRowA vp0 (s.map RowV.a) :: rowsO s) (fun q _ => isI .i64 q.1) := by
  refine CtrE.of_W Tryz.func42 rfl Tryz.ntmps42 rfl fun A w => ?_
  unfold f3042
  refine .know 0 rfl <| .seq <| .region <| .assign rfl rfl <| .nil ?_
  refine .seq <| .seq <| .region <| .assign rfl rfl <| .nil ?_
  refine .block <| .loop <| .keep [1, 5] [0] rfl ?_
  refine (show ∀ (n1 : Nat) (i1 : Int) (s zs : List RowV), W _ _ _ _ _ ⟨[(1, isI .i64 i1, none), (5, isI .i64 ((s.map RowV.a).length : Int), none), (0, isV vp0, some vp0)], arrO tRowA vp0 (s.map RowV.a ++ zs.map RowV.a) :: rowsO (s ++ zs)⟩ (f3042_l1 fu n1 i1 (s.map RowV.r) (zs.map RowV.r)) from ?_) fu _ [] _
  intro n1
  induction n1 with
  | zero => exact fun _ _ _ => .stop
  | succ n1 ih1 =>
    intro i1 s zs
    refine W_limA 0 rfl fun hlim => ?_
    refine .inLoop <| .seq <| .seq <| .region <| .move rfl rfl <| .move rfl rfl <| .lenA 0 rfl rfl Tryz.underlying30 rfl <| .bin rfl rfl rfl rfl <| .nil ?_
    refine .eqr (r' := cond (decide (((s.map RowV.a).length : Int) < ((s.map RowV.a ++ zs.map RowV.a).length : Int))) (f3042_l1 fu (n1 + 1) i1 (s.map RowV.r) (zs.map RowV.r)) (f3042_l1 fu (n1 + 1) i1 (s.map RowV.r) (zs.map RowV.r))) (by cases decide (((s.map RowV.a).length : Int) < ((s.map RowV.a ++ zs.map RowV.a).length : Int)) <;> rfl) ?_
    refine .cond rfl (fun hlt => ?_) (fun hge => ?_)
    · obtain ⟨z, zs, rfl⟩ : ∃ z l, zs = z :: l := by
        cases zs with
        | nil => simp at hlt
        | cons z l => exact ⟨z, l, rfl⟩
      refine .perm (B' := arrO tRowA vp0 (s.map RowV.a ++ z.a :: zs.map RowV.a) :: arrO tVal z.at_ z.vals :: (rowsO s ++ rowsO zs)) (rowsO_mid.cons _) ?_
      refine .skip <| .seq <| .block <| .seq <| .region <| .move rfl rfl <| .move rfl rfl <| .move rfl rfl <| .elemM 0 rfl rfl rfl Tryz.underlying30 ty37 rfl <| .fieldA rfl fa37_0 rfl <| .storeM 0 fRowA_0 rfl rfl rfl ty3 <| .nil ?_
      refine .seq <| .region <| .move rfl rfl <| .bin rfl rfl rfl rfl <| .assign rfl rfl <| .nil ?_
      refine .seq <| .region <| .move rfl rfl <| .move rfl rfl <| .move rfl rfl <| .elemM 0 rfl rfl rfl Tryz.underlying30 ty37 rfl <| .fieldA rfl fa37_1 rfl <| .storeM 0 fRowA_1 rfl rfl rfl ty3 <| .nil ?_
      refine .seq <| .region <| .move rfl rfl <| .bin rfl rfl rfl rfl <| .assign rfl rfl <| .nil ?_
      refine .region <| .move rfl rfl <| .move rfl rfl <| .elemM 0 rfl rfl rfl Tryz.underlying30 ty37 rfl <| .fieldA rfl fa37_2 rfl <| .loadM 0 fRowA_2 rfl rfl ty32 rfl <| .unRaw 30 rfl <| .move rfl rfl <| .call1 1 (c3079 fu _ _ _) rfl n3079 rfl rfl fun q4 => .assign rfl rfl <| .nil ?_
      refine .inBlock <| .region <| .move rfl rfl <| .bin rfl rfl rfl rfl <| .assign rfl rfl <| .nil ?_
      have hx := ih1 q4.1 (s ++ [⟨i1, IntKind.i64.wrap (i1 + 1), z.at_, q4.2⟩]) zs
      have hl : ((s ++ [(⟨i1, IntKind.i64.wrap (i1 + 1), z.at_, q4.2⟩ : RowV)]).map RowV.a).length = (s.map RowV.a).length + 1 := by simp
      have er : (s ++ [(⟨i1, IntKind.i64.wrap (i1 + 1), z.at_, q4.2⟩ : RowV)]).map RowV.r = s.map RowV.r ++ [⟨i1, IntKind.i64.wrap (i1 + 1), q4.2⟩] := by simp [RowV.r]
      rw [hl, len_next (z := z.a) (zs := zs.map RowV.a) hlim, er] at hx
      refine .perm (B' := arrO tRowA vp0 ((s ++ [(⟨i1, IntKind.i64.wrap (i1 + 1), z.at_, q4.2⟩ : RowV)]).map RowV.a ++ zs.map RowV.a) :: rowsO (s ++ [(⟨i1, IntKind.i64.wrap (i1 + 1), z.at_, q4.2⟩ : RowV)] ++ zs)) ?_ (.keep [1, 5] [0] rfl hx)
      rw [List.map_append, List.append_assoc, List.append_assoc]
      exact (rowsO_mid (s := s) (zs := zs) (z := ⟨i1, IntKind.i64.wrap (i1 + 1), z.at_, q4.2⟩)).symm.cons _
    · obtain rfl : zs = [] := by
        cases zs with
        | nil => rfl
        | cons z l => simp at hge; omega
      rw [List.map_nil, List.append_nil, List.append_nil]
      refine .exit rfl <| .seq <| .region <| .move rfl rfl <| .assign rfl rfl <| .nil ?_
      refine W_fact (p := s.map RowV.r = s.map RowV.r) rfl ?_
      exact .retE1 s () Tryz.func42 Tryz.results42 (.tmp rfl) rfl (fun _ _ _ _ => rfl) (.refl _)
def f3012 (fu : Nat) (a0 : Table) (a1 : Int) : Option (Int × Table) := (f3040 fu a0.first a1).bind fun q1 => (f3041 fu a0.changes q1.1).bind fun q2 => (f3042 fu a0.rows q2.1).bind fun q3 => some (q3.1, ⟨q1.2, q2.2, q3.2, a0.next⟩)
theorem n3012 : ∃ fn c, Tryz.prog.funcs[12]? = some fn ∧ (fn.name == "runtime.NumGoroutine") = false ∧ fn.body = some c := ⟨_, _, Tryz.func12, by kernel_rfl, rfl⟩
theorem c3012 (fu : Nat) (q0 : Table) (p0 : TableD) (s0 : List RowV) (a1 : Int) : CtrE Tryz.prog 12 [tTableD.va p0, isI .i64 a1] (tabO q0 p0 s0) (f3012 fu q0 a1) (fun _ => ()) (fun q _ (s : List RowV) => tabO q.2 p0 s) (fun q _ => isI .i64 q.1) := by
  refine CtrE.of_W Tryz.func12 rfl Tryz.ntmps12 rfl fun A w => ?_
  unfold f3012
  refine W_get 0 rfl fun hq => ?_
  obtain ⟨qf, qc, qr, qn⟩ := q0
  obtain ⟨pf, pc, pr, pn⟩ := p0
  obtain ⟨rfl, rfl⟩ : qr = s0.map RowV.r ∧ qn = pn := hq
  refine .seq <| .region <| .box (T := tTableD) rfl rfl fun b1 => .assign rfl rfl <| .nil ?_
  refine .seq <| .region <| .fieldP rfl fa27_0 rfl <| .loadR 0 fTableD_0 rfl rfl ty23 rfl <| .know 6 rfl <| .move rfl rfl <| .call1 2 (c3040 fu _ _ _) rfl n3040 rfl rfl fun q1 => .assign rfl rfl <| .nil ?_
  refine .seq <| .region <| .fieldP rfl fa27_1 rfl <| .loadR 0 fTableD_1 rfl rfl ty24 rfl <| .know 10 rfl <| .move rfl rfl <| .call1 3 (c3041 fu _ _ _) rfl n3041 rfl rfl fun q2 => .assign rfl rfl <| .nil ?_
  refine .seq <| .region <| .fieldP rfl fa27_2 rfl <| .loadR 0 fTableD_2 rfl rfl ty25 rfl <| .know 14 rfl <| .move rfl rfl <| ?_
  refine .perm (B' := (arrO tRowA pr (s0.map RowV.a) :: rowsO s0) ++ [boxO b1 tTableD ⟨pf, pc, pr, qn⟩ [], sureO (s0.map RowV.r = s0.map RowV.r ∧ qn = qn), arrO tCol pf q1.2, arrO tChange pc q2.2]) (List.perm_append_comm (l₁ := [_, _, _, _])) ?_
  refine .callOE (c3042 fu _ _ _) rfl n3042 rfl rfl fun q3 _ s3 => .assign rfl rfl <| .nil ?_
  refine .perm (List.perm_append_comm (l₂ := [_, _, _, _])) ?_
  refine W_get 4 rfl fun h3 => ?_
  refine .drop (.cons _ <| .cons _ <| .cons_cons _ <| .cons_cons _ <| .cons _ <| .refl _) ?_
  refine W_fact (p := q3.2 = s3.map RowV.r ∧ qn = qn) ⟨h3, rfl⟩ ?_
  refine .seq <| .region <| .move rfl rfl <| .assign rfl rfl <| .nil ?_
  exact .retE1 s3 () Tryz.func12 Tryz.results12 (.tmp rfl) rfl (fun _ _ _ _ => rfl) (.refl _)
end Go.Proofs.YtejobmamkeoheaaGreatDoor
/- toRow, toRowS, toTable, all of whose memory is ours. -/
namespace Go.HL
section
variable {P : Program} {e : Env} {ρ : Type} {Kp : ρ → Go.Act → World → Prop} {K : Ctx} {r : Option ρ} {arr : Array Oper} {l : List Oper} {b : Bool}
theorem WO_true (hb : b = true) (h : WO P e Kp arr l K r) : WO P e Kp arr l K (cond b r none) := by subst hb; exact h
end
end Go.HL
namespace Go.Proofs.YtejobmamkeoheaaGreatDoor
open Go Go.HL Tryz
theorem rowA_of {d : RowA} {v : Value} {A : Ar} {w : World} (h : (tRowA.va d).f v A w) : cellV 2 v = d.vals := by
  obtain ⟨cs, rfl, h⟩ := h
  obtain ⟨_, _, rfl, h0, ⟨_, _, rfl, h1, h2⟩⟩ := h
  cases h0
  cases h1
  obtain ⟨rfl, -⟩ := h2
  rfl
theorem c3065d (fu : Nat) (a0 : Row) : CtrL Tryz.prog 65 [tRow.va a0] [] (f3065 fu a0) (fun v => cellV 2 v) (fun q v => [arrO tVal v q.vals]) (fun q v => tRowA.va ⟨q.id, q.ver, v⟩) := by
  refine CtrL.of_W Tryz.func65 rfl Tryz.ntmps65 rfl fun A w => ?_
  unfold f3065
  refine .seq <| .region <| .box (T := tRow) rfl rfl fun b1 => .alloc tRowA d0RA [] zRA rfl fun b2 => .nil ?_
  refine .seq <| .region <| .alloc tRowA d0RA [] zRA rfl fun b3 => .nil ?_
  refine .seq <| .region <| .fieldP rfl fa3095_0 rfl <| .loadP 2 fRow_0 rfl rfl ty3 rfl <| .fieldP rfl fa37_0 rfl <| .storeP 0 fRowA_0 rfl rfl rfl ty3 <| .nil ?_
  refine .seq <| .region <| .fieldP rfl fa3095_1 rfl <| .loadP 2 fRow_1 rfl rfl ty3 rfl <| .fieldP rfl fa37_1 rfl <| .storeP 0 fRowA_1 rfl rfl rfl ty3 <| .nil ?_
  refine .seq <| .region <| .fieldP rfl fa3095_2 rfl <| .loadP 2 fRow_2 rfl rfl ty3093 rfl <| .callL0 (c3097 fu _) n3097 rfl rfl fun q4 v4 => .fieldP rfl fa37_2 rfl <| .storeP 1 fRowA_2 rfl rfl rfl ty32 <| .nil ?_
  refine .seq <| .region <| .loadP 1 (Fld.self _) rfl rfl ty37 rfl <| .storeP 2 (Fld.self _) rfl rfl rfl ty37 <| .nil ?_
  exact .retL1 v4 Tryz.func65 Tryz.results65 (.cell 2 rfl rfl ty37) rfl (fun _ _ _ h => rowA_of h) (.cons_cons _ <| .cons _ <| .cons _ <| .cons _ <| .slnil)
theorem c3034d (fu : Nat) (a0 : List Row) : CtrE Tryz.prog 34 [(tL tRow).va a0] [] (f3034 fu a0) (fun v => v) (fun q v (s : List RowV) => sureO (q = s.map RowV.r) :: arrO tRowA v (s.map RowV.a) :: rowsO s) (fun _ v => tRaw.va v) := by
  refine CtrE.of_W Tryz.func34 rfl Tryz.ntmps34 rfl fun A w => ?_
  unfold f3034
  refine W_lim (t := 0) rfl fun hlim => ?_
  refine .seq <| .region <| .assign rfl rfl <| .arrNil tRowA <| .nil ?_
  refine .seq <| .region <| .move rfl rfl <| .lenL rfl Tryz.underlying24 rfl <| .makeSlice (T := tRowA) rfl rfl Tryz.underlying30 el37 zRA rfl fun v1 => .assign rfl rfl <| .nil ?_
  refine .seq <| .seq <| .region <| .assign rfl rfl <| .nil ?_
  refine .block <| .loop <| .drop (.cons_cons _ <| .cons _ <| .slnil) <| .keep [0, 4] [3] rfl ?_
  refine (show ∀ (n1 : Nat) (s : List RowV) (ys : List RowA) (zs : List Row), s.length + zs.length = a0.length → ys.length = zs.length → W _ _ _ _ _ ⟨[(0, (tL tRow).va a0, none), (4, isI .i64 (s.length : Int), none), (3, isV v1, some v1)], arrO tRowA v1 (s.map RowV.a ++ ys) :: rowsO s⟩ (f3034_l1 fu a0 n1 (s.length : Int) (s.map RowV.r ++ zs)) from ?_) fu [] _ _ (by simp) (by simp)
  intro n1
  induction n1 with
  | zero => exact fun _ _ _ _ _ => .stop
  | succ n1 ih1 =>
    intro s ys zs hsz hyl
    refine .inLoop <| .seq <| .seq <| .region <| .move rfl rfl <| .move rfl rfl <| .lenL rfl Tryz.underlying24 rfl <| .bin rfl rfl rfl rfl <| .nil ?_
    refine .cond rfl (fun hlt => ?_) (fun hge => ?_)
    · have hlt' : s.length < a0.length := by have := of_decide_eq_true hlt; omega
      obtain ⟨z, zs, rfl⟩ : ∃ z l, zs = z :: l := by
        cases zs with
        | nil => rw [List.length_nil] at hsz; omega
        | cons z l => exact ⟨z, l, rfl⟩
      obtain ⟨y, ys, rfl⟩ : ∃ y l, ys = y :: l := by
        cases ys with
        | nil => simp at hyl
        | cons y l => exact ⟨y, l, rfl⟩
      have hb : (decide (0 ≤ (s.length : Int)) && decide ((s.length : Int) < ((s.map RowV.r ++ z :: zs).length : Int))) = true := by simp; omega
      refine .skip <| .seq <| .block <| .region <| .move rfl rfl <| .move rfl rfl <| .move rfl rfl <| .move rfl rfl <| .elemAt rfl rfl Tryz.underlying24 ty3095 rfl <| .load rfl ty3095 rfl <| .callL0 (c3065d fu _) n3065 rfl rfl fun q4 v4 => ?_
      refine WO_true hb ?_
      refine .elemM (s := s.map RowV.a) 1 rfl (by rw [List.length_map]; rfl) rfl Tryz.underlying30 ty37 rfl <| .storeM (s := s.map RowV.a) 1 (Fld.self _) rfl rfl rfl ty37 <| .nil ?_
      refine .inBlock <| .region <| .move rfl rfl <| .bin rfl rfl rfl rfl <| .assign rfl rfl <| .nil ?_
      have hx := ih1 (s ++ [⟨q4.id, q4.ver, v4, q4.vals⟩]) ys zs (by simp at hsz ⊢; omega) (by simpa using hyl)
      rw [rowsO_snoc, List.length_append, List.length_singleton, List.map_append, List.map_append, List.append_assoc, List.append_assoc] at hx
      have ew : IntKind.i64.wrap ((s.length : Int) + 1) = ((s.length + 1 : Nat) : Int) := by rw [IntKind.wrap_i64]; rw [LIM_eq] at hlim; omega
      have ez : (s.map RowV.r ++ z :: zs).set (s.length : Int).toNat q4 = s.map RowV.r ++ (List.map RowV.r [⟨q4.id, q4.ver, v4, q4.vals⟩] ++ zs) := by
        rw [Int.toNat_natCast, mid_set (by rw [List.length_map])]; rfl
      rw [← ew] at hx
      rw [ez]
      refine .keep [0, 4] [3] rfl <| .perm (B' := arrO tRowA v1 (s.map RowV.a ++ (List.map RowV.a [⟨q4.id, q4.ver, v4, q4.vals⟩] ++ ys)) :: (rowsO s ++ [arrO tVal v4 q4.vals])) ?_ hx
      exact (List.Perm.swap ..).trans ((List.perm_append_singleton _ _).symm.cons _)
    · have hz0 : zs.length = 0 := by have := of_decide_eq_false hge; omega
      have hzn : zs = [] := List.eq_nil_of_length_eq_zero hz0
      have hyn : ys = [] := List.eq_nil_of_length_eq_zero (by omega)
      subst hzn hyn
      rw [List.append_nil, List.append_nil]
      refine .exit rfl <| .seq <| .region <| .move rfl rfl <| .assign rfl rfl <| .nil ?_
      refine .toRaw 0 2 rfl rfl <| W_fact (p := s.map RowV.r = s.map RowV.r) rfl ?_
      exact .retE1 s v1 Tryz.func34 Tryz.results34 (.tmp rfl) rfl (fun _ _ _ h => h.1) (.refl _)
theorem c3009d (fu : Nat) (a0 : Table) : CtrE Tryz.prog 9 [tTable.va a0] [] (f3009 fu a0) tabD tabO (fun _ p => tTableD.va p) := by
  refine CtrE.of_W Tryz.func9 rfl Tryz.ntmps9 rfl fun A w => ?_
  unfold f3009
  refine .seq <| .region <| .box (T := tTable) rfl rfl fun b1 => .alloc tTableD d0D27 [] zD27 rfl fun b2 => .nil ?_
  refine .seq <| .region <| .alloc tTableD d0D27 [] zD27 rfl fun b3 => .nil ?_
  refine .seq <| .region <| .fieldP rfl fa3026_0 rfl <| .loadP 2 fTable_0 rfl rfl ty3022 rfl <| .callL0 (c3032 fu _) n3032 rfl rfl fun q4 v4 => .fieldP rfl fa27_0 rfl <| .storeP 1 fTableD_0 rfl rfl rfl ty23 <| .nil ?_
  refine .seq <| .region <| .fieldP rfl fa3026_1 rfl <| .loadP 3 fTable_1 rfl rfl ty3023 rfl <| .callL0 (c3033 fu _) n3033 rfl rfl fun q5 v5 => .fieldP rfl fa27_1 rfl <| .storeP 2 fTableD_1 rfl rfl rfl ty24 <| .nil ?_
  refine .seq <| .region <| .fieldP rfl fa3026_2 rfl <| .loadP 4 fTable_2 rfl rfl ty3024 rfl <| .callEb (c3034d fu _) n3034 rfl rfl fun q6 v6 s6 => .fieldP rfl fa27_2 rfl <| .storeP 2 fTableD_2 rfl rfl rfl ty25 <| .nil ?_
  refine .seq <| .region <| .fieldP rfl fa3026_3 rfl <| .loadP 4 fTable_3 rfl rfl ty3 rfl <| .fieldP rfl fa27_3 rfl <| .storeP 2 fTableD_3 rfl rfl rfl ty3 <| .nil ?_
  refine .seq <| .region <| .loadP 2 (Fld.self _) rfl rfl ty27 rfl <| .storeP 3 (Fld.self _) rfl rfl rfl ty27 <| .nil ?_
  refine W_get 5 rfl fun h6 => ?_
  refine W_sel [3, 1, 0] rfl <| .drop (.cons_cons _ <| .cons_cons _ <| .cons_cons _ <| .cons _ <| .cons _ <| .cons _ <| .refl _) ?_
  refine W_fact (p := q6 = s6.map RowV.r ∧ a0.next = a0.next) ⟨h6, rfl⟩ ?_
  refine W_sel [1] rfl ?_
  exact .retE1 s6 ⟨v4, v5, v6, a0.next⟩ Tryz.func9 Tryz.results9 (.cell 0 rfl rfl ty27) rfl (fun _ _ _ h => tabD_of h) (.cons _ <| .refl _)
end Go.Proofs.YtejobmamkeoheaaGreatDoor
/- Rules for the laws' own walks. -/
namespace Go.HL
theorem pmA {X G : List Own} (L : List Own) : (L ++ (X ++ G)).Perm (X ++ (L ++ G)) := by
  rw [← List.append_assoc, ← List.append_assoc]
  exact List.perm_append_comm.append_right G
theorem PreB.app2 {H : List Nat} {B Z Y : List Own} {i : Nat} : PreB H i B ((B ++ Z) ++ Y) := by rw [List.append_assoc]; exact .app
theorem ltF {l : Int} (h : 0 ≤ l) : decide (l < 0) = false := by simp; omega
theorem neF (m : Int) : (!decide (m = m)) = false := by simp
theorem tupF2 {σ ν : Type} {Q : σ → ν → VA} {m : σ → Int} (h : ∀ q p v A A' w w', (Q q p).f v A w → (Q q p).f v A' w') : ∀ (q : σ) (p : ν) (v : Value) (A A' : Ar) (w w' : World), (tup [Q q p, isI .i64 (m q)]).f v A w → (tup [Q q p, isI .i64 (m q)]).f v A' w' := by
  rintro q p v A A' w w' ⟨vs, e, hv⟩
  cases hv with
  | cons h1 h2 => cases h2 with | cons h3 h4 => cases h4; exact ⟨_, e, .cons (h q p _ _ _ _ _ h1) (.cons h3 .nil)⟩
end Go.HL
namespace Go.Proofs.YtejobmamkeoheaaGreatDoor
open Go Go.HL Tryz
theorem c3009p (fu : Nat) (a0 : Table) : Ctr Tryz.prog 9 [tTable.va a0] [] (f3009 fu a0) (fun _ _ => []) (fun q => tTable.va q) := (c3009d fu a0).plain tabD_read
end Go.Proofs.YtejobmamkeoheaaGreatDoor
