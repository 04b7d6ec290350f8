/- Tables all of whose memory is ours: what they are made of, and the copy of one. -/
import Derived.Test.YtejobmamkeoheaaGreatDoorQ5TX0
import Derived.Test.YtejobmamkeoheaaGreatDoorQ5TB1
import Derived.KernelRfl
set_option linter.all false
namespace Go.Proofs.YtejobmamkeoheaaGreatDoor
open Go Go.HL Tryz
structure TableD where
  first : Value
  changes : Value
  rows : Value
  next : Int
def tTableD : Ty TableD := (tRaw.x (tRaw.x (tRaw.x (tI .i64)))).iso fun d => (d.first, d.changes, d.rows, d.next)
theorem fTableD_0 : Fld tTableD 0 tRaw (fun d => d.first) (fun d x => { d with first := x }) := Fld.iso Fld.fst fun _ _ => rfl
theorem fTableD_1 : Fld tTableD 1 tRaw (fun d => d.changes) (fun d x => { d with changes := x }) := Fld.iso (Fld.snd Fld.fst) fun _ _ => rfl
theorem fTableD_2 : Fld tTableD 2 tRaw (fun d => d.rows) (fun d x => { d with rows := x }) := Fld.iso (Fld.snd (Fld.snd Fld.fst)) fun _ _ => rfl
theorem fTableD_3 : Fld tTableD 3 (tI .i64) (fun d => d.next) (fun d x => { d with next := x }) := Fld.iso (Fld.snd (Fld.snd Fld.last)) fun _ _ => rfl
abbrev d0D27 : TableD := ⟨.slice none 0 0, .slice none 0 0, .slice none 0 0, 0⟩
theorem zD27 : ZeroAt Tryz.prog 32 tTableD d0D27 [] := ⟨(.agg #[.slice none 0 0, .slice none 0 0, .slice none 0 0, .int .i64 0]), by kernel_rfl, fun A w => ⟨[.slice none 0 0], [.slice none 0 0, .slice none 0 0, .int .i64 0], rfl, ⟨rfl, rfl⟩, ⟨[.slice none 0 0], [.slice none 0 0, .int .i64 0], rfl, ⟨rfl, rfl⟩, ⟨[.slice none 0 0], [.int .i64 0], rfl, ⟨rfl, rfl⟩, rfl⟩⟩⟩, fun _ h => nomatch h⟩
structure RowV where
  id : Int
  ver : Int
  at_ : Value
  vals : List Val
abbrev RowV.a (x : RowV) : RowA := ⟨x.id, x.ver, x.at_⟩
abbrev RowV.r (x : RowV) : Row := ⟨x.id, x.ver, x.vals⟩
def rowsO (s : List RowV) : List Own := s.map fun x => arrO tVal x.at_ x.vals
def tabO (q : Table) (p : TableD) (s : List RowV) : List Own := sureO (q.rows = s.map RowV.r ∧ q.next = p.next) :: arrO tCol p.first q.first :: arrO tChange p.changes q.changes :: arrO tRowA p.rows (s.map RowV.a) :: rowsO s
def tabD (v : Value) : TableD := ⟨cellV 0 v, cellV 1 v, cellV 2 v, match cellV 3 v with | .int _ n => n | _ => 0⟩
theorem tabD_of {d : TableD} {v : Value} {A : Ar} {w : World} (h : (tTableD.va d).f v A w) : tabD v = d := by
  obtain ⟨cs, rfl, h⟩ := h
  obtain ⟨_, _, rfl, h0, ⟨_, _, rfl, h1, ⟨_, _, rfl, h2, h3⟩⟩⟩ := h
  obtain ⟨rfl, -⟩ := h0
  obtain ⟨rfl, -⟩ := h1
  obtain ⟨rfl, -⟩ := h2
  cases h3
  rfl
section
variable {P : Program} {f : FuncId} {e : Env} {ρ σ ν : Type} {R : ρ → Value → World → Prop} {Kp : ρ → Go.Act → World → Prop}
variable {S : List (Nat × Ent)} {B : List Own} {a : Go.Act} {w : World}
variable {k : List Item} {r r' : Option ρ} {arr : Array Oper} {rest l : List Oper} {p : Prop} {b : Bool}
theorem W_lim {α : Type} {T : Ty α} {t : Nat} {xs : List α} {ov : Option Value} (ht : HL.look S t = some ((tL T).va xs, ov)) (h : xs.length ≤ LIM → W P f e R k ⟨S, B⟩ r) : W P f e R k ⟨S, B⟩ r := fun x hx a w hk => by
  obtain ⟨ad, n, c, cs, -, h1, -, h3, -⟩ := (hk.slots t _ ht).1
  exact h (by omega) x hx a w hk
theorem flat_forget {A : Ar} : ∀ {xs : List Row} {cs : List Value}, flat tRow xs cs A w → ∃ ys : List RowA, ys.map (fun y => (y.id, y.ver)) = xs.map (fun x => (x.id, x.ver)) ∧ flat tRowA ys cs A w
  | [], _, h => ⟨[], rfl, h⟩
  | x :: xs, _, ⟨c1, c2, e1, h1, h2⟩ => by
    obtain ⟨ys, h3, h4⟩ := flat_forget h2
    obtain ⟨_, _, rfl, g1, ⟨_, _, rfl, g2, ⟨v, rfl, ad, n, c, cs, rfl, -⟩⟩⟩ := h1
    exact ⟨⟨x.id, x.ver, .slice ad n c⟩ :: ys, by simp [h3], ⟨_, _, e1, ⟨_, _, rfl, g1, ⟨_, _, rfl, g2, ⟨rfl, rfl⟩⟩⟩, h4⟩⟩
theorem W_forget (i : Nat) {v : Value} {xs : List Row} (hB : B[i]? = some (arrO tRow v xs)) (h : ∀ ys : List RowA, ys.map (fun y => (y.id, y.ver)) = xs.map (fun x => (x.id, x.ver)) → W P f e R k ⟨S, B.set i (arrO tRowA v ys)⟩ r) : W P f e R k ⟨S, B⟩ r := fun x hx a w hk => by
  have ho := hk.owns _ (get_mem hB)
  have key : ∃ ys : List RowA, ys.map (fun y => (y.id, y.ver)) = xs.map (fun x => (x.id, x.ver)) ∧ (arrO tRowA v ys).ok (Acur e B w) w := by
    cases v with
    | slice ad n c =>
      cases ad with
      | none =>
        obtain ⟨h1, h2, h3⟩ := ho
        subst h3
        exact ⟨[], rfl, h1, h2, rfl⟩
      | some x =>
        obtain ⟨h1, h2, h3, h4⟩ := ho
        by_cases hc : 0 < c
        · obtain ⟨h5, pre, cs, post, et, h6, h7, h8, h9⟩ := h4 hc
          obtain ⟨ys, g1, g2⟩ := flat_forget h8
          have hl : ys.length = xs.length := by have := congrArg List.length g1; simpa using this
          exact ⟨ys, g1, by omega, h2, h3, fun _ => ⟨h5, pre, cs, post, et, h6, h7, g2, h9⟩⟩
        · have : xs = [] := List.eq_nil_of_length_eq_zero (by omega)
          subst this
          exact ⟨[], rfl, h1, h2, h3, fun h => absurd h hc⟩
    | _ => exact ho.elim
  obtain ⟨ys, g1, g2⟩ := key
  exact h ys g1 x hx a w (hk.recast hB rfl rfl fun _ => g2)
end
end Go.Proofs.YtejobmamkeoheaaGreatDoor
/- The copy of a table, all of whose memory is ours. -/
namespace Go.Proofs.YtejobmamkeoheaaGreatDoor
open Go Go.HL Tryz
section
variable {P : Program} {f : FuncId} {e : Env} {ρ σ ν : Type} {R : ρ → Value → World → Prop}
variable {S : List (Nat × Ent)} {B : List Own} {k : List Item} {r : Option ρ} {p : Prop}
theorem W_sure (h : p → W P f e R k ⟨S, B⟩ r) : W P f e R k ⟨S, sureO p :: B⟩ r := fun x hx a w hk => h (hk.owns _ List.mem_cons_self) x hx a w (hk.perm (.cons _ (.refl _)))
end
theorem f77_len {l q : List Row} (h : f77 l = some q) : q.length = l.length := by
  unfold f77 f110 f111 at h
  by_cases hc : List.length ([] : List Row) + List.length l ≤ CAP
  · rw [decide_eq_true hc] at h
    cases h
    rfl
  · rw [decide_eq_false hc] at h
    cases h
theorem mid_set {α : Type} {s : List α} {y x : α} {l : List α} {n : Nat} (h : n = s.length) : (s ++ y :: l).set n x = s ++ x :: l := by subst h; simp
theorem mid_get {α : Type} {s : List α} {y d : α} {l : List α} {n : Nat} (h : n = s.length) : (s ++ y :: l).getD n d = y := by subst h; simp [List.getD_eq_getElem?_getD]
theorem c80d (fu : Nat) (a0 : Table) : CtrE Tryz.prog 72 [tTable.va a0] [] (f80 fu a0) tabD tabO (fun _ p => tTableD.va p) := by
  refine CtrE.of_W Tryz.func72 rfl Tryz.ntmps72 rfl fun A w => ?_
  unfold f80
  refine .seq <| .region <| .box (T := tTable) rfl rfl fun b1 => .alloc tTableD d0D27 [] zD27 rfl fun b2 => .nil ?_
  refine .seq <| .join5 (fun b3 i4 v4 v6 v5 => ⟨[(1, isP b1 0, none), (2, isP b2 0, none), (3, isP b3 0, none)], [sureO (i4.rows.length = a0.rows.length), boxO b2 tTableD d0D27 [], boxO b1 tTable a0 [], arrO tCol v4 i4.first, arrO tChange v6 i4.changes, arrO tRow v5 i4.rows, boxO b3 tTableD (⟨v4, v6, v5, i4.next⟩ : TableD) []]⟩) (fun b3 i4 v4 v6 v5 => f80_j1 fu a0 i4) (fun b3 i4 v4 v6 v5 => ?_) (fun hj1 => ?_)
  · refine W_sure fun hlen => ?_
    refine W_forget 4 rfl fun ys0 hys0 => ?_
    refine .seq <| .seq <| .region <| .fieldP rfl fa27_2 rfl <| .loadP 1 fTable_2 rfl rfl ty25 rfl <| .lenL rfl Tryz.underlying30 rfl <| .move rfl rfl <| .nil ?_
    refine W_lim (t := 19) rfl fun hlim => ?_
    refine .block <| .loop <| .drop (.cons_cons _ <| .cons _ <| .cons_cons _ <| .cons_cons _ <| .cons_cons _ <| .cons_cons _ <| .slnil) <| .keep [2, 3, 19, 20, 21] [] rfl ?_
    refine (show ∀ (n1 : Nat) (s : List RowV) (ys : List RowA) (zs : List Row), s.length + zs.length = a0.rows.length → ys.map (fun y => (y.id, y.ver)) = zs.map (fun x => (x.id, x.ver)) → W _ _ _ _ _ ⟨[(2, isP b2 0, none), (3, isP b3 0, none), (19, (tL tRow).va a0.rows, none), (20, isI .i64 (List.length a0.rows : Int), none), (21, isI .i64 (s.length : Int), none)], boxO b2 tTableD d0D27 [] :: arrO tCol v4 i4.first :: arrO tChange v6 i4.changes :: arrO tRowA v5 (s.map RowV.a ++ ys) :: boxO b3 tTableD (⟨v4, v6, v5, i4.next⟩ : TableD) [] :: rowsO s⟩ (f80_l1 a0 i4 n1 (s.length : Int) (s.map RowV.r ++ zs)) from ?_) fu [] ys0 i4.rows (by rw [List.length_nil]; omega) hys0
    intro n1
    induction n1 with
    | zero => exact fun _ _ _ _ _ => .stop
    | succ n1 ih1 =>
      intro s ys zs hsz hys
      have hyl : ys.length = zs.length := by have := congrArg List.length hys; simpa using this
      refine .inLoop <| .seq <| .region <| .bin rfl rfl rfl rfl <| .nil ?_
      refine .seq <| .cond rfl (fun hlt => ?_) (fun hge => ?_)
      · have hlt' : s.length < a0.rows.length := by have := of_decide_eq_true hlt; omega
        obtain ⟨z, zs, rfl⟩ : ∃ z l, zs = z :: l := by
          cases zs with
          | nil => rw [List.length_nil] at hsz; omega
          | cons z l => exact ⟨z, l, rfl⟩
        obtain ⟨y, ys, rfl⟩ : ∃ y l, ys = y :: l := by
          cases ys with
          | nil => simp at hyl
          | cons y l => exact ⟨y, l, rfl⟩
        simp only [List.map_cons, List.cons.injEq, Prod.mk.injEq] at hys
        obtain ⟨⟨hy1, hy2⟩, hys⟩ := hys
        have el : (s.map RowV.r ++ z :: zs).length = (s.map RowV.a ++ y :: ys).length := by simp at hyl ⊢; omega
        refine .skip <| .seq <| .block <| .seq <| .region <| .move rfl rfl <| .elemAt rfl rfl Tryz.underlying30 ty37 rfl <| .load rfl ty37 rfl <| .alloc tRow d0_37 [] z37 rfl fun b9 => .assign rfl rfl <| .storeP 0 (Fld.self _) rfl rfl rfl ty37 <| .nil ?_
        refine .pbind fun q10 h2 => ?_
        rw [el]
        refine .drawS 6 [] [5] [] mix (by kernel_rfl) (.cons (fun _ _ _ hP hE h => .fieldP (hE.op rfl) fa27_2 rfl <| h) <| .cons (fun _ _ _ hP hE h => .loadR 5 fTableD_2 (hE.op rfl) (hP.get rfl rfl) ty25 rfl <| h) <| .cons (fun _ _ _ hP hE h => .move (hE.op rfl) rfl <| h) <| .cons (fun _ _ _ hP hE h => .fieldP (hE.op rfl) fa37_2 rfl <| h) <| .cons (fun _ _ _ hP hE h => .loadP 0 fRow_2 (hE.op rfl) (hP.get rfl rfl) ty32 rfl <| h) <| .skip <| .nil) rfl <| .cons (d := 31) rfl rfl fun _ _ hE h => .bindE2 h2 (fun r h => .callL0 (c115 _) n115 (hE.ops rfl) rfl h) fun v31 => .toEnd <| h _ _ .app <| .nil <| .elemA 4 rfl rfl rfl Tryz.underlying30 ty37 rfl <| .fieldA rfl fa37_2 rfl <| .storeA 4 fRowA_2 rfl rfl rfl ty32 <| .nil ?_
        refine .inBlock <| .region <| .bin rfl rfl rfl rfl <| .move rfl rfl <| .nil ?_
        refine .keep [2, 3, 19, 20, 21] [] rfl ?_
        have hx := ih1 (s ++ [⟨y.id, y.ver, v31, q10⟩]) ys zs (by rw [List.length_append, List.length_singleton]; rw [List.length_cons] at hsz; omega) hys
        have er : rowsO (s ++ [(⟨y.id, y.ver, v31, q10⟩ : RowV)]) = rowsO s ++ [arrO tVal v31 q10] := by unfold rowsO; rw [List.map_append]; rfl
        rw [er, List.length_append, List.length_singleton, List.map_append, List.map_append, List.append_assoc, List.append_assoc] at hx
        have ew : IntKind.i64.wrap ((s.length : Int) + 1) = ((s.length + 1 : Nat) : Int) := by rw [IntKind.wrap_i64]; rw [LIM_eq] at hlim; omega
        have ez : (s.map RowV.r ++ z :: zs).set (s.length : Int).toNat { ((s.map RowV.r ++ z :: zs).getD (s.length : Int).toNat default) with vals := q10 } = s.map RowV.r ++ (List.map RowV.r [⟨y.id, y.ver, v31, q10⟩] ++ zs) := by
          rw [Int.toNat_natCast, mid_get (by rw [List.length_map]), mid_set (by rw [List.length_map])]
          simp [RowV.r, hy1, hy2]
        have ey : (s.map RowV.a ++ y :: ys).set (s.length : Int).toNat { ((s.map RowV.a ++ y :: ys).getD (s.length : Int).toNat default) with vals := v31 } = s.map RowV.a ++ (List.map RowV.a [⟨y.id, y.ver, v31, q10⟩] ++ ys) := by
          rw [Int.toNat_natCast, mid_get (by rw [List.length_map]), mid_set (by rw [List.length_map])]
          simp [RowV.a]
        show W _ _ _ _ _ ⟨[(2, isP b2 0, none), (3, isP b3 0, none), (19, (tL tRow).va a0.rows, none), (20, isI .i64 (List.length a0.rows : Int), none), (21, isI .i64 (IntKind.i64.wrap ((s.length : Int) + 1)), none)], boxO b9 tRow _ _ :: boxO b2 tTableD d0D27 [] :: arrO tCol v4 i4.first :: arrO tChange v6 i4.changes :: arrO tRowA v5 ((s.map RowV.a ++ y :: ys).set (s.length : Int).toNat { ((s.map RowV.a ++ y :: ys).getD (s.length : Int).toNat default) with vals := v31 }) :: boxO b3 tTableD (⟨v4, v6, v5, i4.next⟩ : TableD) [] :: (rowsO s ++ [arrO tVal v31 q10])⟩ (f80_l1 a0 i4 n1 (IntKind.i64.wrap ((s.length : Int) + 1)) ((s.map RowV.r ++ z :: zs).set (s.length : Int).toNat { ((s.map RowV.r ++ z :: zs).getD (s.length : Int).toNat default) with vals := q10 }))
        rw [ew, ez, ey]
        exact .drop (.cons _ (.refl _)) hx
      · refine .exit rfl <| .seq <| .region <| .loadP 4 (Fld.self _) rfl rfl ty27 rfl <| .storeP 0 (Fld.self _) rfl rfl rfl ty27 <| .nil ?_
        have hz0 : zs.length = 0 := by have := of_decide_eq_false hge; omega
        have hzn : zs = [] := List.eq_nil_of_length_eq_zero hz0
        have hyn : ys = [] := List.eq_nil_of_length_eq_zero (by omega)
        subst hzn hyn
        rw [List.append_nil, List.append_nil]
        refine W_fact (p := s.map RowV.r = s.map RowV.r ∧ i4.next = i4.next) ⟨rfl, rfl⟩ ?_
        exact .retE1 s (⟨v4, v6, v5, i4.next⟩ : TableD) func72 results72 (.cell 1 rfl rfl ty27) rfl (fun _ _ _ h => tabD_of h) (.cons_cons _ <| .cons _ <| .cons_cons _ <| .cons_cons _ <| .cons_cons _ <| .cons _ <| .refl _)
  · refine .pbind fun q12 h3 => ?_
    refine .pbind fun q13 h4 => ?_
    refine .pbind fun q15 h5 => ?_
    have hl5 := f77_len h5
    refine .drawF 13 [] [2, 5, 8, 11] (some 12) [] mix (by kernel_rfl) (.cons (fun _ _ _ hP hE h => .fieldP (hE.op rfl) fa27_0 rfl <| h) <| .cons (fun _ _ _ hP hE h => .loadP 1 fTable_0 (hE.op rfl) (hP.get rfl rfl) ty23 rfl <| h) <| .skip <| .cons (fun _ _ _ hP hE h => .fieldP (hE.op rfl) fa27_1 rfl <| h) <| .cons (fun _ _ _ hP hE h => .loadP 1 fTable_1 (hE.op rfl) (hP.get rfl rfl) ty24 rfl <| h) <| .skip <| .cons (fun _ _ _ hP hE h => .fieldP (hE.op rfl) fa27_2 rfl <| h) <| .cons (fun _ _ _ hP hE h => .loadP 1 fTable_2 (hE.op rfl) (hP.get rfl rfl) ty25 rfl <| h) <| .skip <| .cons (fun _ _ _ hP hE h => .fieldP (hE.op rfl) fa27_3 rfl <| h) <| .cons (fun _ _ _ hP hE h => .loadP 1 fTable_3 (hE.op rfl) (hP.get rfl rfl) ty3 rfl <| h) <| .skip <| .skip <| .nil) rfl ?_
    refine .next ?_ ?_
    · refine .put 8 rfl rfl fun _ _ hE h => .bindE2 h3 (fun r h => .callL0 (c91 _) n91 (hE.ops rfl) rfl h) fun v12 => .toEnd <| h _ _ (.same <| .same <| .nil) ?_
      refine .next ?_ ?_
      · refine .put 11 rfl rfl fun _ _ hE h => .bindE2 h4 (fun r h => .callL0 (c109 _) n109 (hE.ops rfl) rfl h) fun v14 => .toEnd <| h _ _ (.same <| .same <| .nil) ?_
        refine .next ?_ ?_
        · refine .put 14 rfl rfl fun _ _ hE h => .bindE2 h5 (fun r h => .callL0 (c77 _) n77 (hE.ops rfl) rfl h) fun v16 => .toEnd <| h _ _ (.same <| .same <| .nil) ?_
          refine .next ?_ ?_
          · refine .put 17 rfl rfl fun _ _ hE h => .buildA rfl st27 zD27 (.cons fTableD_0 rfl (vOf (hE.op rfl)) <| .cons fTableD_1 rfl (vOf (hE.op rfl)) <| .cons fTableD_2 rfl (vOf (hE.op rfl)) <| .cons fTableD_3 rfl (vOf (hE.op rfl)) <| .nil) rfl <| h _ _ (.same <| .same <| .nil) ?_
            refine .last <| .put 3 rfl rfl fun _ _ hE h => .alloc tTableD d0D27 [] zD27 rfl fun b11 => .toEnd <| h _ _ (.same <| .same <| .nil) <| .nil <| .storeP 5 (Fld.self _) rfl rfl rfl ty27 <| .nil ?_
            exact .keep [1, 2, 3] [] rfl (W_fact hl5 (hj1 _ ⟨q12, q13, q15, a0.next⟩ _ _ _))
          · refine .put 3 rfl rfl fun _ _ hE h => .alloc tTableD d0D27 [] zD27 rfl fun b11 => .toEnd <| h _ _ (.same <| .same <| .nil) <| .cons (d := 17) rfl rfl fun _ _ hE h => .buildA rfl st27 zD27 (.cons fTableD_0 rfl (vOf (hE.op rfl)) <| .cons fTableD_1 rfl (vOf (hE.op rfl)) <| .cons fTableD_2 rfl (vOf (hE.op rfl)) <| .cons fTableD_3 rfl (vOf (hE.op rfl)) <| .nil) rfl <| h _ _ (.same <| .same <| .nil) <| .nil <| .storeP 5 (Fld.self _) rfl rfl rfl ty27 <| .nil ?_
            exact .keep [1, 2, 3] [] rfl (W_fact hl5 (hj1 _ ⟨q12, q13, q15, a0.next⟩ _ _ _))
        · refine .put 3 rfl rfl fun _ _ hE h => .alloc tTableD d0D27 [] zD27 rfl fun b11 => .toEnd <| h _ _ (.same <| .same <| .nil) <| .cons (d := 14) rfl rfl fun _ _ hE h => .bindE2 h5 (fun r h => .callL0 (c77 _) n77 (hE.ops rfl) rfl h) fun v16 => .toEnd <| h _ _ (.same <| .same <| .nil) <| .cons (d := 17) rfl rfl fun _ _ hE h => .buildA rfl st27 zD27 (.cons fTableD_0 rfl (vOf (hE.op rfl)) <| .cons fTableD_1 rfl (vOf (hE.op rfl)) <| .cons fTableD_2 rfl (vOf (hE.op rfl)) <| .cons fTableD_3 rfl (vOf (hE.op rfl)) <| .nil) rfl <| h _ _ (.same <| .same <| .nil) <| .nil <| .pick [0, 0, 0, 0, 1, 0] rfl <| .storeP 5 (Fld.self _) rfl rfl rfl ty27 <| .nil ?_
          exact .keep [1, 2, 3] [] rfl (W_fact hl5 (hj1 _ ⟨q12, q13, q15, a0.next⟩ _ _ _))
      · refine .put 3 rfl rfl fun _ _ hE h => .alloc tTableD d0D27 [] zD27 rfl fun b11 => .toEnd <| h _ _ (.same <| .same <| .nil) <| .cons (d := 11) rfl rfl fun _ _ hE h => .bindE2 h4 (fun r h => .callL0 (c109 _) n109 (hE.ops rfl) rfl h) fun v14 => .toEnd <| h _ _ (.same <| .same <| .nil) <| .cons (d := 14) rfl rfl fun _ _ hE h => .bindE2 h5 (fun r h => .callL0 (c77 _) n77 (hE.ops rfl) rfl h) fun v16 => .toEnd <| h _ _ (.same <| .same <| .nil) <| .cons (d := 17) rfl rfl fun _ _ hE h => .buildA rfl st27 zD27 (.cons fTableD_0 rfl (vOf (hE.op rfl)) <| .cons fTableD_1 rfl (vOf (hE.op rfl)) <| .cons fTableD_2 rfl (vOf (hE.op rfl)) <| .cons fTableD_3 rfl (vOf (hE.op rfl)) <| .nil) rfl <| h _ _ (.same <| .same <| .nil) <| .nil <| .pick [0, 0, 0, 1, 1, 0] rfl <| .storeP 5 (Fld.self _) rfl rfl rfl ty27 <| .nil ?_
        exact .keep [1, 2, 3] [] rfl (W_fact hl5 (hj1 _ ⟨q12, q13, q15, a0.next⟩ _ _ _))
    · refine .put 3 rfl rfl fun _ _ hE h => .alloc tTableD d0D27 [] zD27 rfl fun b11 => .toEnd <| h _ _ (.same <| .same <| .nil) <| .cons (d := 8) rfl rfl fun _ _ hE h => .bindE2 h3 (fun r h => .callL0 (c91 _) n91 (hE.ops rfl) rfl h) fun v12 => .toEnd <| h _ _ (.same <| .same <| .nil) <| .cons (d := 11) rfl rfl fun _ _ hE h => .bindE2 h4 (fun r h => .callL0 (c109 _) n109 (hE.ops rfl) rfl h) fun v14 => .toEnd <| h _ _ (.same <| .same <| .nil) <| .cons (d := 14) rfl rfl fun _ _ hE h => .bindE2 h5 (fun r h => .callL0 (c77 _) n77 (hE.ops rfl) rfl h) fun v16 => .toEnd <| h _ _ (.same <| .same <| .nil) <| .cons (d := 17) rfl rfl fun _ _ hE h => .buildA rfl st27 zD27 (.cons fTableD_0 rfl (vOf (hE.op rfl)) <| .cons fTableD_1 rfl (vOf (hE.op rfl)) <| .cons fTableD_2 rfl (vOf (hE.op rfl)) <| .cons fTableD_3 rfl (vOf (hE.op rfl)) <| .nil) rfl <| h _ _ (.same <| .same <| .nil) <| .nil <| .pick [0, 0, 1, 1, 1, 0] rfl <| .storeP 5 (Fld.self _) rfl rfl rfl ty27 <| .nil ?_
      exact .keep [1, 2, 3] [] rfl (W_fact hl5 (hj1 _ ⟨q12, q13, q15, a0.next⟩ _ _ _))
end Go.Proofs.YtejobmamkeoheaaGreatDoor
/- Rows copied and taken away, told by where their values lie. -/
namespace Go.Proofs.YtejobmamkeoheaaGreatDoor
open Go Go.HL
def f111A (a0 : List RowA) : Option (List RowA) := cond (decide (List.length ([] : List RowA) + List.length a0 ≤ CAP)) (some (([] : List RowA) ++ a0)) none
theorem c111A (a0 : List RowA) : CtrL Tryz.prog 107 [(tL tRowA).va a0] [] (f111A a0) (fun v => v) (fun q v => [arrO tRowA v q]) (fun _ v => tRaw.va v) := by
  refine CtrL.of_W Tryz.func107 rfl Tryz.ntmps107 rfl fun A w => ?_
  unfold f111A
  refine .seq <| .region <| .assign rfl rfl <| .arrNil tRowA <| .nil ?_
  refine .seq <| .seq <| .region <| .move rfl rfl <| .eqNil rfl Tryz.underlying30 rfl fun nb1 hnb1 => .nil ?_
  refine .eqr (r' := cond nb1 (cond (decide (List.length ([] : List RowA) + List.length a0 ≤ CAP)) (some (([] : List RowA) ++ a0)) none) (cond (decide (List.length ([] : List RowA) + List.length a0 ≤ CAP)) (some (([] : List RowA) ++ a0)) none)) ?_ <| .cond rfl (fun _ => ?_) (fun _ => ?_)
  · cases nb1 <;> rfl
  · obtain rfl := hnb1 (by assumption)
    refine .eqr (r' := some ([] : List RowA)) (by simp) ?_
    refine .seq <| .region <| .assign rfl rfl <| .nil ?_
    exact .toRaw 0 2 rfl rfl <| .retL1 (.slice none 0 0) Tryz.func107 Tryz.results107 (.tmp rfl) rfl (fun _ _ _ h => h.1) (.cons_cons _ <| .slnil)
  · refine .skip <| .seq <| .region <| .lit (T := tRowA) Tryz.underlying30 el37 rfl rfl (.nil) rfl fun v2 => .toArr 0 5 rfl rfl rfl <| .move rfl rfl <| .appA (T := tRowA) 0 rfl rfl rfl Tryz.underlying30 el37 rfl fun v3 => .assign rfl rfl <| .nil ?_
    exact .toRaw 0 2 rfl rfl <| .retL1 v3 Tryz.func107 Tryz.results107 (.tmp rfl) rfl (fun _ _ _ h => h.1) (.cons_cons _ <| .cons _ <| .slnil)
def f110A (a0 : List RowA) : Option (List RowA) := some a0
theorem c110A (vp0 : Value) (a0 : List RowA) : CtrL Tryz.prog 106 [isV vp0] [arrO tRowA vp0 a0] (f110A a0) (fun v => v) (fun q v => [arrO tRowA v q]) (fun _ v => tRaw.va v) := by
  refine CtrL.of_W Tryz.func106 rfl Tryz.ntmps106 rfl fun A w => ?_
  unfold f110A
  refine .know 0 rfl <| .seq <| .region <| .assign rfl rfl <| .arrNil tRowA <| .nil ?_
  refine .seq <| .region <| .move rfl rfl <| .move rfl rfl <| .lenA 1 rfl rfl Tryz.underlying30 rfl <| .move rfl rfl <| .lenA 1 rfl rfl Tryz.underlying30 rfl <| .clip (T := tRowA) 1 rfl rfl rfl rfl Tryz.underlying30 el37 rfl fun v1 => .assign rfl rfl <| .nil ?_
  exact .toRaw 1 2 rfl rfl <| .retL1 v1 Tryz.func106 Tryz.results106 (.tmp rfl) rfl (fun _ _ _ h => h.1) (.cons _ <| .cons_cons _ <| .slnil)
def f77A (a0 : List RowA) : Option (List RowA) := (f111A a0).bind fun q1 => (f110A q1).bind fun q3 => some q3
theorem c77A (a0 : List RowA) : CtrL Tryz.prog 74 [(tL tRowA).va a0] [] (f77A a0) (fun v => v) (fun q v => [arrO tRowA v q]) (fun _ v => tRaw.va v) := by
  refine CtrL.of_W Tryz.func74 rfl Tryz.ntmps74 rfl fun A w => ?_
  unfold f77A
  refine .seq <| .region <| .assign rfl rfl <| .arrNil tRowA <| .nil ?_
  refine .seq <| .region <| .move rfl rfl <| .callL0 (c111A _) n111 rfl rfl fun q1 v2 => .unRaw 4 rfl <| .callS 0 (c110A _ _) rfl n110 rfl rfl fun q3 v4 => .unRaw 5 rfl <| .assign rfl rfl <| .nil ?_
  exact .toRaw 0 2 rfl rfl <| .retL1 v4 Tryz.func74 Tryz.results74 (.tmp rfl) rfl (fun _ _ _ h => h.1) (.cons_cons _ <| .cons _ <| .slnil)
end Go.Proofs.YtejobmamkeoheaaGreatDoor
/- A row taken off a table, all of whose memory is ours. -/
namespace Go.Proofs.YtejobmamkeoheaaGreatDoor
open Go Go.HL Tryz
section
variable {P : Program} {f : FuncId} {e : Env} {ρ σ ν : Type} {R : ρ → Value → World → Prop} {Kp : ρ → Go.Act → World → Prop}
variable {arr : Array Oper} {rest l : List Oper} {K : Ctx} {r0 : Option ρ}
theorem WO_bindK2 {m : Option σ} {y : σ} {K' : σ → ν → Ctx} (hm : m = some y) (hrule : ∀ r : σ → Option ρ, (∀ q p, WO P e Kp arr rest (K' q p) (r q)) → WO P e Kp arr l K (m.bind r)) (h : ∀ p, WO P e Kp arr rest (K' y p) r0) : WO P e Kp arr l K r0 := by
  classical
  have h1 := hrule (fun q => if q = y then r0 else none) (fun q p => by
    by_cases hq : q = y
    · subst hq; rw [if_pos rfl]; exact h p
    · rw [if_neg hq]; exact fun x hx => nomatch hx)
  rw [hm, Option.bind_some, if_pos rfl] at h1
  exact h1
theorem W_retE2 {γ : Type} {A : Ar} {w0 : World} {O : List Own} {n : Nat} {q : ρ} {fn : Func} {S : List (Nat × Ent)} {B : List Own} {k : List Item} {O' : ρ → ν → γ → List Own} {Q : ρ → ν → VA} {rv : Value → ν} {res res2 : ResultVar} {Q1 Q2 : Ent} (g : γ) (vr : ν) (hf : P.funcs[f]? = some fn) (hr : fn.results = #[res, res2]) (h1 : Rv P (env A w0 O n) ⟨S, B⟩ res Q1) (h2 : Rv P (env A w0 O n) ⟨S, B⟩ res2 Q2) (hq : tup [Q1.1, Q2.1] = Q q vr) (hrv : ∀ v A w, Q1.1.f v A w → rv v = vr) (hO : (O' q vr g).Sublist B) :
    W P f (env A w0 O n) (RRE A w0 O (fun v => rv (tupV 0 v)) O' Q) (.code .ret :: k) ⟨S, B⟩ (some q) := by
  intro x hx a w hk
  injection hx with hx
  subst hx
  obtain ⟨v1, hrun1, h3⟩ := h1 a w hk
  obtain ⟨v2, hrun2, h4⟩ := h2 a w hk
  have e : rv (tupV 0 (.tuple #[v1, v2])) = vr := hrv _ _ _ h3.1
  have hret := ret_of (O' := fun q v => O' q (rv (tupV 0 v)) g) (Q := fun q => lift (fun v => rv (tupV 0 v)) (Q q)) (q := q) (v := .tuple #[v1, v2]) hk (by show (O' q (rv (tupV 0 (.tuple #[v1, v2]))) g).Sublist B; rw [e]; exact hO) (by
    show (Q q (rv (tupV 0 (.tuple #[v1, v2])))).f _ _ _
    rw [e, ← hq]
    exact ⟨[v1, v2], rfl, .cons h3.1 (.cons h4.1 .nil)⟩)
  exact Run.ret hf hk.defers (v := .tuple #[v1, v2]) (results2 hr hrun1 hrun2) ⟨g, hret⟩
end
theorem f77_map {s : List RowV} : f77 (s.map RowV.r) = cond (decide (0 + s.length ≤ CAP)) (some (s.map RowV.r)) none := by
  unfold f77 f110 f111
  rw [List.length_map, List.nil_append]
  show (cond (decide (0 + s.length ≤ CAP)) _ none).bind _ = _
  cases decide (0 + s.length ≤ CAP) <;> rfl
theorem f77A_map {s : List RowV} : f77A (s.map RowV.a) = cond (decide (0 + s.length ≤ CAP)) (some (s.map RowV.a)) none := by
  unfold f77A f110A f111A
  rw [List.length_map, List.nil_append]
  show (cond (decide (0 + s.length ≤ CAP)) _ none).bind _ = _
  cases decide (0 + s.length ≤ CAP) <;> rfl
end Go.Proofs.YtejobmamkeoheaaGreatDoor
