/- Memory of ours lent to calls; a contract's blocks read alone from now on. -/
import Derived.Test.YtejobmamkeoheaaGreatDoorQ3003X7
set_option linter.all false
namespace Go.HL
open Go
section
variable {P : Program} {f : FuncId} {e : Env} {ρ σ ν γ : Type} {R : ρ → Value → World → Prop} {Kp : ρ → Go.Act → World → Prop}
variable {S : List (Nat × Ent)} {B : List Own} {a : Go.Act} {w : World}
variable {k : List Item} {r r' : Option ρ} {arr : Array Oper} {rest l : List Oper}
variable {d : Nat} {ty t u el : TypeId} {pos : String} {af : Array Edge} {ov ov' ov'' : Option Value}
variable {x y z : Operand} {α β : Type} {T : Ty α} {U : Ty β} {v : Value} {xs ys : List α}
theorem arrO_read {A A' : Ar} (h : (arrO T v xs).ok A w) (hs : Same A A' w w) (hb : ∀ b o, (arrO T v xs).foot b o → A' b o) : slRel T xs v A' w := by
  cases v with
  | slice ad n c =>
    cases ad with
    | none => obtain ⟨h1, h2, h3⟩ := h; subst h1 h2 h3; exact slRel_nil T _ _
    | some ad =>
      obtain ⟨h1, h2, h3, h4⟩ := h
      by_cases hn : 0 < n
      · obtain ⟨h5, pre, cs, post, et, h6, h7, h8, h9⟩ := h4 (by omega)
        obtain ⟨b, off, sp⟩ := ad
        cases h5
        refine ⟨_, n, c, cs, rfl, h1, h2, h3, h8.good hs, fun _ => ⟨b, off, rfl, fun j hj => ⟨hb b (off + j) ⟨by show (if 0 < c then _ else _) = _; rw [if_pos (by omega)], Nat.le_add_right _ _⟩, ?_⟩⟩⟩
        have := (cell_mid h6).2 j hj
        rw [h7] at this
        rw [this, List.getElem?_eq_getElem hj]
      · have hn0 : n = 0 := by omega
        subst hn0
        have : xs = [] := List.eq_nil_of_length_eq_zero h1
        subst this
        exact ⟨_, 0, c, [], rfl, rfl, h2, h3, rfl, fun h => by omega⟩
  | _ => exact h.elim
theorem CtrE.plain {g : FuncId} {vs : List VA} {y : Option σ} {rv : Value → ν} {O' : σ → ν → γ → List Own} {Q : σ → ν → VA} {Q' : σ → VA} (hf : CtrE P g vs [] y rv O' Q)
    (hr : ∀ {q p s A A' w v}, (∀ O ∈ O' q p s, O.ok A w) → (∀ O ∈ O' q p s, ∀ b o, O.foot b o → A' b o) → Same A A' w w → (Q q p).f v A w → (Q' q).f v A' w) : Ctr P g vs [] y (fun _ _ => []) Q' := by
  intro q hq A w args hp ha
  refine Calls.mono (hf q hq A w args hp ha) ?_
  rintro en w' ⟨v, rfl, gh, hpo, hv⟩
  refine ⟨v, rfl, ⟨hpo.same, fun Q hQ => (by cases hQ), fun Q hQ => (by cases hQ), .nil⟩, hr hpo.ok (fun O hO b o hf => ?_) (fun b o ⟨h1, h2, h3⟩ => ⟨⟨h1, h2, fun Q hQ => (by cases hQ)⟩, rfl⟩) hv⟩
  have h1 := hpo.fresh O hO b hf.1
  refine ⟨?_, h1.1, fun Q hQ => (by cases hQ)⟩
  rcases h1.2 with h2 | h2
  · exact .inr (.inl h2)
  · exact .inr (.inr (h2 o hf.2))
inductive Lends (B : List Own) : List VA → List VA → Prop
  | nil : Lends B [] []
  | keep {X : VA} {vs0 vs : List VA} : Lends B vs0 vs → Lends B (X :: vs0) (X :: vs)
  | deep {X Y : VA} {vs0 vs : List VA} (O : List Own) (hO : ∀ Q ∈ O, Q ∈ B) (hr : ∀ {A A' : Ar} {w : World} {v : Value}, (∀ Q ∈ O, Q.ok A w) → (∀ Q ∈ O, ∀ b o, Q.foot b o → A' b o) → Same A A' w w → X.f v A w → Y.f v A' w) : Lends B vs0 vs → Lends B (X :: vs0) (Y :: vs)
def allW (w : World) : Ar := fun b _ => b < w.heap.size
theorem same_allW {A : Ar} (h : ∀ b o, A b o → b < w.heap.size) : Same A (allW w) w w := fun b o ha => ⟨h b o ha, rfl⟩
theorem Lends.args {vs0 vs : List VA} (h : Lends B vs0 vs) (hk : Holds e ⟨S, B⟩ a w) : ∀ {args : List Value}, Args (Acur e B w) w args vs0 → Args (allW w) w args vs := by
  have hs : Same (Acur e B w) (allW w) w w := same_allW fun b o h => h.2.1
  induction h with
  | nil => intro args h; cases h; exact .nil
  | keep _ ih => intro args h; cases h with | cons h1 h2 => exact .cons (VA.good _ hs h1) (ih h2)
  | deep O hO hr _ ih => intro args h; cases h with | cons h1 h2 => exact .cons (hr (fun Q hQ => hk.owns Q (hO Q hQ)) (fun Q hQ b o hf => (hk.fresh Q (hO Q hQ) b hf.1).1) hs h1) (ih h2)
theorem WO.callLendE {g : FuncId} {xs : Array Operand} {tys : Array TypeId} {vs vs0 : List VA} {y : Option σ} {rv : Value → ν} {O' : σ → ν → γ → List Own} {Q : σ → ν → VA} {r : σ → Option ρ}
    (hf : CtrE P g vs [] y rv O' Q) (hL : Lends B vs0 vs) (hQ : ∀ q p v A A' w w', (Q q p).f v A w → (Q q p).f v A' w') (hO : ∀ q p g, ∀ O ∈ O' q p g, ∀ A A' w, O.ok A w → O.ok A' w)
    (hfn : ∃ fn c, P.funcs[g]? = some fn ∧ (fn.name == "runtime.NumGoroutine") = false ∧ fn.body = some c) (hx : opVAs S xs.toList = some vs0) (hd : Nat.ble (d + 1) e.N = true)
    (h : ∀ q p g, WO P e Kp arr rest ⟨(d, Q q p, none) :: S, O' q p g ++ B⟩ (r q)) :
    WO P e Kp arr (mkOp d (.call { callee := .value (.func g), args := xs, argTypes := tys }) ty pos af :: rest) ⟨S, B⟩ (y.bind r) := by
  intro z hz a w hk
  cases hy : y with
  | none => rw [hy] at hz; cases hz
  | some q =>
    rw [hy] at hz
    simp only [Option.bind_some] at hz
    have hA : Pre (allW w) w [] := {
      old := fun b o h1 => ⟨h1, fun Q hQ => (by cases hQ)⟩
      ok := fun Q hQ => (by cases hQ)
      blk := fun Q hQ b hb => (by cases hQ)
      apart := .nil
      gl := fun g hg => ⟨fun o => ((hk.glob g hg).1 o).2.1, (hk.glob g hg).2⟩ }
    have hargs := hL.args hk (hk.args hx)
    have hc := hf q hy _ _ _ hA hargs
    obtain ⟨fn, c, hfn1, hfn2, hfn3⟩ := hfn
    have hm : (xs.toList.map a.eval).toArray = xs.map a.eval := by apply Array.ext'; simp
    have hrun : (execOp a.eval (mkOp d (.call { callee := .value (.func g), args := xs, argTypes := tys }) ty pos af)).run P w = .ok (.enter g (xs.toList.map a.eval).toArray) w := by
      rw [hm]
      simp only [beq_eq_false_iff_ne, ne_eq] at hfn2
      simp [execOp, resolve, Deferred.ofValue, Act.eval, invoke, callFunc, hfn1, hfn2, hfn3]
    have hw : Region.wanted (mkOp d (.call { callee := .value (.func g), args := xs, argTypes := tys }) ty pos af) (yielded arr a.tmps) = true := rfl
    simp only [wpList, hw, if_true]
    left
    simp only [Oper.wp, hrun, Oper.upon_enter]
    refine Calls.mono hc ?_
    rintro en w' ⟨v, rfl, gh, hp, hq⟩
    have hp2 : Post (Acur e ([] ++ B) w) w [] (O' q (rv v) gh) w' := ⟨hp.same, fun Q hQ => hO _ _ _ Q hQ _ _ _ (hp.ok Q hQ), hp.fresh, hp.apart⟩
    have hk0 : Holds e ⟨S, [] ++ B⟩ a w := hk
    obtain ⟨hk', -⟩ := hk0.called hp2
    exact h q (rv v) gh z hz _ _ (hk'.put (Q := (Q q (rv v), none)) (Nat.le_of_ble_eq_true hd) ⟨hQ q _ v _ _ _ _ hq, fun u hu => by cases hu⟩)
theorem Ctr.toE {g : FuncId} {vs : List VA} {y : Option σ} {Q : σ → VA} (hf : Ctr P g vs [] y (fun _ _ => []) Q) : CtrE P g vs [] y (fun _ => ()) (fun _ _ (_ : Unit) => []) (fun q _ => Q q) := by
  intro q hq A w args hp ha
  refine Calls.mono (hf q hq A w args hp ha) ?_
  rintro en w' ⟨v, rfl, h1, h2⟩
  exact ⟨v, rfl, (), h1, h2⟩
theorem WO.callLendP {g : FuncId} {xs : Array Operand} {tys : Array TypeId} {vs vs0 : List VA} {y : Option σ} {Q : σ → VA} {r : σ → Option ρ}
    (hf : Ctr P g vs [] y (fun _ _ => []) Q) (hL : Lends B vs0 vs) (hQ : ∀ q v A A' w w', (Q q).f v A w → (Q q).f v A' w')
    (hfn : ∃ fn c, P.funcs[g]? = some fn ∧ (fn.name == "runtime.NumGoroutine") = false ∧ fn.body = some c) (hx : opVAs S xs.toList = some vs0) (hd : Nat.ble (d + 1) e.N = true)
    (h : ∀ q, WO P e Kp arr rest ⟨(d, Q q, none) :: S, B⟩ (r q)) :
    WO P e Kp arr (mkOp d (.call { callee := .value (.func g), args := xs, argTypes := tys }) ty pos af :: rest) ⟨S, B⟩ (y.bind r) :=
  .callLendE (Ctr.toE hf) hL (fun q _ => hQ q) (fun _ _ _ O hO => nomatch hO) hfn hx hd fun q _ _ => h q
theorem WO.callOE {O B' : List Own} {g : FuncId} {xs : Array Operand} {tys : Array TypeId} {vs : List VA} {y : Option σ} {rv : Value → ν} {O' : σ → ν → γ → List Own} {Q : σ → ν → VA} {r : σ → Option ρ}
    (hf : CtrE P g vs O y rv O' Q) (hB : B = O ++ B') (hfn : ∃ fn c, P.funcs[g]? = some fn ∧ (fn.name == "runtime.NumGoroutine") = false ∧ fn.body = some c) (hx : opVAs S xs.toList = some vs) (hd : Nat.ble (d + 1) e.N = true)
    (h : ∀ q p g, WO P e Kp arr rest ⟨(d, Q q p, none) :: S, O' q p g ++ B'⟩ (r q)) :
    WO P e Kp arr (mkOp d (.call { callee := .value (.func g), args := xs, argTypes := tys }) ty pos af :: rest) ⟨S, B⟩ (y.bind r) := by
  subst hB
  intro z hz a w hk
  cases hy : y with
  | none => rw [hy] at hz; cases hz
  | some q =>
    rw [hy] at hz
    simp only [Option.bind_some] at hz
    have hap := List.pairwise_append.1 hk.apart
    have hA : Pre (Acur e (O ++ B') w) w O := {
      old := fun b o ⟨_, h1, h2⟩ => ⟨h1, fun Q hQ => h2 Q (List.mem_append_left _ hQ)⟩
      ok := fun Q hQ => hk.owns Q (List.mem_append_left _ hQ)
      blk := fun Q hQ b hb => (hk.fresh Q (List.mem_append_left _ hQ) b hb).1
      apart := hap.1
      gl := hk.glob }
    obtain ⟨fn, c, hfn1, hfn2, hfn3⟩ := hfn
    have hm : (xs.toList.map a.eval).toArray = xs.map a.eval := by apply Array.ext'; simp
    have hrun : (execOp a.eval (mkOp d (.call { callee := .value (.func g), args := xs, argTypes := tys }) ty pos af)).run P w = .ok (.enter g (xs.toList.map a.eval).toArray) w := by
      rw [hm]
      simp only [beq_eq_false_iff_ne, ne_eq] at hfn2
      simp [execOp, resolve, Deferred.ofValue, Act.eval, invoke, callFunc, hfn1, hfn2, hfn3]
    have hc := hf q hy _ _ _ hA (hk.args hx)
    have hw : Region.wanted (mkOp d (.call { callee := .value (.func g), args := xs, argTypes := tys }) ty pos af) (yielded arr a.tmps) = true := rfl
    simp only [wpList, hw, if_true]
    left
    simp only [Oper.wp, hrun, Oper.upon_enter]
    refine Calls.mono hc ?_
    rintro en w' ⟨v, rfl, gh, hp, hq⟩
    obtain ⟨hk', hsN⟩ := hk.called hp
    exact h q (rv v) gh z hz _ _ (hk'.put (Q := (Q q (rv v), none)) (Nat.le_of_ble_eq_true hd) ⟨(Q q (rv v)).good hsN hq, fun u hu => by cases hu⟩)
end
end Go.HL
namespace Go.Proofs.YtejobmamkeoheaaGreatDoor
open Go Go.HL Tryz
theorem flat_read {A A' : Ar} {w : World} : ∀ {s : List RowV} {cs : List Value}, flat tRowA (s.map RowV.a) cs A w → (∀ x ∈ s, slRel tVal x.vals x.at_ A' w) → flat tRow (s.map RowV.r) cs A' w
  | [], _, h, _ => h
  | x :: s, _, ⟨c1, c2, e1, h1, h2⟩, hx => by
    obtain ⟨_, _, rfl, g1, ⟨_, _, rfl, g2, g3⟩⟩ := h1
    obtain ⟨rfl, -⟩ := g3
    exact ⟨_, _, e1, ⟨_, _, rfl, g1, ⟨_, _, rfl, g2, ⟨x.at_, rfl, hx x List.mem_cons_self⟩⟩⟩, flat_read h2 fun y hy => hx y (List.mem_cons_of_mem _ hy)⟩
theorem tabD_read {q : Table} {p : TableD} {s : List RowV} {A A' : Ar} {w : World} {v : Value} (hok : ∀ O ∈ tabO q p s, O.ok A w) (hb : ∀ O ∈ tabO q p s, ∀ b o, O.foot b o → A' b o) (hs : Same A A' w w) (h : (tTableD.va p).f v A w) : (tTable.va q).f v A' w := by
  obtain ⟨cs, rfl, h⟩ := h
  obtain ⟨_, _, rfl, h0, ⟨_, _, rfl, h1, ⟨_, _, rfl, h2, h3⟩⟩⟩ := h
  obtain ⟨rfl, -⟩ := h0
  obtain ⟨rfl, -⟩ := h1
  obtain ⟨rfl, -⟩ := h2
  obtain ⟨hrows, hn⟩ : q.rows = s.map RowV.r ∧ q.next = p.next := hok _ List.mem_cons_self
  have m1 : arrO tCol p.first q.first ∈ tabO q p s := .tail _ (.head _)
  have m2 : arrO tChange p.changes q.changes ∈ tabO q p s := .tail _ (.tail _ (.head _))
  have m3 : arrO tRowA p.rows (s.map RowV.a) ∈ tabO q p s := .tail _ (.tail _ (.tail _ (.head _)))
  have m4 : ∀ x ∈ s, arrO tVal x.at_ x.vals ∈ tabO q p s := fun x hx => .tail _ (.tail _ (.tail _ (.tail _ (List.mem_map_of_mem (f := fun x : RowV => arrO tVal x.at_ x.vals) hx))))
  have k1 := arrO_read (hok _ m1) hs (hb _ m1)
  have k2 := arrO_read (hok _ m2) hs (hb _ m2)
  obtain ⟨ad, n, c, cs, e1, e2, e3, e4, e5, e6⟩ := arrO_read (hok _ m3) hs (hb _ m3)
  have k3 : slRel tRow q.rows p.rows A' w := ⟨ad, n, c, cs, e1, by rw [hrows]; simpa using e2, e3, e4, by rw [hrows]; exact flat_read e5 fun x hx => arrO_read (hok _ (m4 x hx)) hs (hb _ (m4 x hx)), e6⟩
  refine ⟨_, rfl, ⟨_, _, rfl, ⟨_, rfl, k1⟩, ⟨_, _, rfl, ⟨_, rfl, k2⟩, ⟨_, _, rfl, ⟨_, rfl, k3⟩, ?_⟩⟩⟩⟩
  show (tI .i64).rel q.next _ _ _
  rw [hn]
  exact h3
end Go.Proofs.YtejobmamkeoheaaGreatDoor
/- Calls whose blocks are laid behind ours; a row of a table of ours lent. -/
namespace Go.HL
open Go
section
variable {P : Program} {e : Env} {ρ σ ν γ : Type} {Kp : ρ → Go.Act → World → Prop}
variable {S : List (Nat × Ent)} {B : List Own} {arr : Array Oper} {rest : List Oper}
variable {d : Nat} {ty : TypeId} {pos : String} {af : Array Edge}
theorem WO.callEb {g : FuncId} {xs : Array Operand} {tys : Array TypeId} {vs : List VA} {y : Option σ} {rv : Value → ν} {O' : σ → ν → γ → List Own} {Q : σ → ν → VA} {r : σ → Option ρ}
    (hf : CtrE P g vs [] y rv O' Q) (hfn : ∃ fn c, P.funcs[g]? = some fn ∧ (fn.name == "runtime.NumGoroutine") = false ∧ fn.body = some c) (hx : opVAs S xs.toList = some vs) (hd : Nat.ble (d + 1) e.N = true)
    (h : ∀ q p g, WO P e Kp arr rest ⟨(d, Q q p, none) :: S, B ++ O' q p g⟩ (r q)) :
    WO P e Kp arr (mkOp d (.call { callee := .value (.func g), args := xs, argTypes := tys }) ty pos af :: rest) ⟨S, B⟩ (y.bind r) :=
  .callE hf hfn hx hd fun q p g => .perm List.perm_append_comm (h q p g)
theorem WO.callLendEb {g : FuncId} {xs : Array Operand} {tys : Array TypeId} {vs vs0 : List VA} {y : Option σ} {rv : Value → ν} {O' : σ → ν → γ → List Own} {Q : σ → ν → VA} {r : σ → Option ρ}
    (hf : CtrE P g vs [] y rv O' Q) (hL : Lends B vs0 vs) (hQ : ∀ q p v A A' w w', (Q q p).f v A w → (Q q p).f v A' w') (hO : ∀ q p g, ∀ O ∈ O' q p g, ∀ A A' w, O.ok A w → O.ok A' w)
    (hfn : ∃ fn c, P.funcs[g]? = some fn ∧ (fn.name == "runtime.NumGoroutine") = false ∧ fn.body = some c) (hx : opVAs S xs.toList = some vs0) (hd : Nat.ble (d + 1) e.N = true)
    (h : ∀ q p g, WO P e Kp arr rest ⟨(d, Q q p, none) :: S, B ++ O' q p g⟩ (r q)) :
    WO P e Kp arr (mkOp d (.call { callee := .value (.func g), args := xs, argTypes := tys }) ty pos af :: rest) ⟨S, B⟩ (y.bind r) :=
  .callLendE hf hL hQ hO hfn hx hd fun q p g => .perm List.perm_append_comm (h q p g)
end
theorem midS {α : Type} {s : List α} {y x : α} {l : List α} : (s ++ y :: l).set s.length x = s ++ x :: l := by simp
theorem midG {α : Type} {s : List α} {y d : α} {l : List α} : (s ++ y :: l).getD s.length d = y := by simp [List.getD_eq_getElem?_getD]
section
variable {P : Program} {f : FuncId} {e : Env} {ρ : Type} {R : ρ → Value → World → Prop} {Kp : ρ → Go.Act → World → Prop}
variable {S : List (Nat × Ent)} {B : List Own} {k : List Item} {r : Option ρ} {arr : Array Oper} {rest : List Oper}
variable {d : Nat} {ty t el : TypeId} {pos : String} {af : Array Edge} {ov ov' : Option Value}
variable {x y : Operand} {α β : Type} {T : Ty α} {U : Ty β} {v : Value} {κ : IntKind}
theorem WO.elemM (i : Nat) {s zs : List α} {y0 : α} {ag : Bool} (hx : opVA S x = some (isV v, ov)) (hy : opVA S y = some (isI κ (s.length : Int), ov')) (hB : B[i]? = some (arrO T v (s ++ y0 :: zs))) (hu : P.underlying t = some (.slice el)) (he : TyAt P el T.sz ag) (hd : Nat.ble (d + 1) e.N = true)
    (h : WO P e Kp arr rest ⟨(d, isEl T.sz v s.length 0, none) :: S, B⟩ r) : WO P e Kp arr (mkOp d (.indexAddr t x y) ty pos af :: rest) ⟨S, B⟩ r := by
  have h2 := WO.elemA (pos := pos) (af := af) (ty := ty) (r := r) i hx hy hB hu he hd (by rw [Int.toNat_natCast]; exact h)
  have e1 : (decide ((0 : Int) ≤ (s.length : Int)) && decide ((s.length : Int) < ((s ++ y0 :: zs).length : Int))) = true := by
    simp only [List.length_append, List.length_cons, Bool.and_eq_true, decide_eq_true_eq]; omega
  rw [e1, cond_true] at h2
  exact h2
theorem WO.storeM [Inhabited α] (i : Nat) {s zs : List α} {y0 : α} {off : Nat} {g : α → β} {st : α → β → α} {q : β} (hf : Fld T off U g st) (hx : opVA S x = some (isEl T.sz v s.length off, ov)) (hB : B[i]? = some (arrO T v (s ++ y0 :: zs))) (hy : opVA S y = some (U.va q, ov')) (ht : TyAt P t U.sz U.agg)
    (h : WO P e Kp arr rest ⟨S, B.set i (arrO T v (s ++ st y0 q :: zs))⟩ r) : WO P e Kp arr (mkOpN (.store t x y) ty pos af :: rest) ⟨S, B⟩ r :=
  .storeA i hf hx hB hy ht (by rw [midG, midS]; exact h)
theorem WO.loadM [Inhabited α] (i : Nat) {s zs : List α} {y0 : α} {off : Nat} {g : α → β} {st : α → β → α} (hf : Fld T off U g st) (hx : opVA S x = some (isEl T.sz v s.length off, ov)) (hB : B[i]? = some (arrO T v (s ++ y0 :: zs))) (ht : TyAt P t U.sz U.agg) (hd : Nat.ble (d + 1) e.N = true)
    (h : WO P e Kp arr rest ⟨(d, U.va (g y0), none) :: S, B⟩ r) : WO P e Kp arr (mkOp d (.load t x) ty pos af :: rest) ⟨S, B⟩ r :=
  .loadA i hf hx hB ht hd (by rw [midG]; exact h)
theorem W_limA (i : Nat) {xs : List α} (hB : B[i]? = some (arrO T v xs)) (h : xs.length ≤ LIM → W P f e R k ⟨S, B⟩ r) : W P f e R k ⟨S, B⟩ r := fun x hx a w hk => by
  have ho := hk.owns _ (get_mem hB)
  refine h ?_ x hx a w hk
  cases v with
  | slice ad n c =>
    cases ad with
    | none => obtain ⟨-, -, h3⟩ := ho; subst h3; exact Nat.zero_le _
    | some ad => obtain ⟨h1, -, h3, -⟩ := ho; omega
  | _ => exact ho.elim
end
theorem more_of {α : Type} {s zs : List α} (h : decide ((s.length : Int) < ((s ++ zs).length : Int)) = true) : ∃ z l, zs = z :: l := by
  cases zs with
  | nil => simp at h
  | cons z l => exact ⟨z, l, rfl⟩
theorem none_of {α : Type} {s zs : List α} (h : decide ((s.length : Int) < ((s ++ zs).length : Int)) = false) : zs = [] := by
  cases zs with
  | nil => rfl
  | cons z l => simp only [List.length_append, List.length_cons, decide_eq_false_iff_not] at h; omega
theorem len_next {α : Type} {s zs : List α} {z : α} (h : (s ++ z :: zs).length ≤ LIM) : ((s.length + 1 : Nat) : Int) = IntKind.i64.wrap ((s.length : Int) + 1) := by
  rw [IntKind.wrap_i64]; rw [LIM_eq, List.length_append, List.length_cons] at h; omega
theorem arrO_free {α : Type} {T : Ty α} {v : Value} {xs : List α} {A A' : Ar} {w : World} (hT : ∀ (x : α) (cs : List Value), T.rel x cs A w → T.rel x cs A' w) (h : (arrO T v xs).ok A w) : (arrO T v xs).ok A' w := by
  have key : ∀ (xs : List α) (cs : List Value), flat T xs cs A w → flat T xs cs A' w := by
    intro xs
    induction xs with
    | nil => exact fun _ h => h
    | cons x xs ih =>
      rintro cs ⟨c1, c2, e, h1, h2⟩
      exact ⟨c1, c2, e, hT x c1 h1, ih c2 h2⟩
  cases v with
  | slice ad n c =>
    cases ad with
    | none => exact h
    | some ad =>
      obtain ⟨h1, h2, h3, h4⟩ := h
      refine ⟨h1, h2, h3, fun hc => ?_⟩
      obtain ⟨h5, pre, cs, post, et, h6, h7, h8, h9⟩ := h4 hc
      exact ⟨h5, pre, cs, post, et, h6, h7, key _ _ h8, h9⟩
  | _ => exact h
end Go.HL
namespace Go.Proofs.YtejobmamkeoheaaGreatDoor
open Go Go.HL Tryz
theorem tabO_free {q : Table} {p : TableD} {s : List RowV} : ∀ O ∈ tabO q p s, ∀ A A' w, O.ok A w → O.ok A' w := by
  intro O hO A A' w h
  rcases List.mem_cons.1 hO with rfl | hO
  · exact h
  rcases List.mem_cons.1 hO with rfl | hO
  · exact arrO_free (A := A) (fun x cs h => h) h
  rcases List.mem_cons.1 hO with rfl | hO
  · exact arrO_free (A := A) (fun x cs h => h) h
  rcases List.mem_cons.1 hO with rfl | hO
  · exact arrO_free (A := A) (fun x cs h => h) h
  obtain ⟨x, -, rfl⟩ := List.mem_map.1 hO
  exact arrO_free (A := A) (fun x cs h => h) h
section
variable {P : Program} {f : FuncId} {e : Env} {ρ : Type} {R : ρ → Value → World → Prop} {S : List (Nat × Ent)} {B : List Own} {k : List Item} {r : Option ρ} {p : Prop}
theorem W_get (i : Nat) (hB : B[i]? = some (sureO p)) (h : p → W P f e R k ⟨S, B⟩ r) : W P f e R k ⟨S, B⟩ r := fun x hx a w hk => h (hk.owns _ (get_mem hB)) x hx a w hk
end
end Go.Proofs.YtejobmamkeoheaaGreatDoor
/- impl.TableOff, all of the answer's memory handed back. -/
namespace Go.Proofs.YtejobmamkeoheaaGreatDoor
open Go Go.HL Tryz
theorem c3010d (fu : Nat) (a0 : Table) (a1 : Int) : CtrE Tryz.prog 10 [tTable.va a0, isI .i64 a1] [] (f3010 fu a0 a1) (fun v => tabD (tupV 0 v)) (fun q p s => tabO q.1 p s) (fun q p => tup [tTableD.va p, isI .i64 q.2]) := by
  refine CtrE.of_W func10 rfl ntmps10 rfl fun A w => ?_
  unfold f3010
  refine .seq <| .region <| .box (T := tTable) rfl rfl fun b1 => .alloc tTableD d0D27 [] zD27 rfl fun b2 => .assign rfl rfl <| .nil ?_
  refine .seq <| .seq <| .region <| .loadP 1 (Fld.self _) rfl rfl ty27 rfl <| .call0 (c19 fu _) n19 rfl rfl fun q3 => .not rfl rfl <| .nil ?_
  refine .cond rfl (fun _ => ?_) (fun _ => ?_)
  · refine .seq <| .region <| .buildA rfl st27 zD27 (.nil) rfl <| .storeP 0 (Fld.self _) rfl rfl rfl ty27 <| .assign rfl rfl <| .nil ?_
    refine .arrNil tRowA <| .arrNil tChange <| .arrNil tCol <| W_fact (p := ([] : List Row) = ([] : List RowV).map RowV.r ∧ (0 : Int) = 0) ⟨rfl, rfl⟩ ?_
    exact W_retE2 [] d0D27 func10 results10 (.cell 4 rfl rfl ty27) (.tmp rfl) rfl (fun _ _ _ h => tabD_of h) (.cons_cons _ <| .cons_cons _ <| .cons_cons _ <| .cons_cons _ <| List.nil_sublist _)
  · refine .skip <| .seq <| .region <| .loadP 1 (Fld.self _) rfl rfl ty27 rfl <| .move rfl rfl <| .callEb (c40d fu _ _) n40 rfl rfl fun q4 p s => .extract rfl rfl rfl <| .extract rfl rfl rfl <| .storeP 0 (Fld.self _) rfl rfl rfl ty27 <| .assign rfl rfl <| .nil ?_
    exact W_retE2 s p func10 results10 (.cell 0 rfl rfl ty27) (.tmp rfl) rfl (fun _ _ _ h => tabD_of h) (.cons _ <| .cons _ <| .refl _)
end Go.Proofs.YtejobmamkeoheaaGreatDoor
/- (Table).put and impl.TablePut, all of the answer's memory handed back. -/
namespace Go.Proofs.YtejobmamkeoheaaGreatDoor
open Go Go.HL Tryz
theorem rowsO_snoc (s : List RowV) (x : RowV) : rowsO (s ++ [x]) = rowsO s ++ [arrO tVal x.at_ x.vals] := by unfold rowsO; rw [List.map_append]; rfl
end Go.Proofs.YtejobmamkeoheaaGreatDoor
