/- Memory of ours lent to calls; a contract's blocks read alone from now on. -/
import Derived.Test.YtejobmamkeoheaaGreatDoorQ5TX7
set_option linter.all false
namespace Go.HL
open Go
section
variable {P : Program} {f : FuncId} {e : Env} {ρ σ ν γ : Type} {R : ρ → Value → World → Prop} {Kp : ρ → Go.Act → World → Prop}
variable {S : List (Nat × Ent)} {B : List Own} {a : Go.Act} {w : World}
variable {k : List Item} {r r' : Option ρ} {arr : Array Oper} {rest l : List Oper}
variable {d : Nat} {ty t u el : TypeId} {pos : String} {af : Array Edge} {ov ov' ov'' : Option Value}
variable {x y z : Operand} {α β : Type} {T : Ty α} {U : Ty β} {v : Value} {xs ys : List α}
theorem arrO_read {A A' : Ar} (h : (arrO T v xs).ok A w) (hs : Same A A' w w) (hb : ∀ b o, (arrO T v xs).foot b o → A' b o) : slRel T xs v A' w := by
  cases v with
  | slice ad n c =>
    cases ad with
    | none => obtain ⟨h1, h2, h3⟩ := h; subst h1 h2 h3; exact slRel_nil T _ _
    | some ad =>
      obtain ⟨h1, h2, h3, h4⟩ := h
      by_cases hn : 0 < n
      · obtain ⟨h5, pre, cs, post, et, h6, h7, h8, h9⟩ := h4 (by omega)
        obtain ⟨b, off, sp⟩ := ad
        cases h5
        refine ⟨_, n, c, cs, rfl, h1, h2, h3, h8.good hs, fun _ => ⟨b, off, rfl, fun j hj => ⟨hb b (off + j) ⟨by show (if 0 < c then _ else _) = _; rw [if_pos (by omega)], Nat.le_add_right _ _⟩, ?_⟩⟩⟩
        have := (cell_mid h6).2 j hj
        rw [h7] at this
        rw [this, List.getElem?_eq_getElem hj]
      · have hn0 : n = 0 := by omega
        subst hn0
        have : xs = [] := List.eq_nil_of_length_eq_zero h1
        subst this
        exact ⟨_, 0, c, [], rfl, rfl, h2, h3, rfl, fun h => by omega⟩
  | _ => exact h.elim
theorem CtrE.plain {g : FuncId} {vs : List VA} {y : Option σ} {rv : Value → ν} {O' : σ → ν → γ → List Own} {Q : σ → ν → VA} {Q' : σ → VA} (hf : CtrE P g vs [] y rv O' Q)
    (hr : ∀ {q p s A A' w v}, (∀ O ∈ O' q p s, O.ok A w) → (∀ O ∈ O' q p s, ∀ b o, O.foot b o → A' b o) → Same A A' w w → (Q q p).f v A w → (Q' q).f v A' w) : Ctr P g vs [] y (fun _ _ => []) Q' := by
  intro q hq A w args hp ha
  refine Calls.mono (hf q hq A w args hp ha) ?_
  rintro en w' ⟨v, rfl, gh, hpo, hv⟩
  refine ⟨v, rfl, ⟨hpo.same, fun Q hQ => (by cases hQ), fun Q hQ => (by cases hQ), .nil⟩, hr hpo.ok (fun O hO b o hf => ?_) (fun b o ⟨h1, h2, h3⟩ => ⟨⟨h1, h2, fun Q hQ => (by cases hQ)⟩, rfl⟩) hv⟩
  have h1 := hpo.fresh O hO b hf.1
  refine ⟨?_, h1.1, fun Q hQ => (by cases hQ)⟩
  rcases h1.2 with h2 | h2
  · exact .inr (.inl h2)
  · exact .inr (.inr (h2 o hf.2))
inductive Lends (B : List Own) : List VA → List VA → Prop
  | nil : Lends B [] []
  | keep {X : VA} {vs0 vs : List VA} : Lends B vs0 vs → Lends B (X :: vs0) (X :: vs)
  | deep {X Y : VA} {vs0 vs : List VA} (O : List Own) (hO : ∀ Q ∈ O, Q ∈ B) (hr : ∀ {A A' : Ar} {w : World} {v : Value}, (∀ Q ∈ O, Q.ok A w) → (∀ Q ∈ O, ∀ b o, Q.foot b o → A' b o) → Same A A' w w → X.f v A w → Y.f v A' w) : Lends B vs0 vs → Lends B (X :: vs0) (Y :: vs)
def allW (w : World) : Ar := fun b _ => b < w.heap.size
theorem same_allW {A : Ar} (h : ∀ b o, A b o → b < w.heap.size) : Same A (allW w) w w := fun b o ha => ⟨h b o ha, rfl⟩
theorem Lends.args {vs0 vs : List VA} (h : Lends B vs0 vs) (hk : Holds e ⟨S, B⟩ a w) : ∀ {args : List Value}, Args (Acur e B w) w args vs0 → Args (allW w) w args vs := by
  have hs : Same (Acur e B w) (allW w) w w := same_allW fun b o h => h.2.1
  induction h with
  | nil => intro args h; cases h; exact .nil
  | keep _ ih => intro args h; cases h with | cons h1 h2 => exact .cons (VA.good _ hs h1) (ih h2)
  | deep O hO hr _ ih => intro args h; cases h with | cons h1 h2 => exact .cons (hr (fun Q hQ => hk.owns Q (hO Q hQ)) (fun Q hQ b o hf => (hk.fresh Q (hO Q hQ) b hf.1).1) hs h1) (ih h2)
theorem WO.callLendE {g : FuncId} {xs : Array Operand} {tys : Array TypeId} {vs vs0 : List VA} {y : Option σ} {rv : Value → ν} {O' : σ → ν → γ → List Own} {Q : σ → ν → VA} {r : σ → Option ρ}
    (hf : CtrE P g vs [] y rv O' Q) (hL : Lends B vs0 vs) (hQ : ∀ q p v A A' w w', (Q q p).f v A w → (Q q p).f v A' w') (hO : ∀ q p g, ∀ O ∈ O' q p g, ∀ A A' w, O.ok A w → O.ok A' w)
    (hfn : ∃ fn c, P.funcs[g]? = some fn ∧ (fn.name == "runtime.NumGoroutine") = false ∧ fn.body = some c) (hx : opVAs S xs.toList = some vs0) (hd : Nat.ble (d + 1) e.N = true)
    (h : ∀ q p g, WO P e Kp arr rest ⟨(d, Q q p, none) :: S, O' q p g ++ B⟩ (r q)) :
    WO P e Kp arr (mkOp d (.call { callee := .value (.func g), args := xs, argTypes := tys }) ty pos af :: rest) ⟨S, B⟩ (y.bind r) := by
  intro z hz a w hk
  cases hy : y with
  | none => rw [hy] at hz; cases hz
  | some q =>
    rw [hy] at hz
    simp only [Option.bind_some] at hz
    have hA : Pre (allW w) w [] := {
      old := fun b o h1 => ⟨h1, fun Q hQ => (by cases hQ)⟩
      ok := fun Q hQ => (by cases hQ)
      blk := fun Q hQ b hb => (by cases hQ)
      apart := .nil
      gl := fun g hg => ⟨fun o => ((hk.glob g hg).1 o).2.1, (hk.glob g hg).2⟩ }
    have hargs := hL.args hk (hk.args hx)
    have hc := hf q hy _ _ _ hA hargs
    obtain ⟨fn, c, hfn1, hfn2, hfn3⟩ := hfn
    have hm : (xs.toList.map a.eval).toArray = xs.map a.eval := by apply Array.ext'; simp
    have hrun : (execOp a.eval (mkOp d (.call { callee := .value (.func g), args := xs, argTypes := tys }) ty pos af)).run P w = .ok (.enter g (xs.toList.map a.eval).toArray) w := by
      rw [hm]
      simp only [beq_eq_false_iff_ne, ne_eq] at hfn2
      simp [execOp, resolve, Deferred.ofValue, Act.eval, invoke, callFunc, hfn1, hfn2, hfn3]
    have hw : Region.wanted (mkOp d (.call { callee := .value (.func g), args := xs, argTypes := tys }) ty pos af) (yielded arr a.tmps) = true := rfl
    simp only [wpList, hw, if_true]
    left
    simp only [Oper.wp, hrun, Oper.upon_enter]
    refine Calls.mono hc ?_
    rintro en w' ⟨v, rfl, gh, hp, hq⟩
    have hp2 : Post (Acur e ([] ++ B) w) w [] (O' q (rv v) gh) w' := ⟨hp.same, fun Q hQ => hO _ _ _ Q hQ _ _ _ (hp.ok Q hQ), hp.fresh, hp.apart⟩
    have hk0 : Holds e ⟨S, [] ++ B⟩ a w := hk
    obtain ⟨hk', -⟩ := hk0.called hp2
    exact h q (rv v) gh z hz _ _ (hk'.put (Q := (Q q (rv v), none)) (Nat.le_of_ble_eq_true hd) ⟨hQ q _ v _ _ _ _ hq, fun u hu => by cases hu⟩)
theorem Ctr.toE {g : FuncId} {vs : List VA} {y : Option σ} {Q : σ → VA} (hf : Ctr P g vs [] y (fun _ _ => []) Q) : CtrE P g vs [] y (fun _ => ()) (fun _ _ (_ : Unit) => []) (fun q _ => Q q) := by
  intro q hq A w args hp ha
  refine Calls.mono (hf q hq A w args hp ha) ?_
  rintro en w' ⟨v, rfl, h1, h2⟩
  exact ⟨v, rfl, (), h1, h2⟩
theorem WO.callLendP {g : FuncId} {xs : Array Operand} {tys : Array TypeId} {vs vs0 : List VA} {y : Option σ} {Q : σ → VA} {r : σ → Option ρ}
    (hf : Ctr P g vs [] y (fun _ _ => []) Q) (hL : Lends B vs0 vs) (hQ : ∀ q v A A' w w', (Q q).f v A w → (Q q).f v A' w')
    (hfn : ∃ fn c, P.funcs[g]? = some fn ∧ (fn.name == "runtime.NumGoroutine") = false ∧ fn.body = some c) (hx : opVAs S xs.toList = some vs0) (hd : Nat.ble (d + 1) e.N = true)
    (h : ∀ q, WO P e Kp arr rest ⟨(d, Q q, none) :: S, B⟩ (r q)) :
    WO P e Kp arr (mkOp d (.call { callee := .value (.func g), args := xs, argTypes := tys }) ty pos af :: rest) ⟨S, B⟩ (y.bind r) :=
  .callLendE (Ctr.toE hf) hL (fun q _ => hQ q) (fun _ _ _ O hO => nomatch hO) hfn hx hd fun q _ _ => h q
theorem WO.callOE {O B' : List Own} {g : FuncId} {xs : Array Operand} {tys : Array TypeId} {vs : List VA} {y : Option σ} {rv : Value → ν} {O' : σ → ν → γ → List Own} {Q : σ → ν → VA} {r : σ → Option ρ}
    (hf : CtrE P g vs O y rv O' Q) (hB : B = O ++ B') (hfn : ∃ fn c, P.funcs[g]? = some fn ∧ (fn.name == "runtime.NumGoroutine") = false ∧ fn.body = some c) (hx : opVAs S xs.toList = some vs) (hd : Nat.ble (d + 1) e.N = true)
    (h : ∀ q p g, WO P e Kp arr rest ⟨(d, Q q p, none) :: S, O' q p g ++ B'⟩ (r q)) :
    WO P e Kp arr (mkOp d (.call { callee := .value (.func g), args := xs, argTypes := tys }) ty pos af :: rest) ⟨S, B⟩ (y.bind r) := by
  subst hB
  intro z hz a w hk
  cases hy : y with
  | none => rw [hy] at hz; cases hz
  | some q =>
    rw [hy] at hz
    simp only [Option.bind_some] at hz
    have hap := List.pairwise_append.1 hk.apart
    have hA : Pre (Acur e (O ++ B') w) w O := {
      old := fun b o ⟨_, h1, h2⟩ => ⟨h1, fun Q hQ => h2 Q (List.mem_append_left _ hQ)⟩
      ok := fun Q hQ => hk.owns Q (List.mem_append_left _ hQ)
      blk := fun Q hQ b hb => (hk.fresh Q (List.mem_append_left _ hQ) b hb).1
      apart := hap.1
      gl := hk.glob }
    obtain ⟨fn, c, hfn1, hfn2, hfn3⟩ := hfn
    have hm : (xs.toList.map a.eval).toArray = xs.map a.eval := by apply Array.ext'; simp
    have hrun : (execOp a.eval (mkOp d (.call { callee := .value (.func g), args := xs, argTypes := tys }) ty pos af)).run P w = .ok (.enter g (xs.toList.map a.eval).toArray) w := by
      rw [hm]
      simp only [beq_eq_false_iff_ne, ne_eq] at hfn2
      simp [execOp, resolve, Deferred.ofValue, Act.eval, invoke, callFunc, hfn1, hfn2, hfn3]
    have hc := hf q hy _ _ _ hA (hk.args hx)
    have hw : Region.wanted (mkOp d (.call { callee := .value (.func g), args := xs, argTypes := tys }) ty pos af) (yielded arr a.tmps) = true := rfl
    simp only [wpList, hw, if_true]
    left
    simp only [Oper.wp, hrun, Oper.upon_enter]
    refine Calls.mono hc ?_
    rintro en w' ⟨v, rfl, gh, hp, hq⟩
    obtain ⟨hk', hsN⟩ := hk.called hp
    exact h q (rv v) gh z hz _ _ (hk'.put (Q := (Q q (rv v), none)) (Nat.le_of_ble_eq_true hd) ⟨(Q q (rv v)).good hsN hq, fun u hu => by cases hu⟩)
end
end Go.HL
namespace Go.Proofs.YtejobmamkeoheaaGreatDoor
open Go Go.HL Tryz
theorem flat_read {A A' : Ar} {w : World} : ∀ {s : List RowV} {cs : List Value}, flat tRowA (s.map RowV.a) cs A w → (∀ x ∈ s, slRel tVal x.vals x.at_ A' w) → flat tRow (s.map RowV.r) cs A' w
  | [], _, h, _ => h
  | x :: s, _, ⟨c1, c2, e1, h1, h2⟩, hx => by
    obtain ⟨_, _, rfl, g1, ⟨_, _, rfl, g2, g3⟩⟩ := h1
    obtain ⟨rfl, -⟩ := g3
    exact ⟨_, _, e1, ⟨_, _, rfl, g1, ⟨_, _, rfl, g2, ⟨x.at_, rfl, hx x List.mem_cons_self⟩⟩⟩, flat_read h2 fun y hy => hx y (List.mem_cons_of_mem _ hy)⟩
theorem tabD_read {q : Table} {p : TableD} {s : List RowV} {A A' : Ar} {w : World} {v : Value} (hok : ∀ O ∈ tabO q p s, O.ok A w) (hb : ∀ O ∈ tabO q p s, ∀ b o, O.foot b o → A' b o) (hs : Same A A' w w) (h : (tTableD.va p).f v A w) : (tTable.va q).f v A' w := by
  obtain ⟨cs, rfl, h⟩ := h
  obtain ⟨_, _, rfl, h0, ⟨_, _, rfl, h1, ⟨_, _, rfl, h2, h3⟩⟩⟩ := h
  obtain ⟨rfl, -⟩ := h0
  obtain ⟨rfl, -⟩ := h1
  obtain ⟨rfl, -⟩ := h2
  obtain ⟨hrows, hn⟩ : q.rows = s.map RowV.r ∧ q.next = p.next := hok _ List.mem_cons_self
  have m1 : arrO tCol p.first q.first ∈ tabO q p s := .tail _ (.head _)
  have m2 : arrO tChange p.changes q.changes ∈ tabO q p s := .tail _ (.tail _ (.head _))
  have m3 : arrO tRowA p.rows (s.map RowV.a) ∈ tabO q p s := .tail _ (.tail _ (.tail _ (.head _)))
  have m4 : ∀ x ∈ s, arrO tVal x.at_ x.vals ∈ tabO q p s := fun x hx => .tail _ (.tail _ (.tail _ (.tail _ (List.mem_map_of_mem (f := fun x : RowV => arrO tVal x.at_ x.vals) hx))))
  have k1 := arrO_read (hok _ m1) hs (hb _ m1)
  have k2 := arrO_read (hok _ m2) hs (hb _ m2)
  obtain ⟨ad, n, c, cs, e1, e2, e3, e4, e5, e6⟩ := arrO_read (hok _ m3) hs (hb _ m3)
  have k3 : slRel tRow q.rows p.rows A' w := ⟨ad, n, c, cs, e1, by rw [hrows]; simpa using e2, e3, e4, by rw [hrows]; exact flat_read e5 fun x hx => arrO_read (hok _ (m4 x hx)) hs (hb _ (m4 x hx)), e6⟩
  refine ⟨_, rfl, ⟨_, _, rfl, ⟨_, rfl, k1⟩, ⟨_, _, rfl, ⟨_, rfl, k2⟩, ⟨_, _, rfl, ⟨_, rfl, k3⟩, ?_⟩⟩⟩⟩
  show (tI .i64).rel q.next _ _ _
  rw [hn]
  exact h3
end Go.Proofs.YtejobmamkeoheaaGreatDoor
/- Calls whose blocks are laid behind ours; a row of a table of ours lent. -/
namespace Go.HL
open Go
section
variable {P : Program} {e : Env} {ρ σ ν γ : Type} {Kp : ρ → Go.Act → World → Prop}
variable {S : List (Nat × Ent)} {B : List Own} {arr : Array Oper} {rest : List Oper}
variable {d : Nat} {ty : TypeId} {pos : String} {af : Array Edge}
theorem WO.callEb {g : FuncId} {xs : Array Operand} {tys : Array TypeId} {vs : List VA} {y : Option σ} {rv : Value → ν} {O' : σ → ν → γ → List Own} {Q : σ → ν → VA} {r : σ → Option ρ}
    (hf : CtrE P g vs [] y rv O' Q) (hfn : ∃ fn c, P.funcs[g]? = some fn ∧ (fn.name == "runtime.NumGoroutine") = false ∧ fn.body = some c) (hx : opVAs S xs.toList = some vs) (hd : Nat.ble (d + 1) e.N = true)
    (h : ∀ q p g, WO P e Kp arr rest ⟨(d, Q q p, none) :: S, B ++ O' q p g⟩ (r q)) :
    WO P e Kp arr (mkOp d (.call { callee := .value (.func g), args := xs, argTypes := tys }) ty pos af :: rest) ⟨S, B⟩ (y.bind r) :=
  .callE hf hfn hx hd fun q p g => .perm List.perm_append_comm (h q p g)
theorem WO.callLendEb {g : FuncId} {xs : Array Operand} {tys : Array TypeId} {vs vs0 : List VA} {y : Option σ} {rv : Value → ν} {O' : σ → ν → γ → List Own} {Q : σ → ν → VA} {r : σ → Option ρ}
    (hf : CtrE P g vs [] y rv O' Q) (hL : Lends B vs0 vs) (hQ : ∀ q p v A A' w w', (Q q p).f v A w → (Q q p).f v A' w') (hO : ∀ q p g, ∀ O ∈ O' q p g, ∀ A A' w, O.ok A w → O.ok A' w)
    (hfn : ∃ fn c, P.funcs[g]? = some fn ∧ (fn.name == "runtime.NumGoroutine") = false ∧ fn.body = some c) (hx : opVAs S xs.toList = some vs0) (hd : Nat.ble (d + 1) e.N = true)
    (h : ∀ q p g, WO P e Kp arr rest ⟨(d, Q q p, none) :: S, B ++ O' q p g⟩ (r q)) :
    WO P e Kp arr (mkOp d (.call { callee := .value (.func g), args := xs, argTypes := tys }) ty pos af :: rest) ⟨S, B⟩ (y.bind r) :=
  .callLendE hf hL hQ hO hfn hx hd fun q p g => .perm List.perm_append_comm (h q p g)
theorem CtrL.toE {g : FuncId} {vs : List VA} {O : List Own} {y : Option σ} {rv : Value → ν} {O' : σ → ν → List Own} {Q : σ → ν → VA} (hf : CtrL P g vs O y rv O' Q) : CtrE P g vs O y rv (fun q p (_ : Unit) => O' q p) Q := by
  intro q hq A w args hp ha
  refine Calls.mono (hf q hq A w args hp ha) ?_
  rintro en w' ⟨v, rfl, h1, h2⟩
  exact ⟨v, rfl, (), h1, h2⟩
end
theorem midS {α : Type} {s : List α} {y x : α} {l : List α} : (s ++ y :: l).set s.length x = s ++ x :: l := by simp
theorem midG {α : Type} {s : List α} {y d : α} {l : List α} : (s ++ y :: l).getD s.length d = y := by simp [List.getD_eq_getElem?_getD]
section
variable {P : Program} {f : FuncId} {e : Env} {ρ : Type} {R : ρ → Value → World → Prop} {Kp : ρ → Go.Act → World → Prop}
variable {S : List (Nat × Ent)} {B : List Own} {k : List Item} {r : Option ρ} {arr : Array Oper} {rest : List Oper}
variable {d : Nat} {ty t el : TypeId} {pos : String} {af : Array Edge} {ov ov' : Option Value}
variable {x y : Operand} {α β : Type} {T : Ty α} {U : Ty β} {v : Value} {κ : IntKind}
theorem WO.elemM (i : Nat) {s zs : List α} {y0 : α} {ag : Bool} (hx : opVA S x = some (isV v, ov)) (hy : opVA S y = some (isI κ (s.length : Int), ov')) (hB : B[i]? = some (arrO T v (s ++ y0 :: zs))) (hu : P.underlying t = some (.slice el)) (he : TyAt P el T.sz ag) (hd : Nat.ble (d + 1) e.N = true)
    (h : WO P e Kp arr rest ⟨(d, isEl T.sz v s.length 0, none) :: S, B⟩ r) : WO P e Kp arr (mkOp d (.indexAddr t x y) ty pos af :: rest) ⟨S, B⟩ r := by
  have h2 := WO.elemA (pos := pos) (af := af) (ty := ty) (r := r) i hx hy hB hu he hd (by rw [Int.toNat_natCast]; exact h)
  have e1 : (decide ((0 : Int) ≤ (s.length : Int)) && decide ((s.length : Int) < ((s ++ y0 :: zs).length : Int))) = true := by
    simp only [List.length_append, List.length_cons, Bool.and_eq_true, decide_eq_true_eq]; omega
  rw [e1, cond_true] at h2
  exact h2
theorem WO.storeM [Inhabited α] (i : Nat) {s zs : List α} {y0 : α} {off : Nat} {g : α → β} {st : α → β → α} {q : β} (hf : Fld T off U g st) (hx : opVA S x = some (isEl T.sz v s.length off, ov)) (hB : B[i]? = some (arrO T v (s ++ y0 :: zs))) (hy : opVA S y = some (U.va q, ov')) (ht : TyAt P t U.sz U.agg)
    (h : WO P e Kp arr rest ⟨S, B.set i (arrO T v (s ++ st y0 q :: zs))⟩ r) : WO P e Kp arr (mkOpN (.store t x y) ty pos af :: rest) ⟨S, B⟩ r :=
  .storeA i hf hx hB hy ht (by rw [midG, midS]; exact h)
theorem WO.loadM [Inhabited α] (i : Nat) {s zs : List α} {y0 : α} {off : Nat} {g : α → β} {st : α → β → α} (hf : Fld T off U g st) (hx : opVA S x = some (isEl T.sz v s.length off, ov)) (hB : B[i]? = some (arrO T v (s ++ y0 :: zs))) (ht : TyAt P t U.sz U.agg) (hd : Nat.ble (d + 1) e.N = true)
    (h : WO P e Kp arr rest ⟨(d, U.va (g y0), none) :: S, B⟩ r) : WO P e Kp arr (mkOp d (.load t x) ty pos af :: rest) ⟨S, B⟩ r :=
  .loadA i hf hx hB ht hd (by rw [midG]; exact h)
theorem W_limA (i : Nat) {xs : List α} (hB : B[i]? = some (arrO T v xs)) (h : xs.length ≤ LIM → W P f e R k ⟨S, B⟩ r) : W P f e R k ⟨S, B⟩ r := fun x hx a w hk => by
  have ho := hk.owns _ (get_mem hB)
  refine h ?_ x hx a w hk
  cases v with
  | slice ad n c =>
    cases ad with
    | none => obtain ⟨-, -, h3⟩ := ho; subst h3; exact Nat.zero_le _
    | some ad => obtain ⟨h1, -, h3, -⟩ := ho; omega
  | _ => exact ho.elim
end
theorem more_of {α : Type} {s zs : List α} (h : decide ((s.length : Int) < ((s ++ zs).length : Int)) = true) : ∃ z l, zs = z :: l := by
  cases zs with
  | nil => simp at h
  | cons z l => exact ⟨z, l, rfl⟩
theorem none_of {α : Type} {s zs : List α} (h : decide ((s.length : Int) < ((s ++ zs).length : Int)) = false) : zs = [] := by
  cases zs with
  | nil => rfl
  | cons z l => simp only [List.length_append, List.length_cons, decide_eq_false_iff_not] at h; omega
theorem len_next {α : Type} {s zs : List α} {z : α} (h : (s ++ z :: zs).length ≤ LIM) : ((s.length + 1 : Nat) : Int) = IntKind.i64.wrap ((s.length : Int) + 1) := by
  rw [IntKind.wrap_i64]; rw [LIM_eq, List.length_append, List.length_cons] at h; omega
theorem arrO_free {α : Type} {T : Ty α} {v : Value} {xs : List α} {A A' : Ar} {w : World} (hT : ∀ (x : α) (cs : List Value), T.rel x cs A w → T.rel x cs A' w) (h : (arrO T v xs).ok A w) : (arrO T v xs).ok A' w := by
  have key : ∀ (xs : List α) (cs : List Value), flat T xs cs A w → flat T xs cs A' w := by
    intro xs
    induction xs with
    | nil => exact fun _ h => h
    | cons x xs ih =>
      rintro cs ⟨c1, c2, e, h1, h2⟩
      exact ⟨c1, c2, e, hT x c1 h1, ih c2 h2⟩
  cases v with
  | slice ad n c =>
    cases ad with
    | none => exact h
    | some ad =>
      obtain ⟨h1, h2, h3, h4⟩ := h
      refine ⟨h1, h2, h3, fun hc => ?_⟩
      obtain ⟨h5, pre, cs, post, et, h6, h7, h8, h9⟩ := h4 hc
      exact ⟨h5, pre, cs, post, et, h6, h7, key _ _ h8, h9⟩
  | _ => exact h
end Go.HL
namespace Go.Proofs.YtejobmamkeoheaaGreatDoor
open Go Go.HL Tryz
theorem tabO_free {q : Table} {p : TableD} {s : List RowV} : ∀ O ∈ tabO q p s, ∀ A A' w, O.ok A w → O.ok A' w := by
  intro O hO A A' w h
  rcases List.mem_cons.1 hO with rfl | hO
  · exact h
  rcases List.mem_cons.1 hO with rfl | hO
  · exact arrO_free (A := A) (fun x cs h => h) h
  rcases List.mem_cons.1 hO with rfl | hO
  · exact arrO_free (A := A) (fun x cs h => h) h
  rcases List.mem_cons.1 hO with rfl | hO
  · exact arrO_free (A := A) (fun x cs h => h) h
  obtain ⟨x, -, rfl⟩ := List.mem_map.1 hO
  exact arrO_free (A := A) (fun x cs h => h) h
theorem rowD_read {x : RowV} {A A' : Ar} {w : World} {v : Value} (hok : ∀ O ∈ [arrO tVal x.at_ x.vals], O.ok A w) (hb : ∀ O ∈ [arrO tVal x.at_ x.vals], ∀ b o, O.foot b o → A' b o) (hs : Same A A' w w) (h : (tRowA.va x.a).f v A w) : (tRow.va x.r).f v A' w := by
  obtain ⟨cs, rfl, h⟩ := h
  obtain ⟨_, _, rfl, g1, ⟨_, _, rfl, g2, g3⟩⟩ := h
  obtain ⟨rfl, -⟩ := g3
  exact ⟨_, rfl, ⟨_, _, rfl, g1, ⟨_, _, rfl, g2, ⟨_, rfl, arrO_read (hok _ List.mem_cons_self) hs (hb _ List.mem_cons_self)⟩⟩⟩⟩
section
variable {P : Program} {f : FuncId} {e : Env} {ρ : Type} {R : ρ → Value → World → Prop} {S : List (Nat × Ent)} {B : List Own} {k : List Item} {r : Option ρ} {p : Prop}
theorem W_get (i : Nat) (hB : B[i]? = some (sureO p)) (h : p → W P f e R k ⟨S, B⟩ r) : W P f e R k ⟨S, B⟩ r := fun x hx a w hk => h (hk.owns _ (get_mem hB)) x hx a w hk
end
theorem row_at {rows : List Row} {s : List RowV} {i : Int} (h : rows = s.map RowV.r) (hb : (decide (0 ≤ i) && decide (i < (rows.length : Int))) = true) : ∃ x, x ∈ s ∧ (s.map RowV.a).getD i.toNat default = x.a ∧ rows.getD i.toNat default = x.r := by
  subst h
  simp only [Bool.and_eq_true, decide_eq_true_eq, List.length_map] at hb
  have hi : i.toNat < s.length := by omega
  refine ⟨s[i.toNat], List.getElem_mem hi, ?_, ?_⟩ <;> simp [List.getD_eq_getElem?_getD, hi]
theorem row_in {α β : Type} {xs : List α} {rows : List β} {i : Int} (h : xs.length = rows.length) (hb : (decide (0 ≤ i) && decide (i < (rows.length : Int))) = true) : (decide (0 ≤ i) && decide (i < (xs.length : Int))) = true := by rw [h]; exact hb
theorem row_mem {O1 O2 O3 O4 : Own} {q : Table} {p : TableD} {s : List RowV} {x : RowV} (hx : x ∈ s) : ∀ Q ∈ [arrO tVal x.at_ x.vals], Q ∈ O1 :: O2 :: O3 :: O4 :: tabO q p s := by
  intro Q hQ
  obtain rfl := List.mem_singleton.1 hQ
  exact .tail _ <| .tail _ <| .tail _ <| .tail _ <| .tail _ <| .tail _ <| .tail _ <| .tail _ <| List.mem_map_of_mem (f := fun x : RowV => arrO tVal x.at_ x.vals) hx
theorem val_free {v : Value} {xs : List Val} : ∀ O ∈ [arrO tVal v xs], ∀ A A' w, O.ok A w → O.ok A' w := by
  intro O hO A A' w h
  obtain rfl := List.mem_singleton.1 hO
  exact arrO_free (A := A) (fun x cs h => h) h
end Go.Proofs.YtejobmamkeoheaaGreatDoor
/- (Table).change and impl.TableChange, all of the answer's memory handed back. -/
namespace Go.Proofs.YtejobmamkeoheaaGreatDoor
open Go Go.HL Tryz
theorem c71d (fu : Nat) (a0 : Table) (a1 : Change) : CtrE Tryz.prog 49 [tTable.va a0, tChange.va a1] [] (f71 fu a0 a1) (fun v => tabD (tupV 0 v)) (fun q p s => tabO q.1 p s) (fun q p => tup [tTableD.va p, isI .i64 q.2]) := by
  refine CtrE.of_W func49 rfl ntmps49 rfl fun A w => ?_
  unfold f71
  refine .seq <| .region <| .box (T := tTable) rfl rfl fun b1 => .box (T := tChange) rfl rfl fun b2 => .alloc tTableD d0D27 [] zD27 rfl fun b3 => .assign rfl rfl <| .nil ?_
  refine .seq <| .pbind fun q4 h1 => ?_
  refine .draw 3 [] mix (by kernel_rfl) (.cons (fun _ _ _ hP hE h => .loadP 2 (Fld.self _) (hE.op rfl) (hP.get rfl rfl) ty27 rfl <| h) <| .cons (fun _ _ _ hP hE h => .bindE h1 (fun r h => .call0 (c66 fu _) n66 (hE.ops rfl) rfl h) <| h) <| .cons (fun _ _ _ hP hE h => .loadP 1 (Fld.self _) (hE.op rfl) (hP.get rfl rfl) ty56 rfl <| h) <| .nil) rfl <| .call0 (c78 fu _ _) n78 rfl rfl fun q5 => .move rfl rfl <| .extract rfl rfl rfl <| .extract rfl rfl rfl <| .assign rfl rfl <| .assign rfl rfl <| .nil ?_
  refine .seq <| .seq <| .region <| .move rfl rfl <| .not rfl rfl <| .nil ?_
  refine .cond rfl (fun _ => ?_) (fun _ => ?_)
  · refine .seq <| .region <| .loadP 2 (Fld.self _) rfl rfl ty27 rfl <| .callEb (c80d fu _) n80 rfl rfl fun q6 p7 s7 => .storeP 0 (Fld.self _) rfl rfl rfl ty27 <| .assign rfl rfl <| .nil ?_
    exact W_retE2 s7 p7 func49 results49 (.cell 0 rfl rfl ty27) (.tmp rfl) rfl (fun _ _ _ h => tabD_of h) (.cons _ <| .cons _ <| .cons _ <| .refl _)
  · refine .skip <| .seq <| .region <| .loadP 2 (Fld.self _) rfl rfl ty27 rfl <| .callEb (c80d fu _) n80 rfl rfl fun q8 p9 s9 => .alloc tTableD d0D27 [] zD27 rfl fun b10 => .storeP 0 (Fld.self _) rfl rfl rfl ty27 <| .nil ?_
    refine .seq <| .region <| .fieldP rfl fa27_1 rfl <| .loadR 0 fTableD_1 rfl rfl ty24 rfl <| .know 25 rfl <| .loadP 2 (Fld.self _) rfl rfl ty56 rfl <| .litN (T := tChange) Tryz.underlying29 el56 rfl rfl (.cons rfl <| .nil) rfl <| .appA (T := tChange) 6 rfl rfl rfl Tryz.underlying29 el56 rfl fun v11 => .frz 6 28 rfl rfl <| .callL0 (c109 _) n109 rfl rfl fun q12 v13 => .unRaw 29 rfl <| .fieldP rfl fa27_1 rfl <| .toRaw (T := tChange) 0 29 rfl rfl <| .storeP 1 fTableD_1 rfl rfl rfl ty24 <| .nil ?_
    refine W_sel [1, 1, 2, 2, 2, 0] rfl <| .drop (.cons_cons _ <| .cons_cons _ <| .cons_cons _ <| .cons_cons _ <| .cons_cons _ <| .cons_cons _ <| .cons _ <| .cons _ <| .refl _) ?_
    refine W_get 3 rfl fun hs9 => ?_
    have hlen : (s9.map RowV.a).length = q8.rows.length := by rw [hs9.1, List.length_map, List.length_map]
    refine .seq <| .seq <| .region <| .fieldP rfl fa27_2 rfl <| .loadR 0 fTableD_2 rfl rfl ty25 rfl <| .know 32 rfl <| .lenA 6 rfl rfl Tryz.underlying30 rfl <| .move rfl rfl <| .nil ?_
    refine .block <| .loop <| .keep [2, 4, 6, 8, 33, 34] [32] rfl ?_
    rw [hlen]
    refine (show ∀ (n1 : Nat) (i14 : Int), W _ _ _ _ _ ⟨[(2, isP b1 0, none), (4, isP b3 0, none), (6, (tL tCol).va q5.1, none), (8, isP b10 0, none), (33, isI .i64 (List.length q8.rows : Int), none), (34, isI .i64 i14, none), (32, isV p9.rows, some p9.rows)], boxO b10 tTableD (⟨p9.first, v13, p9.rows, p9.next⟩ : TableD) [] :: boxO b3 tTableD d0D27 [] :: boxO b1 tTable a0 [] :: tabO ⟨q8.first, q12, q8.rows, q8.next⟩ ⟨p9.first, v13, p9.rows, p9.next⟩ s9⟩ (f71_l1 fu a0 q5 q8 q12 n1 i14) from ?_) fu _
    intro n1
    induction n1 with
    | zero => exact fun _ => .stop
    | succ n1 ih1 =>
      intro i14
      refine .inLoop <| .seq <| .region <| .bin rfl rfl rfl rfl <| .nil ?_
      refine .seq <| .cond rfl (fun _ => ?_) (fun _ => ?_)
      · refine .skip <| .seq <| .block <| .seq <| .pT fun hb => ?_
        obtain ⟨x, hx, ea, er⟩ := row_at hs9.1 hb
        rw [er]
        refine .region <| .useC (row_in hlen hb) <| .elemA 6 rfl rfl rfl Tryz.underlying30 ty37 rfl <| .loadA 6 (Fld.self _) rfl rfl ty37 rfl <| .alloc tRowA d0RA [] zRA rfl fun b15 => .storeP 0 (Fld.self _) rfl rfl rfl ty37 <| .nil ?_
        rw [ea]
        refine .seq <| .region <| .move rfl rfl <| .loadP 1 (Fld.self _) rfl rfl ty27 rfl <| .loadP 0 (Fld.self _) rfl rfl ty37 rfl <| .callLendE (CtrL.toE (c49 fu _ _)) (.deep (tabO ⟨q8.first, q12, q8.rows, q8.next⟩ ⟨p9.first, v13, p9.rows, p9.next⟩ s9) (fun Q hQ => .tail _ <| .tail _ <| .tail _ <| .tail _ hQ) tabD_read <| .deep [arrO tVal x.at_ x.vals] (row_mem hx) rowD_read .nil) (fun _ _ _ _ _ _ _ h => h) (fun _ _ _ => val_free) n49 rfl rfl fun q16 v16 _ => .unRaw 41 rfl <| .frz 0 41 rfl rfl <| .call0 (c58 fu _ _) n58 rfl rfl fun q17 => .not rfl rfl <| .nil ?_
        refine .cond rfl (fun _ => ?_) (fun _ => ?_)
        · refine .seq <| .region <| .loadP 4 (Fld.self _) rfl rfl ty27 rfl <| .callEb (c80d fu _) n80 rfl rfl fun q18 p19 s19 => .storeP 3 (Fld.self _) rfl rfl rfl ty27 <| .assign rfl rfl <| .nil ?_
          exact W_retE2 s19 p19 func49 results49 (.cell 3 rfl rfl ty27) (.tmp rfl) rfl (fun _ _ _ h => tabD_of h) (.cons _ <| .cons _ <| .cons _ <| .cons _ <| .cons _ <| List.sublist_append_right _ _)
        · refine .skip <| .inBlock <| .region <| .bin rfl rfl rfl rfl <| .move rfl rfl <| .nil ?_
          exact .keep [2, 4, 6, 8, 33, 34] [32] rfl (.drop (.cons _ <| .cons _ <| .refl _) <| ih1 _)
      · refine .exit rfl <| .seq <| .seq <| .region <| .fieldP rfl fa27_1 rfl <| .loadP 2 fTable_1 rfl rfl ty24 rfl <| .lenL rfl Tryz.underlying29 rfl <| .bin rfl rfl rfl rfl <| .nil ?_
        refine .cond rfl (fun _ => ?_) (fun _ => ?_)
        · refine .seq <| .region <| .loadP 2 (Fld.self _) rfl rfl ty27 rfl <| .callEb (c80d fu _) n80 rfl rfl fun q20 p21 s21 => .storeP 1 (Fld.self _) rfl rfl rfl ty27 <| .assign rfl rfl <| .nil ?_
          exact W_retE2 s21 p21 func49 results49 (.cell 1 rfl rfl ty27) (.tmp rfl) rfl (fun _ _ _ h => tabD_of h) (.cons _ <| .cons _ <| .cons _ <| List.sublist_append_right _ _)
        · refine .skip <| .seq <| .region <| .loadP 0 (Fld.self _) rfl rfl ty27 rfl <| .storeP 1 (Fld.self _) rfl rfl rfl ty27 <| .assign rfl rfl <| .nil ?_
          exact W_retE2 s9 ⟨p9.first, v13, p9.rows, p9.next⟩ func49 results49 (.cell 1 rfl rfl ty27) (.tmp rfl) rfl (fun _ _ _ h => tabD_of h) (.cons _ <| .cons _ <| .cons _ <| .refl _)
theorem c3017d (fu : Nat) (a0 : Table) (a1 : Change) : CtrE Tryz.prog 17 [tTable.va a0, tChange.va a1] [] (f3017 fu a0 a1) (fun v => tabD (tupV 0 v)) (fun q p s => tabO q.1 p s) (fun q p => tup [tTableD.va p, isI .i64 q.2]) := by
  refine CtrE.of_W func17 rfl ntmps17 rfl fun A w => ?_
  unfold f3017
  refine .seq <| .region <| .box (T := tTable) rfl rfl fun b1 => .box (T := tChange) rfl rfl fun b2 => .alloc tTableD d0D27 [] zD27 rfl fun b3 => .assign rfl rfl <| .nil ?_
  refine .seq <| .seq <| .region <| .loadP 2 (Fld.self _) rfl rfl ty27 rfl <| .call0 (c19 fu _) n19 rfl rfl fun q4 => .not rfl rfl <| .nil ?_
  refine .cond rfl (fun _ => ?_) (fun _ => ?_)
  · refine .seq <| .region <| .buildA rfl st27 zD27 (.nil) rfl <| .storeP 0 (Fld.self _) rfl rfl rfl ty27 <| .assign rfl rfl <| .nil ?_
    refine .arrNil tRowA <| .arrNil tChange <| .arrNil tCol <| W_fact (p := ([] : List Row) = ([] : List RowV).map RowV.r ∧ (0 : Int) = 0) ⟨rfl, rfl⟩ ?_
    exact W_retE2 [] d0D27 func17 results17 (.cell 4 rfl rfl ty27) (.tmp rfl) rfl (fun _ _ _ h => tabD_of h) (.cons_cons _ <| .cons_cons _ <| .cons_cons _ <| .cons_cons _ <| List.nil_sublist _)
  · refine .skip <| .seq <| .region <| .loadP 2 (Fld.self _) rfl rfl ty27 rfl <| .loadP 1 (Fld.self _) rfl rfl ty56 rfl <| .callEb (c71d fu _ _) n71 rfl rfl fun q5 p s => .extract rfl rfl rfl <| .extract rfl rfl rfl <| .storeP 0 (Fld.self _) rfl rfl rfl ty27 <| .assign rfl rfl <| .nil ?_
    exact W_retE2 s p func17 results17 (.cell 0 rfl rfl ty27) (.tmp rfl) rfl (fun _ _ _ h => tabD_of h) (.cons _ <| .cons _ <| .cons _ <| .refl _)
end Go.Proofs.YtejobmamkeoheaaGreatDoor
/- (Table).put and impl.TablePut, all of the answer's memory handed back. -/
namespace Go.Proofs.YtejobmamkeoheaaGreatDoor
open Go Go.HL Tryz
theorem rowsO_snoc (s : List RowV) (x : RowV) : rowsO (s ++ [x]) = rowsO s ++ [arrO tVal x.at_ x.vals] := by unfold rowsO; rw [List.map_append]; rfl
theorem arr_lend {α : Type} {T : Ty α} {v u : Value} {xs : List α} {A A' : Ar} {w : World} (hok : ∀ Q ∈ [arrO T v xs], Q.ok A w) (hb : ∀ Q ∈ [arrO T v xs], ∀ b o, Q.foot b o → A' b o) (hs : Same A A' w w) (h : (isV v).f u A w) : ((tL T).va xs).f u A' w := by
  cases (h : u = v)
  exact arrO_read (hok _ List.mem_cons_self) hs (hb _ List.mem_cons_self)
theorem c64d (fu : Nat) (a0 : Table) (a1 : List Set) : CtrE Tryz.prog 53 [tTable.va a0, (tL tSet).va a1] [] (f64 fu a0 a1) (fun v => tabD (tupV 0 v)) (fun q p s => tabO q.1 p s) (fun q p => tup [tTableD.va p, isI .i64 q.2]) := by
  refine CtrE.of_W func53 rfl ntmps53 rfl fun A w => ?_
  unfold f64
  refine .seq <| .region <| .box (T := tTable) rfl rfl fun b1 => .alloc tTableD d0D27 [] zD27 rfl fun b2 => .assign rfl rfl <| .nil ?_
  refine .seq <| .region <| .loadP 1 (Fld.self _) rfl rfl ty27 rfl <| .call0 (c66 fu _) n66 rfl rfl fun q3 => .assign rfl rfl <| .nil ?_
  refine .seq <| .region <| .loadP 1 (Fld.self _) rfl rfl ty27 rfl <| .callEb (c80d fu _) n80 rfl rfl fun q4 p4 s4 => .alloc tTableD d0D27 [] zD27 rfl fun b6 => .storeP 0 (Fld.self _) rfl rfl rfl ty27 <| .nil ?_
  refine W_get 3 rfl fun hq => ?_
  obtain ⟨qf, qc, qr, qn⟩ := q4
  obtain ⟨pf, pc, pr, pn⟩ := p4
  obtain ⟨rfl, rfl⟩ : qr = s4.map RowV.r ∧ qn = pn := hq
  refine .seq <| .region <| .move rfl rfl <| .lenL rfl Tryz.underlying28 rfl <| .makeSlice (T := tVal) rfl rfl Tryz.underlying102 el47 z47 rfl fun v7 => .assign rfl rfl <| .nil ?_
  refine .seq <| .seq <| .region <| .move rfl rfl <| .lenL rfl Tryz.underlying28 rfl <| .move rfl rfl <| .nil ?_
  refine .block <| .loop <| .keep [1, 2, 4, 6, 7, 18, 19, 20] [8] rfl ?_
  refine (show ∀ (n1 : Nat) (i8 : Int) (i9 : List Val), W _ _ _ _ _ ⟨[(1, (tL tSet).va a1, none), (2, isP b1 0, none), (4, isP b2 0, none), (6, (tL tCol).va q3, none), (7, isP b6 0, none), (18, (tL tCol).va q3, none), (19, isI .i64 (List.length q3 : Int), none), (20, isI .i64 i8, none), (8, isV v7, some v7)], arrO tVal v7 i9 :: boxO b6 tTableD ⟨pf, pc, pr, qn⟩ [] :: boxO b2 tTableD d0D27 [] :: boxO b1 tTable a0 [] :: tabO ⟨qf, qc, s4.map RowV.r, qn⟩ ⟨pf, pc, pr, qn⟩ s4⟩ (f64_l1 fu a0 a1 q3 ⟨qf, qc, s4.map RowV.r, qn⟩ n1 i8 i9) from ?_) fu _ _
  intro n1
  induction n1 with
  | zero => exact fun _ _ => .stop
  | succ n1 ih1 =>
    intro i8 i9
    refine .inLoop <| .seq <| .region <| .bin rfl rfl rfl rfl <| .nil ?_
    refine .seq <| .cond rfl (fun _ => ?_) (fun _ => ?_)
    · refine .skip <| .seq <| .block <| .seq <| .region <| .move rfl rfl <| .elemAt rfl rfl Tryz.underlying28 ty52 rfl <| .load rfl ty52 rfl <| .alloc tCol d0_52 [] z52 rfl fun b10 => .assign rfl rfl <| .storeP 0 (Fld.self _) rfl rfl rfl ty52 <| .nil ?_
      refine .region <| .move rfl rfl <| .move rfl rfl <| .fieldP rfl fa52_4 rfl <| .loadP 0 fCol_4 rfl rfl ty47 rfl <| .elemA 1 rfl rfl rfl Tryz.underlying102 ty47 rfl <| .storeA 1 (Fld.self _) rfl rfl rfl ty47 <| .nil ?_
      refine .inBlock <| .region <| .bin rfl rfl rfl rfl <| .move rfl rfl <| .nil ?_
      exact .keep [1, 2, 4, 6, 7, 18, 19, 20] [8] rfl (.drop (.cons _ <| .refl _) <| ih1 _ _)
    · refine .exit rfl <| .seq <| .seq <| .region <| .move rfl rfl <| .move rfl rfl <| .move rfl rfl <| .call1 0 (c99 fu _ _ _ _) rfl n99 rfl rfl fun q11 => .not rfl rfl <| .nil ?_
      refine .cond rfl (fun _ => ?_) (fun _ => ?_)
      · refine .seq <| .region <| .loadP 3 (Fld.self _) rfl rfl ty27 rfl <| .callEb (c80d fu _) n80 rfl rfl fun q12 p12 s12 => .storeP 2 (Fld.self _) rfl rfl rfl ty27 <| .assign rfl rfl <| .nil ?_
        exact W_retE2 s12 p12 func53 results53 (.cell 2 rfl rfl ty27) (.tmp rfl) rfl (fun _ _ _ h => tabD_of h) (.cons _ <| .cons _ <| .cons _ <| .cons _ <| List.sublist_append_right _ _)
      · have e1 : s4.map RowV.r ++ ([(⟨a0.next, (List.length a0.changes : Int), q11.2⟩ : Row)] : List Row) = (s4 ++ [(⟨a0.next, (List.length a0.changes : Int), v7, q11.2⟩ : RowV)]).map RowV.r := by simp [RowV.r]
        have e2 : s4.map RowV.a ++ ([(⟨a0.next, (List.length a0.changes : Int), v7⟩ : RowA)] : List RowA) = (s4 ++ [(⟨a0.next, (List.length a0.changes : Int), v7, q11.2⟩ : RowV)]).map RowV.a := by simp [RowV.a]
        have e3 := rowsO_snoc s4 (⟨a0.next, (List.length a0.changes : Int), v7, q11.2⟩ : RowV)
        show W _ _ _ _ _ _ (cond (decide ((s4.map RowV.r).length + 1 ≤ CAP)) ((f77 (s4.map RowV.r ++ ([(⟨a0.next, (List.length a0.changes : Int), q11.2⟩ : Row)] : List Row))).bind _) none)
        rw [e1]
        generalize hx : (⟨a0.next, (List.length a0.changes : Int), v7, q11.2⟩ : RowV) = x at e1 e2 e3 ⊢
        rw [f77_map]
        refine .pT fun hcap => ?_
        have hcap1 : (s4.map RowV.a).length + ([(⟨a0.next, (List.length a0.changes : Int), v7⟩ : RowA)] : List RowA).length ≤ CAP := by show (s4.map RowV.a).length + 1 ≤ CAP; have := of_decide_eq_true hcap; rw [List.length_map] at this ⊢; exact this
        have hcap2 : 0 + (s4 ++ [x]).length ≤ CAP := by have := of_decide_eq_true hcap; rw [List.length_map] at this; rw [List.length_append, List.length_singleton]; omega
        rw [decide_eq_true hcap2, cond_true, Option.bind_some]
        have h77 : f77A ((s4 ++ [x]).map RowV.a) = some ((s4 ++ [x]).map RowV.a) := by rw [f77A_map, decide_eq_true hcap2]; rfl
        refine .skip <| .seq <| .region <| .fieldP rfl fa27_2 rfl <| .loadR 1 fTableD_2 rfl rfl ty25 rfl <| .know 39 rfl <| .fieldP rfl fa27_3 rfl <| .loadP 3 fTable_3 rfl rfl ty3 rfl <| .fieldP rfl fa27_1 rfl <| .loadP 3 fTable_1 rfl rfl ty24 rfl <| .lenL rfl Tryz.underlying29 rfl <| .move rfl rfl <| .toRaw (T := tVal) 0 45 rfl rfl <| .buildA rfl st37 zRA (.cons fRowA_0 rfl (vOf rfl) <| .cons fRowA_1 rfl (vOf rfl) <| .cons fRowA_2 rfl (vOf rfl) <| .nil) rfl <| .litN (T := tRowA) Tryz.underlying30 el37 rfl rfl (.cons rfl <| .nil) rfl <| ?_
        refine .useC (decide_eq_true hcap1) <| .appA (T := tRowA) 7 rfl rfl rfl Tryz.underlying30 el37 rfl fun v14 => ?_
        rw [e2]
        refine .frz 7 48 rfl rfl <| ?_
        refine WO_bindK2 h77 (fun r h => .callL0 (c77A _) n77 rfl rfl h) fun v16 => ?_
        refine .unRaw 49 rfl <| .fieldP rfl fa27_2 rfl <| .toRaw (T := tRowA) 0 49 rfl rfl <| .storeP 2 fTableD_2 rfl rfl rfl ty25 <| .nil ?_
        refine .seq <| .region <| .fieldP rfl fa27_3 rfl <| .loadP 2 fTableD_3 rfl rfl ty3 rfl <| .bin rfl rfl rfl rfl <| .fieldP rfl fa27_3 rfl <| .storeP 2 fTableD_3 rfl rfl rfl ty3 <| .nil ?_
        refine .seq <| .block <| .seq <| .region <| .move rfl rfl <| .move rfl rfl <| .callLendP (c58 fu _ _) (.keep <| .deep [arrO tVal v7 q11.2] (fun Q hQ => by rw [List.mem_singleton.1 hQ]; exact .tail _ (.head _)) arr_lend .nil) (fun _ _ _ _ _ _ h => h) n58 rfl rfl fun q17 => .not rfl rfl <| .assign rfl rfl <| .nil ?_
        refine .cond rfl (fun _ => ?_) (fun _ => ?_)
        · refine .seq <| .region <| .loadP 4 (Fld.self _) rfl rfl ty27 rfl <| .callEb (c80d fu _) n80 rfl rfl fun q18 p19 s19 => .storeP 3 (Fld.self _) rfl rfl rfl ty27 <| .assign rfl rfl <| .nil ?_
          exact W_retE2 s19 p19 func53 results53 (.cell 3 rfl rfl ty27) (.tmp rfl) rfl (fun _ _ _ h => tabD_of h) (.cons _ <| .cons _ <| .cons _ <| .cons _ <| .cons _ <| List.sublist_append_right _ _)
        · subst hx
          refine .seq <| W_sel [2, 2, 2, 3, 3, 0, 0] rfl <| .drop (.cons_cons _ <| .cons_cons _ <| .cons_cons _ <| .cons_cons _ <| .cons_cons _ <| .cons_cons _ <| .cons_cons _ <| .cons _ <| .cons _ <| .refl _) ?_
          refine .perm (B' := [boxO b6 tTableD ⟨pf, pc, v16, IntKind.i64.wrap (qn + 1)⟩ [], boxO b2 tTableD d0D27 [], boxO b1 tTable a0 [], arrO tCol pf qf, arrO tChange pc qc, arrO tRowA v16 _] ++ rowsO (s4 ++ [(⟨a0.next, (List.length a0.changes : Int), v7, q11.2⟩ : RowV)])) (by rw [e3]; exact List.Perm.append_left [_, _, _, _, _, _] (List.perm_append_singleton _ _).symm) ?_
          refine W_fact (p := (s4 ++ [(⟨a0.next, (List.length a0.changes : Int), v7, q11.2⟩ : RowV)]).map RowV.r = (s4 ++ [(⟨a0.next, (List.length a0.changes : Int), v7, q11.2⟩ : RowV)]).map RowV.r ∧ IntKind.i64.wrap (qn + 1) = IntKind.i64.wrap (qn + 1)) ⟨rfl, rfl⟩ ?_
          generalize (s4 ++ [(⟨a0.next, (List.length a0.changes : Int), v7, q11.2⟩ : RowV)]) = s5
          refine W_sel [1, 1, 1] rfl <| .region <| .loadP 0 (Fld.self _) rfl rfl ty27 rfl <| .callLendP (c59 fu _) (.deep (tabO ⟨qf, qc, s5.map RowV.r, IntKind.i64.wrap (qn + 1)⟩ ⟨pf, pc, v16, IntKind.i64.wrap (qn + 1)⟩ s5) (fun Q hQ => .tail _ <| .tail _ <| .tail _ hQ) tabD_read .nil) (fun _ _ _ _ _ _ h => h) n59 rfl rfl fun q20 => .not rfl rfl <| .assign rfl rfl <| .nil ?_
          refine .cond rfl (fun _ => ?_) (fun _ => ?_)
          · refine .seq <| .region <| .loadP 2 (Fld.self _) rfl rfl ty27 rfl <| .callEb (c80d fu _) n80 rfl rfl fun q21 p22 s22 => .storeP 1 (Fld.self _) rfl rfl rfl ty27 <| .assign rfl rfl <| .nil ?_
            exact W_retE2 s22 p22 func53 results53 (.cell 1 rfl rfl ty27) (.tmp rfl) rfl (fun _ _ _ h => tabD_of h) (.cons _ <| .cons _ <| .cons _ <| List.sublist_append_right _ _)
          · refine .seq <| .join1 (fun i23 => ⟨[(2, isP b1 0, none), (4, isP b2 0, none), (7, isP b6 0, none), (68, isB i23, none)], boxO b6 tTableD (⟨pf, pc, v16, IntKind.i64.wrap (qn + 1)⟩ : TableD) [] :: boxO b2 tTableD d0D27 [] :: boxO b1 tTable a0 [] :: tabO ⟨qf, qc, s5.map RowV.r, IntKind.i64.wrap (qn + 1)⟩ ⟨pf, pc, v16, IntKind.i64.wrap (qn + 1)⟩ s5⟩) (fun i23 => f64_j2 fu a0 ⟨qf, qc, s4.map RowV.r, qn⟩ (s5.map RowV.r) (f64_l1 fu a0 a1 q3 ⟨qf, qc, s4.map RowV.r, qn⟩ n1) i23) (fun i23 => ?_) (fun hj2 => ?_)
            · refine .cond rfl (fun _ => ?_) (fun _ => ?_)
              · refine .seq <| .region <| .loadP 2 (Fld.self _) rfl rfl ty27 rfl <| .callEb (c80d fu _) n80 rfl rfl fun q24 p25 s25 => .storeP 1 (Fld.self _) rfl rfl rfl ty27 <| .assign rfl rfl <| .nil ?_
                exact W_retE2 s25 p25 func53 results53 (.cell 1 rfl rfl ty27) (.tmp rfl) rfl (fun _ _ _ h => tabD_of h) (.cons _ <| .cons _ <| .cons _ <| List.sublist_append_right _ _)
              · refine .skip <| .inBlock <| .seq <| .region <| .loadP 0 (Fld.self _) rfl rfl ty27 rfl <| .storeP 1 (Fld.self _) rfl rfl rfl ty27 <| .assign rfl rfl <| .nil ?_
                exact W_retE2 s5 ⟨pf, pc, v16, IntKind.i64.wrap (qn + 1)⟩ func53 results53 (.cell 1 rfl rfl ty27) (.tmp rfl) rfl (fun _ _ _ h => tabD_of h) (.cons _ <| .cons _ <| .cons _ <| .refl _)
            · refine .region <| .fieldP rfl fa27_2 rfl <| .loadP 2 fTable_2 rfl rfl ty25 rfl <| .lenL rfl Tryz.underlying30 rfl <| .bin rfl rfl rfl rfl <| .move rfl rfl <| .split 73 rfl (fun _ => ?_) (fun _ => ?_)
              · refine .off rfl rfl rfl <| .off rfl rfl rfl <| .off rfl rfl rfl <| .pickT rfl rfl rfl <| .assign rfl rfl <| .nil ?_
                exact .keep [2, 4, 7, 68] [] rfl (hj2 _)
              · refine .on rfl rfl <| .fieldP rfl fa27_3 rfl <| .on rfl rfl <| .loadP 2 fTable_3 rfl rfl ty3 rfl <| .on rfl rfl <| .bin rfl rfl rfl rfl <| .pickF rfl rfl rfl <| .assign rfl rfl <| .nil ?_
                exact .keep [2, 4, 7, 68] [] rfl (hj2 _)
theorem c3021d (fu : Nat) (a0 : Table) (a1 : List Set) : CtrE Tryz.prog 21 [tTable.va a0, (tL tSet).va a1] [] (f3021 fu a0 a1) (fun v => tabD (tupV 0 v)) (fun q p s => tabO q.1 p s) (fun q p => tup [tTableD.va p, isI .i64 q.2]) := by
  refine CtrE.of_W func21 rfl ntmps21 rfl fun A w => ?_
  unfold f3021
  refine .seq <| .region <| .box (T := tTable) rfl rfl fun b1 => .alloc tTableD d0D27 [] zD27 rfl fun b2 => .assign rfl rfl <| .nil ?_
  refine .seq <| .seq <| .region <| .loadP 1 (Fld.self _) rfl rfl ty27 rfl <| .call0 (c19 fu _) n19 rfl rfl fun q3 => .not rfl rfl <| .nil ?_
  refine .cond rfl (fun _ => ?_) (fun _ => ?_)
  · refine .seq <| .region <| .buildA rfl st27 zD27 (.nil) rfl <| .storeP 0 (Fld.self _) rfl rfl rfl ty27 <| .assign rfl rfl <| .nil ?_
    refine .arrNil tRowA <| .arrNil tChange <| .arrNil tCol <| W_fact (p := ([] : List Row) = ([] : List RowV).map RowV.r ∧ (0 : Int) = 0) ⟨rfl, rfl⟩ ?_
    exact W_retE2 [] d0D27 func21 results21 (.cell 4 rfl rfl ty27) (.tmp rfl) rfl (fun _ _ _ h => tabD_of h) (.cons_cons _ <| .cons_cons _ <| .cons_cons _ <| .cons_cons _ <| List.nil_sublist _)
  · refine .skip <| .seq <| .region <| .loadP 1 (Fld.self _) rfl rfl ty27 rfl <| .move rfl rfl <| .callEb (c64d fu _ _) n64 rfl rfl fun q4 p s => .extract rfl rfl rfl <| .extract rfl rfl rfl <| .storeP 0 (Fld.self _) rfl rfl rfl ty27 <| .assign rfl rfl <| .nil ?_
    exact W_retE2 s p func21 results21 (.cell 0 rfl rfl ty27) (.tmp rfl) rfl (fun _ _ _ h => tabD_of h) (.cons _ <| .cons _ <| .refl _)
end Go.Proofs.YtejobmamkeoheaaGreatDoor
