/- A logic of typed slots over the machine: what is known of each slot, of the memory that is the call's own, and rules for each operation. -/
import Derived.Test.YtejobmamkeoheaaGreatDoorQ5THL0
set_option linter.all false
namespace Go.HL
section
variable {P : Program} {f : FuncId} {e : Env} {ρ σ : Type} {R : ρ → Value → World → Prop} {Kp : ρ → Act → World → Prop}
variable {k : List Item} {K : Ctx} {r r1 r2 : Option ρ} {arr : Array Oper} {l : List Oper} {S : List (Nat × Ent)} {B : List Own} {b c : Bool} {d : Nat}
theorem W.pcond (h1 : b = true → W P f e R k K r1) (h2 : b = false → W P f e R k K r2) : W P f e R k K (_root_.cond b r1 r2) := by
  cases b with
  | true => exact h1 rfl
  | false => exact h2 rfl
theorem W.pT (h : b = true → W P f e R k K r) : W P f e R k K (_root_.cond b r none) := .pcond h fun _ => .stop
theorem W.pbind {m : Option σ} {r : σ → Option ρ} (h : ∀ y, m = some y → W P f e R k K (r y)) : W P f e R k K (m.bind r) := by
  cases m with
  | none => exact .stop
  | some y => exact h y rfl
theorem WO.useC (hb : b = true) (h : WO P e Kp arr l K (cond b r none)) : WO P e Kp arr l K r := by subst hb; exact h
theorem WO.useN (hb : b = false) (h : WO P e Kp arr l K (cond b none r)) : WO P e Kp arr l K r := by subst hb; exact h
theorem WO.useEq (hb : b = c) (h : WO P e Kp arr l ⟨(d, isB c, none) :: S, B⟩ r) : WO P e Kp arr l ⟨(d, isB b, none) :: S, B⟩ r := hb ▸ h
theorem WO.toEnd {O : Own} (h : WO P e Kp arr l ⟨S, B ++ [O]⟩ r) : WO P e Kp arr l ⟨S, O :: B⟩ r := .perm (List.perm_append_singleton O B).symm h
theorem Spc.nil {ops : Array Oper} {AB : List Own → Prop} {E : List (Option (Nat × Ent))} {m : Nat} {Sp : List (Nat × Ent)} (h : WO P e Kp ops (ops.toList.drop m) ⟨SX Sp (fun _ => true) 0 E, B⟩ r) : Spc P e Kp ops AB E m r [] Sp B := h
theorem Spc.cons {ops : Array Oper} {AB : List Own → Prop} {E : List (Option (Nat × Ent))} {m i d : Nat} {is : List Nat} {Sp : List (Nat × Ent)} {o : Oper} (ho : ops[i]? = some o) (hd : (memB d (keysE E) || (look Sp d).isSome) = false)
    (h : ∀ (K1 : Unit → Act → World → Prop) (S : List (Nat × Ent)), Ext (preE E o ++ Sp) S → (∀ Q B', AB B' → Spc P e Kp ops AB E m r is ((d, Q) :: Sp) B' → WO P e K1 ops [] ⟨(d, Q) :: S, B'⟩ (some ())) → WO P e K1 ops [o] ⟨S, B⟩ (some ())) :
    Spc P e Kp ops AB E m r (i :: is) Sp B := ⟨o, ho, .inl ⟨d, hd, h⟩⟩
theorem Spc.consS {ops : Array Oper} {AB : List Own → Prop} {E : List (Option (Nat × Ent))} {m i : Nat} {is : List Nat} {Sp : List (Nat × Ent)} {o : Oper} (ho : ops[i]? = some o)
    (h : ∀ (K1 : Unit → Act → World → Prop) (S : List (Nat × Ent)), Ext (preE E o ++ Sp) S → (∀ B', AB B' → Spc P e Kp ops AB E m r is Sp B' → WO P e K1 ops [] ⟨S, B'⟩ (some ())) → WO P e K1 ops [o] ⟨S, B⟩ (some ())) :
    Spc P e Kp ops AB E m r (i :: is) Sp B := ⟨o, ho, .inr h⟩
theorem SpcA.last {ops : Array Oper} {AB : List Own → Prop} {E : List (Option (Nat × Ent))} {m a : Nat} {Sp : List (Nat × Ent)} (h : Stp1 P e ops AB E a (Spc P e Kp ops AB E m r []) Sp B) : SpcA P e Kp ops AB E m r a [] Sp B := h
theorem SpcA.next {ops : Array Oper} {AB : List Own → Prop} {E : List (Option (Nat × Ent))} {m a i : Nat} {is : List Nat} {Sp : List (Nat × Ent)} (h1 : Stp1 P e ops AB E i (SpcA P e Kp ops AB E m r a is) Sp B) (h2 : Stp1 P e ops AB E a (Spc P e Kp ops AB E m r (i :: is)) Sp B) : SpcA P e Kp ops AB E m r a (i :: is) Sp B := ⟨h1, h2⟩
theorem Stp1.put {ops : Array Oper} {AB : List Own → Prop} {E : List (Option (Nat × Ent))} {i : Nat} {C : List (Nat × Ent) → List Own → Prop} {Sp : List (Nat × Ent)} {o : Oper} (d : Nat) (ho : ops[i]? = some o) (hd : (memB d (keysE E) || (look Sp d).isSome) = false)
    (h : ∀ (K1 : Unit → Act → World → Prop) (S : List (Nat × Ent)), Ext (preE E o ++ Sp) S → (∀ Q B', AB B' → C ((d, Q) :: Sp) B' → WO P e K1 ops [] ⟨(d, Q) :: S, B'⟩ (some ())) → WO P e K1 ops [o] ⟨S, B⟩ (some ())) :
    Stp1 P e ops AB E i C Sp B := ⟨o, ho, .inl ⟨d, hd, h⟩⟩
theorem Stp1.act {ops : Array Oper} {AB : List Own → Prop} {E : List (Option (Nat × Ent))} {i : Nat} {C : List (Nat × Ent) → List Own → Prop} {Sp : List (Nat × Ent)} {o : Oper} (ho : ops[i]? = some o)
    (h : ∀ (K1 : Unit → Act → World → Prop) (S : List (Nat × Ent)), Ext (preE E o ++ Sp) S → (∀ B', AB B' → C Sp B' → WO P e K1 ops [] ⟨S, B'⟩ (some ())) → WO P e K1 ops [o] ⟨S, B⟩ (some ())) :
    Stp1 P e ops AB E i C Sp B := ⟨o, ho, .inr h⟩
theorem WO.noV {Q : Ent} (h : WO P e Kp arr l ⟨(d, Q.1, none) :: S, B⟩ r) : WO P e Kp arr l ⟨(d, Q) :: S, B⟩ r := fun x hx a w hk => h x hx a w (hk.weaken fun t Q1 ht => by
  simp only [look] at ht ⊢
  cases hb : Nat.beq d t with
  | true => rw [hb] at ht; injection ht with ht; exact ⟨Q, rfl, by rw [← ht], .inr (by rw [← ht])⟩
  | false => rw [hb] at ht; exact ⟨Q1, ht, rfl, .inl rfl⟩)
theorem WO.bindE {m : Option σ} {y : σ} {K' : σ → Ctx} (hm : m = some y) (hrule : ∀ r : σ → Option ρ, (∀ y, WO P e Kp arr [] (K' y) (r y)) → WO P e Kp arr l K (m.bind r)) (h : WO P e Kp arr [] (K' y) r) : WO P e Kp arr l K r := by
  subst hm
  intro x hx
  have h2 := fun z => hrule (fun y' => by classical exact if y' = y then z else none)
  refine h2 r (fun y' => ?_) x (by simpa using hx)
  by_cases hy : y' = y
  · subst hy; simpa using h
  · simp only [hy, if_false]; exact .stop
end
end Go.HL
namespace Go.HL
theorem flat.put {α : Type} {T : Ty α} {A w} {x : α} {c : List Value} (hc : T.rel x c A w) : ∀ {xs : List α} {cs} (h : flat T xs cs A w) (k : Nat) (hk : k < xs.length), flat T (xs.set k x) (cs.take (k * T.sz) ++ c ++ cs.drop (k * T.sz + T.sz)) A w
  | y :: ys, _, ⟨c1, c2, e, h1, h2⟩, 0, _ => by
    subst e
    have := T.len h1
    refine ⟨c, c2, ?_, hc, h2⟩
    rw [Nat.zero_mul, List.take_zero, List.nil_append, Nat.zero_add, ← this, List.drop_left' rfl]
  | y :: ys, _, ⟨c1, c2, e, h1, h2⟩, k + 1, hk => by
    subst e
    have hl := T.len h1
    refine ⟨c1, _, ?_, h1, flat.put hc h2 k (by simpa using hk)⟩
    have e1 : (k + 1) * T.sz = c1.length + k * T.sz := by rw [Nat.succ_mul, hl, Nat.add_comm]
    rw [e1, List.take_append, List.take_of_length_le (by omega), Nat.add_sub_cancel_left, Nat.add_assoc, List.drop_append, List.drop_eq_nil_of_le (by omega), Nat.add_sub_cancel_left]
    simp
def tV {α : Type} (T : Ty α) (n : Nat) : Ty (List α) where
  sz := n * T.sz
  agg := true
  rel xs cs A w := xs.length = n ∧ flat T xs cs A w
  va xs := ⟨fun v A w => ∃ cs, v = wrap true cs ∧ xs.length = n ∧ flat T xs cs A w, fun h ⟨cs, e, h1, h2⟩ => ⟨cs, e, h1, h2.good h⟩⟩
  len h := by rw [h.2.len, h.1]
  plain h := h.2.plain
  good h k := ⟨k.1, k.2.good h⟩
  iff := Iff.rfl
  one h := by cases h
theorem Fld.at {α : Type} {T : Ty α} {n k : Nat} [Inhabited α] (hk : k < n) : Fld (tV T n) (k * T.sz) T (fun xs => xs.getD k default) (fun xs x => xs.set k x) where
  le := by
    show k * T.sz + T.sz ≤ n * T.sz
    rw [← Nat.succ_mul]; exact Nat.mul_le_mul_right _ hk
  get h := by
    have hl : k < _ := h.1 ▸ hk
    rw [List.getD_eq_getElem?_getD, List.getElem?_eq_getElem hl]
    exact h.2.get k hl
  set h hx := ⟨by rw [List.length_set]; exact h.1, flat.put hx h.2 k (h.1 ▸ hk)⟩
def arrO {α : Type} (T : Ty α) (v : Value) (xs : List α) : Own where
  blk := match v with | .slice (some a) _ c => if 0 < c then some a.block else none | _ => none
  lo := match v with | .slice (some a) _ _ => a.off | _ => 0
  ok A w := match v with
    | .slice (some a) n c => xs.length = n ∧ n ≤ c ∧ n ≤ LIM ∧ (0 < c → a.spot = none ∧ ∃ pre cs post et, w.heap[a.block]? = some (.cells (pre ++ cs ++ post).toArray et (0, 0)) ∧ pre.length = a.off ∧ flat T xs cs A w ∧ c * T.sz ≤ cs.length + post.length)
    | .slice none n c => n = 0 ∧ c = 0 ∧ xs = []
    | _ => False
  good := by
    intro A A' w w' hs hb h
    cases v <;> try exact h
    rename_i ad n c
    cases ad with
    | none => exact h
    | some a =>
      obtain ⟨h1, h2, h3, h4⟩ := h
      refine ⟨h1, h2, h3, fun hc => ?_⟩
      obtain ⟨h5, pre, cs, post, et, h6, h7, h8, h9⟩ := h4 hc
      exact ⟨h5, pre, cs, post, et, by rw [hb a.block (by simp [hc])]; exact h6, h7, h8.good hs, h9⟩
def isEl (sz : Nat) (v : Value) (k o : Nat) : VA := ⟨fun u _ _ => match v with | .slice (some a) n _ => k < n ∧ u = .pointer (some ⟨a.block, a.off + (k * sz + o), none⟩) | _ => False, fun _ h => h⟩
section
variable {P : Program} {f : FuncId} {e : Env} {ρ σ : Type} {R : ρ → Value → World → Prop} {Kp : ρ → Act → World → Prop}
variable {S : List (Nat × Ent)} {B : List Own} {a : Act} {w : World}
variable {k : List Item} {r : Option ρ} {arr : Array Oper} {rest : List Oper}
variable {d : Nat} {ty t u el : TypeId} {pos : String} {af : Array Edge} {ov ov' : Option Value}
variable {x y z : Operand} {α β : Type} {T : Ty α} {U : Ty β} {v : Value} {xs ys : List α} {κ : IntKind} {m n : Int}
theorem WO.lenA (i : Nat) (hx : opVA S x = some (isV v, ov)) (hB : B[i]? = some (arrO T v xs)) (hu : P.underlying t = some (.slice el)) (hd : Nat.ble (d + 1) e.N = true)
    (h : WO P e Kp arr rest ⟨(d, isI .i64 xs.length, none) :: S, B⟩ r) : WO P e Kp arr (mkOp d (.call { callee := .builtin .len, args := #[x], argTypes := #[t] }) ty pos af :: rest) ⟨S, B⟩ r := by
  refine .calc hd (fun a w hk => ?_) h
  have hv := hk.ev hx
  simp only [isV] at hv
  have ho := hk.owns _ (get_mem hB)
  cases v with
  | slice ad n c =>
    have hl : n = xs.length := by
      cases ad with
      | none => obtain ⟨h1, _, h2⟩ := ho; subst h2; simpa using h1
      | some a => exact ho.1.symm
    simp [execOp, resolve, invoke, builtin, Builtin.len_, hv, run_underlying hu, goInt, isI, hl]
  | _ => exact ho.elim
theorem WO.elemA (i : Nat) {ag : Bool} (hx : opVA S x = some (isV v, ov)) (hy : opVA S y = some (isI κ m, ov')) (hB : B[i]? = some (arrO T v xs)) (hu : P.underlying t = some (.slice el)) (he : TyAt P el T.sz ag) (hd : Nat.ble (d + 1) e.N = true)
    (h : WO P e Kp arr rest ⟨(d, isEl T.sz v m.toNat 0, none) :: S, B⟩ r) : WO P e Kp arr (mkOp d (.indexAddr t x y) ty pos af :: rest) ⟨S, B⟩ (cond (decide (0 ≤ m) && decide (m < xs.length)) r none) := by
  intro z hz
  by_cases h0 : 0 ≤ m ∧ m < xs.length
  case neg =>
    have : (decide (0 ≤ m) && decide (m < (xs.length : Int))) = false := by simpa using h0
    simp [this] at hz
  obtain ⟨h0, h1⟩ := h0
  simp only [h0, h1, decide_true, Bool.and_self, cond_true] at hz
  refine WO.calc hd (fun a w hk => ?_) h z hz
  have hv := hk.ev hx
  simp only [isV] at hv
  have hy' := hk.ev hy
  simp only [isI] at hy'
  have ho := hk.owns _ (get_mem hB)
  cases v with
  | slice ad n c =>
    cases ad with
    | none => obtain ⟨_, _, h2⟩ := ho; subst h2; simp at h1; omega
    | some a =>
      obtain ⟨h2, h3, h4, h5⟩ := ho
      obtain ⟨h6, -⟩ := h5 (by omega)
      obtain ⟨b, off, sp⟩ := a
      cases h6
      refine ⟨.pointer (some ⟨b, off + m.toNat * T.sz, none⟩), ?_, ?_⟩
      · have h5 : m < (n : Int) := by omega
        simp [execOp, Instr.indexAt, hv, hy', asIntOf, run_underlying hu, h0, h5, he.sizeOf, Addr.add0]
      · exact ⟨by omega, rfl⟩
  | _ => exact ho.elim
theorem WO.fieldA {sz k o off i : Nat} (hx : opVA S x = some (isEl sz v k o, ov)) (hu : FldAt P t i off) (hd : Nat.ble (d + 1) e.N = true)
    (h : WO P e Kp arr rest ⟨(d, isEl sz v k (o + off), none) :: S, B⟩ r) : WO P e Kp arr (mkOp d (.fieldAddr t x i) ty pos af :: rest) ⟨S, B⟩ r := by
  refine .calc hd (fun a w hk => ?_) h
  have h1 := hk.ev hx
  simp only [isEl] at h1
  split at h1
  case h_2 => exact h1.elim
  rename_i ad n c
  obtain ⟨h0, h1⟩ := h1
  obtain ⟨fs, fd, info, h4, h5, h6, h7, h8⟩ := hu.out
  refine ⟨.pointer (some ⟨ad.block, ad.off + (k * sz + (o + off)), none⟩), ?_, h0, rfl⟩
  simp [execOp, Instr.fieldAt, run_underlying h4, h5, h1, Instr.sureAddr, fieldPlace, sizeOf, typeInfo, h7, h8, Addr.add0, h6, Nat.add_assoc]
theorem arr_cells {ad : Addr} {n c : Nat} {A : Ar} (h : (arrO T (.slice (some ad) n c) xs).ok A w) {j : Nat} (hj : j < n) : n ≤ LIM ∧ ad.spot = none ∧ ∃ pre cs post et, w.heap[ad.block]? = some (.cells (pre ++ cs ++ post).toArray et (0, 0)) ∧ pre.length = ad.off ∧ (tV T n).rel xs cs A w ∧ c * T.sz ≤ cs.length + post.length ∧ n ≤ c := by
  obtain ⟨h1, h2, h3, h4⟩ := h
  obtain ⟨h5, pre, cs, post, et, h6, h7, h8, h9⟩ := h4 (by omega)
  exact ⟨h3, h5, pre, cs, post, et, h6, h7, ⟨h1, h8⟩, h9, h2⟩
theorem WO.loadA [Inhabited α] (i : Nat) {k off : Nat} {g : α → β} {st : α → β → α} (hf : Fld T off U g st) (hx : opVA S x = some (isEl T.sz v k off, ov)) (hB : B[i]? = some (arrO T v xs)) (ht : TyAt P t U.sz U.agg) (hd : Nat.ble (d + 1) e.N = true)
    (h : WO P e Kp arr rest ⟨(d, U.va (g (xs.getD k default)), none) :: S, B⟩ r) : WO P e Kp arr (mkOp d (.load t x) ty pos af :: rest) ⟨S, B⟩ r := by
  refine .calc hd (fun a w hk => ?_) h
  have h1 := hk.ev hx
  simp only [isEl] at h1
  split at h1
  case h_2 => exact h1.elim
  rename_i ad n c
  obtain ⟨h0, h1⟩ := h1
  obtain ⟨-, hsp, pre, cs, post, et, h2, h3, h4, h5, -⟩ := arr_cells (hk.owns _ (get_mem hB)) h0
  have hfl := (Fld.at (T := T) h0).comp hf
  have h6 := hfl.get h4
  have hle := hfl.le
  have hlen := (tV T n).len h4
  refine ⟨_, ?_, U.iff.2 ⟨_, rfl, h6⟩⟩
  have h7 := run_loadVar (P := P) (b := ad.block) (o := ad.off + (k * T.sz + off)) ht h6 (fun j hj => by
    have hj' : j < U.sz ∧ k * T.sz + off + j < cs.length := by simp at hj; omega
    have := (cell_mid h2).2 (k * T.sz + off + j) hj'.2
    rw [h3, ← Nat.add_assoc] at this
    rw [this]
    simp [hj'.1, hj'.2])
  simp [execOp, Instr.loadAt, h1, Instr.sureAddr, h7]
theorem WO.storeA [Inhabited α] (i : Nat) {k off : Nat} {g : α → β} {st : α → β → α} {q : β} (hf : Fld T off U g st) (hx : opVA S x = some (isEl T.sz v k off, ov)) (hB : B[i]? = some (arrO T v xs)) (hy : opVA S y = some (U.va q, ov')) (ht : TyAt P t U.sz U.agg)
    (h : WO P e Kp arr rest ⟨S, B.set i (arrO T v (xs.set k (st (xs.getD k default) q)))⟩ r) : WO P e Kp arr (mkOpN (.store t x y) ty pos af :: rest) ⟨S, B⟩ r := by
  refine opS' rfl rfl fun a w hk => ?_
  have h1 := hk.ev hx
  simp only [isEl] at h1
  split at h1
  case h_2 => exact h1.elim
  rename_i ad n c
  obtain ⟨h0, h1⟩ := h1
  obtain ⟨hlim, hsp, pre, cs, post, et, h2, h3, h4, h5, hnc⟩ := arr_cells (hk.owns _ (get_mem hB)) h0
  obtain ⟨cc, h6, h7⟩ := U.iff.1 (hk.ev hy)
  have hfl := (Fld.at (T := T) h0).comp hf
  have hle := hfl.le
  have hlen := (tV T n).len h4
  have hc := U.len h7
  have hst := run_storeCells_at (P := P) ad.block (ad.off + (k * T.sz + off)) et cc 0 (pre ++ cs ++ post).toArray w h2 (by simp; omega) (fun v hv => plain_one (U.plain h7 v hv))
  simp only [Nat.add_zero] at hst
  have hnew : (pre ++ cs ++ post).take (ad.off + (k * T.sz + off)) ++ cc ++ (pre ++ cs ++ post).drop (ad.off + (k * T.sz + off) + cc.length) = pre ++ (cs.take (k * T.sz + off) ++ cc ++ cs.drop (k * T.sz + off + U.sz)) ++ post := by
    rw [← h3, hc, List.append_assoc pre cs post, Nat.add_assoc, List.take_append, List.take_of_length_le (by omega : pre.length ≤ _), Nat.add_sub_cancel_left, List.drop_append, List.drop_eq_nil_of_le (by omega : pre.length ≤ _), Nat.add_sub_cancel_left,
      List.take_append_of_le_length (by omega), List.drop_append_of_le_length (by omega)]
    simp
  refine ⟨w.setRow ad.block (pre ++ (cs.take (k * T.sz + off) ++ cc ++ cs.drop (k * T.sz + off + U.sz)) ++ post).toArray, _, ?_, ?_, h⟩
  · have h8 := U.cells h7
    simp only [execOp, Instr.storeAt, h1, Instr.sureAddr, h6, storeVar, Sem.run_bind, Sem.run_pure, Result.andThen_ok, ht.sizeOf, h8]
    rw [← hnew]
    simp [hc, hst]
  · have h10 := setRow_heap w ad.block _ (pre ++ (cs.take (k * T.sz + off) ++ cc ++ cs.drop (k * T.sz + off + U.sz)) ++ post).toArray _ _ h2
    have hbk : (arrO T (.slice (some ad) n c) xs).blk = some ad.block := by show (if 0 < c then _ else _) = _; rw [if_pos (by omega)]
    refine Holds.write hk hB rfl rfl rfl rfl rfl (by simp [World.setRow]) (fun b' hb' => setRow_other _ _ _ _ (fun hh => hb' (by rw [hh]; exact hbk))) (fun b' o hb' ho => ?_) (fun hs => ?_)
    · rw [hbk] at hb'
      injection hb' with hb'
      subst hb'
      have ho' : o < pre.length := by rw [h3]; exact ho
      rw [(cell_mid h10).1 o ho', (cell_mid h2).1 o ho']
    · have h11 := hfl.set ((tV T n).good hs h4) (U.good hs h7)
      refine ⟨h11.1, hnc, hlim, fun _ => ⟨hsp, pre, _, post, et, h10, h3, h11.2, ?_⟩⟩
      rw [h11.2.len, h11.1]
      rw [hlen] at h5
      exact h5
theorem Holds.freeze (h : Holds e ⟨S, arrO T v xs :: B⟩ a w) : Holds e ⟨S, appO T.sz v :: B⟩ a w ∧ slRel T xs v (Acur e (appO T.sz v :: B) w) w := by
  have ho := h.owns _ List.mem_cons_self
  cases v with
  | slice ad n c =>
    cases ad with
    | none =>
      obtain ⟨h1, h2, h3⟩ := ho
      subst h1 h2 h3
      have hs : Same (Acur e (arrO T (.slice none 0 0) ([] : List α) :: B) w) (Acur e (appO T.sz (.slice none 0 0) :: B) w) w w := fun b o ⟨h1, h2, h3⟩ => ⟨⟨h1, h2, fun O hO => by
        rcases List.mem_cons.1 hO with rfl | hO
        · rintro ⟨hb, _⟩
          cases hb
        · exact h3 O (List.mem_cons_of_mem _ hO)⟩, rfl⟩
      refine ⟨{ size := h.size, defers := h.defers, old := h.old, gl := h.gl, same := h.same, slots := fun t Q ht => (h.slots t Q ht).good hs, owns := fun O hO => ?_, fresh := fun O hO b hb => ?_, apart := ?_ }, slRel_nil T _ _⟩
      · rcases List.mem_cons.1 hO with rfl | hO
        · exact rfl
        · exact O.good hs (fun _ _ => rfl) (h.owns O (List.mem_cons_of_mem _ hO))
      · rcases List.mem_cons.1 hO with rfl | hO
        · cases hb
        · exact h.fresh O (List.mem_cons_of_mem _ hO) b hb
      · exact List.pairwise_cons.2 ⟨fun O hO b hb => (by cases hb), (List.pairwise_cons.1 h.apart).2⟩
    | some ad =>
      obtain ⟨h1, h2, h3, h4⟩ := ho
      have hblk : ∀ b, (appO T.sz (.slice (some ad) n c)).blk = some b → b = ad.block ∧ n < c := by
        intro b hb
        have h' : (if n < c then some ad.block else none) = some b := hb
        split at h'
        · injection h' with h'; exact ⟨h'.symm, by assumption⟩
        · cases h'
      have hbk : 0 < c → (arrO T (.slice (some ad) n c) xs).blk = some ad.block := fun hc => by show (if 0 < c then _ else _) = _; rw [if_pos hc]
      have hlo : (appO T.sz (.slice (some ad) n c)).lo = ad.off + n * T.sz := rfl
      have hs : Same (Acur e (arrO T (.slice (some ad) n c) xs :: B) w) (Acur e (appO T.sz (.slice (some ad) n c) :: B) w) w w := fun b o ⟨g1, g2, g3⟩ => ⟨⟨g1, g2, fun O hO => by
        rcases List.mem_cons.1 hO with rfl | hO
        · rintro ⟨hb, hl⟩
          obtain ⟨rfl, hn⟩ := hblk b hb
          rw [hlo] at hl
          exact g3 _ List.mem_cons_self ⟨hbk (by omega), by show ad.off ≤ o; omega⟩
        · exact g3 O (List.mem_cons_of_mem _ hO)⟩, rfl⟩
      have hap := List.pairwise_cons.1 h.apart
      refine ⟨{ size := h.size, defers := h.defers, old := h.old, gl := h.gl, same := h.same, slots := fun t Q ht => (h.slots t Q ht).good hs, owns := fun O hO => ?_, fresh := fun O hO b hb => ?_, apart := ?_ }, ?_⟩
      · rcases List.mem_cons.1 hO with rfl | hO
        · intro hn
          obtain ⟨h5, pre, cs, post, et, h6, h7, h8, h9⟩ := h4 (by omega)
          exact ⟨h5, _, et, h6, by simp; omega⟩
        · exact O.good hs (fun _ _ => rfl) (h.owns O (List.mem_cons_of_mem _ hO))
      · rcases List.mem_cons.1 hO with rfl | hO
        · obtain ⟨rfl, hn⟩ := hblk b hb
          have := h.fresh _ List.mem_cons_self ad.block (hbk (by omega))
          refine ⟨this.1, this.2.imp id fun hF o hl => hF o ?_⟩
          rw [hlo] at hl
          show ad.off ≤ o
          omega
        · exact h.fresh O (List.mem_cons_of_mem _ hO) b hb
      · refine List.pairwise_cons.2 ⟨fun O hO b hb => ?_, hap.2⟩
        obtain ⟨rfl, hn⟩ := hblk b hb
        exact hap.1 O hO ad.block (hbk (by omega))
      · by_cases hc : 0 < c
        · obtain ⟨h5, pre, cs, post, et, h6, h7, h8, h9⟩ := h4 hc
          obtain ⟨b, off, sp⟩ := ad
          cases h5
          refine ⟨_, n, c, cs, rfl, h1, h2, h3, h8.good hs, fun hn => ⟨b, off, rfl, fun j hj => ⟨?_, ?_⟩⟩⟩
          · have hfr := h.fresh _ List.mem_cons_self b (hbk hc)
            refine ⟨?_, hfr.1, fun O hO => ?_⟩
            · rcases hfr.2 with g | g
              · exact .inr (.inl g)
              · exact .inr (.inr (g (off + j) (by show off ≤ off + j; omega)))
            · rcases List.mem_cons.1 hO with rfl | hO
              · rintro ⟨-, hl⟩
                rw [hlo] at hl
                have := h8.len
                simp only at hl
                rw [h1] at this
                omega
              · exact fun hf' => hap.1 O hO b (hbk hc) hf'.1
          · have := (cell_mid h6).2 j hj
            rw [h7] at this
            rw [this, List.getElem?_eq_getElem hj]
        · have hn : n = 0 := by omega
          subst hn
          have : xs = [] := List.eq_nil_of_length_eq_zero h1
          subst this
          exact ⟨_, 0, c, [], rfl, rfl, h2, h3, rfl, fun h => by omega⟩
  | _ => exact ho.elim
theorem Holds.frz (i : Nat) {t : Nat} (h : Holds e ⟨S, B⟩ a w) (ht : look S t = some (isV v, some v)) (hB : B[i]? = some (arrO T v xs)) : Holds e ⟨(t, (tL T).va xs, some v) :: S, B.set i (appO T.sz v)⟩ a w := by
  have h1 := (h.permute (perm_erase hB)).freeze
  have h2 : Holds e ⟨S, B.set i (appO T.sz v)⟩ a w := h1.1.permute (perm_set hB)
  have hv := h.slots t _ ht
  refine { h2 with slots := fun t' Q ht' => ?_ }
  simp only [look] at ht'
  cases hb : Nat.beq t t' with
  | false => rw [hb] at ht'; exact h2.slots t' Q ht'
  | true =>
    rw [hb] at ht'
    injection ht' with ht'
    subst ht'
    have := Nat.eq_of_beq_eq_true hb
    subst this
    have e1 : a.tmps.getD t undef = v := hv.2 v rfl
    refine ⟨?_, fun u hu => by injection hu with hu; rw [← hu]; exact e1⟩
    rw [e1]
    exact VA.good ((tL T).va xs) (fun b o ⟨g1, g2, g3⟩ => ⟨⟨g1, g2, fun O hO => g3 O ((perm_set hB).mem_iff.2 hO)⟩, rfl⟩) h1.2
theorem W.frz (i t : Nat) (ht : look S t = some (isV v, some v)) (hB : B[i]? = some (arrO T v xs)) (h : W P f e R k ⟨(t, (tL T).va xs, some v) :: S, B.set i (appO T.sz v)⟩ r) : W P f e R k ⟨S, B⟩ r := fun q hq a w hk => h q hq a w (hk.frz i ht hB)
theorem WO.frz {l : List Oper} (i t : Nat) (ht : look S t = some (isV v, some v)) (hB : B[i]? = some (arrO T v xs)) (h : WO P e Kp arr l ⟨(t, (tL T).va xs, some v) :: S, B.set i (appO T.sz v)⟩ r) : WO P e Kp arr l ⟨S, B⟩ r := fun q hq a w hk => h q hq a w (hk.frz i ht hB)
theorem WO.also {l : List Oper} {Q Q' : VA} (t s : Nat) (ht : look S t = some (Q', some v)) (hs : look S s = some (Q, some v)) (h : WO P e Kp arr l ⟨(t, Q, some v) :: S, B⟩ r) : WO P e Kp arr l ⟨S, B⟩ r := fun q hq a w hk => h q hq a w <| by
  refine { hk with slots := fun t' Q1 ht' => ?_ }
  simp only [look] at ht'
  cases hb : Nat.beq t t' with
  | false => rw [hb] at ht'; exact hk.slots t' Q1 ht'
  | true =>
    rw [hb] at ht'
    injection ht' with ht'
    subst ht'
    have := Nat.eq_of_beq_eq_true hb
    subst this
    have e1 : a.tmps.getD t undef = v := (hk.slots t _ ht).2 v rfl
    have e2 := hk.slots s _ hs
    have e3 : a.tmps.getD s undef = v := e2.2 v rfl
    refine ⟨?_, fun u hu => by injection hu with hu; rw [← hu]; exact e1⟩
    have := e2.1
    rw [e3] at this
    rw [e1]; exact this
end
end Go.HL
namespace Go.HL
section
variable {P : Program} {f : FuncId} {e : Env} {ρ σ : Type} {R : ρ → Value → World → Prop} {Kp : ρ → Act → World → Prop}
variable {S : List (Nat × Ent)} {B : List Own} {a : Act} {w : World}
variable {k : List Item} {r : Option ρ} {arr : Array Oper} {rest : List Oper}
variable {d : Nat} {ty t u el : TypeId} {pos : String} {af : Array Edge} {ov ov' : Option Value}
variable {x y z : Operand} {α β : Type} {T : Ty α} {v : Value} {xs ys : List α}
end
end Go.HL
namespace Go.HL
section
variable {P : Program} {f : FuncId} {e : Env} {ρ σ : Type} {R : ρ → Value → World → Prop} {Kp : ρ → Act → World → Prop}
variable {S : List (Nat × Ent)} {B : List Own} {a : Act} {w : World}
variable {k : List Item} {r : Option ρ} {arr : Array Oper} {rest l : List Oper}
variable {d : Nat} {ty t u el : TypeId} {pos : String} {af : Array Edge} {ov ov' : Option Value}
variable {x y z : Operand} {α β : Type} {T : Ty α} {v : Value} {xs ys : List α}
theorem WO.toArr (i t : Nat) (ht : look S t = some ((tL T).va xs, some v)) (hxs : xs = []) (hB : B[i]? = some (appO T.sz v)) (h : WO P e Kp arr l ⟨(t, isV v, some v) :: S, B.set i (arrO T v xs)⟩ r) : WO P e Kp arr l ⟨S, B⟩ r := fun q hq a w hk => h q hq a w <| by
  subst hxs
  have hv := hk.slots t _ ht
  have e1 : a.tmps.getD t undef = v := hv.2 v rfl
  have hxr := hv.1
  rw [e1] at hxr
  obtain ⟨ad, n, c, cs, rfl, hn, hnc, hlim, hfl, hcl, hca⟩ := sl_cells hxr
  have hn0 : n = 0 := by simpa using hn.symm
  subst hn0
  have htok := hk.owns _ (get_mem hB)
  have h2 : Holds e ⟨S, B.set i (arrO T (.slice ad 0 c) [])⟩ a w := by
    refine Holds.write hk hB (O' := arrO T (.slice ad 0 c) []) ?_ ?_ rfl rfl rfl rfl (fun _ _ => rfl) (fun _ _ _ _ => rfl) (fun hs => ?_)
    · cases ad <;> rfl
    · cases ad with
      | none => rfl
      | some ad => show ad.off = ad.off + 0 * T.sz; simp
    · cases ad with
      | none => exact ⟨rfl, htok, rfl⟩
      | some ad =>
        refine ⟨rfl, hnc, hlim, fun hc => ?_⟩
        obtain ⟨hsp, cur, et, hb, hcur⟩ := htok hc
        have hl : ad.off ≤ cur.toList.length := by rw [Array.length_toList]; omega
        refine ⟨hsp, cur.toList.take ad.off, [], cur.toList.drop ad.off, et, by simpa using hb, by rw [List.length_take]; omega, rfl, ?_⟩
        rw [List.length_drop, Array.length_toList]
        show c * T.sz ≤ 0 + (cur.size - ad.off)
        omega
  refine { h2 with slots := fun t' Q ht' => ?_ }
  simp only [look] at ht'
  cases hb : Nat.beq t t' with
  | false => rw [hb] at ht'; exact h2.slots t' Q ht'
  | true =>
    rw [hb] at ht'
    injection ht' with ht'
    subst ht'
    have := Nat.eq_of_beq_eq_true hb
    subst this
    exact ⟨e1, fun u hu => by injection hu with hu; rw [← hu]; exact e1⟩
theorem WO.appA (i : Nat) (hx : opVA S x = some (isV v, ov)) (hy : opVA S y = some ((tL T).va ys, ov')) (hB : B[i]? = some (arrO T v xs)) (hu : P.underlying t = some (.slice el)) (he : ElAt P el T.sz) (hd : Nat.ble (d + 1) e.N = true)
    (h : ∀ v', WO P e Kp arr rest ⟨(d, isV v', some v') :: S, B.set i (arrO T v' (xs ++ ys))⟩ r) :
    WO P e Kp arr (mkOp d (.call { callee := .builtin .append, args := #[x, y], argTypes := #[t, t] }) ty pos af :: rest) ⟨S, B⟩ (cond (decide (xs.length + ys.length ≤ CAP)) r none) := by
  intro q hq
  by_cases hcap : xs.length + ys.length ≤ CAP
  case neg => simp only [hcap, decide_false, cond_false] at hq; cases hq
  simp only [hcap, decide_true, cond_true] at hq
  refine WO.opX rfl rfl (fun a w hk => ?_) q hq
  obtain ⟨info, zz, hi, hsz, hz, hzs, hby⟩ := he.out
  have hxv := hk.ev hx
  simp only [isV] at hxv
  have ho := hk.owns _ (get_mem hB)
  have hdN := Nat.le_of_ble_eq_true hd
  rw [CAP_eq] at hcap
  have hL := LIM_eq
  obtain ⟨yad, m, yc, ys', hyv, hm, hmc, hmlim, hyfl, hycl, hyca⟩ := sl_cells (hk.ev hy)
  -- the array
  have hsl : ∃ ad n c, v = .slice ad n c ∧ xs.length = n ∧ n ≤ c ∧ n ≤ LIM ∧ (ad = none → c = 0) := by
    cases v with
    | slice ad n c =>
      cases ad with
      | none => obtain ⟨h1, h2, h3⟩ := ho; subst h1 h2 h3; exact ⟨_, _, _, rfl, rfl, Nat.le_refl _, Nat.zero_le _, fun _ => rfl⟩
      | some ad => obtain ⟨h1, h2, h3, h4⟩ := ho; exact ⟨_, _, _, rfl, h1, h2, h3, fun h => by cases h⟩
    | _ => exact ho.elim
  obtain ⟨ad, n, c, rfl, hn, hnc, hlim, hnone⟩ := hsl
  have hrunE : ∀ v' w', (Builtin.append_ #[t, t] ty #[.slice ad n c, .slice yad m yc]).run P w = .ok v' w' → (execOp a.eval (mkOp d (.call { callee := .builtin .append, args := #[x, y], argTypes := #[t, t] }) ty pos af)).run P w = .ok (.value v') w' := by
    intro v' w' hr
    simp [execOp, resolve, invoke, builtin, hxv, hyv, hr]
  by_cases hm0 : m = 0
  · subst hm0
    have hys : ys = [] := List.eq_nil_of_length_eq_zero hm
    subst hys
    refine ⟨_, w, _, hrunE _ _ (run_app0 hu hi ad yad n c yc hnc), ?_, h (.slice ad n c)⟩
    refine Holds.put ?_ hdN ⟨rfl, fun u hu => by injection hu⟩
    rw [List.append_nil]
    have hid : B.set i (arrO T (.slice ad n c) xs) = B := by
      obtain ⟨h1, h2⟩ := List.getElem?_eq_some_iff.1 hB
      rw [← h2]; simp
    rw [hid]
    exact hk
  · obtain ⟨yb, yo, rfl, hyc⟩ := hyca (by omega)
    have hynews := cells_list hyc
    have hplain : ∀ u ∈ ys', u.oneCell' = true := fun u hu => plain_one (hyfl.plain u hu)
    have hbytes : (n + m) * info.bytes ≤ 140737488355328 := by
      have : (n + m) * info.bytes ≤ 4294967296 * 16384 := Nat.mul_le_mul (by omega) hby
      omega
    by_cases hroom : n + m ≤ c
    · cases ad with
      | none => have := hnone rfl; omega
      | some adr =>
        obtain ⟨-, -, -, h4⟩ := ho
        obtain ⟨hsp, pre, cs, post, et, hb, hpre, hfl, hcur⟩ := h4 (by omega)
        obtain ⟨b, off, sp⟩ := adr
        cases hsp
        have hcl := hfl.len
        rw [hn] at hcl
        have hcm : (n + m) * T.sz ≤ c * T.sz := Nat.mul_le_mul_right _ hroom
        rw [Nat.add_mul] at hcm
        have hpre' : pre.length = off := hpre
        have hfit : off + n * info.size + ys'.length ≤ (pre ++ cs ++ post).toArray.size := by rw [hsz, hycl]; simp; omega
        have hrun := run_appIn (P := P) (ty := ty) hu hi b off n c m yc ⟨yb, yo, none⟩ ys' (by rw [hsz]; exact hycl) hynews hplain hroom hb hfit
        have hnew : ((pre ++ cs ++ post).toArray.toList.take (off + n * info.size) ++ ys' ++ (pre ++ cs ++ post).toArray.toList.drop (off + n * info.size + ys'.length)) = pre ++ (cs ++ ys') ++ post.drop ys'.length := by
          have e1 : off + n * info.size = (pre ++ cs).length := by rw [hsz, List.length_append]; omega
          simp only []
          rw [e1, List.take_left' rfl, ← List.drop_drop, List.drop_left' rfl]
          simp
        rw [hnew] at hrun
        have hheap := setRow_heap w b _ (pre ++ (cs ++ ys') ++ post.drop ys'.length).toArray et (0, 0) hb
        have hbk : (arrO T (.slice (some ⟨b, off, none⟩) n c) xs).blk = some b := by show (if 0 < c then _ else _) = _; rw [if_pos (by omega)]
        refine ⟨_, _, _, hrunE _ _ hrun, Holds.put ?_ hdN ⟨rfl, fun u hu => by injection hu⟩, h _⟩
        refine Holds.write hk hB (O' := arrO T (.slice (some ⟨b, off, none⟩) (n + m) c) (xs ++ ys)) rfl rfl rfl rfl rfl (by simp [World.setRow]) (fun b' hb' => setRow_other _ _ _ _ (fun hh => hb' (by rw [hh]; exact hbk))) (fun b' o hb' ho => ?_) (fun hs => ?_)
        · rw [hbk] at hb'
          injection hb' with hb'
          subst hb'
          have ho' : o < pre.length := by rw [hpre']; exact ho
          rw [(cell_mid hheap).1 o ho', (cell_mid hb).1 o ho']
        · refine ⟨by simp [hn, hm], hroom, by omega, fun _ => ⟨rfl, pre, _, _, et, hheap, hpre, flat.append (hyfl.good hs) (hfl.good hs), ?_⟩⟩
          rw [List.length_append, List.length_drop, hycl, hcl]
          rw [hcl] at hcur
          omega
    · have hcap' := grownCap_ge w (n + m) c el
      have hzl : (Builtin.zeroCells zz.cells (grownCap w (n + m) c el - (n + m))).toList.length = (grownCap w (n + m) c el - (n + m)) * T.sz := by
        rw [Array.length_toList, size_zeroCells, hzs]
      have hcells : ∃ cs, flat T xs cs (Acur e B w) w ∧ cs.length = n * T.sz ∧ ∀ adr, ad = some adr → ∀ j v, cs[j]? = some v → w.cell? (adr.add j) = some v := by
        cases ad with
        | none =>
          obtain ⟨_, _, h3⟩ := ho
          subst h3
          exact ⟨[], rfl, by simp at hn; subst hn; simp, fun _ h => by cases h⟩
        | some adr =>
          obtain ⟨h1, h2, h3, h4⟩ := ho
          by_cases hc : 0 < c
          · obtain ⟨hsp, pre, cs, post, et, hb, hpre, hfl, hcur⟩ := h4 hc
            refine ⟨cs, hfl, by rw [hfl.len, h1], fun adr' h j v hj => ?_⟩
            injection h with h
            subst h
            obtain ⟨b, off, sp⟩ := adr
            cases hsp
            obtain ⟨hj', hv⟩ := List.getElem?_eq_some_iff.1 hj
            have := (cell_mid hb).2 j hj'
            rw [hpre] at this
            rw [Addr.add0, this, hj]
          · have hn0 : n = 0 := by omega
            have hxs : xs = [] := List.eq_nil_of_length_eq_zero (by omega)
            subst hxs
            exact ⟨[], rfl, by rw [hn0]; simp, fun _ _ j v hj => by simp at hj⟩
      obtain ⟨cs, hfl, hcl, hcc⟩ := hcells
      have hrun : (Builtin.append_ #[t, t] ty #[.slice ad n c, .slice (some ⟨yb, yo, none⟩) m yc]).run P w = .ok (.slice (some ⟨w.heap.size, 0, none⟩) (n + m) (grownCap w (n + m) c el)) (w.drew.alloc (.cells ([] ++ (cs ++ ys') ++ (Builtin.zeroCells zz.cells (grownCap w (n + m) c el - (n + m))).toList).toArray el)) := by
        have hfit := growslice_fits (show c < n + m by omega) hbytes
        cases ad with
        | some adr =>
          have := run_append_grow (P := P) w t ty el info zz hu hi hz adr n c cs (by rw [hsz]; exact hcl) (hcc adr rfl) ⟨yb, yo, none⟩ m yc ys' (by rw [hsz]; exact hycl) hynews (by omega) (by omega) hfit
          rw [this]
          congr 3
          simp
        | none =>
          have hc0 : c = 0 := hnone rfl
          subst hc0
          have hn0 : n = 0 := by omega
          subst hn0
          have hcs : cs = [] := List.eq_nil_of_length_eq_zero (by rw [hcl]; simp)
          subst hcs
          have := run_append_nil (P := P) w t ty el info zz hu hi hz ⟨yb, yo, none⟩ m yc ys' (by rw [hsz]; exact hycl) hynews (by omega) (by omega) (by have := hbytes; simp only [Nat.zero_add] at this; omega)
          simp only [Nat.zero_add]
          rw [this]
          congr 3
          simp
      refine ⟨_, _, _, hrunE _ _ hrun, Holds.put ?_ hdN ⟨rfl, fun u hu => by injection hu⟩, h _⟩
      have hk1 := hk.erase hB
      have hw0 := hk.same.size
      obtain ⟨h1, h2⟩ := Holds.own hk1 (O := arrO T (.slice (some ⟨w.heap.size, 0, none⟩) (n + m) (grownCap w (n + m) c el)) (xs ++ ys)) (w' := w.drew.alloc (.cells ([] ++ (cs ++ ys') ++ (Builtin.zeroCells zz.cells (grownCap w (n + m) c el - (n + m))).toList).toArray el)) rfl rfl rfl (by rw [alloc_size]; show w.heap.size < w.heap.size + 1; omega) (fun b hb => alloc_old w.drew _ b hb)
        (fun b hb => by
          have h' : (if 0 < grownCap w (n + m) c el then some w.heap.size else none) = some b := hb
          rw [if_pos (by omega)] at h'
          injection h' with h'
          rw [alloc_size]
          show _ ≤ _ ∧ b < w.heap.size + 1
          omega)
        (fun hs => by
          have hnew := alloc_new w.drew (.cells ([] ++ (cs ++ ys') ++ (Builtin.zeroCells zz.cells (grownCap w (n + m) c el - (n + m))).toList).toArray el)
          have hA0 : Same (Acur e B w) (Acur e (B.eraseIdx i) w) w w := fun b o ⟨h1, h2, h3⟩ => ⟨⟨h1, h2, fun O hO => h3 O (List.mem_of_mem_eraseIdx hO)⟩, rfl⟩
          refine ⟨by simp [hn, hm], hcap', by omega, fun _ => ⟨rfl, [], cs ++ ys', _, el, hnew, rfl, flat.append (hyfl.good (hA0.trans hs)) (hfl.good (hA0.trans hs)), ?_⟩⟩
          rw [hzl, List.length_append, hycl, hcl, ← Nat.add_mul, ← Nat.add_mul]
          exact Nat.mul_le_mul_right _ (by omega))
      exact h1.permute (perm_set hB)
end
end Go.HL
namespace Go.HL
section
variable {P : Program} {f : FuncId} {e : Env} {ρ σ : Type} {R : ρ → Value → World → Prop} {Kp : ρ → Act → World → Prop}
variable {S : List (Nat × Ent)} {B : List Own} {a : Act} {w : World}
variable {k : List Item} {r : Option ρ} {arr : Array Oper} {rest l : List Oper}
variable {d : Nat} {ty t u el : TypeId} {pos : String} {af : Array Edge} {ov ov' : Option Value}
variable {x y z : Operand} {α β : Type} {T : Ty α} {v : Value} {xs ys : List α}
def strI (xs : List Int) : List UInt8 := xs.map fun n => UInt8.ofNat n.toNat
theorem flat_u8 {A : Ar} {w : World} : ∀ {xs : List Int} {cs}, flat (tI .u8) xs cs A w → cs = xs.map (Value.int .u8)
  | [], _, h => by cases h; rfl
  | x :: xs, _, ⟨c1, c2, e, h1, h2⟩ => by
    have h1' : c1 = [.int .u8 x] := h1
    rw [e, h1', flat_u8 h2]; rfl
theorem WO.convBS {ns : List Int} (hx : opVA S x = some ((tL (tI .u8)).va ns, ov)) (hs : P.underlying t = some (.slice el)) (he : P.underlying el = some (.int .u8)) (hu : P.underlying u = some .string) (hd : Nat.ble (d + 1) e.N = true)
    (h : WO P e Kp arr rest ⟨(d, isS (strI ns), none) :: S, B⟩ r) : WO P e Kp arr (mkOp d (.convert t u x) ty pos af :: rest) ⟨S, B⟩ r := by
  refine .calc hd (fun a w hk => ?_) h
  obtain ⟨ad, n, c, cs, h1, h2, -, -, h3, -, h4⟩ := sl_cells (hk.ev hx)
  refine ⟨str (strI ns), ?_, rfl⟩
  have hrun : (convert t u (.slice ad n c)).run P w = .ok (str (strI ns)) w := by
    by_cases hn : 0 < n
    · obtain ⟨b, o, rfl, hc⟩ := h4 hn
      have hcs := flat_u8 h3
      rw [run_convert_bytes_arg w t el hs he b o n c ns h2 (fun i hi => by
        have hi' : i < cs.length := by rw [hcs]; simpa [h2] using hi
        rw [(hc i hi').2]
        subst hcs
        have hi2 : i < ns.length := by omega
        simp [List.getD_eq_getElem?_getD, List.getElem?_eq_getElem hi2]) u hu]
      rfl
    · have hn0 : n = 0 := by omega
      subst hn0
      have hns : ns = [] := List.eq_nil_of_length_eq_zero h2
      subst hns
      cases ad with
      | none => rw [run_convert_bytes_nil w t el hs he _ _ u hu]; rfl
      | some ad =>
        have : ∀ i, i < 0 → w.cell? ⟨ad.block, ad.off + i, none⟩ = some (.int .u8 (([] : List Int).getD i 0)) := fun i hi => by omega
        rw [run_convert_bytes_string w t u el _ _ _ hs he hu, run_bytesToString w ad 0 c [] (by simp [loadCells, loadCellsFrom])]
        rfl
  simp [execOp, h1, hrun]
theorem Ctr.none {g : FuncId} {vs : List VA} {O : List Own} {O' : ρ → Value → List Own} {Q : ρ → VA} : Ctr P g vs O (Option.none : Option ρ) O' Q := fun q h => by cases h
variable {K0 : Ctx} {c : Code} {σ1 σ2 σ3 σ4 : Type}
theorem W.join1 (K : σ1 → Ctx) (F : σ1 → Option ρ) (hJ : ∀ s, W P f e R k (K s) (F s)) (h : (∀ s, W P f e R k (K s) (F s)) → W P f e R (.code c :: k) K0 r) : W P f e R (.code c :: k) K0 r := h hJ
theorem W.join2 (K : σ1 → σ2 → Ctx) (F : σ1 → σ2 → Option ρ) (hJ : ∀ s t, W P f e R k (K s t) (F s t)) (h : (∀ s t, W P f e R k (K s t) (F s t)) → W P f e R (.code c :: k) K0 r) : W P f e R (.code c :: k) K0 r := h hJ
theorem W.join3 (K : σ1 → σ2 → σ3 → Ctx) (F : σ1 → σ2 → σ3 → Option ρ) (hJ : ∀ s t u, W P f e R k (K s t u) (F s t u)) (h : (∀ s t u, W P f e R k (K s t u) (F s t u)) → W P f e R (.code c :: k) K0 r) : W P f e R (.code c :: k) K0 r := h hJ
end
end Go.HL
namespace Go.HL
section
variable {P : Program} {f : FuncId} {e : Env} {ρ σ : Type} {R : ρ → Value → World → Prop} {Kp : ρ → Act → World → Prop}
variable {S : List (Nat × Ent)} {B : List Own} {a : Act} {w : World}
variable {k : List Item} {r : Option ρ} {arr : Array Oper} {rest l : List Oper}
variable {ov ov' : Option Value} {α β : Type} {T : Ty α} {v : α}
theorem Holds.frzP (i : Nat) {t b : Nat} {kn : List (Nat × Value)} (h : Holds e ⟨S, B⟩ a w) (ht : look S t = some (isP b 0, ov)) (hB : B[i]? = some (boxO b T v kn)) : Holds e ⟨(t, isAt T v, none) :: S, B.eraseIdx i⟩ a w := by
  have h2 := h.erase hB
  have hv := (h.slots t _ ht).1
  have ho := h.owns _ (get_mem hB)
  have hfr := h.fresh _ (get_mem hB) b rfl
  have hap := (List.pairwise_cons.1 ((perm_erase hB).pairwise h.apart (fun hxy b hb hk => hxy b hk hb))).1
  obtain ⟨cs, et, h5, h6, h7⟩ := ho
  have hs : Same (Acur e B w) (Acur e (B.eraseIdx i) w) w w := fun b o ⟨g1, g2, g3⟩ => ⟨⟨g1, g2, fun O hO => g3 O ((List.eraseIdx_sublist ..).subset hO)⟩, rfl⟩
  refine { h2 with slots := fun t' Q ht' => ?_ }
  simp only [look] at ht'
  cases hb : Nat.beq t t' with
  | false => rw [hb] at ht'; exact h2.slots t' Q ht'
  | true =>
    rw [hb] at ht'
    injection ht' with ht'
    subst ht'
    have := Nat.eq_of_beq_eq_true hb
    subst this
    refine ⟨⟨b, 0, cs, hv, T.good hs h6, fun j hj => ⟨⟨?_, hfr.1, fun O hO hf => hap O hO b rfl hf.1⟩, ?_⟩⟩, fun u hu => by cases hu⟩
    · rcases hfr.2 with g | g
      · exact .inr (.inl g)
      · exact .inr (.inr (g _ (Nat.zero_le _)))
    · simp [World.cell?, h5, hj]
theorem WO.frzP (i t : Nat) {b : Nat} {kn : List (Nat × Value)} (ht : look S t = some (isP b 0, ov)) (hB : B[i]? = some (boxO b T v kn)) (h : WO P e Kp arr l ⟨(t, isAt T v, none) :: S, B.eraseIdx i⟩ r) : WO P e Kp arr l ⟨S, B⟩ r := fun q hq a w hk => h q hq a w (hk.frzP i ht hB)
end
end Go.HL
namespace Go.HL
def lift {ν : Type} (rv : Value → ν) (V : ν → VA) : VA := ⟨fun v A w => (V (rv v)).f v A w, fun h k => (V _).good h k⟩
def tupV (i : Nat) : Value → Value | .tuple vs => vs.getD i undef | _ => undef
def cellV (i : Nat) : Value → Value | .agg cs => cs.getD i undef | _ => undef
def CtrL {ρ ν : Type} (P : Program) (k : FuncId) (vs : List VA) (O : List Own) (y : Option ρ) (rv : Value → ν) (O' : ρ → ν → List Own) (Q : ρ → ν → VA) : Prop :=
  Ctr P k vs O y (fun q v => O' q (rv v)) (fun q => lift rv (Q q))
def RRL {ρ ν : Type} (A : Ar) (w : World) (O : List Own) (rv : Value → ν) (O' : ρ → ν → List Own) (Q : ρ → ν → VA) : ρ → Value → World → Prop := RR A w O (fun q v => O' q (rv v)) (fun q => lift rv (Q q))
section
variable {P : Program} {f : FuncId} {e : Env} {ρ σ ν : Type} {R : ρ → Value → World → Prop} {Kp : ρ → Act → World → Prop}
variable {S : List (Nat × Ent)} {B : List Own} {a : Act} {w : World}
variable {k : List Item} {r r' : Option ρ} {arr : Array Oper} {rest l : List Oper}
variable {d : Nat} {ty t u el : TypeId} {pos : String} {af : Array Edge} {ov ov' : Option Value}
variable {x y z : Operand} {α β : Type} {T : Ty α} {v : Value} {xs ys : List α}
theorem CtrL.of_W {k : FuncId} {fn : Func} {c : Code} {n : Nat} {vs : List VA} {O : List Own} {y : Option ρ} {rv : Value → ν} {O' : ρ → ν → List Own} {Q : ρ → ν → VA}
    (hf : P.funcs[k]? = some fn) (hb : fn.body = some c) (hn : fn.ntmps = n) (hl : Nat.ble vs.length n = true)
    (h : ∀ A w, W P k (env A w O n) (RRL A w O rv O' Q) [.code c] ⟨slots 0 vs, O⟩ y) : CtrL P k vs O y rv O' Q := Ctr.of_W hf hb hn hl h
variable {A : Ar} {w0 : World} {O : List Own} {n : Nat} {q : ρ} {fn : Func}
theorem W.retL1 {O' : ρ → ν → List Own} {Q : ρ → ν → VA} {rv : Value → ν} {res : ResultVar} {Q1 : Ent} (vr : ν) (hf : P.funcs[f]? = some fn) (hr : fn.results = #[res]) (h1 : Rv P (env A w0 O n) ⟨S, B⟩ res Q1) (hq : Q1.1 = Q q vr) (hrv : ∀ v A w, Q1.1.f v A w → rv v = vr) (hO : (O' q vr).Sublist B) :
    W P f (env A w0 O n) (RRL A w0 O rv O' Q) (.code .ret :: k) ⟨S, B⟩ (some q) := by
  intro x hx a w hk
  injection hx with hx
  subst hx
  obtain ⟨v, hrun, h2⟩ := h1 a w hk
  have e := hrv _ _ _ h2.1
  refine Run.ret hf hk.defers (v := v) ?_ (ret_of hk (by rw [e]; exact hO) ?_)
  · exact results1 hr hrun
  · show (Q q (rv v)).f v _ _
    rw [e, ← hq]; exact h2.1
theorem W.retL2 {O' : ρ → ν → List Own} {Q : ρ → ν → VA} {rv : Value → ν} {res res2 : ResultVar} {Q1 Q2 : Ent} (vr : ν) (hf : P.funcs[f]? = some fn) (hr : fn.results = #[res, res2]) (h1 : Rv P (env A w0 O n) ⟨S, B⟩ res Q1) (h2 : Rv P (env A w0 O n) ⟨S, B⟩ res2 Q2) (hq : tup [Q1.1, Q2.1] = Q q vr) (hrv : ∀ v A w, Q1.1.f v A w → rv v = vr) (hO : (O' q vr).Sublist B) :
    W P f (env A w0 O n) (RRL A w0 O (fun v => rv (tupV 0 v)) O' Q) (.code .ret :: k) ⟨S, B⟩ (some q) := by
  intro x hx a w hk
  injection hx with hx
  subst hx
  obtain ⟨v1, hrun1, h3⟩ := h1 a w hk
  obtain ⟨v2, hrun2, h4⟩ := h2 a w hk
  have e : rv (tupV 0 (.tuple #[v1, v2])) = vr := hrv _ _ _ h3.1
  refine Run.ret hf hk.defers (v := .tuple #[v1, v2]) ?_ (ret_of hk (by show (O' q (rv (tupV 0 (.tuple #[v1, v2])))).Sublist B; rw [e]; exact hO) ?_)
  · exact results2 hr hrun1 hrun2
  · show (Q q (rv (tupV 0 (.tuple #[v1, v2])))).f _ _ _
    rw [e, ← hq]
    exact ⟨[v1, v2], rfl, .cons h3.1 (.cons h4.1 .nil)⟩
theorem Holds.swap {K : Ctx} {Q Q' : Ent} {d : Nat} (hk : Holds e ⟨(d, Q) :: S, B⟩ a w) (h : ∀ A w v, Q.holds v A w → Q'.holds v A w) : Holds e ⟨(d, Q') :: S, B⟩ a w := by
  refine { hk with slots := fun t' Q1 ht' => ?_ }
  simp only [look] at ht'
  cases hb : Nat.beq d t' with
  | false =>
    rw [hb] at ht'
    exact hk.slots t' Q1 (by simp only [look, hb]; exact ht')
  | true =>
    rw [hb] at ht'
    injection ht' with ht'
    subst ht'
    have := Nat.eq_of_beq_eq_true hb
    subst this
    exact h _ _ _ (hk.slots d Q (by simp only [look, Nat.beq_refl]))
theorem swapL {K : Ctx} {rv : Value → ν} {V : ν → VA} (hk : Holds e ⟨(d, lift rv V, some v) :: S, B⟩ a w) : Holds e ⟨(d, V (rv v), none) :: S, B⟩ a w :=
  hk.swap (K := K) fun A w u ⟨h1, h2⟩ => ⟨by have := h2 v rfl; subst this; exact h1, fun _ hu => by cases hu⟩
theorem WO.callL0 {g : FuncId} {xs : Array Operand} {tys : Array TypeId} {vs : List VA} {y : Option σ} {rv : Value → ν} {O' : σ → ν → List Own} {Q : σ → ν → VA} {r : σ → Option ρ}
    (hf : CtrL P g vs [] y rv O' Q) (hfn : ∃ fn c, P.funcs[g]? = some fn ∧ (fn.name == "runtime.NumGoroutine") = false ∧ fn.body = some c) (hx : opVAs S xs.toList = some vs) (hd : Nat.ble (d + 1) e.N = true)
    (h : ∀ q p, WO P e Kp arr rest ⟨(d, Q q p, none) :: S, O' q p ++ B⟩ (r q)) :
    WO P e Kp arr (mkOp d (.call { callee := .value (.func g), args := xs, argTypes := tys }) ty pos af :: rest) ⟨S, B⟩ (y.bind r) :=
  .call hf hfn (B' := B) rfl hx hd fun q v z hz a w hk => h q (rv v) z hz a w (swapL (K := ⟨S, B⟩) hk)
theorem WO.callL1 (i : Nat) {Ow : Own} {g : FuncId} {xs : Array Operand} {tys : Array TypeId} {vs : List VA} {y : Option σ} {rv : Value → ν} {O' : σ → ν → List Own} {Q : σ → ν → VA} {r : σ → Option ρ}
    (hf : CtrL P g vs [Ow] y rv O' Q) (hB : B[i]? = some Ow) (hfn : ∃ fn c, P.funcs[g]? = some fn ∧ (fn.name == "runtime.NumGoroutine") = false ∧ fn.body = some c) (hx : opVAs S xs.toList = some vs) (hd : Nat.ble (d + 1) e.N = true)
    (h : ∀ q p, WO P e Kp arr rest ⟨(d, Q q p, none) :: S, O' q p ++ B.eraseIdx i⟩ (r q)) :
    WO P e Kp arr (mkOp d (.call { callee := .value (.func g), args := xs, argTypes := tys }) ty pos af :: rest) ⟨S, B⟩ (y.bind r) :=
  .perm (perm_erase hB) <| .call hf hfn (B' := B.eraseIdx i) rfl hx hd fun q v z hz a w hk => h q (rv v) z hz a w (swapL (K := ⟨S, B⟩) hk)
theorem WO.callR (i : Nat) {Ow : Own} {g : FuncId} {xs : Array Operand} {tys : Array TypeId} {vs : List VA} {y : Option σ} {Q : σ → VA} {r : σ → Option ρ}
    (hf : Ctr P g vs [Ow] y (fun _ _ => [Ow]) Q) (hB : B[i]? = some Ow) (hfn : ∃ fn c, P.funcs[g]? = some fn ∧ (fn.name == "runtime.NumGoroutine") = false ∧ fn.body = some c) (hx : opVAs S xs.toList = some vs) (hd : Nat.ble (d + 1) e.N = true)
    (h : ∀ q, WO P e Kp arr rest ⟨(d, Q q, none) :: S, B⟩ (r q)) :
    WO P e Kp arr (mkOp d (.call { callee := .value (.func g), args := xs, argTypes := tys }) ty pos af :: rest) ⟨S, B⟩ (y.bind r) :=
  .perm (perm_erase hB) <| .call hf hfn (B' := B.eraseIdx i) rfl hx hd fun q v => .perm (perm_erase hB).symm fun x hx a w hk => h q x hx a w (noval hk)
theorem WO.callRL (i : Nat) {Ow : Own} {g : FuncId} {xs : Array Operand} {tys : Array TypeId} {vs : List VA} {y : Option σ} {rv : Value → ν} {O' : σ → ν → List Own} {Q : σ → ν → VA} {r : σ → Option ρ}
    (hf : CtrL P g vs [Ow] y rv (fun q p => O' q p ++ [Ow]) Q) (hB : B[i]? = some Ow) (hfn : ∃ fn c, P.funcs[g]? = some fn ∧ (fn.name == "runtime.NumGoroutine") = false ∧ fn.body = some c) (hx : opVAs S xs.toList = some vs) (hd : Nat.ble (d + 1) e.N = true)
    (h : ∀ q p, WO P e Kp arr rest ⟨(d, Q q p, none) :: S, O' q p ++ B⟩ (r q)) :
    WO P e Kp arr (mkOp d (.call { callee := .value (.func g), args := xs, argTypes := tys }) ty pos af :: rest) ⟨S, B⟩ (y.bind r) :=
  .perm (perm_erase hB) <| .call hf hfn (B' := B.eraseIdx i) rfl hx hd fun q v => .perm (B' := O' q (rv v) ++ B) (by rw [List.append_assoc]; exact (perm_erase hB).symm.append_left _) fun z hz a w hk => h q (rv v) z hz a w (swapL (K := ⟨S, B⟩) hk)
theorem isV_know (ht : look S t = some (isV v, ov)) (hk : Holds e ⟨S, B⟩ a w) : Holds e ⟨(t, isV v, some v) :: S, B⟩ a w := by
  refine { hk with slots := fun t' Q1 ht' => ?_ }
  simp only [look] at ht'
  cases hb : Nat.beq t t' with
  | false => rw [hb] at ht'; exact hk.slots t' Q1 ht'
  | true =>
    rw [hb] at ht'
    injection ht' with ht'
    subst ht'
    have := Nat.eq_of_beq_eq_true hb
    subst this
    have h1 := (hk.slots t _ ht).1
    exact ⟨h1, fun u hu => by injection hu with hu; rw [← hu]; exact h1⟩
theorem WO.know (t : Nat) (ht : look S t = some (isV v, ov)) (h : WO P e Kp arr l ⟨(t, isV v, some v) :: S, B⟩ r) : WO P e Kp arr l ⟨S, B⟩ r := fun q hq a w hk => h q hq a w (isV_know ht hk)
theorem W.know (t : Nat) (ht : look S t = some (isV v, ov)) (h : W P f e R k ⟨(t, isV v, some v) :: S, B⟩ r) : W P f e R k ⟨S, B⟩ r := fun q hq a w hk => h q hq a w (isV_know ht hk)
theorem WO.arrNil (T : Ty α) (h : WO P e Kp arr l ⟨S, arrO T (.slice none 0 0) [] :: B⟩ r) : WO P e Kp arr l ⟨S, B⟩ r :=
  fun x hx a w hk => h x hx a w (hk.tok rfl fun _ => ⟨rfl, rfl, rfl⟩)
theorem W.arrNil (T : Ty α) (h : W P f e R k ⟨S, arrO T (.slice none 0 0) [] :: B⟩ r) : W P f e R k ⟨S, B⟩ r :=
  fun x hx a w hk => h x hx a w (hk.tok rfl fun _ => ⟨rfl, rfl, rfl⟩)
theorem W.eqr (he : r = r') (h : W P f e R k ⟨S, B⟩ r') : W P f e R k ⟨S, B⟩ r := he ▸ h
theorem WO.eqNil (hx : opVA S x = some ((tL T).va xs, ov)) (hu : P.underlying t = some (.slice el)) (hd : Nat.ble (d + 1) e.N = true)
    (h : ∀ b : Bool, (b = true → xs = []) → WO P e Kp arr rest ⟨(d, isB b, none) :: S, B⟩ r) : WO P e Kp arr (mkOp d (.binOp .eql t x (.const (.slice none 0 0)) u) ty pos af :: rest) ⟨S, B⟩ r := by
  refine .opX rfl rfl fun a w hk => ?_
  obtain ⟨ad, n, c, cs, hv, hn, -, -, -, hc⟩ := hk.ev hx
  refine ⟨.bool ad.isNone, w, _, ?_, hk.put (Q := (isB ad.isNone, none)) (Nat.le_of_ble_eq_true hd) ⟨rfl, fun u hu => by cases hu⟩, h _ fun hb => ?_⟩
  · have he : (Op.equal t (.slice ad n c) (.slice none 0 0)).run P w = .ok ad.isNone w := by
      unfold Op.equal Op.maxDepth
      rw [Op.equalIn]
      cases ad <;> simp [run_underlying hu]
    have hc0 : a.eval (.const (.slice none 0 0)) = .slice none 0 0 := rfl
    simp [execOp, hv, hc0, eqGuard, binOp, he]
  · cases ad with
    | some _ => simp at hb
    | none =>
      have : ¬ 0 < n := fun h0 => by obtain ⟨b, o, h1, -⟩ := hc h0; cases h1
      exact List.eq_nil_of_length_eq_zero (by omega)
end
end Go.HL
namespace Go.HL
section
variable {P : Program} {f : FuncId} {e : Env} {ρ σ ν : Type} {R : ρ → Value → World → Prop} {Kp : ρ → Act → World → Prop}
variable {S : List (Nat × Ent)} {B : List Own} {a : Act} {w : World}
variable {k : List Item} {r r' : Option ρ} {arr : Array Oper} {rest l : List Oper}
variable {d : Nat} {ty t u el : TypeId} {pos : String} {af : Array Edge} {ov ov' ov'' : Option Value}
variable {x y z : Operand} {α β : Type} {T : Ty α} {v : Value} {xs ys : List α}
theorem Holds.narrow {i : Nat} {O O' : Own} (h : Holds e ⟨S, B⟩ a w) (hB : B[i]? = some O) (hb : ∀ b, O'.blk = some b → O.blk = some b ∧ O.lo ≤ O'.lo) (hok : ∀ A w, O.ok A w → O'.ok A w) : Holds e ⟨S, B.set i O'⟩ a w := by
  have hp := h.permute (perm_erase hB)
  have hs : Same (Acur e (O :: B.eraseIdx i) w) (Acur e (O' :: B.eraseIdx i) w) w w := fun b o ⟨g1, g2, g3⟩ => ⟨⟨g1, g2, fun Q hQ => by
    rcases List.mem_cons.1 hQ with rfl | hQ
    · rintro ⟨hb1, hl⟩
      obtain ⟨h1, h2⟩ := hb b hb1
      exact g3 O List.mem_cons_self ⟨h1, Nat.le_trans h2 hl⟩
    · exact g3 Q (List.mem_cons_of_mem _ hQ)⟩, rfl⟩
  have hap := List.pairwise_cons.1 hp.apart
  refine Holds.permute (B := O' :: B.eraseIdx i) { size := hp.size, defers := hp.defers, old := hp.old, gl := hp.gl, same := hp.same, slots := fun t Q ht => (hp.slots t Q ht).good hs, owns := fun Q hQ => ?_, fresh := fun Q hQ b hbb => ?_, apart := ?_ } (perm_set hB)
  · rcases List.mem_cons.1 hQ with rfl | hQ
    · exact Own.good _ hs (fun _ _ => rfl) (hok _ _ (hp.owns O List.mem_cons_self))
    · exact Q.good hs (fun _ _ => rfl) (hp.owns Q (List.mem_cons_of_mem _ hQ))
  · rcases List.mem_cons.1 hQ with rfl | hQ
    · obtain ⟨h1, h2⟩ := hb b hbb
      have := hp.fresh O List.mem_cons_self b h1
      exact ⟨this.1, this.2.imp id fun hF o ho => hF o (Nat.le_trans h2 ho)⟩
    · exact hp.fresh Q (List.mem_cons_of_mem _ hQ) b hbb
  · exact List.pairwise_cons.2 ⟨fun Q hQ b hbb hk => hap.1 Q hQ b (hb b hbb).1 hk, hap.2⟩
theorem WO.sliceV {ad ad' : Option Addr} {n c : Nat} {lo hi mx : Option Operand} {l h' m : Nat} (hx : opVA S x = some (isV (.slice ad n c), ov)) (hu : P.underlying t = some (.slice el)) (he : ElAt P el T.sz)
    (hlo : match lo with | some y => ∃ ov, opVA S y = some (isI .i64 l, ov) | none => l = 0) (hhi : match hi with | some y => ∃ ov, opVA S y = some (isI .i64 h', ov) | none => h' = n ∧ mx = none) (hmx : match mx with | some y => ∃ ov, opVA S y = some (isI .i64 m, ov) | none => m = c)
    (h1 : l ≤ h') (h2 : h' ≤ m) (h3 : m ≤ c) (had : (if m = l then ad else ad.map (·.add (l * T.sz))) = ad') (hd : Nat.ble (d + 1) e.N = true)
    (h : WO P e Kp arr rest ⟨(d, isV (.slice ad' (h' - l) (m - l)), some (.slice ad' (h' - l) (m - l))) :: S, B⟩ r) :
    WO P e Kp arr (mkOp d (.slice t x lo hi mx) ty pos af :: rest) ⟨S, B⟩ r := by
  obtain ⟨info, zz, hi', hsz, hz, hzs, hby⟩ := he.out
  refine .op rfl rfl (fun a w hk => ?_) h
  have hv := hk.ev hx
  simp only [isV] at hv
  have e1 : (Instr.sliceBounds true n c (lo.map a.eval) (hi.map a.eval) (mx.map a.eval)).run P w = .ok (l, h', m) w := by
    have e2 : ∀ (y : Operand) (q b : Nat) code, (∃ ov, opVA S y = some (isI .i64 (q : Int), ov)) → q ≤ b → (Instr.sliceBound (a.eval y) b code).run P w = .ok q w := by
      intro y q b code ⟨ov, hy⟩ hq
      have := hk.ev hy
      simp only [isI] at this
      simp [Instr.sliceBound, this, asIntOf, hq]
    cases mx with
    | none =>
      simp only at hmx
      subst hmx
      cases hi with
      | none =>
        obtain ⟨hh, -⟩ := hhi
        subst hh
        cases lo with
        | none => simp only at hlo; subst hlo; simp [Instr.sliceBounds]
        | some y => simp [Instr.sliceBounds, e2 y _ _ _ hlo h1]
      | some z =>
        cases lo with
        | none => simp only at hlo; subst hlo; simp [Instr.sliceBounds, e2 z _ _ _ hhi h2]
        | some y => simp [Instr.sliceBounds, e2 z _ _ _ hhi h2, e2 y _ _ _ hlo h1]
    | some q =>
      cases hi with
      | none => simp at hhi
      | some z =>
        cases lo with
        | none => simp only at hlo; subst hlo; simp [Instr.sliceBounds, e2 q _ _ _ hmx h3, e2 z _ _ _ hhi h2]
        | some y => simp [Instr.sliceBounds, e2 q _ _ _ hmx h3, e2 z _ _ _ hhi h2, e2 y _ _ _ hlo h1]
  refine ⟨.slice ad' (h' - l) (m - l), w, ?_, hk.put (Q := (isV _, some _)) (Nat.le_of_ble_eq_true hd) ⟨rfl, fun u hu => by injection hu⟩⟩
  simp only [execOp, Instr.sliceAt, Sem.run_bind, run_underlying hu, Result.andThen_ok, Instr.slice, hv, e1]
  simp [e1, sizeOf, typeInfo, hi', hsz, had]
theorem WO.lenV {ad : Option Addr} {n c : Nat} (hx : opVA S x = some (isV (.slice ad n c), ov)) (hu : P.underlying t = some (.slice el)) (hd : Nat.ble (d + 1) e.N = true)
    (h : WO P e Kp arr rest ⟨(d, isI .i64 n, none) :: S, B⟩ r) : WO P e Kp arr (mkOp d (.call { callee := .builtin .len, args := #[x], argTypes := #[t] }) ty pos af :: rest) ⟨S, B⟩ r := by
  refine .calc hd (fun a w hk => ?_) h
  have hv := hk.ev hx
  simp only [isV] at hv
  simp [execOp, resolve, invoke, builtin, Builtin.len_, hv, run_underlying hu, goInt, isI]
theorem W.arrV (i : Nat) (hB : B[i]? = some (arrO T v xs)) (h : ∀ ad n c, v = .slice ad n c → xs.length = n → n ≤ c → n ≤ LIM → (0 < c → ∃ b o, ad = some ⟨b, o, none⟩) → W P f e R k ⟨S, B⟩ r) : W P f e R k ⟨S, B⟩ r := by
  intro q hq a w hk
  have ho := hk.owns _ (get_mem hB)
  cases v with
  | slice ad n c =>
    cases ad with
    | none => obtain ⟨h1, h2, h3⟩ := ho; subst h1 h2 h3; exact h _ _ _ rfl rfl (Nat.le_refl _) (Nat.zero_le _) (fun h => absurd h (Nat.lt_irrefl 0)) q hq a w hk
    | some ad =>
      obtain ⟨h1, h2, h3, h4⟩ := ho
      refine h _ _ _ rfl h1 h2 h3 (fun hc => ?_) q hq a w hk
      obtain ⟨b, o, sp⟩ := ad
      cases (h4 hc).1
      exact ⟨b, o, rfl⟩
  | _ => exact ho.elim
theorem WO.clip (i : Nat) (hx : opVA S x = some (isV v, ov)) (hy : opVA S y = some (isI .i64 xs.length, ov')) (hz : opVA S z = some (isI .i64 xs.length, ov'')) (hB : B[i]? = some (arrO T v xs)) (hu : P.underlying t = some (.slice el)) (he : ElAt P el T.sz) (hd : Nat.ble (d + 1) e.N = true)
    (h : ∀ v', WO P e Kp arr rest ⟨(d, isV v', some v') :: S, B.set i (arrO T v' xs)⟩ r) :
    WO P e Kp arr (mkOp d (.slice t x none (some y) (some z)) ty pos af :: rest) ⟨S, B⟩ r := by
  intro q hq a w hk
  have ho := hk.owns _ (get_mem hB)
  have hsl : ∃ ad n c, v = .slice ad n c ∧ xs.length = n ∧ n ≤ c := by
    cases v with
    | slice ad n c =>
      cases ad with
      | none => obtain ⟨h1, h2, h3⟩ := ho; subst h1 h2 h3; exact ⟨_, _, _, rfl, rfl, Nat.le_refl _⟩
      | some ad => obtain ⟨h1, h2, h3, h4⟩ := ho; exact ⟨_, _, _, rfl, h1, h2⟩
    | _ => exact ho.elim
  obtain ⟨ad, n, c, rfl, hn, hnc⟩ := hsl
  have had : (if n = 0 then ad else ad.map (·.add (0 * T.sz))) = ad := by
    split
    · rfl
    · cases ad with
      | none => rfl
      | some ad =>
        obtain ⟨h1, h2, h3, h4⟩ := ho
        have := (h4 (by omega)).1
        obtain ⟨b, o, sp⟩ := ad
        cases this
        simp [Addr.add0]
  have h0 := h (.slice ad n n)
  rw [hn] at hy hz
  refine WO.sliceV (T := T) (lo := none) (hi := some y) (mx := some z) (l := 0) (h' := n) (m := n) hx hu he rfl ⟨_, hy⟩ ⟨_, hz⟩ (Nat.zero_le _) (Nat.le_refl _) hnc had hd (fun q hq a w hk => h0 q hq a w ?_) q hq a w hk
  simp only [Nat.sub_zero] at hk
  refine hk.narrow hB (fun b hb => ?_) (fun A w ho => ?_)
  · cases ad with
    | none => cases hb
    | some ad =>
      have h' : (if 0 < n then some ad.block else none) = some b := hb
      split at h'
      · exact ⟨by show (if 0 < c then _ else _) = _; rw [if_pos (by omega)]; exact h', Nat.le_refl _⟩
      · cases h'
  · cases ad with
    | none => obtain ⟨h1, h2, h3⟩ := ho; exact ⟨h1, h1, h3⟩
    | some ad =>
      obtain ⟨h1, h2, h3, h4⟩ := ho
      refine ⟨h1, Nat.le_refl _, h3, fun hc => ?_⟩
      obtain ⟨h5, pre, cs, post, et, h6, h7, h8, h9⟩ := h4 (by omega)
      refine ⟨h5, pre, cs, post, et, h6, h7, h8, ?_⟩
      rw [h8.len, hn]
      exact Nat.le_add_right _ _
theorem Holds.writeArr {i b o n c : Nat} {v' : Value} {xs' : List α} {pre cur new : List Value} {et : TypeId} (hk : Holds e ⟨S, B⟩ a w) (hB : B[i]? = some (arrO T (.slice (some ⟨b, o, none⟩) n c) xs)) (hc : 0 < c)
    (hb : w.heap[b]? = some (.cells (pre ++ cur).toArray et (0, 0))) (hpre : pre.length = o) (hblk : (arrO T v' xs').blk = some b) (hlo : (arrO T v' xs').lo = o)
    (hok : ∀ A, Same (Acur e B w) A w (w.setRow b (pre ++ new).toArray) → (w.setRow b (pre ++ new).toArray).heap[b]? = some (.cells (pre ++ new).toArray et (0, 0)) → (arrO T v' xs').ok A (w.setRow b (pre ++ new).toArray)) :
    Holds e ⟨S, B.set i (arrO T v' xs')⟩ a (w.setRow b (pre ++ new).toArray) := by
  have h10 := setRow_heap w b _ (pre ++ new).toArray et (0, 0) hb
  have hbk : (arrO T (.slice (some ⟨b, o, none⟩) n c) xs).blk = some b := by show (if 0 < c then _ else _) = _; rw [if_pos hc]
  refine Holds.write hk hB (hblk.trans hbk.symm) (hlo.trans rfl) rfl rfl rfl (by simp [World.setRow]) (fun b' hb' => setRow_other _ _ _ _ (fun hh => hb' (by rw [hh]; exact hbk))) (fun b' o' hb' ho => ?_) (fun hs => hok _ hs h10)
  rw [hbk] at hb'
  injection hb' with hb'
  subst hb'
  have ho' : o' < pre.length := by rw [hpre]; exact ho
  have e1 : ([] ++ pre ++ new) = pre ++ new := by simp
  simp [World.cell?, h10, hb, List.getElem?_append_left ho']
theorem WO.appDel (i : Nat) {b o n c i' j c' : Nat} {yad : Option Addr} (hx : opVA S x = some (isV (.slice (some ⟨b, o, none⟩) i' c), ov)) (hy : opVA S y = some (isV (.slice yad (n - j) c'), ov')) (hB : B[i]? = some (arrO T (.slice (some ⟨b, o, none⟩) n c) xs)) (hc : 0 < c)
    (hij : i' ≤ j) (hjn : j ≤ n) (hyad : j < n → yad = some ⟨b, o + j * T.sz, none⟩) (hu : P.underlying t = some (.slice el)) (he : ElAt P el T.sz) (hd : Nat.ble (d + 1) e.N = true)
    (h : WO P e Kp arr rest ⟨(d, isV (.slice (some ⟨b, o, none⟩) (i' + (n - j)) c), some (.slice (some ⟨b, o, none⟩) (i' + (n - j)) c)) :: S, B.set i (arrO T (.slice (some ⟨b, o, none⟩) (i' + (n - j)) c) (xs.take i' ++ xs.drop j))⟩ r) :
    WO P e Kp arr (mkOp d (.call { callee := .builtin .append, args := #[x, y], argTypes := #[t, t] }) ty pos af :: rest) ⟨S, B⟩ r := by
  refine WO.opX rfl rfl fun a w hk => ?_
  obtain ⟨info, zz, hi, hsz, hz, hzs, hby⟩ := he.out
  have hxv := hk.ev hx
  have hyv := hk.ev hy
  simp only [isV] at hxv hyv
  have hdN := Nat.le_of_ble_eq_true hd
  obtain ⟨hn, hnc, hlim, h4⟩ := hk.owns _ (get_mem hB)
  obtain ⟨-, pre, cs, post, et, hb, hpre, hfl, hcur⟩ := h4 hc
  have hpre : pre.length = o := hpre
  have hcl := hfl.len
  rw [hn] at hcl
  have hin : i' * T.sz ≤ n * T.sz := Nat.mul_le_mul_right _ (by omega)
  have hjz : j * T.sz ≤ n * T.sz := Nat.mul_le_mul_right _ hjn
  have hsum : i' * T.sz + (n - j) * T.sz ≤ n * T.sz := by rw [← Nat.add_mul]; exact Nat.mul_le_mul_right _ (by omega)
  have hdl : (cs.drop (j * T.sz)).length = (n - j) * T.sz := by rw [List.length_drop, hcl, Nat.sub_mul]
  have hb2 : w.heap[b]? = some (.cells (pre ++ (cs ++ post)).toArray et (0, 0)) := by rw [← List.append_assoc]; exact hb
  have hbk : (arrO T (.slice (some ⟨b, o, none⟩) (i' + (n - j)) c) (xs.take i' ++ xs.drop j)).blk = some b := by show (if 0 < c then _ else _) = _; rw [if_pos hc]
  have hok : ∀ A, ∀ w' : World, Same (Acur e B w) A w w' → w'.heap[b]? = some (.cells (pre ++ (cs.take (i' * T.sz) ++ cs.drop (j * T.sz) ++ (cs ++ post).drop (i' * T.sz + (n - j) * T.sz))).toArray et (0, 0)) → (arrO T (.slice (some ⟨b, o, none⟩) (i' + (n - j)) c) (xs.take i' ++ xs.drop j)).ok A w' := by
    intro A w' hs hh
    refine ⟨by simp [hn]; omega, by omega, by omega, fun _ => ⟨rfl, pre, cs.take (i' * T.sz) ++ cs.drop (j * T.sz), (cs ++ post).drop (i' * T.sz + (n - j) * T.sz), et, by rw [List.append_assoc]; exact hh, hpre, flat.append ((hfl.drop j).good hs) ((hfl.take i').good hs), ?_⟩⟩
    rw [List.length_append, List.length_take, hdl, List.length_drop, List.length_append, hcl, Nat.min_eq_left hin]
    rw [hcl] at hcur
    omega
  have hrunE : ∀ v' w', (Builtin.append_ #[t, t] ty #[.slice (some ⟨b, o, none⟩) i' c, .slice yad (n - j) c']).run P w = .ok v' w' → (execOp a.eval (mkOp d (.call { callee := .builtin .append, args := #[x, y], argTypes := #[t, t] }) ty pos af)).run P w = .ok (.value v') w' := by
    intro v' w' hr
    simp [execOp, resolve, invoke, builtin, hxv, hyv, hr]
  by_cases hjn' : j < n
  · have hyad' := hyad hjn'
    subst hyad'
    have hnews : ∀ q v, (cs.drop (j * T.sz))[q]? = some v → w.cell? ((⟨b, o + j * T.sz, none⟩ : Addr).add q) = some v := by
      intro q v hq
      have hq' := (List.getElem?_eq_some_iff.1 hq).1
      rw [hdl] at hq'
      have h6 := (cell_mid hb).2 (j * T.sz + q) (by rw [hcl]; have : (n - j) * T.sz = n * T.sz - j * T.sz := Nat.sub_mul ..; omega)
      rw [hpre] at h6
      rw [Addr.add0, Nat.add_assoc]
      rw [h6, ← hq, List.getElem?_drop]
    have hplain : ∀ u ∈ cs.drop (j * T.sz), u.oneCell' = true := fun u hu => plain_one (hfl.plain u (List.mem_of_mem_drop hu))
    have hfit : o + i' * info.size + (cs.drop (j * T.sz)).length ≤ (pre ++ cs ++ post).toArray.size := by rw [hsz, hdl]; simp [hcl, hpre]; omega
    have hrun := run_appIn (P := P) (ty := ty) hu hi b o i' c (n - j) c' ⟨b, o + j * T.sz, none⟩ _ (by rw [hsz, hdl]) hnews hplain (by omega) hb hfit
    have hnew : ((pre ++ cs ++ post).toArray.toList.take (o + i' * info.size) ++ cs.drop (j * T.sz) ++ (pre ++ cs ++ post).toArray.toList.drop (o + i' * info.size + (cs.drop (j * T.sz)).length)) = pre ++ (cs.take (i' * T.sz) ++ cs.drop (j * T.sz) ++ (cs ++ post).drop (i' * T.sz + (n - j) * T.sz)) := by
      rw [hsz, hdl, ← hpre]
      simp only [List.append_assoc]
      rw [List.take_append, List.take_of_length_le (Nat.le_add_right _ _), Nat.add_sub_cancel_left, Nat.add_assoc, List.drop_append, List.drop_eq_nil_of_le (Nat.le_add_right _ _), Nat.add_sub_cancel_left, List.take_append_of_le_length (by omega)]
      simp
    rw [hnew] at hrun
    exact ⟨_, _, _, hrunE _ _ hrun, Holds.put (Holds.writeArr hk hB hc hb2 hpre hbk rfl fun A hs hh => hok A _ hs hh) hdN ⟨rfl, fun u hu => by injection hu⟩, h⟩
  · have hj : j = n := by omega
    subst hj
    have e0 : j - j = 0 := by omega
    rw [e0] at hrunE hok h hbk
    refine ⟨_, w, _, hrunE _ _ (run_app0 hu hi (some ⟨b, o, none⟩) yad i' c c' (by omega)), Holds.put ?_ hdN ⟨rfl, fun u hu => by injection hu⟩, h⟩
    refine hk.narrow hB (fun b' hb' => ?_) (fun A w' ho => ?_)
    · rw [hbk] at hb'
      injection hb' with hb'
      subst hb'
      exact ⟨by show (if 0 < c then _ else _) = _; rw [if_pos hc], Nat.le_refl _⟩
    · obtain ⟨g1, g2, g3, g4⟩ := ho
      obtain ⟨-, pre, cs, post, et, hb, hpre, hfl, hcur⟩ := g4 hc
      have hcl := hfl.len
      rw [g1] at hcl
      refine ⟨by simp [g1]; omega, by omega, by omega, fun _ => ⟨rfl, pre, cs.take (i' * T.sz), cs.drop (i' * T.sz) ++ post, et, by rw [List.append_assoc, ← List.append_assoc (cs.take _), List.take_append_drop]; rw [List.append_assoc] at hb; exact hb, hpre, ?_, ?_⟩⟩
      · rw [List.drop_eq_nil_of_le (Nat.le_of_eq g1), List.append_nil]
        exact hfl.take i'
      · rw [List.length_append, List.length_take, List.length_drop]
        omega
theorem opV' {K : Ctx} {o : Oper} (hg : o.guard = none) (ho : o.dst = none)
    (hrun : ∀ a w, Holds e K a w → ∃ v w' K', (execOp a.eval o).run P w = .ok (.value v) w' ∧ Holds e K' a w' ∧ WO P e Kp arr rest K' r) : WO P e Kp arr (o :: rest) K r := by
  intro x hx a w hk
  obtain ⟨v, w', K', hr, hk', h⟩ := hrun a w hk
  have hw : Region.wanted o (yielded arr a.tmps) = true := by simp [Region.wanted, hg]
  simp only [wpList, hw, if_true]
  left
  simp only [Oper.wp, hr, Oper.upon_value, ho]
  exact h x hx _ _ hk'
theorem WO.clearV (i : Nat) {b o n m c c' : Nat} {d0 : α} (hx : opVA S x = some (isV (.slice (some ⟨b, o + n * T.sz, none⟩) m c'), ov)) (hB : B[i]? = some (arrO T (.slice (some ⟨b, o, none⟩) n c) xs)) (hc : 0 < c) (hm : 0 < m) (hmc : n + m ≤ c) (hu : P.underlying t = some (.slice el)) (he : ElAt P el T.sz) (hz0 : ZeroAt P el T d0 [])
    (h : WO P e Kp arr rest ⟨S, B⟩ r) : WO P e Kp arr (mkOpN (.call { callee := .builtin .clear, args := #[x], argTypes := #[t] }) ty pos af :: rest) ⟨S, B⟩ r := by
  refine opV' rfl rfl fun a w hk => ?_
  obtain ⟨info, zz, hi, hsz, hz, hzs, hby⟩ := he.out
  obtain ⟨zc, hz1, hz2, -⟩ := hz0.h
  have hzz : zc = zz := by simpa [hi, hz] using hz1.symm
  subst hzz
  have hxv := hk.ev hx
  simp only [isV] at hxv
  obtain ⟨hn, hnc, hlim, h4⟩ := hk.owns _ (get_mem hB)
  obtain ⟨-, pre, cs, post, et, hb, hpre, hfl, hcur⟩ := h4 hc
  have hpre : pre.length = o := hpre
  have hcl := hfl.len
  rw [hn] at hcl
  have hb2 : w.heap[b]? = some (.cells (pre ++ (cs ++ post)).toArray et (0, 0)) := by rw [← List.append_assoc]; exact hb
  have hbk : (arrO T (.slice (some ⟨b, o, none⟩) n c) xs).blk = some b := by show (if 0 < c then _ else _) = _; rw [if_pos hc]
  have hzl : (Builtin.zeroCells zc.cells m).toList.length = m * T.sz := by rw [Array.length_toList, size_zeroCells, hzs]
  have hsum : n * T.sz + m * T.sz ≤ c * T.sz := by rw [← Nat.add_mul]; exact Nat.mul_le_mul_right _ hmc
  have hplain : ∀ v ∈ (Builtin.zeroCells zc.cells m).toList, v.oneCell' = true := by
    intro v hv
    simp only [Builtin.zeroCells, Array.toList_map, List.mem_map] at hv
    obtain ⟨j, hj, rfl⟩ := hv
    have hj' : j < m * zc.cells.size := by simpa using hj
    have h0 : 0 < zc.cells.size := by rcases Nat.eq_zero_or_pos zc.cells.size with h | h; · rw [h] at hj'; omega
                                      · exact h
    refine plain_one (T.plain (hz2 (fun _ _ => True) w) _ ?_)
    have h1 : j % zc.cells.size < zc.cells.size := Nat.mod_lt _ h0
    rw [getElem!_pos zc.cells _ h1]
    simp
  have hst := run_storeCells_at P b (o + n * T.sz) et (Builtin.zeroCells zc.cells m).toList 0 (pre ++ cs ++ post).toArray w hb (by rw [hzl]; simp; omega) hplain
  simp only [Nat.add_zero] at hst
  have hnew : (pre ++ cs ++ post).toArray.toList.take (o + n * T.sz) ++ (Builtin.zeroCells zc.cells m).toList ++ (pre ++ cs ++ post).toArray.toList.drop (o + n * T.sz + (Builtin.zeroCells zc.cells m).toList.length) = pre ++ (cs ++ (Builtin.zeroCells zc.cells m).toList ++ post.drop (m * T.sz)) := by
    rw [hzl, ← hpre, ← hcl]
    simp only [List.append_assoc]
    rw [List.take_append, List.take_of_length_le (Nat.le_add_right _ _), Nat.add_sub_cancel_left, List.take_left' rfl, Nat.add_assoc, List.drop_append, List.drop_eq_nil_of_le (Nat.le_add_right _ _), Nat.add_sub_cancel_left, List.drop_append, List.drop_eq_nil_of_le (Nat.le_add_right _ _), Nat.add_sub_cancel_left]
    simp
  rw [hnew] at hst
  refine ⟨.tuple #[], w.setRow b (pre ++ (cs ++ (Builtin.zeroCells zc.cells m).toList ++ post.drop (m * T.sz))).toArray, _, ?_, Holds.writeArr hk hB hc hb2 hpre hbk rfl fun A hs hh => ?_, ?_⟩
  · simp only [execOp, resolve, invoke, builtin, Builtin.clear_]
    have hm0 : ¬ m = 0 := by omega
    obtain ⟨m', rfl⟩ : ∃ m', m = m' + 1 := ⟨m - 1, by omega⟩
    simp [hxv, run_underlying hu, zeroValue, typeInfo, hi, hz, hst]
  · refine ⟨hn, hnc, hlim, fun _ => ⟨rfl, pre, cs, (Builtin.zeroCells zc.cells m).toList ++ post.drop (m * T.sz), et, by rw [hh]; simp only [List.append_assoc], hpre, hfl.good hs, ?_⟩⟩
    rw [List.length_append, hzl, List.length_drop]
    omega
  · have hid : B.set i (arrO T (.slice (some ⟨b, o, none⟩) n c) xs) = B := by
      obtain ⟨h1, h2⟩ := List.getElem?_eq_some_iff.1 hB
      rw [← h2]; simp
    rw [hid]; exact h
end
end Go.HL
namespace Go.HL
open Go.RowKit
def isErr (b : Bool) : VA := ⟨fun v _ _ => match b with | true => ∃ t p, v = .iface t p | false => v = .nilIface, fun _ h => h⟩
theorem ctr_below {ρ : Type} {P : Program} {k : FuncId} {vs : List VA} {y : Option ρ} {Q : ρ → VA}
    (h : ∀ q, y = some q → ∀ A w args, Glob A w → Args A w args vs → Calls P k args.toArray w fun e w' => ∃ v, e = .returned v ∧ Below w.heap.size w w' ∧ ∀ A', (Q q).f v A' w') : Ctr P k vs [] y (fun _ _ => []) Q := by
  intro q hq A w args hp ha
  refine Calls.mono (h q hq A w args hp.gl ha) ?_
  rintro e w' ⟨v, rfl, hb, hv⟩
  refine ⟨v, rfl, ⟨⟨hb.os, hb.tape, hb.output, hb.size, fun b hlt _ => hb.block b hlt, fun b o hlt _ => cell_of_block (hb.block b hlt) o⟩, fun Q hQ => (by cases hQ), fun Q hQ => (by cases hQ), .nil⟩, hv _⟩
section
variable {P : Program} {f : FuncId} {e : Env} {ρ : Type} {R : ρ → Value → World → Prop} {Kp : ρ → Act → World → Prop}
variable {S : List (Nat × Ent)} {B : List Own} {k : List Item} {r : Option ρ} {arr : Array Oper} {rest : List Oper}
variable {d : Nat} {ty t u el : TypeId} {pos : String} {af : Array Edge} {ov ov' : Option Value} {x y : Operand} {b : Bool}
theorem WO.errNe {ms} (hx : opVA S x = some (isErr b, ov)) (hu : P.underlying t = some (.interface ms)) (hd : Nat.ble (d + 1) e.N = true)
    (h : WO P e Kp arr rest ⟨(d, isB b, none) :: S, B⟩ r) : WO P e Kp arr (mkOp d (.binOp .neq t x (.const .nilIface) u) ty pos af :: rest) ⟨S, B⟩ r := by
  refine .calc hd (fun a w hk => ?_) h
  have hv := hk.ev hx
  have hc0 : a.eval (.const .nilIface) = .nilIface := rfl
  refine ⟨.bool b, ?_, rfl⟩
  cases b with
  | true =>
    obtain ⟨tt, p, hv⟩ := hv
    have he : (Op.equal t (.iface tt p) .nilIface).run P w = .ok false w := by
      unfold Op.equal Op.maxDepth
      rw [Op.equalIn]
      simp [run_underlying hu]
    simp [execOp, hv, hc0, eqGuard, binOp, he]
  | false =>
    have hv : a.eval x = .nilIface := hv
    have he : (Op.equal t .nilIface .nilIface).run P w = .ok true w := by
      unfold Op.equal Op.maxDepth
      rw [Op.equalIn]
      simp [run_underlying hu]
    simp [execOp, hv, hc0, eqGuard, binOp, he]
end
end Go.HL
namespace Go.HL
structure KeyAt (P : Program) (kt : TypeId) {κ : Type} [DecidableEq κ] (T : Ty κ) (mk : κ → Value) : Prop where
  val : ∀ {k v A w}, (T.va k).f v A w → v = mk k
  chk : ∀ e k w, (Instr.checkKey e 10000 kt (mk k)).run P w = .ok () w
  eq : ∀ a b w, (Op.equal kt (mk a) (mk b)).run P w = .ok (decide (a = b)) w
  bits : ∀ k, Instr.sameBits 10000 (mk k) (mk k) = true
  now : ∃ d, P.underlying kt = some d ∧ ((∀ a b, Instr.sameNow d (mk a) (mk b) = some (decide (a = b))) ∨ ∀ a b, Instr.sameNow d (mk a) (mk b) = none)
def Ents {κ : Type} (mk : κ → Value) (ks : List κ) (es : List MapEntry) : Prop := es.map (fun e => (e.key, e.val)) = ks.map fun k => (mk k, Value.bool true)
section
variable {P : Program} {κ : Type} [DecidableEq κ] {T : Ty κ} {mk : κ → Value} {kt : TypeId} {w : World}
theorem findAsking_run (h : KeyAt P kt T mk) (k : κ) : ∀ (ks : List κ) (es : List MapEntry) (i : Nat), Ents mk ks es →
    ∃ r, (Instr.findAsking kt (mk k) es i).run P w = .ok r w ∧ ((k ∈ ks ∧ ∃ j, r = some (i + j, .bool true) ∧ ks[j]? = some k) ∨ (k ∉ ks ∧ r = none))
  | [], [], i, _ => ⟨none, by simp [Instr.findAsking], .inr ⟨by simp, rfl⟩⟩
  | [], _ :: _, i, h1 => by simp [Ents] at h1
  | _ :: _, [], i, h1 => by simp [Ents] at h1
  | q :: ks, e :: es, i, h1 => by
    simp only [Ents, List.map_cons, List.cons.injEq, Prod.mk.injEq] at h1
    obtain ⟨⟨h2, h3⟩, h4⟩ := h1
    simp only [Instr.findAsking, Sem.run_bind, h2, h.eq, Result.andThen_ok]
    by_cases hq : k = q
    · subst hq
      exact ⟨some (i, .bool true), by simp [h3], .inl ⟨by simp, 0, rfl, by simp⟩⟩
    · obtain ⟨r, h5, h6⟩ := findAsking_run h k ks es (i + 1) h4
      refine ⟨r, by simp [hq, h5], ?_⟩
      rcases h6 with ⟨h7, j, h8, h9⟩ | ⟨h7, h8⟩
      · exact .inl ⟨by simp [h7], j + 1, by rw [h8]; congr 2; omega, by simpa using h9⟩
      · exact .inr ⟨by simp [hq, h7], h8⟩
theorem findNow_run {d : TypeDesc} (h : ∀ a b, Instr.sameNow d (mk a) (mk b) = some (decide (a = b))) (k : κ) : ∀ (ks : List κ) (es : List MapEntry) (i : Nat), Ents mk ks es →
    ∃ r, Instr.findNow d (mk k) es i = some r ∧ ((k ∈ ks ∧ ∃ j, r = some (i + j, .bool true) ∧ ks[j]? = some k) ∨ (k ∉ ks ∧ r = none))
  | [], [], i, _ => ⟨none, by simp [Instr.findNow], .inr ⟨by simp, rfl⟩⟩
  | [], _ :: _, i, h1 => by simp [Ents] at h1
  | _ :: _, [], i, h1 => by simp [Ents] at h1
  | q :: ks, e :: es, i, h1 => by
    simp only [Ents, List.map_cons, List.cons.injEq, Prod.mk.injEq] at h1
    obtain ⟨⟨h2, h3⟩, h4⟩ := h1
    simp only [Instr.findNow, h2, h]
    by_cases hq : k = q
    · subst hq
      exact ⟨some (i, .bool true), by simp [h3], .inl ⟨by simp, 0, rfl, by simp⟩⟩
    · obtain ⟨r, h5, h6⟩ := findNow_run h k ks es (i + 1) h4
      refine ⟨r, by simp [hq, h5], ?_⟩
      rcases h6 with ⟨h7, j, h8, h9⟩ | ⟨h7, h8⟩
      · exact .inl ⟨by simp [h7], j + 1, by rw [h8]; congr 2; omega, by simpa using h9⟩
      · exact .inr ⟨by simp [hq, h7], h8⟩
theorem findKey_run (h : KeyAt P kt T mk) (k : κ) (ks : List κ) (es : List MapEntry) (he : Ents mk ks es) :
    ∃ r, (Instr.findKey kt (mk k) es).run P w = .ok r w ∧ ((k ∈ ks ∧ ∃ j, r = some (j, .bool true) ∧ ks[j]? = some k) ∨ (k ∉ ks ∧ r = none)) := by
  obtain ⟨d, hd, h1 | h1⟩ := h.now
  · obtain ⟨r, h2, h3⟩ := findNow_run h1 k ks es 0 he
    refine ⟨r, by simp [Instr.findKey, run_underlying hd, h2], ?_⟩
    simpa using h3
  · obtain ⟨r, h2, h3⟩ := findAsking_run (w := w) h k ks es 0 he
    cases es with
    | nil =>
      refine ⟨r, ?_, by simpa using h3⟩
      simp only [Instr.findKey, Sem.run_bind, run_underlying hd, Result.andThen_ok, Instr.findNow]
      simpa [Instr.findAsking] using h2
    | cons e es =>
      refine ⟨r, ?_, by simpa using h3⟩
      cases ks with
      | nil => simp [Ents] at he
      | cons q ks =>
        have h4 := he
        simp only [Ents, List.map_cons, List.cons.injEq, Prod.mk.injEq] at h4
        simp only [Instr.findKey, Sem.run_bind, run_underlying hd, Result.andThen_ok, Instr.findNow, h4.1.1, h1]
        exact h2
def memK {κ : Type} [DecidableEq κ] (q : κ) (ks : List κ) : Bool := decide (q ∈ ks)
def Born (es : List MapEntry) (clock : Nat) : Prop := (es.map (·.born)).Nodup ∧ ∀ e ∈ es, e.born < clock
def mapO (mk : κ → Value) (v : Value) (ks : List κ) : Own where
  blk := match v with | .map r => r | _ => none
  lo := 0
  ok _ w := match v with
    | .map (some r) => ∃ es clock, w.heap[r]? = some (.map es clock) ∧ Ents mk ks es.toList ∧ Born es.toList clock
    | _ => False
  good := by
    intro A A' w w' hs hb h
    cases v <;> try exact h
    rename_i r
    cases r with
    | none => exact h
    | some r =>
      obtain ⟨es, clock, h1, h2⟩ := h
      exact ⟨es, clock, by rw [hb r rfl]; exact h1, h2⟩
end
section
variable {P : Program} {f : FuncId} {e : Env} {ρ : Type} {R : ρ → Value → World → Prop} {Kp : ρ → Act → World → Prop}
variable {S : List (Nat × Ent)} {B : List Own} {k : List Item} {r : Option ρ} {arr : Array Oper} {rest : List Oper}
variable {d : Nat} {ty t u kt el : TypeId} {pos : String} {af : Array Edge} {ov ov' ov'' : Option Value} {x y z : Operand} {v : Value}
variable {κ : Type} [DecidableEq κ] {T : Ty κ} {mk : κ → Value} {ks : List κ} {q : κ}
theorem WO.makeMap (mk : κ → Value) (hd : Nat.ble (d + 1) e.N = true) (h : ∀ v, WO P e Kp arr rest ⟨(d, isV v, some v) :: S, mapO mk v [] :: B⟩ r) :
    WO P e Kp arr (mkOp d (.makeMap t none) ty pos af :: rest) ⟨S, B⟩ r := by
  refine WO.opX rfl rfl fun a w hk => ?_
  have hsz := hk.same.size
  refine ⟨.map (some w.heap.size), w.alloc (.map #[] 0), _, by simp [execOp, Instr.makeMap], ?_, h (.map (some w.heap.size))⟩
  refine (Holds.own hk (O := mapO mk (.map (some w.heap.size)) []) (w' := w.alloc (.map #[] 0)) rfl rfl rfl (by rw [alloc_size]; omega) (fun b hb => alloc_old _ _ _ hb) (fun b hb => by injection hb with hb; subst hb; rw [alloc_size]; omega) (fun hs => ⟨#[], 0, alloc_new _ _, rfl, by simp [Born]⟩)).1.put (Nat.le_of_ble_eq_true hd) ⟨rfl, fun u hu => by injection hu⟩
theorem WO.lookup (i : Nat) (hx : opVA S x = some (isV v, ov)) (hy : opVA S y = some (T.va q, ov')) (hB : B[i]? = some (mapO mk v ks)) (hu : P.underlying t = some (.map kt el)) (hk : KeyAt P kt T mk) (hz : (P.info? el).bind (·.zero) = some (.bool false)) (hd : Nat.ble (d + 1) e.N = true)
    (h : WO P e Kp arr rest ⟨(d, isB (memK q ks), none) :: S, B⟩ r) : WO P e Kp arr (mkOp d (.lookup t x y false) ty pos af :: rest) ⟨S, B⟩ r := by
  refine .calc hd (fun a w hh => ?_) h
  have hv := hh.ev hx
  simp only [isV] at hv
  have hq := hk.val (hh.ev hy)
  have ho := hh.owns _ (get_mem hB)
  refine ⟨_, ?_, rfl⟩
  unfold memK
  cases v with
  | map rr =>
    cases rr with
    | none => exact ho.elim
    | some rr =>
      obtain ⟨es, clock, h1, h2, hbn⟩ := ho
      obtain ⟨res, h3, h4⟩ := findKey_run (w := w) hk q ks es.toList h2
      have hzz : (zeroValue el).run P w = .ok (.bool false) w := by
        cases hi : P.info? el with
        | none => rw [hi] at hz; cases hz
        | some info => rw [hi] at hz; simp only [Option.bind_some] at hz; simp [zeroValue, typeInfo, hi, hz]
      rcases h4 with ⟨h5, j, rfl, -⟩ | ⟨h5, rfl⟩
      · simp [execOp, hv, hq, Instr.lookup, run_underlying hu, MapKept.run_getObj_map h1, hk.chk, h3, h5]
      · simp [execOp, hv, hq, Instr.lookup, run_underlying hu, MapKept.run_getObj_map h1, hk.chk, h3, h5, hzz]
  | _ => exact ho.elim
theorem WO.mapAdd (i : Nat) (hx : opVA S x = some (isV v, ov)) (hy : opVA S y = some (T.va q, ov')) (hB : B[i]? = some (mapO mk v ks)) (hu : P.underlying t = some (.map kt el)) (hk : KeyAt P kt T mk)
    (h : WO P e Kp arr rest ⟨S, B.set i (mapO mk v (cond (memK q ks) ks (ks ++ [q])))⟩ r) : WO P e Kp arr (mkOpN (.mapUpdate t x y (.const (.bool true))) ty pos af :: rest) ⟨S, B⟩ r := by
  refine opS' rfl rfl fun a w hh => ?_
  have hv := hh.ev hx
  simp only [isV] at hv
  have hq := hk.val (hh.ev hy)
  have ho := hh.owns _ (get_mem hB)
  have hc0 : a.eval (.const (.bool true)) = .bool true := rfl
  cases v with
  | map rr =>
    cases rr with
    | none => exact ho.elim
    | some rr =>
      obtain ⟨es, clock, h1, h2, hbn⟩ := ho
      obtain ⟨res, h3, h4⟩ := findKey_run (w := w) hk q ks es.toList h2
      have hw : ∀ es' clock' ks', Ents mk ks' es'.toList → Born es'.toList clock' → Holds e ⟨S, B.set i (mapO mk (.map (some rr)) ks')⟩ a { w with heap := w.heap.setIfInBounds rr (.map es' clock') } := by
        intro es' clock' ks' he hbn'
        obtain ⟨g1, g2⟩ := MapKept.heap_set (o' := .map es' clock') h1
        refine Holds.write hh hB rfl rfl rfl rfl rfl (by simp) (fun b hb => g2 b fun hbb => hb (by rw [hbb]; rfl)) (fun b o hb ho => absurd ho (Nat.not_lt_zero _)) (fun hs => ⟨es', clock', g1, he, hbn'⟩)
      rcases h4 with ⟨h5, j, rfl, h6⟩ | ⟨h5, rfl⟩
      · have hej : ∃ en, es[j]? = some en ∧ en.key = mk q ∧ en.val = .bool true := by
          have h7 : (es.toList.map fun en => (en.key, en.val))[j]? = some (mk q, .bool true) := by rw [show es.toList.map (fun en => (en.key, en.val)) = _ from h2]; simp [h6]
          rw [List.getElem?_map] at h7
          cases h8 : es.toList[j]? with
          | none => rw [h8] at h7; cases h7
          | some en =>
            rw [h8] at h7
            simp only [Option.map_some, Option.some.injEq, Prod.mk.injEq] at h7
            exact ⟨en, by simpa using h8, h7.1, h7.2⟩
        obtain ⟨en, h7, h8, h9⟩ := hej
        refine ⟨{ w with heap := w.heap.setIfInBounds rr (.map (es.modify j fun e => { e with key := mk q, val := .bool true }) clock) }, _, ?_, hw _ _ (cond (memK q ks) ks (ks ++ [q])) ?_ ?_, h⟩
        · simp [execOp, hv, hq, hc0, Instr.mapUpdate, run_underlying hu, MapKept.run_getObj_map h1, hk.chk, h3, h7, h8, Instr.keyThatStays, hk.bits, MapKept.run_setObj_map _ h1]
        · rw [memK, decide_eq_true h5]
          refine (?_ : List.map _ _ = List.map _ _)
          simp only [cond_true]
          rw [← (show es.toList.map _ = _ from h2)]
          apply List.ext_getElem?
          intro p
          simp only [List.getElem?_map, Array.getElem?_toList, Array.getElem?_modify]
          by_cases hp : j = p
          · subst hp
            simp [h7, h8, h9]
          · simp [hp]
        · have e : ((es.modify j fun e => { e with key := mk q, val := .bool true }).toList.map (·.born)) = es.toList.map (·.born) := by
            apply List.ext_getElem?
            intro p
            simp only [List.getElem?_map, Array.getElem?_toList, Array.getElem?_modify]
            by_cases hp : j = p
            · subst hp
              simp [h7]
            · simp [hp]
          refine ⟨by rw [e]; exact hbn.1, fun en hen => ?_⟩
          have h10 : en.born ∈ es.toList.map (·.born) := e ▸ List.mem_map.2 ⟨en, hen, rfl⟩
          obtain ⟨en', h11, h12⟩ := List.mem_map.1 h10
          rw [← h12]; exact hbn.2 en' h11
      · refine ⟨{ w with heap := w.heap.setIfInBounds rr (.map (es.push { key := mk q, val := .bool true, born := clock }) (clock + 1)) }, _, ?_, hw _ _ (cond (memK q ks) ks (ks ++ [q])) ?_ ?_, h⟩
        · simp [execOp, hv, hq, hc0, Instr.mapUpdate, run_underlying hu, MapKept.run_getObj_map h1, hk.chk, h3, MapKept.run_setObj_map _ h1]
        · rw [memK, decide_eq_false h5]
          show Ents mk (ks ++ [q]) _
          have h2' : es.toList.map (fun en => (en.key, en.val)) = _ := h2
          simp [Ents, h2']
        · refine ⟨?_, fun en hen => ?_⟩
          · simp only [Array.toList_push, List.map_append, List.map_cons, List.map_nil]
            refine List.nodup_append.2 ⟨hbn.1, by simp, fun a ha b hb => ?_⟩
            obtain ⟨en, h6, rfl⟩ := List.mem_map.1 ha
            simp only [List.mem_singleton] at hb
            have := hbn.2 en h6
            omega
          · simp only [Array.toList_push] at hen
            rcases List.mem_append.1 hen with hen | hen
            · have := hbn.2 en hen; omega
            · simp only [List.mem_singleton] at hen
              subst hen; exact Nat.lt_succ_self _
  | _ => exact ho.elim
end
end Go.HL
namespace Go.HL
def tRaw : Ty Value where
  sz := 1
  agg := false
  rel u cs _ _ := cs = [u] ∧ plainV u = true
  va u := ⟨fun v _ _ => v = u ∧ plainV u = true, fun _ h => h⟩
  len h := by obtain ⟨rfl, -⟩ := h; rfl
  plain h := by obtain ⟨rfl, h⟩ := h; simp [h]
  good _ h := h
  iff := ⟨fun h => ⟨[_], rfl, by rw [h.1], h.2⟩, fun ⟨_, h, k⟩ => by obtain ⟨rfl, k⟩ := k; exact ⟨h, k⟩⟩
  one _ := rfl
def tLk {α : Type} (T : Ty α) : Ty (Value × List α) where
  sz := 1
  agg := false
  rel p cs A w := cs = [p.1] ∧ slRel T p.2 p.1 A w
  va p := ⟨fun v A w => v = p.1 ∧ slRel T p.2 p.1 A w, fun h k => ⟨k.1, k.2.good h⟩⟩
  len h := by obtain ⟨rfl, -⟩ := h; rfl
  plain h := by obtain ⟨rfl, _, _, _, _, hv, _⟩ := h; simp [hv, plainV]
  good h k := ⟨k.1, k.2.good h⟩
  iff := ⟨fun h => ⟨[_], rfl, by rw [h.1], h.2⟩, fun ⟨_, h, k⟩ => by obtain ⟨rfl, k⟩ := k; exact ⟨h, k⟩⟩
  one _ := rfl
inductive FillG (e : Env) (S : List (Nat × Ent)) (B : List Own) {α : Type} (T : Ty α) (pl : Nat → Option (Nat × Nat)) : α → List (Nat × Operand) → α → Prop
  | nil {d} : FillG e S B T pl d [] d
  | cons {β : Type} {U : Ty β} {d d' : α} {i off : Nat} {x : Operand} {g : α → β} {st : α → β → α} {q : β} {rest : List (Nat × Operand)} :
      Fld T off U g st → pl i = some (off, U.sz) → (∀ a w, Holds e ⟨S, B⟩ a w → (U.va q).f (a.eval x) (Acur e B w) w) → FillG e S B T pl (st d q) rest d' → FillG e S B T pl d ((i, x) :: rest) d'
section
variable {P : Program} {f : FuncId} {e : Env} {ρ σ ν : Type} {R : ρ → Value → World → Prop} {Kp : ρ → Act → World → Prop}
variable {S : List (Nat × Ent)} {B : List Own} {a : Act} {w : World}
variable {k : List Item} {r r' : Option ρ} {arr : Array Oper} {rest l : List Oper}
variable {d : Nat} {ty t u el : TypeId} {pos : String} {af : Array Edge} {ov ov' ov'' : Option Value}
variable {x y z : Operand} {α β γ : Type} {T : Ty α} {U : Ty β} {v : Value} {xs ys : List α}
theorem vOf {q : β} (hx : opVA S x = some (U.va q, ov)) : ∀ a w, Holds e ⟨S, B⟩ a w → (U.va q).f (a.eval x) (Acur e B w) w := fun a w hk => hk.ev hx
theorem kOf (hx : opVA S x = some ((tL T).va xs, some v)) : ∀ a w, Holds e ⟨S, B⟩ a w → ((tLk T).va (v, xs)).f (a.eval x) (Acur e B w) w := fun a w hk => by
  have h := hk.ev' (K := ⟨S, B⟩) hx
  have h2 := h.2 v rfl
  refine ⟨h2, ?_⟩
  have h1 := h.1
  rw [h2] at h1
  exact h1
theorem arr_plain {i : Nat} (hB : B[i]? = some (arrO T v xs)) (hk : Holds e ⟨S, B⟩ a w) : plainV v = true := by
  have ho := hk.owns _ (get_mem hB)
  cases v with
  | slice ad n c => rfl
  | _ => exact ho.elim
theorem FillG.run (hk : Holds e ⟨S, B⟩ a w) {pl : Nat → Option (Nat × Nat)} {d0 d1 : α} {parts : List (Nat × Operand)} (h : FillG e S B T pl d0 parts d1) : ∀ {cs : List Value}, T.rel d0 cs (Acur e B w) w →
    ∃ cs', Instr.fill pl cs.toArray (parts.map fun (i, x) => (i, a.eval x)) = some cs'.toArray ∧ T.rel d1 cs' (Acur e B w) w := by
  induction h with
  | nil => intro cs hr; exact ⟨cs, rfl, hr⟩
  | @cons β U d d' i off x g st q rest hf hp hx _ ih =>
    intro cs hr
    obtain ⟨c, h1, h2⟩ := U.iff.1 (hx a w hk)
    have hcells := U.cells h2
    have hlen := U.len h2
    have hTl := T.len hr
    have hle := hf.le
    obtain ⟨cs', h3, h4⟩ := ih (hf.set hr h2)
    refine ⟨cs', ?_, h4⟩
    simp only [List.map_cons]
    rw [h1, fill_one (off := off) (by rw [hcells, hp]; simp [hlen]) (by rw [hcells]; simp; omega), hcells]
    rw [← h3]
    simp [hlen]
theorem WO.buildA {pls : List (Nat × Nat)} {parts : Array (Nat × Operand)} {d0 d1 : α} (hT : T.agg = true) (hst : StAt P t pls) (hz : ZeroAt P t T d0 []) (hp : FillG e S B T (pls.toArray[·]?) d0 parts.toList d1) (hd : Nat.ble (d + 1) e.N = true)
    (h : WO P e Kp arr rest ⟨(d, T.va d1, none) :: S, B⟩ r) : WO P e Kp arr (mkOp d (.build t parts) ty pos af :: rest) ⟨S, B⟩ r := by
  refine .calc hd (fun a w hk => ?_) h
  obtain ⟨c, hz1, hz2, -⟩ := hz.h
  obtain ⟨cs', h1, h2⟩ := hp.run hk (hz2 _ _)
  have hb : P.built t ((parts.map fun (i, x) => (i, a.eval x)).toList) = some cs'.toArray := by
    have hs := hst.h
    unfold Program.built
    cases hi : P.info? t with
    | none => simp [hi] at hz1
    | some it =>
      simp only [hi, Option.bind_some] at hz1
      cases hu : P.underlying t with
      | none => simp [hu] at hs
      | some dd =>
        cases dd <;> simp only [hu, Option.bind_some] at hs <;> first | cases hs | skip
        simp only [hz1, hs]
        rw [← h1]
        simp
  refine ⟨wrap true cs', ?_, T.iff.2 ⟨cs', by rw [hT], h2⟩⟩
  simp only [execOp, Sem.run_bind, run_build w t _ _ hb, Result.andThen_ok]
  rfl
theorem Holds.turn {Q Q' : Ent} {t : Nat} (hk : Holds e ⟨S, B⟩ a w) (ht : look S t = some Q) (h : ∀ v, Q.holds v (Acur e B w) w → Q'.holds v (Acur e B w) w) : Holds e ⟨(t, Q') :: S, B⟩ a w := by
  refine { hk with slots := fun t' Q1 ht' => ?_ }
  simp only [look] at ht'
  cases hb : Nat.beq t t' with
  | false => rw [hb] at ht'; exact hk.slots t' Q1 ht'
  | true =>
    rw [hb] at ht'
    injection ht' with ht'
    subst ht'
    have := Nat.eq_of_beq_eq_true hb
    subst this
    exact h _ (hk.slots t Q ht)
theorem WO.toRaw (i t : Nat) (ht : look S t = some (isV v, ov)) (hB : B[i]? = some (arrO T v xs)) (h : WO P e Kp arr l ⟨(t, tRaw.va v, none) :: S, B⟩ r) : WO P e Kp arr l ⟨S, B⟩ r :=
  fun q hq a w hk => h q hq a w (hk.turn ht fun u hu => ⟨⟨hu.1, arr_plain hB hk⟩, fun _ h => by cases h⟩)
theorem WO.toK (t : Nat) (ht : look S t = some ((tL T).va xs, some v)) (h : WO P e Kp arr l ⟨(t, (tLk T).va (v, xs), none) :: S, B⟩ r) : WO P e Kp arr l ⟨S, B⟩ r :=
  fun q hq a w hk => h q hq a w (hk.turn ht fun u hu => by
    have := hu.2 v rfl
    subst this
    exact ⟨⟨rfl, hu.1⟩, fun _ h => by cases h⟩)
theorem WO.loadR (i : Nat) {b off : Nat} {d0 : α} {g : α → Value} {st : α → Value → α} (hf : Fld T off tRaw g st) (hx : opVA S x = some (isP b off, ov)) {kn : List (Nat × Value)} (hB : B[i]? = some (boxO b T d0 kn)) (ht : TyAt P t 1 false) (hd : Nat.ble (d + 1) e.N = true)
    (h : WO P e Kp arr rest ⟨(d, isV (g d0), none) :: S, B⟩ r) : WO P e Kp arr (mkOp d (.load t x) ty pos af :: rest) ⟨S, B⟩ r :=
  .loadP i hf hx hB ht hd fun q hq a w hk => h q hq a w (hk.swap (K := ⟨S, B⟩) fun A w v hv => ⟨hv.1.1, fun _ h => by cases h⟩)
theorem WO.loadK (i : Nat) {b off : Nat} {d0 : α} {g : α → Value × List β} {st : α → Value × List β → α} (hf : Fld T off (tLk U) g st) (hx : opVA S x = some (isP b off, ov)) {kn : List (Nat × Value)} (hB : B[i]? = some (boxO b T d0 kn)) (ht : TyAt P t 1 false) (hd : Nat.ble (d + 1) e.N = true)
    (h : WO P e Kp arr rest ⟨(d, (tL U).va (g d0).2, none) :: S, B⟩ r) : WO P e Kp arr (mkOp d (.load t x) ty pos af :: rest) ⟨S, B⟩ r :=
  .loadP i hf hx hB ht hd fun q hq a w hk => h q hq a w (hk.swap (K := ⟨S, B⟩) fun A w v hv => ⟨by rw [hv.1.1]; exact hv.1.2, fun _ h => by cases h⟩)
theorem WO.loadKV (i : Nat) {b off : Nat} {d0 : α} {g : α → Value × List β} {st : α → Value × List β → α} (hf : Fld T off (tLk U) g st) (hx : opVA S x = some (isP b off, ov)) {kn : List (Nat × Value)} (hB : B[i]? = some (boxO b T d0 kn)) (ht : TyAt P t 1 false) (hd : Nat.ble (d + 1) e.N = true)
    (h : WO P e Kp arr rest ⟨(d, (tL U).va (g d0).2, some (g d0).1) :: S, B⟩ r) : WO P e Kp arr (mkOp d (.load t x) ty pos af :: rest) ⟨S, B⟩ r :=
  .loadP i hf hx hB ht hd fun q hq a w hk => h q hq a w (hk.swap (K := ⟨S, B⟩) fun A w v hv => ⟨by rw [hv.1.1]; exact hv.1.2, fun u hu => by injection hu with hu; rw [← hu]; exact hv.1.1⟩)
theorem WO.callS (i : Nat) {Ow : Own} {g : FuncId} {xs : Array Operand} {tys : Array TypeId} {vs : List VA} {y : Option σ} {rv : Value → ν} {O' : σ → ν → Own} {Q : σ → ν → VA} {r : σ → Option ρ}
    (hf : CtrL P g vs [Ow] y rv (fun q p => [O' q p]) Q) (hB : B[i]? = some Ow) (hfn : ∃ fn c, P.funcs[g]? = some fn ∧ (fn.name == "runtime.NumGoroutine") = false ∧ fn.body = some c) (hx : opVAs S xs.toList = some vs) (hd : Nat.ble (d + 1) e.N = true)
    (h : ∀ q p, WO P e Kp arr rest ⟨(d, Q q p, none) :: S, B.set i (O' q p)⟩ (r q)) :
    WO P e Kp arr (mkOp d (.call { callee := .value (.func g), args := xs, argTypes := tys }) ty pos af :: rest) ⟨S, B⟩ (y.bind r) :=
  .callL1 i hf hB hfn hx hd fun q p => .perm (perm_set hB) (h q p)
theorem WO.unRaw (t : Nat) (ht : look S t = some (tRaw.va v, ov)) (h : WO P e Kp arr l ⟨(t, isV v, some v) :: S, B⟩ r) : WO P e Kp arr l ⟨S, B⟩ r :=
  fun q hq a w hk => h q hq a w (hk.turn ht fun u hu => ⟨hu.1.1, fun u' h => by injection h with h; rw [← h]; exact hu.1.1⟩)
theorem W.toRaw (i t : Nat) (ht : look S t = some (isV v, ov)) (hB : B[i]? = some (arrO T v xs)) (h : W P f e R k ⟨(t, tRaw.va v, none) :: S, B⟩ r) : W P f e R k ⟨S, B⟩ r :=
  fun q hq a w hk => h q hq a w (hk.turn ht fun u hu => ⟨⟨hu.1, arr_plain hB hk⟩, fun _ h => by cases h⟩)
theorem WO.bindE2 {m : Option σ} {y : σ} {K : Ctx} {K' : σ → ν → Ctx} (hm : m = some y) (hrule : ∀ r : σ → Option ρ, (∀ y p, WO P e Kp arr [] (K' y p) (r y)) → WO P e Kp arr l K (m.bind r)) (h : ∀ p, WO P e Kp arr [] (K' y p) r) : WO P e Kp arr l K r := by
  subst hm
  intro x hx
  have h2 := fun z => hrule (fun y' => by classical exact if y' = y then z else none)
  refine h2 r (fun y' p => ?_) x (by simpa using hx)
  by_cases hy : y' = y
  · subst hy; simpa using h p
  · simp [hy]; exact .stop
theorem CtrL.plain {g : FuncId} {vs : List VA} {O : List Own} {y : Option (List α)} (hf : CtrL P g vs O y (fun v => v) (fun q v => [arrO T v q]) (fun _ v => tRaw.va v)) : Ctr P g vs O y (fun _ _ => []) (fun q => (tL T).va q) := by
  intro q hq A w args hp ha
  refine Calls.mono (hf q hq A w args hp ha) ?_
  rintro en w' ⟨v, rfl, hpo, -⟩
  have hok := hpo.ok _ List.mem_cons_self
  have hfr := hpo.fresh _ List.mem_cons_self
  have hs : Same (Anew A w O w' [arrO T v q]) (Anew A w O w' []) w' w' := fun b o ⟨h1, h2, _⟩ => ⟨⟨h1, h2, fun Q hQ => by cases hQ⟩, rfl⟩
  refine ⟨v, rfl, ⟨hpo.same, fun Q hQ => (by cases hQ), fun Q hQ => (by cases hQ), .nil⟩, ?_⟩
  show slRel T q v _ _
  cases v with
  | slice ad n c =>
    cases ad with
    | none => obtain ⟨h1, h2, h3⟩ := hok; subst h1 h2 h3; exact slRel_nil T _ _
    | some ad =>
      obtain ⟨h1, h2, h3, h4⟩ := hok
      by_cases hn : 0 < n
      · obtain ⟨h5, pre, cs, post, et, h6, h7, h8, h9⟩ := h4 (by omega)
        obtain ⟨b, off, sp⟩ := ad
        cases h5
        refine ⟨_, n, c, cs, rfl, h1, h2, h3, h8.good hs, fun _ => ⟨b, off, rfl, fun j hj => ⟨⟨?_, ?_, fun Q hQ => by cases hQ⟩, ?_⟩⟩⟩
        · have := hfr b (by show (if 0 < c then _ else _) = _; rw [if_pos (by omega)])
          rcases this.2 with g | g
          · exact .inr (.inl g)
          · exact .inr (.inr (g _ (by show off ≤ off + j; omega)))
        · exact (hfr b (by show (if 0 < c then _ else _) = _; rw [if_pos (by omega)])).1
        · have := (cell_mid h6).2 j hj
          rw [h7] at this
          rw [this, List.getElem?_eq_getElem hj]
      · have hn0 : n = 0 := by omega
        subst hn0
        have : q = [] := List.eq_nil_of_length_eq_zero h1
        subst this
        exact ⟨_, 0, c, [], rfl, rfl, h2, h3, rfl, fun h => by omega⟩
  | _ => exact hok.elim
structure Conv {α β γ : Type} (T : Ty α) (d : α) (Tr : Ty β) (v : Value) (xs : List β) (T' : Ty γ) (d' : γ) : Prop where
  agg : T.agg = T'.agg
  h : ∀ {cs A w}, T.rel d cs A w → slRel Tr xs v A w → T'.rel d' cs A w
variable {Tr : Ty β} {T' : Ty γ} {d0 : α} {d0' : γ} {rs : List β}
theorem Holds.frzA {j : Nat} (h : Holds e ⟨S, B⟩ a w) (hB : B[j]? = some (arrO Tr v rs)) : Holds e ⟨S, B.set j (appO Tr.sz v)⟩ a w ∧ slRel Tr rs v (Acur e (B.set j (appO Tr.sz v)) w) w := by
  have h1 := (h.permute (perm_erase hB)).freeze
  exact ⟨h1.1.permute (perm_set hB), h1.2.good fun b o ⟨g1, g2, g3⟩ => ⟨⟨g1, g2, fun O hO => g3 O ((perm_set hB).mem_iff.2 hO)⟩, rfl⟩⟩
theorem Holds.recast {i : Nat} {O O' : Own} (h : Holds e ⟨S, B⟩ a w) (hB : B[i]? = some O) (hb : O'.blk = O.blk) (hl : O'.lo = O.lo) (hok : O.ok (Acur e B w) w → O'.ok (Acur e B w) w) : Holds e ⟨S, B.set i O'⟩ a w := by
  have hp := h.permute (perm_erase hB)
  have hf : ∀ b o, O'.foot b o ↔ O.foot b o := fun b o => by unfold Own.foot; rw [hb, hl]
  have hs0 : Same (Acur e B w) (Acur e (O' :: B.eraseIdx i) w) w w := fun b o ⟨g1, g2, g3⟩ => ⟨⟨g1, g2, fun Q hQ => by
    rcases List.mem_cons.1 hQ with rfl | hQ
    · exact fun hh => g3 O (get_mem hB) ((hf b o).1 hh)
    · exact g3 Q (List.mem_of_mem_eraseIdx hQ)⟩, rfl⟩
  have hap := List.pairwise_cons.1 hp.apart
  refine Holds.permute (B := O' :: B.eraseIdx i) { size := h.size, defers := h.defers, old := h.old, gl := h.gl, same := h.same, slots := fun t Q ht => (h.slots t Q ht).good hs0, owns := fun Q hQ => ?_, fresh := fun Q hQ b hbb => ?_, apart := ?_ } (perm_set hB)
  · rcases List.mem_cons.1 hQ with rfl | hQ
    · exact Own.good _ hs0 (fun _ _ => rfl) (hok (h.owns O (get_mem hB)))
    · exact Q.good hs0 (fun _ _ => rfl) (h.owns Q (List.mem_of_mem_eraseIdx hQ))
  · rcases List.mem_cons.1 hQ with rfl | hQ
    · rw [hb] at hbb; rw [hl]; exact h.fresh O (get_mem hB) b hbb
    · exact h.fresh Q (List.mem_of_mem_eraseIdx hQ) b hbb
  · exact List.pairwise_cons.2 ⟨fun Q hQ b hbb => hap.1 Q hQ b (hb ▸ hbb), hap.2⟩
theorem WO.frzT (t j : Nat) (hc : Conv T d0 Tr v rs T' d0') (ht : look S t = some (T.va d0, ov)) (hB : B[j]? = some (arrO Tr v rs)) (h : WO P e Kp arr l ⟨(t, T'.va d0', none) :: S, B.set j (appO Tr.sz v)⟩ r) : WO P e Kp arr l ⟨S, B⟩ r := fun q hq a w hk => by
  obtain ⟨h1, h2⟩ := hk.frzA hB
  refine h q hq a w (h1.turn ht fun u hu => ⟨?_, fun _ h => by cases h⟩)
  obtain ⟨cs, h3, h4⟩ := T.iff.1 hu.1
  exact T'.iff.2 ⟨cs, by rw [← hc.agg]; exact h3, hc.h h4 h2⟩
end
end Go.HL
namespace Go.HL
section
variable {P : Program} {f : FuncId} {e : Env} {ρ σ ν : Type} {R : ρ → Value → World → Prop} {Kp : ρ → Act → World → Prop}
variable {S : List (Nat × Ent)} {B B' : List Own} {a : Act} {w : World} {k : List Item} {r : Option ρ} {arr : Array Oper} {l : List Oper}
def pickB : List Own → List Nat → Option (List Own)
  | _, [] => some []
  | B, i :: is => match B[i]? with
    | some O => match pickB (B.eraseIdx i) is with
      | some l => some (O :: l)
      | none => none
    | none => none
theorem Holds.pick_aux : ∀ {is : List Nat} {B B' pre : List Own}, pickB B is = some B' → Holds e ⟨S, pre ++ B⟩ a w → Holds e ⟨S, pre ++ B'⟩ a w
  | [], B, B', pre, h, hk => by injection h with h; subst h; exact hk.perm (List.Sublist.append_left (List.nil_sublist _) pre)
  | i :: is, B, B', pre, h, hk => by
    simp only [pickB] at h
    cases hB : B[i]? with
    | none => rw [hB] at h; cases h
    | some O =>
      rw [hB] at h
      cases hp : pickB (B.eraseIdx i) is with
      | none => simp only [hp] at h; cases h
      | some m =>
        simp only [hp] at h
        injection h with h
        subst h
        have h1 := hk.permute ((perm_erase hB).append_left pre)
        rw [show pre ++ O :: B.eraseIdx i = (pre ++ [O]) ++ B.eraseIdx i by simp] at h1
        have h2 := Holds.pick_aux hp h1
        rwa [show (pre ++ [O]) ++ m = pre ++ O :: m by simp] at h2
theorem Holds.pick {is : List Nat} (h : Holds e ⟨S, B⟩ a w) (hp : pickB B is = some B') : Holds e ⟨S, B'⟩ a w := Holds.pick_aux (pre := []) hp h
theorem W.pick (is : List Nat) (hp : pickB B is = some B') (h : W P f e R k ⟨S, B'⟩ r) : W P f e R k ⟨S, B⟩ r := fun x hx a w hk => h x hx a w (hk.pick hp)
theorem WO.pick (is : List Nat) (hp : pickB B is = some B') (h : WO P e Kp arr l ⟨S, B'⟩ r) : WO P e Kp arr l ⟨S, B⟩ r := fun x hx a w hk => h x hx a w (hk.pick hp)
variable {K0 : Ctx} {c : Code} {σ1 σ2 σ3 σ4 σ5 σ6 σ7 σ8 : Type}
theorem W.join5 (K : σ1 → σ2 → σ3 → σ4 → σ5 → Ctx) (F : σ1 → σ2 → σ3 → σ4 → σ5 → Option ρ) (hJ : ∀ s t u v x, W P f e R k (K s t u v x) (F s t u v x)) (h : (∀ s t u v x, W P f e R k (K s t u v x) (F s t u v x)) → W P f e R (.code c :: k) K0 r) : W P f e R (.code c :: k) K0 r := h hJ
end
end Go.HL
namespace Go.HL
section
variable {P : Program} {f : FuncId} {e : Env} {ρ σ ν : Type} {R : ρ → Value → World → Prop} {Kp : ρ → Act → World → Prop}
variable {S : List (Nat × Ent)} {B : List Own} {a : Act} {w : World}
variable {k : List Item} {r r' : Option ρ} {arr : Array Oper} {rest l : List Oper}
variable {d : Nat} {ty t u el : TypeId} {pos : String} {af : Array Edge} {ov ov' ov'' : Option Value}
variable {x y z : Operand} {α β γ : Type} {T : Ty α} {U : Ty β} {v : Value} {xs ys : List α}
theorem flat_replicate {A : Ar} {d0 : α} {c : List Value} (h : T.rel d0 c A w) : ∀ n, flat T (List.replicate n d0) (List.replicate n c).flatten A w
  | 0 => rfl
  | n + 1 => ⟨c, (List.replicate n c).flatten, by simp [List.replicate_succ], h, flat_replicate h n⟩
theorem made_flat (z : Array Value) : ∀ n, (madeCells z (n * z.size)).toList = (List.replicate n z.toList).flatten := by
  intro n
  by_cases h0 : z.size = 0
  · have : z = #[] := Array.eq_empty_of_size_eq_zero h0
    subst this
    have e : (List.replicate n ([] : List Value)).flatten = [] := by simp
    rw [show (#[] : Array Value).toList = [] from rfl, e]
    simp [madeCells]
  induction n with
  | zero => simp [madeCells]
  | succ n ih =>
    rw [List.replicate_succ', List.flatten_append, ← ih]
    simp only [List.flatten_cons, List.flatten_nil, List.append_nil]
    apply List.ext_getElem
    · simp [madeCells, Nat.succ_mul]
    · intro j h1 h2
      have hs : 0 < z.size := Nat.pos_of_ne_zero h0
      by_cases hj : j < n * z.size
      · rw [List.getElem_append_left (by simpa [madeCells] using hj)]
        simp [madeCells]
      · rw [List.getElem_append_right (by simpa [madeCells] using Nat.le_of_not_lt hj)]
        have h3 : j < (n + 1) * z.size := by simpa [madeCells] using h1
        rw [Nat.succ_mul] at h3
        have h4 : j % z.size = j - n * z.size := by
          rw [show j = (j - n * z.size) + n * z.size by omega, Nat.add_mul_mod_self_right, Nat.mod_eq_of_lt (by omega)]
          omega
        simp only [madeCells, Array.toList_map, List.getElem_map, Array.getElem_toList, Array.getElem_range, h4]
        have h5 : j - (List.map (fun x => z[x % z.size]!) (Array.range (n * z.size)).toList).length = j - n * z.size := by simp
        rw [getElem!_pos z _ (by omega)]
        congr 1
        simp
theorem WO.makeSlice {n : Int} {d0 : α} (hx : opVA S x = some (isI .i64 n, ov)) (hy : opVA S y = some (isI .i64 n, ov')) (hu : P.underlying t = some (.slice el)) (he : ElAt P el T.sz) (hz0 : ZeroAt P el T d0 []) (hd : Nat.ble (d + 1) e.N = true)
    (h : ∀ v, WO P e Kp arr rest ⟨(d, isV v, some v) :: S, arrO T v (List.replicate n.toNat d0) :: B⟩ r) :
    WO P e Kp arr (mkOp d (.makeSlice t x y) ty pos af :: rest) ⟨S, B⟩ (cond (decide (0 ≤ n) && decide (n ≤ CAP)) r none) := by
  intro q hq
  by_cases hc : 0 ≤ n ∧ n ≤ CAP
  case neg =>
    have : (decide (0 ≤ n) && decide (n ≤ (CAP : Int))) = false := by
      simp only [Bool.and_eq_false_iff, decide_eq_false_iff_not]; omega
    simp [this] at hq
  obtain ⟨hc1, hc2⟩ := hc
  simp only [hc1, hc2, decide_true, Bool.and_self, cond_true] at hq
  rw [CAP_eq] at hc2
  refine WO.opX rfl rfl (fun a w hk => ?_) q hq
  obtain ⟨info, zz, hi, hsz, hz, hzs, hby⟩ := he.out
  obtain ⟨zc, hz1, hz2, -⟩ := hz0.h
  have hzz : zc = zz := by simpa [hi, hz] using hz1.symm
  subst hzz
  have hxv := hk.ev hx
  have hyv := hk.ev hy
  simp only [isI] at hxv hyv
  have hL := LIM_eq
  have hbytes : (info.bytes : Int) * n ≤ 281474976710656 := by
    have h1 : (info.bytes : Int) * n ≤ 16384 * n := Int.mul_le_mul_of_nonneg_right (by omega) hc1
    have h2 : (16384 : Int) * n ≤ 16384 * 4294967296 := Int.mul_le_mul_of_nonneg_left (by omega) (by omega)
    omega
  have hrun := run_make (P := P) w t el info zc hu hi hz .i64 .i64 n n hc1 (Int.le_refl _) hbytes (by omega)
  have hcells : (madeCells zc.cells (n.toNat * info.size)).toList = (List.replicate n.toNat zc.cells.toList).flatten := by
    rw [hsz, ← hzs]; exact made_flat _ _
  refine ⟨.slice (some ⟨w.heap.size, 0, none⟩) n.toNat n.toNat, w.alloc (.cells (madeCells zc.cells (n.toNat * info.size)) el), _, ?_, ?_, h (.slice (some ⟨w.heap.size, 0, none⟩) n.toNat n.toNat)⟩
  · simp [execOp, hxv, hyv, hrun]
  · have hsz0 := hk.same.size
    refine (Holds.own hk (O := arrO T (.slice (some ⟨w.heap.size, 0, none⟩) n.toNat n.toNat) (List.replicate n.toNat d0)) (w' := w.alloc (.cells (madeCells zc.cells (n.toNat * info.size)) el)) rfl rfl rfl (by rw [alloc_size]; omega) (fun b hb => alloc_old _ _ _ hb) (fun b hb => ?_) (fun hs => ?_)).1.put (Nat.le_of_ble_eq_true hd) ⟨rfl, fun u hu => by injection hu⟩
    · have h' : (if 0 < n.toNat then some w.heap.size else none) = some b := hb
      split at h'
      · injection h' with h'
        rw [alloc_size]; omega
      · cases h'
    · have hfl := flat_replicate (T := T) (hz2 (Acur e B w) w) n.toNat
      refine ⟨by simp, Nat.le_refl _, by omega, fun _ => ⟨rfl, [], _, [], el, ?_, rfl, hfl.good hs, ?_⟩⟩
      · rw [alloc_new, ← hcells]; simp
      · have := hfl.len
        simp only [List.length_replicate] at this
        rw [this]
        exact Nat.le_add_right _ _
variable {Tr : Ty β} {T' : Ty γ} {d0 : α} {d0' : γ} {rs : List β}
end
end Go.HL
namespace Go.HL
section
variable {P : Program} {f : FuncId} {e : Env} {ρ σ ν : Type} {R : ρ → Value → World → Prop} {Kp : ρ → Act → World → Prop}
variable {S : List (Nat × Ent)} {B : List Own} {a : Act} {w : World}
variable {k : List Item} {r r' : Option ρ} {arr : Array Oper} {rest l : List Oper}
variable {d : Nat} {ty t u el : TypeId} {pos : String} {af : Array Edge} {ov ov' ov'' : Option Value}
variable {x y z : Operand} {α β γ : Type} {T : Ty α} {U : Ty β} {v : Value} {xs ys : List α}
def isE : VA := ⟨fun v _ _ => ∃ ad, v = .slice ad 0 0, fun _ h => h⟩
theorem Holds.unshadow {Q X Q0 : Ent} {t : Nat} {B' : List Own} (hk : Holds e ⟨(d, Q) :: (t, X) :: S, B'⟩ a w) (ht : look S t = some Q0) (h : ∀ u A w, X.holds u A w → Q0.holds u A w) : Holds e ⟨(d, Q) :: S, B'⟩ a w := by
  refine { hk with slots := fun t' Q1 ht' => ?_ }
  simp only [look] at ht'
  cases hb : Nat.beq d t' with
  | true => rw [hb] at ht'; exact hk.slots t' Q1 (by simp only [look, hb]; exact ht')
  | false =>
    rw [hb] at ht'
    cases hb2 : Nat.beq t t' with
    | false => exact hk.slots t' Q1 (by simp only [look, hb, hb2]; exact ht')
    | true =>
      have := Nat.eq_of_beq_eq_true hb2
      subst this
      rw [ht] at ht'
      injection ht' with ht'
      subst ht'
      exact h _ _ _ (hk.slots t X (by simp only [look, hb, Nat.beq_refl]))
def isTmp (tt : Nat) : Operand → Bool | .tmp u => Nat.beq tt u | _ => false
theorem opVA_shadow {tt : Nat} {X : Ent} {Q : Ent} (hy : opVA S y = some Q) (hne : isTmp tt y = false) : opVA ((tt, X) :: S) y = some Q := by
  cases y with
  | tmp u => have hne' : Nat.beq tt u = false := hne; simp only [opVA, look, hne']; exact hy
  | _ => exact hy
theorem WO.litE {parts : Array (Nat × Operand)} (T : Ty α) (hu : P.underlying t = some (.slice el)) (he : ElAt P el T.sz) (hp : parts.toList = []) (hd : Nat.ble (d + 1) e.N = true)
    (h : WO P e Kp arr rest ⟨(d, isE, none) :: S, B⟩ r) : WO P e Kp arr (mkOp d (.buildSlice t 0 parts) ty pos af :: rest) ⟨S, B⟩ r := by
  refine WO.opX rfl rfl fun a w hk => ?_
  obtain ⟨info, zz, hi, hsz, hz, hzs, hby⟩ := he.out
  have hp' : parts = #[] := by apply Array.ext'; simpa using hp
  subst hp'
  obtain ⟨hk1, hs⟩ := Holds.grow hk (w' := w.alloc (.cells #[] el)) rfl rfl rfl (by rw [alloc_size]; omega) (fun b hb => alloc_old _ _ _ hb)
  refine ⟨.slice (some ⟨w.heap.size, 0, none⟩) 0 0, w.alloc (.cells #[] el), _, ?_, hk1.put (Q := (isE, none)) (Nat.le_of_ble_eq_true hd) ⟨⟨_, rfl⟩, fun u hu => by cases hu⟩, h⟩
  have e0 : Array.map (fun _ : Nat => (default : Value)) (Array.range 0) = #[] := by apply Array.ext'; simp
  simp [execOp, Instr.buildSlice, run_underlying hu, sizeOf, typeInfo, hi, hsz, newRow, Instr.fill]
  rw [e0]
theorem eTok {tt : Nat} (T : Ty α) (hk : Holds e ⟨S, B⟩ a w) (ht : look S tt = some (isE, ov)) : ∃ ad, Holds e ⟨(tt, (tL T).va [], some (.slice ad 0 0)) :: S, appO T.sz (.slice ad 0 0) :: B⟩ a w := by
  obtain ⟨ad, hv⟩ := (hk.slots tt _ ht).1
  have hk' := hk.tok (O := appO T.sz (.slice ad 0 0)) (by cases ad <;> rfl) (fun A => by cases ad with
    | none => exact rfl
    | some _ => exact fun h => absurd h (Nat.lt_irrefl _))
  refine ⟨ad, { hk' with slots := fun t' Q1 ht' => ?_ }⟩
  simp only [look] at ht'
  cases hb : Nat.beq tt t' with
  | false => rw [hb] at ht'; exact hk'.slots t' Q1 ht'
  | true =>
    rw [hb] at ht'
    injection ht' with ht'
    subst ht'
    have := Nat.eq_of_beq_eq_true hb
    subst this
    refine ⟨?_, fun u hu => by injection hu with hu; rw [← hu]; exact hv⟩
    show slRel T [] (a.tmps.getD tt undef) _ _
    rw [hv]
    exact ⟨ad, 0, 0, [], rfl, rfl, Nat.le_refl _, Nat.zero_le _, rfl, fun h => absurd h (Nat.lt_irrefl _)⟩
theorem eBack {Q : Ent} {tt : Nat} {T : Ty α} {ad : Option Addr} {B' : List Own} (hk : Holds e ⟨(d, Q) :: (tt, (tL T).va [], some (.slice ad 0 0)) :: S, B'⟩ a w) (ht : look S tt = some (isE, none)) : Holds e ⟨(d, Q) :: S, B'⟩ a w :=
  hk.unshadow ht fun u A w hu => ⟨⟨ad, hu.2 _ rfl⟩, fun _ h => by cases h⟩
theorem WO.appE {tt : Nat} (hx : opVA S (.tmp tt) = some (isE, none)) (hy : opVA S y = some ((tL T).va ys, ov')) (hne : isTmp tt y = false) (hu : P.underlying t = some (.slice el)) (he : ElAt P el T.sz) (hd : Nat.ble (d + 1) e.N = true)
    (h : ∀ v', WO P e Kp arr rest ⟨(d, (tL T).va ([] ++ ys), some v') :: S, appO T.sz v' :: B⟩ r) :
    WO P e Kp arr (mkOp d (.call { callee := .builtin .append, args := #[.tmp tt, y], argTypes := #[t, t] }) ty pos af :: rest) ⟨S, B⟩ (cond (decide (([] : List α).length + ys.length ≤ CAP)) r none) := by
  intro q hq a w hk
  obtain ⟨ad, hk'⟩ := eTok T hk hx
  exact WO.app (T := T) (xs := []) (S := (tt, (tL T).va [], some (.slice ad 0 0)) :: S) 0 (by simp only [opVA, look, Nat.beq_refl]) (opVA_shadow hy hne) rfl hu he hd (fun v' x hx' a w hk2 => h v' x hx' a w (eBack hk2 hx)) q hq a w hk'
end
end Go.HL
namespace Go.HL
def CtrE {ρ ν γ : Type} (P : Program) (k : FuncId) (vs : List VA) (O : List Own) (y : Option ρ) (rv : Value → ν) (O' : ρ → ν → γ → List Own) (Q : ρ → ν → VA) : Prop :=
  ∀ q, y = some q → ∀ A w args, Pre A w O → Args A w args vs → Rets P k args w fun v w' => ∃ g, Post A w O (O' q (rv v) g) w' ∧ (Q q (rv v)).f v (Anew A w O w' (O' q (rv v) g)) w'
def RRE {ρ ν γ : Type} (A : Ar) (w : World) (O : List Own) (rv : Value → ν) (O' : ρ → ν → γ → List Own) (Q : ρ → ν → VA) : ρ → Value → World → Prop :=
  fun q v w' => ∃ g, Post A w O (O' q (rv v) g) w' ∧ (Q q (rv v)).f v (Anew A w O w' (O' q (rv v) g)) w'
section
variable {P : Program} {f : FuncId} {e : Env} {ρ σ ν γ : Type} {R : ρ → Value → World → Prop} {Kp : ρ → Act → World → Prop}
variable {S : List (Nat × Ent)} {B : List Own} {a : Act} {w : World}
variable {k : List Item} {r r' : Option ρ} {arr : Array Oper} {rest l : List Oper}
variable {d : Nat} {ty t u el : TypeId} {pos : String} {af : Array Edge} {ov ov' ov'' : Option Value}
variable {x y z : Operand} {α β : Type} {T : Ty α} {U : Ty β} {v : Value} {xs ys : List α}
theorem of_WR {k : FuncId} {fn : Func} {c : Code} {n : Nat} {vs : List VA} {O : List Own} {y : Option ρ} {R : Ar → World → ρ → Value → World → Prop}
    (hf : P.funcs[k]? = some fn) (hb : fn.body = some c) (hn : fn.ntmps = n) (hl : Nat.ble vs.length n = true)
    (h : ∀ A w, W P k (env A w O n) (R A w) [.code c] ⟨slots 0 vs, O⟩ y) : ∀ q, y = some q → ∀ A w args, Pre A w O → Args A w args vs → Rets P k args w (R A w q) := by
  intro q hq A w args hpre hargs
  refine Rets.of_run hf hb hn (h A w q hq _ w ?_)
  have hlen := hargs.len
  have hl' := Nat.le_of_ble_eq_true hl
  have hs : Same A (Acur (env A w O n) O w) w w := fun b o ha => ⟨⟨.inl ha, (hpre.old b o ha).1, (hpre.old b o ha).2⟩, rfl⟩
  refine { size := ?_, defers := rfl, slots := ?_, owns := ?_, fresh := ?_, apart := hpre.apart, old := ?_, same := ?_, gl := hpre.gl }
  · simp; omega
  · intro t Q' ht
    obtain ⟨-, v, h1, h2⟩ := look_slots 0 hargs t Q' ht
    have e : (args.toArray ++ Array.replicate (n - args.length) undef).getD t undef = v := by
      obtain ⟨h3, h4⟩ := List.getElem?_eq_some_iff.1 h1
      simp only [Nat.sub_zero] at h3 h4
      rw [Array.getD_eq_getD_getElem?, Array.getElem?_append_left (by simpa using h3)]
      simp [h3, h4]
    show Q'.holds ((args.toArray ++ Array.replicate (n - args.length) undef).getD t undef) _ _
    rw [e]
    exact h2.good hs
  · exact fun Q' hQ' => Q'.good hs (fun _ _ => rfl) (hpre.ok Q' hQ')
  · exact fun Q' hQ' b hb => ⟨hpre.blk Q' hQ' b hb, .inr fun o ho => ⟨Q', hQ', hb, ho⟩⟩
  · exact fun b o ha => ⟨(hpre.old b o ha).1, fun ⟨Q', hQ', hf'⟩ => (hpre.old b o ha).2 Q' hQ' hf'⟩
  · exact ⟨rfl, rfl, rfl, Nat.le_refl _, fun _ _ _ => rfl, fun _ _ _ _ => rfl⟩
theorem CtrE.of_W {k : FuncId} {fn : Func} {c : Code} {n : Nat} {vs : List VA} {O : List Own} {y : Option ρ} {rv : Value → ν} {O' : ρ → ν → γ → List Own} {Q : ρ → ν → VA}
    (hf : P.funcs[k]? = some fn) (hb : fn.body = some c) (hn : fn.ntmps = n) (hl : Nat.ble vs.length n = true)
    (h : ∀ A w, W P k (env A w O n) (RRE A w O rv O' Q) [.code c] ⟨slots 0 vs, O⟩ y) : CtrE P k vs O y rv O' Q := of_WR hf hb hn hl h
variable {A : Ar} {w0 : World} {O : List Own} {n : Nat} {q : ρ} {fn : Func}
theorem W.retE1 {O' : ρ → ν → γ → List Own} {Q : ρ → ν → VA} {rv : Value → ν} {res : ResultVar} {Q1 : Ent} (g : γ) (vr : ν) (hf : P.funcs[f]? = some fn) (hr : fn.results = #[res]) (h1 : Rv P (env A w0 O n) ⟨S, B⟩ res Q1) (hq : Q1.1 = Q q vr) (hrv : ∀ v A w, Q1.1.f v A w → rv v = vr) (hO : (O' q vr g).Sublist B) :
    W P f (env A w0 O n) (RRE A w0 O rv O' Q) (.code .ret :: k) ⟨S, B⟩ (some q) := by
  intro x hx a w hk
  injection hx with hx
  subst hx
  obtain ⟨v, hrun, h2⟩ := h1 a w hk
  have e := hrv _ _ _ h2.1
  have hret := ret_of (O' := fun q v => O' q (rv v) g) (Q := fun q => lift rv (Q q)) (q := q) (v := v) hk (by show (O' q (rv v) g).Sublist B; rw [e]; exact hO) (by show (Q q (rv v)).f v _ _; rw [e, ← hq]; exact h2.1)
  exact Run.ret hf hk.defers (v := v) (results1 hr hrun) ⟨g, hret⟩
theorem WO.callE {g : FuncId} {xs : Array Operand} {tys : Array TypeId} {vs : List VA} {y : Option σ} {rv : Value → ν} {O' : σ → ν → γ → List Own} {Q : σ → ν → VA} {r : σ → Option ρ}
    (hf : CtrE P g vs [] y rv O' Q) (hfn : ∃ fn c, P.funcs[g]? = some fn ∧ (fn.name == "runtime.NumGoroutine") = false ∧ fn.body = some c) (hx : opVAs S xs.toList = some vs) (hd : Nat.ble (d + 1) e.N = true)
    (h : ∀ q p g, WO P e Kp arr rest ⟨(d, Q q p, none) :: S, O' q p g ++ B⟩ (r q)) :
    WO P e Kp arr (mkOp d (.call { callee := .value (.func g), args := xs, argTypes := tys }) ty pos af :: rest) ⟨S, B⟩ (y.bind r) := by
  intro z hz a w hk
  cases hy : y with
  | none => rw [hy] at hz; cases hz
  | some q =>
    rw [hy] at hz
    simp only [Option.bind_some] at hz
    have hk0 : Holds e ⟨S, [] ++ B⟩ a w := hk
    have hA : Pre (Acur e ([] ++ B) w) w [] := {
      old := fun b o ⟨_, h1, h2⟩ => ⟨h1, fun Q hQ => (by cases hQ)⟩
      ok := fun Q hQ => (by cases hQ)
      blk := fun Q hQ b hb => (by cases hQ)
      apart := .nil
      gl := hk.glob }
    obtain ⟨fn, c, hfn1, hfn2, hfn3⟩ := hfn
    have hm : (xs.toList.map a.eval).toArray = xs.map a.eval := by apply Array.ext'; simp
    have hrun : (execOp a.eval (mkOp d (.call { callee := .value (.func g), args := xs, argTypes := tys }) ty pos af)).run P w = .ok (.enter g (xs.toList.map a.eval).toArray) w := by
      rw [hm]
      simp only [beq_eq_false_iff_ne, ne_eq] at hfn2
      simp [execOp, resolve, Deferred.ofValue, Act.eval, invoke, callFunc, hfn1, hfn2, hfn3]
    have hc := hf q hy _ _ _ hA (hk0.args hx)
    have hw : Region.wanted (mkOp d (.call { callee := .value (.func g), args := xs, argTypes := tys }) ty pos af) (yielded arr a.tmps) = true := rfl
    simp only [wpList, hw, if_true]
    left
    simp only [Oper.wp, hrun, Oper.upon_enter]
    refine Calls.mono hc ?_
    rintro en w' ⟨v, rfl, gh, hp, hq⟩
    obtain ⟨hk', hsN⟩ := hk0.called hp
    exact h q (rv v) gh z hz _ _ (hk'.put (Q := (Q q (rv v), none)) (Nat.le_of_ble_eq_true hd) ⟨(Q q (rv v)).good hsN hq, fun u hu => by cases hu⟩)
theorem WO.bindK {m : Option σ} {y : σ} {K : Ctx} {K' : σ → Ctx} {op : Oper} (hm : m = some y) (hrule : ∀ r : σ → Option ρ, (∀ y, WO P e Kp arr rest (K' y) (r y)) → WO P e Kp arr (op :: rest) K (m.bind r)) (h : WO P e Kp arr rest (K' y) r) : WO P e Kp arr (op :: rest) K r := by
  subst hm
  intro x hx
  have h2 := fun z => hrule (fun y' => by classical exact if y' = y then z else none)
  refine h2 r (fun y' => ?_) x (by simpa using hx)
  by_cases hy : y' = y
  · subst hy; simpa using h
  · simp only [hy, if_false]; exact .stop
theorem WO.bindK2 {τ υ : Type} {m : Option σ} {y : σ} {K : Ctx} {K' : σ → τ → υ → Ctx} {op : Oper} (hm : m = some y) (hrule : ∀ r : σ → Option ρ, (∀ y p g, WO P e Kp arr rest (K' y p g) (r y)) → WO P e Kp arr (op :: rest) K (m.bind r)) (h : ∀ p g, WO P e Kp arr rest (K' y p g) r) : WO P e Kp arr (op :: rest) K r := by
  subst hm
  intro x hx
  have h2 := fun z => hrule (fun y' => by classical exact if y' = y then z else none)
  refine h2 r (fun y' p g => ?_) x (by simpa using hx)
  by_cases hy : y' = y
  · subst hy; simpa using h p g
  · simp only [hy, if_false]; exact .stop
end
end Go.HL
namespace Go.HL
section
variable {P : Program} {f : FuncId} {e : Env} {ρ : Type} {R : ρ → Value → World → Prop} {Kp : ρ → Act → World → Prop}
variable {r : Option ρ} {arr : Array Oper} {rest : List Oper}
variable {S : List (Nat × Ent)} {B : List Own} {d : Nat} {ty t u : TypeId} {pos : String} {af : Array Edge} {ov ov' : Option Value}
variable {x y : Operand} {b c : Bool}
theorem WO.bne (hx : opVA S x = some (isB b, ov)) (hy : opVA S y = some (isB c, ov')) (hu : P.underlying t = some .bool) (hd : Nat.ble (d + 1) e.N = true)
    (h : WO P e Kp arr rest ⟨(d, isB (!(b == c)), none) :: S, B⟩ r) : WO P e Kp arr (mkOp d (.binOp .neq t x y u) ty pos af :: rest) ⟨S, B⟩ r := by
  refine .calc hd (fun a w hk => ?_) h
  have h1 := hk.ev hx
  have h2 := hk.ev hy
  simp only [isB] at h1 h2
  have h3 : (Op.equal t (.bool b) (.bool c)).run P w = .ok (b == c) w := by
    show (Op.equalIn (9999 + 1) t (.bool b) (.bool c)).run P w = _
    rw [Op.equalIn]
    simp [run_underlying hu]
  simp only [execOp, h1, h2, eqGuard, binOp]
  simp [h3, isB]
end
end Go.HL
namespace Go.HL
section
variable {P : Program} {f : FuncId} {e : Env} {ρ σ ν : Type} {R : ρ → Value → World → Prop} {Kp : ρ → Act → World → Prop}
variable {S : List (Nat × Ent)} {B : List Own} {a : Act} {w : World}
variable {k : List Item} {r r' : Option ρ} {arr : Array Oper} {rest l : List Oper}
variable {d : Nat} {ty t u el : TypeId} {pos : String} {af : Array Edge} {ov ov' ov'' : Option Value}
variable {x y z : Operand} {α β γ : Type} {T : Ty α} {U : Ty β} {v : Value} {xs ys : List α}
end
end Go.HL
namespace Go.HL
section
variable {P : Program} {f : FuncId} {e : Env} {ρ σ ν : Type} {S : List (Nat × Ent)} {B : List Own} {a : Act} {w : World} {k : List Item} {r : Option ρ}
end
end Go.HL
namespace Go.HL
section
variable {P : Program} {f : FuncId} {e : Env} {ρ : Type} {R : ρ → Value → World → Prop} {Kp : ρ → Act → World → Prop}
variable {k : List Item} {r : Option ρ} {ops : Array Oper} {S0 : List (Nat × Ent)} {B : List Own} {E : List (Option (Nat × Ent))} {m : Nat} {F : List Nat}
variable {sp : List Nat} {AB : List Own → Prop}
def eraseB (i : Nat) : List Nat → List Nat
  | [] => []
  | j :: l => match Nat.beq i j with | true => l | false => j :: eraseB i l
theorem eraseB_keep {i j : Nat} : ∀ {l : List Nat}, j ∈ l → j ≠ i → j ∈ eraseB i l
  | a :: l, h, hne => by
    rw [eraseB]
    cases hb : Nat.beq i a with
    | true =>
      have := Nat.eq_of_beq_eq_true hb
      exact (List.mem_cons.1 h).resolve_left fun e => hne (by omega)
    | false =>
      rcases List.mem_cons.1 h with rfl | h
      · exact List.mem_cons_self
      · exact List.mem_cons_of_mem _ (eraseB_keep h hne)
theorem eraseB_sub {i : Nat} : ∀ {l : List Nat}, (eraseB i l).Sublist l
  | [] => .slnil
  | a :: l => by
    rw [eraseB]
    cases Nat.beq i a with
    | true => exact List.sublist_cons_self ..
    | false => exact eraseB_sub.cons_cons _
theorem eraseB_nodup {i : Nat} {l : List Nat} (h : l.Nodup) : (eraseB i l).Nodup := h.sublist eraseB_sub
theorem eraseB_mem {i j : Nat} : ∀ {l : List Nat}, l.Nodup → j ∈ eraseB i l → j ∈ l ∧ j ≠ i
  | a :: l, hn, h => by
    have hn' := List.nodup_cons.1 hn
    rw [eraseB] at h
    cases hb : Nat.beq i a with
    | true =>
      rw [hb] at h
      have := Nat.eq_of_beq_eq_true hb
      exact ⟨List.mem_cons_of_mem _ h, fun e => hn'.1 (by rw [← this, ← e]; exact h)⟩
    | false =>
      rw [hb] at h
      have hne : i ≠ a := fun e => by rw [e, Nat.beq_refl] at hb; cases hb
      rcases List.mem_cons.1 h with rfl | h
      · exact ⟨List.mem_cons_self, Ne.symm hne⟩
      · obtain ⟨h1, h2⟩ := eraseB_mem hn'.2 h
        exact ⟨List.mem_cons_of_mem _ h1, h2⟩
theorem eraseB_len {i : Nat} : ∀ {l : List Nat}, i ∈ l → (eraseB i l).length + 1 = l.length
  | a :: l, h => by
    rw [eraseB]
    cases hb : Nat.beq i a with
    | true => rfl
    | false =>
      have hne : i ≠ a := fun e => by rw [e, Nat.beq_refl] at hb; cases hb
      have := eraseB_len ((List.mem_cons.1 h).resolve_left hne)
      simp only [List.length_cons]; omega
def enabB (ops : Array Oper) (m : Nat) (rem : List Nat) (i : Nat) : Bool := rem.all fun j => !memB j (closB ops m (preds ops i))
def SpcL (P : Program) (e : Env) (ops : Array Oper) (AB : List Own → Prop) (E : List (Option (Nat × Ent))) (m : Nat) (rem : List Nat) (C : List Nat → List (Nat × Ent) → List Own → Prop) (Sp : List (Nat × Ent)) (B : List Own) : List Nat → Prop
  | [] => True
  | i :: l => (enabB ops m rem i = true → Stp1 P e ops AB E i (C (eraseB i rem)) Sp B) ∧ SpcL P e ops AB E m rem C Sp B l
theorem SpcL.get {rem : List Nat} {C : List Nat → List (Nat × Ent) → List Own → Prop} {Sp : List (Nat × Ent)} {i : Nat} : ∀ {l : List Nat}, SpcL P e ops AB E m rem C Sp B l → i ∈ l → enabB ops m rem i = true → Stp1 P e ops AB E i (C (eraseB i rem)) Sp B
  | j :: l, h, hi, he => by
    rcases List.mem_cons.1 hi with rfl | hi
    · exact h.1 he
    · exact SpcL.get h.2 hi he
def SpcT (P : Program) (e : Env) (Kp : ρ → Act → World → Prop) (ops : Array Oper) (AB : List Own → Prop) (E : List (Option (Nat × Ent))) (m : Nat) (r : Option ρ) : Nat → List Nat → List (Nat × Ent) → List Own → Prop
  | 0, _, Sp, B => WO P e Kp ops (ops.toList.drop m) ⟨SX Sp (fun _ => true) 0 E, B⟩ r
  | n + 1, rem, Sp, B => SpcL P e ops AB E m rem (SpcT P e Kp ops AB E m r n) Sp B rem
theorem SpcL.nil {rem : List Nat} {C : List Nat → List (Nat × Ent) → List Own → Prop} {Sp : List (Nat × Ent)} : SpcL P e ops AB E m rem C Sp B [] := trivial
theorem SpcL.on {rem : List Nat} {C : List Nat → List (Nat × Ent) → List Own → Prop} {Sp : List (Nat × Ent)} {i : Nat} {l : List Nat} (h : Stp1 P e ops AB E i (C (eraseB i rem)) Sp B) (h2 : SpcL P e ops AB E m rem C Sp B l) : SpcL P e ops AB E m rem C Sp B (i :: l) := ⟨fun _ => h, h2⟩
theorem SpcL.off {rem : List Nat} {C : List Nat → List (Nat × Ent) → List Own → Prop} {Sp : List (Nat × Ent)} {i : Nat} {l : List Nat} (h : enabB ops m rem i = false) (h2 : SpcL P e ops AB E m rem C Sp B l) : SpcL P e ops AB E m rem C Sp B (i :: l) := ⟨fun he => (by rw [h] at he; cases he), h2⟩
theorem SpcT.node {n : Nat} {rem : List Nat} {Sp : List (Nat × Ent)} {Kp : ρ → Act → World → Prop} (h : SpcL P e ops AB E m rem (SpcT P e Kp ops AB E m r n) Sp B rem) : SpcT P e Kp ops AB E m r (n + 1) rem Sp B := h
theorem SpcT.leaf {rem : List Nat} {Sp : List (Nat × Ent)} {Kp : ρ → Act → World → Prop} (h : WO P e Kp ops (ops.toList.drop m) ⟨SX Sp (fun _ => true) 0 E, B⟩ r) : SpcT P e Kp ops AB E m r 0 rem Sp B := h
structure PhT (P : Program) (e : Env) (Kp : ρ → Act → World → Prop) (ops : Array Oper) (AB : List Own → Prop) (S0 : List (Nat × Ent)) (E : List (Option (Nat × Ent))) (m : Nat) (r : Option ρ) (sp : List Nat) (ls : Array Bool) (n : Nat) (rem : List Nat) (Sp : List (Nat × Ent)) (B : List Own) : Prop where
  ext : Ext S0 Sp
  pre : AB B
  fresh : ∀ t ∈ keysE E, look Sp t = none
  left : ∀ j ∈ rem, j ∈ sp ∧ ls.getD j false = false
  done : ∀ j ∈ sp, j ∉ rem → ls.getD j false = true
  nodup : rem.Nodup
  len : rem.length = n
  spc : SpcT P e Kp ops AB E m r n rem Sp B
theorem Bag.runT (hb : Bag P e AB ops S0 E m F sp) (hok : bagOK ops m F = true) (hseq : seqOK ops (ops.size - m) m = true) {x : ρ} (hr : r = some x) :
    ∀ (fuel : Nat) {ls : Array Bool} {n : Nat} {rem : List Nat} {Sp : List (Nat × Ent)} {B' : List Own} {a : Act} {w : World}, Inv ops m fuel ls → PhT P e Kp ops AB S0 E m r sp ls n rem Sp B' → Holds e ⟨SX Sp (ls.getD · false) 0 E, B'⟩ a w → wpAny P .any ops (QN (Kp x)) fuel ls a w := by
  intro fuel
  have hok0 := hok
  simp only [bagOK, Bool.and_eq_true, List.all_eq_true] at hok
  have hmn := hb.le
  have hfin : ∀ {fuel : Nat} {ls : Array Bool} {n : Nat} {rem : List Nat} {Sp : List (Nat × Ent)} {B' : List Own} {a : Act} {w : World}, Inv ops m fuel ls → PhT P e Kp ops AB S0 E m r sp ls n rem Sp B' → Holds e ⟨SX Sp (ls.getD · false) 0 E, B'⟩ a w →
      (∀ i < m, i ∉ F → ls.getD i false = true) → wpAny P .any ops (QN (Kp x)) fuel ls a w := by
    intro fuel ls n rem Sp B' a w hI hph hk hU
    have hno : ∀ j ∈ rem, False := fun j hj => by
      obtain ⟨h1, h2⟩ := hph.left j hj
      rw [hU j (hb.spm j h1).1 (hb.spm j h1).2] at h2
      cases h2
    have hnil : rem = [] := List.eq_nil_iff_forall_not_mem.2 hno
    have hn0 := hph.len
    subst hnil
    obtain rfl : n = 0 := by simpa using hn0.symm
    exact hb.fin hph.ext hph.pre hph.fresh hok0 (fun a w hk => wpAny_seq hok.1.1.1.2 _ m (by omega) hseq (hph.spc x hr a w hk)) F hI
      (fun i hi hun => Decidable.byContradiction fun h => by rw [hU i hi h] at hun; cases hun) (fun _ h => h) hU hk
  induction fuel with
  | zero =>
    intro ls n rem Sp B' a w hI hph hk
    refine hfin hI hph hk fun i hi _ => ?_
    have h0 := hI.cnt
    rw [List.count_eq_zero] at h0
    have hl' : i < ls.size := by rw [hI.size]; omega
    cases hl : ls.getD i false with
    | true => rfl
    | false =>
      have : ls[i] = false := by simpa [hl'] using hl
      exact absurd (this ▸ Array.getElem_mem_toList _) h0
  | succ fuel ih =>
    intro ls n rem Sp B' a w hI hph hk
    by_cases hU : ∀ i < m, i ∉ F → ls.getD i false = true
    · exact hfin hI hph hk hU
    · have hne : ∃ i, i < m ∧ i ∉ F ∧ ls.getD i false = false := by
        refine Classical.byContradiction fun h => hU fun i h1 h2 => ?_
        cases h3 : ls.getD i false with
        | true => rfl
        | false => exact absurd ⟨i, h1, h2, h3⟩ h
      obtain ⟨u, hu1, hu2, hu3⟩ := hne
      have hready : ∀ n, ∀ i ≤ n, i < m → ls.getD i false = false → Region.ready .any ops ls ≠ [] := by
        intro n
        induction n with
        | zero =>
          intro i hi him hun hr
          have : i ∈ Region.ready .any ops ls := (Bag.ready hI).2 ⟨by omega, hun, fun p hp => by
            have := hok.1.1.2 i (List.mem_range.2 him) p hp
            simp [blt_eq] at this; omega⟩
          rw [hr] at this; cases this
        | succ n ihn =>
          intro i hi him hun hr
          by_cases hall : ∀ p ∈ preds ops i, ls.getD p false = true
          · have : i ∈ Region.ready .any ops ls := (Bag.ready hI).2 ⟨by omega, hun, hall⟩
            rw [hr] at this; cases this
          · have : ∃ p, p ∈ preds ops i ∧ ls.getD p false = false := by
              refine Classical.byContradiction fun h => hall fun p hp => ?_
              cases h3 : ls.getD p false with
              | true => rfl
              | false => exact absurd ⟨p, hp, h3⟩ h
            obtain ⟨p, hp1, hp2⟩ := this
            have := hok.1.1.2 i (List.mem_range.2 him) p hp1
            simp [blt_eq] at this
            exact ihn p (by omega) (by omega) hp2 hr
      refine ⟨fun hr => absurd hr (hready u u (Nat.le_refl _) hu1 hu3), fun i hi => ?_⟩
      obtain ⟨h1, h2, h3⟩ := (Bag.ready hI).1 hi
      have hcl := closB_listed hI.down m (preds ops i) h3
      have him : i < m := by
        refine Decidable.byContradiction fun hge => ?_
        have h4 := hok.1.2 i (by rw [List.mem_range'_1]; omega)
        simp only [Bool.or_eq_true, List.any_eq_true, List.all_eq_true] at h4
        rcases h4 with ⟨x, hx1, hx2⟩ | h4
        · have := hcl x hx1
          rw [hI.tail x (Nat.le_of_ble_eq_true hx2)] at this
          cases this
        · rcases h4 u (List.mem_range.2 hu1) with h5 | h5
          · exact hu2 (memB_iff.1 h5)
          · rw [hcl u (memB_iff.1 h5)] at hu3; cases hu3
      have ho : ops[i]? = some ops[i] := Array.getElem?_eq_getElem h1
      have hI' := hI.set hmn him h2 h3
      have hset : ∀ {j}, ls.getD j false = false → j ≠ i → (ls.setIfInBounds i true).getD j false = false := fun h hne => by rw [getD_set_ne false (Ne.symm hne)]; exact h
      have htop : (ls.setIfInBounds i true).getD i false = true := by
        have : i < ls.size := by rw [hI.size]; omega
        simp [this]
      have go : ∀ {K1 : Act → World → Prop}, wpList P ops (QN K1) [ops[i]] a w → (∀ a' w', K1 a' w' → wpAny P .any ops (QN (Kp x)) fuel (ls.setIfInBounds i true) a' w') → wpOp P ops (QN (Kp x)) i (wpAny P .any ops (QN (Kp x)) fuel (ls.setIfInBounds i true)) a w := by
        intro K1 h5 h6
        unfold wpOp
        simp only [ho]
        simp only [wpList] at h5
        split
        · rename_i hw
          rw [if_pos hw] at h5
          rcases h5 with h5 | h5
          · exact .inl (Oper.wp_mono (fun a w h => h6 _ _ h) (Oper.wp_swap h5))
          · exact (QN_lets h5.2).elim
        · rename_i hw
          rw [if_neg hw] at h5
          exact h6 _ _ h5
      by_cases hisp : i ∈ sp
      · -- a special one: it is the next
        have hin : i ∈ rem := Decidable.byContradiction fun h => by rw [hph.done i hisp h] at h2; cases h2
        have hlen := hph.len
        have hnd0 := hph.nodup
        cases n with
        | zero => rw [List.eq_nil_of_length_eq_zero hlen] at hin; cases hin
        | succ n =>
        have hen : enabB ops m rem i = true := by
          unfold enabB
          refine List.all_eq_true.2 fun j hj => ?_
          cases hb1 : memB j (closB ops m (preds ops i)) with
          | false => simp
          | true =>
            have h4 := hcl j (memB_iff.1 hb1)
            rw [(hph.left j hj).2] at h4; cases h4
        have hspc : Stp1 P e ops AB E i (SpcT P e Kp ops AB E m r n (eraseB i rem)) Sp B' := SpcL.get hph.spc hin hen
        have hk1 : ∀ j ∈ eraseB i rem, j ∈ rem ∧ j ≠ i := fun j hj => eraseB_mem hnd0 hj
        have hk2 : ∀ j ∈ rem, j ≠ i → j ∈ eraseB i rem := fun j hj hne => eraseB_keep hj hne
        have hnd : (eraseB i rem).Nodup := eraseB_nodup hnd0
        have hlen' : (eraseB i rem).length = n := by have := eraseB_len hin; omega
        · obtain ⟨o, ho', hst⟩ := hspc
          rw [ho] at ho'
          injection ho' with ho'
          subst ho'
          have hx : Ext (preE E ops[i] ++ Sp) (SX Sp (ls.getD · false) 0 E) := ext_pre (ℓ := (ls.getD · false)) (fun _ _ h => h) hb.nodup hph.fresh (fun ed he hbi => h3 _ (mem_preds ho he hbi))
          have hEi := hb.spn i hisp
          have hleft : ∀ j ∈ eraseB i rem, j ∈ sp ∧ (ls.setIfInBounds i true).getD j false = false := fun j hj => ⟨(hph.left j (hk1 j hj).1).1, hset (hph.left j (hk1 j hj).1).2 (hk1 j hj).2⟩
          have hdone : ∀ j ∈ sp, j ∉ eraseB i rem → (ls.setIfInBounds i true).getD j false = true := fun j hj hn => by
            by_cases hji : j = i
            · subst hji; exact htop
            · exact getD_set_true (hph.done j hj fun h => hn (hk2 j h hji))
          have hnew : ∀ {j t Q'}, E[j]? = some (some (t, Q')) → (ls.setIfInBounds i true).getD (0 + j) false = true → look (SX Sp (ls.getD · false) 0 E) t = some Q' := fun {j t Q'} h7 h8 => by
            have hj : j ≠ i := fun e => by subst e; rw [hEi] at h7; cases h7
            rw [Nat.zero_add] at h8
            exact SX_new hb.nodup h7 (by rw [Nat.zero_add, ← getD_set_ne false (Ne.symm hj)]; exact h8)
          rcases hst with ⟨d, hd, hst⟩ | hst
          · simp only [Bool.or_eq_false_iff] at hd
            have hdE : d ∉ keysE E := fun hm => by rw [memB_iff.2 hm] at hd; cases hd.1
            have hdS : look Sp d = none := by simpa using hd.2
            have hne : ∀ t ∈ keysE E, d ≠ t := fun t ht e => hdE (e ▸ ht)
            refine go (hst (fun _ a' w' => wpAny P .any ops (QN (Kp x)) fuel (ls.setIfInBounds i true) a' w') _ hx (fun Q B2 hP2 hspc => fun _ _ a' w' hk' => ?_) () rfl a w hk) (fun _ _ h => h)
            refine ih hI' (n := n) (rem := eraseB i rem) (Sp := (d, Q) :: Sp) (B' := B2) ⟨fun t Q1 ht => ?_, hP2, fun t ht => ?_, hleft, hdone, hnd, hlen', hspc⟩ (hk'.weaken fun t Q1 ht => ⟨Q1, ?_, rfl, .inl rfl⟩)
            · have h4 := hph.ext t Q1 ht
              have : d ≠ t := fun e => by subst e; rw [hdS] at h4; cases h4
              simp only [look, beq_ne this]; exact h4
            · simp only [look, beq_ne (hne t ht)]; exact hph.fresh t ht
            · rcases SX_inv ht with ⟨j, Q', h7, h8, h9⟩ | h7
              · rw [h9]
                simp only [look, beq_ne (hne t (mem_keysE h7))]
                exact hnew h7 h8
              · by_cases htd : d = t
                · subst htd; simpa [look, Nat.beq_refl] using h7
                · simp only [look, beq_ne htd] at h7 ⊢
                  refine SX_old (fun hm => ?_) h7
                  rw [hph.fresh t hm] at h7; cases h7
          · refine go (hst (fun _ a' w' => wpAny P .any ops (QN (Kp x)) fuel (ls.setIfInBounds i true) a' w') _ hx (fun B2 hP2 hspc => fun _ _ a' w' hk' => ?_) () rfl a w hk) (fun _ _ h => h)
            refine ih hI' (n := n) (rem := eraseB i rem) (Sp := Sp) (B' := B2) ⟨hph.ext, hP2, hph.fresh, hleft, hdone, hnd, hlen', hspc⟩ (hk'.weaken fun t Q1 ht => ⟨Q1, ?_, rfl, .inl rfl⟩)
            rcases SX_inv ht with ⟨j, Q', h7, h8, h9⟩ | h7
            · rw [h9]; exact hnew h7 h8
            · refine SX_old (fun hm => ?_) h7
              rw [hph.fresh t hm] at h7; cases h7
      · exact go (hb.step hph.ext hph.pre hph.fresh hI him hisp ho h3 hk) fun a' w' hk' => ih hI'
          { hph with left := fun j hj => ⟨(hph.left j hj).1, hset (hph.left j hj).2 fun e => hisp (e ▸ (hph.left j hj).1)⟩, done := fun j hj hn => getD_set_true (hph.done j hj hn) } hk'
theorem W.drawT {id : Nat} (m : Nat) (F sp H : List Nat) (hm : P.follows .mixedOrders = true) (hs : (bagOK ops m F && seqOK ops (ops.size - m) m && ((sp.all fun i => Nat.blt i m && !memB i F) && nodupB sp)) = true)
    (hE : Steps P e (PreB H 0 B) ops S0 E (ops.toList.take m) E) (hn : (nodupB (keysE E) && ((keysE E).all fun t => (look S0 t).isNone) && noneOK 0 E (sp) && spNone E (sp)) = true)
    (h : SpcT P e (fun x a w => Run P f k a w (R x)) ops (PreB H 0 B) E m r sp.length sp S0 B) : W P f e R (.code (.region id ops true) :: k) ⟨S0, B⟩ r := by
  intro x hx a w hk
  simp only [Bool.and_eq_true] at hs hn
  have hok := hs.1.1
  simp only [bagOK, Bool.and_eq_true] at hok
  have hmn := Nat.le_of_ble_eq_true hok.1.1.1.1
  refine Run.of_wp (wp_region_any hm ?_)
  have hsp : ∀ j ∈ sp, j < m ∧ j ∉ F := fun j hj => by
    have := List.all_eq_true.1 hs.2.1 j hj
    simp only [Bool.and_eq_true, Bool.not_eq_true', blt_eq, decide_eq_true_eq] at this
    exact ⟨this.1, fun hm => by rw [memB_iff.2 hm] at this; cases this.2⟩
  have hb : Bag P e (PreB H 0 B) ops S0 E m F (sp) := ⟨hE, nodupB_iff hn.1.1.1, fun t ht => by simpa using List.all_eq_true.1 hn.1.1.2 t ht, hmn, fun j hj => by have := noneOK_get hn.1.2 hj; rwa [Nat.zero_add] at this, spNone_get hn.2, hsp⟩
  have hk' := (hk.grow (w' := { w with drawn := w.drawn + 1 }) rfl rfl rfl (Nat.le_refl _) fun _ _ => rfl).1
  have hget : ∀ i, (Array.replicate ops.size false).getD i false = false := fun i => by
    by_cases hi : i < ops.size <;> simp [hi]
  refine hb.runT hs.1.1 hs.1.2 hx ops.size (n := sp.length) (rem := sp) (Sp := S0) (B' := B) ⟨by simp, fun j _ => hget j, fun i hi => (by rw [hget] at hi; cases hi), by simp⟩
    ⟨fun _ _ h => h, PreB.refl, hb.fresh, fun j hj => ⟨hj, hget j⟩, fun j hj hn => absurd hj hn, nodupB_iff hs.2.2, rfl, h⟩ ?_
  refine hk'.weaken fun t Q ht => ⟨Q, ?_, rfl, .inl rfl⟩
  rcases SX_inv ht with ⟨j, Q', _, h2, _⟩ | h1
  · rw [hget] at h2; cases h2
  · exact h1
end
end Go.HL
namespace Go.HL
section
variable {P : Program} {f : FuncId} {e : Env} {ρ σ ν : Type} {R : ρ → Value → World → Prop} {Kp : ρ → Act → World → Prop}
variable {S : List (Nat × Ent)} {B : List Own} {a : Act} {w : World}
variable {k : List Item} {r r' : Option ρ} {arr : Array Oper} {rest l : List Oper}
variable {d : Nat} {ty t u el : TypeId} {pos : String} {af : Array Edge} {ov ov' ov'' : Option Value}
variable {x y z : Operand} {α β γ : Type} {T : Ty α} {U : Ty β} {v : Value} {xs ys : List α}
end
end Go.HL
namespace Go.HL
section
variable {P : Program} {f : FuncId} {e : Env} {ρ σ ν : Type} {R : ρ → Value → World → Prop} {Kp : ρ → Act → World → Prop}
variable {S : List (Nat × Ent)} {B : List Own} {a : Act} {w : World}
variable {k : List Item} {r r' : Option ρ} {arr : Array Oper} {rest l : List Oper}
variable {d : Nat} {ty t u el kt : TypeId} {pos : String} {af : Array Edge} {ov ov' ov'' : Option Value}
variable {x y z : Operand} {α β γ : Type} {T : Ty α} {U : Ty β} {v : Value} {xs ys : List α}
def splitB : List Own → List Nat → Option (List Own × List Own)
  | B, [] => some ([], B)
  | B, i :: is => match B[i]? with
    | some O => match splitB (B.eraseIdx i) is with
      | some (l, m) => some (O :: l, m)
      | none => none
    | none => none
theorem split_perm : ∀ {is : List Nat} {B O B' : List Own}, splitB B is = some (O, B') → B.Perm (O ++ B')
  | [], B, O, B', h => by injection h with h; injection h with h1 h2; subst h1 h2; exact .refl _
  | i :: is, B, O, B', h => by
    simp only [splitB] at h
    cases hB : B[i]? with
    | none => rw [hB] at h; cases h
    | some Q =>
      rw [hB] at h
      cases hp : splitB (B.eraseIdx i) is with
      | none => simp only [hp] at h; cases h
      | some m =>
        obtain ⟨m1, m2⟩ := m
        simp only [hp] at h
        injection h with h
        injection h with h1 h2
        subst h1 h2
        exact (perm_erase hB).trans ((split_perm hp).cons _)
variable {κ : Type} [DecidableEq κ] {Tk : Ty κ} {mk : κ → Value} {ks lk : List κ} {q : κ}
theorem map_eraseIdxL {α β : Type} (f : α → β) : ∀ (l : List α) (j : Nat), (l.map f).eraseIdx j = (l.eraseIdx j).map f
  | [], _ => by simp
  | _ :: _, 0 => by simp
  | a :: l, j + 1 => by simp [map_eraseIdxL f l j]
end
end Go.HL
