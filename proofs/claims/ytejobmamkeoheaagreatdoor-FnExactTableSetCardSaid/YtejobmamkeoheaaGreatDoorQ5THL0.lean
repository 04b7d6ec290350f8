/- A logic of typed slots over the machine: what is known of each slot, of the memory that is the call's own, and rules for each operation. -/
import Derived.Below
import Derived.Calls
import Derived.Orders
import Derived.Tactics
import Derived.Laws.Strings
import Derived.Laws.Cells
import Derived.Laws.AppendOwn
import Derived.Laws.OwnMore
import Derived.Laws.BytesArg
import Derived.MapKept
import Derived.Laws.MakeOwn
import Derived.Maps.RangeRun
set_option linter.all false
namespace Go.HL
def Run (P : Program) (f : FuncId) (todo : List Item) (a : Act) (w : World) (R : Value → World → Prop) : Prop :=
  ∀ (b : Frame) (cs : List Frame), b.fn = f → b.kind = .normal →
    ∃ v w' fr, R v w' ∧ Steps P (lone (b.at a todo) cs w) (lone fr cs w') ∧ fr.fn = f ∧ fr.leaving P w' (.returned v)
section
variable {P : Program} {f : FuncId} {k : List Item} {a : Act} {w : World} {R : Value → World → Prop}
theorem Run.head {t : List Item} {a' : Act} {w' : World} (h : ∀ (b : Frame) cs, step P (lone (b.at a t) cs w) = .next (lone (b.at a' k) cs w')) (hr : Run P f k a' w' R) : Run P f t a w R := by
  intro b cs hf hk
  obtain ⟨v, w2, fr, hR, hs, h1, h2⟩ := hr b cs hf hk
  exact ⟨v, w2, fr, hR, .head (h b cs) hs, h1, h2⟩
theorem Run.seq {x y : Code} (h : Run P f (.code x :: .code y :: k) a w R) : Run P f (.code (.seq x y) :: k) a w R := h.head fun _ _ => step_seq
theorem Run.skip (h : Run P f k a w R) : Run P f (.code .skip :: k) a w R := h.head fun _ _ => step_skip
theorem Run.block {id : Nat} {c : Code} (h : Run P f (.code c :: .inBlock id :: k) a w R) : Run P f (.code (.block id c) :: k) a w R := h.head fun _ _ => step_block
theorem Run.inBlock {id : Nat} (h : Run P f k a w R) : Run P f (.inBlock id :: k) a w R := h.head fun _ _ => step_inBlock
theorem Run.inLoop {c : Code} (h : Run P f (.code c :: .inLoop c :: k) a w R) : Run P f (.inLoop c :: k) a w R := h.head fun _ _ => step_inLoop
theorem Run.loop {c : Code} (h : Run P f (.inLoop c :: k) a w R) : Run P f (.code (.loop c) :: k) a w R := by
  intro b cs hf hk
  obtain ⟨v, w2, fr, hR, ⟨n, hs⟩, h1, h2⟩ := h b cs hf hk
  refine ⟨v, w2, fr, hR, ?_, h1, h2⟩
  cases n with
  | zero =>
    simp only [runN, Stepped.next.injEq] at hs
    have : fr.mode = .run := by
      have := congrArg (fun m : Machine => (m.gs[0]?).map (·.frame.mode)) hs
      simpa [lone, Frame.at] using this.symm
    rw [h2.1] at this
    cases this
  | succ n =>
    simp only [runN, step_inLoop] at hs
    exact .head step_loop ⟨n, hs⟩
theorem Run.exit {id : Nat} {k' : List Item} (he : exitTo id k = some k') (h : Run P f k' a w R) : Run P f (.code (.exit id) :: k) a w R := h.head fun _ _ => step_exit he
theorem Run.cond {c : Operand} {x y : Code} {t : Bool} (hc : a.eval c = .bool t) (h : Run P f (.code (if t then x else y) :: k) a w R) : Run P f (.code (.cond c x y) :: k) a w R := h.head fun _ _ => step_cond hc
theorem Run.ret {fn : Func} {v : Value} (hf : P.funcs[f]? = some fn) (hd : a.defers = []) (hr : (results fn a.tmps).run P w = .ok v w) (h : R v w) : Run P f (.code .ret :: k) a w R := by
  intro b cs hb hk
  exact ⟨v, w, _, h, .one step_ret, hb, rfl, hd, hk, fn, by simpa [Frame.at, hb] using hf, by simpa [Frame.at] using hr⟩
def QN (K : Act → World → Prop) : Exit → Act → World → Prop
  | .normal, a, w => K a w
  | _, _, _ => False
theorem Run.of_wp {c : Code} (h : c.wp P (QN fun a' w' => Run P f k a' w' R) a w) : Run P f (.code c :: k) a w R := by
  intro b cs hf hk
  obtain ⟨e, a', w', hq, harr⟩ := h b k cs
  cases e with
  | normal =>
    obtain ⟨v, w2, fr, hR, hs, h1, h2⟩ := hq b cs hf hk
    exact ⟨v, w2, fr, hR, Steps.trans harr hs, h1, h2⟩
  | _ => exact hq.elim
end
def Rets (P : Program) (f : FuncId) (args : List Value) (w : World) (R : Value → World → Prop) : Prop :=
  Calls P f args.toArray w fun e w' => ∃ v, e = .returned v ∧ R v w'
theorem Rets.of_run {P : Program} {f : FuncId} {fn : Func} {c : Code} {args : List Value} {w : World} {R : Value → World → Prop} {n : Nat}
    (hf : P.funcs[f]? = some fn) (hb : fn.body = some c) (hn : fn.ntmps = n)
    (h : Run P f [.code c] { tmps := args.toArray ++ Array.replicate (n - args.length) undef, defers := [] } w R) : Rets P f args w R := by
  intro cs
  let b : Frame := { (default : Frame) with fn := f, kind := .normal }
  have henter : Frame.enter P f args.toArray .normal = b.at { tmps := args.toArray ++ Array.replicate (n - args.length) undef, defers := [] } [.code c] := by
    simp [Frame.enter, Frame.at, hf, hb, b, hn]
  obtain ⟨v, w', fr, hR, hs, h1, h2⟩ := h b cs rfl rfl
  exact ⟨.returned v, w', fr, ⟨v, rfl, hR⟩, by rw [henter]; exact hs, h1, h2⟩
end Go.HL
namespace Go.HL
abbrev Ar := Nat → Nat → Prop
def Same (A A' : Ar) (w w' : World) : Prop := ∀ b o, A b o → A' b o ∧ w'.cell? ⟨b, o, none⟩ = w.cell? ⟨b, o, none⟩
theorem Same.trans {A A' A'' : Ar} {w w' w'' : World} (h : Same A A' w w') (k : Same A' A'' w' w'') : Same A A'' w w'' :=
  fun b o ha => ⟨(k b o (h b o ha).1).1, (k b o (h b o ha).1).2.trans (h b o ha).2⟩
structure VA where
  f : Value → Ar → World → Prop
  good : ∀ {v A A' w w'}, Same A A' w w' → f v A w → f v A' w'
def isV (u : Value) : VA := ⟨fun v _ _ => v = u, fun _ h => h⟩
def isI (k : IntKind) (n : Int) : VA := ⟨fun v _ _ => v = .int k n, fun _ h => h⟩
def isB (b : Bool) : VA := ⟨fun v _ _ => v = .bool b, fun _ h => h⟩
def str (s : List UInt8) : Value := .string ⟨s.toArray⟩
def isS (s : List UInt8) : VA := ⟨fun v _ _ => v = str s, fun _ h => h⟩
def isP (b o : Nat) : VA := ⟨fun v _ _ => v = .pointer (some ⟨b, o, none⟩), fun _ h => h⟩
def anyV : VA := ⟨fun _ _ _ => True, fun _ h => h⟩
def wrap (agg : Bool) (cs : List Value) : Value := match agg with | true => .agg cs.toArray | false => cs.headD undef
def plainV : Value → Bool | .agg _ | .tuple _ => false | _ => true
theorem cells_plain {v : Value} (h : plainV v = true) : v.cells = #[v] := by cases v <;> simp_all [plainV, Value.cells]
structure Ty (α : Type) where
  sz : Nat
  agg : Bool
  rel : α → List Value → Ar → World → Prop
  va : α → VA
  len : ∀ {d cs A w}, rel d cs A w → cs.length = sz
  plain : ∀ {d cs A w}, rel d cs A w → ∀ c ∈ cs, plainV c = true
  good : ∀ {d cs A A' w w'}, Same A A' w w' → rel d cs A w → rel d cs A' w'
  iff : ∀ {d v A w}, (va d).f v A w ↔ ∃ cs, v = wrap agg cs ∧ rel d cs A w
  one : agg = false → sz = 1
theorem Ty.cells {α : Type} (T : Ty α) {d : α} {cs A w} (h : T.rel d cs A w) : (wrap T.agg cs).cells = cs.toArray := by
  cases he : T.agg with
  | true => rfl
  | false =>
    have hl := T.len h
    rw [T.one he] at hl
    match cs, hl with
    | [c], _ => exact cells_plain (T.plain h c (by simp))
def tI (k : IntKind) : Ty Int where
  sz := 1
  agg := false
  rel d cs _ _ := cs = [.int k d]
  va := isI k
  len h := by subst h; rfl
  plain h := by subst h; simp [plainV]
  good _ h := h
  iff := ⟨fun h => ⟨[_], (h : _ = _), rfl⟩, fun ⟨_, h, k⟩ => by subst k; exact h⟩
  one _ := rfl
def tB : Ty Bool where
  sz := 1
  agg := false
  rel d cs _ _ := cs = [.bool d]
  va := isB
  len h := by subst h; rfl
  plain h := by subst h; simp [plainV]
  good _ h := h
  iff := ⟨fun h => ⟨[_], (h : _ = _), rfl⟩, fun ⟨_, h, k⟩ => by subst k; exact h⟩
  one _ := rfl
def tS : Ty (List UInt8) where
  sz := 1
  agg := false
  rel d cs _ _ := cs = [str d]
  va := isS
  len h := by subst h; rfl
  plain h := by subst h; simp [plainV, str]
  good _ h := h
  iff := ⟨fun h => ⟨[_], (h : _ = _), rfl⟩, fun ⟨_, h, k⟩ => by subst k; exact h⟩
  one _ := rfl
def Ty.x {α β : Type} (T : Ty α) (U : Ty β) : Ty (α × β) where
  sz := T.sz + U.sz
  agg := true
  rel d cs A w := ∃ c1 c2, cs = c1 ++ c2 ∧ T.rel d.1 c1 A w ∧ U.rel d.2 c2 A w
  va d := ⟨fun v A w => ∃ cs, v = wrap true cs ∧ ∃ c1 c2, cs = c1 ++ c2 ∧ T.rel d.1 c1 A w ∧ U.rel d.2 c2 A w, fun h ⟨cs, e, c1, c2, e2, h1, h2⟩ => ⟨cs, e, c1, c2, e2, T.good h h1, U.good h h2⟩⟩
  len := fun ⟨c1, c2, e, h1, h2⟩ => by subst e; simp [T.len h1, U.len h2]
  plain := fun ⟨c1, c2, e, h1, h2⟩ c hc => by
    subst e
    rcases List.mem_append.1 hc with h | h
    · exact T.plain h1 c h
    · exact U.plain h2 c h
  good := fun h ⟨c1, c2, e, h1, h2⟩ => ⟨c1, c2, e, T.good h h1, U.good h h2⟩
  iff := Iff.rfl
  one h := by cases h
def Ty.iso {α β : Type} (T : Ty α) (f : β → α) : Ty β where
  sz := T.sz
  agg := true
  rel d := T.rel (f d)
  va d := ⟨fun v A w => ∃ cs, v = wrap true cs ∧ T.rel (f d) cs A w, fun h ⟨cs, e, h1⟩ => ⟨cs, e, T.good h h1⟩⟩
  len := T.len
  plain := T.plain
  good := T.good
  iff := Iff.rfl
  one h := by cases h
structure Fld {α β : Type} (T : Ty α) (off : Nat) (U : Ty β) (get : α → β) (set : α → β → α) : Prop where
  le : off + U.sz ≤ T.sz
  get : ∀ {d cs A w}, T.rel d cs A w → U.rel (get d) ((cs.drop off).take U.sz) A w
  set : ∀ {d cs A w x c}, T.rel d cs A w → U.rel x c A w → T.rel (set d x) (cs.take off ++ c ++ cs.drop (off + U.sz)) A w
theorem Fld.self {α : Type} (T : Ty α) : Fld T 0 T (fun d => d) (fun _ x => x) where
  le := by simp
  get h := by
    have := T.len h
    rw [List.drop_zero, List.take_of_length_le (by omega)]; exact h
  set h h' := by
    have := T.len h
    simp [List.drop_eq_nil_of_le (show _ ≤ _ from Nat.le_of_eq this)]; exact h'
theorem Fld.fst {α β : Type} {T : Ty α} {U : Ty β} : Fld (T.x U) 0 T (fun d => d.1) (fun d x => (x, d.2)) where
  le := by simp [Ty.x]
  get := fun ⟨c1, c2, e, h1, h2⟩ => by
    subst e; have := T.len h1
    rw [List.drop_zero, ← this, List.take_left']
    · exact h1
    · rfl
  set := fun ⟨c1, c2, e, h1, h2⟩ h' => ⟨_, c2, by subst e; have := T.len h1; simp [← this], h', h2⟩
theorem Fld.last {α β : Type} {T : Ty α} {U : Ty β} : Fld (T.x U) T.sz U (fun d => d.2) (fun d x => (d.1, x)) where
  le := by simp [Ty.x]
  get := fun ⟨c1, c2, e, h1, h2⟩ => by
    subst e; have := T.len h1; have h3 := U.len h2
    rw [← this, List.drop_left' rfl, List.take_of_length_le (by omega)]
    exact h2
  set := fun ⟨c1, c2, e, h1, h2⟩ h' => ⟨c1, _, by subst e; have := T.len h1; have h3 := U.len h2; simp [← this, ← h3], h1, h'⟩
theorem Fld.snd {α β γ : Type} {T : Ty α} {U : Ty β} {V : Ty γ} {off : Nat} {g : β → γ} {s : β → γ → β} (h : Fld U off V g s) : Fld (T.x U) (T.sz + off) V (fun d => g d.2) (fun d x => (d.1, s d.2 x)) where
  le := by have := h.le; simp only [Ty.x]; omega
  get := fun ⟨c1, c2, e, h1, h2⟩ => by
    subst e; have := T.len h1
    rw [← this, List.drop_append, List.drop_eq_nil_of_le (by omega)]
    simpa using h.get h2
  set := fun {_ _ _ _ x c} ⟨c1, c2, e, h1, h2⟩ h' => ⟨c1, c2.take off ++ c ++ c2.drop (off + V.sz), by
    subst e; have := T.len h1
    rw [← this, List.take_append, List.take_of_length_le (by omega), Nat.add_assoc, List.drop_append, List.drop_eq_nil_of_le (by omega)]
    simp, h1, h.set h2 h'⟩
theorem Fld.comp {α β γ : Type} {T : Ty α} {U : Ty β} {V : Ty γ} {o o' : Nat} {g : α → β} {s : α → β → α} {g' : β → γ} {s' : β → γ → β}
    (h : Fld T o U g s) (h' : Fld U o' V g' s') : Fld T (o + o') V (fun d => g' (g d)) (fun d x => s d (s' (g d) x)) where
  le := by have := h.le; have := h'.le; omega
  get hr := by
    have h1 := h'.get (h.get hr)
    have hl := h'.le
    rw [List.drop_take, List.take_take, List.drop_drop, Nat.min_eq_left (by omega)] at h1
    exact h1
  set {d cs A w x c} hr hx := by
    have h1 := h.set hr (h'.set (h.get hr) hx)
    have hl := h'.le; have hl2 := h.le; have hlen := T.len hr; have hc := V.len hx
    have e : cs.take o ++ (((cs.drop o).take U.sz).take o' ++ c ++ ((cs.drop o).take U.sz).drop (o' + V.sz)) ++ cs.drop (o + U.sz) = cs.take (o + o') ++ c ++ cs.drop (o + o' + V.sz) := by
      have e1 : cs.take (o + o') = cs.take o ++ (cs.drop o).take o' := by rw [List.take_add]
      have e2 : cs.drop (o + o' + V.sz) = ((cs.drop o).take U.sz).drop (o' + V.sz) ++ cs.drop (o + U.sz) := by
        rw [List.drop_take, List.drop_drop]
        have : cs.drop (o + U.sz) = (cs.drop (o + (o' + V.sz))).drop (U.sz - (o' + V.sz)) := by rw [List.drop_drop]; congr 1; omega
        rw [this, List.take_append_drop, Nat.add_assoc]
      rw [e1, e2, List.take_take, Nat.min_eq_left (by omega)]
      simp
    rw [e] at h1
    exact h1
theorem Fld.iso {α β γ : Type} {T : Ty α} {f : β → α} {V : Ty γ} {o : Nat} {g : α → γ} {s : α → γ → α} {s' : β → γ → β}
    (h : Fld T o V g s) (hs : ∀ d x, f (s' d x) = s (f d) x) : Fld (T.iso f) o V (fun d => g (f d)) s' where
  le := h.le
  get hr := h.get hr
  set hr hx := by
    have := h.set hr hx
    rw [← hs] at this
    exact this
end Go.HL
namespace Go.HL
@[irreducible] def LIM : Nat := 140737488355328
theorem LIM_eq : LIM = 140737488355328 := by unfold LIM; rfl
def cellsIn (A : Ar) (w : World) (b o : Nat) (cs : List Value) : Prop := ∀ j (h : j < cs.length), A b (o + j) ∧ w.cell? ⟨b, o + j, none⟩ = some cs[j]
theorem cellsIn.good {A A' w w' b o cs} (h : Same A A' w w') (k : cellsIn A w b o cs) : cellsIn A' w' b o cs :=
  fun j hj => ⟨(h _ _ (k j hj).1).1, (h _ _ (k j hj).1).2.trans (k j hj).2⟩
theorem cellsIn.part {A w b o cs} (k : cellsIn A w b o cs) (i n : Nat) : cellsIn A w b (o + i) ((cs.drop i).take n) := by
  intro j hj
  have h1 : j < n ∧ i + j < cs.length := by simp at hj; omega
  have := k (i + j) h1.2
  rw [← Nat.add_assoc] at this
  refine ⟨this.1, this.2.trans ?_⟩
  simp
def flat {α : Type} (T : Ty α) : List α → List Value → Ar → World → Prop
  | [], cs, _, _ => cs = []
  | x :: xs, cs, A, w => ∃ c1 c2, cs = c1 ++ c2 ∧ T.rel x c1 A w ∧ flat T xs c2 A w
theorem flat.good {α : Type} {T : Ty α} {A A' w w'} (h : Same A A' w w') : ∀ {xs : List α} {cs}, flat T xs cs A w → flat T xs cs A' w'
  | [], _, k => k
  | _ :: _, _, ⟨c1, c2, e, h1, h2⟩ => ⟨c1, c2, e, T.good h h1, flat.good h h2⟩
theorem flat.len {α : Type} {T : Ty α} {A w} : ∀ {xs : List α} {cs}, flat T xs cs A w → cs.length = xs.length * T.sz
  | [], _, k => by cases k; simp
  | x :: xs, _, ⟨c1, c2, e, h1, h2⟩ => by subst e; rw [List.length_append, T.len h1, h2.len, List.length_cons, Nat.succ_mul, Nat.add_comm]
theorem flat.plain {α : Type} {T : Ty α} {A w} : ∀ {xs : List α} {cs}, flat T xs cs A w → ∀ c ∈ cs, plainV c = true
  | [], _, k, c, hc => by cases k; cases hc
  | x :: xs, _, ⟨c1, c2, e, h1, h2⟩, c, hc => by
    subst e
    rcases List.mem_append.1 hc with h | h
    · exact T.plain h1 c h
    · exact h2.plain c h
theorem flat.append {α : Type} {T : Ty α} {A w} {ys : List α} {c2} (k : flat T ys c2 A w) : ∀ {xs : List α} {c1}, flat T xs c1 A w → flat T (xs ++ ys) (c1 ++ c2) A w
  | [], _, h => by cases h; exact k
  | x :: xs, _, ⟨a, b, e, h1, h2⟩ => ⟨a, b ++ c2, by subst e; simp, h1, flat.append k h2⟩
theorem flat.get {α : Type} {T : Ty α} {A w} : ∀ {xs : List α} {cs} (h : flat T xs cs A w) (i : Nat) (hi : i < xs.length), T.rel xs[i] ((cs.drop (i * T.sz)).take T.sz) A w
  | x :: xs, _, ⟨c1, c2, e, h1, h2⟩, 0, hi => by
    subst e
    have := T.len h1
    rw [Nat.zero_mul, List.drop_zero, ← this, List.take_left' rfl]; exact h1
  | x :: xs, _, ⟨c1, c2, e, h1, h2⟩, i + 1, hi => by
    subst e
    have := T.len h1
    have e2 : (i + 1) * T.sz = c1.length + i * T.sz := by rw [Nat.succ_mul, this, Nat.add_comm]
    rw [e2, List.drop_append, List.drop_eq_nil_of_le (as := c1) (by omega)]
    have h3 := h2.get i (by simpa using hi)
    simpa using h3
theorem flat.drop {α : Type} {T : Ty α} {A w} : ∀ {xs : List α} {cs} (h : flat T xs cs A w) (i : Nat), flat T (xs.drop i) (cs.drop (i * T.sz)) A w
  | _, _, h, 0 => by simpa using h
  | [], _, h, i + 1 => by cases h; simp [flat]
  | x :: xs, _, ⟨c1, c2, e, h1, h2⟩, i + 1 => by
    subst e
    have := T.len h1
    have e2 : (i + 1) * T.sz = c1.length + i * T.sz := by rw [Nat.succ_mul, this, Nat.add_comm]
    rw [e2, List.drop_append, List.drop_eq_nil_of_le (as := c1) (by omega)]
    have h3 := h2.drop i
    simpa using h3
theorem flat.take {α : Type} {T : Ty α} {A w} : ∀ {xs : List α} {cs} (h : flat T xs cs A w) (i : Nat), flat T (xs.take i) (cs.take (i * T.sz)) A w
  | _, _, h, 0 => by simp [flat]
  | [], _, h, i + 1 => by cases h; simp [flat]
  | x :: xs, _, ⟨c1, c2, e, h1, h2⟩, i + 1 => by
    subst e
    have := T.len h1
    have e2 : (i + 1) * T.sz = c1.length + i * T.sz := by rw [Nat.succ_mul, this, Nat.add_comm]
    rw [e2, List.take_append, List.take_of_length_le (l := c1) (by omega)]
    have h3 := h2.take i
    exact ⟨c1, _, by simp, h1, h3⟩
def slRel {α : Type} (T : Ty α) (xs : List α) (v : Value) (A : Ar) (w : World) : Prop :=
  ∃ ad n c cs, v = .slice ad n c ∧ xs.length = n ∧ n ≤ c ∧ n ≤ LIM ∧ flat T xs cs A w ∧ (0 < n → ∃ b o, ad = some ⟨b, o, none⟩ ∧ cellsIn A w b o cs)
theorem slRel.good {α : Type} {T : Ty α} {xs : List α} {v A A' w w'} (h : Same A A' w w') : slRel T xs v A w → slRel T xs v A' w' := by
  rintro ⟨ad, n, c, cs, rfl, h1, h2, h3, h4, h5⟩
  refine ⟨ad, n, c, cs, rfl, h1, h2, h3, h4.good h, fun hp => ?_⟩
  obtain ⟨b, o, h6, h7⟩ := h5 hp
  exact ⟨b, o, h6, h7.good h⟩
def tL {α : Type} (T : Ty α) : Ty (List α) where
  sz := 1
  agg := false
  rel xs cs A w := ∃ v, cs = [v] ∧ slRel T xs v A w
  va xs := ⟨slRel T xs, slRel.good⟩
  len := fun ⟨_, h, _⟩ => by subst h; rfl
  plain := fun ⟨_, h, _, _, _, _, hv, _⟩ => by subst h; subst hv; simp [plainV]
  good := fun h ⟨v, e, k⟩ => ⟨v, e, k.good h⟩
  iff := ⟨fun h => ⟨[_], rfl, _, rfl, h⟩, fun ⟨_, h, _, k, hr⟩ => by subst k; subst h; exact hr⟩
  one _ := rfl
theorem slRel_nil {α : Type} (T : Ty α) (A : Ar) (w : World) : slRel T [] (.slice none 0 0) A w := ⟨none, 0, 0, [], rfl, rfl, Nat.le_refl _, Nat.zero_le _, rfl, fun h => by omega⟩
def isAt {α : Type} (T : Ty α) (d : α) : VA where
  f v A w := ∃ b o cs, v = .pointer (some ⟨b, o, none⟩) ∧ T.rel d cs A w ∧ cellsIn A w b o cs
  good h := fun ⟨b, o, cs, e, hr, hc⟩ => ⟨b, o, cs, e, T.good h hr, hc.good h⟩
structure Own where
  blk : Option Nat
  lo : Nat
  ok : Ar → World → Prop
  good : ∀ {A A' w w'}, Same A A' w w' → (∀ b, blk = some b → w'.heap[b]? = w.heap[b]?) → ok A w → ok A' w'
def Own.foot (O : Own) (b o : Nat) : Prop := O.blk = some b ∧ O.lo ≤ o
abbrev Ent := VA × Option Value
structure Ctx where
  S : List (Nat × Ent)
  B : List Own
def look : List (Nat × Ent) → Nat → Option Ent
  | [], _ => none
  | (t, P) :: S, n => match Nat.beq t n with | true => some P | false => look S n
def constVA : Value → VA
  | .int k n => isI k n
  | .bool b => isB b
  | .string s => isS s.data.toList
  | v => isV v
inductive Args (A : Ar) (w : World) : List Value → List VA → Prop
  | nil : Args A w [] []
  | cons {v vs Q Qs} : Q.f v A w → Args A w vs Qs → Args A w (v :: vs) (Q :: Qs)
theorem Args.good {A A' : Ar} {w w' : World} (h : Same A A' w w') : ∀ {vs : List Value} {Qs : List VA}, Args A w vs Qs → Args A' w' vs Qs
  | _, _, .nil => .nil
  | _, _, .cons h1 h2 => .cons (VA.good _ h h1) (Args.good h h2)
theorem Args.append {A : Ar} {w : World} : ∀ {vs vs' : List Value} {Qs Qs' : List VA}, Args A w vs Qs → Args A w vs' Qs' → Args A w (vs ++ vs') (Qs ++ Qs')
  | _, _, _, _, .nil, h => h
  | _, _, _, _, .cons h1 h2, h => .cons h1 (h2.append h)
def isClo (g : FuncId) (caps : List VA) : VA := ⟨fun v A w => ∃ cs : List Value, v = .func (.func g) #[] cs.toArray ∧ Args A w cs caps, fun h ⟨cs, e, k⟩ => ⟨cs, e, k.good h⟩⟩
def opVA (S : List (Nat × Ent)) : Operand → Option Ent
  | .tmp t => look S t
  | .const v => some (constVA v, some v)
  | .func f => some (isClo f [], none)
  | .global g => some (isP g 0, none)
structure Env where
  A0 : Ar
  w0 : World
  F : Ar
  N : Nat
def Acur (e : Env) (B : List Own) (w : World) : Ar := fun b o => (e.A0 b o ∨ e.w0.heap.size ≤ b ∨ e.F b o) ∧ b < w.heap.size ∧ ∀ O ∈ B, ¬ O.foot b o
structure Same0 (w0 : World) (F : Ar) (w : World) : Prop where
  os : w.os = w0.os
  tape : w.tape = w0.tape
  output : w.output = w0.output
  size : w0.heap.size ≤ w.heap.size
  block : ∀ b, b < w0.heap.size → (∀ o, ¬ F b o) → w.heap[b]? = w0.heap[b]?
  cell : ∀ b o, b < w0.heap.size → ¬ F b o → w.cell? ⟨b, o, none⟩ = w0.cell? ⟨b, o, none⟩
def Ent.holds (P : Ent) (v : Value) (A : Ar) (w : World) : Prop := P.1.f v A w ∧ ∀ u, P.2 = some u → v = u
def gTab : Nat := 0
def gSyn : Nat := 1
def gRan : Nat := 2
def globs : List Nat := [gTab, gSyn, gRan]
def pow10s : List Int := (List.range 20).map fun i => ((10 ^ i : Nat) : Int)
def GlobOk (g : Nat) (o : Option Obj) : Prop := ∃ cs et fr, o = some (.cells cs et fr) ∧ if g = gTab then cs = (pow10s.map fun z => Value.int .u64 z).toArray else ∃ ev, cs = #[ev] ∧ (ev = .nilIface ∨ ∃ te pe, ev = .iface te pe)
def Glob (A : Ar) (w : World) : Prop := ∀ g ∈ globs, (∀ o, A g o) ∧ GlobOk g w.heap[g]?
structure Holds (e : Env) (K : Ctx) (a : Act) (w : World) : Prop where
  size : a.tmps.size = e.N
  defers : a.defers = []
  slots : ∀ t P, look K.S t = some P → P.holds (a.tmps.getD t undef) (Acur e K.B w) w
  owns : ∀ O ∈ K.B, O.ok (Acur e K.B w) w
  fresh : ∀ O ∈ K.B, ∀ b, O.blk = some b → b < w.heap.size ∧ (e.w0.heap.size ≤ b ∨ ∀ o, O.lo ≤ o → e.F b o)
  apart : K.B.Pairwise (fun O O' => ∀ b, O.blk = some b → O'.blk ≠ some b)
  old : ∀ b o, e.A0 b o → b < e.w0.heap.size ∧ ¬ e.F b o
  same : Same0 e.w0 e.F w
  gl : Glob e.A0 e.w0
theorem Holds.glob {e : Env} {S B} {a : Act} {w : World} (h : Holds e ⟨S, B⟩ a w) : Glob (Acur e B w) w := fun g hg => by
  obtain ⟨h1, h2⟩ := h.gl g hg
  have h3 := h.old g 0 (h1 0)
  refine ⟨fun o => ⟨.inl (h1 o), Nat.lt_of_lt_of_le h3.1 h.same.size, fun O hO hf => ?_⟩, ?_⟩
  · rcases (h.fresh O hO g hf.1).2 with h4 | h4
    · exact absurd h3.1 (Nat.not_lt.2 h4)
    · exact (h.old g _ (h1 O.lo)).2 (h4 _ (Nat.le_refl _))
  · rw [h.same.block g h3.1 fun o => (h.old g o (h1 o)).2]; exact h2
section
variable {P : Program} {f : FuncId} {e : Env} {ρ : Type} {R : ρ → Value → World → Prop} {Kp : ρ → Act → World → Prop}
theorem Ent.holds.good {P : Ent} {v : Value} {A A' w w'} (h : Same A A' w w') (k : P.holds v A w) : P.holds v A' w' := ⟨P.1.good h k.1, k.2⟩
theorem str_const (s : ByteArray) : Value.string s = str s.data.toList := by simp [str]
theorem Holds.ev' {K : Ctx} {a : Act} {w : World} (h : Holds e K a w) {x : Operand} {Q : Ent} (hx : opVA K.S x = some Q) : Q.holds (a.eval x) (Acur e K.B w) w := by
  cases x with
  | tmp t => exact h.slots t Q hx
  | const v =>
    injection hx with hx; subst hx
    refine ⟨?_, fun u hu => by injection hu⟩
    cases v <;> first | rfl | exact str_const _
  | func f => injection hx with hx; subst hx; exact ⟨⟨[], rfl, .nil⟩, fun u hu => by cases hu⟩
  | global g => injection hx with hx; subst hx; exact ⟨rfl, fun u hu => by cases hu⟩
theorem Holds.ev {S B} {a : Act} {w : World} (h : Holds e ⟨S, B⟩ a w) {x : Operand} {Q : VA} {ov : Option Value} (hx : opVA S x = some (Q, ov)) : Q.f (a.eval x) (Acur e B w) w := (h.ev' hx).1
theorem getD_put {a : Act} {d t : Nat} {v : Value} (hd : d < a.tmps.size) : (a.put (some d) v).tmps.getD t undef = if d = t then v else a.tmps.getD t undef := by
  simp only [Act.put, Array.getD_eq_getD_getElem?, Array.getElem?_setIfInBounds]
  split
  · simp
  · rfl
theorem beq_ne {t n : Nat} (h : t ≠ n) : Nat.beq t n = false := by
  cases hb : Nat.beq t n with
  | false => rfl
  | true => exact absurd (Nat.eq_of_beq_eq_true hb) h
theorem Holds.put {S B} {a : Act} {w : World} (h : Holds e ⟨S, B⟩ a w) {d : Nat} (hd : d < e.N) {v : Value} {Q : Ent} (hv : Q.holds v (Acur e B w) w) :
    Holds e ⟨(d, Q) :: S, B⟩ (a.put (some d) v) w := by
  have hsz := h.size
  refine { h with size := by simpa [Act.put] using hsz, defers := h.defers, slots := fun t P ht => ?_ }
  rw [getD_put (by omega)]
  simp only [look] at ht
  by_cases e : d = t
  · subst e
    rw [if_pos rfl]
    rw [Nat.beq_refl] at ht
    injection ht with ht
    subst ht
    exact hv
  · rw [if_neg e]
    rw [beq_ne e] at ht
    exact h.slots t P ht
def W (P : Program) (f : FuncId) (e : Env) (R : ρ → Value → World → Prop) (k : List Item) (K : Ctx) (r : Option ρ) : Prop :=
  ∀ x, r = some x → ∀ a w, Holds e K a w → Run P f k a w (R x)
def WO (P : Program) (e : Env) (Kp : ρ → Act → World → Prop) (arr : Array Oper) (l : List Oper) (K : Ctx) (r : Option ρ) : Prop :=
  ∀ x, r = some x → ∀ a w, Holds e K a w → wpList P arr (QN (Kp x)) l a w
variable {k : List Item} {K : Ctx} {r : Option ρ} {arr : Array Oper} {rest : List Oper}
theorem W.stop : W P f e R k K (none : Option ρ) := fun x h => by cases h
theorem WO.stop {l : List Oper} : WO P e Kp arr l K (none : Option ρ) := fun x h => by cases h
theorem W.seq {x y : Code} (h : W P f e R (.code x :: .code y :: k) K r) : W P f e R (.code (.seq x y) :: k) K r := fun x hx a w hk => (h x hx a w hk).seq
theorem W.skip (h : W P f e R k K r) : W P f e R (.code .skip :: k) K r := fun x hx a w hk => (h x hx a w hk).skip
theorem W.block {id : Nat} {c : Code} (h : W P f e R (.code c :: .inBlock id :: k) K r) : W P f e R (.code (.block id c) :: k) K r := fun x hx a w hk => (h x hx a w hk).block
theorem W.inBlock {id : Nat} (h : W P f e R k K r) : W P f e R (.inBlock id :: k) K r := fun x hx a w hk => (h x hx a w hk).inBlock
theorem W.loop {c : Code} (h : W P f e R (.inLoop c :: k) K r) : W P f e R (.code (.loop c) :: k) K r := fun x hx a w hk => (h x hx a w hk).loop
theorem W.inLoop {c : Code} (h : W P f e R (.code c :: .inLoop c :: k) K r) : W P f e R (.inLoop c :: k) K r := fun x hx a w hk => (h x hx a w hk).inLoop
theorem W.exit {id : Nat} {k' : List Item} (he : exitTo id k = some k') (h : W P f e R k' K r) : W P f e R (.code (.exit id) :: k) K r := fun x hx a w hk => (h x hx a w hk).exit he
theorem W.region {id : Nat} {ops : Array Oper} (h : WO P e (fun x a w => Run P f k a w (R x)) ops ops.toList K r) : W P f e R (.code (.region id ops false) :: k) K r :=
  fun x hx a w hk => Run.of_wp (wp_region_list (h x hx a w hk))
theorem W.cond {c : Operand} {x y : Code} {b : Bool} {ov : Option Value} {r1 r2 : Option ρ} (hc : opVA K.S c = some (isB b, ov)) (h1 : b = true → W P f e R (.code x :: k) K r1) (h2 : b = false → W P f e R (.code y :: k) K r2) :
    W P f e R (.code (.cond c x y) :: k) K (cond b r1 r2) := by
  intro z hz a w hk
  have hv : a.eval c = .bool b := (hk.ev' hc).1
  cases b with
  | true => exact Run.cond hv (h1 rfl z hz a w hk)
  | false => exact Run.cond hv (h2 rfl z hz a w hk)
theorem WO.nil (h : W P f e R k K r) : WO P e (fun x a w => Run P f k a w (R x)) arr [] K r := fun x hx a w hk => wpList_nil (h x hx a w hk)
theorem WO.op {o : Oper} {d : Nat} {K' : Ctx} (hg : o.guard = none) (ho : o.dst = some d)
    (hrun : ∀ a w, Holds e K a w → ∃ v w', (execOp a.eval o).run P w = .ok (.value v) w' ∧ Holds e K' (a.put (some d) v) w')
    (h : WO P e Kp arr rest K' r) : WO P e Kp arr (o :: rest) K r := by
  intro x hx a w hk
  obtain ⟨v, w', hr, hk'⟩ := hrun a w hk
  have hw : Region.wanted o (yielded arr a.tmps) = true := by simp [Region.wanted, hg]
  simp only [wpList, hw, if_true]
  left
  simp only [Oper.wp, hr, Oper.upon_value, ho]
  exact h x hx _ _ hk'
variable {S : List (Nat × Ent)} {B : List Own} {d : Nat} {ty : TypeId} {pos : String} {af : Array Edge}
abbrev mkOp (d : Nat) (o : Op) (ty : TypeId) (pos : String) (af : Array Edge) : Oper := { dst := some d, op := o, type := ty, pos := pos, after := af, guard := none }
abbrev mkOpN (o : Op) (ty : TypeId) (pos : String) (af : Array Edge) : Oper := { dst := none, op := o, type := ty, pos := pos, after := af, guard := none }
theorem WO.calc {o : Op} {Q : VA} (hd : Nat.ble (d + 1) e.N = true)
    (hrun : ∀ a w, Holds e ⟨S, B⟩ a w → ∃ v, (execOp a.eval (mkOp d o ty pos af)).run P w = .ok (.value v) w ∧ Q.f v (Acur e B w) w)
    (h : WO P e Kp arr rest ⟨(d, Q, none) :: S, B⟩ r) : WO P e Kp arr (mkOp d o ty pos af :: rest) ⟨S, B⟩ r :=
  WO.op rfl rfl (fun a w hk => let ⟨v, hr, hq⟩ := hrun a w hk; ⟨v, w, hr, hk.put (Nat.le_of_ble_eq_true hd) ⟨hq, fun _ hu => by cases hu⟩⟩) h
theorem WO.move {x : Operand} {Q : Ent} (hx : opVA S x = some Q) (hd : Nat.ble (d + 1) e.N = true) (h : WO P e Kp arr rest ⟨(d, Q) :: S, B⟩ r) : WO P e Kp arr (mkOp d (.move x) ty pos af :: rest) ⟨S, B⟩ r :=
  WO.op rfl rfl (fun a w hk => ⟨_, w, rfl, hk.put (Nat.le_of_ble_eq_true hd) (hk.ev' (K := ⟨S, B⟩) hx)⟩) h
theorem WO.assign {x : Operand} {Q : Ent} (hx : opVA S x = some Q) (hd : Nat.ble (d + 1) e.N = true) (h : WO P e Kp arr rest ⟨(d, Q) :: S, B⟩ r) : WO P e Kp arr (mkOp d (.assign x) ty pos af :: rest) ⟨S, B⟩ r :=
  WO.op rfl rfl (fun a w hk => ⟨_, w, rfl, hk.put (Nat.le_of_ble_eq_true hd) (hk.ev' (K := ⟨S, B⟩) hx)⟩) h
theorem WO.assignNil {α : Type} (T : Ty α) (hd : Nat.ble (d + 1) e.N = true) (h : WO P e Kp arr rest ⟨(d, (tL T).va [], some (.slice none 0 0)) :: S, B⟩ r) : WO P e Kp arr (mkOp d (.assign (.const (.slice none 0 0))) ty pos af :: rest) ⟨S, B⟩ r :=
  WO.op rfl rfl (fun a w hk => ⟨_, w, rfl, hk.put (Nat.le_of_ble_eq_true hd) ⟨slRel_nil T _ _, fun u hu => by injection hu⟩⟩) h
variable {ov ov' : Option Value}
theorem WO.not {x : Operand} {b : Bool} {t : TypeId} (hx : opVA S x = some (isB b, ov)) (hd : Nat.ble (d + 1) e.N = true) (h : WO P e Kp arr rest ⟨(d, isB !b, none) :: S, B⟩ r) : WO P e Kp arr (mkOp d (.unOp .not t x) ty pos af :: rest) ⟨S, B⟩ r :=
  .calc hd (fun a w hk => ⟨.bool !b, by have := hk.ev hx; simp only [isB] at this; simp [execOp, this, Op.unary], rfl⟩) h
end
end Go.HL
namespace Go.HL
section
variable {P : Program} {f : FuncId} {e : Env} {ρ : Type} {R : ρ → Value → World → Prop} {Kp : ρ → Act → World → Prop}
variable {k : List Item} {r : Option ρ} {arr : Array Oper} {rest : List Oper}
variable {S : List (Nat × Ent)} {B : List Own} {d : Nat} {ty t u : TypeId} {pos : String} {af : Array Edge} {ov ov' : Option Value}
variable {x y z : Operand} {κ : IntKind} {m n : Int} {b c : Bool} {s s' : List UInt8}
theorem beqD {α : Type} [BEq α] [LawfulBEq α] [DecidableEq α] (a b : α) : (a == b) = decide (a = b) := by rw [Bool.eq_iff_iff]; simp
theorem ba_size (s : List UInt8) : (⟨s.toArray⟩ : ByteArray).size = s.length := by show s.toArray.size = _; simp
theorem ba_get (s : List UInt8) (i : Nat) : (⟨s.toArray⟩ : ByteArray)[i]? = s[i]? := by
  by_cases h : i < s.length
  · have h' : i < (⟨s.toArray⟩ : ByteArray).size := by rw [ba_size]; exact h
    rw [getElem?_pos (⟨s.toArray⟩ : ByteArray) i h', List.getElem?_eq_getElem h]
    rfl
  · have h' : ¬ i < (⟨s.toArray⟩ : ByteArray).size := by rw [ba_size]; exact h
    rw [getElem?_neg (⟨s.toArray⟩ : ByteArray) i h', List.getElem?_eq_none (by omega)]
def binOK : BinOp → Bool | .add | .sub | .mul | .lss | .leq | .gtr | .geq | .eql | .neq | .xor => true | _ => false
def binVA (o : BinOp) (κ : IntKind) (m n : Int) : VA :=
  match o with
  | .add => isI κ (κ.wrap (m + n))
  | .sub => isI κ (κ.wrap (m - n))
  | .mul => isI κ (κ.wrap (m * n))
  | .lss => isB (decide (m < n))
  | .leq => isB (decide (m ≤ n))
  | .gtr => isB (decide (n < m))
  | .geq => isB (decide (n ≤ m))
  | .eql => isB (decide (m = n))
  | .neq => isB (!decide (m = n))
  | .xor => isI κ (κ.wrap (BitVec.ofInt κ.bits m ^^^ BitVec.ofInt κ.bits n).toNat)
  | _ => anyV
theorem WO.bin {o : BinOp} (ho : binOK o = true) (hx : opVA S x = some (isI κ m, ov)) (hy : opVA S y = some (isI κ n, ov')) (hd : Nat.ble (d + 1) e.N = true)
    (h : WO P e Kp arr rest ⟨(d, binVA o κ m n, none) :: S, B⟩ r) : WO P e Kp arr (mkOp d (.binOp o t x y u) ty pos af :: rest) ⟨S, B⟩ r := by
  refine .calc hd (fun a w hk => ?_) h
  have h1 := hk.ev hx
  have h2 := hk.ev hy
  simp only [isI] at h1 h2
  cases o <;> first | cases ho | skip
  all_goals simp [execOp, h1, h2, eqGuard, binOp, Op.intArith, Op.intCmp, Op.intBits, binVA, isI, isB]
  all_goals (rw [Bool.eq_iff_iff]; simp)
theorem WO.quo (hx : opVA S x = some (isI κ m, ov)) (hy : opVA S y = some (isI κ n, ov')) (hd : Nat.ble (d + 1) e.N = true)
    (h : WO P e Kp arr rest ⟨(d, isI κ (κ.wrap (m.tdiv n)), none) :: S, B⟩ r) : WO P e Kp arr (mkOp d (.binOp .quo t x y u) ty pos af :: rest) ⟨S, B⟩ (cond (decide (n = 0)) none r) := by
  intro z hz
  by_cases h0 : n = 0
  · simp [h0] at hz
  simp only [h0, decide_false, cond_false] at hz
  refine WO.calc hd (fun a w hk => ?_) h z hz
  have h1 := hk.ev hx
  have h2 := hk.ev hy
  simp only [isI] at h1 h2
  simp [execOp, h1, h2, eqGuard, binOp, Op.intDiv, isI, h0]
theorem WO.rem (hx : opVA S x = some (isI κ m, ov)) (hy : opVA S y = some (isI κ n, ov')) (hd : Nat.ble (d + 1) e.N = true)
    (h : WO P e Kp arr rest ⟨(d, isI κ (m.tmod n), none) :: S, B⟩ r) : WO P e Kp arr (mkOp d (.binOp .rem t x y u) ty pos af :: rest) ⟨S, B⟩ (cond (decide (n = 0)) none r) := by
  intro z hz
  by_cases h0 : n = 0
  · simp [h0] at hz
  simp only [h0, decide_false, cond_false] at hz
  refine WO.calc hd (fun a w hk => ?_) h z hz
  have h1 := hk.ev hx
  have h2 := hk.ev hy
  simp only [isI] at h1 h2
  simp [execOp, h1, h2, eqGuard, binOp, Op.intDiv, isI, h0]
theorem WO.neg (hx : opVA S x = some (isI κ m, ov)) (hd : Nat.ble (d + 1) e.N = true)
    (h : WO P e Kp arr rest ⟨(d, isI κ (κ.wrap (0 - m)), none) :: S, B⟩ r) : WO P e Kp arr (mkOp d (.unOp .neg t x) ty pos af :: rest) ⟨S, B⟩ r := by
  refine .calc hd (fun a w hk => ?_) h
  have h1 := hk.ev hx
  simp only [isI] at h1
  simp [execOp, h1, Op.unary, Op.intArith, isI]
theorem WO.seq (hx : opVA S x = some (isS s, ov)) (hy : opVA S y = some (isS s', ov')) (hd : Nat.ble (d + 1) e.N = true)
    (h : WO P e Kp arr rest ⟨(d, isB (decide (s = s')), none) :: S, B⟩ r) : WO P e Kp arr (mkOp d (.binOp .eql t x y u) ty pos af :: rest) ⟨S, B⟩ r := by
  refine .calc hd (fun a w hk => ?_) h
  have h1 := hk.ev hx
  have h2 := hk.ev hy
  simp only [isS, str] at h1 h2
  simp [execOp, h1, h2, eqGuard, binOp, Op.stringOp, isB, beqD]
theorem WO.sne (hx : opVA S x = some (isS s, ov)) (hy : opVA S y = some (isS s', ov')) (hd : Nat.ble (d + 1) e.N = true)
    (h : WO P e Kp arr rest ⟨(d, isB (!decide (s = s')), none) :: S, B⟩ r) : WO P e Kp arr (mkOp d (.binOp .neq t x y u) ty pos af :: rest) ⟨S, B⟩ r := by
  refine .calc hd (fun a w hk => ?_) h
  have h1 := hk.ev hx
  have h2 := hk.ev hy
  simp only [isS, str] at h1 h2
  simp [execOp, h1, h2, eqGuard, binOp, Op.stringOp, isB, beqD]
@[irreducible] def CAP : Nat := 4294967296
theorem CAP_eq : CAP = 4294967296 := by unfold CAP; rfl
theorem WO.cat (hx : opVA S x = some (isS s, ov)) (hy : opVA S y = some (isS s', ov')) (hd : Nat.ble (d + 1) e.N = true)
    (h : WO P e Kp arr rest ⟨(d, isS (s ++ s'), none) :: S, B⟩ r) : WO P e Kp arr (mkOp d (.binOp .add t x y u) ty pos af :: rest) ⟨S, B⟩ (cond (decide (s.length + s'.length ≤ CAP)) r none) := by
  intro z hz
  by_cases h0 : s.length + s'.length ≤ CAP
  case neg => simp [h0] at hz
  simp only [h0, decide_true, cond_true] at hz
  refine WO.calc hd (fun a w hk => ?_) h z hz
  have h1 := hk.ev hx
  have h2 := hk.ev hy
  simp only [isS, str] at h1 h2
  rw [CAP_eq] at h0
  have h3 : ¬ (((s.length + s'.length : Nat) : Int) > IntKind.i64.max) := by
    show ¬ _ > (9223372036854775807 : Int)
    omega
  have h4 : (⟨s.toArray⟩ : ByteArray) ++ (⟨s'.toArray⟩ : ByteArray) = ⟨(s ++ s').toArray⟩ := by
    apply ByteArray.ext
    simp
  simp only [execOp, h1, h2, eqGuard, binOp, Op.stringOp, ba_size, h3, if_false, h4]
  simp [isS, str]
theorem WO.lenS (hx : opVA S x = some (isS s, ov)) (hu : P.underlying t = some .string) (hd : Nat.ble (d + 1) e.N = true)
    (h : WO P e Kp arr rest ⟨(d, isI .i64 s.length, none) :: S, B⟩ r) : WO P e Kp arr (mkOp d (.call { callee := .builtin .len, args := #[x], argTypes := #[t] }) ty pos af :: rest) ⟨S, B⟩ r := by
  refine .calc hd (fun a w hk => ?_) h
  have h1 := hk.ev hx
  simp only [isS, str] at h1
  simp [execOp, resolve, invoke, builtin, Builtin.len_, h1, run_underlying hu, goInt, isI, ba_size]
theorem WO.lenL {α : Type} {T : Ty α} {xs : List α} {el : TypeId} (hx : opVA S x = some ((tL T).va xs, ov)) (hu : P.underlying t = some (.slice el)) (hd : Nat.ble (d + 1) e.N = true)
    (h : WO P e Kp arr rest ⟨(d, isI .i64 xs.length, none) :: S, B⟩ r) : WO P e Kp arr (mkOp d (.call { callee := .builtin .len, args := #[x], argTypes := #[t] }) ty pos af :: rest) ⟨S, B⟩ r := by
  refine .calc hd (fun a w hk => ?_) h
  obtain ⟨ad, len, cap, cs, h1, h2, -⟩ := hk.ev hx
  simp [execOp, resolve, invoke, builtin, Builtin.len_, h1, run_underlying hu, goInt, isI, h2]
theorem WO.idxS (hx : opVA S x = some (isS s, ov)) (hy : opVA S y = some (isI κ m, ov')) (hu : P.underlying t = some .string) (hd : Nat.ble (d + 1) e.N = true)
    (h : WO P e Kp arr rest ⟨(d, isI .u8 ((s.getD m.toNat 0).toNat), none) :: S, B⟩ r) : WO P e Kp arr (mkOp d (.index t x y) ty pos af :: rest) ⟨S, B⟩ (cond (decide (0 ≤ m) && decide (m < s.length)) r none) := by
  intro z hz
  by_cases h0 : 0 ≤ m ∧ m < s.length
  case neg =>
    have : (decide (0 ≤ m) && decide (m < (s.length : Int))) = false := by simpa using h0
    simp [this] at hz
  obtain ⟨h0, h1⟩ := h0
  simp only [h0, h1, decide_true, Bool.and_self, cond_true] at hz
  refine WO.calc hd (fun a w hk => ?_) h z hz
  have hx' := hk.ev hx
  have hy' := hk.ev hy
  simp only [isS, isI, str] at hx' hy'
  have hl : m.toNat < s.length := by omega
  simp [execOp, hx', hy', Instr.index, asIntOf, run_underlying hu, h0, ba_get, hl, isI]
end
end Go.HL
namespace Go.HL
def aggD : TypeDesc → Bool | .struct _ | .array _ _ => true | _ => false
structure TyAt (P : Program) (t : TypeId) (sz : Nat) (agg : Bool) : Prop where
  size' : (P.info? t).map (·.size) = some sz
  kind' : (P.underlying t).map aggD = some agg
theorem TyAt.size {P : Program} {t sz agg} (h : TyAt P t sz agg) : ∃ i, P.info? t = some i ∧ i.size = sz := by
  have := h.size'
  cases hi : P.info? t with
  | none => simp [hi] at this
  | some i => exact ⟨i, rfl, by simpa [hi] using this⟩
theorem TyAt.kind {P : Program} {t sz agg} (h : TyAt P t sz agg) : ∃ dsc, P.underlying t = some dsc ∧ aggD dsc = agg := by
  have := h.kind'
  cases hi : P.underlying t with
  | none => simp [hi] at this
  | some i => exact ⟨i, rfl, by simpa [hi] using this⟩
structure FldAt (P : Program) (t : TypeId) (i off : Nat) : Prop where
  off' : (P.underlying t).bind (fun | .struct fs => (fs[i]?).map (·.offset) | _ => none) = some off
  size' : ((P.underlying t).bind (fun | .struct fs => (fs[i]?).bind (fun fd => (P.info? fd.type).map (·.size)) | _ => none)).map (fun n => Nat.beq n 0) = some false
theorem FldAt.out {P : Program} {t i off} (h : FldAt P t i off) : ∃ fs fd info, P.underlying t = some (.struct fs) ∧ fs[i]? = some fd ∧ fd.offset = off ∧ P.info? fd.type = some info ∧ info.size ≠ 0 := by
  obtain ⟨h1, h2⟩ := h
  cases hu : P.underlying t with
  | none => simp [hu] at h1
  | some dd =>
    cases dd <;> simp [hu] at h1
    rename_i fs
    obtain ⟨fd, h3, h4⟩ := h1
    simp only [hu, Option.bind_some, h3] at h2
    cases h5 : P.info? fd.type with
    | none => rw [h5] at h2; cases h2
    | some info =>
      rw [h5] at h2
      refine ⟨fs, fd, info, rfl, h3, h4, h5, fun h0 => ?_⟩
      simp [h0] at h2
theorem Addr.add0 (b o n : Nat) : (⟨b, o, none⟩ : Addr).add n = ⟨b, o + n, none⟩ := by unfold Addr.add; split <;> simp_all
theorem TyAt.sizeOf {P : Program} {t sz agg} (h : TyAt P t sz agg) (w : World) : (sizeOf t).run P w = .ok sz w := by
  obtain ⟨i, h1, h2⟩ := h.size
  simp [Go.sizeOf, typeInfo, h1, h2]
theorem TyAt.isAgg {P : Program} {t sz agg} (h : TyAt P t sz agg) (w : World) : (isAgg t).run P w = .ok agg w := by
  obtain ⟨dsc, h1, h2⟩ := h.kind
  subst h2
  simp only [Go.isAgg, Sem.run_bind, run_underlying h1, Result.andThen_ok]
  cases dsc <;> rfl
theorem run_loadVar {α : Type} {T : Ty α} {P : Program} {t} (ht : TyAt P t T.sz T.agg) {d cs A w b o} (hr : T.rel d cs A w) (hc : ∀ j (h : j < cs.length), w.cell? ⟨b, o + j, none⟩ = some cs[j]) :
    (loadVar t ⟨b, o, none⟩).run P w = .ok (wrap T.agg cs) w := by
  have hl := T.len hr
  have hcells : ∀ j v, cs[j]? = some v → w.cell? ((⟨b, o, none⟩ : Addr).add j) = some v := by
    intro j v hj
    obtain ⟨hj', hv⟩ := List.getElem?_eq_some_iff.1 hj
    rw [Addr.add0, hc j hj', hv]
  simp only [loadVar, Sem.run_bind, ht.isAgg, Result.andThen_ok]
  cases ha : T.agg with
  | true =>
    simp only [if_true, Sem.run_bind, ht.sizeOf, Result.andThen_ok]
    rw [← hl, run_loadCells_list w _ cs hcells]
    rfl
  | false =>
    have h1 := T.one ha
    rw [h1] at hl
    match cs, hl with
    | [c], _ =>
      have := hcells 0 c rfl
      rw [Addr.add0, Nat.add_zero] at this
      simp [run_load, this, wrap]
section
variable {P : Program} {f : FuncId} {e : Env} {ρ : Type} {R : ρ → Value → World → Prop} {Kp : ρ → Act → World → Prop}
variable {k : List Item} {r : Option ρ} {arr : Array Oper} {rest : List Oper}
variable {S : List (Nat × Ent)} {B : List Own} {d : Nat} {ty t u : TypeId} {pos : String} {af : Array Edge} {ov ov' : Option Value}
variable {x y z : Operand} {κ : IntKind} {m n : Int} {b c : Bool} {s s' : List UInt8} {α β : Type} {T : Ty α} {U : Ty β} {v : α} {xs : List α}
theorem WO.load (hx : opVA S x = some (isAt T v, ov)) (ht : TyAt P t T.sz T.agg) (hd : Nat.ble (d + 1) e.N = true)
    (h : WO P e Kp arr rest ⟨(d, T.va v, none) :: S, B⟩ r) : WO P e Kp arr (mkOp d (.load t x) ty pos af :: rest) ⟨S, B⟩ r := by
  refine .calc hd (fun a w hk => ?_) h
  obtain ⟨b, o, cs, h1, h2, h3⟩ := hk.ev hx
  refine ⟨wrap T.agg cs, ?_, T.iff.2 ⟨cs, rfl, h2⟩⟩
  have h4 := run_loadVar ht h2 (fun j hj => (h3 j hj).2)
  simp [execOp, Instr.loadAt, h1, Instr.sureAddr, h4]
theorem WO.fieldAt {off i : Nat} {g : α → β} {st : α → β → α} (hf : Fld T off U g st) (hx : opVA S x = some (isAt T v, ov))
    (hu : FldAt P t i off) (hd : Nat.ble (d + 1) e.N = true)
    (h : WO P e Kp arr rest ⟨(d, isAt U (g v), none) :: S, B⟩ r) : WO P e Kp arr (mkOp d (.fieldAddr t x i) ty pos af :: rest) ⟨S, B⟩ r := by
  refine .calc hd (fun a w hk => ?_) h
  obtain ⟨b, o, cs, h1, h2, h3⟩ := hk.ev hx
  obtain ⟨fs, fd, info, h4, h5, h6, h7, h8⟩ := hu.out
  refine ⟨.pointer (some ⟨b, o + off, none⟩), ?_, b, o + off, _, rfl, hf.get h2, h3.part _ _⟩
  simp [execOp, Instr.fieldAt, run_underlying h4, h5, h1, Instr.sureAddr, fieldPlace, sizeOf, typeInfo, h7, h8, Addr.add0, h6]
theorem WO.elemAt {el : TypeId} {ag : Bool} (hx : opVA S x = some ((tL T).va xs, ov)) (hy : opVA S y = some (isI κ m, ov')) (hu : P.underlying t = some (.slice el)) (he : TyAt P el T.sz ag) [Inhabited α] (hd : Nat.ble (d + 1) e.N = true)
    (h : WO P e Kp arr rest ⟨(d, isAt T (xs.getD m.toNat default), none) :: S, B⟩ r) : WO P e Kp arr (mkOp d (.indexAddr t x y) ty pos af :: rest) ⟨S, B⟩ (cond (decide (0 ≤ m) && decide (m < xs.length)) r none) := by
  intro z hz
  by_cases h0 : 0 ≤ m ∧ m < xs.length
  case neg =>
    have : (decide (0 ≤ m) && decide (m < (xs.length : Int))) = false := by simpa using h0
    simp [this] at hz
  obtain ⟨h0, h1⟩ := h0
  simp only [h0, h1, decide_true, Bool.and_self, cond_true] at hz
  refine WO.calc hd (fun a w hk => ?_) h z hz
  obtain ⟨ad, n, cp, cs, hv, hn, hc, -, hfl, hcl⟩ := hk.ev hx
  have hy' := hk.ev hy
  simp only [isI] at hy'
  obtain ⟨b, o, rfl, h3⟩ := hcl (by omega)
  have hl : m.toNat < xs.length := by omega
  refine ⟨.pointer (some ⟨b, o + m.toNat * T.sz, none⟩), ?_, b, _, _, rfl, ?_, h3.part (m.toNat * T.sz) T.sz⟩
  · have h5 : m < (n : Int) := by omega
    simp [execOp, Instr.indexAt, hv, hy', asIntOf, run_underlying hu, h0, h5, he.sizeOf, Addr.add0]
  · rw [List.getD_eq_getElem?_getD, List.getElem?_eq_getElem hl]
    exact hfl.get _ hl
end
end Go.HL
namespace Go.HL
theorem plain_one {v : Value} (h : plainV v = true) : v.oneCell' = true := by cases v <;> simp_all [plainV, Value.oneCell']
theorem alloc_size (w : World) (o : Obj) : (w.alloc o).heap.size = w.heap.size + 1 := Array.size_push ..
theorem alloc_new (w : World) (o : Obj) : (w.alloc o).heap[w.heap.size]? = some o := Array.getElem?_push_size ..
theorem alloc_old (w : World) (o : Obj) (b : Nat) (h : b < w.heap.size) : (w.alloc o).heap[b]? = w.heap[b]? := by
  show (w.heap.push o)[b]? = _
  rw [Array.getElem?_push, if_neg (by omega)]
structure ZeroAt (P : Program) (t : TypeId) {α : Type} (T : Ty α) (d0 : α) (kn : List (Nat × Value)) : Prop where
  h : ∃ c, (P.info? t).bind (·.zero) = some c ∧ (∀ A w, T.rel d0 c.cells.toList A w) ∧ ∀ p ∈ kn, c.cells.toList[p.1]? = some p.2
def boxO {α : Type} (b : Nat) (T : Ty α) (d : α) (kn : List (Nat × Value)) : Own where
  blk := some b
  lo := 0
  ok A w := ∃ cs et, w.heap[b]? = some (.cells cs.toArray et (0, 0)) ∧ T.rel d cs A w ∧ ∀ p ∈ kn, cs[p.1]? = some p.2
  good := fun h hb ⟨cs, et, h1, h2, h3⟩ => ⟨cs, et, by rw [hb b rfl]; exact h1, T.good h h2, h3⟩
def cutK (kn : List (Nat × Value)) (off sz : Nat) : List (Nat × Value) := kn.filter fun p => Nat.blt p.1 off || Nat.ble (off + sz) p.1
section
variable {P : Program} {f : FuncId} {e : Env} {ρ : Type} {R : ρ → Value → World → Prop} {Kp : ρ → Act → World → Prop}
variable {S : List (Nat × Ent)} {B : List Own} {a : Act} {w : World}
theorem Same0.step {w0 w w' : World} {F : Ar} (h : Same0 w0 F w) (h1 : w'.os = w.os) (h2 : w'.tape = w.tape) (h3 : w'.output = w.output) (h4 : w.heap.size ≤ w'.heap.size)
    (h5 : ∀ b, b < w0.heap.size → (∀ o, ¬ F b o) → w'.heap[b]? = w.heap[b]?) (h6 : ∀ b o, b < w0.heap.size → ¬ F b o → w'.cell? ⟨b, o, none⟩ = w.cell? ⟨b, o, none⟩) : Same0 w0 F w' :=
  ⟨h1.trans h.os, h2.trans h.tape, h3.trans h.output, Nat.le_trans h.size h4, fun b hb hf => (h5 b hb hf).trans (h.block b hb hf), fun b o hb hf => (h6 b o hb hf).trans (h.cell b o hb hf)⟩
theorem cell_of_block {w w' : World} {b : Nat} (h : w'.heap[b]? = w.heap[b]?) (o : Nat) : w'.cell? ⟨b, o, none⟩ = w.cell? ⟨b, o, none⟩ := by simp [World.cell?, h]
theorem Holds.grow {w' : World} (h : Holds e ⟨S, B⟩ a w) (h1 : w'.os = w.os) (h2 : w'.tape = w.tape) (h3 : w'.output = w.output) (h4 : w.heap.size ≤ w'.heap.size) (h5 : ∀ b, b < w.heap.size → w'.heap[b]? = w.heap[b]?) :
    Holds e ⟨S, B⟩ a w' ∧ Same (Acur e B w) (Acur e B w') w w' := by
  have hs : Same (Acur e B w) (Acur e B w') w w' := fun b o ⟨ha, hb, hc⟩ => ⟨⟨ha, Nat.lt_of_lt_of_le hb h4, hc⟩, cell_of_block (h5 b hb) o⟩
  have hw := h.same.size
  refine ⟨{ h with slots := fun t P ht => (h.slots t P ht).good hs, owns := fun O hO => O.good hs (fun b hb => h5 b (h.fresh O hO b hb).1) (h.owns O hO), fresh := fun O hO b hb => ⟨Nat.lt_of_lt_of_le (h.fresh O hO b hb).1 h4, (h.fresh O hO b hb).2⟩, same := h.same.step h1 h2 h3 h4 (fun b hb _ => h5 b (by omega)) (fun b o hb _ => cell_of_block (h5 b (by omega)) o) }, hs⟩
theorem Holds.own {O : Own} {w' : World} (h : Holds e ⟨S, B⟩ a w) (h1 : w'.os = w.os) (h2 : w'.tape = w.tape) (h3 : w'.output = w.output) (h4 : w.heap.size < w'.heap.size) (h5 : ∀ b, b < w.heap.size → w'.heap[b]? = w.heap[b]?)
    (hb : ∀ b, O.blk = some b → w.heap.size ≤ b ∧ b < w'.heap.size) (hok : Same (Acur e B w) (Acur e (O :: B) w') w w' → O.ok (Acur e (O :: B) w') w') : Holds e ⟨S, O :: B⟩ a w' ∧ Same (Acur e B w) (Acur e (O :: B) w') w w' := by
  have hs : Same (Acur e B w) (Acur e (O :: B) w') w w' := fun b o ⟨ha, hlt, hc⟩ => ⟨⟨ha, by omega, fun O' hO' => by
    rcases List.mem_cons.1 hO' with rfl | hm
    · rintro ⟨hk, _⟩
      have := hb b hk
      omega
    · exact hc O' hm⟩, cell_of_block (h5 b hlt) o⟩
  have hw := h.same.size
  refine ⟨{ size := h.size, defers := h.defers, old := h.old, gl := h.gl, slots := fun t P ht => (h.slots t P ht).good hs, owns := ?_, fresh := ?_, apart := ?_, same := h.same.step h1 h2 h3 (by omega) (fun b hb _ => h5 b (by omega)) (fun b o hb _ => cell_of_block (h5 b (by omega)) o) }, hs⟩
  · intro O' hO'
    rcases List.mem_cons.1 hO' with rfl | hm
    · exact hok hs
    · exact O'.good hs (fun b hb => h5 b (h.fresh O' hm b hb).1) (h.owns O' hm)
  · intro O' hO' b hb'
    rcases List.mem_cons.1 hO' with rfl | hm
    · have := hb b hb'
      exact ⟨this.2, .inl (by omega)⟩
    · have := h.fresh O' hm b hb'
      exact ⟨by omega, this.2⟩
  · refine List.pairwise_cons.2 ⟨fun O' hm b hb' hk => ?_, h.apart⟩
    have := hb b hb'
    have := h.fresh O' hm b hk
    omega
variable {k : List Item} {r : Option ρ} {arr : Array Oper} {rest : List Oper}
variable {d : Nat} {ty t u : TypeId} {pos : String} {af : Array Edge} {ov ov' : Option Value}
variable {x y z : Operand} {κ : IntKind} {m n : Int} {b : Nat} {α β : Type} {T : Ty α} {U : Ty β} {v : α} {xs : List α}
theorem WO.opX {K : Ctx} {o : Oper} {d : Nat} (hg : o.guard = none) (ho : o.dst = some d)
    (hrun : ∀ a w, Holds e K a w → ∃ v w' K', (execOp a.eval o).run P w = .ok (.value v) w' ∧ Holds e K' (a.put (some d) v) w' ∧ WO P e Kp arr rest K' r) : WO P e Kp arr (o :: rest) K r := by
  intro x hx a w hk
  obtain ⟨v, w', K', hr, hk', h⟩ := hrun a w hk
  have hw : Region.wanted o (yielded arr a.tmps) = true := by simp [Region.wanted, hg]
  simp only [wpList, hw, if_true]
  left
  simp only [Oper.wp, hr, Oper.upon_value, ho]
  exact h x hx _ _ hk'
theorem WO.alloc (T : Ty α) (v : α) (kn : List (Nat × Value)) (hz : ZeroAt P t T v kn) (hd : Nat.ble (d + 1) e.N = true)
    (h : ∀ b, WO P e Kp arr rest ⟨(d, isP b 0, none) :: S, boxO b T v kn :: B⟩ r) : WO P e Kp arr (mkOp d (.alloc t) ty pos af :: rest) ⟨S, B⟩ r := by
  refine WO.opX rfl rfl fun a w hk => ?_
  obtain ⟨c, hz1, h3, h4⟩ := hz.h
  obtain ⟨i, h1, h2⟩ : ∃ i, P.info? t = some i ∧ i.zero = some c := by
    cases hi : P.info? t with
    | none => simp [hi] at hz1
    | some i => exact ⟨i, rfl, by simpa [hi] using hz1⟩
  refine ⟨.pointer (some ⟨w.heap.size, 0, none⟩), w.alloc (.cells c.cells t), ⟨(d, isP w.heap.size 0, none) :: S, boxO w.heap.size T v kn :: B⟩, ?_, ?_, h _⟩
  · simp [execOp, Instr.alloc, zeroValue, typeInfo, h1, h2, newVar, newRow]
  · refine (Holds.own hk (w' := w.alloc (.cells c.cells t)) (O := boxO w.heap.size T v kn) rfl rfl rfl (by rw [alloc_size]; omega) (fun b hb => alloc_old _ _ _ hb) (fun b hb => by injection hb with hb; subst hb; rw [alloc_size]; omega) (fun _ => ⟨c.cells.toList, t, alloc_new _ _, h3 _ _, h4⟩)).1.put (Nat.le_of_ble_eq_true hd) ⟨rfl, fun u hu => by cases hu⟩
theorem WO.box (hx : opVA S x = some (T.va v, ov)) (hd : Nat.ble (d + 1) e.N = true)
    (h : ∀ b, WO P e Kp arr rest ⟨(d, isP b 0, none) :: S, boxO b T v [] :: B⟩ r) : WO P e Kp arr (mkOp d (.box t x) ty pos af :: rest) ⟨S, B⟩ r := by
  refine WO.opX rfl rfl fun a w hk => ?_
  obtain ⟨cs, h1, h2⟩ := T.iff.1 (hk.ev hx)
  have h3 := T.cells h2
  refine ⟨.pointer (some ⟨w.heap.size, 0, none⟩), w.alloc (.cells cs.toArray t), ⟨(d, isP w.heap.size 0, none) :: S, boxO w.heap.size T v [] :: B⟩, ?_, ?_, h _⟩
  · simp [execOp, Instr.box, h1, newVar, newRow, h3]
  · refine (Holds.own hk (w' := w.alloc (.cells cs.toArray t)) (O := boxO w.heap.size T v []) rfl rfl rfl (by rw [alloc_size]; omega) (fun b hb => alloc_old _ _ _ hb) (fun b hb => by injection hb with hb; subst hb; rw [alloc_size]; omega) (fun hs => ⟨cs, t, alloc_new _ _, T.good hs h2, fun _ h => nomatch h⟩)).1.put (Nat.le_of_ble_eq_true hd) ⟨rfl, fun u hu => by cases hu⟩
theorem WO.fieldP {off i o : Nat} (hx : opVA S x = some (isP b o, ov))
    (hu : FldAt P t i off) (hd : Nat.ble (d + 1) e.N = true)
    (h : WO P e Kp arr rest ⟨(d, isP b (o + off), none) :: S, B⟩ r) : WO P e Kp arr (mkOp d (.fieldAddr t x i) ty pos af :: rest) ⟨S, B⟩ r := by
  refine .calc hd (fun a w hk => ?_) h
  have h1 := hk.ev hx
  simp only [isP] at h1
  obtain ⟨fs, fd, info, h4, h5, h6, h7, h8⟩ := hu.out
  refine ⟨.pointer (some ⟨b, o + off, none⟩), ?_, rfl⟩
  simp [execOp, Instr.fieldAt, run_underlying h4, h5, h1, Instr.sureAddr, fieldPlace, sizeOf, typeInfo, h7, h8, Addr.add0, h6]
theorem get_mem {B : List Own} {i : Nat} {O : Own} (h : B[i]? = some O) : O ∈ B := List.mem_of_getElem? h
theorem WO.loadP (i : Nat) {off : Nat} {g : α → β} {st : α → β → α} (hf : Fld T off U g st) (hx : opVA S x = some (isP b off, ov)) {kn : List (Nat × Value)} (hB : B[i]? = some (boxO b T v kn)) (ht : TyAt P t U.sz U.agg) (hd : Nat.ble (d + 1) e.N = true)
    (h : WO P e Kp arr rest ⟨(d, U.va (g v), none) :: S, B⟩ r) : WO P e Kp arr (mkOp d (.load t x) ty pos af :: rest) ⟨S, B⟩ r := by
  refine .calc hd (fun a w hk => ?_) h
  have h1 := hk.ev hx
  simp only [isP] at h1
  obtain ⟨cs, et, h2, h3, hkn⟩ := hk.owns _ (get_mem hB)
  have h5 := hf.get h3
  have hle := hf.le
  have hlen := T.len h3
  refine ⟨_, ?_, U.iff.2 ⟨_, rfl, h5⟩⟩
  have h4 := run_loadVar (P := P) (b := b) (o := off) ht h5 (fun j hj => by
    have hj' : j < U.sz ∧ off + j < cs.length := by simp at hj; omega
    simp only [World.cell?, h2]
    simp [hj'.1, hj'.2])
  simp [execOp, Instr.loadAt, h1, Instr.sureAddr, h4]
theorem opS' {K : Ctx} {o : Oper} (hg : o.guard = none) (ho : o.dst = none)
    (hrun : ∀ a w, Holds e K a w → ∃ w' K', (execOp a.eval o).run P w = .ok .skip w' ∧ Holds e K' a w' ∧ WO P e Kp arr rest K' r) : WO P e Kp arr (o :: rest) K r := by
  intro x hx a w hk
  obtain ⟨w', K', hr, hk', h⟩ := hrun a w hk
  have hw : Region.wanted o (yielded arr a.tmps) = true := by simp [Region.wanted, hg]
  simp only [wpList, hw, if_true]
  left
  simp only [Oper.wp, hr, Oper.upon_skip, ho]
  exact h x hx _ _ hk'
theorem Holds.write {i : Nat} {O O' : Own} {w' : World} (h : Holds e ⟨S, B⟩ a w) (hB : B[i]? = some O) (hb : O'.blk = O.blk) (hlo : O'.lo = O.lo) (h1 : w'.os = w.os) (h2 : w'.tape = w.tape) (h3 : w'.output = w.output) (h4 : w'.heap.size = w.heap.size)
    (h5 : ∀ b, O.blk ≠ some b → w'.heap[b]? = w.heap[b]?) (h6 : ∀ b o, O.blk = some b → o < O.lo → w'.cell? ⟨b, o, none⟩ = w.cell? ⟨b, o, none⟩)
    (hok : Same (Acur e B w) (Acur e (B.set i O') w') w w' → O'.ok (Acur e (B.set i O') w') w') : Holds e ⟨S, B.set i O'⟩ a w' := by
  have hi : i < B.length := (List.getElem?_eq_some_iff.1 hB).1
  have hBi : B[i] = O := (List.getElem?_eq_some_iff.1 hB).2
  have hmem : ∀ Q ∈ B.set i O', Q = O' ∨ (Q ∈ B ∧ ∀ b, O.blk = some b → Q.blk ≠ some b) := by
    intro Q hQ
    obtain ⟨j, hj, hQj⟩ := List.getElem_of_mem hQ
    rw [List.getElem_set] at hQj
    by_cases hij : i = j
    · left; rw [if_pos hij] at hQj; exact hQj.symm
    · right
      rw [if_neg hij] at hQj
      have hj' : j < B.length := by simpa using hj
      refine ⟨hQj ▸ List.getElem_mem hj', fun b hb hk => ?_⟩
      have hp := List.pairwise_iff_getElem.1 h.apart
      rcases Nat.lt_or_gt_of_ne hij with hl | hl
      · exact hp i j hi hj' hl b (hBi ▸ hb) (hQj ▸ hk)
      · exact hp j i hj' hi hl b (hQj ▸ hk) (hBi ▸ hb)
  have hs : Same (Acur e B w) (Acur e (B.set i O') w') w w' := by
    intro b o ⟨ha, hlt, hc⟩
    have hcell : w'.cell? ⟨b, o, none⟩ = w.cell? ⟨b, o, none⟩ := by
      by_cases hbk : O.blk = some b
      · refine h6 b o hbk ?_
        have := hc O (hBi ▸ List.getElem_mem hi)
        unfold Own.foot at this
        have : ¬ O.lo ≤ o := fun hh => this ⟨hbk, hh⟩
        omega
      · exact cell_of_block (h5 b hbk) o
    refine ⟨⟨ha, by omega, fun Q hQ => ?_⟩, hcell⟩
    rcases hmem Q hQ with rfl | ⟨hm, _⟩
    · have := hc O (hBi ▸ List.getElem_mem hi)
      unfold Own.foot at this ⊢
      rw [hb, hlo]; exact this
    · exact hc Q hm
  have hfr := h.fresh O (hBi ▸ List.getElem_mem hi)
  refine { size := h.size, defers := h.defers, old := h.old, gl := h.gl, slots := fun t P ht => (h.slots t P ht).good hs, owns := ?_, fresh := ?_, apart := ?_, same := h.same.step h1 h2 h3 (by omega) ?_ ?_ }
  · intro Q hQ
    rcases hmem Q hQ with rfl | ⟨hm, hne⟩
    · exact hok hs
    · exact Q.good hs (fun b hb => h5 b (fun hk => hne b hk hb)) (h.owns Q hm)
  · intro Q hQ b hbk
    rcases hmem Q hQ with rfl | ⟨hm, _⟩
    · have := hfr b (hb ▸ hbk)
      rw [hlo, h4]; exact this
    · have := h.fresh Q hm b hbk
      rw [h4]; exact this
  · refine List.pairwise_iff_getElem.2 fun p q hp hq hpq b hbp hbq => ?_
    have hP := List.pairwise_iff_getElem.1 h.apart
    have hp' : p < B.length := by simpa using hp
    have hq' : q < B.length := by simpa using hq
    rw [List.getElem_set] at hbp hbq
    have e1 : B[p].blk = some b := by
      by_cases hip : i = p
      · subst hip; rw [if_pos rfl, hb] at hbp; rw [hBi]; exact hbp
      · rw [if_neg hip] at hbp; exact hbp
    have e2 : B[q].blk = some b := by
      by_cases hip : i = q
      · subst hip; rw [if_pos rfl, hb] at hbq; rw [hBi]; exact hbq
      · rw [if_neg hip] at hbq; exact hbq
    exact hP p q hp' hq' hpq b e1 e2
  · intro b hb' hF
    by_cases hbk : O.blk = some b
    · exact absurd (hfr b hbk).2 (by rintro (h0 | h0); omega; exact hF _ (h0 _ (Nat.le_refl _)))
    · exact h5 b hbk
  · intro b o hb' hF
    by_cases hbk : O.blk = some b
    · rcases (hfr b hbk).2 with h0 | h0
      · omega
      · exact h6 b o hbk (Nat.lt_of_not_le fun hh => hF (h0 o hh))
    · exact cell_of_block (h5 b hbk) o
theorem cutK_get {kn : List (Nat × Value)} {cs c : List Value} {off : Nat} (hk : ∀ p ∈ kn, cs[p.1]? = some p.2) (hl : off + c.length ≤ cs.length) : ∀ p ∈ cutK kn off c.length, (cs.take off ++ c ++ cs.drop (off + c.length))[p.1]? = some p.2 := by
  intro p hp
  obtain ⟨h1, h2⟩ := List.mem_filter.1 hp
  have h3 := hk p h1
  have htl : (cs.take off).length = off := by rw [List.length_take]; omega
  rw [Bool.or_eq_true] at h2
  rcases h2 with h2 | h2
  · have h4 : p.1 < off := by simpa [Nat.blt_eq] using h2
    rw [List.append_assoc, List.getElem?_append_left (by omega), List.getElem?_take_of_lt h4, h3]
  · have h4 : off + c.length ≤ p.1 := Nat.le_of_ble_eq_true h2
    rw [List.getElem?_append_right (by rw [List.length_append]; omega), List.getElem?_drop, List.length_append, htl]
    rw [show off + c.length + (p.1 - (off + c.length)) = p.1 by omega, h3]
theorem storeP_aux (i : Nat) {off : Nat} {g : α → β} {st : α → β → α} {q : β} (hf : Fld T off U g st) (hx : opVA S x = some (isP b off, ov)) {kn kn' : List (Nat × Value)} (hB : B[i]? = some (boxO b T v kn)) (hy : opVA S y = some (U.va q, ov')) (ht : TyAt P t U.sz U.agg)
    (hkn : ∀ (cs c : List Value), c.length = U.sz → (∀ p ∈ kn, cs[p.1]? = some p.2) → off + c.length ≤ cs.length → (∀ u, ov' = some u → wrap U.agg c = u) → ∀ p ∈ kn', (cs.take off ++ c ++ cs.drop (off + c.length))[p.1]? = some p.2)
    (h : WO P e Kp arr rest ⟨S, B.set i (boxO b T (st v q) kn')⟩ r) : WO P e Kp arr (mkOpN (.store t x y) ty pos af :: rest) ⟨S, B⟩ r := by
  refine opS' rfl rfl fun a w hk => ?_
  have h1 := hk.ev hx
  simp only [isP] at h1
  obtain ⟨c, h6, h7⟩ := U.iff.1 (hk.ev hy)
  have h9 := (hk.ev' (K := ⟨S, B⟩) hy).2
  rw [h6] at h9
  obtain ⟨cs, et, h2, h3, h5⟩ := hk.owns _ (get_mem hB)
  have hle := hf.le
  have hlen := T.len h3
  have hc := U.len h7
  have hst := run_storeCells_at (P := P) b off et c 0 cs.toArray w h2 (by simp; omega) (fun v hv => plain_one (U.plain h7 v hv))
  simp only [Nat.add_zero] at hst
  refine ⟨w.setRow b (cs.take off ++ c ++ cs.drop (off + c.length)).toArray, ⟨S, B.set i (boxO b T (st v q) kn')⟩, ?_, ?_, h⟩
  · have h8 := U.cells h7
    simp only [execOp, Instr.storeAt, h1, Instr.sureAddr, h6, storeVar, Sem.run_bind, Sem.run_pure, Result.andThen_ok, ht.sizeOf, h8]
    simp [hc, hst]
  · refine Holds.write hk hB rfl rfl rfl rfl rfl (by simp [World.setRow]) (fun b' hb' => setRow_other _ _ _ _ (fun hh => hb' (by rw [hh]; rfl))) (fun b' o _ ho => absurd ho (Nat.not_lt_zero _)) (fun hs => ⟨_, et, setRow_heap w b _ _ _ _ h2, ?_, hkn cs c hc h5 (by omega) h9⟩)
    rw [hc] at hs ⊢
    exact hf.set (T.good hs h3) (U.good hs h7)
theorem WO.storeP (i : Nat) {off : Nat} {g : α → β} {st : α → β → α} {q : β} (hf : Fld T off U g st) (hx : opVA S x = some (isP b off, ov)) {kn : List (Nat × Value)} (hB : B[i]? = some (boxO b T v kn)) (hy : opVA S y = some (U.va q, ov')) (ht : TyAt P t U.sz U.agg)
    (h : WO P e Kp arr rest ⟨S, B.set i (boxO b T (st v q) (cutK kn off U.sz))⟩ r) : WO P e Kp arr (mkOpN (.store t x y) ty pos af :: rest) ⟨S, B⟩ r :=
  storeP_aux i hf hx hB hy ht (fun cs c hc h1 h2 _ => hc ▸ cutK_get h1 h2) h
end
end Go.HL
namespace Go.HL
structure Pre (A : Ar) (w : World) (O : List Own) : Prop where
  old : ∀ b o, A b o → b < w.heap.size ∧ ∀ Q ∈ O, ¬ Q.foot b o
  ok : ∀ Q ∈ O, Q.ok A w
  blk : ∀ Q ∈ O, ∀ b, Q.blk = some b → b < w.heap.size
  apart : O.Pairwise (fun Q Q' => ∀ b, Q.blk = some b → Q'.blk ≠ some b)
  gl : Glob A w
def footL (O : List Own) : Ar := fun b o => ∃ Q ∈ O, Q.foot b o
def Anew (A : Ar) (w : World) (O : List Own) (w' : World) (O' : List Own) : Ar := fun b o => (A b o ∨ w.heap.size ≤ b ∨ footL O b o) ∧ b < w'.heap.size ∧ ∀ Q ∈ O', ¬ Q.foot b o
structure Post (A : Ar) (w : World) (O O' : List Own) (w' : World) : Prop where
  same : Same0 w (footL O) w'
  ok : ∀ Q ∈ O', Q.ok (Anew A w O w' O') w'
  fresh : ∀ Q ∈ O', ∀ b, Q.blk = some b → b < w'.heap.size ∧ (w.heap.size ≤ b ∨ ∀ o, Q.lo ≤ o → footL O b o)
  apart : O'.Pairwise (fun Q Q' => ∀ b, Q.blk = some b → Q'.blk ≠ some b)
def Ctr {ρ : Type} (P : Program) (k : FuncId) (vs : List VA) (O : List Own) (y : Option ρ) (O' : ρ → Value → List Own) (Q : ρ → VA) : Prop :=
  ∀ q, y = some q → ∀ A w args, Pre A w O → Args A w args vs → Rets P k args w fun v w' => Post A w O (O' q v) w' ∧ (Q q).f v (Anew A w O w' (O' q v)) w'
def opVAs (S : List (Nat × Ent)) : List Operand → Option (List VA)
  | [] => some []
  | x :: xs => match opVA S x with
    | some Q => match opVAs S xs with
      | some Qs => some (Q.1 :: Qs)
      | none => none
    | none => none
section
variable {P : Program} {f : FuncId} {e : Env} {ρ σ : Type} {R : ρ → Value → World → Prop} {Kp : ρ → Act → World → Prop}
variable {S : List (Nat × Ent)} {B : List Own} {a : Act} {w : World}
theorem Holds.args (h : Holds e ⟨S, B⟩ a w) : ∀ {xs : List Operand} {vs}, opVAs S xs = some vs → Args (Acur e B w) w (xs.map a.eval) vs
  | [], _, hx => by injection hx with hx; subst hx; exact .nil
  | x :: xs, vs, hx => by
    simp only [opVAs] at hx
    cases h1 : opVA S x with
    | none => simp [h1] at hx
    | some Q =>
      cases h2 : opVAs S xs with
      | none => simp [h1, h2] at hx
      | some Qs =>
        simp [h1, h2] at hx
        subst hx
        exact .cons (h.ev' h1).1 (h.args h2)
variable {k : List Item} {r : Option ρ} {arr : Array Oper} {rest : List Oper}
variable {d : Nat} {ty t u : TypeId} {pos : String} {af : Array Edge} {ov ov' : Option Value}
theorem Holds.called {O Ol B' : List Own} {w' : World} (hk : Holds e ⟨S, O ++ B'⟩ a w) (hp : Post (Acur e (O ++ B') w) w O Ol w') : Holds e ⟨S, Ol ++ B'⟩ a w' ∧ Same (Anew (Acur e (O ++ B') w) w O w' Ol) (Acur e (Ol ++ B') w') w' w' := by
  have hap := List.pairwise_append.1 hk.apart
  have hfoot : ∀ b o, b < w.heap.size → Acur e (O ++ B') w b o → ∀ Q ∈ Ol, ¬ Q.foot b o := by
    rintro b o hlt ⟨_, _, h2⟩ Q hQ ⟨hb, hlo⟩
    rcases (hp.fresh Q hQ b hb).2 with h3 | h3
    · omega
    · obtain ⟨Q', hQ', hf'⟩ := h3 o hlo
      exact h2 Q' (List.mem_append_left _ hQ') hf'
  have hnf : ∀ b o, Acur e (O ++ B') w b o → ¬ footL O b o := fun b o ⟨_, _, h2⟩ ⟨Q, hQ, hf'⟩ => h2 Q (List.mem_append_left _ hQ) hf'
  have hsz := hp.same.size
  have hs : Same (Acur e (O ++ B') w) (Acur e (Ol ++ B') w') w w' := by
    intro b o hA'
    refine ⟨⟨hA'.1, Nat.lt_of_lt_of_le hA'.2.1 hsz, fun Q hQ => ?_⟩, hp.same.cell b o hA'.2.1 (hnf b o hA')⟩
    rcases List.mem_append.1 hQ with hQ | hQ
    · exact hfoot b o hA'.2.1 hA' Q hQ
    · exact hA'.2.2 Q (List.mem_append_right _ hQ)
  have hBblk : ∀ Q ∈ B', ∀ b, Q.blk = some b → w'.heap[b]? = w.heap[b]? := by
    intro Q hQ b hb
    refine hp.same.block b (hk.fresh Q (List.mem_append_right _ hQ) b hb).1 ?_
    rintro o ⟨Q', hQ', hb', _⟩
    exact hap.2.2 Q' hQ' Q hQ b hb' hb
  have hw0 := hk.same.size
  have hsA : ∀ b o, Anew (Acur e (O ++ B') w) w O w' (Ol) b o → (∀ Q ∈ B', ¬ Q.foot b o) := by
    rintro b o ⟨h1, h2, h3⟩ Q hQ hf'
    rcases h1 with h1 | h1 | ⟨Q', hQ', hb', _⟩
    · exact h1.2.2 Q (List.mem_append_right _ hQ) hf'
    · have := (hk.fresh Q (List.mem_append_right _ hQ) b hf'.1).1
      omega
    · exact hap.2.2 Q' hQ' Q hQ b hb' hf'.1
  have hsN : Same (Anew (Acur e (O ++ B') w) w O w' (Ol)) (Acur e (Ol ++ B') w') w' w' := by
    intro b o hh
    refine ⟨⟨?_, hh.2.1, fun Q hQ => ?_⟩, rfl⟩
    · rcases hh.1 with h1 | h1 | ⟨Q', hQ', hb', ho'⟩
      · exact h1.1
      · right; left; omega
      · rcases (hk.fresh Q' (List.mem_append_left _ hQ') b hb').2 with h4 | h4
        · exact .inr (.inl h4)
        · exact .inr (.inr (h4 o ho'))
    · rcases List.mem_append.1 hQ with hQ | hQ
      · exact hh.2.2 Q hQ
      · exact hsA b o hh Q hQ
  have hk' : Holds e ⟨S, Ol ++ B'⟩ a w' := {
    size := hk.size
    defers := hk.defers
    old := hk.old
    gl := hk.gl
    slots := fun t P ht => (hk.slots t P ht).good hs
    owns := fun Q hQ => by
      rcases List.mem_append.1 hQ with hQ | hQ
      · exact Q.good hsN (fun _ _ => rfl) (hp.ok Q hQ)
      · exact Q.good hs (hBblk Q hQ) (hk.owns Q (List.mem_append_right _ hQ))
    fresh := fun Q hQ b hb => by
      rcases List.mem_append.1 hQ with hQ | hQ
      · refine ⟨(hp.fresh Q hQ b hb).1, ?_⟩
        rcases (hp.fresh Q hQ b hb).2 with h3 | h3
        · left; omega
        · by_cases hbb : e.w0.heap.size ≤ b
          · exact .inl hbb
          · right
            intro o ho
            obtain ⟨Q', hQ', hb', ho'⟩ := h3 o ho
            rcases (hk.fresh Q' (List.mem_append_left _ hQ') b hb').2 with h4 | h4
            · omega
            · exact h4 o ho'
      · have := hk.fresh Q (List.mem_append_right _ hQ) b hb
        exact ⟨by omega, this.2⟩
    apart := List.pairwise_append.2 ⟨hp.apart, hap.2.1, fun Q hQ Q' hQ' b hb hb' => by
      have h5 := hk.fresh Q' (List.mem_append_right _ hQ') b hb'
      rcases (hp.fresh Q hQ b hb).2 with h3 | h3
      · omega
      · obtain ⟨Q2, hQ2, hb2, _⟩ := h3 Q.lo (Nat.le_refl _)
        exact hap.2.2 Q2 hQ2 Q' hQ' b hb2 hb'⟩
    same := hk.same.step hp.same.os hp.same.tape hp.same.output hsz (fun b hb hF => by
        refine hp.same.block b (by omega) ?_
        rintro o ⟨Q, hQ, hb', ho⟩
        rcases (hk.fresh Q (List.mem_append_left _ hQ) b hb').2 with h4 | h4
        · omega
        · exact hF o (h4 o ho)) (fun b o hb hF => by
        refine hp.same.cell b o (by omega) ?_
        rintro ⟨Q, hQ, hb', ho⟩
        rcases (hk.fresh Q (List.mem_append_left _ hQ) b hb').2 with h4 | h4
        · omega
        · exact hF (h4 o ho)) }
  exact ⟨hk', hsN⟩
theorem WO.callG {g : FuncId} {o : Op} {vs : List VA} {O B' : List Own} {y : Option σ} {O' : σ → Value → List Own} {Q : σ → VA} {r : σ → Option ρ}
    (hf : Ctr P g vs O y O' Q) (hB : B = O ++ B') (hx : ∀ a w, Holds e ⟨S, B⟩ a w → ∃ args, Args (Acur e B w) w args vs ∧ (execOp a.eval (mkOp d o ty pos af)).run P w = .ok (.enter g args.toArray) w) (hd : Nat.ble (d + 1) e.N = true)
    (h : ∀ q v, WO P e Kp arr rest ⟨(d, Q q, some v) :: S, O' q v ++ B'⟩ (r q)) :
    WO P e Kp arr (mkOp d o ty pos af :: rest) ⟨S, B⟩ (y.bind r) := by
  subst hB
  intro z hz a w hk
  cases hy : y with
  | none => rw [hy] at hz; cases hz
  | some q =>
    rw [hy] at hz
    simp only [Option.bind_some] at hz
    have hA : Pre (Acur e (O ++ B') w) w O := {
      old := fun b o ⟨_, h1, h2⟩ => ⟨h1, fun Q hQ => h2 Q (List.mem_append_left _ hQ)⟩
      ok := fun Q hQ => hk.owns Q (List.mem_append_left _ hQ)
      blk := fun Q hQ b hb => (hk.fresh Q (List.mem_append_left _ hQ) b hb).1
      apart := (List.pairwise_append.1 hk.apart).1
      gl := hk.glob }
    obtain ⟨args, hargs, hrun⟩ := hx a w hk
    have hc := hf q hy _ _ _ hA hargs
    have hw : Region.wanted (mkOp d o ty pos af) (yielded arr a.tmps) = true := rfl
    simp only [wpList, hw, if_true]
    left
    simp only [Oper.wp, hrun, Oper.upon_enter]
    refine Calls.mono hc ?_
    rintro en w' ⟨v, rfl, hp, hq⟩
    obtain ⟨hk', hsN⟩ := hk.called hp
    exact h q v z hz _ _ (hk'.put (Nat.le_of_ble_eq_true hd) ⟨(Q q).good hsN hq, fun u hu => by injection hu⟩)
theorem noval {e : Env} {d : Nat} {S : List (Nat × Ent)} {Q : VA} {v : Value} {B : List Own} {a : Act} {w : World} (hk : Holds e ⟨(d, Q, some v) :: S, B⟩ a w) : Holds e ⟨(d, Q, none) :: S, B⟩ a w := by
  refine { hk with slots := fun t Q' ht => ?_ }
  have h1 := hk.slots t
  simp only [look] at h1 ht
  cases hb : Nat.beq d t with
  | true =>
    rw [hb] at h1 ht
    injection ht with ht
    subst ht
    exact ⟨(h1 _ rfl).1, fun u hu => by cases hu⟩
  | false =>
    rw [hb] at h1 ht
    exact h1 Q' ht
theorem WO.call {g : FuncId} {xs : Array Operand} {tys : Array TypeId} {vs : List VA} {O B' : List Own} {y : Option σ} {O' : σ → Value → List Own} {Q : σ → VA} {r : σ → Option ρ}
    (hf : Ctr P g vs O y O' Q) (hfn : ∃ fn c, P.funcs[g]? = some fn ∧ (fn.name == "runtime.NumGoroutine") = false ∧ fn.body = some c) (hB : B = O ++ B') (hx : opVAs S xs.toList = some vs) (hd : Nat.ble (d + 1) e.N = true)
    (h : ∀ q v, WO P e Kp arr rest ⟨(d, Q q, some v) :: S, O' q v ++ B'⟩ (r q)) :
    WO P e Kp arr (mkOp d (.call { callee := .value (.func g), args := xs, argTypes := tys }) ty pos af :: rest) ⟨S, B⟩ (y.bind r) :=
  .callG hf hB (fun a w hk => ⟨xs.toList.map a.eval, hk.args hx, by
    obtain ⟨fn, c, hfn1, hfn2, hfn3⟩ := hfn
    have hm : (xs.toList.map a.eval).toArray = xs.map a.eval := by apply Array.ext'; simp
    rw [hm]
    simp only [beq_eq_false_iff_ne, ne_eq] at hfn2
    simp [execOp, resolve, Deferred.ofValue, Act.eval, invoke, callFunc, hfn1, hfn2, hfn3]⟩) hd h
theorem WO.callC {g : FuncId} {z : Operand} {caps : List VA} {xs : Array Operand} {tys : Array TypeId} {vs : List VA} {y : Option σ} {Q : σ → VA} {r : σ → Option ρ} (hz : opVA S z = some (isClo g caps, ov))
    (hf : Ctr P g (vs ++ caps) [] y (fun _ _ => []) Q) (hfn : ∃ fn c, P.funcs[g]? = some fn ∧ (fn.name == "runtime.NumGoroutine") = false ∧ fn.body = some c) (hx : opVAs S xs.toList = some vs) (hd : Nat.ble (d + 1) e.N = true)
    (h : ∀ q, WO P e Kp arr rest ⟨(d, Q q, none) :: S, B⟩ (r q)) :
    WO P e Kp arr (mkOp d (.call { callee := .value z, args := xs, argTypes := tys }) ty pos af :: rest) ⟨S, B⟩ (y.bind r) :=
  .callG (B' := B) hf rfl (fun a w hk => by
    obtain ⟨cs, hv, hcs⟩ := hk.ev hz
    refine ⟨xs.toList.map a.eval ++ cs, (hk.args hx).append hcs, ?_⟩
    obtain ⟨fn, c, hfn1, hfn2, hfn3⟩ := hfn
    have hm : (xs.toList.map a.eval ++ cs).toArray = xs.map a.eval ++ cs.toArray := by apply Array.ext'; simp
    rw [hm]
    simp only [beq_eq_false_iff_ne, ne_eq] at hfn2
    simp [execOp, resolve, Deferred.ofValue, hv, invoke, callFunc, hfn1, hfn2, hfn3]) hd fun q v x hx a w hk => h q x hx a w (noval hk)
theorem WO.makeF {g : FuncId} {caps : Array Operand} {vs : List VA} (hx : opVAs S caps.toList = some vs) (hd : Nat.ble (d + 1) e.N = true) (h : WO P e Kp arr rest ⟨(d, isClo g vs, none) :: S, B⟩ r) :
    WO P e Kp arr (mkOp d (.makeFunc (.func g) #[] caps) ty pos af :: rest) ⟨S, B⟩ r :=
  WO.op rfl rfl (fun a w hk => ⟨.func (.func g) #[] (caps.map a.eval), w, by simp [execOp, Instr.makeFunc], hk.put (Q := (isClo g vs, none)) (Nat.le_of_ble_eq_true hd) ⟨⟨caps.toList.map a.eval, by congr 1; apply Array.ext'; simp, hk.args hx⟩, fun u hu => by cases hu⟩⟩) h
theorem WO.call0 {g : FuncId} {xs : Array Operand} {tys : Array TypeId} {vs : List VA} {y : Option σ} {Q : σ → VA} {r : σ → Option ρ}
    (hf : Ctr P g vs [] y (fun _ _ => []) Q) (hfn : ∃ fn c, P.funcs[g]? = some fn ∧ (fn.name == "runtime.NumGoroutine") = false ∧ fn.body = some c) (hx : opVAs S xs.toList = some vs) (hd : Nat.ble (d + 1) e.N = true)
    (h : ∀ q, WO P e Kp arr rest ⟨(d, Q q, none) :: S, B⟩ (r q)) :
    WO P e Kp arr (mkOp d (.call { callee := .value (.func g), args := xs, argTypes := tys }) ty pos af :: rest) ⟨S, B⟩ (y.bind r) :=
  WO.call hf hfn (B' := B) rfl hx hd fun q v x hx a w hk => h q x hx a w (noval hk)
end
end Go.HL
namespace Go.HL
def tup (Qs : List VA) : VA where
  f v A w := ∃ vs, v = .tuple vs.toArray ∧ Args A w vs Qs
  good := by
    intro v A A' w w' h
    rintro ⟨vs, rfl, ha⟩
    refine ⟨vs, rfl, ?_⟩
    induction ha with
    | nil => exact .nil
    | cons h1 _ ih => exact .cons (VA.good _ h h1) ih
theorem Args.len {A w} : ∀ {vs : List Value} {Qs : List VA}, Args A w vs Qs → vs.length = Qs.length
  | _, _, .nil => rfl
  | _, _, .cons _ h => by simp [h.len]
theorem Args.get {A w} : ∀ {vs : List Value} {Qs : List VA} (_ : Args A w vs Qs) (i : Nat) {Q : VA}, Qs[i]? = some Q → ∃ v, vs[i]? = some v ∧ Q.f v A w
  | _, _, .nil, i, Q, h => by simp at h
  | _, _, .cons h1 _, 0, Q, h => by simp at h; subst h; exact ⟨_, rfl, h1⟩
  | _, _, .cons _ h2, i + 1, Q, h => by simpa using h2.get i (by simpa using h)
def slots : Nat → List VA → List (Nat × Ent)
  | _, [] => []
  | i, Q :: Qs => (i, Q, none) :: slots (i + 1) Qs
def keepV (S : List (Nat × Ent)) : List Nat → Option (List (Nat × Ent))
  | [] => some []
  | t :: ts => match look S t with
    | some Q => match keepV S ts with
      | some S' => some ((t, Q) :: S')
      | none => none
    | none => none
def keep (S : List (Nat × Ent)) (us : List Nat) : List Nat → Option (List (Nat × Ent))
  | [] => keepV S us
  | t :: ts => match look S t with
    | some Q => match keep S us ts with
      | some S' => some ((t, Q.1, none) :: S')
      | none => none
    | none => none
def Ent.le (Q Q0 : Ent) : Prop := Q.1 = Q0.1 ∧ (Q.2 = Q0.2 ∨ Q.2 = none)
theorem keepV_look {S : List (Nat × Ent)} : ∀ {ts S'}, keepV S ts = some S' → ∀ t Q, look S' t = some Q → ∃ Q0, look S t = some Q0 ∧ Q.le Q0
  | [], _, h, t, Q, hl => by injection h with h; subst h; cases hl
  | t0 :: ts, S', h, t, Q, hl => by
    simp only [keepV] at h
    cases h1 : look S t0 with
    | none => simp [h1] at h
    | some Q0 =>
      cases h2 : keepV S ts with
      | none => simp [h1, h2] at h
      | some S1 =>
        simp [h1, h2] at h
        subst h
        simp only [look] at hl
        by_cases e : t0 = t
        · subst e
          rw [Nat.beq_refl] at hl
          injection hl with hl
          exact ⟨Q0, h1, hl ▸ ⟨rfl, .inl rfl⟩⟩
        · rw [beq_ne e] at hl
          exact keepV_look h2 t Q hl
theorem keep_look {S : List (Nat × Ent)} {us : List Nat} : ∀ {ts S'}, keep S us ts = some S' → ∀ t Q, look S' t = some Q → ∃ Q0, look S t = some Q0 ∧ Q.le Q0
  | [], _, h, t, Q, hl => keepV_look h t Q hl
  | t0 :: ts, S', h, t, Q, hl => by
    simp only [keep] at h
    cases h1 : look S t0 with
    | none => simp [h1] at h
    | some Q0 =>
      cases h2 : keep S us ts with
      | none => simp [h1, h2] at h
      | some S1 =>
        simp [h1, h2] at h
        subst h
        simp only [look] at hl
        by_cases e : t0 = t
        · subst e
          rw [Nat.beq_refl] at hl
          injection hl with hl
          exact ⟨Q0, h1, hl ▸ ⟨rfl, .inr rfl⟩⟩
        · rw [beq_ne e] at hl
          exact keep_look h2 t Q hl
section
variable {P : Program} {f : FuncId} {e : Env} {ρ σ : Type} {R : ρ → Value → World → Prop} {Kp : ρ → Act → World → Prop}
variable {S S' : List (Nat × Ent)} {B B' : List Own} {a : Act} {w : World}
theorem Holds.weaken (h : Holds e ⟨S, B⟩ a w) (hS : ∀ t Q, look S' t = some Q → ∃ Q0, look S t = some Q0 ∧ Q.le Q0) : Holds e ⟨S', B⟩ a w := by
  refine { h with slots := fun t Q ht => ?_ }
  obtain ⟨Q0, h1, h2, h3⟩ := hS t Q ht
  have := h.slots t Q0 h1
  refine ⟨h2 ▸ this.1, fun u hu => ?_⟩
  rcases h3 with h3 | h3
  · exact this.2 u (h3 ▸ hu)
  · rw [h3] at hu; cases hu
theorem Holds.perm (h : Holds e ⟨S, B⟩ a w) (hp : B'.Sublist B) : Holds e ⟨S, B'⟩ a w := by
  have hA : Same (Acur e B w) (Acur e B' w) w w := fun b o ⟨h1, h2, h3⟩ => ⟨⟨h1, h2, fun O hO => h3 O (hp.subset hO)⟩, rfl⟩
  exact { size := h.size, defers := h.defers, old := h.old, gl := h.gl, same := h.same, slots := fun t Q ht => (h.slots t Q ht).good hA, owns := fun O hO => O.good hA (fun _ _ => rfl) (h.owns O (hp.subset hO)), fresh := fun O hO => h.fresh O (hp.subset hO), apart := h.apart.sublist hp }
theorem Holds.permute (h : Holds e ⟨S, B⟩ a w) (hp : B.Perm B') : Holds e ⟨S, B'⟩ a w := by
  have hA : Same (Acur e B w) (Acur e B' w) w w := fun b o ⟨h1, h2, h3⟩ => ⟨⟨h1, h2, fun O hO => h3 O (hp.mem_iff.2 hO)⟩, rfl⟩
  exact { size := h.size, defers := h.defers, old := h.old, gl := h.gl, same := h.same, slots := fun t Q ht => (h.slots t Q ht).good hA, owns := fun O hO => O.good hA (fun _ _ => rfl) (h.owns O (hp.mem_iff.2 hO)), fresh := fun O hO => h.fresh O (hp.mem_iff.2 hO), apart := (hp.pairwise_iff (fun {x y} hxy b h1 h2 => hxy b h2 h1)).1 h.apart }
variable {k : List Item} {r : Option ρ} {arr : Array Oper} {rest l : List Oper}
variable {d : Nat} {ty t u : TypeId} {pos : String} {af : Array Edge} {ov ov' : Option Value} {x y z : Operand} {b : Bool}
theorem W.keep (ts us : List Nat) (hs : HL.keep S us ts = some S') (h : W P f e R k ⟨S', B⟩ r) : W P f e R k ⟨S, B⟩ r := fun x hx a w hk => h x hx a w (hk.weaken (keep_look hs))
theorem W.drop (hp : B'.Sublist B) (h : W P f e R k ⟨S, B'⟩ r) : W P f e R k ⟨S, B⟩ r := fun x hx a w hk => h x hx a w (hk.perm hp)
theorem WO.drop (hp : B'.Sublist B) (h : WO P e Kp arr l ⟨S, B'⟩ r) : WO P e Kp arr l ⟨S, B⟩ r := fun x hx a w hk => h x hx a w (hk.perm hp)
theorem W.perm (hp : B.Perm B') (h : W P f e R k ⟨S, B'⟩ r) : W P f e R k ⟨S, B⟩ r := fun x hx a w hk => h x hx a w (hk.permute hp)
theorem WO.perm (hp : B.Perm B') (h : WO P e Kp arr l ⟨S, B'⟩ r) : WO P e Kp arr l ⟨S, B⟩ r := fun x hx a w hk => h x hx a w (hk.permute hp)
theorem yielded_of (hk : Holds e ⟨S, B⟩ a w) {j dj : Nat} (hj : (arr[j]?).bind (·.dst) = some dj) (hb : look S dj = some (isB b, ov)) : yielded arr a.tmps j = some b := by
  have h1 := (hk.slots dj _ hb).1
  simp only [isB] at h1
  simp only [yielded, hj, Option.bind_some]
  rw [Array.getD_eq_getD_getElem?] at h1
  cases h2 : a.tmps[dj]? with
  | none => rw [h2] at h1; simp [undef] at h1
  | some v => rw [h2] at h1; simp at h1; simp [h1]
theorem WO.on {j dj : Nat} {o : Op} {dst : Option Tmp} (hj : (arr[j]?).bind (·.dst) = some dj) (hb : look S dj = some (isB b, ov))
    (h : WO P e Kp arr ({ dst := dst, op := o, type := ty, pos := pos, after := af, guard := none } :: rest) ⟨S, B⟩ r) : WO P e Kp arr ({ dst := dst, op := o, type := ty, pos := pos, after := af, guard := some (j, b) } :: rest) ⟨S, B⟩ r := by
  intro x hx a w hk
  have := h x hx a w hk
  have hy := yielded_of hk hj hb
  have hw : Region.wanted ({ dst := dst, op := o, type := ty, pos := pos, after := af, guard := some (j, b) } : Oper) (yielded arr a.tmps) = true := by simp [Region.wanted, hy]
  simp only [wpList, hw, if_true]
  simp only [wpList, Region.wanted, if_true] at this
  exact this
theorem WO.off {j dj : Nat} {o : Op} (hj : (arr[j]?).bind (·.dst) = some dj) (hb : look S dj = some (isB !b, ov)) (hd : Nat.ble (d + 1) e.N = true)
    (h : WO P e Kp arr rest ⟨(d, isV undef, none) :: S, B⟩ r) : WO P e Kp arr ({ dst := some d, op := o, type := ty, pos := pos, after := af, guard := some (j, b) } :: rest) ⟨S, B⟩ r := by
  intro x hx a w hk
  have hy := yielded_of hk hj hb
  have hw : Region.wanted ({ dst := some d, op := o, type := ty, pos := pos, after := af, guard := some (j, b) } : Oper) (yielded arr a.tmps) = false := by
    simp [Region.wanted, hy]
  simp only [wpList, hw]
  exact h x hx _ _ (hk.put (Nat.le_of_ble_eq_true hd) ⟨rfl, fun u hu => by cases hu⟩)
theorem WO.offU {j dj : Nat} {o : Op} (hj : (arr[j]?).bind (·.dst) = some dj) (hb : look S dj = some (isV undef, ov)) (hd : Nat.ble (d + 1) e.N = true)
    (h : WO P e Kp arr rest ⟨(d, isV undef, none) :: S, B⟩ r) : WO P e Kp arr ({ dst := some d, op := o, type := ty, pos := pos, after := af, guard := some (j, b) } :: rest) ⟨S, B⟩ r := by
  intro x hx a w hk
  have hy : yielded arr a.tmps j = none := by
    have h1 := (hk.slots dj _ hb).1
    simp only [isV] at h1
    simp only [yielded, hj, Option.bind_some]
    rw [Array.getD_eq_getD_getElem?] at h1
    cases h2 : a.tmps[dj]? with
    | none => rfl
    | some v => rw [h2] at h1; simp at h1; simp [h1, undef]
  have hw : Region.wanted ({ dst := some d, op := o, type := ty, pos := pos, after := af, guard := some (j, b) } : Oper) (yielded arr a.tmps) = false := by
    simp [Region.wanted, hy]
  simp only [wpList, hw]
  exact h x hx _ _ (hk.put (Nat.le_of_ble_eq_true hd) ⟨rfl, fun u hu => by cases hu⟩)
theorem WO.split (t : Nat) {r1 r2 : Option ρ} (ht : look S t = some (isB b, ov)) (h1 : b = true → WO P e Kp arr l ⟨(t, isB true, none) :: S, B⟩ r1) (h2 : b = false → WO P e Kp arr l ⟨(t, isB false, none) :: S, B⟩ r2) :
    WO P e Kp arr l ⟨S, B⟩ (cond b r1 r2) := by
  intro x hx a w hk
  have hs : ∀ c, b = c → Holds e ⟨(t, isB c, none) :: S, B⟩ a w := by
    intro c hc
    subst hc
    refine { hk with slots := fun t' Q ht' => ?_ }
    simp only [look] at ht'
    by_cases e : t = t'
    · subst e
      rw [Nat.beq_refl] at ht'
      injection ht' with ht'
      subst ht'
      exact ⟨(hk.slots t _ ht).1, fun u hu => by cases hu⟩
    · rw [beq_ne e] at ht'
      exact hk.slots t' Q ht'
  cases b with
  | true => exact h1 rfl x hx a w (hs _ rfl)
  | false => exact h2 rfl x hx a w (hs _ rfl)
theorem WO.pickT {Q : Ent} (hz : opVA S z = some (isB true, ov)) (hx : opVA S x = some Q) (hd : Nat.ble (d + 1) e.N = true) (h : WO P e Kp arr rest ⟨(d, Q) :: S, B⟩ r) : WO P e Kp arr (mkOp d (.pick z x y) ty pos af :: rest) ⟨S, B⟩ r :=
  WO.op rfl rfl (fun a w hk => ⟨a.eval x, w, by have := hk.ev hz; simp only [isB] at this; simp [execOp, this, asBool], hk.put (Nat.le_of_ble_eq_true hd) (hk.ev' (K := ⟨S, B⟩) hx)⟩) h
theorem WO.pickF {Q : Ent} (hz : opVA S z = some (isB false, ov)) (hx : opVA S y = some Q) (hd : Nat.ble (d + 1) e.N = true) (h : WO P e Kp arr rest ⟨(d, Q) :: S, B⟩ r) : WO P e Kp arr (mkOp d (.pick z x y) ty pos af :: rest) ⟨S, B⟩ r :=
  WO.op rfl rfl (fun a w hk => ⟨a.eval y, w, by have := hk.ev hz; simp only [isB] at this; simp [execOp, this, asBool], hk.put (Nat.le_of_ble_eq_true hd) (hk.ev' (K := ⟨S, B⟩) hx)⟩) h
theorem WO.extract {Qs : List VA} {Q : VA} {i : Nat} (hx : opVA S x = some (tup Qs, ov)) (hQ : Qs[i]? = some Q) (hd : Nat.ble (d + 1) e.N = true) (h : WO P e Kp arr rest ⟨(d, Q, none) :: S, B⟩ r) : WO P e Kp arr (mkOp d (.extract x i) ty pos af :: rest) ⟨S, B⟩ r := by
  refine .calc hd (fun a w hk => ?_) h
  obtain ⟨vs, h1, h2⟩ := hk.ev hx
  obtain ⟨v, h3, h4⟩ := h2.get i hQ
  exact ⟨v, by simp [execOp, h1, Instr.extract, h3], h4⟩
def resV (tmps : Array Value) : ResultVar → Sem Value
  | .tmp t => pure (tmps.getD t undef)
  | .cell a t => do loadVar t (← asAddr (tmps.getD a undef))
theorem results1 {fn : Func} {rv : ResultVar} {tmps : Array Value} {v : Value} (h : fn.results = #[rv]) (hr : (resV tmps rv).run P w = .ok v w) : (results fn tmps).run P w = .ok v w := by
  show ((fn.results.mapM (resV tmps)) >>= fun vs => pure (if h : vs.size = 1 then vs[0] else .tuple vs) : Sem Value).run P w = _
  rw [h]
  simp [hr]
theorem results2 {fn : Func} {r1 r2 : ResultVar} {tmps : Array Value} {v1 v2 : Value} (h : fn.results = #[r1, r2]) (h1 : (resV tmps r1).run P w = .ok v1 w) (h2 : (resV tmps r2).run P w = .ok v2 w) : (results fn tmps).run P w = .ok (.tuple #[v1, v2]) w := by
  show ((fn.results.mapM (resV tmps)) >>= fun vs => pure (if h : vs.size = 1 then vs[0] else .tuple vs) : Sem Value).run P w = _
  rw [h]
  simp [h1, h2]
def Rv (P : Program) (e : Env) (K : Ctx) (rv : ResultVar) (Q : Ent) : Prop :=
  ∀ a w, Holds e K a w → ∃ v, (resV a.tmps rv).run P w = .ok v w ∧ Q.holds v (Acur e K.B w) w
theorem Rv.tmp {t : Nat} {Q : Ent} (h : look S t = some Q) : Rv P e ⟨S, B⟩ (.tmp t) Q := fun a w hk => ⟨_, rfl, hk.slots t Q h⟩
theorem Rv.cell {α : Type} {T : Ty α} {v : α} {t tt bl : Nat} (i : Nat) (h : look S t = some (isP bl 0, ov)) {kn : List (Nat × Value)} (hB : B[i]? = some (boxO bl T v kn)) (ht : TyAt P tt T.sz T.agg) : Rv P e ⟨S, B⟩ (.cell t tt) (T.va v, none) := by
  intro a w hk
  have h1 := (hk.slots t _ h).1
  simp only [isP] at h1
  obtain ⟨cs, et, h2, h3, -⟩ := hk.owns _ (get_mem hB)
  refine ⟨_, ?_, T.iff.2 ⟨_, rfl, h3⟩, fun u hu => by cases hu⟩
  have h4 := run_loadVar (P := P) (b := bl) (o := 0) ht h3 (fun j hj => by simp [World.cell?, h2])
  simp only [resV, Sem.run_bind]
  rw [h1]
  simp [asAddr, h4]
def RR (A : Ar) (w : World) (O : List Own) (O' : ρ → Value → List Own) (Q : ρ → VA) (x : ρ) (v : Value) (w' : World) : Prop := Post A w O (O' x v) w' ∧ (Q x).f v (Anew A w O w' (O' x v)) w'
abbrev env (A : Ar) (w : World) (O : List Own) (n : Nat) : Env := ⟨A, w, footL O, n⟩
variable {A : Ar} {w0 : World} {O : List Own} {O' : ρ → Value → List Own} {Q : ρ → VA} {n : Nat} {q : ρ} {fn : Func}
theorem ret_of {v : Value} (hk : Holds (env A w0 O n) ⟨S, B⟩ a w) (hO : (O' q v).Sublist B) (hq : (Q q).f v (Acur (env A w0 O n) B w) w) : RR A w0 O O' Q q v w := by
  have hk' := hk.perm hO
  have hs : Same (Acur (env A w0 O n) (O' q v) w) (Anew A w0 O w (O' q v)) w w := fun b o h => ⟨h, rfl⟩
  have hs' : Same (Acur (env A w0 O n) B w) (Anew A w0 O w (O' q v)) w w := fun b o ⟨h1, h2, h3⟩ => ⟨⟨h1, h2, fun Q' hQ' => h3 Q' (hO.subset hQ')⟩, rfl⟩
  exact ⟨⟨hk.same, fun Q' hQ' => Q'.good hs (fun _ _ => rfl) (hk'.owns Q' hQ'), hk'.fresh, hk'.apart⟩, (Q q).good hs' hq⟩
theorem W.ret1 {rv : ResultVar} {Q1 : Ent} (hf : P.funcs[f]? = some fn) (hr : fn.results = #[rv]) (h1 : Rv P (env A w0 O n) ⟨S, B⟩ rv Q1) (hq : Q1.1 = Q q) (hO : ∀ v, (∀ u, Q1.2 = some u → v = u) → (O' q v).Sublist B) :
    W P f (env A w0 O n) (RR A w0 O O' Q) (.code .ret :: k) ⟨S, B⟩ (some q) := by
  intro x hx a w hk
  injection hx with hx
  subst hx
  obtain ⟨v, hrun, h2⟩ := h1 a w hk
  refine Run.ret hf hk.defers (v := v) ?_ (ret_of hk (hO v h2.2) (hq ▸ h2.1))
  exact results1 hr hrun
theorem W.ret2 {rv1 rv2 : ResultVar} {Q1 Q2 : Ent} (hf : P.funcs[f]? = some fn) (hr : fn.results = #[rv1, rv2]) (h1 : Rv P (env A w0 O n) ⟨S, B⟩ rv1 Q1) (h2 : Rv P (env A w0 O n) ⟨S, B⟩ rv2 Q2) (hq : tup [Q1.1, Q2.1] = Q q) (hO : ∀ v, (O' q v).Sublist B) :
    W P f (env A w0 O n) (RR A w0 O O' Q) (.code .ret :: k) ⟨S, B⟩ (some q) := by
  intro x hx a w hk
  injection hx with hx
  subst hx
  obtain ⟨v1, hrun1, h3⟩ := h1 a w hk
  obtain ⟨v2, hrun2, h4⟩ := h2 a w hk
  refine Run.ret hf hk.defers (v := .tuple #[v1, v2]) ?_ (ret_of hk (hO _) (hq ▸ ⟨[v1, v2], rfl, .cons h3.1 (.cons h4.1 .nil)⟩))
  exact results2 hr hrun1 hrun2
theorem W.condF {c : Operand} {x y : Code} (hc : opVA S c = some (isB false, ov)) (h1 : W P f e R (.code y :: k) ⟨S, B⟩ r) : W P f e R (.code (.cond c x y) :: k) ⟨S, B⟩ r := fun z hz a w hk => Run.cond (t := false) ((hk.ev' hc).1) (h1 z hz a w hk)
end
end Go.HL
namespace Go.HL
section
variable {P : Program} {ρ : Type} {A : Ar} {w : World}
theorem look_slots : ∀ {vs : List VA} {args : List Value} (i : Nat), Args A w args vs → ∀ t Q, look (slots i vs) t = some Q → i ≤ t ∧ ∃ v, args[t - i]? = some v ∧ Q.holds v A w
  | _, _, i, .nil, t, Q, h => by cases h
  | _, _, i, .cons (v := v) (Q := Q0) h1 h2, t, Q, h => by
    simp only [slots, look] at h
    by_cases e : i = t
    · subst e
      rw [Nat.beq_refl] at h
      injection h with h
      subst h
      exact ⟨Nat.le_refl _, v, by simp, h1, fun u hu => by cases hu⟩
    · rw [beq_ne e] at h
      obtain ⟨h3, v', h4, h5⟩ := look_slots (i + 1) h2 t Q h
      refine ⟨by omega, v', ?_, h5⟩
      have : t - i = (t - (i + 1)) + 1 := by omega
      rw [this]
      simpa using h4
theorem Ctr.of_W {k : FuncId} {fn : Func} {c : Code} {n : Nat} {vs : List VA} {O : List Own} {y : Option ρ} {O' : ρ → Value → List Own} {Q : ρ → VA}
    (hf : P.funcs[k]? = some fn) (hb : fn.body = some c) (hn : fn.ntmps = n) (hl : Nat.ble vs.length n = true)
    (h : ∀ A w, W P k (env A w O n) (RR A w O O' Q) [.code c] ⟨slots 0 vs, O⟩ y) : Ctr P k vs O y O' Q := by
  intro q hq A w args hpre hargs
  refine Rets.of_run hf hb hn (h A w q hq _ w ?_)
  have hlen := hargs.len
  have hl' := Nat.le_of_ble_eq_true hl
  have hs : Same A (Acur (env A w O n) O w) w w := fun b o ha => ⟨⟨.inl ha, (hpre.old b o ha).1, (hpre.old b o ha).2⟩, rfl⟩
  refine { size := ?_, defers := rfl, slots := ?_, owns := ?_, fresh := ?_, apart := hpre.apart, old := ?_, same := ?_, gl := hpre.gl }
  · simp; omega
  · intro t Q' ht
    obtain ⟨-, v, h1, h2⟩ := look_slots 0 hargs t Q' ht
    have e : (args.toArray ++ Array.replicate (n - args.length) undef).getD t undef = v := by
      obtain ⟨h3, h4⟩ := List.getElem?_eq_some_iff.1 h1
      simp only [Nat.sub_zero] at h3 h4
      rw [Array.getD_eq_getD_getElem?, Array.getElem?_append_left (by simpa using h3)]
      simp [h3, h4]
    show Q'.holds ((args.toArray ++ Array.replicate (n - args.length) undef).getD t undef) _ _
    rw [e]
    exact h2.good hs
  · exact fun Q' hQ' => Q'.good hs (fun _ _ => rfl) (hpre.ok Q' hQ')
  · exact fun Q' hQ' b hb => ⟨hpre.blk Q' hQ' b hb, .inr fun o ho => ⟨Q', hQ', hb, ho⟩⟩
  · exact fun b o ha => ⟨(hpre.old b o ha).1, fun ⟨Q', hQ', hf'⟩ => (hpre.old b o ha).2 Q' hQ' hf'⟩
  · exact ⟨rfl, rfl, rfl, Nat.le_refl _, fun _ _ _ => rfl, fun _ _ _ _ => rfl⟩
end
end Go.HL
namespace Go.HL
def appO (sz : Nat) (v : Value) : Own where
  blk := match v with | .slice (some a) n c => if n < c then some a.block else none | _ => none
  lo := match v with | .slice (some a) n _ => a.off + n * sz | _ => 0
  ok _ w := match v with
    | .slice (some a) n c => n < c → a.spot = none ∧ ∃ cur et, w.heap[a.block]? = some (.cells cur et (0, 0)) ∧ a.off + c * sz ≤ cur.size
    | .slice none _ c => c = 0
    | _ => False
  good := by
    intro A A' w w' _ hb h
    cases v <;> try exact h
    rename_i ad n c
    cases ad with
    | none => exact h
    | some a =>
      intro hn
      obtain ⟨h1, cur, et, h2, h3⟩ := h hn
      exact ⟨h1, cur, et, by rw [hb a.block (by simp [hn])]; exact h2, h3⟩
structure ElAt (P : Program) (el : TypeId) (sz : Nat) : Prop where
  h : (P.info? el).map (fun i => (i.size, i.zero.map (·.cells.size), Nat.ble i.bytes 16384)) = some (sz, some sz, true)
theorem ElAt.out {P : Program} {el sz} (h : ElAt P el sz) : ∃ i z, P.info? el = some i ∧ i.size = sz ∧ i.zero = some z ∧ z.cells.size = sz ∧ i.bytes ≤ 16384 := by
  have := h.h
  cases hi : P.info? el with
  | none => simp [hi] at this
  | some i =>
    simp only [hi, Option.map_some, Option.some.injEq, Prod.mk.injEq, Option.map_eq_some_iff] at this
    obtain ⟨h1, ⟨z, h2, h3⟩, h4⟩ := this
    exact ⟨i, z, rfl, h1, h2, h3, Nat.le_of_ble_eq_true h4⟩
section
variable {P : Program} {f : FuncId} {e : Env} {ρ : Type} {R : ρ → Value → World → Prop} {Kp : ρ → Act → World → Prop}
variable {S : List (Nat × Ent)} {B : List Own} {a : Act} {w : World}
variable {k : List Item} {r : Option ρ} {arr : Array Oper} {rest : List Oper}
variable {d : Nat} {ty t u el : TypeId} {pos : String} {af : Array Edge} {ov ov' : Option Value}
variable {x y z : Operand} {α β : Type} {T : Ty α} {v : Value} {xs ys : List α}
theorem sl_cells {A : Ar} (h : slRel T ys v A w) : ∃ ad n c cs, v = .slice ad n c ∧ ys.length = n ∧ n ≤ c ∧ n ≤ LIM ∧ flat T ys cs A w ∧ cs.length = n * T.sz ∧ (0 < n → ∃ b o, ad = some ⟨b, o, none⟩ ∧ cellsIn A w b o cs) := by
  obtain ⟨ad, n, c, cs, h1, h2, h3, h4, h5, h6⟩ := h
  exact ⟨ad, n, c, cs, h1, h2, h3, h4, h5, by rw [h5.len, h2], h6⟩
theorem cells_list {A : Ar} {b o : Nat} {cs : List Value} (h : cellsIn A w b o cs) : ∀ j v, cs[j]? = some v → w.cell? ((⟨b, o, none⟩ : Addr).add j) = some v := by
  intro j v hj
  obtain ⟨hj', hv⟩ := List.getElem?_eq_some_iff.1 hj
  rw [Addr.add0, (h j hj').2, hv]
theorem run_app0 {i : TypeInfo} (ht : P.underlying t = some (.slice el)) (hi : P.info? el = some i) (ad yad : Option Addr) (n c yc : Nat) (hn : n ≤ c) :
    (Builtin.append_ #[t, t] ty #[.slice ad n c, .slice yad 0 yc]).run P w = .ok (.slice ad n c) w := by
  cases ad <;> cases yad <;> simp [Builtin.append_, run_underlying ht, sizeOf, typeInfo, hi, Builtin.lenOf, hn, Builtin.firstCells, loadCells, loadCellsFrom, storeCells]
theorem run_appIn {i : TypeInfo} (ht : P.underlying t = some (.slice el)) (hi : P.info? el = some i) (b off n c m yc : Nat) (ya : Addr) (news : List Value) (hl : news.length = m * i.size) (hnews : ∀ j v, news[j]? = some v → w.cell? (ya.add j) = some v)
    (h1 : ∀ u ∈ news, u.oneCell' = true) (hroom : n + m ≤ c) {cur : Array Value} {et : TypeId} (hb : w.heap[b]? = some (.cells cur et (0, 0))) (hfit : off + n * i.size + news.length ≤ cur.size) :
    (Builtin.append_ #[t, t] ty #[.slice (some ⟨b, off, none⟩) n c, .slice (some ya) m yc]).run P w =
      .ok (.slice (some ⟨b, off, none⟩) (n + m) c) (w.setRow b (cur.toList.take (off + n * i.size) ++ news ++ cur.toList.drop (off + n * i.size + news.length)).toArray) := by
  have hf := run_firstCells_some (P := P) w i.size m ya m yc news hl hnews
  have hst := run_storeCells_at P b (off + n * i.size) et news 0 cur w hb (by simpa using hfit) h1
  simp only [Nat.add_zero] at hst
  simp [Builtin.append_, run_underlying ht, sizeOf, typeInfo, hi, Builtin.lenOf, hroom, hf, Addr.add0, hst]
theorem Holds.erase {i : Nat} {O : Own} (h : Holds e ⟨S, B⟩ a w) (hB : B[i]? = some O) : Holds e ⟨S, B.eraseIdx i⟩ a w := h.perm (List.eraseIdx_sublist ..)
theorem cell_mid {w : World} {b : Nat} {c1 c2 c3 : List Value} {et : TypeId} {fr : Nat × Nat} (h : w.heap[b]? = some (.cells (c1 ++ c2 ++ c3).toArray et fr)) : (∀ j, j < c1.length → w.cell? ⟨b, j, none⟩ = c1[j]?) ∧ (∀ j, j < c2.length → w.cell? ⟨b, c1.length + j, none⟩ = c2[j]?) := by
  constructor
  · intro j hj
    simp [World.cell?, h, List.getElem?_append_left, hj]
  · intro j hj
    simp [World.cell?, h, List.getElem?_append_left, List.getElem?_append_right, hj]
theorem perm_erase : ∀ {B : List Own} {i : Nat} {O : Own}, B[i]? = some O → B.Perm (O :: B.eraseIdx i)
  | [], i, O, h => by simp at h
  | Q :: B, 0, O, h => by simp at h; subst h; exact .refl _
  | Q :: B, i + 1, O, h => by
    have := perm_erase (B := B) (i := i) (O := O) (by simpa using h)
    exact (this.cons Q).trans (.swap O Q _)
theorem appO_blk {sz b off n c : Nat} (h : n < c) : (appO sz (.slice (some ⟨b, off, none⟩) n c)).blk = some b := by
  show (if n < c then some b else none) = some b
  rw [if_pos h]
theorem appO_blk' {sz b b' off n c : Nat} (h : (appO sz (.slice (some ⟨b, off, none⟩) n c)).blk = some b') : b' = b ∧ n < c := by
  have h' : (if n < c then some b else none) = some b' := h
  split at h'
  · injection h' with h'; exact ⟨h'.symm, by assumption⟩
  · cases h'
theorem appO_lo {sz b off n c : Nat} : (appO sz (.slice (some ⟨b, off, none⟩) n c)).lo = off + n * sz := rfl
theorem app_in {i b off n c m : Nat} {ys' : List Value} {et : TypeId} {cur : Array Value} (hk : Holds e ⟨S, B⟩ a w) (hB : B[i]? = some (appO T.sz (.slice (some ⟨b, off, none⟩) n c)))
    (hb : w.heap[b]? = some (.cells cur et (0, 0))) (hcur : off + c * T.sz ≤ cur.size) (hn : xs.length = n) (hm : ys.length = m) (hroom : n + m ≤ c) (h0 : 0 < m) (hlim : n + m ≤ LIM)
    (hx : slRel T xs (.slice (some ⟨b, off, none⟩) n c) (Acur e B w) w) (hy : flat T ys ys' (Acur e B w) w) (w' : World) (hw' : w' = w.setRow b (cur.toList.take (off + n * T.sz) ++ ys' ++ cur.toList.drop (off + n * T.sz + ys'.length)).toArray) :
    Holds e ⟨S, appO T.sz (.slice (some ⟨b, off, none⟩) (n + m) c) :: B.eraseIdx i⟩ a w' ∧ slRel T (xs ++ ys) (.slice (some ⟨b, off, none⟩) (n + m) c) (Acur e (appO T.sz (.slice (some ⟨b, off, none⟩) (n + m) c) :: B.eraseIdx i) w') w' := by
  obtain ⟨hi', hBi⟩ := List.getElem?_eq_some_iff.1 hB
  have hyl := hy.len
  rw [hm] at hyl
  have hcm : (n + m) * T.sz ≤ c * T.sz := Nat.mul_le_mul_right _ hroom
  rw [Nat.add_mul] at hcm
  have hcs : cur.toList.length = cur.size := Array.length_toList
  have hheap := setRow_heap w b cur (cur.toList.take (off + n * T.sz) ++ ys' ++ cur.toList.drop (off + n * T.sz + ys'.length)).toArray et (0, 0) hb
  rw [← hw'] at hheap
  have hoth : ∀ k, k ≠ b → w'.heap[k]? = w.heap[k]? := fun k hk => by rw [hw']; exact setRow_other _ _ _ _ hk
  have hsize : w'.heap.size = w.heap.size := by rw [hw']; simp [World.setRow]
  have hfr := hk.fresh _ (get_mem hB) b (appO_blk (by omega))
  have hmid := cell_mid hheap
  have htl : (cur.toList.take (off + n * T.sz)).length = off + n * T.sz := by rw [List.length_take]; omega
  have hlow : ∀ o, o < off + n * T.sz → w'.cell? ⟨b, o, none⟩ = w.cell? ⟨b, o, none⟩ := by
    intro o ho
    rw [hmid.1 o (by omega), List.getElem?_take_of_lt ho]
    simp [World.cell?, hb]
  -- what was read before is read as it was
  have hs : Same (Acur e B w) (Acur e (appO T.sz (.slice (some ⟨b, off, none⟩) (n + m) c) :: B.eraseIdx i) w') w w' := by
    rintro b' o ⟨h1, h2, h3⟩
    have htok := h3 _ (get_mem hB)
    have hnot : ¬ (b' = b ∧ off + n * T.sz ≤ o) := by
      rintro ⟨rfl, ho⟩
      exact htok ⟨appO_blk (by omega), ho⟩
    refine ⟨⟨h1, by omega, fun O hO => ?_⟩, ?_⟩
    · rcases List.mem_cons.1 hO with rfl | hO
      · rintro ⟨hbb, hoo⟩
        obtain ⟨rfl, -⟩ := appO_blk' hbb
        rw [appO_lo, Nat.add_mul] at hoo
        exact hnot ⟨rfl, by omega⟩
      · exact h3 O (List.mem_of_mem_eraseIdx hO)
    · by_cases hbb : b' = b
      · subst hbb
        exact hlow o (Nat.lt_of_not_le fun hh => hnot ⟨rfl, hh⟩)
      · exact cell_of_block (hoth b' hbb) o
  have hmem : ∀ O ∈ B.eraseIdx i, O ∈ B ∧ O.blk ≠ some b := by
    intro O hO
    have hp := perm_erase hB
    have hap := (hp.pairwise_iff (fun {x y} hxy b h1 h2 => hxy b h2 h1)).1 hk.apart
    exact ⟨List.mem_of_mem_eraseIdx hO, (List.pairwise_cons.1 hap).1 O hO b (appO_blk (by omega))⟩
  have hsz0 := hk.same.size
  refine ⟨{ size := hk.size, defers := hk.defers, old := hk.old, gl := hk.gl, slots := fun t Q ht => (hk.slots t Q ht).good hs, owns := ?_, fresh := ?_, apart := ?_, same := ?_ }, ?_⟩
  · intro O hO
    rcases List.mem_cons.1 hO with rfl | hO
    · intro hlt
      exact ⟨rfl, _, et, hheap, by simp; omega⟩
    · exact O.good hs (fun b' hb' => hoth b' (fun hh => (hmem O hO).2 (hh ▸ hb'))) (hk.owns O (hmem O hO).1)
  · intro O hO b' hb'
    rcases List.mem_cons.1 hO with rfl | hO
    · obtain ⟨rfl, -⟩ := appO_blk' hb'
      refine ⟨by omega, hfr.2.imp id fun hF o ho => hF o ?_⟩
      rw [appO_lo, Nat.add_mul] at ho
      rw [appO_lo]
      omega
    · have := hk.fresh O (hmem O hO).1 b' hb'
      exact ⟨by omega, this.2⟩
  · refine List.pairwise_cons.2 ⟨fun O hO b' hb' hk' => ?_, hk.apart.sublist (List.eraseIdx_sublist ..)⟩
    obtain ⟨rfl, -⟩ := appO_blk' hb'
    exact (hmem O hO).2 hk'
  · refine hk.same.step (by rw [hw']; rfl) (by rw [hw']; rfl) (by rw [hw']; rfl) (by omega) (fun b' hb' hF => ?_) (fun b' o hb' hF => ?_)
    · by_cases hbb : b' = b
      · subst hbb
        rcases hfr.2 with h | h
        · omega
        · exact absurd (h _ (Nat.le_refl _)) (hF _)
      · exact hoth b' hbb
    · by_cases hbb : b' = b
      · subst hbb
        rcases hfr.2 with h | h
        · omega
        · refine hlow o (Nat.lt_of_not_le fun hh => hF (h o hh))
      · exact cell_of_block (hoth b' hbb) o
  · obtain ⟨ad, n', c', cs, hv, hn', hc', hl', hfl, hcl⟩ := hx.good hs
    cases hv
    refine ⟨_, _, _, cs ++ ys', rfl, by simp [hn, hm], by omega, hlim, flat.append (hy.good hs) hfl, fun _ => ⟨b, off, rfl, ?_⟩⟩
    have hcsl := hfl.len
    rw [hn] at hcsl
    intro j hj
    by_cases hjl : j < cs.length
    · obtain ⟨b2, o2, hv2, hc2⟩ := hcl (by
        rcases Nat.eq_zero_or_pos n with h | h
        · rw [h, Nat.zero_mul] at hcsl; omega
        · exact h)
      cases hv2
      rw [List.getElem_append_left hjl]
      exact hc2 j hjl
    · have hj' : j - cs.length < ys'.length := by rw [List.length_append] at hj; omega
      rw [List.getElem_append_right (by omega)]
      have hc2 := hmid.2 (j - cs.length) hj'
      rw [htl, List.getElem?_eq_getElem hj', show off + n * T.sz + (j - cs.length) = off + j by omega] at hc2
      refine ⟨⟨?_, ?_, ?_⟩, hc2⟩
      · rcases hfr.2 with h | h
        · exact .inr (.inl h)
        · exact .inr (.inr (h (off + j) (by rw [appO_lo]; omega)))
      · omega
      · intro O hO
        rcases List.mem_cons.1 hO with rfl | hO
        · rintro ⟨hbb, hoo⟩
          rw [appO_lo, Nat.add_mul] at hoo
          omega
        · exact fun hf' => (hmem O hO).2 hf'.1
theorem app_new {i n m cap' : Nat} {cs ys' zs : List Value} (hk : Holds e ⟨S, B⟩ a w) (hi : i < B.length) (hn : xs.length = n) (hm : ys.length = m) (h0 : 0 < m) (hlim : n + m ≤ LIM) (hcap : n + m ≤ cap')
    (hx : flat T xs cs (Acur e B w) w) (hy : flat T ys ys' (Acur e B w) w) (hz : zs.length = (cap' - (n + m)) * T.sz) (w' : World) (hw' : w' = w.drew.alloc (.cells (cs ++ ys' ++ zs).toArray el)) :
    Holds e ⟨S, appO T.sz (.slice (some ⟨w.heap.size, 0, none⟩) (n + m) cap') :: B.eraseIdx i⟩ a w' ∧ slRel T (xs ++ ys) (.slice (some ⟨w.heap.size, 0, none⟩) (n + m) cap') (Acur e (appO T.sz (.slice (some ⟨w.heap.size, 0, none⟩) (n + m) cap') :: B.eraseIdx i) w') w' := by
  have hcl := hx.len
  have hyl := hy.len
  rw [hn] at hcl
  rw [hm] at hyl
  have hsz : w'.heap.size = w.heap.size + 1 := by rw [hw', alloc_size]; rfl
  have hnew : w'.heap[w.heap.size]? = some (.cells (cs ++ ys' ++ zs).toArray el) := by rw [hw']; exact alloc_new w.drew _
  have hold : ∀ b, b < w.heap.size → w'.heap[b]? = w.heap[b]? := fun b hb => by rw [hw']; exact alloc_old w.drew _ b hb
  have hk1 : Holds e ⟨S, B.eraseIdx i⟩ a w := hk.perm (List.eraseIdx_sublist ..)
  have hA0 : Same (Acur e B w) (Acur e (B.eraseIdx i) w) w w := fun b o ⟨h1, h2, h3⟩ => ⟨⟨h1, h2, fun O hO => h3 O (List.mem_of_mem_eraseIdx hO)⟩, rfl⟩
  have hmul : (n + m) * T.sz + (cap' - (n + m)) * T.sz = cap' * T.sz := by rw [← Nat.add_mul]; congr 1; omega
  rw [Nat.add_mul] at hmul
  have hw0 := hk.same.size
  obtain ⟨h1, h2⟩ := Holds.own hk1 (O := appO T.sz (.slice (some ⟨w.heap.size, 0, none⟩) (n + m) cap')) (w' := w') (by rw [hw']; rfl) (by rw [hw']; rfl) (by rw [hw']; rfl) (by omega) hold (fun b hb => by obtain ⟨rfl, -⟩ := appO_blk' hb; omega) (fun _ => fun hlt => ⟨rfl, _, el, hnew, by simp [hcl, hyl, hz]; omega⟩)
  refine ⟨h1, some ⟨w.heap.size, 0, none⟩, n + m, cap', cs ++ ys', rfl, by simp [hn, hm], hcap, hlim, flat.append (hy.good (hA0.trans h2)) (hx.good (hA0.trans h2)), fun _ => ⟨w.heap.size, 0, rfl, fun j hj => ?_⟩⟩
  refine ⟨⟨.inr (.inl (by omega)), by omega, fun O hO => ?_⟩, ?_⟩
  · rcases List.mem_cons.1 hO with rfl | hO
    · rintro ⟨-, hoo⟩
      rw [appO_lo, Nat.add_mul] at hoo
      rw [List.length_append] at hj
      omega
    · rintro ⟨hb, -⟩
      have := (hk1.fresh O hO _ hb).1
      omega
  · have hc3 : w'.cell? ⟨w.heap.size, 0 + j, none⟩ = (cs ++ ys' ++ zs)[j]? := by simp [World.cell?, hnew]
    rw [hc3, List.getElem?_append_left hj, List.getElem?_eq_getElem hj]
theorem WO.append (i : Nat) (hx : opVA S x = some ((tL T).va xs, some v)) (hy : opVA S y = some ((tL T).va ys, ov')) (hB : B[i]? = some (appO T.sz v)) (hu : P.underlying t = some (.slice el)) (he : ElAt P el T.sz) (hd : Nat.ble (d + 1) e.N = true)
    (h : ∀ v', WO P e Kp arr rest ⟨(d, (tL T).va (xs ++ ys), some v') :: S, appO T.sz v' :: B.eraseIdx i⟩ r) :
    WO P e Kp arr (mkOp d (.call { callee := .builtin .append, args := #[x, y], argTypes := #[t, t] }) ty pos af :: rest) ⟨S, B⟩ (cond (decide (xs.length + ys.length ≤ CAP)) r none) := by
  intro q hq
  by_cases hcap : xs.length + ys.length ≤ CAP
  case neg => simp [hcap] at hq
  simp only [hcap, decide_true, cond_true] at hq
  refine WO.opX rfl rfl (fun a w hk => ?_) q hq
  obtain ⟨info, zz, hi, hsz, hz, hzs, hby⟩ := he.out
  have hxv := (hk.ev' (K := ⟨S, B⟩) hx).2 v rfl
  have hxr := (hk.ev' (K := ⟨S, B⟩) hx).1
  rw [hxv] at hxr
  obtain ⟨ad, n, c, cs, rfl, hn, hnc, hlim, hfl, hcl, hca⟩ := sl_cells hxr
  obtain ⟨yad, m, yc, ys', hyv, hm, hmc, hmlim, hyfl, hycl, hyca⟩ := sl_cells (hk.ev hy)
  have htok := hk.owns _ (get_mem hB)
  have hrunE : ∀ v' w', (Builtin.append_ #[t, t] ty #[.slice ad n c, .slice yad m yc]).run P w = .ok v' w' → (execOp a.eval (mkOp d (.call { callee := .builtin .append, args := #[x, y], argTypes := #[t, t] }) ty pos af)).run P w = .ok (.value v') w' := by
    intro v' w' hr
    simp [execOp, resolve, invoke, builtin, hxv, hyv, hr]
  have hdN := Nat.le_of_ble_eq_true hd
  have hiB := (List.getElem?_eq_some_iff.1 hB).1
  rw [CAP_eq] at hcap
  have hL := LIM_eq
  by_cases hm0 : m = 0
  · subst hm0
    have hys : ys = [] := List.eq_nil_of_length_eq_zero hm
    subst hys
    refine ⟨_, w, _, hrunE _ _ (run_app0 hu hi ad yad n c yc hnc), ?_, h (.slice ad n c)⟩
    refine Holds.put (hk.permute (perm_erase hB)) hdN ⟨?_, fun u hu => by injection hu⟩
    rw [List.append_nil]
    refine VA.good _ (fun b o hb => ⟨⟨hb.1, hb.2.1, fun O hO => hb.2.2 O ((perm_erase hB).mem_iff.2 hO)⟩, rfl⟩) hxr
  · obtain ⟨yb, yo, rfl, hyc⟩ := hyca (by omega)
    have hynews := cells_list hyc
    have hplain : ∀ u ∈ ys', u.oneCell' = true := fun u hu => plain_one (hyfl.plain u hu)
    have hbytes : (n + m) * info.bytes ≤ 140737488355328 := by
      have : (n + m) * info.bytes ≤ 4294967296 * 16384 := Nat.mul_le_mul (by omega) hby
      omega
    by_cases hroom : n + m ≤ c
    · cases ad with
      | none =>
        have : c = 0 := htok
        omega
      | some adr =>
        obtain ⟨hsp, cur, et, hb, hcur⟩ := htok (show n < c by omega)
        obtain ⟨b, off, sp⟩ := adr
        cases hsp
        have hcur : off + c * T.sz ≤ cur.size := hcur
        have hcm : (n + m) * T.sz ≤ c * T.sz := Nat.mul_le_mul_right _ hroom
        rw [Nat.add_mul] at hcm
        have hfit : off + n * info.size + ys'.length ≤ cur.size := by rw [hsz, hycl]; omega
        have hrun := run_appIn (P := P) (ty := ty) hu hi b off n c m yc ⟨yb, yo, none⟩ ys' (by rw [hsz]; exact hycl) hynews hplain hroom hb hfit
        rw [hsz] at hrun
        obtain ⟨h3, h4⟩ := app_in hk hB hb hcur hn hm hroom (by omega) (by omega) hxr hyfl _ rfl
        exact ⟨_, _, _, hrunE _ _ hrun, h3.put hdN ⟨h4, fun u hu => by injection hu⟩, h _⟩
    · have hcap' := grownCap_ge w (n + m) c el
      have hzl : (Builtin.zeroCells zz.cells (grownCap w (n + m) c el - (n + m))).toList.length = (grownCap w (n + m) c el - (n + m)) * T.sz := by
        rw [Array.length_toList, size_zeroCells, hzs]
      obtain ⟨h3, h4⟩ := app_new hk hiB hn hm (by omega) (by omega) hcap' hfl hyfl hzl _ rfl
      have hrun : (Builtin.append_ #[t, t] ty #[.slice ad n c, .slice (some ⟨yb, yo, none⟩) m yc]).run P w = .ok (.slice (some ⟨w.heap.size, 0, none⟩) (n + m) (grownCap w (n + m) c el)) (w.drew.alloc (.cells (cs ++ ys' ++ (Builtin.zeroCells zz.cells (grownCap w (n + m) c el - (n + m))).toList).toArray el)) := by
        have hfit := growslice_fits (show c < n + m by omega) hbytes
        cases ad with
        | some adr =>
          by_cases hn0 : n = 0
          · have hcs : cs = [] := List.eq_nil_of_length_eq_zero (by rw [hcl, hn0]; simp)
            have := run_append_grow (P := P) w t ty el info zz hu hi hz adr n c cs (by rw [hsz]; exact hcl) (by rw [hcs]; intro j v hj; simp at hj) ⟨yb, yo, none⟩ m yc ys' (by rw [hsz]; exact hycl) hynews (by omega) (by omega) hfit
            rw [this]
            congr 3
            simp
          · obtain ⟨b, o, hao, hc3⟩ := hca (by omega)
            have := run_append_grow (P := P) w t ty el info zz hu hi hz adr n c cs (by rw [hsz]; exact hcl) (by injection hao with hao; rw [hao]; exact cells_list hc3) ⟨yb, yo, none⟩ m yc ys' (by rw [hsz]; exact hycl) hynews (by omega) (by omega) hfit
            rw [this]
            congr 3
            simp
        | none =>
          have hc0 : c = 0 := htok
          subst hc0
          have hn0 : n = 0 := by omega
          subst hn0
          have hcs : cs = [] := List.eq_nil_of_length_eq_zero (by rw [hcl]; simp)
          subst hcs
          have := run_append_nil (P := P) w t ty el info zz hu hi hz ⟨yb, yo, none⟩ m yc ys' (by rw [hsz]; exact hycl) hynews (by omega) (by omega) (by have := hbytes; simp only [Nat.zero_add] at this; omega)
          simp only [Nat.zero_add]
          rw [this]
          congr 3
          simp
      exact ⟨_, _, _, hrunE _ _ hrun, h3.put hdN ⟨h4, fun u hu => by injection hu⟩, h _⟩
end
end Go.HL
namespace Go.HL
theorem zip_fold (vs : List Value) : ∀ (j off : Nat) (cells : Array Value), off + j + vs.length ≤ cells.size →
    (vs.zipIdx j).foldl (fun cs (cj : Value × Nat) => cs.setIfInBounds (off + cj.2) cj.1) cells = (cells.toList.take (off + j) ++ vs ++ cells.toList.drop (off + j + vs.length)).toArray := by
  induction vs with
  | nil => intro j off cells h; simp
  | cons v vs ih =>
    intro j off cells h
    simp only [List.length_cons] at h
    simp only [List.zipIdx_cons, List.foldl_cons]
    rw [ih (j + 1) off _ (by simp; omega)]
    congr 1
    simp only [Array.toList_setIfInBounds, List.length_cons]
    have hl : off + j < cells.toList.length := by simp; omega
    have e1 : (cells.toList.set (off + j) v).take (off + (j + 1)) = cells.toList.take (off + j) ++ [v] := by
      rw [show off + (j + 1) = off + j + 1 by omega, List.take_succ, List.take_set_of_le (Nat.le_refl _)]
      rw [List.getElem?_set_self hl]
      rfl
    rw [e1, List.drop_set_of_lt (by omega)]
    simp [Nat.add_assoc, Nat.add_comm, Nat.add_left_comm]
theorem fill_one {i off : Nat} {v : Value} {cells : Array Value} {place : Nat → Option (Nat × Nat)} {rest : List (Nat × Value)} (hp : place i = some (off, v.cells.size)) (hl : off + v.cells.size ≤ cells.size) :
    Instr.fill place cells ((i, v) :: rest) = Instr.fill place (cells.toList.take off ++ v.cells.toList ++ cells.toList.drop (off + v.cells.size)).toArray rest := by
  have h1 : ¬ (off + v.cells.size > cells.size) := by omega
  have h2 := zip_fold v.cells.toList 0 off cells (by simpa using hl)
  simp only [Nat.add_zero, Array.length_toList] at h2
  simp only [Instr.fill, hp]
  rw [← h2, ← Array.foldl_toList, Array.toList_zipIdx]
  simp [h1]
inductive Fill (S : List (Nat × Ent)) {α : Type} (T : Ty α) (pl : Nat → Option (Nat × Nat)) : α → List (Nat × Operand) → α → Prop
  | nil {d} : Fill S T pl d [] d
  | cons {β : Type} {U : Ty β} {d d' : α} {i off : Nat} {x : Operand} {g : α → β} {st : α → β → α} {q : β} {ov : Option Value} {rest : List (Nat × Operand)} :
      Fld T off U g st → pl i = some (off, U.sz) → opVA S x = some (U.va q, ov) → Fill S T pl (st d q) rest d' → Fill S T pl d ((i, x) :: rest) d'
section
variable {P : Program} {f : FuncId} {e : Env} {ρ : Type} {R : ρ → Value → World → Prop} {Kp : ρ → Act → World → Prop}
variable {S : List (Nat × Ent)} {B : List Own} {a : Act} {w : World}
variable {k : List Item} {r : Option ρ} {arr : Array Oper} {rest : List Oper}
variable {d : Nat} {ty t u el : TypeId} {pos : String} {af : Array Edge} {ov ov' : Option Value}
variable {x y z : Operand} {α β : Type} {T : Ty α} {v : Value} {xs ys : List α} {κ : IntKind} {m n : Int}
theorem Fill.run (hk : Holds e ⟨S, B⟩ a w) {pl : Nat → Option (Nat × Nat)} {d0 d1 : α} {parts : List (Nat × Operand)} (h : Fill S T pl d0 parts d1) : ∀ {cs : List Value}, T.rel d0 cs (Acur e B w) w →
    ∃ cs', Instr.fill pl cs.toArray (parts.map fun (i, x) => (i, a.eval x)) = some cs'.toArray ∧ T.rel d1 cs' (Acur e B w) w := by
  induction h with
  | nil => intro cs hr; exact ⟨cs, rfl, hr⟩
  | @cons β U d d' i off x g st q ov rest hf hp hx _ ih =>
    intro cs hr
    obtain ⟨c, h1, h2⟩ := U.iff.1 (hk.ev hx)
    have hcells := U.cells h2
    have hlen := U.len h2
    have hTl := T.len hr
    have hle := hf.le
    obtain ⟨cs', h3, h4⟩ := ih (hf.set hr h2)
    refine ⟨cs', ?_, h4⟩
    simp only [List.map_cons]
    rw [h1, fill_one (off := off) (by rw [hcells, hp]; simp [hlen]) (by rw [hcells]; simp; omega), hcells]
    rw [← h3]
    simp [hlen]
structure StAt (P : Program) (t : TypeId) (pls : List (Nat × Nat)) : Prop where
  h : (P.underlying t).bind (fun | .struct fs => fs.toList.mapM (fun f => (P.info? f.type).map fun i => (f.offset, i.size)) | _ => none) = some pls
theorem WO.build {pls : List (Nat × Nat)} {parts : Array (Nat × Operand)} {d0 d1 : α} (hT : T.agg = true) (hst : StAt P t pls) (hz : ZeroAt P t T d0 []) (hp : Fill S T (pls.toArray[·]?) d0 parts.toList d1) (hd : Nat.ble (d + 1) e.N = true)
    (h : WO P e Kp arr rest ⟨(d, T.va d1, none) :: S, B⟩ r) : WO P e Kp arr (mkOp d (.build t parts) ty pos af :: rest) ⟨S, B⟩ r := by
  refine .calc hd (fun a w hk => ?_) h
  obtain ⟨c, hz1, hz2, -⟩ := hz.h
  obtain ⟨cs', h1, h2⟩ := hp.run hk (hz2 _ _)
  have hb : P.built t ((parts.map fun (i, x) => (i, a.eval x)).toList) = some cs'.toArray := by
    have hs := hst.h
    unfold Program.built
    cases hi : P.info? t with
    | none => simp [hi] at hz1
    | some it =>
      simp only [hi, Option.bind_some] at hz1
      cases hu : P.underlying t with
      | none => simp [hu] at hs
      | some dd =>
        cases dd <;> simp only [hu, Option.bind_some] at hs <;> first | cases hs | skip
        simp only [hz1, hs]
        rw [← h1]
        simp
  refine ⟨wrap true cs', ?_, T.iff.2 ⟨cs', by rw [hT], h2⟩⟩
  simp only [execOp, Sem.run_bind, run_build w t _ _ hb, Result.andThen_ok]
  rfl
theorem toArr (c : Value) : c.cells = c.cells.toList.toArray := by simp
inductive Elems (S : List (Nat × Ent)) {α : Type} (T : Ty α) : Nat → List (Nat × Operand) → List α → Prop
  | nil {i} : Elems S T i [] []
  | cons {i : Nat} {x : Operand} {q : α} {ov : Option Value} {rest : List (Nat × Operand)} {qs : List α} : opVA S x = some (T.va q, ov) → Elems S T (i + 1) rest qs → Elems S T i ((i, x) :: rest) (q :: qs)
theorem Elems.run (hk : Holds e ⟨S, B⟩ a w) {parts : List (Nat × Operand)} {i : Nat} {qs : List α} (h : Elems S T i parts qs) : ∀ {pre post : List Value}, pre.length = i * T.sz → post.length = qs.length * T.sz →
    ∃ cs', Instr.fill (fun i => some (i * T.sz, T.sz)) (pre ++ post).toArray (parts.map fun (i, x) => (i, a.eval x)) = some (pre ++ cs').toArray ∧ flat T qs cs' (Acur e B w) w := by
  induction h with
  | nil =>
    intro pre post h1 h2
    have : post = [] := List.eq_nil_of_length_eq_zero (by simpa using h2)
    subst this
    exact ⟨[], rfl, rfl⟩
  | @cons i x q ov rest qs hx _ ih =>
    intro pre post h1 h2
    obtain ⟨c, h3, h4⟩ := T.iff.1 (hk.ev hx)
    have hcells := T.cells h4
    have hlen := T.len h4
    rw [List.length_cons, Nat.succ_mul] at h2
    obtain ⟨cs', h5, h6⟩ := ih (pre := pre ++ c) (post := post.drop T.sz) (by rw [List.length_append, h1, hlen, Nat.succ_mul]) (by rw [List.length_drop]; omega)
    refine ⟨c ++ cs', ?_, c, cs', rfl, h4, h6⟩
    simp only [List.map_cons]
    rw [h3, fill_one (off := i * T.sz) (by rw [hcells]; simp [hlen]) (by rw [hcells]; simp; omega), hcells]
    rw [List.append_assoc] at h5
    rw [← List.append_assoc, ← h5]
    congr 2
    simp only [List.size_toArray, hlen]
    rw [← h1, List.take_left' rfl, List.drop_append, List.drop_eq_nil_of_le (as := pre) (by omega)]
    simp
theorem Holds.tok {O : Own} (h : Holds e ⟨S, B⟩ a w) (hb : O.blk = none) (ho : ∀ A, O.ok A w) : Holds e ⟨S, O :: B⟩ a w := by
  have hA : Same (Acur e B w) (Acur e (O :: B) w) w w := fun b o ⟨h1, h2, h3⟩ => ⟨⟨h1, h2, fun O' hO' => by
    rcases List.mem_cons.1 hO' with rfl | hO'
    · exact fun hf => by rw [Own.foot, hb] at hf; cases hf.1
    · exact h3 O' hO'⟩, rfl⟩
  exact { size := h.size, defers := h.defers, old := h.old, gl := h.gl, same := h.same, slots := fun t Q ht => (h.slots t Q ht).good hA, owns := fun O' hO' => by
            rcases List.mem_cons.1 hO' with rfl | hO'
            · exact ho _
            · exact O'.good hA (fun _ _ => rfl) (h.owns O' hO'), fresh := fun O' hO' b hb' => by
            rcases List.mem_cons.1 hO' with rfl | hO'
            · rw [hb] at hb'; cases hb'
            · exact h.fresh O' hO' b hb', apart := List.pairwise_cons.2 ⟨fun O' _ b hb' => (by rw [hb] at hb'; cases hb'), h.apart⟩ }
theorem WO.lit {len : Nat} {parts : Array (Nat × Operand)} {qs : List α} (hu : P.underlying t = some (.slice el)) (he : ElAt P el T.sz) (hl : len = qs.length) (hlen : (Nat.ble (len * T.sz) 1000 && Nat.ble len 1000) = true) (hp : Elems S T 0 parts.toList qs) (hd : Nat.ble (d + 1) e.N = true)
    (h : ∀ v, WO P e Kp arr rest ⟨(d, (tL T).va qs, some v) :: S, appO T.sz v :: B⟩ r) : WO P e Kp arr (mkOp d (.buildSlice t len parts) ty pos af :: rest) ⟨S, B⟩ r := by
  refine WO.opX rfl rfl fun a w hk => ?_
  obtain ⟨info, zz, hi, hsz, hz, hzs, hby⟩ := he.out
  simp only [Bool.and_eq_true] at hlen
  have hlen1 := Nat.le_of_ble_eq_true hlen.1
  have hlen2 := Nat.le_of_ble_eq_true hlen.2
  have hL := LIM_eq
  have hrun : ∃ cs, flat T qs cs (Acur e B w) w ∧ (execOp a.eval (mkOp d (.buildSlice t len parts) ty pos af)).run P w = .ok (.value (.slice (some ⟨w.heap.size, 0, none⟩) len len)) (w.alloc (.cells cs.toArray el)) := by
    have h24 : ¬ (len * T.sz > 2 ^ 24) := by
      have : (2 : Nat) ^ 24 = 16777216 := rfl
      omega
    by_cases h0 : len * T.sz = 0
    · obtain ⟨cs, h1, h2⟩ := hp.run hk (pre := []) (post := []) (by simp) (by rw [← hl, h0]; rfl)
      refine ⟨cs, h2, ?_⟩
      simp only [List.nil_append] at h1
      have e0 : Array.map (fun _ : Nat => (default : Value)) (Array.range 0) = #[] := by apply Array.ext'; simp
      simp [execOp, Instr.buildSlice, run_underlying hu, sizeOf, typeInfo, hi, hsz, h0, newRow]
      rw [e0, h1]
      simp
    · obtain ⟨cs, h1, h2⟩ := hp.run hk (pre := []) (post := ((Array.range (len * T.sz)).map (zz.cells[· % zz.cells.size]!)).toList) (by simp) (by simp [hl])
      refine ⟨cs, h2, ?_⟩
      simp only [List.nil_append, Array.toArray_toList] at h1
      simp [execOp, Instr.buildSlice, run_underlying hu, sizeOf, typeInfo, zeroValue, hi, hsz, hz, h0, h24, h1, newRow]
  obtain ⟨cs, hfl, hrun⟩ := hrun
  obtain ⟨hk1, hs⟩ := Holds.grow hk (w' := w.alloc (.cells cs.toArray el)) rfl rfl rfl (by rw [alloc_size]; omega) (fun b hb => alloc_old _ _ _ hb)
  have hk2 := hk1.tok (O := appO T.sz (.slice (some ⟨w.heap.size, 0, none⟩) len len)) (by show (if len < len then _ else _) = _; rw [if_neg (by omega)]) (fun _ hlt => absurd hlt (Nat.lt_irrefl _))
  refine ⟨_, _, _, hrun, hk2.put (Nat.le_of_ble_eq_true hd) ⟨?_, fun u hu => by injection hu⟩, h _⟩
  have hw0 := hk.same.size
  refine ⟨some ⟨w.heap.size, 0, none⟩, len, len, cs, rfl, hl.symm, Nat.le_refl _, by omega, flat.good ?_ hfl, fun _ => ⟨w.heap.size, 0, rfl, fun j hj => ⟨⟨.inr (.inl (by omega)), by rw [alloc_size]; omega, fun O hO => ?_⟩, ?_⟩⟩⟩
  · exact hs.trans (fun b o ⟨h1, h2, h3⟩ => ⟨⟨h1, h2, fun O' hO' => by
      rcases List.mem_cons.1 hO' with rfl | hO'
      · intro hf
        have := hf.1
        have h' : (if len < len then some w.heap.size else none) = some b := this
        rw [if_neg (by omega)] at h'
        cases h'
      · exact h3 O' hO'⟩, rfl⟩)
  · rcases List.mem_cons.1 hO with rfl | hO
    · intro hf
      have h' : (if len < len then some w.heap.size else none) = some w.heap.size := hf.1
      rw [if_neg (by omega)] at h'
      cases h'
    · intro hf
      have := (hk.fresh O hO _ hf.1).1
      omega
  · have hnew := alloc_new w (.cells cs.toArray el)
    have e3 : (w.alloc (.cells cs.toArray el)).cell? ⟨w.heap.size, 0 + j, none⟩ = cs[j]? := by
      unfold World.cell?
      rw [hnew]
      simp
    rw [e3, List.getElem?_eq_getElem hj]
theorem WO.litN {len : Nat} {parts : Array (Nat × Operand)} {qs : List α} (hu : P.underlying t = some (.slice el)) (he : ElAt P el T.sz) (hl : len = qs.length) (hlen : (Nat.ble (len * T.sz) 1000 && Nat.ble len 1000) = true) (hp : Elems S T 0 parts.toList qs) (hd : Nat.ble (d + 1) e.N = true)
    (h : WO P e Kp arr rest ⟨(d, (tL T).va qs, none) :: S, B⟩ r) : WO P e Kp arr (mkOp d (.buildSlice t len parts) ty pos af :: rest) ⟨S, B⟩ r :=
  .lit hu he hl hlen hp hd fun v => .drop (.cons _ (List.Sublist.refl _)) fun x hx a w hk => h x hx a w (noval hk)
theorem WO.cut {lo hi : Option Operand} {l h' : Int} (hx : opVA S x = some ((tL T).va xs, ov)) (hu : P.underlying t = some (.slice el)) (he : ElAt P el T.sz)
    (hlo : match lo with | some y => ∃ ov, opVA S y = some (isI .i64 l, ov) | none => l = 0) (hhi : match hi with | some y => ∃ ov, opVA S y = some (isI .i64 h', ov) | none => h' = xs.length) (hd : Nat.ble (d + 1) e.N = true)
    (h : WO P e Kp arr rest ⟨(d, (tL T).va ((xs.take h'.toNat).drop l.toNat), none) :: S, B⟩ r) :
    WO P e Kp arr (mkOp d (.slice t x lo hi none) ty pos af :: rest) ⟨S, B⟩ (cond (decide (0 ≤ l) && decide (l ≤ h') && decide (h' ≤ xs.length)) r none) := by
  intro q hq
  by_cases hc : 0 ≤ l ∧ l ≤ h' ∧ h' ≤ xs.length
  case neg =>
    have : (decide (0 ≤ l) && decide (l ≤ h') && decide (h' ≤ (xs.length : Int))) = false := by
      simp only [Bool.and_eq_false_iff, decide_eq_false_iff_not]; omega
    simp [this] at hq
  obtain ⟨hc1, hc2, hc3⟩ := hc
  simp only [hc1, hc2, hc3, decide_true, Bool.and_self, cond_true] at hq
  refine WO.calc hd (fun a w hk => ?_) h q hq
  obtain ⟨info, zz, hi', hsz, hz, hzs, hby⟩ := he.out
  obtain ⟨ad, n, c, cs, hv, hn, hnc, hlim, hfl, hca⟩ := hk.ev hx
  have e1 : (Instr.sliceBounds true n c (lo.map a.eval) (hi.map a.eval) none).run P w = .ok (l.toNat, h'.toNat, c) w := by
    have hle1 : h' ≤ (c : Int) := by omega
    cases lo with
    | none =>
      simp only at hlo
      subst hlo
      cases hi with
      | none => simp only at hhi; subst hhi; simp [Instr.sliceBounds, hn]
      | some y =>
        obtain ⟨_, hy⟩ := hhi
        have := hk.ev hy
        simp only [isI] at this
        have h0 : 0 ≤ h' := by omega
        simp [Instr.sliceBounds, Instr.sliceBound, this, asIntOf, h0, hle1]
    | some yl =>
      obtain ⟨_, hyl⟩ := hlo
      have hyl' := hk.ev hyl
      simp only [isI] at hyl'
      cases hi with
      | none =>
        simp only at hhi
        subst hhi
        have : l ≤ (n : Int) := by omega
        simp [Instr.sliceBounds, Instr.sliceBound, hyl', asIntOf, hc1, this, hn]
      | some y =>
        obtain ⟨_, hy⟩ := hhi
        have := hk.ev hy
        simp only [isI] at this
        have h0 : 0 ≤ h' := by omega
        have h2 : l ≤ ((h'.toNat : Nat) : Int) := by omega
        simp [Instr.sliceBounds, Instr.sliceBound, this, hyl', asIntOf, h0, hle1, hc1, h2]
        omega
  refine ⟨.slice (if c = l.toNat then ad else ad.map (·.add (l.toNat * T.sz))) (h'.toNat - l.toNat) (c - l.toNat), ?_, ?_⟩
  · simp only [execOp, Instr.sliceAt, Sem.run_bind, run_underlying hu, Result.andThen_ok, Instr.slice, hv, e1]
    simp [e1, sizeOf, typeInfo, hi', hsz]
  · have hfl2 := (hfl.take h'.toNat).drop l.toNat
    refine ⟨_, _, _, _, rfl, by simp; omega, by omega, by omega, hfl2, fun hp => ?_⟩
    obtain ⟨b, o, hao, hcc⟩ := hca (by omega)
    subst hao
    rw [if_neg (by omega)]
    refine ⟨b, o + l.toNat * T.sz, by simp [Addr.add0], ?_⟩
    have := hcc.part (l.toNat * T.sz) ((h'.toNat - l.toNat) * T.sz)
    rw [List.drop_take]
    rw [Nat.sub_mul] at this
    exact this
theorem WO.cutS {lo hi : Option Operand} {l h' : Int} {s : List UInt8} (hx : opVA S x = some (isS s, ov)) (hu : P.underlying t = some .string)
    (hlo : match lo with | some y => ∃ ov, opVA S y = some (isI .i64 l, ov) | none => l = 0) (hhi : match hi with | some y => ∃ ov, opVA S y = some (isI .i64 h', ov) | none => h' = s.length) (hd : Nat.ble (d + 1) e.N = true)
    (h : WO P e Kp arr rest ⟨(d, isS ((s.take h'.toNat).drop l.toNat), none) :: S, B⟩ r) :
    WO P e Kp arr (mkOp d (.slice t x lo hi none) ty pos af :: rest) ⟨S, B⟩ (cond (decide (0 ≤ l) && decide (l ≤ h') && decide (h' ≤ s.length)) r none) := by
  intro q hq
  by_cases hc : 0 ≤ l ∧ l ≤ h' ∧ h' ≤ s.length
  case neg =>
    have : (decide (0 ≤ l) && decide (l ≤ h') && decide (h' ≤ (s.length : Int))) = false := by
      simp only [Bool.and_eq_false_iff, decide_eq_false_iff_not]; omega
    simp [this] at hq
  obtain ⟨hc1, hc2, hc3⟩ := hc
  simp only [hc1, hc2, hc3, decide_true, Bool.and_self, cond_true] at hq
  refine WO.calc hd (fun a w hk => ?_) h q hq
  have hv := hk.ev hx
  simp only [isS, str] at hv
  have e1 : (Instr.sliceBounds false s.length s.length (lo.map a.eval) (hi.map a.eval) none).run P w = .ok (l.toNat, h'.toNat, s.length) w := by
    cases lo with
    | none =>
      simp only at hlo
      subst hlo
      cases hi with
      | none => simp only at hhi; subst hhi; simp [Instr.sliceBounds]
      | some y =>
        obtain ⟨_, hy⟩ := hhi
        have := hk.ev hy
        simp only [isI] at this
        have h0 : 0 ≤ h' := by omega
        simp [Instr.sliceBounds, Instr.sliceBound, this, asIntOf, h0, hc3]
    | some yl =>
      obtain ⟨_, hyl⟩ := hlo
      have hyl' := hk.ev hyl
      simp only [isI] at hyl'
      cases hi with
      | none =>
        simp only at hhi
        subst hhi
        simp [Instr.sliceBounds, Instr.sliceBound, hyl', asIntOf, hc1, hc2]
      | some y =>
        obtain ⟨_, hy⟩ := hhi
        have := hk.ev hy
        simp only [isI] at this
        have h0 : 0 ≤ h' := by omega
        have h2 : l ≤ ((h'.toNat : Nat) : Int) := by omega
        simp [Instr.sliceBounds, Instr.sliceBound, this, hyl', asIntOf, h0, hc3, hc1, h2]
        omega
  have e2 : (⟨s.toArray⟩ : ByteArray).extract l.toNat h'.toNat = ⟨((s.take h'.toNat).drop l.toNat).toArray⟩ := by
    apply ByteArray.ext
    simp [List.drop_take]
  refine ⟨_, ?_, rfl⟩
  simp only [execOp, Instr.sliceAt, Sem.run_bind, run_underlying hu, Result.andThen_ok, Instr.slice, hv, ba_size, e1]
  simp [e1, e2, str]
end
end Go.HL
namespace Go.HL
theorem perm_set : ∀ {B : List Own} {i : Nat} {O O' : Own}, B[i]? = some O → (O' :: B.eraseIdx i).Perm (B.set i O')
  | [], i, O, O', h => by simp at h
  | Q :: B, 0, O, O', h => by simp
  | Q :: B, i + 1, O, O', h => by
    have := perm_set (B := B) (i := i) (O := O) (O' := O') (by simpa using h)
    exact (List.Perm.swap Q O' _).trans (this.cons Q)
section
variable {P : Program} {f : FuncId} {e : Env} {ρ σ : Type} {R : ρ → Value → World → Prop} {Kp : ρ → Act → World → Prop}
variable {S : List (Nat × Ent)} {B : List Own} {a : Act} {w : World}
variable {k : List Item} {r : Option ρ} {arr : Array Oper} {rest : List Oper}
variable {d : Nat} {ty t u el : TypeId} {pos : String} {af : Array Edge} {ov ov' : Option Value}
variable {x y z : Operand} {α β : Type} {T : Ty α} {v : Value} {xs ys : List α} {κ : IntKind} {m n : Int}
theorem WO.app (i : Nat) (hx : opVA S x = some ((tL T).va xs, some v)) (hy : opVA S y = some ((tL T).va ys, ov')) (hB : B[i]? = some (appO T.sz v)) (hu : P.underlying t = some (.slice el)) (he : ElAt P el T.sz) (hd : Nat.ble (d + 1) e.N = true)
    (h : ∀ v', WO P e Kp arr rest ⟨(d, (tL T).va (xs ++ ys), some v') :: S, B.set i (appO T.sz v')⟩ r) :
    WO P e Kp arr (mkOp d (.call { callee := .builtin .append, args := #[x, y], argTypes := #[t, t] }) ty pos af :: rest) ⟨S, B⟩ (cond (decide (xs.length + ys.length ≤ CAP)) r none) :=
  .append i hx hy hB hu he hd fun v' => .perm (perm_set hB) (h v')
theorem WO.call1 (i : Nat) {g : FuncId} {xs : Array Operand} {tys : Array TypeId} {vs : List VA} {O : Own} {y : Option σ} {O' : σ → Own} {Q : σ → VA} {r : σ → Option ρ}
    (hf : Ctr P g vs [O] y (fun q _ => [O' q]) Q) (hB : B[i]? = some O) (hfn : ∃ fn c, P.funcs[g]? = some fn ∧ (fn.name == "runtime.NumGoroutine") = false ∧ fn.body = some c) (hx : opVAs S xs.toList = some vs) (hd : Nat.ble (d + 1) e.N = true)
    (h : ∀ q, WO P e Kp arr rest ⟨(d, Q q, none) :: S, B.set i (O' q)⟩ (r q)) :
    WO P e Kp arr (mkOp d (.call { callee := .value (.func g), args := xs, argTypes := tys }) ty pos af :: rest) ⟨S, B⟩ (y.bind r) :=
  .perm (perm_erase hB) <| .call hf hfn (B' := B.eraseIdx i) rfl hx hd fun q v => .perm (perm_set hB) fun x hx a w hk => h q x hx a w (noval hk)
theorem WO.conv {κ' : IntKind} (hx : opVA S x = some (isI κ m, ov)) (hs : ∃ dsc, P.underlying t = some dsc) (hu : P.underlying u = some (.int κ')) (hd : Nat.ble (d + 1) e.N = true) (h : WO P e Kp arr rest ⟨(d, isI κ' (κ'.wrap m), none) :: S, B⟩ r) : WO P e Kp arr (mkOp d (.convert t u x) ty pos af :: rest) ⟨S, B⟩ r := by
  refine .calc hd (fun a w hk => ?_) h
  obtain ⟨dsc, hs⟩ := hs
  have := hk.ev hx
  simp only [isI] at this
  refine ⟨.int κ' (κ'.wrap m), ?_, rfl⟩
  cases dsc <;> simp [execOp, convert, run_underlying hs, run_underlying hu, this, Conv.intToInt]
end
end Go.HL
namespace Go.HL
structure EqAt (P : Program) (t : TypeId) {α : Type} [DecidableEq α] (T : Ty α) : Prop where
  guard : P.eqGuardType P.depth t = false
  agg : T.agg = true
  h : ∀ (a b : α) (c1 c2 : List Value) (A : Ar) (w : World), T.rel a c1 A w → T.rel b c2 A w → (Op.equal t (.agg c1.toArray) (.agg c2.toArray)).run P w = .ok (decide (a = b)) w
section
variable {P : Program} {f : FuncId} {e : Env} {ρ σ : Type} {R : ρ → Value → World → Prop} {Kp : ρ → Act → World → Prop}
variable {S : List (Nat × Ent)} {B : List Own} {k : List Item} {r : Option ρ} {arr : Array Oper} {rest : List Oper}
variable {d : Nat} {ty t u : TypeId} {pos : String} {af : Array Edge} {ov ov' : Option Value} {x y : Operand} {α : Type} [DecidableEq α] {T : Ty α} {p q : α}
theorem WO.eqT (he : EqAt P t T) (hx : opVA S x = some (T.va p, ov)) (hy : opVA S y = some (T.va q, ov')) (hd : Nat.ble (d + 1) e.N = true)
    (h : WO P e Kp arr rest ⟨(d, isB (decide (p = q)), none) :: S, B⟩ r) : WO P e Kp arr (mkOp d (.binOp .eql t x y u) ty pos af :: rest) ⟨S, B⟩ r := by
  refine .calc hd (fun a w hk => ?_) h
  obtain ⟨c1, h1, h2⟩ := T.iff.1 (hk.ev hx)
  obtain ⟨c2, h3, h4⟩ := T.iff.1 (hk.ev hy)
  rw [he.agg] at h1 h3
  have h5 := he.h p q c1 c2 _ w h2 h4
  refine ⟨.bool (decide (p = q)), ?_, rfl⟩
  simp [execOp, h1, h3, wrap, eqGuard, he.guard, binOp, h5]
theorem WO.neT (he : EqAt P t T) (hx : opVA S x = some (T.va p, ov)) (hy : opVA S y = some (T.va q, ov')) (hd : Nat.ble (d + 1) e.N = true)
    (h : WO P e Kp arr rest ⟨(d, isB (!decide (p = q)), none) :: S, B⟩ r) : WO P e Kp arr (mkOp d (.binOp .neq t x y u) ty pos af :: rest) ⟨S, B⟩ r := by
  refine .calc hd (fun a w hk => ?_) h
  obtain ⟨c1, h1, h2⟩ := T.iff.1 (hk.ev hx)
  obtain ⟨c2, h3, h4⟩ := T.iff.1 (hk.ev hy)
  rw [he.agg] at h1 h3
  have h5 := he.h p q c1 c2 _ w h2 h4
  refine ⟨.bool (!decide (p = q)), ?_, rfl⟩
  simp [execOp, h1, h3, wrap, eqGuard, he.guard, binOp, h5]
end
end Go.HL
namespace Go.HL
def Ext (S0 S : List (Nat × Ent)) : Prop := ∀ t Q, look S0 t = some Q → look S t = some Q
theorem Ext.op {S0 S : List (Nat × Ent)} (h : Ext S0 S) {x : Operand} {Q : Ent} (hx : opVA S0 x = some Q) : opVA S x = some Q := by
  cases x with
  | tmp t => exact h t Q hx
  | const v => exact hx
  | global g => exact hx
  | func f => exact hx
theorem Ext.ops {S0 S : List (Nat × Ent)} (h : Ext S0 S) : ∀ {xs : List Operand} {Qs : List VA}, opVAs S0 xs = some Qs → opVAs S xs = some Qs
  | [], _, hx => hx
  | x :: xs, Qs, hx => by
    simp only [opVAs] at hx ⊢
    cases h1 : opVA S0 x with
    | none => simp [h1] at hx
    | some Q =>
      cases h2 : opVAs S0 xs with
      | none => simp [h1, h2] at hx
      | some Q2 => rw [h.op h1, h.ops h2]; simpa [h1, h2] using hx
def memB (i : Nat) : List Nat → Bool
  | [] => false
  | x :: l => match Nat.beq x i with | true => true | false => memB i l
inductive PreB (H : List Nat) : Nat → List Own → List Own → Prop
  | nil {i Z} : PreB H i [] Z
  | same {i O B B'} : PreB H (i + 1) B B' → PreB H i (O :: B) (O :: B')
  | hole {i O O' B B'} : memB i H = true → PreB H (i + 1) B B' → PreB H i (O :: B) (O' :: B')
theorem PreB.refl {H : List Nat} : ∀ {B : List Own} {i : Nat}, PreB H i B B
  | [], _ => .nil
  | _ :: _, _ => .same PreB.refl
theorem PreB.get' {H : List Nat} : ∀ {k : Nat} {B B' : List Own}, PreB H k B B' → ∀ {i : Nat} {O : Own}, B[i]? = some O → memB (k + i) H = false → B'[i]? = some O
  | _, _, _, .nil, i, O, h, _ => by simp at h
  | _, _, _, .same h1, 0, O, h, _ => by simpa using h
  | k, _, _, .same h1, i + 1, O, h, hm => by
    simp only [List.getElem?_cons_succ] at h ⊢
    exact h1.get' h (by rwa [Nat.add_assoc, Nat.add_comm 1 i])
  | k, _, _, .hole h0 h1, 0, O, h, hm => by rw [Nat.add_zero, h0] at hm; cases hm
  | k, _, _, .hole h0 h1, i + 1, O, h, hm => by
    simp only [List.getElem?_cons_succ] at h ⊢
    exact h1.get' h (by rwa [Nat.add_assoc, Nat.add_comm 1 i])
theorem PreB.get {H : List Nat} {B B' : List Own} (h : PreB H 0 B B') {i : Nat} {O : Own} (hi : B[i]? = some O) (hm : memB i H = false) : B'[i]? = some O := h.get' hi (by rwa [Nat.zero_add])
def Stp (P : Program) (e : Env) (AB : List Own → Prop) (arr : Array Oper) (S0 : List (Nat × Ent)) (o : Oper) (d : Nat) (Q : Ent) : Prop :=
  ∀ (Kp : Unit → Act → World → Prop) (S : List (Nat × Ent)) (B : List Own), AB B → Ext S0 S → WO P e Kp arr [] ⟨(d, Q) :: S, B⟩ (some ()) → WO P e Kp arr [o] ⟨S, B⟩ (some ())
def SX (S0 : List (Nat × Ent)) (ℓ : Nat → Bool) : Nat → List (Option (Nat × Ent)) → List (Nat × Ent)
  | _, [] => S0
  | i, none :: E => SX S0 ℓ (i + 1) E
  | i, some (d, Q) :: E => match ℓ i with | true => (d, Q) :: SX S0 ℓ (i + 1) E | false => SX S0 ℓ (i + 1) E
def keysE (E : List (Option (Nat × Ent))) : List Nat := E.filterMap fun p => p.map (·.1)
theorem SX_old {S0 : List (Nat × Ent)} {ℓ : Nat → Bool} : ∀ {E : List (Option (Nat × Ent))} {i t Q}, t ∉ keysE E → look S0 t = some Q → look (SX S0 ℓ i E) t = some Q
  | [], _, _, _, _, h => h
  | none :: E, i, t, Q, hn, h => by
    simp only [SX]
    exact SX_old (by simpa [keysE] using hn) h
  | some (d, Q0) :: E, i, t, Q, hn, h => by
    simp only [keysE, List.filterMap_cons, Option.map_some, List.mem_cons, not_or] at hn
    have h1 : d ≠ t := fun e => hn.1 e.symm
    have h2 := SX_old (ℓ := ℓ) (i := i + 1) hn.2 h
    simp only [SX]
    split
    · simp only [look, beq_ne h1]; exact h2
    · exact h2
theorem mem_keysE {E : List (Option (Nat × Ent))} {j d : Nat} {Q : Ent} (h : E[j]? = some (some (d, Q))) : d ∈ keysE E :=
  List.mem_filterMap.2 ⟨some (d, Q), List.mem_of_getElem? h, rfl⟩
theorem SX_new {S0 : List (Nat × Ent)} {ℓ : Nat → Bool} : ∀ {E : List (Option (Nat × Ent))} {i j d Q}, (keysE E).Nodup → E[j]? = some (some (d, Q)) → ℓ (i + j) = true → look (SX S0 ℓ i E) d = some Q
  | none :: E, i, 0, d, Q, hn, h, hl => by simp at h
  | none :: E, i, j + 1, d, Q, hn, h, hl => by
    simp only [SX]
    exact SX_new (by simpa [keysE] using hn) (by simpa using h) (by rw [← hl]; congr 1; omega)
  | some (d0, Q0) :: E, i, 0, d, Q, hn, h, hl => by
    simp at h
    obtain ⟨rfl, rfl⟩ := h
    simp only [Nat.add_zero] at hl
    simp [SX, hl, look]
  | some (d0, Q0) :: E, i, j + 1, d, Q, hn, h, hl => by
    simp only [keysE, List.filterMap_cons, Option.map_some, List.nodup_cons] at hn
    have hj : E[j]? = some (some (d, Q)) := by simpa using h
    have h2 := SX_new (S0 := S0) (ℓ := ℓ) (i := i + 1) hn.2 hj (by rw [← hl]; congr 1; omega)
    have h1 : d0 ≠ d := fun e => hn.1 (e ▸ mem_keysE hj)
    simp only [SX]
    split
    · simp only [look, beq_ne h1]; exact h2
    · exact h2
theorem SX_inv {S0 : List (Nat × Ent)} {ℓ : Nat → Bool} : ∀ {E : List (Option (Nat × Ent))} {i t Q}, look (SX S0 ℓ i E) t = some Q → (∃ j Q', E[j]? = some (some (t, Q')) ∧ ℓ (i + j) = true ∧ Q = Q') ∨ look S0 t = some Q
  | [], i, t, Q, h => .inr h
  | none :: E, i, t, Q, h => by
    simp only [SX] at h
    rcases SX_inv h with ⟨j, Q', h1, h2, h3⟩ | h1
    · exact .inl ⟨j + 1, Q', by simpa using h1, by rw [← h2]; congr 1; omega, h3⟩
    · exact .inr h1
  | some (d0, Q0) :: E, i, t, Q, h => by
    simp only [SX] at h
    have key : look (SX S0 ℓ (i + 1) E) t = some Q → (∃ j Q', (some (d0, Q0) :: E)[j]? = some (some (t, Q')) ∧ ℓ (i + j) = true ∧ Q = Q') ∨ look S0 t = some Q := by
      intro h
      rcases SX_inv h with ⟨j, Q', h1, h2, h3⟩ | h1
      · exact .inl ⟨j + 1, Q', by simpa using h1, by rw [← h2]; congr 1; omega, h3⟩
      · exact .inr h1
    split at h
    · rename_i hl
      simp only [look] at h
      by_cases e : d0 = t
      · subst e
        rw [Nat.beq_refl] at h
        injection h with h
        exact .inl ⟨0, Q0, by simp, by simpa using hl, h.symm⟩
      · rw [beq_ne e] at h
        exact key h
    · exact key h
def preE (E : List (Option (Nat × Ent))) (o : Oper) : List (Nat × Ent) :=
  o.after.toList.filterMap fun ed => match Region.binds .any ed with | true => (match E[ed.on]? with | some (some p) => some (p.1, p.2) | _ => none) | false => none
theorem look_append {l1 l2 : List (Nat × Ent)} : ∀ {t Q}, look (l1 ++ l2) t = some Q → (t, Q) ∈ l1 ∨ look l2 t = some Q := by
  induction l1 with
  | nil => exact fun h => .inr h
  | cons p l ih =>
    intro t Q h
    obtain ⟨t0, Q0⟩ := p
    simp only [List.cons_append, look] at h
    by_cases e : t0 = t
    · subst e
      rw [Nat.beq_refl] at h
      injection h with h
      exact .inl (h ▸ .head _)
    · rw [beq_ne e] at h
      exact (ih h).imp (.tail _) id
theorem ext_pre {S0 Sp : List (Nat × Ent)} {ℓ : Nat → Bool} {E : List (Option (Nat × Ent))} {o : Oper} (hS : Ext S0 Sp) (hn : (keysE E).Nodup) (hf : ∀ t ∈ keysE E, look S0 t = none) (hp : ∀ ed ∈ o.after, Region.binds .any ed = true → ℓ ed.on = true) : Ext (preE E o ++ S0) (SX Sp ℓ 0 E) := by
  intro t Q h
  rcases look_append h with h | h
  · obtain ⟨ed, hed, hm⟩ := List.mem_filterMap.1 h
    cases hb : Region.binds .any ed with
    | false => rw [hb] at hm; cases hm
    | true =>
      rw [hb] at hm
      simp only at hm
      split at hm
      · rename_i p he
        obtain ⟨d, Q'⟩ := p
        injection hm with hm
        obtain ⟨rfl, rfl⟩ := Prod.mk.injEq .. ▸ hm
        exact SX_new hn he (by simpa using hp ed (by simpa using hed) hb)
      · cases hm
  · refine SX_old (fun hk => ?_) (hS t Q h)
    rw [hf t hk] at h
    cases h
inductive Steps (P : Program) (e : Env) (B : List Own → Prop) (arr : Array Oper) (S0 : List (Nat × Ent)) (E : List (Option (Nat × Ent))) : List Oper → List (Option (Nat × Ent)) → Prop
  | nil : Steps P e B arr S0 E [] []
  | cons {o l d Q E'} : Stp P e B arr (preE E o ++ S0) o d Q → Steps P e B arr S0 E l E' → Steps P e B arr S0 E (o :: l) (some (d, Q) :: E')
  | skip {o l E'} : Steps P e B arr S0 E l E' → Steps P e B arr S0 E (o :: l) (none :: E')
theorem Steps.get {P e B arr S0 E} : ∀ {l E'} (_ : Steps P e B arr S0 E l E') (i : Nat) {o : Oper}, l[i]? = some o → (∃ d Q, E'[i]? = some (some (d, Q)) ∧ Stp P e B arr (preE E o ++ S0) o d Q) ∨ E'[i]? = some none
  | _, _, .nil, i, o, h => by simp at h
  | _, _, .cons h1 h2, 0, o, h => by simp at h; subst h; exact .inl ⟨_, _, rfl, h1⟩
  | _, _, .cons h1 h2, i + 1, o, h => by simpa using h2.get i (by simpa using h)
  | _, _, .skip h2, 0, o, h => .inr rfl
  | _, _, .skip h2, i + 1, o, h => by simpa using h2.get i (by simpa using h)
theorem Steps.len {P e B arr S0 E} : ∀ {l E'} (_ : Steps P e B arr S0 E l E'), E'.length = l.length
  | _, _, .nil => rfl
  | _, _, .cons _ h2 => by simp [h2.len]
  | _, _, .skip h2 => by simp [h2.len]
end Go.HL
namespace Go.HL
section
variable {P : Program} {f : FuncId} {e : Env} {ρ : Type} {R : ρ → Value → World → Prop} {Kp : ρ → Act → World → Prop}
variable {k : List Item} {K : Ctx} {r : Option ρ} {ops : Array Oper}
def listedN (n j : Nat) : Array Bool := ((List.range n).map (fun i => Nat.blt i j)).toArray
theorem blt_eq (i j : Nat) : Nat.blt i j = decide (i < j) := by rw [Bool.eq_iff_iff]; simp [Nat.blt_eq]
theorem listedN_get? {n j i : Nat} : (listedN n j)[i]? = if i < n then some (decide (i < j)) else none := by
  by_cases h : i < n <;> simp [listedN, h, blt_eq]
theorem listedN_set {n j : Nat} (h : j < n) : (listedN n j).setIfInBounds j true = listedN n (j + 1) := by
  apply Array.ext_getElem?
  intro i
  rw [Array.getElem?_setIfInBounds, listedN_get?, listedN_get?]
  have hs : (listedN n j).size = n := by simp [listedN]
  by_cases hij : j = i
  · subst hij; simp [hs, h]
  · by_cases hi : i < n <;> simp [hij, hi]
    omega
theorem listedN_all {ops : Array Oper} {j : Nat} (h : ops.size ≤ j) : Region.ready .any ops (listedN ops.size j) = [] := by
  cases hr : Region.ready .any ops (listedN ops.size j) with
  | nil => rfl
  | cons i l =>
    obtain ⟨h1, o, h2, -⟩ := mem_ready.1 (hr ▸ List.mem_cons_self : i ∈ Region.ready .any ops (listedN ops.size j))
    have hi := (Array.getElem?_eq_some_iff.1 h2).1
    rw [Array.getD_eq_getD_getElem?, listedN_get?] at h1
    simp [hi] at h1
    omega
def isExt (o : Oper) : Bool := match o.op, o.guard with | .extract .., none => true | .move _, none => true | _, _ => false
def readyIs (ops : Array Oper) (ls : Array Bool) (j : Nat) : Bool := match Region.ready .any ops ls with | [i] => Nat.beq i j | _ => false
def takeOK (ops : Array Oper) (ls : Array Bool) (j : Nat) : Bool := ((ops[j]?).map isExt).getD false && Region.free .any ops ls j && (Region.ready .any ops ls).contains j
def seqOK (ops : Array Oper) : Nat → Nat → Bool
  | 0, _ => true
  | c + 1, j => (readyIs ops (listedN ops.size j) j || takeOK ops (listedN ops.size j) j) && seqOK ops c (j + 1)
theorem wpList_ext {Q : Exit → Act → World → Prop} (hQ : ∀ c a w, ¬ Q (.panic c) a w) (hO : ¬ LetsOut Q) {o : Oper} {l : List Oper} {a : Act} {w : World} (ho : isExt o = true) (h : wpList P ops Q (o :: l) a w) :
    ∃ v, Yields P ops o v a ∧ wpList P ops Q l (a.put o.dst v) w := by
  unfold isExt at ho
  split at ho
  case h_3 => cases ho
  case h_2 =>
    rename_i x hop hg
    have hw : Region.wanted o (yielded ops a.tmps) = true := by simp [Region.wanted, hg]
    simp only [wpList, hw, if_true] at h
    rcases h with h | h
    case inr => exact absurd h.2 hO
    have hr : ∀ w, (execOp a.eval o).run P w = .ok (.value (a.eval x)) w := by
      intro w; simp [execOp, hop]
    refine ⟨_, .inl ⟨hw, hr⟩, ?_⟩
    unfold Oper.wp at h
    rw [hr] at h
    simpa [Oper.upon] using h
  rename_i x i hop hg
  have hw : Region.wanted o (yielded ops a.tmps) = true := by simp [Region.wanted, hg]
  simp only [wpList, hw, if_true] at h
  rcases h with h | h
  case inr => exact absurd h.2 hO
  have hr : ∀ w, (execOp a.eval o).run P w = (Instr.extract (a.eval x) i >>= fun v => pure (.value v) : Sem Next).run P w := by
    intro w; simp [execOp, hop]
  unfold Oper.wp at h
  rw [hr] at h
  have key : ∀ v, Instr.extract (a.eval x) i = pure v → ∃ v, Yields P ops o v a ∧ wpList P ops Q l (a.put o.dst v) w := by
    intro v hv
    refine ⟨v, .inl ⟨hw, fun w => by rw [hr, hv]; simp⟩, ?_⟩
    rw [hv] at h
    simpa [Oper.upon] using h
  cases hx : a.eval x with
  | tuple vs =>
    cases hi : vs[i]? with
    | some v => exact key v (by simp [Instr.extract, hx, hi])
    | none => exfalso; simp [Instr.extract, hx, hi, Oper.upon, stuck] at h
  | _ => exfalso; simp [Instr.extract, hx, Oper.upon, stuck] at h
theorem QN_panic {K : Act → World → Prop} : ∀ c a w, ¬ QN K (.panic c) a w := fun _ _ _ h => h
theorem QN_lets {K : Act → World → Prop} : ¬ LetsOut (QN K) := fun ⟨_, _, h⟩ => h
theorem wpAny_seq (hs : Region.noSelect ops = true) {K : Act → World → Prop} : ∀ (c j : Nat) {a : Act} {w : World}, j + c = ops.size → seqOK ops c j = true → wpList P ops (QN K) (ops.toList.drop j) a w → wpAny P .any ops (QN K) c (listedN ops.size j) a w
  | 0, j, a, w, hj, _, h => by
    rw [List.drop_eq_nil_of_le (by simp; omega)] at h
    exact wpAny_done (listedN_all (by omega)) h _
  | c + 1, j, a, w, hj, hc, h => by
    have hlt : j < ops.size := by omega
    simp only [seqOK, Bool.and_eq_true, Bool.or_eq_true] at hc
    rw [List.drop_eq_getElem_cons (by simpa using hlt)] at h
    have hoj : ops[j]? = some ops[j] := Array.getElem?_eq_getElem hlt
    simp only [Array.getElem_toList] at h
    rcases hc.1 with h1 | h1
    · have hr : Region.ready .any ops (listedN ops.size j) = [j] := by
        unfold readyIs at h1
        split at h1
        · rename_i i he; rw [he, Nat.eq_of_beq_eq_true h1]
        · cases h1
      refine wpAny_all hr (by simp) fun i hi => ?_
      obtain rfl : i = j := by simpa using hi
      rw [listedN_set hlt]
      unfold wpOp
      simp only [hoj]
      simp only [wpList] at h
      split
      · rename_i hw
        rw [if_pos hw] at h
        exact h.imp (Oper.wp_mono fun a w => wpAny_seq hs c (i + 1) (by omega) hc.2) id
      · rename_i hw
        rw [if_neg hw] at h
        exact wpAny_seq hs c (i + 1) (by omega) hc.2 h
    · simp only [takeOK, Bool.and_eq_true, hoj, Option.map_some, Option.getD_some] at h1
      obtain ⟨v, hy, h2⟩ := wpList_ext QN_panic QN_lets h1.1.1 h
      refine wpAny_take hoj hs h1.1.2 h1.2 (fun _ _ _ h => h) hy ?_
      rw [listedN_set hlt]
      exact wpAny_seq hs c (j + 1) (by omega) hc.2 h2
end
end Go.HL
namespace Go.HL
section
variable {P : Program} {f : FuncId} {e : Env} {ρ : Type} {R : ρ → Value → World → Prop} {Kp : ρ → Act → World → Prop}
variable {k : List Item} {r : Option ρ} {ops : Array Oper} {S0 : List (Nat × Ent)} {B : List Own} {E : List (Option (Nat × Ent))} {m : Nat} {F : List Nat}
def preds (ops : Array Oper) (i : Nat) : List Nat := match ops[i]? with | some o => (o.after.toList.filter (Region.binds .any ·)).map (·.on) | none => []
def closB (ops : Array Oper) : Nat → List Nat → List Nat
  | 0, acc => acc
  | i + 1, acc => closB ops i (match acc.contains i with | true => preds ops i ++ acc | false => acc)
theorem memB_iff {i : Nat} : ∀ {l : List Nat}, memB i l = true ↔ i ∈ l
  | [] => by simp [memB]
  | x :: l => by
    simp only [memB, List.mem_cons]
    cases h : Nat.beq x i with
    | true => simp [Nat.eq_of_beq_eq_true h]
    | false =>
      simp only [memB_iff]
      have : i ≠ x := fun e => by subst e; rw [Nat.beq_refl] at h; cases h
      simp [this]
def nodupB : List Nat → Bool
  | [] => true
  | x :: l => !memB x l && nodupB l
theorem nodupB_iff : ∀ {l : List Nat}, nodupB l = true → l.Nodup
  | [], _ => .nil
  | x :: l, h => by
    simp only [nodupB, Bool.and_eq_true, Bool.not_eq_true'] at h
    refine List.nodup_cons.2 ⟨fun hm => ?_, nodupB_iff h.2⟩
    rw [memB_iff.2 hm] at h
    cases h.1
def listedU (n m : Nat) (F : List Nat) : Array Bool := ((List.range n).map (fun i => Nat.blt i m && !memB i F)).toArray
def bagOK (ops : Array Oper) (m : Nat) (F : List Nat) : Bool :=
  Nat.ble m ops.size && Region.noSelect ops && (List.range m).all (fun i => (preds ops i).all fun p => Nat.blt p i) &&
  (List.range' m (ops.size - m)).all (fun j => let cl := closB ops m (preds ops j); cl.any (fun i => Nat.ble m i) || (List.range m).all fun i => memB i F || memB i cl) &&
  F.all (fun i => Nat.blt i m && ((ops[i]?).map isExt).getD false && (preds ops i).all (fun p => !memB p F) && Region.free .any ops (listedU ops.size m F) i)
structure Inv (ops : Array Oper) (m fuel : Nat) (ls : Array Bool) : Prop where
  size : ls.size = ops.size
  tail : ∀ j, m ≤ j → ls.getD j false = false
  down : ∀ i, ls.getD i false = true → ∀ p ∈ preds ops i, ls.getD p false = true
  cnt : ls.toList.count false = fuel
theorem count_set : ∀ {l : List Bool} {i : Nat}, l[i]? = some false → (l.set i true).count false + 1 = l.count false
  | [], i, h => by simp at h
  | b :: l, 0, h => by simp at h; subst h; simp
  | b :: l, i + 1, h => by
    have := count_set (l := l) (i := i) (by simpa using h)
    simp only [List.set_cons_succ, List.count_cons]
    omega
theorem getD_true {ls : Array Bool} {n i : Nat} (hs : ls.size = n) (hi : i < n) : ls.getD i true = ls.getD i false := by
  have : i < ls.size := by omega
  simp [this]
theorem Inv.set {fuel i : Nat} {ls : Array Bool} (h : Inv ops m (fuel + 1) ls) (hm : m ≤ ops.size) (hi : i < m) (hun : ls.getD i false = false) (hp : ∀ p ∈ preds ops i, ls.getD p false = true) : Inv ops m fuel (ls.setIfInBounds i true) where
  size := by simpa using h.size
  tail j hj := by rw [getD_set_ne false (by omega)]; exact h.tail j hj
  down j hj p hp' := by
    by_cases hij : i = j
    · subst hij; exact getD_set_true (hp p hp')
    · rw [getD_set_ne false hij] at hj; exact getD_set_true (h.down j hj p hp')
  cnt := by
    have hl : i < ls.size := by rw [h.size]; omega
    have : ls.toList[i]? = some false := by
      rw [Array.getElem?_toList, Array.getElem?_eq_getElem hl]
      simpa [hl] using hun
    have := count_set this
    rw [h.cnt] at this
    rw [Array.toList_setIfInBounds]
    omega
theorem cnt_listed (m : Nat) : ∀ n, ((List.range n).map (fun i => Nat.blt i m)).count false = n - m
  | 0 => by simp
  | n + 1 => by
    rw [List.range_succ, List.map_append, List.count_append, cnt_listed m n]
    by_cases h : n < m
    · simp [blt_eq, h]; omega
    · simp [blt_eq, h]; omega
theorem closB_listed {ls : Array Bool} (hd : ∀ i, ls.getD i false = true → ∀ p ∈ preds ops i, ls.getD p false = true) : ∀ (i : Nat) (acc : List Nat), (∀ x ∈ acc, ls.getD x false = true) → ∀ x ∈ closB ops i acc, ls.getD x false = true
  | 0, acc, h => h
  | i + 1, acc, h => by
    simp only [closB]
    refine closB_listed hd i _ ?_
    cases hc : acc.contains i with
    | false => exact h
    | true =>
      intro x hx
      rcases List.mem_append.1 hx with hx | hx
      · exact hd i (h i (by simpa using hc)) x hx
      · exact h x hx
theorem mem_preds {o : Oper} {i : Nat} (ho : ops[i]? = some o) {ed : Edge} (he : ed ∈ o.after) (hb : Region.binds .any ed = true) : ed.on ∈ preds ops i := by
  simp only [preds, ho]
  exact List.mem_map.2 ⟨ed, List.mem_filter.2 ⟨by simpa using he, hb⟩, rfl⟩
theorem preds_mem {o : Oper} {i p : Nat} (ho : ops[i]? = some o) (h : p ∈ preds ops i) : ∃ ed ∈ o.after, Region.binds .any ed = true ∧ ed.on = p := by
  simp only [preds, ho] at h
  obtain ⟨ed, h1, h2⟩ := List.mem_map.1 h
  obtain ⟨h3, h4⟩ := List.mem_filter.1 h1
  exact ⟨ed, by simpa using h3, h4, h2⟩
theorem Oper.wp_swap {o : Oper} {a : Act} {w : World} {K K1 K2 : Act → World → Prop} (h : o.wp P a w K (QN K1)) : o.wp P a w K (QN K2) := by
  unfold Oper.wp at *
  generalize (execOp a.eval o).run P w = r at *
  cases r with
  | ok n w' =>
    cases n <;> simp only [Oper.upon] at h ⊢ <;>
      first
        | exact h
        | exact Calls.mono h (fun e w'' he => by cases e <;> first | exact he | exact (QN_lets he).elim | exact he.elim)
  | halt x w' => cases x <;> simp only [Oper.upon] at h ⊢ <;> exact h.elim
theorem SX_step {ℓ ℓ' : Nat → Bool} {i d : Nat} {Q : Ent} (hn : (keysE E).Nodup) (hf : ∀ t ∈ keysE E, look S0 t = none) (hi : E[i]? = some (some (d, Q))) (hℓ : ℓ' i = true) (hℓ' : ∀ j, j ≠ i → ℓ' j = ℓ j) {t : Nat} {Q1 : Ent} (h : look (SX S0 ℓ' 0 E) t = some Q1) :
    look ((d, Q) :: SX S0 ℓ 0 E) t = some Q1 := by
  simp only [look]
  by_cases ht : d = t
  · subst ht
    rw [Nat.beq_refl]
    rw [SX_new hn hi (by simpa using hℓ)] at h
    exact h
  · rw [beq_ne ht]
    rcases SX_inv h with ⟨j, Q', h1, h2, h3⟩ | h1
    · have hj : j ≠ i := fun e => by subst e; rw [hi] at h1; simp at h1; exact ht h1.1
      simp only [Nat.zero_add] at h2
      rw [h3]
      exact SX_new hn h1 (by rw [Nat.zero_add, ← hℓ' j hj]; exact h2)
    · refine SX_old (fun hk => ?_) h1
      rw [hf t hk] at h1; cases h1
def Stp1 (P : Program) (e : Env) (ops : Array Oper) (AB : List Own → Prop) (E : List (Option (Nat × Ent))) (i : Nat) (C : List (Nat × Ent) → List Own → Prop) (Sp : List (Nat × Ent)) (B : List Own) : Prop :=
  ∃ o, ops[i]? = some o ∧ ((∃ d, (memB d (keysE E) || (look Sp d).isSome) = false ∧ ∀ (K1 : Unit → Act → World → Prop) (S : List (Nat × Ent)), Ext (preE E o ++ Sp) S →
      (∀ Q B', AB B' → C ((d, Q) :: Sp) B' → WO P e K1 ops [] ⟨(d, Q) :: S, B'⟩ (some ())) → WO P e K1 ops [o] ⟨S, B⟩ (some ())) ∨
      (∀ (K1 : Unit → Act → World → Prop) (S : List (Nat × Ent)), Ext (preE E o ++ Sp) S → (∀ B', AB B' → C Sp B' → WO P e K1 ops [] ⟨S, B'⟩ (some ())) → WO P e K1 ops [o] ⟨S, B⟩ (some ())))
def Spc (P : Program) (e : Env) (Kp : ρ → Act → World → Prop) (ops : Array Oper) (AB : List Own → Prop) (E : List (Option (Nat × Ent))) (m : Nat) (r : Option ρ) : List Nat → List (Nat × Ent) → List Own → Prop
  | [], Sp, B => WO P e Kp ops (ops.toList.drop m) ⟨SX Sp (fun _ => true) 0 E, B⟩ r
  | i :: is, Sp, B => Stp1 P e ops AB E i (Spc P e Kp ops AB E m r is) Sp B
def SpcA (P : Program) (e : Env) (Kp : ρ → Act → World → Prop) (ops : Array Oper) (AB : List Own → Prop) (E : List (Option (Nat × Ent))) (m : Nat) (r : Option ρ) (a : Nat) : List Nat → List (Nat × Ent) → List Own → Prop
  | [], Sp, B => Stp1 P e ops AB E a (Spc P e Kp ops AB E m r []) Sp B
  | i :: is, Sp, B => Stp1 P e ops AB E i (SpcA P e Kp ops AB E m r a is) Sp B ∧ Stp1 P e ops AB E a (Spc P e Kp ops AB E m r (i :: is)) Sp B
def SpcF (P : Program) (e : Env) (Kp : ρ → Act → World → Prop) (ops : Array Oper) (AB : List Own → Prop) (E : List (Option (Nat × Ent))) (m : Nat) (r : Option ρ) (is : List Nat) : Option Nat → List (Nat × Ent) → List Own → Prop
  | none => Spc P e Kp ops AB E m r is
  | some a => SpcA P e Kp ops AB E m r a is
def chainB (ops : Array Oper) (m : Nat) : List Nat → Bool
  | [] => true
  | a :: l => chainB ops m l && match l with | b :: _ => memB a (closB ops m (preds ops b)) | [] => true
theorem chainB_prev {i : Nat} : ∀ {a : Nat} {l : List Nat}, chainB ops m (a :: l) = true → i ∈ l → ∃ p ∈ a :: l, p ∈ closB ops m (preds ops i)
  | a, b :: l, h, hi => by
    simp only [chainB, Bool.and_eq_true] at h
    rcases List.mem_cons.1 hi with rfl | hi
    · exact ⟨a, List.mem_cons_self, memB_iff.1 h.2⟩
    · obtain ⟨p, h1, h2⟩ := chainB_prev (a := b) (l := l) (by simp only [chainB, Bool.and_eq_true]; exact h.1) hi
      exact ⟨p, List.mem_cons_of_mem _ h1, h2⟩
def spOK (ops : Array Oper) (m : Nat) (F sp : List Nat) : Bool := chainB ops m sp && nodupB sp && sp.all fun i => Nat.blt i m && !memB i F
def noneOK : Nat → List (Option (Nat × Ent)) → List Nat → Bool
  | _, [], _ => true
  | i, some _ :: E, sp => noneOK (i + 1) E sp
  | i, none :: E, sp => memB i sp && noneOK (i + 1) E sp
theorem noneOK_get {sp : List Nat} : ∀ {E : List (Option (Nat × Ent))} {i j : Nat}, noneOK i E sp = true → E[j]? = some none → i + j ∈ sp
  | some _ :: E, i, 0, _, h => by simp at h
  | some _ :: E, i, j + 1, h, hj => by
    have := noneOK_get (E := E) (i := i + 1) (j := j) h (by simpa using hj)
    rwa [Nat.add_assoc, Nat.add_comm 1 j] at this
  | none :: E, i, 0, h, hj => by simp only [noneOK, Bool.and_eq_true] at h; exact memB_iff.1 h.1
  | none :: E, i, j + 1, h, hj => by
    simp only [noneOK, Bool.and_eq_true] at h
    have := noneOK_get (E := E) (i := i + 1) (j := j) h.2 (by simpa using hj)
    rwa [Nat.add_assoc, Nat.add_comm 1 j] at this
def spNone (E : List (Option (Nat × Ent))) (sp : List Nat) : Bool := sp.all fun i => match E[i]? with | some none => true | _ => false
theorem spNone_get {E : List (Option (Nat × Ent))} {sp : List Nat} (h : spNone E sp = true) : ∀ j ∈ sp, E[j]? = some none := fun j hj => by
  have := List.all_eq_true.1 h j hj
  split at this
  · assumption
  · cases this
structure Bag (P : Program) (e : Env) (AB : List Own → Prop) (ops : Array Oper) (S0 : List (Nat × Ent)) (E : List (Option (Nat × Ent))) (m : Nat) (F sp : List Nat) : Prop where
  steps : Steps P e AB ops S0 E (ops.toList.take m) E
  nodup : (keysE E).Nodup
  fresh : ∀ t ∈ keysE E, look S0 t = none
  le : m ≤ ops.size
  holes : ∀ j, E[j]? = some none → j ∈ sp
  spn : ∀ j ∈ sp, E[j]? = some none
  spm : ∀ j ∈ sp, j < m ∧ j ∉ F
structure Ph (P : Program) (e : Env) (Kp : ρ → Act → World → Prop) (ops : Array Oper) (AB : List Own → Prop) (S0 : List (Nat × Ent)) (E : List (Option (Nat × Ent))) (m : Nat) (r : Option ρ) (sp : List Nat) (ls : Array Bool) (is : List Nat) (fl : Option Nat) (Sp : List (Nat × Ent)) (B : List Own) : Prop where
  ext : Ext S0 Sp
  pre : AB B
  fresh : ∀ t ∈ keysE E, look Sp t = none
  left : ∀ j ∈ fl.toList ++ is, j ∈ sp ∧ ls.getD j false = false
  done : ∀ j ∈ sp, j ∉ fl.toList ++ is → ls.getD j false = true
  chain : chainB ops m is = true
  nodup : (fl.toList ++ is).Nodup
  spc : SpcF P e Kp ops AB E m r is fl Sp B
variable {sp : List Nat} {AB : List Own → Prop}
theorem Bag.step {Sp : List (Nat × Ent)} (hb : Bag P e AB ops S0 E m F sp) {B' : List Own} (hS : Ext S0 Sp) (hP : AB B') (hf : ∀ t ∈ keysE E, look Sp t = none) {fuel i : Nat} {o : Oper} {ls : Array Bool} {a : Act} {w : World} (hI : Inv ops m fuel ls) (hi : i < m) (hsp : i ∉ sp) (ho : ops[i]? = some o) (hp : ∀ p ∈ preds ops i, ls.getD p false = true)
    (hk : Holds e ⟨SX Sp (ls.getD · false) 0 E, B'⟩ a w) : wpList P ops (QN fun a' w' => Holds e ⟨SX Sp ((ls.setIfInBounds i true).getD · false) 0 E, B'⟩ a' w') [o] a w := by
  have hm := hb.le
  rcases hb.steps.get i (o := o) (by rw [List.getElem?_take, if_pos hi]; simpa using ho) with ⟨d, Q, h1, h2⟩ | h1
  case inr => exact absurd (hb.holes i h1) hsp
  have hx := ext_pre (ℓ := (ls.getD · false)) hS hb.nodup hb.fresh (o := o) (fun ed he hbi => hp _ (mem_preds ho he hbi))
  refine h2 (fun _ a' w' => Holds e ⟨SX Sp ((ls.setIfInBounds i true).getD · false) 0 E, B'⟩ a' w') _ _ hP hx (fun _ _ a' w' hk' => ?_) () rfl a w hk
  refine hk'.weaken fun t Q1 ht => ⟨Q1, SX_step hb.nodup hf h1 ?_ (fun j hj => getD_set_ne false (Ne.symm hj)) ht, rfl, .inl rfl⟩
  have : i < ls.size := by rw [hI.size]; omega
  simp [this]
theorem Bag.ready {fuel i : Nat} {ls : Array Bool} (hI : Inv ops m fuel ls) : i ∈ Region.ready .any ops ls ↔ i < ops.size ∧ ls.getD i false = false ∧ ∀ p ∈ preds ops i, ls.getD p false = true := by
  rw [mem_ready]
  constructor
  · rintro ⟨h1, o, h2, h3⟩
    have hi := (Array.getElem?_eq_some_iff.1 h2).1
    refine ⟨hi, by rw [← getD_true hI.size hi]; exact h1, fun p hp => ?_⟩
    obtain ⟨ed, h4, h5, rfl⟩ := preds_mem h2 hp
    exact h3 ed h4 h5
  · rintro ⟨hi, h1, h2⟩
    exact ⟨by rw [getD_true hI.size hi]; exact h1, ops[i], Array.getElem?_eq_getElem hi, fun ed h3 h4 => h2 _ (mem_preds (Array.getElem?_eq_getElem hi) h3 h4)⟩
theorem Bag.fin {Sp : List (Nat × Ent)} (hb : Bag P e AB ops S0 E m F sp) {B' : List Own} (hS : Ext S0 Sp) (hP : AB B') (hf : ∀ t ∈ keysE E, look Sp t = none) (hok : bagOK ops m F = true) {K : Act → World → Prop}
    (hend : ∀ a w, Holds e ⟨SX Sp (fun _ => true) 0 E, B'⟩ a w → wpAny P .any ops (QN K) (ops.size - m) (listedN ops.size m) a w) :
    ∀ (G : List Nat) {fuel : Nat} {ls : Array Bool} {a : Act} {w : World}, Inv ops m fuel ls → (∀ i < m, ls.getD i false = false → i ∈ G) → (∀ i ∈ G, i ∈ F) → (∀ i < m, i ∉ F → ls.getD i false = true) → Holds e ⟨SX Sp (ls.getD · false) 0 E, B'⟩ a w → wpAny P .any ops (QN K) fuel ls a w
  | [], fuel, ls, a, w, hI, hG, _, _, hk => by
    have hall : ∀ i < m, ls.getD i false = true := fun i hi => by
      cases h : ls.getD i false with
      | true => rfl
      | false => cases hG i hi h
    have hls : ls = listedN ops.size m := by
      apply Array.ext_getElem?
      intro i
      rw [listedN_get?]
      by_cases hi : i < ops.size
      · have hi' : i < ls.size := by rw [hI.size]; exact hi
        have h1 : ls[i]? = some (ls.getD i false) := by simp [hi']
        rw [h1, if_pos hi]
        by_cases him : i < m
        · rw [hall i him]; simp [him]
        · rw [hI.tail i (by omega)]; simp [him]
      · rw [if_neg hi, Array.getElem?_eq_none (by rw [hI.size]; omega)]
    have hfu : fuel = ops.size - m := by
      rw [← hI.cnt, hls]
      exact cnt_listed m ops.size
    have hlen : E.length = m := by
      have := hb.le
      rw [hb.steps.len]; simp; omega
    rw [hfu]
    subst hls
    refine hend a w (hk.weaken fun t Q ht => ⟨Q, ?_, rfl, .inl rfl⟩)
    rcases SX_inv ht with ⟨j, Q', h1, h2, h3⟩ | h1
    · rw [h3]
      have hj : j < m := by rw [← hlen]; exact (List.getElem?_eq_some_iff.1 h1).1
      exact SX_new hb.nodup h1 (by rw [Nat.zero_add]; exact hall j hj)
    · refine SX_old (fun hk => ?_) h1
      rw [hf t hk] at h1; cases h1
  | g :: G, fuel, ls, a, w, hI, hG, hGF, hU, hk => by
    have hok0 := hok
    simp only [bagOK, Bool.and_eq_true, List.all_eq_true] at hok
    have hmn := Nat.le_of_ble_eq_true hok.1.1.1.1
    have hg := hok.2 g (hGF g List.mem_cons_self)
    have hgm : g < m := by simpa [blt_eq] using hg.1.1.1
    cases hl : ls.getD g false with
    | true =>
      refine hb.fin hS hP hf hok0 hend G hI (fun i hi hun => ?_) (fun i hi => hGF i (List.mem_cons_of_mem _ hi)) hU hk
      rcases List.mem_cons.1 (hG i hi hun) with rfl | h
      · rw [hl] at hun; cases hun
      · exact h
    | false =>
      have hlt : g < ops.size := by omega
      have ho : ops[g]? = some ops[g] := Array.getElem?_eq_getElem hlt
      have hp : ∀ p ∈ preds ops g, ls.getD p false = true := fun p hp => by
        have h1 := hok.1.1.2 g (List.mem_range.2 hgm) p hp
        have h2 := hg.1.2 p hp
        refine hU p (by simp [blt_eq] at h1; omega) fun hm => ?_
        rw [memB_iff.2 hm] at h2
        cases h2
      have hgs : g ∉ sp := fun hm => (hb.spm g hm).2 (hGF g List.mem_cons_self)
      cases fuel with
      | zero =>
        have h0 := hI.cnt
        rw [List.count_eq_zero] at h0
        refine absurd ?_ h0
        have hl' : g < ls.size := by rw [hI.size]; exact hlt
        have : ls[g] = false := by simpa [hl'] using hl
        exact this ▸ Array.getElem_mem_toList _
      | succ fuel =>
        have h1 := hb.step hS hP hf hI hgm hgs ho hp hk
        have hx : isExt ops[g] = true := by have := hg.1.1.2; rw [ho] at this; simpa using this
        obtain ⟨v, hy, h2⟩ := wpList_ext QN_panic QN_lets hx h1
        refine wpAny_first ho (Region.noSelect_spec hok.1.1.1.2) (fun _ _ _ h => h) fuel ls a w (fun j oj hj hne hun hno => ?_) ((Bag.ready hI).2 ⟨hlt, hl, hp⟩) hy ?_
        · refine Region.free_spec ho hg.2 j oj hj hne ?_ hno
          have hj' := (Array.getElem?_eq_some_iff.1 hj).1
          simp only [listedU]
          rw [getD_true hI.size hj'] at hun
          have : ¬ (j < m ∧ j ∉ F) := fun ⟨h3, h4⟩ => by rw [hU j h3 h4] at hun; cases hun
          have h5 : memB j F = true ∨ ¬ j < m := by
            by_cases h6 : j < m
            · left; rw [memB_iff]; exact Decidable.byContradiction fun h7 => this ⟨h6, h7⟩
            · exact .inr h6
          rcases h5 with h5 | h5 <;> simp [hj', h5, blt_eq]
        · refine hb.fin hS hP hf hok0 hend G (hI.set hmn hgm hl hp) (fun i hi hun => ?_) (fun i hi => hGF i (List.mem_cons_of_mem _ hi)) (fun i hi hn => getD_set_true (hU i hi hn)) h2
          by_cases hig : g = i
          · subst hig
            have hl' : g < ls.size := by rw [hI.size]; exact hlt
            simp [hl'] at hun
          · rw [getD_set_ne false hig] at hun
            exact (List.mem_cons.1 (hG i hi hun)).resolve_left fun h => hig h.symm
theorem Bag.run (hb : Bag P e AB ops S0 E m F sp) (hok : bagOK ops m F = true) (hseq : seqOK ops (ops.size - m) m = true) {x : ρ} (hr : r = some x) :
    ∀ (fuel : Nat) {ls : Array Bool} {is : List Nat} {fl : Option Nat} {Sp : List (Nat × Ent)} {B' : List Own} {a : Act} {w : World}, Inv ops m fuel ls → Ph P e Kp ops AB S0 E m r sp ls is fl Sp B' → Holds e ⟨SX Sp (ls.getD · false) 0 E, B'⟩ a w → wpAny P .any ops (QN (Kp x)) fuel ls a w := by
  intro fuel
  have hok0 := hok
  simp only [bagOK, Bool.and_eq_true, List.all_eq_true] at hok
  have hmn := hb.le
  have hfin : ∀ {fuel : Nat} {ls : Array Bool} {is : List Nat} {fl : Option Nat} {Sp : List (Nat × Ent)} {B' : List Own} {a : Act} {w : World}, Inv ops m fuel ls → Ph P e Kp ops AB S0 E m r sp ls is fl Sp B' → Holds e ⟨SX Sp (ls.getD · false) 0 E, B'⟩ a w →
      (∀ i < m, i ∉ F → ls.getD i false = true) → wpAny P .any ops (QN (Kp x)) fuel ls a w := by
    intro fuel ls is fl Sp B' a w hI hph hk hU
    have hno : ∀ j ∈ fl.toList ++ is, False := fun j hj => by
      obtain ⟨h1, h2⟩ := hph.left j hj
      rw [hU j (hb.spm j h1).1 (hb.spm j h1).2] at h2
      cases h2
    cases fl with
    | some a => exact (hno a (by simp)).elim
    | none =>
    cases is with
    | cons j is => exact (hno j (by simp)).elim
    | nil =>
    exact hb.fin hph.ext hph.pre hph.fresh hok0 (fun a w hk => wpAny_seq hok.1.1.1.2 _ m (by omega) hseq (hph.spc x hr a w hk)) F hI
      (fun i hi hun => Decidable.byContradiction fun h => by rw [hU i hi h] at hun; cases hun) (fun _ h => h) hU hk
  induction fuel with
  | zero =>
    intro ls is fl Sp B' a w hI hph hk
    refine hfin hI hph hk fun i hi _ => ?_
    have h0 := hI.cnt
    rw [List.count_eq_zero] at h0
    have hl' : i < ls.size := by rw [hI.size]; omega
    cases hl : ls.getD i false with
    | true => rfl
    | false =>
      have : ls[i] = false := by simpa [hl'] using hl
      exact absurd (this ▸ Array.getElem_mem_toList _) h0
  | succ fuel ih =>
    intro ls is fl Sp B' a w hI hph hk
    by_cases hU : ∀ i < m, i ∉ F → ls.getD i false = true
    · exact hfin hI hph hk hU
    · have hne : ∃ i, i < m ∧ i ∉ F ∧ ls.getD i false = false := by
        refine Classical.byContradiction fun h => hU fun i h1 h2 => ?_
        cases h3 : ls.getD i false with
        | true => rfl
        | false => exact absurd ⟨i, h1, h2, h3⟩ h
      obtain ⟨u, hu1, hu2, hu3⟩ := hne
      have hready : ∀ n, ∀ i ≤ n, i < m → ls.getD i false = false → Region.ready .any ops ls ≠ [] := by
        intro n
        induction n with
        | zero =>
          intro i hi him hun hr
          have : i ∈ Region.ready .any ops ls := (Bag.ready hI).2 ⟨by omega, hun, fun p hp => by
            have := hok.1.1.2 i (List.mem_range.2 him) p hp
            simp [blt_eq] at this; omega⟩
          rw [hr] at this; cases this
        | succ n ihn =>
          intro i hi him hun hr
          by_cases hall : ∀ p ∈ preds ops i, ls.getD p false = true
          · have : i ∈ Region.ready .any ops ls := (Bag.ready hI).2 ⟨by omega, hun, hall⟩
            rw [hr] at this; cases this
          · have : ∃ p, p ∈ preds ops i ∧ ls.getD p false = false := by
              refine Classical.byContradiction fun h => hall fun p hp => ?_
              cases h3 : ls.getD p false with
              | true => rfl
              | false => exact absurd ⟨p, hp, h3⟩ h
            obtain ⟨p, hp1, hp2⟩ := this
            have := hok.1.1.2 i (List.mem_range.2 him) p hp1
            simp [blt_eq] at this
            exact ihn p (by omega) (by omega) hp2 hr
      refine ⟨fun hr => absurd hr (hready u u (Nat.le_refl _) hu1 hu3), fun i hi => ?_⟩
      obtain ⟨h1, h2, h3⟩ := (Bag.ready hI).1 hi
      have hcl := closB_listed hI.down m (preds ops i) h3
      have him : i < m := by
        refine Decidable.byContradiction fun hge => ?_
        have h4 := hok.1.2 i (by rw [List.mem_range'_1]; omega)
        simp only [Bool.or_eq_true, List.any_eq_true, List.all_eq_true] at h4
        rcases h4 with ⟨x, hx1, hx2⟩ | h4
        · have := hcl x hx1
          rw [hI.tail x (Nat.le_of_ble_eq_true hx2)] at this
          cases this
        · rcases h4 u (List.mem_range.2 hu1) with h5 | h5
          · exact hu2 (memB_iff.1 h5)
          · rw [hcl u (memB_iff.1 h5)] at hu3; cases hu3
      have ho : ops[i]? = some ops[i] := Array.getElem?_eq_getElem h1
      have hI' := hI.set hmn him h2 h3
      have hset : ∀ {j}, ls.getD j false = false → j ≠ i → (ls.setIfInBounds i true).getD j false = false := fun h hne => by rw [getD_set_ne false (Ne.symm hne)]; exact h
      have htop : (ls.setIfInBounds i true).getD i false = true := by
        have : i < ls.size := by rw [hI.size]; omega
        simp [this]
      have go : ∀ {K1 : Act → World → Prop}, wpList P ops (QN K1) [ops[i]] a w → (∀ a' w', K1 a' w' → wpAny P .any ops (QN (Kp x)) fuel (ls.setIfInBounds i true) a' w') → wpOp P ops (QN (Kp x)) i (wpAny P .any ops (QN (Kp x)) fuel (ls.setIfInBounds i true)) a w := by
        intro K1 h5 h6
        unfold wpOp
        simp only [ho]
        simp only [wpList] at h5
        split
        · rename_i hw
          rw [if_pos hw] at h5
          rcases h5 with h5 | h5
          · exact .inl (Oper.wp_mono (fun a w h => h6 _ _ h) (Oper.wp_swap h5))
          · exact (QN_lets h5.2).elim
        · rename_i hw
          rw [if_neg hw] at h5
          exact h6 _ _ h5
      by_cases hisp : i ∈ sp
      · -- a special one: it is the next
        have hin : i ∈ fl.toList ++ is := Decidable.byContradiction fun h => by rw [hph.done i hisp h] at h2; cases h2
        have key : ∃ is' fl' C, Stp1 P e ops AB E i C Sp B' ∧ (∀ Sp B, C Sp B → SpcF P e Kp ops AB E m r is' fl' Sp B) ∧ (∀ j ∈ fl'.toList ++ is', j ∈ fl.toList ++ is ∧ j ≠ i) ∧ (∀ j ∈ fl.toList ++ is, j ≠ i → j ∈ fl'.toList ++ is') ∧ chainB ops m is' = true ∧ (fl'.toList ++ is').Nodup := by
          have hnd := hph.nodup
          have hch := hph.chain
          have hsp := hph.spc
          have hhead : ∀ {g l}, is = g :: l → i ∈ is → i = g := fun {g l} hg hm => by
            subst hg
            rcases List.mem_cons.1 hm with h | h
            · exact h
            · obtain ⟨p, hp1, hp2⟩ := chainB_prev hch h
              have := (hph.left p (List.mem_append_right _ hp1)).2
              rw [hcl p hp2] at this; cases this
          cases fl with
          | none =>
            cases is with
            | nil => simp at hin
            | cons g l =>
              have hgi := hhead rfl (by simpa using hin)
              subst hgi
              have hnd' := List.nodup_cons.1 hnd
              refine ⟨l, none, _, hsp, fun _ _ h => h, fun j hj => ⟨List.mem_cons_of_mem _ hj, fun e => hnd'.1 (e ▸ hj)⟩, fun j hj hne => (List.mem_cons.1 hj).resolve_left hne, ?_, hnd'.2⟩
              simp only [chainB, Bool.and_eq_true] at hch; exact hch.1
          | some a =>
            have hnd' := List.nodup_cons.1 hnd
            by_cases hia : i = a
            · subst hia
              have hst : Stp1 P e ops AB E i (Spc P e Kp ops AB E m r is) Sp B' := by
                cases is with
                | nil => exact hsp
                | cons g l => exact hsp.2
              exact ⟨is, none, _, hst, fun _ _ h => h, fun j hj => ⟨List.mem_cons_of_mem _ hj, fun e => hnd'.1 (e ▸ hj)⟩, fun j hj hne => (List.mem_cons.1 hj).resolve_left hne, hch, hnd'.2⟩
            · cases is with
              | nil => simp at hin; exact absurd hin hia
              | cons g l =>
                have hmem : i ∈ g :: l := (List.mem_cons.1 hin).resolve_left hia
                have hgi := hhead rfl hmem
                subst hgi
                have hnd2 := List.nodup_cons.1 hnd'.2
                refine ⟨l, some a, _, hsp.1, fun _ _ h => h, fun j hj => ?_, fun j hj hne => ?_, ?_, ?_⟩
                · rcases List.mem_cons.1 hj with rfl | hj
                  · exact ⟨List.mem_cons_self, fun e => hia e.symm⟩
                  · exact ⟨List.mem_cons_of_mem _ (List.mem_cons_of_mem _ hj), fun e => hnd2.1 (e ▸ hj)⟩
                · rcases List.mem_cons.1 hj with rfl | hj
                  · exact List.mem_cons_self
                  · exact List.mem_cons_of_mem _ ((List.mem_cons.1 hj).resolve_left hne)
                · simp only [chainB, Bool.and_eq_true] at hch; exact hch.1
                · exact List.nodup_cons.2 ⟨fun h => hnd'.1 (List.mem_cons_of_mem _ h), hnd2.2⟩
        obtain ⟨is', fl', C, hspc, hC, hk1, hk2, hchain, hnd⟩ := key
        · obtain ⟨o, ho', hst⟩ := hspc
          rw [ho] at ho'
          injection ho' with ho'
          subst ho'
          have hx : Ext (preE E ops[i] ++ Sp) (SX Sp (ls.getD · false) 0 E) := ext_pre (ℓ := (ls.getD · false)) (fun _ _ h => h) hb.nodup hph.fresh (fun ed he hbi => h3 _ (mem_preds ho he hbi))
          have hEi := hb.spn i hisp
          have hleft : ∀ j ∈ fl'.toList ++ is', j ∈ sp ∧ (ls.setIfInBounds i true).getD j false = false := fun j hj => ⟨(hph.left j (hk1 j hj).1).1, hset (hph.left j (hk1 j hj).1).2 (hk1 j hj).2⟩
          have hdone : ∀ j ∈ sp, j ∉ fl'.toList ++ is' → (ls.setIfInBounds i true).getD j false = true := fun j hj hn => by
            by_cases hji : j = i
            · subst hji; exact htop
            · exact getD_set_true (hph.done j hj fun h => hn (hk2 j h hji))
          have hnew : ∀ {j t Q'}, E[j]? = some (some (t, Q')) → (ls.setIfInBounds i true).getD (0 + j) false = true → look (SX Sp (ls.getD · false) 0 E) t = some Q' := fun {j t Q'} h7 h8 => by
            have hj : j ≠ i := fun e => by subst e; rw [hEi] at h7; cases h7
            rw [Nat.zero_add] at h8
            exact SX_new hb.nodup h7 (by rw [Nat.zero_add, ← getD_set_ne false (Ne.symm hj)]; exact h8)
          rcases hst with ⟨d, hd, hst⟩ | hst
          · simp only [Bool.or_eq_false_iff] at hd
            have hdE : d ∉ keysE E := fun hm => by rw [memB_iff.2 hm] at hd; cases hd.1
            have hdS : look Sp d = none := by simpa using hd.2
            have hne : ∀ t ∈ keysE E, d ≠ t := fun t ht e => hdE (e ▸ ht)
            refine go (hst (fun _ a' w' => wpAny P .any ops (QN (Kp x)) fuel (ls.setIfInBounds i true) a' w') _ hx (fun Q B2 hP2 hspc => fun _ _ a' w' hk' => ?_) () rfl a w hk) (fun _ _ h => h)
            refine ih hI' (is := is') (fl := fl') (Sp := (d, Q) :: Sp) (B' := B2) ⟨fun t Q1 ht => ?_, hP2, fun t ht => ?_, hleft, hdone, hchain, hnd, hC _ _ hspc⟩ (hk'.weaken fun t Q1 ht => ⟨Q1, ?_, rfl, .inl rfl⟩)
            · have h4 := hph.ext t Q1 ht
              have : d ≠ t := fun e => by subst e; rw [hdS] at h4; cases h4
              simp only [look, beq_ne this]; exact h4
            · simp only [look, beq_ne (hne t ht)]; exact hph.fresh t ht
            · rcases SX_inv ht with ⟨j, Q', h7, h8, h9⟩ | h7
              · rw [h9]
                simp only [look, beq_ne (hne t (mem_keysE h7))]
                exact hnew h7 h8
              · by_cases htd : d = t
                · subst htd; simpa [look, Nat.beq_refl] using h7
                · simp only [look, beq_ne htd] at h7 ⊢
                  refine SX_old (fun hm => ?_) h7
                  rw [hph.fresh t hm] at h7; cases h7
          · refine go (hst (fun _ a' w' => wpAny P .any ops (QN (Kp x)) fuel (ls.setIfInBounds i true) a' w') _ hx (fun B2 hP2 hspc => fun _ _ a' w' hk' => ?_) () rfl a w hk) (fun _ _ h => h)
            refine ih hI' (is := is') (fl := fl') (Sp := Sp) (B' := B2) ⟨hph.ext, hP2, hph.fresh, hleft, hdone, hchain, hnd, hC _ _ hspc⟩ (hk'.weaken fun t Q1 ht => ⟨Q1, ?_, rfl, .inl rfl⟩)
            rcases SX_inv ht with ⟨j, Q', h7, h8, h9⟩ | h7
            · rw [h9]; exact hnew h7 h8
            · refine SX_old (fun hm => ?_) h7
              rw [hph.fresh t hm] at h7; cases h7
      · exact go (hb.step hph.ext hph.pre hph.fresh hI him hisp ho h3 hk) fun a' w' hk' => ih hI'
          { hph with left := fun j hj => ⟨(hph.left j hj).1, hset (hph.left j hj).2 fun e => hisp (e ▸ (hph.left j hj).1)⟩, done := fun j hj hn => getD_set_true (hph.done j hj hn) } hk'
theorem W.drawF {id : Nat} (m : Nat) (F sp : List Nat) (fl : Option Nat) (H : List Nat) (hm : P.follows .mixedOrders = true) (hs : (bagOK ops m F && seqOK ops (ops.size - m) m && (spOK ops m F sp && ((fl.toList ++ sp).all fun i => Nat.blt i m && !memB i F) && nodupB (fl.toList ++ sp))) = true)
    (hE : Steps P e (PreB H 0 B) ops S0 E (ops.toList.take m) E) (hn : (nodupB (keysE E) && ((keysE E).all fun t => (look S0 t).isNone) && noneOK 0 E (fl.toList ++ sp) && spNone E (fl.toList ++ sp)) = true)
    (h : SpcF P e (fun x a w => Run P f k a w (R x)) ops (PreB H 0 B) E m r sp fl S0 B) : W P f e R (.code (.region id ops true) :: k) ⟨S0, B⟩ r := by
  intro x hx a w hk
  simp only [Bool.and_eq_true, spOK] at hs hn
  have hok := hs.1.1
  simp only [bagOK, Bool.and_eq_true] at hok
  have hmn := Nat.le_of_ble_eq_true hok.1.1.1.1
  refine Run.of_wp (wp_region_any hm ?_)
  have hsp : ∀ j ∈ fl.toList ++ sp, j < m ∧ j ∉ F := fun j hj => by
    have := List.all_eq_true.1 hs.2.1.2 j hj
    simp only [Bool.and_eq_true, Bool.not_eq_true', blt_eq, decide_eq_true_eq] at this
    exact ⟨this.1, fun hm => by rw [memB_iff.2 hm] at this; cases this.2⟩
  have hb : Bag P e (PreB H 0 B) ops S0 E m F (fl.toList ++ sp) := ⟨hE, nodupB_iff hn.1.1.1, fun t ht => by simpa using List.all_eq_true.1 hn.1.1.2 t ht, hmn, fun j hj => by have := noneOK_get hn.1.2 hj; rwa [Nat.zero_add] at this, spNone_get hn.2, hsp⟩
  have hk' := (hk.grow (w' := { w with drawn := w.drawn + 1 }) rfl rfl rfl (Nat.le_refl _) fun _ _ => rfl).1
  have hget : ∀ i, (Array.replicate ops.size false).getD i false = false := fun i => by
    by_cases hi : i < ops.size <;> simp [hi]
  refine hb.run hs.1.1 hs.1.2 hx ops.size (is := sp) (fl := fl) (Sp := S0) (B' := B) ⟨by simp, fun j _ => hget j, fun i hi => (by rw [hget] at hi; cases hi), by simp⟩
    ⟨fun _ _ h => h, PreB.refl, hb.fresh, fun j hj => ⟨hj, hget j⟩, fun j hj hn => absurd hj hn, hs.2.1.1.1.1, nodupB_iff hs.2.2, h⟩ ?_
  refine hk'.weaken fun t Q ht => ⟨Q, ?_, rfl, .inl rfl⟩
  rcases SX_inv ht with ⟨j, Q', _, h2, _⟩ | h1
  · rw [hget] at h2; cases h2
  · exact h1
theorem W.drawS {id : Nat} (m : Nat) (F sp H : List Nat) (hm : P.follows .mixedOrders = true) (hs : (bagOK ops m F && seqOK ops (ops.size - m) m && spOK ops m F sp) = true)
    (hE : Steps P e (PreB H 0 B) ops S0 E (ops.toList.take m) E) (hn : (nodupB (keysE E) && ((keysE E).all fun t => (look S0 t).isNone) && noneOK 0 E sp && spNone E sp) = true)
    (h : Spc P e (fun x a w => Run P f k a w (R x)) ops (PreB H 0 B) E m r sp S0 B) : W P f e R (.code (.region id ops true) :: k) ⟨S0, B⟩ r :=
  .drawF m F sp none H hm (by
    simp only [Bool.and_eq_true] at hs ⊢
    have h2 := hs.2
    simp only [spOK, Bool.and_eq_true] at h2
    exact ⟨hs.1, ⟨hs.2, h2.2⟩, h2.1.2⟩) hE hn h
theorem W.draw {id : Nat} (m : Nat) (F : List Nat) (hm : P.follows .mixedOrders = true) (hs : (bagOK ops m F && seqOK ops (ops.size - m) m && spOK ops m F []) = true)
    (hE : Steps P e (PreB [] 0 B) ops S0 E (ops.toList.take m) E) (hn : (nodupB (keysE E) && ((keysE E).all fun t => (look S0 t).isNone) && noneOK 0 E [] && spNone E []) = true)
    (h : WO P e (fun x a w => Run P f k a w (R x)) ops (ops.toList.drop m) ⟨SX S0 (fun _ => true) 0 E, B⟩ r) : W P f e R (.code (.region id ops true) :: k) ⟨S0, B⟩ r :=     .drawS m F [] [] hm hs hE hn h
end
end Go.HL
