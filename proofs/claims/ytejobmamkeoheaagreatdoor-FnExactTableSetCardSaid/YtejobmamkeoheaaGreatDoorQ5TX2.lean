/- Arguments of many forms: what a row's data says of an argument, read as Lean's. -/
import Derived.Test.YtejobmamkeoheaaGreatDoorQ5THL
import Derived.DataElems
import Derived.ChangeStays
import Derived.ChangeArms
import Derived.WideShapes
set_option linter.all false
namespace Go.HL
open Go
section
variable {P : Program}
def allA (W : World) : Ar := fun b _ => b < W.heap.size
def Opens (P : Program) {α : Type} (T : Ty α) (t : TypeId) (R : α → Prop) : Prop :=
  ∀ {H : Type} {enc : TypeId × Value → H} {W : World} {n : Nat} {cs : List Value} {x : DataW H × List MemPlace},
    DataW.trod enc P W 0 (fun _ => true) true n t cs = some x → (x.1.weights P t).all (· ≤ reachBytes) = true → ∃ d : α, T.rel d cs (allA W) W ∧ R d
theorem opens_int {t : TypeId} {k : IntKind} (ht : P.underlying t = some (.int k)) : Opens P (tI k) t (fun n => (Lit.int k n).wf = true) := fun h _ => by
  obtain ⟨n, hcs, -, hw⟩ := DataW.trod_int ht h
  exact ⟨n, hcs, hw⟩
theorem opens_bool {t : TypeId} (ht : P.underlying t = some .bool) : Opens P tB t (fun _ => True) := fun h _ => by
  obtain ⟨n, hcs, -⟩ := DataW.trod_bool ht h
  exact ⟨n, hcs, trivial⟩
theorem opens_str {t : TypeId} (ht : P.underlying t = some .string) : Opens P tS t (fun s => s.length ≤ reachBytes) := fun h hz => by
  obtain ⟨s, hcs, hx, -⟩ := DataW.trod_string ht h
  refine ⟨s.data.toList, by rw [hcs]; simp [tS, str], ?_⟩
  rw [hx] at hz
  simpa [DataW.weights] using hz
theorem weightsAll_mem {H : Type} {e : TypeId} {f : Nat → Bool} : ∀ {l : List (DataW H)}, (DataW.weightsAll P e l).all f = true → ∀ d ∈ l, (d.weights P e).all f = true
  | [], _, _, h => nomatch h
  | a :: l, h, d, hd => by
    simp only [DataW.weightsAll, List.all_append, Bool.and_eq_true] at h
    rcases List.mem_cons.1 hd with rfl | hd
    · exact h.1
    · exact weightsAll_mem h.2 d hd
theorem cells_some {W : World} {a : Addr} : ∀ {k : Nat} {cs : List Value}, W.cells? 0 a k = some cs → cs.length = k ∧ ∀ j (h : j < cs.length), W.cell? (a.add j) = some cs[j] := fun {k cs} h => by
  unfold World.cells? at h
  rw [if_pos (Nat.zero_le _)] at h
  have hl := mapM_some_length h
  rw [List.length_range] at hl
  refine ⟨hl, fun j hj => ?_⟩
  have := mapM_some_get h j j (by rw [List.getElem?_range (by omega)])
  rw [this, List.getElem?_eq_getElem hj]
theorem addr_add {a : Addr} {x y : Nat} : (a.add x).add y = a.add (x + y) := Addr.add_add a x y
theorem cell_lt {W : World} {b o : Nat} {v : Value} (h : W.cell? ⟨b, o, none⟩ = some v) : b < W.heap.size := by
  refine Classical.byContradiction fun hn => ?_
  have h0 : W.heap[b]? = none := Array.getElem?_eq_none (Nat.le_of_not_lt hn)
  unfold World.cell? at h
  rw [h0] at h
  cases h
theorem opens_flat {α : Type} {T : Ty α} {e : TypeId} {R : α → Prop} (he : Opens P T e R) {H : Type} {enc : TypeId × Value → H} {W : World} {n : Nat} {a : Addr} : ∀ {es : List (DataW H × List MemPlace)} {i0 : Nat},
    (∀ i, i < es.length → (W.cells? 0 (a.add ((i0 + i) * T.sz)) T.sz).bind (DataW.trod enc P W 0 (fun _ => true) true n e) = es[i]?) → (∀ d ∈ es.map (·.1), (d.weights P e).all (· ≤ reachBytes) = true) →
    ∃ (xs : List α) (cs : List Value), xs.length = es.length ∧ flat T xs cs (allA W) W ∧ (∀ x ∈ xs, R x) ∧ cs.length = es.length * T.sz ∧ ∀ j (h : j < cs.length), W.cell? (a.add (i0 * T.sz + j)) = some cs[j]
  | [], _, _, _ => ⟨[], [], rfl, rfl, fun _ h => (nomatch h), by simp, fun j h => nomatch h⟩
  | y :: es, i0, h, hw => by
    have h0 := h 0 (by simp)
    simp only [Nat.add_zero, List.getElem?_cons_zero, Option.bind_eq_some_iff] at h0
    obtain ⟨c1, hc1, hy⟩ := h0
    obtain ⟨d, hd, hR⟩ := he hy (hw _ (by simp))
    obtain ⟨hl1, hcell⟩ := cells_some hc1
    obtain ⟨xs, c2, g1, g2, g3, g4, g5⟩ := opens_flat (T := T) he (a := a) (es := es) (i0 := i0 + 1) (fun i hi => by
      have := h (i + 1) (by simp; omega)
      rw [List.getElem?_cons_succ] at this
      rw [show i0 + 1 + i = i0 + (i + 1) by omega]; exact this) fun z hz => hw z (by simp at hz ⊢; exact .inr hz)
    refine ⟨d :: xs, c1 ++ c2, by simp [g1], ⟨c1, c2, rfl, hd, g2⟩, fun x hx => ?_, by simp [hl1, g4, Nat.succ_mul]; omega, fun j hj => ?_⟩
    · rcases List.mem_cons.1 hx with rfl | hx
      · exact hR
      · exact g3 x hx
    · by_cases hlt : j < c1.length
      · have := hcell j hlt
        rw [List.getElem_append_left hlt, ← this, addr_add]
      · have hj2 : j - c1.length < c2.length := by rw [List.length_append] at hj; omega
        have := g5 (j - c1.length) hj2
        rw [List.getElem_append_right (by omega), ← this]
        congr 1
        rw [Nat.succ_mul, show i0 * T.sz + T.sz + (j - c1.length) = i0 * T.sz + j by omega]
theorem opens_list {α : Type} {T : Ty α} {t e : TypeId} {R : α → Prop} (ht : P.underlying t = some (.slice e)) (hc : P.cellsOf e = T.sz) (hp : 0 < T.sz) (hb : 1 ≤ P.bytesOf e) (he : Opens P T e R) : Opens P (tL T) t (fun xs => xs.length ≤ LIM ∧ ∀ x ∈ xs, R x) := fun {H enc W n cs x} h hz => by
  rcases DataW.trod_slice ht h with ⟨hcs, -⟩ | ⟨a, len, cap, es, rest, m, -, hcs, hx, -, hle, -, hlen, hall, hsp, -⟩
  · exact ⟨[], ⟨_, hcs, slRel_nil _ _ _⟩, Nat.zero_le _, fun _ h => nomatch h⟩
  · rw [hx] at hz
    simp only [DataW.weights, ht, List.all_cons, List.all_append, Bool.and_eq_true] at hz
    have hz1 := of_decide_eq_true hz.1
    rw [List.length_map, List.length_map] at hz1
    have hn : es.length ≤ LIM := by
      have : es.length * 1 ≤ (es.length + rest.length) * P.bytesOf e := Nat.mul_le_mul (by omega) hb
      rw [LIM_eq]; unfold reachBytes at hz1; omega
    rw [hc] at hall
    obtain ⟨xs, c, g1, g2, g3, g4, g5⟩ := opens_flat he (a := a) (es := es) (i0 := 0) (n := m) (enc := enc) (W := W) (fun i hi => by rw [Nat.zero_add]; exact hall i (by omega)) (weightsAll_mem hz.2.1)
    refine ⟨xs, ⟨_, hcs, some a, len, cap, c, rfl, by omega, hle, by omega, g2, fun h0 => ?_⟩, by omega, g3⟩
    have hc0 : 0 < c.length := by rw [g4, hlen]; exact Nat.mul_pos h0 hp
    obtain ⟨b, off, spot⟩ := a
    have hspot : spot = none := by simpa [Addr.add] using World.cell?_spot (g5 0 hc0)
    subst hspot
    refine ⟨b, off, rfl, fun j hj => ?_⟩
    have := g5 j hj
    rw [Nat.zero_mul, Nat.zero_add] at this
    have e1 : (⟨b, off, none⟩ : Addr).add j = ⟨b, off + j, none⟩ := by simp [Addr.add]
    rw [e1] at this
    exact ⟨cell_lt this, this⟩
def fieldsAt (P : Program) (t : TypeId) : List (TypeId × Nat) := match P.underlying t with | some (.struct fs) => fs.toList.map fun f => (f.type, f.offset) | _ => []
def structB (P : Program) (t : TypeId) : Bool := match P.underlying t with | some (.struct _) => true | _ => false
inductive Chain (P : Program) : List (TypeId × Nat) → Nat → (α : Type) → Ty α → (α → Prop) → Prop
  | one {t : TypeId} {o : Nat} {α : Type} {T : Ty α} {R : α → Prop} : Opens P T t R → P.cellsOf t = T.sz → Chain P [(t, o)] o α T R
  | cons {t : TypeId} {o : Nat} {l : List (TypeId × Nat)} {α β : Type} {T : Ty α} {U : Ty β} {R : α → Prop} {R' : β → Prop} : Opens P T t R → P.cellsOf t = T.sz → Chain P l (o + T.sz) β U R' → Chain P ((t, o) :: l) o (α × β) (T.x U) (fun p => R p.1 ∧ R' p.2)
theorem Chain.opens {l : List (TypeId × Nat)} {off : Nat} {α : Type} {T : Ty α} {R : α → Prop} (hc : Chain P l off α T R) {H : Type} {enc : TypeId × Value → H} {W : World} {n : Nat} {cs : List Value} :
    ∀ {xs : List (DataW H × List MemPlace)}, xs.length = l.length → (∀ (i : Nat) (f : TypeId × Nat), l[i]? = some f → DataW.trod enc P W 0 (fun _ => true) true n f.1 ((cs.drop f.2).take (P.cellsOf f.1)) = xs[i]?) →
    (DataW.weightsEach P (l.map (·.1)) (xs.map (·.1))).all (· ≤ reachBytes) = true → off + T.sz = cs.length → ∃ d : α, T.rel d (cs.drop off) (allA W) W ∧ R d := by
  induction hc with
  | one ho hs =>
    intro xs hl hall hw hcs
    match xs, hl with
    | [y], _ =>
      have h0 := hall 0 _ rfl
      simp only [DataW.weightsEach, List.map_cons, List.map_nil, List.append_nil] at hw
      obtain ⟨d, hd, hR⟩ := ho h0 hw
      rw [hs, List.take_of_length_le (by rw [List.length_drop]; omega)] at hd
      exact ⟨d, hd, hR⟩
  | cons ho hs _ ih =>
    intro xs hl hall hw hcs
    match xs, hl with
    | y :: xs, hl =>
      have h0 := hall 0 _ rfl
      simp only [DataW.weightsEach, List.map_cons, List.all_append, Bool.and_eq_true] at hw
      obtain ⟨d, hd, hR⟩ := ho h0 hw.1
      obtain ⟨d', hd', hR'⟩ := ih (xs := xs) (by simpa using hl) (fun i f hf => hall (i + 1) f hf) hw.2 (by rw [← hcs]; show _ = _ + (_ + _); omega)
      refine ⟨(d, d'), ⟨_, _, ?_, hd, hd'⟩, hR, hR'⟩
      rw [hs, ← List.drop_drop, List.take_append_drop]
theorem opens_struct {t : TypeId} {l : List (TypeId × Nat)} {α β : Type} {T : Ty α} {R : α → Prop} {f : β → α} (g : α → β) (hg : ∀ x, f (g x) = x) (hst : structB P t = true) (hl : fieldsAt P t = l) (hsz : P.cellsOf t = T.sz) (hc : Chain P l 0 α T R) : Opens P (T.iso f) t (fun d => R (f d)) := fun {H enc W n cs x} h hz => by
  obtain ⟨fs, ht⟩ : ∃ fs, P.underlying t = some (.struct fs) := by
    unfold structB at hst
    cases hu : P.underlying t with
    | none => rw [hu] at hst; cases hst
    | some d => cases d <;> first | exact ⟨_, rfl⟩ | (rw [hu] at hst; cases hst)
  have hl' : fs.toList.map (fun f => (f.type, f.offset)) = l := by rw [← hl]; unfold fieldsAt; rw [ht]
  subst hl'
  obtain ⟨xs, m, -, hx, hl, hl2, hall⟩ := DataW.trod_struct ht h
  rw [hx] at hz
  simp only [DataW.weights, ht] at hz
  obtain ⟨d, hd, hR⟩ := hc.opens (enc := enc) (W := W) (n := m) (cs := cs) (xs := xs) (by simpa using hl2) (fun i f' hf => by
    rw [List.getElem?_map] at hf
    cases hi : fs.toList[i]? with
    | none => rw [hi] at hf; cases hf
    | some f0 => rw [hi] at hf; cases hf; exact hall i f0 (by simpa using hi)) (by rw [List.map_map]; exact hz) (by omega)
  exact ⟨g d, by show T.rel (f (g d)) cs _ _; rw [hg]; exact hd, by show R (f (g d)); rw [hg]; exact hR⟩
def szB (P : Program) : Bool := (List.range P.types.size).all fun t => match P.underlying t with | some (.slice e) => Nat.blt 0 (P.cellsOf e) | _ => true
theorem szB_at (h : szB P = true) {t e : TypeId} (ht : t < P.types.size) (hu : P.underlying t = some (.slice e)) : 0 < P.cellsOf e := by
  have := List.all_eq_true.1 h t (List.mem_range.2 ht)
  rw [hu] at this
  exact Nat.blt_eq.mp this
theorem trod_shut {H : Type} {enc : TypeId × Value → H} (hl : laidOutB P = true) (hm : mapsRowed P = true) (hz : szB P = true) {W W' : World} (hs : Same0 W (footL []) W') {t : TypeId} (ht : t < P.types.size) {v : Value} {d : DataW H} {p : List MemPlace}
    (h : DataW.Trod enc P W 0 (fun _ => true) true t v d p) : DataW.Trod enc P W' 0 (fun b => decide (b < W.heap.size)) true t v d p := by
  obtain ⟨n, hn⟩ := h
  have hlt := fun q hq => DataW.trod_lt n t _ _ hn q hq
  refine ⟨n, DataW.trod_stays (kids_rows hl hm) (fun h1 h2 => szB_at hz h1 h2) (fun h : true = false => Bool.noConfusion h) ht hn (fun q hq => ?_) fun q hq => decide_eq_true (hlt q hq)⟩
  cases q with
  | cell b off => exact hs.cell b off (hlt _ hq) fun ⟨_, h, _⟩ => nomatch h
  | map b => exact hs.block b (hlt _ hq) fun _ ⟨_, h, _⟩ => nomatch h
end
end Go.HL
/- A row's arguments, all of them: what their data says, read as Lean's. -/
namespace Go.HL
open Go Go.WideShapes
section
variable {P : Program}
def Wholly (P : Program) {α : Type} (T : Ty α) (t : TypeId) : Prop :=
  ∀ {W : World} {base : Nat} {v : Value} {d : α} {A : Ar}, Value.okWide P W .any base t v → T.rel d v.cells.toList A W → (T.va d).f v A W
theorem wholly_agg {α : Type} {T : Ty α} {t : TypeId} (hst : structB P t = true) (ha : T.agg = true) : Wholly P T t := fun {W base v d A} h hr => by
  obtain ⟨fs, ht⟩ : ∃ fs, P.underlying t = some (.struct fs) := by
    unfold structB at hst
    cases hu : P.underlying t with
    | none => rw [hu] at hst; cases hst
    | some d => cases d <;> first | exact ⟨_, rfl⟩ | (rw [hu] at hst; cases hst)
  unfold Value.okWide at h
  rw [ht] at h
  obtain ⟨cs, rfl, -, -⟩ := h
  exact T.iff.2 ⟨cs.toList, by rw [ha]; simp [wrap], by simpa [Value.cells] using hr⟩
theorem wholly_slice {α : Type} {T : Ty α} {t e : TypeId} (ht : P.underlying t = some (.slice e)) : Wholly P (tL T) t := fun {W base v d A} h hr => by
  obtain ⟨a, n, c, rfl⟩ := okWide_slice ht h
  exact (tL T).iff.2 ⟨_, rfl, by simpa [Value.cells] using hr⟩
theorem wholly_int {t : TypeId} {k : IntKind} (ht : P.underlying t = some (.int k)) : Wholly P (tI k) t := fun {W base v d A} h hr => by
  simp only [Value.okWide, ht, Cell.okWide] at h
  cases v <;> simp_all [Cell.ok, Value.cells, tI, isI]
inductive ArgsT (P : Program) : List TypeId → (A : Type) → (A → List VA) → (A → Prop) → Prop
  | nil : ArgsT P [] Unit (fun _ => []) (fun _ => True)
  | cons {t : TypeId} {ts : List TypeId} {α A : Type} {T : Ty α} {va : A → List VA} {R : α → Prop} {R' : A → Prop} : Opens P T t R → Wholly P T t → t < P.types.size → ArgsT P ts A va R' → ArgsT P (t :: ts) (α × A) (fun p => T.va p.1 :: va p.2) (fun p => R p.1 ∧ R' p.2)
theorem ArgsT.read {ts : List TypeId} {A : Type} {va : A → List VA} {R : A → Prop} (h : ArgsT P ts A va R) {H : Type} {enc : TypeId × Value → H} {W : World} {base : Nat} : ∀ {vs : List Value} {ds : List (DataW H)} {p : List MemPlace},
    DataW.TrodAll enc P W 0 (fun _ => true) true ts vs ds p → (∀ (j : Nat) t v, ts[j]? = some t → vs[j]? = some v → Value.okWide P W .any base t v) → (DataW.weightsEach P ts ds).all (· ≤ reachBytes) = true → ∃ a : A, R a ∧ Args (allA W) W vs (va a) := by
  induction h with
  | nil =>
    intro vs ds p hA _ _
    cases vs with
    | nil => exact ⟨(), trivial, .nil⟩
    | cons v vs => cases ds <;> exact hA.elim
  | cons ho hw _ _ ih =>
    intro vs ds p hA hval hz
    cases vs with
    | nil => cases ds <;> exact hA.elim
    | cons v vs =>
      cases ds with
      | nil => exact hA.elim
      | cons d ds =>
        obtain ⟨p1, q1, ⟨n, hn⟩, hA2, -⟩ := hA
        simp only [DataW.weightsEach, List.all_append, Bool.and_eq_true] at hz
        obtain ⟨x, hx, hR⟩ := ho hn hz.1
        obtain ⟨a, hR', hargs⟩ := ih hA2 (fun j t v h1 h2 => hval (j + 1) t v h1 h2) hz.2
        exact ⟨(x, a), ⟨hR, hR'⟩, .cons (hw (hval 0 _ _ rfl rfl) hx) hargs⟩
theorem trodAll_shut {H : Type} {enc : TypeId × Value → H} (hl : laidOutB P = true) (hm : mapsRowed P = true) (hz : szB P = true) {W W' : World} (hs : Same0 W (footL []) W') : ∀ {ts : List TypeId} {vs : List Value} {ds : List (DataW H)} {p : List MemPlace}, (∀ t ∈ ts, t < P.types.size) →
    DataW.TrodAll enc P W 0 (fun _ => true) true ts vs ds p → DataW.TrodAll enc P W' 0 (fun b => decide (b < W.heap.size)) true ts vs ds p
  | [], [], [], _, _, h => h
  | t :: ts, v :: vs, d :: ds, _, ht, ⟨p1, q1, h1, h2, e⟩ => ⟨p1, q1, trod_shut hl hm hz hs (ht t List.mem_cons_self) h1, trodAll_shut hl hm hz hs (fun t h => ht t (List.mem_cons_of_mem _ h)) h2, e⟩
end
end Go.HL
