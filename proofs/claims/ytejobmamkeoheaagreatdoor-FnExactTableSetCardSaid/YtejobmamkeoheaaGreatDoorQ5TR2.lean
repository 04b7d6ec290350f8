/- From a function's contract to its law's row and card: a law of one list of bytes, over the five listed variables. -/
import Derived.Test.YtejobmamkeoheaaGreatDoorCards
import Derived.Test.YtejobmamkeoheaaGreatDoorTie
import Derived.Test.YtejobmamkeoheaaGreatDoorQ5TTy
import Derived.ProofKit
import Derived.OpenShut
import Derived.LaidMore
import Derived.Lay
import Derived.SevenTiedAt
import Derived.Stop.Joined
import Derived.Lib.LaidU8
set_option linter.all false
namespace Go.Proofs.YtejobmamkeoheaaGreatDoor
open Go Go.HL Go.ChangeShapes Go.WideShapes Go.ChangeAt Go.RowKit
abbrev tyBool : TypeId := 4
theorem own : ownKnob Tryz.prog.godebug = none := by kernel_rfl
def laidL : List (String × DataW Unit) := [("math/bits.deBruijn32tab", Rows.laid_math_bits_deBruijn32tab), ("math/bits.deBruijn64tab", Rows.laid_math_bits_deBruijn64tab), ("internal/strconv.uint64pow10", Rows.laid_internal_strconv_uint64pow10), ("strconv.ErrRange", Rows.laid_strconv_ErrRange), ("strconv.ErrSyntax", Rows.laid_strconv_ErrSyntax)]
theorem var_block {P : Program} {w : World} {n : String} {g : Nat} {cs : Array Value} (hg : P.globalNamed n = some g) (hv : w.var? P n = some cs) : ∃ t fr, w.heap[g]? = some (.cells cs t fr) := by
  unfold World.var? at hv
  rw [hg, Option.bind_some] at hv
  split at hv
  · rename_i cs' t fr h
    injection hv with hv
    subst hv
    exact ⟨t, fr, h⟩
  · cases hv
theorem err_ok {W : World} {n : String} {g t : Nat} {d : DataW Unit} (hg : Tryz.prog.globalNamed n = some g) (ht : (Tryz.prog.globals[g]?).map (·.type) = some t) (hu : ∃ ms, Tryz.prog.underlying t = some (.interface ms)) (hne : Nat.beq g gTab = false)
    (h : Lib.VarReads Tryz.prog W n d) : GlobOk g W.heap[g]? ∧ g < W.heap.size := by
  obtain ⟨g', t', cs, fuel, p, h1, h2, h3, h4⟩ := h
  obtain rfl := Option.some.inj (hg.symm.trans h1)
  obtain rfl := Option.some.inj (ht.symm.trans h2)
  obtain ⟨ms, hu⟩ := hu
  obtain ⟨t, fr, hb⟩ := var_block h1 h3
  have hsz : g < W.heap.size := by
    rcases Nat.lt_or_ge g W.heap.size with h | h
    · exact h
    · rw [Array.getElem?_eq_none h] at hb; cases hb
  refine ⟨⟨cs, t, fr, hb, ?_⟩, hsz⟩
  rw [if_neg (fun e => by rw [e, Nat.beq_refl] at hne; cases hne)]
  have h5 : ∃ v, cs.toList = [v] ∧ (v = .nilIface ∨ ∃ te pe, v = .iface te pe) := by
    cases fuel with
    | zero => cases h4
    | succ fuel =>
      generalize cs.toList = l at h4
      unfold DataW.trod at h4
      rw [hu] at h4
      match l, h4 with
      | [v], h4 => cases v <;> first | exact ⟨_, rfl, .inl rfl⟩ | exact ⟨_, rfl, .inr ⟨_, _, rfl⟩⟩ | cases h4
      | [], h4 => cases h4
      | a :: _ :: _, h4 => cases a <;> cases h4
  obtain ⟨v, h6, h7⟩ := h5
  exact ⟨v, by apply Array.ext'; simpa using h6, h7⟩
theorem glob_ok {W : World} (h : laidMet Tryz.prog laidL W) : Glob (fun b _ => b < W.heap.size) W := by
  have h1 := Lib.laidMet.reads h (n := "internal/strconv.uint64pow10") (d := Rows.laid_internal_strconv_uint64pow10) (by simp [laidL])
  have h2 := Lib.laidMet.reads h (n := "strconv.ErrRange") (d := Rows.laid_strconv_ErrRange) (by simp [laidL])
  have h3 := Lib.laidMet.reads h (n := "strconv.ErrSyntax") (d := Rows.laid_strconv_ErrSyntax) (by simp [laidL])
  have hg : ∀ g ∈ globs, GlobOk g W.heap[g]? ∧ g < W.heap.size := by
    intro g hg
    simp only [globs, List.mem_cons, List.not_mem_nil, or_false] at hg
    rcases hg with rfl | rfl | rfl
    · obtain ⟨g, t, cs, fuel, p, k1, k2, k3, k4⟩ := h1
      obtain rfl := Option.some.inj ((show Tryz.prog.globalNamed "internal/strconv.uint64pow10" = some 0 by kernel_rfl).symm.trans k1)
      obtain rfl := Option.some.inj ((show (Tryz.prog.globals[0]?).map (·.type) = some 178 by kernel_rfl).symm.trans k2)
      obtain ⟨t, fr, hb⟩ := var_block (by kernel_rfl) k3
      have k5 : cs.toList = pow10s.map fun z => Value.int .u64 z := Lib.cells_of_tab (zs := pow10s) Tryz.underlying178 Tryz.underlying166 (by kernel_rfl) (by kernel_rfl) k4
      refine ⟨⟨cs, t, fr, hb, ?_⟩, ?_⟩
      · rw [if_pos rfl]; apply Array.ext'; simpa using k5
      · rcases Nat.lt_or_ge 0 W.heap.size with h | h
        · exact h
        · have hb0 : W.heap[0]? = some (.cells cs t fr) := hb
          rw [Array.getElem?_eq_none h] at hb0; cases hb0
    · exact err_ok (g := 1) (t := 160) (by kernel_rfl) (by kernel_rfl) ⟨_, Tryz.underlying160⟩ rfl h3
    · exact err_ok (g := 2) (t := 160) (by kernel_rfl) (by kernel_rfl) ⟨_, Tryz.underlying160⟩ rfl h2
  exact fun g hm => ⟨fun _ => (hg g hm).2, (hg g hm).1⟩
theorem same_kept {W W' : World} {may : MemPlace → Prop} (h : Same0 W (footL []) W') : W.keptBut W' may := by
  refine ⟨h.os, h.output, fun i hi => ?_⟩
  rw [h.block i hi (by rintro o ⟨Q, hQ, _⟩; cases hQ)]
  cases hb : W.heap[i]? with
  | none => rfl
  | some o => cases o with
    | cells c t fr => exact ⟨rfl, rfl, rfl, fun _ _ => rfl⟩
    | map es clock => exact .inr ⟨rfl, rfl⟩
    | _ => rfl
theorem law_pre {W : World} (hL : laidMet Tryz.prog laidL W) : Pre (fun b _ => b < W.heap.size) W [] := ⟨fun b o h => ⟨h, fun Q hQ => (nomatch hQ)⟩, fun Q hQ => (nomatch hQ), fun Q hQ => (nomatch hQ), .nil, glob_ok hL⟩
theorem vars_none {s : ChangeSpec} {P : Program} (hv : s.vars = []) : s.plain.varTypes P = [] := by
  unfold ChangeSpec.plain DataSpec.varTypes; rw [hv]; rfl
end Go.Proofs.YtejobmamkeoheaaGreatDoor
