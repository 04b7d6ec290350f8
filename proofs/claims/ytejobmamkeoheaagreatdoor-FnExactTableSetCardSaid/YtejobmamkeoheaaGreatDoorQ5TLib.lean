/- The library's functions that the program calls: what they answer, off the shelf. -/
import Derived.Test.YtejobmamkeoheaaGreatDoorQ5TShelf
import Derived.Test.YtejobmamkeoheaaGreatDoorQ5TTy
import Derived.KernelRfl
set_option linter.all false
namespace Go.Proofs.YtejobmamkeoheaaGreatDoor
open Go Go.HL Go.RowKit Go.Sort
theorem args1 {A : Ar} {w : World} {args : List Value} {Q : VA} (h : Args A w args [Q]) : ∃ v, args = [v] ∧ Q.f v A w := by
  cases h with
  | cons h1 h2 => cases h2; exact ⟨_, rfl, h1⟩
def f131 (a0 : Int) : Option (List UInt8) := cond (decide (-9223372036854775808 ≤ a0) && decide (a0 ≤ 9223372036854775807)) (some (Lib.itoa a0)) none
theorem n131 : ∃ fn c, Tryz.prog.funcs[134]? = some fn ∧ (fn.name == "runtime.NumGoroutine") = false ∧ fn.body = some c := ⟨_, _, Tryz.func134, by kernel_rfl, rfl⟩
theorem tabIs {A : Ar} {w : World} (hg : Glob A w) : Lib.TabIs Tryz.prog w "internal/strconv.uint64pow10" .u64 Lib.pow10Tab := by
  obtain ⟨-, cs, et, fr, h1, h2⟩ := hg gTab (by simp [globs])
  rw [if_pos rfl] at h2
  have h3 : Tryz.prog.globalNamed "internal/strconv.uint64pow10" = some 0 := by kernel_rfl
  show World.var? _ _ _ = _
  rw [World.var?, h3]
  show (match w.heap[gTab]? with | some (.cells cs _ _) => some cs | _ => none) = _
  rw [h1, h2]; rfl
theorem c131 (a0 : Int) : Ctr Tryz.prog 134 [isI .i64 a0] [] (f131 a0) (fun _ _ => []) (fun q => isS q) := by
  refine ctr_below fun q hq A w args hg ha => ?_
  obtain ⟨v, rfl, hv⟩ := args1 ha
  cases (show v = .int .i64 a0 from hv)
  unfold f131 at hq
  cases hb : (decide (-9223372036854775808 ≤ a0) && decide (a0 ≤ 9223372036854775807)) with
  | false => rw [hb] at hq; cases hq
  | true =>
    rw [hb] at hq
    simp only [Bool.and_eq_true, decide_eq_true_eq] at hb
    cases hq
    refine Calls.mono (Tryz.strconv_Itoa a0 hb.1 hb.2 w (tabIs hg)) ?_
    rintro e w' ⟨rfl, k, os, rfl⟩
    refine ⟨_, rfl, ⟨rfl, rfl, rfl, by simp [grow, World.drewN], fun b hb => ?_⟩, fun _ => rfl⟩
    simp [grow, World.drewN, Array.getElem?_append_left hb]
def f144 (a0 : List UInt8) : Option (Int × Bool) := cond (decide (List.length a0 ≤ 281474976710656)) (match Lib.atoiAll a0 with | .ok v => some (v, false) | .range => some (Lib.atoiSat a0, true) | _ => some (0, true)) none
theorem n144 : ∃ fn c, Tryz.prog.funcs[142]? = some fn ∧ (fn.name == "runtime.NumGoroutine") = false ∧ fn.body = some c := ⟨_, _, Tryz.func142, by kernel_rfl, rfl⟩
theorem errIs {A : Ar} {w : World} (hg : Glob A w) {g : Nat} (h : g ∈ globs) (h0 : g ≠ gTab) : ∃ ev, w.cell? ⟨g, 0, none⟩ = some ev ∧ (ev = .nilIface ∨ ∃ te pe, ev = .iface te pe) := by
  obtain ⟨-, cs, et, fr, h1, h2⟩ := hg g h
  rw [if_neg h0] at h2
  obtain ⟨ev, rfl, h3⟩ := h2
  exact ⟨ev, by simp [World.cell?, h1], h3⟩
theorem c144 (a0 : List UInt8) : Ctr Tryz.prog 142 [isS a0] [] (f144 a0) (fun _ _ => []) (fun q => tup [isI .i64 q.1, isErr q.2]) := by
  refine ctr_below fun q hq A w args hg ha => ?_
  obtain ⟨v, rfl, hv⟩ := args1 ha
  cases (show v = str a0 from hv)
  unfold f144 at hq
  cases hb : decide (List.length a0 ≤ 281474976710656) with
  | false => rw [hb] at hq; cases hq
  | true =>
    rw [hb] at hq
    simp only [decide_eq_true_eq] at hb
    have hsz : (⟨a0.toArray⟩ : ByteArray).size ≤ 281474976710656 := by rw [ba_size]; exact hb
    have hl : (⟨a0.toArray⟩ : ByteArray).data.toList = a0 := by simp
    rcases ha : Lib.atoiAll a0 with v | _ | _
    rotate_left
    rotate_left
    · rw [ha] at hq
      cases hq
      obtain ⟨ev, h1, h2⟩ := errIs hg (g := 2) (by simp [globs, gRan]) (by simp [gTab])
      refine Calls.mono (Tryz.strconv_Atoi_range ⟨a0.toArray⟩ hsz (by rw [hl]; exact ha) ev w h1 h2) ?_
      rintro e w' ⟨N, rfl, h3, h4, h5⟩
      rw [hl]
      exact ⟨_, rfl, h5, fun _ => ⟨_, rfl, .cons rfl (.cons ⟨_, _, rfl⟩ .nil)⟩⟩
    · rw [ha] at hq
      cases hq
      refine Calls.mono (Tryz.strconv_Atoi_ok ⟨a0.toArray⟩ (by omega) v (by rw [hl]; exact ha) w) ?_
      rintro e w' ⟨rfl, hw⟩
      refine ⟨_, rfl, ?_, fun _ => ⟨_, rfl, .cons rfl (.cons rfl .nil)⟩⟩
      rcases hw with rfl | ⟨t, rfl⟩
      · exact Below.refl _ _
      · exact Lib.bytesWorld_below _ _ _
    · rw [ha] at hq
      cases hq
      obtain ⟨ev, h1, h2⟩ := errIs hg (g := 1) (by simp [globs, gSyn]) (by simp [gTab])
      refine Calls.mono (Tryz.strconv_Atoi_syntax ⟨a0.toArray⟩ hsz (fun v => by rw [hl, ha]; exact fun h => nomatch h) (by rw [hl, ha]; exact fun h => nomatch h) ev w h1 h2) ?_
      rintro e w' ⟨N, rfl, h3, h4, h5⟩
      exact ⟨_, rfl, h5, fun _ => ⟨_, rfl, .cons rfl (.cons ⟨_, _, rfl⟩ .nil)⟩⟩
end Go.Proofs.YtejobmamkeoheaaGreatDoor
