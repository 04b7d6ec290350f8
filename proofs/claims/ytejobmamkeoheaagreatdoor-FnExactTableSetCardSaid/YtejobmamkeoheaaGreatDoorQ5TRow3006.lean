/- The program's TableSet answers as the reference at all arguments, writes into none, keeps nothing of one, and its answer owns its memory. Conditions: none; the row lists the five package-level variables of strconv and math/bits, and the card ties them to the program's text. -/
import Derived.Test.YtejobmamkeoheaaGreatDoorQ5TX33
import Derived.KernelRfl
set_option linter.all false
namespace Go.Proofs.YtejobmamkeoheaaGreatDoor
open Go Go.HL Go.ChangeShapes Go.WideShapes Go.ChangeAt Go.RowKit
set_option maxRecDepth 100000 in
theorem lifted3006 (os : Os) (started : os.Started) (H : Type) (enc : TypeId × Value → H) :
    ReturnsInHanded {} Tryz.checked os 6 .any (fun w args => (Rows.fnExactTableSetSpec.pre enc Tryz.prog Tryz.f6 Rows.fnExactTableSetRow.domain false w args ∧ laidMetH Tryz.prog laidL w) ∧ sizedMet enc Tryz.prog Tryz.f6 (OpenSpec.ofChange Rows.fnExactTableSetSpec) false w args)
      (Rows.fnExactTableSetSpec.post enc Tryz.prog Tryz.f6 false true false false) := by
  refine returnsInHanded_of_change_and (C := Tryz.checked) (X := fun w _ => laidMetH Tryz.prog laidL w) (fun _ _ _ hh h => h.of_heap hh) own started (by kernel_rfl) Tryz.func6
    (ChangeSpec.witness_shaped (enc := enc) (C := Tryz.checked) (os := os) (X := fun w _ => laidMetH Tryz.prog laidL w) false (World.laidAll Tryz.prog os laidL) #[.agg #[.slice none 0 0, .slice none 0 0, .slice none 0 0, .int .i64 0], .int .i64 0, .slice none 0 0] 20 (World.laidAll_os _ _ _)
      (World.shaped_of_ZipB (by kernel_rfl) (by kernel_rfl)) (by kernel_rfl) (by kernel_rfl) (by kernel_rfl)
      (by rw [MakeChecks.laidMetH_plain _ _ _ (by kernel_rfl)]; exact laidMet_laidAll _ (by kernel_rfl) (by kernel_rfl))) ?_
  intro W base args ds gs before hval hW hcnd hz hL _
  rw [MakeChecks.laidMetH_plain _ _ _ (by kernel_rfl)] at hL
  exact law_contractX at3006 rfl (fun ds h => by match ds, h with | [_, _, _], _ => rfl) (by rw [Tryz.params6]) rfl lawX3006 hval hW hz hL
theorem an {a b : Bool} (h : a = true) (k : b = true) : (a && b) = true := by rw [h, k]; rfl
theorem fact3006_1 : laidOutB Tryz.pinned.checked.prog = true := by kernel_rfl
theorem fact3006_2 : mapsRowed Tryz.pinned.checked.prog = true := by kernel_rfl
theorem fact3006_9 : (Rows.fnExactTableSetRow.inPlace == Tryz.pinned.checked.prog.inPlace 6) = true := by kernel_rfl
theorem fact3006_10 : (Rows.fnExactTableSetRow.unfollowed == Tryz.pinned.checked.prog.unfollowed 6) = true := by kernel_rfl
theorem fact3006_11 : (Rows.fnExactTableSetRow.recurses == Tryz.pinned.checked.prog.recurses 6) = true := by kernel_rfl
theorem fact3006_12 : (Rows.fnExactTableSetRow.named == Tryz.pinned.checked.prog.varsNamed 6) = true := by kernel_rfl
theorem fact3006_22 : (Rows.fnExactTableSetRow.plainKeys == Tryz.pinned.checked.prog.plainKeys) = true := by kernel_rfl
theorem fact3006_24 : Tryz.pinned.checked.prog.stopsHeard = true := by kernel_rfl
theorem fact3006_25 : Tryz.pinned.checked.prog.mayEnter = true := by kernel_rfl
theorem fact3006_26 : (Rows.fnExactTableSetRow.lifted == Tryz.pinned.checked.prog.liftsFinal) = true := by kernel_rfl
theorem fact3006_27 : (Tryz.pinned.checked.prog.make == some Rows.fnExactTableSetRow.make) = true := by kernel_rfl
theorem facts3006 : joinedFacts Tryz.pinned.checked.prog 6 Tryz.f6 Rows.fnExactTableSetSpec Rows.fnExactTableSetRow = true := (an (an (an (an (an (an (an (an (an (an (an (an (an (an (an (an (an (an (an (an (an (an (an (an (an (an (an (an (an (an (an (by kernel_rfl) fact3006_1) fact3006_2) (by kernel_rfl)) (by kernel_rfl)) (by kernel_rfl)) (by kernel_rfl)) (by kernel_rfl)) (by kernel_rfl)) fact3006_9) fact3006_10) fact3006_11) fact3006_12) (by kernel_rfl)) (by kernel_rfl)) (by kernel_rfl)) (by kernel_rfl)) (by kernel_rfl)) (by kernel_rfl)) (by kernel_rfl)) (by kernel_rfl)) (by kernel_rfl)) fact3006_22) (by kernel_rfl)) fact3006_24) fact3006_25) fact3006_26) fact3006_27) (by kernel_rfl)) (by kernel_rfl)) (by kernel_rfl)) (by kernel_rfl))
theorem called3006 : Tryz.pinned.checked.prog.funcNamed Rows.fnExactTableSetRow.func = some 6 := by kernel_rfl
theorem inst3006 : Tryz.f6.isInstance Tryz.pinned.checked.prog Rows.fnExactTableSetRow.origin Rows.fnExactTableSetRow.targs := of_decide_eq_true (by kernel_rfl)
theorem goes3006 : false = Rows.fnExactTableSetRow.goesBy Tryz.pinned.checked.prog := by kernel_rfl
theorem looks3006 : true = Tryz.pinned.checked.prog.looks [] := by kernel_rfl
theorem said3006 : Rows.FnExactTableSetSaid :=
  OpenClaim.holds_of_wide 6 Tryz.f6 rfl rfl rfl rfl rfl rfl rfl ⟨rfl, rfl, rfl, rfl, rfl⟩ rfl rfl rfl rfl rfl called3006 Tryz.func6 facts3006
    inst3006 (by unfold Func.isWrapper; first | (rw [if_pos (by decide +kernel)]; kernel_rfl) | (rw [if_neg (by decide +kernel)]; exact ⟨rfl, rfl⟩))
    (fun os started H enc _ => lifted3006 os started H enc)
theorem plain3006 (f : FuncId) (fn : Func) (hf : Tryz.pinned.checked.prog.funcNamed "loop.example/custumal/laws.FnExactTableSet" = some f) (hfn : Tryz.pinned.checked.prog.funcs[f]? = some fn) :
    true = Tryz.pinned.checked.prog.looks [] ∧ ∀ (j : Nat) t, fn.params[j]? = some t → Tryz.pinned.checked.prog.wantsStandIn t = false := by
  obtain rfl : f = 6 := Option.some.inj ((show Tryz.prog.funcNamed "loop.example/custumal/laws.FnExactTableSet" = some 6 by kernel_rfl).symm.trans hf) |>.symm
  obtain rfl : fn = Tryz.f6 := (Option.some.inj (Tryz.func6.symm.trans hfn)).symm
  refine ⟨looks3006, fun j t ht => ?_⟩
  rw [Tryz.params6] at ht
  have ht := Array.mem_of_getElem? ht
  simp only [List.mem_toArray, List.mem_cons, List.not_mem_nil, or_false] at ht
  rcases ht with rfl | rfl | rfl
  all_goals (exact (show Tryz.prog.wantsStandIn _ = false by kernel_rfl))
theorem fnExactTableSet_card : Rows.FnExactTableSetCardSaid :=
  Claim7.holds_tied_plain_at .later [] _ _ _ _ said3006 (fun _ h => by cases h) (by kernel_rfl) (fun _ h => by cases h) fnExactTableSet_row_tie rfl ⟨rfl, rfl⟩ (by kernel_rfl) rfl plain3006 goes3006
#print axioms fnExactTableSet_card
end Go.Proofs.YtejobmamkeoheaaGreatDoor
