/- The program's TableOff answers as the reference at all arguments, writes into none, keeps nothing of one, and its answer owns its memory. Conditions: none; the row lists the five package-level variables of strconv and math/bits, and the card ties them to the program's text. -/
import Derived.Test.YtejobmamkeoheaaGreatDoorQ3003X30
import Derived.KernelRfl
set_option linter.all false
namespace Go.Proofs.YtejobmamkeoheaaGreatDoor
open Go Go.HL Go.ChangeShapes Go.WideShapes Go.ChangeAt Go.RowKit
set_option maxRecDepth 100000 in
theorem lifted3003 (os : Os) (started : os.Started) (H : Type) (enc : TypeId × Value → H) :
    ReturnsInHanded {} Tryz.checked os 3 .any (fun w args => (Rows.fnExactTableOffSpec.pre enc Tryz.prog Tryz.f3 Rows.fnExactTableOffRow.domain false w args ∧ laidMetH Tryz.prog laidL w) ∧ sizedMet enc Tryz.prog Tryz.f3 (OpenSpec.ofChange Rows.fnExactTableOffSpec) false w args)
      (Rows.fnExactTableOffSpec.post enc Tryz.prog Tryz.f3 false true false false) := by
  refine returnsInHanded_of_change_and (C := Tryz.checked) (X := fun w _ => laidMetH Tryz.prog laidL w) (fun _ _ _ hh h => h.of_heap hh) own started (by kernel_rfl) Tryz.func3
    (ChangeSpec.witness_shaped (enc := enc) (C := Tryz.checked) (os := os) (X := fun w _ => laidMetH Tryz.prog laidL w) false (World.laidAll Tryz.prog os laidL) #[.agg #[.slice none 0 0, .slice none 0 0, .slice none 0 0, .int .i64 0], .int .i64 0] 20 (World.laidAll_os _ _ _)
      (World.shaped_of_ZipB (by kernel_rfl) (by kernel_rfl)) (by kernel_rfl) (by kernel_rfl) (by kernel_rfl)
      (by rw [MakeChecks.laidMetH_plain _ _ _ (by kernel_rfl)]; exact laidMet_laidAll _ (by kernel_rfl) (by kernel_rfl))) ?_
  intro W base args ds gs before hval hW hcnd hz hL _
  rw [MakeChecks.laidMetH_plain _ _ _ (by kernel_rfl)] at hL
  exact law_contractX at3003 rfl (fun ds h => by match ds, h with | [_, _], _ => rfl) (by rw [Tryz.params3]) rfl lawX3003 hval hW hz hL
theorem an {a b : Bool} (h : a = true) (k : b = true) : (a && b) = true := by rw [h, k]; rfl
theorem fact3003_1 : laidOutB Tryz.pinned.checked.prog = true := by kernel_rfl
theorem fact3003_2 : mapsRowed Tryz.pinned.checked.prog = true := by kernel_rfl
theorem fact3003_9 : (Rows.fnExactTableOffRow.inPlace == Tryz.pinned.checked.prog.inPlace 3) = true := by kernel_rfl
theorem fact3003_10 : (Rows.fnExactTableOffRow.unfollowed == Tryz.pinned.checked.prog.unfollowed 3) = true := by kernel_rfl
theorem fact3003_11 : (Rows.fnExactTableOffRow.recurses == Tryz.pinned.checked.prog.recurses 3) = true := by kernel_rfl
theorem fact3003_12 : (Rows.fnExactTableOffRow.named == Tryz.pinned.checked.prog.varsNamed 3) = true := by kernel_rfl
theorem fact3003_22 : (Rows.fnExactTableOffRow.plainKeys == Tryz.pinned.checked.prog.plainKeys) = true := by kernel_rfl
theorem fact3003_24 : Tryz.pinned.checked.prog.stopsHeard = true := by kernel_rfl
theorem fact3003_25 : Tryz.pinned.checked.prog.mayEnter = true := by kernel_rfl
theorem fact3003_26 : (Rows.fnExactTableOffRow.lifted == Tryz.pinned.checked.prog.liftsFinal) = true := by kernel_rfl
theorem fact3003_27 : (Tryz.pinned.checked.prog.make == some Rows.fnExactTableOffRow.make) = true := by kernel_rfl
theorem facts3003 : joinedFacts Tryz.pinned.checked.prog 3 Tryz.f3 Rows.fnExactTableOffSpec Rows.fnExactTableOffRow = true := (an (an (an (an (an (an (an (an (an (an (an (an (an (an (an (an (an (an (an (an (an (an (an (an (an (an (an (an (an (an (an (by kernel_rfl) fact3003_1) fact3003_2) (by kernel_rfl)) (by kernel_rfl)) (by kernel_rfl)) (by kernel_rfl)) (by kernel_rfl)) (by kernel_rfl)) fact3003_9) fact3003_10) fact3003_11) fact3003_12) (by kernel_rfl)) (by kernel_rfl)) (by kernel_rfl)) (by kernel_rfl)) (by kernel_rfl)) (by kernel_rfl)) (by kernel_rfl)) (by kernel_rfl)) (by kernel_rfl)) fact3003_22) (by kernel_rfl)) fact3003_24) fact3003_25) fact3003_26) fact3003_27) (by kernel_rfl)) (by kernel_rfl)) (by kernel_rfl)) (by kernel_rfl))
theorem called3003 : Tryz.pinned.checked.prog.funcNamed Rows.fnExactTableOffRow.func = some 3 := by kernel_rfl
theorem inst3003 : Tryz.f3.isInstance Tryz.pinned.checked.prog Rows.fnExactTableOffRow.origin Rows.fnExactTableOffRow.targs := of_decide_eq_true (by kernel_rfl)
theorem goes3003 : false = Rows.fnExactTableOffRow.goesBy Tryz.pinned.checked.prog := by kernel_rfl
theorem looks3003 : true = Tryz.pinned.checked.prog.looks [] := by kernel_rfl
theorem said3003 : Rows.FnExactTableOffSaid :=
  OpenClaim.holds_of_wide 3 Tryz.f3 rfl rfl rfl rfl rfl rfl rfl ⟨rfl, rfl, rfl, rfl, rfl⟩ rfl rfl rfl rfl rfl called3003 Tryz.func3 facts3003
    inst3003 (by unfold Func.isWrapper; first | (rw [if_pos (by decide +kernel)]; kernel_rfl) | (rw [if_neg (by decide +kernel)]; exact ⟨rfl, rfl⟩))
    (fun os started H enc _ => lifted3003 os started H enc)
theorem plain3003 (f : FuncId) (fn : Func) (hf : Tryz.pinned.checked.prog.funcNamed "loop.example/custumal/laws.FnExactTableOff" = some f) (hfn : Tryz.pinned.checked.prog.funcs[f]? = some fn) :
    true = Tryz.pinned.checked.prog.looks [] ∧ ∀ (j : Nat) t, fn.params[j]? = some t → Tryz.pinned.checked.prog.wantsStandIn t = false := by
  obtain rfl : f = 3 := Option.some.inj ((show Tryz.prog.funcNamed "loop.example/custumal/laws.FnExactTableOff" = some 3 by kernel_rfl).symm.trans hf) |>.symm
  obtain rfl : fn = Tryz.f3 := (Option.some.inj (Tryz.func3.symm.trans hfn)).symm
  refine ⟨looks3003, fun j t ht => ?_⟩
  rw [Tryz.params3] at ht
  have ht := Array.mem_of_getElem? ht
  simp only [List.mem_toArray, List.mem_cons, List.not_mem_nil, or_false] at ht
  rcases ht with rfl | rfl
  all_goals (exact (show Tryz.prog.wantsStandIn _ = false by kernel_rfl))
theorem fnExactTableOff_card : Rows.FnExactTableOffCardSaid :=
  Claim7.holds_tied_plain_at .later [] _ _ _ _ said3003 (fun _ h => by cases h) (by kernel_rfl) (fun _ h => by cases h) fnExactTableOff_row_tie rfl ⟨rfl, rfl⟩ (by kernel_rfl) rfl plain3003 goes3003
#print axioms fnExactTableOff_card
end Go.Proofs.YtejobmamkeoheaaGreatDoor
