/- The program's TablePut answers as the reference at all arguments, writes into none, keeps nothing of one, and its answer owns its memory. Conditions: none; the row lists the five package-level variables of strconv and math/bits, and the card ties them to the program's text. -/
import Derived.Test.YtejobmamkeoheaaGreatDoorQ5TX32
import Derived.KernelRfl
set_option linter.all false
namespace Go.Proofs.YtejobmamkeoheaaGreatDoor
open Go Go.HL Go.ChangeShapes Go.WideShapes Go.ChangeAt Go.RowKit
set_option maxRecDepth 100000 in
theorem lifted3005 (os : Os) (started : os.Started) (H : Type) (enc : TypeId × Value → H) :
    ReturnsInHanded {} Tryz.checked os 5 .any (fun w args => (Rows.fnExactTablePutSpec.pre enc Tryz.prog Tryz.f5 Rows.fnExactTablePutRow.domain false w args ∧ laidMetH Tryz.prog laidL w) ∧ sizedMet enc Tryz.prog Tryz.f5 (OpenSpec.ofChange Rows.fnExactTablePutSpec) false w args)
      (Rows.fnExactTablePutSpec.post enc Tryz.prog Tryz.f5 false true false false) := by
  refine returnsInHanded_of_change_and (C := Tryz.checked) (X := fun w _ => laidMetH Tryz.prog laidL w) (fun _ _ _ hh h => h.of_heap hh) own started (by kernel_rfl) Tryz.func5
    (ChangeSpec.witness_shaped (enc := enc) (C := Tryz.checked) (os := os) (X := fun w _ => laidMetH Tryz.prog laidL w) false (World.laidAll Tryz.prog os laidL) #[.agg #[.slice none 0 0, .slice none 0 0, .slice none 0 0, .int .i64 0], .slice none 0 0] 20 (World.laidAll_os _ _ _)
      (World.shaped_of_ZipB (by kernel_rfl) (by kernel_rfl)) (by kernel_rfl) (by kernel_rfl) (by kernel_rfl)
      (by rw [MakeChecks.laidMetH_plain _ _ _ (by kernel_rfl)]; exact laidMet_laidAll _ (by kernel_rfl) (by kernel_rfl))) ?_
  intro W base args ds gs before hval hW hcnd hz hL _
  rw [MakeChecks.laidMetH_plain _ _ _ (by kernel_rfl)] at hL
  exact law_contractX at3005 rfl (fun ds h => by match ds, h with | [_, _], _ => rfl) (by rw [Tryz.params5]) rfl lawX3005 hval hW hz hL
theorem an {a b : Bool} (h : a = true) (k : b = true) : (a && b) = true := by rw [h, k]; rfl
theorem fact3005_1 : laidOutB Tryz.pinned.checked.prog = true := by kernel_rfl
theorem fact3005_2 : mapsRowed Tryz.pinned.checked.prog = true := by kernel_rfl
theorem fact3005_9 : (Rows.fnExactTablePutRow.inPlace == Tryz.pinned.checked.prog.inPlace 5) = true := by kernel_rfl
theorem fact3005_10 : (Rows.fnExactTablePutRow.unfollowed == Tryz.pinned.checked.prog.unfollowed 5) = true := by kernel_rfl
theorem fact3005_11 : (Rows.fnExactTablePutRow.recurses == Tryz.pinned.checked.prog.recurses 5) = true := by kernel_rfl
theorem fact3005_12 : (Rows.fnExactTablePutRow.named == Tryz.pinned.checked.prog.varsNamed 5) = true := by kernel_rfl
theorem fact3005_22 : (Rows.fnExactTablePutRow.plainKeys == Tryz.pinned.checked.prog.plainKeys) = true := by kernel_rfl
theorem fact3005_24 : Tryz.pinned.checked.prog.stopsHeard = true := by kernel_rfl
theorem fact3005_25 : Tryz.pinned.checked.prog.mayEnter = true := by kernel_rfl
theorem fact3005_26 : (Rows.fnExactTablePutRow.lifted == Tryz.pinned.checked.prog.liftsFinal) = true := by kernel_rfl
theorem fact3005_27 : (Tryz.pinned.checked.prog.make == some Rows.fnExactTablePutRow.make) = true := by kernel_rfl
theorem facts3005 : joinedFacts Tryz.pinned.checked.prog 5 Tryz.f5 Rows.fnExactTablePutSpec Rows.fnExactTablePutRow = true := (an (an (an (an (an (an (an (an (an (an (an (an (an (an (an (an (an (an (an (an (an (an (an (an (an (an (an (an (an (an (an (by kernel_rfl) fact3005_1) fact3005_2) (by kernel_rfl)) (by kernel_rfl)) (by kernel_rfl)) (by kernel_rfl)) (by kernel_rfl)) (by kernel_rfl)) fact3005_9) fact3005_10) fact3005_11) fact3005_12) (by kernel_rfl)) (by kernel_rfl)) (by kernel_rfl)) (by kernel_rfl)) (by kernel_rfl)) (by kernel_rfl)) (by kernel_rfl)) (by kernel_rfl)) (by kernel_rfl)) fact3005_22) (by kernel_rfl)) fact3005_24) fact3005_25) fact3005_26) fact3005_27) (by kernel_rfl)) (by kernel_rfl)) (by kernel_rfl)) (by kernel_rfl))
theorem called3005 : Tryz.pinned.checked.prog.funcNamed Rows.fnExactTablePutRow.func = some 5 := by kernel_rfl
theorem inst3005 : Tryz.f5.isInstance Tryz.pinned.checked.prog Rows.fnExactTablePutRow.origin Rows.fnExactTablePutRow.targs := of_decide_eq_true (by kernel_rfl)
theorem goes3005 : false = Rows.fnExactTablePutRow.goesBy Tryz.pinned.checked.prog := by kernel_rfl
theorem looks3005 : true = Tryz.pinned.checked.prog.looks [] := by kernel_rfl
theorem said3005 : Rows.FnExactTablePutSaid :=
  OpenClaim.holds_of_wide 5 Tryz.f5 rfl rfl rfl rfl rfl rfl rfl ⟨rfl, rfl, rfl, rfl, rfl⟩ rfl rfl rfl rfl rfl called3005 Tryz.func5 facts3005
    inst3005 (by unfold Func.isWrapper; first | (rw [if_pos (by decide +kernel)]; kernel_rfl) | (rw [if_neg (by decide +kernel)]; exact ⟨rfl, rfl⟩))
    (fun os started H enc _ => lifted3005 os started H enc)
theorem plain3005 (f : FuncId) (fn : Func) (hf : Tryz.pinned.checked.prog.funcNamed "loop.example/custumal/laws.FnExactTablePut" = some f) (hfn : Tryz.pinned.checked.prog.funcs[f]? = some fn) :
    true = Tryz.pinned.checked.prog.looks [] ∧ ∀ (j : Nat) t, fn.params[j]? = some t → Tryz.pinned.checked.prog.wantsStandIn t = false := by
  obtain rfl : f = 5 := Option.some.inj ((show Tryz.prog.funcNamed "loop.example/custumal/laws.FnExactTablePut" = some 5 by kernel_rfl).symm.trans hf) |>.symm
  obtain rfl : fn = Tryz.f5 := (Option.some.inj (Tryz.func5.symm.trans hfn)).symm
  refine ⟨looks3005, fun j t ht => ?_⟩
  rw [Tryz.params5] at ht
  have ht := Array.mem_of_getElem? ht
  simp only [List.mem_toArray, List.mem_cons, List.not_mem_nil, or_false] at ht
  rcases ht with rfl | rfl
  all_goals (exact (show Tryz.prog.wantsStandIn _ = false by kernel_rfl))
theorem fnExactTablePut_card : Rows.FnExactTablePutCardSaid :=
  Claim7.holds_tied_plain_at .later [] _ _ _ _ said3005 (fun _ h => by cases h) (by kernel_rfl) (fun _ h => by cases h) fnExactTablePut_row_tie rfl ⟨rfl, rfl⟩ (by kernel_rfl) rfl plain3005 goes3005
#print axioms fnExactTablePut_card
end Go.Proofs.YtejobmamkeoheaaGreatDoor
