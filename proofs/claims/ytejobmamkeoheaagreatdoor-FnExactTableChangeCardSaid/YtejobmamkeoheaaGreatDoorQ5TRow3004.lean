/- The program's TableChange answers as the reference at all arguments, writes into none, keeps nothing of one, and its answer owns its memory. Conditions: none; the row lists the five package-level variables of strconv and math/bits, and the card ties them to the program's text. -/
import Derived.Test.YtejobmamkeoheaaGreatDoorQ5TX31
import Derived.KernelRfl
set_option linter.all false
namespace Go.Proofs.YtejobmamkeoheaaGreatDoor
open Go Go.HL Go.ChangeShapes Go.WideShapes Go.ChangeAt Go.RowKit
set_option maxRecDepth 100000 in
theorem lifted3004 (os : Os) (started : os.Started) (H : Type) (enc : TypeId × Value → H) :
    ReturnsInHanded {} Tryz.checked os 4 .any (fun w args => (Rows.fnExactTableChangeSpec.pre enc Tryz.prog Tryz.f4 Rows.fnExactTableChangeRow.domain false w args ∧ laidMetH Tryz.prog laidL w) ∧ sizedMet enc Tryz.prog Tryz.f4 (OpenSpec.ofChange Rows.fnExactTableChangeSpec) false w args)
      (Rows.fnExactTableChangeSpec.post enc Tryz.prog Tryz.f4 false true false false) := by
  refine returnsInHanded_of_change_and (C := Tryz.checked) (X := fun w _ => laidMetH Tryz.prog laidL w) (fun _ _ _ hh h => h.of_heap hh) own started (by kernel_rfl) Tryz.func4
    (ChangeSpec.witness_shaped (enc := enc) (C := Tryz.checked) (os := os) (X := fun w _ => laidMetH Tryz.prog laidL w) false (World.laidAll Tryz.prog os laidL) #[.agg #[.slice none 0 0, .slice none 0 0, .slice none 0 0, .int .i64 0], .agg #[.int .i64 0, .string ⟨#[]⟩, .string ⟨#[]⟩, .string ⟨#[]⟩, .int .i64 0, .bool false, .bool false, .int .i64 0, .int .i64 0, .string ⟨#[]⟩]] 20 (World.laidAll_os _ _ _)
      (World.shaped_of_ZipB (by kernel_rfl) (by kernel_rfl)) (by kernel_rfl) (by kernel_rfl) (by kernel_rfl)
      (by rw [MakeChecks.laidMetH_plain _ _ _ (by kernel_rfl)]; exact laidMet_laidAll _ (by kernel_rfl) (by kernel_rfl))) ?_
  intro W base args ds gs before hval hW hcnd hz hL _
  rw [MakeChecks.laidMetH_plain _ _ _ (by kernel_rfl)] at hL
  exact law_contractX at3004 rfl (fun ds h => by match ds, h with | [_, _], _ => rfl) (by rw [Tryz.params4]) rfl lawX3004 hval hW hz hL
theorem an {a b : Bool} (h : a = true) (k : b = true) : (a && b) = true := by rw [h, k]; rfl
theorem fact3004_1 : laidOutB Tryz.pinned.checked.prog = true := by kernel_rfl
theorem fact3004_2 : mapsRowed Tryz.pinned.checked.prog = true := by kernel_rfl
theorem fact3004_9 : (Rows.fnExactTableChangeRow.inPlace == Tryz.pinned.checked.prog.inPlace 4) = true := by kernel_rfl
theorem fact3004_10 : (Rows.fnExactTableChangeRow.unfollowed == Tryz.pinned.checked.prog.unfollowed 4) = true := by kernel_rfl
theorem fact3004_11 : (Rows.fnExactTableChangeRow.recurses == Tryz.pinned.checked.prog.recurses 4) = true := by kernel_rfl
theorem fact3004_12 : (Rows.fnExactTableChangeRow.named == Tryz.pinned.checked.prog.varsNamed 4) = true := by kernel_rfl
theorem fact3004_22 : (Rows.fnExactTableChangeRow.plainKeys == Tryz.pinned.checked.prog.plainKeys) = true := by kernel_rfl
theorem fact3004_24 : Tryz.pinned.checked.prog.stopsHeard = true := by kernel_rfl
theorem fact3004_25 : Tryz.pinned.checked.prog.mayEnter = true := by kernel_rfl
theorem fact3004_26 : (Rows.fnExactTableChangeRow.lifted == Tryz.pinned.checked.prog.liftsFinal) = true := by kernel_rfl
theorem fact3004_27 : (Tryz.pinned.checked.prog.make == some Rows.fnExactTableChangeRow.make) = true := by kernel_rfl
theorem facts3004 : joinedFacts Tryz.pinned.checked.prog 4 Tryz.f4 Rows.fnExactTableChangeSpec Rows.fnExactTableChangeRow = true := (an (an (an (an (an (an (an (an (an (an (an (an (an (an (an (an (an (an (an (an (an (an (an (an (an (an (an (an (an (an (an (by kernel_rfl) fact3004_1) fact3004_2) (by kernel_rfl)) (by kernel_rfl)) (by kernel_rfl)) (by kernel_rfl)) (by kernel_rfl)) (by kernel_rfl)) fact3004_9) fact3004_10) fact3004_11) fact3004_12) (by kernel_rfl)) (by kernel_rfl)) (by kernel_rfl)) (by kernel_rfl)) (by kernel_rfl)) (by kernel_rfl)) (by kernel_rfl)) (by kernel_rfl)) (by kernel_rfl)) fact3004_22) (by kernel_rfl)) fact3004_24) fact3004_25) fact3004_26) fact3004_27) (by kernel_rfl)) (by kernel_rfl)) (by kernel_rfl)) (by kernel_rfl))
theorem called3004 : Tryz.pinned.checked.prog.funcNamed Rows.fnExactTableChangeRow.func = some 4 := by kernel_rfl
theorem inst3004 : Tryz.f4.isInstance Tryz.pinned.checked.prog Rows.fnExactTableChangeRow.origin Rows.fnExactTableChangeRow.targs := of_decide_eq_true (by kernel_rfl)
theorem goes3004 : false = Rows.fnExactTableChangeRow.goesBy Tryz.pinned.checked.prog := by kernel_rfl
theorem looks3004 : true = Tryz.pinned.checked.prog.looks [] := by kernel_rfl
theorem said3004 : Rows.FnExactTableChangeSaid :=
  OpenClaim.holds_of_wide 4 Tryz.f4 rfl rfl rfl rfl rfl rfl rfl ⟨rfl, rfl, rfl, rfl, rfl⟩ rfl rfl rfl rfl rfl called3004 Tryz.func4 facts3004
    inst3004 (by unfold Func.isWrapper; first | (rw [if_pos (by decide +kernel)]; kernel_rfl) | (rw [if_neg (by decide +kernel)]; exact ⟨rfl, rfl⟩))
    (fun os started H enc _ => lifted3004 os started H enc)
theorem plain3004 (f : FuncId) (fn : Func) (hf : Tryz.pinned.checked.prog.funcNamed "loop.example/custumal/laws.FnExactTableChange" = some f) (hfn : Tryz.pinned.checked.prog.funcs[f]? = some fn) :
    true = Tryz.pinned.checked.prog.looks [] ∧ ∀ (j : Nat) t, fn.params[j]? = some t → Tryz.pinned.checked.prog.wantsStandIn t = false := by
  obtain rfl : f = 4 := Option.some.inj ((show Tryz.prog.funcNamed "loop.example/custumal/laws.FnExactTableChange" = some 4 by kernel_rfl).symm.trans hf) |>.symm
  obtain rfl : fn = Tryz.f4 := (Option.some.inj (Tryz.func4.symm.trans hfn)).symm
  refine ⟨looks3004, fun j t ht => ?_⟩
  rw [Tryz.params4] at ht
  have ht := Array.mem_of_getElem? ht
  simp only [List.mem_toArray, List.mem_cons, List.not_mem_nil, or_false] at ht
  rcases ht with rfl | rfl
  all_goals (exact (show Tryz.prog.wantsStandIn _ = false by kernel_rfl))
theorem fnExactTableChange_card : Rows.FnExactTableChangeCardSaid :=
  Claim7.holds_tied_plain_at .later [] _ _ _ _ said3004 (fun _ h => by cases h) (by kernel_rfl) (fun _ h => by cases h) fnExactTableChange_row_tie rfl ⟨rfl, rfl⟩ (by kernel_rfl) rfl plain3004 goes3004
#print axioms fnExactTableChange_card
end Go.Proofs.YtejobmamkeoheaaGreatDoor
