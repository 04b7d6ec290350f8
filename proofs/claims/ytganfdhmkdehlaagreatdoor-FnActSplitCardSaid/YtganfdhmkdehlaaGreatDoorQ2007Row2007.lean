/- What is done at once can be done in two parts, one behind the other: FnActSplit answers true for every two lists of bytes. Conditions: none; the row lists the five package-level variables of strconv and math/bits, and the card ties them to the program's text. -/
import Derived.Test.YtganfdhmkdehlaaGreatDoorQ2007R2
import Derived.Test.YtganfdhmkdehlaaGreatDoorQ2007L2007
set_option linter.all false
namespace Go.Proofs.YtganfdhmkdehlaaGreatDoor
open Go Go.HL Go.ChangeShapes Go.WideShapes Go.ChangeAt Go.RowKit
set_option maxRecDepth 100000 in
theorem lifted2007 (os:Os)(started:os.Started)(H:Type)(enc:TypeId×Value→H) :
    ReturnsInHanded {} Tryz.checked os 7 .any (fun w args=>(Rows.fnActSplitSpec.pre enc Tryz.prog Tryz.f7 Rows.fnActSplitRow.domain false w args∧laidMetH Tryz.prog laidL w)∧sizedMet enc Tryz.prog Tryz.f7 (OpenSpec.ofChange Rows.fnActSplitSpec) false w args)
      (Rows.fnActSplitSpec.post enc Tryz.prog Tryz.f7 false true false false):=by
  refine returnsInHanded_of_change_and (C:=Tryz.checked) (X:=fun w _=>laidMetH Tryz.prog laidL w) (fun _ _ _ hh h=>h.of_heap hh) own started (by kernel_rfl) Tryz.func7
    (ChangeSpec.witness_shaped (enc:=enc) (C:=Tryz.checked) (os:=os) (X:=fun w _=>laidMetH Tryz.prog laidL w) false (World.laidAll Tryz.prog os laidL) #[.slice none 0 0,.slice none 0 0] 8 (World.laidAll_os _ _ _)
      (World.shaped_of_ZipB (by kernel_rfl) (by kernel_rfl)) (by kernel_rfl) (by kernel_rfl) (by kernel_rfl)
      (by rw [MakeChecks.laidMetH_plain _ _ _ (by kernel_rfl)];exact laidMet_laidAll _ (by kernel_rfl) (by kernel_rfl))) ?_
  intro W base args ds gs before hval hW hcnd hz hL _
  rw [MakeChecks.laidMetH_plain _ _ _ (by kernel_rfl)] at hL
  exact law_contract2 rfl (fun _ _=>rfl) Tryz.params7 rfl (FN 10000000) (An (by unfold BIG;omega)) hval hW hz hL
theorem an {a b:Bool}(h:a=true)(k:b=true):(a&&b)=true:=by rw [h,k];rfl
theorem fact2007_1:laidOutB Tryz.pinned.checked.prog=true:=by kernel_rfl
theorem fact2007_2:mapsRowed Tryz.pinned.checked.prog=true:=by kernel_rfl
theorem fact2007_9:(Rows.fnActSplitRow.inPlace == Tryz.pinned.checked.prog.inPlace 7)=true:=by kernel_rfl
theorem fact2007_10:(Rows.fnActSplitRow.unfollowed == Tryz.pinned.checked.prog.unfollowed 7)=true:=by kernel_rfl
theorem fact2007_11:(Rows.fnActSplitRow.recurses == Tryz.pinned.checked.prog.recurses 7)=true:=by kernel_rfl
theorem fact2007_12:(Rows.fnActSplitRow.named == Tryz.pinned.checked.prog.varsNamed 7)=true:=by kernel_rfl
theorem fact2007_22:(Rows.fnActSplitRow.plainKeys == Tryz.pinned.checked.prog.plainKeys)=true:=by kernel_rfl
theorem fact2007_24:Tryz.pinned.checked.prog.stopsHeard=true:=by kernel_rfl
theorem fact2007_25:Tryz.pinned.checked.prog.mayEnter=true:=by kernel_rfl
theorem fact2007_26:(Rows.fnActSplitRow.lifted == Tryz.pinned.checked.prog.liftsFinal)=true:=by kernel_rfl
theorem fact2007_27:(Tryz.pinned.checked.prog.make == some Rows.fnActSplitRow.make)=true:=by kernel_rfl
theorem facts2007:joinedFacts Tryz.pinned.checked.prog 7 Tryz.f7 Rows.fnActSplitSpec Rows.fnActSplitRow=true:=(an (an (an (an (an (an (an (an (an (an (an (an (an (an (an (an (an (an (an (an (an (an (an (an (an (an (an (an (an (an (an (by kernel_rfl) fact2007_1) fact2007_2) (by kernel_rfl)) (by kernel_rfl)) (by kernel_rfl)) (by kernel_rfl)) (by kernel_rfl)) (by kernel_rfl)) fact2007_9) fact2007_10) fact2007_11) fact2007_12) (by kernel_rfl)) (by kernel_rfl)) (by kernel_rfl)) (by kernel_rfl)) (by kernel_rfl)) (by kernel_rfl)) (by kernel_rfl)) (by kernel_rfl)) (by kernel_rfl)) fact2007_22) (by kernel_rfl)) fact2007_24) fact2007_25) fact2007_26) fact2007_27) (by kernel_rfl)) (by kernel_rfl)) (by kernel_rfl)) (by kernel_rfl))
theorem called2007:Tryz.pinned.checked.prog.funcNamed Rows.fnActSplitRow.func=some 7:=by kernel_rfl
theorem inst2007:Tryz.f7.isInstance Tryz.pinned.checked.prog Rows.fnActSplitRow.origin Rows.fnActSplitRow.targs:=of_decide_eq_true (by kernel_rfl)
theorem goes2007:false=Rows.fnActSplitRow.goesBy Tryz.pinned.checked.prog:=by kernel_rfl
theorem looks2007:true=Tryz.pinned.checked.prog.looks []:=by kernel_rfl
theorem said2007:Rows.FnActSplitSaid:=
  OpenClaim.holds_of_wide 7 Tryz.f7 rfl rfl rfl rfl rfl rfl rfl ⟨rfl,rfl,rfl,rfl,rfl⟩ rfl rfl rfl rfl rfl called2007 Tryz.func7 facts2007
    inst2007 (by unfold Func.isWrapper;first | (rw [if_pos (by decide +kernel)];kernel_rfl) | (rw [if_neg (by decide +kernel)];exact ⟨rfl,rfl⟩))
    (fun os started H enc _=>lifted2007 os started H enc)
theorem plain2007 (f : FuncId)(fn : Func)(hf : Tryz.pinned.checked.prog.funcNamed "loop.example/custumal/laws.FnActSplit" = some f)(hfn : Tryz.pinned.checked.prog.funcs[f]? = some fn) :
    true=Tryz.pinned.checked.prog.looks []∧∀ (j:Nat) t,fn.params[j]? = some t→Tryz.pinned.checked.prog.wantsStandIn t=false:=by
  obtain rfl : f = 7 := Option.some.inj ((show Tryz.prog.funcNamed "loop.example/custumal/laws.FnActSplit" = some 7 by kernel_rfl).symm.trans hf) |>.symm
  obtain rfl:fn=Tryz.f7:=(Option.some.inj (Tryz.func7.symm.trans hfn)).symm
  refine ⟨looks2007,fun j t ht=>?_⟩
  rw [Tryz.params7] at ht
  obtain rfl:t=22:=by simpa using Array.mem_of_getElem? ht
  exact (show Tryz.prog.wantsStandIn 22=false by kernel_rfl)
theorem fnActSplit_card:Rows.FnActSplitCardSaid:=
  Claim7.holds_tied_plain_at .later [] _ _ _ _ said2007 (fun _ h=>by cases h) (by kernel_rfl) (fun _ h=>by cases h) fnActSplit_row_tie rfl ⟨rfl,rfl⟩ (by kernel_rfl) rfl plain2007 goes2007
#print axioms fnActSplit_card
end Go.Proofs.YtganfdhmkdehlaaGreatDoor
