/- What holds of a base (rows, names, references) holds after every transaction: FnActKeep answers true for every list of bytes. Conditions: none; the row lists the five package-level variables of strconv and math/bits, and the card ties them to the program's text. -/
import Derived.Test.YtganfdhmkdehlaaGreatDoorQ2008R2
import Derived.Test.YtganfdhmkdehlaaGreatDoorQ2008L2008
set_option linter.all false
namespace Go.Proofs.YtganfdhmkdehlaaGreatDoor
open Go Go.HL Go.ChangeShapes Go.WideShapes Go.ChangeAt Go.RowKit
set_option maxRecDepth 100000 in
theorem lifted2008 (os:Os)(started:os.Started)(H:Type)(enc:TypeId×Value→H) :
    ReturnsInHanded {} Tryz.checked os 8 .any (fun w args=>(Rows.fnActKeepSpec.pre enc Tryz.prog Tryz.f8 Rows.fnActKeepRow.domain false w args∧laidMetH Tryz.prog laidL w)∧sizedMet enc Tryz.prog Tryz.f8 (OpenSpec.ofChange Rows.fnActKeepSpec) false w args)
      (Rows.fnActKeepSpec.post enc Tryz.prog Tryz.f8 false true false false):=by
  refine returnsInHanded_of_change_and (C:=Tryz.checked) (X:=fun w _=>laidMetH Tryz.prog laidL w) (fun _ _ _ hh h=>h.of_heap hh) own started (by kernel_rfl) Tryz.func8
    (ChangeSpec.witness_shaped (enc:=enc) (C:=Tryz.checked) (os:=os) (X:=fun w _=>laidMetH Tryz.prog laidL w) false (World.laidAll Tryz.prog os laidL) #[.slice none 0 0] 8 (World.laidAll_os _ _ _)
      (World.shaped_of_ZipB (by kernel_rfl) (by kernel_rfl)) (by kernel_rfl) (by kernel_rfl) (by kernel_rfl)
      (by rw [MakeChecks.laidMetH_plain _ _ _ (by kernel_rfl)];exact laidMet_laidAll _ (by kernel_rfl) (by kernel_rfl))) ?_
  intro W base args ds gs before hval hW hcnd hz hL _
  rw [MakeChecks.laidMetH_plain _ _ _ (by kernel_rfl)] at hL
  exact law_contract rfl (fun _=>rfl) Tryz.params8 rfl (FD 10000000) (Ad (by unfold BIG;omega)) hval hW hz hL
theorem an {a b:Bool}(h:a=true)(k:b=true):(a&&b)=true:=by rw [h,k];rfl
theorem fact2008_1:laidOutB Tryz.pinned.checked.prog=true:=by kernel_rfl
theorem fact2008_2:mapsRowed Tryz.pinned.checked.prog=true:=by kernel_rfl
theorem fact2008_9:(Rows.fnActKeepRow.inPlace == Tryz.pinned.checked.prog.inPlace 8)=true:=by kernel_rfl
theorem fact2008_10:(Rows.fnActKeepRow.unfollowed == Tryz.pinned.checked.prog.unfollowed 8)=true:=by kernel_rfl
theorem fact2008_11:(Rows.fnActKeepRow.recurses == Tryz.pinned.checked.prog.recurses 8)=true:=by kernel_rfl
theorem fact2008_12:(Rows.fnActKeepRow.named == Tryz.pinned.checked.prog.varsNamed 8)=true:=by kernel_rfl
theorem fact2008_22:(Rows.fnActKeepRow.plainKeys == Tryz.pinned.checked.prog.plainKeys)=true:=by kernel_rfl
theorem fact2008_24:Tryz.pinned.checked.prog.stopsHeard=true:=by kernel_rfl
theorem fact2008_25:Tryz.pinned.checked.prog.mayEnter=true:=by kernel_rfl
theorem fact2008_26:(Rows.fnActKeepRow.lifted == Tryz.pinned.checked.prog.liftsFinal)=true:=by kernel_rfl
theorem fact2008_27:(Tryz.pinned.checked.prog.make == some Rows.fnActKeepRow.make)=true:=by kernel_rfl
theorem facts2008:joinedFacts Tryz.pinned.checked.prog 8 Tryz.f8 Rows.fnActKeepSpec Rows.fnActKeepRow=true:=(an (an (an (an (an (an (an (an (an (an (an (an (an (an (an (an (an (an (an (an (an (an (an (an (an (an (an (an (an (an (an (by kernel_rfl) fact2008_1) fact2008_2) (by kernel_rfl)) (by kernel_rfl)) (by kernel_rfl)) (by kernel_rfl)) (by kernel_rfl)) (by kernel_rfl)) fact2008_9) fact2008_10) fact2008_11) fact2008_12) (by kernel_rfl)) (by kernel_rfl)) (by kernel_rfl)) (by kernel_rfl)) (by kernel_rfl)) (by kernel_rfl)) (by kernel_rfl)) (by kernel_rfl)) (by kernel_rfl)) fact2008_22) (by kernel_rfl)) fact2008_24) fact2008_25) fact2008_26) fact2008_27) (by kernel_rfl)) (by kernel_rfl)) (by kernel_rfl)) (by kernel_rfl))
theorem called2008:Tryz.pinned.checked.prog.funcNamed Rows.fnActKeepRow.func=some 8:=by kernel_rfl
theorem inst2008:Tryz.f8.isInstance Tryz.pinned.checked.prog Rows.fnActKeepRow.origin Rows.fnActKeepRow.targs:=of_decide_eq_true (by kernel_rfl)
theorem goes2008:false=Rows.fnActKeepRow.goesBy Tryz.pinned.checked.prog:=by kernel_rfl
theorem looks2008:true=Tryz.pinned.checked.prog.looks []:=by kernel_rfl
theorem said2008:Rows.FnActKeepSaid:=
  OpenClaim.holds_of_wide 8 Tryz.f8 rfl rfl rfl rfl rfl rfl rfl ⟨rfl,rfl,rfl,rfl,rfl⟩ rfl rfl rfl rfl rfl called2008 Tryz.func8 facts2008
    inst2008 (by unfold Func.isWrapper;first | (rw [if_pos (by decide +kernel)];kernel_rfl) | (rw [if_neg (by decide +kernel)];exact ⟨rfl,rfl⟩))
    (fun os started H enc _=>lifted2008 os started H enc)
theorem plain2008 (f : FuncId)(fn : Func)(hf : Tryz.pinned.checked.prog.funcNamed "loop.example/custumal/laws.FnActKeep" = some f)(hfn : Tryz.pinned.checked.prog.funcs[f]? = some fn) :
    true=Tryz.pinned.checked.prog.looks []∧∀ (j:Nat) t,fn.params[j]? = some t→Tryz.pinned.checked.prog.wantsStandIn t=false:=by
  obtain rfl : f = 8 := Option.some.inj ((show Tryz.prog.funcNamed "loop.example/custumal/laws.FnActKeep" = some 8 by kernel_rfl).symm.trans hf) |>.symm
  obtain rfl:fn=Tryz.f8:=(Option.some.inj (Tryz.func8.symm.trans hfn)).symm
  refine ⟨looks2008,fun j t ht=>?_⟩
  rw [Tryz.params8] at ht
  obtain rfl:t=22:=by simpa using Array.mem_of_getElem? ht
  exact (show Tryz.prog.wantsStandIn 22=false by kernel_rfl)
theorem fnActKeep_card:Rows.FnActKeepCardSaid:=
  Claim7.holds_tied_plain_at .later [] _ _ _ _ said2008 (fun _ h=>by cases h) (by kernel_rfl) (fun _ h=>by cases h) fnActKeep_row_tie rfl ⟨rfl,rfl⟩ (by kernel_rfl) rfl plain2008 goes2008
#print axioms fnActKeep_card
end Go.Proofs.YtganfdhmkdehlaaGreatDoor
