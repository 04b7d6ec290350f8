/- One bad act undoes a whole transaction: FnActBad answers true for every list of bytes. Conditions: none; the row lists the five package-level variables of strconv and math/bits, and the card ties them to the program's text. -/
import Derived.Test.YtganfdhmkdehlaaGreatDoorQ2006R2
import Derived.Test.YtganfdhmkdehlaaGreatDoorQ2006L2006
set_option linter.all false
namespace Go.Proofs.YtganfdhmkdehlaaGreatDoor
open Go Go.HL Go.ChangeShapes Go.WideShapes Go.ChangeAt Go.RowKit
set_option maxRecDepth 100000 in
theorem lifted2006 (os:Os)(started:os.Started)(H:Type)(enc:TypeId×Value→H) :
    ReturnsInHanded {} Tryz.checked os 6 .any (fun w args=>(Rows.fnActBadSpec.pre enc Tryz.prog Tryz.f6 Rows.fnActBadRow.domain false w args∧laidMetH Tryz.prog laidL w)∧sizedMet enc Tryz.prog Tryz.f6 (OpenSpec.ofChange Rows.fnActBadSpec) false w args)
      (Rows.fnActBadSpec.post enc Tryz.prog Tryz.f6 false true false false):=by
  refine returnsInHanded_of_change_and (C:=Tryz.checked) (X:=fun w _=>laidMetH Tryz.prog laidL w) (fun _ _ _ hh h=>h.of_heap hh) own started (by kernel_rfl) Tryz.func6
    (ChangeSpec.witness_shaped (enc:=enc) (C:=Tryz.checked) (os:=os) (X:=fun w _=>laidMetH Tryz.prog laidL w) false (World.laidAll Tryz.prog os laidL) #[.slice none 0 0] 8 (World.laidAll_os _ _ _)
      (World.shaped_of_ZipB (by kernel_rfl) (by kernel_rfl)) (by kernel_rfl) (by kernel_rfl) (by kernel_rfl)
      (by rw [MakeChecks.laidMetH_plain _ _ _ (by kernel_rfl)];exact laidMet_laidAll _ (by kernel_rfl) (by kernel_rfl))) ?_
  intro W base args ds gs before hval hW hcnd hz hL _
  rw [MakeChecks.laidMetH_plain _ _ _ (by kernel_rfl)] at hL
  exact law_contract rfl (fun _=>rfl) Tryz.params6 rfl (FN 10000000) (Ai (by unfold BIG;omega)) hval hW hz hL
theorem an {a b:Bool}(h:a=true)(k:b=true):(a&&b)=true:=by rw [h,k];rfl
theorem fact2006_1:laidOutB Tryz.pinned.checked.prog=true:=by kernel_rfl
theorem fact2006_2:mapsRowed Tryz.pinned.checked.prog=true:=by kernel_rfl
theorem fact2006_9:(Rows.fnActBadRow.inPlace == Tryz.pinned.checked.prog.inPlace 6)=true:=by kernel_rfl
theorem fact2006_10:(Rows.fnActBadRow.unfollowed == Tryz.pinned.checked.prog.unfollowed 6)=true:=by kernel_rfl
theorem fact2006_11:(Rows.fnActBadRow.recurses == Tryz.pinned.checked.prog.recurses 6)=true:=by kernel_rfl
theorem fact2006_12:(Rows.fnActBadRow.named == Tryz.pinned.checked.prog.varsNamed 6)=true:=by kernel_rfl
theorem fact2006_22:(Rows.fnActBadRow.plainKeys == Tryz.pinned.checked.prog.plainKeys)=true:=by kernel_rfl
theorem fact2006_24:Tryz.pinned.checked.prog.stopsHeard=true:=by kernel_rfl
theorem fact2006_25:Tryz.pinned.checked.prog.mayEnter=true:=by kernel_rfl
theorem fact2006_26:(Rows.fnActBadRow.lifted == Tryz.pinned.checked.prog.liftsFinal)=true:=by kernel_rfl
theorem fact2006_27:(Tryz.pinned.checked.prog.make == some Rows.fnActBadRow.make)=true:=by kernel_rfl
theorem facts2006:joinedFacts Tryz.pinned.checked.prog 6 Tryz.f6 Rows.fnActBadSpec Rows.fnActBadRow=true:=(an (an (an (an (an (an (an (an (an (an (an (an (an (an (an (an (an (an (an (an (an (an (an (an (an (an (an (an (an (an (an (by kernel_rfl) fact2006_1) fact2006_2) (by kernel_rfl)) (by kernel_rfl)) (by kernel_rfl)) (by kernel_rfl)) (by kernel_rfl)) (by kernel_rfl)) fact2006_9) fact2006_10) fact2006_11) fact2006_12) (by kernel_rfl)) (by kernel_rfl)) (by kernel_rfl)) (by kernel_rfl)) (by kernel_rfl)) (by kernel_rfl)) (by kernel_rfl)) (by kernel_rfl)) (by kernel_rfl)) fact2006_22) (by kernel_rfl)) fact2006_24) fact2006_25) fact2006_26) fact2006_27) (by kernel_rfl)) (by kernel_rfl)) (by kernel_rfl)) (by kernel_rfl))
theorem called2006:Tryz.pinned.checked.prog.funcNamed Rows.fnActBadRow.func=some 6:=by kernel_rfl
theorem inst2006:Tryz.f6.isInstance Tryz.pinned.checked.prog Rows.fnActBadRow.origin Rows.fnActBadRow.targs:=of_decide_eq_true (by kernel_rfl)
theorem goes2006:false=Rows.fnActBadRow.goesBy Tryz.pinned.checked.prog:=by kernel_rfl
theorem looks2006:true=Tryz.pinned.checked.prog.looks []:=by kernel_rfl
theorem said2006:Rows.FnActBadSaid:=
  OpenClaim.holds_of_wide 6 Tryz.f6 rfl rfl rfl rfl rfl rfl rfl ⟨rfl,rfl,rfl,rfl,rfl⟩ rfl rfl rfl rfl rfl called2006 Tryz.func6 facts2006
    inst2006 (by unfold Func.isWrapper;first | (rw [if_pos (by decide +kernel)];kernel_rfl) | (rw [if_neg (by decide +kernel)];exact ⟨rfl,rfl⟩))
    (fun os started H enc _=>lifted2006 os started H enc)
theorem plain2006 (f : FuncId)(fn : Func)(hf : Tryz.pinned.checked.prog.funcNamed "loop.example/custumal/laws.FnActBad" = some f)(hfn : Tryz.pinned.checked.prog.funcs[f]? = some fn) :
    true=Tryz.pinned.checked.prog.looks []∧∀ (j:Nat) t,fn.params[j]? = some t→Tryz.pinned.checked.prog.wantsStandIn t=false:=by
  obtain rfl : f = 6 := Option.some.inj ((show Tryz.prog.funcNamed "loop.example/custumal/laws.FnActBad" = some 6 by kernel_rfl).symm.trans hf) |>.symm
  obtain rfl:fn=Tryz.f6:=(Option.some.inj (Tryz.func6.symm.trans hfn)).symm
  refine ⟨looks2006,fun j t ht=>?_⟩
  rw [Tryz.params6] at ht
  obtain rfl:t=22:=by simpa using Array.mem_of_getElem? ht
  exact (show Tryz.prog.wantsStandIn 22=false by kernel_rfl)
theorem fnActBad_card:Rows.FnActBadCardSaid:=
  Claim7.holds_tied_plain_at .later [] _ _ _ _ said2006 (fun _ h=>by cases h) (by kernel_rfl) (fun _ h=>by cases h) fnActBad_row_tie rfl ⟨rfl,rfl⟩ (by kernel_rfl) rfl plain2006 goes2006
#print axioms fnActBad_card
end Go.Proofs.YtganfdhmkdehlaaGreatDoor
