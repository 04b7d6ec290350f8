/- the law FnBaseNow holds of the program at every list of bytes Conditions: none; the row lists the five package-level variables of strconv and math/bits, and the card ties them to the program's text. -/
import Derived.Test.YtdpigighgmipfaaGreatDoorQ1005R2
import Derived.Test.YtdpigighgmipfaaGreatDoorQ1005L1005
set_option linter.all false
namespace Go.Proofs.YtdpigighgmipfaaGreatDoor
open Go Go.HL Go.ChangeShapes Go.WideShapes Go.ChangeAt Go.RowKit
set_option maxRecDepth 100000 in
theorem lifted1005 (os:Os)(started:os.Started)(H:Type)(enc:TypeId×Value→H) :
    ReturnsInHanded {} Tryz.checked os 5 .any (fun w args=>(Rows.fnBaseNowSpec.pre enc Tryz.prog Tryz.f5 Rows.fnBaseNowRow.domain false w args∧laidMetH Tryz.prog laidL w)∧sizedMet enc Tryz.prog Tryz.f5 (OpenSpec.ofChange Rows.fnBaseNowSpec) false w args)
      (Rows.fnBaseNowSpec.post enc Tryz.prog Tryz.f5 false true false false):=by
  refine returnsInHanded_of_change_and (C:=Tryz.checked) (X:=fun w _=>laidMetH Tryz.prog laidL w) (fun _ _ _ hh h=>h.of_heap hh) own started (by kernel_rfl) Tryz.func5
    (ChangeSpec.witness_shaped (enc:=enc) (C:=Tryz.checked) (os:=os) (X:=fun w _=>laidMetH Tryz.prog laidL w) false (World.laidAll Tryz.prog os laidL) #[.slice none 0 0] 8 (World.laidAll_os _ _ _)
      (World.shaped_of_ZipB (by kernel_rfl) (by kernel_rfl)) (by kernel_rfl) (by kernel_rfl) (by kernel_rfl)
      (by rw [MakeChecks.laidMetH_plain _ _ _ (by kernel_rfl)];exact laidMet_laidAll _ (by kernel_rfl) (by kernel_rfl))) ?_
  intro W base args ds gs before hval hW hcnd hz hL _
  rw [MakeChecks.laidMetH_plain _ _ _ (by kernel_rfl)] at hL
  exact law_contract rfl (fun _=>rfl) Tryz.params5 rfl (c1005 10000000) (law1005 (by unfold BIG;omega)) hval hW hz hL
theorem an {a b:Bool}(h:a=true)(k:b=true):(a&&b)=true:=by rw [h,k];rfl
theorem fact1005_1:laidOutB Tryz.pinned.checked.prog=true:=by kernel_rfl
theorem fact1005_2:mapsRowed Tryz.pinned.checked.prog=true:=by kernel_rfl
theorem fact1005_9:(Rows.fnBaseNowRow.inPlace == Tryz.pinned.checked.prog.inPlace 5)=true:=by kernel_rfl
theorem fact1005_10:(Rows.fnBaseNowRow.unfollowed == Tryz.pinned.checked.prog.unfollowed 5)=true:=by kernel_rfl
theorem fact1005_11:(Rows.fnBaseNowRow.recurses == Tryz.pinned.checked.prog.recurses 5)=true:=by kernel_rfl
theorem fact1005_12:(Rows.fnBaseNowRow.named == Tryz.pinned.checked.prog.varsNamed 5)=true:=by kernel_rfl
theorem fact1005_22:(Rows.fnBaseNowRow.plainKeys == Tryz.pinned.checked.prog.plainKeys)=true:=by kernel_rfl
theorem fact1005_24:Tryz.pinned.checked.prog.stopsHeard=true:=by kernel_rfl
theorem fact1005_25:Tryz.pinned.checked.prog.mayEnter=true:=by kernel_rfl
theorem fact1005_26:(Rows.fnBaseNowRow.lifted == Tryz.pinned.checked.prog.liftsFinal)=true:=by kernel_rfl
theorem fact1005_27:(Tryz.pinned.checked.prog.make == some Rows.fnBaseNowRow.make)=true:=by kernel_rfl
theorem facts1005:joinedFacts Tryz.pinned.checked.prog 5 Tryz.f5 Rows.fnBaseNowSpec Rows.fnBaseNowRow=true:=(an (an (an (an (an (an (an (an (an (an (an (an (an (an (an (an (an (an (an (an (an (an (an (an (an (an (an (an (an (an (an (by kernel_rfl) fact1005_1) fact1005_2) (by kernel_rfl)) (by kernel_rfl)) (by kernel_rfl)) (by kernel_rfl)) (by kernel_rfl)) (by kernel_rfl)) fact1005_9) fact1005_10) fact1005_11) fact1005_12) (by kernel_rfl)) (by kernel_rfl)) (by kernel_rfl)) (by kernel_rfl)) (by kernel_rfl)) (by kernel_rfl)) (by kernel_rfl)) (by kernel_rfl)) (by kernel_rfl)) fact1005_22) (by kernel_rfl)) fact1005_24) fact1005_25) fact1005_26) fact1005_27) (by kernel_rfl)) (by kernel_rfl)) (by kernel_rfl)) (by kernel_rfl))
theorem called1005:Tryz.pinned.checked.prog.funcNamed Rows.fnBaseNowRow.func=some 5:=by kernel_rfl
theorem inst1005:Tryz.f5.isInstance Tryz.pinned.checked.prog Rows.fnBaseNowRow.origin Rows.fnBaseNowRow.targs:=of_decide_eq_true (by kernel_rfl)
theorem goes1005:false=Rows.fnBaseNowRow.goesBy Tryz.pinned.checked.prog:=by kernel_rfl
theorem looks1005:true=Tryz.pinned.checked.prog.looks []:=by kernel_rfl
theorem said1005:Rows.FnBaseNowSaid:=
  OpenClaim.holds_of_wide 5 Tryz.f5 rfl rfl rfl rfl rfl rfl rfl ⟨rfl,rfl,rfl,rfl,rfl⟩ rfl rfl rfl rfl rfl called1005 Tryz.func5 facts1005
    inst1005 (by unfold Func.isWrapper;first | (rw [if_pos (by decide +kernel)];kernel_rfl) | (rw [if_neg (by decide +kernel)];exact ⟨rfl,rfl⟩))
    (fun os started H enc _=>lifted1005 os started H enc)
theorem plain1005 (f : FuncId)(fn : Func)(hf : Tryz.pinned.checked.prog.funcNamed "loop.example/custumal/laws.FnBaseNow" = some f)(hfn : Tryz.pinned.checked.prog.funcs[f]? = some fn) :
    true=Tryz.pinned.checked.prog.looks []∧∀ (j:Nat) t,fn.params[j]? = some t→Tryz.pinned.checked.prog.wantsStandIn t=false:=by
  obtain rfl : f = 5 := Option.some.inj ((show Tryz.prog.funcNamed "loop.example/custumal/laws.FnBaseNow" = some 5 by kernel_rfl).symm.trans hf) |>.symm
  obtain rfl:fn=Tryz.f5:=(Option.some.inj (Tryz.func5.symm.trans hfn)).symm
  refine ⟨looks1005,fun j t ht=>?_⟩
  rw [Tryz.params5] at ht
  obtain rfl:t=22:=by simpa using Array.mem_of_getElem? ht
  exact (show Tryz.prog.wantsStandIn 22=false by kernel_rfl)
theorem fnBaseNow_card:Rows.FnBaseNowCardSaid:=
  Claim7.holds_tied_plain_at .later [] _ _ _ _ said1005 (fun _ h=>by cases h) (by kernel_rfl) (fun _ h=>by cases h) fnBaseNow_row_tie rfl ⟨rfl,rfl⟩ (by kernel_rfl) rfl plain1005 goes1005
#print axioms fnBaseNow_card
end Go.Proofs.YtdpigighgmipfaaGreatDoor
