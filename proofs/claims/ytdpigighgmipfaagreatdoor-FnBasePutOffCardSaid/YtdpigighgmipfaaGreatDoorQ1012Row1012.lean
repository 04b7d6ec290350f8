/- the law FnBasePutOff holds of the program at every list of bytes Conditions: none; the row lists the five package-level variables of strconv and math/bits, and the card ties them to the program's text. -/
import Derived.Test.YtdpigighgmipfaaGreatDoorQ1012R2
import Derived.Test.YtdpigighgmipfaaGreatDoorQ1012L1012
set_option linter.all false
namespace Go.Proofs.YtdpigighgmipfaaGreatDoor
open Go Go.HL Go.ChangeShapes Go.WideShapes Go.ChangeAt Go.RowKit
set_option maxRecDepth 100000 in
theorem lifted1012 (os:Os)(started:os.Started)(H:Type)(enc:TypeId×Value→H) :
    ReturnsInHanded {} Tryz.checked os 12 .any (fun w args=>(Rows.fnBasePutOffSpec.pre enc Tryz.prog Tryz.f12 Rows.fnBasePutOffRow.domain false w args∧laidMetH Tryz.prog laidL w)∧sizedMet enc Tryz.prog Tryz.f12 (OpenSpec.ofChange Rows.fnBasePutOffSpec) false w args)
      (Rows.fnBasePutOffSpec.post enc Tryz.prog Tryz.f12 false true false false):=by
  refine returnsInHanded_of_change_and (C:=Tryz.checked) (X:=fun w _=>laidMetH Tryz.prog laidL w) (fun _ _ _ hh h=>h.of_heap hh) own started (by kernel_rfl) Tryz.func12
    (ChangeSpec.witness_shaped (enc:=enc) (C:=Tryz.checked) (os:=os) (X:=fun w _=>laidMetH Tryz.prog laidL w) false (World.laidAll Tryz.prog os laidL) #[.slice none 0 0] 8 (World.laidAll_os _ _ _)
      (World.shaped_of_ZipB (by kernel_rfl) (by kernel_rfl)) (by kernel_rfl) (by kernel_rfl) (by kernel_rfl)
      (by rw [MakeChecks.laidMetH_plain _ _ _ (by kernel_rfl)];exact laidMet_laidAll _ (by kernel_rfl) (by kernel_rfl))) ?_
  intro W base args ds gs before hval hW hcnd hz hL _
  rw [MakeChecks.laidMetH_plain _ _ _ (by kernel_rfl)] at hL
  exact law_contract rfl (fun _=>rfl) Tryz.params12 rfl (c1012 10000000) (law1012 (by unfold BIG;omega)) hval hW hz hL
theorem an {a b:Bool}(h:a=true)(k:b=true):(a&&b)=true:=by rw [h,k];rfl
theorem fact1012_1:laidOutB Tryz.pinned.checked.prog=true:=by kernel_rfl
theorem fact1012_2:mapsRowed Tryz.pinned.checked.prog=true:=by kernel_rfl
theorem fact1012_9:(Rows.fnBasePutOffRow.inPlace == Tryz.pinned.checked.prog.inPlace 12)=true:=by kernel_rfl
theorem fact1012_10:(Rows.fnBasePutOffRow.unfollowed == Tryz.pinned.checked.prog.unfollowed 12)=true:=by kernel_rfl
theorem fact1012_11:(Rows.fnBasePutOffRow.recurses == Tryz.pinned.checked.prog.recurses 12)=true:=by kernel_rfl
theorem fact1012_12:(Rows.fnBasePutOffRow.named == Tryz.pinned.checked.prog.varsNamed 12)=true:=by kernel_rfl
theorem fact1012_22:(Rows.fnBasePutOffRow.plainKeys == Tryz.pinned.checked.prog.plainKeys)=true:=by kernel_rfl
theorem fact1012_24:Tryz.pinned.checked.prog.stopsHeard=true:=by kernel_rfl
theorem fact1012_25:Tryz.pinned.checked.prog.mayEnter=true:=by kernel_rfl
theorem fact1012_26:(Rows.fnBasePutOffRow.lifted == Tryz.pinned.checked.prog.liftsFinal)=true:=by kernel_rfl
theorem fact1012_27:(Tryz.pinned.checked.prog.make == some Rows.fnBasePutOffRow.make)=true:=by kernel_rfl
theorem facts1012:joinedFacts Tryz.pinned.checked.prog 12 Tryz.f12 Rows.fnBasePutOffSpec Rows.fnBasePutOffRow=true:=(an (an (an (an (an (an (an (an (an (an (an (an (an (an (an (an (an (an (an (an (an (an (an (an (an (an (an (an (an (an (an (by kernel_rfl) fact1012_1) fact1012_2) (by kernel_rfl)) (by kernel_rfl)) (by kernel_rfl)) (by kernel_rfl)) (by kernel_rfl)) (by kernel_rfl)) fact1012_9) fact1012_10) fact1012_11) fact1012_12) (by kernel_rfl)) (by kernel_rfl)) (by kernel_rfl)) (by kernel_rfl)) (by kernel_rfl)) (by kernel_rfl)) (by kernel_rfl)) (by kernel_rfl)) (by kernel_rfl)) fact1012_22) (by kernel_rfl)) fact1012_24) fact1012_25) fact1012_26) fact1012_27) (by kernel_rfl)) (by kernel_rfl)) (by kernel_rfl)) (by kernel_rfl))
theorem called1012:Tryz.pinned.checked.prog.funcNamed Rows.fnBasePutOffRow.func=some 12:=by kernel_rfl
theorem inst1012:Tryz.f12.isInstance Tryz.pinned.checked.prog Rows.fnBasePutOffRow.origin Rows.fnBasePutOffRow.targs:=of_decide_eq_true (by kernel_rfl)
theorem goes1012:false=Rows.fnBasePutOffRow.goesBy Tryz.pinned.checked.prog:=by kernel_rfl
theorem looks1012:true=Tryz.pinned.checked.prog.looks []:=by kernel_rfl
theorem said1012:Rows.FnBasePutOffSaid:=
  OpenClaim.holds_of_wide 12 Tryz.f12 rfl rfl rfl rfl rfl rfl rfl ⟨rfl,rfl,rfl,rfl,rfl⟩ rfl rfl rfl rfl rfl called1012 Tryz.func12 facts1012
    inst1012 (by unfold Func.isWrapper;first | (rw [if_pos (by decide +kernel)];kernel_rfl) | (rw [if_neg (by decide +kernel)];exact ⟨rfl,rfl⟩))
    (fun os started H enc _=>lifted1012 os started H enc)
theorem plain1012 (f : FuncId)(fn : Func)(hf : Tryz.pinned.checked.prog.funcNamed "loop.example/custumal/laws.FnBasePutOff" = some f)(hfn : Tryz.pinned.checked.prog.funcs[f]? = some fn) :
    true=Tryz.pinned.checked.prog.looks []∧∀ (j:Nat) t,fn.params[j]? = some t→Tryz.pinned.checked.prog.wantsStandIn t=false:=by
  obtain rfl : f = 12 := Option.some.inj ((show Tryz.prog.funcNamed "loop.example/custumal/laws.FnBasePutOff" = some 12 by kernel_rfl).symm.trans hf) |>.symm
  obtain rfl:fn=Tryz.f12:=(Option.some.inj (Tryz.func12.symm.trans hfn)).symm
  refine ⟨looks1012,fun j t ht=>?_⟩
  rw [Tryz.params12] at ht
  obtain rfl:t=22:=by simpa using Array.mem_of_getElem? ht
  exact (show Tryz.prog.wantsStandIn 22=false by kernel_rfl)
theorem fnBasePutOff_card:Rows.FnBasePutOffCardSaid:=
  Claim7.holds_tied_plain_at .later [] _ _ _ _ said1012 (fun _ h=>by cases h) (by kernel_rfl) (fun _ h=>by cases h) fnBasePutOff_row_tie rfl ⟨rfl,rfl⟩ (by kernel_rfl) rfl plain1012 goes1012
#print axioms fnBasePutOff_card
end Go.Proofs.YtdpigighgmipfaaGreatDoor
