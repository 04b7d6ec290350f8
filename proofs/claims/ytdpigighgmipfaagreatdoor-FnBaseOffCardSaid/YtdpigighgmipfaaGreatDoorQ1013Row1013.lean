/- the law FnBaseOff holds of the program at every list of bytes Conditions: none; the row lists the five package-level variables of strconv and math/bits, and the card ties them to the program's text. -/
import Derived.Test.YtdpigighgmipfaaGreatDoorQ1013R2
import Derived.Test.YtdpigighgmipfaaGreatDoorQ1013L1013
set_option linter.all false
namespace Go.Proofs.YtdpigighgmipfaaGreatDoor
open Go Go.HL Go.ChangeShapes Go.WideShapes Go.ChangeAt Go.RowKit
set_option maxRecDepth 100000 in
theorem lifted1013 (os:Os)(started:os.Started)(H:Type)(enc:TypeId×Value→H) :
    ReturnsInHanded {} Tryz.checked os 13 .any (fun w args=>(Rows.fnBaseOffSpec.pre enc Tryz.prog Tryz.f13 Rows.fnBaseOffRow.domain false w args∧laidMetH Tryz.prog laidL w)∧sizedMet enc Tryz.prog Tryz.f13 (OpenSpec.ofChange Rows.fnBaseOffSpec) false w args)
      (Rows.fnBaseOffSpec.post enc Tryz.prog Tryz.f13 false true false false):=by
  refine returnsInHanded_of_change_and (C:=Tryz.checked) (X:=fun w _=>laidMetH Tryz.prog laidL w) (fun _ _ _ hh h=>h.of_heap hh) own started (by kernel_rfl) Tryz.func13
    (ChangeSpec.witness_shaped (enc:=enc) (C:=Tryz.checked) (os:=os) (X:=fun w _=>laidMetH Tryz.prog laidL w) false (World.laidAll Tryz.prog os laidL) #[.slice none 0 0] 8 (World.laidAll_os _ _ _)
      (World.shaped_of_ZipB (by kernel_rfl) (by kernel_rfl)) (by kernel_rfl) (by kernel_rfl) (by kernel_rfl)
      (by rw [MakeChecks.laidMetH_plain _ _ _ (by kernel_rfl)];exact laidMet_laidAll _ (by kernel_rfl) (by kernel_rfl))) ?_
  intro W base args ds gs before hval hW hcnd hz hL _
  rw [MakeChecks.laidMetH_plain _ _ _ (by kernel_rfl)] at hL
  exact law_contract rfl (fun _=>rfl) Tryz.params13 rfl (c1013 10000000) (law1013 (by unfold BIG;omega)) hval hW hz hL
theorem an {a b:Bool}(h:a=true)(k:b=true):(a&&b)=true:=by rw [h,k];rfl
theorem fact1013_1:laidOutB Tryz.pinned.checked.prog=true:=by kernel_rfl
theorem fact1013_2:mapsRowed Tryz.pinned.checked.prog=true:=by kernel_rfl
theorem fact1013_9:(Rows.fnBaseOffRow.inPlace == Tryz.pinned.checked.prog.inPlace 13)=true:=by kernel_rfl
theorem fact1013_10:(Rows.fnBaseOffRow.unfollowed == Tryz.pinned.checked.prog.unfollowed 13)=true:=by kernel_rfl
theorem fact1013_11:(Rows.fnBaseOffRow.recurses == Tryz.pinned.checked.prog.recurses 13)=true:=by kernel_rfl
theorem fact1013_12:(Rows.fnBaseOffRow.named == Tryz.pinned.checked.prog.varsNamed 13)=true:=by kernel_rfl
theorem fact1013_22:(Rows.fnBaseOffRow.plainKeys == Tryz.pinned.checked.prog.plainKeys)=true:=by kernel_rfl
theorem fact1013_24:Tryz.pinned.checked.prog.stopsHeard=true:=by kernel_rfl
theorem fact1013_25:Tryz.pinned.checked.prog.mayEnter=true:=by kernel_rfl
theorem fact1013_26:(Rows.fnBaseOffRow.lifted == Tryz.pinned.checked.prog.liftsFinal)=true:=by kernel_rfl
theorem fact1013_27:(Tryz.pinned.checked.prog.make == some Rows.fnBaseOffRow.make)=true:=by kernel_rfl
theorem facts1013:joinedFacts Tryz.pinned.checked.prog 13 Tryz.f13 Rows.fnBaseOffSpec Rows.fnBaseOffRow=true:=(an (an (an (an (an (an (an (an (an (an (an (an (an (an (an (an (an (an (an (an (an (an (an (an (an (an (an (an (an (an (an (by kernel_rfl) fact1013_1) fact1013_2) (by kernel_rfl)) (by kernel_rfl)) (by kernel_rfl)) (by kernel_rfl)) (by kernel_rfl)) (by kernel_rfl)) fact1013_9) fact1013_10) fact1013_11) fact1013_12) (by kernel_rfl)) (by kernel_rfl)) (by kernel_rfl)) (by kernel_rfl)) (by kernel_rfl)) (by kernel_rfl)) (by kernel_rfl)) (by kernel_rfl)) (by kernel_rfl)) fact1013_22) (by kernel_rfl)) fact1013_24) fact1013_25) fact1013_26) fact1013_27) (by kernel_rfl)) (by kernel_rfl)) (by kernel_rfl)) (by kernel_rfl))
theorem called1013:Tryz.pinned.checked.prog.funcNamed Rows.fnBaseOffRow.func=some 13:=by kernel_rfl
theorem inst1013:Tryz.f13.isInstance Tryz.pinned.checked.prog Rows.fnBaseOffRow.origin Rows.fnBaseOffRow.targs:=of_decide_eq_true (by kernel_rfl)
theorem goes1013:false=Rows.fnBaseOffRow.goesBy Tryz.pinned.checked.prog:=by kernel_rfl
theorem looks1013:true=Tryz.pinned.checked.prog.looks []:=by kernel_rfl
theorem said1013:Rows.FnBaseOffSaid:=
  OpenClaim.holds_of_wide 13 Tryz.f13 rfl rfl rfl rfl rfl rfl rfl ⟨rfl,rfl,rfl,rfl,rfl⟩ rfl rfl rfl rfl rfl called1013 Tryz.func13 facts1013
    inst1013 (by unfold Func.isWrapper;first | (rw [if_pos (by decide +kernel)];kernel_rfl) | (rw [if_neg (by decide +kernel)];exact ⟨rfl,rfl⟩))
    (fun os started H enc _=>lifted1013 os started H enc)
theorem plain1013 (f : FuncId)(fn : Func)(hf : Tryz.pinned.checked.prog.funcNamed "loop.example/custumal/laws.FnBaseOff" = some f)(hfn : Tryz.pinned.checked.prog.funcs[f]? = some fn) :
    true=Tryz.pinned.checked.prog.looks []∧∀ (j:Nat) t,fn.params[j]? = some t→Tryz.pinned.checked.prog.wantsStandIn t=false:=by
  obtain rfl : f = 13 := Option.some.inj ((show Tryz.prog.funcNamed "loop.example/custumal/laws.FnBaseOff" = some 13 by kernel_rfl).symm.trans hf) |>.symm
  obtain rfl:fn=Tryz.f13:=(Option.some.inj (Tryz.func13.symm.trans hfn)).symm
  refine ⟨looks1013,fun j t ht=>?_⟩
  rw [Tryz.params13] at ht
  obtain rfl:t=22:=by simpa using Array.mem_of_getElem? ht
  exact (show Tryz.prog.wantsStandIn 22=false by kernel_rfl)
theorem fnBaseOff_card:Rows.FnBaseOffCardSaid:=
  Claim7.holds_tied_plain_at .later [] _ _ _ _ said1013 (fun _ h=>by cases h) (by kernel_rfl) (fun _ h=>by cases h) fnBaseOff_row_tie rfl ⟨rfl,rfl⟩ (by kernel_rfl) rfl plain1013 goes1013
#print axioms fnBaseOff_card
end Go.Proofs.YtdpigighgmipfaaGreatDoor
