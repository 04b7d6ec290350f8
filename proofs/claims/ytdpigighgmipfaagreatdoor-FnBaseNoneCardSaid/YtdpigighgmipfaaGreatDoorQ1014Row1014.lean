/- the law FnBaseNone holds of the program at every list of bytes Conditions: none; the row lists the five package-level variables of strconv and math/bits, and the card ties them to the program's text. -/
import Derived.Test.YtdpigighgmipfaaGreatDoorQ1014R2
import Derived.Test.YtdpigighgmipfaaGreatDoorQ1014L1014
set_option linter.all false
namespace Go.Proofs.YtdpigighgmipfaaGreatDoor
open Go Go.HL Go.ChangeShapes Go.WideShapes Go.ChangeAt Go.RowKit
set_option maxRecDepth 100000 in
theorem lifted1014 (os:Os)(started:os.Started)(H:Type)(enc:TypeId×Value→H) :
    ReturnsInHanded {} Tryz.checked os 14 .any (fun w args=>(Rows.fnBaseNoneSpec.pre enc Tryz.prog Tryz.f14 Rows.fnBaseNoneRow.domain false w args∧laidMetH Tryz.prog laidL w)∧sizedMet enc Tryz.prog Tryz.f14 (OpenSpec.ofChange Rows.fnBaseNoneSpec) false w args)
      (Rows.fnBaseNoneSpec.post enc Tryz.prog Tryz.f14 false true false false):=by
  refine returnsInHanded_of_change_and (C:=Tryz.checked) (X:=fun w _=>laidMetH Tryz.prog laidL w) (fun _ _ _ hh h=>h.of_heap hh) own started (by kernel_rfl) Tryz.func14
    (ChangeSpec.witness_shaped (enc:=enc) (C:=Tryz.checked) (os:=os) (X:=fun w _=>laidMetH Tryz.prog laidL w) false (World.laidAll Tryz.prog os laidL) #[.slice none 0 0] 8 (World.laidAll_os _ _ _)
      (World.shaped_of_ZipB (by kernel_rfl) (by kernel_rfl)) (by kernel_rfl) (by kernel_rfl) (by kernel_rfl)
      (by rw [MakeChecks.laidMetH_plain _ _ _ (by kernel_rfl)];exact laidMet_laidAll _ (by kernel_rfl) (by kernel_rfl))) ?_
  intro W base args ds gs before hval hW hcnd hz hL _
  rw [MakeChecks.laidMetH_plain _ _ _ (by kernel_rfl)] at hL
  exact law_contract rfl (fun _=>rfl) Tryz.params14 rfl (c1014 10000000) (law1014 (by unfold BIG;omega)) hval hW hz hL
theorem an {a b:Bool}(h:a=true)(k:b=true):(a&&b)=true:=by rw [h,k];rfl
theorem fact1014_1:laidOutB Tryz.pinned.checked.prog=true:=by kernel_rfl
theorem fact1014_2:mapsRowed Tryz.pinned.checked.prog=true:=by kernel_rfl
theorem fact1014_9:(Rows.fnBaseNoneRow.inPlace == Tryz.pinned.checked.prog.inPlace 14)=true:=by kernel_rfl
theorem fact1014_10:(Rows.fnBaseNoneRow.unfollowed == Tryz.pinned.checked.prog.unfollowed 14)=true:=by kernel_rfl
theorem fact1014_11:(Rows.fnBaseNoneRow.recurses == Tryz.pinned.checked.prog.recurses 14)=true:=by kernel_rfl
theorem fact1014_12:(Rows.fnBaseNoneRow.named == Tryz.pinned.checked.prog.varsNamed 14)=true:=by kernel_rfl
theorem fact1014_22:(Rows.fnBaseNoneRow.plainKeys == Tryz.pinned.checked.prog.plainKeys)=true:=by kernel_rfl
theorem fact1014_24:Tryz.pinned.checked.prog.stopsHeard=true:=by kernel_rfl
theorem fact1014_25:Tryz.pinned.checked.prog.mayEnter=true:=by kernel_rfl
theorem fact1014_26:(Rows.fnBaseNoneRow.lifted == Tryz.pinned.checked.prog.liftsFinal)=true:=by kernel_rfl
theorem fact1014_27:(Tryz.pinned.checked.prog.make == some Rows.fnBaseNoneRow.make)=true:=by kernel_rfl
theorem facts1014:joinedFacts Tryz.pinned.checked.prog 14 Tryz.f14 Rows.fnBaseNoneSpec Rows.fnBaseNoneRow=true:=(an (an (an (an (an (an (an (an (an (an (an (an (an (an (an (an (an (an (an (an (an (an (an (an (an (an (an (an (an (an (an (by kernel_rfl) fact1014_1) fact1014_2) (by kernel_rfl)) (by kernel_rfl)) (by kernel_rfl)) (by kernel_rfl)) (by kernel_rfl)) (by kernel_rfl)) fact1014_9) fact1014_10) fact1014_11) fact1014_12) (by kernel_rfl)) (by kernel_rfl)) (by kernel_rfl)) (by kernel_rfl)) (by kernel_rfl)) (by kernel_rfl)) (by kernel_rfl)) (by kernel_rfl)) (by kernel_rfl)) fact1014_22) (by kernel_rfl)) fact1014_24) fact1014_25) fact1014_26) fact1014_27) (by kernel_rfl)) (by kernel_rfl)) (by kernel_rfl)) (by kernel_rfl))
theorem called1014:Tryz.pinned.checked.prog.funcNamed Rows.fnBaseNoneRow.func=some 14:=by kernel_rfl
theorem inst1014:Tryz.f14.isInstance Tryz.pinned.checked.prog Rows.fnBaseNoneRow.origin Rows.fnBaseNoneRow.targs:=of_decide_eq_true (by kernel_rfl)
theorem goes1014:false=Rows.fnBaseNoneRow.goesBy Tryz.pinned.checked.prog:=by kernel_rfl
theorem looks1014:true=Tryz.pinned.checked.prog.looks []:=by kernel_rfl
theorem said1014:Rows.FnBaseNoneSaid:=
  OpenClaim.holds_of_wide 14 Tryz.f14 rfl rfl rfl rfl rfl rfl rfl ⟨rfl,rfl,rfl,rfl,rfl⟩ rfl rfl rfl rfl rfl called1014 Tryz.func14 facts1014
    inst1014 (by unfold Func.isWrapper;first | (rw [if_pos (by decide +kernel)];kernel_rfl) | (rw [if_neg (by decide +kernel)];exact ⟨rfl,rfl⟩))
    (fun os started H enc _=>lifted1014 os started H enc)
theorem plain1014 (f : FuncId)(fn : Func)(hf : Tryz.pinned.checked.prog.funcNamed "loop.example/custumal/laws.FnBaseNone" = some f)(hfn : Tryz.pinned.checked.prog.funcs[f]? = some fn) :
    true=Tryz.pinned.checked.prog.looks []∧∀ (j:Nat) t,fn.params[j]? = some t→Tryz.pinned.checked.prog.wantsStandIn t=false:=by
  obtain rfl : f = 14 := Option.some.inj ((show Tryz.prog.funcNamed "loop.example/custumal/laws.FnBaseNone" = some 14 by kernel_rfl).symm.trans hf) |>.symm
  obtain rfl:fn=Tryz.f14:=(Option.some.inj (Tryz.func14.symm.trans hfn)).symm
  refine ⟨looks1014,fun j t ht=>?_⟩
  rw [Tryz.params14] at ht
  obtain rfl:t=22:=by simpa using Array.mem_of_getElem? ht
  exact (show Tryz.prog.wantsStandIn 22=false by kernel_rfl)
theorem fnBaseNone_card:Rows.FnBaseNoneCardSaid:=
  Claim7.holds_tied_plain_at .later [] _ _ _ _ said1014 (fun _ h=>by cases h) (by kernel_rfl) (fun _ h=>by cases h) fnBaseNone_row_tie rfl ⟨rfl,rfl⟩ (by kernel_rfl) rfl plain1014 goes1014
#print axioms fnBaseNone_card
end Go.Proofs.YtdpigighgmipfaaGreatDoor
