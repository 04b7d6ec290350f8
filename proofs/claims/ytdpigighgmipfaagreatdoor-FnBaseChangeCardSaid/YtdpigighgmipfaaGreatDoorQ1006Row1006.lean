/- A change of a table in a base turns that table alone, and by what a table's change does. Conditions: none; the row lists the five package-level variables of strconv and math/bits, and the card ties them to the program's text. -/
import Derived.Test.YtdpigighgmipfaaGreatDoorQ1006R2
import Derived.Test.YtdpigighgmipfaaGreatDoorQ1006L1006
set_option linter.all false
namespace Go.Proofs.YtdpigighgmipfaaGreatDoor
open Go Go.HL Go.ChangeShapes Go.WideShapes Go.ChangeAt Go.RowKit
set_option maxRecDepth 100000 in
theorem lifted1006 (os:Os)(started:os.Started)(H:Type)(enc:TypeId×Value→H) :
    ReturnsInHanded {} Tryz.checked os 6 .any (fun w args=>(Rows.fnBaseChangeSpec.pre enc Tryz.prog Tryz.f6 Rows.fnBaseChangeRow.domain false w args∧laidMetH Tryz.prog laidL w)∧sizedMet enc Tryz.prog Tryz.f6 (OpenSpec.ofChange Rows.fnBaseChangeSpec) false w args)
      (Rows.fnBaseChangeSpec.post enc Tryz.prog Tryz.f6 false true false false):=by
  refine returnsInHanded_of_change_and (C:=Tryz.checked) (X:=fun w _=>laidMetH Tryz.prog laidL w) (fun _ _ _ hh h=>h.of_heap hh) own started (by kernel_rfl) Tryz.func6
    (ChangeSpec.witness_shaped (enc:=enc) (C:=Tryz.checked) (os:=os) (X:=fun w _=>laidMetH Tryz.prog laidL w) false (World.laidAll Tryz.prog os laidL) #[.slice none 0 0] 8 (World.laidAll_os _ _ _)
      (World.shaped_of_ZipB (by kernel_rfl) (by kernel_rfl)) (by kernel_rfl) (by kernel_rfl) (by kernel_rfl)
      (by rw [MakeChecks.laidMetH_plain _ _ _ (by kernel_rfl)];exact laidMet_laidAll _ (by kernel_rfl) (by kernel_rfl))) ?_
  intro W base args ds gs before hval hW hcnd hz hL _
  rw [MakeChecks.laidMetH_plain _ _ _ (by kernel_rfl)] at hL
  exact law_contract rfl (fun _=>rfl) Tryz.params6 rfl (c1006 10000000) (law1006 (by unfold BIG;omega)) hval hW hz hL
theorem an {a b:Bool}(h:a=true)(k:b=true):(a&&b)=true:=by rw [h,k];rfl
theorem fact1006_1:laidOutB Tryz.pinned.checked.prog=true:=by kernel_rfl
theorem fact1006_2:mapsRowed Tryz.pinned.checked.prog=true:=by kernel_rfl
theorem fact1006_9:(Rows.fnBaseChangeRow.inPlace == Tryz.pinned.checked.prog.inPlace 6)=true:=by kernel_rfl
theorem fact1006_10:(Rows.fnBaseChangeRow.unfollowed == Tryz.pinned.checked.prog.unfollowed 6)=true:=by kernel_rfl
theorem fact1006_11:(Rows.fnBaseChangeRow.recurses == Tryz.pinned.checked.prog.recurses 6)=true:=by kernel_rfl
theorem fact1006_12:(Rows.fnBaseChangeRow.named == Tryz.pinned.checked.prog.varsNamed 6)=true:=by kernel_rfl
theorem fact1006_22:(Rows.fnBaseChangeRow.plainKeys == Tryz.pinned.checked.prog.plainKeys)=true:=by kernel_rfl
theorem fact1006_24:Tryz.pinned.checked.prog.stopsHeard=true:=by kernel_rfl
theorem fact1006_25:Tryz.pinned.checked.prog.mayEnter=true:=by kernel_rfl
theorem fact1006_26:(Rows.fnBaseChangeRow.lifted == Tryz.pinned.checked.prog.liftsFinal)=true:=by kernel_rfl
theorem fact1006_27:(Tryz.pinned.checked.prog.make == some Rows.fnBaseChangeRow.make)=true:=by kernel_rfl
theorem facts1006:joinedFacts Tryz.pinned.checked.prog 6 Tryz.f6 Rows.fnBaseChangeSpec Rows.fnBaseChangeRow=true:=(an (an (an (an (an (an (an (an (an (an (an (an (an (an (an (an (an (an (an (an (an (an (an (an (an (an (an (an (an (an (an (by kernel_rfl) fact1006_1) fact1006_2) (by kernel_rfl)) (by kernel_rfl)) (by kernel_rfl)) (by kernel_rfl)) (by kernel_rfl)) (by kernel_rfl)) fact1006_9) fact1006_10) fact1006_11) fact1006_12) (by kernel_rfl)) (by kernel_rfl)) (by kernel_rfl)) (by kernel_rfl)) (by kernel_rfl)) (by kernel_rfl)) (by kernel_rfl)) (by kernel_rfl)) (by kernel_rfl)) fact1006_22) (by kernel_rfl)) fact1006_24) fact1006_25) fact1006_26) fact1006_27) (by kernel_rfl)) (by kernel_rfl)) (by kernel_rfl)) (by kernel_rfl))
theorem called1006:Tryz.pinned.checked.prog.funcNamed Rows.fnBaseChangeRow.func=some 6:=by kernel_rfl
theorem inst1006:Tryz.f6.isInstance Tryz.pinned.checked.prog Rows.fnBaseChangeRow.origin Rows.fnBaseChangeRow.targs:=of_decide_eq_true (by kernel_rfl)
theorem goes1006:false=Rows.fnBaseChangeRow.goesBy Tryz.pinned.checked.prog:=by kernel_rfl
theorem looks1006:true=Tryz.pinned.checked.prog.looks []:=by kernel_rfl
theorem said1006:Rows.FnBaseChangeSaid:=
  OpenClaim.holds_of_wide 6 Tryz.f6 rfl rfl rfl rfl rfl rfl rfl ⟨rfl,rfl,rfl,rfl,rfl⟩ rfl rfl rfl rfl rfl called1006 Tryz.func6 facts1006
    inst1006 (by unfold Func.isWrapper;first | (rw [if_pos (by decide +kernel)];kernel_rfl) | (rw [if_neg (by decide +kernel)];exact ⟨rfl,rfl⟩))
    (fun os started H enc _=>lifted1006 os started H enc)
theorem plain1006 (f : FuncId)(fn : Func)(hf : Tryz.pinned.checked.prog.funcNamed "loop.example/custumal/laws.FnBaseChange" = some f)(hfn : Tryz.pinned.checked.prog.funcs[f]? = some fn) :
    true=Tryz.pinned.checked.prog.looks []∧∀ (j:Nat) t,fn.params[j]? = some t→Tryz.pinned.checked.prog.wantsStandIn t=false:=by
  obtain rfl : f = 6 := Option.some.inj ((show Tryz.prog.funcNamed "loop.example/custumal/laws.FnBaseChange" = some 6 by kernel_rfl).symm.trans hf) |>.symm
  obtain rfl:fn=Tryz.f6:=(Option.some.inj (Tryz.func6.symm.trans hfn)).symm
  refine ⟨looks1006,fun j t ht=>?_⟩
  rw [Tryz.params6] at ht
  obtain rfl:t=22:=by simpa using Array.mem_of_getElem? ht
  exact (show Tryz.prog.wantsStandIn 22=false by kernel_rfl)
theorem fnBaseChange_card:Rows.FnBaseChangeCardSaid:=
  Claim7.holds_tied_plain_at .later [] _ _ _ _ said1006 (fun _ h=>by cases h) (by kernel_rfl) (fun _ h=>by cases h) fnBaseChange_row_tie rfl ⟨rfl,rfl⟩ (by kernel_rfl) rfl plain1006 goes1006
#print axioms fnBaseChange_card
end Go.Proofs.YtdpigighgmipfaaGreatDoor
