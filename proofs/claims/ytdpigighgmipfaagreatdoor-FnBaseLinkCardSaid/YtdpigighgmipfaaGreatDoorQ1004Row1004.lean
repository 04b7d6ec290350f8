/- A link that is put in is there, and turns nothing else. Conditions: none; the row lists the five package-level variables of strconv and math/bits, and the card ties them to the program's text. -/
import Derived.Test.YtdpigighgmipfaaGreatDoorQ1004R2
import Derived.Test.YtdpigighgmipfaaGreatDoorQ1004L1004
set_option linter.all false
namespace Go.Proofs.YtdpigighgmipfaaGreatDoor
open Go Go.HL Go.ChangeShapes Go.WideShapes Go.ChangeAt Go.RowKit
set_option maxRecDepth 100000 in
theorem lifted1004 (os:Os) (started:os.Started) (H:Type) (enc:TypeId×Value→H) :
    ReturnsInHanded {} Tryz.checked os 4 .any (fun w args=>(Rows.fnBaseLinkSpec.pre enc Tryz.prog Tryz.f4 Rows.fnBaseLinkRow.domain false w args∧laidMetH Tryz.prog laidL w)∧sizedMet enc Tryz.prog Tryz.f4 (OpenSpec.ofChange Rows.fnBaseLinkSpec) false w args)
      (Rows.fnBaseLinkSpec.post enc Tryz.prog Tryz.f4 false true false false):=by
  refine returnsInHanded_of_change_and (C:=Tryz.checked) (X:=fun w _=>laidMetH Tryz.prog laidL w) (fun _ _ _ hh h=>h.of_heap hh) own started (by kernel_rfl) Tryz.func4
    (ChangeSpec.witness_shaped (enc:=enc) (C:=Tryz.checked) (os:=os) (X:=fun w _=>laidMetH Tryz.prog laidL w) false (World.laidAll Tryz.prog os laidL) #[.slice none 0 0] 8 (World.laidAll_os _ _ _)
      (World.shaped_of_ZipB (by kernel_rfl) (by kernel_rfl)) (by kernel_rfl) (by kernel_rfl) (by kernel_rfl)
      (by rw [MakeChecks.laidMetH_plain _ _ _ (by kernel_rfl)];exact laidMet_laidAll _ (by kernel_rfl) (by kernel_rfl))) ?_
  intro W base args ds gs before hval hW hcnd hz hL _
  rw [MakeChecks.laidMetH_plain _ _ _ (by kernel_rfl)] at hL
  exact law_contract rfl (fun _=>rfl) Tryz.params4 rfl (c1004 10000000) (law1004 (by unfold BIG;omega)) hval hW hz hL
theorem an {a b:Bool} (h:a=true) (k:b=true):(a&&b)=true:=by rw [h,k];rfl
theorem fact1004_1:laidOutB Tryz.pinned.checked.prog=true:=by kernel_rfl
theorem fact1004_2:mapsRowed Tryz.pinned.checked.prog=true:=by kernel_rfl
theorem fact1004_9:(Rows.fnBaseLinkRow.inPlace == Tryz.pinned.checked.prog.inPlace 4)=true:=by kernel_rfl
theorem fact1004_10:(Rows.fnBaseLinkRow.unfollowed == Tryz.pinned.checked.prog.unfollowed 4)=true:=by kernel_rfl
theorem fact1004_11:(Rows.fnBaseLinkRow.recurses == Tryz.pinned.checked.prog.recurses 4)=true:=by kernel_rfl
theorem fact1004_12:(Rows.fnBaseLinkRow.named == Tryz.pinned.checked.prog.varsNamed 4)=true:=by kernel_rfl
theorem fact1004_22:(Rows.fnBaseLinkRow.plainKeys == Tryz.pinned.checked.prog.plainKeys)=true:=by kernel_rfl
theorem fact1004_24:Tryz.pinned.checked.prog.stopsHeard=true:=by kernel_rfl
theorem fact1004_25:Tryz.pinned.checked.prog.mayEnter=true:=by kernel_rfl
theorem fact1004_26:(Rows.fnBaseLinkRow.lifted == Tryz.pinned.checked.prog.liftsFinal)=true:=by kernel_rfl
theorem fact1004_27:(Tryz.pinned.checked.prog.make == some Rows.fnBaseLinkRow.make)=true:=by kernel_rfl
theorem facts1004:joinedFacts Tryz.pinned.checked.prog 4 Tryz.f4 Rows.fnBaseLinkSpec Rows.fnBaseLinkRow=true:=(an (an (an (an (an (an (an (an (an (an (an (an (an (an (an (an (an (an (an (an (an (an (an (an (an (an (an (an (an (an (an (by kernel_rfl) fact1004_1) fact1004_2) (by kernel_rfl)) (by kernel_rfl)) (by kernel_rfl)) (by kernel_rfl)) (by kernel_rfl)) (by kernel_rfl)) fact1004_9) fact1004_10) fact1004_11) fact1004_12) (by kernel_rfl)) (by kernel_rfl)) (by kernel_rfl)) (by kernel_rfl)) (by kernel_rfl)) (by kernel_rfl)) (by kernel_rfl)) (by kernel_rfl)) (by kernel_rfl)) fact1004_22) (by kernel_rfl)) fact1004_24) fact1004_25) fact1004_26) fact1004_27) (by kernel_rfl)) (by kernel_rfl)) (by kernel_rfl)) (by kernel_rfl))
theorem called1004:Tryz.pinned.checked.prog.funcNamed Rows.fnBaseLinkRow.func=some 4:=by kernel_rfl
theorem inst1004:Tryz.f4.isInstance Tryz.pinned.checked.prog Rows.fnBaseLinkRow.origin Rows.fnBaseLinkRow.targs:=of_decide_eq_true (by kernel_rfl)
theorem goes1004:false=Rows.fnBaseLinkRow.goesBy Tryz.pinned.checked.prog:=by kernel_rfl
theorem looks1004:true=Tryz.pinned.checked.prog.looks []:=by kernel_rfl
theorem said1004:Rows.FnBaseLinkSaid:=
  OpenClaim.holds_of_wide 4 Tryz.f4 rfl rfl rfl rfl rfl rfl rfl ⟨rfl,rfl,rfl,rfl,rfl⟩ rfl rfl rfl rfl rfl called1004 Tryz.func4 facts1004
    inst1004 (by unfold Func.isWrapper;first | (rw [if_pos (by decide +kernel)];kernel_rfl) | (rw [if_neg (by decide +kernel)];exact ⟨rfl,rfl⟩))
    (fun os started H enc _=>lifted1004 os started H enc)
theorem plain1004 (f : FuncId) (fn : Func) (hf : Tryz.pinned.checked.prog.funcNamed "loop.example/custumal/laws.FnBaseLink" = some f) (hfn : Tryz.pinned.checked.prog.funcs[f]? = some fn) :
    true=Tryz.pinned.checked.prog.looks []∧∀ (j:Nat) t,fn.params[j]? = some t→Tryz.pinned.checked.prog.wantsStandIn t=false:=by
  obtain rfl : f = 4 := Option.some.inj ((show Tryz.prog.funcNamed "loop.example/custumal/laws.FnBaseLink" = some 4 by kernel_rfl).symm.trans hf) |>.symm
  obtain rfl:fn=Tryz.f4:=(Option.some.inj (Tryz.func4.symm.trans hfn)).symm
  refine ⟨looks1004,fun j t ht=>?_⟩
  rw [Tryz.params4] at ht
  obtain rfl:t=22:=by simpa using Array.mem_of_getElem? ht
  exact (show Tryz.prog.wantsStandIn 22=false by kernel_rfl)
theorem fnBaseLink_card:Rows.FnBaseLinkCardSaid:=
  Claim7.holds_tied_plain_at .later [] _ _ _ _ said1004 (fun _ h=>by cases h) (by kernel_rfl) (fun _ h=>by cases h) fnBaseLink_row_tie rfl ⟨rfl,rfl⟩ (by kernel_rfl) rfl plain1004 goes1004
#print axioms fnBaseLink_card
end Go.Proofs.YtdpigighgmipfaaGreatDoor
