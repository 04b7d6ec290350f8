/- the law FnBaseFree holds of the program at every list of bytes Conditions: none; the row lists the five package-level variables of strconv and math/bits, and the card ties them to the program's text. -/
import Derived.Test.YtdpigighgmipfaaGreatDoorQ1011R2
import Derived.Test.YtdpigighgmipfaaGreatDoorQ1011L1011
set_option linter.all false
namespace Go.Proofs.YtdpigighgmipfaaGreatDoor
open Go Go.HL Go.ChangeShapes Go.WideShapes Go.ChangeAt Go.RowKit
set_option maxRecDepth 100000 in
theorem lifted1011 (os:Os)(started:os.Started)(H:Type)(enc:TypeId×Value→H) :
    ReturnsInHanded {} Tryz.checked os 11 .any (fun w args=>(Rows.fnBaseFreeSpec.pre enc Tryz.prog Tryz.f11 Rows.fnBaseFreeRow.domain false w args∧laidMetH Tryz.prog laidL w)∧sizedMet enc Tryz.prog Tryz.f11 (OpenSpec.ofChange Rows.fnBaseFreeSpec) false w args)
      (Rows.fnBaseFreeSpec.post enc Tryz.prog Tryz.f11 false true false false):=by
  refine returnsInHanded_of_change_and (C:=Tryz.checked) (X:=fun w _=>laidMetH Tryz.prog laidL w) (fun _ _ _ hh h=>h.of_heap hh) own started (by kernel_rfl) Tryz.func11
    (ChangeSpec.witness_shaped (enc:=enc) (C:=Tryz.checked) (os:=os) (X:=fun w _=>laidMetH Tryz.prog laidL w) false (World.laidAll Tryz.prog os laidL) #[.slice none 0 0] 8 (World.laidAll_os _ _ _)
      (World.shaped_of_ZipB (by kernel_rfl) (by kernel_rfl)) (by kernel_rfl) (by kernel_rfl) (by kernel_rfl)
      (by rw [MakeChecks.laidMetH_plain _ _ _ (by kernel_rfl)];exact laidMet_laidAll _ (by kernel_rfl) (by kernel_rfl))) ?_
  intro W base args ds gs before hval hW hcnd hz hL _
  rw [MakeChecks.laidMetH_plain _ _ _ (by kernel_rfl)] at hL
  exact law_contract rfl (fun _=>rfl) Tryz.params11 rfl (c1011 10000000) (law1011 (by unfold BIG;omega)) hval hW hz hL
theorem an {a b:Bool}(h:a=true)(k:b=true):(a&&b)=true:=by rw [h,k];rfl
theorem fact1011_1:laidOutB Tryz.pinned.checked.prog=true:=by kernel_rfl
theorem fact1011_2:mapsRowed Tryz.pinned.checked.prog=true:=by kernel_rfl
theorem fact1011_9:(Rows.fnBaseFreeRow.inPlace == Tryz.pinned.checked.prog.inPlace 11)=true:=by kernel_rfl
theorem fact1011_10:(Rows.fnBaseFreeRow.unfollowed == Tryz.pinned.checked.prog.unfollowed 11)=true:=by kernel_rfl
theorem fact1011_11:(Rows.fnBaseFreeRow.recurses == Tryz.pinned.checked.prog.recurses 11)=true:=by kernel_rfl
theorem fact1011_12:(Rows.fnBaseFreeRow.named == Tryz.pinned.checked.prog.varsNamed 11)=true:=by kernel_rfl
theorem fact1011_22:(Rows.fnBaseFreeRow.plainKeys == Tryz.pinned.checked.prog.plainKeys)=true:=by kernel_rfl
theorem fact1011_24:Tryz.pinned.checked.prog.stopsHeard=true:=by kernel_rfl
theorem fact1011_25:Tryz.pinned.checked.prog.mayEnter=true:=by kernel_rfl
theorem fact1011_26:(Rows.fnBaseFreeRow.lifted == Tryz.pinned.checked.prog.liftsFinal)=true:=by kernel_rfl
theorem fact1011_27:(Tryz.pinned.checked.prog.make == some Rows.fnBaseFreeRow.make)=true:=by kernel_rfl
theorem facts1011:joinedFacts Tryz.pinned.checked.prog 11 Tryz.f11 Rows.fnBaseFreeSpec Rows.fnBaseFreeRow=true:=(an (an (an (an (an (an (an (an (an (an (an (an (an (an (an (an (an (an (an (an (an (an (an (an (an (an (an (an (an (an (an (by kernel_rfl) fact1011_1) fact1011_2) (by kernel_rfl)) (by kernel_rfl)) (by kernel_rfl)) (by kernel_rfl)) (by kernel_rfl)) (by kernel_rfl)) fact1011_9) fact1011_10) fact1011_11) fact1011_12) (by kernel_rfl)) (by kernel_rfl)) (by kernel_rfl)) (by kernel_rfl)) (by kernel_rfl)) (by kernel_rfl)) (by kernel_rfl)) (by kernel_rfl)) (by kernel_rfl)) fact1011_22) (by kernel_rfl)) fact1011_24) fact1011_25) fact1011_26) fact1011_27) (by kernel_rfl)) (by kernel_rfl)) (by kernel_rfl)) (by kernel_rfl))
theorem called1011:Tryz.pinned.checked.prog.funcNamed Rows.fnBaseFreeRow.func=some 11:=by kernel_rfl
theorem inst1011:Tryz.f11.isInstance Tryz.pinned.checked.prog Rows.fnBaseFreeRow.origin Rows.fnBaseFreeRow.targs:=of_decide_eq_true (by kernel_rfl)
theorem goes1011:false=Rows.fnBaseFreeRow.goesBy Tryz.pinned.checked.prog:=by kernel_rfl
theorem looks1011:true=Tryz.pinned.checked.prog.looks []:=by kernel_rfl
theorem said1011:Rows.FnBaseFreeSaid:=
  OpenClaim.holds_of_wide 11 Tryz.f11 rfl rfl rfl rfl rfl rfl rfl ⟨rfl,rfl,rfl,rfl,rfl⟩ rfl rfl rfl rfl rfl called1011 Tryz.func11 facts1011
    inst1011 (by unfold Func.isWrapper;first | (rw [if_pos (by decide +kernel)];kernel_rfl) | (rw [if_neg (by decide +kernel)];exact ⟨rfl,rfl⟩))
    (fun os started H enc _=>lifted1011 os started H enc)
theorem plain1011 (f : FuncId)(fn : Func)(hf : Tryz.pinned.checked.prog.funcNamed "loop.example/custumal/laws.FnBaseFree" = some f)(hfn : Tryz.pinned.checked.prog.funcs[f]? = some fn) :
    true=Tryz.pinned.checked.prog.looks []∧∀ (j:Nat) t,fn.params[j]? = some t→Tryz.pinned.checked.prog.wantsStandIn t=false:=by
  obtain rfl : f = 11 := Option.some.inj ((show Tryz.prog.funcNamed "loop.example/custumal/laws.FnBaseFree" = some 11 by kernel_rfl).symm.trans hf) |>.symm
  obtain rfl:fn=Tryz.f11:=(Option.some.inj (Tryz.func11.symm.trans hfn)).symm
  refine ⟨looks1011,fun j t ht=>?_⟩
  rw [Tryz.params11] at ht
  obtain rfl:t=22:=by simpa using Array.mem_of_getElem? ht
  exact (show Tryz.prog.wantsStandIn 22=false by kernel_rfl)
theorem fnBaseFree_card:Rows.FnBaseFreeCardSaid:=
  Claim7.holds_tied_plain_at .later [] _ _ _ _ said1011 (fun _ h=>by cases h) (by kernel_rfl) (fun _ h=>by cases h) fnBaseFree_row_tie rfl ⟨rfl,rfl⟩ (by kernel_rfl) rfl plain1011 goes1011
#print axioms fnBaseFree_card
end Go.Proofs.YtdpigighgmipfaaGreatDoor
