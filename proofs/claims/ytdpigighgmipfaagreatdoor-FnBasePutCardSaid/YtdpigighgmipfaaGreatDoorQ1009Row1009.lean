/- the law FnBasePut holds of the program at every list of bytes Conditions: none; the row lists the five package-level variables of strconv and math/bits, and the card ties them to the program's text. -/
import Derived.Test.YtdpigighgmipfaaGreatDoorQ1009R2
import Derived.Test.YtdpigighgmipfaaGreatDoorQ1009L1009
set_option linter.all false
namespace Go.Proofs.YtdpigighgmipfaaGreatDoor
open Go Go.HL Go.ChangeShapes Go.WideShapes Go.ChangeAt Go.RowKit
set_option maxRecDepth 100000 in
theorem lifted1009 (os:Os)(started:os.Started)(H:Type)(enc:TypeId×Value→H) :
    ReturnsInHanded {} Tryz.checked os 9 .any (fun w args=>(Rows.fnBasePutSpec.pre enc Tryz.prog Tryz.f9 Rows.fnBasePutRow.domain false w args∧laidMetH Tryz.prog laidL w)∧sizedMet enc Tryz.prog Tryz.f9 (OpenSpec.ofChange Rows.fnBasePutSpec) false w args)
      (Rows.fnBasePutSpec.post enc Tryz.prog Tryz.f9 false true false false):=by
  refine returnsInHanded_of_change_and (C:=Tryz.checked) (X:=fun w _=>laidMetH Tryz.prog laidL w) (fun _ _ _ hh h=>h.of_heap hh) own started (by kernel_rfl) Tryz.func9
    (ChangeSpec.witness_shaped (enc:=enc) (C:=Tryz.checked) (os:=os) (X:=fun w _=>laidMetH Tryz.prog laidL w) false (World.laidAll Tryz.prog os laidL) #[.slice none 0 0] 8 (World.laidAll_os _ _ _)
      (World.shaped_of_ZipB (by kernel_rfl) (by kernel_rfl)) (by kernel_rfl) (by kernel_rfl) (by kernel_rfl)
      (by rw [MakeChecks.laidMetH_plain _ _ _ (by kernel_rfl)];exact laidMet_laidAll _ (by kernel_rfl) (by kernel_rfl))) ?_
  intro W base args ds gs before hval hW hcnd hz hL _
  rw [MakeChecks.laidMetH_plain _ _ _ (by kernel_rfl)] at hL
  exact law_contract rfl (fun _=>rfl) Tryz.params9 rfl (c1009 10000000) (law1009 (by unfold BIG;omega)) hval hW hz hL
theorem an {a b:Bool}(h:a=true)(k:b=true):(a&&b)=true:=by rw [h,k];rfl
theorem fact1009_1:laidOutB Tryz.pinned.checked.prog=true:=by kernel_rfl
theorem fact1009_2:mapsRowed Tryz.pinned.checked.prog=true:=by kernel_rfl
theorem fact1009_9:(Rows.fnBasePutRow.inPlace == Tryz.pinned.checked.prog.inPlace 9)=true:=by kernel_rfl
theorem fact1009_10:(Rows.fnBasePutRow.unfollowed == Tryz.pinned.checked.prog.unfollowed 9)=true:=by kernel_rfl
theorem fact1009_11:(Rows.fnBasePutRow.recurses == Tryz.pinned.checked.prog.recurses 9)=true:=by kernel_rfl
theorem fact1009_12:(Rows.fnBasePutRow.named == Tryz.pinned.checked.prog.varsNamed 9)=true:=by kernel_rfl
theorem fact1009_22:(Rows.fnBasePutRow.plainKeys == Tryz.pinned.checked.prog.plainKeys)=true:=by kernel_rfl
theorem fact1009_24:Tryz.pinned.checked.prog.stopsHeard=true:=by kernel_rfl
theorem fact1009_25:Tryz.pinned.checked.prog.mayEnter=true:=by kernel_rfl
theorem fact1009_26:(Rows.fnBasePutRow.lifted == Tryz.pinned.checked.prog.liftsFinal)=true:=by kernel_rfl
theorem fact1009_27:(Tryz.pinned.checked.prog.make == some Rows.fnBasePutRow.make)=true:=by kernel_rfl
theorem facts1009:joinedFacts Tryz.pinned.checked.prog 9 Tryz.f9 Rows.fnBasePutSpec Rows.fnBasePutRow=true:=(an (an (an (an (an (an (an (an (an (an (an (an (an (an (an (an (an (an (an (an (an (an (an (an (an (an (an (an (an (an (an (by kernel_rfl) fact1009_1) fact1009_2) (by kernel_rfl)) (by kernel_rfl)) (by kernel_rfl)) (by kernel_rfl)) (by kernel_rfl)) (by kernel_rfl)) fact1009_9) fact1009_10) fact1009_11) fact1009_12) (by kernel_rfl)) (by kernel_rfl)) (by kernel_rfl)) (by kernel_rfl)) (by kernel_rfl)) (by kernel_rfl)) (by kernel_rfl)) (by kernel_rfl)) (by kernel_rfl)) fact1009_22) (by kernel_rfl)) fact1009_24) fact1009_25) fact1009_26) fact1009_27) (by kernel_rfl)) (by kernel_rfl)) (by kernel_rfl)) (by kernel_rfl))
theorem called1009:Tryz.pinned.checked.prog.funcNamed Rows.fnBasePutRow.func=some 9:=by kernel_rfl
theorem inst1009:Tryz.f9.isInstance Tryz.pinned.checked.prog Rows.fnBasePutRow.origin Rows.fnBasePutRow.targs:=of_decide_eq_true (by kernel_rfl)
theorem goes1009:false=Rows.fnBasePutRow.goesBy Tryz.pinned.checked.prog:=by kernel_rfl
theorem looks1009:true=Tryz.pinned.checked.prog.looks []:=by kernel_rfl
theorem said1009:Rows.FnBasePutSaid:=
  OpenClaim.holds_of_wide 9 Tryz.f9 rfl rfl rfl rfl rfl rfl rfl ⟨rfl,rfl,rfl,rfl,rfl⟩ rfl rfl rfl rfl rfl called1009 Tryz.func9 facts1009
    inst1009 (by unfold Func.isWrapper;first | (rw [if_pos (by decide +kernel)];kernel_rfl) | (rw [if_neg (by decide +kernel)];exact ⟨rfl,rfl⟩))
    (fun os started H enc _=>lifted1009 os started H enc)
theorem plain1009 (f : FuncId)(fn : Func)(hf : Tryz.pinned.checked.prog.funcNamed "loop.example/custumal/laws.FnBasePut" = some f)(hfn : Tryz.pinned.checked.prog.funcs[f]? = some fn) :
    true=Tryz.pinned.checked.prog.looks []∧∀ (j:Nat) t,fn.params[j]? = some t→Tryz.pinned.checked.prog.wantsStandIn t=false:=by
  obtain rfl : f = 9 := Option.some.inj ((show Tryz.prog.funcNamed "loop.example/custumal/laws.FnBasePut" = some 9 by kernel_rfl).symm.trans hf) |>.symm
  obtain rfl:fn=Tryz.f9:=(Option.some.inj (Tryz.func9.symm.trans hfn)).symm
  refine ⟨looks1009,fun j t ht=>?_⟩
  rw [Tryz.params9] at ht
  obtain rfl:t=22:=by simpa using Array.mem_of_getElem? ht
  exact (show Tryz.prog.wantsStandIn 22=false by kernel_rfl)
theorem fnBasePut_card:Rows.FnBasePutCardSaid:=
  Claim7.holds_tied_plain_at .later [] _ _ _ _ said1009 (fun _ h=>by cases h) (by kernel_rfl) (fun _ h=>by cases h) fnBasePut_row_tie rfl ⟨rfl,rfl⟩ (by kernel_rfl) rfl plain1009 goes1009
#print axioms fnBasePut_card
end Go.Proofs.YtdpigighgmipfaaGreatDoor
