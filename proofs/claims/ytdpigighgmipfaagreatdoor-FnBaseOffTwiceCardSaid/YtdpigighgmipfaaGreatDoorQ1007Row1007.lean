/- the law FnBaseOffTwice holds of the program at every list of bytes Conditions: none; the row lists the five package-level variables of strconv and math/bits, and the card ties them to the program's text. -/
import Derived.Test.YtdpigighgmipfaaGreatDoorQ1007R2
import Derived.Test.YtdpigighgmipfaaGreatDoorQ1007L1007
set_option linter.all false
namespace Go.Proofs.YtdpigighgmipfaaGreatDoor
open Go Go.HL Go.ChangeShapes Go.WideShapes Go.ChangeAt Go.RowKit
set_option maxRecDepth 100000 in
theorem lifted1007 (os:Os)(started:os.Started)(H:Type)(enc:TypeId×Value→H) :
    ReturnsInHanded {} Tryz.checked os 7 .any (fun w args=>(Rows.fnBaseOffTwiceSpec.pre enc Tryz.prog Tryz.f7 Rows.fnBaseOffTwiceRow.domain false w args∧laidMetH Tryz.prog laidL w)∧sizedMet enc Tryz.prog Tryz.f7 (OpenSpec.ofChange Rows.fnBaseOffTwiceSpec) false w args)
      (Rows.fnBaseOffTwiceSpec.post enc Tryz.prog Tryz.f7 false true false false):=by
  refine returnsInHanded_of_change_and (C:=Tryz.checked) (X:=fun w _=>laidMetH Tryz.prog laidL w) (fun _ _ _ hh h=>h.of_heap hh) own started (by kernel_rfl) Tryz.func7
    (ChangeSpec.witness_shaped (enc:=enc) (C:=Tryz.checked) (os:=os) (X:=fun w _=>laidMetH Tryz.prog laidL w) false (World.laidAll Tryz.prog os laidL) #[.slice none 0 0] 8 (World.laidAll_os _ _ _)
      (World.shaped_of_ZipB (by kernel_rfl) (by kernel_rfl)) (by kernel_rfl) (by kernel_rfl) (by kernel_rfl)
      (by rw [MakeChecks.laidMetH_plain _ _ _ (by kernel_rfl)];exact laidMet_laidAll _ (by kernel_rfl) (by kernel_rfl))) ?_
  intro W base args ds gs before hval hW hcnd hz hL _
  rw [MakeChecks.laidMetH_plain _ _ _ (by kernel_rfl)] at hL
  exact law_contract rfl (fun _=>rfl) Tryz.params7 rfl (c1007 10000000) (law1007 (by unfold BIG;omega)) hval hW hz hL
theorem an {a b:Bool}(h:a=true)(k:b=true):(a&&b)=true:=by rw [h,k];rfl
theorem fact1007_1:laidOutB Tryz.pinned.checked.prog=true:=by kernel_rfl
theorem fact1007_2:mapsRowed Tryz.pinned.checked.prog=true:=by kernel_rfl
theorem fact1007_9:(Rows.fnBaseOffTwiceRow.inPlace == Tryz.pinned.checked.prog.inPlace 7)=true:=by kernel_rfl
theorem fact1007_10:(Rows.fnBaseOffTwiceRow.unfollowed == Tryz.pinned.checked.prog.unfollowed 7)=true:=by kernel_rfl
theorem fact1007_11:(Rows.fnBaseOffTwiceRow.recurses == Tryz.pinned.checked.prog.recurses 7)=true:=by kernel_rfl
theorem fact1007_12:(Rows.fnBaseOffTwiceRow.named == Tryz.pinned.checked.prog.varsNamed 7)=true:=by kernel_rfl
theorem fact1007_22:(Rows.fnBaseOffTwiceRow.plainKeys == Tryz.pinned.checked.prog.plainKeys)=true:=by kernel_rfl
theorem fact1007_24:Tryz.pinned.checked.prog.stopsHeard=true:=by kernel_rfl
theorem fact1007_25:Tryz.pinned.checked.prog.mayEnter=true:=by kernel_rfl
theorem fact1007_26:(Rows.fnBaseOffTwiceRow.lifted == Tryz.pinned.checked.prog.liftsFinal)=true:=by kernel_rfl
theorem fact1007_27:(Tryz.pinned.checked.prog.make == some Rows.fnBaseOffTwiceRow.make)=true:=by kernel_rfl
theorem facts1007:joinedFacts Tryz.pinned.checked.prog 7 Tryz.f7 Rows.fnBaseOffTwiceSpec Rows.fnBaseOffTwiceRow=true:=(an (an (an (an (an (an (an (an (an (an (an (an (an (an (an (an (an (an (an (an (an (an (an (an (an (an (an (an (an (an (an (by kernel_rfl) fact1007_1) fact1007_2) (by kernel_rfl)) (by kernel_rfl)) (by kernel_rfl)) (by kernel_rfl)) (by kernel_rfl)) (by kernel_rfl)) fact1007_9) fact1007_10) fact1007_11) fact1007_12) (by kernel_rfl)) (by kernel_rfl)) (by kernel_rfl)) (by kernel_rfl)) (by kernel_rfl)) (by kernel_rfl)) (by kernel_rfl)) (by kernel_rfl)) (by kernel_rfl)) fact1007_22) (by kernel_rfl)) fact1007_24) fact1007_25) fact1007_26) fact1007_27) (by kernel_rfl)) (by kernel_rfl)) (by kernel_rfl)) (by kernel_rfl))
theorem called1007:Tryz.pinned.checked.prog.funcNamed Rows.fnBaseOffTwiceRow.func=some 7:=by kernel_rfl
theorem inst1007:Tryz.f7.isInstance Tryz.pinned.checked.prog Rows.fnBaseOffTwiceRow.origin Rows.fnBaseOffTwiceRow.targs:=of_decide_eq_true (by kernel_rfl)
theorem goes1007:false=Rows.fnBaseOffTwiceRow.goesBy Tryz.pinned.checked.prog:=by kernel_rfl
theorem looks1007:true=Tryz.pinned.checked.prog.looks []:=by kernel_rfl
theorem said1007:Rows.FnBaseOffTwiceSaid:=
  OpenClaim.holds_of_wide 7 Tryz.f7 rfl rfl rfl rfl rfl rfl rfl ⟨rfl,rfl,rfl,rfl,rfl⟩ rfl rfl rfl rfl rfl called1007 Tryz.func7 facts1007
    inst1007 (by unfold Func.isWrapper;first | (rw [if_pos (by decide +kernel)];kernel_rfl) | (rw [if_neg (by decide +kernel)];exact ⟨rfl,rfl⟩))
    (fun os started H enc _=>lifted1007 os started H enc)
theorem plain1007 (f : FuncId)(fn : Func)(hf : Tryz.pinned.checked.prog.funcNamed "loop.example/custumal/laws.FnBaseOffTwice" = some f)(hfn : Tryz.pinned.checked.prog.funcs[f]? = some fn) :
    true=Tryz.pinned.checked.prog.looks []∧∀ (j:Nat) t,fn.params[j]? = some t→Tryz.pinned.checked.prog.wantsStandIn t=false:=by
  obtain rfl : f = 7 := Option.some.inj ((show Tryz.prog.funcNamed "loop.example/custumal/laws.FnBaseOffTwice" = some 7 by kernel_rfl).symm.trans hf) |>.symm
  obtain rfl:fn=Tryz.f7:=(Option.some.inj (Tryz.func7.symm.trans hfn)).symm
  refine ⟨looks1007,fun j t ht=>?_⟩
  rw [Tryz.params7] at ht
  obtain rfl:t=22:=by simpa using Array.mem_of_getElem? ht
  exact (show Tryz.prog.wantsStandIn 22=false by kernel_rfl)
theorem fnBaseOffTwice_card:Rows.FnBaseOffTwiceCardSaid:=
  Claim7.holds_tied_plain_at .later [] _ _ _ _ said1007 (fun _ h=>by cases h) (by kernel_rfl) (fun _ h=>by cases h) fnBaseOffTwice_row_tie rfl ⟨rfl,rfl⟩ (by kernel_rfl) rfl plain1007 goes1007
#print axioms fnBaseOffTwice_card
end Go.Proofs.YtdpigighgmipfaaGreatDoor
