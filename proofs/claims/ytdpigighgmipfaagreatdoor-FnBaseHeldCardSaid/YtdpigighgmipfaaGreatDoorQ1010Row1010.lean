/- the law FnBaseHeld holds of the program at every list of bytes Conditions: none; the row lists the five package-level variables of strconv and math/bits, and the card ties them to the program's text. -/
import Derived.Test.YtdpigighgmipfaaGreatDoorQ1010R2
import Derived.Test.YtdpigighgmipfaaGreatDoorQ1010L1010
set_option linter.all false
namespace Go.Proofs.YtdpigighgmipfaaGreatDoor
open Go Go.HL Go.ChangeShapes Go.WideShapes Go.ChangeAt Go.RowKit
set_option maxRecDepth 100000 in
theorem lifted1010 (os:Os)(started:os.Started)(H:Type)(enc:TypeId×Value→H) :
    ReturnsInHanded {} Tryz.checked os 10 .any (fun w args=>(Rows.fnBaseHeldSpec.pre enc Tryz.prog Tryz.f10 Rows.fnBaseHeldRow.domain false w args∧laidMetH Tryz.prog laidL w)∧sizedMet enc Tryz.prog Tryz.f10 (OpenSpec.ofChange Rows.fnBaseHeldSpec) false w args)
      (Rows.fnBaseHeldSpec.post enc Tryz.prog Tryz.f10 false true false false):=by
  refine returnsInHanded_of_change_and (C:=Tryz.checked) (X:=fun w _=>laidMetH Tryz.prog laidL w) (fun _ _ _ hh h=>h.of_heap hh) own started (by kernel_rfl) Tryz.func10
    (ChangeSpec.witness_shaped (enc:=enc) (C:=Tryz.checked) (os:=os) (X:=fun w _=>laidMetH Tryz.prog laidL w) false (World.laidAll Tryz.prog os laidL) #[.slice none 0 0] 8 (World.laidAll_os _ _ _)
      (World.shaped_of_ZipB (by kernel_rfl) (by kernel_rfl)) (by kernel_rfl) (by kernel_rfl) (by kernel_rfl)
      (by rw [MakeChecks.laidMetH_plain _ _ _ (by kernel_rfl)];exact laidMet_laidAll _ (by kernel_rfl) (by kernel_rfl))) ?_
  intro W base args ds gs before hval hW hcnd hz hL _
  rw [MakeChecks.laidMetH_plain _ _ _ (by kernel_rfl)] at hL
  exact law_contract rfl (fun _=>rfl) Tryz.params10 rfl (c1010 10000000) (law1010 (by unfold BIG;omega)) hval hW hz hL
theorem an {a b:Bool}(h:a=true)(k:b=true):(a&&b)=true:=by rw [h,k];rfl
theorem fact1010_1:laidOutB Tryz.pinned.checked.prog=true:=by kernel_rfl
theorem fact1010_2:mapsRowed Tryz.pinned.checked.prog=true:=by kernel_rfl
theorem fact1010_9:(Rows.fnBaseHeldRow.inPlace == Tryz.pinned.checked.prog.inPlace 10)=true:=by kernel_rfl
theorem fact1010_10:(Rows.fnBaseHeldRow.unfollowed == Tryz.pinned.checked.prog.unfollowed 10)=true:=by kernel_rfl
theorem fact1010_11:(Rows.fnBaseHeldRow.recurses == Tryz.pinned.checked.prog.recurses 10)=true:=by kernel_rfl
theorem fact1010_12:(Rows.fnBaseHeldRow.named == Tryz.pinned.checked.prog.varsNamed 10)=true:=by kernel_rfl
theorem fact1010_22:(Rows.fnBaseHeldRow.plainKeys == Tryz.pinned.checked.prog.plainKeys)=true:=by kernel_rfl
theorem fact1010_24:Tryz.pinned.checked.prog.stopsHeard=true:=by kernel_rfl
theorem fact1010_25:Tryz.pinned.checked.prog.mayEnter=true:=by kernel_rfl
theorem fact1010_26:(Rows.fnBaseHeldRow.lifted == Tryz.pinned.checked.prog.liftsFinal)=true:=by kernel_rfl
theorem fact1010_27:(Tryz.pinned.checked.prog.make == some Rows.fnBaseHeldRow.make)=true:=by kernel_rfl
theorem facts1010:joinedFacts Tryz.pinned.checked.prog 10 Tryz.f10 Rows.fnBaseHeldSpec Rows.fnBaseHeldRow=true:=(an (an (an (an (an (an (an (an (an (an (an (an (an (an (an (an (an (an (an (an (an (an (an (an (an (an (an (an (an (an (an (by kernel_rfl) fact1010_1) fact1010_2) (by kernel_rfl)) (by kernel_rfl)) (by kernel_rfl)) (by kernel_rfl)) (by kernel_rfl)) (by kernel_rfl)) fact1010_9) fact1010_10) fact1010_11) fact1010_12) (by kernel_rfl)) (by kernel_rfl)) (by kernel_rfl)) (by kernel_rfl)) (by kernel_rfl)) (by kernel_rfl)) (by kernel_rfl)) (by kernel_rfl)) (by kernel_rfl)) fact1010_22) (by kernel_rfl)) fact1010_24) fact1010_25) fact1010_26) fact1010_27) (by kernel_rfl)) (by kernel_rfl)) (by kernel_rfl)) (by kernel_rfl))
theorem called1010:Tryz.pinned.checked.prog.funcNamed Rows.fnBaseHeldRow.func=some 10:=by kernel_rfl
theorem inst1010:Tryz.f10.isInstance Tryz.pinned.checked.prog Rows.fnBaseHeldRow.origin Rows.fnBaseHeldRow.targs:=of_decide_eq_true (by kernel_rfl)
theorem goes1010:false=Rows.fnBaseHeldRow.goesBy Tryz.pinned.checked.prog:=by kernel_rfl
theorem looks1010:true=Tryz.pinned.checked.prog.looks []:=by kernel_rfl
theorem said1010:Rows.FnBaseHeldSaid:=
  OpenClaim.holds_of_wide 10 Tryz.f10 rfl rfl rfl rfl rfl rfl rfl ⟨rfl,rfl,rfl,rfl,rfl⟩ rfl rfl rfl rfl rfl called1010 Tryz.func10 facts1010
    inst1010 (by unfold Func.isWrapper;first | (rw [if_pos (by decide +kernel)];kernel_rfl) | (rw [if_neg (by decide +kernel)];exact ⟨rfl,rfl⟩))
    (fun os started H enc _=>lifted1010 os started H enc)
theorem plain1010 (f : FuncId)(fn : Func)(hf : Tryz.pinned.checked.prog.funcNamed "loop.example/custumal/laws.FnBaseHeld" = some f)(hfn : Tryz.pinned.checked.prog.funcs[f]? = some fn) :
    true=Tryz.pinned.checked.prog.looks []∧∀ (j:Nat) t,fn.params[j]? = some t→Tryz.pinned.checked.prog.wantsStandIn t=false:=by
  obtain rfl : f = 10 := Option.some.inj ((show Tryz.prog.funcNamed "loop.example/custumal/laws.FnBaseHeld" = some 10 by kernel_rfl).symm.trans hf) |>.symm
  obtain rfl:fn=Tryz.f10:=(Option.some.inj (Tryz.func10.symm.trans hfn)).symm
  refine ⟨looks1010,fun j t ht=>?_⟩
  rw [Tryz.params10] at ht
  obtain rfl:t=22:=by simpa using Array.mem_of_getElem? ht
  exact (show Tryz.prog.wantsStandIn 22=false by kernel_rfl)
theorem fnBaseHeld_card:Rows.FnBaseHeldCardSaid:=
  Claim7.holds_tied_plain_at .later [] _ _ _ _ said1010 (fun _ h=>by cases h) (by kernel_rfl) (fun _ h=>by cases h) fnBaseHeld_row_tie rfl ⟨rfl,rfl⟩ (by kernel_rfl) rfl plain1010 goes1010
#print axioms fnBaseHeld_card
end Go.Proofs.YtdpigighgmipfaaGreatDoor
