/- A transaction is atomic: all of its acts are done, one by one, or nothing is: FnActAll answers true for every list of bytes. Conditions: none; the row lists the five package-level variables of strconv and math/bits, and the card ties them to the program's text. -/
import Derived.Test.YtganfdhmkdehlaaGreatDoorQ2005R2
import Derived.Test.YtganfdhmkdehlaaGreatDoorQ2005L2005
set_option linter.all false
namespace Go.Proofs.YtganfdhmkdehlaaGreatDoor
open Go Go.HL Go.ChangeShapes Go.WideShapes Go.ChangeAt Go.RowKit
set_option maxRecDepth 100000 in
theorem lifted2005 (os:Os)(started:os.Started)(H:Type)(enc:TypeId×Value→H) :
    ReturnsInHanded {} Tryz.checked os 5 .any (fun w args=>(Rows.fnActAllSpec.pre enc Tryz.prog Tryz.f5 Rows.fnActAllRow.domain false w args∧laidMetH Tryz.prog laidL w)∧sizedMet enc Tryz.prog Tryz.f5 (OpenSpec.ofChange Rows.fnActAllSpec) false w args)
      (Rows.fnActAllSpec.post enc Tryz.prog Tryz.f5 false true false false):=by
  refine returnsInHanded_of_change_and (C:=Tryz.checked) (X:=fun w _=>laidMetH Tryz.prog laidL w) (fun _ _ _ hh h=>h.of_heap hh) own started (by kernel_rfl) Tryz.func5
    (ChangeSpec.witness_shaped (enc:=enc) (C:=Tryz.checked) (os:=os) (X:=fun w _=>laidMetH Tryz.prog laidL w) false (World.laidAll Tryz.prog os laidL) #[.slice none 0 0] 8 (World.laidAll_os _ _ _)
      (World.shaped_of_ZipB (by kernel_rfl) (by kernel_rfl)) (by kernel_rfl) (by kernel_rfl) (by kernel_rfl)
      (by rw [MakeChecks.laidMetH_plain _ _ _ (by kernel_rfl)];exact laidMet_laidAll _ (by kernel_rfl) (by kernel_rfl))) ?_
  intro W base args ds gs before hval hW hcnd hz hL _
  rw [MakeChecks.laidMetH_plain _ _ _ (by kernel_rfl)] at hL
  exact law_contract rfl (fun _=>rfl) Tryz.params5 rfl (FM 10000000) (Al (by unfold BIG;omega)) hval hW hz hL
theorem an {a b:Bool}(h:a=true)(k:b=true):(a&&b)=true:=by rw [h,k];rfl
theorem fact2005_1:laidOutB Tryz.pinned.checked.prog=true:=by kernel_rfl
theorem fact2005_2:mapsRowed Tryz.pinned.checked.prog=true:=by kernel_rfl
theorem fact2005_9:(Rows.fnActAllRow.inPlace == Tryz.pinned.checked.prog.inPlace 5)=true:=by kernel_rfl
theorem fact2005_10:(Rows.fnActAllRow.unfollowed == Tryz.pinned.checked.prog.unfollowed 5)=true:=by kernel_rfl
theorem fact2005_11:(Rows.fnActAllRow.recurses == Tryz.pinned.checked.prog.recurses 5)=true:=by kernel_rfl
theorem fact2005_12:(Rows.fnActAllRow.named == Tryz.pinned.checked.prog.varsNamed 5)=true:=by kernel_rfl
theorem fact2005_22:(Rows.fnActAllRow.plainKeys == Tryz.pinned.checked.prog.plainKeys)=true:=by kernel_rfl
theorem fact2005_24:Tryz.pinned.checked.prog.stopsHeard=true:=by kernel_rfl
theorem fact2005_25:Tryz.pinned.checked.prog.mayEnter=true:=by kernel_rfl
theorem fact2005_26:(Rows.fnActAllRow.lifted == Tryz.pinned.checked.prog.liftsFinal)=true:=by kernel_rfl
theorem fact2005_27:(Tryz.pinned.checked.prog.make == some Rows.fnActAllRow.make)=true:=by kernel_rfl
theorem facts2005:joinedFacts Tryz.pinned.checked.prog 5 Tryz.f5 Rows.fnActAllSpec Rows.fnActAllRow=true:=(an (an (an (an (an (an (an (an (an (an (an (an (an (an (an (an (an (an (an (an (an (an (an (an (an (an (an (an (an (an (an (by kernel_rfl) fact2005_1) fact2005_2) (by kernel_rfl)) (by kernel_rfl)) (by kernel_rfl)) (by kernel_rfl)) (by kernel_rfl)) (by kernel_rfl)) fact2005_9) fact2005_10) fact2005_11) fact2005_12) (by kernel_rfl)) (by kernel_rfl)) (by kernel_rfl)) (by kernel_rfl)) (by kernel_rfl)) (by kernel_rfl)) (by kernel_rfl)) (by kernel_rfl)) (by kernel_rfl)) fact2005_22) (by kernel_rfl)) fact2005_24) fact2005_25) fact2005_26) fact2005_27) (by kernel_rfl)) (by kernel_rfl)) (by kernel_rfl)) (by kernel_rfl))
theorem called2005:Tryz.pinned.checked.prog.funcNamed Rows.fnActAllRow.func=some 5:=by kernel_rfl
theorem inst2005:Tryz.f5.isInstance Tryz.pinned.checked.prog Rows.fnActAllRow.origin Rows.fnActAllRow.targs:=of_decide_eq_true (by kernel_rfl)
theorem goes2005:false=Rows.fnActAllRow.goesBy Tryz.pinned.checked.prog:=by kernel_rfl
theorem looks2005:true=Tryz.pinned.checked.prog.looks []:=by kernel_rfl
theorem said2005:Rows.FnActAllSaid:=
  OpenClaim.holds_of_wide 5 Tryz.f5 rfl rfl rfl rfl rfl rfl rfl ⟨rfl,rfl,rfl,rfl,rfl⟩ rfl rfl rfl rfl rfl called2005 Tryz.func5 facts2005
    inst2005 (by unfold Func.isWrapper;first | (rw [if_pos (by decide +kernel)];kernel_rfl) | (rw [if_neg (by decide +kernel)];exact ⟨rfl,rfl⟩))
    (fun os started H enc _=>lifted2005 os started H enc)
theorem plain2005 (f : FuncId)(fn : Func)(hf : Tryz.pinned.checked.prog.funcNamed "loop.example/custumal/laws.FnActAll" = some f)(hfn : Tryz.pinned.checked.prog.funcs[f]? = some fn) :
    true=Tryz.pinned.checked.prog.looks []∧∀ (j:Nat) t,fn.params[j]? = some t→Tryz.pinned.checked.prog.wantsStandIn t=false:=by
  obtain rfl : f = 5 := Option.some.inj ((show Tryz.prog.funcNamed "loop.example/custumal/laws.FnActAll" = some 5 by kernel_rfl).symm.trans hf) |>.symm
  obtain rfl:fn=Tryz.f5:=(Option.some.inj (Tryz.func5.symm.trans hfn)).symm
  refine ⟨looks2005,fun j t ht=>?_⟩
  rw [Tryz.params5] at ht
  obtain rfl:t=22:=by simpa using Array.mem_of_getElem? ht
  exact (show Tryz.prog.wantsStandIn 22=false by kernel_rfl)
theorem fnActAll_card:Rows.FnActAllCardSaid:=
  Claim7.holds_tied_plain_at .later [] _ _ _ _ said2005 (fun _ h=>by cases h) (by kernel_rfl) (fun _ h=>by cases h) fnActAll_row_tie rfl ⟨rfl,rfl⟩ (by kernel_rfl) rfl plain2005 goes2005
#print axioms fnActAll_card
end Go.Proofs.YtganfdhmkdehlaaGreatDoor
