/- A transaction of one act is that act, and one of none changes nothing: FnActOne answers true for every list of bytes. Conditions: none; the row lists the five package-level variables of strconv and math/bits, and the card ties them to the program's text. -/
import Derived.Test.YtganfdhmkdehlaaGreatDoorQ2004R2
import Derived.Test.YtganfdhmkdehlaaGreatDoorQ2004L2004
set_option linter.all false
namespace Go.Proofs.YtganfdhmkdehlaaGreatDoor
open Go Go.HL Go.ChangeShapes Go.WideShapes Go.ChangeAt Go.RowKit
set_option maxRecDepth 100000 in
theorem lifted2004 (os:Os)(started:os.Started)(H:Type)(enc:TypeId×Value→H) :
    ReturnsInHanded {} Tryz.checked os 4 .any (fun w args=>(Rows.fnActOneSpec.pre enc Tryz.prog Tryz.f4 Rows.fnActOneRow.domain false w args∧laidMetH Tryz.prog laidL w)∧sizedMet enc Tryz.prog Tryz.f4 (OpenSpec.ofChange Rows.fnActOneSpec) false w args)
      (Rows.fnActOneSpec.post enc Tryz.prog Tryz.f4 false true false false):=by
  refine returnsInHanded_of_change_and (C:=Tryz.checked) (X:=fun w _=>laidMetH Tryz.prog laidL w) (fun _ _ _ hh h=>h.of_heap hh) own started (by kernel_rfl) Tryz.func4
    (ChangeSpec.witness_shaped (enc:=enc) (C:=Tryz.checked) (os:=os) (X:=fun w _=>laidMetH Tryz.prog laidL w) false (World.laidAll Tryz.prog os laidL) #[.slice none 0 0] 8 (World.laidAll_os _ _ _)
      (World.shaped_of_ZipB (by kernel_rfl) (by kernel_rfl)) (by kernel_rfl) (by kernel_rfl) (by kernel_rfl)
      (by rw [MakeChecks.laidMetH_plain _ _ _ (by kernel_rfl)];exact laidMet_laidAll _ (by kernel_rfl) (by kernel_rfl))) ?_
  intro W base args ds gs before hval hW hcnd hz hL _
  rw [MakeChecks.laidMetH_plain _ _ _ (by kernel_rfl)] at hL
  exact law_contract rfl (fun _=>rfl) Tryz.params4 rfl (c2004 10000000) (ze (by unfold BIG;omega)) hval hW hz hL
theorem an {a b:Bool}(h:a=true)(k:b=true):(a&&b)=true:=by rw [h,k];rfl
theorem fact2004_1:laidOutB Tryz.pinned.checked.prog=true:=by kernel_rfl
theorem fact2004_2:mapsRowed Tryz.pinned.checked.prog=true:=by kernel_rfl
theorem fact2004_9:(Rows.fnActOneRow.inPlace == Tryz.pinned.checked.prog.inPlace 4)=true:=by kernel_rfl
theorem fact2004_10:(Rows.fnActOneRow.unfollowed == Tryz.pinned.checked.prog.unfollowed 4)=true:=by kernel_rfl
theorem fact2004_11:(Rows.fnActOneRow.recurses == Tryz.pinned.checked.prog.recurses 4)=true:=by kernel_rfl
theorem fact2004_12:(Rows.fnActOneRow.named == Tryz.pinned.checked.prog.varsNamed 4)=true:=by kernel_rfl
theorem fact2004_22:(Rows.fnActOneRow.plainKeys == Tryz.pinned.checked.prog.plainKeys)=true:=by kernel_rfl
theorem fact2004_24:Tryz.pinned.checked.prog.stopsHeard=true:=by kernel_rfl
theorem fact2004_25:Tryz.pinned.checked.prog.mayEnter=true:=by kernel_rfl
theorem fact2004_26:(Rows.fnActOneRow.lifted == Tryz.pinned.checked.prog.liftsFinal)=true:=by kernel_rfl
theorem fact2004_27:(Tryz.pinned.checked.prog.make == some Rows.fnActOneRow.make)=true:=by kernel_rfl
theorem facts2004:joinedFacts Tryz.pinned.checked.prog 4 Tryz.f4 Rows.fnActOneSpec Rows.fnActOneRow=true:=(an (an (an (an (an (an (an (an (an (an (an (an (an (an (an (an (an (an (an (an (an (an (an (an (an (an (an (an (an (an (an (by kernel_rfl) fact2004_1) fact2004_2) (by kernel_rfl)) (by kernel_rfl)) (by kernel_rfl)) (by kernel_rfl)) (by kernel_rfl)) (by kernel_rfl)) fact2004_9) fact2004_10) fact2004_11) fact2004_12) (by kernel_rfl)) (by kernel_rfl)) (by kernel_rfl)) (by kernel_rfl)) (by kernel_rfl)) (by kernel_rfl)) (by kernel_rfl)) (by kernel_rfl)) (by kernel_rfl)) fact2004_22) (by kernel_rfl)) fact2004_24) fact2004_25) fact2004_26) fact2004_27) (by kernel_rfl)) (by kernel_rfl)) (by kernel_rfl)) (by kernel_rfl))
theorem called2004:Tryz.pinned.checked.prog.funcNamed Rows.fnActOneRow.func=some 4:=by kernel_rfl
theorem inst2004:Tryz.f4.isInstance Tryz.pinned.checked.prog Rows.fnActOneRow.origin Rows.fnActOneRow.targs:=of_decide_eq_true (by kernel_rfl)
theorem goes2004:false=Rows.fnActOneRow.goesBy Tryz.pinned.checked.prog:=by kernel_rfl
theorem looks2004:true=Tryz.pinned.checked.prog.looks []:=by kernel_rfl
theorem said2004:Rows.FnActOneSaid:=
  OpenClaim.holds_of_wide 4 Tryz.f4 rfl rfl rfl rfl rfl rfl rfl ⟨rfl,rfl,rfl,rfl,rfl⟩ rfl rfl rfl rfl rfl called2004 Tryz.func4 facts2004
    inst2004 (by unfold Func.isWrapper;first | (rw [if_pos (by decide +kernel)];kernel_rfl) | (rw [if_neg (by decide +kernel)];exact ⟨rfl,rfl⟩))
    (fun os started H enc _=>lifted2004 os started H enc)
theorem plain2004 (f : FuncId)(fn : Func)(hf : Tryz.pinned.checked.prog.funcNamed "loop.example/custumal/laws.FnActOne" = some f)(hfn : Tryz.pinned.checked.prog.funcs[f]? = some fn) :
    true=Tryz.pinned.checked.prog.looks []∧∀ (j:Nat) t,fn.params[j]? = some t→Tryz.pinned.checked.prog.wantsStandIn t=false:=by
  obtain rfl : f = 4 := Option.some.inj ((show Tryz.prog.funcNamed "loop.example/custumal/laws.FnActOne" = some 4 by kernel_rfl).symm.trans hf) |>.symm
  obtain rfl:fn=Tryz.f4:=(Option.some.inj (Tryz.func4.symm.trans hfn)).symm
  refine ⟨looks2004,fun j t ht=>?_⟩
  rw [Tryz.params4] at ht
  obtain rfl:t=22:=by simpa using Array.mem_of_getElem? ht
  exact (show Tryz.prog.wantsStandIn 22=false by kernel_rfl)
theorem fnActOne_card:Rows.FnActOneCardSaid:=
  Claim7.holds_tied_plain_at .later [] _ _ _ _ said2004 (fun _ h=>by cases h) (by kernel_rfl) (fun _ h=>by cases h) fnActOne_row_tie rfl ⟨rfl,rfl⟩ (by kernel_rfl) rfl plain2004 goes2004
#print axioms fnActOne_card
end Go.Proofs.YtganfdhmkdehlaaGreatDoor
