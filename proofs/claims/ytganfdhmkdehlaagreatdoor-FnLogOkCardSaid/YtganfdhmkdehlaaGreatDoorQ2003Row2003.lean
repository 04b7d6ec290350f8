/- A log is right just if each time of it can be done behind those ahead of it: FnLogOk answers true for every list of bytes. Conditions: none; the row lists the five package-level variables of strconv and math/bits, and the card ties them to the program's text. -/
import Derived.Test.YtganfdhmkdehlaaGreatDoorQ2003R2
import Derived.Test.YtganfdhmkdehlaaGreatDoorQ2003L2003
set_option linter.all false
namespace Go.Proofs.YtganfdhmkdehlaaGreatDoor
open Go Go.HL Go.ChangeShapes Go.WideShapes Go.ChangeAt Go.RowKit
set_option maxRecDepth 100000 in
theorem lifted2003 (os:Os)(started:os.Started)(H:Type)(enc:TypeId×Value→H) :
    ReturnsInHanded {} Tryz.checked os 3 .any (fun w args=>(Rows.fnLogOkSpec.pre enc Tryz.prog Tryz.f3 Rows.fnLogOkRow.domain false w args∧laidMetH Tryz.prog laidL w)∧sizedMet enc Tryz.prog Tryz.f3 (OpenSpec.ofChange Rows.fnLogOkSpec) false w args)
      (Rows.fnLogOkSpec.post enc Tryz.prog Tryz.f3 false true false false):=by
  refine returnsInHanded_of_change_and (C:=Tryz.checked) (X:=fun w _=>laidMetH Tryz.prog laidL w) (fun _ _ _ hh h=>h.of_heap hh) own started (by kernel_rfl) Tryz.func3
    (ChangeSpec.witness_shaped (enc:=enc) (C:=Tryz.checked) (os:=os) (X:=fun w _=>laidMetH Tryz.prog laidL w) false (World.laidAll Tryz.prog os laidL) #[.slice none 0 0] 8 (World.laidAll_os _ _ _)
      (World.shaped_of_ZipB (by kernel_rfl) (by kernel_rfl)) (by kernel_rfl) (by kernel_rfl) (by kernel_rfl)
      (by rw [MakeChecks.laidMetH_plain _ _ _ (by kernel_rfl)];exact laidMet_laidAll _ (by kernel_rfl) (by kernel_rfl))) ?_
  intro W base args ds gs before hval hW hcnd hz hL _
  rw [MakeChecks.laidMetH_plain _ _ _ (by kernel_rfl)] at hL
  exact law_contract rfl (fun _=>rfl) Tryz.params3 rfl (c2003 10000000) (yE (by unfold BIG;omega)) hval hW hz hL
theorem an {a b:Bool}(h:a=true)(k:b=true):(a&&b)=true:=by rw [h,k];rfl
theorem fact2003_1:laidOutB Tryz.pinned.checked.prog=true:=by kernel_rfl
theorem fact2003_2:mapsRowed Tryz.pinned.checked.prog=true:=by kernel_rfl
theorem fact2003_9:(Rows.fnLogOkRow.inPlace == Tryz.pinned.checked.prog.inPlace 3)=true:=by kernel_rfl
theorem fact2003_10:(Rows.fnLogOkRow.unfollowed == Tryz.pinned.checked.prog.unfollowed 3)=true:=by kernel_rfl
theorem fact2003_11:(Rows.fnLogOkRow.recurses == Tryz.pinned.checked.prog.recurses 3)=true:=by kernel_rfl
theorem fact2003_12:(Rows.fnLogOkRow.named == Tryz.pinned.checked.prog.varsNamed 3)=true:=by kernel_rfl
theorem fact2003_22:(Rows.fnLogOkRow.plainKeys == Tryz.pinned.checked.prog.plainKeys)=true:=by kernel_rfl
theorem fact2003_24:Tryz.pinned.checked.prog.stopsHeard=true:=by kernel_rfl
theorem fact2003_25:Tryz.pinned.checked.prog.mayEnter=true:=by kernel_rfl
theorem fact2003_26:(Rows.fnLogOkRow.lifted == Tryz.pinned.checked.prog.liftsFinal)=true:=by kernel_rfl
theorem fact2003_27:(Tryz.pinned.checked.prog.make == some Rows.fnLogOkRow.make)=true:=by kernel_rfl
theorem facts2003:joinedFacts Tryz.pinned.checked.prog 3 Tryz.f3 Rows.fnLogOkSpec Rows.fnLogOkRow=true:=(an (an (an (an (an (an (an (an (an (an (an (an (an (an (an (an (an (an (an (an (an (an (an (an (an (an (an (an (an (an (an (by kernel_rfl) fact2003_1) fact2003_2) (by kernel_rfl)) (by kernel_rfl)) (by kernel_rfl)) (by kernel_rfl)) (by kernel_rfl)) (by kernel_rfl)) fact2003_9) fact2003_10) fact2003_11) fact2003_12) (by kernel_rfl)) (by kernel_rfl)) (by kernel_rfl)) (by kernel_rfl)) (by kernel_rfl)) (by kernel_rfl)) (by kernel_rfl)) (by kernel_rfl)) (by kernel_rfl)) fact2003_22) (by kernel_rfl)) fact2003_24) fact2003_25) fact2003_26) fact2003_27) (by kernel_rfl)) (by kernel_rfl)) (by kernel_rfl)) (by kernel_rfl))
theorem called2003:Tryz.pinned.checked.prog.funcNamed Rows.fnLogOkRow.func=some 3:=by kernel_rfl
theorem inst2003:Tryz.f3.isInstance Tryz.pinned.checked.prog Rows.fnLogOkRow.origin Rows.fnLogOkRow.targs:=of_decide_eq_true (by kernel_rfl)
theorem goes2003:false=Rows.fnLogOkRow.goesBy Tryz.pinned.checked.prog:=by kernel_rfl
theorem looks2003:true=Tryz.pinned.checked.prog.looks []:=by kernel_rfl
theorem said2003:Rows.FnLogOkSaid:=
  OpenClaim.holds_of_wide 3 Tryz.f3 rfl rfl rfl rfl rfl rfl rfl ⟨rfl,rfl,rfl,rfl,rfl⟩ rfl rfl rfl rfl rfl called2003 Tryz.func3 facts2003
    inst2003 (by unfold Func.isWrapper;first | (rw [if_pos (by decide +kernel)];kernel_rfl) | (rw [if_neg (by decide +kernel)];exact ⟨rfl,rfl⟩))
    (fun os started H enc _=>lifted2003 os started H enc)
theorem plain2003 (f : FuncId)(fn : Func)(hf : Tryz.pinned.checked.prog.funcNamed "loop.example/custumal/laws.FnLogOk" = some f)(hfn : Tryz.pinned.checked.prog.funcs[f]? = some fn) :
    true=Tryz.pinned.checked.prog.looks []∧∀ (j:Nat) t,fn.params[j]? = some t→Tryz.pinned.checked.prog.wantsStandIn t=false:=by
  obtain rfl : f = 3 := Option.some.inj ((show Tryz.prog.funcNamed "loop.example/custumal/laws.FnLogOk" = some 3 by kernel_rfl).symm.trans hf) |>.symm
  obtain rfl:fn=Tryz.f3:=(Option.some.inj (Tryz.func3.symm.trans hfn)).symm
  refine ⟨looks2003,fun j t ht=>?_⟩
  rw [Tryz.params3] at ht
  obtain rfl:t=22:=by simpa using Array.mem_of_getElem? ht
  exact (show Tryz.prog.wantsStandIn 22=false by kernel_rfl)
theorem fnLogOk_card:Rows.FnLogOkCardSaid:=
  Claim7.holds_tied_plain_at .later [] _ _ _ _ said2003 (fun _ h=>by cases h) (by kernel_rfl) (fun _ h=>by cases h) fnLogOk_row_tie rfl ⟨rfl,rfl⟩ (by kernel_rfl) rfl plain2003 goes2003
#print axioms fnLogOk_card
end Go.Proofs.YtganfdhmkdehlaaGreatDoor
