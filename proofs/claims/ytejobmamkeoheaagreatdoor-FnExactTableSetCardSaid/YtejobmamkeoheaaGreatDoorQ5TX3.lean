/- From a function's contract to its law's row: a law of arguments of many forms (the seat's own: laidL, glob_ok come from R2). -/
import Derived.Test.YtejobmamkeoheaaGreatDoorQ5TX2
import Derived.Test.YtejobmamkeoheaaGreatDoorQ5TR2
import Derived.ChangeStays
import Derived.ChangeArms
set_option linter.all false
namespace Go.Proofs.YtejobmamkeoheaaGreatDoor
open Go Go.HL Go.ChangeShapes Go.WideShapes Go.ChangeAt Go.RowKit
theorem laidOut_ok : laidOutB Tryz.prog = true := by kernel_rfl
theorem mapsRowed_ok : mapsRowed Tryz.prog = true := by kernel_rfl
theorem szB_ok : szB Tryz.prog = true := by kernel_rfl
theorem ArgsT_lt {P : Program} {ts : List TypeId} {A : Type} {va : A → List VA} {R : A → Prop} (h : ArgsT P ts A va R) : ∀ t ∈ ts, t < P.types.size := by
  induction h with
  | nil => exact fun _ h => nomatch h
  | cons _ _ ht _ ih =>
    intro t h
    rcases List.mem_cons.1 h with rfl | h
    · exact ht
    · exact ih t h
theorem trodAll_lens {H : Type} {enc : TypeId × Value → H} {P : Program} {W : World} {base : Nat} {sp : Nat → Bool} {held : Bool} : ∀ {ts : List TypeId} {vs : List Value} {ds : List (DataW H)} {p : List MemPlace}, DataW.TrodAll enc P W base sp held ts vs ds p → ds.length = ts.length
  | [], [], [], _, _ => rfl
  | _ :: _, _ :: _, _ :: _, _, ⟨_, _, _, h, _⟩ => by rw [List.length_cons, List.length_cons, trodAll_lens h]
set_option maxRecDepth 10000 in
theorem law_contractX {H : Type} {enc : TypeId × Value → H} {k : FuncId} {fn : Func} {spec : ChangeSpec} {ts : List TypeId} {A : Type} {va : A → List VA} {R : A → Prop} (hT : ArgsT Tryz.prog ts A va R) (hv : spec.vars = [])
    (hspec : ∀ ds : List (DataW H), ds.length = ts.length → spec.fn H ds = { results := [.lit (.bool true)], args := ds })
    (hp : fn.params.toList = ts) (hr : fn.resultTypes = #[tyBool]) (hc : ∀ a, R a → Ctr Tryz.prog k (va a) [] (some true) (fun _ _ => []) (fun q => isB q))
    {W : World} {base : Nat} {args : Array Value} {ds gs : List (DataW H)} {before : List MemPlace}
    (hval : ∀ (j : Nat) t v, fn.params[j]? = some t → args[j]? = some v → Value.okWide Tryz.prog W .any base t v)
    (hW : DataW.Whole enc Tryz.prog fn.params.toList spec.vars false W args.toList ds gs before) (hz : (DataW.weightsEach Tryz.prog (fn.params.toList ++ spec.plain.varTypes Tryz.prog) (ds ++ gs)).all (· ≤ reachBytes) = true) (hL : laidMet Tryz.prog laidL W) :
    Calls Tryz.prog k args W fun e W' => ∃ v, e = .returned v ∧ spec.post enc Tryz.prog fn false true false false W args v W' := by
  have hW' := hW
  obtain ⟨p, q, hA, hV, rfl, -, -⟩ := hW
  rw [hv] at hV
  obtain ⟨rfl, rfl⟩ := trodVars_none hV
  rw [hp] at hA
  have hz' : (DataW.weightsEach Tryz.prog ts ds).all (· ≤ reachBytes) = true := by
    rw [vars_none hv, hp, List.append_nil, List.append_nil] at hz; exact hz
  obtain ⟨a, hR, hargs⟩ := hT.read (base := base) hA (fun j t v h1 h2 => hval j t v (by rw [← hp] at h1; simpa using h1) (by simpa using h2)) hz'
  refine Calls.mono (hc a hR true rfl _ W args.toList (law_pre hL) hargs) ?_
  rintro e W' ⟨v, rfl, hpost, hbool⟩
  cases (show v = .bool true from hbool)
  have hA2 := trodAll_shut laidOut_ok mapsRowed_ok szB_ok hpost.same (ArgsT_lt hT) hA
  have e1 : spec.fn H (ds ++ []) = { results := [.lit (.bool true)], args := ds } := by rw [List.append_nil]; exact hspec ds (trodAll_lens hA)
  refine ⟨_, rfl, ds, [], p ++ [], [], p, [], hW', ?_, ?_, ?_, same_kept hpost.same, fun h => by cases h⟩
  · rw [e1, hr]; exact trodAll_mk1 (shut_bool Tryz.underlying4 _)
  · rw [e1, hp]; exact hA2
  · rw [e1, hv]; rfl
end Go.Proofs.YtejobmamkeoheaaGreatDoor
