/- A table and the same written anew answer alike. -/
import Derived.Test.YtlkhmcajnfombaaGreatDoorQ1007M21
set_option linter.unusedVariables false
set_option linter.unusedSimpArgs false
set_option linter.deprecated false
set_option linter.unusedSectionVars false
set_option linter.all false
namespace Go.Proofs.YtlkhmcajnfombaaGreatDoor
open Go Go.HL
variable {fu : Nat}
theorem law1007 (hf : BIG ≤ fu) (a b : List Int) (ha : ∀ x, x ∈ a → 0 ≤ x ∧ x ≤ 255) (hb : ∀ x, x ∈ b → 0 ≤ x ∧ x ≤ 255) : f1007 fu a b = some true := by
  have main : f1007_j1 fu a b false = some true := by
    unfold f1007_j1
    rw [cond_false]
    obtain ⟨t, e, hs⟩ := d1024 (fu := fu) hf ha
    have hsm := nowB_sm hs
    rw [e, Option.bind_some, f34_is hf hs, Option.bind_some, f1026_is hf hs, Option.bind_some, f15_is hf hsm, B_t rfl, Option.bind_some]
    simp only [Bool.not_true, cond_false]
    rw [f17_is hf hs, Option.bind_some]
    by_cases h : TabOK t
    case neg =>
      rw [B_f h]
      simp only [Bool.not_false, cond_true]
      rw [f15_is hf hsm, Option.bind_some, d27]
      have : nowB t = nilT := if_neg h
      rw [this, B_t rfl]
    have hg : Good t := ⟨h, hs⟩
    have hn : nowB t = nowT t := if_pos h
    have hgn := nowT_ok hg
    have hlike := like_nowT t
    obtain ⟨t2, xs, e2, -, hx⟩ := d20 (fu := fu) hf hb
    rw [B_t h, hn, e2]
    simp only [Bool.not_true, cond_false, Option.bind_some]
    have nine : decide ((9 : Int) = 0) = false := by decide
    rw [f21_is hf hs hx, Option.bind_some, f21_is hf hgn.sm hx, Option.bind_some, nine, cond_false]
    generalize IntKind.i64.wrap (1 + ((List.length b : Int).tmod 9)) = id
    rw [f32_is hf hs hx, Option.bind_some, f32_is hf hgn.sm hx, Option.bind_some]
    have p1 : putB t xs = putT t xs := if_pos h
    have p2 : putB (nowT t) xs = putT (nowT t) xs := if_pos hgn.ok
    have s1 : setB t id xs = setT t id xs := if_pos h
    have s2 : setB (nowT t) id xs = setT (nowT t) id xs := if_pos hgn.ok
    rw [p1, p2, s1, s2]
    have hp := hlike.put xs
    have hsT := hlike.set id xs
    have hpo := putT_ok (xs := xs) h
    have hps := putT_sm h hs hx
    have hpo2 := putT_ok (xs := xs) hgn.ok
    have hps2 := putT_sm hgn.ok hgn.sm hx
    have hso := setT_ok (id := id) (xs := xs) h
    have hss := setT_sm (id := id) h hs hx
    have hso2 := setT_ok (id := id) (xs := xs) hgn.ok
    have hss2 := setT_sm (id := id) hgn.ok hgn.sm hx
    rw [f19_is hf hgn.sm, Option.bind_some, B_t hgn.ok, cond_true, f30_is hf hs hgn.sm (hlike.same h hgn.ok), Option.bind_some, cond_true, decide_eq_true hp.1, cond_true, f30_is hf hps hps2 (hp.2.same hpo hpo2), Option.bind_some, cond_true, decide_eq_true hsT.1, cond_true, f30_is hf hss hss2 (hsT.2.same hso hso2), Option.bind_some, cond_true]
    have hnn : nowB (nowT t) = nowT (nowT t) := if_pos hgn.ok
    have hid : nowT (nowT t) = nowT t := by
      show (⟨lastS (nowT t), [], (t.rows.map (anew t)).map (anew (nowT t)), t.next⟩ : Table) = ⟨lastS t, [], t.rows.map (anew t), t.next⟩
      rw [List.map_map]
      have e : (t.rows.map (anew (nowT t) ∘ anew t)) = t.rows.map (anew t) := List.map_congr_left fun r _ => by
        show (⟨(anew t r).id, 0, nowR (nowT t) (anew t r)⟩ : Row) = anew t r
        rw [nowR_nowT]; rfl
      rw [e]; rfl
    rw [f34_is hf hgn.sm, Option.bind_some, hnn, hid, f15_is hf hgn.sm, Option.bind_some, B_t rfl, cond_true]
    rfl
  unfold f1007
  cases decide (1048576 < (List.length a : Int)) with
  | true => rw [cond_true]; unfold f1007_j1; rw [cond_true]
  | false =>
    rw [cond_false]
    cases h : decide (1048576 < (List.length b : Int)) with
    | true => unfold f1007_j1; rw [cond_true]
    | false => exact main
end Go.Proofs.YtlkhmcajnfombaaGreatDoor
