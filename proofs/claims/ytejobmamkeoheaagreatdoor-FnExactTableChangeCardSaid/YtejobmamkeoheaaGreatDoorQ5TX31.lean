/- FnExactTableChange in plain words. -/
import Derived.Test.YtejobmamkeoheaaGreatDoorQ5TW3004
import Derived.Test.YtejobmamkeoheaaGreatDoorQ5TX24
set_option linter.all false
namespace Go.Proofs.YtejobmamkeoheaaGreatDoor
open Go Go.HL Tryz
theorem at3004 : ArgsT Tryz.prog [26, 44] (Table × Change × Unit) (fun p => tTable.va p.1 :: tChange.va p.2.1 :: []) (fun p => rT p.1 ∧ rCh p.2.1 ∧ True) :=
  .cons oT (wholly_agg (by kernel_rfl) rfl) (Nat.le_of_ble_eq_true (by kernel_rfl)) <| .cons oCh (wholly_agg (by kernel_rfl) rfl) (Nat.le_of_ble_eq_true (by kernel_rfl)) .nil
theorem lawX3004 (p : Table × Change × Unit) (h : rT p.1 ∧ rCh p.2.1 ∧ True) : Ctr Tryz.prog 4 [tTable.va p.1, tChange.va p.2.1] [] (some true) (fun _ _ => []) (fun q => isB q) := by
  have hf : BIG ≤ BIG := Nat.le_refl _
  refine law3004 BIG p.1 p.2.1 _ _ (f3007_is hf (l_T h.1) (by decide) (by decide)) (fun hl => f3014_is (l_Ch h.2.1) (left_eq hl).1 (left_eq hl).2) fun hl hl2 => ?_
  have hs := sm_T (left_ok hl)
  have hc := sm_Ch (left_two hl hl2)
  obtain ⟨w, h1, h2, hw⟩ := chg_same (c := p.2.1) hf hs hc
  obtain ⟨k1, y1, e1, d1, -⟩ := markT_all hf hs (by decide : (0 : Int) ≤ 1) capM
  obtain ⟨k2, y2, e2, d2, g2, -⟩ := markT_all hf hw (by decide : (0 : Int) ≤ 1) capM
  exact ⟨w, k1, y1, k2, y2, f3009_is hf hs, f3016_is _, h1, h2, f3011_is hf hw, f3011_is hf hs, e1, d1, e2, d2, g2⟩
end Go.Proofs.YtejobmamkeoheaaGreatDoor
