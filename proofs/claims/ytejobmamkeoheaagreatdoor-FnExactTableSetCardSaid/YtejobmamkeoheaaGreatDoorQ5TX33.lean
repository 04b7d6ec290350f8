/- FnExactTableSet in plain words. -/
import Derived.Test.YtejobmamkeoheaaGreatDoorQ5TW3006
import Derived.Test.YtejobmamkeoheaaGreatDoorQ5TX24
set_option linter.all false
namespace Go.Proofs.YtejobmamkeoheaaGreatDoor
open Go Go.HL Tryz
theorem at3006 : ArgsT Tryz.prog [26, 3, 54] (Table × Int × List Set × Unit) (fun p => tTable.va p.1 :: (tI .i64).va p.2.1 :: (tL tSet).va p.2.2.1 :: []) (fun p => rT p.1 ∧ iOK p.2.1 ∧ rL rX p.2.2.1 ∧ True) :=
  .cons oT (wholly_agg (by kernel_rfl) rfl) (Nat.le_of_ble_eq_true (by kernel_rfl)) <| .cons (opens_int uI) (wholly_int uI) (Nat.le_of_ble_eq_true (by kernel_rfl)) <| .cons oXs (wholly_slice (e := 84) (by kernel_rfl)) (Nat.le_of_ble_eq_true (by kernel_rfl)) .nil
theorem lawX3006 (p : Table × Int × List Set × Unit) (h : rT p.1 ∧ iOK p.2.1 ∧ rL rX p.2.2.1 ∧ True) : Ctr Tryz.prog 6 [tTable.va p.1, isI .i64 p.2.1, (tL tSet).va p.2.2.1] [] (some true) (fun _ _ => []) (fun q => isB q) := by
  have hf : BIG ≤ BIG := Nat.le_refl _
  refine law3006 BIG p.1 p.2.1 p.2.2.1 _ _ (f3007_is hf (l_T h.1) (by decide) (by decide)) (fun hl => f3018_is hf (l_L h.2.2.1.1) (fun x hx => l_X (h.2.2.1.2 x hx)) (left_eq hl).1 (left_eq hl).2) fun hl hl2 => ?_
  have hs := sm_T (left_ok hl)
  have hx := sm_X (left_two hl hl2)
  obtain ⟨w, h1, h2, hw⟩ := set_same (id := p.2.1) (x := p.2.2.1) hf hs hx
  obtain ⟨k1, y1, e1, d1, -, b1, c1⟩ := markT_all hf hs (by decide : (0 : Int) ≤ 1) capM
  obtain ⟨k2, y2, e2, d2⟩ := markX_all (l := p.2.2.1) hf hx.len c1 (by unfold cT at b1; unfold MAXM; omega)
  obtain ⟨k3, y3, e3, d3, g3, -⟩ := markT_all hf hw (by decide : (0 : Int) ≤ 1) capM
  exact ⟨w, k1, y1, k2, y2, k3, y3, f3009_is hf hs, f3020_is hf hx.len, h1, h2, f3011_is hf hw, f3011_is hf hs, f3022_is hf hx.len, e1, d1, e2, d2, e3, d3, g3⟩
end Go.Proofs.YtejobmamkeoheaaGreatDoor
