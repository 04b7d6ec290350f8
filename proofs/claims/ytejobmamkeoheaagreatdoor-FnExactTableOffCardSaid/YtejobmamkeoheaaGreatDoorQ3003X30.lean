/- FnExactTableOff in plain words. -/
import Derived.Test.YtejobmamkeoheaaGreatDoorQ3003W3003
import Derived.Test.YtejobmamkeoheaaGreatDoorQ3003X24
set_option linter.all false
namespace Go.Proofs.YtejobmamkeoheaaGreatDoor
open Go Go.HL Tryz
theorem at3003 : ArgsT Tryz.prog [26, 3] (Table × Int × Unit) (fun p => tTable.va p.1 :: (tI .i64).va p.2.1 :: []) (fun p => rT p.1 ∧ iOK p.2.1 ∧ True) :=
  .cons oT (wholly_agg (by kernel_rfl) rfl) (Nat.le_of_ble_eq_true (by kernel_rfl)) <| .cons (opens_int uI) (wholly_int uI) (Nat.le_of_ble_eq_true (by kernel_rfl)) .nil
theorem lawX3003 (p : Table × Int × Unit) (h : rT p.1 ∧ iOK p.2.1 ∧ True) : Ctr Tryz.prog 3 [tTable.va p.1, isI .i64 p.2.1] [] (some true) (fun _ _ => []) (fun q => isB q) := by
  have hf : BIG ≤ BIG := Nat.le_refl _
  refine law3003 BIG p.1 p.2.1 _ (f3007_is hf (l_T h.1) (by decide) (by decide)) fun hl => ?_
  have hs := sm_T (left_ok hl)
  obtain ⟨w, h1, h2, hw⟩ := off_same (id := p.2.1) hf hs
  obtain ⟨k1, y1, e1, d1, -⟩ := markT_all hf hs (by decide : (0 : Int) ≤ 1) capM
  obtain ⟨k2, y2, e2, d2, g2, -⟩ := markT_all hf hw (by decide : (0 : Int) ≤ 1) capM
  exact ⟨w, k1, y1, k2, y2, f3009_is hf hs, h1, h2, f3011_is hf hw, f3011_is hf hs, e1, d1, e2, d2, g2⟩
end Go.Proofs.YtejobmamkeoheaaGreatDoor
