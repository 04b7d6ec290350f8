/- A fact, carried along with blocks; rules. -/
import Derived.Test.YtejobmamkeoheaaGreatDoorQ5TAV
set_option linter.all false
namespace Go.HL
open Go
def sureO (p : Prop) : Own where
  blk := none
  lo := 0
  ok _ _ := p
  good _ _ h := h
section
variable {P : Program} {f : FuncId} {e : Env} {ρ σ ν : Type} {R : ρ → Value → World → Prop} {Kp : ρ → Go.Act → World → Prop}
variable {S : List (Nat × Ent)} {B : List Own} {a : Go.Act} {w : World}
variable {k : List Item} {r r' : Option ρ} {arr : Array Oper} {rest l : List Oper} {p : Prop} {b : Bool}
theorem W_fact (hp : p) (h : W P f e R k ⟨S, sureO p :: B⟩ r) : W P f e R k ⟨S, B⟩ r := fun x hx a w hk => h x hx a w (hk.tok rfl fun _ => hp)
theorem W_sel (is : List Nat) {O B' : List Own} (hB : splitB B is = some (O, B')) (h : W P f e R k ⟨S, O ++ B'⟩ r) : W P f e R k ⟨S, B⟩ r := .perm (split_perm hB) h
end
end Go.HL
