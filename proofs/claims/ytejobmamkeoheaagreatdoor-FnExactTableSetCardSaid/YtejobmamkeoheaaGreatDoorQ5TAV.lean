/- Rules for sets that a call writes, and for blocks handed to function values. -/
import Derived.Test.YtejobmamkeoheaaGreatDoorQ5THL
set_option linter.all false
namespace Go.HL
open Go
section
variable {P : Program} {f : FuncId} {e : Env} {ρ σ ν : Type} {R : ρ → Value → World → Prop} {Kp : ρ → Act → World → Prop}
variable {S : List (Nat × Ent)} {B : List Own} {a : Act} {w : World}
variable {k : List Item} {r r' : Option ρ} {arr : Array Oper} {rest l : List Oper}
variable {d : Nat} {ty t u el kt : TypeId} {pos : String} {af : Array Edge} {ov ov' ov'' : Option Value}
variable {x y z : Operand} {α β γ : Type} {T : Ty α} {U : Ty β} {v : Value} {xs ys : List α}
theorem PreB.app {H : List Nat} : ∀ {B Z : List Own} {i : Nat}, PreB H i B (B ++ Z)
  | [], _, _ => .nil
  | _ :: _, _, _ => .same PreB.app
variable {v' : α} {κ : Type} [DecidableEq κ] {Tk : Ty κ} {mk : κ → Value} {ks lk : List κ} {q : κ}
end
end Go.HL
