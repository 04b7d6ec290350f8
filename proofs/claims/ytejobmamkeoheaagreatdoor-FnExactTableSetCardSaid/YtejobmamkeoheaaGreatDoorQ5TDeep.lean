/- Tables one row of which has values that are ours: what the rows read as, and the rules for it. -/
import Derived.Test.YtejobmamkeoheaaGreatDoorQ5TTy
import Derived.KernelRfl
set_option linter.all false
namespace Go.Proofs.YtejobmamkeoheaaGreatDoor
open Go Go.HL
structure RowA where
  id : Int
  ver : Int
  vals : Value
  deriving Inhabited
def tRowA : Ty RowA := ((tI .i64).x ((tI .i64).x tRaw)).iso fun d => (d.id, d.ver, d.vals)
theorem fRowA_0 : Fld tRowA 0 (tI .i64) (fun d => d.id) (fun d x => { d with id := x }) := Fld.iso Fld.fst fun _ _ => rfl
theorem fRowA_1 : Fld tRowA 1 (tI .i64) (fun d => d.ver) (fun d x => { d with ver := x }) := Fld.iso (Fld.snd Fld.fst) fun _ _ => rfl
theorem fRowA_2 : Fld tRowA 2 tRaw (fun d => d.vals) (fun d x => { d with vals := x }) := Fld.iso (Fld.snd Fld.last) fun _ _ => rfl
abbrev d0RA : RowA := ⟨0, 0, .slice none 0 0⟩
theorem zRA : ZeroAt Tryz.prog 104 tRowA d0RA [] := ⟨(.agg #[.int .i64 0, .int .i64 0, .slice none 0 0]), by kernel_rfl, fun A w => ⟨[.int .i64 0], [.int .i64 0, .slice none 0 0], rfl, rfl, [.int .i64 0], [.slice none 0 0], rfl, rfl, rfl, rfl⟩, fun _ h => nomatch h⟩
section
variable {P : Program} {f : FuncId} {e : Env} {ρ : Type} {R : ρ → Value → World → Prop} {Kp : ρ → Act → World → Prop}
variable {S : List (Nat × Ent)} {B B' : List Own} {k : List Item} {r r' : Option ρ} {arr : Array Oper} {l : List Oper} {x : Operand} {ov : Option Value} {v : Value} {xs : List Val}
variable {K : Nat} {ras : List RowA} {rs : List Row}
end
section
variable {P : Program} {f : FuncId} {e : Env} {ρ : Type} {R : ρ → Value → World → Prop} {Kp : ρ → Act → World → Prop}
variable {S : List (Nat × Ent)} {B B' : List Own} {k : List Item} {r r' : Option ρ} {arr : Array Oper} {l rest : List Oper} {x : Operand} {ov : Option Value} {v : Value} {xs : List Val}
variable {K : Nat} {ras : List RowA} {rs : List Row} {d : Nat} {ty t u el : TypeId} {pos : String} {af : Array Edge}
end
end Go.Proofs.YtejobmamkeoheaaGreatDoor
