/- Tables one row of which has values that are ours: what the rows read as, and the rules for it. -/
import Derived.Test.YtganfdhmkdehlaaGreatDoorQ2003Ty
import Derived.KernelRfl
set_option linter.all false
namespace Go.Proofs.YtganfdhmkdehlaaGreatDoor
open Go Go.HL
structure Cg where
 id:Int
 ver:Int
 vals:Value
  deriving Inhabited
section
variable {P:Program}{f:FuncId}{e:Env}{ρ:Type}{R:ρ→Value→World→Prop}{Kp:ρ→Act→World→Prop}
variable {S:List (Nat×Ent)}{B B':List Own}{k:List Item}{r r':Option ρ}{arr:Array Oper}{l:List Oper}{x:Operand}{ov:Option Value}{v:Value}{xs:List Val}
variable {K:Nat}{ras:List Cg}{rs:List Row}
end
section
variable {P:Program}{f:FuncId}{e:Env}{ρ:Type}{R:ρ→Value→World→Prop}{Kp:ρ→Act→World→Prop}
variable {S:List (Nat×Ent)}{B B':List Own}{k:List Item}{r r':Option ρ}{arr:Array Oper}{l rest:List Oper}{x:Operand}{ov:Option Value}{v:Value}{xs:List Val}
variable {K:Nat}{ras:List Cg}{rs:List Row}{d:Nat}{ty t u el:TypeId}{pos:String}{af:Array Edge}
end
end Go.Proofs.YtganfdhmkdehlaaGreatDoor
