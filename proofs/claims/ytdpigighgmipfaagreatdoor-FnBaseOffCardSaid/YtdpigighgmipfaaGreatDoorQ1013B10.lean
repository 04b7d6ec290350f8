/- Functions of the program: what each answers, and that the machine answers so. -/
import Derived.Test.YtdpigighgmipfaaGreatDoorQ1013B8
import Derived.Test.YtdpigighgmipfaaGreatDoorQ1013AU
import Derived.KernelRfl
import Derived.KernelRfl
set_option linter.all false
namespace Go.Proofs.YtdpigighgmipfaaGreatDoor
open Go Go.HL Tryz
attribute [local irreducible] W WO
def f1047_j2 (i1:Int)(rec1:Int→Option Bool)(i2:Bool):Option Bool:=cond i2 (some true) (rec1 (IntKind.i64.wrap (i1+1)))
def f1047_l1 (a0:List Ref)(a1:List UInt8)(a2:Int):Nat→Int→Option Bool
 | 0,_=>none
 | n1+1,i1=>cond (decide (i1 < (a0.length:Int))) (cond (decide (0≤i1)&&decide (i1 < (a0.length:Int))) (cond (decide (((a0.getD i1.toNat default).name)=a1)) (cond (decide (0≤i1)&&decide (i1 < (a0.length:Int))) (f1047_j2 i1 (f1047_l1 a0 a1 a2 n1) (decide (((a0.getD i1.toNat default).id)=a2))) none) (f1047_j2 i1 (f1047_l1 a0 a1 a2 n1) false)) none) (some false)
def f1047 (fu:Nat)(a0:List Ref)(a1:List UInt8)(a2:Int):Option Bool:=f1047_l1 a0 a1 a2 fu 0
theorem n1047:Nm prog 47:=⟨_,_,func47,by kernel_rfl,z⟩
theorem c1047 (fu:Nat)(a0:List Ref)(a1:List UInt8)(a2:Int):Ctr prog 47 [(tL tRef).va a0,isS a1,isI .i64 a2] [] (f1047 fu a0 a1 a2) (fun _ _=>[]) (fun q=>isB q):=by
 refine .w func47 ntmps47 fun hf A w=>?_
 unfold f1047
 refine .s<|.an z z<|.seq<|.s<|.an z z<|.block<|.loop<|.keep [0,1,2,7] [] z<|(show ∀ (n1:Nat) (i1:Int),W _ _ _ _ _ ⟨[(0,(tL tRef).va a0,none),(1,isS a1,none),(2,isI .i64 a2,none),(7,isI .i64 i1,none)],[]⟩ (f1047_l1 a0 a1 a2 n1 i1) from ?_) fu _
 intro n1
 induction n1 with
 | zero=>exact fun _=>.stop
 | succ n1 ih1=>
  intro i1
  refine .inLoop<|.seq<|.s<|go ?_
  refine .cd z ?_ ?_
  ·refine .skip<|.seq<|.block<|.seq<|.join1 (fun i2=>⟨[(0,(tL tRef).va a0,none),(1,isS a1,none),(2,isI .i64 a2,none),(7,isI .i64 i1,none),(29,isB i2,none)],[]⟩) (fun i2=>f1047_j2 i1 (f1047_l1 a0 a1 a2 n1) i2) (fun i2=>?_) (fun hj2=>?_)
   ·refine .cd z ?_ ?_
    ·exact fr
    ·exact fj (ih1 _)
   ·refine .g<|go ?_
    refine .split 21 z (fun _=>?_) (fun _=>?_)
    ·exact fj (hj2 _)
    ·exact fj (hj2 _)
  ·exact fr
end Go.Proofs.YtdpigighgmipfaaGreatDoor
