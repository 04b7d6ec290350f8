/- Functions of the program: what each answers, and that the machine answers so. -/
import Derived.Test.YtdpigighgmipfaaGreatDoorQ1012B6
import Derived.Test.YtdpigighgmipfaaGreatDoorQ1012AU
import Derived.KernelRfl
set_option linter.all false
namespace Go.Proofs.YtdpigighgmipfaaGreatDoor
open Go Go.HL Tryz
attribute [local irreducible] W WO
def f1035_l1 (a0:Base)(a1:List UInt8):Nat→Int→Option Int
 | 0,_=>none
 | n1+1,i2=>cond (decide (i2 < (a0.tabs.length:Int))) (cond (decide (0≤i2)&&decide (i2 < (a0.tabs.length:Int))) (cond (decide (((a0.tabs.getD i2.toNat default).name)=a1)) (some i2) ((f1035_l1 a0 a1 n1) (IntKind.i64.wrap (i2+1)))) none) (some (-1))
def f1035 (fu:Nat)(a0:Base)(a1:List UInt8):Option Int:=f1035_l1 a0 a1 fu 0
theorem n1035:Nm prog 35:=⟨_,_,func35,by kernel_rfl,z⟩
theorem c1035 (fu:Nat)(a0:Base)(a1:List UInt8):Ctr prog 35 [tBase.va a0,isS a1] [] (f1035 fu a0 a1) (fun _ _=>[]) (fun q=>isI .i64 q):=by
 refine .w func35 ntmps35 fun hf A w=>?_
 unfold f1035
 refine .s<|.box (T:=tBase) z z fun b1=>.an z z<|.seq<|.s<|.an z z<|.block<|.loop<|.keep [1,2,5] [] z<|(show ∀ (n1:Nat) (i2:Int),W _ _ _ _ _ ⟨[(1,isS a1,none),(2,isP b1 0,none),(5,isI .i64 i2,none)],[boxO b1 tBase a0 []]⟩ (f1035_l1 a0 a1 n1 i2) from ?_) fu _
 intro n1
 induction n1 with
 | zero=>exact fun _=>.stop
 | succ n1 ih1=>
  intro i2
  refine .inLoop<|.seq<|.s<|go ?_
  refine .cd z ?_ ?_
  ·refine .skip<|.seq<|.block<|.s<|go ?_
   refine .cd z ?_ ?_
   ·exact fr
   ·exact fj (ih1 _)
  ·exact fr
end Go.Proofs.YtdpigighgmipfaaGreatDoor
