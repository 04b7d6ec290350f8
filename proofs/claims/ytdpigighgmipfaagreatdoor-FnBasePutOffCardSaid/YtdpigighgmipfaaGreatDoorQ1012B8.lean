/- Functions of the program: what each answers, and that the machine answers so. -/
import Derived.Test.YtdpigighgmipfaaGreatDoorQ1012B7
import Derived.Test.YtdpigighgmipfaaGreatDoorQ1012AU
import Derived.KernelRfl
set_option linter.all false
namespace Go.Proofs.YtdpigighgmipfaaGreatDoor
open Go Go.HL Tryz
attribute [local irreducible] W WO
def f1084_j1 (i3:Bool):Option Bool:=some i3
def f1084 (fu:Nat)(a0:Base)(a1:List UInt8)(a2:Int):Option Bool:=(f1056 fu a0 a1).bind fun q2=>cond (decide (0≤q2)) (cond (decide (0≤q2)&&decide (q2 < (a0.tabs.length:Int))) ((f48 fu ((a0.tabs.getD q2.toNat default).table) a2).bind fun q4=>f1084_j1 (decide (0≤q4))) none) (f1084_j1 false)
theorem n1084:Nm prog 84:=⟨_,_,func84,by kernel_rfl,z⟩
theorem c1084 (fu:Nat)(a0:Base)(a1:List UInt8)(a2:Int):Ctr prog 84 [tBase.va a0,isS a1,isI .i64 a2] [] (f1084 fu a0 a1 a2) (fun _ _=>[]) (fun q=>isB q):=by
 refine .w func84 ntmps84 fun hf A w=>?_
 unfold f1084
 refine .s<|.box (T:=tBase) z z fun b1=>.an z z<|.s<|go ?_
 refine .call0 (c1056 fu _ _) n1056 z z fun q2=>.an z z<|.seq<|.join1 (fun i3=>⟨[(6,isB i3,none)],[]⟩) (fun i3=>f1084_j1 i3) (fun i3=>?_) (fun hj1=>?_)
 ·exact fr
 ·refine .g<|go ?_
  refine .split 13 z (fun _=>?_) (fun _=>?_)
  ·refine go ?_
   exact .call0 (c48 fu _ _) n48 z z fun q4=>fj (hj1 _)
  ·exact fj (hj1 _)
end Go.Proofs.YtdpigighgmipfaaGreatDoor
