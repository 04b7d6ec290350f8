/- Functions of the program: what each answers, and that the machine answers so. -/
import Derived.Test.YtdpigighgmipfaaGreatDoorQ1006A10
import Derived.KernelRfl
set_option linter.all false
namespace Go.Proofs.YtdpigighgmipfaaGreatDoor
open Go Go.HL Tryz
def f23 (fu:Nat)(a0:Table):Option (List Col):=(f19 fu a0).bind fun q2=>cond (!q2) (some ([]:List Col)) ((f66 fu a0).bind fun q3=>some q3)
theorem n23:Nm prog 46:=⟨_,_,func46,by kernel_rfl,z⟩
theorem c23 (fu:Nat)(a0:Table):Ctr prog 46 [tTable.va a0] [] (f23 fu a0) (fun _ _=>[]) (fun q=>(tL tCol).va q):=by
 refine Ctr.of_W func46 z ntmps46 z fun A w=>?_
 unfold f23
 refine .s<|.box (T:=tTable) z z fun b1=>.assignNil tCol z<|.nil<|.seq<|.s<|.lp 0 (Fld.self _) z z ty27 z<|.call0 (c19 fu _) n19 z z fun q2=>.not z z<|.nil<|.cd z ?_ ?_
 ·exact .s<|.assignNil tCol z<|.nil<|.ret1 func46 results46 (.tmp z) z (fun _ _=>.c<|.e)
 ·exact .skip<|.s<|.lp 0 (Fld.self _) z z ty27 z<|.call0 (c66 fu _) n66 z z fun q3=>.an z z<|.ret1 func46 results46 (.tmp z) z (fun _ _=>.c<|.e)
def f24 (fu:Nat)(a0:List Col)(a1:List UInt8):Option Int:=(f67 fu a0).bind fun q1=>cond (!q1) (some (-1)) ((f68 fu a0 a1).bind fun q2=>some q2)
theorem n24:Nm prog 45:=⟨_,_,func45,by kernel_rfl,z⟩
theorem c24 (fu:Nat)(a0:List Col)(a1:List UInt8):Ctr prog 45 [(tL tCol).va a0,isS a1] [] (f24 fu a0 a1) (fun _ _=>[]) (fun q=>isI .i64 q):=by
 refine Ctr.of_W func45 z ntmps45 z fun A w=>?_
 unfold f24
 refine .s<|.an z z<|.seq<|.s<|.m z z<|.call0 (c67 fu _) n67 z z fun q1=>.not z z<|.nil<|.cd z ?_ ?_
 ·exact .s<|.an z z<|.ret1 func45 results45 (.tmp z) z (fun _ _=>.e)
 ·exact .skip<|.s<|.m z z<|.m z z<|.call0 (c68 fu _ _) n68 z z fun q2=>.an z z<|.ret1 func45 results45 (.tmp z) z (fun _ _=>.e)
end Go.Proofs.YtdpigighgmipfaaGreatDoor
