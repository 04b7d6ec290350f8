/- Functions of the program: what each answers, and that the machine answers so. -/
import Derived.Test.YtganfdhmkdehlaaGreatDoorQ2004B9
import Derived.KernelRfl
set_option linter.all false
namespace Go.Proofs.YtganfdhmkdehlaaGreatDoor
open Go Go.HL Tryz
attribute [local irreducible] W WO
def vc (fu:Nat)(a0:ab)(a1:List Set):Option (ab×Int):=(f64 fu a0 a1).bind fun q3=>some (q3.1,q3.2)
theorem n1107:Nm prog 104:=⟨_,_,func104,by kernel_rfl,z⟩
theorem c1107 (fu:Nat)(a0:ab)(a1:List Set):Ctr prog 104 [tTable.va a0,cY (tL tSet) a1] [] (vc fu a0 a1) (fun _ _=>[]) (fun q=>tup [tTable.va q.1,isI .i64 q.2]):=by
 refine .w func104 ntmps104 fun hf A w=>?_
 unfold vc
 refine .s<|.box (T:=tTable) z z fun b1=>.alloc tTable d0_27 [] z27 z fun b2=>.an z z<|.s<|go ?_
 exact .call0 (c64 fu _ _) n64 z z fun q3=>fr
def vn (fu:Nat)(a0:ac)(a1:List UInt8)(a2:List Set):Option (ac×Int):=(sR fu a0 a1 (fun x0=>vc fu x0 a2)).bind fun q4=>some (q4.1,q4.2)
theorem n1041:Nm prog 44:=⟨_,_,func44,by kernel_rfl,z⟩
theorem c1041 (fu:Nat)(a0:ac)(a1:List UInt8)(a2:List Set):Ctr prog 44 [tBase.va a0,isS a1,(tL tSet).va a2] [] (vn fu a0 a1 a2) (fun _ _=>[]) (fun q=>tup [tBase.va q.1,isI .i64 q.2]):=by
 refine .w func44 ntmps44 fun hf A w=>?_
 unfold vn
 exact .s<|.box (T:=tBase) z z fun b1=>.box (T:=(tL tSet)) z z fun b2=>.alloc tBase d0_1026 [] dn z fun b3=>.an z z<|.s<|.lp 2 (Fld.self _) z z al z<|.m z z<|.frzP 1 5 z z<|.makeF z z<|.call0 (c1103 fu _ _ (fun x0=>vc fu x0 a2) 104 [cY (tL tSet) a2] n1107 (fun x0=>c1107 fu x0 a2)) n1103 z z fun q4=>fr
def vl (fu:Nat)(a0:ac)(a1:List UInt8)(a2:List Set):Option (ac×Int):=(jm fu a0).bind fun q3=>cond (!q3) (some ((⟨d0_1026.tabs,d0_1026.links⟩:ac),1)) ((d7 fu a0).bind fun q4=>(sP fu q4 a1 a2).bind fun q5=>some (q5.1,q5.2))
theorem n1042:Nm prog 123:=⟨_,_,func123,by kernel_rfl,z⟩
theorem c1042 (fu:Nat)(a0:ac)(a1:List UInt8)(a2:List Set):Ctr prog 123 [tBase.va a0,isS a1,(tL tSet).va a2] [] (vl fu a0 a1 a2) (fun _ _=>[]) (fun q=>tup [tBase.va q.1,isI .i64 q.2]):=by
 refine .w func123 ntmps123 fun hf A w=>?_
 unfold vl
 refine .s<|.box (T:=tBase) z z fun b1=>.alloc tBase d0_1026 [] dn z fun b2=>.an z z<|.seq<|.s<|go ?_
 refine .call0 (c1019 fu _) n1019 z z fun q3=>.not z z<|.nil<|.cd z ?_ ?_
 ·exact fr
 ·refine .skip<|.s<|go ?_
  refine .call0 (gO (c1059 fu _)) n1059 z z fun q4=>go ?_
  exact .call0 (c1109 fu _ _ _) n1109 z z fun q5=>fr
end Go.Proofs.YtganfdhmkdehlaaGreatDoor
