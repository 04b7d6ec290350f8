/- What functions answer. -/
import Derived.Test.YtganfdhmkdehlaaGreatDoorQ2007B9
import Derived.KernelRfl
set_option linter.all false
namespace Go.Proofs.YtganfdhmkdehlaaGreatDoor
open Go Go.HL Tryz
attribute [local irreducible] W WO
def vR (fu:Nat)(a0:ab)(a1:List Set):Option (ab×Int):=(f64 fu a0 a1).bind fun q3=>some (q3.1,q3.2)
theorem EN:Nm prog 104:=nmK func104
theorem F9 (fu:Nat)(a0:ab)(a1:List Set):Ctr prog 104 [tTable.va a0,c7 (tL tSet) a1] [] (vR fu a0 a1) (fun _ _=>[]) (fun q=>tup [tTable.va q.1,isI .i64 q.2]):=by
 refine .w func104 ntmps104 fun hf A w=>?_
 unfold vR
 refine .s<|.box (T:=tTable) z z fun b1=>.alloc tTable d0_27 [] z27 z fun b2=>.an z z<|.s<|go ?_
 exact .call0 (c64 fu _ _) n64 z z fun q3=>fr
def wb (fu:Nat)(a0:ac)(a1:List UInt8)(a2:List Set):Option (ac×Int):=(tu fu a0 a1 (fun x0=>vR fu x0 a2)).bind fun q4=>some (q4.1,q4.2)
theorem E2:Nm prog 44:=nmK func44
theorem Gr (fu:Nat)(a0:ac)(a1:List UInt8)(a2:List Set):Ctr prog 44 [tBase.va a0,isS a1,(tL tSet).va a2] [] (wb fu a0 a1 a2) (fun _ _=>[]) (fun q=>tup [tBase.va q.1,isI .i64 q.2]):=by
 refine .w func44 ntmps44 fun hf A w=>?_
 unfold wb
 exact .s<|.box (T:=tBase) z z fun b1=>.box (T:=(tL tSet)) z z fun b2=>.alloc tBase d0_1026 [] cz z fun b3=>.an z z<|.s<|.lp 2 (Fld.self _) z z ao z<|.m z z<|.frzP 1 5 z z<|.makeF z z<|.call0 (Do fu _ _ (fun x0=>vR fu x0 a2) 104 [c7 (tL tSet) a2] EN (fun x0=>F9 fu x0 a2)) Ce z z fun q4=>fr
def wa (fu:Nat)(a0:ac)(a1:List UInt8)(a2:List Set):Option (ac×Int):=(jz fu a0).bind fun q3=>cond (!q3) (some ((⟨d0_1026.tabs,d0_1026.links⟩:ac),1)) ((cY fu a0).bind fun q4=>(qJ fu q4 a1 a2).bind fun q5=>some (q5.1,q5.2))
theorem E1:Nm prog 123:=nmK func123
theorem Gq (fu:Nat)(a0:ac)(a1:List UInt8)(a2:List Set):Ctr prog 123 [tBase.va a0,isS a1,(tL tSet).va a2] [] (wa fu a0 a1 a2) (fun _ _=>[]) (fun q=>tup [tBase.va q.1,isI .i64 q.2]):=by
 refine .w func123 ntmps123 fun hf A w=>?_
 unfold wa
 refine .s<|.box (T:=tBase) z z fun b1=>.alloc tBase d0_1026 [] cz z fun b2=>.an z z<|.seq<|.s<|go ?_
 refine .call0 (ol fu _) nn z z fun q3=>.not z z<|.nil<|.cd z ?_ ?_
 ·exact fr
 ·refine .skip<|.s<|go ?_
  refine .call0 (gZ (dJ fu _)) dH z z fun q4=>go ?_
  exact .call0 (A6 fu _ _ _) Ac z z fun q5=>fr
end Go.Proofs.YtganfdhmkdehlaaGreatDoor
