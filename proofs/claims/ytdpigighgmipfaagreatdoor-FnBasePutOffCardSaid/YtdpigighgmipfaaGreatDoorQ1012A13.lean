/- Functions of the program: what each answers, and that the machine answers so. -/
import Derived.Test.YtdpigighgmipfaaGreatDoorQ1012A11
import Derived.Test.YtdpigighgmipfaaGreatDoorQ1012AU
import Derived.KernelRfl
import Derived.KernelRfl
set_option linter.all false
namespace Go.Proofs.YtdpigighgmipfaaGreatDoor
open Go Go.HL Tryz
attribute [local irreducible] W WO
def f75 (fu:Nat)(a0:Table)(a1:Int)(a2:List Set):Option (Table×Int):=(f48 fu a0 a1).bind fun q3=>cond (decide (q3<0)) ((f80 fu a0).bind fun q4=>some (q4,5)) ((f66 fu a0).bind fun q6=>(f80 fu a0).bind fun q7=>cond (decide (0≤q3)&&decide (q3 < (a0.rows.length:Int))) ((f49 fu a0 (a0.rows.getD q3.toNat default)).bind fun q10=>(f99 fu q6 q10 a2).bind fun q12=>cond (!q12.1) ((f80 fu a0).bind fun q13=>some (q13,1)) (cond (decide (0≤q3)&&decide (q3 < (q7.rows.length:Int))) ((f58 fu q6 q12.2).bind fun q15=>cond (!q15) ((f80 fu a0).bind fun q16=>some (q16,2)) ((f59 fu (⟨q7.first,q7.changes,q7.rows.set q3.toNat (⟨a1,(a0.changes.length:Int),q12.2⟩:Row),q7.next⟩:Table)).bind fun q18=>cond (!q18) ((f80 fu a0).bind fun q19=>some (q19,3)) (some ((⟨q7.first,q7.changes,q7.rows.set q3.toNat (⟨a1,(a0.changes.length:Int),q12.2⟩:Row),q7.next⟩:Table),0)))) none)) none)
theorem n75:Nm prog 90:=⟨_,_,func90,by kernel_rfl,z⟩
theorem c75 (fu:Nat)(a0:Table)(a1:Int)(a2:List Set):Ctr prog 90 [tTable.va a0,isI .i64 a1,(tL tSet).va a2] [] (f75 fu a0 a1 a2) (fun _ _=>[]) (fun q=>tup [tTable.va q.1,isI .i64 q.2]):=by
 refine .w func90 ntmps90 fun hf A w=>?_
 unfold f75
 refine .s<|.box (T:=tTable) z z fun b1=>.alloc tTableA d0A27 [] zA27 z fun b2=>.an z z<|.s<|go ?_
 refine .call0 (c48 fu _ _) n48 z z fun q3=>.an z z<|.seq<|.s<|go ?_
 refine .cd z ?_ ?_
 ·refine .s<|go ?_
  refine .callL0 (c80 fu _) n80 z z fun q4 p5=>go ?_
  exact .frzBox 2 0 conv27 z z<|fr
 ·refine .skip<|.s<|go ?_
  refine .call0 (c66 fu _) n66 z z fun q6=>.an z z<|.s<|go ?_
  refine .callL0 (c80 fu _) n80 z z fun q7 p8=>.alloc tTableA d0A27 [] zA27 z fun b9=>go ?_
  refine .seq<|.pT fun h1=>.draw 6 [] mix (by kernel_rfl) sts z<|.callL0 (c49 fu _ _) n49 z z fun q10 v11=>.unRaw 29 z<|.an z z<|.seq<|.s<|go ?_
  refine .call1 0 (c99 fu _ _ _ _) z n99 z z fun q12=>.not z z<|.nil<|.cd z ?_ ?_
  ·refine .s<|go ?_
   refine .callL0 (c80 fu _) n80 z z fun q13 p14=>go ?_
   exact .frzBox 6 0 conv27 z z<|fr
  ·refine .skip<|.s<|go ?_
   refine .frz 0 11 z z<|.also 44 11 z z<|go ?_
   refine .seq<|.block<|.s<|go ?_
   refine .call0 (c58 fu _ _) n58 z z fun q15=>go ?_
   refine .cd z ?_ ?_
   ·refine .s<|go ?_
    refine .callL0 (c80 fu _) n80 z z fun q16 p17=>go ?_
    exact .frzBox 6 0 conv27 z z<|fr
   ·refine .seq<|.frzBox 1 2 conv27 z z<|.g<|go ?_
    refine .call0 (c59 fu _) n59 z z fun q18=>go ?_
    refine .cd z ?_ ?_
    ·refine .s<|go ?_
     refine .callL0 (c80 fu _) n80 z z fun q19 p20=>go ?_
     exact .frzBox 6 0 conv27 z z<|fr
    ·refine .skip<|.inBlock<|.s<|go ?_
     exact .storeW 4 z z z z ty27<|fr
end Go.Proofs.YtdpigighgmipfaaGreatDoor
