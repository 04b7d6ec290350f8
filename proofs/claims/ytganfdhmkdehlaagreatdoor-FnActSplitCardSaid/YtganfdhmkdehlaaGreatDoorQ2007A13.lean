/- What functions answer. -/
import Derived.Test.YtganfdhmkdehlaaGreatDoorQ2007A11
import Derived.KernelRfl
import Derived.KernelRfl
set_option linter.all false
namespace Go.Proofs.YtganfdhmkdehlaaGreatDoor
open Go Go.HL Tryz
attribute [local irreducible] W WO
def mL (fu:Nat)(a0:ab)(q5:(List Col)×Bool)(q8:ab)(q12:(List aa)):Nat→Int→Option (ab×Int)
 | 0,_=>none
 | n1+1,i14=>cond (decide (i14 < (q8.rows.length:Int))) (cond (decide (0≤i14)&&decide (i14 < (q8.rows.length:Int))) ((f49 fu (⟨q8.first,q12,q8.rows,q8.next⟩:ab) (q8.rows.getD i14.toNat default)).bind fun q16=>(f58 fu q5.1 q16).bind fun q17=>cond (!q17) ((f80 fu a0).bind fun q18=>some (q18,2)) ((mL fu a0 q5 q8 q12 n1) (IntKind.i64.wrap (i14+1)))) none) (cond (decide ((a0.changes.length:Int)=8)) ((f80 fu a0).bind fun q20=>some (q20,4)) (some ((⟨q8.first,q12,q8.rows,q8.next⟩:ab),0)))
def f71 (fu:Nat)(a0:ab)(a1:aa):Option (ab×Int):=(f66 fu a0).bind fun q4=>(f78 fu q4 a1).bind fun q5=>cond (!q5.2) ((f80 fu a0).bind fun q6=>some (q6,1)) ((f80 fu a0).bind fun q8=>cond (decide (q8.changes.length+List.length ([a1]:List aa)≤CAP)) ((BF (q8.changes++([a1]:List aa))).bind fun q12=>mL fu a0 q5 q8 q12 fu 0) none)
theorem n71:Nm prog 113:=nmK func113
theorem c71 (fu:Nat)(a0:ab)(a1:aa):Ctr prog 113 [tTable.va a0,tChange.va a1] [] (f71 fu a0 a1) (fun _ _=>[]) (fun q=>tup [tTable.va q.1,isI .i64 q.2]):=by
 refine .w func113 ntmps113 fun hf A w=>?_
 unfold f71
 refine .s<|.box (T:=tTable) z z fun b1=>.box (T:=tChange) z z fun b2=>.alloc tTableA aS [] bB z fun b3=>.an z z<|.seq<|.pb (c66 fu _) n66 fun q4 h1 k=>.draw 3 [] mix (by kernel_rfl) sts z<|.call0 (c78 fu _ _) n78 z z fun q5=>go ?_
 refine .seq<|.s<|go ?_
 refine .cd z ?_ ?_
 ·refine .s<|go ?_
  refine .callL0 (c80 fu _) n80 z z fun q6 p7=>go ?_
  exact .frzBox 2 0 conv27 z z<|fr
 ·refine .skip<|.s<|go ?_
  refine .callL0 (c80 fu _) n80 z z fun q8 p9=>.alloc tTableA aS [] bB z fun b10=>go ?_
  refine .s<|go ?_
  refine .app (T:=tChange) 2 z z z u56 jR z fun v11=>.call0 (aY.plain (Gc _)) EQ z z fun q12=>.fp z bw z<|.name 29 z fun v13=>.toK 29 z<|go ?_
  refine .seq<|.s<|go ?_
  refine .block<|.frz 1 32 z z<|.boxFrom 0 32 conv27 z z<|.loop<|.drop (.d<|.d<|.c<|.d<|.c<|.d<|.e)<|.keep [2,4,6,8,33,34] [32] z<|(show ∀ (n1:Nat) (i14:Int),W _ _ _ _ _ ⟨[(2,isP b1 0,none),(4,isP b3 0,none),(6,(tL tCol).va q5.1,none),(8,isP b10 0,none),(33,isI .i64 (q8.rows.length:Int),none),(34,isI .i64 i14,none),(32,(tL tRow).va q8.rows,some p9.1)],[boxO b10 tTable (⟨q8.first,q12,q8.rows,q8.next⟩:ab) [],appO 3 p9.1,boxO b3 tTableA (⟨([]:List Col),((.slice none 0 0),([]:List aa)),(.slice none 0 0),(0:Int)⟩:aq) [],boxO b1 tTable a0 []]⟩ (mL fu a0 q5 q8 q12 n1 i14) from ?_) fu _
  intro n1
  induction n1 with
  | zero=>exact fun _=>.stop
  | succ n1 ih1=>
   intro i14
   refine .inLoop<|.s<|go ?_
   refine .seq<|.cd z ?_ ?_
   ·refine .skip<|.seq<|.block<|.s<|go ?_
    refine .alloc tRow d0_37 [] z37 z fun b15=>go ?_
    refine .s<|go ?_
    refine .call0 (aY.plain (c49 fu _ _)) n49 z z fun q16=>.call0 (c58 fu _ _) n58 z z fun q17=>.not z z<|.nil<|.cd z ?_ ?_
    ·refine .s<|go ?_
     refine .callL0 (c80 fu _) n80 z z fun q18 p19=>go ?_
     exact .frzBox 5 0 conv27 z z<|fr
    ·exact fj (ih1 _)
   ·refine .exit z<|.seq<|.s<|go ?_
    refine .cd z ?_ ?_
    ·refine .s<|go ?_
     refine .callL0 (c80 fu _) n80 z z fun q20 p21=>go ?_
     exact .frzBox 4 0 conv27 z z<|fr
    ·refine .skip<|.s<|go ?_
     exact .storeW 2 z z z z ty27<|fr
def f75 (fu:Nat)(a0:ab)(a1:Int)(a2:List Set):Option (ab×Int):=(f48 fu a0 a1).bind fun q3=>cond (decide (q3<0)) ((f80 fu a0).bind fun q4=>some (q4,5)) ((f66 fu a0).bind fun q6=>(f80 fu a0).bind fun q7=>cond (decide (0≤q3)&&decide (q3 < (a0.rows.length:Int))) ((f49 fu a0 (a0.rows.getD q3.toNat default)).bind fun q10=>(f99 fu q6 q10 a2).bind fun q12=>cond (!q12.1) ((f80 fu a0).bind fun q13=>some (q13,1)) (cond (decide (0≤q3)&&decide (q3 < (q7.rows.length:Int))) ((f58 fu q6 q12.2).bind fun q15=>cond (!q15) ((f80 fu a0).bind fun q16=>some (q16,2)) ((f59 fu (⟨q7.first,q7.changes,q7.rows.set q3.toNat (⟨a1,(a0.changes.length:Int),q12.2⟩:Row),q7.next⟩:ab)).bind fun q18=>cond (!q18) ((f80 fu a0).bind fun q19=>some (q19,3)) (some ((⟨q7.first,q7.changes,q7.rows.set q3.toNat (⟨a1,(a0.changes.length:Int),q12.2⟩:Row),q7.next⟩:ab),0)))) none)) none)
theorem n75:Nm prog 107:=nmK func107
theorem c75 (fu:Nat)(a0:ab)(a1:Int)(a2:List Set):Ctr prog 107 [tTable.va a0,isI .i64 a1,(tL tSet).va a2] [] (f75 fu a0 a1 a2) (fun _ _=>[]) (fun q=>tup [tTable.va q.1,isI .i64 q.2]):=by
 refine .w func107 ntmps107 fun hf A w=>?_
 unfold f75
 refine .s<|.box (T:=tTable) z z fun b1=>.alloc tTableA aS [] bB z fun b2=>.an z z<|.s<|go ?_
 refine .call0 (c48 fu _ _) n48 z z fun q3=>.an z z<|.seq<|.s<|go ?_
 refine .cd z ?_ ?_
 ·refine .s<|go ?_
  refine .callL0 (c80 fu _) n80 z z fun q4 p5=>go ?_
  exact .frzBox 2 0 conv27 z z<|fr
 ·refine .skip<|.s<|go ?_
  refine .call0 (c66 fu _) n66 z z fun q6=>.an z z<|.s<|go ?_
  refine .callL0 (c80 fu _) n80 z z fun q7 p8=>.alloc tTableA aS [] bB z fun b9=>go ?_
  refine .seq<|.pT fun h1=>.draw 6 [] mix (by kernel_rfl) sts z<|.callL0 (c49 fu _ _) n49 z z fun q10 v11=>.unRaw 29 z<|.an z z<|.seq<|.s<|go ?_
  refine .call1 0 (c99 fu _ _ _ _) z n99 z z fun q12=>.not z z<|.nil<|.cd z ?_ ?_
  ·refine .s<|go ?_
   refine .callL0 (c80 fu _) n80 z z fun q13 p14=>go ?_
   exact .frzBox 6 0 conv27 z z<|fr
  ·refine .skip<|.s<|go ?_
   refine .frz 0 11 z z<|.also 44 11 z z<|go ?_
   refine .seq<|.block<|.s<|go ?_
   refine .call0 (c58 fu _ _) n58 z z fun q15=>go ?_
   refine .cd z ?_ ?_
   ·refine .s<|go ?_
    refine .callL0 (c80 fu _) n80 z z fun q16 p17=>go ?_
    exact .frzBox 6 0 conv27 z z<|fr
   ·refine .seq<|.frzBox 1 2 conv27 z z<|.g<|go ?_
    refine .call0 (c59 fu _) n59 z z fun q18=>go ?_
    refine .cd z ?_ ?_
    ·refine .s<|go ?_
     refine .callL0 (c80 fu _) n80 z z fun q19 p20=>go ?_
     exact .frzBox 6 0 conv27 z z<|fr
    ·refine .skip<|.inBlock<|.s<|go ?_
     exact .storeW 4 z z z z ty27<|fr
end Go.Proofs.YtganfdhmkdehlaaGreatDoor
