/- Functions of the program: what each answers, and that the machine answers so. -/
import Derived.Test.YtganfdhmkdehlaaGreatDoorQ2003A5
import Derived.KernelRfl
set_option linter.all false
namespace Go.Proofs.YtganfdhmkdehlaaGreatDoor
open Go Go.HL Tryz
attribute [local irreducible] W WO
def iZ (a0:List Col):Nat→Int→(List Val)→Option (List Val)
 | 0,_,_=>none
 | n1+1,i2,i3=>cond (decide (i2 < (a0.length:Int))) (cond (decide (0≤i2)&&decide (i2 < (a0.length:Int))) (cond (decide (i3.length+List.length ([(a0.getD i2.toNat default).def_]:List Val)≤CAP)) ((iZ a0 n1) (IntKind.i64.wrap (i2+1)) (i3++([(a0.getD i2.toNat default).def_]:List Val))) none) none) (some i3)
def AU (fu:Nat)(a0:List Col):Option (List Val):=iZ a0 fu 0 ([]:List Val)
theorem n101:Nm prog 217:=⟨_,_,func217,by kernel_rfl,z⟩
theorem c101 (fu:Nat)(a0:List Col):Ctr prog 217 [(tL tCol).va a0] [] (AU fu a0) (fun _ _=>[]) (fun q=>(tL tVal).va q):=by
 refine .w func217 ntmps217 fun hf A w=>?_
 unfold AU
 refine .s<|.assignNil tVal z<|.nil<|.s<|.lit (T:=tVal) u62 gA z z (.nil) z fun v1=>.an z z<|.seq<|.s<|.an z z<|.block<|.loop<|.keep [0,4] [3] z<|(show ∀ (n1:Nat) (i2:Int) (i3:List Val) (v4:Value),W _ _ _ _ _ ⟨[(0,(tL tCol).va a0,none),(4,isI .i64 i2,none),(3,(tL tVal).va i3,some v4)],[appO 3 v4]⟩ (iZ a0 n1 i2 i3) from ?_) fu _ _ _
 intro n1
 induction n1 with
 | zero=>exact fun _ _ _=>.stop
 | succ n1 ih1=>
  intro i2 i3 v4
  refine .inLoop<|.seq<|.s<|go ?_
  refine .cd z ?_ ?_
  ·refine .skip<|.seq<|.block<|.g<|go ?_
   exact .app (T:=tVal) 0 z z z u62 gA z fun v5=>fj (ih1 _ _ _)
  ·exact fr
def qR (a0:ab)(q5:(List Val)×Bool)(i9:Int):Option (ab×Int):=cond (!decide (i9=0)) (some (a0,i9)) (cond (decide (a0.rows.length+List.length ([(⟨a0.next,(a0.changes.length:Int),q5.1⟩:Row)]:List Row)≤CAP)) (some ((⟨a0.first,a0.changes,a0.rows++([(⟨a0.next,(a0.changes.length:Int),q5.1⟩:Row)]:List Row),IntKind.i64.wrap (a0.next+1)⟩:ab),i9)) none)
def oi (a0:ab)(q5:(List Val)×Bool)(q7:Int)(i8:Bool):Option (ab×Int):=cond i8 (qR a0 q5 4) (qR a0 q5 q7)
def f65 (fu:Nat)(a0:ab)(a1:List Set):Option (ab×Int):=(yd fu a0).bind fun q3=>(AU fu q3).bind fun q4=>(zP fu q3 q4 a1).bind fun q5=>cond (!q5.2) (some (a0,1)) ((f102o fu a0 (⟨a0.next,(a0.changes.length:Int),q5.1⟩:Row)).bind fun q7=>cond (decide (q7=0)) (cond (decide (8≤(a0.rows.length:Int))) (oi a0 q5 q7 true) (oi a0 q5 q7 (decide (60≤a0.next)))) (oi a0 q5 q7 false))
theorem n65:Nm prog 200:=⟨_,_,func200,by kernel_rfl,z⟩
theorem c65 (fu:Nat)(vp0:Value)(cp0:Value)(a0:ab)(a1:List Set):aS prog 200 [tTableA.va (⟨a0.first,(cp0,a0.changes),vp0,a0.next⟩:ay),(tL tSet).va a1] [arrO tRow vp0 a0.rows] (f65 fu a0 a1) (fun v=>sL (xG 0 v)) (fun q p=>[arrO tRow p.1 q.1.rows]) (fun q p=>tup [tTableA.va (⟨q.1.first,(p.2,q.1.changes),p.1,q.1.next⟩:ay),isI .i64 q.2]):=by
 refine .w func200 ntmps200 fun hf A w=>?_
 unfold f65
 refine .s<|.box (T:=tTableA) z z fun b1=>.alloc tTableA a6 [] cv z fun b2=>.an z z<|.s<|go ?_
 refine .callR 2 (c53o fu _ _ _) z n53 z z fun q3=>.an z z<|.s<|go ?_
 refine .call0 (c101 fu _) n101 z z fun q4=>.m z z<|.call0 (c100 fu _ _ _) n100 z z fun q5=>go ?_
 refine .seq<|.s<|go ?_
 refine .cd z ?_ ?_
 ·exact .s<|.lp 1 (Fld.self _) z z aM z<|.storeP 0 (Fld.self _) z z z aM<|.an z z<|.retL2 (vp0,cp0) func200 results200 (.cell 0 z z aM) (.tmp z) z (fun _ _ _ h=>bR h) (.c<|.c<|.d<|.e)
 ·refine .skip<|.s<|go ?_
  refine .alloc tRow d0_37 [] z37 z fun b6=>go ?_
  refine .s<|go ?_
  refine .callR 3 (c102o fu _ _ _ _) z n102 z z fun q7=>.an z z<|.seq<|.seq<|.join1 (fun i8=>⟨[(2,isP b1 0,none),(4,isP b2 0,none),(9,isP b6 0,none),(10,isI .i64 q7,none),(46,isB i8,none)],[boxO b6 tRow (⟨a0.next,(a0.changes.length:Int),q5.1⟩:Row) [],boxO b2 tTableA (⟨([]:List Col),((.slice none 0 0),([]:List aa)),(.slice none 0 0),(0:Int)⟩:ay) [],boxO b1 tTableA (⟨a0.first,(cp0,a0.changes),vp0,a0.next⟩:ay) [],arrO tRow vp0 a0.rows]⟩) (fun i8=>oi a0 q5 q7 i8) (fun i8=>?_) (fun hj1=>?_)
  ·refine .join1 (fun i9=>⟨[(2,isP b1 0,none),(4,isP b2 0,none),(9,isP b6 0,none),(10,isI .i64 i9,none)],[boxO b6 tRow (⟨a0.next,(a0.changes.length:Int),q5.1⟩:Row) [],boxO b2 tTableA (⟨([]:List Col),((.slice none 0 0),([]:List aa)),(.slice none 0 0),(0:Int)⟩:ay) [],boxO b1 tTableA (⟨a0.first,(cp0,a0.changes),vp0,a0.next⟩:ay) [],arrO tRow vp0 a0.rows]⟩) (fun i9=>qR a0 q5 i9) (fun i9=>?_) (fun hj2=>?_)
   ·refine .seq<|.s<|go ?_
    refine .cd z ?_ ?_
    ·exact .s<|.lp 2 (Fld.self _) z z aM z<|.m z z<|.storeP 1 (Fld.self _) z z z aM<|.an z z<|.retL2 (vp0,cp0) func200 results200 (.cell 1 z z aM) (.tmp z) z (fun _ _ _ h=>bR h) (.c<|.c<|.c<|.d<|.e)
    ·refine .skip<|.s<|go ?_
     refine .appA (T:=tRow) 3 z z z u57 lH z fun v10=>.fp z fa27_2 z<|.toRaw (T:=tRow) 3 55 z z<|go ?_
     refine .s<|go ?_
     exact .s<|.lp 2 (Fld.self _) z z aM z<|.m z z<|.storeP 1 (Fld.self _) z z z aM<|.an z z<|.retL2 (v10,cp0) func200 results200 (.cell 1 z z aM) (.tmp z) z (fun _ _ _ h=>bR h) (.c<|.c<|.c<|.d<|.e)
   ·refine .cd z ?_ ?_
    ·exact fj (hj2 _)
    ·exact fj (hj2 _)
  ·refine .g<|go ?_
   refine .split 36 z (fun _=>?_) (fun _=>?_)
   ·refine go ?_
    refine .split 41 z (fun _=>?_) (fun _=>?_)
    ·exact fj (hj1 _)
    ·exact fj (hj1 _)
   ·exact fj (hj1 _)
end Go.Proofs.YtganfdhmkdehlaaGreatDoor
