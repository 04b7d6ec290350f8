/- Functions of the program: what each answers, and that the machine answers so. -/
import Derived.Test.YtganfdhmkdehlaaGreatDoorQ2004A3
import Derived.KernelRfl
set_option linter.all false
namespace Go.Proofs.YtganfdhmkdehlaaGreatDoor
open Go Go.HL Tryz
attribute [local irreducible] W WO
def gZ (i2:Int)(rec1:Int→Option Bool)(i3:Bool):Option Bool:=cond i3 (some false) (rec1 (IntKind.i64.wrap (i2+1)))
def eu (fu:Nat)(a0:List Col)(a1:List Val):Nat→Int→Option Bool
 | 0,_=>none
 | n1+1,i2=>cond (decide (i2 < (a1.length:Int))) (cond (decide (0≤i2)&&decide (i2 < (a1.length:Int))) ((uU fu (a1.getD i2.toNat default)).bind fun q4=>cond (!q4) (gZ i2 (eu fu a0 a1 n1) true) (cond (decide (0≤i2)&&decide (i2 < (a1.length:Int))) (cond (!decide (((a1.getD i2.toNat default).kind)=0)) (cond (decide (0≤i2)&&decide (i2 < (a1.length:Int))) (cond (decide (0≤i2)&&decide (i2 < (a0.length:Int))) (cond (!decide (((a1.getD i2.toNat default).kind)=((a0.getD i2.toNat default).kind))) (gZ i2 (eu fu a0 a1 n1) true) (cond (decide (0≤i2)&&decide (i2 < (a0.length:Int))) (cond ((a0.getD i2.toNat default).need) (cond (decide (0≤i2)&&decide (i2 < (a1.length:Int))) (gZ i2 (eu fu a0 a1 n1) (decide (((a1.getD i2.toNat default).kind)=0))) none) (gZ i2 (eu fu a0 a1 n1) false)) none)) none) none) (cond (decide (0≤i2)&&decide (i2 < (a0.length:Int))) (cond ((a0.getD i2.toNat default).need) (cond (decide (0≤i2)&&decide (i2 < (a1.length:Int))) (gZ i2 (eu fu a0 a1 n1) (decide (((a1.getD i2.toNat default).kind)=0))) none) (gZ i2 (eu fu a0 a1 n1) false)) none)) none)) none) (some true)
def re (fu:Nat)(a0:List Col)(a1:List Val)(i1:Bool):Option Bool:=cond i1 (some false) (eu fu a0 a1 fu 0)
def f88 (fu:Nat)(a0:List Col)(a1:List Val):Option Bool:=(f86 fu a0).bind fun q5=>cond (!q5) (re fu a0 a1 true) (re fu a0 a1 (!decide ((a1.length:Int)=(a0.length:Int))))
theorem n88:Nm prog 210:=⟨_,_,func210,by kernel_rfl,z⟩
theorem c88 (fu:Nat)(a0:List Col)(a1:List Val):Ctr prog 210 [(tL tCol).va a0,(tL tVal).va a1] [] (f88 fu a0 a1) (fun _ _=>[]) (fun q=>isB q):=by
 refine .w func210 ntmps210 fun hf A w=>?_
 unfold f88
 refine .s<|.an z z<|.seq<|.seq<|.join1 (fun i1=>⟨[(0,(tL tCol).va a0,none),(1,(tL tVal).va a1,none),(15,isB i1,none)],[]⟩) (fun i1=>re fu a0 a1 i1) (fun i1=>?_) (fun hj1=>?_)
 ·refine .cd z ?_ ?_
  ·exact fr
  ·refine .skip<|.seq<|.s<|.an z z<|.block<|.loop<|.keep [0,1,5] [] z<|(show ∀ (n1:Nat) (i2:Int),W _ _ _ _ _ ⟨[(0,(tL tCol).va a0,none),(1,(tL tVal).va a1,none),(5,isI .i64 i2,none)],[]⟩ (eu fu a0 a1 n1 i2) from ?_) fu _
   intro n1
   induction n1 with
   | zero=>exact fun _=>.stop
   | succ n1 ih1=>
    intro i2
    refine .inLoop<|.seq<|.s<|go ?_
    refine .cd z ?_ ?_
    ·refine .skip<|.seq<|.block<|.seq<|.join1 (fun i3=>⟨[(0,(tL tCol).va a0,none),(1,(tL tVal).va a1,none),(5,isI .i64 i2,none),(63,isB i3,none)],[]⟩) (fun i3=>gZ i2 (eu fu a0 a1 n1) i3) (fun i3=>?_) (fun hj3=>?_)
     ·refine .cd z ?_ ?_
      ·exact fr
      ·exact fj (ih1 _)
     ·refine .pT fun h13=>.pb (c119 fu _) n119 fun q4 h14 k=>.pcond (fun h15=>?_) (fun h15=>?_)
      ·exact .draw 36 [] mix (by kernel_rfl) sts z<|fj (hj3 _)
      ·refine .pT fun h16=>.pcond (fun h17=>?_) (fun h17=>?_)
       ·refine .pT fun h18=>.pT fun h19=>.pcond (fun h20=>?_) (fun h20=>?_)
        ·exact .draw 36 [] mix (by kernel_rfl) sts z<|fj (hj3 _)
        ·refine .pT fun h21=>.pcond (fun h22=>?_) (fun h22=>?_)
         ·exact .draw 36 [] mix (by kernel_rfl) sts z<|fj (hj3 _)
         ·exact .draw 36 [] mix (by kernel_rfl) sts z<|fj (hj3 _)
       ·refine .pT fun h23=>.pcond (fun h24=>?_) (fun h24=>?_)
        ·exact .draw 36 [] mix (by kernel_rfl) sts z<|fj (hj3 _)
        ·exact .draw 36 [] mix (by kernel_rfl) sts z<|fj (hj3 _)
    ·exact fr
 ·refine .g<|.m z z<|.call0 (c86 fu _) n86 z z fun q5=>go ?_
  refine .split 9 z (fun _=>?_) (fun _=>?_)
  ·exact fj (hj1 _)
  ·exact fj (hj1 _)
def nr (i4:Int)(rec1:Int→Option Bool)(rec2:Int→Option Bool)(rec3:Int→Option Bool)(i5:Bool):Option Bool:=cond i5 (some true) (rec3 (IntKind.i64.wrap (i4+1)))
def jB (a1:List (List Val))(i1:Int)(i2:Int)(rec1:Int→Option Bool)(rec2:Int→Option Bool):Nat→Int→Option Bool
 | 0,_=>none
 | n3+1,i4=>cond (decide (i4<i2)) (cond (decide (0≤i2)&&decide (i2 < (a1.length:Int))) (cond (decide (0≤i1)&&decide (i1 < (List.length (a1.getD i2.toNat default):Int))) (cond (!decide ((((a1.getD i2.toNat default).getD i1.toNat default).kind)=0)) (cond (decide (0≤i2)&&decide (i2 < (a1.length:Int))) (cond (decide (0≤i1)&&decide (i1 < (List.length (a1.getD i2.toNat default):Int))) (cond (decide (0≤i4)&&decide (i4 < (a1.length:Int))) (cond (decide (0≤i1)&&decide (i1 < (List.length (a1.getD i4.toNat default):Int))) (nr i4 rec1 rec2 (jB a1 i1 i2 rec1 rec2 n3) (decide (((a1.getD i2.toNat default).getD i1.toNat default)=((a1.getD i4.toNat default).getD i1.toNat default)))) none) none) none) none) (nr i4 rec1 rec2 (jB a1 i1 i2 rec1 rec2 n3) false)) none) none) (rec2 (IntKind.i64.wrap (i2+1)))
def nt (fu:Nat)(a1:List (List Val))(i1:Int)(i2:Int)(rec1:Int→Option Bool)(rec2:Int→Option Bool)(i3:Bool):Option Bool:=cond i3 (jB a1 i1 i2 rec1 rec2 fu 0) (rec1 (IntKind.i64.wrap (i1+1)))
def dx (fu:Nat)(a0:List Col)(a1:List (List Val))(i1:Int)(rec1:Int→Option Bool):Nat→Int→Option Bool
 | 0,_=>none
 | n2+1,i2=>cond (decide (i2 < (a1.length:Int))) (cond (decide (0≤i1)&&decide (i1 < (a0.length:Int))) (nt fu a1 i1 i2 rec1 (dx fu a0 a1 i1 rec1 n2) ((a0.getD i1.toNat default).once)) none) (nt fu a1 i1 i2 rec1 (dx fu a0 a1 i1 rec1 n2) false)
def bH (fu:Nat)(a0:List Col)(a1:List (List Val)):Nat→Int→Option Bool
 | 0,_=>none
 | n1+1,i1=>cond (decide (i1 < (a0.length:Int))) (dx fu a0 a1 i1 (bH fu a0 a1 n1) fu 0) (some false)
def f52 (fu:Nat)(a0:List Col)(a1:List (List Val)):Option Bool:=bH fu a0 a1 fu 0
theorem n52:Nm prog 178:=⟨_,_,func178,by kernel_rfl,z⟩
theorem c52 (fu:Nat)(a0:List Col)(a1:List (List Val)):Ctr prog 178 [(tL tCol).va a0,(tL (tL tVal)).va a1] [] (f52 fu a0 a1) (fun _ _=>[]) (fun q=>isB q):=by
 refine .w func178 ntmps178 fun hf A w=>?_
 unfold f52
 refine .s<|.an z z<|.seq<|.s<|.an z z<|.block<|.loop<|.keep [0,1,5] [] z<|(show ∀ (n1:Nat) (i1:Int),W _ _ _ _ _ ⟨[(0,(tL tCol).va a0,none),(1,(tL (tL tVal)).va a1,none),(5,isI .i64 i1,none)],[]⟩ (bH fu a0 a1 n1 i1) from ?_) fu _
 intro n1
 induction n1 with
 | zero=>exact fun _=>.stop
 | succ n1 ih1=>
  intro i1
  refine .inLoop<|.seq<|.s<|go ?_
  refine .cd z ?_ ?_
  ·refine .skip<|.seq<|.block<|.s<|.an z z<|.block<|.loop<|.keep [0,1,5,6] [] z<|(show ∀ (n2:Nat) (i2:Int),W _ _ _ _ _ ⟨[(0,(tL tCol).va a0,none),(1,(tL (tL tVal)).va a1,none),(5,isI .i64 i1,none),(6,isI .i64 i2,none)],[]⟩ (dx fu a0 a1 i1 (bH fu a0 a1 n1) n2 i2) from ?_) fu _
   intro n2
   induction n2 with
   | zero=>exact fun _=>.stop
   | succ n2 ih2=>
    intro i2
    refine .inLoop<|.seq<|.seq<|.join1 (fun i3=>⟨[(0,(tL tCol).va a0,none),(1,(tL (tL tVal)).va a1,none),(5,isI .i64 i1,none),(6,isI .i64 i2,none),(24,isB i3,none)],[]⟩) (fun i3=>nt fu a1 i1 i2 (bH fu a0 a1 n1) (dx fu a0 a1 i1 (bH fu a0 a1 n1) n2) i3) (fun i3=>?_) (fun hj10=>?_)
    ·refine .cd z ?_ ?_
     ·refine .skip<|.seq<|.block<|.s<|.an z z<|.block<|.loop<|.keep [0,1,5,6,7] [] z<|(show ∀ (n3:Nat) (i4:Int),W _ _ _ _ _ ⟨[(0,(tL tCol).va a0,none),(1,(tL (tL tVal)).va a1,none),(5,isI .i64 i1,none),(6,isI .i64 i2,none),(7,isI .i64 i4,none)],[]⟩ (jB a1 i1 i2 (bH fu a0 a1 n1) (dx fu a0 a1 i1 (bH fu a0 a1 n1) n2) n3 i4) from ?_) fu _
      intro n3
      induction n3 with
      | zero=>exact fun _=>.stop
      | succ n3 ih3=>
       intro i4
       refine .inLoop<|.seq<|.s<|go ?_
       refine .cd z ?_ ?_
       ·refine .skip<|.seq<|.block<|.seq<|.join1 (fun i5=>⟨[(0,(tL tCol).va a0,none),(1,(tL (tL tVal)).va a1,none),(5,isI .i64 i1,none),(6,isI .i64 i2,none),(7,isI .i64 i4,none),(57,isB i5,none)],[]⟩) (fun i5=>nr i4 (bH fu a0 a1 n1) (dx fu a0 a1 i1 (bH fu a0 a1 n1) n2) (jB a1 i1 i2 (bH fu a0 a1 n1) (dx fu a0 a1 i1 (bH fu a0 a1 n1) n2) n3) i5) (fun i5=>?_) (fun hj12=>?_)
        ·refine .cd z ?_ ?_
         ·exact fr
         ·exact fj (ih3 _)
        ·refine .pT fun h50=>.pT fun h51=>.pcond (fun h52=>?_) (fun h52=>?_)
         ·exact .pT fun h53=>.pT fun h54=>.pT fun h55=>.pT fun h56=>.draw 24 [] mix (by kernel_rfl) sts z<|.on z z<|.eqT eq47 z z z<|fj (hj12 _)
         ·exact .draw 24 [] mix (by kernel_rfl) sts z<|fj (hj12 _)
       ·exact fj (ih2 _)
     ·exact fj (ih1 _)
    ·refine .g<|go ?_
     refine .split 18 z (fun _=>?_) (fun _=>?_)
     ·exact fj (hj10 _)
     ·exact fj (hj10 _)
  ·exact fr
def lD (i5:Int)(rec1:Int→(List (List Val))→Option Int)(i8:List (List Val)):Option Int:=rec1 (IntKind.i64.wrap (i5+1)) i8
def fI (fu:Nat)(a0:ab)(a1:Row)(q3:(List Col)):Nat→Int→(List (List Val))→Option Int
 | 0,_,_=>none
 | n1+1,i5,i6=>cond (decide (i5 < (a0.rows.length:Int))) (cond (decide (0≤i5)&&decide (i5 < (a0.rows.length:Int))) (cond (!decide (((a0.rows.getD i5.toNat default).id)=a1.id)) (cond (decide (0≤i5)&&decide (i5 < (a0.rows.length:Int))) ((f90 fu a0 (a0.rows.getD i5.toNat default)).bind fun q10=>cond (decide (i6.length+List.length ([q10]:List (List Val))≤CAP)) (lD i5 (fI fu a0 a1 q3 n1) (i6++([q10]:List (List Val)))) none) none) (lD i5 (fI fu a0 a1 q3 n1) i6)) none) ((f88 fu q3 a1.vals).bind fun q12=>cond (!q12) (some 2) ((f52 fu q3 i6).bind fun q13=>cond q13 (some 3) (some 0)))
def f102 (fu:Nat)(a0:ab)(a1:Row):Option Int:=(f53 fu a0).bind fun q3=>fI fu a0 a1 q3 fu 0 ([a1.vals]:List (List Val))
theorem n102:Nm prog 218:=⟨_,_,func218,by kernel_rfl,z⟩
def kr (i5:Int)(rec1:Int→(List (List Val))→Option Int)(i8:List (List Val)):Option Int:=rec1 (IntKind.i64.wrap (i5+1)) i8
def f102o_l1 (fu:Nat)(a0:ab)(a1:Row)(q3:(List Col)):Nat→Int→(List (List Val))→Option Int
 | 0,_,_=>none
 | n1+1,i5,i6=>cond (decide (i5 < (a0.rows.length:Int))) (cond (decide (0≤i5)&&decide (i5 < (a0.rows.length:Int))) (cond (!decide (((a0.rows.getD i5.toNat default).id)=a1.id)) (cond (decide (0≤i5)&&decide (i5 < (a0.rows.length:Int))) ((Ai fu a0 (a0.rows.getD i5.toNat default)).bind fun q10=>cond (decide (i6.length+List.length ([q10]:List (List Val))≤CAP)) (kr i5 (f102o_l1 fu a0 a1 q3 n1) (i6++([q10]:List (List Val)))) none) none) (kr i5 (f102o_l1 fu a0 a1 q3 n1) i6)) none) ((f88 fu q3 a1.vals).bind fun q12=>cond (!q12) (some 2) ((f52 fu q3 i6).bind fun q13=>cond q13 (some 3) (some 0)))
def f102o (fu:Nat)(a0:ab)(a1:Row):Option Int:=(yO fu a0).bind fun q3=>f102o_l1 fu a0 a1 q3 fu 0 ([a1.vals]:List (List Val))
attribute [local semireducible] W WO
theorem c102o (fu:Nat)(vp0:Value)(cp0:Value)(a0:ab)(a1:Row):Ctr prog 218 [tTableA.va (⟨a0.first,(cp0,a0.changes),vp0,a0.next⟩:ap),tRow.va a1] [arrO tRow vp0 a0.rows] (f102o fu a0 a1) (fun _ _=>[arrO tRow vp0 a0.rows]) (fun q=>isI .i64 q):=by
 refine Ctr.of_W func218 z ntmps218 z fun A w=>?_
 unfold f102o
 refine .s<|.box (T:=tTableA) z z fun b1=>.box (T:=tRow) z z fun b2=>.an z z<|.s<|.lp 1 (Fld.self _) z z ty27 z<|.callR 2 (c53o fu _ _ _) z n53 z z fun q3=>.an z z<|.s<|.fp z cS z<|.lp 0 dv z z n9 z<|.lit (T:=(tL tVal)) Ag Aw z z (.cons z<|.nil) z fun v4=>.an z z<|.seq<|.s<|.an z z<|.block<|.loop<|.keep [2,3,5,7] [6] z<|(show ∀ (n1:Nat) (i5:Int) (i6:List (List Val)) (v7:Value),W _ _ _ _ _ ⟨[(2,isP b1 0,none),(3,isP b2 0,none),(5,(tL tCol).va q3,none),(7,isI .i64 i5,none),(6,(tL (tL tVal)).va i6,some v7)],[appO 1 v7,boxO b2 tRow a1 [],boxO b1 tTableA (⟨a0.first,(cp0,a0.changes),vp0,a0.next⟩:ap) [],arrO tRow vp0 a0.rows]⟩ (f102o_l1 fu a0 a1 q3 n1 i5 i6) from ?_) fu _ _ _
 intro n1
 induction n1 with
 | zero=>exact fun _ _ _=>.stop
 | succ n1 ih1=>
  intro i5 i6 v7
  refine .inLoop<|.seq<|.s<|.m z z<|.fp z fa27_2 z<|.loadR 2 fTableA_2 z z ty25 z<|.know 15 z<|.lenA 3 z z u57 z<|.bin z z z z<|.nil<|.cd z ?_ ?_
  ·refine .skip<|.seq<|.block<|.seq<|.pT fun h3=>?_
   refine .draw 8 [] mix (by kernel_rfl) (.j (fun o=>.fp (o z) fa27_2 z)<|.k (fun p e=>.loadR 2 fTableA_2 (e.op z) (p.get z z) ty25 z)<|.j (fun o=>.m (o z) z)<|.k (fun p e h=>.useC h3<|.elemA 3 (e.op z) (e.op z) (p.get z z) u57 ty37 z<|h)<|.j (fun o=>.fieldA (o z) bY z)<|.k (fun p e=>.loadA 3 bG (e.op z) (p.get z z) ty3 z)<|.j (fun o=>.fp (o z) bY z)<|.k (fun p e=>.lp 1 bG (e.op z) (p.get z z) ty3 z)<|.nil) z<|.bin z z z z<|.nil<|.join2 (fun i8 v9=>⟨[(2,isP b1 0,none),(3,isP b2 0,none),(5,(tL tCol).va q3,none),(7,isI .i64 i5,none),(6,(tL (tL tVal)).va i8,some v9)],[appO 1 v9,boxO b2 tRow a1 [],boxO b1 tTableA (⟨a0.first,(cp0,a0.changes),vp0,a0.next⟩:ap) [],arrO tRow vp0 a0.rows]⟩) (fun i8 v9=>kr i5 (f102o_l1 fu a0 a1 q3 n1) i8) (fun i8 v9=>?_) (fun hj2=>?_)
   ·exact .inBlock<|.g<|.m z z<|.bin z z z z<|.an z z<|.keep [2,3,5,7] [6] z (ih1 _ _ _)
   ·refine .cd z ?_ ?_
    ·refine .pT fun h4=>?_
     exact .draw 7 [0] mix (by kernel_rfl) (.j (fun o=>.m (o z) z)<|.k (fun p e=>.lp 2 (Fld.self _) (e.op z) (p.get z z) ty27 z)<|.j (fun o=>.fp (o z) fa27_2 z)<|.k (fun p e=>.loadR 2 fTableA_2 (e.op z) (p.get z z) ty25 z)<|.j (fun o=>.m (o z) z)<|.k (fun p e h=>.useC h4<|.elemA 3 (e.op z) (e.op z) (p.get z z) u57 ty37 z<|h)<|.k (fun p e=>.loadA 3 (Fld.self _) (e.op z) (p.get z z) ty37 z)<|.nil) z<|.callR 3 (c90o fu _ _ _ _) z n90 z z fun q10=>.litN (T:=(tL tVal)) Ag Aw z z (.cons z<|.nil) z<|.app (T:=(tL tVal)) 0 z z z Ag Aw z fun v11=>.an z z<|.keep [2,3,5,7] [6] z (hj2 _ _)
    ·exact .skip<|.keep [2,3,5,7] [6] z (hj2 _ _)
  ·refine .exit z<|.seq<|.block<|.s<|.m z z<|.fp z cS z<|.lp 1 dv z z n9 z<|.call0 (c88 fu _ _) n88 z z fun q12=>.not z z<|.an z z<|.cd z ?_ ?_
   ·exact .s<|.an z z<|.ret1 func218 results218 (.tmp z) z (fun _ _=>.c<|.c<|.c<|.d<|.e)
   ·refine .s<|.m z z<|.m z z<|.call0 (c52 fu _ _) n52 z z fun q13=>.an z z<|.cd z ?_ ?_
    ·exact .s<|.an z z<|.ret1 func218 results218 (.tmp z) z (fun _ _=>.c<|.c<|.c<|.d<|.e)
    ·exact .skip<|.inBlock<|.s<|.an z z<|.ret1 func218 results218 (.tmp z) z (fun _ _=>.c<|.c<|.c<|.d<|.e)
attribute [local irreducible] W WO
def uA (a0:ab)(q8:Int)(i9:List Row):Option (ab×Int):=some ((⟨a0.first,a0.changes,i9,a0.next⟩:ab),q8)
def f76 (fu:Nat)(a0:ab)(a1:Int)(a2:List Set):Option (ab×Int):=(f82o fu a0 a1).bind fun q3=>cond (decide (q3<0)) (some (a0,5)) ((yO fu a0).bind fun q4=>cond (decide (0≤q3)&&decide (q3 < (a0.rows.length:Int))) ((Ai fu a0 (a0.rows.getD q3.toNat default)).bind fun q5=>(At fu q4 q5 a2).bind fun q6=>cond (!q6.2) (some (a0,1)) ((f102o fu a0 (⟨a1,(a0.changes.length:Int),q6.1⟩:Row)).bind fun q8=>cond (decide (q8=0)) (cond (decide (0≤q3)&&decide (q3 < (a0.rows.length:Int))) (uA a0 q8 (a0.rows.set q3.toNat (⟨a1,(a0.changes.length:Int),q6.1⟩:Row))) none) (uA a0 q8 a0.rows))) none)
theorem n76:Nm prog 202:=⟨_,_,func202,by kernel_rfl,z⟩
theorem c76 (fu:Nat)(vp0:Value)(cp0:Value)(a0:ab)(a1:Int)(a2:List Set):aW prog 202 [tTableA.va (⟨a0.first,(cp0,a0.changes),vp0,a0.next⟩:ap),isI .i64 a1,(tL tSet).va a2] [arrO tRow vp0 a0.rows] (f76 fu a0 a1 a2) (fun v=>tb (yt 0 v)) (fun q p=>[arrO tRow p.1 q.1.rows]) (fun q p=>tup [tTableA.va (⟨q.1.first,(p.2,q.1.changes),p.1,q.1.next⟩:ap),isI .i64 q.2]):=by
 refine .w func202 ntmps202 fun hf A w=>?_
 unfold f76
 refine .s<|.box (T:=tTableA) z z fun b1=>.alloc tTableA aS [] bA z fun b2=>.an z z<|.s<|go ?_
 refine .callR 2 (c82o fu _ _ _ _) z n82 z z fun q3=>.an z z<|.seq<|.s<|go ?_
 refine .cd z ?_ ?_
 ·exact .s<|.lp 1 (Fld.self _) z z ty27 z<|.storeP 0 (Fld.self _) z z z ty27<|.an z z<|.retL2 (vp0,cp0) func202 results202 (.cell 0 z z ty27) (.tmp z) z (fun _ _ _ h=>bI h) (.c<|.c<|.d<|.e)
 ·refine .skip<|.seq<|.pbind fun q4 h1=>.pT fun h2=>.pbind fun q5 h3=>.draw 10 [] mix (by kernel_rfl) (.k (fun p e=>.lp 1 (Fld.self _) (e.op z) (p.get z z) ty27 z)<|.k (fun p e h=>.bindE h1 (fun r h=>.callR 2 (c53o fu _ _ _) (p.get z z) n53 (e.ops z) z h)<|h)<|.k (fun p e=>.lp 1 (Fld.self _) (e.op z) (p.get z z) ty27 z)<|.j (fun o=>.fp (o z) fa27_2 z)<|.k (fun p e=>.loadR 1 fTableA_2 (e.op z) (p.get z z) ty25 z)<|.j (fun o=>.m (o z) z)<|.k (fun p e h=>.useC h2<|.elemA 2 (e.op z) (e.op z) (p.get z z) u57 ty37 z<|h)<|.k (fun p e=>.loadA 2 (Fld.self _) (e.op z) (p.get z z) ty37 z)<|.k (fun p e h=>.bindE h3 (fun r h=>.callR 2 (c90o fu _ _ _ _) (p.get z z) n90 (e.ops z) z h)<|h)<|.j (fun o=>.m (o z) z)<|.nil) z<|.call0 (c100 fu _ _ _) n100 z z fun q6=>go ?_
  refine .seq<|.s<|go ?_
  refine .cd z ?_ ?_
  ·exact .s<|.lp 1 (Fld.self _) z z ty27 z<|.storeP 0 (Fld.self _) z z z ty27<|.an z z<|.retL2 (vp0,cp0) func202 results202 (.cell 0 z z ty27) (.tmp z) z (fun _ _ _ h=>bI h) (.c<|.c<|.d<|.e)
  ·refine .skip<|.s<|go ?_
   refine .alloc tRow d0_37 [] z37 z fun b7=>go ?_
   refine .s<|go ?_
   refine .callR 3 (c102o fu _ _ _ _) z n102 z z fun q8=>.an z z<|.seq<|.s<|go ?_
   refine .join1 (fun i9=>⟨[(3,isP b1 0,none),(6,isP b2 0,none),(12,isI .i64 q8,none)],[boxO b2 tTableA (⟨([]:List Col),((.slice none 0 0),([]:List aa)),(.slice none 0 0),(0:Int)⟩:ap) [],boxO b1 tTableA (⟨a0.first,(cp0,a0.changes),vp0,a0.next⟩:ap) [],arrO tRow vp0 i9]⟩) (fun i9=>uA a0 q8 i9) (fun i9=>?_) (fun hj1=>?_)
   ·exact .s<|.lp 1 (Fld.self _) z z ty27 z<|.m z z<|.storeP 0 (Fld.self _) z z z ty27<|.an z z<|.retL2 (vp0,cp0) func202 results202 (.cell 0 z z ty27) (.tmp z) z (fun _ _ _ h=>bI h) (.c<|.c<|.d<|.e)
   ·refine .cd z ?_ ?_
    ·exact fj (hj1 _)
    ·exact fj (hj1 _)
end Go.Proofs.YtganfdhmkdehlaaGreatDoor
