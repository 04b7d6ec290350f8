/- What functions answer. -/
import Derived.Test.YtganfdhmkdehlaaGreatDoorQ2006B19
import Derived.KernelRfl
set_option linter.all false
namespace Go.Proofs.YtganfdhmkdehlaaGreatDoor
open Go Go.HL Tryz
attribute [local irreducible] W WO
def ki (i5:Int)(i16:Rd)(rec1:Int→(List aO)→ac→Rd→Option ((List aO)×Rd))(i17:List aO)(i19:ac):Option ((List aO)×Rd):=rec1 (IntKind.i64.wrap (i5-1)) i17 i19 i16
def iv (i5:Int)(i6:List aO)(i8:ac)(q11:aO×Rd)(q13:ac×Int)(rec1:Int→(List aO)→ac→Rd→Option ((List aO)×Rd))(i15:Bool)(i16:Rd):Option ((List aO)×Rd):=cond i15 (cond (decide (i6.length+List.length ([q11.1]:List aO)≤CAP)) (ki i5 i16 rec1 (i6++([q11.1]:List aO)) q13.1) none) (ki i5 i16 rec1 i6 i8)
def cF (fu:Nat):Nat→Int→(List aO)→ac→Rd→Option ((List aO)×Rd)
 | 0,_,_,_,_=>none
 | n2001+1,i5,i6,i8,i9=>cond (decide (0<i5)) ((vy fu i9 i8).bind fun q10=>(vz fu q10.2 q10.1).bind fun q11=>(vC fu i8 q11.1).bind fun q13=>cond (decide (q13.2=0)) (iv i5 i6 i8 q11 q13 (cF fu n2001) true q11.2) ((f74 fu q11.2 6).bind fun q21=>iv i5 i6 i8 q11 q13 (cF fu n2001) (decide (q21.1=0)) q21.2)) (some (i6,i9))
def vv (fu:Nat)(a0:Rd)(a1:ac):Option ((List aO)×Rd):=(f74 fu a0 2).bind fun q3=>(f73 fu q3.2 ([1,2,3,4,5,0,IntKind.i64.wrap (6+q3.1)]:List Int)).bind fun q4=>cF fu fu q4.1 ([]:List aO) a1 q4.2
theorem Ek:Nm prog 59:=nmK func59
theorem FF (fu:Nat)(bp0:Nat)(a0:Rd)(a1:ac):Ctr prog 59 [isP bp0 0,tBase.va a1] [boxO bp0 tRd a0 []] (vv fu a0 a1) (fun q _=>[boxO bp0 tRd q.2 []]) (fun q=>(tL tDeed).va q.1):=by
 refine .w func59 ntmps59 fun hf A w=>?_
 unfold vv
 refine .s<|.box (T:=tBase) z z fun b1=>.assignNil tDeed z<|.nil<|.s<|.lit (T:=tDeed) u32 mY z z (.nil) z fun v2=>.an z z<|.seq<|.s<|go ?_
 refine .call1 2 (c74 fu _ _ _) z n74 z z fun q3=>go ?_
 refine .call1 2 (c73 fu _ _ _) z n73 z z fun q4=>.an z z<|.block<|.loop<|.keep [0,3,6] [5] z<|(show ∀ (n2001:Nat) (i5:Int) (i6:List aO) (v7:Value) (i8:ac) (i9:Rd),W _ _ _ _ _ ⟨[(0,isP bp0 0,none),(3,isP b1 0,none),(6,isI .i64 i5,none),(5,(tL tDeed).va i6,some v7)],[appO 19 v7,boxO b1 tBase i8 [],boxO bp0 tRd i9 []]⟩ (cF fu n2001 i5 i6 i8 i9) from ?_) fu _ _ _ _ _
 intro n2001
 induction n2001 with
 | zero=>exact fun _ _ _ _ _=>.stop
 | succ n2001 ih1=>
  intro i5 i6 v7 i8 i9
  refine .inLoop<|.seq<|.s<|go ?_
  refine .cd z ?_ ?_
  ·refine .skip<|.seq<|.block<|.s<|go ?_
   refine .call1 2 (c2039 fu _ _ _) z n2039 z z fun q10=>.call1 2 (FI fu _ _ _) z En z z fun q11=>.alloc tDeed d0_2046 [] z2046 z fun b12=>go ?_
   refine .s<|go ?_
   refine .call0 (FL fu _ _) Er z z fun q13=>go ?_
   refine .alloc tBase d0_1026 [] cB z fun b14=>go ?_
   refine .seq<|.join2 (fun i15 i16=>⟨[(0,isP bp0 0,none),(3,isP b1 0,none),(6,isI .i64 i5,none),(7,isP b12 0,none),(8,isP b14 0,none),(38,isB i15,none),(5,(tL tDeed).va i6,some v7)],[boxO b14 tBase q13.1 [],boxO b12 tDeed q11.1 [],appO 19 v7,boxO b1 tBase i8 [],boxO bp0 tRd i16 []]⟩) (fun i15 i16=>iv i5 i6 i8 q11 q13 (cF fu n2001) i15 i16) (fun i15 i16=>?_) (fun hj3=>?_)
   ·refine .join3 (fun i17 v18 i19=>⟨[(0,isP bp0 0,none),(3,isP b1 0,none),(6,isI .i64 i5,none),(5,(tL tDeed).va i17,some v18)],[appO 19 v18,boxO b1 tBase i19 [],boxO bp0 tRd i16 []]⟩) (fun i17 v18 i19=>ki i5 i16 (cF fu n2001) i17 i19) (fun i17 v18 i19=>?_) (fun hj4=>?_)
    ·exact fj (ih1 _ _ _ _ _)
    ·refine .cd z ?_ ?_
     ·refine .s<|go ?_
      exact .app (T:=tDeed) 2 z z z u32 mY z fun v20=>fj (hj4 _ _ _)
     ·exact fj (hj4 _ _ _)
   ·refine .g<|go ?_
    refine .split 34 z (fun _=>?_) (fun _=>?_)
    ·exact fj (hj3 _ _)
    ·refine go ?_
     exact .call1 4 (c74 fu _ _ _) z n74 z z fun q21=>fj (hj3 _ _)
  ·exact fr
def vB (fu:Nat)(a0:List Int):Option (ac×(List aO)):=(f60 fu a0).bind fun q2=>(vW fu q2).bind fun q4=>(vx fu q4.1).bind fun q6=>(vv fu q4.2 q6).bind fun q7=>some (q4.1,q7.1)
theorem Ep:Nm prog 19:=nmK func19
theorem FK (fu:Nat)(a0:List Int):Ctr prog 19 [(tL (tI .u8)).va a0] [] (vB fu a0) (fun _ _=>[]) (fun q=>tup [tBase.va q.1,(tL tDeed).va q.2]):=by
 refine .w func19 ntmps19 fun hf A w=>?_
 unfold vB
 refine .s<|.alloc tBase d0_1026 [] cB z fun b1=>.assignNil tDeed z<|.nil<|.s<|.m z z<|.callP (c60 fu _) n60 z z fun q2 b3=>.an z z<|.s<|.m z z<|.call1 0 (Gp fu _ _) z E0 z z fun q4=>.alloc tBase d0_1026 [] cB z fun b5=>go ?_
 exact .seq<|.pb (FH fu _) Em fun q6 h1 k=>.pbind fun q7 h2=>.drawS 5 [] [4] [1] mix (by kernel_rfl) sts z<|.cons (d:=14) z z fun _ _ hE h=>.bindE h2 (fun r h=>.call1 1 (FF fu _ _ _) z Ek (hE.ops z) z h)<|h _ _ (.same<|.hole z<|.same<|.nil)<|fr
def vA (fu:Nat)(a0:ac)(a1:List aO):Option (ac×Int×Int):=(jx fu a0).bind fun q3=>cond (!q3) (some ((⟨d0_1026.tabs,d0_1026.links⟩:ac),1,0)) ((vu fu a0 a1).bind fun q4=>some (q4.1,q4.2.1,q4.2.2))
theorem Eo:Nm prog 20:=nmK func20
theorem FJ (fu:Nat)(a0:ac)(a1:List aO):Ctr prog 20 [tBase.va a0,(tL tDeed).va a1] [] (vA fu a0 a1) (fun _ _=>[]) (fun q=>tup [tBase.va q.1,isI .i64 q.2.1,isI .i64 q.2.2]):=by
 refine .w func20 ntmps20 fun hf A w=>?_
 unfold vA
 refine .s<|.box (T:=tBase) z z fun b1=>.alloc tBase d0_1026 [] cB z fun b2=>go ?_
 refine .seq<|.s<|go ?_
 refine .call0 (om fu _) nr z z fun q3=>.not z z<|.nil<|.cd z ?_ ?_
 ·exact fr
 ·refine .skip<|.s<|go ?_
  exact .call0 (FE fu _ _) Ej z z fun q4=>fr
def f2006_j2 (i13:Bool):Option Bool:=some i13
noncomputable def f2006_j1 (fu:Nat) (q1:ac×(List aO)) (q3:ac×Int×Int) (q5:ac×Int×Int) (i7:Bool):Option Bool:=cond i7 (some (decide (q3.2.1=q5.2.1))) (cond (decide (List.length ([]:List aO)+q1.2.length≤CAP)) (cond (decide (List.length (([]:List aO)++q1.2)+List.length ([(⟨5,([122,122,122]:List UInt8),1,d0_2046.sets,d0_2046.cols,d0_2046.change,d0_2046.link⟩:aO)]:List aO)≤CAP)) ((qt fu q1.1 ((([]:List aO)++q1.2)++([(⟨5,([122,122,122]:List UInt8),1,d0_2046.sets,d0_2046.cols,d0_2046.change,d0_2046.link⟩:aO)]:List aO))).bind fun q11=>cond (decide (q11.2.1=5)) (cond (decide (q11.2.2=(q1.2.length:Int))) ((tr fu q11.1 q1.1).bind fun q14=>f2006_j2 q14) (f2006_j2 false)) (f2006_j2 false)) none) none)
noncomputable def ye (fu:Nat) (a0:List Int):Option Bool:=cond (decide (1048576 < (a0.length:Int))) (some true) ((vB fu a0).bind fun q1=>(qt fu q1.1 q1.2).bind fun q3=>(vA fu q1.1 q1.2).bind fun q5=>cond (!decide (q3.2.1=q5.2.1)) (f2006_j1 fu q1 q3 q5 true) (cond (!decide (q3.2.1=0)) (f2006_j1 fu q1 q3 q5 true) (f2006_j1 fu q1 q3 q5 (decide (6≤(q1.2.length:Int))))))
theorem FN (fu:Nat)(a0:List Int):Ctr prog 6 [(tL (tI .u8)).va a0] [] (ye fu a0) (fun _ _=>[]) (fun q=>isB q):=by
 refine .w func6 ntmps6 fun hf A w=>?_
 unfold ye
 refine .s<|.an z z<|.seq<|.s<|go ?_
 refine .cd z ?_ ?_
 ·exact fr
 ·refine .skip<|.s<|.m z z<|.call0 (FK fu _) Ep z z fun q1=>go ?_
  refine .alloc tBase d0_1026 [] cB z fun b2=>go ?_
  refine .s<|go ?_
  refine .call0 (Df fu _ _) B6 z z fun q3=>go ?_
  refine .alloc tBase d0_1026 [] cB z fun b4=>go ?_
  refine .s<|go ?_
  refine .call0 (FJ fu _ _) Eo z z fun q5=>go ?_
  refine .alloc tBase d0_1026 [] cB z fun b6=>go ?_
  refine .seq<|.seq<|.join1 (fun i7=>⟨[(3,isP b2 0,none),(4,(tL tDeed).va q1.2,none),(6,isI .i64 q3.2.1,none),(9,isI .i64 q5.2.1,none),(48,isB i7,none)],[boxO b2 tBase q1.1 []]⟩) (fun i7=>f2006_j1 fu q1 q3 q5 i7) (fun i7=>?_) (fun hj1=>?_)
  ·refine .cd z ?_ ?_
   ·exact fr
   ·refine .skip<|.s<|.lit (T:=tDeed) u32 mY z z (.nil) z fun v8=>.m z z<|.app (T:=tDeed) 0 z z z u32 mY z fun v9=>go ?_
    refine .app (T:=tDeed) 0 z z z u32 mY z fun v10=>.an z z<|.s<|go ?_
    refine .call0 (Df fu _ _) B6 z z fun q11=>go ?_
    refine .alloc tBase d0_1026 [] cB z fun b12=>go ?_
    refine .seq<|.join1 (fun i13=>⟨[(2,isB i13,none)],[]⟩) (fun i13=>f2006_j2 i13) (fun i13=>?_) (fun hj2=>?_)
    ·exact fr
    ·refine .g<|go ?_
     refine .split 67 z (fun _=>?_) (fun _=>?_)
     ·refine go ?_
      refine .split 73 z (fun _=>?_) (fun _=>?_)
      ·refine go ?_
       exact .call0 (GB fu _ _) Fc z z fun q14=>fj (hj2 _)
      ·exact fj (hj2 _)
     ·exact fj (hj2 _)
  ·refine .g<|go ?_
   refine .split 40 z (fun _=>?_) (fun _=>?_)
   ·exact fj (hj1 _)
   ·refine go ?_
    refine .split 44 z (fun _=>?_) (fun _=>?_)
    ·exact fj (hj1 _)
    ·exact fj (hj1 _)
end Go.Proofs.YtganfdhmkdehlaaGreatDoor
