/- What functions answer. -/
import Derived.Test.YtganfdhmkdehlaaGreatDoorQ2005B19
import Derived.KernelRfl
set_option linter.all false
namespace Go.Proofs.YtganfdhmkdehlaaGreatDoor
open Go Go.HL Tryz
attribute [local irreducible] W WO
def kl (i5:Int)(i16:Rd)(rec1:Int→(List aQ)→ac→Rd→Option ((List aQ)×Rd))(i17:List aQ)(i19:ac):Option ((List aQ)×Rd):=rec1 (IntKind.i64.wrap (i5-1)) i17 i19 i16
def iw (i5:Int)(i6:List aQ)(i8:ac)(q11:aQ×Rd)(q13:ac×Int)(rec1:Int→(List aQ)→ac→Rd→Option ((List aQ)×Rd))(i15:Bool)(i16:Rd):Option ((List aQ)×Rd):=cond i15 (cond (decide (i6.length+List.length ([q11.1]:List aQ)≤CAP)) (kl i5 i16 rec1 (i6++([q11.1]:List aQ)) q13.1) none) (kl i5 i16 rec1 i6 i8)
def cF (fu:Nat):Nat→Int→(List aQ)→ac→Rd→Option ((List aQ)×Rd)
 | 0,_,_,_,_=>none
 | n2001+1,i5,i6,i8,i9=>cond (decide (0<i5)) ((vx fu i9 i8).bind fun q10=>(vy fu q10.2 q10.1).bind fun q11=>(vB fu i8 q11.1).bind fun q13=>cond (decide (q13.2=0)) (iw i5 i6 i8 q11 q13 (cF fu n2001) true q11.2) ((f74 fu q11.2 6).bind fun q21=>iw i5 i6 i8 q11 q13 (cF fu n2001) (decide (q21.1=0)) q21.2)) (some (i6,i9))
def vu (fu:Nat)(a0:Rd)(a1:ac):Option ((List aQ)×Rd):=(f74 fu a0 2).bind fun q3=>(f73 fu q3.2 ([1,2,3,4,5,0,IntKind.i64.wrap (6+q3.1)]:List Int)).bind fun q4=>cF fu fu q4.1 ([]:List aQ) a1 q4.2
theorem Ej:Nm prog 59:=nmK func59
theorem FE (fu:Nat)(bp0:Nat)(a0:Rd)(a1:ac):Ctr prog 59 [isP bp0 0,tBase.va a1] [boxO bp0 tRd a0 []] (vu fu a0 a1) (fun q _=>[boxO bp0 tRd q.2 []]) (fun q=>(tL tDeed).va q.1):=by
 refine .w func59 ntmps59 fun hf A w=>?_
 unfold vu
 refine .s<|.box (T:=tBase) z z fun b1=>.assignNil tDeed z<|.nil<|.s<|.lit (T:=tDeed) u32 wn z z (.nil) z fun v2=>.an z z<|.seq<|.s<|go ?_
 refine .call1 2 (c74 fu _ _ _) z n74 z z fun q3=>go ?_
 refine .call1 2 (c73 fu _ _ _) z n73 z z fun q4=>.an z z<|.block<|.loop<|.keep [0,3,6] [5] z<|(show ∀ (n2001:Nat) (i5:Int) (i6:List aQ) (v7:Value) (i8:ac) (i9:Rd),W _ _ _ _ _ ⟨[(0,isP bp0 0,none),(3,isP b1 0,none),(6,isI .i64 i5,none),(5,(tL tDeed).va i6,some v7)],[appO 19 v7,boxO b1 tBase i8 [],boxO bp0 tRd i9 []]⟩ (cF fu n2001 i5 i6 i8 i9) from ?_) fu _ _ _ _ _
 intro n2001
 induction n2001 with
 | zero=>exact fun _ _ _ _ _=>.stop
 | succ n2001 ih1=>
  intro i5 i6 v7 i8 i9
  refine .inLoop<|.seq<|.s<|go ?_
  refine .cd z ?_ ?_
  ·refine .skip<|.seq<|.block<|.s<|go ?_
   refine .call1 2 (c2039 fu _ _ _) z n2039 z z fun q10=>.call1 2 (FH fu _ _ _) z Em z z fun q11=>.alloc tDeed d0_2046 [] z2046 z fun b12=>go ?_
   refine .s<|go ?_
   refine .call0 (FK fu _ _) Ep z z fun q13=>go ?_
   refine .alloc tBase d0_1026 [] cB z fun b14=>go ?_
   refine .seq<|.join2 (fun i15 i16=>⟨[(0,isP bp0 0,none),(3,isP b1 0,none),(6,isI .i64 i5,none),(7,isP b12 0,none),(8,isP b14 0,none),(38,isB i15,none),(5,(tL tDeed).va i6,some v7)],[boxO b14 tBase q13.1 [],boxO b12 tDeed q11.1 [],appO 19 v7,boxO b1 tBase i8 [],boxO bp0 tRd i16 []]⟩) (fun i15 i16=>iw i5 i6 i8 q11 q13 (cF fu n2001) i15 i16) (fun i15 i16=>?_) (fun hj3=>?_)
   ·refine .join3 (fun i17 v18 i19=>⟨[(0,isP bp0 0,none),(3,isP b1 0,none),(6,isI .i64 i5,none),(5,(tL tDeed).va i17,some v18)],[appO 19 v18,boxO b1 tBase i19 [],boxO bp0 tRd i16 []]⟩) (fun i17 v18 i19=>kl i5 i16 (cF fu n2001) i17 i19) (fun i17 v18 i19=>?_) (fun hj4=>?_)
    ·exact fj (ih1 _ _ _ _ _)
    ·refine .cd z ?_ ?_
     ·refine .s<|go ?_
      exact .app (T:=tDeed) 2 z z z u32 wn z fun v20=>fj (hj4 _ _ _)
     ·exact fj (hj4 _ _ _)
   ·refine .g<|go ?_
    refine .split 34 z (fun _=>?_) (fun _=>?_)
    ·exact fj (hj3 _ _)
    ·refine go ?_
     exact .call1 4 (c74 fu _ _ _) z n74 z z fun q21=>fj (hj3 _ _)
  ·exact fr
def vA (fu:Nat)(a0:List Int):Option (ac×(List aQ)):=(f60 fu a0).bind fun q2=>(vV fu q2).bind fun q4=>(vw fu q4.1).bind fun q6=>(vu fu q4.2 q6).bind fun q7=>some (q4.1,q7.1)
theorem Eo:Nm prog 19:=nmK func19
theorem FJ (fu:Nat)(a0:List Int):Ctr prog 19 [(tL (tI .u8)).va a0] [] (vA fu a0) (fun _ _=>[]) (fun q=>tup [tBase.va q.1,(tL tDeed).va q.2]):=by
 refine .w func19 ntmps19 fun hf A w=>?_
 unfold vA
 refine .s<|.alloc tBase d0_1026 [] cB z fun b1=>.assignNil tDeed z<|.nil<|.s<|.m z z<|.callP (c60 fu _) n60 z z fun q2 b3=>.an z z<|.s<|.m z z<|.call1 0 (Gn fu _ _) z EZ z z fun q4=>.alloc tBase d0_1026 [] cB z fun b5=>go ?_
 exact .seq<|.pb (FG fu _) El fun q6 h1 k=>.pbind fun q7 h2=>.drawS 5 [] [4] [1] mix (by kernel_rfl) sts z<|.cons (d:=14) z z fun _ _ hE h=>.bindE h2 (fun r h=>.call1 1 (FE fu _ _ _) z Ej (hE.ops z) z h)<|h _ _ (.same<|.hole z<|.same<|.nil)<|fr
def vz (fu:Nat)(a0:ac)(a1:List aQ):Option (ac×Int×Int):=(iV fu a0).bind fun q3=>cond (!q3) (some ((⟨d0_1026.tabs,d0_1026.links⟩:ac),1,0)) ((vt fu a0 a1).bind fun q4=>some (q4.1,q4.2.1,q4.2.2))
theorem En:Nm prog 20:=nmK func20
theorem FI (fu:Nat)(a0:ac)(a1:List aQ):Ctr prog 20 [tBase.va a0,(tL tDeed).va a1] [] (vz fu a0 a1) (fun _ _=>[]) (fun q=>tup [tBase.va q.1,isI .i64 q.2.1,isI .i64 q.2.2]):=by
 refine .w func20 ntmps20 fun hf A w=>?_
 unfold vz
 refine .s<|.box (T:=tBase) z z fun b1=>.alloc tBase d0_1026 [] cB z fun b2=>go ?_
 refine .seq<|.s<|go ?_
 refine .call0 (ml fu _) ma z z fun q3=>.not z z<|.nil<|.cd z ?_ ?_
 ·exact fr
 ·refine .skip<|.s<|go ?_
  exact .call0 (FD fu _ _) Ei z z fun q4=>fr
def kp (i9:Bool):Option Bool:=some i9
def ko (i11:Bool):Option Bool:=some i11
def km (rec1:Int→ac→Option Bool)(i17:Bool):Option Bool:=some i17
def iA (rec1:Int→ac→Option Bool)(i19:Bool):Option Bool:=some i19
noncomputable def bh (fu:Nat) (q1:ac×(List aQ)) (q3:ac×Int×Int):Nat→Int→ac→Option Bool
 | 0,_,_=>none
 | n2001+1,i14,i15=>cond (decide (i14 < (q1.2.length:Int))) (cond (decide (0≤i14)&&decide (i14 < (q1.2.length:Int))) ((ti fu i15 (q1.2.getD i14.toNat default)).bind fun q16=>cond (!decide (q16.2=0)) (cond (decide (q3.2.1=q16.2)) (cond (decide (q3.2.2=i14)) ((mh fu q3.1 q1.1).bind fun q18=>km (bh fu q1 q3 n2001) q18) (km (bh fu q1 q3 n2001) false)) (km (bh fu q1 q3 n2001) false)) ((bh fu q1 q3 n2001) (IntKind.i64.wrap (i14+1)) q16.1)) none) (cond (decide (q3.2.1=0)) (cond (decide (q3.2.2=(q1.2.length:Int))) ((mh fu q3.1 i15).bind fun q20=>cond q20 ((jW fu q3.1).bind fun q21=>iA (bh fu q1 q3 n2001) q21) (iA (bh fu q1 q3 n2001) false)) (iA (bh fu q1 q3 n2001) false)) (iA (bh fu q1 q3 n2001) false))
noncomputable def iB (fu:Nat) (q1:ac×(List aQ)) (q3:ac×Int×Int) (i7:Bool):Option Bool:=cond i7 (some false) ((iV fu q1.1).bind fun q8=>cond (!q8) (cond (decide (q3.2.1=1)) (cond (decide (q3.2.2=0)) ((mh fu q3.1 (⟨d0_1026.tabs,d0_1026.links⟩:ac)).bind fun q10=>kp q10) (kp false)) (kp false)) (cond (decide (6 < (q1.2.length:Int))) (cond (decide (q3.2.1=4)) (cond (decide (q3.2.2=0)) ((mh fu q3.1 q1.1).bind fun q12=>ko q12) (ko false)) (ko false)) (bh fu q1 q3 fu 0 q1.1)))
noncomputable def yf (fu:Nat) (a0:List Int):Option Bool:=cond (decide (1048576 < (a0.length:Int))) (some true) ((vA fu a0).bind fun q1=>(vC fu q1.1 q1.2).bind fun q3=>(vz fu q1.1 q1.2).bind fun q5=>cond (!decide (q3.2.1=q5.2.1)) (iB fu q1 q3 true) (cond (!decide (q3.2.2=q5.2.2)) (iB fu q1 q3 true) ((mh fu q3.1 q5.1).bind fun q22=>iB fu q1 q3 (!q22))))
theorem FM (fu:Nat)(a0:List Int):Ctr prog 5 [(tL (tI .u8)).va a0] [] (yf fu a0) (fun _ _=>[]) (fun q=>isB q):=by
 refine .w func5 ntmps5 fun hf A w=>?_
 unfold yf
 refine .s<|.an z z<|.seq<|.s<|go ?_
 refine .cd z ?_ ?_
 ·exact fr
 ·refine .skip<|.s<|.m z z<|.call0 (FJ fu _) Eo z z fun q1=>go ?_
  refine .alloc tBase d0_1026 [] cB z fun b2=>go ?_
  refine .s<|go ?_
  refine .call0 (FL fu _ _) Er z z fun q3=>go ?_
  refine .alloc tBase d0_1026 [] cB z fun b4=>go ?_
  refine .s<|go ?_
  refine .call0 (FI fu _ _) En z z fun q5=>go ?_
  refine .alloc tBase d0_1026 [] cB z fun b6=>go ?_
  refine .seq<|.seq<|.join1 (fun i7=>⟨[(3,isP b2 0,none),(4,(tL tDeed).va q1.2,none),(5,isP b4 0,none),(6,isI .i64 q3.2.1,none),(7,isI .i64 q3.2.2,none),(49,isB i7,none)],[boxO b4 tBase q3.1 [],boxO b2 tBase q1.1 []]⟩) (fun i7=>iB fu q1 q3 i7) (fun i7=>?_) (fun hj1=>?_)
  ·refine .cd z ?_ ?_
   ·exact fr
   ·refine .skip<|.seq<|.s<|go ?_
    refine .call0 (ml fu _) ma z z fun q8=>.not z z<|.nil<|.cd z ?_ ?_
    ·refine .seq<|.join1 (fun i9=>⟨[(2,isB i9,none)],[]⟩) (fun i9=>kp i9) (fun i9=>?_) (fun hj2=>?_)
     ·exact fr
     ·refine .g<|go ?_
      refine .split 55 z (fun _=>?_) (fun _=>?_)
      ·refine go ?_
       refine .split 59 z (fun _=>?_) (fun _=>?_)
       ·refine go ?_
        exact .call0 (wz fu _ _) ut z z fun q10=>fj (hj2 _)
       ·exact fj (hj2 _)
      ·exact fj (hj2 _)
    ·refine .skip<|.seq<|.s<|go ?_
     refine .cd z ?_ ?_
     ·refine .seq<|.join1 (fun i11=>⟨[(2,isB i11,none)],[]⟩) (fun i11=>ko i11) (fun i11=>?_) (fun hj3=>?_)
      ·exact fr
      ·refine .g<|go ?_
       refine .split 69 z (fun _=>?_) (fun _=>?_)
       ·refine go ?_
        refine .split 73 z (fun _=>?_) (fun _=>?_)
        ·refine go ?_
         exact .call0 (wz fu _ _) ut z z fun q12=>fj (hj3 _)
        ·exact fj (hj3 _)
       ·exact fj (hj3 _)
     ·refine .skip<|.s<|go ?_
      refine .alloc tBase d0_1026 [] cB z fun b13=>go ?_
      refine .seq<|.s<|.an z z<|.block<|.loop<|.keep [3,4,5,6,7,11,12] [] z<|(show ∀ (n2001:Nat) (i14:Int) (i15:ac),W _ _ _ _ _ ⟨[(3,isP b2 0,none),(4,(tL tDeed).va q1.2,none),(5,isP b4 0,none),(6,isI .i64 q3.2.1,none),(7,isI .i64 q3.2.2,none),(11,isP b13 0,none),(12,isI .i64 i14,none)],[boxO b13 tBase i15 [],boxO b4 tBase q3.1 [],boxO b2 tBase q1.1 []]⟩ (bh fu q1 q3 n2001 i14 i15) from ?_) fu _ _
      intro n2001
      induction n2001 with
      | zero=>exact fun _ _=>.stop
      | succ n2001 ih1=>
       intro i14 i15
       refine .inLoop<|.seq<|.s<|go ?_
       refine .cd z ?_ ?_
       ·refine .skip<|.seq<|.block<|.s<|.an z z<|.seq<|.pT fun h2=>.draw 5 [] mix (by kernel_rfl) sts z<|.call0 (Dg fu _ _) B7 z z fun q16=>go ?_
        refine .s<|go ?_
        refine .cd z ?_ ?_
        ·refine .seq<|.join1 (fun i17=>⟨[(2,isB i17,none)],[]⟩) (fun i17=>km (bh fu q1 q3 n2001) i17) (fun i17=>?_) (fun hj6=>?_)
         ·exact fr
         ·refine .g<|go ?_
          refine .split 99 z (fun _=>?_) (fun _=>?_)
          ·refine go ?_
           refine .split 104 z (fun _=>?_) (fun _=>?_)
           ·refine go ?_
            exact .call0 (wz fu _ _) ut z z fun q18=>fj (hj6 _)
           ·exact fj (hj6 _)
          ·exact fj (hj6 _)
        ·exact fj (ih1 _ _)
       ·refine .exit z<|.seq<|.join1 (fun i19=>⟨[(2,isB i19,none)],[]⟩) (fun i19=>iA (bh fu q1 q3 n2001) i19) (fun i19=>?_) (fun hj7=>?_)
        ·exact fr
        ·refine .g<|go ?_
         refine .split 111 z (fun _=>?_) (fun _=>?_)
         ·refine go ?_
          refine .split 117 z (fun _=>?_) (fun _=>?_)
          ·refine go ?_
           refine .call0 (wz fu _ _) ut z z fun q20=>go ?_
           refine .split 122 z (fun _=>?_) (fun _=>?_)
           ·refine go ?_
            exact .call0 (pC fu _) oT z z fun q21=>fj (hj7 _)
           ·exact fj (hj7 _)
          ·exact fj (hj7 _)
         ·exact fj (hj7 _)
  ·refine .g<|go ?_
   refine .split 39 z (fun _=>?_) (fun _=>?_)
   ·exact fj (hj1 _)
   ·refine go ?_
    refine .split 44 z (fun _=>?_) (fun _=>?_)
    ·exact fj (hj1 _)
    ·refine go ?_
     exact .call0 (wz fu _ _) ut z z fun q22=>fj (hj1 _)
end Go.Proofs.YtganfdhmkdehlaaGreatDoor
