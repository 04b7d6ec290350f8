/- What functions answer. -/
import Derived.Test.YtganfdhmkdehlaaGreatDoorQ2008B19
import Derived.KernelRfl
set_option linter.all false
namespace Go.Proofs.YtganfdhmkdehlaaGreatDoor
open Go Go.HL Tryz
attribute [local irreducible] W WO
def kl (i5:Int)(i16:Rd)(rec1:Int→(List aR)→ac→Rd→Option ((List aR)×Rd))(i17:List aR)(i19:ac):Option ((List aR)×Rd):=rec1 (IntKind.i64.wrap (i5-1)) i17 i19 i16
def iB (i5:Int)(i6:List aR)(i8:ac)(q11:aR×Rd)(q13:ac×Int)(rec1:Int→(List aR)→ac→Rd→Option ((List aR)×Rd))(i15:Bool)(i16:Rd):Option ((List aR)×Rd):=cond i15 (cond (decide (i6.length+List.length ([q11.1]:List aR)≤CAP)) (kl i5 i16 rec1 (i6++([q11.1]:List aR)) q13.1) none) (kl i5 i16 rec1 i6 i8)
def cG (fu:Nat):Nat→Int→(List aR)→ac→Rd→Option ((List aR)×Rd)
 | 0,_,_,_,_=>none
 | n2001+1,i5,i6,i8,i9=>cond (decide (0<i5)) ((vp fu i9 i8).bind fun q10=>(vq fu q10.2 q10.1).bind fun q11=>(vw fu i8 q11.1).bind fun q13=>cond (decide (q13.2=0)) (iB i5 i6 i8 q11 q13 (cG fu n2001) true q11.2) ((f74 fu q11.2 6).bind fun q21=>iB i5 i6 i8 q11 q13 (cG fu n2001) (decide (q21.1=0)) q21.2)) (some (i6,i9))
def vl (fu:Nat)(a0:Rd)(a1:ac):Option ((List aR)×Rd):=(f74 fu a0 2).bind fun q3=>(f73 fu q3.2 ([1,2,3,4,5,0,IntKind.i64.wrap (6+q3.1)]:List Int)).bind fun q4=>cG fu fu q4.1 ([]:List aR) a1 q4.2
theorem D7:Nm prog 59:=nmK func59
theorem Ft (fu:Nat)(bp0:Nat)(a0:Rd)(a1:ac):Ctr prog 59 [isP bp0 0,tBase.va a1] [boxO bp0 tRd a0 []] (vl fu a0 a1) (fun q _=>[boxO bp0 tRd q.2 []]) (fun q=>(tL tDeed).va q.1):=by
 refine .w func59 ntmps59 fun hf A w=>?_
 unfold vl
 refine .s<|.box (T:=tBase) z z fun b1=>.assignNil tDeed z<|.nil<|.s<|.lit (T:=tDeed) u32 wk z z (.nil) z fun v2=>.an z z<|.seq<|.s<|go ?_
 refine .call1 2 (c74 fu _ _ _) z n74 z z fun q3=>go ?_
 refine .call1 2 (c73 fu _ _ _) z n73 z z fun q4=>.an z z<|.block<|.loop<|.keep [0,3,6] [5] z<|(show ∀ (n2001:Nat) (i5:Int) (i6:List aR) (v7:Value) (i8:ac) (i9:Rd),W _ _ _ _ _ ⟨[(0,isP bp0 0,none),(3,isP b1 0,none),(6,isI .i64 i5,none),(5,(tL tDeed).va i6,some v7)],[appO 19 v7,boxO b1 tBase i8 [],boxO bp0 tRd i9 []]⟩ (cG fu n2001 i5 i6 i8 i9) from ?_) fu _ _ _ _ _
 intro n2001
 induction n2001 with
 | zero=>exact fun _ _ _ _ _=>.stop
 | succ n2001 ih1=>
  intro i5 i6 v7 i8 i9
  refine .inLoop<|.seq<|.s<|go ?_
  refine .cd z ?_ ?_
  ·refine .skip<|.seq<|.block<|.s<|go ?_
   refine .call1 2 (c2039 fu _ _ _) z n2039 z z fun q10=>.call1 2 (Fw fu _ _ _) z Ea z z fun q11=>.alloc tDeed d0_2046 [] z2046 z fun b12=>go ?_
   refine .s<|go ?_
   refine .call0 (FA fu _ _) Ee z z fun q13=>go ?_
   refine .alloc tBase d0_1026 [] cR z fun b14=>go ?_
   refine .seq<|.join2 (fun i15 i16=>⟨[(0,isP bp0 0,none),(3,isP b1 0,none),(6,isI .i64 i5,none),(7,isP b12 0,none),(8,isP b14 0,none),(38,isB i15,none),(5,(tL tDeed).va i6,some v7)],[boxO b14 tBase q13.1 [],boxO b12 tDeed q11.1 [],appO 19 v7,boxO b1 tBase i8 [],boxO bp0 tRd i16 []]⟩) (fun i15 i16=>iB i5 i6 i8 q11 q13 (cG fu n2001) i15 i16) (fun i15 i16=>?_) (fun hj3=>?_)
   ·refine .join3 (fun i17 v18 i19=>⟨[(0,isP bp0 0,none),(3,isP b1 0,none),(6,isI .i64 i5,none),(5,(tL tDeed).va i17,some v18)],[appO 19 v18,boxO b1 tBase i19 [],boxO bp0 tRd i16 []]⟩) (fun i17 v18 i19=>kl i5 i16 (cG fu n2001) i17 i19) (fun i17 v18 i19=>?_) (fun hj4=>?_)
    ·exact fj (ih1 _ _ _ _ _)
    ·refine .cd z ?_ ?_
     ·refine .s<|go ?_
      exact .app (T:=tDeed) 2 z z z u32 wk z fun v20=>fj (hj4 _ _ _)
     ·exact fj (hj4 _ _ _)
   ·refine .g<|go ?_
    refine .split 34 z (fun _=>?_) (fun _=>?_)
    ·exact fj (hj3 _ _)
    ·refine go ?_
     exact .call1 4 (c74 fu _ _ _) z n74 z z fun q21=>fj (hj3 _ _)
  ·exact fr
def vv (fu:Nat)(a0:List Int):Option (ac×(List aR)):=(f60 fu a0).bind fun q2=>(vS fu q2).bind fun q4=>(vo fu q4.1).bind fun q6=>(vl fu q4.2 q6).bind fun q7=>some (q4.1,q7.1)
theorem Ed:Nm prog 19:=nmK func19
theorem Fz (fu:Nat)(a0:List Int):Ctr prog 19 [(tL (tI .u8)).va a0] [] (vv fu a0) (fun _ _=>[]) (fun q=>tup [tBase.va q.1,(tL tDeed).va q.2]):=by
 refine .w func19 ntmps19 fun hf A w=>?_
 unfold vv
 refine .s<|.alloc tBase d0_1026 [] cR z fun b1=>.assignNil tDeed z<|.nil<|.s<|.m z z<|.callP (c60 fu _) n60 z z fun q2 b3=>.an z z<|.s<|.m z z<|.call1 0 (Gb fu _ _) z EM z z fun q4=>.alloc tBase d0_1026 [] cR z fun b5=>go ?_
 exact .seq<|.pb (Fv fu _) D9 fun q6 h1 k=>.pbind fun q7 h2=>.drawS 5 [] [4] [1] mix (by kernel_rfl) sts z<|.cons (d:=14) z z fun _ _ hE h=>.bindE h2 (fun r h=>.call1 1 (Ft fu _ _ _) z D7 (hE.ops z) z h)<|h _ _ (.same<|.hole z<|.same<|.nil)<|fr
def vu (fu:Nat)(a0:ac)(a1:List aR):Option (ac×Int×Int):=(ja fu a0).bind fun q3=>cond (!q3) (some ((⟨d0_1026.tabs,d0_1026.links⟩:ac),1,0)) ((vk fu a0 a1).bind fun q4=>some (q4.1,q4.2.1,q4.2.2))
theorem Ec:Nm prog 20:=nmK func20
theorem Fy (fu:Nat)(a0:ac)(a1:List aR):Ctr prog 20 [tBase.va a0,(tL tDeed).va a1] [] (vu fu a0 a1) (fun _ _=>[]) (fun q=>tup [tBase.va q.1,isI .i64 q.2.1,isI .i64 q.2.2]):=by
 refine .w func20 ntmps20 fun hf A w=>?_
 unfold vu
 refine .s<|.box (T:=tBase) z z fun b1=>.alloc tBase d0_1026 [] cR z fun b2=>go ?_
 refine .seq<|.s<|go ?_
 refine .call0 (mh fu _) ma z z fun q3=>.not z z<|.nil<|.cd z ?_ ?_
 ·exact fr
 ·refine .skip<|.s<|go ?_
  exact .call0 (Fs fu _ _) D6 z z fun q4=>fr
def km (i1:Bool):Option Bool:=some i1
def vt (fu:Nat)(a0:List Col)(a1:List Val):Option Bool:=(f67 fu a0).bind fun q2=>cond q2 ((f58 fu a0 a1).bind fun q3=>km q3) (km false)
theorem Eb:Nm prog 23:=nmK func23
theorem Fx (fu:Nat)(a0:List Col)(a1:List Val):Ctr prog 23 [(tL tCol).va a0,(tL tVal).va a1] [] (vt fu a0 a1) (fun _ _=>[]) (fun q=>isB q):=by
 refine .w func23 ntmps23 fun hf A w=>?_
 unfold vt
 refine .s<|.an z z<|.seq<|.join1 (fun i1=>⟨[(4,isB i1,none)],[]⟩) (fun i1=>km i1) (fun i1=>?_) (fun hj1=>?_)
 ·exact fr
 ·refine .g<|.m z z<|.call0 (c67 fu _) n67 z z fun q2=>.m z z<|.split 7 z (fun _=>?_) (fun _=>?_)
  ·refine go ?_
   exact .call0 (c58 fu _ _) n58 z z fun q3=>fj (hj1 _)
  ·exact fj (hj1 _)
def kp (i8:Bool):Option Bool:=some i8
def nN (i11:Int)(rec1:Int→Option Bool)(rec2:Int→Option Bool)(i13:Bool):Option Bool:=cond i13 (some false) (rec2 (IntKind.i64.wrap (i11+1)))
def dU (fu:Nat)(q3:ac×Int×Int)(i9:Int)(q10:(List Col))(rec1:Int→Option Bool):Nat→Int→Option Bool
 | 0,_=>none
 | n2002+1,i11=>cond (decide (0≤i9)&&decide (i9 < (q3.1.tabs.length:Int))) (cond (decide (i11 < (List.length (((q3.1.tabs.getD i9.toNat default).table).rows):Int))) (cond (decide (0≤i9)&&decide (i9 < (q3.1.tabs.length:Int))) (cond (decide (0≤i9)&&decide (i9 < (q3.1.tabs.length:Int))) (cond (decide (0≤i11)&&decide (i11 < (List.length (((q3.1.tabs.getD i9.toNat default).table).rows):Int))) ((f16 fu ((q3.1.tabs.getD i9.toNat default).table) (((((q3.1.tabs.getD i9.toNat default).table).rows).getD i11.toNat default).id)).bind fun q12=>cond (!q12.2) (nN i11 rec1 (dU fu q3 i9 q10 rec1 n2002) true) ((vt fu q10 q12.1).bind fun q14=>nN i11 rec1 (dU fu q3 i9 q10 rec1 n2002) (!q14))) none) none) none) (rec1 (IntKind.i64.wrap (i9+1)))) none
def ko (rec1:Int→Option Bool)(i15:Bool):Option Bool:=some i15
def bb (fu:Nat)(q1:ac×(List aR))(q3:ac×Int×Int):Nat→Int→Option Bool
 | 0,_=>none
 | n2001+1,i9=>cond (decide (i9 < (q3.1.tabs.length:Int))) (cond (decide (0≤i9)&&decide (i9 < (q3.1.tabs.length:Int))) ((f23 fu ((q3.1.tabs.getD i9.toNat default).table)).bind fun q10=>dU fu q3 i9 q10 (bb fu q1 q3 n2001) fu 0) none) ((jY fu q3.1).bind fun q16=>cond q16 ((wc fu q3.1).bind fun q17=>cond q17 (ko (bb fu q1 q3 n2001) (decide (q3.2.2≤(q1.2.length:Int)))) (ko (bb fu q1 q3 n2001) false)) (ko (bb fu q1 q3 n2001) false))
def iF (fu:Nat)(q1:ac×(List aR))(q3:ac×Int×Int)(q5:ac×Int×Int)(i7:Bool):Option Bool:=cond i7 (cond (decide (q3.2.1=q5.2.1)) (kp (decide (q3.2.2=q5.2.2))) (kp false)) (bb fu q1 q3 fu 0)
noncomputable def x8 (fu:Nat) (a0:List Int):Option Bool:=cond (decide (1048576 < (a0.length:Int))) (some true) ((vv fu a0).bind fun q1=>(vy fu q1.1 q1.2).bind fun q3=>(vu fu q1.1 q1.2).bind fun q5=>cond (!decide (q3.2.1=q5.2.1)) (iF fu q1 q3 q5 true) (cond (!decide (q3.2.2=q5.2.2)) (iF fu q1 q3 q5 true) ((ja fu q1.1).bind fun q18=>iF fu q1 q3 q5 (!q18))))
theorem FD (fu:Nat)(a0:List Int):Ctr prog 8 [(tL (tI .u8)).va a0] [] (x8 fu a0) (fun _ _=>[]) (fun q=>isB q):=by
 refine .w func8 ntmps8 fun hf A w=>?_
 unfold x8
 refine .s<|.an z z<|.seq<|.s<|go ?_
 refine .cd z ?_ ?_
 ·exact fr
 ·refine .skip<|.s<|.m z z<|.call0 (Fz fu _) Ed z z fun q1=>go ?_
  refine .alloc tBase d0_1026 [] cR z fun b2=>go ?_
  refine .s<|go ?_
  refine .call0 (FC fu _ _) Eg z z fun q3=>go ?_
  refine .alloc tBase d0_1026 [] cR z fun b4=>go ?_
  refine .s<|go ?_
  refine .call0 (Fy fu _ _) Ec z z fun q5=>go ?_
  refine .alloc tBase d0_1026 [] cR z fun b6=>go ?_
  refine .seq<|.seq<|.join1 (fun i7=>⟨[(4,(tL tDeed).va q1.2,none),(5,isP b4 0,none),(6,isI .i64 q3.2.1,none),(7,isI .i64 q3.2.2,none),(9,isI .i64 q5.2.1,none),(10,isI .i64 q5.2.2,none),(50,isB i7,none)],[boxO b4 tBase q3.1 []]⟩) (fun i7=>iF fu q1 q3 q5 i7) (fun i7=>?_) (fun hj1=>?_)
  ·refine .cd z ?_ ?_
   ·refine .seq<|.join1 (fun i8=>⟨[(2,isB i8,none)],[]⟩) (fun i8=>kp i8) (fun i8=>?_) (fun hj2=>?_)
    ·exact fr
    ·refine .g<|go ?_
     refine .split 54 z (fun _=>?_) (fun _=>?_)
     ·exact fj (hj2 _)
     ·exact fj (hj2 _)
   ·refine .skip<|.seq<|.s<|.an z z<|.block<|.loop<|.keep [4,5,7,11] [] z<|(show ∀ (n2001:Nat) (i9:Int),W _ _ _ _ _ ⟨[(4,(tL tDeed).va q1.2,none),(5,isP b4 0,none),(7,isI .i64 q3.2.2,none),(11,isI .i64 i9,none)],[boxO b4 tBase q3.1 []]⟩ (bb fu q1 q3 n2001 i9) from ?_) fu _
    intro n2001
    induction n2001 with
    | zero=>exact fun _=>.stop
    | succ n2001 ih1=>
     intro i9
     refine .inLoop<|.seq<|.s<|go ?_
     refine .cd z ?_ ?_
     ·refine .skip<|.seq<|.block<|.s<|go ?_
      refine .call0 (c23 fu _) n23 z z fun q10=>.an z z<|.s<|.an z z<|.block<|.loop<|.keep [4,5,7,11,12,13] [] z<|(show ∀ (n2002:Nat) (i11:Int),W _ _ _ _ _ ⟨[(4,(tL tDeed).va q1.2,none),(5,isP b4 0,none),(7,isI .i64 q3.2.2,none),(11,isI .i64 i9,none),(12,(tL tCol).va q10,none),(13,isI .i64 i11,none)],[boxO b4 tBase q3.1 []]⟩ (dU fu q3 i9 q10 (bb fu q1 q3 n2001) n2002 i11) from ?_) fu _
      intro n2002
      induction n2002 with
      | zero=>exact fun _=>.stop
      | succ n2002 ih2=>
       intro i11
       refine .inLoop<|.seq<|.s<|go ?_
       refine .cd z ?_ ?_
       ·refine .skip<|.seq<|.block<|.seq<|.pT fun h10=>.pT fun h11=>.pT fun h12=>.draw 17 [] mix (by kernel_rfl) sts z<|.call0 (c16 fu _ _) n16 z z fun q12=>go ?_
        refine .seq<|.join1 (fun i13=>⟨[(4,(tL tDeed).va q1.2,none),(5,isP b4 0,none),(7,isI .i64 q3.2.2,none),(11,isI .i64 i9,none),(12,(tL tCol).va q10,none),(13,isI .i64 i11,none),(113,isB i13,none)],[boxO b4 tBase q3.1 []]⟩) (fun i13=>nN i11 (bb fu q1 q3 n2001) (dU fu q3 i9 q10 (bb fu q1 q3 n2001) n2002) i13) (fun i13=>?_) (fun hj7=>?_)
        ·refine .cd z ?_ ?_
         ·exact fr
         ·exact fj (ih2 _)
        ·refine .g<|go ?_
         refine .split 108 z (fun _=>?_) (fun _=>?_)
         ·exact fj (hj7 _)
         ·refine go ?_
          exact .call0 (Fx fu _ _) Eb z z fun q14=>fj (hj7 _)
       ·exact fj (ih1 _)
     ·refine .exit z<|.seq<|.join1 (fun i15=>⟨[(2,isB i15,none)],[]⟩) (fun i15=>ko (bb fu q1 q3 n2001) i15) (fun i15=>?_) (fun hj8=>?_)
      ·exact fr
      ·refine .g<|go ?_
       refine .call0 (px fu _) oQ z z fun q16=>.m z z<|.split 116 z (fun _=>?_) (fun _=>?_)
       ·refine go ?_
        refine .call0 (Gl fu _) EW z z fun q17=>go ?_
        refine .split 120 z (fun _=>?_) (fun _=>?_)
        ·exact fj (hj8 _)
        ·exact fj (hj8 _)
       ·exact fj (hj8 _)
  ·refine .g<|go ?_
   refine .split 41 z (fun _=>?_) (fun _=>?_)
   ·exact fj (hj1 _)
   ·refine go ?_
    refine .split 46 z (fun _=>?_) (fun _=>?_)
    ·exact fj (hj1 _)
    ·refine go ?_
     exact .call0 (mh fu _) ma z z fun q18=>fj (hj1 _)
end Go.Proofs.YtganfdhmkdehlaaGreatDoor
