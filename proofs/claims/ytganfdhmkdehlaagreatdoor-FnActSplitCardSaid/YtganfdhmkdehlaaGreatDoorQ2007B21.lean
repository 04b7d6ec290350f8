/- What functions answer. -/
import Derived.Test.YtganfdhmkdehlaaGreatDoorQ2007B19
import Derived.KernelRfl
set_option linter.all false
namespace Go.Proofs.YtganfdhmkdehlaaGreatDoor
open Go Go.HL Tryz
attribute [local irreducible] W WO
def kl (i5:Int)(i16:Rd)(rec1:Int→(List aQ)→ac→Rd→Option ((List aQ)×Rd))(i17:List aQ)(i19:ac):Option ((List aQ)×Rd):=rec1 (IntKind.i64.wrap (i5-1)) i17 i19 i16
def ix (i5:Int)(i6:List aQ)(i8:ac)(q11:aQ×Rd)(q13:ac×Int)(rec1:Int→(List aQ)→ac→Rd→Option ((List aQ)×Rd))(i15:Bool)(i16:Rd):Option ((List aQ)×Rd):=cond i15 (cond (decide (i6.length+List.length ([q11.1]:List aQ)≤CAP)) (kl i5 i16 rec1 (i6++([q11.1]:List aQ)) q13.1) none) (kl i5 i16 rec1 i6 i8)
def cH (fu:Nat):Nat→Int→(List aQ)→ac→Rd→Option ((List aQ)×Rd)
 | 0,_,_,_,_=>none
 | n2001+1,i5,i6,i8,i9=>cond (decide (0<i5)) ((vB fu i9 i8).bind fun q10=>(vC fu q10.2 q10.1).bind fun q11=>(vF fu i8 q11.1).bind fun q13=>cond (decide (q13.2=0)) (ix i5 i6 i8 q11 q13 (cH fu n2001) true q11.2) ((f74 fu q11.2 6).bind fun q21=>ix i5 i6 i8 q11 q13 (cH fu n2001) (decide (q21.1=0)) q21.2)) (some (i6,i9))
def vy (fu:Nat)(a0:Rd)(a1:ac):Option ((List aQ)×Rd):=(f74 fu a0 2).bind fun q3=>(f73 fu q3.2 ([1,2,3,4,5,0,IntKind.i64.wrap (6+q3.1)]:List Int)).bind fun q4=>cH fu fu q4.1 ([]:List aQ) a1 q4.2
theorem Ek:Nm prog 59:=nmK func59
theorem FF (fu:Nat)(bp0:Nat)(a0:Rd)(a1:ac):Ctr prog 59 [isP bp0 0,tBase.va a1] [boxO bp0 tRd a0 []] (vy fu a0 a1) (fun q _=>[boxO bp0 tRd q.2 []]) (fun q=>(tL tDeed).va q.1):=by
 refine .w func59 ntmps59 fun hf A w=>?_
 unfold vy
 refine .s<|.box (T:=tBase) z z fun b1=>.assignNil tDeed z<|.nil<|.s<|.lit (T:=tDeed) u32 ps z z (.nil) z fun v2=>.an z z<|.seq<|.s<|go ?_
 refine .call1 2 (c74 fu _ _ _) z n74 z z fun q3=>go ?_
 refine .call1 2 (c73 fu _ _ _) z n73 z z fun q4=>.an z z<|.block<|.loop<|.keep [0,3,6] [5] z<|(show ∀ (n2001:Nat) (i5:Int) (i6:List aQ) (v7:Value) (i8:ac) (i9:Rd),W _ _ _ _ _ ⟨[(0,isP bp0 0,none),(3,isP b1 0,none),(6,isI .i64 i5,none),(5,(tL tDeed).va i6,some v7)],[appO 19 v7,boxO b1 tBase i8 [],boxO bp0 tRd i9 []]⟩ (cH fu n2001 i5 i6 i8 i9) from ?_) fu _ _ _ _ _
 intro n2001
 induction n2001 with
 | zero=>exact fun _ _ _ _ _=>.stop
 | succ n2001 ih1=>
  intro i5 i6 v7 i8 i9
  refine .inLoop<|.seq<|.s<|go ?_
  refine .cd z ?_ ?_
  ·refine .skip<|.seq<|.block<|.s<|go ?_
   refine .call1 2 (c2039 fu _ _ _) z n2039 z z fun q10=>.call1 2 (FI fu _ _ _) z En z z fun q11=>.alloc tDeed d0_2046 [] z2046 z fun b12=>go ?_
   refine .s<|go ?_
   refine .call0 (FL fu _ _) Er z z fun q13=>go ?_
   refine .alloc tBase d0_1026 [] cz z fun b14=>go ?_
   refine .seq<|.join2 (fun i15 i16=>⟨[(0,isP bp0 0,none),(3,isP b1 0,none),(6,isI .i64 i5,none),(7,isP b12 0,none),(8,isP b14 0,none),(38,isB i15,none),(5,(tL tDeed).va i6,some v7)],[boxO b14 tBase q13.1 [],boxO b12 tDeed q11.1 [],appO 19 v7,boxO b1 tBase i8 [],boxO bp0 tRd i16 []]⟩) (fun i15 i16=>ix i5 i6 i8 q11 q13 (cH fu n2001) i15 i16) (fun i15 i16=>?_) (fun hj3=>?_)
   ·refine .join3 (fun i17 v18 i19=>⟨[(0,isP bp0 0,none),(3,isP b1 0,none),(6,isI .i64 i5,none),(5,(tL tDeed).va i17,some v18)],[appO 19 v18,boxO b1 tBase i19 [],boxO bp0 tRd i16 []]⟩) (fun i17 v18 i19=>kl i5 i16 (cH fu n2001) i17 i19) (fun i17 v18 i19=>?_) (fun hj4=>?_)
    ·exact fj (ih1 _ _ _ _ _)
    ·refine .cd z ?_ ?_
     ·refine .s<|go ?_
      exact .app (T:=tDeed) 2 z z z u32 ps z fun v20=>fj (hj4 _ _ _)
     ·exact fj (hj4 _ _ _)
   ·refine .g<|go ?_
    refine .split 34 z (fun _=>?_) (fun _=>?_)
    ·exact fj (hj3 _ _)
    ·refine go ?_
     exact .call1 4 (c74 fu _ _ _) z n74 z z fun q21=>fj (hj3 _ _)
  ·exact fr
def vE (fu:Nat)(a0:List Int):Option (ac×(List aQ)):=(f60 fu a0).bind fun q2=>(vZ fu q2).bind fun q4=>(vA fu q4.1).bind fun q6=>(vy fu q4.2 q6).bind fun q7=>some (q4.1,q7.1)
theorem Ep:Nm prog 19:=nmK func19
theorem FK (fu:Nat)(a0:List Int):Ctr prog 19 [(tL (tI .u8)).va a0] [] (vE fu a0) (fun _ _=>[]) (fun q=>tup [tBase.va q.1,(tL tDeed).va q.2]):=by
 refine .w func19 ntmps19 fun hf A w=>?_
 unfold vE
 refine .s<|.alloc tBase d0_1026 [] cz z fun b1=>.assignNil tDeed z<|.nil<|.s<|.m z z<|.callP (c60 fu _) n60 z z fun q2 b3=>.an z z<|.s<|.m z z<|.call1 0 (Gp fu _ _) z E0 z z fun q4=>.alloc tBase d0_1026 [] cz z fun b5=>go ?_
 exact .seq<|.pb (FH fu _) Em fun q6 h1 k=>.pbind fun q7 h2=>.drawS 5 [] [4] [1] mix (by kernel_rfl) sts z<|.cons (d:=14) z z fun _ _ hE h=>.bindE h2 (fun r h=>.call1 1 (FF fu _ _ _) z Ek (hE.ops z) z h)<|h _ _ (.same<|.hole z<|.same<|.nil)<|fr
def vD (fu:Nat)(a0:ac)(a1:List aQ):Option (ac×Int×Int):=(jz fu a0).bind fun q3=>cond (!q3) (some ((⟨d0_1026.tabs,d0_1026.links⟩:ac),1,0)) ((vx fu a0 a1).bind fun q4=>some (q4.1,q4.2.1,q4.2.2))
theorem Eo:Nm prog 20:=nmK func20
theorem FJ (fu:Nat)(a0:ac)(a1:List aQ):Ctr prog 20 [tBase.va a0,(tL tDeed).va a1] [] (vD fu a0 a1) (fun _ _=>[]) (fun q=>tup [tBase.va q.1,isI .i64 q.2.1,isI .i64 q.2.2]):=by
 refine .w func20 ntmps20 fun hf A w=>?_
 unfold vD
 refine .s<|.box (T:=tBase) z z fun b1=>.alloc tBase d0_1026 [] cz z fun b2=>go ?_
 refine .seq<|.s<|go ?_
 refine .call0 (ol fu _) nn z z fun q3=>.not z z<|.nil<|.cd z ?_ ?_
 ·exact fr
 ·refine .skip<|.s<|go ?_
  exact .call0 (FE fu _ _) Ej z z fun q4=>fr
def f8 (i13:Bool):Option Bool:=some i13
noncomputable def km (fu:Nat) (a1:List Int) (q2:ac×(List aQ)) (q4:ac×Int×Int) (q6:ac×Int×Int) (i8:Bool):Option Bool:=cond i8 (some (decide (q4.2.1=q6.2.1))) (cond (decide (((IntKind.i64.wrap ((q2.2.length:Int)+1)):Int)=0)) none (cond (decide (0≤(0:Int))&&decide ((0:Int)≤((a1.length:Int).tmod (IntKind.i64.wrap ((q2.2.length:Int)+1))))&&decide (((a1.length:Int).tmod (IntKind.i64.wrap ((q2.2.length:Int)+1)))≤(q2.2.length:Int))) ((qy fu q2.1 ((q2.2.take ((a1.length:Int).tmod (IntKind.i64.wrap ((q2.2.length:Int)+1))).toNat).drop (0:Int).toNat)).bind fun q9=>cond (decide (0≤((a1.length:Int).tmod (IntKind.i64.wrap ((q2.2.length:Int)+1))))&&decide (((a1.length:Int).tmod (IntKind.i64.wrap ((q2.2.length:Int)+1)))≤(q2.2.length:Int))&&decide ((q2.2.length:Int)≤(q2.2.length:Int))) ((qy fu q9.1 ((q2.2.take (q2.2.length:Int).toNat).drop ((a1.length:Int).tmod (IntKind.i64.wrap ((q2.2.length:Int)+1))).toNat)).bind fun q11=>cond (decide (q9.2.1=0)) (cond (decide (q11.2.1=0)) (cond (decide (q9.2.2=((a1.length:Int).tmod (IntKind.i64.wrap ((q2.2.length:Int)+1))))) (cond (decide (q11.2.2=(IntKind.i64.wrap ((q2.2.length:Int) - ((a1.length:Int).tmod (IntKind.i64.wrap ((q2.2.length:Int)+1))))))) ((tC fu q11.1 q4.1).bind fun q14=>f8 q14) (f8 false)) (f8 false)) (f8 false)) (f8 false)) none) none))
noncomputable def iB (fu:Nat) (a0:List Int) (a1:List Int) (i1:Bool):Option Bool:=cond i1 (some true) ((vE fu a0).bind fun q2=>(qy fu q2.1 q2.2).bind fun q4=>(vD fu q2.1 q2.2).bind fun q6=>cond (!decide (q4.2.1=q6.2.1)) (km fu a1 q2 q4 q6 true) (km fu a1 q2 q4 q6 (!decide (q4.2.1=0))))
noncomputable def yh (fu:Nat) (a0:List Int) (a1:List Int):Option Bool:=cond (decide (1048576 < (a0.length:Int))) (iB fu a0 a1 true) (iB fu a0 a1 (decide (1048576 < (a1.length:Int))))
theorem FN (fu:Nat)(a0:List Int)(a1:List Int):Ctr prog 7 [(tL (tI .u8)).va a0,(tL (tI .u8)).va a1] [] (yh fu a0 a1) (fun _ _=>[]) (fun q=>isB q):=by
 refine .w func7 ntmps7 fun hf A w=>?_
 unfold yh
 refine .s<|.an z z<|.seq<|.seq<|.join1 (fun i1=>⟨[(0,(tL (tI .u8)).va a0,none),(1,(tL (tI .u8)).va a1,none),(27,isB i1,none)],[]⟩) (fun i1=>iB fu a0 a1 i1) (fun i1=>?_) (fun hj1=>?_)
 ·refine .cd z ?_ ?_
  ·exact fr
  ·refine .skip<|.s<|.m z z<|.call0 (FK fu _) Ep z z fun q2=>go ?_
   refine .alloc tBase d0_1026 [] cz z fun b3=>go ?_
   refine .s<|go ?_
   refine .call0 (A5 fu _ _) z8 z z fun q4=>go ?_
   refine .alloc tBase d0_1026 [] cz z fun b5=>go ?_
   refine .s<|go ?_
   refine .call0 (FJ fu _ _) Eo z z fun q6=>go ?_
   refine .alloc tBase d0_1026 [] cz z fun b7=>go ?_
   refine .seq<|.seq<|.join1 (fun i8=>⟨[(1,(tL (tI .u8)).va a1,none),(5,isP b3 0,none),(6,(tL tDeed).va q2.2,none),(7,isP b5 0,none),(8,isI .i64 q4.2.1,none),(11,isI .i64 q6.2.1,none),(53,isB i8,none)],[boxO b5 tBase q4.1 [],boxO b3 tBase q2.1 []]⟩) (fun i8=>km fu a1 q2 q4 q6 i8) (fun i8=>?_) (fun hj2=>?_)
   ·refine .cd z ?_ ?_
    ·exact fr
    ·refine .skip<|.s<|go ?_
     refine .rem z z z<|.an z z<|.seq<|.pT fun h1=>.pbind fun q9 h2=>.drawS 10 [7,8] [9] [] mix (by kernel_rfl) (.k (fun p e=>.lp 1 (Fld.self _) (e.op z) (p.get z z) ao z)<|.j (fun o=>.m (o z) z)<|.j (fun o=>.m (o z) z)<|.k (fun p e h=>.useC h1<|.cut (e.op z) u32 ps z ⟨_,(e.op z)⟩ z<|h)<|.k (fun p e h=>.bindE h2 (fun r h=>.call0 (A5 fu _ _) z8 (e.ops z) z h)<|h)<|.j (fun o=>.m (o z) z)<|.j (fun o=>.extract (o z) z z)<|.j (fun o=>.extract (o z) z z)<|.j (fun o=>.extract (o z) z z)<|.skip<|.nil) z<|.cons (d:=14) z z fun _ _ hE h=>.alloc tBase d0_1026 [] cz z fun b10=>.toEnd<|h _ _ (.same<|.same<|.nil)<|go ?_
     refine .seq<|.pT fun h3=>.pbind fun q11 h4=>.drawS 10 [7,8] [9] [] mix (by kernel_rfl) (.k (fun p e=>.lp 2 (Fld.self _) (e.op z) (p.get z z) ao z)<|.j (fun o=>.m (o z) z)<|.j (fun o=>.m (o z) z)<|.k (fun p e h=>.useC h3<|.cut (e.op z) u32 ps ⟨_,(e.op z)⟩ z z<|h)<|.k (fun p e h=>.bindE h4 (fun r h=>.call0 (A5 fu _ _) z8 (e.ops z) z h)<|h)<|.j (fun o=>.m (o z) z)<|.j (fun o=>.extract (o z) z z)<|.j (fun o=>.extract (o z) z z)<|.j (fun o=>.extract (o z) z z)<|.skip<|.nil) z<|.cons (d:=17) z z fun _ _ hE h=>.alloc tBase d0_1026 [] cz z fun b12=>.toEnd<|h _ _ (.same<|.same<|.same<|.nil)<|go ?_
     refine .seq<|.join1 (fun i13=>⟨[(4,isB i13,none)],[]⟩) (fun i13=>f8 i13) (fun i13=>?_) (fun hj3=>?_)
     ·exact fr
     ·refine .g<|go ?_
      refine .split 83 z (fun _=>?_) (fun _=>?_)
      ·refine go ?_
       refine .split 87 z (fun _=>?_) (fun _=>?_)
       ·refine go ?_
        refine .split 92 z (fun _=>?_) (fun _=>?_)
        ·refine go ?_
         refine .split 100 z (fun _=>?_) (fun _=>?_)
         ·refine go ?_
          exact .call0 (GB fu _ _) Fc z z fun q14=>fj (hj3 _)
         ·exact fj (hj3 _)
        ·exact fj (hj3 _)
       ·exact fj (hj3 _)
      ·exact fj (hj3 _)
   ·refine .g<|go ?_
    refine .split 50 z (fun _=>?_) (fun _=>?_)
    ·exact fj (hj2 _)
    ·exact fj (hj2 _)
 ·refine .g<|go ?_
  refine .split 23 z (fun _=>?_) (fun _=>?_)
  ·exact fj (hj1 _)
  ·exact fj (hj1 _)
end Go.Proofs.YtganfdhmkdehlaaGreatDoor
