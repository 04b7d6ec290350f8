/- What functions answer. -/
import Derived.Test.YtganfdhmkdehlaaGreatDoorQ2007A2
import Derived.KernelRfl
set_option linter.all false
namespace Go.Proofs.YtganfdhmkdehlaaGreatDoor
open Go Go.HL Tryz
attribute [local irreducible] W WO
def nH (i2:Int)(rec1:Int→(List Set)→Rd→Option ((List Set)×Rd))(i9:List Set)(i10:Rd):Option ((List Set)×Rd):=rec1 (IntKind.i64.wrap (i2+1)) i9 i10
def nG (a1:List Col)(i2:Int)(i4:List Set)(i14:Rd)(rec1:Int→(List Set)→Rd→Option ((List Set)×Rd))(i15:Val):Option ((List Set)×Rd):=cond (decide (0≤i2)&&decide (i2 < (a1.length:Int))) (cond (decide (i4.length+List.length ([(⟨(a1.getD i2.toNat default).name,i15⟩:Set)]:List Set)≤CAP)) (nH i2 rec1 (i4++([(⟨(a1.getD i2.toNat default).name,i15⟩:Set)]:List Set)) i14) none) none
def lD (a1:List Col)(i2:Int)(i4:List Set)(q11:Val×Rd)(rec1:Int→(List Set)→Rd→Option ((List Set)×Rd))(i13:Bool)(i14:Rd):Option ((List Set)×Rd):=cond i13 (cond (decide (0≤i2)&&decide (i2 < (a1.length:Int))) (nG a1 i2 i4 i14 rec1 ({ q11.1 with kind:=(a1.getD i2.toNat default).kind }:Val)) none) (nG a1 i2 i4 i14 rec1 q11.1)
def nI (fu:Nat)(a1:List Col)(i2:Int)(i4:List Set)(rec1:Int→(List Set)→Rd→Option ((List Set)×Rd))(i6:Bool)(i7:Rd):Option ((List Set)×Rd):=cond i6 (cond (decide (0≤i2)&&decide (i2 < (a1.length:Int))) ((f95 fu i7 ((a1.getD i2.toNat default).kind)).bind fun q11=>cond (decide (0≤i2)&&decide (i2 < (a1.length:Int))) (cond ((a1.getD i2.toNat default).need) (cond (decide (q11.1.kind=0)) ((f74 fu q11.2 6).bind fun q17=>lD a1 i2 i4 q11 rec1 (decide (0<q17.1)) q17.2) (lD a1 i2 i4 q11 rec1 false q11.2)) (lD a1 i2 i4 q11 rec1 false q11.2)) none) none) (nH i2 rec1 i4 i7)
def nF (rec1:Int→(List Set)→Rd→Option ((List Set)×Rd))(i20:List Set)(i21:Rd):Option ((List Set)×Rd):=some (i20,i21)
def dz (fu:Nat)(a1:List Col):Nat→Int→(List Set)→Rd→Option ((List Set)×Rd)
 | 0,_,_,_=>none
 | n1+1,i2,i4,i5=>cond (decide (i2 < (a1.length:Int))) (cond (decide (0≤i2)&&decide (i2 < (a1.length:Int))) (cond ((a1.getD i2.toNat default).need) (nI fu a1 i2 i4 (dz fu a1 n1) true i5) ((f74 fu i5 2).bind fun q18=>nI fu a1 i2 i4 (dz fu a1 n1) (decide (q18.1=0)) q18.2)) none) ((f74 fu i5 40).bind fun q19=>cond (decide (q19.1=0)) ((f96 fu q19.2 ([([97]:List UInt8),([122,122]:List UInt8),([]:List UInt8)]:List (List UInt8))).bind fun q22=>cond (decide (i4.length+List.length ([(⟨q22.1,d0_49.val⟩:Set)]:List Set)≤CAP)) (some (i4++([(⟨q22.1,d0_49.val⟩:Set)]:List Set),q22.2)) none) (cond (decide (q19.1=1)) (cond (decide (0 < (i4.length:Int))) ((f97 fu q19.2).bind fun q24=>cond (decide (0≤(0:Int))&&decide ((0:Int) < (i4.length:Int))) (nF (dz fu a1 n1) (i4.set (0:Int).toNat ({ (i4.getD (0:Int).toNat default) with val:=q24.1 }:Set)) q24.2) none) (nF (dz fu a1 n1) i4 q19.2)) (nF (dz fu a1 n1) i4 q19.2)))
def f62 (fu:Nat)(a0:Rd)(a1:List Col):Option ((List Set)×Rd):=dz fu a1 fu 0 ([]:List Set) a0
theorem n62:Nm prog 160:=nmK func160
def nD (i2:Int)(rec1:Int→(List Set)→Rd→Option ((List Set)×Rd))(i9:List Set)(i10:Rd):Option ((List Set)×Rd):=rec1 (IntKind.i64.wrap (i2+1)) i9 i10
def nC (a1:List Col)(i2:Int)(i4:List Set)(i14:Rd)(rec1:Int→(List Set)→Rd→Option ((List Set)×Rd))(i15:Val):Option ((List Set)×Rd):=cond (decide (0≤i2)&&decide (i2 < (a1.length:Int))) (cond (decide (i4.length+List.length ([(⟨(a1.getD i2.toNat default).name,i15⟩:Set)]:List Set)≤CAP)) (nD i2 rec1 (i4++([(⟨(a1.getD i2.toNat default).name,i15⟩:Set)]:List Set)) i14) none) none
def ke (a1:List Col)(i2:Int)(i4:List Set)(q11:Val×Rd)(rec1:Int→(List Set)→Rd→Option ((List Set)×Rd))(i13:Bool)(i14:Rd):Option ((List Set)×Rd):=cond i13 (cond (decide (0≤i2)&&decide (i2 < (a1.length:Int))) (nC a1 i2 i4 i14 rec1 ({ q11.1 with kind:=(a1.getD i2.toNat default).kind }:Val)) none) (nC a1 i2 i4 i14 rec1 q11.1)
def nE (fu:Nat)(a1:List Col)(i2:Int)(i4:List Set)(rec1:Int→(List Set)→Rd→Option ((List Set)×Rd))(i6:Bool)(i7:Rd):Option ((List Set)×Rd):=cond i6 (cond (decide (0≤i2)&&decide (i2 < (a1.length:Int))) ((f95 fu i7 ((a1.getD i2.toNat default).kind)).bind fun q11=>cond (decide (0≤i2)&&decide (i2 < (a1.length:Int))) (cond ((a1.getD i2.toNat default).need) (cond (decide (q11.1.kind=0)) ((f74 fu q11.2 6).bind fun q17=>ke a1 i2 i4 q11 rec1 (decide (0<q17.1)) q17.2) (ke a1 i2 i4 q11 rec1 false q11.2)) (ke a1 i2 i4 q11 rec1 false q11.2)) none) none) (nD i2 rec1 i4 i7)
def kd (rec1:Int→(List Set)→Rd→Option ((List Set)×Rd))(i20:List Set)(i21:Rd):Option ((List Set)×Rd):=some (i20,i21)
def f62a_l1 (fu:Nat)(a1:List Col):Nat→Int→(List Set)→Rd→Option ((List Set)×Rd)
 | 0,_,_,_=>none
 | n1+1,i2,i4,i5=>cond (decide (i2 < (a1.length:Int))) (cond (decide (0≤i2)&&decide (i2 < (a1.length:Int))) (cond ((a1.getD i2.toNat default).need) (nE fu a1 i2 i4 (f62a_l1 fu a1 n1) true i5) ((f74 fu i5 2).bind fun q18=>nE fu a1 i2 i4 (f62a_l1 fu a1 n1) (decide (q18.1=0)) q18.2)) none) ((f74 fu i5 40).bind fun q19=>cond (decide (q19.1=0)) ((f96 fu q19.2 ([([97]:List UInt8),([122,122]:List UInt8),([]:List UInt8)]:List (List UInt8))).bind fun q22=>cond (decide (i4.length+List.length ([(⟨q22.1,d0_49.val⟩:Set)]:List Set)≤CAP)) (some (i4++([(⟨q22.1,d0_49.val⟩:Set)]:List Set),q22.2)) none) (cond (decide (q19.1=1)) (cond (decide (0 < (i4.length:Int))) ((f97 fu q19.2).bind fun q24=>cond (decide (0≤(0:Int))&&decide ((0:Int) < (i4.length:Int))) (kd (f62a_l1 fu a1 n1) (i4.set (0:Int).toNat ({ (i4.getD (0:Int).toNat default) with val:=q24.1 }:Set)) q24.2) none) (kd (f62a_l1 fu a1 n1) i4 q19.2)) (kd (f62a_l1 fu a1 n1) i4 q19.2)))
def f62a (fu:Nat)(a0:Rd)(a1:List Col):Option ((List Set)×Rd):=f62a_l1 fu a1 fu 0 ([]:List Set) a0
theorem H4 (fu:Nat)(bp0:Nat)(a0:Rd)(a1:List Col):aY prog 160 [isP bp0 0,(tL tCol).va a1] [boxO bp0 tRd a0 []] (f62a fu a0 a1) (fun v=>v) (fun q v=>[arrO tSet v q.1,boxO bp0 tRd q.2 []]) (fun _ v=>tRaw.va v):=by
 refine .w func160 ntmps160 fun hf A w=>?_
 unfold f62a
 refine .s<|.a z z<|.arrNil tSet<|.nil<|.s<|.lit (T:=tSet) u35 zN z z (.nil) z fun v1=>.toArr 0 8 z z z<|.an z z<|.seq<|.s<|.an z z<|.block<|.loop<|.drop (.d<|.c<|.d<|.e)<|.keep [0,1,6] [5] z<|(show ∀ (n1:Nat) (i2:Int) (v3:Value) (i4:List Set) (i5:Rd),W _ _ _ _ _ ⟨[(0,isP bp0 0,none),(1,(tL tCol).va a1,none),(6,isI .i64 i2,none),(5,isV v3,some v3)],[arrO tSet v3 i4,boxO bp0 tRd i5 []]⟩ (f62a_l1 fu a1 n1 i2 i4 i5) from ?_) fu _ _ _ _
 intro n1
 induction n1 with
 | zero=>exact fun _ _ _ _=>.stop
 | succ n1 ih1=>
  intro i2 v3 i4 i5
  refine .inLoop<|.seq<|.s<|go ?_
  refine .cd z ?_ ?_
  ·refine .skip<|.seq<|.block<|.seq<|.join2 (fun i6 i7=>⟨[(0,isP bp0 0,none),(1,(tL tCol).va a1,none),(6,isI .i64 i2,none),(24,isB i6,none),(5,isV v3,some v3)],[arrO tSet v3 i4,boxO bp0 tRd i7 []]⟩) (fun i6 i7=>nE fu a1 i2 i4 (f62a_l1 fu a1 n1) i6 i7) (fun i6 i7=>?_) (fun hj11=>?_)
   ·refine .join3 (fun v8 i9 i10=>⟨[(0,isP bp0 0,none),(1,(tL tCol).va a1,none),(6,isI .i64 i2,none),(5,isV v8,some v8)],[arrO tSet v8 i9,boxO bp0 tRd i10 []]⟩) (fun v8 i9 i10=>nD i2 (f62a_l1 fu a1 n1) i9 i10) (fun v8 i9 i10=>?_) (fun hj12=>?_)
    ·exact fj (ih1 _ _ _ _)
    ·refine .cd z ?_ ?_
     ·refine .s<|go ?_
      refine .call1 1 (c95 fu _ _ _) z n95 z z fun q11=>.alloc tVal d0_47 [] z47 z fun b12=>go ?_
      refine .seq<|.seq<|.join2 (fun i13 i14=>⟨[(0,isP bp0 0,none),(1,(tL tCol).va a1,none),(6,isI .i64 i2,none),(7,isP b12 0,none),(46,isB i13,none),(5,isV v3,some v3)],[boxO b12 tVal q11.1 [],arrO tSet v3 i4,boxO bp0 tRd i14 []]⟩) (fun i13 i14=>ke a1 i2 i4 q11 (f62a_l1 fu a1 n1) i13 i14) (fun i13 i14=>?_) (fun hj13=>?_)
      ·refine .join1 (fun i15=>⟨[(0,isP bp0 0,none),(1,(tL tCol).va a1,none),(6,isI .i64 i2,none),(7,isP b12 0,none),(5,isV v3,some v3)],[boxO b12 tVal i15 [],arrO tSet v3 i4,boxO bp0 tRd i14 []]⟩) (fun i15=>nC a1 i2 i4 i14 (f62a_l1 fu a1 n1) i15) (fun i15=>?_) (fun hj14=>?_)
       ·refine .pT fun h3=>.draw 7 [0] mix (by kernel_rfl) sts z<|go ?_
        exact .appA (T:=tSet) 1 z z z u35 zN z fun v16=>fj (hj12 _ _ _)
       ·refine .cd z ?_ ?_
        ·exact fj (hj14 _)
        ·exact fj (hj14 _)
      ·refine .g<|go ?_
       refine .split 37 z (fun _=>?_) (fun _=>?_)
       ·refine go ?_
        refine .split 42 z (fun _=>?_) (fun _=>?_)
        ·refine go ?_
         exact .call1 2 (c74 fu _ _ _) z n74 z z fun q17=>fj (hj13 _ _)
        ·exact fj (hj13 _ _)
       ·exact fj (hj13 _ _)
     ·exact fj (hj12 _ _ _)
   ·refine .g<|go ?_
    refine .split 20 z (fun _=>?_) (fun _=>?_)
    ·exact fj (hj11 _ _)
    ·refine go ?_
     exact .call1 1 (c74 fu _ _ _) z n74 z z fun q18=>fj (hj11 _ _)
  ·refine .exit z<|.seq<|.s<|.m z z<|.call1 1 (c74 fu _ _ _) z n74 z z fun q19=>.nil<|.block<|.s<|go ?_
   refine .join2 (fun i20 i21=>⟨[(5,isV v3,some v3)],[arrO tSet v3 i20,boxO bp0 tRd i21 []]⟩) (fun i20 i21=>kd (f62a_l1 fu a1 n1) i20 i21) (fun i20 i21=>?_) (fun hj15=>?_)
   ·refine .inBlock<|.s<|go ?_
    exact .toRaw 0 4 z z<|.retL1 v3 func160 results160 (.tmp z) z (fun _ _ _ h=>h.1) (.d<|.d<|.e)
   ·refine .cd z ?_ ?_
    ·refine .s<|go ?_
     refine .call1 1 (c96 fu _ _ _) z n96 z z fun q22=>go ?_
     exact .appA (T:=tSet) 0 z z z u35 zN z fun v23=>.an z z<|.toRaw 0 4 z z<|.retL1 v23 func160 results160 (.tmp z) z (fun _ _ _ h=>h.1) (.d<|.d<|.e)
    ·refine .s<|go ?_
     refine .cd z ?_ ?_
     ·refine .s<|go ?_
      refine .cd z ?_ ?_
      ·refine .g<|go ?_
       exact .call1 1 (c97 fu _ _) z n97 z z fun q24=>fj (hj15 _ _)
      ·exact fj (hj15 _ _)
     ·exact fj (hj15 _ _)
def f141_j1 (i5:List Val):Option (List Val):=some i5
def CT (fu:Nat)(a0:List Col)(a1:aa)(a2:List Val):Option (List Val):=(f108 fu a0 a1.name).bind fun q2=>cond (decide (List.length ([]:List Val)+a2.length≤CAP)) (cond (decide (a1.kind=1)) (cond (decide (List.length (([]:List Val)++a2)+List.length ([a1.col.def_]:List Val)≤CAP)) (some ((([]:List Val)++a2)++([a1.col.def_]:List Val))) none) (cond (decide (a1.kind=2)) (cond (decide (0≤(0:Int))&&decide ((0:Int)≤q2)&&decide (q2≤(a2.length:Int))) (cond (decide (List.length ([]:List Val)+List.length ((a2.take q2.toNat).drop (0:Int).toNat)≤CAP)) (cond (decide (0≤(IntKind.i64.wrap (q2+1)))&&decide ((IntKind.i64.wrap (q2+1))≤(a2.length:Int))&&decide ((a2.length:Int)≤(a2.length:Int))) (cond (decide (List.length (([]:List Val)++((a2.take q2.toNat).drop (0:Int).toNat))+List.length ((a2.take (a2.length:Int).toNat).drop (IntKind.i64.wrap (q2+1)).toNat)≤CAP)) (some ((([]:List Val)++((a2.take q2.toNat).drop (0:Int).toNat))++((a2.take (a2.length:Int).toNat).drop (IntKind.i64.wrap (q2+1)).toNat))) none) none) none) none) (cond (decide (a1.kind=4)) (cond (decide (0≤q2)&&decide (q2 < (a2.length:Int))) ((BA fu (a2.getD q2.toNat default) a1.col.kind).bind fun q9=>cond (decide (0≤q2)&&decide (q2 < (List.length (([]:List Val)++a2):Int))) (f141_j1 ((([]:List Val)++a2).set q2.toNat q9)) none) none) (f141_j1 (([]:List Val)++a2))))) none
theorem n141:Nm prog 224:=nmK func224
theorem c141 (fu:Nat)(a0:List Col)(a1:aa)(a2:List Val):Ctr prog 224 [(tL tCol).va a0,tChange.va a1,(tL tVal).va a2] [] (CT fu a0 a1 a2) (fun _ _=>[]) (fun q=>(tL tVal).va q):=by
 refine .w func224 ntmps224 fun hf A w=>?_
 unfold CT
 refine .s<|.box (T:=tChange) z z fun b1=>.assignNil tVal z<|.nil<|.s<|go ?_
 refine .call0 (c108 fu _ _) n108 z z fun q2=>.an z z<|.s<|.lit (T:=tVal) u62 fv z z (.nil) z fun v3=>.toArr 0 13 z z z<|.m z z<|.appA (T:=tVal) 0 z z z u62 fv z fun v4=>.an z z<|.seq<|.s<|go ?_
 refine .block<|.s<|go ?_
 refine .join1 (fun i5=>⟨[(8,isV v4,some v4)],[arrO tVal v4 i5]⟩) (fun i5=>f141_j1 i5) (fun i5=>?_) (fun hj1=>?_)
 ·refine .inBlock<|.s<|go ?_
  exact .frz 0 6 z z<|fr
 ·refine .cd z ?_ ?_
  ·refine .s<|go ?_
   exact .frz 0 8 z z<|.also 20 8 z z<|.app (T:=tVal) 0 z z z u62 fv z fun v6=>fr
  ·refine .s<|go ?_
   refine .cd z ?_ ?_
   ·exact .seq<|.pT fun h1=>.pT fun h2=>.pT fun h3=>.drawS 9 [] [4] [] mix (by kernel_rfl) (.j (fun o=>.litE tVal u62 fv z z)<|.j (fun o=>.m (o z) z)<|.j (fun o=>.m (o z) z)<|.k (fun p e h=>.useC h1<|.cut (e.op z) u62 fv z ⟨_,(e.op z)⟩ z<|h)<|.skip<|.j (fun o=>.m (o z) z)<|.j (fun o=>.m (o z) z)<|.j (fun o=>.bin z (o z) (o z) z)<|.k (fun p e h=>.useC h3<|.cut (e.op z) u62 fv ⟨_,(e.op z)⟩ z z<|h)<|.nil) z<|.cons (d:=32) z z fun _ _ hE h=>.useC h2<|.appE (T:=tVal) (hE.op z) (hE.op z) z u62 fv z fun v7=>.toEnd<|h _ _ (.same<|.same<|.nil)<|.nil<|.app (T:=tVal) 2 z z z u62 fv z fun v8=>fr
   ·refine .s<|go ?_
    refine .cd z ?_ ?_
    ·exact .pT fun h4=>.draw 9 [0,1] mix (by kernel_rfl) sts z<|.call0 (Hb fu _ _) GT z z fun q9=>fj (hj1 _)
    ·exact fj (hj1 _)
def jw (fu:Nat)(a1:List aa):Nat→(List Col)→(List Val)→Int→Option (List Val)
 | 0,_,_,_=>none
 | n1+1,i5,i6,i7=>cond (decide (i7 < (a1.length:Int))) (cond (decide (0≤i7)&&decide (i7 < (a1.length:Int))) ((CT fu i5 (a1.getD i7.toNat default) i6).bind fun q8=>cond (decide (0≤i7)&&decide (i7 < (a1.length:Int))) ((f87 fu i5 (a1.getD i7.toNat default)).bind fun q9=>(jw fu a1 n1) q9.1 q8 (IntKind.i64.wrap (i7+1))) none) none) (some i6)
def nX (fu:Nat)(a0:List Col)(a1:List aa)(a2:List Val)(i2:Bool):Option (List Val):=cond i2 (some ([]:List Val)) (cond (decide (List.length ([]:List Val)+a2.length≤CAP)) (jw fu a1 fu a0 (([]:List Val)++a2) 0) none)
def BC (fu:Nat)(a0:List Col)(a1:List aa)(a2:List Val):Option (List Val):=(f50 fu a0 a1).bind fun q1=>cond (!q1.2) (nX fu a0 a1 a2 true) (nX fu a0 a1 a2 (!decide ((a2.length:Int)=(a0.length:Int))))
theorem GV:Nm prog 211:=nmK func211
theorem Hd (fu:Nat)(a0:List Col)(a1:List aa)(a2:List Val):Ctr prog 211 [(tL tCol).va a0,(tL tChange).va a1,(tL tVal).va a2] [] (BC fu a0 a1 a2) (fun _ _=>[]) (fun q=>(tL tVal).va q):=by
 refine .w func211 ntmps211 fun hf A w=>?_
 unfold BC
 refine .s<|.assignNil tVal z<|.nil<|.s<|go ?_
 refine .call0 (c50 fu _ _) n50 z z fun q1=>go ?_
 refine .seq<|.seq<|.join1 (fun i2=>⟨[(0,(tL tCol).va a0,none),(1,(tL tChange).va a1,none),(2,(tL tVal).va a2,none),(25,isB i2,none)],[]⟩) (fun i2=>nX fu a0 a1 a2 i2) (fun i2=>?_) (fun hj1=>?_)
 ·refine .cd z ?_ ?_
  ·exact fr
  ·refine .skip<|.s<|.lit (T:=tVal) u62 fv z z (.nil) z fun v3=>.m z z<|.app (T:=tVal) 0 z z z u62 fv z fun v4=>.an z z<|.seq<|.s<|.an z z<|.block<|.loop<|.drop (.c<|.e)<|.keep [0,1,9,10] [] z<|(show ∀ (n1:Nat) (i5:List Col) (i6:List Val) (i7:Int),W _ _ _ _ _ ⟨[(0,(tL tCol).va i5,none),(1,(tL tChange).va a1,none),(9,(tL tVal).va i6,none),(10,isI .i64 i7,none)],[]⟩ (jw fu a1 n1 i5 i6 i7) from ?_) fu _ _ _
   intro n1
   induction n1 with
   | zero=>exact fun _ _ _=>.stop
   | succ n1 ih1=>
    intro i5 i6 i7
    refine .inLoop<|.seq<|.s<|go ?_
    refine .cd z ?_ ?_
    ·refine .skip<|.seq<|.block<|.s<|go ?_
     refine .call0 (c141 fu _ _ _) n141 z z fun q8=>.an z z<|.g<|go ?_
     exact .call0 (c87 fu _ _) n87 z z fun q9=>fj (ih1 _ _ _)
    ·exact fr
 ·refine .g<|go ?_
  refine .split 19 z (fun _=>?_) (fun _=>?_)
  ·exact fj (hj1 _)
  ·exact fj (hj1 _)
def f90 (fu:Nat)(a0:ab)(a1:Row):Option (List Val):=(f89 fu a0 a1.ver).bind fun q3=>cond (decide (0≤a1.ver)&&decide (a1.ver≤(a0.changes.length:Int))&&decide ((a0.changes.length:Int)≤(a0.changes.length:Int))) ((BC fu q3 ((a0.changes.take (a0.changes.length:Int).toNat).drop a1.ver.toNat) a1.vals).bind fun q4=>some q4) none
theorem n90:Nm prog 180:=nmK func180
theorem c90 (fu:Nat)(a0:ab)(a1:Row):Ctr prog 180 [tTable.va a0,tRow.va a1] [] (f90 fu a0 a1) (fun _ _=>[]) (fun q=>(tL tVal).va q):=by
 refine .w func180 ntmps180 fun hf A w=>?_
 unfold f90
 exact .s<|.box (T:=tTable) z z fun b1=>.box (T:=tRow) z z fun b2=>.assignNil tVal z<|.nil<|.seq<|.pbind fun q3 h1=>.pT fun h2=>.draw 11 [] mix (by kernel_rfl) (.k (fun p e=>.lp 1 (Fld.self _) (e.op z) (p.get z z) ty27 z)<|.j (fun o=>.fp (o z) bh z)<|.k (fun p e=>.lp 0 a8 (e.op z) (p.get z z) ty3 z)<|.k (fun p e h=>.bindE h1 (fun r h=>.call0 (c89 fu _ _) n89 (e.ops z) z h)<|h)<|.j (fun o=>.fp (o z) bw z)<|.k (fun p e=>.lp 1 br (e.op z) (p.get z z) kT z)<|.j (fun o=>.fp (o z) bh z)<|.k (fun p e=>.lp 0 a8 (e.op z) (p.get z z) ty3 z)<|.k (fun p e h=>.useC h2<|.cut (e.op z) u56 jR ⟨_,(e.op z)⟩ z z<|h)<|.j (fun o=>.fp (o z) cV z)<|.k (fun p e=>.lp 0 dy (e.op z) (p.get z z) oA z)<|.nil) z<|.call0 (Hd fu _ _ _) GV z z fun q4=>fr
def Bx (fu:Nat)(a0:ab)(a1:Row):Option (List Val):=(DK fu a0 a1.ver).bind fun q3=>cond (decide (0≤a1.ver)&&decide (a1.ver≤(a0.changes.length:Int))&&decide ((a0.changes.length:Int)≤(a0.changes.length:Int))) ((BC fu q3 ((a0.changes.take (a0.changes.length:Int).toNat).drop a1.ver.toNat) a1.vals).bind fun q4=>some q4) none
theorem Fr (fu:Nat)(vp0:Value)(cp0:Value)(a0:ab)(a1:Row):Ctr prog 180 [tTableA.va (⟨a0.first,(cp0,a0.changes),vp0,a0.next⟩:aq),tRow.va a1] [arrO tRow vp0 a0.rows] (Bx fu a0 a1) (fun _ _=>[arrO tRow vp0 a0.rows]) (fun q=>(tL tVal).va q):=by
 refine .w func180 ntmps180 fun hf A w=>?_
 unfold Bx
 exact .s<|.box (T:=tTableA) z z fun b1=>.box (T:=tRow) z z fun b2=>.assignNil tVal z<|.nil<|.seq<|.pbind fun q3 h1=>.pT fun h2=>.draw 11 [] mix (by kernel_rfl) (.k (fun p e=>.lp 1 (Fld.self _) (e.op z) (p.get z z) ty27 z)<|.j (fun o=>.fp (o z) bh z)<|.k (fun p e=>.lp 0 a8 (e.op z) (p.get z z) ty3 z)<|.k (fun p e h=>.bindE h1 (fun r h=>.callR 2 (G6 fu _ _ _ _) (p.get z z) n89 (e.ops z) z h)<|h)<|.j (fun o=>.fp (o z) bw z)<|.k (fun p e=>.loadK 1 az (e.op z) (p.get z z) kT z)<|.j (fun o=>.fp (o z) bh z)<|.k (fun p e=>.lp 0 a8 (e.op z) (p.get z z) ty3 z)<|.k (fun p e h=>.useC h2<|.cut (e.op z) u56 jR ⟨_,(e.op z)⟩ z z<|h)<|.j (fun o=>.fp (o z) cV z)<|.k (fun p e=>.lp 0 dy (e.op z) (p.get z z) oA z)<|.nil) z<|.call0 (Hd fu _ _ _) GV z z fun q4=>fr
def gR (a2:List Set)(i3:Int)(i4:List Val)(q5:Int)(rec1:Int→(List Val)→Option ((List Val)×Bool)):Nat→Int→Option ((List Val)×Bool)
 | 0,_=>none
 | n2+1,i7=>cond (decide (i7<i3)) (cond (decide (0≤i7)&&decide (i7 < (a2.length:Int))) (cond (decide (0≤i3)&&decide (i3 < (a2.length:Int))) (cond (decide (((a2.getD i7.toNat default).name)=((a2.getD i3.toNat default).name))) (some (i4,false)) ((gR a2 i3 i4 q5 rec1 n2) (IntKind.i64.wrap (i7+1)))) none) none) (cond (decide (0≤i3)&&decide (i3 < (a2.length:Int))) (cond (decide (0≤q5)&&decide (q5 < (i4.length:Int))) (rec1 (IntKind.i64.wrap (i3+1)) (i4.set q5.toNat ((a2.getD i3.toNat default).val))) none) none)
def f100_j2 (fu:Nat)(a2:List Set)(i3:Int)(i4:List Val)(q5:Int)(rec1:Int→(List Val)→Option ((List Val)×Bool))(i6:Bool):Option ((List Val)×Bool):=cond i6 (some (i4,false)) (gR a2 i3 i4 q5 rec1 fu 0)
def bL (fu:Nat)(a0:List Col)(a2:List Set):Nat→Int→(List Val)→Option ((List Val)×Bool)
 | 0,_,_=>none
 | n1+1,i3,i4=>cond (decide (i3 < (a2.length:Int))) (cond (decide (0≤i3)&&decide (i3 < (a2.length:Int))) ((f108 fu a0 ((a2.getD i3.toNat default).name)).bind fun q5=>cond (decide (q5<0)) (f100_j2 fu a2 i3 i4 q5 (bL fu a0 a2 n1) true) (cond (decide (0≤i3)&&decide (i3 < (a2.length:Int))) ((vI fu ((a2.getD i3.toNat default).val)).bind fun q8=>cond (!q8) (f100_j2 fu a2 i3 i4 q5 (bL fu a0 a2 n1) true) (cond (decide (0≤i3)&&decide (i3 < (a2.length:Int))) (cond (!decide ((((a2.getD i3.toNat default).val).kind)=0)) (cond (decide (0≤i3)&&decide (i3 < (a2.length:Int))) (cond (decide (0≤q5)&&decide (q5 < (a0.length:Int))) (f100_j2 fu a2 i3 i4 q5 (bL fu a0 a2 n1) (!decide ((((a2.getD i3.toNat default).val).kind)=((a0.getD q5.toNat default).kind)))) none) none) (f100_j2 fu a2 i3 i4 q5 (bL fu a0 a2 n1) false)) none)) none)) none) (some (i4,true))
def BH (fu:Nat)(a0:List Col)(a1:List Val)(a2:List Set):Option ((List Val)×Bool):=cond (decide (List.length ([]:List Val)+a1.length≤CAP)) (bL fu a0 a2 fu 0 (([]:List Val)++a1)) none
theorem G0:Nm prog 216:=nmK func216
theorem Hh (fu:Nat)(a0:List Col)(a1:List Val)(a2:List Set):Ctr prog 216 [(tL tCol).va a0,(tL tVal).va a1,(tL tSet).va a2] [] (BH fu a0 a1 a2) (fun _ _=>[]) (fun q=>tup [(tL tVal).va q.1,isB q.2]):=by
 refine .w func216 ntmps216 fun hf A w=>?_
 unfold BH
 refine .s<|.assignNil tVal z<|.an z z<|.s<|.lit (T:=tVal) u62 fv z z (.nil) z fun v1=>.toArr 0 12 z z z<|.m z z<|.appA (T:=tVal) 0 z z z u62 fv z fun v2=>.an z z<|.seq<|.s<|.an z z<|.block<|.loop<|.keep [0,2,9] [8] z<|(show ∀ (n1:Nat) (i3:Int) (i4:List Val),W _ _ _ _ _ ⟨[(0,(tL tCol).va a0,none),(2,(tL tSet).va a2,none),(9,isI .i64 i3,none),(8,isV v2,some v2)],[arrO tVal v2 i4]⟩ (bL fu a0 a2 n1 i3 i4) from ?_) fu _ _
 intro n1
 induction n1 with
 | zero=>exact fun _ _=>.stop
 | succ n1 ih1=>
  intro i3 i4
  refine .inLoop<|.seq<|.s<|go ?_
  refine .cd z ?_ ?_
  ·refine .skip<|.seq<|.block<|.s<|go ?_
   refine .call0 (c108 fu _ _) n108 z z fun q5=>.an z z<|.seq<|.seq<|.join1 (fun i6=>⟨[(0,(tL tCol).va a0,none),(2,(tL tSet).va a2,none),(9,isI .i64 i3,none),(10,isI .i64 q5,none),(61,isB i6,none),(8,isV v2,some v2)],[arrO tVal v2 i4]⟩) (fun i6=>f100_j2 fu a2 i3 i4 q5 (bL fu a0 a2 n1) i6) (fun i6=>?_) (fun hj2=>?_)
   ·refine .cd z ?_ ?_
    ·refine .s<|go ?_
     exact .frz 0 6 z z<|fr
    ·refine .skip<|.seq<|.s<|.an z z<|.block<|.loop<|.keep [0,2,9,10,11] [8] z<|(show ∀ (n2:Nat) (i7:Int),W _ _ _ _ _ ⟨[(0,(tL tCol).va a0,none),(2,(tL tSet).va a2,none),(9,isI .i64 i3,none),(10,isI .i64 q5,none),(11,isI .i64 i7,none),(8,isV v2,some v2)],[arrO tVal v2 i4]⟩ (gR a2 i3 i4 q5 (bL fu a0 a2 n1) n2 i7) from ?_) fu _
     intro n2
     induction n2 with
     | zero=>exact fun _=>.stop
     | succ n2 ih2=>
      intro i7
      refine .inLoop<|.seq<|.s<|go ?_
      refine .cd z ?_ ?_
      ·refine .skip<|.seq<|.block<|.seq<|.pT fun h15=>.pT fun h16=>.draw 10 [] mix (by kernel_rfl) sts z<|.seq z z z<|.nil<|.cd z ?_ ?_
       ·refine .s<|go ?_
        exact .frz 0 6 z z<|fr
       ·exact fj (ih2 _)
      ·exact fj (ih1 _ _)
   ·refine .pcond (fun h17=>?_) (fun h17=>?_)
    ·exact .draw 31 [] mix (by kernel_rfl) sts z<|fj (hj2 _)
    ·refine .pT fun h18=>.pb (BN fu _) Bw fun q8 h19 k=>.pcond (fun h20=>?_) (fun h20=>?_)
     ·exact .draw 31 [] mix (by kernel_rfl) sts z<|fj (hj2 _)
     ·refine .pT fun h21=>.pcond (fun h22=>?_) (fun h22=>?_)
      ·exact .pT fun h23=>.pT fun h24=>.draw 31 [] mix (by kernel_rfl) sts z<|fj (hj2 _)
      ·exact .draw 31 [] mix (by kernel_rfl) sts z<|fj (hj2 _)
  ·refine .exit z<|.s<|go ?_
   exact .frz 0 6 z z<|fr
end Go.Proofs.YtganfdhmkdehlaaGreatDoor
