/- Functions of the program: what each answers, and that the machine answers so. -/
import Derived.Test.YtdpigighgmipfaaGreatDoorQ1008A2
import Derived.KernelRfl
set_option linter.all false
namespace Go.Proofs.YtdpigighgmipfaaGreatDoor
open Go Go.HL Tryz
def f62_j12 (i2:Int)(rec1:Int→(List Set)→Rd→Option ((List Set)×Rd))(i9:List Set)(i10:Rd):Option ((List Set)×Rd):=rec1 (IntKind.i64.wrap (i2+1)) i9 i10
def f62_j14 (a1:List Col)(i2:Int)(i4:List Set)(i14:Rd)(rec1:Int→(List Set)→Rd→Option ((List Set)×Rd))(i15:Val):Option ((List Set)×Rd):=cond (decide (0≤i2)&&decide (i2 < (a1.length:Int))) (cond (decide (i4.length+List.length ([(⟨(a1.getD i2.toNat default).name,i15⟩:Set)]:List Set)≤CAP)) (f62_j12 i2 rec1 (i4++([(⟨(a1.getD i2.toNat default).name,i15⟩:Set)]:List Set)) i14) none) none
def f62_j13 (a1:List Col)(i2:Int)(i4:List Set)(q11:Val×Rd)(rec1:Int→(List Set)→Rd→Option ((List Set)×Rd))(i13:Bool)(i14:Rd):Option ((List Set)×Rd):=cond i13 (cond (decide (0≤i2)&&decide (i2 < (a1.length:Int))) (f62_j14 a1 i2 i4 i14 rec1 ({ q11.1 with kind:=(a1.getD i2.toNat default).kind }:Val)) none) (f62_j14 a1 i2 i4 i14 rec1 q11.1)
def f62_j11 (fu:Nat)(a1:List Col)(i2:Int)(i4:List Set)(rec1:Int→(List Set)→Rd→Option ((List Set)×Rd))(i6:Bool)(i7:Rd):Option ((List Set)×Rd):=cond i6 (cond (decide (0≤i2)&&decide (i2 < (a1.length:Int))) ((f95 fu i7 ((a1.getD i2.toNat default).kind)).bind fun q11=>cond (decide (0≤i2)&&decide (i2 < (a1.length:Int))) (cond ((a1.getD i2.toNat default).need) (cond (decide (q11.1.kind=0)) ((f74 fu q11.2 6).bind fun q17=>f62_j13 a1 i2 i4 q11 rec1 (decide (0<q17.1)) q17.2) (f62_j13 a1 i2 i4 q11 rec1 false q11.2)) (f62_j13 a1 i2 i4 q11 rec1 false q11.2)) none) none) (f62_j12 i2 rec1 i4 i7)
def f62_j15 (rec1:Int→(List Set)→Rd→Option ((List Set)×Rd))(i20:List Set)(i21:Rd):Option ((List Set)×Rd):=some (i20,i21)
def f62_l1 (fu:Nat)(a1:List Col):Nat→Int→(List Set)→Rd→Option ((List Set)×Rd)
 | 0,_,_,_=>none
 | n1+1,i2,i4,i5=>cond (decide (i2 < (a1.length:Int))) (cond (decide (0≤i2)&&decide (i2 < (a1.length:Int))) (cond ((a1.getD i2.toNat default).need) (f62_j11 fu a1 i2 i4 (f62_l1 fu a1 n1) true i5) ((f74 fu i5 2).bind fun q18=>f62_j11 fu a1 i2 i4 (f62_l1 fu a1 n1) (decide (q18.1=0)) q18.2)) none) ((f74 fu i5 40).bind fun q19=>cond (decide (q19.1=0)) ((f96 fu q19.2 ([([97]:List UInt8),([122,122]:List UInt8),([]:List UInt8)]:List (List UInt8))).bind fun q22=>cond (decide (i4.length+List.length ([(⟨q22.1,d0_49.val⟩:Set)]:List Set)≤CAP)) (some (i4++([(⟨q22.1,d0_49.val⟩:Set)]:List Set),q22.2)) none) (cond (decide (q19.1=1)) (cond (decide (0 < (i4.length:Int))) ((f97 fu q19.2).bind fun q24=>cond (decide (0≤(0:Int))&&decide ((0:Int) < (i4.length:Int))) (f62_j15 (f62_l1 fu a1 n1) (i4.set (0:Int).toNat ({ (i4.getD (0:Int).toNat default) with val:=q24.1 }:Set)) q24.2) none) (f62_j15 (f62_l1 fu a1 n1) i4 q19.2)) (f62_j15 (f62_l1 fu a1 n1) i4 q19.2)))
def f62 (fu:Nat)(a0:Rd)(a1:List Col):Option ((List Set)×Rd):=f62_l1 fu a1 fu 0 ([]:List Set) a0
theorem n62:Nm prog 101:=⟨_,_,func101,by kernel_rfl,z⟩
theorem c62 (fu:Nat)(bp0:Nat)(a0:Rd)(a1:List Col):Ctr prog 101 [isP bp0 0,(tL tCol).va a1] [boxO bp0 tRd a0 []] (f62 fu a0 a1) (fun q _=>[boxO bp0 tRd q.2 []]) (fun q=>(tL tSet).va q.1):=by
 refine Ctr.of_W func101 z ntmps101 z fun A w=>?_
 unfold f62
 refine .s<|.assignNil tSet z<|.nil<|.s<|.lit (T:=tSet) u68 el49 z z (.nil) z fun v1=>.toArr 0 8 z z z<|.an z z<|.seq<|.s<|.an z z<|.block<|.loop<|.keep [0,1,6] [5] z<|(show ∀ (n1:Nat) (i2:Int) (v3:Value) (i4:List Set) (i5:Rd),W _ _ _ _ _ ⟨[(0,isP bp0 0,none),(1,(tL tCol).va a1,none),(6,isI .i64 i2,none),(5,isV v3,some v3)],[arrO tSet v3 i4,boxO bp0 tRd i5 []]⟩ (f62_l1 fu a1 n1 i2 i4 i5) from ?_) fu _ _ _ _
 intro n1
 induction n1 with
 | zero=>exact fun _ _ _ _=>.stop
 | succ n1 ih1=>
  intro i2 v3 i4 i5
  refine .inLoop<|.seq<|.s<|.m z z<|.m z z<|.lenL z u27 z<|.bin z z z z<|.nil<|.cd z ?_ ?_
  ·refine .skip<|.seq<|.block<|.seq<|.join2 (fun i6 i7=>⟨[(0,isP bp0 0,none),(1,(tL tCol).va a1,none),(6,isI .i64 i2,none),(24,isB i6,none),(5,isV v3,some v3)],[arrO tSet v3 i4,boxO bp0 tRd i7 []]⟩) (fun i6 i7=>f62_j11 fu a1 i2 i4 (f62_l1 fu a1 n1) i6 i7) (fun i6 i7=>?_) (fun hj11=>?_)
   ·refine .join3 (fun v8 i9 i10=>⟨[(0,isP bp0 0,none),(1,(tL tCol).va a1,none),(6,isI .i64 i2,none),(5,isV v8,some v8)],[arrO tSet v8 i9,boxO bp0 tRd i10 []]⟩) (fun v8 i9 i10=>f62_j12 i2 (f62_l1 fu a1 n1) i9 i10) (fun v8 i9 i10=>?_) (fun hj12=>?_)
    ·exact .inBlock<|.g<|.m z z<|.bin z z z z<|.an z z<|.keep [0,1,6] [5] z (ih1 _ _ _ _)
    ·refine .cd z ?_ ?_
     ·refine .s<|.m z z<|.m z z<|.m z z<|.elemAt z z u27 ty52 z<|.fieldAt fCol_1 z fa52_1 z<|.load z ty3 z<|.call1 1 (c95 fu _ _ _) z n95 z z fun q11=>.alloc tVal d0_47 [] z47 z fun b12=>.storeP 0 (Fld.self _) z z z ty47<|.nil<|.seq<|.seq<|.join2 (fun i13 i14=>⟨[(0,isP bp0 0,none),(1,(tL tCol).va a1,none),(6,isI .i64 i2,none),(7,isP b12 0,none),(46,isB i13,none),(5,isV v3,some v3)],[boxO b12 tVal q11.1 [],arrO tSet v3 i4,boxO bp0 tRd i14 []]⟩) (fun i13 i14=>f62_j13 a1 i2 i4 q11 (f62_l1 fu a1 n1) i13 i14) (fun i13 i14=>?_) (fun hj13=>?_)
      ·refine .join1 (fun i15=>⟨[(0,isP bp0 0,none),(1,(tL tCol).va a1,none),(6,isI .i64 i2,none),(7,isP b12 0,none),(5,isV v3,some v3)],[boxO b12 tVal i15 [],arrO tSet v3 i4,boxO bp0 tRd i14 []]⟩) (fun i15=>f62_j14 a1 i2 i4 i14 (f62_l1 fu a1 n1) i15) (fun i15=>?_) (fun hj14=>?_)
       ·refine .pT fun h3=>?_
        exact .draw 7 [0] mix (by kernel_rfl) (.j (fun o=>.m (o z) z)<|.j (fun o=>.m (o z) z)<|.j (fun o=>.m (o z) z)<|.k (fun p e h=>.useC h3<|.elemAt (e.op z) (e.op z) u27 ty52 z<|h)<|.j (fun o=>.fieldAt fCol_0 (o z) fa52_0 z)<|.j (fun o=>.load (o z) ty9 z)<|.k (fun p e=>.lp 0 (Fld.self _) (e.op z) (p.get z z) ty47 z)<|.nil) z<|.build z st49 z49 (.cons fSet_0 z z<|.cons fSet_1 z z<|.nil) z<|.litN (T:=tSet) u68 el49 z z (.cons z<|.nil) z<|.appA (T:=tSet) 1 z z z u68 el49 z fun v16=>.an z z<|.keep [0,1,6] [5] z (.drop (.c<|.d<|.d<|.e)<|hj12 _ _ _)
       ·refine .cd z ?_ ?_
        ·exact .g<|.m z z<|.m z z<|.elemAt z z u27 ty52 z<|.fieldAt fCol_1 z fa52_1 z<|.load z ty3 z<|.fp z fa47_0 z<|.storeP 0 fVal_0 z z z ty3<|.nil<|.keep [0,1,6,7] [5] z (hj14 _)
        ·exact .skip<|.keep [0,1,6,7] [5] z (hj14 _)
      ·refine .g<|.m z z<|.m z z<|.elemAt z z u27 ty52 z<|.fieldAt fCol_2 z fa52_2 z<|.load z ty4 z<|.m z z<|.split 37 z (fun _=>?_) (fun _=>?_)
       ·refine .on z z<|.fp z fa47_0 z<|.on z z<|.lp 0 fVal_0 z z ty3 z<|.on z z<|.bin z z z z<|.pickT z z z<|.m z z<|.split 42 z (fun _=>?_) (fun _=>?_)
        ·exact .on z z<|.m z z<|.on z z<|.call1 2 (c74 fu _ _ _) z n74 z z fun q17=>.on z z<|.bin z z z z<|.pickT z z z<|.nil<|.keep [0,1,6,7,46] [5] z (hj13 _ _)
        ·exact .off z z z<|.off z z z<|.off z z z<|.pickF z z z<|.nil<|.keep [0,1,6,7,46] [5] z (hj13 _ _)
       ·exact .off z z z<|.off z z z<|.off z z z<|.pickF z z z<|.m z z<|.off z z z<|.off z z z<|.off z z z<|.pickF z z z<|.nil<|.keep [0,1,6,7,46] [5] z (hj13 _ _)
     ·exact .skip<|.keep [0,1,6] [5] z (hj12 _ _ _)
   ·refine .g<|.m z z<|.m z z<|.elemAt z z u27 ty52 z<|.fieldAt fCol_2 z fa52_2 z<|.load z ty4 z<|.m z z<|.split 20 z (fun _=>?_) (fun _=>?_)
    ·exact .off z z z<|.off z z z<|.off z z z<|.pickT z z z<|.nil<|.keep [0,1,6,24] [5] z (hj11 _ _)
    ·exact .on z z<|.m z z<|.on z z<|.call1 1 (c74 fu _ _ _) z n74 z z fun q18=>.on z z<|.bin z z z z<|.pickF z z z<|.nil<|.keep [0,1,6,24] [5] z (hj11 _ _)
  ·refine .exit z<|.seq<|.s<|.m z z<|.call1 1 (c74 fu _ _ _) z n74 z z fun q19=>.nil<|.block<|.s<|.bin z z z z<|.an z z<|.join2 (fun i20 i21=>⟨[(5,isV v3,some v3)],[arrO tSet v3 i20,boxO bp0 tRd i21 []]⟩) (fun i20 i21=>f62_j15 (f62_l1 fu a1 n1) i20 i21) (fun i20 i21=>?_) (fun hj15=>?_)
   ·exact .inBlock<|.s<|.m z z<|.an z z<|.frz 0 4 z z<|.ret1 func101 results101 (.tmp z) z (fun _ _=>.c<|.d<|.e)
   ·refine .cd z ?_ ?_
    ·exact .s<|.m z z<|.m z z<|.litN (T:=tS) u89 el9 z z (.cons z<|.cons z<|.cons z<|.nil) z<|.call1 1 (c96 fu _ _ _) z n96 z z fun q22=>.build z st49 z49 (.cons fSet_0 z z<|.nil) z<|.litN (T:=tSet) u68 el49 z z (.cons z<|.nil) z<|.frz 0 5 z z<|.also 67 5 z z<|.app (T:=tSet) 0 z z z u68 el49 z fun v23=>.an z z<|.ret1 func101 results101 (.tmp z) z (fun _ _=>.c<|.d<|.e)
    ·refine .s<|.bin z z z z<|.an z z<|.cd z ?_ ?_
     ·refine .s<|.m z z<|.lenA 0 z z u68 z<|.bin z z z z<|.nil<|.cd z ?_ ?_
      ·exact .g<|.m z z<|.m z z<|.call1 1 (c97 fu _ _) z n97 z z fun q24=>.elemA 0 z z z u68 ty49 z<|.fieldA z fa49_1 z<|.storeA 0 fSet_1 z z z ty47<|.nil<|.keep [] [5] z (hj15 _ _)
      ·exact .skip<|.keep [] [5] z (hj15 _ _)
     ·exact .skip<|.keep [] [5] z (hj15 _ _)
def f62a_j12 (i2:Int)(rec1:Int→(List Set)→Rd→Option ((List Set)×Rd))(i9:List Set)(i10:Rd):Option ((List Set)×Rd):=rec1 (IntKind.i64.wrap (i2+1)) i9 i10
def f62a_j14 (a1:List Col)(i2:Int)(i4:List Set)(i14:Rd)(rec1:Int→(List Set)→Rd→Option ((List Set)×Rd))(i15:Val):Option ((List Set)×Rd):=cond (decide (0≤i2)&&decide (i2 < (a1.length:Int))) (cond (decide (i4.length+List.length ([(⟨(a1.getD i2.toNat default).name,i15⟩:Set)]:List Set)≤CAP)) (f62a_j12 i2 rec1 (i4++([(⟨(a1.getD i2.toNat default).name,i15⟩:Set)]:List Set)) i14) none) none
def f62a_j13 (a1:List Col)(i2:Int)(i4:List Set)(q11:Val×Rd)(rec1:Int→(List Set)→Rd→Option ((List Set)×Rd))(i13:Bool)(i14:Rd):Option ((List Set)×Rd):=cond i13 (cond (decide (0≤i2)&&decide (i2 < (a1.length:Int))) (f62a_j14 a1 i2 i4 i14 rec1 ({ q11.1 with kind:=(a1.getD i2.toNat default).kind }:Val)) none) (f62a_j14 a1 i2 i4 i14 rec1 q11.1)
def f62a_j11 (fu:Nat)(a1:List Col)(i2:Int)(i4:List Set)(rec1:Int→(List Set)→Rd→Option ((List Set)×Rd))(i6:Bool)(i7:Rd):Option ((List Set)×Rd):=cond i6 (cond (decide (0≤i2)&&decide (i2 < (a1.length:Int))) ((f95 fu i7 ((a1.getD i2.toNat default).kind)).bind fun q11=>cond (decide (0≤i2)&&decide (i2 < (a1.length:Int))) (cond ((a1.getD i2.toNat default).need) (cond (decide (q11.1.kind=0)) ((f74 fu q11.2 6).bind fun q17=>f62a_j13 a1 i2 i4 q11 rec1 (decide (0<q17.1)) q17.2) (f62a_j13 a1 i2 i4 q11 rec1 false q11.2)) (f62a_j13 a1 i2 i4 q11 rec1 false q11.2)) none) none) (f62a_j12 i2 rec1 i4 i7)
def f62a_j15 (rec1:Int→(List Set)→Rd→Option ((List Set)×Rd))(i20:List Set)(i21:Rd):Option ((List Set)×Rd):=some (i20,i21)
def f62a_l1 (fu:Nat)(a1:List Col):Nat→Int→(List Set)→Rd→Option ((List Set)×Rd)
 | 0,_,_,_=>none
 | n1+1,i2,i4,i5=>cond (decide (i2 < (a1.length:Int))) (cond (decide (0≤i2)&&decide (i2 < (a1.length:Int))) (cond ((a1.getD i2.toNat default).need) (f62a_j11 fu a1 i2 i4 (f62a_l1 fu a1 n1) true i5) ((f74 fu i5 2).bind fun q18=>f62a_j11 fu a1 i2 i4 (f62a_l1 fu a1 n1) (decide (q18.1=0)) q18.2)) none) ((f74 fu i5 40).bind fun q19=>cond (decide (q19.1=0)) ((f96 fu q19.2 ([([97]:List UInt8),([122,122]:List UInt8),([]:List UInt8)]:List (List UInt8))).bind fun q22=>cond (decide (i4.length+List.length ([(⟨q22.1,d0_49.val⟩:Set)]:List Set)≤CAP)) (some (i4++([(⟨q22.1,d0_49.val⟩:Set)]:List Set),q22.2)) none) (cond (decide (q19.1=1)) (cond (decide (0 < (i4.length:Int))) ((f97 fu q19.2).bind fun q24=>cond (decide (0≤(0:Int))&&decide ((0:Int) < (i4.length:Int))) (f62a_j15 (f62a_l1 fu a1 n1) (i4.set (0:Int).toNat ({ (i4.getD (0:Int).toNat default) with val:=q24.1 }:Set)) q24.2) none) (f62a_j15 (f62a_l1 fu a1 n1) i4 q19.2)) (f62a_j15 (f62a_l1 fu a1 n1) i4 q19.2)))
def f62a (fu:Nat)(a0:Rd)(a1:List Col):Option ((List Set)×Rd):=f62a_l1 fu a1 fu 0 ([]:List Set) a0
theorem c62a (fu:Nat)(bp0:Nat)(a0:Rd)(a1:List Col):CtrL prog 101 [isP bp0 0,(tL tCol).va a1] [boxO bp0 tRd a0 []] (f62a fu a0 a1) (fun v=>v) (fun q v=>[arrO tSet v q.1,boxO bp0 tRd q.2 []]) (fun _ v=>tRaw.va v):=by
 refine CtrL.of_W func101 z ntmps101 z fun A w=>?_
 unfold f62a
 refine .s<|.a z z<|.arrNil tSet<|.nil<|.s<|.lit (T:=tSet) u68 el49 z z (.nil) z fun v1=>.toArr 0 8 z z z<|.an z z<|.seq<|.s<|.an z z<|.block<|.loop<|.drop (.d<|.c<|.d<|.e)<|.keep [0,1,6] [5] z<|(show ∀ (n1:Nat) (i2:Int) (v3:Value) (i4:List Set) (i5:Rd),W _ _ _ _ _ ⟨[(0,isP bp0 0,none),(1,(tL tCol).va a1,none),(6,isI .i64 i2,none),(5,isV v3,some v3)],[arrO tSet v3 i4,boxO bp0 tRd i5 []]⟩ (f62a_l1 fu a1 n1 i2 i4 i5) from ?_) fu _ _ _ _
 intro n1
 induction n1 with
 | zero=>exact fun _ _ _ _=>.stop
 | succ n1 ih1=>
  intro i2 v3 i4 i5
  refine .inLoop<|.seq<|.s<|.m z z<|.m z z<|.lenL z u27 z<|.bin z z z z<|.nil<|.cd z ?_ ?_
  ·refine .skip<|.seq<|.block<|.seq<|.join2 (fun i6 i7=>⟨[(0,isP bp0 0,none),(1,(tL tCol).va a1,none),(6,isI .i64 i2,none),(24,isB i6,none),(5,isV v3,some v3)],[arrO tSet v3 i4,boxO bp0 tRd i7 []]⟩) (fun i6 i7=>f62a_j11 fu a1 i2 i4 (f62a_l1 fu a1 n1) i6 i7) (fun i6 i7=>?_) (fun hj11=>?_)
   ·refine .join3 (fun v8 i9 i10=>⟨[(0,isP bp0 0,none),(1,(tL tCol).va a1,none),(6,isI .i64 i2,none),(5,isV v8,some v8)],[arrO tSet v8 i9,boxO bp0 tRd i10 []]⟩) (fun v8 i9 i10=>f62a_j12 i2 (f62a_l1 fu a1 n1) i9 i10) (fun v8 i9 i10=>?_) (fun hj12=>?_)
    ·exact .inBlock<|.g<|.m z z<|.bin z z z z<|.an z z<|.keep [0,1,6] [5] z (ih1 _ _ _ _)
    ·refine .cd z ?_ ?_
     ·refine .s<|.m z z<|.m z z<|.m z z<|.elemAt z z u27 ty52 z<|.fieldAt fCol_1 z fa52_1 z<|.load z ty3 z<|.call1 1 (c95 fu _ _ _) z n95 z z fun q11=>.alloc tVal d0_47 [] z47 z fun b12=>.storeP 0 (Fld.self _) z z z ty47<|.nil<|.seq<|.seq<|.join2 (fun i13 i14=>⟨[(0,isP bp0 0,none),(1,(tL tCol).va a1,none),(6,isI .i64 i2,none),(7,isP b12 0,none),(46,isB i13,none),(5,isV v3,some v3)],[boxO b12 tVal q11.1 [],arrO tSet v3 i4,boxO bp0 tRd i14 []]⟩) (fun i13 i14=>f62a_j13 a1 i2 i4 q11 (f62a_l1 fu a1 n1) i13 i14) (fun i13 i14=>?_) (fun hj13=>?_)
      ·refine .join1 (fun i15=>⟨[(0,isP bp0 0,none),(1,(tL tCol).va a1,none),(6,isI .i64 i2,none),(7,isP b12 0,none),(5,isV v3,some v3)],[boxO b12 tVal i15 [],arrO tSet v3 i4,boxO bp0 tRd i14 []]⟩) (fun i15=>f62a_j14 a1 i2 i4 i14 (f62a_l1 fu a1 n1) i15) (fun i15=>?_) (fun hj14=>?_)
       ·refine .pT fun h3=>?_
        exact .draw 7 [0] mix (by kernel_rfl) (.j (fun o=>.m (o z) z)<|.j (fun o=>.m (o z) z)<|.j (fun o=>.m (o z) z)<|.k (fun p e h=>.useC h3<|.elemAt (e.op z) (e.op z) u27 ty52 z<|h)<|.j (fun o=>.fieldAt fCol_0 (o z) fa52_0 z)<|.j (fun o=>.load (o z) ty9 z)<|.k (fun p e=>.lp 0 (Fld.self _) (e.op z) (p.get z z) ty47 z)<|.nil) z<|.build z st49 z49 (.cons fSet_0 z z<|.cons fSet_1 z z<|.nil) z<|.litN (T:=tSet) u68 el49 z z (.cons z<|.nil) z<|.appA (T:=tSet) 1 z z z u68 el49 z fun v16=>.an z z<|.keep [0,1,6] [5] z (.drop (.c<|.d<|.d<|.e)<|hj12 _ _ _)
       ·refine .cd z ?_ ?_
        ·exact .g<|.m z z<|.m z z<|.elemAt z z u27 ty52 z<|.fieldAt fCol_1 z fa52_1 z<|.load z ty3 z<|.fp z fa47_0 z<|.storeP 0 fVal_0 z z z ty3<|.nil<|.keep [0,1,6,7] [5] z (hj14 _)
        ·exact .skip<|.keep [0,1,6,7] [5] z (hj14 _)
      ·refine .g<|.m z z<|.m z z<|.elemAt z z u27 ty52 z<|.fieldAt fCol_2 z fa52_2 z<|.load z ty4 z<|.m z z<|.split 37 z (fun _=>?_) (fun _=>?_)
       ·refine .on z z<|.fp z fa47_0 z<|.on z z<|.lp 0 fVal_0 z z ty3 z<|.on z z<|.bin z z z z<|.pickT z z z<|.m z z<|.split 42 z (fun _=>?_) (fun _=>?_)
        ·exact .on z z<|.m z z<|.on z z<|.call1 2 (c74 fu _ _ _) z n74 z z fun q17=>.on z z<|.bin z z z z<|.pickT z z z<|.nil<|.keep [0,1,6,7,46] [5] z (hj13 _ _)
        ·exact .off z z z<|.off z z z<|.off z z z<|.pickF z z z<|.nil<|.keep [0,1,6,7,46] [5] z (hj13 _ _)
       ·exact .off z z z<|.off z z z<|.off z z z<|.pickF z z z<|.m z z<|.off z z z<|.off z z z<|.off z z z<|.pickF z z z<|.nil<|.keep [0,1,6,7,46] [5] z (hj13 _ _)
     ·exact .skip<|.keep [0,1,6] [5] z (hj12 _ _ _)
   ·refine .g<|.m z z<|.m z z<|.elemAt z z u27 ty52 z<|.fieldAt fCol_2 z fa52_2 z<|.load z ty4 z<|.m z z<|.split 20 z (fun _=>?_) (fun _=>?_)
    ·exact .off z z z<|.off z z z<|.off z z z<|.pickT z z z<|.nil<|.keep [0,1,6,24] [5] z (hj11 _ _)
    ·exact .on z z<|.m z z<|.on z z<|.call1 1 (c74 fu _ _ _) z n74 z z fun q18=>.on z z<|.bin z z z z<|.pickF z z z<|.nil<|.keep [0,1,6,24] [5] z (hj11 _ _)
  ·refine .exit z<|.seq<|.s<|.m z z<|.call1 1 (c74 fu _ _ _) z n74 z z fun q19=>.nil<|.block<|.s<|.bin z z z z<|.an z z<|.join2 (fun i20 i21=>⟨[(5,isV v3,some v3)],[arrO tSet v3 i20,boxO bp0 tRd i21 []]⟩) (fun i20 i21=>f62a_j15 (f62a_l1 fu a1 n1) i20 i21) (fun i20 i21=>?_) (fun hj15=>?_)
   ·exact .inBlock<|.s<|.m z z<|.an z z<|.toRaw 0 4 z z<|.retL1 v3 func101 results101 (.tmp z) z (fun _ _ _ h=>h.1) (.d<|.d<|.e)
   ·refine .cd z ?_ ?_
    ·exact .s<|.m z z<|.m z z<|.litN (T:=tS) u89 el9 z z (.cons z<|.cons z<|.cons z<|.nil) z<|.call1 1 (c96 fu _ _ _) z n96 z z fun q22=>.build z st49 z49 (.cons fSet_0 z z<|.nil) z<|.litN (T:=tSet) u68 el49 z z (.cons z<|.nil) z<|.appA (T:=tSet) 0 z z z u68 el49 z fun v23=>.an z z<|.toRaw 0 4 z z<|.retL1 v23 func101 results101 (.tmp z) z (fun _ _ _ h=>h.1) (.d<|.d<|.e)
    ·refine .s<|.bin z z z z<|.an z z<|.cd z ?_ ?_
     ·refine .s<|.m z z<|.lenA 0 z z u68 z<|.bin z z z z<|.nil<|.cd z ?_ ?_
      ·exact .g<|.m z z<|.m z z<|.call1 1 (c97 fu _ _) z n97 z z fun q24=>.elemA 0 z z z u68 ty49 z<|.fieldA z fa49_1 z<|.storeA 0 fSet_1 z z z ty47<|.nil<|.keep [] [5] z (hj15 _ _)
      ·exact .skip<|.keep [] [5] z (hj15 _ _)
     ·exact .skip<|.keep [] [5] z (hj15 _ _)
def f141_j1 (i5:List Val):Option (List Val):=some i5
def f141 (fu:Nat)(a0:List Col)(a1:Change)(a2:List Val):Option (List Val):=(f108 fu a0 a1.name).bind fun q2=>cond (decide (List.length ([]:List Val)+a2.length≤CAP)) (cond (decide (a1.kind=1)) (cond (decide (List.length (([]:List Val)++a2)+List.length ([a1.col.def_]:List Val)≤CAP)) (some ((([]:List Val)++a2)++([a1.col.def_]:List Val))) none) (cond (decide (a1.kind=2)) (cond (decide (0≤(0:Int))&&decide ((0:Int)≤q2)&&decide (q2≤(a2.length:Int))) (cond (decide (List.length ([]:List Val)+List.length ((a2.take q2.toNat).drop (0:Int).toNat)≤CAP)) (cond (decide (0≤(IntKind.i64.wrap (q2+1)))&&decide ((IntKind.i64.wrap (q2+1))≤(a2.length:Int))&&decide ((a2.length:Int)≤(a2.length:Int))) (cond (decide (List.length (([]:List Val)++((a2.take q2.toNat).drop (0:Int).toNat))+List.length ((a2.take (a2.length:Int).toNat).drop (IntKind.i64.wrap (q2+1)).toNat)≤CAP)) (some ((([]:List Val)++((a2.take q2.toNat).drop (0:Int).toNat))++((a2.take (a2.length:Int).toNat).drop (IntKind.i64.wrap (q2+1)).toNat))) none) none) none) none) (cond (decide (a1.kind=4)) (cond (decide (0≤q2)&&decide (q2 < (a2.length:Int))) ((f138 fu (a2.getD q2.toNat default) a1.col.kind).bind fun q9=>cond (decide (0≤q2)&&decide (q2 < (List.length (([]:List Val)++a2):Int))) (f141_j1 ((([]:List Val)++a2).set q2.toNat q9)) none) none) (f141_j1 (([]:List Val)++a2))))) none
theorem n141:Nm prog 209:=⟨_,_,func209,by kernel_rfl,z⟩
theorem c141 (fu:Nat)(a0:List Col)(a1:Change)(a2:List Val):Ctr prog 209 [(tL tCol).va a0,tChange.va a1,(tL tVal).va a2] [] (f141 fu a0 a1 a2) (fun _ _=>[]) (fun q=>(tL tVal).va q):=by
 refine Ctr.of_W func209 z ntmps209 z fun A w=>?_
 unfold f141
 refine .s<|.box (T:=tChange) z z fun b1=>.assignNil tVal z<|.nil<|.s<|.m z z<|.fp z fa56_1 z<|.lp 0 fChange_1 z z ty9 z<|.call0 (c108 fu _ _) n108 z z fun q2=>.an z z<|.s<|.lit (T:=tVal) u76 el47 z z (.nil) z fun v3=>.toArr 0 13 z z z<|.m z z<|.appA (T:=tVal) 0 z z z u76 el47 z fun v4=>.an z z<|.seq<|.s<|.fp z fa56_0 z<|.lp 1 fChange_0 z z ty3 z<|.nil<|.block<|.s<|.bin z z z z<|.an z z<|.join1 (fun i5=>⟨[(8,isV v4,some v4)],[arrO tVal v4 i5]⟩) (fun i5=>f141_j1 i5) (fun i5=>?_) (fun hj1=>?_)
 ·exact .inBlock<|.s<|.m z z<|.an z z<|.frz 0 6 z z<|.ret1 func209 results209 (.tmp z) z (fun _ _=>.c<|.e)
 ·refine .cd z ?_ ?_
  ·exact .s<|.m z z<|.fp z fa56_3 z<|.fp z fa52_4 z<|.lp 1 (fChange_3.comp fCol_4) z z ty47 z<|.litN (T:=tVal) u76 el47 z z (.cons z<|.nil) z<|.frz 0 8 z z<|.also 20 8 z z<|.app (T:=tVal) 0 z z z u76 el47 z fun v6=>.an z z<|.ret1 func209 results209 (.tmp z) z (fun _ _=>.c<|.c<|.e)
  ·refine .s<|.bin z z z z<|.an z z<|.cd z ?_ ?_
   ·refine .seq<|.pT fun h1=>?_
    refine .pT fun h2=>?_
    refine .pT fun h3=>?_
    exact .drawS 9 [] [4] [] mix (by kernel_rfl) (.j (fun o=>.litE tVal u76 el47 z z)<|.j (fun o=>.m (o z) z)<|.j (fun o=>.m (o z) z)<|.k (fun p e h=>.useC h1<|.cut (e.op z) u76 el47 z ⟨_,(e.op z)⟩ z<|h)<|.skip<|.j (fun o=>.m (o z) z)<|.j (fun o=>.m (o z) z)<|.j (fun o=>.bin z (o z) (o z) z)<|.k (fun p e h=>.useC h3<|.cut (e.op z) u76 el47 ⟨_,(e.op z)⟩ z z<|h)<|.nil) z<|.cons (d:=32) z z fun _ _ hE h=>.useC h2<|.appE (T:=tVal) (hE.op z) (hE.op z) z u76 el47 z fun v7=>.toEnd<|h _ _ (.same<|.same<|.nil)<|.nil<|.app (T:=tVal) 2 z z z u76 el47 z fun v8=>.an z z<|.ret1 func209 results209 (.tmp z) z (fun _ _=>.c<|.c<|.c<|.e)
   ·refine .s<|.bin z z z z<|.an z z<|.cd z ?_ ?_
    ·refine .pT fun h4=>?_
     exact .draw 9 [0,1] mix (by kernel_rfl) (.j (fun o=>.m (o z) z)<|.j (fun o=>.m (o z) z)<|.j (fun o=>.m (o z) z)<|.j (fun o=>.m (o z) z)<|.k (fun p e h=>.useC h4<|.elemAt (e.op z) (e.op z) u76 ty47 z<|h)<|.j (fun o=>.load (o z) ty47 z)<|.j (fun o=>.fp (o z) fa56_3 z)<|.j (fun o=>.fp (o z) fa52_1 z)<|.k (fun p e=>.lp 1 (fChange_3.comp fCol_1) (e.op z) (p.get z z) ty3 z)<|.nil) z<|.call0 (c138 fu _ _) n138 z z fun q9=>.elemA 0 z z z u76 ty47 z<|.storeA 0 (Fld.self _) z z z ty47<|.nil<|.keep [] [8] z (.drop (.d<|.c<|.e)<|hj1 _)
    ·exact .skip<|.keep [] [8] z (.drop (.d<|.c<|.e)<|hj1 _)
def f120_l1 (fu:Nat)(a1:List Change):Nat→(List Col)→(List Val)→Int→Option (List Val)
 | 0,_,_,_=>none
 | n1+1,i5,i6,i7=>cond (decide (i7 < (a1.length:Int))) (cond (decide (0≤i7)&&decide (i7 < (a1.length:Int))) ((f141 fu i5 (a1.getD i7.toNat default) i6).bind fun q8=>cond (decide (0≤i7)&&decide (i7 < (a1.length:Int))) ((f87 fu i5 (a1.getD i7.toNat default)).bind fun q9=>(f120_l1 fu a1 n1) q9.1 q8 (IntKind.i64.wrap (i7+1))) none) none) (some i6)
def f120_j1 (fu:Nat)(a0:List Col)(a1:List Change)(a2:List Val)(i2:Bool):Option (List Val):=cond i2 (some ([]:List Val)) (cond (decide (List.length ([]:List Val)+a2.length≤CAP)) (f120_l1 fu a1 fu a0 (([]:List Val)++a2) 0) none)
def f120 (fu:Nat)(a0:List Col)(a1:List Change)(a2:List Val):Option (List Val):=(f50 fu a0 a1).bind fun q1=>cond (!q1.2) (f120_j1 fu a0 a1 a2 true) (f120_j1 fu a0 a1 a2 (!decide ((a2.length:Int)=(a0.length:Int))))
theorem n120:Nm prog 204:=⟨_,_,func204,by kernel_rfl,z⟩
theorem c120 (fu:Nat)(a0:List Col)(a1:List Change)(a2:List Val):Ctr prog 204 [(tL tCol).va a0,(tL tChange).va a1,(tL tVal).va a2] [] (f120 fu a0 a1 a2) (fun _ _=>[]) (fun q=>(tL tVal).va q):=by
 refine Ctr.of_W func204 z ntmps204 z fun A w=>?_
 unfold f120
 refine .s<|.assignNil tVal z<|.nil<|.s<|.m z z<|.m z z<|.call0 (c50 fu _ _) n50 z z fun q1=>.m z z<|.extract z z z<|.extract z z z<|.a z z<|.an z z<|.seq<|.seq<|.join1 (fun i2=>⟨[(0,(tL tCol).va a0,none),(1,(tL tChange).va a1,none),(2,(tL tVal).va a2,none),(25,isB i2,none)],[]⟩) (fun i2=>f120_j1 fu a0 a1 a2 i2) (fun i2=>?_) (fun hj1=>?_)
 ·refine .cd z ?_ ?_
  ·exact .s<|.litN (T:=tVal) u76 el47 z z (.nil) z<|.an z z<|.ret1 func204 results204 (.tmp z) z (fun _ _=>.e)
  ·refine .skip<|.s<|.lit (T:=tVal) u76 el47 z z (.nil) z fun v3=>.m z z<|.app (T:=tVal) 0 z z z u76 el47 z fun v4=>.an z z<|.seq<|.s<|.an z z<|.block<|.loop<|.drop (.c<|.e)<|.keep [0,1,9,10] [] z<|(show ∀ (n1:Nat) (i5:List Col) (i6:List Val) (i7:Int),W _ _ _ _ _ ⟨[(0,(tL tCol).va i5,none),(1,(tL tChange).va a1,none),(9,(tL tVal).va i6,none),(10,isI .i64 i7,none)],[]⟩ (f120_l1 fu a1 n1 i5 i6 i7) from ?_) fu _ _ _
   intro n1
   induction n1 with
   | zero=>exact fun _ _ _=>.stop
   | succ n1 ih1=>
    intro i5 i6 i7
    refine .inLoop<|.seq<|.s<|.m z z<|.m z z<|.lenL z u34 z<|.bin z z z z<|.nil<|.cd z ?_ ?_
    ·exact .skip<|.seq<|.block<|.s<|.m z z<|.m z z<|.m z z<|.elemAt z z u34 ty56 z<|.load z ty56 z<|.m z z<|.call0 (c141 fu _ _ _) n141 z z fun q8=>.an z z<|.g<|.m z z<|.m z z<|.m z z<|.elemAt z z u34 ty56 z<|.load z ty56 z<|.call0 (c87 fu _ _) n87 z z fun q9=>.m z z<|.extract z z z<|.extract z z z<|.an z z<|.inBlock<|.g<|.m z z<|.bin z z z z<|.an z z<|.keep [0,1,9,10] [] z (ih1 _ _ _)
    ·exact .exit z<|.s<|.m z z<|.an z z<|.ret1 func204 results204 (.tmp z) z (fun _ _=>.e)
 ·refine .g<|.m z z<|.not z z<|.m z z<|.split 19 z (fun _=>?_) (fun _=>?_)
  ·exact .off z z z<|.off z z z<|.off z z z<|.off z z z<|.off z z z<|.pickT z z z<|.nil<|.keep [0,1,2,25] [] z (hj1 _)
  ·exact .on z z<|.m z z<|.on z z<|.lenL z u76 z<|.on z z<|.m z z<|.on z z<|.lenL z u27 z<|.on z z<|.bin z z z z<|.pickF z z z<|.nil<|.keep [0,1,2,25] [] z (hj1 _)
def f90 (fu:Nat)(a0:Table)(a1:Row):Option (List Val):=(f89 fu a0 a1.ver).bind fun q3=>cond (decide (0≤a1.ver)&&decide (a1.ver≤(a0.changes.length:Int))&&decide ((a0.changes.length:Int)≤(a0.changes.length:Int))) ((f120 fu q3 ((a0.changes.take (a0.changes.length:Int).toNat).drop a1.ver.toNat) a1.vals).bind fun q4=>some q4) none
theorem n90:Nm prog 181:=⟨_,_,func181,by kernel_rfl,z⟩
theorem c90 (fu:Nat)(a0:Table)(a1:Row):Ctr prog 181 [tTable.va a0,tRow.va a1] [] (f90 fu a0 a1) (fun _ _=>[]) (fun q=>(tL tVal).va q):=by
 refine Ctr.of_W func181 z ntmps181 z fun A w=>?_
 unfold f90
 refine .s<|.box (T:=tTable) z z fun b1=>.box (T:=tRow) z z fun b2=>.assignNil tVal z<|.nil<|.seq<|.pbind fun q3 h1=>?_
 refine .pT fun h2=>?_
 exact .draw 11 [] mix (by kernel_rfl) (.k (fun p e=>.lp 1 (Fld.self _) (e.op z) (p.get z z) ty27 z)<|.j (fun o=>.fp (o z) fa37_1 z)<|.k (fun p e=>.lp 0 fRow_1 (e.op z) (p.get z z) ty3 z)<|.k (fun p e h=>.bindE h1 (fun r h=>.call0 (c89 fu _ _) n89 (e.ops z) z h)<|h)<|.j (fun o=>.fp (o z) fa27_1 z)<|.k (fun p e=>.lp 1 fTable_1 (e.op z) (p.get z z) ty24 z)<|.j (fun o=>.fp (o z) fa37_1 z)<|.k (fun p e=>.lp 0 fRow_1 (e.op z) (p.get z z) ty3 z)<|.k (fun p e h=>.useC h2<|.cut (e.op z) u34 el56 ⟨_,(e.op z)⟩ z z<|h)<|.j (fun o=>.fp (o z) fa37_2 z)<|.k (fun p e=>.lp 0 fRow_2 (e.op z) (p.get z z) ty32 z)<|.nil) z<|.call0 (c120 fu _ _ _) n120 z z fun q4=>.an z z<|.ret1 func181 results181 (.tmp z) z (fun _ _=>.c<|.c<|.e)
def f90o (fu:Nat)(a0:Table)(a1:Row):Option (List Val):=(f89o fu a0 a1.ver).bind fun q3=>cond (decide (0≤a1.ver)&&decide (a1.ver≤(a0.changes.length:Int))&&decide ((a0.changes.length:Int)≤(a0.changes.length:Int))) ((f120 fu q3 ((a0.changes.take (a0.changes.length:Int).toNat).drop a1.ver.toNat) a1.vals).bind fun q4=>some q4) none
theorem c90o (fu:Nat)(vp0:Value)(cp0:Value)(a0:Table)(a1:Row):Ctr prog 181 [tTableA.va (⟨a0.first,(cp0,a0.changes),vp0,a0.next⟩:TableA),tRow.va a1] [arrO tRow vp0 a0.rows] (f90o fu a0 a1) (fun _ _=>[arrO tRow vp0 a0.rows]) (fun q=>(tL tVal).va q):=by
 refine Ctr.of_W func181 z ntmps181 z fun A w=>?_
 unfold f90o
 refine .s<|.box (T:=tTableA) z z fun b1=>.box (T:=tRow) z z fun b2=>.assignNil tVal z<|.nil<|.seq<|.pbind fun q3 h1=>?_
 refine .pT fun h2=>?_
 exact .draw 11 [] mix (by kernel_rfl) (.k (fun p e=>.lp 1 (Fld.self _) (e.op z) (p.get z z) ty27 z)<|.j (fun o=>.fp (o z) fa37_1 z)<|.k (fun p e=>.lp 0 fRow_1 (e.op z) (p.get z z) ty3 z)<|.k (fun p e h=>.bindE h1 (fun r h=>.callR 2 (c89o fu _ _ _ _) (p.get z z) n89 (e.ops z) z h)<|h)<|.j (fun o=>.fp (o z) fa27_1 z)<|.k (fun p e=>.loadK 1 fTableA_1 (e.op z) (p.get z z) ty24 z)<|.j (fun o=>.fp (o z) fa37_1 z)<|.k (fun p e=>.lp 0 fRow_1 (e.op z) (p.get z z) ty3 z)<|.k (fun p e h=>.useC h2<|.cut (e.op z) u34 el56 ⟨_,(e.op z)⟩ z z<|h)<|.j (fun o=>.fp (o z) fa37_2 z)<|.k (fun p e=>.lp 0 fRow_2 (e.op z) (p.get z z) ty32 z)<|.nil) z<|.call0 (c120 fu _ _ _) n120 z z fun q4=>.an z z<|.ret1 func181 results181 (.tmp z) z (fun _ _=>.c<|.c<|.d<|.e)
def f100_l2 (a2:List Set)(i3:Int)(i4:List Val)(q5:Int)(rec1:Int→(List Val)→Option ((List Val)×Bool)):Nat→Int→Option ((List Val)×Bool)
 | 0,_=>none
 | n2+1,i7=>cond (decide (i7<i3)) (cond (decide (0≤i7)&&decide (i7 < (a2.length:Int))) (cond (decide (0≤i3)&&decide (i3 < (a2.length:Int))) (cond (decide (((a2.getD i7.toNat default).name)=((a2.getD i3.toNat default).name))) (some (i4,false)) ((f100_l2 a2 i3 i4 q5 rec1 n2) (IntKind.i64.wrap (i7+1)))) none) none) (cond (decide (0≤i3)&&decide (i3 < (a2.length:Int))) (cond (decide (0≤q5)&&decide (q5 < (i4.length:Int))) (rec1 (IntKind.i64.wrap (i3+1)) (i4.set q5.toNat ((a2.getD i3.toNat default).val))) none) none)
def f100_j2 (fu:Nat)(a2:List Set)(i3:Int)(i4:List Val)(q5:Int)(rec1:Int→(List Val)→Option ((List Val)×Bool))(i6:Bool):Option ((List Val)×Bool):=cond i6 (some (i4,false)) (f100_l2 a2 i3 i4 q5 rec1 fu 0)
def f100_l1 (fu:Nat)(a0:List Col)(a2:List Set):Nat→Int→(List Val)→Option ((List Val)×Bool)
 | 0,_,_=>none
 | n1+1,i3,i4=>cond (decide (i3 < (a2.length:Int))) (cond (decide (0≤i3)&&decide (i3 < (a2.length:Int))) ((f108 fu a0 ((a2.getD i3.toNat default).name)).bind fun q5=>cond (decide (q5<0)) (f100_j2 fu a2 i3 i4 q5 (f100_l1 fu a0 a2 n1) true) (cond (decide (0≤i3)&&decide (i3 < (a2.length:Int))) ((f119 fu ((a2.getD i3.toNat default).val)).bind fun q8=>cond (!q8) (f100_j2 fu a2 i3 i4 q5 (f100_l1 fu a0 a2 n1) true) (cond (decide (0≤i3)&&decide (i3 < (a2.length:Int))) (cond (!decide ((((a2.getD i3.toNat default).val).kind)=0)) (cond (decide (0≤i3)&&decide (i3 < (a2.length:Int))) (cond (decide (0≤q5)&&decide (q5 < (a0.length:Int))) (f100_j2 fu a2 i3 i4 q5 (f100_l1 fu a0 a2 n1) (!decide ((((a2.getD i3.toNat default).val).kind)=((a0.getD q5.toNat default).kind)))) none) none) (f100_j2 fu a2 i3 i4 q5 (f100_l1 fu a0 a2 n1) false)) none)) none)) none) (some (i4,true))
def f100 (fu:Nat)(a0:List Col)(a1:List Val)(a2:List Set):Option ((List Val)×Bool):=cond (decide (List.length ([]:List Val)+a1.length≤CAP)) (f100_l1 fu a0 a2 fu 0 (([]:List Val)++a1)) none
theorem n100:Nm prog 195:=⟨_,_,func195,by kernel_rfl,z⟩
theorem c100 (fu:Nat)(a0:List Col)(a1:List Val)(a2:List Set):Ctr prog 195 [(tL tCol).va a0,(tL tVal).va a1,(tL tSet).va a2] [] (f100 fu a0 a1 a2) (fun _ _=>[]) (fun q=>tup [(tL tVal).va q.1,isB q.2]):=by
 refine Ctr.of_W func195 z ntmps195 z fun A w=>?_
 unfold f100
 refine .s<|.assignNil tVal z<|.an z z<|.s<|.lit (T:=tVal) u76 el47 z z (.nil) z fun v1=>.toArr 0 12 z z z<|.m z z<|.appA (T:=tVal) 0 z z z u76 el47 z fun v2=>.an z z<|.seq<|.s<|.an z z<|.block<|.loop<|.keep [0,2,9] [8] z<|(show ∀ (n1:Nat) (i3:Int) (i4:List Val),W _ _ _ _ _ ⟨[(0,(tL tCol).va a0,none),(2,(tL tSet).va a2,none),(9,isI .i64 i3,none),(8,isV v2,some v2)],[arrO tVal v2 i4]⟩ (f100_l1 fu a0 a2 n1 i3 i4) from ?_) fu _ _
 intro n1
 induction n1 with
 | zero=>exact fun _ _=>.stop
 | succ n1 ih1=>
  intro i3 i4
  refine .inLoop<|.seq<|.s<|.m z z<|.m z z<|.lenL z u68 z<|.bin z z z z<|.nil<|.cd z ?_ ?_
  ·refine .skip<|.seq<|.block<|.s<|.m z z<|.m z z<|.m z z<|.elemAt z z u68 ty49 z<|.fieldAt fSet_0 z fa49_0 z<|.load z ty9 z<|.call0 (c108 fu _ _) n108 z z fun q5=>.an z z<|.seq<|.seq<|.join1 (fun i6=>⟨[(0,(tL tCol).va a0,none),(2,(tL tSet).va a2,none),(9,isI .i64 i3,none),(10,isI .i64 q5,none),(61,isB i6,none),(8,isV v2,some v2)],[arrO tVal v2 i4]⟩) (fun i6=>f100_j2 fu a2 i3 i4 q5 (f100_l1 fu a0 a2 n1) i6) (fun i6=>?_) (fun hj2=>?_)
   ·refine .cd z ?_ ?_
    ·exact .s<|.m z z<|.a z z<|.an z z<|.frz 0 6 z z<|.ret2 func195 results195 (.tmp z) (.tmp z) z (fun _=>.c<|.e)
    ·refine .skip<|.seq<|.s<|.an z z<|.block<|.loop<|.keep [0,2,9,10,11] [8] z<|(show ∀ (n2:Nat) (i7:Int),W _ _ _ _ _ ⟨[(0,(tL tCol).va a0,none),(2,(tL tSet).va a2,none),(9,isI .i64 i3,none),(10,isI .i64 q5,none),(11,isI .i64 i7,none),(8,isV v2,some v2)],[arrO tVal v2 i4]⟩ (f100_l2 a2 i3 i4 q5 (f100_l1 fu a0 a2 n1) n2 i7) from ?_) fu _
     intro n2
     induction n2 with
     | zero=>exact fun _=>.stop
     | succ n2 ih2=>
      intro i7
      refine .inLoop<|.seq<|.s<|.m z z<|.m z z<|.bin z z z z<|.nil<|.cd z ?_ ?_
      ·refine .skip<|.seq<|.block<|.seq<|.pT fun h15=>?_
       refine .pT fun h16=>?_
       refine .draw 10 [] mix (by kernel_rfl) (.j (fun o=>.m (o z) z)<|.j (fun o=>.m (o z) z)<|.k (fun p e h=>.useC h15<|.elemAt (e.op z) (e.op z) u68 ty49 z<|h)<|.j (fun o=>.fieldAt fSet_0 (o z) fa49_0 z)<|.j (fun o=>.load (o z) ty9 z)<|.j (fun o=>.m (o z) z)<|.j (fun o=>.m (o z) z)<|.k (fun p e h=>.useC h16<|.elemAt (e.op z) (e.op z) u68 ty49 z<|h)<|.j (fun o=>.fieldAt fSet_0 (o z) fa49_0 z)<|.j (fun o=>.load (o z) ty9 z)<|.nil) z<|.seq z z z<|.nil<|.cd z ?_ ?_
       ·exact .s<|.m z z<|.a z z<|.an z z<|.frz 0 6 z z<|.ret2 func195 results195 (.tmp z) (.tmp z) z (fun _=>.c<|.e)
       ·exact .skip<|.inBlock<|.g<|.m z z<|.bin z z z z<|.an z z<|.keep [0,2,9,10,11] [8] z (ih2 _)
      ·exact .exit z<|.g<|.m z z<|.m z z<|.m z z<|.m z z<|.elemAt z z u68 ty49 z<|.fieldAt fSet_1 z fa49_1 z<|.load z ty47 z<|.elemA 0 z z z u76 ty47 z<|.storeA 0 (Fld.self _) z z z ty47<|.nil<|.inBlock<|.g<|.m z z<|.bin z z z z<|.an z z<|.keep [0,2,9] [8] z (ih1 _ _)
   ·refine .pcond (fun h17=>?_) (fun h17=>?_)
    ·refine .draw 31 [] mix (by kernel_rfl) (.j (fun o=>.m (o z) z)<|.j (fun o=>.bin z (o z) (o z) z)<|.k (fun p e h=>.m (e.op z) z<|.noV<|.useEq h17 h)<|.f z z z<|.f z z z<|.f z z z<|.f z z z<|.f z z z<|.f z z z<|.f z z z<|.j (fun o=>.pickT (o z) (o z) z)<|.j (fun o=>.m (o z) z)<|.f z z z<|.f z z z<|.f z z z<|.f z z z<|.f z z z<|.f z z z<|.f z z z<|.f z z z<|.k (fun p e=>.offU z (e _ _ z) z)<|.k (fun p e=>.offU z (e _ _ z) z)<|.k (fun p e=>.offU z (e _ _ z) z)<|.k (fun p e=>.offU z (e _ _ z) z)<|.k (fun p e=>.offU z (e _ _ z) z)<|.k (fun p e=>.offU z (e _ _ z) z)<|.k (fun p e=>.offU z (e _ _ z) z)<|.k (fun p e=>.offU z (e _ _ z) z)<|.k (fun p e=>.offU z (e _ _ z) z)<|.k (fun p e=>.offU z (e _ _ z) z)<|.k (fun p e=>.offU z (e _ _ z) z)<|.nil) z<|.offU z z z<|.off z z z<|.pickT z z z<|.nil ?_
     exact .keep [0,2,9,10,61] [8] z (hj2 _)
    ·refine .pT fun h18=>?_
     refine .pbind fun q8 h19=>?_
     refine .pcond (fun h20=>?_) (fun h20=>?_)
     ·refine .draw 31 [] mix (by kernel_rfl) (.j (fun o=>.m (o z) z)<|.j (fun o=>.bin z (o z) (o z) z)<|.k (fun p e h=>.m (e.op z) z<|.noV<|.useEq h17 h)<|.k (fun p e h=>.on z (e _ _ z)<|.m (e.op z) z<|h)<|.k (fun p e h=>.on z (e _ _ z)<|.m (e.op z) z<|h)<|.k (fun p e h=>.on z (e _ _ z)<|.useC h18<|.elemAt (e.op z) (e.op z) u68 ty49 z<|h)<|.k (fun p e h=>.on z (e _ _ z)<|.fieldAt fSet_1 (e.op z) fa49_1 z<|h)<|.k (fun p e h=>.on z (e _ _ z)<|.load (e.op z) ty47 z<|h)<|.k (fun p e h=>.on z (e _ _ z)<|.bindE h19 (fun r h=>.call0 (c119 fu _) n119 (e.ops z) z h)<|h)<|.k (fun p e h=>.on z (e _ _ z)<|.not (e.op z) z<|h)<|.j (fun o=>.pickF (o z) (o z) z)<|.k (fun p e h=>.m (e.op z) z<|.noV<|.useEq h20 h)<|.f z z z<|.f z z z<|.f z z z<|.f z z z<|.f z z z<|.f z z z<|.f z z z<|.f z z z<|.k (fun p e=>.offU z (e _ _ z) z)<|.k (fun p e=>.offU z (e _ _ z) z)<|.k (fun p e=>.offU z (e _ _ z) z)<|.k (fun p e=>.offU z (e _ _ z) z)<|.k (fun p e=>.offU z (e _ _ z) z)<|.k (fun p e=>.offU z (e _ _ z) z)<|.k (fun p e=>.offU z (e _ _ z) z)<|.k (fun p e=>.offU z (e _ _ z) z)<|.k (fun p e=>.offU z (e _ _ z) z)<|.k (fun p e=>.offU z (e _ _ z) z)<|.k (fun p e=>.offU z (e _ _ z) z)<|.nil) z<|.offU z z z<|.off z z z<|.pickT z z z<|.nil ?_
      exact .keep [0,2,9,10,61] [8] z (hj2 _)
     ·refine .pT fun h21=>?_
      refine .pcond (fun h22=>?_) (fun h22=>?_)
      ·refine .pT fun h23=>?_
       refine .pT fun h24=>?_
       refine .draw 31 [] mix (by kernel_rfl) (.j (fun o=>.m (o z) z)<|.j (fun o=>.bin z (o z) (o z) z)<|.k (fun p e h=>.m (e.op z) z<|.noV<|.useEq h17 h)<|.k (fun p e h=>.on z (e _ _ z)<|.m (e.op z) z<|h)<|.k (fun p e h=>.on z (e _ _ z)<|.m (e.op z) z<|h)<|.k (fun p e h=>.on z (e _ _ z)<|.useC h18<|.elemAt (e.op z) (e.op z) u68 ty49 z<|h)<|.k (fun p e h=>.on z (e _ _ z)<|.fieldAt fSet_1 (e.op z) fa49_1 z<|h)<|.k (fun p e h=>.on z (e _ _ z)<|.load (e.op z) ty47 z<|h)<|.k (fun p e h=>.on z (e _ _ z)<|.bindE h19 (fun r h=>.call0 (c119 fu _) n119 (e.ops z) z h)<|h)<|.k (fun p e h=>.on z (e _ _ z)<|.not (e.op z) z<|h)<|.j (fun o=>.pickF (o z) (o z) z)<|.k (fun p e h=>.m (e.op z) z<|.noV<|.useEq h20 h)<|.k (fun p e h=>.on z (e _ _ z)<|.m (e.op z) z<|h)<|.k (fun p e h=>.on z (e _ _ z)<|.m (e.op z) z<|h)<|.k (fun p e h=>.on z (e _ _ z)<|.useC h21<|.elemAt (e.op z) (e.op z) u68 ty49 z<|h)<|.k (fun p e h=>.on z (e _ _ z)<|.fieldAt fSet_1 (e.op z) fa49_1 z<|h)<|.k (fun p e h=>.on z (e _ _ z)<|.fieldAt fVal_0 (e.op z) fa47_0 z<|h)<|.k (fun p e h=>.on z (e _ _ z)<|.load (e.op z) ty3 z<|h)<|.k (fun p e h=>.on z (e _ _ z)<|.bin z (e.op z) (e.op z) z<|h)<|.k (fun p e h=>.on z (e _ _ z)<|.m (e.op z) z<|.noV<|.useEq h22 h)<|.k (fun p e h=>.on z (e _ _ z)<|.m (e.op z) z<|h)<|.k (fun p e h=>.on z (e _ _ z)<|.m (e.op z) z<|h)<|.k (fun p e h=>.on z (e _ _ z)<|.useC h23<|.elemAt (e.op z) (e.op z) u68 ty49 z<|h)<|.k (fun p e h=>.on z (e _ _ z)<|.fieldAt fSet_1 (e.op z) fa49_1 z<|h)<|.k (fun p e h=>.on z (e _ _ z)<|.fieldAt fVal_0 (e.op z) fa47_0 z<|h)<|.k (fun p e h=>.on z (e _ _ z)<|.load (e.op z) ty3 z<|h)<|.k (fun p e h=>.on z (e _ _ z)<|.m (e.op z) z<|h)<|.k (fun p e h=>.on z (e _ _ z)<|.m (e.op z) z<|h)<|.k (fun p e h=>.on z (e _ _ z)<|.useC h24<|.elemAt (e.op z) (e.op z) u27 ty52 z<|h)<|.k (fun p e h=>.on z (e _ _ z)<|.fieldAt fCol_1 (e.op z) fa52_1 z<|h)<|.k (fun p e h=>.on z (e _ _ z)<|.load (e.op z) ty3 z<|h)<|.nil) z<|.on z z<|.bin z z z z<|.on z z<|.pickT z z z<|.pickF z z z<|.nil ?_
       exact .keep [0,2,9,10,61] [8] z (hj2 _)
      ·refine .draw 31 [] mix (by kernel_rfl) (.j (fun o=>.m (o z) z)<|.j (fun o=>.bin z (o z) (o z) z)<|.k (fun p e h=>.m (e.op z) z<|.noV<|.useEq h17 h)<|.k (fun p e h=>.on z (e _ _ z)<|.m (e.op z) z<|h)<|.k (fun p e h=>.on z (e _ _ z)<|.m (e.op z) z<|h)<|.k (fun p e h=>.on z (e _ _ z)<|.useC h18<|.elemAt (e.op z) (e.op z) u68 ty49 z<|h)<|.k (fun p e h=>.on z (e _ _ z)<|.fieldAt fSet_1 (e.op z) fa49_1 z<|h)<|.k (fun p e h=>.on z (e _ _ z)<|.load (e.op z) ty47 z<|h)<|.k (fun p e h=>.on z (e _ _ z)<|.bindE h19 (fun r h=>.call0 (c119 fu _) n119 (e.ops z) z h)<|h)<|.k (fun p e h=>.on z (e _ _ z)<|.not (e.op z) z<|h)<|.j (fun o=>.pickF (o z) (o z) z)<|.k (fun p e h=>.m (e.op z) z<|.noV<|.useEq h20 h)<|.k (fun p e h=>.on z (e _ _ z)<|.m (e.op z) z<|h)<|.k (fun p e h=>.on z (e _ _ z)<|.m (e.op z) z<|h)<|.k (fun p e h=>.on z (e _ _ z)<|.useC h21<|.elemAt (e.op z) (e.op z) u68 ty49 z<|h)<|.k (fun p e h=>.on z (e _ _ z)<|.fieldAt fSet_1 (e.op z) fa49_1 z<|h)<|.k (fun p e h=>.on z (e _ _ z)<|.fieldAt fVal_0 (e.op z) fa47_0 z<|h)<|.k (fun p e h=>.on z (e _ _ z)<|.load (e.op z) ty3 z<|h)<|.k (fun p e h=>.on z (e _ _ z)<|.bin z (e.op z) (e.op z) z<|h)<|.k (fun p e h=>.on z (e _ _ z)<|.m (e.op z) z<|.noV<|.useEq h22 h)<|.f z z z<|.f z z z<|.f z z z<|.f z z z<|.f z z z<|.f z z z<|.f z z z<|.f z z z<|.f z z z<|.f z z z<|.f z z z<|.nil) z<|.off z z z<|.on z z<|.pickF z z z<|.pickF z z z<|.nil ?_
       exact .keep [0,2,9,10,61] [8] z (hj2 _)
  ·exact .exit z<|.s<|.m z z<|.a z z<|.an z z<|.frz 0 6 z z<|.ret2 func195 results195 (.tmp z) (.tmp z) z (fun _=>.c<|.e)
end Go.Proofs.YtdpigighgmipfaaGreatDoor
