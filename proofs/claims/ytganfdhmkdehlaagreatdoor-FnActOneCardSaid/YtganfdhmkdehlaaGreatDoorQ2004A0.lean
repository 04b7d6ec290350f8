/- Functions of the program: what each answers, and that the machine answers so. -/
import Derived.Test.YtganfdhmkdehlaaGreatDoorQ2004Lib
import Derived.Test.YtganfdhmkdehlaaGreatDoorQ2004Deep
import Derived.Test.YtganfdhmkdehlaaGreatDoorQ2004AU
import Derived.KernelRfl
set_option linter.all false
namespace Go.Proofs.YtganfdhmkdehlaaGreatDoor
open Go Go.HL Tryz
attribute [local irreducible] W WO
def rp (i1:List Int):Option Rd:=some (⟨i1,d0_107.p⟩:Rd)
def f60 (fu:Nat)(a0:List Int):Option Rd:=cond (decide (2000 < (a0.length:Int))) (cond (decide (0≤(0:Int))&&decide ((0:Int)≤(2000:Int))&&decide ((2000:Int)≤(a0.length:Int))) (rp ((a0.take (2000:Int).toNat).drop (0:Int).toNat)) none) (rp a0)
theorem n60:Nm prog 25:=⟨_,_,func25,by kernel_rfl,z⟩
attribute [local semireducible] W WO
theorem c60 (fu:Nat)(a0:List Int):Ctr prog 25 [(tL (tI .u8)).va a0] [] (f60 fu a0) (fun q v=>[boxO (B3 v) tRd q []]) (fun q=>uc):=by
 refine Ctr.of_W func25 z ntmps25 z fun A w=>?_
 unfold f60
 refine .s<|.an z z<|.seq<|.s<|.m z z<|.lenL z u22 z<|.bin z z z z<|.nil<|.join1 (fun i1=>⟨[(0,(tL (tI .u8)).va i1,none)],[]⟩) (fun i1=>rp i1) (fun i1=>?_) (fun hj1=>?_)
 ·exact .s<|.m z z<|.build z Cq CY (.cons pN z z<|.nil) z<|.box (T:=tRd) z z fun b2=>.an z z<|.toPtr 2 z<|.ret1 func25 results25 (.tmp z) z (fun v hv=>by cases hv _ z;exact .d<|.e)
 ·refine .cd z ?_ ?_
  ·exact .g<|.m z z<|.cut z u22 el5 z ⟨_,z⟩ z<|.an z z<|.keep [0] [] z (hj1 _)
  ·exact .skip<|.keep [0] [] z (hj1 _)
attribute [local irreducible] W WO
def mu (a0:Rd)(a1:Int)(i1:Bool):Option (Int×Rd):=cond i1 (some (0,({ a0 with p:=IntKind.i64.wrap (a0.p+1) }:Rd))) (cond (decide ((IntKind.i64.wrap ((({ a0 with p:=IntKind.i64.wrap (a0.p+1) }:Rd).p)-1)) < (List.length (({ a0 with p:=IntKind.i64.wrap (a0.p+1) }:Rd).b):Int))) (cond (decide (0≤(IntKind.i64.wrap ((({ a0 with p:=IntKind.i64.wrap (a0.p+1) }:Rd).p)-1)))&&decide ((IntKind.i64.wrap ((({ a0 with p:=IntKind.i64.wrap (a0.p+1) }:Rd).p)-1)) < (List.length (({ a0 with p:=IntKind.i64.wrap (a0.p+1) }:Rd).b):Int))) (cond (decide ((a1:Int)=0)) none (some ((IntKind.i64.wrap ((({ a0 with p:=IntKind.i64.wrap (a0.p+1) }:Rd).b).getD (IntKind.i64.wrap ((({ a0 with p:=IntKind.i64.wrap (a0.p+1) }:Rd).p)-1)).toNat default)).tmod a1,({ a0 with p:=IntKind.i64.wrap (a0.p+1) }:Rd)))) none) (cond (decide (((List.length (({ a0 with p:=IntKind.i64.wrap (a0.p+1) }:Rd).b):Int):Int)=0)) none (cond (decide (0≤((IntKind.i64.wrap ((({ a0 with p:=IntKind.i64.wrap (a0.p+1) }:Rd).p)-1)).tmod (List.length (({ a0 with p:=IntKind.i64.wrap (a0.p+1) }:Rd).b):Int)))&&decide (((IntKind.i64.wrap ((({ a0 with p:=IntKind.i64.wrap (a0.p+1) }:Rd).p)-1)).tmod (List.length (({ a0 with p:=IntKind.i64.wrap (a0.p+1) }:Rd).b):Int)) < (List.length (({ a0 with p:=IntKind.i64.wrap (a0.p+1) }:Rd).b):Int))) (cond (decide (((List.length (({ a0 with p:=IntKind.i64.wrap (a0.p+1) }:Rd).b):Int):Int)=0)) none (cond (decide (0≤((IntKind.i64.wrap ((IntKind.i64.wrap ((IntKind.i64.wrap ((({ a0 with p:=IntKind.i64.wrap (a0.p+1) }:Rd).p)-1))*7))+3)).tmod (List.length (({ a0 with p:=IntKind.i64.wrap (a0.p+1) }:Rd).b):Int)))&&decide (((IntKind.i64.wrap ((IntKind.i64.wrap ((IntKind.i64.wrap ((({ a0 with p:=IntKind.i64.wrap (a0.p+1) }:Rd).p)-1))*7))+3)).tmod (List.length (({ a0 with p:=IntKind.i64.wrap (a0.p+1) }:Rd).b):Int)) < (List.length (({ a0 with p:=IntKind.i64.wrap (a0.p+1) }:Rd).b):Int))) (cond (decide (((List.length (({ a0 with p:=IntKind.i64.wrap (a0.p+1) }:Rd).b):Int):Int)=0)) none (cond (decide ((64:Int)=0)) none (cond (decide ((a1:Int)=0)) none (some ((IntKind.i64.wrap (BitVec.ofInt 64 (IntKind.i64.wrap ((IntKind.i64.wrap ((IntKind.i64.wrap ((IntKind.i64.wrap ((IntKind.i64.wrap ((({ a0 with p:=IntKind.i64.wrap (a0.p+1) }:Rd).b).getD ((IntKind.i64.wrap ((({ a0 with p:=IntKind.i64.wrap (a0.p+1) }:Rd).p)-1)).tmod (List.length (({ a0 with p:=IntKind.i64.wrap (a0.p+1) }:Rd).b):Int)).toNat default))*131))+(IntKind.i64.wrap ((IntKind.i64.wrap ((({ a0 with p:=IntKind.i64.wrap (a0.p+1) }:Rd).b).getD ((IntKind.i64.wrap ((IntKind.i64.wrap ((IntKind.i64.wrap ((({ a0 with p:=IntKind.i64.wrap (a0.p+1) }:Rd).p)-1))*7))+3)).tmod (List.length (({ a0 with p:=IntKind.i64.wrap (a0.p+1) }:Rd).b):Int)).toNat default))*1117))))+(IntKind.i64.wrap ((IntKind.i64.wrap ((({ a0 with p:=IntKind.i64.wrap (a0.p+1) }:Rd).p)-1))*29))))+(IntKind.i64.wrap ((IntKind.i64.wrap ((IntKind.i64.wrap ((({ a0 with p:=IntKind.i64.wrap (a0.p+1) }:Rd).p)-1)).tdiv (List.length (({ a0 with p:=IntKind.i64.wrap (a0.p+1) }:Rd).b):Int)))*53)))) ^^^ BitVec.ofInt 64 (IntKind.i64.wrap ((IntKind.i64.wrap ((IntKind.i64.wrap ((IntKind.i64.wrap ((IntKind.i64.wrap ((IntKind.i64.wrap ((({ a0 with p:=IntKind.i64.wrap (a0.p+1) }:Rd).b).getD ((IntKind.i64.wrap ((({ a0 with p:=IntKind.i64.wrap (a0.p+1) }:Rd).p)-1)).tmod (List.length (({ a0 with p:=IntKind.i64.wrap (a0.p+1) }:Rd).b):Int)).toNat default))*131))+(IntKind.i64.wrap ((IntKind.i64.wrap ((({ a0 with p:=IntKind.i64.wrap (a0.p+1) }:Rd).b).getD ((IntKind.i64.wrap ((IntKind.i64.wrap ((IntKind.i64.wrap ((({ a0 with p:=IntKind.i64.wrap (a0.p+1) }:Rd).p)-1))*7))+3)).tmod (List.length (({ a0 with p:=IntKind.i64.wrap (a0.p+1) }:Rd).b):Int)).toNat default))*1117))))+(IntKind.i64.wrap ((IntKind.i64.wrap ((({ a0 with p:=IntKind.i64.wrap (a0.p+1) }:Rd).p)-1))*29))))+(IntKind.i64.wrap ((IntKind.i64.wrap ((IntKind.i64.wrap ((({ a0 with p:=IntKind.i64.wrap (a0.p+1) }:Rd).p)-1)).tdiv (List.length (({ a0 with p:=IntKind.i64.wrap (a0.p+1) }:Rd).b):Int)))*53)))).tdiv 64))).toNat).tmod a1,({ a0 with p:=IntKind.i64.wrap (a0.p+1) }:Rd)))))) none)) none)))
def f74 (fu:Nat)(a0:Rd)(a1:Int):Option (Int×Rd):=cond (decide (a1<1)) (mu a0 a1 true) (mu a0 a1 (decide ((List.length (({ a0 with p:=IntKind.i64.wrap (a0.p+1) }:Rd).b):Int)=0)))
theorem n74:Nm prog 69:=⟨_,_,func69,by kernel_rfl,z⟩
theorem c74 (fu:Nat)(bp0:Nat)(a0:Rd)(a1:Int):Ctr prog 69 [isP bp0 0,isI .i64 a1] [boxO bp0 tRd a0 []] (f74 fu a0 a1) (fun q _=>[boxO bp0 tRd q.2 []]) (fun q=>isI .i64 q.1):=by
 refine .w func69 ntmps69 fun hf A w=>?_
 unfold f74
 refine .s<|.an z z<|.s<|go ?_
 refine .nilChk z z<|go ?_
 refine .nilChk z z<|go ?_
 refine .seq<|.seq<|.join1 (fun i1=>⟨[(0,isP bp0 0,none),(1,isI .i64 a1,none),(24,isB i1,none)],[boxO bp0 tRd ({ a0 with p:=IntKind.i64.wrap (a0.p+1) }:Rd) []]⟩) (fun i1=>mu a0 a1 i1) (fun i1=>?_) (fun hj1=>?_)
 ·refine .cd z ?_ ?_
  ·exact fr
  ·refine .skip<|.s<|.m z z<|.nilChk z z<|go ?_
   refine .seq<|.s<|go ?_
   refine .nilChk z z<|go ?_
   refine .cd z ?_ ?_
   ·refine .s<|.m z z<|.nilChk z z<|go ?_
    exact .conv z ⟨_,u5⟩ u3 z<|.m z z<|.rem z z z<|fr
   ·refine .skip<|.seq<|.pF fun h1=>.pT fun h2=>.pF fun h3=>.pT fun h4=>.pF fun h5=>.draw 44 [] mix (by kernel_rfl) (.j (fun o=>.m (o z) z)<|.j (fun o=>.nilChk (o z) z)<|.j (fun o=>.fp (o z) je z)<|.k (fun p e=>.lp 0 pN (e.op z) (p.get z z) Ah z)<|.j (fun o=>.m (o z) z)<|.j (fun o=>.m (o z) z)<|.j (fun o=>.nilChk (o z) z)<|.j (fun o=>.fp (o z) je z)<|.k (fun p e=>.lp 0 pN (e.op z) (p.get z z) Ah z)<|.j (fun o=>.lenL (o z) u22 z)<|.k (fun p e h=>.useN h1<|.rem (e.op z) (e.op z) z<|h)<|.k (fun p e h=>.useC h2<|.elemAt (e.op z) (e.op z) u22 ty5 z<|h)<|.j (fun o=>.load (o z) ty5 z)<|.j (fun o=>.conv (o z) ⟨_,u5⟩ u3 z)<|.j (fun o=>.bin z (o z) (o z) z)<|.j (fun o=>.m (o z) z)<|.j (fun o=>.nilChk (o z) z)<|.j (fun o=>.fp (o z) je z)<|.k (fun p e=>.lp 0 pN (e.op z) (p.get z z) Ah z)<|.j (fun o=>.m (o z) z)<|.j (fun o=>.bin z (o z) (o z) z)<|.j (fun o=>.bin z (o z) (o z) z)<|.j (fun o=>.m (o z) z)<|.j (fun o=>.nilChk (o z) z)<|.j (fun o=>.fp (o z) je z)<|.k (fun p e=>.lp 0 pN (e.op z) (p.get z z) Ah z)<|.j (fun o=>.lenL (o z) u22 z)<|.k (fun p e h=>.useN h3<|.rem (e.op z) (e.op z) z<|h)<|.k (fun p e h=>.useC h4<|.elemAt (e.op z) (e.op z) u22 ty5 z<|h)<|.j (fun o=>.load (o z) ty5 z)<|.j (fun o=>.conv (o z) ⟨_,u5⟩ u3 z)<|.j (fun o=>.bin z (o z) (o z) z)<|.j (fun o=>.bin z (o z) (o z) z)<|.j (fun o=>.m (o z) z)<|.j (fun o=>.bin z (o z) (o z) z)<|.j (fun o=>.bin z (o z) (o z) z)<|.j (fun o=>.m (o z) z)<|.j (fun o=>.m (o z) z)<|.j (fun o=>.nilChk (o z) z)<|.j (fun o=>.fp (o z) je z)<|.k (fun p e=>.lp 0 pN (e.op z) (p.get z z) Ah z)<|.j (fun o=>.lenL (o z) u22 z)<|.k (fun p e h=>.useN h5<|.quo (e.op z) (e.op z) z<|h)<|.j (fun o=>.bin z (o z) (o z) z)<|.nil) z<|go ?_
    refine .s<|go ?_
    refine .quo z z z<|go ?_
    refine .s<|go ?_
    exact .rem z z z<|fr
 ·refine .g<|go ?_
  refine .split 17 z (fun _=>?_) (fun _=>?_)
  ·exact fj (hj1 _)
  ·refine go ?_
   exact .nilChk z z<|fj (hj1 _)
def vj :Option (List (List UInt8)):=some ([([97]:List UInt8),([98]:List UInt8),([99]:List UInt8),([100]:List UInt8),([101]:List UInt8),([97,98]:List UInt8)]:List (List UInt8))
theorem n106:Nm prog 159:=⟨_,_,func159,by kernel_rfl,z⟩
theorem c106 :Ctr prog 159 [] [] (vj) (fun _ _=>[]) (fun q=>(tL tS).va q):=by
 refine .w func159 ntmps159 fun hf A w=>?_
 unfold vj
 exact .s<|.assignNil tS z<|fr
def f96 (fu:Nat)(a0:Rd)(a1:List (List UInt8)):Option ((List UInt8)×Rd):=(f74 fu a0 (a1.length:Int)).bind fun q1=>cond (decide (0≤q1.1)&&decide (q1.1 < (a1.length:Int))) (some (a1.getD q1.1.toNat default,q1.2)) none
theorem n96:Nm prog 88:=⟨_,_,func88,by kernel_rfl,z⟩
theorem c96 (fu:Nat)(bp0:Nat)(a0:Rd)(a1:List (List UInt8)):Ctr prog 88 [isP bp0 0,(tL tS).va a1] [boxO bp0 tRd a0 []] (f96 fu a0 a1) (fun q _=>[boxO bp0 tRd q.2 []]) (fun q=>isS q.1):=by
 refine .w func88 ntmps88 fun hf A w=>?_
 unfold f96
 refine .s<|.an z z<|.s<|go ?_
 exact .call1 0 (c74 fu _ _ _) z n74 z z fun q1=>fr
def f73 (fu:Nat)(a0:Rd)(a1:List Int):Option (Int×Rd):=(f74 fu a0 (a1.length:Int)).bind fun q1=>cond (decide (0≤q1.1)&&decide (q1.1 < (a1.length:Int))) (some (a1.getD q1.1.toNat default,q1.2)) none
theorem n73:Nm prog 71:=⟨_,_,func71,by kernel_rfl,z⟩
theorem c73 (fu:Nat)(bp0:Nat)(a0:Rd)(a1:List Int):Ctr prog 71 [isP bp0 0,(tL (tI .i64)).va a1] [boxO bp0 tRd a0 []] (f73 fu a0 a1) (fun q _=>[boxO bp0 tRd q.2 []]) (fun q=>isI .i64 q.1):=by
 refine .w func71 ntmps71 fun hf A w=>?_
 unfold f73
 refine .s<|.an z z<|.s<|go ?_
 exact .call1 0 (c74 fu _ _ _) z n74 z z fun q1=>fr
def oH (fu:Nat)(a1:Int)(i2:Bool)(i3:Rd):Option (Val×Rd):=cond i2 (some ((⟨d0_47.kind,d0_47.n,d0_47.text⟩:Val),i3)) (cond (decide (a1=1)) ((f73 fu i3 ([0,1,2,3,-1,7,999,-999]:List Int)).bind fun q4=>some ((⟨a1,q4.1,d0_47.text⟩:Val),q4.2)) ((f96 fu i3 ([([]:List UInt8),([97]:List UInt8),([98]:List UInt8),([97,98]:List UInt8),([49,50]:List UInt8),([45,53]:List UInt8),([48,48,55]:List UInt8),([122,122,122,122]:List UInt8),([51]:List UInt8)]:List (List UInt8))).bind fun q5=>some ((⟨a1,d0_47.n,q5.1⟩:Val),q5.2)))
def f95 (fu:Nat)(a0:Rd)(a1:Int):Option (Val×Rd):=(f74 fu a0 6).bind fun q6=>cond (decide (q6.1=0)) (oH fu a1 true q6.2) (oH fu a1 (decide (a1=0)) q6.2)
theorem n95:Nm prog 194:=⟨_,_,func194,by kernel_rfl,z⟩
theorem c95 (fu:Nat)(bp0:Nat)(a0:Rd)(a1:Int):Ctr prog 194 [isP bp0 0,isI .i64 a1] [boxO bp0 tRd a0 []] (f95 fu a0 a1) (fun q _=>[boxO bp0 tRd q.2 []]) (fun q=>tVal.va q.1):=by
 refine .w func194 ntmps194 fun hf A w=>?_
 unfold f95
 refine .s<|.alloc tVal d0_47 [] z47 z fun b1=>.nil<|.seq<|.seq<|.join2 (fun i2 i3=>⟨[(0,isP bp0 0,none),(1,isI .i64 a1,none),(4,isP b1 0,none),(11,isB i2,none)],[boxO b1 tVal d0_47 [],boxO bp0 tRd i3 []]⟩) (fun i2 i3=>oH fu a1 i2 i3) (fun i2 i3=>?_) (fun hj1=>?_)
 ·refine .cd z ?_ ?_
  ·exact fr
  ·refine .skip<|.seq<|.s<|go ?_
   refine .cd z ?_ ?_
   ·refine .s<|go ?_
    exact .call1 1 (c73 fu _ _ _) z n73 z z fun q4=>fr
   ·refine .skip<|.s<|go ?_
    exact .call1 1 (c96 fu _ _ _) z n96 z z fun q5=>fr
 ·refine .g<|.m z z<|.call1 1 (c74 fu _ _ _) z n74 z z fun q6=>go ?_
  refine .split 8 z (fun _=>?_) (fun _=>?_)
  ·exact fj (hj1 _ _)
  ·exact fj (hj1 _ _)
def zI (fu:Nat)(a0:Rd)(a1:List UInt8):Option (Col×Rd):=(f74 fu a0 2).bind fun q2=>(f74 fu q2.2 4).bind fun q3=>(f74 fu q3.2 4).bind fun q5=>cond (decide (q5.1=0)) (some (({ (⟨a1,IntKind.i64.wrap (1+q2.1),decide (q3.1=0),d0_52.once,d0_52.def_⟩:Col) with once:=true }:Col),q5.2)) ((f95 fu q5.2 ((⟨a1,IntKind.i64.wrap (1+q2.1),decide (q3.1=0),d0_52.once,d0_52.def_⟩:Col).kind)).bind fun q6=>some (({ (⟨a1,IntKind.i64.wrap (1+q2.1),decide (q3.1=0),d0_52.once,d0_52.def_⟩:Col) with def_:=q6.1 }:Col),q6.2))
theorem n107:Nm prog 158:=⟨_,_,func158,by kernel_rfl,z⟩
theorem c107 (fu:Nat)(bp0:Nat)(a0:Rd)(a1:List UInt8):Ctr prog 158 [isP bp0 0,isS a1] [boxO bp0 tRd a0 []] (zI fu a0 a1) (fun q _=>[boxO bp0 tRd q.2 []]) (fun q=>tCol.va q.1):=by
 refine .w func158 ntmps158 fun hf A w=>?_
 unfold zI
 refine .s<|.alloc tCol d0_52 [] z52 z fun b1=>.nil<|.s<|go ?_
 refine .call1 1 (c74 fu _ _ _) z n74 z z fun q2=>go ?_
 refine .call1 1 (c74 fu _ _ _) z n74 z z fun q3=>go ?_
 refine .alloc tCol d0_52 [] z52 z fun b4=>go ?_
 refine .seq<|.s<|.m z z<|.call1 2 (c74 fu _ _ _) z n74 z z fun q5=>go ?_
 refine .cd z ?_ ?_
 ·exact fr
 ·refine .skip<|.s<|go ?_
  exact .call1 2 (c95 fu _ _ _) z n95 z z fun q6=>fr
def gF (a0:List Col)(a1:List UInt8):Nat→Int→Option Int
 | 0,_=>none
 | n1+1,i1=>cond (decide (i1 < (a0.length:Int))) (cond (decide (0≤i1)&&decide (i1 < (a0.length:Int))) (cond (decide (((a0.getD i1.toNat default).name)=a1)) (some i1) ((gF a0 a1 n1) (IntKind.i64.wrap (i1+1)))) none) (some (-1))
def f108 (fu:Nat)(a0:List Col)(a1:List UInt8):Option Int:=gF a0 a1 fu 0
theorem n108:Nm prog 128:=⟨_,_,func128,by kernel_rfl,z⟩
theorem c108 (fu:Nat)(a0:List Col)(a1:List UInt8):Ctr prog 128 [(tL tCol).va a0,isS a1] [] (f108 fu a0 a1) (fun _ _=>[]) (fun q=>isI .i64 q):=by
 refine .w func128 ntmps128 fun hf A w=>?_
 unfold f108
 refine .s<|.an z z<|.seq<|.s<|.an z z<|.block<|.loop<|.keep [0,1,5] [] z<|(show ∀ (n1:Nat) (i1:Int),W _ _ _ _ _ ⟨[(0,(tL tCol).va a0,none),(1,isS a1,none),(5,isI .i64 i1,none)],[]⟩ (gF a0 a1 n1 i1) from ?_) fu _
 intro n1
 induction n1 with
 | zero=>exact fun _=>.stop
 | succ n1 ih1=>
  intro i1
  refine .inLoop<|.seq<|.s<|go ?_
  refine .cd z ?_ ?_
  ·refine .skip<|.seq<|.block<|.s<|go ?_
   refine .cd z ?_ ?_
   ·exact fr
   ·exact fj (ih1 _)
  ·exact fr
def f108o_l1 (a0:List Col)(a1:List UInt8):Nat→Int→Option Int
 | 0,_=>none
 | n1+1,i1=>cond (decide (i1 < (a0.length:Int))) (cond (decide (0≤i1)&&decide (i1 < (a0.length:Int))) (cond (decide (((a0.getD i1.toNat default).name)=a1)) (some i1) ((f108o_l1 a0 a1 n1) (IntKind.i64.wrap (i1+1)))) none) (some (-1))
def f108o (fu:Nat)(a0:List Col)(a1:List UInt8):Option Int:=f108o_l1 a0 a1 fu 0
theorem c108o (fu:Nat)(vp0:Value)(a0:List Col)(a1:List UInt8):Ctr prog 128 [isV vp0,isS a1] [arrO tCol vp0 a0] (f108o fu a0 a1) (fun _ _=>[arrO tCol vp0 a0]) (fun q=>isI .i64 q):=by
 refine .w func128 ntmps128 fun hf A w=>?_
 unfold f108o
 refine .know 0 z<|.s<|.an z z<|.seq<|.s<|.an z z<|.block<|.loop<|.keep [1,5] [0] z<|(show ∀ (n1:Nat) (i1:Int),W _ _ _ _ _ ⟨[(1,isS a1,none),(5,isI .i64 i1,none),(0,isV vp0,some vp0)],[arrO tCol vp0 a0]⟩ (f108o_l1 a0 a1 n1 i1) from ?_) fu _
 intro n1
 induction n1 with
 | zero=>exact fun _=>.stop
 | succ n1 ih1=>
  intro i1
  refine .inLoop<|.seq<|.s<|go ?_
  refine .cd z ?_ ?_
  ·refine .skip<|.seq<|.block<|.s<|go ?_
   refine .cd z ?_ ?_
   ·exact fr
   ·exact fj (ih1 _)
  ·exact fr
def f125_j2 (i3:Int)(q9:Col×Rd)(rec1:Int→(List Col)→Rd→Option ((List Col)×Rd))(i12:List Col):Option ((List Col)×Rd):=rec1 (IntKind.i64.wrap (i3-1)) i12 q9.2
def d6 (fu:Nat):Nat→Int→(List Col)→Rd→Option ((List Col)×Rd)
 | 0,_,_,_=>none
 | n1+1,i3,i4,i6=>cond (decide (0<i3)) ((vj).bind fun q7=>(f96 fu i6 q7).bind fun q8=>(zI fu q8.2 q8.1).bind fun q9=>(f108 fu i4 q9.1.name).bind fun q11=>cond (decide (q11<0)) (cond (decide (i4.length+List.length ([q9.1]:List Col)≤CAP)) (f125_j2 i3 q9 (d6 fu n1) (i4++([q9.1]:List Col))) none) (f125_j2 i3 q9 (d6 fu n1) i4)) (some (i4,i6))
def f125 (fu:Nat)(a0:Rd):Option ((List Col)×Rd):=(f74 fu a0 4).bind fun q2=>d6 fu fu (IntKind.i64.wrap (1+q2.1)) ([]:List Col) q2.2
theorem n125:Nm prog 92:=⟨_,_,func92,by kernel_rfl,z⟩
theorem c125 (fu:Nat)(bp0:Nat)(a0:Rd):Ctr prog 92 [isP bp0 0] [boxO bp0 tRd a0 []] (f125 fu a0) (fun q _=>[boxO bp0 tRd q.2 []]) (fun q=>(tL tCol).va q.1):=by
 refine .w func92 ntmps92 fun hf A w=>?_
 unfold f125
 refine .s<|.assignNil tCol z<|.nil<|.s<|.lit (T:=tCol) u36 cq z z (.nil) z fun v1=>.an z z<|.seq<|.s<|.m z z<|.call1 1 (c74 fu _ _ _) z n74 z z fun q2=>go ?_
 refine .block<|.loop<|.keep [0,4] [3] z<|(show ∀ (n1:Nat) (i3:Int) (i4:List Col) (v5:Value) (i6:Rd),W _ _ _ _ _ ⟨[(0,isP bp0 0,none),(4,isI .i64 i3,none),(3,(tL tCol).va i4,some v5)],[appO 7 v5,boxO bp0 tRd i6 []]⟩ (d6 fu n1 i3 i4 i6) from ?_) fu _ _ _ _
 intro n1
 induction n1 with
 | zero=>exact fun _ _ _ _=>.stop
 | succ n1 ih1=>
  intro i3 i4 v5 i6
  refine .inLoop<|.seq<|.s<|go ?_
  refine .cd z ?_ ?_
  ·refine .skip<|.seq<|.block<|.s<|go ?_
   refine .call0 (c106) n106 z z fun q7=>.call1 1 (c96 fu _ _ _) z n96 z z fun q8=>.call1 1 (c107 fu _ _ _) z n107 z z fun q9=>.alloc tCol d0_52 [] z52 z fun b10=>go ?_
   refine .s<|go ?_
   refine .call0 (c108 fu _ _) n108 z z fun q11=>go ?_
   refine .join2 (fun i12 v13=>⟨[(0,isP bp0 0,none),(4,isI .i64 i3,none),(3,(tL tCol).va i12,some v13)],[appO 7 v13,boxO bp0 tRd q9.2 []]⟩) (fun i12 v13=>f125_j2 i3 q9 (d6 fu n1) i12) (fun i12 v13=>?_) (fun hj2=>?_)
   ·exact fj (ih1 _ _ _ _)
   ·refine .cd z ?_ ?_
    ·refine .g<|go ?_
     exact .app (T:=tCol) 1 z z z u36 cq z fun v14=>fj (hj2 _ _)
    ·exact fj (hj2 _ _)
  ·exact fr
def nG (i3:Int)(q9:Col×Rd)(rec1:Int→(List Col)→Rd→Option ((List Col)×Rd))(i13:List Col):Option ((List Col)×Rd):=rec1 (IntKind.i64.wrap (i3-1)) i13 q9.2
def f125a_l1 (fu:Nat):Nat→Int→(List Col)→Rd→Option ((List Col)×Rd)
 | 0,_,_,_=>none
 | n1+1,i3,i5,i6=>cond (decide (0<i3)) ((vj).bind fun q7=>(f96 fu i6 q7).bind fun q8=>(zI fu q8.2 q8.1).bind fun q9=>(f108o fu i5 q9.1.name).bind fun q11=>cond (decide (q11<0)) (cond (decide (i5.length+List.length ([q9.1]:List Col)≤CAP)) (nG i3 q9 (f125a_l1 fu n1) (i5++([q9.1]:List Col))) none) (nG i3 q9 (f125a_l1 fu n1) i5)) (some (i5,i6))
def f125a (fu:Nat)(a0:Rd):Option ((List Col)×Rd):=(f74 fu a0 4).bind fun q2=>f125a_l1 fu fu (IntKind.i64.wrap (1+q2.1)) ([]:List Col) q2.2
theorem c125a (fu:Nat)(bp0:Nat)(a0:Rd):aW prog 92 [isP bp0 0] [boxO bp0 tRd a0 []] (f125a fu a0) (fun v=>v) (fun q v=>[arrO tCol v q.1,boxO bp0 tRd q.2 []]) (fun _ v=>tRaw.va v):=by
 refine .w func92 ntmps92 fun hf A w=>?_
 unfold f125a
 refine .s<|.a z z<|.arrNil tCol<|.nil<|.s<|.lit (T:=tCol) u36 cq z z (.nil) z fun v1=>.toArr 0 6 z z z<|.an z z<|.seq<|.s<|.m z z<|.call1 2 (c74 fu _ _ _) z n74 z z fun q2=>go ?_
 refine .block<|.loop<|.drop (.d<|.c<|.d<|.e)<|.keep [0,4] [3] z<|(show ∀ (n1:Nat) (i3:Int) (v4:Value) (i5:List Col) (i6:Rd),W _ _ _ _ _ ⟨[(0,isP bp0 0,none),(4,isI .i64 i3,none),(3,isV v4,some v4)],[arrO tCol v4 i5,boxO bp0 tRd i6 []]⟩ (f125a_l1 fu n1 i3 i5 i6) from ?_) fu _ _ _ _
 intro n1
 induction n1 with
 | zero=>exact fun _ _ _ _=>.stop
 | succ n1 ih1=>
  intro i3 v4 i5 i6
  refine .inLoop<|.seq<|.s<|go ?_
  refine .cd z ?_ ?_
  ·refine .skip<|.seq<|.block<|.s<|go ?_
   refine .call0 (c106) n106 z z fun q7=>.call1 1 (c96 fu _ _ _) z n96 z z fun q8=>.call1 1 (c107 fu _ _ _) z n107 z z fun q9=>.alloc tCol d0_52 [] z52 z fun b10=>go ?_
   refine .s<|go ?_
   refine .callR 1 (c108o fu _ _ _) z n108 z z fun q11=>go ?_
   refine .join2 (fun v12 i13=>⟨[(0,isP bp0 0,none),(4,isI .i64 i3,none),(3,isV v12,some v12)],[arrO tCol v12 i13,boxO bp0 tRd q9.2 []]⟩) (fun v12 i13=>nG i3 q9 (f125a_l1 fu n1) i13) (fun v12 i13=>?_) (fun hj3=>?_)
   ·exact fj (ih1 _ _ _ _)
   ·refine .cd z ?_ ?_
    ·refine .g<|go ?_
     exact .appA (T:=tCol) 1 z z z u36 cq z fun v14=>fj (hj3 _ _)
    ·exact fj (hj3 _ _)
  ·refine .exit z<|.s<|go ?_
   exact .toRaw 0 2 z z<|.retL1 v4 func92 results92 (.tmp z) z (fun _ _ _ h=>h.1) (.d<|.d<|.e)
def nE (i1:Int)(rec1:Int→Option Bool)(i2:Bool):Option Bool:=cond i2 (some false) (rec1 (IntKind.i64.wrap (i1+1)))
def nD (rec1:Int→Option Bool)(i3:Bool):Option Bool:=some i3
def d4 (a0:List UInt8):Nat→Int→Option Bool
 | 0,_=>none
 | n1+1,i1=>cond (decide (i1 < (a0.length:Int))) (cond (decide (0≤i1)&&decide (i1 < (a0.length:Int))) (cond (decide ((((a0.getD i1.toNat 0).toNat:Nat):Int)<97)) (nE i1 (d4 a0 n1) true) (cond (decide (0≤i1)&&decide (i1 < (a0.length:Int))) (nE i1 (d4 a0 n1) (decide (122 < (((a0.getD i1.toNat 0).toNat:Nat):Int)))) none)) none) (cond (decide (1≤(a0.length:Int))) (nD (d4 a0 n1) (decide ((a0.length:Int)≤3))) (nD (d4 a0 n1) false))
def oS (fu:Nat)(a0:List UInt8):Option Bool:=d4 a0 fu 0
theorem n135:Nm prog 115:=⟨_,_,func115,by kernel_rfl,z⟩
theorem c135 (fu:Nat)(a0:List UInt8):Ctr prog 115 [isS a0] [] (oS fu a0) (fun _ _=>[]) (fun q=>isB q):=by
 refine .w func115 ntmps115 fun hf A w=>?_
 unfold oS
 refine .s<|.an z z<|.seq<|.s<|.an z z<|.block<|.loop<|.keep [0,3] [] z<|(show ∀ (n1:Nat) (i1:Int),W _ _ _ _ _ ⟨[(0,isS a0,none),(3,isI .i64 i1,none)],[]⟩ (d4 a0 n1 i1) from ?_) fu _
 intro n1
 induction n1 with
 | zero=>exact fun _=>.stop
 | succ n1 ih1=>
  intro i1
  refine .inLoop<|.seq<|.s<|go ?_
  refine .cd z ?_ ?_
  ·refine .skip<|.seq<|.block<|.seq<|.join1 (fun i2=>⟨[(0,isS a0,none),(3,isI .i64 i1,none),(19,isB i2,none)],[]⟩) (fun i2=>nE i1 (d4 a0 n1) i2) (fun i2=>?_) (fun hj3=>?_)
   ·refine .cd z ?_ ?_
    ·exact fr
    ·exact fj (ih1 _)
   ·refine .g<|go ?_
    refine .idxS z z u9 z<|go ?_
    refine .split 14 z (fun _=>?_) (fun _=>?_)
    ·exact fj (hj3 _)
    ·refine go ?_
     exact .idxS z z u9 z<|fj (hj3 _)
  ·refine .exit z<|.seq<|.join1 (fun i3=>⟨[(2,isB i3,none)],[]⟩) (fun i3=>nD (d4 a0 n1) i3) (fun i3=>?_) (fun hj4=>?_)
   ·exact fr
   ·refine .g<|go ?_
    refine .split 23 z (fun _=>?_) (fun _=>?_)
    ·exact fj (hj4 _)
    ·exact fj (hj4 _)
def lv (i1:Bool):Option Bool:=some i1
def Ak (fu:Nat)(a0:Int):Option Bool:=cond (decide ((-999)≤a0)) (lv (decide (a0≤999))) (lv false)
theorem n139:Nm prog 198:=⟨_,_,func198,by kernel_rfl,z⟩
theorem c139 (fu:Nat)(a0:Int):Ctr prog 198 [isI .i64 a0] [] (Ak fu a0) (fun _ _=>[]) (fun q=>isB q):=by
 refine .w func198 ntmps198 fun hf A w=>?_
 unfold Ak
 refine .s<|.an z z<|.seq<|.join1 (fun i1=>⟨[(2,isB i1,none)],[]⟩) (fun i1=>lv i1) (fun i1=>?_) (fun hj1=>?_)
 ·exact fr
 ·refine .g<|go ?_
  refine .split 5 z (fun _=>?_) (fun _=>?_)
  ·exact fj (hj1 _)
  ·exact fj (hj1 _)
def eP (i1:Int)(rec1:Int→Option Bool)(i2:Bool):Option Bool:=cond i2 (some false) (rec1 (IntKind.i64.wrap (i1+1)))
def c6 (a0:List UInt8):Nat→Int→Option Bool
 | 0,_=>none
 | n1+1,i1=>cond (decide (i1 < (a0.length:Int))) (cond (decide (0≤i1)&&decide (i1 < (a0.length:Int))) (cond (decide ((((a0.getD i1.toNat 0).toNat:Nat):Int)<97)) (cond (decide (0≤i1)&&decide (i1 < (a0.length:Int))) (cond (decide ((((a0.getD i1.toNat 0).toNat:Nat):Int)<48)) (cond (decide (0≤i1)&&decide (i1 < (a0.length:Int))) (eP i1 (c6 a0 n1) (!decide ((((a0.getD i1.toNat 0).toNat:Nat):Int)=45))) none) (cond (decide (0≤i1)&&decide (i1 < (a0.length:Int))) (cond (decide (57 < (((a0.getD i1.toNat 0).toNat:Nat):Int))) (cond (decide (0≤i1)&&decide (i1 < (a0.length:Int))) (eP i1 (c6 a0 n1) (!decide ((((a0.getD i1.toNat 0).toNat:Nat):Int)=45))) none) (eP i1 (c6 a0 n1) false)) none)) none) (cond (decide (0≤i1)&&decide (i1 < (a0.length:Int))) (cond (decide (122 < (((a0.getD i1.toNat 0).toNat:Nat):Int))) (cond (decide (0≤i1)&&decide (i1 < (a0.length:Int))) (cond (decide ((((a0.getD i1.toNat 0).toNat:Nat):Int)<48)) (cond (decide (0≤i1)&&decide (i1 < (a0.length:Int))) (eP i1 (c6 a0 n1) (!decide ((((a0.getD i1.toNat 0).toNat:Nat):Int)=45))) none) (cond (decide (0≤i1)&&decide (i1 < (a0.length:Int))) (cond (decide (57 < (((a0.getD i1.toNat 0).toNat:Nat):Int))) (cond (decide (0≤i1)&&decide (i1 < (a0.length:Int))) (eP i1 (c6 a0 n1) (!decide ((((a0.getD i1.toNat 0).toNat:Nat):Int)=45))) none) (eP i1 (c6 a0 n1) false)) none)) none) (eP i1 (c6 a0 n1) false)) none)) none) (some (decide ((a0.length:Int)≤4)))
def Bv (fu:Nat)(a0:List UInt8):Option Bool:=c6 a0 fu 0
theorem n140:Nm prog 199:=⟨_,_,func199,by kernel_rfl,z⟩
theorem c140 (fu:Nat)(a0:List UInt8):Ctr prog 199 [isS a0] [] (Bv fu a0) (fun _ _=>[]) (fun q=>isB q):=by
 refine .w func199 ntmps199 fun hf A w=>?_
 unfold Bv
 refine .s<|.an z z<|.seq<|.s<|.an z z<|.block<|.loop<|.keep [0,3] [] z<|(show ∀ (n1:Nat) (i1:Int),W _ _ _ _ _ ⟨[(0,isS a0,none),(3,isI .i64 i1,none)],[]⟩ (c6 a0 n1 i1) from ?_) fu _
 intro n1
 induction n1 with
 | zero=>exact fun _=>.stop
 | succ n1 ih1=>
  intro i1
  refine .inLoop<|.seq<|.s<|go ?_
  refine .cd z ?_ ?_
  ·refine .skip<|.seq<|.block<|.seq<|.join1 (fun i2=>⟨[(0,isS a0,none),(3,isI .i64 i1,none),(37,isB i2,none)],[]⟩) (fun i2=>eP i1 (c6 a0 n1) i2) (fun i2=>?_) (fun hj2=>?_)
   ·refine .cd z ?_ ?_
    ·exact fr
    ·exact fj (ih1 _)
   ·refine .g<|go ?_
    refine .idxS z z u9 z<|go ?_
    refine .split 14 z (fun _=>?_) (fun _=>?_)
    ·refine go ?_
     refine .idxS z z u9 z<|go ?_
     refine .split 25 z (fun _=>?_) (fun _=>?_)
     ·refine go ?_
      exact .idxS z z u9 z<|fj (hj2 _)
     ·refine go ?_
      refine .idxS z z u9 z<|go ?_
      refine .split 32 z (fun _=>?_) (fun _=>?_)
      ·refine go ?_
       exact .idxS z z u9 z<|fj (hj2 _)
      ·exact fj (hj2 _)
    ·refine go ?_
     refine .idxS z z u9 z<|go ?_
     refine .split 20 z (fun _=>?_) (fun _=>?_)
     ·refine go ?_
      refine .idxS z z u9 z<|go ?_
      refine .split 25 z (fun _=>?_) (fun _=>?_)
      ·refine go ?_
       exact .idxS z z u9 z<|fj (hj2 _)
      ·refine go ?_
       refine .idxS z z u9 z<|go ?_
       refine .split 32 z (fun _=>?_) (fun _=>?_)
       ·refine go ?_
        exact .idxS z z u9 z<|fj (hj2 _)
       ·exact fj (hj2 _)
     ·exact fj (hj2 _)
  ·exact fr
def nK (i2:Bool):Option Bool:=some i2
def nJ (i4:Bool):Option Bool:=some i4
def uU (fu:Nat)(a0:Val):Option Bool:=cond (decide (a0.kind=0)) (some (decide (a0=(⟨d0_47.kind,d0_47.n,d0_47.text⟩:Val)))) (cond (decide (a0.kind=1)) (cond (decide (a0.text=([]:List UInt8))) ((Ak fu a0.n).bind fun q3=>nK q3) (nK false)) (cond (decide (a0.kind=2)) (cond (decide (a0.n=0)) ((Bv fu a0.text).bind fun q5=>nJ q5) (nJ false)) (some false)))
theorem n119:Nm prog 170:=⟨_,_,func170,by kernel_rfl,z⟩
theorem c119 (fu:Nat)(a0:Val):Ctr prog 170 [tVal.va a0] [] (uU fu a0) (fun _ _=>[]) (fun q=>isB q):=by
 refine .w func170 ntmps170 fun hf A w=>?_
 unfold uU
 refine .s<|.box (T:=tVal) z z fun b1=>.an z z<|.seq<|.s<|go ?_
 refine .block<|.s<|go ?_
 refine .cd z ?_ ?_
 ·refine .s<|go ?_
  exact .eqT eq47 z z z<|fr
 ·refine .s<|go ?_
  refine .cd z ?_ ?_
  ·refine .seq<|.join1 (fun i2=>⟨[(2,isB i2,none)],[]⟩) (fun i2=>nK i2) (fun i2=>?_) (fun hj1=>?_)
   ·exact fr
   ·refine .g<|go ?_
    refine .split 15 z (fun _=>?_) (fun _=>?_)
    ·refine go ?_
     exact .call0 (c139 fu _) n139 z z fun q3=>fj (hj1 _)
    ·exact fj (hj1 _)
  ·refine .s<|go ?_
   refine .cd z ?_ ?_
   ·refine .seq<|.join1 (fun i4=>⟨[(2,isB i4,none)],[]⟩) (fun i4=>nJ i4) (fun i4=>?_) (fun hj2=>?_)
    ·exact fr
    ·refine .g<|go ?_
     refine .split 25 z (fun _=>?_) (fun _=>?_)
     ·refine go ?_
      exact .call0 (c140 fu _) n140 z z fun q5=>fj (hj2 _)
     ·exact fj (hj2 _)
   ·exact fr
end Go.Proofs.YtganfdhmkdehlaaGreatDoor
