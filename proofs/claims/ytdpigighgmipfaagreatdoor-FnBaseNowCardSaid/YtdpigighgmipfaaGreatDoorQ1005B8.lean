/- Functions of the program: what each answers, and that the machine answers so. -/
import Derived.Test.YtdpigighgmipfaaGreatDoorQ1005B6
import Derived.Test.YtdpigighgmipfaaGreatDoorQ1005AU
import Derived.KernelRfl
import Derived.KernelRfl
set_option linter.all false
namespace Go.Proofs.YtdpigighgmipfaaGreatDoor
open Go Go.HL Tryz
attribute [local irreducible] W WO
def f1096_j1 (fu:Nat)(a1:Base)(q2:(List UInt8)×Rd)(q3:Int)(i4:Bool)(i5:Rd):Option (((List UInt8)×Int)×Rd):=cond i4 (cond (decide (0≤q3)&&decide (q3 < (a1.tabs.length:Int))) (cond (decide (0≤q3)&&decide (q3 < (a1.tabs.length:Int))) ((f74 fu i5 (List.length (((a1.tabs.getD q3.toNat default).table).rows):Int)).bind fun q6=>cond (decide (0≤q6.1)&&decide (q6.1 < (List.length (((a1.tabs.getD q3.toNat default).table).rows):Int))) (some ((q2.1,((((a1.tabs.getD q3.toNat default).table).rows).getD q6.1.toNat default).id),q6.2)) none) none) none) ((f73 fu i5 ([0,1,2,99]:List Int)).bind fun q7=>some ((q2.1,q7.1),q7.2))
def f1096 (fu:Nat)(a0:Rd)(a1:Base):Option (((List UInt8)×Int)×Rd):=(f96 fu a0 ([([116]:List UInt8),([117]:List UInt8),([118]:List UInt8),([119]:List UInt8),([116]:List UInt8),([117]:List UInt8)]:List (List UInt8))).bind fun q2=>(f1062 fu a1 q2.1).bind fun q3=>cond (decide (0≤q3)) (cond (decide (0≤q3)&&decide (q3 < (a1.tabs.length:Int))) (cond (decide (0 < (List.length (((a1.tabs.getD q3.toNat default).table).rows):Int))) ((f74 fu q2.2 8).bind fun q8=>f1096_j1 fu a1 q2 q3 (decide (0<q8.1)) q8.2) (f1096_j1 fu a1 q2 q3 false q2.2)) none) (f1096_j1 fu a1 q2 q3 false q2.2)
theorem n1096:Nm prog 96:=⟨_,_,func96,by kernel_rfl,z⟩
theorem c1096 (fu:Nat)(bp0:Nat)(a0:Rd)(a1:Base):Ctr prog 96 [isP bp0 0,tBase.va a1] [boxO bp0 tRd a0 []] (f1096 fu a0 a1) (fun q _=>[boxO bp0 tRd q.2 []]) (fun q=>tup [isS q.1.1,isI .i64 q.1.2]):=by
 refine .w func96 ntmps96 fun hf A w=>?_
 unfold f1096
 refine .s<|.box (T:=tBase) z z fun b1=>go ?_
 refine .s<|go ?_
 refine .call1 1 (c96 fu _ _ _) z n96 z z fun q2=>.an z z<|.s<|go ?_
 refine .call0 (c1062 fu _ _) n1062 z z fun q3=>.an z z<|.seq<|.seq<|.join2 (fun i4 i5=>⟨[(0,isP bp0 0,none),(3,isP b1 0,none),(6,isS q2.1,none),(7,isI .i64 q3,none),(31,isB i4,none)],[boxO b1 tBase a1 [],boxO bp0 tRd i5 []]⟩) (fun i4 i5=>f1096_j1 fu a1 q2 q3 i4 i5) (fun i4 i5=>?_) (fun hj1=>?_)
 ·refine .cd z ?_ ?_
  ·exact .seq<|.pT fun h1=>.pT fun h2=>.pbind fun q6 h3=>.pT fun h4=>.drawS 22 [] [17,18,19,20] [1] mix (by kernel_rfl) sts z<|.cons (d:=49) z z fun _ _ hE h=>.bindE h3 (fun r h=>.call1 1 (c74 fu _ _ _) z n74 (hE.ops z) z h)<|h _ _ (.same<|.hole z<|.nil)<|.cons (d:=50) z z fun _ _ hE h=>.useC h4<|.elemAt (hE.op z) (hE.op z) u35 ty37 z<|h _ _ (.same<|.hole z<|.nil)<|.cons (d:=51) z z fun _ _ hE h=>.fieldAt fRow_0 (hE.op z) fa37_0 z<|h _ _ (.same<|.hole z<|.nil)<|.cons (d:=52) z z fun _ _ hE h=>.load (hE.op z) ty3 z<|h _ _ (.same<|.hole z<|.nil)<|fr
  ·refine .skip<|.s<|go ?_
   exact .call1 1 (c73 fu _ _ _) z n73 z z fun q7=>fr
 ·refine .g<|go ?_
  refine .split 16 z (fun _=>?_) (fun _=>?_)
  ·refine go ?_
   refine .split 27 z (fun _=>?_) (fun _=>?_)
   ·refine go ?_
    exact .call1 1 (c74 fu _ _ _) z n74 z z fun q8=>fj (hj1 _ _)
   ·exact fj (hj1 _ _)
  ·exact fj (hj1 _ _)
def f1083 (fu:Nat)(a0:List Int):Option (Base×(List UInt8)×Int):=(f60 fu a0).bind fun q2=>(f1050 fu q2).bind fun q4=>(f1096 fu q4.2 q4.1).bind fun q6=>some (q4.1,q6.1.1,q6.1.2)
theorem n1083:Nm prog 83:=⟨_,_,func83,by kernel_rfl,z⟩
theorem c1083 (fu:Nat)(a0:List Int):Ctr prog 83 [(tL (tI .u8)).va a0] [] (f1083 fu a0) (fun _ _=>[]) (fun q=>tup [tBase.va q.1,isS q.2.1,isI .i64 q.2.2]):=by
 refine .w func83 ntmps83 fun hf A w=>?_
 unfold f1083
 refine .s<|.alloc tBase d0_1026 [] z1026 z fun b1=>go ?_
 refine .s<|.m z z<|.callP (c60 fu _) n60 z z fun q2 b3=>.an z z<|.s<|.m z z<|.call1 0 (c1050 fu _ _) z n1050 z z fun q4=>.alloc tBase d0_1026 [] z1026 z fun b5=>go ?_
 refine .s<|go ?_
 exact .call1 1 (c1096 fu _ _ _) z n1096 z z fun q6=>fr
def f1027 (fu:Nat)(a0:List Int):Option (Base×(List UInt8)×Int):=(f1083 fu a0).bind fun q2=>some (q2.1,q2.2.1,q2.2.2)
theorem n1027:Nm prog 27:=⟨_,_,func27,by kernel_rfl,z⟩
theorem c1027 (fu:Nat)(a0:List Int):Ctr prog 27 [(tL (tI .u8)).va a0] [] (f1027 fu a0) (fun _ _=>[]) (fun q=>tup [tBase.va q.1,isS q.2.1,isI .i64 q.2.2]):=by
 refine .w func27 ntmps27 fun hf A w=>?_
 unfold f1027
 refine .s<|.alloc tBase d0_1026 [] z1026 z fun b1=>go ?_
 exact .s<|.m z z<|.call0 (c1083 fu _) n1083 z z fun q2=>fr
def f1084_j1 (i3:Bool):Option Bool:=some i3
def f1084 (fu:Nat)(a0:Base)(a1:List UInt8)(a2:Int):Option Bool:=(f1056 fu a0 a1).bind fun q2=>cond (decide (0≤q2)) (cond (decide (0≤q2)&&decide (q2 < (a0.tabs.length:Int))) ((f48 fu ((a0.tabs.getD q2.toNat default).table) a2).bind fun q4=>f1084_j1 (decide (0≤q4))) none) (f1084_j1 false)
theorem n1084:Nm prog 84:=⟨_,_,func84,by kernel_rfl,z⟩
theorem c1084 (fu:Nat)(a0:Base)(a1:List UInt8)(a2:Int):Ctr prog 84 [tBase.va a0,isS a1,isI .i64 a2] [] (f1084 fu a0 a1 a2) (fun _ _=>[]) (fun q=>isB q):=by
 refine .w func84 ntmps84 fun hf A w=>?_
 unfold f1084
 refine .s<|.box (T:=tBase) z z fun b1=>.an z z<|.s<|go ?_
 refine .call0 (c1056 fu _ _) n1056 z z fun q2=>.an z z<|.seq<|.join1 (fun i3=>⟨[(6,isB i3,none)],[]⟩) (fun i3=>f1084_j1 i3) (fun i3=>?_) (fun hj1=>?_)
 ·exact fr
 ·refine .g<|go ?_
  refine .split 13 z (fun _=>?_) (fun _=>?_)
  ·refine go ?_
   exact .call0 (c48 fu _ _) n48 z z fun q4=>fj (hj1 _)
  ·exact fj (hj1 _)
def f1029 (fu:Nat)(a0:Base)(a1:List UInt8)(a2:Int):Option (Base×Int):=(f1019 fu a0).bind fun q3=>cond (!q3) (some ((⟨([]:List Tab),([]:List Link)⟩:Base),1)) ((f1059 fu a0).bind fun q4=>(f1091 fu q4 a1 a2).bind fun q5=>(f1059 fu q5.1).bind fun q7=>some (q7,q5.2))
theorem n1029:Nm prog 29:=⟨_,_,func29,by kernel_rfl,z⟩
theorem c1029 (fu:Nat)(a0:Base)(a1:List UInt8)(a2:Int):Ctr prog 29 [tBase.va a0,isS a1,isI .i64 a2] [] (f1029 fu a0 a1 a2) (fun _ _=>[]) (fun q=>tup [tBase.va q.1,isI .i64 q.2]):=by
 refine .w func29 ntmps29 fun hf A w=>?_
 unfold f1029
 refine .s<|.box (T:=tBase) z z fun b1=>.alloc tBaseA d0A1026 [] zA1026 z fun b2=>.an z z<|.seq<|.s<|go ?_
 refine .call0 (c1019 fu _) n1019 z z fun q3=>.not z z<|.nil<|.cd z ?_ ?_
 ·exact .s<|.buildA z st1026 zA1026 (.nil) z<|.storeP 0 (Fld.self _) z z z ty1026<|.arrNil tTab<|.arrNil tLink<|.an z z<|.frzBox 2 1 conv1026_0 z z<|.frzBox 2 0 conv1026_1 z z<|fr
 ·refine .skip<|.s<|go ?_
  refine .call0 (plain1026 (c1059 fu _)) n1059 z z fun q4=>go ?_
  refine .call0 (c1091 fu _ _ _) n1091 z z fun q5=>go ?_
  refine .alloc tBaseA d0A1026 [] zA1026 z fun b6=>.storeW 0 z z z z ty1026<|.an z z<|.s<|go ?_
  refine .callL0 (c1059 fu _) n1059 z z fun q7 p8=>go ?_
  exact .frzBox 3 0 conv1026_0 z z<|.frzBox 3 1 conv1026_1 z z<|fr
def f1154 (a0:List Ref):Option (List Ref):=some a0
theorem n1154:Nm prog 154:=⟨_,_,func154,by kernel_rfl,z⟩
theorem c1154 (vp0:Value)(a0:List Ref):CtrL prog 154 [isV vp0] [arrO tRef vp0 a0] (f1154 a0) (fun v=>v) (fun q v=>[arrO tRef v q]) (fun _ v=>tRaw.va v):=by
 refine .w func154 ntmps154 fun hf A w=>?_
 unfold f1154
 exact .know 0 z<|.s<|.a z z<|.arrNil tRef<|.nil<|.s<|.m z z<|.m z z<|.lenA 1 z z u52 z<|.m z z<|.lenA 1 z z u52 z<|.clip (T:=tRef) 1 z z z z u52 el1055 z fun v1=>.an z z<|.toRaw 1 2 z z<|.retL1 v1 func154 results154 (.tmp z) z (fun _ _ _ h=>h.1) (.c<|.d<|.e)
end Go.Proofs.YtdpigighgmipfaaGreatDoor
