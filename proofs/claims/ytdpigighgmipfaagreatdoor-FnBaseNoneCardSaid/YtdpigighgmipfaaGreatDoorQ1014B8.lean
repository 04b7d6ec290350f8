/- Functions of the program: what each answers, and that the machine answers so. -/
import Derived.Test.YtdpigighgmipfaaGreatDoorQ1014B6
import Derived.Test.YtdpigighgmipfaaGreatDoorQ1014AU
import Derived.KernelRfl
import Derived.KernelRfl
set_option linter.all false
namespace Go.Proofs.YtdpigighgmipfaaGreatDoor
open Go Go.HL Tryz
attribute [local irreducible] W WO
def f1084_j1 (i3:Bool):Option Bool:=some i3
def f1084 (fu:Nat)(a0:Base)(a1:List UInt8)(a2:Int):Option Bool:=(f1056 fu a0 a1).bind fun q2=>cond (decide (0≤q2)) (cond (decide (0≤q2)&&decide (q2 < (a0.tabs.length:Int))) ((f48 fu ((a0.tabs.getD q2.toNat default).table) a2).bind fun q4=>f1084_j1 (decide (0≤q4))) none) (f1084_j1 false)
theorem n1084:Nm prog 84:=⟨_,_,func84,by kernel_rfl,z⟩
theorem c1084 (fu:Nat)(a0:Base)(a1:List UInt8)(a2:Int):Ctr prog 84 [tBase.va a0,isS a1,isI .i64 a2] [] (f1084 fu a0 a1 a2) (fun _ _=>[]) (fun q=>isB q):=by
 refine .w func84 ntmps84 fun hf A w=>?_
 unfold f1084
 refine .s<|.box (T:=tBase) z z fun b1=>.an z z<|.s<|go ?_
 refine .call0 (c1056 fu _ _) n1056 z z fun q2=>.an z z<|.seq<|.join1 (fun i3=>⟨[(6,isB i3,none)],[]⟩) (fun i3=>f1084_j1 i3) (fun i3=>?_) (fun hj1=>?_)
 ·exact fr
 ·refine .g<|go ?_
  refine .split 13 z (fun _=>?_) (fun _=>?_)
  ·refine go ?_
   exact .call0 (c48 fu _ _) n48 z z fun q4=>fj (hj1 _)
  ·exact fj (hj1 _)
def f1154 (a0:List Ref):Option (List Ref):=some a0
theorem n1154:Nm prog 154:=⟨_,_,func154,by kernel_rfl,z⟩
theorem c1154 (vp0:Value)(a0:List Ref):CtrL prog 154 [isV vp0] [arrO tRef vp0 a0] (f1154 a0) (fun v=>v) (fun q v=>[arrO tRef v q]) (fun _ v=>tRaw.va v):=by
 refine .w func154 ntmps154 fun hf A w=>?_
 unfold f1154
 exact .know 0 z<|.s<|.a z z<|.arrNil tRef<|.nil<|.s<|.m z z<|.m z z<|.lenA 1 z z u52 z<|.m z z<|.lenA 1 z z u52 z<|.clip (T:=tRef) 1 z z z z u52 el1055 z fun v1=>.an z z<|.toRaw 1 2 z z<|.retL1 v1 func154 results154 (.tmp z) z (fun _ _ _ h=>h.1) (.c<|.d<|.e)
def f1033_j3 (i22:Base):Option (Base×Int):=some (i22,0)
def f1033_j2 (a2:Change)(q5:Int)(q8:Table×Int)(q10:Int)(q18:Base)(i21:Bool):Option (Base×Int):=cond i21 (cond (decide (0≤q10)&&decide (q10 < (q18.links.length:Int))) (f1033_j3 (⟨q18.tabs.set q5.toNat ({ (q18.tabs.getD q5.toNat default) with table:=q8.1 }:Tab),q18.links.set q10.toNat ({ (q18.links.getD q10.toNat default) with col:=a2.new }:Link)⟩:Base)) none) (f1033_j3 (⟨q18.tabs.set q5.toNat ({ (q18.tabs.getD q5.toNat default) with table:=q8.1 }:Tab),q18.links⟩:Base))
def f1033_j1 (fu:Nat)(a0:Base)(a2:Change)(q5:Int)(q8:Table×Int)(q10:Int)(i13:Bool):Option (Base×Int):=cond i13 ((f1054 fu a0).bind fun q14=>some (q14,8)) (cond (!decide (q8.2=0)) ((f1054 fu a0).bind fun q16=>some (q16,q8.2)) ((f1054 fu a0).bind fun q18=>cond (decide (0≤q5)&&decide (q5 < (q18.tabs.length:Int))) (cond (decide (a2.kind=3)) (f1033_j2 a2 q5 q8 q10 q18 (decide (0≤q10))) (f1033_j2 a2 q5 q8 q10 q18 false)) none))
def f1033 (fu:Nat)(a0:Base)(a1:List UInt8)(a2:Change):Option (Base×Int):=(f1020 fu a0).bind fun q4=>cond (!q4) (some ((⟨([]:List Tab),([]:List Link)⟩:Base),1)) ((f1056 fu a0 a1).bind fun q5=>cond (decide (q5<0)) ((f1054 fu a0).bind fun q6=>some (q6,5)) (cond (decide (0≤q5)&&decide (q5 < (a0.tabs.length:Int))) ((f71 fu ((a0.tabs.getD q5.toNat default).table) a2).bind fun q8=>(f1074 fu a0 a1 a2.name).bind fun q10=>cond (decide (q8.2=1)) ((f1054 fu a0).bind fun q11=>some (q11,1)) (cond (decide (a2.kind=2)) (f1033_j1 fu a0 a2 q5 q8 q10 (decide (0≤q10))) (cond (decide (a2.kind=4)) (f1033_j1 fu a0 a2 q5 q8 q10 (decide (0≤q10))) (f1033_j1 fu a0 a2 q5 q8 q10 false)))) none))
theorem n1033:Nm prog 33:=⟨_,_,func33,by kernel_rfl,z⟩
theorem c1033 (fu:Nat)(a0:Base)(a1:List UInt8)(a2:Change):Ctr prog 33 [tBase.va a0,isS a1,tChange.va a2] [] (f1033 fu a0 a1 a2) (fun _ _=>[]) (fun q=>tup [tBase.va q.1,isI .i64 q.2]):=by
 refine .w func33 ntmps33 fun hf A w=>?_
 unfold f1033
 refine .s<|.box (T:=tBase) z z fun b1=>.box (T:=tChange) z z fun b2=>.alloc tBaseA d0A1026 [] zA1026 z fun b3=>.an z z<|.seq<|.s<|go ?_
 refine .call0 (c1020 fu _) n1020 z z fun q4=>.not z z<|.nil<|.cd z ?_ ?_
 ·exact .s<|.buildA z st1026 zA1026 (.nil) z<|.storeP 0 (Fld.self _) z z z ty1026<|.arrNil tTab<|.arrNil tLink<|.an z z<|.frzBox 2 1 conv1026_0 z z<|.frzBox 2 0 conv1026_1 z z<|fr
 ·refine .skip<|.s<|go ?_
  refine .call0 (c1056 fu _ _) n1056 z z fun q5=>.an z z<|.seq<|.s<|go ?_
  refine .cd z ?_ ?_
  ·refine .s<|go ?_
   refine .callL0 (c1054 fu _) n1054 z z fun q6 p7=>go ?_
   exact .frzBox 2 0 conv1026_0 z z<|.frzBox 2 1 conv1026_1 z z<|fr
  ·refine .skip<|.seq<|.pT fun h1=>.pbind fun q8 h2=>.drawS 12 [10] [11] [] mix (by kernel_rfl) (.j (fun o=>.fp (o z) fa1026_0 z)<|.k (fun p e=>.lp 2 fBase_0 (e.op z) (p.get z z) ty1023 z)<|.j (fun o=>.m (o z) z)<|.k (fun p e h=>.useC h1<|.elemAt (e.op z) (e.op z) u23 ty1039 z<|h)<|.j (fun o=>.fieldAt fTab_1 (o z) fa1039_1 z)<|.j (fun o=>.load (o z) ty27 z)<|.k (fun p e=>.lp 1 (Fld.self _) (e.op z) (p.get z z) ty56 z)<|.k (fun p e h=>.bindE h2 (fun r h=>.call0 (c71 fu _ _) n71 (e.ops z) z h)<|h)<|.j (fun o=>.m (o z) z)<|.j (fun o=>.extract (o z) z z)<|.j (fun o=>.extract (o z) z z)<|.skip<|.nil) z<|.cons (d:=9) z z fun _ _ hE h=>.alloc tTableA d0A27 [] zA27 z fun b9=>.toEnd<|h _ _ (.same<|.same<|.same<|.nil)<|.nil<|.storeW 3 z z z z ty27<|.an z z<|.s<|go ?_
   refine .call0 (c1074 fu _ _ _) n1074 z z fun q10=>.an z z<|.seq<|.block<|.s<|go ?_
   refine .cd z ?_ ?_
   ·refine .s<|go ?_
    refine .callL0 (c1054 fu _) n1054 z z fun q11 p12=>go ?_
    exact .frzBox 2 0 conv1026_0 z z<|.frzBox 2 1 conv1026_1 z z<|fr
   ·refine .seq<|.join1 (fun i13=>⟨[(3,isP b1 0,none),(5,isP b2 0,none),(6,isP b3 0,none),(8,isI .i64 q5,none),(9,isP b9 0,none),(10,isI .i64 q8.2,none),(11,isI .i64 q10,none),(45,isB i13,none)],[boxO b3 tBaseA (⟨(.slice none 0 0),(.slice none 0 0)⟩:BaseA) [],boxO b2 tChange a2 [],boxO b1 tBase a0 [],boxO b9 tTable q8.1 []]⟩) (fun i13=>f1033_j1 fu a0 a2 q5 q8 q10 i13) (fun i13=>?_) (fun hj1=>?_)
    ·refine .cd z ?_ ?_
     ·refine .s<|go ?_
      refine .callL0 (c1054 fu _) n1054 z z fun q14 p15=>go ?_
      exact .frzBox 2 0 conv1026_0 z z<|.frzBox 2 1 conv1026_1 z z<|fr
     ·refine .s<|go ?_
      refine .cd z ?_ ?_
      ·refine .s<|go ?_
       refine .callL0 (c1054 fu _) n1054 z z fun q16 p17=>go ?_
       exact .frzBox 2 0 conv1026_0 z z<|.frzBox 2 1 conv1026_1 z z<|fr
      ·refine .skip<|.inBlock<|.s<|go ?_
       refine .callL0 (c1054 fu _) n1054 z z fun q18 p19=>.alloc tBaseA d0A1026 [] zA1026 z fun b20=>go ?_
       refine .s<|go ?_
       refine .seq<|.seq<|.join1 (fun i21=>⟨[(5,isP b2 0,none),(6,isP b3 0,none),(11,isI .i64 q10,none),(12,isP b20 0,none),(80,isB i21,none)],[boxO b20 tBaseA (⟨p19.1,p19.2⟩:BaseA) [],arrO tTab p19.1 (q18.tabs.set q5.toNat ({ (q18.tabs.getD q5.toNat default) with table:=q8.1 }:Tab)),arrO tLink p19.2 q18.links,boxO b3 tBaseA (⟨(.slice none 0 0),(.slice none 0 0)⟩:BaseA) [],boxO b2 tChange a2 []]⟩) (fun i21=>f1033_j2 a2 q5 q8 q10 q18 i21) (fun i21=>?_) (fun hj2=>?_)
       ·refine .join1 (fun i22=>⟨[(6,isP b3 0,none),(12,isP b20 0,none)],[boxO b20 tBaseA (⟨p19.1,p19.2⟩:BaseA) [],arrO tTab p19.1 i22.tabs,arrO tLink p19.2 i22.links,boxO b3 tBaseA (⟨(.slice none 0 0),(.slice none 0 0)⟩:BaseA) []]⟩) (fun i22=>f1033_j3 i22) (fun i22=>?_) (fun hj3=>?_)
        ·refine .s<|go ?_
         exact .frzBox 3 1 conv1026_0 z z<|.frzBox 3 2 conv1026_1 z z<|fr
        ·refine .cd z ?_ ?_
         ·exact fj (hj3 _)
         ·exact fj (hj3 _)
       ·refine .g<|go ?_
        refine .split 77 z (fun _=>?_) (fun _=>?_)
        ·exact fj (hj2 _)
        ·exact fj (hj2 _)
    ·refine .g<|go ?_
     refine .split 49 z (fun _=>?_) (fun _=>?_)
     ·exact fj (hj1 _)
     ·refine go ?_
      refine .split 54 z (fun _=>?_) (fun _=>?_)
      ·exact fj (hj1 _)
      ·exact fj (hj1 _)
end Go.Proofs.YtdpigighgmipfaaGreatDoor
