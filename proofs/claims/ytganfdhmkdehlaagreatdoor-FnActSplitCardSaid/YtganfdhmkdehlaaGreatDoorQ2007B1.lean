/- What functions answer. -/
import Derived.Test.YtganfdhmkdehlaaGreatDoorQ2007B0
import Derived.KernelRfl
set_option linter.all false
namespace Go.Proofs.YtganfdhmkdehlaaGreatDoor
open Go Go.HL Tryz
attribute [local irreducible] W WO
def gf (fu:Nat)(a0:ac):Nat→Int→ac→Option ac
 | 0,_,_=>none
 | n1+1,i6,i7=>cond (decide (i6 < (a0.tabs.length:Int))) (cond (decide (0≤i6)&&decide (i6 < (a0.tabs.length:Int))) (cond (decide (0≤i6)&&decide (i6 < (a0.tabs.length:Int))) ((f42 fu ((a0.tabs.getD i6.toNat default).table)).bind fun q9=>cond (decide (i7.tabs.length+List.length ([(⟨(a0.tabs.getD i6.toNat default).name,q9⟩:Tab)]:List Tab)≤CAP)) ((gf fu a0 n1) (IntKind.i64.wrap (i6+1)) (⟨i7.tabs++([(⟨(a0.tabs.getD i6.toNat default).name,q9⟩:Tab)]:List Tab),i7.links⟩:ac)) none) none) none) (some i7)
def cY (fu:Nat)(a0:ac):Option ac:=cond (decide (List.length ([]:List aj)+a0.links.length≤CAP)) (gf fu a0 fu 0 (⟨([]:List Tab),([]:List aj)++a0.links⟩:ac)) none
theorem dH:Nm prog 49:=nmK func49
attribute [local semireducible] W WO
theorem dJ (fu:Nat)(a0:ac):aY prog 49 [tBase.va a0] [] (cY fu a0) wD (fun q p=>[arrO tTab p.1 q.tabs,arrO tLink p.2 q.links]) (fun q p=>tBaseA.va (⟨p.1,p.2⟩:aL)):=by
 refine aY.of_W func49 z ntmps49 z fun A w=>?_
 unfold cY
 refine .s<|.box (T:=tBase) z z fun b1=>.alloc tBaseA av [] aA z fun b2=>.nil<|.s<|.lit (T:=tLink) u27 gG z z (.nil) z fun v3=>.toArr 0 5 z z z<|.fp z ci z<|.lp 2 gL z z fx z<|.appA (T:=tLink) 0 z z z u27 gG z fun v4=>.buildA z dL aA (.cons bF z (rOf (T:=tLink) 0 z z)<|.nil) z<|.alloc tBaseA av [] aA z fun b5=>.storeP 0 (Fld.self _) z z z ao<|.arrNil tTab<|.nil<|.seq<|.s<|.an z z<|.block<|.loop<|.keep [1,2,3,4] [] z<|(show ∀ (n1:Nat) (i6:Int) (i7:ac) (v8:Value),W _ _ _ _ _ ⟨[(1,isP b1 0,none),(2,isP b2 0,none),(3,isP b5 0,none),(4,isI .i64 i6,none)],[arrO tTab v8 i7.tabs,boxO b5 tBaseA (⟨v8,v4⟩:aL) [],arrO tLink v4 i7.links,boxO b2 tBaseA (⟨(.slice none 0 0),(.slice none 0 0)⟩:aL) [],boxO b1 tBase a0 []]⟩ (gf fu a0 n1 i6 i7) from ?_) fu _ _ _
 intro n1
 induction n1 with
 | zero=>exact fun _ _ _=>.stop
 | succ n1 ih1=>
  intro i6 i7 v8
  refine .inLoop<|.seq<|.s<|.m z z<|.fp z fa1026_0 z<|.lp 4 fBase_0 z z ty1023 z<|.lenL z u26 z<|.bin z z z z<|.nil<|.cd z ?_ ?_
  ·refine .skip<|.seq<|.block<|.pT fun h4=>?_
   refine .pT fun h5=>?_
   refine .pbind fun q9 h6=>?_
   exact .draw 17 [] mix (by kernel_rfl) (.j (fun o=>.fp (o z) fa1026_0 z)<|.k (fun p e=>.loadR 1 aD (e.op z) (p.get z z) ty1023 z)<|.j (fun o=>.fp (o z) fa1026_0 z)<|.k (fun p e=>.lp 4 fBase_0 (e.op z) (p.get z z) ty1023 z)<|.j (fun o=>.m (o z) z)<|.k (fun p e h=>.useC h4<|.elemAt (e.op z) (e.op z) u26 bf z<|h)<|.j (fun o=>.fieldAt eA (o z) kc z)<|.j (fun o=>.load (o z) ty9 z)<|.j (fun o=>.fp (o z) fa1026_0 z)<|.k (fun p e=>.lp 4 fBase_0 (e.op z) (p.get z z) ty1023 z)<|.j (fun o=>.m (o z) z)<|.k (fun p e h=>.useC h5<|.elemAt (e.op z) (e.op z) u26 bf z<|h)<|.j (fun o=>.fieldAt fTab_1 (o z) aC z)<|.j (fun o=>.load (o z) ty27 z)<|.k (fun p e h=>.bindE h6 (fun r h=>.call0 (xv (c42 fu _)) n42 (e.ops z) z h)<|h)<|.k (fun p e h=>.build z gy z1039 (.cons eA z (e.op z)<|.cons fTab_1 z (e.op z)<|.nil) z<|h)<|.k (fun p e h=>.litN (T:=tTab) u26 dh z z (.cons (e.op z)<|.nil) z<|h)<|.nil) z<|.appA (T:=tTab) 0 z z z u26 dh z fun v10=>.fp z fa1026_0 z<|.toRaw (T:=tTab) 0 34 z z<|.storeP 1 aD z z z ty1023<|.nil<|.inBlock<|.g<|.m z z<|.bin z z z z<|.an z z<|.keep [1,2,3,4] [] z (ih1 _ _ _)
  ·exact .exit z<|.s<|.lp 1 (Fld.self _) z z ao z<|.storeP 3 (Fld.self _) z z z ao<|.nil<|.retL1 (v8,v4) func49 results49 (.cell 3 z z ao) z (fun _ _ _ h=>om h) (.d<|.c<|.d<|.c<|.c<|.e)
attribute [local irreducible] W WO
def iV (fu:Nat)(a0:ac)(a1:List UInt8)(a2:List Col)(q4:ac)(i7:Bool):Option (ac×Int):=cond i7 (some (q4,1)) (cond (decide (3≤(a0.tabs.length:Int))) (some (q4,4)) ((AJ fu a2).bind fun q8=>cond (decide (q4.tabs.length+List.length ([(⟨a1,q8⟩:Tab)]:List Tab)≤CAP)) (some ((⟨q4.tabs++([(⟨a1,q8⟩:Tab)]:List Tab),q4.links⟩:ac),0)) none))
def mf (fu:Nat)(a0:ac)(a1:List UInt8)(a2:List Col):Option (ac×Int):=(jz fu a0).bind fun q3=>cond (!q3) (some ((⟨([]:List Tab),([]:List aj)⟩:ac),1)) ((cY fu a0).bind fun q4=>(pi fu a1).bind fun q10=>cond (!q10) (iV fu a0 a1 a2 q4 true) ((f86 fu a2).bind fun q11=>cond (!q11) (iV fu a0 a1 a2 q4 true) ((f1062 fu a0 a1).bind fun q12=>iV fu a0 a1 a2 q4 (decide (0≤q12)))))
theorem uy:Nm prog 121:=nmK func121
theorem wB (fu:Nat)(a0:ac)(a1:List UInt8)(a2:List Col):Ctr prog 121 [tBase.va a0,isS a1,(tL tCol).va a2] [] (mf fu a0 a1 a2) (fun _ _=>[]) (fun q=>tup [tBase.va q.1,isI .i64 q.2]):=by
 refine .w func121 ntmps121 fun hf A w=>?_
 unfold mf
 refine .s<|.box (T:=tBase) z z fun b1=>.alloc tBaseA av [] aA z fun b2=>.an z z<|.seq<|.s<|go ?_
 refine .call0 (ol fu _) nn z z fun q3=>.not z z<|.nil<|.cd z ?_ ?_
 ·exact .s<|.buildA z dL aA (.nil) z<|.storeP 0 (Fld.self _) z z z ao<|.arrNil tTab<|.arrNil tLink<|.an z z<|.frzBox 2 1 conv1026_0 z z<|.frzBox 2 0 conv1026_1 z z<|fr
 ·refine .skip<|.s<|go ?_
  refine .callL0 (dJ fu _) dH z z fun q4 p5=>.alloc tBaseA av [] aA z fun b6=>go ?_
  refine .seq<|.block<|.seq<|.join1 (fun i7=>⟨[(1,isS a1,none),(2,(tL tCol).va a2,none),(3,isP b1 0,none),(6,isP b2 0,none),(8,isP b6 0,none),(15,isB i7,none)],[boxO b6 tBaseA (⟨p5.1,p5.2⟩:aL) [],arrO tTab p5.1 q4.tabs,arrO tLink p5.2 q4.links,boxO b2 tBaseA (⟨(.slice none 0 0),(.slice none 0 0)⟩:aL) [],boxO b1 tBase a0 []]⟩) (fun i7=>iV fu a0 a1 a2 q4 i7) (fun i7=>?_) (fun hj1=>?_)
  ·refine .cd z ?_ ?_
   ·refine .s<|go ?_
    exact .frzBox 3 1 conv1026_0 z z<|.frzBox 3 2 conv1026_1 z z<|fr
   ·refine .s<|go ?_
    refine .cd z ?_ ?_
    ·refine .s<|go ?_
     exact .frzBox 3 1 conv1026_0 z z<|.frzBox 3 2 conv1026_1 z z<|fr
    ·refine .skip<|.inBlock<|.seq<|.pb (la (Di fu _)) Ca fun q8 h1 k=>.draw 7 [] mix (by kernel_rfl) sts z<|.appA (T:=tTab) 1 z z z u26 dh z fun v9=>.fp z fa1026_0 z<|.toRaw (T:=tTab) 1 44 z z<|go ?_
     refine .s<|go ?_
     exact .frzBox 3 1 conv1026_0 z z<|.frzBox 3 2 conv1026_1 z z<|fr
  ·refine .g<|.m z z<|.call0 (tU fu _) tT z z fun q10=>go ?_
   refine .split 19 z (fun _=>?_) (fun _=>?_)
   ·exact fj (hj1 _)
   ·refine go ?_
    refine .call0 (c86 fu _) n86 z z fun q11=>go ?_
    refine .split 24 z (fun _=>?_) (fun _=>?_)
    ·exact fj (hj1 _)
    ·refine go ?_
     exact .call0 (gu fu _ _) eM z z fun q12=>fj (hj1 _)
def kM (fu:Nat)(a0:ac)(a1:aj)(q5:ac)(i9:Bool):Option (ac×Int):=cond i9 ((cY fu a0).bind fun q10=>some (q10,1)) ((qU fu a0 a1).bind fun q12=>cond (!q12) ((cY fu a0).bind fun q13=>some (q13,7)) (cond (decide (4≤(a0.links.length:Int))) ((cY fu a0).bind fun q15=>some (q15,4)) (some ((⟨q5.tabs,q5.links++([a1]:List aj)⟩:ac),0))))
def pp (fu:Nat)(a0:ac)(a1:aj):Option (ac×Int):=(jz fu a0).bind fun q4=>cond (!q4) (some ((⟨([]:List Tab),([]:List aj)⟩:ac),1)) ((cY fu a0).bind fun q5=>cond (decide (q5.links.length+List.length ([a1]:List aj)≤CAP)) ((tx fu a0 a1).bind fun q17=>cond (!q17) (kM fu a0 a1 q5 true) ((qV fu (⟨q5.tabs,q5.links++([a1]:List aj)⟩:ac) (IntKind.i64.wrap ((List.length ((⟨q5.tabs,q5.links++([a1]:List aj)⟩:ac).links):Int)-1))).bind fun q18=>kM fu a0 a1 q5 (!q18))) none)
theorem xD:Nm prog 122:=nmK func122
theorem y4 (fu:Nat)(a0:ac)(a1:aj):Ctr prog 122 [tBase.va a0,tLink.va a1] [] (pp fu a0 a1) (fun _ _=>[]) (fun q=>tup [tBase.va q.1,isI .i64 q.2]):=by
 refine .w func122 ntmps122 fun hf A w=>?_
 unfold pp
 refine .s<|.box (T:=tBase) z z fun b1=>.box (T:=tLink) z z fun b2=>.alloc tBaseA av [] aA z fun b3=>.an z z<|.seq<|.s<|go ?_
 refine .call0 (ol fu _) nn z z fun q4=>.not z z<|.nil<|.cd z ?_ ?_
 ·exact .s<|.buildA z dL aA (.nil) z<|.storeP 0 (Fld.self _) z z z ao<|.arrNil tTab<|.arrNil tLink<|.an z z<|.frzBox 2 1 conv1026_0 z z<|.frzBox 2 0 conv1026_1 z z<|fr
 ·refine .skip<|.s<|go ?_
  refine .callL0 (dJ fu _) dH z z fun q5 p6=>.alloc tBaseA av [] aA z fun b7=>go ?_
  refine .s<|go ?_
  refine .appA (T:=tLink) 2 z z z u27 gG z fun v8=>.fp z ci z<|.toRaw (T:=tLink) 2 17 z z<|go ?_
  refine .seq<|.block<|.seq<|.frzBox 0 1 conv1026_0 z z<|.frzBox 0 2 conv1026_1 z z<|.join1 (fun i9=>⟨[(2,isP b1 0,none),(3,isP b2 0,none),(4,isP b3 0,none),(6,isP b7 0,none),(19,isB i9,none)],[boxO b7 tBase (⟨q5.tabs,q5.links++([a1]:List aj)⟩:ac) [],boxO b3 tBaseA (⟨(.slice none 0 0),(.slice none 0 0)⟩:aL) [],boxO b2 tLink a1 [],boxO b1 tBase a0 []]⟩) (fun i9=>kM fu a0 a1 q5 i9) (fun i9=>?_) (fun hj1=>?_)
  ·refine .cd z ?_ ?_
   ·refine .s<|go ?_
    refine .callL0 (dJ fu _) dH z z fun q10 p11=>go ?_
    exact .frzBox 3 0 conv1026_0 z z<|.frzBox 3 1 conv1026_1 z z<|fr
   ·refine .s<|go ?_
    refine .call0 (Bd fu _ _) Aj z z fun q12=>go ?_
    refine .cd z ?_ ?_
    ·refine .s<|go ?_
     refine .callL0 (dJ fu _) dH z z fun q13 p14=>go ?_
     exact .frzBox 3 0 conv1026_0 z z<|.frzBox 3 1 conv1026_1 z z<|fr
    ·refine .s<|go ?_
     refine .cd z ?_ ?_
     ·refine .s<|go ?_
      refine .callL0 (dJ fu _) dH z z fun q15 p16=>go ?_
      exact .frzBox 3 0 conv1026_0 z z<|.frzBox 3 1 conv1026_1 z z<|fr
     ·refine .skip<|.inBlock<|.s<|go ?_
      exact .storeW 1 z z z z ao<|fr
  ·refine .g<|go ?_
   refine .call0 (Dr fu _ _) Ch z z fun q17=>go ?_
   refine .split 24 z (fun _=>?_) (fun _=>?_)
   ·exact fj (hj1 _)
   ·refine go ?_
    exact .call0 (Dq fu _ _) Cg z z fun q18=>fj (hj1 _)
def kC (i15:aj)(i16:Rd):Option (aj×Rd):=some (i15,i16)
def iO (fu:Nat)(i12:aj)(i13:Rd):Option (aj×Rd):=(f74 fu i13 30).bind fun q14=>cond (decide (q14.1=0)) ((f73 fu q14.2 ([0,4,-1]:List Int)).bind fun q17=>kC ({ i12 with how:=q17.1 }:aj) q17.2) (kC i12 q14.2)
def iP (fu:Nat)(a1:ac)(q3:(List UInt8)×Rd)(q5:(List UInt8)×Rd)(q6:(List UInt8)×Rd)(q7:Int×Rd)(q9:Int)(i10:Bool)(i11:Rd):Option (aj×Rd):=cond i10 (cond (decide (0≤q9)&&decide (q9 < (a1.tabs.length:Int))) ((f53 fu ((a1.tabs.getD q9.toNat default).table)).bind fun q18=>(f74 fu i11 (q18.length:Int)).bind fun q19=>cond (decide (0≤q19.1)&&decide (q19.1 < (q18.length:Int))) (iO fu ({ (⟨q3.1,q5.1,q6.1,IntKind.i64.wrap (1+q7.1)⟩:aj) with col:=(q18.getD q19.1.toNat default).name }:aj) q19.2) none) none) (iO fu (⟨q3.1,q5.1,q6.1,IntKind.i64.wrap (1+q7.1)⟩:aj) i11)
def qR (fu:Nat)(a0:Rd)(a1:ac):Option (aj×Rd):=(f96 fu a0 ([([116]:List UInt8),([117]:List UInt8),([118]:List UInt8)]:List (List UInt8))).bind fun q3=>(vY).bind fun q4=>(f96 fu q3.2 q4).bind fun q5=>(f96 fu q5.2 ([([116]:List UInt8),([117]:List UInt8),([118]:List UInt8)]:List (List UInt8))).bind fun q6=>(f74 fu q6.2 3).bind fun q7=>(f1062 fu a1 ((⟨q3.1,q5.1,q6.1,IntKind.i64.wrap (1+q7.1)⟩:aj).from_)).bind fun q9=>cond (decide (0≤q9)) ((f74 fu q7.2 8).bind fun q20=>iP fu a1 q3 q5 q6 q7 q9 (decide (0<q20.1)) q20.2) (iP fu a1 q3 q5 q6 q7 q9 false q7.2)
theorem Ag:Nm prog 93:=nmK func93
theorem Ba (fu:Nat)(bp0:Nat)(a0:Rd)(a1:ac):Ctr prog 93 [isP bp0 0,tBase.va a1] [boxO bp0 tRd a0 []] (qR fu a0 a1) (fun q _=>[boxO bp0 tRd q.2 []]) (fun q=>tLink.va q.1):=by
 refine .w func93 ntmps93 fun hf A w=>?_
 unfold qR
 refine .s<|.box (T:=tBase) z z fun b1=>.alloc tLink d0_1044 [] z1044 z fun b2=>.nil<|.s<|go ?_
 refine .s<|go ?_
 refine .call1 2 (c96 fu _ _ _) z n96 z z fun q3=>.m z z<|.call0 (c106) n106 z z fun q4=>.call1 2 (c96 fu _ _ _) z n96 z z fun q5=>go ?_
 refine .call1 2 (c96 fu _ _ _) z n96 z z fun q6=>.m z z<|.call1 2 (c74 fu _ _ _) z n74 z z fun q7=>go ?_
 refine .alloc tLink d0_1044 [] z1044 z fun b8=>go ?_
 refine .s<|go ?_
 refine .call0 (gu fu _ _) eM z z fun q9=>.an z z<|.seq<|.seq<|.join2 (fun i10 i11=>⟨[(0,isP bp0 0,none),(3,isP b1 0,none),(4,isP b2 0,none),(6,isP b8 0,none),(7,isI .i64 q9,none),(33,isB i10,none)],[boxO b8 tLink (⟨q3.1,q5.1,q6.1,IntKind.i64.wrap (1+q7.1)⟩:aj) [],boxO b2 tLink d0_1044 [],boxO b1 tBase a1 [],boxO bp0 tRd i11 []]⟩) (fun i10 i11=>iP fu a1 q3 q5 q6 q7 q9 i10 i11) (fun i10 i11=>?_) (fun hj1=>?_)
 ·refine .join2 (fun i12 i13=>⟨[(0,isP bp0 0,none),(4,isP b2 0,none),(6,isP b8 0,none)],[boxO b8 tLink i12 [],boxO b2 tLink d0_1044 [],boxO bp0 tRd i13 []]⟩) (fun i12 i13=>iO fu i12 i13) (fun i12 i13=>?_) (fun hj2=>?_)
  ·refine .seq<|.s<|.m z z<|.call1 2 (c74 fu _ _ _) z n74 z z fun q14=>go ?_
   refine .join2 (fun i15 i16=>⟨[(4,isP b2 0,none),(6,isP b8 0,none)],[boxO b8 tLink i15 [],boxO b2 tLink d0_1044 [],boxO bp0 tRd i16 []]⟩) (fun i15 i16=>kC i15 i16) (fun i15 i16=>?_) (fun hj3=>?_)
   ·exact fr
   ·refine .cd z ?_ ?_
    ·refine .g<|go ?_
     exact .call1 2 (c73 fu _ _ _) z n73 z z fun q17=>fj (hj3 _ _)
    ·exact fj (hj3 _ _)
  ·refine .cd z ?_ ?_
   ·refine .s<|go ?_
    refine .call0 (c53 fu _) n53 z z fun q18=>.an z z<|.g<|go ?_
    exact .call1 3 (c74 fu _ _ _) z n74 z z fun q19=>fj (hj2 _ _)
   ·exact fj (hj2 _ _)
 ·refine .g<|go ?_
  refine .split 29 z (fun _=>?_) (fun _=>?_)
  ·refine go ?_
   exact .call1 3 (c74 fu _ _ _) z n74 z z fun q20=>fj (hj1 _ _)
  ·exact fj (hj1 _ _)
def kr (i3:Bool):Option Bool:=some i3
def vN (fu:Nat)(a0:ac)(a1:List UInt8)(a2:Int):Option Bool:=(f1062 fu a0 a1).bind fun q2=>cond (decide (0≤q2)) (cond (decide (0≤q2)&&decide (q2 < (a0.tabs.length:Int))) ((f82 fu ((a0.tabs.getD q2.toNat default).table) a2).bind fun q4=>kr (decide (0≤q4))) none) (kr false)
theorem EB:Nm prog 203:=nmK func203
theorem FX (fu:Nat)(a0:ac)(a1:List UInt8)(a2:Int):Ctr prog 203 [tBase.va a0,isS a1,isI .i64 a2] [] (vN fu a0 a1 a2) (fun _ _=>[]) (fun q=>isB q):=by
 refine .w func203 ntmps203 fun hf A w=>?_
 unfold vN
 refine .s<|.box (T:=tBase) z z fun b1=>.an z z<|.s<|go ?_
 refine .call0 (gu fu _ _) eM z z fun q2=>.an z z<|.seq<|.join1 (fun i3=>⟨[(6,isB i3,none)],[]⟩) (fun i3=>kr i3) (fun i3=>?_) (fun hj1=>?_)
 ·exact fr
 ·refine .g<|go ?_
  refine .split 13 z (fun _=>?_) (fun _=>?_)
  ·refine go ?_
   exact .call0 (c82 fu _ _) n82 z z fun q4=>fj (hj1 _)
  ·exact fj (hj1 _)
def ko (i1:Int)(rec1:Int→Option Bool)(i2:Bool):Option Bool:=cond i2 (some true) (rec1 (IntKind.i64.wrap (i1+1)))
def cJ (a0:List Ref)(a1:List UInt8)(a2:Int):Nat→Int→Option Bool
 | 0,_=>none
 | n1+1,i1=>cond (decide (i1 < (a0.length:Int))) (cond (decide (0≤i1)&&decide (i1 < (a0.length:Int))) (cond (decide (((a0.getD i1.toNat default).name)=a1)) (cond (decide (0≤i1)&&decide (i1 < (a0.length:Int))) (ko i1 (cJ a0 a1 a2 n1) (decide (((a0.getD i1.toNat default).id)=a2))) none) (ko i1 (cJ a0 a1 a2 n1) false)) none) (some false)
def mc (fu:Nat)(a0:List Ref)(a1:List UInt8)(a2:Int):Option Bool:=cJ a0 a1 a2 fu 0
theorem s5:Nm prog 220:=nmK func220
theorem tG (fu:Nat)(a0:List Ref)(a1:List UInt8)(a2:Int):Ctr prog 220 [(tL tRef).va a0,isS a1,isI .i64 a2] [] (mc fu a0 a1 a2) (fun _ _=>[]) (fun q=>isB q):=by
 refine .w func220 ntmps220 fun hf A w=>?_
 unfold mc
 refine .s<|.an z z<|.seq<|.s<|.an z z<|.block<|.loop<|.keep [0,1,2,7] [] z<|(show ∀ (n1:Nat) (i1:Int),W _ _ _ _ _ ⟨[(0,(tL tRef).va a0,none),(1,isS a1,none),(2,isI .i64 a2,none),(7,isI .i64 i1,none)],[]⟩ (cJ a0 a1 a2 n1 i1) from ?_) fu _
 intro n1
 induction n1 with
 | zero=>exact fun _=>.stop
 | succ n1 ih1=>
  intro i1
  refine .inLoop<|.seq<|.s<|go ?_
  refine .cd z ?_ ?_
  ·refine .skip<|.seq<|.block<|.seq<|.join1 (fun i2=>⟨[(0,(tL tRef).va a0,none),(1,isS a1,none),(2,isI .i64 a2,none),(7,isI .i64 i1,none),(29,isB i2,none)],[]⟩) (fun i2=>ko i1 (cJ a0 a1 a2 n1) i2) (fun i2=>?_) (fun hj2=>?_)
   ·refine .cd z ?_ ?_
    ·exact fr
    ·exact fj (ih1 _)
   ·refine .g<|go ?_
    refine .split 21 z (fun _=>?_) (fun _=>?_)
    ·exact fj (hj2 _)
    ·exact fj (hj2 _)
  ·exact fr
def iD (i6:Bool):Option Bool:=some i6
def pj (fu:Nat)(a0:ac)(a1:aj)(a2:Int)(a3:List Ref):Option Bool:=(f1062 fu a0 a1.from_).bind fun q3=>cond (decide (0≤q3)&&decide (q3 < (a0.tabs.length:Int))) ((qI fu ((a0.tabs.getD q3.toNat default).table) a2 a1.col).bind fun q4=>cond (!decide (q4.kind=0)) ((mc fu a3 a1.to q4.n).bind fun q7=>iD q7) (iD false)) none
theorem Ab:Nm prog 222:=nmK func222
theorem Dk (fu:Nat)(a0:ac)(a1:aj)(a2:Int)(a3:List Ref):Ctr prog 222 [tBase.va a0,tLink.va a1,isI .i64 a2,(tL tRef).va a3] [] (pj fu a0 a1 a2 a3) (fun _ _=>[]) (fun q=>isB q):=by
 refine .w func222 ntmps222 fun hf A w=>?_
 unfold pj
 refine .s<|.box (T:=tBase) z z fun b1=>.box (T:=tLink) z z fun b2=>.an z z<|.seq<|.pb (gu fu _ _) eM fun q3 h1 k=>.pT fun h2=>.pb (c1130 fu _ _ _) n1130 fun q4 h3 k=>.drawS 14 [] [13] [] mix (by kernel_rfl) sts z<|.cons (d:=9) z z fun _ _ hE h=>.alloc tVal d0_47 [] z47 z fun b5=>.toEnd<|h _ _ (.same<|.same<|.nil)<|go ?_
 refine .seq<|.join1 (fun i6=>⟨[(8,isB i6,none)],[]⟩) (fun i6=>iD i6) (fun i6=>?_) (fun hj1=>?_)
 ·exact fr
 ·refine .g<|go ?_
  refine .split 26 z (fun _=>?_) (fun _=>?_)
  ·refine go ?_
   exact .call0 (tG fu _ _ _) s5 z z fun q7=>fj (hj1 _)
  ·exact fj (hj1 _)
def iC (i6:Bool):Option Bool:=some i6
def jQ (fu:Nat)(a0:ac)(a1:aj)(a2:Int)(a3:List Ref):Option Bool:=(f1062o fu a0 a1.from_).bind fun q3=>cond (decide (0≤q3)&&decide (q3 < (a0.tabs.length:Int))) ((qI fu ((a0.tabs.getD q3.toNat default).table) a2 a1.col).bind fun q4=>cond (!decide (q4.kind=0)) ((mc fu a3 a1.to q4.n).bind fun q7=>iC q7) (iC false)) none
theorem Dj (fu:Nat)(vp0:Value)(cp0:Value)(a0:ac)(a1:aj)(a2:Int)(a3:List Ref):Ctr prog 222 [tBaseA.va (⟨vp0,cp0⟩:aL),tLink.va a1,isI .i64 a2,(tL tRef).va a3] [arrO tTab vp0 a0.tabs] (jQ fu a0 a1 a2 a3) (fun _ _=>[arrO tTab vp0 a0.tabs]) (fun q=>isB q):=by
 refine .w func222 ntmps222 fun hf A w=>?_
 unfold jQ
 refine .s<|.box (T:=tBaseA) z z fun b1=>.box (T:=tLink) z z fun b2=>.an z z<|.seq<|.pbind fun q3 h1=>.pT fun h2=>.pbind fun q4 h3=>.drawS 14 [] [13] [] mix (by kernel_rfl) (.j (fun o=>.fp (o z) fa1026_0 z)<|.k (fun p e=>.loadR 1 aD (e.op z) (p.get z z) ty1023 z)<|.k (fun p e=>.lp 1 (Fld.self _) (e.op z) (p.get z z) ao z)<|.j (fun o=>.fp (o z) nA z)<|.k (fun p e=>.lp 0 lA (e.op z) (p.get z z) ty9 z)<|.k (fun p e h=>.bindE h1 (fun r h=>.callR 2 (wA fu _ _ _ _) (p.get z z) eM (e.ops z) z h)<|h)<|.k (fun p e h=>.useC h2<|.elemA 2 (e.op z) (e.op z) (p.get z z) u26 bf z<|h)<|.j (fun o=>.fieldA (o z) aC z)<|.k (fun p e=>.loadA 2 fTab_1 (e.op z) (p.get z z) ty27 z)<|.j (fun o=>.m (o z) z)<|.j (fun o=>.fp (o z) kb z)<|.k (fun p e=>.lp 0 jt (e.op z) (p.get z z) ty9 z)<|.k (fun p e h=>.bindE h3 (fun r h=>.call0 (c1130 fu _ _ _) n1130 (e.ops z) z h)<|h)<|.skip<|.nil) z<|.cons (d:=9) z z fun _ _ hE h=>.alloc tVal d0_47 [] z47 z fun b5=>.toEnd<|h _ _ (.same<|.same<|.same<|.nil)<|go ?_
 refine .seq<|.join1 (fun i6=>⟨[(8,isB i6,none)],[arrO tTab vp0 a0.tabs]⟩) (fun i6=>iC i6) (fun i6=>?_) (fun hj1=>?_)
 ·exact fr
 ·refine .g<|go ?_
  refine .split 26 z (fun _=>?_) (fun _=>?_)
  ·refine go ?_
   exact .call0 (tG fu _ _ _) s5 z z fun q7=>fj (hj1 _)
  ·exact fj (hj1 _)
def iE (i2:Int)(rec1:Int→Option Bool)(i4:Bool):Option Bool:=cond i4 (some true) (rec1 (IntKind.i64.wrap (i2+1)))
def cn (fu:Nat)(a0:ac)(a1:List UInt8)(a2:Int)(a3:List Ref):Nat→Int→Option Bool
 | 0,_=>none
 | n1+1,i2=>cond (decide (i2 < (a0.links.length:Int))) (cond (decide (0≤i2)&&decide (i2 < (a0.links.length:Int))) (cond (decide (((a0.links.getD i2.toNat default).from_)=a1)) (cond (decide (((a0.links.getD i2.toNat default).how)=2)) ((pj fu a0 (a0.links.getD i2.toNat default) a2 a3).bind fun q5=>iE i2 (cn fu a0 a1 a2 a3 n1) q5) (iE i2 (cn fu a0 a1 a2 a3 n1) false)) (iE i2 (cn fu a0 a1 a2 a3 n1) false)) none) (some false)
def tm (fu:Nat)(a0:ac)(a1:List UInt8)(a2:Int)(a3:List Ref):Option Bool:=cn fu a0 a1 a2 a3 fu 0
theorem Ew:Nm prog 221:=nmK func221
theorem FS (fu:Nat)(a0:ac)(a1:List UInt8)(a2:Int)(a3:List Ref):Ctr prog 221 [tBase.va a0,isS a1,isI .i64 a2,(tL tRef).va a3] [] (tm fu a0 a1 a2 a3) (fun _ _=>[]) (fun q=>isB q):=by
 refine .w func221 ntmps221 fun hf A w=>?_
 unfold tm
 refine .s<|.box (T:=tBase) z z fun b1=>.an z z<|.seq<|.s<|.an z z<|.block<|.loop<|.keep [1,2,3,4,9] [] z<|(show ∀ (n1:Nat) (i2:Int),W _ _ _ _ _ ⟨[(1,isS a1,none),(2,isI .i64 a2,none),(3,(tL tRef).va a3,none),(4,isP b1 0,none),(9,isI .i64 i2,none)],[boxO b1 tBase a0 []]⟩ (cn fu a0 a1 a2 a3 n1 i2) from ?_) fu _
 intro n1
 induction n1 with
 | zero=>exact fun _=>.stop
 | succ n1 ih1=>
  intro i2
  refine .inLoop<|.seq<|.s<|go ?_
  refine .cd z ?_ ?_
  ·refine .skip<|.seq<|.block<|.s<|go ?_
   refine .alloc tLink d0_1044 [] z1044 z fun b3=>go ?_
   refine .seq<|.join1 (fun i4=>⟨[(1,isS a1,none),(2,isI .i64 a2,none),(3,(tL tRef).va a3,none),(4,isP b1 0,none),(9,isI .i64 i2,none),(38,isB i4,none)],[boxO b1 tBase a0 []]⟩) (fun i4=>iE i2 (cn fu a0 a1 a2 a3 n1) i4) (fun i4=>?_) (fun hj2=>?_)
   ·refine .cd z ?_ ?_
    ·exact fr
    ·exact fj (ih1 _)
   ·refine .g<|go ?_
    refine .split 27 z (fun _=>?_) (fun _=>?_)
    ·refine go ?_
     refine .split 32 z (fun _=>?_) (fun _=>?_)
     ·refine go ?_
      exact .call0 (Dk fu _ _ _ _) Ab z z fun q5=>fj (hj2 _)
     ·exact fj (hj2 _)
    ·exact fj (hj2 _)
  ·exact fr
end Go.Proofs.YtganfdhmkdehlaaGreatDoor
