/- A row taken away with those that go with it: the functions of the program, and that the machine answers so. -/
import Derived.Test.YtdpigighgmipfaaGreatDoorQ1005B8
import Derived.Test.YtdpigighgmipfaaGreatDoorQ1005AU
import Derived.KernelRfl
import Derived.Test.YtdpigighgmipfaaGreatDoorQ1005AV
import Derived.KernelRfl
set_option linter.all false
namespace Go.Proofs.YtdpigighgmipfaaGreatDoor
open Go Go.HL Tryz
attribute [local irreducible] W WO
theorem ty1115:TyAt prog 115 1 false:=⟨by kernel_rfl,by kernel_rfl⟩
instance jt1115:TyI prog 115 1 false:=⟨ty1115⟩
instance jt1115b:FldC prog tRaw 0 115 tRaw (fun d=>d) (fun _ x=>x):=⟨Fld.self _,ty1115⟩
theorem eqn1055 (n:Nat)(a b:Ref)(c1 c2:List Value)(A:Ar)(w:World)(h:tRef.rel a c1 A w)(g:tRef.rel b c2 A w):(Op.equalIn (n+2) 55 (.agg c1.toArray) (.agg c2.toArray)).run prog w=.ok (decide (a=b)) w:=by
 have stood:prog.stoodInHeld 55=false:=by kernel_rfl
 obtain ⟨_,_,rfl,h3,h0⟩:=h
 cases h3
 cases h0
 obtain ⟨_,_,rfl,g3,g0⟩:=g
 cases g3
 cases g0
 rw [Op.equalIn]
 simp [run_underlying u55,stood,part,eqn3,eqn9,isA3,isA9]
 have e:decide (a=b)=(decide (a.name=b.name)&&decide (a.id=b.id)):=by cases a;cases b;simp
 rw [e]
 by_cases e0:a.name=b.name<;>by_cases e1:a.id=b.id<;>simp [e0,e1]
theorem eq1055:HL.EqAt prog 55 tRef:=⟨by kernel_rfl,rfl,fun a b c1 c2 A w h g=>eqn1055 9998 a b c1 c2 A w h g⟩
def mk1055 (k:Ref):Value:=.agg #[str k.name,.int .i64 k.id]
theorem key1055:KeyAt prog 55 tRef mk1055 where
 val h:=by
  obtain ⟨cs,rfl,h⟩:=h
  obtain ⟨_,_,rfl,h3,h2⟩:=h
  cases h3;cases h2;rfl
 chk e k w:=by
  have h3:∀ a:Int,(Instr.checkKey e (9998+1) 3 (.int .i64 a)).run prog w=.ok () w:=fun a=>MapKept.run_checkKey (w:=w) u3 (by simp [MapKept.IsKey]) e 9998
  have h9:∀ a:ByteArray,(Instr.checkKey e (9998+1) 9 (.string a)).run prog w=.ok () w:=fun a=>MapKept.run_checkKey (w:=w) u9 (by simp [MapKept.IsKey]) e 9998
  show (Instr.checkKey e (9998+1+1) 55 (mk1055 k)).run prog w=_
  rw [Instr.checkKey]
  simp [run_underlying u55,mk1055,str,part,isA3,h3,isA9,h9]
 eq a b w:=eq1055.h a b [str a.name,.int .i64 a.id] [str b.name,.int .i64 b.id] (fun _ _=>True) w ⟨[_],[_],rfl,rfl,rfl⟩ ⟨[_],[_],rfl,rfl,rfl⟩
 bits k:=by simp [Instr.sameBits,mk1055,str,beqSelf]
 now:=⟨_,u55,.inr fun a b=>by simp [Instr.sameNow,mk1055]⟩
def addK (q:Ref)(ks:List Ref):List Ref:=cond (memK q ks) ks (ks++[q])
def f1143_j1 (a0:Int)(l:Link)(ks:List Ref)(i1:Bool):Option (List Ref):=cond i1 (some (addK (⟨l.from_,a0⟩:Ref) ks)) (some ks)
def f1143 (a0 a1:Int)(l:Link)(ks:List Ref):Option (List Ref):=cond (decide (l.how=2)) (f1143_j1 a0 l ks (memK (⟨l.to,a1⟩:Ref) ks)) (f1143_j1 a0 l ks false)
theorem n1143:Nm prog 143:=⟨_,_,func143,by kernel_rfl,rfl⟩
theorem c1143 (a0 a1:Int)(l:Link)(vm:Value)(ks:List Ref):Ctr prog 143 [isI .i64 a0,isI .i64 a1,isAt tLink l,isAt tRaw vm] [mapO mk1055 vm ks] (f1143 a0 a1 l ks) (fun q _=>[mapO mk1055 vm q]) (fun _=>anyV):=by
 refine .w func143 ntmps143 fun hf A w=>?_
 unfold f1143
 refine .seq<|.join1 (fun i1=>⟨[(0,isI .i64 a0,none),(2,isAt tLink l,none),(3,isAt tRaw vm,none),(16,isB i1,none)],[mapO mk1055 vm ks]⟩) (fun i1=>f1143_j1 a0 l ks i1) (fun i1=>?_) (fun hj1=>?_)
 ·refine .cd z ?_ ?_
  ·refine .g<|go ?_
   exact .unRaw 17 z<|.mapAdd (T:=tRef) 0 z z z u115 key1055<|.nil<|.end0 hf z (fun _=>sbL)
  ·exact .skip<|.end0 hf z (fun _=>sbL)
 ·refine .g<|go ?_
  refine .split 9 z (fun _=>?_) (fun _=>?_)
  ·refine go ?_
   refine .unRaw 10 z<|.lookup (T:=tRef) 0 z z z u115 key1055 (by kernel_rfl) z<|fj (hj1 _)
  ·exact fj (hj1 _)
theorem c1086l (fu:Nat)(a0:Base)(a1:Link){σ2:Type}(a2:Int→Int→σ2→Option σ2)(O2:σ2→List Own)(g2:Nat)(k2:List VA)(hn2:Nm prog g2)(hc2:∀ (x0:Int) (x1:Int) (s:σ2),Ctr prog g2 ([isI .i64 x0,isI .i64 x1]++k2) (O2 s) (a2 x0 x1 s) (fun q _=>O2 q) (fun _=>anyV))(s2:σ2):Ctr prog 86 [tBase.va a0,tLink.va a1,isClo g2 k2] (O2 s2) (f1086 fu a0 a1 a2 s2) (fun q _=>O2 q) (fun q=>anyV):=by
 refine .w func86 ntmps86 fun hf A w=>?_
 unfold f1086
 refine .s<|.box (T:=tBase) z z fun b1=>.box (T:=tLink) z z fun b2=>.nil<|.seq<|.pb (c1056 fu _ _) n1056 fun q3 h1 kk=>.pT fun h2=>?_
 refine .drawS 10 [] [9] [] mix (by kernel_rfl) sts z<|.cons (d:=6) z z fun _ _ hE h=>.alloc tTable d0_27 [] z27 z fun b4=>.toEnd<|h _ _ (.same<|.same<|PreB.app)<|.nil<|.front (B:=_::_::_)<|go ?_
 refine .seq<|.pb (c66 fu _) n66 fun q5 h3 kk2=>.draw 4 [] mix (by kernel_rfl) sts z<|.call0 (c68 fu _ _) n68 z z fun q6=>go ?_
 refine .s<|go ?_
 refine .block<|.loop<|.drop (.d<|.c<|.c<|.refl _)<|.keep [2,6,7,26,27,28] [] z<|(show ∀ (n1:Nat) (i7:Int) (i8:σ2),W _ _ _ _ _ ⟨[(2,isClo g2 k2,none),(6,isP b4 0,none),(7,isI .i64 q6,none),(26,(tL tRow).va (((a0.tabs.getD q3.toNat default).table).rows),none),(27,isI .i64 (List.length (((a0.tabs.getD q3.toNat default).table).rows):Int),none),(28,isI .i64 i7,none)],boxO b4 tTable ((a0.tabs.getD q3.toNat default).table) []::O2 i8⟩ (f1086_l1 fu a0 a2 q3 q6 n1 i7 i8) from ?_) fu _ _
 intro n1
 induction n1 with
 | zero=>exact fun _ _=>.stop
 | succ n1 ih1=>
  intro i7 i8
  refine .inLoop<|.s<|go ?_
  refine .seq<|.cd z ?_ ?_
  ·refine .skip<|.seq<|.block<|.s<|go ?_
   refine .alloc tRow d0_37 [] z37 z fun b9=>go ?_
   refine .s<|go ?_
   refine .call0 (CtrL.plain (c49 fu _ _)) n49 z z fun q10=>go ?_
   refine .alloc tVal d0_47 [] z47 z fun b11=>go ?_
   refine .s<|go ?_
   refine .join1 (fun i12=>⟨[(2,isClo g2 k2,none),(6,isP b4 0,none),(7,isI .i64 q6,none),(26,(tL tRow).va (((a0.tabs.getD q3.toNat default).table).rows),none),(27,isI .i64 (List.length (((a0.tabs.getD q3.toNat default).table).rows):Int),none),(28,isI .i64 i7,none)],boxO b4 tTable ((a0.tabs.getD q3.toNat default).table) []::O2 i12⟩) (fun i12=>f1086_j2 i7 (f1086_l1 fu a0 a2 q3 q6 n1) i12) (fun i12=>?_) (fun hj2=>?_)
   ·exact fj (ih1 _ _)
   ·refine .cd z ?_ ?_
    ·refine .g<|go ?_
     exact .callCT [_,_,_] z (hc2 _ _ _) hn2 z z fun q13=>fj (hj2 _)
    ·exact fj (hj2 _)
  ·exact .exit z<|.end0 hf z (fun _=>sbL)
def f1085_l2 (fu:Nat)(a0:Base)(n0:Int)(rec1:Int→List Ref→Option (List Ref)):Nat→Int→List Ref→Option (List Ref)
 | 0,_,_=>none
 | n2+1,i4,i5=>cond (decide (i4 < (a0.links.length:Int))) (cond (decide (0≤i4)&&decide (i4 < (a0.links.length:Int))) ((f1086 fu a0 (a0.links.getD i4.toNat default) (fun x0 x1 s=>f1143 x0 x1 (a0.links.getD i4.toNat default) s) i5).bind fun q6=>f1085_l2 fu a0 n0 rec1 n2 (IntKind.i64.wrap (i4+1)) q6) none) (rec1 n0 i5)
def f1085_l1 (fu:Nat)(a0:Base):Nat→Int→List Ref→Option (List Ref)
 | 0,_,_=>none
 | n1+1,i1,i2=>cond (!decide (i1=(i2.length:Int))) (f1085_l2 fu a0 (i2.length:Int) (f1085_l1 fu a0 n1) fu 0 i2) (some i2)
def f1085 (fu:Nat)(a0:Base)(a1:List UInt8)(a2:Int):Option (List Ref):=f1085_l1 fu a0 fu 0 [(⟨a1,a2⟩:Ref)]
theorem n1085:Nm prog 85:=⟨_,_,func85,by kernel_rfl,rfl⟩
theorem z1115:ZeroAt prog 115 tRaw (.map none) []:=⟨.map none,by kernel_rfl,fun A w=>⟨rfl,rfl⟩,fun _ h=>nomatch h⟩
theorem c1085 (fu:Nat)(a0:Base)(a1:List UInt8)(a2:Int):CtrL prog 85 [tBase.va a0,isS a1,isI .i64 a2] [] (f1085 fu a0 a1 a2) (fun v=>v) (fun q v=>[mapO mk1055 v q]) (fun _ v=>tRaw.va v):=by
 refine .w func85 ntmps85 fun hf A w=>?_
 unfold f1085
 refine .s<|.box (T:=tBase) z z fun b1=>go ?_
 refine .s<|.makeMap mk1055 z fun v2=>go ?_
 refine .insert (Tk:=tRef) 0 z z z u115 key1055<|.m z z<|.toRawM 0 15 z z<|.alloc tRaw (.map none) [] z1115 z fun b3=>go ?_
 refine .frzP 0 7 z z<|.seq<|.s<|go ?_
 refine .block<|.loop<|.use ((show ∀ (n1:Nat) (i1:Int) (i2:List Ref),W _ _ _ _ _ ⟨[(3,isP b1 0,none),(7,isAt tRaw v2,none),(8,isI .i64 i1,none)],[mapO mk1055 v2 i2,boxO b1 tBase a0 []]⟩ (f1085_l1 fu a0 n1 i1 i2) from ?_) fu _ _) sbS sbB
 intro n1
 induction n1 with
 | zero=>exact fun _ _=>.stop
 | succ n1 ih1=>
  intro i1 i2
  refine .inLoop<|.seq<|.s<|go ?_
  refine .unRaw 17 z<|.lenMap 0 z z u115 z<|go ?_
  refine .cd z ?_ ?_
  ·refine .skip<|.block<|.s<|go ?_
   refine .unRaw 20 z<|.lenMap 0 z z u115 z<|go ?_
   refine .s<|go ?_
   refine .block<|.loop<|.use ((show ∀ (n2:Nat) (i4:Int) (i5:List Ref),W _ _ _ _ _ ⟨[(3,isP b1 0,none),(7,isAt tRaw v2,none),(8,isI .i64 (i2.length:Int),none),(23,(tL tLink).va a0.links,none),(24,isI .i64 (a0.links.length:Int),none),(25,isI .i64 i4,none)],[mapO mk1055 v2 i5,boxO b1 tBase a0 []]⟩ (f1085_l2 fu a0 (i2.length:Int) (f1085_l1 fu a0 n1) n2 i4 i5) from ?_) fu _ _) sbS sbB
   intro n2
   induction n2 with
   | zero=>exact fun _ _=>.stop
   | succ n2 ih2=>
    intro i4 i5
    refine .inLoop<|.s<|go ?_
    refine .seq<|.cd z ?_ ?_
    ·refine .skip<|.seq<|.block<|.s<|go ?_
     refine .alloc tLink d0_1044 [] z1044 z fun b4=>go ?_
     refine .g<|go ?_
     refine .frzP 0 10 z z<|.makeF z z<|.call1 0 (c1086l fu _ _ (fun x0 x1 s=>f1143 x0 x1 (a0.links.getD i4.toNat default) s) (fun s=>[mapO mk1055 v2 s]) 143 [isAt tLink (a0.links.getD i4.toNat default),isAt tRaw v2] n1143 (fun x0 x1 s=>c1143 x0 x1 (a0.links.getD i4.toNat default) v2 s) _) z n1086 z z fun q6=>fj (ih2 _ _)
    ·exact fj (ih1 _ _)
  ·refine .exit z<|.s<|go ?_
   exact .retL1 v2 hf z (.tmp z) z (fun _ _ _ h=>h.1) sbL
def f1087 (a0 a1:Int)(l:Link)(ks:List Ref)(s:Bool):Option Bool:=cond s (some true) (cond (decide (l.how=1)) (cond (memK (⟨l.to,a1⟩:Ref) ks) (some (!memK (⟨l.from_,a0⟩:Ref) ks)) (some false)) (some false))
theorem n1087:Nm prog 87:=⟨_,_,func87,by kernel_rfl,rfl⟩
theorem c1087 (a0 a1:Int)(bs:Nat)(l:Link)(vm:Value)(ks:List Ref)(s:Bool):Ctr prog 87 [isI .i64 a0,isI .i64 a1,isP bs 0,isAt tLink l,isAt tRaw vm] [boxO bs tB s [],mapO mk1055 vm ks] (f1087 a0 a1 l ks s) (fun q _=>[boxO bs tB q [],mapO mk1055 vm ks]) (fun _=>anyV):=by
 refine .w func87 ntmps87 fun hf A w=>?_
 unfold f1087
 refine .g<|go ?_
 refine .split 8 z (fun _=>?_) (fun _=>?_)
 ·refine go ?_
  exact .end0 hf z (fun _=>sbL)
 ·refine go ?_
  refine .split 12 z (fun _=>?_) (fun _=>?_)
  ·refine go ?_
   refine .unRaw 13 z<|.lookup (T:=tRef) 1 z z z u115 key1055 (by kernel_rfl) z<|go ?_
   refine .split 20 z (fun _=>?_) (fun _=>?_)
   ·refine go ?_
    refine .unRaw 21 z<|.lookup (T:=tRef) 1 z z z u115 key1055 (by kernel_rfl) z<|go ?_
    exact .end0 hf z (fun _=>sbL)
   ·refine go ?_
    exact .end0 hf z (fun _=>sbL)
  ·refine go ?_
   exact .end0 hf z (fun _=>sbL)
theorem lendBase {A A':Ar}{w:World}{args:List Value}{v1 v2:Value}{tabs:List Tab}{links:List Link}{nm:List UInt8}(hs:Same A A' w w)(hl:slRel tTab tabs v1 A' w∧slRel tLink links v2 A' w)(ha:Args A w args [tBaseA.va (⟨v1,v2⟩:BaseA),isS nm]):Args A' w args [tBase.va (⟨tabs,links⟩:Base),isS nm]:=by
 cases ha with
 | cons h1 h2=>
  cases h2 with
  | cons h3 h4=>
   cases h4
   obtain ⟨cs,rfl,h⟩:=h1
   have h':=tBaseA.good hs h
   exact .cons ⟨cs,z,conv1026_1.h (conv1026_0.h h' hl.1) hl.2⟩ (.cons h3 .nil)
def f1089_j1 (fu:Nat)(a0:Int)(l:Link)(links:List Link)(tabs:List Tab)(i1:Bool):Option (List Tab):=cond i1 ((f1056 fu (⟨tabs,links⟩:Base) l.from_).bind fun q2=>cond (decide (0≤q2)&&decide (q2 < (tabs.length:Int))) ((f75 fu (tabs.getD q2.toNat default).table a0 [(⟨l.col,⟨0,0,[]⟩⟩:Set)]).bind fun q3=>some (tabs.set q2.toNat { (tabs.getD q2.toNat default) with table:=q3.1 })) none) (some tabs)
def f1089 (fu:Nat)(a0 a1:Int)(l:Link)(ks:List Ref)(links:List Link)(tabs:List Tab):Option (List Tab):=cond (decide (l.how=3)) (cond (memK (⟨l.to,a1⟩:Ref) ks) (f1089_j1 fu a0 l links tabs (!memK (⟨l.from_,a0⟩:Ref) ks)) (f1089_j1 fu a0 l links tabs false)) (f1089_j1 fu a0 l links tabs false)
theorem n1089:Nm prog 89:=⟨_,_,func89,by kernel_rfl,rfl⟩
theorem c1089 (fu:Nat)(a0 a1:Int)(bo:Nat)(v1 v2:Value)(l:Link)(vm:Value)(ks:List Ref)(links:List Link)(tabs:List Tab):Ctr prog 89 [isI .i64 a0,isI .i64 a1,isAt tLink l,isAt tRaw vm,isP bo 0] [boxO bo tBaseA (⟨v1,v2⟩:BaseA) [],arrO tTab v1 tabs,arrO tLink v2 links,mapO mk1055 vm ks] (f1089 fu a0 a1 l ks links tabs) (fun q _=>[boxO bo tBaseA (⟨v1,v2⟩:BaseA) [],arrO tTab v1 q,arrO tLink v2 links,mapO mk1055 vm ks]) (fun _=>anyV):=by
 refine .w func89 ntmps89 fun hf A w=>?_
 unfold f1089
 refine .seq<|.join1 (fun i1=>⟨[(0,isI .i64 a0,none),(2,isAt tLink l,none),(4,isP bo 0,none),(27,isB i1,none)],[boxO bo tBaseA (⟨v1,v2⟩:BaseA) [],arrO tTab v1 tabs,arrO tLink v2 links,mapO mk1055 vm ks]⟩) (fun i1=>f1089_j1 fu a0 l links tabs i1) (fun i1=>?_) (fun hj1=>?_)
 ·refine .cd z ?_ ?_
  ·refine .s<|go ?_
   refine .callLend (c1056 fu (⟨tabs,links⟩:Base) l.from_) (fun a w hk=>lend2 1 2 z z hk) lendBase (fun _ _ _ _ _ _ h=>h) n1056 z z fun q2=>go ?_
   refine .pT fun h2=>.pb (c75 fu _ _ _) n75 fun q3 h3 kk=>.drawT 21 [] [6,7,8,14,15,16,17,18,19,20] [1] mix (by kernel_rfl) sts z<|.node (.on ?_<|.off (by kernel_rfl)<|.off (by kernel_rfl)<|.off (by kernel_rfl)<|.off (by kernel_rfl)<|.off (by kernel_rfl)<|.off (by kernel_rfl)<|.off (by kernel_rfl)<|.off (by kernel_rfl)<|.off (by kernel_rfl)<|.nil)
   ·refine .put 39 z z fun _ _ hE h=>.useC h2<|.elemA 1 (hE.op z) (hE.op z) z u23 ty1039 z<|h _ _ (.same<|.hole z<|.same<|.same<|.nil)<|.node (.on ?_<|.off (by kernel_rfl)<|.off (by kernel_rfl)<|.off (by kernel_rfl)<|.off (by kernel_rfl)<|.off (by kernel_rfl)<|.off (by kernel_rfl)<|.off (by kernel_rfl)<|.off (by kernel_rfl)<|.nil)
    ·refine .put 40 z z fun _ _ hE h=>.fieldA (hE.op z) fa1039_1 z<|h _ _ (.same<|.hole z<|.same<|.same<|.nil)<|.node (.on ?_<|.off (by kernel_rfl)<|.off (by kernel_rfl)<|.off (by kernel_rfl)<|.off (by kernel_rfl)<|.off (by kernel_rfl)<|.off (by kernel_rfl)<|.off (by kernel_rfl)<|.nil)
     ·refine .put 41 z z fun _ _ hE h=>.loadA 1 fTab_1 (hE.op z) z ty27 z<|h _ _ (.same<|.hole z<|.same<|.same<|.nil)<|.node (.on ?_<|.off (by kernel_rfl)<|.off (by kernel_rfl)<|.off (by kernel_rfl)<|.off (by kernel_rfl)<|.off (by kernel_rfl)<|.off (by kernel_rfl)<|.nil)
      ·refine .put 47 z z fun _ _ hE h=>.cr (hE.ops z) kk z<|h _ _ (.same<|.hole z<|.same<|.same<|.nil)<|.node (.on ?_<|.off (by kernel_rfl)<|.off (by kernel_rfl)<|.off (by kernel_rfl)<|.off (by kernel_rfl)<|.off (by kernel_rfl)<|.nil)
       ·refine .put 32 z z fun _ _ hE h=>.m (hE.op z) z<|h _ _ (.same<|.hole z<|.same<|.same<|.nil)<|.node (.on ?_<|.on ?_<|.off (by kernel_rfl)<|.off (by kernel_rfl)<|.off (by kernel_rfl)<|.nil)
        ·refine .put 48 z z fun _ _ hE h=>.extract (hE.op z) z z<|h _ _ (.same<|.hole z<|.same<|.same<|.nil)<|.node (.on ?_<|.on ?_<|.off (by kernel_rfl)<|.off (by kernel_rfl)<|.nil)
         ·refine .put 49 z z fun _ _ hE h=>.extract (hE.op z) z z<|h _ _ (.same<|.hole z<|.same<|.same<|.nil)<|.node (.on ?_<|.off (by kernel_rfl)<|.off (by kernel_rfl)<|.nil)
          ·refine .put 50 z z fun _ _ hE h=>.useC h2<|.elemA 1 (hE.op z) (hE.op z) z u23 ty1039 z<|h _ _ (.same<|.hole z<|.same<|.same<|.nil)<|.node (.on ?_<|.off (by kernel_rfl)<|.nil)
           ·refine .put 51 z z fun _ _ hE h=>.fieldA (hE.op z) fa1039_1 z<|h _ _ (.same<|.hole z<|.same<|.same<|.nil)<|.node (.on ?_<|.nil)
            ·exact .act z fun _ _ hE h=>.storeA 1 fTab_1 (hE.op z) z (hE.op z) ty27<|h _ (.same<|.hole z<|.same<|.same<|.nil)<|.leaf<|.nil<|.end0 hf z (fun _=>sbL)
         ·refine .put 50 z z fun _ _ hE h=>.useC h2<|.elemA 1 (hE.op z) (hE.op z) z u23 ty1039 z<|h _ _ (.same<|.hole z<|.same<|.same<|.nil)<|.node (.on ?_<|.on ?_<|.off (by kernel_rfl)<|.nil)
          ·refine .put 49 z z fun _ _ hE h=>.extract (hE.op z) z z<|h _ _ (.same<|.hole z<|.same<|.same<|.nil)<|.node (.on ?_<|.off (by kernel_rfl)<|.nil)
           ·refine .put 51 z z fun _ _ hE h=>.fieldA (hE.op z) fa1039_1 z<|h _ _ (.same<|.hole z<|.same<|.same<|.nil)<|.node (.on ?_<|.nil)
            ·exact .act z fun _ _ hE h=>.storeA 1 fTab_1 (hE.op z) z (hE.op z) ty27<|h _ (.same<|.hole z<|.same<|.same<|.nil)<|.leaf<|.nil<|.end0 hf z (fun _=>sbL)
          ·refine .put 51 z z fun _ _ hE h=>.fieldA (hE.op z) fa1039_1 z<|h _ _ (.same<|.hole z<|.same<|.same<|.nil)<|.node (.on ?_<|.on ?_<|.nil)
           ·refine .put 49 z z fun _ _ hE h=>.extract (hE.op z) z z<|h _ _ (.same<|.hole z<|.same<|.same<|.nil)<|.node (.on ?_<|.nil)
            ·exact .act z fun _ _ hE h=>.storeA 1 fTab_1 (hE.op z) z (hE.op z) ty27<|h _ (.same<|.hole z<|.same<|.same<|.nil)<|.leaf<|.nil<|.end0 hf z (fun _=>sbL)
           ·refine .act z fun _ _ hE h=>.storeA 1 fTab_1 (hE.op z) z (hE.op z) ty27<|h _ (.same<|.hole z<|.same<|.same<|.nil)<|.node (.on ?_<|.nil)
            ·exact .put 49 z z fun _ _ hE h=>.extract (hE.op z) z z<|h _ _ (.same<|.hole z<|.same<|.same<|.nil)<|.leaf<|.nil<|.end0 hf z (fun _=>sbL)
        ·refine .put 49 z z fun _ _ hE h=>.extract (hE.op z) z z<|h _ _ (.same<|.hole z<|.same<|.same<|.nil)<|.node (.on ?_<|.off (by kernel_rfl)<|.off (by kernel_rfl)<|.off (by kernel_rfl)<|.nil)
         ·refine .put 48 z z fun _ _ hE h=>.extract (hE.op z) z z<|h _ _ (.same<|.hole z<|.same<|.same<|.nil)<|.node (.on ?_<|.off (by kernel_rfl)<|.off (by kernel_rfl)<|.nil)
          ·refine .put 50 z z fun _ _ hE h=>.useC h2<|.elemA 1 (hE.op z) (hE.op z) z u23 ty1039 z<|h _ _ (.same<|.hole z<|.same<|.same<|.nil)<|.node (.on ?_<|.off (by kernel_rfl)<|.nil)
           ·refine .put 51 z z fun _ _ hE h=>.fieldA (hE.op z) fa1039_1 z<|h _ _ (.same<|.hole z<|.same<|.same<|.nil)<|.node (.on ?_<|.nil)
            ·exact .act z fun _ _ hE h=>.storeA 1 fTab_1 (hE.op z) z (hE.op z) ty27<|h _ (.same<|.hole z<|.same<|.same<|.nil)<|.leaf<|.nil<|.end0 hf z (fun _=>sbL)
  ·exact .skip<|.end0 hf z (fun _=>sbL)
 ·refine .g<|go ?_
  refine .split 11 z (fun _=>?_) (fun _=>?_)
  ·refine go ?_
   refine .unRaw 12 z<|.lookup (T:=tRef) 3 z z z u115 key1055 (by kernel_rfl) z<|go ?_
   refine .split 19 z (fun _=>?_) (fun _=>?_)
   ·refine go ?_
    refine .unRaw 20 z<|.lookup (T:=tRef) 3 z z z u115 key1055 (by kernel_rfl) z<|fj (hj1 _)
   ·exact fj (hj1 _)
  ·exact fj (hj1 _)
def foldK {σ:Type}(f:Ref→σ→Option σ):List Ref→σ→Option σ
 | [],s=>some s
 | k::l,s=>(f k s).bind fun t=>foldK f l t
noncomputable def anyM {σ:Type} (f:Ref→σ→Option σ) (ks:List Ref) (s:σ):Option σ:=by
 classical exact if h:∃ x,∀ p:List Ref,p.Perm ks→foldK f p s=some x then some h.choose else none
theorem anyM_some {σ:Type}{f:Ref→σ→Option σ}{ks:List Ref}{s x:σ}(h:anyM f ks s=some x):∀ p:List Ref,p.Perm ks→foldK f p s=some x:=by
 unfold anyM at h
 split at h
 case isTrue h1=>injection h with h;exact h▸h1.choose_spec
 case isFalse=>cases h
theorem anyM_of {σ:Type}{f:Ref→σ→Option σ}{ks:List Ref}{s x:σ}(h:∀ p:List Ref,p.Perm ks→foldK f p s=some x):anyM f ks s=some x:=by
 have h1:∃ x,∀ p:List Ref,p.Perm ks→foldK f p s=some x:=⟨x,h⟩
 unfold anyM
 rw [dif_pos h1]
 have:=h1.choose_spec ks (.refl _)
 rw [h ks (.refl _)] at this
 exact this.symm
theorem foldK_step {σ:Type}{f:Ref→σ→Option σ}{k:Ref}{lk lk':List Ref}{s x:σ}(hp:∀ p:List Ref,p.Perm lk→foldK f p s=some x)(hk:lk.Perm (k::lk')):∃ t,f k s=some t∧∀ p:List Ref,p.Perm lk'→foldK f p t=some x:=by
 have h:=hp _ hk.symm
 simp only [foldK] at h
 cases ht:f k s with
 | none=>rw [ht] at h;cases h
 | some t=>
  refine ⟨t,z,fun p hpp=>?_⟩
  have h:=hp (k::p) ((hpp.cons k).trans hk.symm)
  simpa only [foldK,ht,Option.bind_some] using h
def offStep (fu:Nat)(links:List Link)(k:Ref)(tabs:List Tab):Option (List Tab):=(f1056 fu (⟨tabs,links⟩:Base) k.name).bind fun q2=>cond (decide (0≤q2)&&decide (q2 < (tabs.length:Int))) ((f40 fu (tabs.getD q2.toNat default).table k.id).bind fun q3=>some (tabs.set q2.toNat { (tabs.getD q2.toNat default) with table:=q3.1 })) none
theorem offStep_inv {fu:Nat}{links:List Link}{k:Ref}{tabs X:List Tab}(h:offStep fu links k tabs=some X):∃ q2 q3,f1056 fu (⟨tabs,links⟩:Base) k.name=some q2∧(decide (0≤q2)&&decide (q2 < (tabs.length:Int)))=true∧f40 fu (tabs.getD q2.toNat default).table k.id=some q3∧X=tabs.set q2.toNat { (tabs.getD q2.toNat default) with table:=q3.1 }:=by
 unfold offStep at h
 cases h2:f1056 fu (⟨tabs,links⟩:Base) k.name with
 | none=>rw [h2] at h;cases h
 | some q2=>
  rw [h2] at h
  simp only [Option.bind_some] at h
  cases hb:(decide (0≤q2)&&decide (q2 < (tabs.length:Int))) with
  | false=>rw [hb] at h;cases h
  | true=>
   rw [hb] at h
   simp only [cond_true] at h
   cases h3:f40 fu (tabs.getD q2.toNat default).table k.id with
   | none=>rw [h3] at h;cases h
   | some q3=>
    rw [h3] at h
    simp only [Option.bind_some] at h
    injection h with h
    exact ⟨q2,q3,z,hb,h3,h.symm⟩
def f1028_l2 (fu:Nat)(a0:Base)(ks:List Ref)(links:List Link):Nat→Int→List Tab→Option (Base×Int)
 | 0,_,_=>none
 | n2+1,i,tabs=>cond (decide (i < (a0.links.length:Int))) (cond (decide (0≤i)&&decide (i < (a0.links.length:Int))) ((f1086 fu a0 (a0.links.getD i.toNat default) (fun x0 x1 s=>f1089 fu x0 x1 (a0.links.getD i.toNat default) ks links s) tabs).bind fun q=>f1028_l2 fu a0 ks links n2 (IntKind.i64.wrap (i+1)) q) none) (some ((⟨tabs,links⟩:Base),0))
noncomputable def f1028_j1 (fu:Nat) (a0 q4:Base) (ks:List Ref) (s:Bool):Option (Base×Int):=cond s (some (q4,6)) ((anyM (offStep fu q4.links) ks q4.tabs).bind fun X=>f1028_l2 fu a0 ks q4.links fu 0 X)
noncomputable def f1028_l1 (fu:Nat) (a0 q4:Base) (ks:List Ref):Nat→Int→Bool→Option (Base×Int)
 | 0,_,_=>none
 | n1+1,i,s=>cond (decide (i < (a0.links.length:Int))) (cond (decide (0≤i)&&decide (i < (a0.links.length:Int))) ((f1086 fu a0 (a0.links.getD i.toNat default) (fun x0 x1 s=>f1087 x0 x1 (a0.links.getD i.toNat default) ks s) s).bind fun q=>f1028_l1 fu a0 q4 ks n1 (IntKind.i64.wrap (i+1)) q) none) (f1028_j1 fu a0 q4 ks s)
noncomputable def f1028 (fu:Nat) (a0:Base) (a1:List UInt8) (a2:Int):Option (Base×Int):=(f1020 fu a0).bind fun q1=>cond (!q1) (some ((⟨[],[]⟩:Base),1)) ((f1054 fu a0).bind fun q4=>(f1084 fu a0 a1 a2).bind fun q5=>cond (!q5) (some (q4,5)) ((f1085 fu a0 a1 a2).bind fun ks=>f1028_l1 fu a0 q4 ks fu 0 false))
theorem n1028:Nm prog 28:=⟨_,_,func28,by kernel_rfl,rfl⟩
theorem c1028 (fu:Nat)(a0:Base)(a1:List UInt8)(a2:Int):Ctr prog 28 [tBase.va a0,isS a1,isI .i64 a2] [] (f1028 fu a0 a1 a2) (fun _ _=>[]) (fun q=>tup [tBase.va q.1,isI .i64 q.2]):=by
 refine .w func28 ntmps28 fun hf A w=>?_
 unfold f1028
 refine .s<|.box (T:=tBase) z z fun b1=>.alloc tBaseA d0A1026 [] zA1026 z fun b2=>go ?_
 refine .seq<|.s<|go ?_
 refine .call0 (c1020 fu _) n1020 z z fun q1=>go ?_
 refine .cd z ?_ ?_
 ·refine .s<|go ?_
  exact .storeW 0 z z z z ty1026<|fr
 ·refine .skip<|.s<|go ?_
  refine .callL0 (c1054 fu _) n1054 z z fun q4 p5=>.alloc tBaseA d0A1026 [] zA1026 z fun b3=>go ?_
  refine .seq<|.s<|go ?_
  refine .call0 (c1084 fu _ _ _) n1084 z z fun q5=>go ?_
  refine .cd z ?_ ?_
  ·refine .s<|go ?_
   exact .frzBox 3 1 conv1026_0 z z<|.frzBox 3 2 conv1026_1 z z<|fr
  ·refine .skip<|.s<|go ?_
   refine .callL0 (c1085 fu _ _ _) n1085 z z fun ks vm=>.alloc tRaw (.map none) [] z1115 z fun b4=>go ?_
   refine .frzP 0 9 z z<|.s<|.alloc tB d0_4 [] z4 z fun b5=>go ?_
   refine .seq<|.s<|go ?_
   refine .block<|.loop<|.use ((show ∀ (n1:Nat) (i:Int) (s:Bool),W _ _ _ _ _ ⟨[(3,isP b1 0,none),(6,isP b2 0,none),(8,isP b3 0,none),(9,isAt tRaw vm,none),(10,isP b5 0,none),(34,(tL tLink).va a0.links,none),(35,isI .i64 (a0.links.length:Int),none),(36,isI .i64 i,none)],[boxO b5 tB s [],mapO mk1055 vm ks,boxO b3 tBaseA (⟨p5.1,p5.2⟩:BaseA) [],arrO tTab p5.1 q4.tabs,arrO tLink p5.2 q4.links,boxO b2 tBaseA d0A1026 [],boxO b1 tBase a0 []]⟩ (f1028_l1 fu a0 q4 ks n1 i s) from ?_) fu _ _) sbS sbB
   intro n1
   induction n1 with
   | zero=>exact fun _ _=>.stop
   | succ n1 ih1=>
    intro i s
    refine .inLoop<|.s<|go ?_
    refine .seq<|.cd z ?_ ?_
    ·refine .skip<|.seq<|.block<|.s<|go ?_
     refine .alloc tLink d0_1044 [] z1044 z fun b6=>go ?_
     refine .g<|go ?_
     refine .frzP 0 12 z z<|.makeF z z<|.callNS [0,0] (c1086l fu _ _ (fun x0 x1 s=>f1087 x0 x1 (a0.links.getD i.toNat default) ks s) (fun s=>[boxO b5 tB s [],mapO mk1055 vm ks]) 87 [isP b5 0,isAt tLink (a0.links.getD i.toNat default),isAt tRaw vm] n1087 (fun x0 x1 s=>c1087 x0 x1 b5 (a0.links.getD i.toNat default) vm ks s) _) z n1086 z z fun q6=>fj (ih1 _ _)
    ·refine .exit z<|.seq<|.s<|go ?_
     unfold f1028_j1
     refine .cd z ?_ ?_
     ·refine .s<|go ?_
      exact .frzBox 5 3 conv1026_0 z z<|.frzBox 5 4 conv1026_1 z z<|fr
     ·refine .skip<|.pbind fun X hX=>?_
      have hX:=anyM_some hX
      clear ih1
      refine .seq<|.s<|go ?_
      refine .unRaw 47 z<|.rangeMap (mk:=mk1055) 1 z z u115 z fun it m es clock hv hE hB hl=>?_
      subst hv
      refine .nil<|.block<|.loop<|.use ((show ∀ (N:Nat) (lk:List Ref) (seen:Array Nat) (tabs:List Tab),lk.length < N→HL.Left mk1055 es seen lk→(∀ p:List Ref,p.Perm lk→foldK (offStep fu q4.links) p tabs=some X)→W _ _ _ _ _ ⟨[(3,isP b1 0,none),(6,isP b2 0,none),(8,isP b3 0,none),(9,isAt tRaw (.map (some m)),none),(48,isP it 0,none)],[iterO it m clock clock seen,mapE m es clock,boxO b3 tBaseA (⟨p5.1,p5.2⟩:BaseA) [],arrO tTab p5.1 tabs,arrO tLink p5.2 q4.links,boxO b2 tBaseA d0A1026 [],boxO b1 tBase a0 []]⟩ (f1028_l2 fu a0 ks q4.links fu 0 X) from ?_) (ks.length+1) ks #[] q4.tabs (Nat.lt_succ_self _) hl hX) sbS sbB
      intro N
      induction N with
      | zero=>exact fun _ _ _ h=>absurd h (Nat.not_lt_zero _)
      | succ N ih=>
       intro lk seen tabs hlt hl hp
       refine .inLoop<|.s<|.nextMap2 0 1 z z z hB (Nat.le_refl _) hl z (fun h0=>?_) (fun k lk' en hperm hl2 hen hk hv=>?_)
       ·subst h0
        have hT:tabs=X:=by simpa [foldK] using hp [] (.refl _)
        subst hT
        refine go ?_
        refine .seq<|.condF z<|.exit z<|.mapBack 1 z hE hB<|.seq<|.s<|go ?_
        refine .block<|.loop<|.use ((show ∀ (n2:Nat) (i:Int) (tabs:List Tab),W _ _ _ _ _ ⟨[(3,isP b1 0,none),(6,isP b2 0,none),(8,isP b3 0,none),(9,isAt tRaw (.map (some m)),none),(75,(tL tLink).va a0.links,none),(76,isI .i64 (a0.links.length:Int),none),(77,isI .i64 i,none)],[boxO b3 tBaseA (⟨p5.1,p5.2⟩:BaseA) [],arrO tTab p5.1 tabs,arrO tLink p5.2 q4.links,mapO mk1055 (.map (some m)) ks,boxO b2 tBaseA d0A1026 [],boxO b1 tBase a0 []]⟩ (f1028_l2 fu a0 ks q4.links n2 i tabs) from ?_) fu _ _) sbS sbB
        clear hp ih hX
        intro n2
        induction n2 with
        | zero=>exact fun _ _=>.stop
        | succ n2 ih2=>
         intro i tabs
         refine .inLoop<|.s<|go ?_
         refine .seq<|.cd z ?_ ?_
         ·refine .skip<|.seq<|.block<|.s<|go ?_
          refine .alloc tLink d0_1044 [] z1044 z fun b8=>go ?_
          refine .g<|go ?_
          refine .frzP 0 16 z z<|.makeF z z<|.callNS [0,0,0,0] (c1086l fu _ _ (fun x0 x1 s=>f1089 fu x0 x1 (a0.links.getD i.toNat default) ks q4.links s) (fun s=>[boxO b3 tBaseA (⟨p5.1,p5.2⟩:BaseA) [],arrO tTab p5.1 s,arrO tLink p5.2 q4.links,mapO mk1055 (.map (some m)) ks]) 89 [isAt tLink (a0.links.getD i.toNat default),isAt tRaw (.map (some m)),isP b3 0] n1089 (fun x0 x1 s=>c1089 fu x0 x1 b3 p5.1 p5.2 (a0.links.getD i.toNat default) (.map (some m)) ks q4.links s) _) z n1086 z z fun q6=>fj (ih2 _ _)
         ·refine .exit z<|.s<|go ?_
          exact .frzBox 4 1 conv1026_0 z z<|.frzBox 4 2 conv1026_1 z z<|fr
       ·have hlt:lk'.length < N:=by
         have:=hperm.length_eq
         simp at this
         omega
        obtain ⟨t',ht,hf2⟩:=foldK_step hp hperm
        obtain ⟨q2,q3,h2,hb,h3,rfl⟩:=offStep_inv ht
        have kk:CR prog 88 [tTable.va (tabs.getD q2.toNat default).table,isI .i64 k.id] q3 (fun q=>tup [tTable.va q.1,isI .i64 q.2]):=⟨by rw [← h3];exact c40 fu _ _,n40⟩
        refine go ?_
        refine .seq<|.condT z<|.skip<|.block<|.s<|.entryMap 0 1 z z z hB hen hk hv z<|go ?_
        refine .turnV 52 (Q':=tRef.va k) z (fun v A w h=>⟨[str k.name,.int .i64 k.id],h,⟨[_],[_],z,z,z⟩⟩)<|.alloc tRef d0_1055 [] z1055 z fun b7=>go ?_
        refine .s<|go ?_
        refine .lendR (y:=q2) (Q:=fun q=>isI .i64 q) (by rw [← h2];exact c1056 fu (⟨tabs,q4.links⟩:Base) k.name) (fun a w hk=>lend2 4 5 z z hk) lendBase (fun _ _ _ _ _ _ h=>h) n1056 z z<|go ?_
        refine .drawT 18 [] [6,7,8,11,12,13,14,15,16,17] [4] mix (by kernel_rfl) sts z<|.node (.on ?_<|.off (by kernel_rfl)<|.off (by kernel_rfl)<|.off (by kernel_rfl)<|.off (by kernel_rfl)<|.off (by kernel_rfl)<|.off (by kernel_rfl)<|.off (by kernel_rfl)<|.off (by kernel_rfl)<|.off (by kernel_rfl)<|.nil)
        ·refine .put 64 z z fun _ _ hE h=>.useC hb<|.elemA 4 (hE.op z) (hE.op z) z u23 ty1039 z<|h _ _ (.same<|.same<|.same<|.same<|.hole z<|.same<|.same<|.same<|.nil)<|.node (.on ?_<|.off (by kernel_rfl)<|.off (by kernel_rfl)<|.off (by kernel_rfl)<|.off (by kernel_rfl)<|.off (by kernel_rfl)<|.off (by kernel_rfl)<|.off (by kernel_rfl)<|.off (by kernel_rfl)<|.nil)
         ·refine .put 65 z z fun _ _ hE h=>.fieldA (hE.op z) fa1039_1 z<|h _ _ (.same<|.same<|.same<|.same<|.hole z<|.same<|.same<|.same<|.nil)<|.node (.on ?_<|.off (by kernel_rfl)<|.off (by kernel_rfl)<|.off (by kernel_rfl)<|.off (by kernel_rfl)<|.off (by kernel_rfl)<|.off (by kernel_rfl)<|.off (by kernel_rfl)<|.nil)
          ·refine .put 66 z z fun _ _ hE h=>.loadA 4 fTab_1 (hE.op z) z ty27 z<|h _ _ (.same<|.same<|.same<|.same<|.hole z<|.same<|.same<|.same<|.nil)<|.node (.on ?_<|.off (by kernel_rfl)<|.off (by kernel_rfl)<|.off (by kernel_rfl)<|.off (by kernel_rfl)<|.off (by kernel_rfl)<|.off (by kernel_rfl)<|.nil)
           ·refine .put 69 z z fun _ _ hE h=>.cr (hE.ops z) kk z<|h _ _ (.same<|.same<|.same<|.same<|.hole z<|.same<|.same<|.same<|.nil)<|.node (.on ?_<|.off (by kernel_rfl)<|.off (by kernel_rfl)<|.off (by kernel_rfl)<|.off (by kernel_rfl)<|.off (by kernel_rfl)<|.nil)
            ·refine .put 57 z z fun _ _ hE h=>.m (hE.op z) z<|h _ _ (.same<|.same<|.same<|.same<|.hole z<|.same<|.same<|.same<|.nil)<|.node (.on ?_<|.on ?_<|.off (by kernel_rfl)<|.off (by kernel_rfl)<|.off (by kernel_rfl)<|.nil)
             ·refine .put 70 z z fun _ _ hE h=>.extract (hE.op z) z z<|h _ _ (.same<|.same<|.same<|.same<|.hole z<|.same<|.same<|.same<|.nil)<|.node (.on ?_<|.on ?_<|.off (by kernel_rfl)<|.off (by kernel_rfl)<|.nil)
              ·refine .put 71 z z fun _ _ hE h=>.extract (hE.op z) z z<|h _ _ (.same<|.same<|.same<|.same<|.hole z<|.same<|.same<|.same<|.nil)<|.node (.on ?_<|.off (by kernel_rfl)<|.off (by kernel_rfl)<|.nil)
               ·refine .put 72 z z fun _ _ hE h=>.useC hb<|.elemA 4 (hE.op z) (hE.op z) z u23 ty1039 z<|h _ _ (.same<|.same<|.same<|.same<|.hole z<|.same<|.same<|.same<|.nil)<|.node (.on ?_<|.off (by kernel_rfl)<|.nil)
                ·refine .put 73 z z fun _ _ hE h=>.fieldA (hE.op z) fa1039_1 z<|h _ _ (.same<|.same<|.same<|.same<|.hole z<|.same<|.same<|.same<|.nil)<|.node (.on ?_<|.nil)
                 ·exact .act z fun _ _ hE h=>.storeA 4 fTab_1 (hE.op z) z (hE.op z) ty27<|h _ (.same<|.same<|.same<|.same<|.hole z<|.same<|.same<|.same<|.nil)<|.leaf<|.nil<|fj (ih _ _ _ hlt hl2 hf2)
              ·refine .put 72 z z fun _ _ hE h=>.useC hb<|.elemA 4 (hE.op z) (hE.op z) z u23 ty1039 z<|h _ _ (.same<|.same<|.same<|.same<|.hole z<|.same<|.same<|.same<|.nil)<|.node (.on ?_<|.on ?_<|.off (by kernel_rfl)<|.nil)
               ·refine .put 71 z z fun _ _ hE h=>.extract (hE.op z) z z<|h _ _ (.same<|.same<|.same<|.same<|.hole z<|.same<|.same<|.same<|.nil)<|.node (.on ?_<|.off (by kernel_rfl)<|.nil)
                ·refine .put 73 z z fun _ _ hE h=>.fieldA (hE.op z) fa1039_1 z<|h _ _ (.same<|.same<|.same<|.same<|.hole z<|.same<|.same<|.same<|.nil)<|.node (.on ?_<|.nil)
                 ·exact .act z fun _ _ hE h=>.storeA 4 fTab_1 (hE.op z) z (hE.op z) ty27<|h _ (.same<|.same<|.same<|.same<|.hole z<|.same<|.same<|.same<|.nil)<|.leaf<|.nil<|fj (ih _ _ _ hlt hl2 hf2)
               ·refine .put 73 z z fun _ _ hE h=>.fieldA (hE.op z) fa1039_1 z<|h _ _ (.same<|.same<|.same<|.same<|.hole z<|.same<|.same<|.same<|.nil)<|.node (.on ?_<|.on ?_<|.nil)
                ·refine .put 71 z z fun _ _ hE h=>.extract (hE.op z) z z<|h _ _ (.same<|.same<|.same<|.same<|.hole z<|.same<|.same<|.same<|.nil)<|.node (.on ?_<|.nil)
                 ·exact .act z fun _ _ hE h=>.storeA 4 fTab_1 (hE.op z) z (hE.op z) ty27<|h _ (.same<|.same<|.same<|.same<|.hole z<|.same<|.same<|.same<|.nil)<|.leaf<|.nil<|fj (ih _ _ _ hlt hl2 hf2)
                ·refine .act z fun _ _ hE h=>.storeA 4 fTab_1 (hE.op z) z (hE.op z) ty27<|h _ (.same<|.same<|.same<|.same<|.hole z<|.same<|.same<|.same<|.nil)<|.node (.on ?_<|.nil)
                 ·exact .put 71 z z fun _ _ hE h=>.extract (hE.op z) z z<|h _ _ (.same<|.same<|.same<|.same<|.hole z<|.same<|.same<|.same<|.nil)<|.leaf<|.nil<|fj (ih _ _ _ hlt hl2 hf2)
             ·refine .put 71 z z fun _ _ hE h=>.extract (hE.op z) z z<|h _ _ (.same<|.same<|.same<|.same<|.hole z<|.same<|.same<|.same<|.nil)<|.node (.on ?_<|.off (by kernel_rfl)<|.off (by kernel_rfl)<|.off (by kernel_rfl)<|.nil)
              ·refine .put 70 z z fun _ _ hE h=>.extract (hE.op z) z z<|h _ _ (.same<|.same<|.same<|.same<|.hole z<|.same<|.same<|.same<|.nil)<|.node (.on ?_<|.off (by kernel_rfl)<|.off (by kernel_rfl)<|.nil)
               ·refine .put 72 z z fun _ _ hE h=>.useC hb<|.elemA 4 (hE.op z) (hE.op z) z u23 ty1039 z<|h _ _ (.same<|.same<|.same<|.same<|.hole z<|.same<|.same<|.same<|.nil)<|.node (.on ?_<|.off (by kernel_rfl)<|.nil)
                ·refine .put 73 z z fun _ _ hE h=>.fieldA (hE.op z) fa1039_1 z<|h _ _ (.same<|.same<|.same<|.same<|.hole z<|.same<|.same<|.same<|.nil)<|.node (.on ?_<|.nil)
                 ·exact .act z fun _ _ hE h=>.storeA 4 fTab_1 (hE.op z) z (hE.op z) ty27<|h _ (.same<|.same<|.same<|.same<|.hole z<|.same<|.same<|.same<|.nil)<|.leaf<|.nil<|fj (ih _ _ _ hlt hl2 hf2)
def f1095_l2 (a0:Base)(ks:List Ref)(i1:Int)(rec1:Int→List Ref→Option (List Ref)):Nat→Int→List Ref→Option (List Ref)
 | 0,_,_=>none
 | n2+1,i3,i4=>cond (decide (i3 < (List.length (a0.tabs.getD i1.toNat default).table.rows:Int))) (cond (decide (0≤i3)&&decide (i3 < (List.length (a0.tabs.getD i1.toNat default).table.rows:Int))) (cond (memK (⟨(a0.tabs.getD i1.toNat default).name,((a0.tabs.getD i1.toNat default).table.rows.getD i3.toNat default).id⟩:Ref) ks) (cond (decide (i4.length+List.length ([(⟨(a0.tabs.getD i1.toNat default).name,((a0.tabs.getD i1.toNat default).table.rows.getD i3.toNat default).id⟩:Ref)]:List Ref)≤CAP)) (f1095_l2 a0 ks i1 rec1 n2 (IntKind.i64.wrap (i3+1)) (i4++[(⟨(a0.tabs.getD i1.toNat default).name,((a0.tabs.getD i1.toNat default).table.rows.getD i3.toNat default).id⟩:Ref)])) none) (f1095_l2 a0 ks i1 rec1 n2 (IntKind.i64.wrap (i3+1)) i4)) none) (rec1 (IntKind.i64.wrap (i1+1)) i4)
def f1095_l1 (fu:Nat)(a0:Base)(ks:List Ref):Nat→Int→List Ref→Option (List Ref)
 | 0,_,_=>none
 | n1+1,i1,i2=>cond (decide (i1 < (a0.tabs.length:Int))) (cond (decide (0≤i1)&&decide (i1 < (a0.tabs.length:Int))) (f1095_l2 a0 ks i1 (f1095_l1 fu a0 ks n1) fu 0 i2) none) ((f1154 i2).bind fun q=>some q)
def f1095 (fu:Nat)(a0:Base)(ks:List Ref):Option (List Ref):=f1095_l1 fu a0 ks fu 0 []
theorem n1095:Nm prog 95:=⟨_,_,func95,by kernel_rfl,rfl⟩
theorem c1095 (fu:Nat)(a0:Base)(vm:Value)(ks:List Ref):Ctr prog 95 [tBase.va a0,tRaw.va vm] [mapO mk1055 vm ks] (f1095 fu a0 ks) (fun _ _=>[mapO mk1055 vm ks]) (fun q=>(tL tRef).va q):=by
 refine .w func95 ntmps95 fun hf A w=>?_
 unfold f1095
 refine .s<|.box (T:=tBase) z z fun b1=>.an z z<|.s<|.a z z<|.arrNil tRef<|.nil<|.seq<|.s<|go ?_
 refine .block<|.loop<|.use ((show ∀ (n1:Nat) (i1:Int) (i2:List Ref) (v2:Value),W _ _ _ _ _ ⟨[(1,tRaw.va vm,none),(2,isP b1 0,none),(5,isV v2,some v2),(12,(tL tTab).va a0.tabs,none),(13,isI .i64 (a0.tabs.length:Int),none),(14,isI .i64 i1,none)],[arrO tRef v2 i2,mapO mk1055 vm ks,boxO b1 tBase a0 []]⟩ (f1095_l1 fu a0 ks n1 i1 i2) from ?_) fu _ _ _) sbS sbB
 intro n1
 induction n1 with
 | zero=>exact fun _ _ _=>.stop
 | succ n1 ih1=>
  intro i1 i2 v2
  refine .inLoop<|.s<|go ?_
  refine .seq<|.cd z ?_ ?_
  ·refine .skip<|.seq<|.block<|.s<|go ?_
   refine .alloc tTab d0_1039 [] z1039 z fun b3=>go ?_
   refine .s<|go ?_
   refine .block<|.loop<|.use ((show ∀ (n2:Nat) (i3:Int) (i4:List Ref) (v4:Value),W _ _ _ _ _ ⟨[(1,tRaw.va vm,none),(2,isP b1 0,none),(5,isV v4,some v4),(7,isP b3 0,none),(12,(tL tTab).va a0.tabs,none),(13,isI .i64 (a0.tabs.length:Int),none),(14,isI .i64 i1,none),(20,(tL tRow).va (a0.tabs.getD i1.toNat default).table.rows,none),(21,isI .i64 (List.length (a0.tabs.getD i1.toNat default).table.rows:Int),none),(22,isI .i64 i3,none)],[arrO tRef v4 i4,mapO mk1055 vm ks,boxO b3 tTab (a0.tabs.getD i1.toNat default) [],boxO b1 tBase a0 []]⟩ (f1095_l2 a0 ks i1 (f1095_l1 fu a0 ks n1) n2 i3 i4) from ?_) fu _ _ _) sbS sbB
   intro n2
   induction n2 with
   | zero=>exact fun _ _ _=>.stop
   | succ n2 ih2=>
    intro i3 i4 v4
    refine .inLoop<|.s<|go ?_
    refine .seq<|.cd z ?_ ?_
    ·refine .skip<|.seq<|.block<|.s<|go ?_
     refine .alloc tRow d0_37 [] z37 z fun b5=>go ?_
     refine .s<|go ?_
     refine .alloc tRef d0_1055 [] z1055 z fun b6=>go ?_
     refine .s<|.m z z<|.unRaw 31 z<|go ?_
     refine .lookup (T:=tRef) 3 z z z u115 key1055 (by kernel_rfl) z<|go ?_
     refine .cd z ?_ ?_
     ·refine .g<|go ?_
      exact .appA (T:=tRef) 2 z z z u52 el1055 z fun v7=>fj (ih2 _ _ _)
     ·exact fj (ih2 _ _ _)
    ·exact fj (ih1 _ _ _)
  ·refine .exit z<|.s<|go ?_
   refine .callL1 0 (c1154 _ _) z n1154 z z fun q v8=>.unRaw 41 z<|.frz 0 41 z z<|fr
def f1031_j1 (fu:Nat)(a0:Base)(a1:List UInt8)(a2:Int)(i1:Bool):Option (List Ref):=cond i1 (some []) ((f1085 fu a0 a1 a2).bind fun ks=>(f1095 fu a0 ks).bind fun q=>some q)
def f1031 (fu:Nat)(a0:Base)(a1:List UInt8)(a2:Int):Option (List Ref):=(f1020 fu a0).bind fun q1=>cond (!q1) (f1031_j1 fu a0 a1 a2 true) ((f1084 fu a0 a1 a2).bind fun q2=>f1031_j1 fu a0 a1 a2 (!q2))
theorem n1031:Nm prog 31:=⟨_,_,func31,by kernel_rfl,rfl⟩
theorem c1031 (fu:Nat)(a0:Base)(a1:List UInt8)(a2:Int):Ctr prog 31 [tBase.va a0,isS a1,isI .i64 a2] [] (f1031 fu a0 a1 a2) (fun _ _=>[]) (fun q=>(tL tRef).va q):=by
 refine .w func31 ntmps31 fun hf A w=>?_
 unfold f1031
 refine .s<|.box (T:=tBase) z z fun b1=>.an z z<|.seq<|.seq<|.join1 (fun i1=>⟨[(1,isS a1,none),(2,isI .i64 a2,none),(3,isP b1 0,none),(16,isB i1,none)],[boxO b1 tBase a0 []]⟩) (fun i1=>f1031_j1 fu a0 a1 a2 i1) (fun i1=>?_) (fun hj1=>?_)
 ·unfold f1031_j1
  refine .cd z ?_ ?_
  ·exact .s<|.assignNil tRef z<|fr
  ·refine .skip<|.seq<|.pbind fun ks h2=>.pbind fun q h3=>?_
   refine .drawS 6 [] [4,5] [] mix (by kernel_rfl) sts z<|.cons (d:=21) z z fun _ _ hE h=>.bindE2 h2 (fun r h=>.callL0 (c1085 fu _ _ _) n1085 (hE.ops z) z h) fun vm=>.toEnd<|h _ _ (.same<|.nil)<|.cons (d:=22) z z fun _ _ hE h=>.bindE h3 (fun r h=>.call1 1 (c1095 fu _ _ _) z n1095 (hE.ops z) z h)<|h _ _ (.same<|.nil)<|.nil<|fr
 ·refine .g<|go ?_
  refine .call0 (c1020 fu _) n1020 z z fun q1=>go ?_
  refine .split 10 z (fun _=>?_) (fun _=>?_)
  ·exact fj (hj1 _)
  ·refine go ?_
   exact .call0 (c1084 fu _ _ _) n1084 z z fun q2=>fj (hj1 _)
end Go.Proofs.YtdpigighgmipfaaGreatDoor
