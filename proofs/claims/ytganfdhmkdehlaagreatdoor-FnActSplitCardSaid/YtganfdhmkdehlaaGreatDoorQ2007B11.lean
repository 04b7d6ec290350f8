/- What functions answer. -/
import Derived.Test.YtganfdhmkdehlaaGreatDoorQ2007B10
import Derived.Test.YtganfdhmkdehlaaGreatDoorQ2007AV
import Derived.KernelRfl
set_option linter.all false
namespace Go.Proofs.YtganfdhmkdehlaaGreatDoor
open Go Go.HL Tryz
attribute [local irreducible] W WO
theorem zh:cE prog 143 1 false:=⟨by kernel_rfl,by kernel_rfl⟩
instance jt1115:TyI prog 143 1 false:=⟨zh⟩
instance jt1115b:bv prog tRaw 0 143 tRaw (fun d=>d) (fun _ x=>x):=⟨Fld.self _,zh⟩
theorem AV (n:Nat)(a b:Ref)(c1 c2:List Value)(A:Ar)(w:World)(h:tRef.rel a c1 A w)(g:tRef.rel b c2 A w):(Op.equalIn (n+2) 146 (.agg c1.toArray) (.agg c2.toArray)).run prog w=.ok (decide (a=b)) w:=by
 have stood:prog.stoodInHeld 146=false:=by kernel_rfl
 obtain ⟨_,_,rfl,h3,h0⟩:=h
 cases h3
 cases h0
 obtain ⟨_,_,rfl,g3,g0⟩:=g
 cases g3
 cases g0
 rw [Op.equalIn]
 simp [run_underlying D1,stood,part,C6,C3,At,As]
 have e:decide (a=b)=(decide (a.name=b.name)&&decide (a.id=b.id)):=by cases a;cases b;simp
 rw [e]
 by_cases e0:a.name=b.name<;>by_cases e1:a.id=b.id<;>simp [e0,e1]
theorem eq1055:HL.EqAt prog 146 tRef:=⟨by kernel_rfl,rfl,fun a b c1 c2 A w h g=>AV 9998 a b c1 c2 A w h g⟩
def bq (k:Ref):Value:=.agg #[str k.name,.int .i64 k.id]
theorem gK:pK prog 146 tRef bq where
 val h:=by
  obtain ⟨cs,rfl,h⟩:=h
  obtain ⟨_,_,rfl,h3,h2⟩:=h
  cases h3;cases h2;rfl
 chk e k w:=by
  have h3:∀ a:Int,(Instr.checkKey e (9998+1) 3 (.int .i64 a)).run prog w=.ok () w:=fun a=>MapKept.run_checkKey (w:=w) u3 (by simp [MapKept.IsKey]) e 9998
  have h9:∀ a:ByteArray,(Instr.checkKey e (9998+1) 9 (.string a)).run prog w=.ok () w:=fun a=>MapKept.run_checkKey (w:=w) u9 (by simp [MapKept.IsKey]) e 9998
  show (Instr.checkKey e (9998+1+1) 146 (bq k)).run prog w=_
  rw [Instr.checkKey]
  simp [run_underlying D1,bq,str,part,At,h3,As,h9]
 eq a b w:=eq1055.h a b [str a.name,.int .i64 a.id] [str b.name,.int .i64 b.id] (fun _ _=>True) w ⟨[_],[_],rfl,rfl,rfl⟩ ⟨[_],[_],rfl,rfl,rfl⟩
 bits k:=by simp [Instr.sameBits,bq,str,re]
 now:=⟨_,D1,.inr fun a b=>by simp [Instr.sameNow,bq]⟩
def GF (q:Ref)(ks:List Ref):List Ref:=cond (memK q ks) ks (ks++[q])
def ku (a0:Int)(l:aj)(ks:List Ref)(i1:Bool):Option (List Ref):=cond i1 (some (GF (⟨l.from_,a0⟩:Ref) ks)) (some ks)
def qG (a0 a1:Int)(l:aj)(ks:List Ref):Option (List Ref):=cond (decide (l.how=2)) (ku a0 l ks (memK (⟨l.to,a1⟩:Ref) ks)) (ku a0 l ks false)
theorem EC:Nm prog 167:=nmK func167
theorem FY (a0 a1:Int)(l:aj)(vm:Value)(ks:List Ref):Ctr prog 167 [isI .i64 a0,isI .i64 a1,c7 tLink l,c7 tRaw vm] [mapO bq vm ks] (qG a0 a1 l ks) (fun q _=>[mapO bq vm q]) (fun _=>wS):=by
 refine .w func167 ntmps167 fun hf A w=>?_
 unfold qG
 refine .seq<|.join1 (fun i1=>⟨[(0,isI .i64 a0,none),(2,c7 tLink l,none),(3,c7 tRaw vm,none),(16,isB i1,none)],[mapO bq vm ks]⟩) (fun i1=>ku a0 l ks i1) (fun i1=>?_) (fun hj1=>?_)
 ·refine .cd z ?_ ?_
  ·refine .g<|go ?_
   exact .unRaw 17 z<|.mapAdd (T:=tRef) 0 z z z u143 gK<|.nil<|.end0 hf z (fun _=>sbL)
  ·exact .skip<|.end0 hf z (fun _=>sbL)
 ·refine .g<|go ?_
  refine .split 9 z (fun _=>?_) (fun _=>?_)
  ·refine go ?_
   refine .unRaw 10 z<|.lookup (T:=tRef) 0 z z z u143 gK (by kernel_rfl) z<|fj (hj1 _)
  ·exact fj (hj1 _)
theorem wz (fu:Nat)(a0:ac)(a1:aj){σ2:Type}(a2:Int→Int→σ2→Option σ2)(O2:σ2→List Own)(g2:Nat)(k2:List VA)(hn2:Nm prog g2)(hc2:∀ (x0:Int) (x1:Int) (s:σ2),Ctr prog g2 ([isI .i64 x0,isI .i64 x1]++k2) (O2 s) (a2 x0 x1 s) (fun q _=>O2 q) (fun _=>wS))(s2:σ2):Ctr prog 82 [tBase.va a0,tLink.va a1,ce g2 k2] (O2 s2) (md fu a0 a1 a2 s2) (fun q _=>O2 q) (fun q=>wS):=by
 refine .w func82 ntmps82 fun hf A w=>?_
 unfold md
 refine .s<|.box (T:=tBase) z z fun b1=>.box (T:=tLink) z z fun b2=>.nil<|.seq<|.pb (jY fu _ _) jW fun q3 h1 kk=>.pT fun h2=>?_
 refine .drawS 10 [] [9] [] mix (by kernel_rfl) sts z<|.cons (d:=6) z z fun _ _ hE h=>.alloc tTable d0_27 [] z27 z fun b4=>.toEnd<|h _ _ (.same<|.same<|jE.app)<|.nil<|.front (B:=_::_::_)<|go ?_
 refine .seq<|.pb (c66 fu _) n66 fun q5 h3 kk2=>.draw 4 [] mix (by kernel_rfl) sts z<|.call0 (c68 fu _ _) n68 z z fun q6=>go ?_
 refine .s<|go ?_
 refine .block<|.loop<|.drop (.d<|.c<|.c<|.refl _)<|.keep [2,6,7,26,27,28] [] z<|(show ∀ (n1:Nat) (i7:Int) (i8:σ2),W _ _ _ _ _ ⟨[(2,ce g2 k2,none),(6,isP b4 0,none),(7,isI .i64 q6,none),(26,(tL tRow).va (((a0.tabs.getD q3.toNat default).table).rows),none),(27,isI .i64 (List.length (((a0.tabs.getD q3.toNat default).table).rows):Int),none),(28,isI .i64 i7,none)],boxO b4 tTable ((a0.tabs.getD q3.toNat default).table) []::O2 i8⟩ (cN fu a0 a2 q3 q6 n1 i7 i8) from ?_) fu _ _
 intro n1
 induction n1 with
 | zero=>exact fun _ _=>.stop
 | succ n1 ih1=>
  intro i7 i8
  refine .inLoop<|.s<|go ?_
  refine .seq<|.cd z ?_ ?_
  ·refine .skip<|.seq<|.block<|.s<|go ?_
   refine .alloc tRow d0_37 [] z37 z fun b9=>go ?_
   refine .s<|go ?_
   refine .call0 (aY.plain (c49 fu _ _)) n49 z z fun q10=>go ?_
   refine .alloc tVal d0_47 [] z47 z fun b11=>go ?_
   refine .s<|go ?_
   refine .join1 (fun i12=>⟨[(2,ce g2 k2,none),(6,isP b4 0,none),(7,isI .i64 q6,none),(26,(tL tRow).va (((a0.tabs.getD q3.toNat default).table).rows),none),(27,isI .i64 (List.length (((a0.tabs.getD q3.toNat default).table).rows):Int),none),(28,isI .i64 i7,none)],boxO b4 tTable ((a0.tabs.getD q3.toNat default).table) []::O2 i12⟩) (fun i12=>iN i7 (cN fu a0 a2 q3 q6 n1) i12) (fun i12=>?_) (fun hj2=>?_)
   ·exact fj (ih1 _ _)
   ·refine .cd z ?_ ?_
    ·refine .g<|go ?_
     exact .callCT [_,_,_] z (hc2 _ _ _) hn2 z z fun q13=>fj (hj2 _)
    ·exact fj (hj2 _)
  ·exact .exit z<|.end0 hf z (fun _=>sbL)
def gb (fu:Nat)(a0:ac)(n0:Int)(rec1:Int→List Ref→Option (List Ref)):Nat→Int→List Ref→Option (List Ref)
 | 0,_,_=>none
 | n2+1,i4,i5=>cond (decide (i4 < (a0.links.length:Int))) (cond (decide (0≤i4)&&decide (i4 < (a0.links.length:Int))) ((md fu a0 (a0.links.getD i4.toNat default) (fun x0 x1 s=>qG x0 x1 (a0.links.getD i4.toNat default) s) i5).bind fun q6=>gb fu a0 n0 rec1 n2 (IntKind.i64.wrap (i4+1)) q6) none) (rec1 n0 i5)
def bt (fu:Nat)(a0:ac):Nat→Int→List Ref→Option (List Ref)
 | 0,_,_=>none
 | n1+1,i1,i2=>cond (!decide (i1=(i2.length:Int))) (gb fu a0 (i2.length:Int) (bt fu a0 n1) fu 0 i2) (some i2)
def yF (fu:Nat)(a0:ac)(a1:List UInt8)(a2:Int):Option (List Ref):=bt fu a0 fu 0 [(⟨a1,a2⟩:Ref)]
theorem ET:Nm prog 109:=nmK func109
theorem BS:bx prog 143 tRaw (.map none) []:=⟨.map none,by kernel_rfl,fun A w=>⟨rfl,rfl⟩,fun _ h=>nomatch h⟩
theorem Gh (fu:Nat)(a0:ac)(a1:List UInt8)(a2:Int):aY prog 109 [tBase.va a0,isS a1,isI .i64 a2] [] (yF fu a0 a1 a2) (fun v=>v) (fun q v=>[mapO bq v q]) (fun _ v=>tRaw.va v):=by
 refine .w func109 ntmps109 fun hf A w=>?_
 unfold yF
 refine .s<|.box (T:=tBase) z z fun b1=>go ?_
 refine .s<|.makeMap bq z fun v2=>go ?_
 refine .insert (Tk:=tRef) 0 z z z u143 gK<|.m z z<|.toRawM 0 15 z z<|.alloc tRaw (.map none) [] BS z fun b3=>go ?_
 refine .frzP 0 7 z z<|.seq<|.s<|go ?_
 refine .block<|.loop<|.use ((show ∀ (n1:Nat) (i1:Int) (i2:List Ref),W _ _ _ _ _ ⟨[(3,isP b1 0,none),(7,c7 tRaw v2,none),(8,isI .i64 i1,none)],[mapO bq v2 i2,boxO b1 tBase a0 []]⟩ (bt fu a0 n1 i1 i2) from ?_) fu _ _) sbS sbB
 intro n1
 induction n1 with
 | zero=>exact fun _ _=>.stop
 | succ n1 ih1=>
  intro i1 i2
  refine .inLoop<|.seq<|.s<|go ?_
  refine .unRaw 17 z<|.lenMap 0 z z u143 z<|go ?_
  refine .cd z ?_ ?_
  ·refine .skip<|.block<|.s<|go ?_
   refine .unRaw 20 z<|.lenMap 0 z z u143 z<|go ?_
   refine .s<|go ?_
   refine .block<|.loop<|.use ((show ∀ (n2:Nat) (i4:Int) (i5:List Ref),W _ _ _ _ _ ⟨[(3,isP b1 0,none),(7,c7 tRaw v2,none),(8,isI .i64 (i2.length:Int),none),(23,(tL tLink).va a0.links,none),(24,isI .i64 (a0.links.length:Int),none),(25,isI .i64 i4,none)],[mapO bq v2 i5,boxO b1 tBase a0 []]⟩ (gb fu a0 (i2.length:Int) (bt fu a0 n1) n2 i4 i5) from ?_) fu _ _) sbS sbB
   intro n2
   induction n2 with
   | zero=>exact fun _ _=>.stop
   | succ n2 ih2=>
    intro i4 i5
    refine .inLoop<|.s<|go ?_
    refine .seq<|.cd z ?_ ?_
    ·refine .skip<|.seq<|.block<|.s<|go ?_
     refine .alloc tLink d0_1044 [] z1044 z fun b4=>go ?_
     refine .g<|go ?_
     refine .frzP 0 10 z z<|.makeF z z<|.call1 0 (wz fu _ _ (fun x0 x1 s=>qG x0 x1 (a0.links.getD i4.toNat default) s) (fun s=>[mapO bq v2 s]) 167 [c7 tLink (a0.links.getD i4.toNat default),c7 tRaw v2] EC (fun x0 x1 s=>FY x0 x1 (a0.links.getD i4.toNat default) v2 s) _) z xB z z fun q6=>fj (ih2 _ _)
    ·exact fj (ih1 _ _)
  ·refine .exit z<|.s<|go ?_
   exact .retL1 v2 hf z (.tmp z) z (fun _ _ _ h=>h.1) sbL
def qP (a0 a1:Int)(l:aj)(ks:List Ref)(s:Bool):Option Bool:=cond s (some true) (cond (decide (l.how=1)) (cond (memK (⟨l.to,a1⟩:Ref) ks) (some (!memK (⟨l.from_,a0⟩:Ref) ks)) (some false)) (some false))
theorem ES:Nm prog 110:=nmK func110
theorem Gf (a0 a1:Int)(bs:Nat)(l:aj)(vm:Value)(ks:List Ref)(s:Bool):Ctr prog 110 [isI .i64 a0,isI .i64 a1,isP bs 0,c7 tLink l,c7 tRaw vm] [boxO bs tB s [],mapO bq vm ks] (qP a0 a1 l ks s) (fun q _=>[boxO bs tB q [],mapO bq vm ks]) (fun _=>wS):=by
 refine .w func110 ntmps110 fun hf A w=>?_
 unfold qP
 refine .g<|go ?_
 refine .split 8 z (fun _=>?_) (fun _=>?_)
 ·refine go ?_
  exact .end0 hf z (fun _=>sbL)
 ·refine go ?_
  refine .split 12 z (fun _=>?_) (fun _=>?_)
  ·refine go ?_
   refine .unRaw 13 z<|.lookup (T:=tRef) 1 z z z u143 gK (by kernel_rfl) z<|go ?_
   refine .split 20 z (fun _=>?_) (fun _=>?_)
   ·refine go ?_
    refine .unRaw 21 z<|.lookup (T:=tRef) 1 z z z u143 gK (by kernel_rfl) z<|go ?_
    exact .end0 hf z (fun _=>sbL)
   ·refine go ?_
    exact .end0 hf z (fun _=>sbL)
  ·refine go ?_
   exact .end0 hf z (fun _=>sbL)
theorem rG {A A':Ar}{w:World}{args:List Value}{v1 v2:Value}{tabs:List Tab}{links:List aj}{nm:List UInt8}(hs:da A A' w w)(hl:slRel tTab tabs v1 A' w∧slRel tLink links v2 A' w)(ha:gU A w args [tBaseA.va (⟨v1,v2⟩:aL),isS nm]):gU A' w args [tBase.va (⟨tabs,links⟩:ac),isS nm]:=by
 cases ha with
 | cons h1 h2=>
  cases h2 with
  | cons h3 h4=>
   cases h4
   obtain ⟨cs,rfl,h⟩:=h1
   have h':=tBaseA.good hs h
   exact .cons ⟨cs,z,conv1026_1.h (conv1026_0.h h' hl.1) hl.2⟩ (.cons h3 .nil)
def d3 (fu:Nat)(a0:Int)(l:aj)(links:List aj)(tabs:List Tab)(i1:Bool):Option (List Tab):=cond i1 ((fb fu (⟨tabs,links⟩:ac) l.from_).bind fun q2=>cond (decide (0≤q2)&&decide (q2 < (tabs.length:Int))) ((f75 fu (tabs.getD q2.toNat default).table a0 [(⟨l.col,⟨0,0,[]⟩⟩:Set)]).bind fun q3=>some (tabs.set q2.toNat { (tabs.getD q2.toNat default) with table:=q3.1 })) none) (some tabs)
def qO (fu:Nat)(a0 a1:Int)(l:aj)(ks:List Ref)(links:List aj)(tabs:List Tab):Option (List Tab):=cond (decide (l.how=3)) (cond (memK (⟨l.to,a1⟩:Ref) ks) (d3 fu a0 l links tabs (!memK (⟨l.from_,a0⟩:Ref) ks)) (d3 fu a0 l links tabs false)) (d3 fu a0 l links tabs false)
theorem ER:Nm prog 112:=nmK func112
theorem Ge (fu:Nat)(a0 a1:Int)(bo:Nat)(v1 v2:Value)(l:aj)(vm:Value)(ks:List Ref)(links:List aj)(tabs:List Tab):Ctr prog 112 [isI .i64 a0,isI .i64 a1,c7 tLink l,c7 tRaw vm,isP bo 0] [boxO bo tBaseA (⟨v1,v2⟩:aL) [],arrO tTab v1 tabs,arrO tLink v2 links,mapO bq vm ks] (qO fu a0 a1 l ks links tabs) (fun q _=>[boxO bo tBaseA (⟨v1,v2⟩:aL) [],arrO tTab v1 q,arrO tLink v2 links,mapO bq vm ks]) (fun _=>wS):=by
 refine .w func112 ntmps112 fun hf A w=>?_
 unfold qO
 refine .seq<|.join1 (fun i1=>⟨[(0,isI .i64 a0,none),(2,c7 tLink l,none),(4,isP bo 0,none),(27,isB i1,none)],[boxO bo tBaseA (⟨v1,v2⟩:aL) [],arrO tTab v1 tabs,arrO tLink v2 links,mapO bq vm ks]⟩) (fun i1=>d3 fu a0 l links tabs i1) (fun i1=>?_) (fun hj1=>?_)
 ·refine .cd z ?_ ?_
  ·refine .s<|go ?_
   refine .callLend (jY fu (⟨tabs,links⟩:ac) l.from_) (fun a w hk=>Cn 1 2 z z hk) rG (fun _ _ _ _ _ _ h=>h) jW z z fun q2=>go ?_
   refine .pT fun h2=>.pb (c75 fu _ _ _) n75 fun q3 h3 kk=>.drawT 21 [] [6,7,8,14,15,16,17,18,19,20] [1] mix (by kernel_rfl) sts z<|.node (.on ?_<|.off (by kernel_rfl)<|.off (by kernel_rfl)<|.off (by kernel_rfl)<|.off (by kernel_rfl)<|.off (by kernel_rfl)<|.off (by kernel_rfl)<|.off (by kernel_rfl)<|.off (by kernel_rfl)<|.off (by kernel_rfl)<|.nil)
   ·refine .put 39 z z fun _ _ hE h=>.useC h2<|.elemA 1 (hE.op z) (hE.op z) z u26 bf z<|h _ _ (.same<|.hole z<|.same<|.same<|.nil)<|.node (.on ?_<|.off (by kernel_rfl)<|.off (by kernel_rfl)<|.off (by kernel_rfl)<|.off (by kernel_rfl)<|.off (by kernel_rfl)<|.off (by kernel_rfl)<|.off (by kernel_rfl)<|.off (by kernel_rfl)<|.nil)
    ·refine .put 40 z z fun _ _ hE h=>.fieldA (hE.op z) aC z<|h _ _ (.same<|.hole z<|.same<|.same<|.nil)<|.node (.on ?_<|.off (by kernel_rfl)<|.off (by kernel_rfl)<|.off (by kernel_rfl)<|.off (by kernel_rfl)<|.off (by kernel_rfl)<|.off (by kernel_rfl)<|.off (by kernel_rfl)<|.nil)
     ·refine .put 41 z z fun _ _ hE h=>.loadA 1 fTab_1 (hE.op z) z ty27 z<|h _ _ (.same<|.hole z<|.same<|.same<|.nil)<|.node (.on ?_<|.off (by kernel_rfl)<|.off (by kernel_rfl)<|.off (by kernel_rfl)<|.off (by kernel_rfl)<|.off (by kernel_rfl)<|.off (by kernel_rfl)<|.nil)
      ·refine .put 47 z z fun _ _ hE h=>.cr (hE.ops z) kk z<|h _ _ (.same<|.hole z<|.same<|.same<|.nil)<|.node (.on ?_<|.off (by kernel_rfl)<|.off (by kernel_rfl)<|.off (by kernel_rfl)<|.off (by kernel_rfl)<|.off (by kernel_rfl)<|.nil)
       ·refine .put 32 z z fun _ _ hE h=>.m (hE.op z) z<|h _ _ (.same<|.hole z<|.same<|.same<|.nil)<|.node (.on ?_<|.on ?_<|.off (by kernel_rfl)<|.off (by kernel_rfl)<|.off (by kernel_rfl)<|.nil)
        ·refine .put 48 z z fun _ _ hE h=>.extract (hE.op z) z z<|h _ _ (.same<|.hole z<|.same<|.same<|.nil)<|.node (.on ?_<|.on ?_<|.off (by kernel_rfl)<|.off (by kernel_rfl)<|.nil)
         ·refine .put 49 z z fun _ _ hE h=>.extract (hE.op z) z z<|h _ _ (.same<|.hole z<|.same<|.same<|.nil)<|.node (.on ?_<|.off (by kernel_rfl)<|.off (by kernel_rfl)<|.nil)
          ·refine .put 50 z z fun _ _ hE h=>.useC h2<|.elemA 1 (hE.op z) (hE.op z) z u26 bf z<|h _ _ (.same<|.hole z<|.same<|.same<|.nil)<|.node (.on ?_<|.off (by kernel_rfl)<|.nil)
           ·refine .put 51 z z fun _ _ hE h=>.fieldA (hE.op z) aC z<|h _ _ (.same<|.hole z<|.same<|.same<|.nil)<|.node (.on ?_<|.nil)
            ·exact .act z fun _ _ hE h=>.storeA 1 fTab_1 (hE.op z) z (hE.op z) ty27<|h _ (.same<|.hole z<|.same<|.same<|.nil)<|.leaf<|.nil<|.end0 hf z (fun _=>sbL)
         ·refine .put 50 z z fun _ _ hE h=>.useC h2<|.elemA 1 (hE.op z) (hE.op z) z u26 bf z<|h _ _ (.same<|.hole z<|.same<|.same<|.nil)<|.node (.on ?_<|.on ?_<|.off (by kernel_rfl)<|.nil)
          ·refine .put 49 z z fun _ _ hE h=>.extract (hE.op z) z z<|h _ _ (.same<|.hole z<|.same<|.same<|.nil)<|.node (.on ?_<|.off (by kernel_rfl)<|.nil)
           ·refine .put 51 z z fun _ _ hE h=>.fieldA (hE.op z) aC z<|h _ _ (.same<|.hole z<|.same<|.same<|.nil)<|.node (.on ?_<|.nil)
            ·exact .act z fun _ _ hE h=>.storeA 1 fTab_1 (hE.op z) z (hE.op z) ty27<|h _ (.same<|.hole z<|.same<|.same<|.nil)<|.leaf<|.nil<|.end0 hf z (fun _=>sbL)
          ·refine .put 51 z z fun _ _ hE h=>.fieldA (hE.op z) aC z<|h _ _ (.same<|.hole z<|.same<|.same<|.nil)<|.node (.on ?_<|.on ?_<|.nil)
           ·refine .put 49 z z fun _ _ hE h=>.extract (hE.op z) z z<|h _ _ (.same<|.hole z<|.same<|.same<|.nil)<|.node (.on ?_<|.nil)
            ·exact .act z fun _ _ hE h=>.storeA 1 fTab_1 (hE.op z) z (hE.op z) ty27<|h _ (.same<|.hole z<|.same<|.same<|.nil)<|.leaf<|.nil<|.end0 hf z (fun _=>sbL)
           ·refine .act z fun _ _ hE h=>.storeA 1 fTab_1 (hE.op z) z (hE.op z) ty27<|h _ (.same<|.hole z<|.same<|.same<|.nil)<|.node (.on ?_<|.nil)
            ·exact .put 49 z z fun _ _ hE h=>.extract (hE.op z) z z<|h _ _ (.same<|.hole z<|.same<|.same<|.nil)<|.leaf<|.nil<|.end0 hf z (fun _=>sbL)
        ·refine .put 49 z z fun _ _ hE h=>.extract (hE.op z) z z<|h _ _ (.same<|.hole z<|.same<|.same<|.nil)<|.node (.on ?_<|.off (by kernel_rfl)<|.off (by kernel_rfl)<|.off (by kernel_rfl)<|.nil)
         ·refine .put 48 z z fun _ _ hE h=>.extract (hE.op z) z z<|h _ _ (.same<|.hole z<|.same<|.same<|.nil)<|.node (.on ?_<|.off (by kernel_rfl)<|.off (by kernel_rfl)<|.nil)
          ·refine .put 50 z z fun _ _ hE h=>.useC h2<|.elemA 1 (hE.op z) (hE.op z) z u26 bf z<|h _ _ (.same<|.hole z<|.same<|.same<|.nil)<|.node (.on ?_<|.off (by kernel_rfl)<|.nil)
           ·refine .put 51 z z fun _ _ hE h=>.fieldA (hE.op z) aC z<|h _ _ (.same<|.hole z<|.same<|.same<|.nil)<|.node (.on ?_<|.nil)
            ·exact .act z fun _ _ hE h=>.storeA 1 fTab_1 (hE.op z) z (hE.op z) ty27<|h _ (.same<|.hole z<|.same<|.same<|.nil)<|.leaf<|.nil<|.end0 hf z (fun _=>sbL)
  ·exact .skip<|.end0 hf z (fun _=>sbL)
 ·refine .g<|go ?_
  refine .split 11 z (fun _=>?_) (fun _=>?_)
  ·refine go ?_
   refine .unRaw 12 z<|.lookup (T:=tRef) 3 z z z u143 gK (by kernel_rfl) z<|go ?_
   refine .split 19 z (fun _=>?_) (fun _=>?_)
   ·refine go ?_
    refine .unRaw 20 z<|.lookup (T:=tRef) 3 z z z u143 gK (by kernel_rfl) z<|fj (hj1 _)
   ·exact fj (hj1 _)
  ·exact fj (hj1 _)
def ii {σ:Type}(f:Ref→σ→Option σ):List Ref→σ→Option σ
 | [],s=>some s
 | k::l,s=>(f k s).bind fun t=>ii f l t
noncomputable def BP {σ:Type} (f:Ref→σ→Option σ) (ks:List Ref) (s:σ):Option σ:=by
 classical exact if h:∃ x,∀ p:List Ref,p.Perm ks→ii f p s=some x then some h.choose else none
theorem wF {σ:Type}{f:Ref→σ→Option σ}{ks:List Ref}{s x:σ}(h:BP f ks s=some x):∀ p:List Ref,p.Perm ks→ii f p s=some x:=by
 unfold BP at h
 split at h
 case isTrue h1=>injection h with h;exact h▸h1.choose_spec
 case isFalse=>cases h
theorem Bh {σ:Type}{f:Ref→σ→Option σ}{ks:List Ref}{s x:σ}(h:∀ p:List Ref,p.Perm ks→ii f p s=some x):BP f ks s=some x:=by
 have h1:∃ x,∀ p:List Ref,p.Perm ks→ii f p s=some x:=⟨x,h⟩
 unfold BP
 rw [dif_pos h1]
 have:=h1.choose_spec ks (.refl _)
 rw [h ks (.refl _)] at this
 exact this.symm
theorem tf {σ:Type}{f:Ref→σ→Option σ}{k:Ref}{lk lk':List Ref}{s x:σ}(hp:∀ p:List Ref,p.Perm lk→ii f p s=some x)(hk:lk.Perm (k::lk')):∃ t,f k s=some t∧∀ p:List Ref,p.Perm lk'→ii f p t=some x:=by
 have h:=hp _ hk.symm
 simp only [ii] at h
 cases ht:f k s with
 | none=>rw [ht] at h;cases h
 | some t=>
  refine ⟨t,z,fun p hpp=>?_⟩
  have h:=hp (k::p) ((hpp.cons k).trans hk.symm)
  simpa only [ii,ht,Option.bind_some] using h
def fC (fu:Nat)(links:List aj)(k:Ref)(tabs:List Tab):Option (List Tab):=(fb fu (⟨tabs,links⟩:ac) k.name).bind fun q2=>cond (decide (0≤q2)&&decide (q2 < (tabs.length:Int))) ((f40 fu (tabs.getD q2.toNat default).table k.id).bind fun q3=>some (tabs.set q2.toNat { (tabs.getD q2.toNat default) with table:=q3.1 })) none
theorem qg {fu:Nat}{links:List aj}{k:Ref}{tabs X:List Tab}(h:fC fu links k tabs=some X):∃ q2 q3,fb fu (⟨tabs,links⟩:ac) k.name=some q2∧(decide (0≤q2)&&decide (q2 < (tabs.length:Int)))=true∧f40 fu (tabs.getD q2.toNat default).table k.id=some q3∧X=tabs.set q2.toNat { (tabs.getD q2.toNat default) with table:=q3.1 }:=by
 unfold fC at h
 cases h2:fb fu (⟨tabs,links⟩:ac) k.name with
 | none=>rw [h2] at h;cases h
 | some q2=>
  rw [h2] at h
  simp only [Option.bind_some] at h
  cases hb:(decide (0≤q2)&&decide (q2 < (tabs.length:Int))) with
  | false=>rw [hb] at h;cases h
  | true=>
   rw [hb] at h
   simp only [cond_true] at h
   cases h3:f40 fu (tabs.getD q2.toNat default).table k.id with
   | none=>rw [h3] at h;cases h
   | some q3=>
    rw [h3] at h
    simp only [Option.bind_some] at h
    injection h with h
    exact ⟨q2,q3,z,hb,h3,h.symm⟩
def fc (fu:Nat)(a0:ac)(ks:List Ref)(links:List aj):Nat→Int→List Tab→Option (ac×Int)
 | 0,_,_=>none
 | n2+1,i,tabs=>cond (decide (i < (a0.links.length:Int))) (cond (decide (0≤i)&&decide (i < (a0.links.length:Int))) ((md fu a0 (a0.links.getD i.toNat default) (fun x0 x1 s=>qO fu x0 x1 (a0.links.getD i.toNat default) ks links s) tabs).bind fun q=>fc fu a0 ks links n2 (IntKind.i64.wrap (i+1)) q) none) (some ((⟨tabs,links⟩:ac),0))
noncomputable def kL (fu:Nat) (a0 q4:ac) (ks:List Ref) (s:Bool):Option (ac×Int):=cond s (some (q4,6)) ((BP (fC fu q4.links) ks q4.tabs).bind fun X=>fc fu a0 ks q4.links fu 0 X)
noncomputable def gj (fu:Nat) (a0 q4:ac) (ks:List Ref):Nat→Int→Bool→Option (ac×Int)
 | 0,_,_=>none
 | n1+1,i,s=>cond (decide (i < (a0.links.length:Int))) (cond (decide (0≤i)&&decide (i < (a0.links.length:Int))) ((md fu a0 (a0.links.getD i.toNat default) (fun x0 x1 s=>qP x0 x1 (a0.links.getD i.toNat default) ks s) s).bind fun q=>gj fu a0 q4 ks n1 (IntKind.i64.wrap (i+1)) q) none) (kL fu a0 q4 ks s)
noncomputable def wj (fu:Nat) (a0:ac) (a1:List UInt8) (a2:Int):Option (ac×Int):=(lS fu a0).bind fun q1=>cond (!q1) (some ((⟨[],[]⟩:ac),1)) ((eE fu a0).bind fun q4=>(vV fu a0 a1 a2).bind fun q5=>cond (!q5) (some (q4,5)) ((yF fu a0 a1 a2).bind fun ks=>gj fu a0 q4 ks fu 0 false))
theorem E9:Nm prog 46:=nmK func46
theorem Gy (fu:Nat)(a0:ac)(a1:List UInt8)(a2:Int):Ctr prog 46 [tBase.va a0,isS a1,isI .i64 a2] [] (wj fu a0 a1 a2) (fun _ _=>[]) (fun q=>tup [tBase.va q.1,isI .i64 q.2]):=by
 refine .w func46 ntmps46 fun hf A w=>?_
 unfold wj
 refine .s<|.box (T:=tBase) z z fun b1=>.alloc tBaseA av [] aA z fun b2=>go ?_
 refine .seq<|.s<|go ?_
 refine .call0 (rd fu _) qj z z fun q1=>go ?_
 refine .cd z ?_ ?_
 ·refine .s<|go ?_
  exact .storeW 0 z z z z ao<|fr
 ·refine .skip<|.s<|go ?_
  refine .callL0 (gv fu _) gr z z fun q4 p5=>.alloc tBaseA av [] aA z fun b3=>go ?_
  refine .seq<|.s<|go ?_
  refine .call0 (Gi fu _ _ _) EU z z fun q5=>go ?_
  refine .cd z ?_ ?_
  ·refine .s<|go ?_
   exact .frzBox 3 1 conv1026_0 z z<|.frzBox 3 2 conv1026_1 z z<|fr
  ·refine .skip<|.s<|go ?_
   refine .callL0 (Gh fu _ _ _) ET z z fun ks vm=>.alloc tRaw (.map none) [] BS z fun b4=>go ?_
   refine .frzP 0 9 z z<|.s<|.alloc tB Fp [] z4 z fun b5=>go ?_
   refine .seq<|.s<|go ?_
   refine .block<|.loop<|.use ((show ∀ (n1:Nat) (i:Int) (s:Bool),W _ _ _ _ _ ⟨[(3,isP b1 0,none),(6,isP b2 0,none),(8,isP b3 0,none),(9,c7 tRaw vm,none),(10,isP b5 0,none),(34,(tL tLink).va a0.links,none),(35,isI .i64 (a0.links.length:Int),none),(36,isI .i64 i,none)],[boxO b5 tB s [],mapO bq vm ks,boxO b3 tBaseA (⟨p5.1,p5.2⟩:aL) [],arrO tTab p5.1 q4.tabs,arrO tLink p5.2 q4.links,boxO b2 tBaseA av [],boxO b1 tBase a0 []]⟩ (gj fu a0 q4 ks n1 i s) from ?_) fu _ _) sbS sbB
   intro n1
   induction n1 with
   | zero=>exact fun _ _=>.stop
   | succ n1 ih1=>
    intro i s
    refine .inLoop<|.s<|go ?_
    refine .seq<|.cd z ?_ ?_
    ·refine .skip<|.seq<|.block<|.s<|go ?_
     refine .alloc tLink d0_1044 [] z1044 z fun b6=>go ?_
     refine .g<|go ?_
     refine .frzP 0 12 z z<|.makeF z z<|.callNS [0,0] (wz fu _ _ (fun x0 x1 s=>qP x0 x1 (a0.links.getD i.toNat default) ks s) (fun s=>[boxO b5 tB s [],mapO bq vm ks]) 110 [isP b5 0,c7 tLink (a0.links.getD i.toNat default),c7 tRaw vm] ES (fun x0 x1 s=>Gf x0 x1 b5 (a0.links.getD i.toNat default) vm ks s) _) z xB z z fun q6=>fj (ih1 _ _)
    ·refine .exit z<|.seq<|.s<|go ?_
     unfold kL
     refine .cd z ?_ ?_
     ·refine .s<|go ?_
      exact .frzBox 5 3 conv1026_0 z z<|.frzBox 5 4 conv1026_1 z z<|fr
     ·refine .skip<|.pbind fun X hX=>?_
      have hX:=wF hX
      clear ih1
      refine .seq<|.s<|go ?_
      refine .unRaw 47 z<|.rangeMap (mk:=bq) 1 z z u143 z fun it m es clock hv hE hB hl=>?_
      subst hv
      refine .nil<|.block<|.loop<|.use ((show ∀ (N:Nat) (lk:List Ref) (seen:Array Nat) (tabs:List Tab),lk.length < N→HL.Left bq es seen lk→(∀ p:List Ref,p.Perm lk→ii (fC fu q4.links) p tabs=some X)→W _ _ _ _ _ ⟨[(3,isP b1 0,none),(6,isP b2 0,none),(8,isP b3 0,none),(9,c7 tRaw (.map (some m)),none),(48,isP it 0,none)],[iterO it m clock clock seen,mapE m es clock,boxO b3 tBaseA (⟨p5.1,p5.2⟩:aL) [],arrO tTab p5.1 tabs,arrO tLink p5.2 q4.links,boxO b2 tBaseA av [],boxO b1 tBase a0 []]⟩ (fc fu a0 ks q4.links fu 0 X) from ?_) (ks.length+1) ks #[] q4.tabs (Nat.lt_succ_self _) hl hX) sbS sbB
      intro N
      induction N with
      | zero=>exact fun _ _ _ h=>absurd h (Nat.not_lt_zero _)
      | succ N ih=>
       intro lk seen tabs hlt hl hp
       refine .inLoop<|.s<|.nextMap2 0 1 z z z hB (Nat.le_refl _) hl z (fun h0=>?_) (fun k lk' en hperm hl2 hen hk hv=>?_)
       ·subst h0
        have hT:tabs=X:=by simpa [ii] using hp [] (.refl _)
        subst hT
        refine go ?_
        refine .seq<|.condF z<|.exit z<|.mapBack 1 z hE hB<|.seq<|.s<|go ?_
        refine .block<|.loop<|.use ((show ∀ (n2:Nat) (i:Int) (tabs:List Tab),W _ _ _ _ _ ⟨[(3,isP b1 0,none),(6,isP b2 0,none),(8,isP b3 0,none),(9,c7 tRaw (.map (some m)),none),(75,(tL tLink).va a0.links,none),(76,isI .i64 (a0.links.length:Int),none),(77,isI .i64 i,none)],[boxO b3 tBaseA (⟨p5.1,p5.2⟩:aL) [],arrO tTab p5.1 tabs,arrO tLink p5.2 q4.links,mapO bq (.map (some m)) ks,boxO b2 tBaseA av [],boxO b1 tBase a0 []]⟩ (fc fu a0 ks q4.links n2 i tabs) from ?_) fu _ _) sbS sbB
        clear hp ih hX
        intro n2
        induction n2 with
        | zero=>exact fun _ _=>.stop
        | succ n2 ih2=>
         intro i tabs
         refine .inLoop<|.s<|go ?_
         refine .seq<|.cd z ?_ ?_
         ·refine .skip<|.seq<|.block<|.s<|go ?_
          refine .alloc tLink d0_1044 [] z1044 z fun b8=>go ?_
          refine .g<|go ?_
          refine .frzP 0 16 z z<|.makeF z z<|.callNS [0,0,0,0] (wz fu _ _ (fun x0 x1 s=>qO fu x0 x1 (a0.links.getD i.toNat default) ks q4.links s) (fun s=>[boxO b3 tBaseA (⟨p5.1,p5.2⟩:aL) [],arrO tTab p5.1 s,arrO tLink p5.2 q4.links,mapO bq (.map (some m)) ks]) 112 [c7 tLink (a0.links.getD i.toNat default),c7 tRaw (.map (some m)),isP b3 0] ER (fun x0 x1 s=>Ge fu x0 x1 b3 p5.1 p5.2 (a0.links.getD i.toNat default) (.map (some m)) ks q4.links s) _) z xB z z fun q6=>fj (ih2 _ _)
         ·refine .exit z<|.s<|go ?_
          exact .frzBox 4 1 conv1026_0 z z<|.frzBox 4 2 conv1026_1 z z<|fr
       ·have hlt:lk'.length < N:=by
         have:=hperm.length_eq
         simp at this
         omega
        obtain ⟨t',ht,hf2⟩:=tf hp hperm
        obtain ⟨q2,q3,h2,hb,h3,rfl⟩:=qg ht
        have kk:CR prog 111 [tTable.va (tabs.getD q2.toNat default).table,isI .i64 k.id] q3 (fun q=>tup [tTable.va q.1,isI .i64 q.2]):=⟨by rw [← h3];exact c40 fu _ _,n40⟩
        refine go ?_
        refine .seq<|.condT z<|.skip<|.block<|.s<|.entryMap 0 1 z z z hB hen hk hv z<|go ?_
        refine .turnV 52 (Q':=tRef.va k) z (fun v A w h=>⟨[str k.name,.int .i64 k.id],h,⟨[_],[_],z,z,z⟩⟩)<|.alloc tRef lV [] tY z fun b7=>go ?_
        refine .s<|go ?_
        refine .lendR (y:=q2) (Q:=fun q=>isI .i64 q) (by rw [← h2];exact jY fu (⟨tabs,q4.links⟩:ac) k.name) (fun a w hk=>Cn 4 5 z z hk) rG (fun _ _ _ _ _ _ h=>h) jW z z<|go ?_
        refine .drawT 18 [] [6,7,8,11,12,13,14,15,16,17] [4] mix (by kernel_rfl) sts z<|.node (.on ?_<|.off (by kernel_rfl)<|.off (by kernel_rfl)<|.off (by kernel_rfl)<|.off (by kernel_rfl)<|.off (by kernel_rfl)<|.off (by kernel_rfl)<|.off (by kernel_rfl)<|.off (by kernel_rfl)<|.off (by kernel_rfl)<|.nil)
        ·refine .put 64 z z fun _ _ hE h=>.useC hb<|.elemA 4 (hE.op z) (hE.op z) z u26 bf z<|h _ _ (.same<|.same<|.same<|.same<|.hole z<|.same<|.same<|.same<|.nil)<|.node (.on ?_<|.off (by kernel_rfl)<|.off (by kernel_rfl)<|.off (by kernel_rfl)<|.off (by kernel_rfl)<|.off (by kernel_rfl)<|.off (by kernel_rfl)<|.off (by kernel_rfl)<|.off (by kernel_rfl)<|.nil)
         ·refine .put 65 z z fun _ _ hE h=>.fieldA (hE.op z) aC z<|h _ _ (.same<|.same<|.same<|.same<|.hole z<|.same<|.same<|.same<|.nil)<|.node (.on ?_<|.off (by kernel_rfl)<|.off (by kernel_rfl)<|.off (by kernel_rfl)<|.off (by kernel_rfl)<|.off (by kernel_rfl)<|.off (by kernel_rfl)<|.off (by kernel_rfl)<|.nil)
          ·refine .put 66 z z fun _ _ hE h=>.loadA 4 fTab_1 (hE.op z) z ty27 z<|h _ _ (.same<|.same<|.same<|.same<|.hole z<|.same<|.same<|.same<|.nil)<|.node (.on ?_<|.off (by kernel_rfl)<|.off (by kernel_rfl)<|.off (by kernel_rfl)<|.off (by kernel_rfl)<|.off (by kernel_rfl)<|.off (by kernel_rfl)<|.nil)
           ·refine .put 69 z z fun _ _ hE h=>.cr (hE.ops z) kk z<|h _ _ (.same<|.same<|.same<|.same<|.hole z<|.same<|.same<|.same<|.nil)<|.node (.on ?_<|.off (by kernel_rfl)<|.off (by kernel_rfl)<|.off (by kernel_rfl)<|.off (by kernel_rfl)<|.off (by kernel_rfl)<|.nil)
            ·refine .put 57 z z fun _ _ hE h=>.m (hE.op z) z<|h _ _ (.same<|.same<|.same<|.same<|.hole z<|.same<|.same<|.same<|.nil)<|.node (.on ?_<|.on ?_<|.off (by kernel_rfl)<|.off (by kernel_rfl)<|.off (by kernel_rfl)<|.nil)
             ·refine .put 70 z z fun _ _ hE h=>.extract (hE.op z) z z<|h _ _ (.same<|.same<|.same<|.same<|.hole z<|.same<|.same<|.same<|.nil)<|.node (.on ?_<|.on ?_<|.off (by kernel_rfl)<|.off (by kernel_rfl)<|.nil)
              ·refine .put 71 z z fun _ _ hE h=>.extract (hE.op z) z z<|h _ _ (.same<|.same<|.same<|.same<|.hole z<|.same<|.same<|.same<|.nil)<|.node (.on ?_<|.off (by kernel_rfl)<|.off (by kernel_rfl)<|.nil)
               ·refine .put 72 z z fun _ _ hE h=>.useC hb<|.elemA 4 (hE.op z) (hE.op z) z u26 bf z<|h _ _ (.same<|.same<|.same<|.same<|.hole z<|.same<|.same<|.same<|.nil)<|.node (.on ?_<|.off (by kernel_rfl)<|.nil)
                ·refine .put 73 z z fun _ _ hE h=>.fieldA (hE.op z) aC z<|h _ _ (.same<|.same<|.same<|.same<|.hole z<|.same<|.same<|.same<|.nil)<|.node (.on ?_<|.nil)
                 ·exact .act z fun _ _ hE h=>.storeA 4 fTab_1 (hE.op z) z (hE.op z) ty27<|h _ (.same<|.same<|.same<|.same<|.hole z<|.same<|.same<|.same<|.nil)<|.leaf<|.nil<|fj (ih _ _ _ hlt hl2 hf2)
              ·refine .put 72 z z fun _ _ hE h=>.useC hb<|.elemA 4 (hE.op z) (hE.op z) z u26 bf z<|h _ _ (.same<|.same<|.same<|.same<|.hole z<|.same<|.same<|.same<|.nil)<|.node (.on ?_<|.on ?_<|.off (by kernel_rfl)<|.nil)
               ·refine .put 71 z z fun _ _ hE h=>.extract (hE.op z) z z<|h _ _ (.same<|.same<|.same<|.same<|.hole z<|.same<|.same<|.same<|.nil)<|.node (.on ?_<|.off (by kernel_rfl)<|.nil)
                ·refine .put 73 z z fun _ _ hE h=>.fieldA (hE.op z) aC z<|h _ _ (.same<|.same<|.same<|.same<|.hole z<|.same<|.same<|.same<|.nil)<|.node (.on ?_<|.nil)
                 ·exact .act z fun _ _ hE h=>.storeA 4 fTab_1 (hE.op z) z (hE.op z) ty27<|h _ (.same<|.same<|.same<|.same<|.hole z<|.same<|.same<|.same<|.nil)<|.leaf<|.nil<|fj (ih _ _ _ hlt hl2 hf2)
               ·refine .put 73 z z fun _ _ hE h=>.fieldA (hE.op z) aC z<|h _ _ (.same<|.same<|.same<|.same<|.hole z<|.same<|.same<|.same<|.nil)<|.node (.on ?_<|.on ?_<|.nil)
                ·refine .put 71 z z fun _ _ hE h=>.extract (hE.op z) z z<|h _ _ (.same<|.same<|.same<|.same<|.hole z<|.same<|.same<|.same<|.nil)<|.node (.on ?_<|.nil)
                 ·exact .act z fun _ _ hE h=>.storeA 4 fTab_1 (hE.op z) z (hE.op z) ty27<|h _ (.same<|.same<|.same<|.same<|.hole z<|.same<|.same<|.same<|.nil)<|.leaf<|.nil<|fj (ih _ _ _ hlt hl2 hf2)
                ·refine .act z fun _ _ hE h=>.storeA 4 fTab_1 (hE.op z) z (hE.op z) ty27<|h _ (.same<|.same<|.same<|.same<|.hole z<|.same<|.same<|.same<|.nil)<|.node (.on ?_<|.nil)
                 ·exact .put 71 z z fun _ _ hE h=>.extract (hE.op z) z z<|h _ _ (.same<|.same<|.same<|.same<|.hole z<|.same<|.same<|.same<|.nil)<|.leaf<|.nil<|fj (ih _ _ _ hlt hl2 hf2)
             ·refine .put 71 z z fun _ _ hE h=>.extract (hE.op z) z z<|h _ _ (.same<|.same<|.same<|.same<|.hole z<|.same<|.same<|.same<|.nil)<|.node (.on ?_<|.off (by kernel_rfl)<|.off (by kernel_rfl)<|.off (by kernel_rfl)<|.nil)
              ·refine .put 70 z z fun _ _ hE h=>.extract (hE.op z) z z<|h _ _ (.same<|.same<|.same<|.same<|.hole z<|.same<|.same<|.same<|.nil)<|.node (.on ?_<|.off (by kernel_rfl)<|.off (by kernel_rfl)<|.nil)
               ·refine .put 72 z z fun _ _ hE h=>.useC hb<|.elemA 4 (hE.op z) (hE.op z) z u26 bf z<|h _ _ (.same<|.same<|.same<|.same<|.hole z<|.same<|.same<|.same<|.nil)<|.node (.on ?_<|.off (by kernel_rfl)<|.nil)
                ·refine .put 73 z z fun _ _ hE h=>.fieldA (hE.op z) aC z<|h _ _ (.same<|.same<|.same<|.same<|.hole z<|.same<|.same<|.same<|.nil)<|.node (.on ?_<|.nil)
                 ·exact .act z fun _ _ hE h=>.storeA 4 fTab_1 (hE.op z) z (hE.op z) ty27<|h _ (.same<|.same<|.same<|.same<|.hole z<|.same<|.same<|.same<|.nil)<|.leaf<|.nil<|fj (ih _ _ _ hlt hl2 hf2)
end Go.Proofs.YtganfdhmkdehlaaGreatDoor
