/- Functions of the program: what each answers, and that the machine answers so. -/
import Derived.Test.YtganfdhmkdehlaaGreatDoorQ2004A13
import Derived.KernelRfl
import Derived.KernelRfl
set_option linter.all false
namespace Go.Proofs.YtganfdhmkdehlaaGreatDoor
open Go Go.HL Tryz
attribute [local irreducible] W WO
def nN (i1:List Col)(i3:Rd):Option ((List Col)×Rd):=some (i1,i3)
def oU (fu:Nat)(a0:Rd):Option ((List Col)×Rd):=(f125a fu a0).bind fun q4=>cond (decide (0≤(1:Int))&&decide ((1:Int)≤(q4.1.length:Int))) ((f74 fu q4.2 6).bind fun q7=>cond (decide (List.length (q4.1.take (1:Int).toNat)+List.length ([(⟨([107]:List UInt8),1,decide (q7.1=0),d0_52.once,d0_52.def_⟩:Col)]:List Col)≤CAP)) (nN ((q4.1.take (1:Int).toNat)++([(⟨([107]:List UInt8),1,decide (q7.1=0),d0_52.once,d0_52.def_⟩:Col)]:List Col)) q7.2) none) none
theorem n1170:Nm prog 89:=⟨_,_,func89,by kernel_rfl,z⟩
theorem c1170 (fu:Nat)(bp0:Nat)(a0:Rd):Ctr prog 89 [isP bp0 0] [boxO bp0 tRd a0 []] (oU fu a0) (fun q _=>[boxO bp0 tRd q.2 []]) (fun q=>(tL tCol).va q.1):=by
 refine .w func89 ntmps89 fun hf A w=>?_
 unfold oU
 refine .s<|.assignNil tCol z<|.nil<|.seq<|.join3 (fun i1 v2 i3=>⟨[(2,(tL tCol).va i1,some v2)],[boxO bp0 tRd i3 [],appO 7 v2]⟩) (fun i1 v2 i3=>nN i1 i3) (fun i1 v2 i3=>?_) (fun hj1=>?_)
 ·exact fr
 ·refine .pbind fun q4 h1=>.pT fun h2=>.pbind fun q7 h3=>.drawT 8 [] [1,2,4,5,6,7] [0] mix (by kernel_rfl) (.j (fun o=>.m (o z) z)<|.skip<|.skip<|.j (fun o=>.m (o z) z)<|.skip<|.skip<|.skip<|.skip<|.nil) z<|.node (.on ?_<|.off (by kernel_rfl)<|.off (by kernel_rfl)<|.off (by kernel_rfl)<|.off (by kernel_rfl)<|.off (by kernel_rfl)<|.nil)
  ·refine .put 4 z z fun _ _ hE h=>.bindE2 h1 (fun r h=>.callAE 0 (c125a fu _ _) z n125 (hE.ops z) z h) fun v5=>h _ _ (.hole z<|.nil)<|.node (.on ?_<|.on ?_<|.off (by kernel_rfl)<|.off (by kernel_rfl)<|.off (by kernel_rfl)<|.nil)
   ·refine .put 5 z z fun _ _ hE h=>.useC h2<|.cutA (T:=tCol) 1 (hE.op z) (hE.op z) z u36 cq z fun v6=>h _ _ (.hole z<|.nil)<|.node (.on ?_<|.off (by kernel_rfl)<|.off (by kernel_rfl)<|.off (by kernel_rfl)<|.nil)
    ·refine .put 7 z z fun _ _ hE h=>.bindE h3 (fun r h=>.call1 0 (c74 fu _ _ _) z n74 (hE.ops z) z h)<|h _ _ (.hole z<|.nil)<|.node (.on ?_<|.off (by kernel_rfl)<|.off (by kernel_rfl)<|.nil)
     ·refine .put 8 z z fun _ _ hE h=>.bin z (hE.op z) (hE.op z) z<|h _ _ (.hole z<|.nil)<|.node (.on ?_<|.off (by kernel_rfl)<|.nil)
      ·refine .put 9 z z fun _ _ hE h=>.build z AH z52 (.cons mm z (hE.op z)<|.cons jw z (hE.op z)<|.cons ml z (hE.op z)<|.nil) z<|h _ _ (.hole z<|.nil)<|.node (.on ?_<|.nil)
       ·exact .put 10 z z fun _ _ hE h=>.litN (T:=tCol) u36 cq z z (.cons (hE.op z)<|.nil) z<|h _ _ (.hole z<|.nil)<|.leaf<|.frz 1 5 z z<|.app (T:=tCol) 1 z z z u36 cq z fun v8=>fj (hj1 _ _ _)
   ·refine .put 7 z z fun _ _ hE h=>.bindE h3 (fun r h=>.call1 0 (c74 fu _ _ _) z n74 (hE.ops z) z h)<|h _ _ (.hole z<|.nil)<|.node (.on ?_<|.on ?_<|.off (by kernel_rfl)<|.off (by kernel_rfl)<|.nil)
    ·refine .put 5 z z fun _ _ hE h=>.useC h2<|.cutA (T:=tCol) 1 (hE.op z) (hE.op z) z u36 cq z fun v6=>h _ _ (.hole z<|.nil)<|.node (.on ?_<|.off (by kernel_rfl)<|.off (by kernel_rfl)<|.nil)
     ·refine .put 8 z z fun _ _ hE h=>.bin z (hE.op z) (hE.op z) z<|h _ _ (.hole z<|.nil)<|.node (.on ?_<|.off (by kernel_rfl)<|.nil)
      ·refine .put 9 z z fun _ _ hE h=>.build z AH z52 (.cons mm z (hE.op z)<|.cons jw z (hE.op z)<|.cons ml z (hE.op z)<|.nil) z<|h _ _ (.hole z<|.nil)<|.node (.on ?_<|.nil)
       ·exact .put 10 z z fun _ _ hE h=>.litN (T:=tCol) u36 cq z z (.cons (hE.op z)<|.nil) z<|h _ _ (.hole z<|.nil)<|.leaf<|.frz 1 5 z z<|.app (T:=tCol) 1 z z z u36 cq z fun v8=>fj (hj1 _ _ _)
    ·refine .put 8 z z fun _ _ hE h=>.bin z (hE.op z) (hE.op z) z<|h _ _ (.hole z<|.nil)<|.node (.on ?_<|.on ?_<|.off (by kernel_rfl)<|.nil)
     ·refine .put 5 z z fun _ _ hE h=>.useC h2<|.cutA (T:=tCol) 1 (hE.op z) (hE.op z) z u36 cq z fun v6=>h _ _ (.hole z<|.nil)<|.node (.on ?_<|.off (by kernel_rfl)<|.nil)
      ·refine .put 9 z z fun _ _ hE h=>.build z AH z52 (.cons mm z (hE.op z)<|.cons jw z (hE.op z)<|.cons ml z (hE.op z)<|.nil) z<|h _ _ (.hole z<|.nil)<|.node (.on ?_<|.nil)
       ·exact .put 10 z z fun _ _ hE h=>.litN (T:=tCol) u36 cq z z (.cons (hE.op z)<|.nil) z<|h _ _ (.hole z<|.nil)<|.leaf<|.frz 1 5 z z<|.app (T:=tCol) 1 z z z u36 cq z fun v8=>fj (hj1 _ _ _)
     ·refine .put 9 z z fun _ _ hE h=>.build z AH z52 (.cons mm z (hE.op z)<|.cons jw z (hE.op z)<|.cons ml z (hE.op z)<|.nil) z<|h _ _ (.hole z<|.nil)<|.node (.on ?_<|.on ?_<|.nil)
      ·refine .put 5 z z fun _ _ hE h=>.useC h2<|.cutA (T:=tCol) 1 (hE.op z) (hE.op z) z u36 cq z fun v6=>h _ _ (.hole z<|.nil)<|.node (.on ?_<|.nil)
       ·exact .put 10 z z fun _ _ hE h=>.litN (T:=tCol) u36 cq z z (.cons (hE.op z)<|.nil) z<|h _ _ (.hole z<|.nil)<|.leaf<|.frz 1 5 z z<|.app (T:=tCol) 1 z z z u36 cq z fun v8=>fj (hj1 _ _ _)
      ·refine .put 10 z z fun _ _ hE h=>.litN (T:=tCol) u36 cq z z (.cons (hE.op z)<|.nil) z<|h _ _ (.hole z<|.nil)<|.node (.on ?_<|.nil)
       ·exact .put 5 z z fun _ _ hE h=>.useC h2<|.cutA (T:=tCol) 1 (hE.op z) (hE.op z) z u36 cq z fun v6=>h _ _ (.hole z<|.nil)<|.leaf<|.frz 1 5 z z<|.app (T:=tCol) 1 z z z u36 cq z fun v8=>fj (hj1 _ _ _)
def dk (a0:ac)(a1:List UInt8):Nat→Int→Option Int
 | 0,_=>none
 | n1+1,i2=>cond (decide (i2 < (a0.tabs.length:Int))) (cond (decide (0≤i2)&&decide (i2 < (a0.tabs.length:Int))) (cond (decide (((a0.tabs.getD i2.toNat default).name)=a1)) (some i2) ((dk a0 a1 n1) (IntKind.i64.wrap (i2+1)))) none) (some (-1))
def f1062 (fu:Nat)(a0:ac)(a1:List UInt8):Option Int:=dk a0 a1 fu 0
theorem n1062:Nm prog 91:=⟨_,_,func91,by kernel_rfl,z⟩
theorem c1062 (fu:Nat)(a0:ac)(a1:List UInt8):Ctr prog 91 [tBase.va a0,isS a1] [] (f1062 fu a0 a1) (fun _ _=>[]) (fun q=>isI .i64 q):=by
 refine .w func91 ntmps91 fun hf A w=>?_
 unfold f1062
 refine .s<|.box (T:=tBase) z z fun b1=>.an z z<|.seq<|.s<|.an z z<|.block<|.loop<|.keep [1,2,5] [] z<|(show ∀ (n1:Nat) (i2:Int),W _ _ _ _ _ ⟨[(1,isS a1,none),(2,isP b1 0,none),(5,isI .i64 i2,none)],[boxO b1 tBase a0 []]⟩ (dk a0 a1 n1 i2) from ?_) fu _
 intro n1
 induction n1 with
 | zero=>exact fun _=>.stop
 | succ n1 ih1=>
  intro i2
  refine .inLoop<|.seq<|.s<|go ?_
  refine .cd z ?_ ?_
  ·refine .skip<|.seq<|.block<|.s<|go ?_
   refine .cd z ?_ ?_
   ·exact fr
   ·exact fj (ih1 _)
  ·exact fr
def f1062o_l1 (a0:ac)(a1:List UInt8):Nat→Int→Option Int
 | 0,_=>none
 | n1+1,i2=>cond (decide (i2 < (a0.tabs.length:Int))) (cond (decide (0≤i2)&&decide (i2 < (a0.tabs.length:Int))) (cond (decide (((a0.tabs.getD i2.toNat default).name)=a1)) (some i2) ((f1062o_l1 a0 a1 n1) (IntKind.i64.wrap (i2+1)))) none) (some (-1))
def f1062o (fu:Nat)(a0:ac)(a1:List UInt8):Option Int:=f1062o_l1 a0 a1 fu 0
theorem c1062o (fu:Nat)(vp0:Value)(cp0:Value)(a0:ac)(a1:List UInt8):Ctr prog 91 [tBaseA.va (⟨vp0,cp0⟩:aL),isS a1] [arrO tTab vp0 a0.tabs] (f1062o fu a0 a1) (fun _ _=>[arrO tTab vp0 a0.tabs]) (fun q=>isI .i64 q):=by
 refine .w func91 ntmps91 fun hf A w=>?_
 unfold f1062o
 refine .s<|.box (T:=tBaseA) z z fun b1=>.an z z<|.seq<|.s<|.an z z<|.block<|.loop<|.keep [1,2,5] [] z<|(show ∀ (n1:Nat) (i2:Int),W _ _ _ _ _ ⟨[(1,isS a1,none),(2,isP b1 0,none),(5,isI .i64 i2,none)],[boxO b1 tBaseA (⟨vp0,cp0⟩:aL) [],arrO tTab vp0 a0.tabs]⟩ (f1062o_l1 a0 a1 n1 i2) from ?_) fu _
 intro n1
 induction n1 with
 | zero=>exact fun _=>.stop
 | succ n1 ih1=>
  intro i2
  refine .inLoop<|.seq<|.s<|go ?_
  refine .cd z ?_ ?_
  ·refine .skip<|.seq<|.block<|.s<|go ?_
   refine .cd z ?_ ?_
   ·exact fr
   ·exact fj (ih1 _)
  ·exact fr
def f1067_j2 (i2:Int)(rec1:Int→Option Bool)(i3:Bool):Option Bool:=cond i3 (some false) (rec1 (IntKind.i64.wrap (i2+1)))
def bT (fu:Nat)(a0:ac):Nat→Int→Option Bool
 | 0,_=>none
 | n1+1,i2=>cond (decide (i2 < (a0.tabs.length:Int))) (cond (decide (0≤i2)&&decide (i2 < (a0.tabs.length:Int))) ((oS fu ((a0.tabs.getD i2.toNat default).name)).bind fun q4=>cond (!q4) (f1067_j2 i2 (bT fu a0 n1) true) (cond (decide (0≤i2)&&decide (i2 < (a0.tabs.length:Int))) ((f1062 fu a0 ((a0.tabs.getD i2.toNat default).name)).bind fun q5=>cond (!decide (q5=i2)) (f1067_j2 i2 (bT fu a0 n1) true) (cond (decide (0≤i2)&&decide (i2 < (a0.tabs.length:Int))) ((f17 fu ((a0.tabs.getD i2.toNat default).table)).bind fun q6=>f1067_j2 i2 (bT fu a0 n1) (!q6)) none)) none)) none) (some (decide ((a0.tabs.length:Int)≤3)))
def vh (fu:Nat)(a0:ac):Option Bool:=bT fu a0 fu 0
theorem n1067:Nm prog 51:=⟨_,_,func51,by kernel_rfl,z⟩
theorem c1067 (fu:Nat)(a0:ac):Ctr prog 51 [tBase.va a0] [] (vh fu a0) (fun _ _=>[]) (fun q=>isB q):=by
 refine .w func51 ntmps51 fun hf A w=>?_
 unfold vh
 refine .s<|.box (T:=tBase) z z fun b1=>.an z z<|.seq<|.s<|.an z z<|.block<|.loop<|.keep [1,3] [] z<|(show ∀ (n1:Nat) (i2:Int),W _ _ _ _ _ ⟨[(1,isP b1 0,none),(3,isI .i64 i2,none)],[boxO b1 tBase a0 []]⟩ (bT fu a0 n1 i2) from ?_) fu _
 intro n1
 induction n1 with
 | zero=>exact fun _=>.stop
 | succ n1 ih1=>
  intro i2
  refine .inLoop<|.seq<|.s<|go ?_
  refine .cd z ?_ ?_
  ·refine .skip<|.seq<|.block<|.seq<|.join1 (fun i3=>⟨[(1,isP b1 0,none),(3,isI .i64 i2,none),(40,isB i3,none)],[boxO b1 tBase a0 []]⟩) (fun i3=>f1067_j2 i2 (bT fu a0 n1) i3) (fun i3=>?_) (fun hj2=>?_)
   ·refine .cd z ?_ ?_
    ·exact fr
    ·exact fj (ih1 _)
   ·refine .pT fun h7=>.pb (c135 fu _) n135 fun q4 h8 k=>.pcond (fun h9=>?_) (fun h9=>?_)
    ·exact .draw 24 [] mix (by kernel_rfl) sts z<|fj (hj2 _)
    ·refine .pT fun h10=>.pb (c1062 fu _ _) n1062 fun q5 h11 k=>.pcond (fun h12=>?_) (fun h12=>?_)
     ·exact .draw 24 [] mix (by kernel_rfl) sts z<|fj (hj2 _)
     ·refine .draw 24 [] mix (by kernel_rfl) sts z<|go ?_
      exact .call0 (c17 fu _) n17 z z fun q6=>fj (hj2 _)
  ·exact fr
def f6 (i7:Bool):Option Bool:=some i7
def f7 (fu:Nat)(a0:ac)(a1:aj)(q3:Int)(i4:Bool):Option Bool:=cond i4 (some false) (cond (decide (0≤q3)&&decide (q3 < (a0.tabs.length:Int))) ((f53 fu ((a0.tabs.getD q3.toNat default).table)).bind fun q5=>(f108 fu q5 a1.col).bind fun q6=>cond (decide (0≤q6)) (cond (decide (0≤q6)&&decide (q6 < (q5.length:Int))) (cond (decide (((q5.getD q6.toNat default).kind)=1)) (cond (!decide (a1.how=3)) (f6 true) (cond (decide (0≤q6)&&decide (q6 < (q5.length:Int))) (f6 (!((q5.getD q6.toNat default).need))) none)) (f6 false)) none) (f6 false)) none)
def sW (fu:Nat)(a0:ac)(a1:aj):Option Bool:=(f1062 fu a0 a1.from_).bind fun q3=>cond (decide (q3<0)) (f7 fu a0 a1 q3 true) ((f1062 fu a0 a1.to).bind fun q8=>cond (decide (q8<0)) (f7 fu a0 a1 q3 true) (cond (decide (a1.how<1)) (f7 fu a0 a1 q3 true) (f7 fu a0 a1 q3 (decide (3<a1.how)))))
theorem n1068:Nm prog 52:=⟨_,_,func52,by kernel_rfl,z⟩
theorem c1068 (fu:Nat)(a0:ac)(a1:aj):Ctr prog 52 [tBase.va a0,tLink.va a1] [] (sW fu a0 a1) (fun _ _=>[]) (fun q=>isB q):=by
 refine .w func52 ntmps52 fun hf A w=>?_
 unfold sW
 refine .s<|.box (T:=tBase) z z fun b1=>.box (T:=tLink) z z fun b2=>.an z z<|.s<|go ?_
 refine .call0 (c1062 fu _ _) n1062 z z fun q3=>.an z z<|.seq<|.seq<|.join1 (fun i4=>⟨[(2,isP b1 0,none),(3,isP b2 0,none),(5,isI .i64 q3,none),(30,isB i4,none)],[boxO b2 tLink a1 [],boxO b1 tBase a0 []]⟩) (fun i4=>f7 fu a0 a1 q3 i4) (fun i4=>?_) (fun hj1=>?_)
 ·refine .cd z ?_ ?_
  ·exact fr
  ·refine .skip<|.s<|go ?_
   refine .call0 (c53 fu _) n53 z z fun q5=>.an z z<|.s<|go ?_
   refine .call0 (c108 fu _ _) n108 z z fun q6=>.an z z<|.seq<|.join1 (fun i7=>⟨[(4,isB i7,none)],[]⟩) (fun i7=>f6 i7) (fun i7=>?_) (fun hj2=>?_)
   ·exact fr
   ·refine .g<|go ?_
    refine .split 44 z (fun _=>?_) (fun _=>?_)
    ·refine go ?_
     refine .split 52 z (fun _=>?_) (fun _=>?_)
     ·refine go ?_
      refine .split 56 z (fun _=>?_) (fun _=>?_)
      ·exact fj (hj2 _)
      ·exact fj (hj2 _)
     ·exact fj (hj2 _)
    ·exact fj (hj2 _)
 ·refine .g<|go ?_
  refine .split 14 z (fun _=>?_) (fun _=>?_)
  ·exact fj (hj1 _)
  ·refine go ?_
   refine .call0 (c1062 fu _ _) n1062 z z fun q8=>go ?_
   refine .split 21 z (fun _=>?_) (fun _=>?_)
   ·exact fj (hj1 _)
   ·refine go ?_
    refine .split 26 z (fun _=>?_) (fun _=>?_)
    ·exact fj (hj1 _)
    ·exact fj (hj1 _)
def kl (i2:Int)(rec1:Int→Option Bool)(i3:Bool):Option Bool:=cond i3 (some false) (rec1 (IntKind.i64.wrap (i2+1)))
def cL (a0:ac)(a1:Int):Nat→Int→Option Bool
 | 0,_=>none
 | n1+1,i2=>cond (decide (i2<a1)) (cond (decide (0≤i2)&&decide (i2 < (a0.links.length:Int))) (cond (decide (0≤a1)&&decide (a1 < (a0.links.length:Int))) (cond (decide (((a0.links.getD i2.toNat default).from_)=((a0.links.getD a1.toNat default).from_))) (cond (decide (0≤i2)&&decide (i2 < (a0.links.length:Int))) (cond (decide (0≤a1)&&decide (a1 < (a0.links.length:Int))) (kl i2 (cL a0 a1 n1) (decide (((a0.links.getD i2.toNat default).col)=((a0.links.getD a1.toNat default).col)))) none) none) (kl i2 (cL a0 a1 n1) false)) none) none) (some true)
def qj (fu:Nat)(a0:ac)(a1:Int):Option Bool:=cL a0 a1 fu 0
theorem n1069:Nm prog 53:=⟨_,_,func53,by kernel_rfl,z⟩
theorem c1069 (fu:Nat)(a0:ac)(a1:Int):Ctr prog 53 [tBase.va a0,isI .i64 a1] [] (qj fu a0 a1) (fun _ _=>[]) (fun q=>isB q):=by
 refine .w func53 ntmps53 fun hf A w=>?_
 unfold qj
 refine .s<|.box (T:=tBase) z z fun b1=>.an z z<|.seq<|.s<|.an z z<|.block<|.loop<|.keep [1,2,5] [] z<|(show ∀ (n1:Nat) (i2:Int),W _ _ _ _ _ ⟨[(1,isI .i64 a1,none),(2,isP b1 0,none),(5,isI .i64 i2,none)],[boxO b1 tBase a0 []]⟩ (cL a0 a1 n1 i2) from ?_) fu _
 intro n1
 induction n1 with
 | zero=>exact fun _=>.stop
 | succ n1 ih1=>
  intro i2
  refine .inLoop<|.seq<|.s<|go ?_
  refine .cd z ?_ ?_
  ·refine .skip<|.seq<|.block<|.seq<|.join1 (fun i3=>⟨[(1,isI .i64 a1,none),(2,isP b1 0,none),(5,isI .i64 i2,none),(38,isB i3,none)],[boxO b1 tBase a0 []]⟩) (fun i3=>kl i2 (cL a0 a1 n1) i3) (fun i3=>?_) (fun hj2=>?_)
   ·refine .cd z ?_ ?_
    ·exact fr
    ·exact fj (ih1 _)
   ·refine .pT fun h6=>.pT fun h7=>.pcond (fun h8=>?_) (fun h8=>?_)
    ·exact .pT fun h9=>.pT fun h10=>.draw 26 [] mix (by kernel_rfl) sts z<|fj (hj2 _)
    ·exact .draw 26 [] mix (by kernel_rfl) sts z<|fj (hj2 _)
  ·exact fr
def qa (fu:Nat)(a0:ab)(a1:Int)(a2:List UInt8):Option Val:=cond (decide (0≤a1)&&decide (a1 < (a0.rows.length:Int))) ((f90 fu a0 (a0.rows.getD a1.toNat default)).bind fun q3=>(f53 fu a0).bind fun q4=>(f108 fu q4 a2).bind fun q5=>cond (decide (0≤q5)&&decide (q5 < (q3.length:Int))) (some (q3.getD q5.toNat default)) none) none
theorem n1130:Nm prog 129:=⟨_,_,func129,by kernel_rfl,z⟩
theorem c1130 (fu:Nat)(a0:ab)(a1:Int)(a2:List UInt8):Ctr prog 129 [tTable.va a0,isI .i64 a1,isS a2] [] (qa fu a0 a1 a2) (fun _ _=>[]) (fun q=>tVal.va q):=by
 refine .w func129 ntmps129 fun hf A w=>?_
 unfold qa
 exact .s<|.box (T:=tTable) z z fun b1=>.alloc tVal d0_47 [] z47 z fun b2=>.nil<|.seq<|.pT fun h1=>.pb (c90 fu _ _) n90 fun q3 h2 k=>.pb (c53 fu _) n53 fun q4 h3 k=>.draw 10 [] mix (by kernel_rfl) sts z<|.call0 (c108 fu _ _) n108 z z fun q5=>fr
def ki (i7:Int)(rec1:Int→Option Bool)(i10:Bool):Option Bool:=cond i10 (some false) (rec1 (IntKind.i64.wrap (i7+1)))
def cK (fu:Nat)(a0:ac)(a1:aj)(q3:Int)(q5:Int):Nat→Int→Option Bool
 | 0,_=>none
 | n1+1,i7=>cond (decide (i7 < (List.length (((a0.tabs.getD q3.toNat default).table).rows):Int))) ((qa fu ((a0.tabs.getD q3.toNat default).table) i7 a1.col).bind fun q8=>cond (!decide (q8.kind=0)) ((f82 fu ((a0.tabs.getD q5.toNat default).table) q8.n).bind fun q11=>ki i7 (cK fu a0 a1 q3 q5 n1) (decide (q11<0))) (ki i7 (cK fu a0 a1 q3 q5 n1) false)) (some true)
def qi (fu:Nat)(a0:ac)(a1:aj):Option Bool:=(f1062 fu a0 a1.from_).bind fun q3=>cond (decide (0≤q3)&&decide (q3 < (a0.tabs.length:Int))) ((f1062 fu a0 a1.to).bind fun q5=>cond (decide (0≤q5)&&decide (q5 < (a0.tabs.length:Int))) (cK fu a0 a1 q3 q5 fu 0) none) none
theorem n1070:Nm prog 54:=⟨_,_,func54,by kernel_rfl,z⟩
theorem c1070 (fu:Nat)(a0:ac)(a1:aj):Ctr prog 54 [tBase.va a0,tLink.va a1] [] (qi fu a0 a1) (fun _ _=>[]) (fun q=>isB q):=by
 refine .w func54 ntmps54 fun hf A w=>?_
 unfold qi
 refine .s<|.box (T:=tBase) z z fun b1=>.box (T:=tLink) z z fun b2=>.an z z<|.seq<|.pb (c1062 fu _ _) n1062 fun q3 h1 k=>.pT fun h2=>.drawS 10 [] [9] [] mix (by kernel_rfl) sts z<|.cons (d:=5) z z fun _ _ hE h=>.alloc tTable d0_27 [] z27 z fun b4=>.toEnd<|h _ _ (.same<|.same<|.nil)<|go ?_
 refine .seq<|.pb (c1062 fu _ _) n1062 fun q5 h3 k=>.pT fun h4=>.drawS 10 [] [9] [] mix (by kernel_rfl) sts z<|.cons (d:=6) z z fun _ _ hE h=>.alloc tTable d0_27 [] z27 z fun b6=>.toEnd<|h _ _ (.same<|.same<|.same<|.nil)<|go ?_
 refine .seq<|.s<|.an z z<|.block<|.loop<|.drop (.d<|.c<|.d<|.d<|.e)<|.keep [3,5,6,7] [] z<|(show ∀ (n1:Nat) (i7:Int),W _ _ _ _ _ ⟨[(3,isP b2 0,none),(5,isP b4 0,none),(6,isP b6 0,none),(7,isI .i64 i7,none)],[boxO b2 tLink a1 [],boxO b4 tTable ((a0.tabs.getD q3.toNat default).table) [],boxO b6 tTable ((a0.tabs.getD q5.toNat default).table) []]⟩ (cK fu a0 a1 q3 q5 n1 i7) from ?_) fu _
 intro n1
 induction n1 with
 | zero=>exact fun _=>.stop
 | succ n1 ih1=>
  intro i7
  refine .inLoop<|.seq<|.s<|go ?_
  refine .cd z ?_ ?_
  ·refine .skip<|.seq<|.block<|.s<|go ?_
   refine .call0 (c1130 fu _ _ _) n1130 z z fun q8=>.alloc tVal d0_47 [] z47 z fun b9=>go ?_
   refine .seq<|.join1 (fun i10=>⟨[(3,isP b2 0,none),(5,isP b4 0,none),(6,isP b6 0,none),(7,isI .i64 i7,none),(48,isB i10,none)],[boxO b2 tLink a1 [],boxO b4 tTable ((a0.tabs.getD q3.toNat default).table) [],boxO b6 tTable ((a0.tabs.getD q5.toNat default).table) []]⟩) (fun i10=>ki i7 (cK fu a0 a1 q3 q5 n1) i10) (fun i10=>?_) (fun hj2=>?_)
   ·refine .cd z ?_ ?_
    ·exact fr
    ·exact fj (ih1 _)
   ·refine .g<|go ?_
    refine .split 42 z (fun _=>?_) (fun _=>?_)
    ·refine go ?_
     exact .call0 (c82 fu _ _) n82 z z fun q11=>fj (hj2 _)
    ·exact fj (hj2 _)
  ·exact fr
def iH (i3:Int)(rec1:Int→Option Bool)(i4:Bool):Option Bool:=cond i4 (some false) (rec1 (IntKind.i64.wrap (i3+1)))
def co (fu:Nat)(a0:ac):Nat→Int→Option Bool
 | 0,_=>none
 | n1+1,i3=>cond (decide (i3 < (a0.links.length:Int))) (cond (decide (0≤i3)&&decide (i3 < (a0.links.length:Int))) ((sW fu a0 (a0.links.getD i3.toNat default)).bind fun q5=>cond (!q5) (iH i3 (co fu a0 n1) true) ((qj fu a0 i3).bind fun q6=>cond (!q6) (iH i3 (co fu a0 n1) true) (cond (decide (0≤i3)&&decide (i3 < (a0.links.length:Int))) ((qi fu a0 (a0.links.getD i3.toNat default)).bind fun q7=>iH i3 (co fu a0 n1) (!q7)) none))) none) (some true)
def ky (fu:Nat)(a0:ac)(i2:Bool):Option Bool:=cond i2 (some false) (co fu a0 fu 0)
def jm (fu:Nat)(a0:ac):Option Bool:=(vh fu a0).bind fun q8=>cond (!q8) (ky fu a0 true) (ky fu a0 (decide (4 < (a0.links.length:Int))))
theorem n1019:Nm prog 17:=⟨_,_,func17,by kernel_rfl,z⟩
theorem c1019 (fu:Nat)(a0:ac):Ctr prog 17 [tBase.va a0] [] (jm fu a0) (fun _ _=>[]) (fun q=>isB q):=by
 refine .w func17 ntmps17 fun hf A w=>?_
 unfold jm
 refine .s<|.box (T:=tBase) z z fun b1=>.an z z<|.seq<|.seq<|.join1 (fun i2=>⟨[(1,isP b1 0,none),(12,isB i2,none)],[boxO b1 tBase a0 []]⟩) (fun i2=>ky fu a0 i2) (fun i2=>?_) (fun hj1=>?_)
 ·refine .cd z ?_ ?_
  ·exact fr
  ·refine .skip<|.seq<|.s<|.an z z<|.block<|.loop<|.keep [1,3] [] z<|(show ∀ (n1:Nat) (i3:Int),W _ _ _ _ _ ⟨[(1,isP b1 0,none),(3,isI .i64 i3,none)],[boxO b1 tBase a0 []]⟩ (co fu a0 n1 i3) from ?_) fu _
   intro n1
   induction n1 with
   | zero=>exact fun _=>.stop
   | succ n1 ih1=>
    intro i3
    refine .inLoop<|.seq<|.s<|go ?_
    refine .cd z ?_ ?_
    ·refine .skip<|.seq<|.block<|.seq<|.join1 (fun i4=>⟨[(1,isP b1 0,none),(3,isI .i64 i3,none),(43,isB i4,none)],[boxO b1 tBase a0 []]⟩) (fun i4=>iH i3 (co fu a0 n1) i4) (fun i4=>?_) (fun hj3=>?_)
     ·refine .cd z ?_ ?_
      ·exact fr
      ·exact fj (ih1 _)
     ·refine .pT fun h7=>.pb (c1068 fu _ _) n1068 fun q5 h8 k=>.pcond (fun h9=>?_) (fun h9=>?_)
      ·exact .draw 21 [] mix (by kernel_rfl) sts z<|fj (hj3 _)
      ·refine .pb (c1069 fu _ _) n1069 fun q6 h10 k=>.pcond (fun h11=>?_) (fun h11=>?_)
       ·exact .draw 21 [] mix (by kernel_rfl) sts z<|fj (hj3 _)
       ·exact .pT fun h12=>.draw 21 [] mix (by kernel_rfl) sts z<|.on z z<|.call0 (c1070 fu _ _) n1070 z z fun q7=>fj (hj3 _)
    ·exact fr
 ·refine .g<|go ?_
  refine .call0 (c1067 fu _) n1067 z z fun q8=>go ?_
  refine .split 7 z (fun _=>?_) (fun _=>?_)
  ·exact fj (hj1 _)
  ·exact fj (hj1 _)
end Go.Proofs.YtganfdhmkdehlaaGreatDoor
