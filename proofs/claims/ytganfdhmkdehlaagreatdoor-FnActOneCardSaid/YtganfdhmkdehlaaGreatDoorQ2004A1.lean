/- Functions of the program: what each answers, and that the machine answers so. -/
import Derived.Test.YtganfdhmkdehlaaGreatDoorQ2004A0
import Derived.KernelRfl
set_option linter.all false
namespace Go.Proofs.YtganfdhmkdehlaaGreatDoor
open Go Go.HL Tryz
attribute [local irreducible] W WO
def bJ (i2:Bool):Option Bool:=some i2
def zE (fu:Nat)(a0:Col):Option Bool:=(oS fu a0.name).bind fun q3=>cond q3 (cond (decide (a0.kind=1)) ((uU fu a0.def_).bind fun q4=>cond q4 (cond (decide (a0.def_.kind=0)) (cond (!a0.once) (bJ true) (bJ (decide (a0.def_.kind=0)))) (cond (decide (a0.def_.kind=a0.kind)) (cond (!a0.once) (bJ true) (bJ (decide (a0.def_.kind=0)))) (bJ false))) (bJ false)) (cond (decide (a0.kind=2)) ((uU fu a0.def_).bind fun q5=>cond q5 (cond (decide (a0.def_.kind=0)) (cond (!a0.once) (bJ true) (bJ (decide (a0.def_.kind=0)))) (cond (decide (a0.def_.kind=a0.kind)) (cond (!a0.once) (bJ true) (bJ (decide (a0.def_.kind=0)))) (bJ false))) (bJ false)) (bJ false))) (bJ false)
theorem n117:Nm prog 169:=⟨_,_,func169,by kernel_rfl,z⟩
theorem c117 (fu:Nat)(a0:Col):Ctr prog 169 [tCol.va a0] [] (zE fu a0) (fun _ _=>[]) (fun q=>isB q):=by
 refine .w func169 ntmps169 fun hf A w=>?_
 unfold zE
 refine .s<|.box (T:=tCol) z z fun b1=>.an z z<|.seq<|.join1 (fun i2=>⟨[(2,isB i2,none)],[]⟩) (fun i2=>bJ i2) (fun i2=>?_) (fun hj1=>?_)
 ·exact fr
 ·refine .g<|go ?_
  refine .call0 (c135 fu _) n135 z z fun q3=>.m z z<|.split 6 z (fun _=>?_) (fun _=>?_)
  ·refine go ?_
   refine .split 10 z (fun _=>?_) (fun _=>?_)
   ·refine go ?_
    refine .call0 (c119 fu _) n119 z z fun q4=>go ?_
    refine .split 21 z (fun _=>?_) (fun _=>?_)
    ·refine go ?_
     refine .split 26 z (fun _=>?_) (fun _=>?_)
     ·refine go ?_
      refine .split 39 z (fun _=>?_) (fun _=>?_)
      ·exact fj (hj1 _)
      ·exact fj (hj1 _)
     ·refine go ?_
      refine .split 35 z (fun _=>?_) (fun _=>?_)
      ·refine go ?_
       refine .split 39 z (fun _=>?_) (fun _=>?_)
       ·exact fj (hj1 _)
       ·exact fj (hj1 _)
      ·exact fj (hj1 _)
    ·exact fj (hj1 _)
   ·refine go ?_
    refine .split 16 z (fun _=>?_) (fun _=>?_)
    ·refine go ?_
     refine .call0 (c119 fu _) n119 z z fun q5=>go ?_
     refine .split 21 z (fun _=>?_) (fun _=>?_)
     ·refine go ?_
      refine .split 26 z (fun _=>?_) (fun _=>?_)
      ·refine go ?_
       refine .split 39 z (fun _=>?_) (fun _=>?_)
       ·exact fj (hj1 _)
       ·exact fj (hj1 _)
      ·refine go ?_
       refine .split 35 z (fun _=>?_) (fun _=>?_)
       ·refine go ?_
        refine .split 39 z (fun _=>?_) (fun _=>?_)
        ·exact fj (hj1 _)
        ·exact fj (hj1 _)
       ·exact fj (hj1 _)
     ·exact fj (hj1 _)
    ·exact fj (hj1 _)
  ·exact fj (hj1 _)
def ri (i1:Int)(rec1:Int→Option Bool)(i2:Bool):Option Bool:=cond i2 (some false) (rec1 (IntKind.i64.wrap (i1+1)))
def rh (rec1:Int→Option Bool)(i5:Bool):Option Bool:=some i5
def gp (fu:Nat)(a0:List Col):Nat→Int→Option Bool
 | 0,_=>none
 | n1+1,i1=>cond (decide (i1 < (a0.length:Int))) (cond (decide (0≤i1)&&decide (i1 < (a0.length:Int))) ((zE fu (a0.getD i1.toNat default)).bind fun q3=>cond (!q3) (ri i1 (gp fu a0 n1) true) (cond (decide (0≤i1)&&decide (i1 < (a0.length:Int))) ((f108 fu a0 ((a0.getD i1.toNat default).name)).bind fun q4=>ri i1 (gp fu a0 n1) (!decide (q4=i1))) none)) none) (cond (decide (1≤(a0.length:Int))) (rh (gp fu a0 n1) (decide ((a0.length:Int)≤5))) (rh (gp fu a0 n1) false))
def f86 (fu:Nat)(a0:List Col):Option Bool:=gp fu a0 fu 0
theorem n86:Nm prog 171:=⟨_,_,func171,by kernel_rfl,z⟩
theorem c86 (fu:Nat)(a0:List Col):Ctr prog 171 [(tL tCol).va a0] [] (f86 fu a0) (fun _ _=>[]) (fun q=>isB q):=by
 refine .w func171 ntmps171 fun hf A w=>?_
 unfold f86
 refine .s<|.an z z<|.seq<|.s<|.an z z<|.block<|.loop<|.keep [0,3] [] z<|(show ∀ (n1:Nat) (i1:Int),W _ _ _ _ _ ⟨[(0,(tL tCol).va a0,none),(3,isI .i64 i1,none)],[]⟩ (gp fu a0 n1 i1) from ?_) fu _
 intro n1
 induction n1 with
 | zero=>exact fun _=>.stop
 | succ n1 ih1=>
  intro i1
  refine .inLoop<|.seq<|.s<|go ?_
  refine .cd z ?_ ?_
  ·refine .skip<|.seq<|.block<|.seq<|.join1 (fun i2=>⟨[(0,(tL tCol).va a0,none),(3,isI .i64 i1,none),(26,isB i2,none)],[]⟩) (fun i2=>ri i1 (gp fu a0 n1) i2) (fun i2=>?_) (fun hj3=>?_)
   ·refine .cd z ?_ ?_
    ·exact fr
    ·exact fj (ih1 _)
   ·refine .g<|go ?_
    refine .call0 (c117 fu _) n117 z z fun q3=>go ?_
    refine .split 16 z (fun _=>?_) (fun _=>?_)
    ·exact fj (hj3 _)
    ·refine go ?_
     exact .call0 (c108 fu _ _) n108 z z fun q4=>fj (hj3 _)
  ·refine .exit z<|.seq<|.join1 (fun i5=>⟨[(2,isB i5,none)],[]⟩) (fun i5=>rh (gp fu a0 n1) i5) (fun i5=>?_) (fun hj4=>?_)
   ·exact fr
   ·refine .g<|go ?_
    refine .split 30 z (fun _=>?_) (fun _=>?_)
    ·exact fj (hj4 _)
    ·exact fj (hj4 _)
def zA (fu:Nat)(a0:List Col):Option ab:=(f86 fu a0).bind fun q2=>cond (!q2) (some (⟨([]:List Col),([]:List aa),([]:List Row),(0:Int)⟩:ab)) (cond (decide (List.length ([]:List Col)+a0.length≤CAP)) (some (⟨([]:List Col)++a0,([]:List aa),([]:List Row),1⟩:ab)) none)
theorem n124:Nm prog 156:=⟨_,_,func156,by kernel_rfl,z⟩
theorem c124 (fu:Nat)(a0:List Col):aW prog 156 [(tL tCol).va a0] [] (zA fu a0) tb (fun q p=>[arrO tRow p.1 q.rows]) (fun q p=>tTableA.va (⟨q.first,(p.2,q.changes),p.1,q.next⟩:ap)):=by
 refine .w func156 ntmps156 fun hf A w=>?_
 unfold zA
 refine .s<|.alloc tTableA aS [] bA z fun b1=>.nil<|.seq<|.s<|.m z z<|.call0 (c86 fu _) n86 z z fun q2=>.not z z<|.nil<|.cd z ?_ ?_
 ·exact .s<|.buildA z mW bA (.nil) z<|.storeP 0 (Fld.self _) z z z ty27<|.arrNil tRow<|.nil<|.retL1 ((.slice none 0 0),(.slice none 0 0)) func156 results156 (.cell 1 z z ty27) z (fun _ _ _ h=>bI h) (.d<|.c<|.e)
 ·exact .skip<|.s<|.lit (T:=tCol) u36 cq z z (.nil) z fun v3=>.m z z<|.app (T:=tCol) 0 z z z u36 cq z fun v4=>.buildA z mW bA (.cons aI z (vOf z)<|.cons aM z (vOf z)<|.nil) z<|.storeP 1 (Fld.self _) z z z ty27<|.arrNil tRow<|.nil<|.retL1 ((.slice none 0 0),(.slice none 0 0)) func156 results156 (.cell 2 z z ty27) z (fun _ _ _ h=>bI h) (.d<|.c<|.c<|.e)
def Am (a0:aa):Option Col:=cond (decide (a0.kind=4)) (some (⟨d0_52.name,a0.col.kind,d0_52.need,d0_52.once,d0_52.def_⟩:Col)) (some (⟨d0_52.name,d0_52.kind,d0_52.need,d0_52.once,d0_52.def_⟩:Col))
theorem n136:Nm prog 227:=⟨_,_,func227,by kernel_rfl,z⟩
theorem c136 (a0:aa):Ctr prog 227 [tChange.va a0] [] (Am a0) (fun _ _=>[]) (fun q=>tCol.va q):=by
 refine .w func227 ntmps227 fun hf A w=>?_
 unfold Am
 refine .s<|.box (T:=tChange) z z fun b1=>.alloc tCol d0_52 [] z52 z fun b2=>.nil<|.seq<|.s<|go ?_
 refine .cd z ?_ ?_
 ·exact fr
 ·exact fr
def Bw (a0:List Col)(a1:Int):Option (List Col):=cond (decide (0≤(0:Int))&&decide ((0:Int)≤a1)&&decide (a1≤(a0.length:Int))) (cond (decide (List.length ([]:List Col)+List.length ((a0.take a1.toNat).drop (0:Int).toNat)≤CAP)) (cond (decide (0≤(IntKind.i64.wrap (a1+1)))&&decide ((IntKind.i64.wrap (a1+1))≤(a0.length:Int))&&decide ((a0.length:Int)≤(a0.length:Int))) (cond (decide (List.length (([]:List Col)++((a0.take a1.toNat).drop (0:Int).toNat))+List.length ((a0.take (a0.length:Int).toNat).drop (IntKind.i64.wrap (a1+1)).toNat)≤CAP)) (some ((([]:List Col)++((a0.take a1.toNat).drop (0:Int).toNat))++((a0.take (a0.length:Int).toNat).drop (IntKind.i64.wrap (a1+1)).toNat))) none) none) none) none
theorem n137:Nm prog 228:=⟨_,_,func228,by kernel_rfl,z⟩
theorem c137 (a0:List Col)(a1:Int):Ctr prog 228 [(tL tCol).va a0,isI .i64 a1] [] (Bw a0 a1) (fun _ _=>[]) (fun q=>(tL tCol).va q):=by
 refine .w func228 ntmps228 fun hf A w=>?_
 unfold Bw
 exact .s<|.assignNil tCol z<|.nil<|.seq<|.pT fun h1=>.pT fun h2=>.pT fun h3=>.drawS 9 [] [4] [] mix (by kernel_rfl) (.j (fun o=>.litE tCol u36 cq z z)<|.j (fun o=>.m (o z) z)<|.j (fun o=>.m (o z) z)<|.k (fun p e h=>.useC h1<|.cut (e.op z) u36 cq z ⟨_,(e.op z)⟩ z<|h)<|.skip<|.j (fun o=>.m (o z) z)<|.j (fun o=>.m (o z) z)<|.j (fun o=>.bin z (o z) (o z) z)<|.k (fun p e h=>.useC h3<|.cut (e.op z) u36 cq ⟨_,(e.op z)⟩ z z<|h)<|.nil) z<|.cons (d:=9) z z fun _ _ hE h=>.useC h2<|.appE (T:=tCol) (hE.op z) (hE.op z) z u36 cq z fun v1=>.toEnd<|h _ _ (.nil)<|.nil<|.app (T:=tCol) 0 z z z u36 cq z fun v2=>fr
def nA (i2:List UInt8)(i4:Int)(i5:Int)(rec1:Int→Int→Option (Int×Bool))(i6:Bool):Option (Int×Bool):=cond i6 (some (0,false)) (cond (decide (0≤i5)&&decide (i5 < (i2.length:Int))) (rec1 (IntKind.i64.wrap ((IntKind.i64.wrap (i4*10))+(IntKind.i64.wrap (IntKind.u8.wrap ((((i2.getD i5.toNat 0).toNat:Nat):Int)-48))))) (IntKind.i64.wrap (i5+1))) none)
def nw (rec1:Int→Int→Option (Int×Bool))(i7:Int):Option (Int×Bool):=some (i7,true)
def dy (i1:Bool)(i2:List UInt8):Nat→Int→Int→Option (Int×Bool)
 | 0,_,_=>none
 | n1+1,i4,i5=>cond (decide (i5 < (i2.length:Int))) (cond (decide (0≤i5)&&decide (i5 < (i2.length:Int))) (cond (decide ((((i2.getD i5.toNat 0).toNat:Nat):Int)<48)) (nA i2 i4 i5 (dy i1 i2 n1) true) (cond (decide (0≤i5)&&decide (i5 < (i2.length:Int))) (nA i2 i4 i5 (dy i1 i2 n1) (decide (57 < (((i2.getD i5.toNat 0).toNat:Nat):Int)))) none)) none) (cond i1 (nw (dy i1 i2 n1) (IntKind.i64.wrap (0-i4))) (nw (dy i1 i2 n1) i4))
def f145_j3 (fu:Nat)(i1:Bool)(i2:List UInt8)(i3:Bool):Option (Int×Bool):=cond i3 (some (0,false)) (dy i1 i2 fu 0 0)
def f145_j2 (fu:Nat)(i1:Bool)(i2:List UInt8):Option (Int×Bool):=cond (decide ((i2.length:Int)=0)) (f145_j3 fu i1 i2 true) (cond (decide (17 < (i2.length:Int))) (f145_j3 fu i1 i2 true) (cond (decide (0≤(0:Int))&&decide ((0:Int) < (i2.length:Int))) (cond (decide ((((i2.getD (0:Int).toNat 0).toNat:Nat):Int)=48)) (cond (decide (1 < (i2.length:Int))) (f145_j3 fu i1 i2 true) (f145_j3 fu i1 i2 i1)) (f145_j3 fu i1 i2 false)) none))
def nB (fu:Nat)(a0:List UInt8)(i1:Bool):Option (Int×Bool):=cond i1 (cond (decide (0≤(1:Int))&&decide ((1:Int)≤(a0.length:Int))&&decide ((a0.length:Int)≤(a0.length:Int))) (f145_j2 fu i1 ((a0.take (a0.length:Int).toNat).drop (1:Int).toNat)) none) (f145_j2 fu i1 a0)
def Bt (fu:Nat)(a0:List UInt8):Option (Int×Bool):=cond (decide (0 < (a0.length:Int))) (cond (decide (0≤(0:Int))&&decide ((0:Int) < (a0.length:Int))) (nB fu a0 (decide ((((a0.getD (0:Int).toNat 0).toNat:Nat):Int)=45))) none) (nB fu a0 false)
theorem n145:Nm prog 233:=⟨_,_,func233,by kernel_rfl,z⟩
theorem c145 (fu:Nat)(a0:List UInt8):Ctr prog 233 [isS a0] [] (Bt fu a0) (fun _ _=>[]) (fun q=>tup [isI .i64 q.1,isB q.2]):=by
 refine .w func233 ntmps233 fun hf A w=>?_
 unfold Bt
 refine .s<|go ?_
 refine .seq<|.join1 (fun i1=>⟨[(0,isS a0,none),(4,isB i1,none)],[]⟩) (fun i1=>nB fu a0 i1) (fun i1=>?_) (fun hj1=>?_)
 ·refine .seq<|.s<|.m z z<|.nil<|.join1 (fun i2=>⟨[(0,isS i2,none),(4,isB i1,none)],[]⟩) (fun i2=>f145_j2 fu i1 i2) (fun i2=>?_) (fun hj2=>?_)
  ·refine .seq<|.seq<|.join1 (fun i3=>⟨[(0,isS i2,none),(4,isB i1,none),(38,isB i3,none)],[]⟩) (fun i3=>f145_j3 fu i1 i2 i3) (fun i3=>?_) (fun hj3=>?_)
   ·refine .cd z ?_ ?_
    ·exact fr
    ·refine .skip<|.s<|.an z z<|.seq<|.s<|.an z z<|.block<|.loop<|.keep [0,4,5,6] [] z<|(show ∀ (n1:Nat) (i4:Int) (i5:Int),W _ _ _ _ _ ⟨[(0,isS i2,none),(4,isB i1,none),(5,isI .i64 i4,none),(6,isI .i64 i5,none)],[]⟩ (dy i1 i2 n1 i4 i5) from ?_) fu _ _
     intro n1
     induction n1 with
     | zero=>exact fun _ _=>.stop
     | succ n1 ih1=>
      intro i4 i5
      refine .inLoop<|.seq<|.s<|go ?_
      refine .cd z ?_ ?_
      ·refine .skip<|.seq<|.block<|.seq<|.seq<|.join1 (fun i6=>⟨[(0,isS i2,none),(4,isB i1,none),(5,isI .i64 i4,none),(6,isI .i64 i5,none),(54,isB i6,none)],[]⟩) (fun i6=>nA i2 i4 i5 (dy i1 i2 n1) i6) (fun i6=>?_) (fun hj6=>?_)
       ·refine .cd z ?_ ?_
        ·exact fr
        ·refine .skip<|.g<|go ?_
         exact .idxS z z u9 z<|.bin z z z z<|.conv z ⟨_,u5⟩ u3 z<|fj (ih1 _ _)
       ·refine .g<|go ?_
        refine .idxS z z u9 z<|go ?_
        refine .split 49 z (fun _=>?_) (fun _=>?_)
        ·exact fj (hj6 _)
        ·refine go ?_
         exact .idxS z z u9 z<|fj (hj6 _)
      ·refine .exit z<|.seq<|.s<|.m z z<|.nil<|.join1 (fun i7=>⟨[(5,isI .i64 i7,none)],[]⟩) (fun i7=>nw (dy i1 i2 n1) i7) (fun i7=>?_) (fun hj7=>?_)
       ·exact fr
       ·refine .cd z ?_ ?_
        ·exact .g<|.m z z<|.neg z z<|fj (hj7 _)
        ·exact fj (hj7 _)
   ·refine .g<|go ?_
    refine .split 21 z (fun _=>?_) (fun _=>?_)
    ·exact fj (hj3 _)
    ·refine go ?_
     refine .split 26 z (fun _=>?_) (fun _=>?_)
     ·exact fj (hj3 _)
     ·refine go ?_
      refine .idxS z z u9 z<|go ?_
      refine .split 30 z (fun _=>?_) (fun _=>?_)
      ·refine go ?_
       refine .split 34 z (fun _=>?_) (fun _=>?_)
       ·exact fj (hj3 _)
       ·exact fj (hj3 _)
      ·exact fj (hj3 _)
  ·refine .cd z ?_ ?_
   ·exact .g<|.m z z<|.cutS z u9 ⟨_,z⟩ z z<|fj (hj2 _)
   ·exact fj (hj2 _)
 ·refine .g<|go ?_
  refine .split 10 z (fun _=>?_) (fun _=>?_)
  ·refine go ?_
   exact .idxS z z u9 z<|fj (hj1 _)
  ·exact fj (hj1 _)
def gA:Nat→Int→(List UInt8)→Option (List UInt8)
 | 0,_,_=>none
 | n1+1,i2,i3=>cond (decide (9<i2)) (cond (decide ((10:Int)=0)) none (cond (decide (List.length (ws ([IntKind.u8.wrap (IntKind.i64.wrap (48+(i2.tmod 10)))]:List Int))+i3.length≤CAP)) (cond (decide ((10:Int)=0)) none ((gA n1) (IntKind.i64.wrap (i2.tdiv 10)) ((ws ([IntKind.u8.wrap (IntKind.i64.wrap (48+(i2.tmod 10)))]:List Int))++i3))) none)) (cond (decide (List.length (ws ([IntKind.u8.wrap (IntKind.i64.wrap (48+i2))]:List Int))+i3.length≤CAP)) (some ((ws ([IntKind.u8.wrap (IntKind.i64.wrap (48+i2))]:List Int))++i3)) none)
def zq:Nat→Int→Option (List UInt8)
 | 0,_=>none
 | fu+1,a0=>cond (decide (a0 < (-9223372036854775807))) (some ([45,57,50,50,51,51,55,50,48,51,54,56,53,52,55,55,53,56,48,56]:List UInt8)) (cond (decide (a0<0)) ((zq fu (IntKind.i64.wrap (0-a0))).bind fun q1=>cond (decide (List.length ([45]:List UInt8)+q1.length≤CAP)) (some (([45]:List UInt8)++q1)) none) (gA fu a0 ([]:List UInt8)))
theorem n146:Nm prog 234:=⟨_,_,func234,by kernel_rfl,z⟩
attribute [local semireducible] W WO
theorem c146 (fu:Nat):∀ (a0:Int),Ctr prog 234 [isI .i64 a0] [] (zq fu a0) (fun _ _=>[]) (fun q=>isS q):=by
 induction fu with
 | zero=>exact fun _=>Ctr.none
 | succ fu ih=>
  intro a0
  refine Ctr.of_W func234 z ntmps234 z fun A w=>?_
  rw [zq]
  refine .s<|.an z z<|.seq<|.s<|.m z z<|.bin z z z z<|.nil<|.cd z ?_ ?_
  ·exact .s<|.an z z<|.ret1 func234 results234 (.tmp z) z (fun _ _=>.e)
  ·refine .skip<|.seq<|.s<|.m z z<|.bin z z z z<|.nil<|.cd z ?_ ?_
   ·exact .s<|.m z z<|.neg z z<|.call0 (ih _) n146 z z fun q1=>.cat z z z<|.an z z<|.ret1 func234 results234 (.tmp z) z (fun _ _=>.e)
   ·refine .skip<|.s<|.an z z<|.seq<|.block<|.loop<|.keep [0,3] [] z<|(show ∀ (n1:Nat) (i2:Int) (i3:List UInt8),W _ _ _ _ _ ⟨[(0,isI .i64 i2,none),(3,isS i3,none)],[]⟩ (gA n1 i2 i3) from ?_) fu _ _
    intro n1
    induction n1 with
    | zero=>exact fun _ _=>.stop
    | succ n1 ih1=>
     intro i2 i3
     refine .inLoop<|.seq<|.s<|.m z z<|.bin z z z z<|.nil<|.cd z ?_ ?_
     ·exact .skip<|.block<|.s<|.m z z<|.rem z z z<|.bin z z z z<|.conv z ⟨_,u3⟩ u5 z<|.litN (T:=(tI .u8)) u22 el5 z z (.cons z<|.nil) z<|.convBS z u22 u5 u9 z<|.m z z<|.cat z z z<|.an z z<|.g<|.m z z<|.quo z z z<|.an z z<|.inBlock<|.keep [0,3] [] z (ih1 _ _)
     ·exact .exit z<|.s<|.m z z<|.bin z z z z<|.conv z ⟨_,u3⟩ u5 z<|.litN (T:=(tI .u8)) u22 el5 z z (.cons z<|.nil) z<|.convBS z u22 u5 u9 z<|.m z z<|.cat z z z<|.an z z<|.ret1 func234 results234 (.tmp z) z (fun _ _=>.e)
attribute [local irreducible] W WO
def nC (a1:Int)(q3:Int×Bool)(i6:Bool):Option Val:=cond i6 (some (⟨a1,q3.1,d0_47.text⟩:Val)) (some (⟨d0_47.kind,d0_47.n,d0_47.text⟩:Val))
def jh (fu:Nat)(a0:Val)(a1:Int)(q3:Int×Bool)(i4:Bool):Option Val:=cond i4 (some (⟨d0_47.kind,d0_47.n,d0_47.text⟩:Val)) (cond (decide (a0.kind=a1)) (some a0) (cond (decide (a1=2)) ((zq fu a0.n).bind fun q5=>some (⟨a1,d0_47.n,q5⟩:Val)) (cond q3.2 ((Ak fu q3.1).bind fun q7=>nC a1 q3 q7) (nC a1 q3 false))))
def Al (fu:Nat)(a0:Val)(a1:Int):Option Val:=(Bt fu a0.text).bind fun q3=>(uU fu a0).bind fun q8=>cond (!q8) (jh fu a0 a1 q3 true) (cond (decide (a1<1)) (jh fu a0 a1 q3 true) (cond (decide (2<a1)) (jh fu a0 a1 q3 true) (jh fu a0 a1 q3 (decide (a0.kind=0)))))
theorem n138:Nm prog 229:=⟨_,_,func229,by kernel_rfl,z⟩
theorem c138 (fu:Nat)(a0:Val)(a1:Int):Ctr prog 229 [tVal.va a0,isI .i64 a1] [] (Al fu a0 a1) (fun _ _=>[]) (fun q=>tVal.va q):=by
 refine .w func229 ntmps229 fun hf A w=>?_
 unfold Al
 refine .s<|.box (T:=tVal) z z fun b1=>.alloc tVal d0_47 [] z47 z fun b2=>.nil<|.s<|go ?_
 refine .call0 (c145 fu _) n145 z z fun q3=>go ?_
 refine .seq<|.block<|.seq<|.join1 (fun i4=>⟨[(1,isI .i64 a1,none),(2,isP b1 0,none),(4,isP b2 0,none),(5,isI .i64 q3.1,none),(6,isB q3.2,none),(13,isB i4,none)],[boxO b2 tVal d0_47 [],boxO b1 tVal a0 []]⟩) (fun i4=>jh fu a0 a1 q3 i4) (fun i4=>?_) (fun hj1=>?_)
 ·refine .cd z ?_ ?_
  ·exact fr
  ·refine .s<|go ?_
   refine .cd z ?_ ?_
   ·exact fr
   ·refine .s<|go ?_
    refine .cd z ?_ ?_
    ·refine .s<|go ?_
     exact .call0 (c146 fu _) n146 z z fun q5=>fr
    ·refine .seq<|.join1 (fun i6=>⟨[(1,isI .i64 a1,none),(4,isP b2 0,none),(5,isI .i64 q3.1,none),(45,isB i6,none)],[boxO b2 tVal d0_47 []]⟩) (fun i6=>nC a1 q3 i6) (fun i6=>?_) (fun hj2=>?_)
     ·refine .cd z ?_ ?_
      ·exact fr
      ·exact fr
     ·refine .g<|go ?_
      refine .split 47 z (fun _=>?_) (fun _=>?_)
      ·refine go ?_
       exact .call0 (c139 fu _) n139 z z fun q7=>fj (hj2 _)
      ·exact fj (hj2 _)
 ·refine .g<|go ?_
  refine .call0 (c119 fu _) n119 z z fun q8=>go ?_
  refine .split 17 z (fun _=>?_) (fun _=>?_)
  ·exact fj (hj1 _)
  ·refine go ?_
   refine .split 21 z (fun _=>?_) (fun _=>?_)
   ·exact fj (hj1 _)
   ·refine go ?_
    refine .split 25 z (fun _=>?_) (fun _=>?_)
    ·exact fj (hj1 _)
    ·exact fj (hj1 _)
end Go.Proofs.YtganfdhmkdehlaaGreatDoor
