/- Functions of the program: what each answers, and that the machine answers so. -/
import Derived.Test.YtganfdhmkdehlaaGreatDoorQ2004A7
import Derived.KernelRfl
set_option linter.all false
namespace Go.Proofs.YtganfdhmkdehlaaGreatDoor
open Go Go.HL Tryz
attribute [local irreducible] W WO
def jy (fu:Nat)(a0:List Col)(i7:List Col):Option ((List Col)×Bool):=(f67 fu i7).bind fun q8=>cond (!q8) ((f91 a0).bind fun q9=>some (q9,false)) ((f91 i7).bind fun q10=>some (q10,true))
def rk (fu:Nat)(a0:List Col)(a1:aa)(q2:(List Col))(i11:Bool):Option ((List Col)×Bool):=cond i11 (some (q2,false)) (cond (decide (q2.length+List.length ([a1.col]:List Col)≤CAP)) (jy fu a0 (q2++([a1.col]:List Col))) none)
def mt (fu:Nat)(a0:List Col)(a1:aa)(q2:(List Col))(q4:Int)(i5:Bool):Option ((List Col)×Bool):=cond i5 (some (q2,false)) (cond (decide (a1.kind=1)) (cond a1.col.need (rk fu a0 a1 q2 (decide (a1.col.def_.kind=0))) (rk fu a0 a1 q2 false)) (cond (decide (a1.kind=2)) ((BB q2 q4 (IntKind.i64.wrap (q4+1))).bind fun q13=>jy fu a0 q13) (cond (decide (a1.kind=3)) (cond (decide (0≤q4)&&decide (q4 < (q2.length:Int))) (jy fu a0 (q2.set q4.toNat ({ (q2.getD q4.toNat default) with name:=a1.new }:Col))) none) (cond (decide (a1.kind=4)) (cond (decide (0≤q4)&&decide (q4 < (q2.length:Int))) (cond (decide (a1.col.kind=((q2.getD q4.toNat default).kind))) (some (q2,false)) (cond (decide (0≤q4)&&decide (q4 < (q2.length:Int))) ((Ao fu ((q2.getD q4.toNat default).def_) a1.col.kind).bind fun q15=>cond (decide (0≤q4)&&decide (q4 < (q2.length:Int))) (cond (decide (0≤q4)&&decide (q4 < (List.length (q2.set q4.toNat ({ (q2.getD q4.toNat default) with kind:=a1.col.kind }:Col)):Int))) (jy fu a0 ((q2.set q4.toNat ({ (q2.getD q4.toNat default) with kind:=a1.col.kind }:Col)).set q4.toNat ({ ((q2.set q4.toNat ({ (q2.getD q4.toNat default) with kind:=a1.col.kind }:Col)).getD q4.toNat default) with def_:=q15 }:Col))) none) none) none)) none) (jy fu a0 q2)))))
def f78 (fu:Nat)(a0:List Col)(a1:aa):Option ((List Col)×Bool):=(f91 a0).bind fun q2=>(f68 fu a0 a1.name).bind fun q4=>(Ap fu a1).bind fun q16=>cond (!q16) (mt fu a0 a1 q2 q4 true) (cond (!decide (a1.kind=1)) (mt fu a0 a1 q2 q4 (decide (q4<0))) (mt fu a0 a1 q2 q4 false))
theorem n78:Nm prog 151:=⟨_,_,func151,by kernel_rfl,z⟩
theorem c78 (fu:Nat)(a0:List Col)(a1:aa):Ctr prog 151 [(tL tCol).va a0,tChange.va a1] [] (f78 fu a0 a1) (fun _ _=>[]) (fun q=>tup [(tL tCol).va q.1,isB q.2]):=by
 refine .w func151 ntmps151 fun hf A w=>?_
 unfold f78
 refine .s<|.box (T:=tChange) z z fun b1=>.assignNil tCol z<|.an z z<|.s<|.m z z<|.callL0 (c91 _) n91 z z fun q2 v3=>.unRaw 9 z<|.an z z<|.s<|go ?_
 refine .call0 (c68 fu _ _) n68 z z fun q4=>.an z z<|.seq<|.seq<|.join1 (fun i5=>⟨[(0,(tL tCol).va a0,none),(3,isP b1 0,none),(7,isI .i64 q4,none),(25,isB i5,none),(6,isV v3,some v3)],[arrO tCol v3 q2,boxO b1 tChange a1 []]⟩) (fun i5=>mt fu a0 a1 q2 q4 i5) (fun i5=>?_) (fun hj1=>?_)
 ·refine .cd z ?_ ?_
  ·refine .s<|go ?_
   exact .frz 0 4 z z<|fr
  ·refine .skip<|.seq<|.s<|go ?_
   refine .block<|.s<|go ?_
   refine .join2 (fun v6 i7=>⟨[(0,(tL tCol).va a0,none),(6,isV v6,some v6)],[arrO tCol v6 i7]⟩) (fun v6 i7=>jy fu a0 i7) (fun v6 i7=>?_) (fun hj2=>?_)
   ·refine .inBlock<|.seq<|.s<|.m z z<|.frz 0 6 z z<|.also 94 6 z z<|.call0 (c67 fu _) n67 z z fun q8=>.not z z<|.nil<|.cd z ?_ ?_
    ·exact .s<|.m z z<|.call0 (aW.plain (c91 _)) n91 z z fun q9=>fr
    ·exact .skip<|.s<|.m z z<|.call0 (aW.plain (c91 _)) n91 z z fun q10=>fr
   ·refine .cd z ?_ ?_
    ·refine .seq<|.seq<|.join1 (fun i11=>⟨[(0,(tL tCol).va a0,none),(3,isP b1 0,none),(40,isB i11,none),(6,isV v3,some v3)],[arrO tCol v3 q2,boxO b1 tChange a1 []]⟩) (fun i11=>rk fu a0 a1 q2 i11) (fun i11=>?_) (fun hj3=>?_)
     ·refine .cd z ?_ ?_
      ·refine .s<|go ?_
       exact .frz 0 4 z z<|fr
      ·refine .skip<|.g<|go ?_
       exact .appA (T:=tCol) 0 z z z u36 cq z fun v12=>fj (hj2 _ _)
     ·refine .g<|go ?_
      refine .split 34 z (fun _=>?_) (fun _=>?_)
      ·exact fj (hj3 _)
      ·exact fj (hj3 _)
    ·refine .s<|go ?_
     refine .cd z ?_ ?_
     ·refine .g<|go ?_
      exact .callS 0 (c113 _ _ _ _) z n113 z z fun q13 v14=>.unRaw 53 z<|fj (hj2 _ _)
     ·refine .s<|go ?_
      refine .cd z ?_ ?_
      ·exact fj (hj2 _ _)
      ·refine .s<|go ?_
       refine .cd z ?_ ?_
       ·refine .seq<|.seq<|.pT fun h1=>.draw 8 [] mix (by kernel_rfl) sts z<|go ?_
        refine .cd z ?_ ?_
        ·refine .s<|go ?_
         exact .frz 0 4 z z<|fr
        ·exact .skip<|.pT fun h2=>.pb (c114 fu _ _) n114 fun q15 h3 k=>.draw 16 [2,3] mix (by kernel_rfl) sts z<|fj (hj2 _ _)
       ·exact fj (hj2 _ _)
 ·refine .g<|go ?_
  refine .call0 (c112 fu _) n112 z z fun q16=>go ?_
  refine .split 17 z (fun _=>?_) (fun _=>?_)
  ·exact fj (hj1 _)
  ·refine go ?_
   refine .split 21 z (fun _=>?_) (fun _=>?_)
   ·exact fj (hj1 _)
   ·exact fj (hj1 _)
def mB (fu:Nat)(a1:List aa):Nat→(List Col)→Int→Option ((List Col)×Bool)
 | 0,_,_=>none
 | n1+1,i2,i3=>cond (decide (i3 < (a1.length:Int))) (cond (decide (0≤i3)&&decide (i3 < (a1.length:Int))) ((f78 fu i2 (a1.getD i3.toNat default)).bind fun q5=>cond (!q5.2) (some (([]:List Col),false)) ((mB fu a1 n1) q5.1 (IntKind.i64.wrap (i3+1)))) none) (some (i2,true))
def f57 (fu:Nat)(a0:List Col)(a1:List aa):Option ((List Col)×Bool):=(f91 a0).bind fun q1=>mB fu a1 fu q1 0
theorem n57:Nm prog 79:=⟨_,_,func79,by kernel_rfl,z⟩
theorem c57 (fu:Nat)(a0:List Col)(a1:List aa):Ctr prog 79 [(tL tCol).va a0,(tL tChange).va a1] [] (f57 fu a0 a1) (fun _ _=>[]) (fun q=>tup [(tL tCol).va q.1,isB q.2]):=by
 refine .w func79 ntmps79 fun hf A w=>?_
 unfold f57
 refine .s<|.assignNil tCol z<|.an z z<|.s<|.m z z<|.call0 (aW.plain (c91 _)) n91 z z fun q1=>.an z z<|.seq<|.s<|go ?_
 refine .block<|.loop<|.keep [6,13,14,15] [] z<|(show ∀ (n1:Nat) (i2:List Col) (i3:Int),W _ _ _ _ _ ⟨[(6,(tL tCol).va i2,none),(13,(tL tChange).va a1,none),(14,isI .i64 (a1.length:Int),none),(15,isI .i64 i3,none)],[]⟩ (mB fu a1 n1 i2 i3) from ?_) fu _ _
 intro n1
 induction n1 with
 | zero=>exact fun _ _=>.stop
 | succ n1 ih1=>
  intro i2 i3
  refine .inLoop<|.s<|go ?_
  refine .seq<|.cd z ?_ ?_
  ·refine .skip<|.seq<|.block<|.s<|go ?_
   refine .alloc tChange d0_56 [] z56 z fun b4=>go ?_
   refine .s<|go ?_
   refine .call0 (c78 fu _ _) n78 z z fun q5=>go ?_
   refine .seq<|.s<|go ?_
   refine .cd z ?_ ?_
   ·exact .s<|.assignNil tCol z<|fr
   ·exact fj (ih1 _ _)
  ·exact fr
def f55 (fu:Nat)(a0:List Col)(a1:List aa):Option ((List Col)×Bool):=(f67 fu a0).bind fun q1=>cond (!q1) (some (([]:List Col),false)) ((f57 fu a0 a1).bind fun q2=>some (q2.1,q2.2))
theorem n55:Nm prog 78:=⟨_,_,func78,by kernel_rfl,z⟩
theorem c55 (fu:Nat)(a0:List Col)(a1:List aa):Ctr prog 78 [(tL tCol).va a0,(tL tChange).va a1] [] (f55 fu a0 a1) (fun _ _=>[]) (fun q=>tup [(tL tCol).va q.1,isB q.2]):=by
 refine .w func78 ntmps78 fun hf A w=>?_
 unfold f55
 refine .s<|.assignNil tCol z<|.an z z<|.seq<|.s<|.m z z<|.call0 (c67 fu _) n67 z z fun q1=>.not z z<|.nil<|.cd z ?_ ?_
 ·exact .s<|.assignNil tCol z<|fr
 ·refine .skip<|.s<|go ?_
  exact .call0 (c57 fu _ _) n57 z z fun q2=>fr
def lm (i1:Int)(rec1:Int→Option Bool)(i3:Bool):Option Bool:=cond i3 (some false) (rec1 (IntKind.i64.wrap (i1+1)))
def fz (fu:Nat)(a0:List Col)(a1:List Val):Nat→Int→Option Bool
 | 0,_=>none
 | n1+1,i1=>cond (decide (i1 < (a1.length:Int))) (cond (decide (0≤i1)&&decide (i1 < (a1.length:Int))) ((f25 fu (a1.getD i1.toNat default)).bind fun q4=>cond (!q4) (lm i1 (fz fu a0 a1 n1) true) (cond (decide (0≤i1)&&decide (i1 < (a0.length:Int))) ((f92 fu (a1.getD i1.toNat default) ((a0.getD i1.toNat default).kind)).bind fun q5=>cond (!q5) (lm i1 (fz fu a0 a1 n1) true) (cond (decide (0≤i1)&&decide (i1 < (a0.length:Int))) (cond ((a0.getD i1.toNat default).need) (lm i1 (fz fu a0 a1 n1) (decide (((a1.getD i1.toNat default).kind)=0))) (lm i1 (fz fu a0 a1 n1) false)) none)) none)) none) (some true)
def f58 (fu:Nat)(a0:List Col)(a1:List Val):Option Bool:=cond (!decide ((a1.length:Int)=(a0.length:Int))) (some false) (fz fu a0 a1 fu 0)
theorem n58:Nm prog 65:=⟨_,_,func65,by kernel_rfl,z⟩
theorem c58 (fu:Nat)(a0:List Col)(a1:List Val):Ctr prog 65 [(tL tCol).va a0,(tL tVal).va a1] [] (f58 fu a0 a1) (fun _ _=>[]) (fun q=>isB q):=by
 refine .w func65 ntmps65 fun hf A w=>?_
 unfold f58
 refine .s<|.an z z<|.seq<|.s<|go ?_
 refine .cd z ?_ ?_
 ·exact fr
 ·refine .skip<|.seq<|.s<|go ?_
  refine .block<|.loop<|.keep [0,12,13,14] [] z<|(show ∀ (n1:Nat) (i1:Int),W _ _ _ _ _ ⟨[(0,(tL tCol).va a0,none),(12,(tL tVal).va a1,none),(13,isI .i64 (a1.length:Int),none),(14,isI .i64 i1,none)],[]⟩ (fz fu a0 a1 n1 i1) from ?_) fu _
  intro n1
  induction n1 with
  | zero=>exact fun _=>.stop
  | succ n1 ih1=>
   intro i1
   refine .inLoop<|.s<|go ?_
   refine .seq<|.cd z ?_ ?_
   ·refine .skip<|.seq<|.block<|.s<|go ?_
    refine .alloc tVal d0_47 [] z47 z fun b2=>go ?_
    refine .seq<|.join1 (fun i3=>⟨[(0,(tL tCol).va a0,none),(12,(tL tVal).va a1,none),(13,isI .i64 (a1.length:Int),none),(14,isI .i64 i1,none),(43,isB i3,none)],[]⟩) (fun i3=>lm i1 (fz fu a0 a1 n1) i3) (fun i3=>?_) (fun hj2=>?_)
    ·refine .cd z ?_ ?_
     ·exact fr
     ·exact fj (ih1 _)
    ·refine .pb (c25 fu _) n25 fun q4 h6 k=>.pcond (fun h7=>?_) (fun h7=>?_)
     ·exact .draw 16 [] mix (by kernel_rfl) sts z<|fj (hj2 _)
     ·refine .pT fun h8=>.pb (c92 fu _ _) n92 fun q5 h9 k=>.pcond (fun h10=>?_) (fun h10=>?_)
      ·exact .draw 16 [] mix (by kernel_rfl) sts z<|fj (hj2 _)
      ·refine .draw 16 [] mix (by kernel_rfl) sts z<|go ?_
       refine .split 38 z (fun _=>?_) (fun _=>?_)
       ·exact fj (hj2 _)
       ·exact fj (hj2 _)
   ·exact fr
def B8 (a0:List Val):Option (List Val):=cond (decide (List.length ([]:List Val)+a0.length≤CAP)) (some (([]:List Val)++a0)) none
theorem n134:Nm prog 189:=⟨_,_,func189,by kernel_rfl,z⟩
attribute [local semireducible] W WO
theorem c134 (a0:List Val):aW prog 189 [(tL tVal).va a0] [] (B8 a0) (fun v=>v) (fun q v=>[arrO tVal v q]) (fun _ v=>tRaw.va v):=by
 refine aW.of_W func189 z ntmps189 z fun A w=>?_
 unfold B8
 refine .s<|.a z z<|.arrNil tVal<|.nil<|.seq<|.s<|.m z z<|.eqNil z u62 z fun nb1 hnb1=>.nil<|.eqr (r':=cond nb1 (cond (decide (List.length ([]:List Val)+a0.length≤CAP)) (some (([]:List Val)++a0)) none) (cond (decide (List.length ([]:List Val)+a0.length≤CAP)) (some (([]:List Val)++a0)) none)) ?_<|.cond z (fun _=>?_) (fun _=>?_)
 ·cases nb1<;>rfl
 ·obtain rfl:=hnb1 (by assumption)
  refine .eqr (r':=some ([]:List Val)) (by simp) ?_
  exact .s<|.an z z<|.toRaw 0 2 z z<|.retL1 (.slice none 0 0) func189 results189 (.tmp z) z (fun _ _ _ h=>h.1) (.d<|.e)
 ·exact .skip<|.s<|.lit (T:=tVal) u62 fk z z (.nil) z fun v2=>.toArr 0 5 z z z<|.m z z<|.appA (T:=tVal) 0 z z z u62 fk z fun v3=>.an z z<|.toRaw 0 2 z z<|.retL1 v3 func189 results189 (.tmp z) z (fun _ _ _ h=>h.1) (.d<|.c<|.e)
attribute [local irreducible] W WO
def B9 (a0:List Val):Option (List Val):=some a0
theorem n133:Nm prog 188:=⟨_,_,func188,by kernel_rfl,z⟩
theorem c133 (vp0:Value)(a0:List Val):aW prog 188 [isV vp0] [arrO tVal vp0 a0] (B9 a0) (fun v=>v) (fun q v=>[arrO tVal v q]) (fun _ v=>tRaw.va v):=by
 refine .w func188 ntmps188 fun hf A w=>?_
 unfold B9
 exact .know 0 z<|.s<|.a z z<|.arrNil tVal<|.nil<|.s<|.m z z<|.m z z<|.lenA 1 z z u62 z<|.m z z<|.lenA 1 z z u62 z<|.clip (T:=tVal) 1 z z z z u62 fk z fun v1=>.an z z<|.toRaw 1 2 z z<|.retL1 v1 func188 results188 (.tmp z) z (fun _ _ _ h=>h.1) (.c<|.d<|.e)
def yT (a0:List Val):Option (List Val):=(B8 a0).bind fun q1=>(B9 q1).bind fun q3=>some q3
theorem n115:Nm prog 150:=⟨_,_,func150,by kernel_rfl,z⟩
theorem c115 (a0:List Val):aW prog 150 [(tL tVal).va a0] [] (yT a0) (fun v=>v) (fun q v=>[arrO tVal v q]) (fun _ v=>tRaw.va v):=by
 refine .w func150 ntmps150 fun hf A w=>?_
 unfold yT
 exact .s<|.a z z<|.arrNil tVal<|.nil<|.s<|.m z z<|.callL0 (c134 _) n134 z z fun q1 v2=>.unRaw 4 z<|.callS 0 (c133 _ _) z n133 z z fun q3 v4=>.unRaw 5 z<|.an z z<|.toRaw 0 2 z z<|.retL1 v4 func150 results150 (.tmp z) z (fun _ _ _ h=>h.1) (.d<|.c<|.e)
def BA (a0:List Val)(a1 a2:Int):Option (List Val):=cond (decide (0≤a1)&&decide (a1≤a2)&&decide (a2≤(a0.length:Int))) (some (a0.take a1.toNat++a0.drop a2.toNat)) none
theorem n116:Nm prog 212:=⟨_,_,func212,by kernel_rfl,z⟩
theorem c116 (v0:Value)(a0:List Val)(a1 a2:Int):aW prog 212 [isV v0,isI .i64 a1,isI .i64 a2] [arrO tVal v0 a0] (BA a0 a1 a2) (fun v=>v) (fun q v=>[arrO tVal v q]) (fun _ v=>tRaw.va v):=by
 refine .w func212 ntmps212 fun hf A w=>?_
 unfold BA
 refine .pcond (fun h=>?_) (fun _=>.stop)
 simp only [Bool.and_eq_true,decide_eq_true_eq] at h
 obtain ⟨⟨h1,h2⟩,h3⟩:=h
 obtain ⟨i,rfl⟩:∃ i:Nat,a1=i:=⟨a1.toNat,by omega⟩
 obtain ⟨j,rfl⟩:∃ j:Nat,a2=j:=⟨a2.toNat,by omega⟩
 refine .arrV 0 z fun ad n c hv hn hnc hlim had=>?_
 subst hv
 have hij:i≤j:=by omega
 have hjn:j≤n:=by omega
 refine .s<|.an z z<|.s<|.m z z<|.m z z<|.m z z<|.m z z<|.lenV z u62 z<|.sliceV (T:=tVal) (l:=i) (h':=j) (m:=n) z u62 fk ⟨_,z⟩ ⟨_,z⟩ ⟨_,z⟩ hij hjn hnc z z<|.nil<|.eqr (r':=cond (decide ((i:Int)=(j:Int))) (some (a0.take i++a0.drop j)) (some (a0.take i++a0.drop j))) (by cases decide ((i:Int)=(j:Int))<;>rfl) ?_
 refine .seq<|.s<|go ?_
 refine .cond z (fun h=>?_) (fun h=>?_)
 ·simp only [decide_eq_true_eq,Int.natCast_inj] at h
  subst h
  refine .eqr (r':=some a0) (by simp) ?_
  refine .s<|go ?_
  exact .toRaw 0 6 z z<|.retL1 _ func212 results212 (.tmp z) z (fun _ _ _ h=>h.1) (.cons_cons _ .e)
 ·simp only [decide_eq_false_iff_not,Int.natCast_inj] at h
  have hc:0<c:=by omega
  obtain ⟨b,o,rfl⟩:=had hc
  have hi:i<j:=by omega
  have e1:(if c=0 then some (⟨b,o,none⟩:Addr) else (some (⟨b,o,none⟩:Addr)).map (·.add (0*tVal.sz)))=some ⟨b,o,none⟩:=by rw [if_neg (by omega)];simp [Addr.add0]
  have e2:i+(n-j)-0=i+(n-j):=by omega
  have e3:(if c=i+(n-j) then some (⟨b,o,none⟩:Addr) else (some (⟨b,o,none⟩:Addr)).map (·.add ((i+(n-j))*tVal.sz)))=some ⟨b,o+(i+(n-j))*tVal.sz,none⟩:=by rw [if_neg (by omega)];simp [Addr.add0]
  refine .skip<|.s<|.m z z<|.lenV z u62 z<|.an z z<|.seq<|.draw 6 [] mix (by kernel_rfl) (.j (fun o=>.m (o z) z)<|.j (fun o=>.m (o z) z)<|.j (fun o=>.sliceV (T:=tVal) (lo:=none) (hi:=some _) (mx:=none) (l:=0) (h':=i) (m:=c) (o z) u62 fk z ⟨_,o z⟩ z (Nat.zero_le _) (by omega) (Nat.le_refl _) e1 z)<|
   .j (fun o=>.m (o z) z)<|.j (fun o=>.m (o z) z)<|.j (fun o=>.sliceV (T:=tVal) (lo:=some _) (hi:=none) (mx:=none) (l:=j) (h':=n) (m:=c) (o z) u62 fk ⟨_,o z⟩ ⟨z,z⟩ z hjn hnc (Nat.le_refl _) z z)<|.nil) z<|?_
  refine .appDel (T:=tVal) 0 z z z hc hij hjn (fun hl=>by rw [if_neg (by omega)];simp [Addr.add0]) u62 fk z<|go ?_
  refine .s<|.m z z<|.m z z<|.lenV z u62 z<|.m z z<|.sliceV (T:=tVal) (lo:=some _) (hi:=some _) (mx:=none) (l:=i+(n-j)) (h':=n) (m:=c) z u62 fk ⟨_,z⟩ ⟨_,z⟩ z (by omega) hnc (Nat.le_refl _) e3 z<|.clearV (T:=tVal) 0 z z hc (by omega) (by omega) u62 fk z47<|.nil ?_
  refine .s<|go ?_
  exact .toRaw 0 6 z z<|.retL1 _ func212 results212 (.tmp z) z (fun _ _ _ h=>h.1) (.cons_cons _ .e)
def f79_j1 (i6:List Val):Option (List Val):=(yT i6).bind fun q7=>some q7
def f79 (fu:Nat)(a0:List Col)(a1:aa)(a2:List Val):Option (List Val):=(yT a2).bind fun q2=>(f68 fu a0 a1.name).bind fun q4=>cond (decide (a1.kind=1)) (cond (decide (q2.length+List.length ([a1.col.def_]:List Val)≤CAP)) (f79_j1 (q2++([a1.col.def_]:List Val))) none) (cond (decide (a1.kind=2)) ((BA q2 q4 (IntKind.i64.wrap (q4+1))).bind fun q10=>f79_j1 q10) (cond (decide (a1.kind=4)) (cond (decide (0≤q4)&&decide (q4 < (q2.length:Int))) ((Ao fu (q2.getD q4.toNat default) a1.col.kind).bind fun q12=>cond (decide (0≤q4)&&decide (q4 < (q2.length:Int))) (f79_j1 (q2.set q4.toNat q12)) none) none) (f79_j1 q2)))
theorem n79:Nm prog 181:=⟨_,_,func181,by kernel_rfl,z⟩
theorem c79 (fu:Nat)(a0:List Col)(a1:aa)(a2:List Val):aW prog 181 [(tL tCol).va a0,tChange.va a1,(tL tVal).va a2] [] (f79 fu a0 a1 a2) (fun v=>v) (fun q v=>[arrO tVal v q]) (fun _ v=>tRaw.va v):=by
 refine .w func181 ntmps181 fun hf A w=>?_
 unfold f79
 refine .s<|.box (T:=tChange) z z fun b1=>.a z z<|.arrNil tVal<|.nil<|.s<|.m z z<|.callL0 (c115 _) n115 z z fun q2 v3=>.unRaw 10 z<|.an z z<|.s<|go ?_
 refine .call0 (c68 fu _ _) n68 z z fun q4=>.an z z<|.seq<|.s<|go ?_
 refine .block<|.s<|go ?_
 refine .join2 (fun v5 i6=>⟨[(7,isV v5,some v5)],[arrO tVal v5 i6]⟩) (fun v5 i6=>f79_j1 i6) (fun v5 i6=>?_) (fun hj1=>?_)
 ·exact .inBlock<|.s<|.m z z<|.frz 0 7 z z<|.also 45 7 z z<|.callL0 (c115 _) n115 z z fun q7 v8=>.unRaw 46 z<|.an z z<|.toRaw 0 6 z z<|.retL1 v8 func181 results181 (.tmp z) z (fun _ _ _ h=>h.1) (.d<|.c<|.e)
 ·refine .cd z ?_ ?_
  ·refine .g<|go ?_
   exact .appA (T:=tVal) 0 z z z u62 fk z fun v9=>fj (hj1 _ _)
  ·refine .s<|go ?_
   refine .cd z ?_ ?_
   ·refine .g<|go ?_
    exact .callS 0 (c116 _ _ _ _) z n116 z z fun q10 v11=>.unRaw 31 z<|fj (hj1 _ _)
   ·refine .s<|go ?_
    refine .cd z ?_ ?_
    ·exact .pT fun h1=>.draw 9 [0,1] mix (by kernel_rfl) sts z<|.call0 (c114 fu _ _) n114 z z fun q12=>fj (hj1 _ _)
    ·exact fj (hj1 _ _)
def mq (fu:Nat)(a1:List aa):Nat→(List Col)→Int→(List Val)→Option (List Val)
 | 0,_,_,_=>none
 | n1+1,i3,i4,i6=>cond (decide (i4 < (a1.length:Int))) (cond (decide (0≤i4)&&decide (i4 < (a1.length:Int))) ((f79 fu i3 (a1.getD i4.toNat default) i6).bind fun q8=>(f78 fu i3 (a1.getD i4.toNat default)).bind fun q10=>(mq fu a1 n1) q10.1 (IntKind.i64.wrap (i4+1)) q8) none) (some i6)
def f85 (fu:Nat)(a0:List Col)(a1:List aa)(a2:List Val):Option (List Val):=(yT a2).bind fun q1=>mq fu a1 fu a0 0 q1
theorem n85:Nm prog 139:=⟨_,_,func139,by kernel_rfl,z⟩
theorem c85 (fu:Nat)(a0:List Col)(a1:List aa)(a2:List Val):aW prog 139 [(tL tCol).va a0,(tL tChange).va a1,(tL tVal).va a2] [] (f85 fu a0 a1 a2) (fun v=>v) (fun q v=>[arrO tVal v q]) (fun _ v=>tRaw.va v):=by
 refine .w func139 ntmps139 fun hf A w=>?_
 unfold f85
 refine .s<|.a z z<|.arrNil tVal<|.nil<|.s<|.m z z<|.callL0 (c115 _) n115 z z fun q1 v2=>.unRaw 11 z<|.an z z<|.seq<|.s<|go ?_
 refine .block<|.loop<|.drop (.d<|.c<|.e)<|.keep [0,12,13,14] [7] z<|(show ∀ (n1:Nat) (i3:List Col) (i4:Int) (v5:Value) (i6:List Val),W _ _ _ _ _ ⟨[(0,(tL tCol).va i3,none),(12,(tL tChange).va a1,none),(13,isI .i64 (a1.length:Int),none),(14,isI .i64 i4,none),(7,isV v5,some v5)],[arrO tVal v5 i6]⟩ (mq fu a1 n1 i3 i4 i6) from ?_) fu _ _ _ _
 intro n1
 induction n1 with
 | zero=>exact fun _ _ _ _=>.stop
 | succ n1 ih1=>
  intro i3 i4 v5 i6
  refine .inLoop<|.s<|go ?_
  refine .seq<|.cd z ?_ ?_
  ·refine .skip<|.seq<|.block<|.s<|go ?_
   refine .alloc tChange d0_56 [] z56 z fun b7=>go ?_
   refine .s<|go ?_
   refine .frz 1 7 z z<|.also 20 7 z z<|.callL0 (c79 fu _ _ _) n79 z z fun q8 v9=>.unRaw 21 z<|.an z z<|.g<|go ?_
   exact .call0 (c78 fu _ _) n78 z z fun q10=>fj (ih1 _ _ _ _)
  ·refine .exit z<|.s<|go ?_
   exact .toRaw 0 6 z z<|.retL1 v5 func139 results139 (.tmp z) z (fun _ _ _ h=>h.1) (.d<|.e)
def f49 (fu:Nat)(a0:ab)(a1:Row):Option (List Val):=cond (decide (0≤(0:Int))&&decide ((0:Int)≤a1.ver)&&decide (a1.ver≤(a0.changes.length:Int))) ((f57 fu a0.first ((a0.changes.take a1.ver.toNat).drop (0:Int).toNat)).bind fun q3=>cond (decide (0≤a1.ver)&&decide (a1.ver≤(a0.changes.length:Int))&&decide ((a0.changes.length:Int)≤(a0.changes.length:Int))) ((f85 fu q3.1 ((a0.changes.take (a0.changes.length:Int).toNat).drop a1.ver.toNat) a1.vals).bind fun q4=>some q4) none) none
theorem n49:Nm prog 63:=⟨_,_,func63,by kernel_rfl,z⟩
theorem c49 (fu:Nat)(a0:ab)(a1:Row):aW prog 63 [tTable.va a0,tRow.va a1] [] (f49 fu a0 a1) (fun v=>v) (fun q v=>[arrO tVal v q]) (fun _ v=>tRaw.va v):=by
 refine .w func63 ntmps63 fun hf A w=>?_
 unfold f49
 refine .s<|.box (T:=tTable) z z fun b1=>.box (T:=tRow) z z fun b2=>.a z z<|.arrNil tVal<|.nil<|.seq<|.pT fun h1=>.draw 7 [] mix (by kernel_rfl) (.j (fun o=>.fp (o z) fc z)<|.k (fun p e=>.lp 2 dH (e.op z) (p.get z z) sa z)<|.j (fun o=>.fp (o z) bv z)<|.k (fun p e=>.lp 2 bp (e.op z) (p.get z z) kB z)<|.j (fun o=>.fp (o z) bd z)<|.k (fun p e=>.lp 1 aZ (e.op z) (p.get z z) ty3 z)<|.k (fun p e h=>.useC h1<|.cut (e.op z) u56 jE z ⟨_,(e.op z)⟩ z<|h)<|.nil) z<|.call0 (c57 fu _ _) n57 z z fun q3=>go ?_
 exact .seq<|.pT fun h2=>.draw 8 [] mix (by kernel_rfl) (.j (fun o=>.m (o z) z)<|.j (fun o=>.fp (o z) bv z)<|.k (fun p e=>.lp 2 bp (e.op z) (p.get z z) kB z)<|.j (fun o=>.fp (o z) bd z)<|.k (fun p e=>.lp 1 aZ (e.op z) (p.get z z) ty3 z)<|.k (fun p e h=>.useC h2<|.cut (e.op z) u56 jE ⟨_,(e.op z)⟩ z z<|h)<|.j (fun o=>.fp (o z) cS z)<|.k (fun p e=>.lp 1 dv (e.op z) (p.get z z) n9 z)<|.nil) z<|.callL0 (c85 fu _ _ _) n85 z z fun q4 v5=>.unRaw 26 z<|.an z z<|.toRaw 0 4 z z<|.retL1 v5 func63 results63 (.tmp z) z (fun _ _ _ h=>h.1) (.d<|.c<|.c<|.c<|.e)
def f66 (fu:Nat)(a0:ab):Option (List Col):=(f57 fu a0.first a0.changes).bind fun q2=>some q2.1
theorem n66:Nm prog 61:=⟨_,_,func61,by kernel_rfl,z⟩
theorem c66 (fu:Nat)(a0:ab):Ctr prog 61 [tTable.va a0] [] (f66 fu a0) (fun _ _=>[]) (fun q=>(tL tCol).va q):=by
 refine .w func61 ntmps61 fun hf A w=>?_
 unfold f66
 refine .s<|.box (T:=tTable) z z fun b1=>.assignNil tCol z<|.nil<|.s<|go ?_
 exact .call0 (c57 fu _ _) n57 z z fun q2=>fr
def oM (i3:Int)(i6:Int)(i7:List Val)(q9:(List Val))(rec1:Int→Option Bool)(rec2:Int→(List Val)→Option Bool)(i11:Bool):Option Bool:=cond i11 (some false) (rec2 (IntKind.i64.wrap (i6+1)) (cond (memK (q9.getD i3.toNat default) i7) i7 (i7++[q9.getD i3.toNat default])))
def fe (fu:Nat)(a0:ab)(q2:(List Col))(i3:Int)(rec1:Int→Option Bool):Nat→Int→(List Val)→Option Bool
 | 0,_,_=>none
 | n2+1,i6,i7=>cond (decide (i6 < (a0.rows.length:Int))) (cond (decide (0≤i6)&&decide (i6 < (a0.rows.length:Int))) ((f49 fu a0 (a0.rows.getD i6.toNat default)).bind fun q9=>cond (decide (0≤i3)&&decide (i3 < (q9.length:Int))) (cond ((q2.getD i3.toNat default).once) (cond (!decide (((q9.getD i3.toNat default).kind)=0)) (oM i3 i6 i7 q9 rec1 (fe fu a0 q2 i3 rec1 n2) (memK (q9.getD i3.toNat default) i7)) (oM i3 i6 i7 q9 rec1 (fe fu a0 q2 i3 rec1 n2) false)) (oM i3 i6 i7 q9 rec1 (fe fu a0 q2 i3 rec1 n2) false)) none) none) (rec1 (IntKind.i64.wrap (i3+1)))
def ff (fu:Nat)(a0:ab)(q2:(List Col)):Nat→Int→Option Bool
 | 0,_=>none
 | n1+1,i3=>cond (decide (i3 < (q2.length:Int))) (cond (decide (0≤i3)&&decide (i3 < (q2.length:Int))) (fe fu a0 q2 i3 (ff fu a0 q2 n1) fu 0 ([]:List Val)) none) (some true)
def f59 (fu:Nat)(a0:ab):Option Bool:=(f66 fu a0).bind fun q2=>ff fu a0 q2 fu 0
theorem n59:Nm prog 80:=⟨_,_,func80,by kernel_rfl,z⟩
theorem c59 (fu:Nat)(a0:ab):Ctr prog 80 [tTable.va a0] [] (f59 fu a0) (fun _ _=>[]) (fun q=>isB q):=by
 refine .w func80 ntmps80 fun hf A w=>?_
 unfold f59
 refine .s<|.box (T:=tTable) z z fun b1=>.an z z<|.seq<|.s<|go ?_
 refine .call0 (c66 fu _) n66 z z fun q2=>go ?_
 refine .block<|.loop<|.keep [1,10,11,12] [] z<|(show ∀ (n1:Nat) (i3:Int),W _ _ _ _ _ ⟨[(1,isP b1 0,none),(10,(tL tCol).va q2,none),(11,isI .i64 (q2.length:Int),none),(12,isI .i64 i3,none)],[boxO b1 tTable a0 []]⟩ (ff fu a0 q2 n1 i3) from ?_) fu _
 intro n1
 induction n1 with
 | zero=>exact fun _=>.stop
 | succ n1 ih1=>
  intro i3
  refine .inLoop<|.s<|go ?_
  refine .seq<|.cd z ?_ ?_
  ·refine .skip<|.seq<|.block<|.s<|go ?_
   refine .alloc tCol d0_52 [] z52 z fun b4=>go ?_
   refine .s<|.makeMap yy z fun v5=>.an z z<|.s<|go ?_
   refine .block<|.loop<|.keep [1,3,4,10,11,12,19,20,21] [5] z<|(show ∀ (n2:Nat) (i6:Int) (i7:List Val),W _ _ _ _ _ ⟨[(1,isP b1 0,none),(3,isI .i64 i3,none),(4,isP b4 0,none),(10,(tL tCol).va q2,none),(11,isI .i64 (q2.length:Int),none),(12,isI .i64 i3,none),(19,(tL tRow).va a0.rows,none),(20,isI .i64 (a0.rows.length:Int),none),(21,isI .i64 i6,none),(5,isV v5,some v5)],[mapO yy v5 i7,boxO b4 tCol (q2.getD i3.toNat default) [],boxO b1 tTable a0 []]⟩ (fe fu a0 q2 i3 (ff fu a0 q2 n1) n2 i6 i7) from ?_) fu _ _
   intro n2
   induction n2 with
   | zero=>exact fun _ _=>.stop
   | succ n2 ih2=>
    intro i6 i7
    refine .inLoop<|.s<|go ?_
    refine .seq<|.cd z ?_ ?_
    ·refine .skip<|.seq<|.block<|.s<|go ?_
     refine .alloc tRow d0_37 [] z37 z fun b8=>go ?_
     refine .s<|go ?_
     refine .call0 (aW.plain (c49 fu _ _)) n49 z z fun q9=>go ?_
     refine .alloc tVal d0_47 [] z47 z fun b10=>go ?_
     refine .seq<|.seq<|.join1 (fun i11=>⟨[(1,isP b1 0,none),(3,isI .i64 i3,none),(4,isP b4 0,none),(8,isP b10 0,none),(10,(tL tCol).va q2,none),(11,isI .i64 (q2.length:Int),none),(12,isI .i64 i3,none),(19,(tL tRow).va a0.rows,none),(20,isI .i64 (a0.rows.length:Int),none),(21,isI .i64 i6,none),(42,isB i11,none),(5,isV v5,some v5)],[boxO b10 tVal (q9.getD i3.toNat default) [],mapO yy v5 i7,boxO b4 tCol (q2.getD i3.toNat default) [],boxO b1 tTable a0 []]⟩) (fun i11=>oM i3 i6 i7 q9 (ff fu a0 q2 n1) (fe fu a0 q2 i3 (ff fu a0 q2 n1) n2) i11) (fun i11=>?_) (fun hj4=>?_)
     ·refine .cd z ?_ ?_
      ·exact fr
      ·refine .skip<|.g<|go ?_
       exact .mapAdd (T:=tVal) 1 z z z CI AZ<|fj (ih2 _ _)
     ·refine .g<|go ?_
      refine .split 33 z (fun _=>?_) (fun _=>?_)
      ·refine go ?_
       refine .split 38 z (fun _=>?_) (fun _=>?_)
       ·refine go ?_
        exact .lookup (T:=tVal) 2 z z z CI AZ (by kernel_rfl) z<|fj (hj4 _)
       ·exact fj (hj4 _)
      ·exact fj (hj4 _)
    ·exact fj (ih1 _)
  ·exact fr
end Go.Proofs.YtganfdhmkdehlaaGreatDoor
