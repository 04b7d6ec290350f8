/- What functions answer. -/
import Derived.Test.YtganfdhmkdehlaaGreatDoorQ2007A5
import Derived.KernelRfl
set_option linter.all false
namespace Go.Proofs.YtganfdhmkdehlaaGreatDoor
open Go Go.HL Tryz
attribute [local irreducible] W WO
def jy (a0:List Col):Nat→Int→(List Val)→Option (List Val)
 | 0,_,_=>none
 | n1+1,i2,i3=>cond (decide (i2 < (a0.length:Int))) (cond (decide (0≤i2)&&decide (i2 < (a0.length:Int))) (cond (decide (i3.length+List.length ([(a0.getD i2.toNat default).def_]:List Val)≤CAP)) ((jy a0 n1) (IntKind.i64.wrap (i2+1)) (i3++([(a0.getD i2.toNat default).def_]:List Val))) none) none) (some i3)
def C1 (fu:Nat)(a0:List Col):Option (List Val):=jy a0 fu 0 ([]:List Val)
theorem HQ:Nm prog 217:=nmK func217
theorem Io (fu:Nat)(a0:List Col):Ctr prog 217 [(tL tCol).va a0] [] (C1 fu a0) (fun _ _=>[]) (fun q=>(tL tVal).va q):=by
 refine .w func217 ntmps217 fun hf A w=>?_
 unfold C1
 refine .s<|.assignNil tVal z<|.nil<|.s<|.lit (T:=tVal) u62 fv z z (.nil) z fun v1=>.an z z<|.seq<|.s<|.an z z<|.block<|.loop<|.keep [0,4] [3] z<|(show ∀ (n1:Nat) (i2:Int) (i3:List Val) (v4:Value),W _ _ _ _ _ ⟨[(0,(tL tCol).va a0,none),(4,isI .i64 i2,none),(3,(tL tVal).va i3,some v4)],[appO 3 v4]⟩ (jy a0 n1 i2 i3) from ?_) fu _ _ _
 intro n1
 induction n1 with
 | zero=>exact fun _ _ _=>.stop
 | succ n1 ih1=>
  intro i2 i3 v4
  refine .inLoop<|.seq<|.s<|go ?_
  refine .cd z ?_ ?_
  ·refine .skip<|.seq<|.block<|.g<|go ?_
   exact .app (T:=tVal) 0 z z z u62 fv z fun v5=>fj (ih1 _ _ _)
  ·exact fr
def sa (a0:ab)(q5:(List Val)×Bool)(i9:Int):Option (ab×Int):=cond (!decide (i9=0)) (some (a0,i9)) (cond (decide (a0.rows.length+List.length ([(⟨a0.next,(a0.changes.length:Int),q5.1⟩:Row)]:List Row)≤CAP)) (some ((⟨a0.first,a0.changes,a0.rows++([(⟨a0.next,(a0.changes.length:Int),q5.1⟩:Row)]:List Row),IntKind.i64.wrap (a0.next+1)⟩:ab),i9)) none)
def o8 (a0:ab)(q5:(List Val)×Bool)(q7:Int)(i8:Bool):Option (ab×Int):=cond i8 (sa a0 q5 4) (sa a0 q5 q7)
def f65 (fu:Nat)(a0:ab)(a1:List Set):Option (ab×Int):=(zG fu a0).bind fun q3=>(C1 fu q3).bind fun q4=>(BH fu q3 q4 a1).bind fun q5=>cond (!q5.2) (some (a0,1)) ((f102o fu a0 (⟨a0.next,(a0.changes.length:Int),q5.1⟩:Row)).bind fun q7=>cond (decide (q7=0)) (cond (decide (8≤(a0.rows.length:Int))) (o8 a0 q5 q7 true) (o8 a0 q5 q7 (decide (60≤a0.next)))) (o8 a0 q5 q7 false))
theorem n65:Nm prog 200:=nmK func200
theorem c65 (fu:Nat)(vp0:Value)(cp0:Value)(a0:ab)(a1:List Set):aY prog 200 [tTableA.va (⟨a0.first,(cp0,a0.changes),vp0,a0.next⟩:aq),(tL tSet).va a1] [arrO tRow vp0 a0.rows] (f65 fu a0 a1) (fun v=>tQ (zj 0 v)) (fun q p=>[arrO tRow p.1 q.1.rows]) (fun q p=>tup [tTableA.va (⟨q.1.first,(p.2,q.1.changes),p.1,q.1.next⟩:aq),isI .i64 q.2]):=by
 refine .w func200 ntmps200 fun hf A w=>?_
 unfold f65
 refine .s<|.box (T:=tTableA) z z fun b1=>.alloc tTableA aS [] bB z fun b2=>.an z z<|.s<|go ?_
 refine .callR 2 (De fu _ _ _) z n53 z z fun q3=>.an z z<|.s<|go ?_
 refine .call0 (Io fu _) HQ z z fun q4=>.m z z<|.call0 (Hh fu _ _ _) G0 z z fun q5=>go ?_
 refine .seq<|.s<|go ?_
 refine .cd z ?_ ?_
 ·exact .s<|.lp 1 (Fld.self _) z z ty27 z<|.storeP 0 (Fld.self _) z z z ty27<|.an z z<|.retL2 (vp0,cp0) func200 results200 (.cell 0 z z ty27) (.tmp z) z (fun _ _ _ h=>bJ h) (.c<|.c<|.d<|.e)
 ·refine .skip<|.s<|go ?_
  refine .alloc tRow d0_37 [] z37 z fun b6=>go ?_
  refine .s<|go ?_
  refine .callR 3 (Ds fu _ _ _ _) z GZ z z fun q7=>.an z z<|.seq<|.seq<|.join1 (fun i8=>⟨[(2,isP b1 0,none),(4,isP b2 0,none),(9,isP b6 0,none),(10,isI .i64 q7,none),(46,isB i8,none)],[boxO b6 tRow (⟨a0.next,(a0.changes.length:Int),q5.1⟩:Row) [],boxO b2 tTableA (⟨([]:List Col),((.slice none 0 0),([]:List aa)),(.slice none 0 0),(0:Int)⟩:aq) [],boxO b1 tTableA (⟨a0.first,(cp0,a0.changes),vp0,a0.next⟩:aq) [],arrO tRow vp0 a0.rows]⟩) (fun i8=>o8 a0 q5 q7 i8) (fun i8=>?_) (fun hj1=>?_)
  ·refine .join1 (fun i9=>⟨[(2,isP b1 0,none),(4,isP b2 0,none),(9,isP b6 0,none),(10,isI .i64 i9,none)],[boxO b6 tRow (⟨a0.next,(a0.changes.length:Int),q5.1⟩:Row) [],boxO b2 tTableA (⟨([]:List Col),((.slice none 0 0),([]:List aa)),(.slice none 0 0),(0:Int)⟩:aq) [],boxO b1 tTableA (⟨a0.first,(cp0,a0.changes),vp0,a0.next⟩:aq) [],arrO tRow vp0 a0.rows]⟩) (fun i9=>sa a0 q5 i9) (fun i9=>?_) (fun hj2=>?_)
   ·refine .seq<|.s<|go ?_
    refine .cd z ?_ ?_
    ·exact .s<|.lp 2 (Fld.self _) z z ty27 z<|.m z z<|.storeP 1 (Fld.self _) z z z ty27<|.an z z<|.retL2 (vp0,cp0) func200 results200 (.cell 1 z z ty27) (.tmp z) z (fun _ _ _ h=>bJ h) (.c<|.c<|.c<|.d<|.e)
    ·refine .skip<|.s<|go ?_
     refine .appA (T:=tRow) 3 z z z u57 jA z fun v10=>.fp z fa27_2 z<|.toRaw (T:=tRow) 3 55 z z<|go ?_
     refine .s<|go ?_
     exact .s<|.lp 2 (Fld.self _) z z ty27 z<|.m z z<|.storeP 1 (Fld.self _) z z z ty27<|.an z z<|.retL2 (v10,cp0) func200 results200 (.cell 1 z z ty27) (.tmp z) z (fun _ _ _ h=>bJ h) (.c<|.c<|.c<|.d<|.e)
   ·refine .cd z ?_ ?_
    ·exact fj (hj2 _)
    ·exact fj (hj2 _)
  ·refine .g<|go ?_
   refine .split 36 z (fun _=>?_) (fun _=>?_)
   ·refine go ?_
    refine .split 41 z (fun _=>?_) (fun _=>?_)
    ·exact fj (hj1 _)
    ·exact fj (hj1 _)
   ·exact fj (hj1 _)
def gO (i5:List Col)(i6:Rd):Option ((List Col)×Rd):=some (i5,i6)
def zK (fu:Nat)(a0:Rd)(a1:List Col):Option ((List Col)×Rd):=cond (decide (List.length ([]:List Col)+a1.length≤CAP)) (cond (decide ((List.length (([]:List Col)++a1):Int)=0)) (some (([]:List Col)++a1,a0)) ((f74 fu a0 (List.length (([]:List Col)++a1):Int)).bind fun q3=>(f74 fu q3.2 60).bind fun q4=>cond (decide (q4.1=0)) ((f96 fu q4.2 ([([]:List UInt8),([65]:List UInt8),([97,98,99,100]:List UInt8),([97]:List UInt8)]:List (List UInt8))).bind fun q7=>cond (decide (0≤q3.1)&&decide (q3.1 < (List.length (([]:List Col)++a1):Int))) (gO ((([]:List Col)++a1).set q3.1.toNat ({ ((([]:List Col)++a1).getD q3.1.toNat default) with name:=q7.1 }:Col)) q7.2) none) (cond (decide (q4.1=1)) ((f73 fu q4.2 ([0,3,1,2]:List Int)).bind fun q8=>cond (decide (0≤q3.1)&&decide (q3.1 < (List.length (([]:List Col)++a1):Int))) (gO ((([]:List Col)++a1).set q3.1.toNat ({ ((([]:List Col)++a1).getD q3.1.toNat default) with kind:=q8.1 }:Col)) q8.2) none) (cond (decide (q4.1=2)) ((f97 fu q4.2).bind fun q9=>cond (decide (0≤q3.1)&&decide (q3.1 < (List.length (([]:List Col)++a1):Int))) (gO ((([]:List Col)++a1).set q3.1.toNat ({ ((([]:List Col)++a1).getD q3.1.toNat default) with def_:=q9.1 }:Col)) q9.2) none) (cond (decide (q4.1=3)) (cond (decide (0≤q3.1)&&decide (q3.1 < (List.length (([]:List Col)++a1):Int))) (cond (decide (List.length (([]:List Col)++a1)+List.length ([(([]:List Col)++a1).getD q3.1.toNat default]:List Col)≤CAP)) (some ((([]:List Col)++a1)++([(([]:List Col)++a1).getD q3.1.toNat default]:List Col),q4.2)) none) none) (cond (decide (q4.1=4)) (some (([]:List Col),q4.2)) (cond (decide (q4.1=5)) (cond (decide (0≤q3.1)&&decide (q3.1 < (List.length (([]:List Col)++a1):Int))) (cond (decide (0≤q3.1)&&decide (q3.1 < (List.length (([]:List Col)++a1):Int))) (gO ((([]:List Col)++a1).set q3.1.toNat ({ ((([]:List Col)++a1).getD q3.1.toNat default) with once:=!(((([]:List Col)++a1).getD q3.1.toNat default).once) }:Col)) q4.2) none) none) (gO (([]:List Col)++a1) q4.2)))))))) none
theorem DH:Nm prog 192:=nmK func192
theorem DV (fu:Nat)(bp0:Nat)(a0:Rd)(a1:List Col):Ctr prog 192 [isP bp0 0,(tL tCol).va a1] [boxO bp0 tRd a0 []] (zK fu a0 a1) (fun q _=>[boxO bp0 tRd q.2 []]) (fun q=>(tL tCol).va q.1):=by
 refine .w func192 ntmps192 fun hf A w=>?_
 unfold zK
 refine .s<|.assignNil tCol z<|.nil<|.s<|.lit (T:=tCol) u36 cu z z (.nil) z fun v1=>.toArr 0 7 z z z<|.m z z<|.appA (T:=tCol) 0 z z z u36 cu z fun v2=>.an z z<|.seq<|.s<|go ?_
 refine .cd z ?_ ?_
 ·refine .s<|go ?_
  exact .frz 0 4 z z<|fr
 ·refine .skip<|.s<|go ?_
  refine .call1 1 (c74 fu _ _ _) z n74 z z fun q3=>.an z z<|.seq<|.s<|.m z z<|.call1 1 (c74 fu _ _ _) z n74 z z fun q4=>.nil<|.block<|.s<|go ?_
  refine .join2 (fun i5 i6=>⟨[(5,isV v2,some v2)],[arrO tCol v2 i5,boxO bp0 tRd i6 []]⟩) (fun i5 i6=>gO i5 i6) (fun i5 i6=>?_) (fun hj1=>?_)
  ·refine .inBlock<|.s<|go ?_
   exact .frz 0 4 z z<|fr
  ·refine .cd z ?_ ?_
   ·refine .g<|go ?_
    exact .call1 1 (c96 fu _ _ _) z n96 z z fun q7=>fj (hj1 _ _)
   ·refine .s<|go ?_
    refine .cd z ?_ ?_
    ·refine .g<|go ?_
     exact .call1 1 (c73 fu _ _ _) z n73 z z fun q8=>fj (hj1 _ _)
    ·refine .s<|go ?_
     refine .cd z ?_ ?_
     ·refine .g<|go ?_
      exact .call1 1 (c97 fu _ _) z n97 z z fun q9=>fj (hj1 _ _)
     ·refine .s<|go ?_
      refine .cd z ?_ ?_
      ·refine .s<|go ?_
       exact .frz 0 5 z z<|.also 48 5 z z<|.also 49 5 z z<|.app (T:=tCol) 0 z z z u36 cu z fun v10=>fr
      ·refine .s<|go ?_
       refine .cd z ?_ ?_
       ·exact fr
       ·refine .s<|go ?_
        refine .cd z ?_ ?_
        ·exact fj (hj1 _ _)
        ·exact fj (hj1 _ _)
def dO (i12:ab)(i14:Rd):Option (ab×Rd):=some (i12,i14)
def rR (fu:Nat)(q3:ab)(q6:Int×Rd)(i20:Bool):Option (ab×Rd):=cond i20 (cond (decide (0≤(0:Int))&&decide ((0:Int) < (q3.rows.length:Int))) ((f97 fu q6.2).bind fun q21=>cond (decide (0≤(0:Int))&&decide ((0:Int) < (List.length ((q3.rows.getD (0:Int).toNat default).vals):Int))) (dO (⟨q3.first,q3.changes,q3.rows.set (0:Int).toNat ({ (q3.rows.getD (0:Int).toNat default) with vals:=((q3.rows.getD (0:Int).toNat default).vals).set (0:Int).toNat q21.1 }:Row),q3.next⟩:ab) q21.2) none) none) (dO q3 q6.2)
def f93 (fu:Nat)(a0:Rd)(a1:ab):Option (ab×Rd):=(f42 fu a1).bind fun q3=>(f74 fu a0 70).bind fun q6=>cond (decide (q6.1=0)) ((zK fu q6.2 q3.first).bind fun q7=>(zK fu q7.2 q7.1).bind fun q8=>(zK fu q8.2 q8.1).bind fun q9=>(zK fu q9.2 q9.1).bind fun q10=>some ((⟨q10.1,q3.changes,q3.rows,q3.next⟩:ab),q10.2)) (cond (decide (q6.1=1)) (cond (decide (0 < (q3.changes.length:Int))) (cond (decide (0≤(1:Int))&&decide ((1:Int)≤(q3.changes.length:Int))&&decide ((q3.changes.length:Int)≤(q3.changes.length:Int))) (some ((⟨q3.first,(q3.changes.take (q3.changes.length:Int).toNat).drop (1:Int).toNat,q3.rows,q3.next⟩:ab),q6.2)) none) (some (q3,q6.2))) (cond (decide (q6.1=2)) (cond (decide (0 < (q3.rows.length:Int))) ((f74 fu q6.2 (q3.rows.length:Int)).bind fun q15=>(f73 fu q15.2 ([-1,0,(q3.changes.length:Int),9]:List Int)).bind fun q16=>cond (decide (0≤q15.1)&&decide (q15.1 < (q3.rows.length:Int))) (dO (⟨q3.first,q3.changes,q3.rows.set q15.1.toNat ({ (q3.rows.getD q15.1.toNat default) with ver:=q16.1 }:Row),q3.next⟩:ab) q16.2) none) (dO q3 q6.2)) (cond (decide (q6.1=3)) (cond (decide (0 < (q3.rows.length:Int))) (cond (decide (0≤(0:Int))&&decide ((0:Int) < (q3.rows.length:Int))) (cond (decide (q3.rows.length+List.length ([q3.rows.getD (0:Int).toNat default]:List Row)≤CAP)) (dO (⟨q3.first,q3.changes,q3.rows++([q3.rows.getD (0:Int).toNat default]:List Row),q3.next⟩:ab) q6.2) none) none) (dO q3 q6.2)) (cond (decide (q6.1=4)) ((f73 fu q6.2 ([0,1,60,61]:List Int)).bind fun q18=>dO (⟨q3.first,q3.changes,q3.rows,q18.1⟩:ab) q18.2) (cond (decide (q6.1=5)) (cond (decide (0 < (q3.rows.length:Int))) ((f74 fu q6.2 (q3.rows.length:Int)).bind fun q19=>cond (decide (0≤q19.1)&&decide (q19.1 < (q3.rows.length:Int))) (cond (decide (List.length ((q3.rows.getD q19.1.toNat default).vals)+List.length ([(⟨d0_47.kind,d0_47.n,d0_47.text⟩:Val)]:List Val)≤CAP)) (cond (decide (0≤q19.1)&&decide (q19.1 < (q3.rows.length:Int))) (dO (⟨q3.first,q3.changes,q3.rows.set q19.1.toNat ({ (q3.rows.getD q19.1.toNat default) with vals:=((q3.rows.getD q19.1.toNat default).vals)++([(⟨d0_47.kind,d0_47.n,d0_47.text⟩:Val)]:List Val) }:Row),q3.next⟩:ab) q19.2) none) none) none) (dO q3 q6.2)) (cond (decide (q6.1=6)) (cond (decide (0 < (q3.rows.length:Int))) (cond (decide (0≤(0:Int))&&decide ((0:Int) < (q3.rows.length:Int))) (rR fu q3 q6 (decide (0 < (List.length ((q3.rows.getD (0:Int).toNat default).vals):Int)))) none) (rR fu q3 q6 false)) (dO q3 q6.2)))))))
theorem n93:Nm prog 154:=nmK func154
attribute [local semireducible] W WO
theorem c93 (fu:Nat)(bp0:Nat)(a0:Rd)(a1:ab):Ctr prog 154 [isP bp0 0,tTable.va a1] [boxO bp0 tRd a0 []] (f93 fu a0 a1) (fun q _=>[boxO bp0 tRd q.2 []]) (fun q=>tTable.va q.1):=by
 refine Ctr.of_W func154 z ntmps154 z fun A w=>?_
 unfold f93
 refine .pbind fun q3 hq3=>.pbind fun q6 hq6=>?_
 by_cases e5:q6.1=5
 ·obtain ⟨K,hK⟩:∃ K:Nat,∀ q,f74 fu q6.2 (q3.rows.length:Int)=some q→q.1.toNat=K:=by
   cases f74 fu q6.2 (q3.rows.length:Int) with
   | none=>exact ⟨0,fun q h=>nomatch h⟩
   | some q=>exact ⟨q.1.toNat,fun q' h'=>by cases h';rfl⟩
  refine .s<|.box (T:=tTable) z z fun b1=>.alloc tTableA aS [] bB z fun b2=>.nil<|.s<|.lp 1 (Fld.self _) z z ty27 z<|.bindK2 hq3 (fun r h=>.callE (G7 K fu _) n42 z z h) fun p4 g=>.alloc tTableA aS [] bB z fun b5=>.storeP 0 (Fld.self _) z z z ty27<|.nil<|W_factLen 3 z fun hlen=>?_
  rw [← hlen]
  refine .s<|.fp z fa27_2 z<|.loadR 0 fTableA_2 z z ty25 z<|.know 11 z<|.lenA (T:=cS) 1 z z u57 z<|.an z z<|.seq<|.s<|.m z z<|.bindK hq6 (fun r h=>.call1 7 (c74 fu _ _ _) z n74 z z h)<|.nil<|.block<|.s<|.bin z z z z<|.an z z<|.cond z (fun hc=>absurd (of_decide_eq_true hc) (by omega)) (fun _=>?_)
  refine .s<|.bin z z z z<|.an z z<|.cond z (fun hc=>absurd (of_decide_eq_true hc) (by omega)) (fun _=>?_)
  refine .s<|.bin z z z z<|.an z z<|.cond z (fun hc=>absurd (of_decide_eq_true hc) (by omega)) (fun _=>?_)
  refine .s<|.bin z z z z<|.an z z<|.cond z (fun hc=>absurd (of_decide_eq_true hc) (by omega)) (fun _=>?_)
  refine .s<|.bin z z z z<|.an z z<|.cond z (fun hc=>absurd (of_decide_eq_true hc) (by omega)) (fun _=>?_)
  refine .s<|.bin z z z z<|.an z z<|.cond z (fun _=>?_) (fun hc=>absurd e5 (of_decide_eq_false hc))
  refine .s<|.m z z<|.bin z z z z<|.nil<|.cond z (fun _=>?_) (fun _=>?_)
  ·refine .pbind fun q19 hq19=>?_
   have hq:=hK q19 (by rw [← hlen];exact hq19)
   subst hq
   refine .s<|.m z z<|.m z z<|.bindK hq19 (fun r h=>.call1 7 (c74 fu _ _ _) z n74 z z h)<|.an z z<|.pT fun h4=>.pT fun h5=>?_
   have hlt:q19.1.toNat<q3.rows.length:=by
    simp only [Bool.and_eq_true,decide_eq_true_eq] at h4
    omega
   refine W_bEq (by rw [tb hlt]) ?_
   refine .drawS 12 [] [11] [4] mix (by kernel_rfl) (.j (fun o=>.fp (o z) fa27_2 z)<|.k (fun p e=>.loadR 0 fTableA_2 (e.op z) (p.get z z) ty25 z)<|.j (fun o=>.m (o z) z)<|.j (fun o=>.fp (o z) fa27_2 z)<|.k (fun p e=>.loadR 0 fTableA_2 (e.op z) (p.get z z) ty25 z)<|.j (fun o=>.m (o z) z)<|.k (fun p e h=>.useC h4<|.elemA (T:=cS) 1 (e.op z) (e.op z) (p.get z z) u57 ty37 z<|h)<|.j (fun o=>.fieldA (o z) cV z)<|.k (fun p e=>l0 1 js (e.op z) (p.get z z) oA z)<|.j (fun o=>.build z GN z47 (.nil) z)<|.k (fun p e h=>.litN (T:=tVal) u62 fv z z (.cons (e.op z)<|.nil) z<|h)<|.skip<|.nil) z<|.cons (d:=92) z z fun _ _ hE h=>.useC h5<|.appA (T:=tVal) 4 (hE.op z) (hE.op z) z u62 fv z fun v9=>h _ _ (.same<|.same<|.same<|.same<|.hole z<|.same<|.same<|.same<|.nil)<|.nil<|.elemA (T:=cS) 1 z z z u57 ty37 z<|.fieldA z cV z<|.toRaw (T:=tVal) 4 92 z z<|.storeA 1 js z z z oA<|.nil<|wN 3 v9 ((q3.rows.getD q19.1.toNat default).vals++[d0_47]) z<|W_bEq (by rw [← Cr (ras:=g) (w:=v9) (xs:=(q3.rows.getD q19.1.toNat default).vals++[d0_47]) hlen hlt])<|W_close 1 3 4 z z z ?_
   exact .inBlock<|.s<|.lp 0 (Fld.self _) z z ty27 z<|.storeP 5 (Fld.self _) z z z ty27<|.nil<|.frzBox 5 1 conv27 z z<|.ret1 func154 results154 (.cell 5 z z ty27) z (fun _ _=>.c<|.c<|.c<|.c<|.c<|.c<|.c<|.d<|.e)
  ·exact .skip<|W_close 1 3 4 z z z<|.inBlock<|.s<|.lp 0 (Fld.self _) z z ty27 z<|.storeP 5 (Fld.self _) z z z ty27<|.nil<|.frzBox 5 1 conv27 z z<|.ret1 func154 results154 (.cell 5 z z ty27) z (fun _ _=>.c<|.c<|.c<|.c<|.c<|.c<|.c<|.d<|.e)
 ·by_cases e6:q6.1=6
  ·refine .s<|.box (T:=tTable) z z fun b1=>.alloc tTableA aS [] bB z fun b2=>.nil<|.s<|.lp 1 (Fld.self _) z z ty27 z<|.bindK2 hq3 (fun r h=>.callE (G7 0 fu _) n42 z z h) fun p4 g=>.alloc tTableA aS [] bB z fun b5=>.storeP 0 (Fld.self _) z z z ty27<|.nil<|W_factLen 3 z fun hlen=>?_
   rw [← hlen]
   refine .s<|.fp z fa27_2 z<|.loadR 0 fTableA_2 z z ty25 z<|.know 11 z<|.lenA (T:=cS) 1 z z u57 z<|.an z z<|.seq<|.s<|.m z z<|.bindK hq6 (fun r h=>.call1 7 (c74 fu _ _ _) z n74 z z h)<|.nil<|.block<|.s<|.bin z z z z<|.an z z<|.cond z (fun hc=>absurd (of_decide_eq_true hc) (by omega)) (fun _=>?_)
   refine .s<|.bin z z z z<|.an z z<|.cond z (fun hc=>absurd (of_decide_eq_true hc) (by omega)) (fun _=>?_)
   refine .s<|.bin z z z z<|.an z z<|.cond z (fun hc=>absurd (of_decide_eq_true hc) (by omega)) (fun _=>?_)
   refine .s<|.bin z z z z<|.an z z<|.cond z (fun hc=>absurd (of_decide_eq_true hc) (by omega)) (fun _=>?_)
   refine .s<|.bin z z z z<|.an z z<|.cond z (fun hc=>absurd (of_decide_eq_true hc) (by omega)) (fun _=>?_)
   refine .s<|.bin z z z z<|.an z z<|.cond z (fun hc=>absurd (of_decide_eq_true hc) (by omega)) (fun _=>?_)
   refine .s<|.bin z z z z<|.an z z<|.cond z (fun _=>?_) (fun hc=>absurd e6 (of_decide_eq_false hc))
   refine .s<|.m z z<|.bin z z z z<|.m z z<|.split 99 z (fun hs=>?_) (fun _=>?_)
   ·have hlt:0<q3.rows.length:=by have:=of_decide_eq_true hs;omega
    refine Dy (by rw [tb hlt]) ?_
    refine .on z z<|.fp z fa27_2 z<|.on z z<|.loadR 0 fTableA_2 z z ty25 z<|.know 101 z<|.on z z<|.elemA (T:=cS) 1 z z z u57 ty37 z<|.on z z<|.fieldA z cV z<|.on z z<|l0 1 js z z oA z<|.on z z<|.lenA (T:=tVal) 4 z z u62 z<|.on z z<|.bin z z z z<|.pickT z z z<|.nil<|.cond z (fun _=>?_) (fun _=>?_)
    ·refine .pT fun h6=>.pbind fun q21 h7=>?_
     have h6':(decide (0≤(0:Int))&&decide ((0:Int) < (g.length:Int)))=true:=by rw [hlen];exact h6
     refine .drawS 7 [] [6] [7] mix (by kernel_rfl) (.j (fun o=>.fp (o z) fa27_2 z)<|.k (fun p e=>.loadR 0 fTableA_2 (e.op z) (p.get z z) ty25 z)<|.k (fun p e h=>.useC h6'<|.elemA (T:=cS) 1 (e.op z) (e.op z) (p.get z z) u57 ty37 z<|h)<|.j (fun o=>.fieldA (o z) cV z)<|.k (fun p e=>l0 1 js (e.op z) (p.get z z) oA z)<|.j (fun o=>.m (o z) z)<|.skip<|.nil) z<|.cons (d:=114) z z fun _ _ hE h=>.bindE h7 (fun r h=>.call1 7 (c97 fu _ _) z n97 (hE.ops z) z h)<|h _ _ (.same<|.same<|.same<|.same<|.same<|.same<|.same<|.hole z<|.nil)<|.nil<|.elemA (T:=tVal) 4 z z z u62 t7 z<|.storeA 4 (Fld.self _) z z z t7<|.nil<|tM 3 ((q3.rows.getD 0 default).vals.set 0 q21.1) z<|W_bEq (by rw [show Int.toNat 0=0 from z,← Ap (K:=0) (ras:=g) (xs:=(q3.rows.getD 0 default).vals.set 0 q21.1) hlen hlt])<|W_close 1 3 4 z z z ?_
     exact .inBlock<|.s<|.lp 0 (Fld.self _) z z ty27 z<|.storeP 5 (Fld.self _) z z z ty27<|.nil<|.frzBox 5 1 conv27 z z<|.ret1 func154 results154 (.cell 5 z z ty27) z (fun _ _=>.c<|.c<|.c<|.c<|.c<|.c<|.c<|.d<|.e)
    ·refine .skip<|W_bEq (by rw [← tb (ras:=g) hlt])<|W_close 1 3 4 z z z ?_
     exact .inBlock<|.s<|.lp 0 (Fld.self _) z z ty27 z<|.storeP 5 (Fld.self _) z z z ty27<|.nil<|.frzBox 5 1 conv27 z z<|.ret1 func154 results154 (.cell 5 z z ty27) z (fun _ _=>.c<|.c<|.c<|.c<|.c<|.c<|.c<|.d<|.e)
   ·exact .off z z z<|.off z z z<|.off z z z<|.off z z z<|.off z z z<|.off z z z<|.off z z z<|.pickF z z z<|.nil<|.eqr (r':=dO q3 q6.2) z<|.condF z<|.skip<|W_close 1 3 4 z z z<|.inBlock<|.s<|.lp 0 (Fld.self _) z z ty27 z<|.storeP 5 (Fld.self _) z z z ty27<|.nil<|.frzBox 5 1 conv27 z z<|.ret1 func154 results154 (.cell 5 z z ty27) z (fun _ _=>.c<|.c<|.c<|.c<|.c<|.c<|.c<|.d<|.e)
  ·refine .s<|.box (T:=tTable) z z fun b1=>.alloc tTableA aS [] bB z fun b2=>.nil<|.s<|.lp 1 (Fld.self _) z z ty27 z<|y7 hq3 (fun r h=>.callL0 (c42 fu _) n42 z z h) fun p4=>.alloc tTableA aS [] bB z fun b5=>.storeP 0 (Fld.self _) z z z ty27<|.nil<|.s<|.fp z fa27_2 z<|.loadR 0 fTableA_2 z z ty25 z<|.know 11 z<|.lenA 1 z z u57 z<|.an z z<|.seq<|.s<|.m z z<|.bindK hq6 (fun r h=>.call1 5 (c74 fu _ _ _) z n74 z z h)<|.nil<|.block<|.s<|.bin z z z z<|.an z z<|.cond z (fun _=>?_) (fun _=>?_)
   ·exact .g<|.m z z<|.m z z<|.m z z<|.m z z<|.fp z fk z<|.lp 0 aJ z z sK z<|.call1 5 (DV fu _ _ _) z DH z z fun q7=>.call1 5 (DV fu _ _ _) z DH z z fun q8=>.call1 5 (DV fu _ _ _) z DH z z fun q9=>.call1 5 (DV fu _ _ _) z DH z z fun q10=>.fp z fk z<|.storeP 0 aJ z z z sK<|.nil<|.inBlock<|.s<|.lp 0 (Fld.self _) z z ty27 z<|.storeP 3 (Fld.self _) z z z ty27<|.nil<|.frzBox 3 1 conv27 z z<|.ret1 func154 results154 (.cell 3 z z ty27) z (fun _ _=>.c<|.c<|.c<|.c<|.c<|.d<|.e)
   ·refine .s<|.bin z z z z<|.an z z<|.cond z (fun _=>?_) (fun _=>?_)
    ·refine .s<|.fp z bw z<|.loadKV 0 az z z kT z<|.lenL z u56 z<|.bin z z z z<|.nil<|.cond z (fun _=>?_) (fun _=>?_)
     ·exact .g<|.fp z bw z<|.loadKV 0 az z z kT z<|.cut z u56 jR ⟨_,z⟩ z z<|.fp z bw z<|.name 36 z fun v11=>.toK 36 z<|.storeP 0 az z z z kT<|.nil<|.inBlock<|.s<|.lp 0 (Fld.self _) z z ty27 z<|.storeP 3 (Fld.self _) z z z ty27<|.nil<|.frzBox 3 1 conv27 z z<|.ret1 func154 results154 (.cell 3 z z ty27) z (fun _ _=>.c<|.c<|.c<|.c<|.c<|.d<|.e)
     ·exact .skip<|.inBlock<|.s<|.lp 0 (Fld.self _) z z ty27 z<|.storeP 3 (Fld.self _) z z z ty27<|.nil<|.frzBox 3 1 conv27 z z<|.ret1 func154 results154 (.cell 3 z z ty27) z (fun _ _=>.c<|.c<|.c<|.c<|.c<|.d<|.e)
    ·refine .s<|.bin z z z z<|.an z z<|.join3 (fun i12 v13 i14=>⟨[(4,isP b2 0,none),(5,isP b5 0,none)],[boxO b5 tTableA (⟨i12.first,(p4.2,i12.changes),v13,i12.next⟩:aq) [],arrO tRow v13 i12.rows,appO 10 p4.2,boxO b2 tTableA (⟨([]:List Col),((.slice none 0 0),([]:List aa)),(.slice none 0 0),(0:Int)⟩:aq) [],boxO bp0 tRd i14 []]⟩) (fun i12 v13 i14=>dO i12 i14) (fun i12 v13 i14=>?_) (fun hj1=>?_)
     ·exact .inBlock<|.s<|.lp 0 (Fld.self _) z z ty27 z<|.storeP 3 (Fld.self _) z z z ty27<|.nil<|.frzBox 3 1 conv27 z z<|.ret1 func154 results154 (.cell 3 z z ty27) z (fun _ _=>.c<|.c<|.c<|.c<|.d<|.e)
     ·refine .cond z (fun _=>?_) (fun _=>?_)
      ·refine .s<|.m z z<|.bin z z z z<|.nil<|.cond z (fun _=>?_) (fun _=>?_)
       ·refine .pbind fun q15 h1=>?_
        refine .pbind fun q16 h2=>?_
        exact .drawS 11 [] [4,10] [5] mix (by kernel_rfl) (.j (fun o=>.fp (o z) fa27_2 z)<|.k (fun p e=>.loadR 0 fTableA_2 (e.op z) (p.get z z) ty25 z)<|.j (fun o=>.m (o z) z)<|.j (fun o=>.m (o z) z)<|.skip<|.j (fun o=>.m (o z) z)<|.j (fun o=>.fp (o z) bw z)<|.k (fun p e=>.loadK 0 az (e.op z) (p.get z z) kT z)<|.j (fun o=>.lenL (o z) u56 z)<|.k (fun p e h=>.litN (T:=(tI .i64)) D2 el3 z z (.cons (e.op z)<|.cons (e.op z)<|.cons (e.op z)<|.cons (e.op z)<|.nil) z<|h)<|.skip<|.nil) z<|.cons (d:=46) z z fun _ _ hE h=>.bindE h1 (fun r h=>.call1 5 (c74 fu _ _ _) z n74 (hE.ops z) z h)<|h _ _ (.same<|.same<|.same<|.same<|.same<|.hole z<|.nil)<|.cons (d:=52) z z fun _ _ hE h=>.bindE h2 (fun r h=>.call1 5 (c73 fu _ _ _) z n73 (hE.ops z) z h)<|h _ _ (.same<|.same<|.same<|.same<|.same<|.hole z<|.nil)<|.nil<|.elemA 1 z z z u57 ty37 z<|.fieldA z bh z<|.storeA 1 a8 z z z ty3<|.nil<|.keep [4,5] [] z (.drop (.d<|.d<|.d<|.d<|.c<|.d<|.e)<|hj1 _ _ _)
       ·exact .skip<|.keep [4,5] [] z (.drop (.d<|.d<|.d<|.d<|.c<|.d<|.e)<|hj1 _ _ _)
      ·refine .s<|.bin z z z z<|.an z z<|.cond z (fun _=>?_) (fun _=>?_)
       ·refine .s<|.m z z<|.bin z z z z<|.nil<|.cond z (fun _=>?_) (fun _=>?_)
        ·refine .pT fun h3=>?_
         exact .draw 7 [] mix (by kernel_rfl) (.j (fun o=>.fp (o z) fa27_2 z)<|.k (fun p e=>.loadR 0 fTableA_2 (e.op z) (p.get z z) ty25 z)<|.j (fun o=>.fp (o z) fa27_2 z)<|.k (fun p e=>.loadR 0 fTableA_2 (e.op z) (p.get z z) ty25 z)<|.k (fun p e h=>.useC h3<|.elemA 1 (e.op z) (e.op z) (p.get z z) u57 ty37 z<|h)<|.k (fun p e=>.loadA 1 (Fld.self _) (e.op z) (p.get z z) ty37 z)<|.k (fun p e h=>.litN (T:=tRow) u57 jA z z (.cons (e.op z)<|.nil) z<|h)<|.nil) z<|.appA (T:=tRow) 1 z z z u57 jA z fun v17=>.fp z fa27_2 z<|.toRaw (T:=tRow) 1 66 z z<|.storeP 0 fTableA_2 z z z ty25<|.nil<|.keep [4,5] [] z (.drop (.d<|.d<|.d<|.d<|.c<|.d<|.e)<|hj1 _ _ _)
        ·exact .skip<|.keep [4,5] [] z (.drop (.d<|.d<|.d<|.d<|.c<|.d<|.e)<|hj1 _ _ _)
       ·refine .s<|.bin z z z z<|.an z z<|.cond z (fun _=>?_) (fun _=>?_)
        ·exact .g<|.m z z<|.litN (T:=(tI .i64)) D2 el3 z z (.cons z<|.cons z<|.cons z<|.cons z<|.nil) z<|.call1 5 (c73 fu _ _ _) z n73 z z fun q18=>.fp z gD z<|.storeP 0 aM z z z ty3<|.nil<|.keep [4,5] [] z (.drop (.d<|.d<|.d<|.d<|.c<|.d<|.e)<|hj1 _ _ _)
        ·refine .s<|.bin z z z z<|.an z z<|.cond z (fun hc=>absurd (of_decide_eq_true hc) e5) (fun _=>?_)
         ·refine .s<|.bin z z z z<|.an z z<|.cond z (fun hc=>absurd (of_decide_eq_true hc) e6) (fun _=>?_)
          ·exact .skip<|.keep [4,5] [] z (.drop (.d<|.d<|.d<|.d<|.c<|.d<|.e)<|hj1 _ _ _)
attribute [local irreducible] W WO
end Go.Proofs.YtganfdhmkdehlaaGreatDoor
