/- What functions answer. -/
import Derived.Test.YtganfdhmkdehlaaGreatDoorQ2008B11
import Derived.KernelRfl
set_option linter.all false
namespace Go.Proofs.YtganfdhmkdehlaaGreatDoor
open Go Go.HL Tryz
attribute [local irreducible] W WO
def f7 (fu:Nat)(a1:ac)(q4:((List UInt8)×Int)×Rd)(q5:Int)(q6:Int×Rd):Option (aR×Rd):=cond (decide (0≤q5)) ((pn fu q6.2 a1 q5).bind fun q7=>some ((⟨3,q4.1.1,d0_2046.id,q7.1,d0_2046.cols,d0_2046.change,d0_2046.link⟩:aR),q7.2)) ((pj fu q6.2).bind fun q8=>some ((⟨1,q4.1.1,d0_2046.id,d0_2046.sets,q8.1,d0_2046.change,d0_2046.link⟩:aR),q8.2))
def iD (fu:Nat)(a1:ac)(q4:((List UInt8)×Int)×Rd)(q5:Int)(q6:Int×Rd)(i14:Bool):Option (aR×Rd):=cond i14 (cond (decide (0≤q5)) (cond (decide (0≤q5)&&decide (q5 < (a1.tabs.length:Int))) ((f53 fu ((a1.tabs.getD q5.toNat default).table)).bind fun q15=>(f70 fu q6.2 q15).bind fun q16=>some ((⟨6,q4.1.1,d0_2046.id,d0_2046.sets,d0_2046.cols,q16.1,d0_2046.link⟩:aR),q16.2)) none) (f7 fu a1 q4 q5 q6)) (f7 fu a1 q4 q5 q6)
def iE (fu:Nat)(a1:ac)(q4:((List UInt8)×Int)×Rd)(q5:Int)(q6:Int×Rd)(i12:Bool):Option (aR×Rd):=cond i12 (cond (decide (0≤q5)) ((pn fu q6.2 a1 q5).bind fun q13=>some ((⟨4,q4.1.1,q4.1.2,q13.1,d0_2046.cols,d0_2046.change,d0_2046.link⟩:aR),q13.2)) (f7 fu a1 q4 q5 q6)) (cond (decide (q6.1=5)) (iD fu a1 q4 q5 q6 (decide (q6.1=5))) (iD fu a1 q4 q5 q6 (decide (q6.1=6))))
def vp (fu:Nat)(a0:Rd)(a1:ac):Option (aR×Rd):=cond (decide ((a1.tabs.length:Int)=0)) ((pj fu a0).bind fun q3=>some ((⟨1,([116]:List UInt8),d0_2046.id,d0_2046.sets,q3.1,d0_2046.change,d0_2046.link⟩:aR),q3.2)) ((vO fu a0 a1).bind fun q4=>(f1062 fu a1 q4.1.1).bind fun q5=>(f74 fu q4.2 12).bind fun q6=>cond (decide (q6.1=0)) ((f96 fu q6.2 ([([117]:List UInt8),([118]:List UInt8),([116]:List UInt8)]:List (List UInt8))).bind fun q9=>(f125 fu q9.2).bind fun q10=>some ((⟨1,q9.1,d0_2046.id,d0_2046.sets,q10.1,d0_2046.change,d0_2046.link⟩:aR),q10.2)) (cond (decide (q6.1=1)) ((qI fu q6.2 a1).bind fun q11=>some ((⟨2,d0_2046.name,d0_2046.id,d0_2046.sets,d0_2046.cols,d0_2046.change,q11.1⟩:aR),q11.2)) (cond (decide (q6.1=2)) (some ((⟨5,q4.1.1,q4.1.2,d0_2046.sets,d0_2046.cols,d0_2046.change,d0_2046.link⟩:aR),q6.2)) (cond (decide (q6.1=3)) (iE fu a1 q4 q5 q6 (decide (q6.1=3))) (iE fu a1 q4 q5 q6 (decide (q6.1=4)))))))
theorem n2039:Nm prog 39:=nmK func39
theorem c2039 (fu:Nat)(bp0:Nat)(a0:Rd)(a1:ac):Ctr prog 39 [isP bp0 0,tBase.va a1] [boxO bp0 tRd a0 []] (vp fu a0 a1) (fun q _=>[boxO bp0 tRd q.2 []]) (fun q=>tDeed.va q.1):=by
 refine .w func39 ntmps39 fun hf A w=>?_
 unfold vp
 refine .s<|.box (T:=tBase) z z fun b1=>.alloc tDeed d0_2046 [] z2046 z fun b2=>.nil<|.seq<|.s<|go ?_
 refine .cd z ?_ ?_
 ·exact .s<|.m z z<|.call1 2 (yS fu _ _) z xr z z fun q3=>fr
 ·refine .skip<|.s<|go ?_
  refine .call1 2 (F1 fu _ _ _) z EE z z fun q4=>go ?_
  refine .s<|go ?_
  refine .call0 (gw fu _ _) eM z z fun q5=>.an z z<|.seq<|.s<|.m z z<|.call1 2 (c74 fu _ _ _) z n74 z z fun q6=>.nil<|.block<|.s<|.bin z z z z<|.an z z<|.join0 (⟨[(0,isP bp0 0,none),(3,isP b1 0,none),(4,isP b2 0,none),(5,isS q4.1.1,none),(7,isI .i64 q5,none)],[boxO b2 tDeed d0_2046 [],boxO b1 tBase a1 [],boxO bp0 tRd q6.2 []]⟩) (f7 fu a1 q4 q5 q6) (?_) (fun hj1=>?_)
  ·refine .inBlock<|.seq<|.s<|go ?_
   refine .cd z ?_ ?_
   ·refine .s<|go ?_
    exact .call1 2 (yT fu _ _ _ _) z xt z z fun q7=>fr
   ·refine .skip<|.s<|go ?_
    exact .call1 2 (yS fu _ _) z xr z z fun q8=>fr
  ·refine .cd z ?_ ?_
   ·refine .s<|go ?_
    exact .call1 2 (c96 fu _ _ _) z n96 z z fun q9=>.m z z<|.call1 2 (BB fu _ _) z zU z z fun q10=>fr
   ·refine .s<|go ?_
    refine .cd z ?_ ?_
    ·refine .s<|go ?_
     exact .call1 2 (AW fu _ _ _) z z1 z z fun q11=>fr
    ·refine .s<|go ?_
     refine .cd z ?_ ?_
     ·exact fr
     ·refine .seq<|.s<|go ?_
      refine .join1 (fun i12=>⟨[(0,isP bp0 0,none),(3,isP b1 0,none),(4,isP b2 0,none),(5,isS q4.1.1,none),(6,isI .i64 q4.1.2,none),(7,isI .i64 q5,none),(25,isI .i64 q6.1,none),(45,isB i12,none)],[boxO b2 tDeed d0_2046 [],boxO b1 tBase a1 [],boxO bp0 tRd q6.2 []]⟩) (fun i12=>iE fu a1 q4 q5 q6 i12) (fun i12=>?_) (fun hj2=>?_)
      ·refine .cd z ?_ ?_
       ·refine .s<|go ?_
        refine .cd z ?_ ?_
        ·refine .s<|go ?_
         exact .call1 2 (yT fu _ _ _ _) z xt z z fun q13=>fr
        ·exact fj (hj1)
       ·refine .seq<|.s<|go ?_
        refine .join1 (fun i14=>⟨[(0,isP bp0 0,none),(3,isP b1 0,none),(4,isP b2 0,none),(5,isS q4.1.1,none),(7,isI .i64 q5,none),(57,isB i14,none)],[boxO b2 tDeed d0_2046 [],boxO b1 tBase a1 [],boxO bp0 tRd q6.2 []]⟩) (fun i14=>iD fu a1 q4 q5 q6 i14) (fun i14=>?_) (fun hj3=>?_)
        ·refine .cd z ?_ ?_
         ·refine .s<|go ?_
          refine .cd z ?_ ?_
          ·refine .s<|go ?_
           exact .call0 (c53 fu _) n53 z z fun q15=>.call1 2 (c70 fu _ _ _) z n70 z z fun q16=>fr
          ·exact fj (hj1)
         ·exact fj (hj1)
        ·refine .cd z ?_ ?_
         ·exact fj (hj3 _)
         ·exact fj (hj3 _)
      ·refine .cd z ?_ ?_
       ·exact fj (hj2 _)
       ·exact fj (hj2 _)
def s5 (fu:Nat)(a0:ac)(a1:aR):Option (ac×Int):=cond (decide (a1.kind=1)) ((mf fu a0 a1.name a1.cols).bind fun q4=>some (q4.1,q4.2)) (cond (decide (a1.kind=2)) ((po fu a0 a1.link).bind fun q5=>some (q5.1,q5.2)) (cond (decide (a1.kind=3)) ((vT fu a0 a1.name a1.sets).bind fun q6=>some (q6.1,q6.2)) (cond (decide (a1.kind=4)) ((vV fu a0 a1.name a1.id a1.sets).bind fun q7=>some (q7.1,q7.2)) (cond (decide (a1.kind=5)) ((wa fu a0 a1.name a1.id).bind fun q8=>some (q8.1,q8.2)) ((vX fu a0 a1.name a1.change).bind fun q9=>some (q9.1,q9.2))))))
theorem BW:Nm prog 50:=nmK func50
theorem C3 (fu:Nat)(a0:ac)(a1:aR):Ctr prog 50 [tBase.va a0,tDeed.va a1] [] (s5 fu a0 a1) (fun _ _=>[]) (fun q=>tup [tBase.va q.1,isI .i64 q.2]):=by
 refine .w func50 ntmps50 fun hf A w=>?_
 unfold s5
 refine .s<|.box (T:=tBase) z z fun b1=>.box (T:=tDeed) z z fun b2=>.alloc tBase d0_1026 [] cR z fun b3=>.an z z<|.seq<|.s<|go ?_
 refine .block<|.s<|go ?_
 refine .cd z ?_ ?_
 ·refine .s<|go ?_
  exact .call0 (ww fu _ _ _) um z z fun q4=>fr
 ·refine .s<|go ?_
  refine .cd z ?_ ?_
  ·refine .s<|go ?_
   exact .call0 (yV fu _ _) xw z z fun q5=>fr
  ·refine .s<|go ?_
   refine .cd z ?_ ?_
   ·refine .s<|go ?_
    exact .call0 (Gc fu _ _ _) EN z z fun q6=>fr
   ·refine .s<|go ?_
    refine .cd z ?_ ?_
    ·refine .s<|go ?_
     exact .call0 (Ge fu _ _ _ _) EP z z fun q7=>fr
    ·refine .s<|go ?_
     refine .cd z ?_ ?_
     ·refine .s<|go ?_
      exact .call0 (Gj fu _ _ _) EU z z fun q8=>fr
     ·refine .skip<|.inBlock<|.s<|go ?_
      exact .call0 (Gg fu _ _ _) ER z z fun q9=>fr
def iA (i5:Bool):Option Bool:=some i5
def f5 (a0:aR)(i4:Bool):Option Bool:=cond i4 (some false) (cond (decide (a0.kind=4)) (iA true) (cond (decide (a0.kind=5)) (iA true) (iA (decide (a0.id=0)))))
def dO (a0:aR)(i3:Bool):Option Bool:=cond i3 (some false) (cond (!decide (a0.kind=3)) (cond (!decide (a0.kind=4)) (f5 a0 (decide (0 < (a0.sets.length:Int)))) (f5 a0 false)) (f5 a0 false))
def dP (a0:aR)(i2:Bool):Option Bool:=cond i2 (some false) (cond (!decide (a0.kind=6)) (cond (!decide (a0.change=(⟨d0_56.kind,d0_56.name,d0_56.new,d0_56.col⟩:aa))) (dO a0 true) (cond (!decide (a0.kind=1)) (dO a0 (decide (0 < (a0.cols.length:Int)))) (dO a0 false))) (cond (!decide (a0.kind=1)) (dO a0 (decide (0 < (a0.cols.length:Int)))) (dO a0 false)))
def vh (fu:Nat)(a0:aR):Option Bool:=cond (!decide (a0.kind=2)) (cond (!decide (a0.link=(⟨d0_1044.from_,d0_1044.col,d0_1044.to,d0_1044.how⟩:ai))) (dP a0 true) (cond (decide (a0.kind=2)) (dP a0 (!decide (a0.name=([]:List UInt8)))) (dP a0 false))) (cond (decide (a0.kind=2)) (dP a0 (!decide (a0.name=([]:List UInt8)))) (dP a0 false))
theorem D2:Nm prog 114:=nmK func114
theorem Fo (fu:Nat)(a0:aR):Ctr prog 114 [tDeed.va a0] [] (vh fu a0) (fun _ _=>[]) (fun q=>isB q):=by
 refine .w func114 ntmps114 fun hf A w=>?_
 unfold vh
 refine .s<|.box (T:=tDeed) z z fun b1=>.an z z<|.seq<|.seq<|.join1 (fun i2=>⟨[(1,isP b1 0,none),(21,isB i2,none)],[boxO b1 tDeed a0 []]⟩) (fun i2=>dP a0 i2) (fun i2=>?_) (fun hj1=>?_)
 ·refine .cd z ?_ ?_
  ·exact fr
  ·refine .skip<|.seq<|.seq<|.join1 (fun i3=>⟨[(1,isP b1 0,none),(41,isB i3,none)],[boxO b1 tDeed a0 []]⟩) (fun i3=>dO a0 i3) (fun i3=>?_) (fun hj2=>?_)
   ·refine .cd z ?_ ?_
    ·exact fr
    ·refine .skip<|.seq<|.seq<|.join1 (fun i4=>⟨[(1,isP b1 0,none),(55,isB i4,none)],[boxO b1 tDeed a0 []]⟩) (fun i4=>f5 a0 i4) (fun i4=>?_) (fun hj3=>?_)
     ·refine .cd z ?_ ?_
      ·exact fr
      ·refine .skip<|.seq<|.join1 (fun i5=>⟨[(2,isB i5,none)],[]⟩) (fun i5=>iA i5) (fun i5=>?_) (fun hj4=>?_)
       ·exact fr
       ·refine .g<|go ?_
        refine .split 59 z (fun _=>?_) (fun _=>?_)
        ·exact fj (hj4 _)
        ·refine go ?_
         refine .split 64 z (fun _=>?_) (fun _=>?_)
         ·exact fj (hj4 _)
         ·exact fj (hj4 _)
     ·refine .g<|go ?_
      refine .split 45 z (fun _=>?_) (fun _=>?_)
      ·refine go ?_
       refine .split 50 z (fun _=>?_) (fun _=>?_)
       ·exact fj (hj3 _)
       ·exact fj (hj3 _)
      ·exact fj (hj3 _)
   ·refine .g<|go ?_
    refine .split 25 z (fun _=>?_) (fun _=>?_)
    ·refine go ?_
     refine .neT E6 z z z<|go ?_
     refine .split 31 z (fun _=>?_) (fun _=>?_)
     ·exact fj (hj2 _)
     ·refine go ?_
      refine .split 35 z (fun _=>?_) (fun _=>?_)
      ·exact fj (hj2 _)
      ·exact fj (hj2 _)
    ·refine go ?_
     refine .split 35 z (fun _=>?_) (fun _=>?_)
     ·exact fj (hj2 _)
     ·exact fj (hj2 _)
 ·refine .g<|go ?_
  refine .split 6 z (fun _=>?_) (fun _=>?_)
  ·refine go ?_
   refine .neT zD z z z<|go ?_
   refine .split 12 z (fun _=>?_) (fun _=>?_)
   ·exact fj (hj1 _)
   ·refine go ?_
    refine .split 16 z (fun _=>?_) (fun _=>?_)
    ·exact fj (hj1 _)
    ·exact fj (hj1 _)
  ·refine go ?_
   refine .split 16 z (fun _=>?_) (fun _=>?_)
   ·exact fj (hj1 _)
   ·exact fj (hj1 _)
def nL (rec1:Int→Option Bool)(i3:Bool):Option Bool:=some i3
def f2116_l1 (fu:Nat)(a0:List Col):Nat→Int→Option Bool
 | 0,_=>none
 | n2001+1,i1=>cond (decide (i1 < (a0.length:Int))) (cond (decide (0≤i1)&&decide (i1 < (a0.length:Int))) ((AD fu (a0.getD i1.toNat default)).bind fun q2=>cond (!q2) (some false) ((f2116_l1 fu a0 n2001) (IntKind.i64.wrap (i1+1)))) none) (cond (decide (1≤(a0.length:Int))) (nL (f2116_l1 fu a0 n2001) (decide ((a0.length:Int)≤5))) (nL (f2116_l1 fu a0 n2001) false))
def vg (fu:Nat)(a0:List Col):Option Bool:=f2116_l1 fu a0 fu 0
theorem D1:Nm prog 116:=nmK func116
theorem Fn (fu:Nat)(a0:List Col):Ctr prog 116 [(tL tCol).va a0] [] (vg fu a0) (fun _ _=>[]) (fun q=>isB q):=by
 refine .w func116 ntmps116 fun hf A w=>?_
 unfold vg
 refine .s<|.an z z<|.seq<|.s<|.an z z<|.block<|.loop<|.keep [0,3] [] z<|(show ∀ (n2001:Nat) (i1:Int),W _ _ _ _ _ ⟨[(0,(tL tCol).va a0,none),(3,isI .i64 i1,none)],[]⟩ (f2116_l1 fu a0 n2001 i1) from ?_) fu _
 intro n2001
 induction n2001 with
 | zero=>exact fun _=>.stop
 | succ n2001 ih1=>
  intro i1
  refine .inLoop<|.seq<|.s<|go ?_
  refine .cd z ?_ ?_
  ·refine .skip<|.seq<|.block<|.s<|go ?_
   refine .call0 (c117 fu _) n117 z z fun q2=>.not z z<|.nil<|.cd z ?_ ?_
   ·exact fr
   ·exact fj (ih1 _)
  ·refine .exit z<|.seq<|.join1 (fun i3=>⟨[(2,isB i3,none)],[]⟩) (fun i3=>nL (f2116_l1 fu a0 n2001) i3) (fun i3=>?_) (fun hj2=>?_)
   ·exact fr
   ·refine .g<|go ?_
    refine .split 19 z (fun _=>?_) (fun _=>?_)
    ·exact fj (hj2 _)
    ·exact fj (hj2 _)
def eW (i2:Bool):Option Bool:=some i2
def vf (fu:Nat)(a0:ai):Option Bool:=(ph fu a0.from_).bind fun q3=>cond q3 ((ph fu a0.col).bind fun q4=>cond q4 ((ph fu a0.to).bind fun q5=>cond q5 (cond (decide (1≤a0.how)) (eW (decide (a0.how≤3))) (eW false)) (eW false)) (eW false)) (eW false)
theorem D0:Nm prog 117:=nmK func117
theorem Fm (fu:Nat)(a0:ai):Ctr prog 117 [tLink.va a0] [] (vf fu a0) (fun _ _=>[]) (fun q=>isB q):=by
 refine .w func117 ntmps117 fun hf A w=>?_
 unfold vf
 refine .s<|.box (T:=tLink) z z fun b1=>.an z z<|.seq<|.join1 (fun i2=>⟨[(2,isB i2,none)],[]⟩) (fun i2=>eW i2) (fun i2=>?_) (fun hj1=>?_)
 ·exact fr
 ·refine .g<|go ?_
  refine .call0 (tE fu _) tD z z fun q3=>.m z z<|.split 6 z (fun _=>?_) (fun _=>?_)
  ·refine go ?_
   refine .call0 (tE fu _) tD z z fun q4=>go ?_
   refine .split 11 z (fun _=>?_) (fun _=>?_)
   ·refine go ?_
    refine .call0 (tE fu _) tD z z fun q5=>go ?_
    refine .split 16 z (fun _=>?_) (fun _=>?_)
    ·refine go ?_
     refine .split 21 z (fun _=>?_) (fun _=>?_)
     ·exact fj (hj1 _)
     ·exact fj (hj1 _)
    ·exact fj (hj1 _)
   ·exact fj (hj1 _)
  ·exact fj (hj1 _)
def kg (i1:Int)(rec1:Int→Option Bool)(i2:Bool):Option Bool:=cond i2 (some false) (rec1 (IntKind.i64.wrap (i1+1)))
def ck (fu:Nat)(a0:List Set):Nat→Int→Option Bool
 | 0,_=>none
 | n2001+1,i1=>cond (decide (i1 < (a0.length:Int))) (cond (decide (0≤i1)&&decide (i1 < (a0.length:Int))) ((ph fu ((a0.getD i1.toNat default).name)).bind fun q3=>cond (!q3) (kg i1 (ck fu a0 n2001) true) (cond (decide (0≤i1)&&decide (i1 < (a0.length:Int))) ((vC fu ((a0.getD i1.toNat default).val)).bind fun q4=>kg i1 (ck fu a0 n2001) (!q4)) none)) none) (some (decide ((a0.length:Int)≤5)))
def ve (fu:Nat)(a0:List Set):Option Bool:=ck fu a0 fu 0
theorem DZ:Nm prog 118:=nmK func118
theorem Fl (fu:Nat)(a0:List Set):Ctr prog 118 [(tL tSet).va a0] [] (ve fu a0) (fun _ _=>[]) (fun q=>isB q):=by
 refine .w func118 ntmps118 fun hf A w=>?_
 unfold ve
 refine .s<|.an z z<|.seq<|.s<|.an z z<|.block<|.loop<|.keep [0,3] [] z<|(show ∀ (n2001:Nat) (i1:Int),W _ _ _ _ _ ⟨[(0,(tL tSet).va a0,none),(3,isI .i64 i1,none)],[]⟩ (ck fu a0 n2001 i1) from ?_) fu _
 intro n2001
 induction n2001 with
 | zero=>exact fun _=>.stop
 | succ n2001 ih1=>
  intro i1
  refine .inLoop<|.seq<|.s<|go ?_
  refine .cd z ?_ ?_
  ·refine .skip<|.seq<|.block<|.seq<|.join1 (fun i2=>⟨[(0,(tL tSet).va a0,none),(3,isI .i64 i1,none),(25,isB i2,none)],[]⟩) (fun i2=>kg i1 (ck fu a0 n2001) i2) (fun i2=>?_) (fun hj2=>?_)
   ·refine .cd z ?_ ?_
    ·exact fr
    ·exact fj (ih1 _)
   ·refine .g<|go ?_
    refine .call0 (tE fu _) tD z z fun q3=>go ?_
    refine .split 17 z (fun _=>?_) (fun _=>?_)
    ·exact fj (hj2 _)
    ·refine go ?_
     exact .call0 (BC fu _) Bm z z fun q4=>fj (hj2 _)
  ·exact fr
def iz (i2:Bool):Option Bool:=some i2
def iy (i4:Bool):Option Bool:=some i4
def ix (i6:Bool):Option Bool:=some i6
def f4 (i9:Bool):Option Bool:=some i9
def vd (fu:Nat)(a0:aa):Option Bool:=cond (decide (a0.kind=1)) ((AD fu a0.col).bind fun q3=>cond q3 (cond (decide (a0.name=([]:List UInt8))) (iz (decide (a0.new=([]:List UInt8)))) (iz false)) (iz false)) (cond (decide (a0.kind=2)) ((ph fu a0.name).bind fun q5=>cond q5 (cond (decide (a0.new=([]:List UInt8))) (iy (decide (a0.col=(⟨d0_52.name,d0_52.kind,d0_52.need,d0_52.once,d0_52.def_⟩:Col)))) (iy false)) (iy false)) (cond (decide (a0.kind=3)) ((ph fu a0.name).bind fun q7=>cond q7 ((ph fu a0.new).bind fun q8=>cond q8 (ix (decide (a0.col=(⟨d0_52.name,d0_52.kind,d0_52.need,d0_52.once,d0_52.def_⟩:Col)))) (ix false)) (ix false)) (cond (decide (a0.kind=4)) ((ph fu a0.name).bind fun q10=>cond q10 (cond (decide (a0.new=([]:List UInt8))) (cond (decide (a0.col=(⟨d0_52.name,1,d0_52.need,d0_52.once,d0_52.def_⟩:Col))) (f4 true) (f4 (decide (a0.col=(⟨d0_52.name,2,d0_52.need,d0_52.once,d0_52.def_⟩:Col))))) (f4 false)) (f4 false)) (some false))))
theorem DY:Nm prog 119:=nmK func119
theorem Fk (fu:Nat)(a0:aa):Ctr prog 119 [tChange.va a0] [] (vd fu a0) (fun _ _=>[]) (fun q=>isB q):=by
 refine .w func119 ntmps119 fun hf A w=>?_
 unfold vd
 refine .s<|.box (T:=tChange) z z fun b1=>.an z z<|.seq<|.s<|go ?_
 refine .block<|.s<|go ?_
 refine .cd z ?_ ?_
 ·refine .seq<|.join1 (fun i2=>⟨[(2,isB i2,none)],[]⟩) (fun i2=>iz i2) (fun i2=>?_) (fun hj1=>?_)
  ·exact fr
  ·refine .g<|go ?_
   refine .call0 (c117 fu _) n117 z z fun q3=>.m z z<|.split 10 z (fun _=>?_) (fun _=>?_)
   ·refine go ?_
    refine .split 15 z (fun _=>?_) (fun _=>?_)
    ·exact fj (hj1 _)
    ·exact fj (hj1 _)
   ·exact fj (hj1 _)
 ·refine .s<|go ?_
  refine .cd z ?_ ?_
  ·refine .seq<|.join1 (fun i4=>⟨[(2,isB i4,none)],[]⟩) (fun i4=>iy i4) (fun i4=>?_) (fun hj2=>?_)
   ·exact fr
   ·refine .g<|go ?_
    refine .call0 (tE fu _) tD z z fun q5=>.m z z<|.split 25 z (fun _=>?_) (fun _=>?_)
    ·refine go ?_
     refine .split 30 z (fun _=>?_) (fun _=>?_)
     ·refine go ?_
      exact .eqT CT z z z<|fj (hj2 _)
     ·exact fj (hj2 _)
    ·exact fj (hj2 _)
  ·refine .s<|go ?_
   refine .cd z ?_ ?_
   ·refine .seq<|.join1 (fun i6=>⟨[(2,isB i6,none)],[]⟩) (fun i6=>ix i6) (fun i6=>?_) (fun hj3=>?_)
    ·exact fr
    ·refine .g<|go ?_
     refine .call0 (tE fu _) tD z z fun q7=>.m z z<|.split 41 z (fun _=>?_) (fun _=>?_)
     ·refine go ?_
      refine .call0 (tE fu _) tD z z fun q8=>go ?_
      refine .split 46 z (fun _=>?_) (fun _=>?_)
      ·refine go ?_
       exact .eqT CT z z z<|fj (hj3 _)
      ·exact fj (hj3 _)
     ·exact fj (hj3 _)
   ·refine .s<|go ?_
    refine .cd z ?_ ?_
    ·refine .seq<|.join1 (fun i9=>⟨[(2,isB i9,none)],[]⟩) (fun i9=>f4 i9) (fun i9=>?_) (fun hj4=>?_)
     ·exact fr
     ·refine .g<|go ?_
      refine .call0 (tE fu _) tD z z fun q10=>.m z z<|.split 57 z (fun _=>?_) (fun _=>?_)
      ·refine go ?_
       refine .split 62 z (fun _=>?_) (fun _=>?_)
       ·refine go ?_
        refine .eqT CT z z z<|go ?_
        refine .split 67 z (fun _=>?_) (fun _=>?_)
        ·exact fj (hj4 _)
        ·refine go ?_
         exact .eqT CT z z z<|fj (hj4 _)
       ·exact fj (hj4 _)
      ·exact fj (hj4 _)
    ·exact fr
def iC (fu:Nat)(a0:aR)(i5:Bool):Option Bool:=cond i5 ((ve fu a0.sets).bind fun q6=>some q6) (cond (decide (a0.kind=5)) (some true) (cond (decide (a0.kind=6)) ((vd fu a0.change).bind fun q7=>some q7) (some false)))
def dk (fu:Nat)(a0:aR)(i2:Bool):Option Bool:=cond i2 (some false) (cond (decide (a0.kind=1)) ((vg fu a0.cols).bind fun q3=>some q3) (cond (decide (a0.kind=2)) ((vf fu a0.link).bind fun q4=>some q4) (cond (decide (a0.kind=3)) (iC fu a0 (decide (a0.kind=3))) (iC fu a0 (decide (a0.kind=4))))))
def s6 (fu:Nat)(a0:aR):Option Bool:=(vh fu a0).bind fun q8=>cond (!q8) (dk fu a0 true) (cond (!decide (a0.kind=2)) ((ph fu a0.name).bind fun q9=>cond (!q9) (dk fu a0 true) (cond (decide (a0.id<0)) (dk fu a0 true) (dk fu a0 (decide (60<a0.id))))) (cond (decide (a0.id<0)) (dk fu a0 true) (dk fu a0 (decide (60<a0.id)))))
theorem BX:Nm prog 48:=nmK func48
theorem C4 (fu:Nat)(a0:aR):Ctr prog 48 [tDeed.va a0] [] (s6 fu a0) (fun _ _=>[]) (fun q=>isB q):=by
 refine .w func48 ntmps48 fun hf A w=>?_
 unfold s6
 refine .s<|.box (T:=tDeed) z z fun b1=>.an z z<|.seq<|.seq<|.join1 (fun i2=>⟨[(1,isP b1 0,none),(26,isB i2,none)],[boxO b1 tDeed a0 []]⟩) (fun i2=>dk fu a0 i2) (fun i2=>?_) (fun hj1=>?_)
 ·refine .cd z ?_ ?_
  ·exact fr
  ·refine .skip<|.seq<|.s<|go ?_
   refine .block<|.s<|go ?_
   refine .cd z ?_ ?_
   ·refine .s<|go ?_
    exact .call0 (Fn fu _) D1 z z fun q3=>fr
   ·refine .s<|go ?_
    refine .cd z ?_ ?_
    ·refine .s<|go ?_
     exact .call0 (Fm fu _) D0 z z fun q4=>fr
    ·refine .seq<|.s<|go ?_
     refine .join1 (fun i5=>⟨[(1,isP b1 0,none),(28,isI .i64 a0.kind,none),(39,isB i5,none)],[boxO b1 tDeed a0 []]⟩) (fun i5=>iC fu a0 i5) (fun i5=>?_) (fun hj2=>?_)
     ·refine .cd z ?_ ?_
      ·refine .s<|go ?_
       exact .call0 (Fl fu _) DZ z z fun q6=>fr
      ·refine .s<|go ?_
       refine .cd z ?_ ?_
       ·exact fr
       ·refine .s<|go ?_
        refine .cd z ?_ ?_
        ·refine .s<|go ?_
         exact .call0 (Fk fu _) DY z z fun q7=>fr
        ·exact fr
     ·refine .cd z ?_ ?_
      ·exact fj (hj2 _)
      ·exact fj (hj2 _)
 ·refine .g<|go ?_
  refine .call0 (Fo fu _) D2 z z fun q8=>go ?_
  refine .split 6 z (fun _=>?_) (fun _=>?_)
  ·exact fj (hj1 _)
  ·refine go ?_
   refine .split 10 z (fun _=>?_) (fun _=>?_)
   ·refine go ?_
    refine .call0 (tE fu _) tD z z fun q9=>go ?_
    refine .split 17 z (fun _=>?_) (fun _=>?_)
    ·exact fj (hj1 _)
    ·refine go ?_
     refine .split 22 z (fun _=>?_) (fun _=>?_)
     ·exact fj (hj1 _)
     ·exact fj (hj1 _)
   ·refine go ?_
    refine .split 22 z (fun _=>?_) (fun _=>?_)
    ·exact fj (hj1 _)
    ·exact fj (hj1 _)
def nM (q3:Int×Rd)(i13:aR):Option (aR×Rd):=some (i13,q3.2)
def vq (fu:Nat)(a0:Rd)(a1:aR):Option (aR×Rd):=(f74 fu a0 60).bind fun q3=>cond (decide (q3.1=0)) ((f73 fu q3.2 ([0,7,-1,3]:List Int)).bind fun q4=>some (({ a1 with kind:=q4.1 }:aR),q4.2)) (cond (decide (q3.1=1)) ((f96 fu q3.2 ([([]:List UInt8),([65]:List UInt8),([97,98,99,100]:List UInt8)]:List (List UInt8))).bind fun q5=>some (({ a1 with name:=q5.1 }:aR),q5.2)) (cond (decide (q3.1=2)) ((f73 fu q3.2 ([-1,61,5]:List Int)).bind fun q6=>some (({ a1 with id:=q6.1 }:aR),q6.2)) (cond (decide (q3.1=3)) (cond (decide (List.length ([]:List Set)+a1.sets.length≤CAP)) (cond (decide (List.length (([]:List Set)++a1.sets)+List.length ([(⟨([65]:List UInt8),d0_49.val⟩:Set)]:List Set)≤CAP)) (some (({ a1 with sets:=(([]:List Set)++a1.sets)++([(⟨([65]:List UInt8),d0_49.val⟩:Set)]:List Set) }:aR),q3.2)) none) none) (cond (decide (q3.1=4)) (cond (decide (List.length ([]:List Col)+a1.cols.length≤CAP)) (cond (decide (List.length (([]:List Col)++a1.cols)+List.length ([(⟨([113]:List UInt8),d0_52.kind,d0_52.need,d0_52.once,d0_52.def_⟩:Col)]:List Col)≤CAP)) (some (({ a1 with cols:=(([]:List Col)++a1.cols)++([(⟨([113]:List UInt8),d0_52.kind,d0_52.need,d0_52.once,d0_52.def_⟩:Col)]:List Col) }:aR),q3.2)) none) none) (cond (decide (q3.1=5)) (nM q3 ({ a1 with change:=({ a1.change with new:=([113]:List UInt8) }:aa) }:aR)) (nM q3 a1))))))
theorem Ea:Nm prog 38:=nmK func38
theorem Fw (fu:Nat)(bp0:Nat)(a0:Rd)(a1:aR):Ctr prog 38 [isP bp0 0,tDeed.va a1] [boxO bp0 tRd a0 []] (vq fu a0 a1) (fun q _=>[boxO bp0 tRd q.2 []]) (fun q=>tDeed.va q.1):=by
 refine .w func38 ntmps38 fun hf A w=>?_
 unfold vq
 refine .s<|.box (T:=tDeed) z z fun b1=>.alloc tDeed d0_2046 [] z2046 z fun b2=>.nil<|.seq<|.s<|.m z z<|.call1 2 (c74 fu _ _ _) z n74 z z fun q3=>.nil<|.block<|.s<|go ?_
 refine .cd z ?_ ?_
 ·refine .g<|go ?_
  exact .call1 2 (c73 fu _ _ _) z n73 z z fun q4=>fr
 ·refine .s<|go ?_
  refine .cd z ?_ ?_
  ·refine .g<|go ?_
   exact .call1 2 (c96 fu _ _ _) z n96 z z fun q5=>fr
  ·refine .s<|go ?_
   refine .cd z ?_ ?_
   ·refine .g<|go ?_
    exact .call1 2 (c73 fu _ _ _) z n73 z z fun q6=>fr
   ·refine .s<|go ?_
    refine .cd z ?_ ?_
    ·refine .g<|.lit (T:=tSet) u35 zE z z (.nil) z fun v7=>go ?_
     refine .app (T:=tSet) 0 z z z u35 zE z fun v8=>go ?_
     exact .app (T:=tSet) 0 z z z u35 zE z fun v9=>.fp z nv z<|.storeV 2 qm z z z DQ z<|fr
    ·refine .s<|go ?_
     refine .cd z ?_ ?_
     ·refine .g<|.lit (T:=tCol) u36 cu z z (.nil) z fun v10=>go ?_
      refine .app (T:=tCol) 0 z z z u36 cu z fun v11=>go ?_
      exact .app (T:=tCol) 0 z z z u36 cu z fun v12=>.fp z nu z<|.storeV 2 ql z z z sx z<|fr
     ·refine .s<|go ?_
      refine .join1 (fun i13=>⟨[(3,isP b1 0,none),(4,isP b2 0,none)],[boxO b2 tDeed d0_2046 [],boxO b1 tDeed i13 [],boxO bp0 tRd q3.2 []]⟩) (fun i13=>nM q3 i13) (fun i13=>?_) (fun hj1=>?_)
      ·exact fr
      ·refine .cd z ?_ ?_
       ·exact fj (hj1 _)
       ·exact fj (hj1 _)
def vj (fu:Nat)(a0:List Col)(a1:Col→Option Bool):Option Bool:=(Bw fu a0 a1).bind fun q1=>some (decide (0≤q1))
theorem D5:Nm prog 97:=nmK func97
theorem Fr (fu : Nat)(a0 : List Col)(a1 : Col → Option Bool)(g1 : Nat)(k1 : List VA)(hn1 : ∃ fn c, prog.funcs[g1]? = some fn ∧ (fn.name == "runtime.NumGoroutine") = false ∧ fn.body = some c)(hc1 : ∀ (x0 : Col), Ctr prog g1 ([tCol.va x0] ++ k1) [] (a1 x0) (fun _ _ => []) (fun q => isB q)) : Ctr prog 97 [(tL tCol).va a0, cW g1 k1] [] (vj fu a0 a1) (fun _ _ => []) (fun q => isB q) := by
 refine .w func97 ntmps97 fun hf A w=>?_
 unfold vj
 refine .s<|.an z z<|.s<|go ?_
 exact .call0 (G3 fu _ a1 g1 k1 hn1 hc1) GK z z fun q1=>fr
def pg (fu:Nat)(a0:Col):Option Bool:=(AJ fu a0).bind fun q2=>some (!q2)
theorem D4:Nm prog 98:=nmK func98
theorem Fq (fu:Nat)(a0:Col):Ctr prog 98 [tCol.va a0] [] (pg fu a0) (fun _ _=>[]) (fun q=>isB q):=by
 refine .w func98 ntmps98 fun hf A w=>?_
 unfold pg
 refine .s<|.box (T:=tCol) z z fun b1=>.an z z<|.s<|go ?_
 exact .call0 (Gi fu _) ET z z fun q2=>fr
end Go.Proofs.YtganfdhmkdehlaaGreatDoor
