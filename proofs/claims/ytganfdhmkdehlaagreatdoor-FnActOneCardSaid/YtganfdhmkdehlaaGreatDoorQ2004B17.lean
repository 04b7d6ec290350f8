/- Functions of the program: what each answers, and that the machine answers so. -/
import Derived.Test.YtganfdhmkdehlaaGreatDoorQ2004B11
import Derived.KernelRfl
set_option linter.all false
namespace Go.Proofs.YtganfdhmkdehlaaGreatDoor
open Go Go.HL Tryz
attribute [local irreducible] W WO
def fX (fu:Nat)(a1:ac)(q4:((List UInt8)×Int)×Rd)(q5:Int)(q6:Int×Rd):Option (bj×Rd):=cond (decide (0≤q5)) ((oX fu q6.2 a1 q5).bind fun q7=>some ((⟨3,q4.1.1,d0_2046.id,q7.1,d0_2046.cols,d0_2046.change,d0_2046.link⟩:bj),q7.2)) ((oU fu q6.2).bind fun q8=>some ((⟨1,q4.1.1,d0_2046.id,d0_2046.sets,q8.1,d0_2046.change,d0_2046.link⟩:bj),q8.2))
def ik (fu:Nat)(a1:ac)(q4:((List UInt8)×Int)×Rd)(q5:Int)(q6:Int×Rd)(i14:Bool):Option (bj×Rd):=cond i14 (cond (decide (0≤q5)) (cond (decide (0≤q5)&&decide (q5 < (a1.tabs.length:Int))) ((f53 fu ((a1.tabs.getD q5.toNat default).table)).bind fun q15=>(f70 fu q6.2 q15).bind fun q16=>some ((⟨6,q4.1.1,d0_2046.id,d0_2046.sets,d0_2046.cols,q16.1,d0_2046.link⟩:bj),q16.2)) none) (fX fu a1 q4 q5 q6)) (fX fu a1 q4 q5 q6)
def il (fu:Nat)(a1:ac)(q4:((List UInt8)×Int)×Rd)(q5:Int)(q6:Int×Rd)(i12:Bool):Option (bj×Rd):=cond i12 (cond (decide (0≤q5)) ((oX fu q6.2 a1 q5).bind fun q13=>some ((⟨4,q4.1.1,q4.1.2,q13.1,d0_2046.cols,d0_2046.change,d0_2046.link⟩:bj),q13.2)) (fX fu a1 q4 q5 q6)) (cond (decide (q6.1=5)) (ik fu a1 q4 q5 q6 (decide (q6.1=5))) (ik fu a1 q4 q5 q6 (decide (q6.1=6))))
def uP (fu:Nat)(a0:Rd)(a1:ac):Option (bj×Rd):=cond (decide ((a1.tabs.length:Int)=0)) ((oU fu a0).bind fun q3=>some ((⟨1,([116]:List UInt8),d0_2046.id,d0_2046.sets,q3.1,d0_2046.change,d0_2046.link⟩:bj),q3.2)) ((vf fu a0 a1).bind fun q4=>(f1062 fu a1 q4.1.1).bind fun q5=>(f74 fu q4.2 12).bind fun q6=>cond (decide (q6.1=0)) ((f96 fu q6.2 ([([117]:List UInt8),([118]:List UInt8),([116]:List UInt8)]:List (List UInt8))).bind fun q9=>(f125 fu q9.2).bind fun q10=>some ((⟨1,q9.1,d0_2046.id,d0_2046.sets,q10.1,d0_2046.change,d0_2046.link⟩:bj),q10.2)) (cond (decide (q6.1=1)) ((qf fu q6.2 a1).bind fun q11=>some ((⟨2,d0_2046.name,d0_2046.id,d0_2046.sets,d0_2046.cols,d0_2046.change,q11.1⟩:bj),q11.2)) (cond (decide (q6.1=2)) (some ((⟨5,q4.1.1,q4.1.2,d0_2046.sets,d0_2046.cols,d0_2046.change,d0_2046.link⟩:bj),q6.2)) (cond (decide (q6.1=3)) (il fu a1 q4 q5 q6 (decide (q6.1=3))) (il fu a1 q4 q5 q6 (decide (q6.1=4)))))))
theorem n2039:Nm prog 39:=⟨_,_,func39,by kernel_rfl,z⟩
theorem c2039 (fu:Nat)(bp0:Nat)(a0:Rd)(a1:ac):Ctr prog 39 [isP bp0 0,tBase.va a1] [boxO bp0 tRd a0 []] (uP fu a0 a1) (fun q _=>[boxO bp0 tRd q.2 []]) (fun q=>tDeed.va q.1):=by
 refine .w func39 ntmps39 fun hf A w=>?_
 unfold uP
 refine .s<|.box (T:=tBase) z z fun b1=>.alloc tDeed d0_2046 [] z2046 z fun b2=>.nil<|.seq<|.s<|go ?_
 refine .cd z ?_ ?_
 ·exact .s<|.m z z<|.call1 2 (c1170 fu _ _) z n1170 z z fun q3=>fr
 ·refine .skip<|.s<|go ?_
  refine .call1 2 (c1096 fu _ _ _) z n1096 z z fun q4=>go ?_
  refine .s<|go ?_
  refine .call0 (c1062 fu _ _) n1062 z z fun q5=>.an z z<|.seq<|.s<|.m z z<|.call1 2 (c74 fu _ _ _) z n74 z z fun q6=>.nil<|.block<|.s<|.bin z z z z<|.an z z<|.join0 (⟨[(0,isP bp0 0,none),(3,isP b1 0,none),(4,isP b2 0,none),(5,isS q4.1.1,none),(7,isI .i64 q5,none)],[boxO b2 tDeed d0_2046 [],boxO b1 tBase a1 [],boxO bp0 tRd q6.2 []]⟩) (fX fu a1 q4 q5 q6) (?_) (fun hj1=>?_)
  ·refine .inBlock<|.seq<|.s<|go ?_
   refine .cd z ?_ ?_
   ·refine .s<|go ?_
    exact .call1 2 (c1102 fu _ _ _ _) z n1102 z z fun q7=>fr
   ·refine .skip<|.s<|go ?_
    exact .call1 2 (c1170 fu _ _) z n1170 z z fun q8=>fr
  ·refine .cd z ?_ ?_
   ·refine .s<|go ?_
    exact .call1 2 (c96 fu _ _ _) z n96 z z fun q9=>.m z z<|.call1 2 (c125 fu _ _) z n125 z z fun q10=>fr
   ·refine .s<|go ?_
    refine .cd z ?_ ?_
    ·refine .s<|go ?_
     exact .call1 2 (c1081 fu _ _ _) z n1081 z z fun q11=>fr
    ·refine .s<|go ?_
     refine .cd z ?_ ?_
     ·exact fr
     ·refine .seq<|.s<|go ?_
      refine .join1 (fun i12=>⟨[(0,isP bp0 0,none),(3,isP b1 0,none),(4,isP b2 0,none),(5,isS q4.1.1,none),(6,isI .i64 q4.1.2,none),(7,isI .i64 q5,none),(25,isI .i64 q6.1,none),(45,isB i12,none)],[boxO b2 tDeed d0_2046 [],boxO b1 tBase a1 [],boxO bp0 tRd q6.2 []]⟩) (fun i12=>il fu a1 q4 q5 q6 i12) (fun i12=>?_) (fun hj2=>?_)
      ·refine .cd z ?_ ?_
       ·refine .s<|go ?_
        refine .cd z ?_ ?_
        ·refine .s<|go ?_
         exact .call1 2 (c1102 fu _ _ _ _) z n1102 z z fun q13=>fr
        ·exact fj (hj1)
       ·refine .seq<|.s<|go ?_
        refine .join1 (fun i14=>⟨[(0,isP bp0 0,none),(3,isP b1 0,none),(4,isP b2 0,none),(5,isS q4.1.1,none),(7,isI .i64 q5,none),(57,isB i14,none)],[boxO b2 tDeed d0_2046 [],boxO b1 tBase a1 [],boxO bp0 tRd q6.2 []]⟩) (fun i14=>ik fu a1 q4 q5 q6 i14) (fun i14=>?_) (fun hj3=>?_)
        ·refine .cd z ?_ ?_
         ·refine .s<|go ?_
          refine .cd z ?_ ?_
          ·refine .s<|go ?_
           exact .call0 (c53 fu _) n53 z z fun q15=>.call1 2 (c70 fu _ _ _) z n70 z z fun q16=>fr
          ·exact fj (hj1)
         ·exact fj (hj1)
        ·refine .cd z ?_ ?_
         ·exact fj (hj3 _)
         ·exact fj (hj3 _)
      ·refine .cd z ?_ ?_
       ·exact fj (hj2 _)
       ·exact fj (hj2 _)
def uL (fu:Nat)(a0:ac)(a1:bj):Option (ac×Int):=cond (decide (a1.kind=1)) ((lY fu a0 a1.name a1.cols).bind fun q4=>some (q4.1,q4.2)) (cond (decide (a1.kind=2)) ((oY fu a0 a1.link).bind fun q5=>some (q5.1,q5.2)) (cond (decide (a1.kind=3)) ((vl fu a0 a1.name a1.sets).bind fun q6=>some (q6.1,q6.2)) (cond (decide (a1.kind=4)) ((vo fu a0 a1.name a1.id a1.sets).bind fun q7=>some (q7.1,q7.2)) (cond (decide (a1.kind=5)) ((vv fu a0 a1.name a1.id).bind fun q8=>some (q8.1,q8.2)) ((vq fu a0 a1.name a1.change).bind fun q9=>some (q9.1,q9.2))))))
theorem n2050:Nm prog 50:=⟨_,_,func50,by kernel_rfl,z⟩
theorem c2050 (fu:Nat)(a0:ac)(a1:bj):Ctr prog 50 [tBase.va a0,tDeed.va a1] [] (uL fu a0 a1) (fun _ _=>[]) (fun q=>tup [tBase.va q.1,isI .i64 q.2]):=by
 refine .w func50 ntmps50 fun hf A w=>?_
 unfold uL
 refine .s<|.box (T:=tBase) z z fun b1=>.box (T:=tDeed) z z fun b2=>.alloc tBase d0_1026 [] dn z fun b3=>.an z z<|.seq<|.s<|go ?_
 refine .block<|.s<|go ?_
 refine .cd z ?_ ?_
 ·refine .s<|go ?_
  exact .call0 (c1017 fu _ _ _) n1017 z z fun q4=>fr
 ·refine .s<|go ?_
  refine .cd z ?_ ?_
  ·refine .s<|go ?_
   exact .call0 (c1025 fu _ _) n1025 z z fun q5=>fr
  ·refine .s<|go ?_
   refine .cd z ?_ ?_
   ·refine .s<|go ?_
    exact .call0 (c1042 fu _ _ _) n1042 z z fun q6=>fr
   ·refine .s<|go ?_
    refine .cd z ?_ ?_
    ·refine .s<|go ?_
     exact .call0 (c1039 fu _ _ _ _) n1039 z z fun q7=>fr
    ·refine .s<|go ?_
     refine .cd z ?_ ?_
     ·refine .s<|go ?_
      exact .call0 (c1029 fu _ _ _) n1029 z z fun q8=>fr
     ·refine .skip<|.inBlock<|.s<|go ?_
      exact .call0 (c1034 fu _ _ _) n1034 z z fun q9=>fr
def ii (i5:Bool):Option Bool:=some i5
def fW (a0:bj)(i4:Bool):Option Bool:=cond i4 (some false) (cond (decide (a0.kind=4)) (ii true) (cond (decide (a0.kind=5)) (ii true) (ii (decide (a0.id=0)))))
def dJ (a0:bj)(i3:Bool):Option Bool:=cond i3 (some false) (cond (!decide (a0.kind=3)) (cond (!decide (a0.kind=4)) (fW a0 (decide (0 < (a0.sets.length:Int)))) (fW a0 false)) (fW a0 false))
def dK (a0:bj)(i2:Bool):Option Bool:=cond i2 (some false) (cond (!decide (a0.kind=6)) (cond (!decide (a0.change=(⟨d0_56.kind,d0_56.name,d0_56.new,d0_56.col⟩:aa))) (dJ a0 true) (cond (!decide (a0.kind=1)) (dJ a0 (decide (0 < (a0.cols.length:Int)))) (dJ a0 false))) (cond (!decide (a0.kind=1)) (dJ a0 (decide (0 < (a0.cols.length:Int)))) (dJ a0 false)))
def uI (fu:Nat)(a0:bj):Option Bool:=cond (!decide (a0.kind=2)) (cond (!decide (a0.link=(⟨d0_1044.from_,d0_1044.col,d0_1044.to,d0_1044.how⟩:aj))) (dK a0 true) (cond (decide (a0.kind=2)) (dK a0 (!decide (a0.name=([]:List UInt8)))) (dK a0 false))) (cond (decide (a0.kind=2)) (dK a0 (!decide (a0.name=([]:List UInt8)))) (dK a0 false))
theorem n2114:Nm prog 114:=⟨_,_,func114,by kernel_rfl,z⟩
theorem c2114 (fu:Nat)(a0:bj):Ctr prog 114 [tDeed.va a0] [] (uI fu a0) (fun _ _=>[]) (fun q=>isB q):=by
 refine .w func114 ntmps114 fun hf A w=>?_
 unfold uI
 refine .s<|.box (T:=tDeed) z z fun b1=>.an z z<|.seq<|.seq<|.join1 (fun i2=>⟨[(1,isP b1 0,none),(21,isB i2,none)],[boxO b1 tDeed a0 []]⟩) (fun i2=>dK a0 i2) (fun i2=>?_) (fun hj1=>?_)
 ·refine .cd z ?_ ?_
  ·exact fr
  ·refine .skip<|.seq<|.seq<|.join1 (fun i3=>⟨[(1,isP b1 0,none),(41,isB i3,none)],[boxO b1 tDeed a0 []]⟩) (fun i3=>dJ a0 i3) (fun i3=>?_) (fun hj2=>?_)
   ·refine .cd z ?_ ?_
    ·exact fr
    ·refine .skip<|.seq<|.seq<|.join1 (fun i4=>⟨[(1,isP b1 0,none),(55,isB i4,none)],[boxO b1 tDeed a0 []]⟩) (fun i4=>fW a0 i4) (fun i4=>?_) (fun hj3=>?_)
     ·refine .cd z ?_ ?_
      ·exact fr
      ·refine .skip<|.seq<|.join1 (fun i5=>⟨[(2,isB i5,none)],[]⟩) (fun i5=>ii i5) (fun i5=>?_) (fun hj4=>?_)
       ·exact fr
       ·refine .g<|go ?_
        refine .split 59 z (fun _=>?_) (fun _=>?_)
        ·exact fj (hj4 _)
        ·refine go ?_
         refine .split 64 z (fun _=>?_) (fun _=>?_)
         ·exact fj (hj4 _)
         ·exact fj (hj4 _)
     ·refine .g<|go ?_
      refine .split 45 z (fun _=>?_) (fun _=>?_)
      ·refine go ?_
       refine .split 50 z (fun _=>?_) (fun _=>?_)
       ·exact fj (hj3 _)
       ·exact fj (hj3 _)
      ·exact fj (hj3 _)
   ·refine .g<|go ?_
    refine .split 25 z (fun _=>?_) (fun _=>?_)
    ·refine go ?_
     refine .neT Cf z z z<|go ?_
     refine .split 31 z (fun _=>?_) (fun _=>?_)
     ·exact fj (hj2 _)
     ·refine go ?_
      refine .split 35 z (fun _=>?_) (fun _=>?_)
      ·exact fj (hj2 _)
      ·exact fj (hj2 _)
    ·refine go ?_
     refine .split 35 z (fun _=>?_) (fun _=>?_)
     ·exact fj (hj2 _)
     ·exact fj (hj2 _)
 ·refine .g<|go ?_
  refine .split 6 z (fun _=>?_) (fun _=>?_)
  ·refine go ?_
   refine .neT vC z z z<|go ?_
   refine .split 12 z (fun _=>?_) (fun _=>?_)
   ·exact fj (hj1 _)
   ·refine go ?_
    refine .split 16 z (fun _=>?_) (fun _=>?_)
    ·exact fj (hj1 _)
    ·exact fj (hj1 _)
  ·refine go ?_
   refine .split 16 z (fun _=>?_) (fun _=>?_)
   ·exact fj (hj1 _)
   ·exact fj (hj1 _)
def nu (rec1:Int→Option Bool)(i3:Bool):Option Bool:=some i3
def f2116_l1 (fu:Nat)(a0:List Col):Nat→Int→Option Bool
 | 0,_=>none
 | n2001+1,i1=>cond (decide (i1 < (a0.length:Int))) (cond (decide (0≤i1)&&decide (i1 < (a0.length:Int))) ((zE fu (a0.getD i1.toNat default)).bind fun q2=>cond (!q2) (some false) ((f2116_l1 fu a0 n2001) (IntKind.i64.wrap (i1+1)))) none) (cond (decide (1≤(a0.length:Int))) (nu (f2116_l1 fu a0 n2001) (decide ((a0.length:Int)≤5))) (nu (f2116_l1 fu a0 n2001) false))
def uH (fu:Nat)(a0:List Col):Option Bool:=f2116_l1 fu a0 fu 0
theorem n2116:Nm prog 116:=⟨_,_,func116,by kernel_rfl,z⟩
theorem c2116 (fu:Nat)(a0:List Col):Ctr prog 116 [(tL tCol).va a0] [] (uH fu a0) (fun _ _=>[]) (fun q=>isB q):=by
 refine .w func116 ntmps116 fun hf A w=>?_
 unfold uH
 refine .s<|.an z z<|.seq<|.s<|.an z z<|.block<|.loop<|.keep [0,3] [] z<|(show ∀ (n2001:Nat) (i1:Int),W _ _ _ _ _ ⟨[(0,(tL tCol).va a0,none),(3,isI .i64 i1,none)],[]⟩ (f2116_l1 fu a0 n2001 i1) from ?_) fu _
 intro n2001
 induction n2001 with
 | zero=>exact fun _=>.stop
 | succ n2001 ih1=>
  intro i1
  refine .inLoop<|.seq<|.s<|go ?_
  refine .cd z ?_ ?_
  ·refine .skip<|.seq<|.block<|.s<|go ?_
   refine .call0 (c117 fu _) n117 z z fun q2=>.not z z<|.nil<|.cd z ?_ ?_
   ·exact fr
   ·exact fj (ih1 _)
  ·refine .exit z<|.seq<|.join1 (fun i3=>⟨[(2,isB i3,none)],[]⟩) (fun i3=>nu (f2116_l1 fu a0 n2001) i3) (fun i3=>?_) (fun hj2=>?_)
   ·exact fr
   ·refine .g<|go ?_
    refine .split 19 z (fun _=>?_) (fun _=>?_)
    ·exact fj (hj2 _)
    ·exact fj (hj2 _)
def eO (i2:Bool):Option Bool:=some i2
def uG (fu:Nat)(a0:aj):Option Bool:=(oS fu a0.from_).bind fun q3=>cond q3 ((oS fu a0.col).bind fun q4=>cond q4 ((oS fu a0.to).bind fun q5=>cond q5 (cond (decide (1≤a0.how)) (eO (decide (a0.how≤3))) (eO false)) (eO false)) (eO false)) (eO false)
theorem n2117:Nm prog 117:=⟨_,_,func117,by kernel_rfl,z⟩
theorem c2117 (fu:Nat)(a0:aj):Ctr prog 117 [tLink.va a0] [] (uG fu a0) (fun _ _=>[]) (fun q=>isB q):=by
 refine .w func117 ntmps117 fun hf A w=>?_
 unfold uG
 refine .s<|.box (T:=tLink) z z fun b1=>.an z z<|.seq<|.join1 (fun i2=>⟨[(2,isB i2,none)],[]⟩) (fun i2=>eO i2) (fun i2=>?_) (fun hj1=>?_)
 ·exact fr
 ·refine .g<|go ?_
  refine .call0 (c135 fu _) n135 z z fun q3=>.m z z<|.split 6 z (fun _=>?_) (fun _=>?_)
  ·refine go ?_
   refine .call0 (c135 fu _) n135 z z fun q4=>go ?_
   refine .split 11 z (fun _=>?_) (fun _=>?_)
   ·refine go ?_
    refine .call0 (c135 fu _) n135 z z fun q5=>go ?_
    refine .split 16 z (fun _=>?_) (fun _=>?_)
    ·refine go ?_
     refine .split 21 z (fun _=>?_) (fun _=>?_)
     ·exact fj (hj1 _)
     ·exact fj (hj1 _)
    ·exact fj (hj1 _)
   ·exact fj (hj1 _)
  ·exact fj (hj1 _)
def jV (i1:Int)(rec1:Int→Option Bool)(i2:Bool):Option Bool:=cond i2 (some false) (rec1 (IntKind.i64.wrap (i1+1)))
def ci (fu:Nat)(a0:List Set):Nat→Int→Option Bool
 | 0,_=>none
 | n2001+1,i1=>cond (decide (i1 < (a0.length:Int))) (cond (decide (0≤i1)&&decide (i1 < (a0.length:Int))) ((oS fu ((a0.getD i1.toNat default).name)).bind fun q3=>cond (!q3) (jV i1 (ci fu a0 n2001) true) (cond (decide (0≤i1)&&decide (i1 < (a0.length:Int))) ((uU fu ((a0.getD i1.toNat default).val)).bind fun q4=>jV i1 (ci fu a0 n2001) (!q4)) none)) none) (some (decide ((a0.length:Int)≤5)))
def uF (fu:Nat)(a0:List Set):Option Bool:=ci fu a0 fu 0
theorem n2118:Nm prog 118:=⟨_,_,func118,by kernel_rfl,z⟩
theorem c2118 (fu:Nat)(a0:List Set):Ctr prog 118 [(tL tSet).va a0] [] (uF fu a0) (fun _ _=>[]) (fun q=>isB q):=by
 refine .w func118 ntmps118 fun hf A w=>?_
 unfold uF
 refine .s<|.an z z<|.seq<|.s<|.an z z<|.block<|.loop<|.keep [0,3] [] z<|(show ∀ (n2001:Nat) (i1:Int),W _ _ _ _ _ ⟨[(0,(tL tSet).va a0,none),(3,isI .i64 i1,none)],[]⟩ (ci fu a0 n2001 i1) from ?_) fu _
 intro n2001
 induction n2001 with
 | zero=>exact fun _=>.stop
 | succ n2001 ih1=>
  intro i1
  refine .inLoop<|.seq<|.s<|go ?_
  refine .cd z ?_ ?_
  ·refine .skip<|.seq<|.block<|.seq<|.join1 (fun i2=>⟨[(0,(tL tSet).va a0,none),(3,isI .i64 i1,none),(25,isB i2,none)],[]⟩) (fun i2=>jV i1 (ci fu a0 n2001) i2) (fun i2=>?_) (fun hj2=>?_)
   ·refine .cd z ?_ ?_
    ·exact fr
    ·exact fj (ih1 _)
   ·refine .g<|go ?_
    refine .call0 (c135 fu _) n135 z z fun q3=>go ?_
    refine .split 17 z (fun _=>?_) (fun _=>?_)
    ·exact fj (hj2 _)
    ·refine go ?_
     exact .call0 (c119 fu _) n119 z z fun q4=>fj (hj2 _)
  ·exact fr
end Go.Proofs.YtganfdhmkdehlaaGreatDoor
/- Functions of the program: what each answers, and that the machine answers so. -/
namespace Go.Proofs.YtganfdhmkdehlaaGreatDoor
open Go Go.HL Tryz
attribute [local irreducible] W WO
def ig (i2:Bool):Option Bool:=some i2
def ie (i4:Bool):Option Bool:=some i4
def ic (i6:Bool):Option Bool:=some i6
def fV (i9:Bool):Option Bool:=some i9
def uE (fu:Nat)(a0:aa):Option Bool:=cond (decide (a0.kind=1)) ((zE fu a0.col).bind fun q3=>cond q3 (cond (decide (a0.name=([]:List UInt8))) (ig (decide (a0.new=([]:List UInt8)))) (ig false)) (ig false)) (cond (decide (a0.kind=2)) ((oS fu a0.name).bind fun q5=>cond q5 (cond (decide (a0.new=([]:List UInt8))) (ie (decide (a0.col=(⟨d0_52.name,d0_52.kind,d0_52.need,d0_52.once,d0_52.def_⟩:Col)))) (ie false)) (ie false)) (cond (decide (a0.kind=3)) ((oS fu a0.name).bind fun q7=>cond q7 ((oS fu a0.new).bind fun q8=>cond q8 (ic (decide (a0.col=(⟨d0_52.name,d0_52.kind,d0_52.need,d0_52.once,d0_52.def_⟩:Col)))) (ic false)) (ic false)) (cond (decide (a0.kind=4)) ((oS fu a0.name).bind fun q10=>cond q10 (cond (decide (a0.new=([]:List UInt8))) (cond (decide (a0.col=(⟨d0_52.name,1,d0_52.need,d0_52.once,d0_52.def_⟩:Col))) (fV true) (fV (decide (a0.col=(⟨d0_52.name,2,d0_52.need,d0_52.once,d0_52.def_⟩:Col))))) (fV false)) (fV false)) (some false))))
theorem n2119:Nm prog 119:=⟨_,_,func119,by kernel_rfl,z⟩
theorem c2119 (fu:Nat)(a0:aa):Ctr prog 119 [tChange.va a0] [] (uE fu a0) (fun _ _=>[]) (fun q=>isB q):=by
 refine .w func119 ntmps119 fun hf A w=>?_
 unfold uE
 refine .s<|.box (T:=tChange) z z fun b1=>.an z z<|.seq<|.s<|go ?_
 refine .block<|.s<|go ?_
 refine .cd z ?_ ?_
 ·refine .seq<|.join1 (fun i2=>⟨[(2,isB i2,none)],[]⟩) (fun i2=>ig i2) (fun i2=>?_) (fun hj1=>?_)
  ·exact fr
  ·refine .g<|go ?_
   refine .call0 (c117 fu _) n117 z z fun q3=>.m z z<|.split 10 z (fun _=>?_) (fun _=>?_)
   ·refine go ?_
    refine .split 15 z (fun _=>?_) (fun _=>?_)
    ·exact fj (hj1 _)
    ·exact fj (hj1 _)
   ·exact fj (hj1 _)
 ·refine .s<|go ?_
  refine .cd z ?_ ?_
  ·refine .seq<|.join1 (fun i4=>⟨[(2,isB i4,none)],[]⟩) (fun i4=>ie i4) (fun i4=>?_) (fun hj2=>?_)
   ·exact fr
   ·refine .g<|go ?_
    refine .call0 (c135 fu _) n135 z z fun q5=>.m z z<|.split 25 z (fun _=>?_) (fun _=>?_)
    ·refine go ?_
     refine .split 30 z (fun _=>?_) (fun _=>?_)
     ·refine go ?_
      exact .eqT Av z z z<|fj (hj2 _)
     ·exact fj (hj2 _)
    ·exact fj (hj2 _)
  ·refine .s<|go ?_
   refine .cd z ?_ ?_
   ·refine .seq<|.join1 (fun i6=>⟨[(2,isB i6,none)],[]⟩) (fun i6=>ic i6) (fun i6=>?_) (fun hj3=>?_)
    ·exact fr
    ·refine .g<|go ?_
     refine .call0 (c135 fu _) n135 z z fun q7=>.m z z<|.split 41 z (fun _=>?_) (fun _=>?_)
     ·refine go ?_
      refine .call0 (c135 fu _) n135 z z fun q8=>go ?_
      refine .split 46 z (fun _=>?_) (fun _=>?_)
      ·refine go ?_
       exact .eqT Av z z z<|fj (hj3 _)
      ·exact fj (hj3 _)
     ·exact fj (hj3 _)
   ·refine .s<|go ?_
    refine .cd z ?_ ?_
    ·refine .seq<|.join1 (fun i9=>⟨[(2,isB i9,none)],[]⟩) (fun i9=>fV i9) (fun i9=>?_) (fun hj4=>?_)
     ·exact fr
     ·refine .g<|go ?_
      refine .call0 (c135 fu _) n135 z z fun q10=>.m z z<|.split 57 z (fun _=>?_) (fun _=>?_)
      ·refine go ?_
       refine .split 62 z (fun _=>?_) (fun _=>?_)
       ·refine go ?_
        refine .eqT Av z z z<|go ?_
        refine .split 67 z (fun _=>?_) (fun _=>?_)
        ·exact fj (hj4 _)
        ·refine go ?_
         exact .eqT Av z z z<|fj (hj4 _)
       ·exact fj (hj4 _)
      ·exact fj (hj4 _)
    ·exact fr
def ij (fu:Nat)(a0:bj)(i5:Bool):Option Bool:=cond i5 ((uF fu a0.sets).bind fun q6=>some q6) (cond (decide (a0.kind=5)) (some true) (cond (decide (a0.kind=6)) ((uE fu a0.change).bind fun q7=>some q7) (some false)))
def de (fu:Nat)(a0:bj)(i2:Bool):Option Bool:=cond i2 (some false) (cond (decide (a0.kind=1)) ((uH fu a0.cols).bind fun q3=>some q3) (cond (decide (a0.kind=2)) ((uG fu a0.link).bind fun q4=>some q4) (cond (decide (a0.kind=3)) (ij fu a0 (decide (a0.kind=3))) (ij fu a0 (decide (a0.kind=4))))))
def uM (fu:Nat)(a0:bj):Option Bool:=(uI fu a0).bind fun q8=>cond (!q8) (de fu a0 true) (cond (!decide (a0.kind=2)) ((oS fu a0.name).bind fun q9=>cond (!q9) (de fu a0 true) (cond (decide (a0.id<0)) (de fu a0 true) (de fu a0 (decide (60<a0.id))))) (cond (decide (a0.id<0)) (de fu a0 true) (de fu a0 (decide (60<a0.id)))))
theorem n2048:Nm prog 48:=⟨_,_,func48,by kernel_rfl,z⟩
theorem c2048 (fu:Nat)(a0:bj):Ctr prog 48 [tDeed.va a0] [] (uM fu a0) (fun _ _=>[]) (fun q=>isB q):=by
 refine .w func48 ntmps48 fun hf A w=>?_
 unfold uM
 refine .s<|.box (T:=tDeed) z z fun b1=>.an z z<|.seq<|.seq<|.join1 (fun i2=>⟨[(1,isP b1 0,none),(26,isB i2,none)],[boxO b1 tDeed a0 []]⟩) (fun i2=>de fu a0 i2) (fun i2=>?_) (fun hj1=>?_)
 ·refine .cd z ?_ ?_
  ·exact fr
  ·refine .skip<|.seq<|.s<|go ?_
   refine .block<|.s<|go ?_
   refine .cd z ?_ ?_
   ·refine .s<|go ?_
    exact .call0 (c2116 fu _) n2116 z z fun q3=>fr
   ·refine .s<|go ?_
    refine .cd z ?_ ?_
    ·refine .s<|go ?_
     exact .call0 (c2117 fu _) n2117 z z fun q4=>fr
    ·refine .seq<|.s<|go ?_
     refine .join1 (fun i5=>⟨[(1,isP b1 0,none),(28,isI .i64 a0.kind,none),(39,isB i5,none)],[boxO b1 tDeed a0 []]⟩) (fun i5=>ij fu a0 i5) (fun i5=>?_) (fun hj2=>?_)
     ·refine .cd z ?_ ?_
      ·refine .s<|go ?_
       exact .call0 (c2118 fu _) n2118 z z fun q6=>fr
      ·refine .s<|go ?_
       refine .cd z ?_ ?_
       ·exact fr
       ·refine .s<|go ?_
        refine .cd z ?_ ?_
        ·refine .s<|go ?_
         exact .call0 (c2119 fu _) n2119 z z fun q7=>fr
        ·exact fr
     ·refine .cd z ?_ ?_
      ·exact fj (hj2 _)
      ·exact fj (hj2 _)
 ·refine .g<|go ?_
  refine .call0 (c2114 fu _) n2114 z z fun q8=>go ?_
  refine .split 6 z (fun _=>?_) (fun _=>?_)
  ·exact fj (hj1 _)
  ·refine go ?_
   refine .split 10 z (fun _=>?_) (fun _=>?_)
   ·refine go ?_
    refine .call0 (c135 fu _) n135 z z fun q9=>go ?_
    refine .split 17 z (fun _=>?_) (fun _=>?_)
    ·exact fj (hj1 _)
    ·refine go ?_
     refine .split 22 z (fun _=>?_) (fun _=>?_)
     ·exact fj (hj1 _)
     ·exact fj (hj1 _)
   ·refine go ?_
    refine .split 22 z (fun _=>?_) (fun _=>?_)
    ·exact fj (hj1 _)
    ·exact fj (hj1 _)
def nv (q3:Int×Rd)(i13:bj):Option (bj×Rd):=some (i13,q3.2)
def uQ (fu:Nat)(a0:Rd)(a1:bj):Option (bj×Rd):=(f74 fu a0 60).bind fun q3=>cond (decide (q3.1=0)) ((f73 fu q3.2 ([0,7,-1,3]:List Int)).bind fun q4=>some (({ a1 with kind:=q4.1 }:bj),q4.2)) (cond (decide (q3.1=1)) ((f96 fu q3.2 ([([]:List UInt8),([65]:List UInt8),([97,98,99,100]:List UInt8)]:List (List UInt8))).bind fun q5=>some (({ a1 with name:=q5.1 }:bj),q5.2)) (cond (decide (q3.1=2)) ((f73 fu q3.2 ([-1,61,5]:List Int)).bind fun q6=>some (({ a1 with id:=q6.1 }:bj),q6.2)) (cond (decide (q3.1=3)) (cond (decide (List.length ([]:List Set)+a1.sets.length≤CAP)) (cond (decide (List.length (([]:List Set)++a1.sets)+List.length ([(⟨([65]:List UInt8),d0_49.val⟩:Set)]:List Set)≤CAP)) (some (({ a1 with sets:=(([]:List Set)++a1.sets)++([(⟨([65]:List UInt8),d0_49.val⟩:Set)]:List Set) }:bj),q3.2)) none) none) (cond (decide (q3.1=4)) (cond (decide (List.length ([]:List Col)+a1.cols.length≤CAP)) (cond (decide (List.length (([]:List Col)++a1.cols)+List.length ([(⟨([113]:List UInt8),d0_52.kind,d0_52.need,d0_52.once,d0_52.def_⟩:Col)]:List Col)≤CAP)) (some (({ a1 with cols:=(([]:List Col)++a1.cols)++([(⟨([113]:List UInt8),d0_52.kind,d0_52.need,d0_52.once,d0_52.def_⟩:Col)]:List Col) }:bj),q3.2)) none) none) (cond (decide (q3.1=5)) (nv q3 ({ a1 with change:=({ a1.change with new:=([113]:List UInt8) }:aa) }:bj)) (nv q3 a1))))))
theorem n2038:Nm prog 38:=⟨_,_,func38,by kernel_rfl,z⟩
theorem c2038 (fu:Nat)(bp0:Nat)(a0:Rd)(a1:bj):Ctr prog 38 [isP bp0 0,tDeed.va a1] [boxO bp0 tRd a0 []] (uQ fu a0 a1) (fun q _=>[boxO bp0 tRd q.2 []]) (fun q=>tDeed.va q.1):=by
 refine .w func38 ntmps38 fun hf A w=>?_
 unfold uQ
 refine .s<|.box (T:=tDeed) z z fun b1=>.alloc tDeed d0_2046 [] z2046 z fun b2=>.nil<|.seq<|.s<|.m z z<|.call1 2 (c74 fu _ _ _) z n74 z z fun q3=>.nil<|.block<|.s<|go ?_
 refine .cd z ?_ ?_
 ·refine .g<|go ?_
  exact .call1 2 (c73 fu _ _ _) z n73 z z fun q4=>fr
 ·refine .s<|go ?_
  refine .cd z ?_ ?_
  ·refine .g<|go ?_
   exact .call1 2 (c96 fu _ _ _) z n96 z z fun q5=>fr
  ·refine .s<|go ?_
   refine .cd z ?_ ?_
   ·refine .g<|go ?_
    exact .call1 2 (c73 fu _ _ _) z n73 z z fun q6=>fr
   ·refine .s<|go ?_
    refine .cd z ?_ ?_
    ·refine .g<|.lit (T:=tSet) u35 yV z z (.nil) z fun v7=>go ?_
     refine .app (T:=tSet) 0 z z z u35 yV z fun v8=>go ?_
     exact .app (T:=tSet) 0 z z z u35 yV z fun v9=>.fp z ne z<|.storeV 2 pQ z z z Co z<|fr
    ·refine .s<|go ?_
     refine .cd z ?_ ?_
     ·refine .g<|.lit (T:=tCol) u36 cq z z (.nil) z fun v10=>go ?_
      refine .app (T:=tCol) 0 z z z u36 cq z fun v11=>go ?_
      exact .app (T:=tCol) 0 z z z u36 cq z fun v12=>.fp z nd z<|.storeV 2 pP z z z sa z<|fr
     ·refine .s<|go ?_
      refine .join1 (fun i13=>⟨[(3,isP b1 0,none),(4,isP b2 0,none)],[boxO b2 tDeed d0_2046 [],boxO b1 tDeed i13 [],boxO bp0 tRd q3.2 []]⟩) (fun i13=>nv q3 i13) (fun i13=>?_) (fun hj1=>?_)
      ·exact fr
      ·refine .cd z ?_ ?_
       ·exact fj (hj1 _)
       ·exact fj (hj1 _)
def uK (fu:Nat)(a0:List Col)(a1:Col→Option Bool):Option Bool:=(As fu a0 a1).bind fun q1=>some (decide (0≤q1))
theorem n2097:Nm prog 97:=⟨_,_,func97,by kernel_rfl,z⟩
theorem c2097 (fu : Nat)(a0 : List Col)(a1 : Col → Option Bool)(g1 : Nat)(k1 : List VA)(hn1 : ∃ fn c, prog.funcs[g1]? = some fn ∧ (fn.name == "runtime.NumGoroutine") = false ∧ fn.body = some c)(hc1 : ∀ (x0 : Col), Ctr prog g1 ([tCol.va x0] ++ k1) [] (a1 x0) (fun _ _ => []) (fun q => isB q)) : Ctr prog 97 [(tL tCol).va a0, ca g1 k1] [] (uK fu a0 a1) (fun _ _ => []) (fun q => isB q) := by
 refine .w func97 ntmps97 fun hf A w=>?_
 unfold uK
 refine .s<|.an z z<|.s<|go ?_
 exact .call0 (c104 fu _ a1 g1 k1 hn1 hc1) n104 z z fun q1=>fr
def oR (fu:Nat)(a0:Col):Option Bool:=(zK fu a0).bind fun q2=>some (!q2)
theorem n2098:Nm prog 98:=⟨_,_,func98,by kernel_rfl,z⟩
theorem c2098 (fu:Nat)(a0:Col):Ctr prog 98 [tCol.va a0] [] (oR fu a0) (fun _ _=>[]) (fun q=>isB q):=by
 refine .w func98 ntmps98 fun hf A w=>?_
 unfold oR
 refine .s<|.box (T:=tCol) z z fun b1=>.an z z<|.s<|go ?_
 exact .call0 (c103 fu _) n103 z z fun q2=>fr
end Go.Proofs.YtganfdhmkdehlaaGreatDoor
