/- Functions of the program: what each answers, and that the machine answers so. -/
import Derived.Test.YtganfdhmkdehlaaGreatDoorQ2003B11
import Derived.KernelRfl
set_option linter.all false
namespace Go.Proofs.YtganfdhmkdehlaaGreatDoor
open Go Go.HL Tryz
attribute [local irreducible] W WO
def fN (fu:Nat)(a1:ac)(q4:((List UInt8)×Int)×Rd)(q5:Int)(q6:Int×Rd):Option (al×Rd):=cond (decide (0≤q5)) ((sh fu q6.2 a1 q5).bind fun q7=>some ((⟨3,q4.1.1,d0_2046.id,q7.1,d0_2046.cols,d0_2046.change,d0_2046.link⟩:al),q7.2)) ((sa fu q6.2).bind fun q8=>some ((⟨1,q4.1.1,d0_2046.id,d0_2046.sets,q8.1,d0_2046.change,d0_2046.link⟩:al),q8.2))
def ia (fu:Nat)(a1:ac)(q4:((List UInt8)×Int)×Rd)(q5:Int)(q6:Int×Rd)(i14:Bool):Option (al×Rd):=cond i14 (cond (decide (0≤q5)) (cond (decide (0≤q5)&&decide (q5 < (a1.tabs.length:Int))) ((f53 fu ((a1.tabs.getD q5.toNat default).table)).bind fun q15=>(f70 fu q6.2 q15).bind fun q16=>some ((⟨6,q4.1.1,d0_2046.id,d0_2046.sets,d0_2046.cols,q16.1,d0_2046.link⟩:al),q16.2)) none) (fN fu a1 q4 q5 q6)) (fN fu a1 q4 q5 q6)
def ib (fu:Nat)(a1:ac)(q4:((List UInt8)×Int)×Rd)(q5:Int)(q6:Int×Rd)(i12:Bool):Option (al×Rd):=cond i12 (cond (decide (0≤q5)) ((sh fu q6.2 a1 q5).bind fun q13=>some ((⟨4,q4.1.1,q4.1.2,q13.1,d0_2046.cols,d0_2046.change,d0_2046.link⟩:al),q13.2)) (fN fu a1 q4 q5 q6)) (cond (decide (q6.1=5)) (ia fu a1 q4 q5 q6 (decide (q6.1=5))) (ia fu a1 q4 q5 q6 (decide (q6.1=6))))
def uk (fu:Nat)(a0:Rd)(a1:ac):Option (al×Rd):=cond (decide ((a1.tabs.length:Int)=0)) ((sa fu a0).bind fun q3=>some ((⟨1,([116]:List UInt8),d0_2046.id,d0_2046.sets,q3.1,d0_2046.change,d0_2046.link⟩:al),q3.2)) ((uC fu a0 a1).bind fun q4=>(f1062 fu a1 q4.1.1).bind fun q5=>(f74 fu q4.2 12).bind fun q6=>cond (decide (q6.1=0)) ((f96 fu q6.2 ([([117]:List UInt8),([118]:List UInt8),([116]:List UInt8)]:List (List UInt8))).bind fun q9=>(f125 fu q9.2).bind fun q10=>some ((⟨1,q9.1,d0_2046.id,d0_2046.sets,q10.1,d0_2046.change,d0_2046.link⟩:al),q10.2)) (cond (decide (q6.1=1)) ((uE fu q6.2 a1).bind fun q11=>some ((⟨2,d0_2046.name,d0_2046.id,d0_2046.sets,d0_2046.cols,d0_2046.change,q11.1⟩:al),q11.2)) (cond (decide (q6.1=2)) (some ((⟨5,q4.1.1,q4.1.2,d0_2046.sets,d0_2046.cols,d0_2046.change,d0_2046.link⟩:al),q6.2)) (cond (decide (q6.1=3)) (ib fu a1 q4 q5 q6 (decide (q6.1=3))) (ib fu a1 q4 q5 q6 (decide (q6.1=4)))))))
theorem n2039:Nm prog 39:=⟨_,_,func39,by kernel_rfl,z⟩
theorem c2039 (fu:Nat)(bp0:Nat)(a0:Rd)(a1:ac):Ctr prog 39 [isP bp0 0,tBase.va a1] [boxO bp0 tRd a0 []] (uk fu a0 a1) (fun q _=>[boxO bp0 tRd q.2 []]) (fun q=>tDeed.va q.1):=by
 refine .w func39 ntmps39 fun hf A w=>?_
 unfold uk
 refine .s<|.box (T:=tBase) z z fun b1=>.alloc tDeed d0_2046 [] z2046 z fun b2=>.nil<|.seq<|.s<|go ?_
 refine .cd z ?_ ?_
 ·exact .s<|.m z z<|.call1 2 (c1170 fu _ _) z n1170 z z fun q3=>fr
 ·refine .skip<|.s<|go ?_
  refine .call1 2 (c1096 fu _ _ _) z n1096 z z fun q4=>go ?_
  refine .s<|go ?_
  refine .call0 (c1062 fu _ _) n1062 z z fun q5=>.an z z<|.seq<|.s<|.m z z<|.call1 2 (c74 fu _ _ _) z n74 z z fun q6=>.nil<|.block<|.s<|.bin z z z z<|.an z z<|.join0 (⟨[(0,isP bp0 0,none),(3,isP b1 0,none),(4,isP b2 0,none),(5,isS q4.1.1,none),(7,isI .i64 q5,none)],[boxO b2 tDeed d0_2046 [],boxO b1 tBase a1 [],boxO bp0 tRd q6.2 []]⟩) (fN fu a1 q4 q5 q6) (?_) (fun hj1=>?_)
  ·refine .inBlock<|.seq<|.s<|go ?_
   refine .cd z ?_ ?_
   ·refine .s<|go ?_
    exact .call1 2 (c1102 fu _ _ _ _) z n1102 z z fun q7=>fr
   ·refine .skip<|.s<|go ?_
    exact .call1 2 (c1170 fu _ _) z n1170 z z fun q8=>fr
  ·refine .cd z ?_ ?_
   ·refine .s<|go ?_
    exact .call1 2 (c96 fu _ _ _) z n96 z z fun q9=>.m z z<|.call1 2 (c125 fu _ _) z n125 z z fun q10=>fr
   ·refine .s<|go ?_
    refine .cd z ?_ ?_
    ·refine .s<|go ?_
     exact .call1 2 (c1081 fu _ _ _) z n1081 z z fun q11=>fr
    ·refine .s<|go ?_
     refine .cd z ?_ ?_
     ·exact fr
     ·refine .seq<|.s<|go ?_
      refine .join1 (fun i12=>⟨[(0,isP bp0 0,none),(3,isP b1 0,none),(4,isP b2 0,none),(5,isS q4.1.1,none),(6,isI .i64 q4.1.2,none),(7,isI .i64 q5,none),(25,isI .i64 q6.1,none),(45,isB i12,none)],[boxO b2 tDeed d0_2046 [],boxO b1 tBase a1 [],boxO bp0 tRd q6.2 []]⟩) (fun i12=>ib fu a1 q4 q5 q6 i12) (fun i12=>?_) (fun hj2=>?_)
      ·refine .cd z ?_ ?_
       ·refine .s<|go ?_
        refine .cd z ?_ ?_
        ·refine .s<|go ?_
         exact .call1 2 (c1102 fu _ _ _ _) z n1102 z z fun q13=>fr
        ·exact fj (hj1)
       ·refine .seq<|.s<|go ?_
        refine .join1 (fun i14=>⟨[(0,isP bp0 0,none),(3,isP b1 0,none),(4,isP b2 0,none),(5,isS q4.1.1,none),(7,isI .i64 q5,none),(57,isB i14,none)],[boxO b2 tDeed d0_2046 [],boxO b1 tBase a1 [],boxO bp0 tRd q6.2 []]⟩) (fun i14=>ia fu a1 q4 q5 q6 i14) (fun i14=>?_) (fun hj3=>?_)
        ·refine .cd z ?_ ?_
         ·refine .s<|go ?_
          refine .cd z ?_ ?_
          ·refine .s<|go ?_
           exact .call0 (c53 fu _) n53 z z fun q15=>.call1 2 (c70 fu _ _ _) z n70 z z fun q16=>fr
          ·exact fj (hj1)
         ·exact fj (hj1)
        ·refine .cd z ?_ ?_
         ·exact fj (hj3 _)
         ·exact fj (hj3 _)
      ·refine .cd z ?_ ?_
       ·exact fj (hj2 _)
       ·exact fj (hj2 _)
def rX (fu:Nat)(a0:ac)(a1:al):Option (ac×Int):=cond (decide (a1.kind=1)) ((uU fu a0 a1.name a1.cols).bind fun q4=>some (q4.1,q4.2)) (cond (decide (a1.kind=2)) ((uQ fu a0 a1.link).bind fun q5=>some (q5.1,q5.2)) (cond (decide (a1.kind=3)) ((uH fu a0 a1.name a1.sets).bind fun q6=>some (q6.1,q6.2)) (cond (decide (a1.kind=4)) ((uJ fu a0 a1.name a1.id a1.sets).bind fun q7=>some (q7.1,q7.2)) (cond (decide (a1.kind=5)) ((uO fu a0 a1.name a1.id).bind fun q8=>some (q8.1,q8.2)) ((uL fu a0 a1.name a1.change).bind fun q9=>some (q9.1,q9.2))))))
theorem n2050:Nm prog 50:=⟨_,_,func50,by kernel_rfl,z⟩
theorem c2050 (fu:Nat)(a0:ac)(a1:al):Ctr prog 50 [tBase.va a0,tDeed.va a1] [] (rX fu a0 a1) (fun _ _=>[]) (fun q=>tup [tBase.va q.1,isI .i64 q.2]):=by
 refine .w func50 ntmps50 fun hf A w=>?_
 unfold rX
 refine .s<|.box (T:=tBase) z z fun b1=>.box (T:=tDeed) z z fun b2=>.alloc tBase d0_1026 [] cW z fun b3=>.an z z<|.seq<|.s<|go ?_
 refine .block<|.s<|go ?_
 refine .cd z ?_ ?_
 ·refine .s<|go ?_
  exact .call0 (c1017 fu _ _ _) n1017 z z fun q4=>fr
 ·refine .s<|go ?_
  refine .cd z ?_ ?_
  ·refine .s<|go ?_
   exact .call0 (c1025 fu _ _) n1025 z z fun q5=>fr
  ·refine .s<|go ?_
   refine .cd z ?_ ?_
   ·refine .s<|go ?_
    exact .call0 (c1042 fu _ _ _) n1042 z z fun q6=>fr
   ·refine .s<|go ?_
    refine .cd z ?_ ?_
    ·refine .s<|go ?_
     exact .call0 (c1039 fu _ _ _ _) n1039 z z fun q7=>fr
    ·refine .s<|go ?_
     refine .cd z ?_ ?_
     ·refine .s<|go ?_
      exact .call0 (c1029 fu _ _ _) n1029 z z fun q8=>fr
     ·refine .skip<|.inBlock<|.s<|go ?_
      exact .call0 (c1034 fu _ _ _) n1034 z z fun q9=>fr
def hY (i5:Bool):Option Bool:=some i5
def fL (a0:al)(i4:Bool):Option Bool:=cond i4 (some false) (cond (decide (a0.kind=4)) (hY true) (cond (decide (a0.kind=5)) (hY true) (hY (decide (a0.id=0)))))
def dx (a0:al)(i3:Bool):Option Bool:=cond i3 (some false) (cond (!decide (a0.kind=3)) (cond (!decide (a0.kind=4)) (fL a0 (decide (0 < (a0.sets.length:Int)))) (fL a0 false)) (fL a0 false))
def dy (a0:al)(i2:Bool):Option Bool:=cond i2 (some false) (cond (!decide (a0.kind=6)) (cond (!decide (a0.change=(⟨d0_56.kind,d0_56.name,d0_56.new,d0_56.col⟩:aa))) (dx a0 true) (cond (!decide (a0.kind=1)) (dx a0 (decide (0 < (a0.cols.length:Int)))) (dx a0 false))) (cond (!decide (a0.kind=1)) (dx a0 (decide (0 < (a0.cols.length:Int)))) (dx a0 false)))
def uf (fu:Nat)(a0:al):Option Bool:=cond (!decide (a0.kind=2)) (cond (!decide (a0.link=(⟨d0_1044.from_,d0_1044.col,d0_1044.to,d0_1044.how⟩:aj))) (dy a0 true) (cond (decide (a0.kind=2)) (dy a0 (!decide (a0.name=([]:List UInt8)))) (dy a0 false))) (cond (decide (a0.kind=2)) (dy a0 (!decide (a0.name=([]:List UInt8)))) (dy a0 false))
theorem n2114:Nm prog 114:=⟨_,_,func114,by kernel_rfl,z⟩
theorem c2114 (fu:Nat)(a0:al):Ctr prog 114 [tDeed.va a0] [] (uf fu a0) (fun _ _=>[]) (fun q=>isB q):=by
 refine .w func114 ntmps114 fun hf A w=>?_
 unfold uf
 refine .s<|.box (T:=tDeed) z z fun b1=>.an z z<|.seq<|.seq<|.join1 (fun i2=>⟨[(1,isP b1 0,none),(21,isB i2,none)],[boxO b1 tDeed a0 []]⟩) (fun i2=>dy a0 i2) (fun i2=>?_) (fun hj1=>?_)
 ·refine .cd z ?_ ?_
  ·exact fr
  ·refine .skip<|.seq<|.seq<|.join1 (fun i3=>⟨[(1,isP b1 0,none),(41,isB i3,none)],[boxO b1 tDeed a0 []]⟩) (fun i3=>dx a0 i3) (fun i3=>?_) (fun hj2=>?_)
   ·refine .cd z ?_ ?_
    ·exact fr
    ·refine .skip<|.seq<|.seq<|.join1 (fun i4=>⟨[(1,isP b1 0,none),(55,isB i4,none)],[boxO b1 tDeed a0 []]⟩) (fun i4=>fL a0 i4) (fun i4=>?_) (fun hj3=>?_)
     ·refine .cd z ?_ ?_
      ·exact fr
      ·refine .skip<|.seq<|.join1 (fun i5=>⟨[(2,isB i5,none)],[]⟩) (fun i5=>hY i5) (fun i5=>?_) (fun hj4=>?_)
       ·exact fr
       ·refine .g<|go ?_
        refine .split 59 z (fun _=>?_) (fun _=>?_)
        ·exact fj (hj4 _)
        ·refine go ?_
         refine .split 64 z (fun _=>?_) (fun _=>?_)
         ·exact fj (hj4 _)
         ·exact fj (hj4 _)
     ·refine .g<|go ?_
      refine .split 45 z (fun _=>?_) (fun _=>?_)
      ·refine go ?_
       refine .split 50 z (fun _=>?_) (fun _=>?_)
       ·exact fj (hj3 _)
       ·exact fj (hj3 _)
      ·exact fj (hj3 _)
   ·refine .g<|go ?_
    refine .split 25 z (fun _=>?_) (fun _=>?_)
    ·refine go ?_
     refine .neT BO z z z<|go ?_
     refine .split 31 z (fun _=>?_) (fun _=>?_)
     ·exact fj (hj2 _)
     ·refine go ?_
      refine .split 35 z (fun _=>?_) (fun _=>?_)
      ·exact fj (hj2 _)
      ·exact fj (hj2 _)
    ·refine go ?_
     refine .split 35 z (fun _=>?_) (fun _=>?_)
     ·exact fj (hj2 _)
     ·exact fj (hj2 _)
 ·refine .g<|go ?_
  refine .split 6 z (fun _=>?_) (fun _=>?_)
  ·refine go ?_
   refine .neT yh z z z<|go ?_
   refine .split 12 z (fun _=>?_) (fun _=>?_)
   ·exact fj (hj1 _)
   ·refine go ?_
    refine .split 16 z (fun _=>?_) (fun _=>?_)
    ·exact fj (hj1 _)
    ·exact fj (hj1 _)
  ·refine go ?_
   refine .split 16 z (fun _=>?_) (fun _=>?_)
   ·exact fj (hj1 _)
   ·exact fj (hj1 _)
def m5 (rec1:Int→Option Bool)(i3:Bool):Option Bool:=some i3
def f2116_l1 (fu:Nat)(a0:List Col):Nat→Int→Option Bool
 | 0,_=>none
 | n2001+1,i1=>cond (decide (i1 < (a0.length:Int))) (cond (decide (0≤i1)&&decide (i1 < (a0.length:Int))) ((y4 fu (a0.getD i1.toNat default)).bind fun q2=>cond (!q2) (some false) ((f2116_l1 fu a0 n2001) (IntKind.i64.wrap (i1+1)))) none) (cond (decide (1≤(a0.length:Int))) (m5 (f2116_l1 fu a0 n2001) (decide ((a0.length:Int)≤5))) (m5 (f2116_l1 fu a0 n2001) false))
def ue (fu:Nat)(a0:List Col):Option Bool:=f2116_l1 fu a0 fu 0
theorem n2116:Nm prog 116:=⟨_,_,func116,by kernel_rfl,z⟩
theorem c2116 (fu:Nat)(a0:List Col):Ctr prog 116 [(tL tCol).va a0] [] (ue fu a0) (fun _ _=>[]) (fun q=>isB q):=by
 refine .w func116 ntmps116 fun hf A w=>?_
 unfold ue
 refine .s<|.an z z<|.seq<|.s<|.an z z<|.block<|.loop<|.keep [0,3] [] z<|(show ∀ (n2001:Nat) (i1:Int),W _ _ _ _ _ ⟨[(0,(tL tCol).va a0,none),(3,isI .i64 i1,none)],[]⟩ (f2116_l1 fu a0 n2001 i1) from ?_) fu _
 intro n2001
 induction n2001 with
 | zero=>exact fun _=>.stop
 | succ n2001 ih1=>
  intro i1
  refine .inLoop<|.seq<|.s<|go ?_
  refine .cd z ?_ ?_
  ·refine .skip<|.seq<|.block<|.s<|go ?_
   refine .call0 (c117 fu _) n117 z z fun q2=>.not z z<|.nil<|.cd z ?_ ?_
   ·exact fr
   ·exact fj (ih1 _)
  ·refine .exit z<|.seq<|.join1 (fun i3=>⟨[(2,isB i3,none)],[]⟩) (fun i3=>m5 (f2116_l1 fu a0 n2001) i3) (fun i3=>?_) (fun hj2=>?_)
   ·exact fr
   ·refine .g<|go ?_
    refine .split 19 z (fun _=>?_) (fun _=>?_)
    ·exact fj (hj2 _)
    ·exact fj (hj2 _)
def eC (i2:Bool):Option Bool:=some i2
def ud (fu:Nat)(a0:aj):Option Bool:=(ow fu a0.from_).bind fun q3=>cond q3 ((ow fu a0.col).bind fun q4=>cond q4 ((ow fu a0.to).bind fun q5=>cond q5 (cond (decide (1≤a0.how)) (eC (decide (a0.how≤3))) (eC false)) (eC false)) (eC false)) (eC false)
theorem n2117:Nm prog 117:=⟨_,_,func117,by kernel_rfl,z⟩
theorem c2117 (fu:Nat)(a0:aj):Ctr prog 117 [tLink.va a0] [] (ud fu a0) (fun _ _=>[]) (fun q=>isB q):=by
 refine .w func117 ntmps117 fun hf A w=>?_
 unfold ud
 refine .s<|.box (T:=tLink) z z fun b1=>.an z z<|.seq<|.join1 (fun i2=>⟨[(2,isB i2,none)],[]⟩) (fun i2=>eC i2) (fun i2=>?_) (fun hj1=>?_)
 ·exact fr
 ·refine .g<|go ?_
  refine .call0 (c135 fu _) n135 z z fun q3=>.m z z<|.split 6 z (fun _=>?_) (fun _=>?_)
  ·refine go ?_
   refine .call0 (c135 fu _) n135 z z fun q4=>go ?_
   refine .split 11 z (fun _=>?_) (fun _=>?_)
   ·refine go ?_
    refine .call0 (c135 fu _) n135 z z fun q5=>go ?_
    refine .split 16 z (fun _=>?_) (fun _=>?_)
    ·refine go ?_
     refine .split 21 z (fun _=>?_) (fun _=>?_)
     ·exact fj (hj1 _)
     ·exact fj (hj1 _)
    ·exact fj (hj1 _)
   ·exact fj (hj1 _)
  ·exact fj (hj1 _)
def jM (i1:Int)(rec1:Int→Option Bool)(i2:Bool):Option Bool:=cond i2 (some false) (rec1 (IntKind.i64.wrap (i1+1)))
def bY (fu:Nat)(a0:List Set):Nat→Int→Option Bool
 | 0,_=>none
 | n2001+1,i1=>cond (decide (i1 < (a0.length:Int))) (cond (decide (0≤i1)&&decide (i1 < (a0.length:Int))) ((ow fu ((a0.getD i1.toNat default).name)).bind fun q3=>cond (!q3) (jM i1 (bY fu a0 n2001) true) (cond (decide (0≤i1)&&decide (i1 < (a0.length:Int))) ((ut fu ((a0.getD i1.toNat default).val)).bind fun q4=>jM i1 (bY fu a0 n2001) (!q4)) none)) none) (some (decide ((a0.length:Int)≤5)))
def uc (fu:Nat)(a0:List Set):Option Bool:=bY fu a0 fu 0
theorem n2118:Nm prog 118:=⟨_,_,func118,by kernel_rfl,z⟩
theorem c2118 (fu:Nat)(a0:List Set):Ctr prog 118 [(tL tSet).va a0] [] (uc fu a0) (fun _ _=>[]) (fun q=>isB q):=by
 refine .w func118 ntmps118 fun hf A w=>?_
 unfold uc
 refine .s<|.an z z<|.seq<|.s<|.an z z<|.block<|.loop<|.keep [0,3] [] z<|(show ∀ (n2001:Nat) (i1:Int),W _ _ _ _ _ ⟨[(0,(tL tSet).va a0,none),(3,isI .i64 i1,none)],[]⟩ (bY fu a0 n2001 i1) from ?_) fu _
 intro n2001
 induction n2001 with
 | zero=>exact fun _=>.stop
 | succ n2001 ih1=>
  intro i1
  refine .inLoop<|.seq<|.s<|go ?_
  refine .cd z ?_ ?_
  ·refine .skip<|.seq<|.block<|.seq<|.join1 (fun i2=>⟨[(0,(tL tSet).va a0,none),(3,isI .i64 i1,none),(25,isB i2,none)],[]⟩) (fun i2=>jM i1 (bY fu a0 n2001) i2) (fun i2=>?_) (fun hj2=>?_)
   ·refine .cd z ?_ ?_
    ·exact fr
    ·exact fj (ih1 _)
   ·refine .g<|go ?_
    refine .call0 (c135 fu _) n135 z z fun q3=>go ?_
    refine .split 17 z (fun _=>?_) (fun _=>?_)
    ·exact fj (hj2 _)
    ·refine go ?_
     exact .call0 (c119 fu _) n119 z z fun q4=>fj (hj2 _)
  ·exact fr
end Go.Proofs.YtganfdhmkdehlaaGreatDoor
/- Functions of the program: what each answers, and that the machine answers so. -/
namespace Go.Proofs.YtganfdhmkdehlaaGreatDoor
open Go Go.HL Tryz
attribute [local irreducible] W WO
def hK (i2:Bool):Option Bool:=some i2
def hH (i4:Bool):Option Bool:=some i4
def gZ (i6:Bool):Option Bool:=some i6
def fK (i9:Bool):Option Bool:=some i9
def ub (fu:Nat)(a0:aa):Option Bool:=cond (decide (a0.kind=1)) ((y4 fu a0.col).bind fun q3=>cond q3 (cond (decide (a0.name=([]:List UInt8))) (hK (decide (a0.new=([]:List UInt8)))) (hK false)) (hK false)) (cond (decide (a0.kind=2)) ((ow fu a0.name).bind fun q5=>cond q5 (cond (decide (a0.new=([]:List UInt8))) (hH (decide (a0.col=(⟨d0_52.name,d0_52.kind,d0_52.need,d0_52.once,d0_52.def_⟩:Col)))) (hH false)) (hH false)) (cond (decide (a0.kind=3)) ((ow fu a0.name).bind fun q7=>cond q7 ((ow fu a0.new).bind fun q8=>cond q8 (gZ (decide (a0.col=(⟨d0_52.name,d0_52.kind,d0_52.need,d0_52.once,d0_52.def_⟩:Col)))) (gZ false)) (gZ false)) (cond (decide (a0.kind=4)) ((ow fu a0.name).bind fun q10=>cond q10 (cond (decide (a0.new=([]:List UInt8))) (cond (decide (a0.col=(⟨d0_52.name,1,d0_52.need,d0_52.once,d0_52.def_⟩:Col))) (fK true) (fK (decide (a0.col=(⟨d0_52.name,2,d0_52.need,d0_52.once,d0_52.def_⟩:Col))))) (fK false)) (fK false)) (some false))))
theorem n2119:Nm prog 119:=⟨_,_,func119,by kernel_rfl,z⟩
theorem c2119 (fu:Nat)(a0:aa):Ctr prog 119 [tChange.va a0] [] (ub fu a0) (fun _ _=>[]) (fun q=>isB q):=by
 refine .w func119 ntmps119 fun hf A w=>?_
 unfold ub
 refine .s<|.box (T:=tChange) z z fun b1=>.an z z<|.seq<|.s<|go ?_
 refine .block<|.s<|go ?_
 refine .cd z ?_ ?_
 ·refine .seq<|.join1 (fun i2=>⟨[(2,isB i2,none)],[]⟩) (fun i2=>hK i2) (fun i2=>?_) (fun hj1=>?_)
  ·exact fr
  ·refine .g<|go ?_
   refine .call0 (c117 fu _) n117 z z fun q3=>.m z z<|.split 10 z (fun _=>?_) (fun _=>?_)
   ·refine go ?_
    refine .split 15 z (fun _=>?_) (fun _=>?_)
    ·exact fj (hj1 _)
    ·exact fj (hj1 _)
   ·exact fj (hj1 _)
 ·refine .s<|go ?_
  refine .cd z ?_ ?_
  ·refine .seq<|.join1 (fun i4=>⟨[(2,isB i4,none)],[]⟩) (fun i4=>hH i4) (fun i4=>?_) (fun hj2=>?_)
   ·exact fr
   ·refine .g<|go ?_
    refine .call0 (c135 fu _) n135 z z fun q5=>.m z z<|.split 25 z (fun _=>?_) (fun _=>?_)
    ·refine go ?_
     refine .split 30 z (fun _=>?_) (fun _=>?_)
     ·refine go ?_
      exact .eqT A3 z z z<|fj (hj2 _)
     ·exact fj (hj2 _)
    ·exact fj (hj2 _)
  ·refine .s<|go ?_
   refine .cd z ?_ ?_
   ·refine .seq<|.join1 (fun i6=>⟨[(2,isB i6,none)],[]⟩) (fun i6=>gZ i6) (fun i6=>?_) (fun hj3=>?_)
    ·exact fr
    ·refine .g<|go ?_
     refine .call0 (c135 fu _) n135 z z fun q7=>.m z z<|.split 41 z (fun _=>?_) (fun _=>?_)
     ·refine go ?_
      refine .call0 (c135 fu _) n135 z z fun q8=>go ?_
      refine .split 46 z (fun _=>?_) (fun _=>?_)
      ·refine go ?_
       exact .eqT A3 z z z<|fj (hj3 _)
      ·exact fj (hj3 _)
     ·exact fj (hj3 _)
   ·refine .s<|go ?_
    refine .cd z ?_ ?_
    ·refine .seq<|.join1 (fun i9=>⟨[(2,isB i9,none)],[]⟩) (fun i9=>fK i9) (fun i9=>?_) (fun hj4=>?_)
     ·exact fr
     ·refine .g<|go ?_
      refine .call0 (c135 fu _) n135 z z fun q10=>.m z z<|.split 57 z (fun _=>?_) (fun _=>?_)
      ·refine go ?_
       refine .split 62 z (fun _=>?_) (fun _=>?_)
       ·refine go ?_
        refine .eqT A3 z z z<|go ?_
        refine .split 67 z (fun _=>?_) (fun _=>?_)
        ·exact fj (hj4 _)
        ·refine go ?_
         exact .eqT A3 z z z<|fj (hj4 _)
       ·exact fj (hj4 _)
      ·exact fj (hj4 _)
    ·exact fr
def hZ (fu:Nat)(a0:al)(i5:Bool):Option Bool:=cond i5 ((uc fu a0.sets).bind fun q6=>some q6) (cond (decide (a0.kind=5)) (some true) (cond (decide (a0.kind=6)) ((ub fu a0.change).bind fun q7=>some q7) (some false)))
def da (fu:Nat)(a0:al)(i2:Bool):Option Bool:=cond i2 (some false) (cond (decide (a0.kind=1)) ((ue fu a0.cols).bind fun q3=>some q3) (cond (decide (a0.kind=2)) ((ud fu a0.link).bind fun q4=>some q4) (cond (decide (a0.kind=3)) (hZ fu a0 (decide (a0.kind=3))) (hZ fu a0 (decide (a0.kind=4))))))
def rY (fu:Nat)(a0:al):Option Bool:=(uf fu a0).bind fun q8=>cond (!q8) (da fu a0 true) (cond (!decide (a0.kind=2)) ((ow fu a0.name).bind fun q9=>cond (!q9) (da fu a0 true) (cond (decide (a0.id<0)) (da fu a0 true) (da fu a0 (decide (60<a0.id))))) (cond (decide (a0.id<0)) (da fu a0 true) (da fu a0 (decide (60<a0.id)))))
theorem n2048:Nm prog 48:=⟨_,_,func48,by kernel_rfl,z⟩
theorem c2048 (fu:Nat)(a0:al):Ctr prog 48 [tDeed.va a0] [] (rY fu a0) (fun _ _=>[]) (fun q=>isB q):=by
 refine .w func48 ntmps48 fun hf A w=>?_
 unfold rY
 refine .s<|.box (T:=tDeed) z z fun b1=>.an z z<|.seq<|.seq<|.join1 (fun i2=>⟨[(1,isP b1 0,none),(26,isB i2,none)],[boxO b1 tDeed a0 []]⟩) (fun i2=>da fu a0 i2) (fun i2=>?_) (fun hj1=>?_)
 ·refine .cd z ?_ ?_
  ·exact fr
  ·refine .skip<|.seq<|.s<|go ?_
   refine .block<|.s<|go ?_
   refine .cd z ?_ ?_
   ·refine .s<|go ?_
    exact .call0 (c2116 fu _) n2116 z z fun q3=>fr
   ·refine .s<|go ?_
    refine .cd z ?_ ?_
    ·refine .s<|go ?_
     exact .call0 (c2117 fu _) n2117 z z fun q4=>fr
    ·refine .seq<|.s<|go ?_
     refine .join1 (fun i5=>⟨[(1,isP b1 0,none),(28,isI .i64 a0.kind,none),(39,isB i5,none)],[boxO b1 tDeed a0 []]⟩) (fun i5=>hZ fu a0 i5) (fun i5=>?_) (fun hj2=>?_)
     ·refine .cd z ?_ ?_
      ·refine .s<|go ?_
       exact .call0 (c2118 fu _) n2118 z z fun q6=>fr
      ·refine .s<|go ?_
       refine .cd z ?_ ?_
       ·exact fr
       ·refine .s<|go ?_
        refine .cd z ?_ ?_
        ·refine .s<|go ?_
         exact .call0 (c2119 fu _) n2119 z z fun q7=>fr
        ·exact fr
     ·refine .cd z ?_ ?_
      ·exact fj (hj2 _)
      ·exact fj (hj2 _)
 ·refine .g<|go ?_
  refine .call0 (c2114 fu _) n2114 z z fun q8=>go ?_
  refine .split 6 z (fun _=>?_) (fun _=>?_)
  ·exact fj (hj1 _)
  ·refine go ?_
   refine .split 10 z (fun _=>?_) (fun _=>?_)
   ·refine go ?_
    refine .call0 (c135 fu _) n135 z z fun q9=>go ?_
    refine .split 17 z (fun _=>?_) (fun _=>?_)
    ·exact fj (hj1 _)
    ·refine go ?_
     refine .split 22 z (fun _=>?_) (fun _=>?_)
     ·exact fj (hj1 _)
     ·exact fj (hj1 _)
   ·refine go ?_
    refine .split 22 z (fun _=>?_) (fun _=>?_)
    ·exact fj (hj1 _)
    ·exact fj (hj1 _)
def ie (i11:Int)(q16:al×Rd)(rec1:Int→(List (List al))→ac→Rd→Option ((List (List al))×Rd))(rec2:Int→(List al)→ac→Rd→Option ((List (List al))×Rd))(i21:List al)(i23:ac):Option ((List (List al))×Rd):=rec2 (IntKind.i64.wrap (i11-1)) i21 i23 q16.2
def fh (i11:Int)(i12:List al)(i14:ac)(q16:al×Rd)(q18:ac×Int)(rec1:Int→(List (List al))→ac→Rd→Option ((List (List al))×Rd))(rec2:Int→(List al)→ac→Rd→Option ((List (List al))×Rd))(i20:Bool):Option ((List (List al))×Rd):=cond i20 (cond (decide (i12.length+List.length ([q16.1]:List al)≤CAP)) (ie i11 q16 rec1 rec2 (i12++([q16.1]:List al)) q18.1) none) (ie i11 q16 rec1 rec2 i12 i14)
def ic (i4:Int)(i14:ac)(i15:Rd)(rec1:Int→(List (List al))→ac→Rd→Option ((List (List al))×Rd))(rec2:Int→(List al)→ac→Rd→Option ((List (List al))×Rd))(i26:List (List al)):Option ((List (List al))×Rd):=rec1 (IntKind.i64.wrap (i4-1)) i26 i14 i15
def bA (fu:Nat)(i4:Int)(i5:List (List al))(rec1:Int→(List (List al))→ac→Rd→Option ((List (List al))×Rd)):Nat→Int→(List al)→ac→Rd→Option ((List (List al))×Rd)
 | 0,_,_,_,_=>none
 | n2002+1,i11,i12,i14,i15=>cond (decide (0<i11)) ((uk fu i15 i14).bind fun q16=>(rX fu i14 q16.1).bind fun q18=>cond (decide (q18.2=0)) ((rY fu q16.1).bind fun q25=>fh i11 i12 i14 q16 q18 rec1 (bA fu i4 i5 rec1 n2002) q25) (fh i11 i12 i14 q16 q18 rec1 (bA fu i4 i5 rec1 n2002) false)) (cond (decide (0 < (i12.length:Int))) (cond (decide (i5.length+List.length ([i12]:List (List al))≤CAP)) (ic i4 i14 i15 rec1 (bA fu i4 i5 rec1 n2002) (i5++([i12]:List (List al)))) none) (ic i4 i14 i15 rec1 (bA fu i4 i5 rec1 n2002) i5))
def bB (fu:Nat):Nat→Int→(List (List al))→ac→Rd→Option ((List (List al))×Rd)
 | 0,_,_,_,_=>none
 | n2001+1,i4,i5,i7,i8=>cond (decide (0<i4)) ((f74 fu i8 3).bind fun q10=>bA fu i4 i5 (bB fu n2001) fu (IntKind.i64.wrap (1+q10.1)) ([]:List al) i7 q10.2) (some (i5,i8))
def ul (fu:Nat)(a0:Rd):Option ((List (List al))×Rd):=(f73 fu a0 ([3,6,9,12,2,0,15]:List Int)).bind fun q3=>bB fu fu q3.1 ([]:List (List al)) (⟨d0_1026.tabs,d0_1026.links⟩:ac) q3.2
theorem n2027:Nm prog 27:=⟨_,_,func27,by kernel_rfl,z⟩
attribute [local semireducible] W WO
theorem c2027 (fu:Nat)(bp0:Nat)(a0:Rd):Ctr prog 27 [isP bp0 0] [boxO bp0 tRd a0 []] (ul fu a0) (fun q _=>[boxO bp0 tRd q.2 []]) (fun q=>(tL (tL tDeed)).va q.1):=by
 refine Ctr.of_W func27 z ntmps27 z fun A w=>?_
 unfold ul
 refine .s<|.assignNil (tL tDeed) z<|.nil<|.s<|.lit (T:=(tL tDeed)) u23 d4 z z (.nil) z fun v1=>.an z z<|.s<|.build z cY cW (.nil) z<|.alloc tBase d0_1026 [] cW z fun b2=>.storeP 0 (Fld.self _) z z z ty1026<|.nil<|.seq<|.s<|.m z z<|.litN (T:=(tI .i64)) Cl el3 z z (.cons z<|.cons z<|.cons z<|.cons z<|.cons z<|.cons z<|.cons z<|.nil) z<|.call1 2 (c73 fu _ _ _) z n73 z z fun q3=>.an z z<|.block<|.loop<|.keep [0,4,5] [3] z<|(show ∀ (n2001:Nat) (i4:Int) (i5:List (List al)) (v6:Value) (i7:ac) (i8:Rd),W _ _ _ _ _ ⟨[(0,isP bp0 0,none),(4,isP b2 0,none),(5,isI .i64 i4,none),(3,(tL (tL tDeed)).va i5,some v6)],[boxO b2 tBase i7 [],appO 1 v6,boxO bp0 tRd i8 []]⟩ (bB fu n2001 i4 i5 i7 i8) from ?_) fu _ _ _ _ _
 intro n2001
 induction n2001 with
 | zero=>exact fun _ _ _ _ _=>.stop
 | succ n2001 ih1=>
  intro i4 i5 v6 i7 i8
  refine .inLoop<|.seq<|.s<|.m z z<|.bin z z z z<|.nil<|.cd z ?_ ?_
  ·refine .skip<|.seq<|.block<|.s<|.lit (T:=tDeed) u32 js z z (.nil) z fun v9=>.an z z<|.seq<|.s<|.m z z<|.call1 3 (c74 fu _ _ _) z n74 z z fun q10=>.bin z z z z<|.an z z<|.block<|.loop<|.keep [0,4,5,7] [3,6] z<|(show ∀ (n2002:Nat) (i11:Int) (i12:List al) (v13:Value) (i14:ac) (i15:Rd),W _ _ _ _ _ ⟨[(0,isP bp0 0,none),(4,isP b2 0,none),(5,isI .i64 i4,none),(7,isI .i64 i11,none),(3,(tL (tL tDeed)).va i5,some v6),(6,(tL tDeed).va i12,some v13)],[appO 19 v13,boxO b2 tBase i14 [],appO 1 v6,boxO bp0 tRd i15 []]⟩ (bA fu i4 i5 (bB fu n2001) n2002 i11 i12 i14 i15) from ?_) fu _ _ _ _ _
   intro n2002
   induction n2002 with
   | zero=>exact fun _ _ _ _ _=>.stop
   | succ n2002 ih2=>
    intro i11 i12 v13 i14 i15
    refine .inLoop<|.seq<|.s<|.m z z<|.bin z z z z<|.nil<|.cd z ?_ ?_
    ·refine .skip<|.seq<|.block<|.s<|.m z z<|.lp 1 (Fld.self _) z z ty1026 z<|.call1 3 (c2039 fu _ _ _) z n2039 z z fun q16=>.alloc tDeed d0_2046 [] z2046 z fun b17=>.storeP 0 (Fld.self _) z z z ty2046<|.nil<|.s<|.lp 2 (Fld.self _) z z ty1026 z<|.lp 0 (Fld.self _) z z ty2046 z<|.call0 (c2050 fu _ _) n2050 z z fun q18=>.m z z<|.extract z z z<|.extract z z z<|.alloc tBase d0_1026 [] cW z fun b19=>.storeP 0 (Fld.self _) z z z ty1026<|.an z z<|.seq<|.join1 (fun i20=>⟨[(0,isP bp0 0,none),(4,isP b2 0,none),(5,isI .i64 i4,none),(7,isI .i64 i11,none),(8,isP b17 0,none),(9,isP b19 0,none),(42,isB i20,none),(3,(tL (tL tDeed)).va i5,some v6),(6,(tL tDeed).va i12,some v13)],[boxO b19 tBase q18.1 [],boxO b17 tDeed q16.1 [],appO 19 v13,boxO b2 tBase i14 [],appO 1 v6,boxO bp0 tRd q16.2 []]⟩) (fun i20=>fh i11 i12 i14 q16 q18 (bB fu n2001) (bA fu i4 i5 (bB fu n2001) n2002) i20) (fun i20=>?_) (fun hj10=>?_)
     ·refine .join3 (fun i21 v22 i23=>⟨[(0,isP bp0 0,none),(4,isP b2 0,none),(5,isI .i64 i4,none),(7,isI .i64 i11,none),(3,(tL (tL tDeed)).va i5,some v6),(6,(tL tDeed).va i21,some v22)],[appO 19 v22,boxO b2 tBase i23 [],appO 1 v6,boxO bp0 tRd q16.2 []]⟩) (fun i21 v22 i23=>ie i11 q16 (bB fu n2001) (bA fu i4 i5 (bB fu n2001) n2002) i21 i23) (fun i21 v22 i23=>?_) (fun hj11=>?_)
      ·exact .inBlock<|.g<|.m z z<|.bin z z z z<|.an z z<|.keep [0,4,5,7] [3,6] z (ih2 _ _ _ _ _)
      ·refine .cd z ?_ ?_
       ·exact .s<|.m z z<|.lp 1 (Fld.self _) z z ty2046 z<|.litN (T:=tDeed) u32 js z z (.cons z<|.nil) z<|.app (T:=tDeed) 2 z z z u32 js z fun v24=>.an z z<|.g<|.lp 0 (Fld.self _) z z ty1026 z<|.storeP 3 (Fld.self _) z z z ty1026<|.nil<|.keep [0,4,5,7] [3,6] z (.drop (.c<|.c<|.d<|.d<|.d<|.d<|.e)<|hj11 _ _ _)
       ·exact .skip<|.keep [0,4,5,7] [3,6] z (.drop (.c<|.c<|.d<|.d<|.d<|.d<|.e)<|hj11 _ _ _)
     ·refine .g<|.m z z<|.bin z z z z<|.m z z<|.split 39 z (fun _=>?_) (fun _=>?_)
      ·exact .on z z<|.lp 1 (Fld.self _) z z ty2046 z<|.on z z<|.call0 (c2048 fu _) n2048 z z fun q25=>.pickT z z z<|.nil<|.keep [0,4,5,7,8,9,42] [3,6] z (hj10 _)
      ·exact .off z z z<|.off z z z<|.pickF z z z<|.nil<|.keep [0,4,5,7,8,9,42] [3,6] z (hj10 _)
    ·refine .exit z<|.s<|.m z z<|.lenL z u32 z<|.bin z z z z<|.nil<|.join2 (fun i26 v27=>⟨[(0,isP bp0 0,none),(4,isP b2 0,none),(5,isI .i64 i4,none),(3,(tL (tL tDeed)).va i26,some v27)],[boxO b2 tBase i14 [],appO 1 v27,boxO bp0 tRd i15 []]⟩) (fun i26 v27=>ic i4 i14 i15 (bB fu n2001) (bA fu i4 i5 (bB fu n2001) n2002) i26) (fun i26 v27=>?_) (fun hj12=>?_)
     ·exact .inBlock<|.g<|.m z z<|.bin z z z z<|.an z z<|.keep [0,4,5] [3] z (ih1 _ _ _ _ _)
     ·refine .cd z ?_ ?_
      ·exact .g<|.m z z<|.m z z<|.litN (T:=(tL tDeed)) u23 d4 z z (.cons z<|.nil) z<|.app (T:=(tL tDeed)) 2 z z z u23 d4 z fun v28=>.an z z<|.keep [0,4,5] [3] z (.drop (.c<|.d<|.d<|.d<|.e)<|hj12 _ _)
      ·exact .skip<|.keep [0,4,5] [3] z (.drop (.c<|.d<|.d<|.d<|.e)<|hj12 _ _)
  ·exact .exit z<|.s<|.m z z<|.an z z<|.ret1 func27 results27 (.tmp z) z (fun _ _=>.c<|.c<|.d<|.e)
attribute [local irreducible] W WO
def fJ (a0:List al):Nat→Int→(List al)→Option (List al)
 | 0,_,_=>none
 | n2001+1,i2,i3=>cond (decide (i2 < (a0.length:Int))) (cond (decide (0≤i2)&&decide (i2 < (a0.length:Int))) (cond (decide (0≤i2)&&decide (i2 < (a0.length:Int))) (cond (decide (List.length ([]:List Set)+List.length ((a0.getD i2.toNat default).sets)≤CAP)) (cond (decide (0≤i2)&&decide (i2 < (a0.length:Int))) (cond (decide (List.length ([]:List Col)+List.length ((a0.getD i2.toNat default).cols)≤CAP)) (cond (decide (i3.length+List.length ([({ ({ a0.getD i2.toNat default with sets:=([]:List Set)++((a0.getD i2.toNat default).sets) }:al) with cols:=([]:List Col)++((a0.getD i2.toNat default).cols) }:al)]:List al)≤CAP)) ((fJ a0 n2001) (IntKind.i64.wrap (i2+1)) (i3++([({ ({ a0.getD i2.toNat default with sets:=([]:List Set)++((a0.getD i2.toNat default).sets) }:al) with cols:=([]:List Col)++((a0.getD i2.toNat default).cols) }:al)]:List al))) none) none) none) none) none) none) (some i3)
def wo (fu:Nat)(a0:List al):Option (List al):=fJ a0 fu 0 ([]:List al)
theorem n2142:Nm prog 142:=⟨_,_,func142,by kernel_rfl,z⟩
def eD (fu:Nat)(a0:List (List al)):Nat→Int→(List (List al))→Option (List (List al))
 | 0,_,_=>none
 | n2001+1,i2,i3=>cond (decide (i2 < (a0.length:Int))) (cond (decide (0≤i2)&&decide (i2 < (a0.length:Int))) ((wo fu (a0.getD i2.toNat default)).bind fun q5=>cond (decide (i3.length+List.length ([q5]:List (List al))≤CAP)) ((eD fu a0 n2001) (IntKind.i64.wrap (i2+1)) (i3++([q5]:List (List al)))) none) none) (some i3)
def wA (fu:Nat)(a0:List (List al)):Option (List (List al)):=eD fu a0 fu 0 ([]:List (List al))
theorem n2068:Nm prog 68:=⟨_,_,func68,by kernel_rfl,z⟩
def m6 (q3:Int×Rd)(i13:al):Option (al×Rd):=some (i13,q3.2)
def ou (fu:Nat)(a0:Rd)(a1:al):Option (al×Rd):=(f74 fu a0 60).bind fun q3=>cond (decide (q3.1=0)) ((f73 fu q3.2 ([0,7,-1,3]:List Int)).bind fun q4=>some (({ a1 with kind:=q4.1 }:al),q4.2)) (cond (decide (q3.1=1)) ((f96 fu q3.2 ([([]:List UInt8),([65]:List UInt8),([97,98,99,100]:List UInt8)]:List (List UInt8))).bind fun q5=>some (({ a1 with name:=q5.1 }:al),q5.2)) (cond (decide (q3.1=2)) ((f73 fu q3.2 ([-1,61,5]:List Int)).bind fun q6=>some (({ a1 with id:=q6.1 }:al),q6.2)) (cond (decide (q3.1=3)) (cond (decide (List.length ([]:List Set)+a1.sets.length≤CAP)) (cond (decide (List.length (([]:List Set)++a1.sets)+List.length ([(⟨([65]:List UInt8),d0_49.val⟩:Set)]:List Set)≤CAP)) (some (({ a1 with sets:=(([]:List Set)++a1.sets)++([(⟨([65]:List UInt8),d0_49.val⟩:Set)]:List Set) }:al),q3.2)) none) none) (cond (decide (q3.1=4)) (cond (decide (List.length ([]:List Col)+a1.cols.length≤CAP)) (cond (decide (List.length (([]:List Col)++a1.cols)+List.length ([(⟨([113]:List UInt8),d0_52.kind,d0_52.need,d0_52.once,d0_52.def_⟩:Col)]:List Col)≤CAP)) (some (({ a1 with cols:=(([]:List Col)++a1.cols)++([(⟨([113]:List UInt8),d0_52.kind,d0_52.need,d0_52.once,d0_52.def_⟩:Col)]:List Col) }:al),q3.2)) none) none) (cond (decide (q3.1=5)) (m6 q3 ({ a1 with change:=({ a1.change with new:=([113]:List UInt8) }:aa) }:al)) (m6 q3 a1))))))
theorem n2038:Nm prog 38:=⟨_,_,func38,by kernel_rfl,z⟩
theorem c2038 (fu:Nat)(bp0:Nat)(a0:Rd)(a1:al):Ctr prog 38 [isP bp0 0,tDeed.va a1] [boxO bp0 tRd a0 []] (ou fu a0 a1) (fun q _=>[boxO bp0 tRd q.2 []]) (fun q=>tDeed.va q.1):=by
 refine .w func38 ntmps38 fun hf A w=>?_
 unfold ou
 refine .s<|.box (T:=tDeed) z z fun b1=>.alloc tDeed d0_2046 [] z2046 z fun b2=>.nil<|.seq<|.s<|.m z z<|.call1 2 (c74 fu _ _ _) z n74 z z fun q3=>.nil<|.block<|.s<|go ?_
 refine .cd z ?_ ?_
 ·refine .g<|go ?_
  exact .call1 2 (c73 fu _ _ _) z n73 z z fun q4=>fr
 ·refine .s<|go ?_
  refine .cd z ?_ ?_
  ·refine .g<|go ?_
   exact .call1 2 (c96 fu _ _ _) z n96 z z fun q5=>fr
  ·refine .s<|go ?_
   refine .cd z ?_ ?_
   ·refine .g<|go ?_
    exact .call1 2 (c73 fu _ _ _) z n73 z z fun q6=>fr
   ·refine .s<|go ?_
    refine .cd z ?_ ?_
    ·refine .g<|.lit (T:=tSet) u35 vx z z (.nil) z fun v7=>go ?_
     refine .app (T:=tSet) 0 z z z u35 vx z fun v8=>go ?_
     exact .app (T:=tSet) 0 z z z u35 vx z fun v9=>.fp z gS z<|.storeV 2 kP z z z z6 z<|fr
    ·refine .s<|go ?_
     refine .cd z ?_ ?_
     ·refine .g<|.lit (T:=tCol) u36 cw z z (.nil) z fun v10=>go ?_
      refine .app (T:=tCol) 0 z z z u36 cw z fun v11=>go ?_
      exact .app (T:=tCol) 0 z z z u36 cw z fun v12=>.fp z gR z<|.storeV 2 kO z z z sB z<|fr
     ·refine .s<|go ?_
      refine .join1 (fun i13=>⟨[(3,isP b1 0,none),(4,isP b2 0,none)],[boxO b2 tDeed d0_2046 [],boxO b1 tDeed i13 [],boxO bp0 tRd q3.2 []]⟩) (fun i13=>m6 q3 i13) (fun i13=>?_) (fun hj1=>?_)
      ·exact fr
      ·refine .cd z ?_ ?_
       ·exact fj (hj1 _)
       ·exact fj (hj1 _)
def uh (fu:Nat)(a0:List Col)(a1:Col→Option Bool):Option Bool:=(zO fu a0 a1).bind fun q1=>some (decide (0≤q1))
theorem n2097:Nm prog 97:=⟨_,_,func97,by kernel_rfl,z⟩
theorem c2097 (fu : Nat)(a0 : List Col)(a1 : Col → Option Bool)(g1 : Nat)(k1 : List VA)(hn1 : ∃ fn c, prog.funcs[g1]? = some fn ∧ (fn.name == "runtime.NumGoroutine") = false ∧ fn.body = some c)(hc1 : ∀ (x0 : Col), Ctr prog g1 ([tCol.va x0] ++ k1) [] (a1 x0) (fun _ _ => []) (fun q => isB q)) : Ctr prog 97 [(tL tCol).va a0, cN g1 k1] [] (uh fu a0 a1) (fun _ _ => []) (fun q => isB q) := by
 refine .w func97 ntmps97 fun hf A w=>?_
 unfold uh
 refine .s<|.an z z<|.s<|go ?_
 exact .call0 (c104 fu _ a1 g1 k1 hn1 hc1) n104 z z fun q1=>fr
def ot (fu:Nat)(a0:Col):Option Bool:=(za fu a0).bind fun q2=>some (!q2)
theorem n2098:Nm prog 98:=⟨_,_,func98,by kernel_rfl,z⟩
theorem c2098 (fu:Nat)(a0:Col):Ctr prog 98 [tCol.va a0] [] (ot fu a0) (fun _ _=>[]) (fun q=>isB q):=by
 refine .w func98 ntmps98 fun hf A w=>?_
 unfold ot
 refine .s<|.box (T:=tCol) z z fun b1=>.an z z<|.s<|go ?_
 exact .call0 (c103 fu _) n103 z z fun q2=>fr
end Go.Proofs.YtganfdhmkdehlaaGreatDoor
