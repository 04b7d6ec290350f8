/- Functions of the program: what each answers, and that the machine answers so. -/
import Derived.Test.YtganfdhmkdehlaaGreatDoorQ2004B1
import Derived.KernelRfl
set_option linter.all false
namespace Go.Proofs.YtganfdhmkdehlaaGreatDoor
open Go Go.HL Tryz
attribute [local irreducible] W WO
def fE (i11:Int)(rec1:Bool→(List Ref)→Option (List Ref))(rec2:Bool→Int→(List Ref)→Option (List Ref))(rec3:Bool→Int→(List Ref)→Option (List Ref))(i16:Bool)(i17:List Ref):Option (List Ref):=rec3 i16 (IntKind.i64.wrap (i11+1)) i17
def fF (a0:ac)(i7:Int)(i10:Bool)(i11:Int)(i12:List Ref)(rec1:Bool→(List Ref)→Option (List Ref))(rec2:Bool→Int→(List Ref)→Option (List Ref))(rec3:Bool→Int→(List Ref)→Option (List Ref))(i15:Bool):Option (List Ref):=cond i15 (cond (decide (i12.length+List.length ([(⟨(a0.tabs.getD i7.toNat default).name,((((a0.tabs.getD i7.toNat default).table).rows).getD i11.toNat default).id⟩:Ref)]:List Ref)≤CAP)) (fE i11 rec1 rec2 rec3 true (i12++([(⟨(a0.tabs.getD i7.toNat default).name,((((a0.tabs.getD i7.toNat default).table).rows).getD i11.toNat default).id⟩:Ref)]:List Ref))) none) (fE i11 rec1 rec2 rec3 i10 i12)
def cH (fu:Nat)(a0:ac)(i7:Int)(rec1:Bool→(List Ref)→Option (List Ref))(rec2:Bool→Int→(List Ref)→Option (List Ref)):Nat→Bool→Int→(List Ref)→Option (List Ref)
 | 0,_,_,_=>none
 | n1003+1,i10,i11,i12=>cond (decide (0≤i7)&&decide (i7 < (a0.tabs.length:Int))) (cond (decide (i11 < (List.length (((a0.tabs.getD i7.toNat default).table).rows):Int))) (cond (decide (0≤i7)&&decide (i7 < (a0.tabs.length:Int))) (cond (decide (0≤i7)&&decide (i7 < (a0.tabs.length:Int))) (cond (decide (0≤i11)&&decide (i11 < (List.length (((a0.tabs.getD i7.toNat default).table).rows):Int))) ((lV fu i12 ((⟨(a0.tabs.getD i7.toNat default).name,((((a0.tabs.getD i7.toNat default).table).rows).getD i11.toNat default).id⟩:Ref).name) ((⟨(a0.tabs.getD i7.toNat default).name,((((a0.tabs.getD i7.toNat default).table).rows).getD i11.toNat default).id⟩:Ref).id)).bind fun q20=>cond (!q20) ((sL fu a0 ((⟨(a0.tabs.getD i7.toNat default).name,((((a0.tabs.getD i7.toNat default).table).rows).getD i11.toNat default).id⟩:Ref).name) i11 i12).bind fun q21=>fF a0 i7 i10 i11 i12 rec1 rec2 (cH fu a0 i7 rec1 rec2 n1003) q21) (fF a0 i7 i10 i11 i12 rec1 rec2 (cH fu a0 i7 rec1 rec2 n1003) false)) none) none) none) (rec2 i10 (IntKind.i64.wrap (i7+1)) i12)) none
def bQ (fu:Nat)(a0:ac)(rec1:Bool→(List Ref)→Option (List Ref)):Nat→Bool→Int→(List Ref)→Option (List Ref)
 | 0,_,_,_=>none
 | n2+1,i6,i7,i8=>cond (decide (i7 < (a0.tabs.length:Int))) (cH fu a0 i7 rec1 (bQ fu a0 rec1 n2) fu i6 0 i8) (rec1 i6 i8)
def ix (i26:Int)(rec1:Bool→(List Ref)→Option (List Ref))(rec4:Int→(List Ref)→Option (List Ref))(rec5:Int→(List Ref)→Option (List Ref))(i31:List Ref):Option (List Ref):=rec5 (IntKind.i64.wrap (i26+1)) i31
def dR (fu:Nat)(a0:ac)(i4:List Ref)(i23:Int)(rec1:Bool→(List Ref)→Option (List Ref))(rec4:Int→(List Ref)→Option (List Ref)):Nat→Int→(List Ref)→Option (List Ref)
 | 0,_,_=>none
 | n1005+1,i26,i27=>cond (decide (0≤i23)&&decide (i23 < (a0.tabs.length:Int))) (cond (decide (i26 < (List.length (((a0.tabs.getD i23.toNat default).table).rows):Int))) (cond (decide (0≤i23)&&decide (i23 < (a0.tabs.length:Int))) (cond (decide (0≤i23)&&decide (i23 < (a0.tabs.length:Int))) (cond (decide (0≤i26)&&decide (i26 < (List.length (((a0.tabs.getD i23.toNat default).table).rows):Int))) ((lV fu i4 ((⟨(a0.tabs.getD i23.toNat default).name,((((a0.tabs.getD i23.toNat default).table).rows).getD i26.toNat default).id⟩:Ref).name) ((⟨(a0.tabs.getD i23.toNat default).name,((((a0.tabs.getD i23.toNat default).table).rows).getD i26.toNat default).id⟩:Ref).id)).bind fun q30=>cond q30 (cond (decide (i27.length+List.length ([(⟨(a0.tabs.getD i23.toNat default).name,((((a0.tabs.getD i23.toNat default).table).rows).getD i26.toNat default).id⟩:Ref)]:List Ref)≤CAP)) (ix i26 rec1 rec4 (dR fu a0 i4 i23 rec1 rec4 n1005) (i27++([(⟨(a0.tabs.getD i23.toNat default).name,((((a0.tabs.getD i23.toNat default).table).rows).getD i26.toNat default).id⟩:Ref)]:List Ref))) none) (ix i26 rec1 rec4 (dR fu a0 i4 i23 rec1 rec4 n1005) i27)) none) none) none) (rec4 (IntKind.i64.wrap (i23+1)) i27)) none
def cG (fu:Nat)(a0:ac)(i4:List Ref)(rec1:Bool→(List Ref)→Option (List Ref)):Nat→Int→(List Ref)→Option (List Ref)
 | 0,_,_=>none
 | n1004+1,i23,i24=>cond (decide (i23 < (a0.tabs.length:Int))) (dR fu a0 i4 i23 rec1 (cG fu a0 i4 rec1 n1004) fu 0 i24) (some i24)
def ax (fu:Nat)(a0:ac):Nat→Bool→(List Ref)→Option (List Ref)
 | 0,_,_=>none
 | n1+1,i3,i4=>cond i3 (bQ fu a0 (ax fu a0 n1) fu false 0 i4) (cG fu a0 i4 (ax fu a0 n1) fu 0 ([]:List Ref))
def uY (fu:Nat)(a0:ac)(a1:List UInt8)(a2:Int):Option (List Ref):=ax fu a0 fu true ([(⟨a1,a2⟩:Ref)]:List Ref)
theorem n1147:Nm prog 204:=⟨_,_,func204,by kernel_rfl,z⟩
theorem c1147 (fu:Nat)(a0:ac)(a1:List UInt8)(a2:Int):Ctr prog 204 [tBase.va a0,isS a1,isI .i64 a2] [] (uY fu a0 a1 a2) (fun _ _=>[]) (fun q=>(tL tRef).va q):=by
 refine .w func204 ntmps204 fun hf A w=>?_
 unfold uY
 refine .s<|.box (T:=tBase) z z fun b1=>.assignNil tRef z<|.nil<|.s<|.m z z<|.m z z<|.build z yv tf (.cons uq z z<|.cons uo z z<|.nil) z<|.lit (T:=tRef) BZ o1 z z (.cons z<|.nil) z fun v2=>.an z z<|.seq<|.s<|.an z z<|.block<|.loop<|.keep [3,8] [7] z<|(show ∀ (n1:Nat) (i3:Bool) (i4:List Ref) (v5:Value),W _ _ _ _ _ ⟨[(3,isP b1 0,none),(8,isB i3,none),(7,(tL tRef).va i4,some v5)],[appO 2 v5,boxO b1 tBase a0 []]⟩ (ax fu a0 n1 i3 i4) from ?_) fu _ _ _
 intro n1
 induction n1 with
 | zero=>exact fun _ _ _=>.stop
 | succ n1 ih1=>
  intro i3 i4 v5
  refine .inLoop<|.seq<|.s<|.m z z<|.nil<|.cd z ?_ ?_
  ·refine .skip<|.block<|.s<|.an z z<|.s<|.an z z<|.block<|.loop<|.keep [3,8,9] [7] z<|(show ∀ (n2:Nat) (i6:Bool) (i7:Int) (i8:List Ref) (v9:Value),W _ _ _ _ _ ⟨[(3,isP b1 0,none),(8,isB i6,none),(9,isI .i64 i7,none),(7,(tL tRef).va i8,some v9)],[appO 2 v9,boxO b1 tBase a0 []]⟩ (bQ fu a0 (ax fu a0 n1) n2 i6 i7 i8) from ?_) fu _ _ _ _
   intro n2
   induction n2 with
   | zero=>exact fun _ _ _ _=>.stop
   | succ n2 ih2=>
    intro i6 i7 i8 v9
    refine .inLoop<|.seq<|.s<|go ?_
    refine .cd z ?_ ?_
    ·refine .skip<|.seq<|.block<|.s<|.an z z<|.block<|.loop<|.keep [3,8,9,10] [7] z<|(show ∀ (n1003:Nat) (i10:Bool) (i11:Int) (i12:List Ref) (v13:Value),W _ _ _ _ _ ⟨[(3,isP b1 0,none),(8,isB i10,none),(9,isI .i64 i7,none),(10,isI .i64 i11,none),(7,(tL tRef).va i12,some v13)],[appO 2 v13,boxO b1 tBase a0 []]⟩ (cH fu a0 i7 (ax fu a0 n1) (bQ fu a0 (ax fu a0 n1) n2) n1003 i10 i11 i12) from ?_) fu _ _ _ _
     intro n1003
     induction n1003 with
     | zero=>exact fun _ _ _ _=>.stop
     | succ n1003 ih3=>
      intro i10 i11 i12 v13
      refine .inLoop<|.seq<|.s<|go ?_
      refine .cd z ?_ ?_
      ·refine .skip<|.seq<|.block<|.seq<|.pT fun h22=>.pT fun h23=>.pT fun h24=>.drawS 19 [] [18] [] mix (by kernel_rfl) sts z<|.cons (d:=11) z z fun _ _ hE h=>.alloc tRef lH [] tf z fun b14=>.toEnd<|h _ _ (.same<|.same<|.nil)<|go ?_
       refine .seq<|.join1 (fun i15=>⟨[(3,isP b1 0,none),(8,isB i10,none),(9,isI .i64 i7,none),(10,isI .i64 i11,none),(11,isP b14 0,none),(72,isB i15,none),(7,(tL tRef).va i12,some v13)],[appO 2 v13,boxO b1 tBase a0 [],boxO b14 tRef (⟨(a0.tabs.getD i7.toNat default).name,((((a0.tabs.getD i7.toNat default).table).rows).getD i11.toNat default).id⟩:Ref) []]⟩) (fun i15=>fF a0 i7 i10 i11 i12 (ax fu a0 n1) (bQ fu a0 (ax fu a0 n1) n2) (cH fu a0 i7 (ax fu a0 n1) (bQ fu a0 (ax fu a0 n1) n2) n1003) i15) (fun i15=>?_) (fun hj15=>?_)
       ·refine .join3 (fun i16 i17 v18=>⟨[(3,isP b1 0,none),(8,isB i16,none),(9,isI .i64 i7,none),(10,isI .i64 i11,none),(7,(tL tRef).va i17,some v18)],[appO 2 v18,boxO b1 tBase a0 []]⟩) (fun i16 i17 v18=>fE i11 (ax fu a0 n1) (bQ fu a0 (ax fu a0 n1) n2) (cH fu a0 i7 (ax fu a0 n1) (bQ fu a0 (ax fu a0 n1) n2) n1003) i16 i17) (fun i16 i17 v18=>?_) (fun hj16=>?_)
        ·exact fj (ih3 _ _ _ _)
        ·refine .cd z ?_ ?_
         ·refine .s<|go ?_
          exact .app (T:=tRef) 0 z z z BZ o1 z fun v19=>fj (hj16 _ _ _)
         ·exact fj (hj16 _ _ _)
       ·refine .g<|go ?_
        refine .call0 (c1182 fu _ _ _) n1182 z z fun q20=>go ?_
        refine .split 65 z (fun _=>?_) (fun _=>?_)
        ·refine go ?_
         exact .call0 (c1183 fu _ _ _ _) n1183 z z fun q21=>fj (hj15 _)
        ·exact fj (hj15 _)
      ·exact fj (ih2 _ _ _ _)
    ·exact fj (ih1 _ _ _)
  ·refine .exit z<|.s<|.lit (T:=tRef) BZ o1 z z (.nil) z fun v22=>.an z z<|.seq<|.s<|.an z z<|.block<|.loop<|.keep [3,13] [7,12] z<|(show ∀ (n1004:Nat) (i23:Int) (i24:List Ref) (v25:Value),W _ _ _ _ _ ⟨[(3,isP b1 0,none),(13,isI .i64 i23,none),(7,(tL tRef).va i4,some v5),(12,(tL tRef).va i24,some v25)],[appO 2 v25,appO 2 v5,boxO b1 tBase a0 []]⟩ (cG fu a0 i4 (ax fu a0 n1) n1004 i23 i24) from ?_) fu _ _ _
   intro n1004
   induction n1004 with
   | zero=>exact fun _ _ _=>.stop
   | succ n1004 ih4=>
    intro i23 i24 v25
    refine .inLoop<|.seq<|.s<|go ?_
    refine .cd z ?_ ?_
    ·refine .skip<|.seq<|.block<|.s<|.an z z<|.block<|.loop<|.keep [3,13,14] [7,12] z<|(show ∀ (n1005:Nat) (i26:Int) (i27:List Ref) (v28:Value),W _ _ _ _ _ ⟨[(3,isP b1 0,none),(13,isI .i64 i23,none),(14,isI .i64 i26,none),(7,(tL tRef).va i4,some v5),(12,(tL tRef).va i27,some v28)],[appO 2 v28,appO 2 v5,boxO b1 tBase a0 []]⟩ (dR fu a0 i4 i23 (ax fu a0 n1) (cG fu a0 i4 (ax fu a0 n1) n1004) n1005 i26 i27) from ?_) fu _ _ _
     intro n1005
     induction n1005 with
     | zero=>exact fun _ _ _=>.stop
     | succ n1005 ih5=>
      intro i26 i27 v28
      refine .inLoop<|.seq<|.s<|go ?_
      refine .cd z ?_ ?_
      ·refine .skip<|.seq<|.block<|.seq<|.pT fun h34=>.pT fun h35=>.pT fun h36=>.drawS 19 [] [18] [] mix (by kernel_rfl) sts z<|.cons (d:=15) z z fun _ _ hE h=>.alloc tRef lH [] tf z fun b29=>.toEnd<|h _ _ (.same<|.same<|.same<|.nil)<|go ?_
       refine .s<|go ?_
       refine .call0 (c1182 fu _ _ _) n1182 z z fun q30=>.nil<|.join2 (fun i31 v32=>⟨[(3,isP b1 0,none),(13,isI .i64 i23,none),(14,isI .i64 i26,none),(7,(tL tRef).va i4,some v5),(12,(tL tRef).va i31,some v32)],[appO 2 v32,appO 2 v5,boxO b1 tBase a0 []]⟩) (fun i31 v32=>ix i26 (ax fu a0 n1) (cG fu a0 i4 (ax fu a0 n1) n1004) (dR fu a0 i4 i23 (ax fu a0 n1) (cG fu a0 i4 (ax fu a0 n1) n1004) n1005) i31) (fun i31 v32=>?_) (fun hj20=>?_)
       ·exact fj (ih5 _ _ _)
       ·refine .cd z ?_ ?_
        ·refine .g<|go ?_
         exact .app (T:=tRef) 0 z z z BZ o1 z fun v33=>fj (hj20 _ _)
        ·exact fj (hj20 _ _)
      ·exact fj (ih4 _ _ _)
    ·exact fr
def j4 (i5:Int)(rec1:Int→Option Bool)(rec2:Int→Option Bool)(i7:Bool):Option Bool:=cond i7 (some true) (rec2 (IntKind.i64.wrap (i5+1)))
def iw (fu:Nat)(a0:ac)(a1:List Ref)(i2:Int)(q4:Int)(i5:Int)(rec1:Int→Option Bool)(rec2:Int→Option Bool)(i6:Bool):Option Bool:=cond i6 (cond (decide (0≤i5)&&decide (i5 < (List.length (((a0.tabs.getD q4.toNat default).table).rows):Int))) ((lV fu a1 ((a0.links.getD i2.toNat default).from_) (((((a0.tabs.getD q4.toNat default).table).rows).getD i5.toNat default).id)).bind fun q8=>cond (!q8) ((oT fu a0 (a0.links.getD i2.toNat default) i5 a1).bind fun q9=>j4 i5 rec1 rec2 q9) (j4 i5 rec1 rec2 false)) none) (rec1 (IntKind.i64.wrap (i2+1)))
def bP (fu:Nat)(a0:ac)(a1:List Ref)(i2:Int)(q4:Int)(rec1:Int→Option Bool):Nat→Int→Option Bool
 | 0,_=>none
 | n2+1,i5=>cond (decide (i5 < (List.length (((a0.tabs.getD q4.toNat default).table).rows):Int))) (iw fu a0 a1 i2 q4 i5 rec1 (bP fu a0 a1 i2 q4 rec1 n2) (decide (((a0.links.getD i2.toNat default).how)=1))) (iw fu a0 a1 i2 q4 i5 rec1 (bP fu a0 a1 i2 q4 rec1 n2) false)
def aU (fu:Nat)(a0:ac)(a1:List Ref):Nat→Int→Option Bool
 | 0,_=>none
 | n1+1,i2=>cond (decide (i2 < (a0.links.length:Int))) (cond (decide (0≤i2)&&decide (i2 < (a0.links.length:Int))) ((f1062 fu a0 ((a0.links.getD i2.toNat default).from_)).bind fun q4=>cond (decide (0≤q4)&&decide (q4 < (a0.tabs.length:Int))) (bP fu a0 a1 i2 q4 (aU fu a0 a1 n1) fu 0) none) none) (some false)
def uX (fu:Nat)(a0:ac)(a1:List Ref):Option Bool:=aU fu a0 a1 fu 0
theorem n1148:Nm prog 205:=⟨_,_,func205,by kernel_rfl,z⟩
theorem c1148 (fu:Nat)(a0:ac)(a1:List Ref):Ctr prog 205 [tBase.va a0,(tL tRef).va a1] [] (uX fu a0 a1) (fun _ _=>[]) (fun q=>isB q):=by
 refine .w func205 ntmps205 fun hf A w=>?_
 unfold uX
 refine .s<|.box (T:=tBase) z z fun b1=>.an z z<|.seq<|.s<|.an z z<|.block<|.loop<|.keep [1,2,5] [] z<|(show ∀ (n1:Nat) (i2:Int),W _ _ _ _ _ ⟨[(1,(tL tRef).va a1,none),(2,isP b1 0,none),(5,isI .i64 i2,none)],[boxO b1 tBase a0 []]⟩ (aU fu a0 a1 n1 i2) from ?_) fu _
 intro n1
 induction n1 with
 | zero=>exact fun _=>.stop
 | succ n1 ih1=>
  intro i2
  refine .inLoop<|.seq<|.s<|go ?_
  refine .cd z ?_ ?_
  ·refine .skip<|.seq<|.block<|.s<|go ?_
   refine .alloc tLink d0_1044 [] z1044 z fun b3=>go ?_
   refine .seq<|.pb (c1062 fu _ _) n1062 fun q4 h8 k=>.draw 6 [] mix (by kernel_rfl) sts z<|go ?_
   refine .s<|.an z z<|.block<|.loop<|.keep [1,2,5,6,7,8] [] z<|(show ∀ (n2:Nat) (i5:Int),W _ _ _ _ _ ⟨[(1,(tL tRef).va a1,none),(2,isP b1 0,none),(5,isI .i64 i2,none),(6,isP b3 0,none),(7,(tL tRow).va (((a0.tabs.getD q4.toNat default).table).rows),none),(8,isI .i64 i5,none)],[boxO b3 tLink (a0.links.getD i2.toNat default) [],boxO b1 tBase a0 []]⟩ (bP fu a0 a1 i2 q4 (aU fu a0 a1 n1) n2 i5) from ?_) fu _
   intro n2
   induction n2 with
   | zero=>exact fun _=>.stop
   | succ n2 ih2=>
    intro i5
    refine .inLoop<|.seq<|.seq<|.join1 (fun i6=>⟨[(1,(tL tRef).va a1,none),(2,isP b1 0,none),(5,isI .i64 i2,none),(6,isP b3 0,none),(7,(tL tRow).va (((a0.tabs.getD q4.toNat default).table).rows),none),(8,isI .i64 i5,none),(39,isB i6,none)],[boxO b3 tLink (a0.links.getD i2.toNat default) [],boxO b1 tBase a0 []]⟩) (fun i6=>iw fu a0 a1 i2 q4 i5 (aU fu a0 a1 n1) (bP fu a0 a1 i2 q4 (aU fu a0 a1 n1) n2) i6) (fun i6=>?_) (fun hj7=>?_)
    ·refine .cd z ?_ ?_
     ·refine .skip<|.seq<|.block<|.seq<|.join1 (fun i7=>⟨[(1,(tL tRef).va a1,none),(2,isP b1 0,none),(5,isI .i64 i2,none),(6,isP b3 0,none),(7,(tL tRow).va (((a0.tabs.getD q4.toNat default).table).rows),none),(8,isI .i64 i5,none),(58,isB i7,none)],[boxO b3 tLink (a0.links.getD i2.toNat default) [],boxO b1 tBase a0 []]⟩) (fun i7=>j4 i5 (aU fu a0 a1 n1) (bP fu a0 a1 i2 q4 (aU fu a0 a1 n1) n2) i7) (fun i7=>?_) (fun hj8=>?_)
      ·refine .cd z ?_ ?_
       ·exact fr
       ·exact fj (ih2 _)
      ·refine .pT fun h12=>.pb (c1182 fu _ _ _) n1182 fun q8 h13 k=>.pcond (fun h14=>?_) (fun h14=>?_)
       ·exact .draw 15 [] mix (by kernel_rfl) sts z<|.on z z<|.call0 (c1184 fu _ _ _ _) n1184 z z fun q9=>fj (hj8 _)
       ·exact .draw 15 [] mix (by kernel_rfl) sts z<|fj (hj8 _)
     ·exact fj (ih1 _)
    ·refine .g<|go ?_
     refine .split 35 z (fun _=>?_) (fun _=>?_)
     ·exact fj (hj7 _)
     ·exact fj (hj7 _)
  ·exact fr
def fC (i8:Int)(rec1:Int→(List Tab)→(List aj)→Option ac)(rec2:Int→(List Tab)→(List aj)→Option ac)(i13:ac):Option ac:=rec2 (IntKind.i64.wrap (i8+1)) i13.tabs i13.links
def fD (fu:Nat)(i3:Int)(i5:List aj)(q7:Int)(i8:Int)(i9:List Tab)(i10:List aj)(rec1:Int→(List Tab)→(List aj)→Option ac)(rec2:Int→(List Tab)→(List aj)→Option ac)(i12:Bool):Option ac:=cond i12 (cond (decide (0≤q7)&&decide (q7 < (i9.length:Int))) ((f42 fu ((i9.getD q7.toNat default).table)).bind fun q14=>(f76 fu q14 (((((i9.getD q7.toNat default).table).rows).getD i8.toNat default).id) ([(⟨(i5.getD i3.toNat default).col,d0_49.val⟩:Set)]:List Set)).bind fun q16=>cond (decide (0≤q7)&&decide (q7 < (i9.length:Int))) (fC i8 rec1 rec2 (⟨i9.set q7.toNat ({ (i9.getD q7.toNat default) with table:=q16.1 }:Tab),i10⟩:ac)) none) none) (fC i8 rec1 rec2 (⟨i9,i10⟩:ac))
def ey (fu:Nat)(a1:List Ref)(i3:Int)(i5:List aj)(q7:Int)(i8:Int)(i9:List Tab)(i10:List aj)(rec1:Int→(List Tab)→(List aj)→Option ac)(rec2:Int→(List Tab)→(List aj)→Option ac)(i11:Bool):Option ac:=cond i11 (cond (decide (0≤q7)&&decide (q7 < (i9.length:Int))) (cond (decide (0≤i8)&&decide (i8 < (List.length (((i9.getD q7.toNat default).table).rows):Int))) ((lV fu a1 ((i5.getD i3.toNat default).from_) (((((i9.getD q7.toNat default).table).rows).getD i8.toNat default).id)).bind fun q14=>cond (!q14) ((jD fu (⟨i9,i10⟩:ac) (i5.getD i3.toNat default) i8 a1).bind fun q15=>fD fu i3 i5 q7 i8 i9 i10 rec1 rec2 q15) (fD fu i3 i5 q7 i8 i9 i10 rec1 rec2 false)) none) none) (rec1 (IntKind.i64.wrap (i3+1)) i9 i10)
def bO (fu:Nat)(a1:List Ref)(i3:Int)(i5:List aj)(q7:Int)(rec1:Int→(List Tab)→(List aj)→Option ac):Nat→Int→(List Tab)→(List aj)→Option ac
 | 0,_,_,_=>none
 | n2+1,i8,i9,i10=>cond (decide (0≤q7)&&decide (q7 < (i9.length:Int))) (cond (decide (i8 < (List.length (((i9.getD q7.toNat default).table).rows):Int))) (ey fu a1 i3 i5 q7 i8 i9 i10 rec1 (bO fu a1 i3 i5 q7 rec1 n2) (decide (((i5.getD i3.toNat default).how)=3))) (ey fu a1 i3 i5 q7 i8 i9 i10 rec1 (bO fu a1 i3 i5 q7 rec1 n2) false)) none
def a7 (fu:Nat)(a1:List Ref):Nat→Int→(List Tab)→(List aj)→Option ac
 | 0,_,_,_=>none
 | n1+1,i3,i4,i5=>cond (decide (i3 < (i5.length:Int))) (cond (decide (0≤i3)&&decide (i3 < (i5.length:Int))) ((f1062o fu (⟨i4,i5⟩:ac) ((i5.getD i3.toNat default).from_)).bind fun q7=>bO fu a1 i3 i5 q7 (a7 fu a1 n1) fu 0 i4 i5) none) (some (⟨i4,i5⟩:ac))
def xv (fu:Nat)(a0:ac)(a1:List Ref):Option ac:=a7 fu a1 fu 0 a0.tabs a0.links
theorem n1149:Nm prog 206:=⟨_,_,func206,by kernel_rfl,z⟩
set_option maxHeartbeats 2000000 in
theorem c1149 (fu:Nat)(vp0:Value)(cp0:Value)(a0:ac)(a1:List Ref):aW prog 206 [tBaseA.va (⟨vp0,cp0⟩:aL),(tL tRef).va a1] [arrO tTab vp0 a0.tabs,arrO tLink cp0 a0.links] (xv fu a0 a1) vN (fun q p=>[arrO tTab p.1 q.tabs,arrO tLink p.2 q.links]) (fun q p=>tBaseA.va (⟨p.1,p.2⟩:aL)):=by
 refine .w func206 ntmps206 fun hf A w=>?_
 unfold xv
 refine .s<|.box (T:=tBaseA) z z fun b1=>.alloc tBaseA au [] aA z fun b2=>.nil<|.seq<|.s<|.an z z<|.block<|.loop<|.keep [1,2,4,5] [] z<|(show ∀ (n1:Nat) (i3:Int) (i4:List Tab) (i5:List aj),W _ _ _ _ _ ⟨[(1,(tL tRef).va a1,none),(2,isP b1 0,none),(4,isP b2 0,none),(5,isI .i64 i3,none)],[boxO b2 tBaseA (⟨(.slice none 0 0),(.slice none 0 0)⟩:aL) [],boxO b1 tBaseA (⟨vp0,cp0⟩:aL) [],arrO tTab vp0 i4,arrO tLink cp0 i5]⟩ (a7 fu a1 n1 i3 i4 i5) from ?_) fu _ _ _
 intro n1
 induction n1 with
 | zero=>exact fun _ _ _=>.stop
 | succ n1 ih1=>
  intro i3 i4 i5
  refine .inLoop<|.seq<|.s<|go ?_
  refine .cd z ?_ ?_
  ·refine .skip<|.seq<|.block<|.s<|go ?_
   refine .alloc tLink d0_1044 [] z1044 z fun b6=>go ?_
   refine .s<|go ?_
   refine .callR 3 (c1062o fu _ _ _ _) z n1062 z z fun q7=>.an z z<|.s<|.an z z<|.block<|.loop<|.keep [1,2,4,5,6,7,8] [] z<|(show ∀ (n2:Nat) (i8:Int) (i9:List Tab) (i10:List aj),W _ _ _ _ _ ⟨[(1,(tL tRef).va a1,none),(2,isP b1 0,none),(4,isP b2 0,none),(5,isI .i64 i3,none),(6,isP b6 0,none),(7,isI .i64 q7,none),(8,isI .i64 i8,none)],[boxO b6 tLink (i5.getD i3.toNat default) [],boxO b2 tBaseA (⟨(.slice none 0 0),(.slice none 0 0)⟩:aL) [],boxO b1 tBaseA (⟨vp0,cp0⟩:aL) [],arrO tTab vp0 i9,arrO tLink cp0 i10]⟩ (bO fu a1 i3 i5 q7 (a7 fu a1 n1) n2 i8 i9 i10) from ?_) fu _ _ _
   intro n2
   induction n2 with
   | zero=>exact fun _ _ _=>.stop
   | succ n2 ih2=>
    intro i8 i9 i10
    refine .inLoop<|.seq<|.seq<|.join1 (fun i11=>⟨[(1,(tL tRef).va a1,none),(2,isP b1 0,none),(4,isP b2 0,none),(5,isI .i64 i3,none),(6,isP b6 0,none),(7,isI .i64 q7,none),(8,isI .i64 i8,none),(40,isB i11,none)],[boxO b6 tLink (i5.getD i3.toNat default) [],boxO b2 tBaseA (⟨(.slice none 0 0),(.slice none 0 0)⟩:aL) [],boxO b1 tBaseA (⟨vp0,cp0⟩:aL) [],arrO tTab vp0 i9,arrO tLink cp0 i10]⟩) (fun i11=>ey fu a1 i3 i5 q7 i8 i9 i10 (a7 fu a1 n1) (bO fu a1 i3 i5 q7 (a7 fu a1 n1) n2) i11) (fun i11=>?_) (fun hj10=>?_)
    ·refine .cd z ?_ ?_
     ·refine .skip<|.seq<|.block<|.s<|go ?_
      refine .seq<|.join1 (fun i12=>⟨[(1,(tL tRef).va a1,none),(2,isP b1 0,none),(4,isP b2 0,none),(5,isI .i64 i3,none),(6,isP b6 0,none),(7,isI .i64 q7,none),(8,isI .i64 i8,none),(9,isI .i64 (((((i9.getD q7.toNat default).table).rows).getD i8.toNat default).id),none),(66,isB i12,none)],[boxO b6 tLink (i5.getD i3.toNat default) [],boxO b2 tBaseA (⟨(.slice none 0 0),(.slice none 0 0)⟩:aL) [],boxO b1 tBaseA (⟨vp0,cp0⟩:aL) [],arrO tTab vp0 i9,arrO tLink cp0 i10]⟩) (fun i12=>fD fu i3 i5 q7 i8 i9 i10 (a7 fu a1 n1) (bO fu a1 i3 i5 q7 (a7 fu a1 n1) n2) i12) (fun i12=>?_) (fun hj11=>?_)
      ·refine .join1 (fun i13=>⟨[(1,(tL tRef).va a1,none),(2,isP b1 0,none),(4,isP b2 0,none),(5,isI .i64 i3,none),(6,isP b6 0,none),(7,isI .i64 q7,none),(8,isI .i64 i8,none)],[boxO b6 tLink (i5.getD i3.toNat default) [],boxO b2 tBaseA (⟨(.slice none 0 0),(.slice none 0 0)⟩:aL) [],boxO b1 tBaseA (⟨vp0,cp0⟩:aL) [],arrO tTab vp0 i13.tabs,arrO tLink cp0 i13.links]⟩) (fun i13=>fC i8 (a7 fu a1 n1) (bO fu a1 i3 i5 q7 (a7 fu a1 n1) n2) i13) (fun i13=>?_) (fun hj12=>?_)
       ·exact fj (ih2 _ _ _)
       ·refine .cd z ?_ ?_
        ·refine .pT fun h1=>.pbind fun q14 h2=>.pbind fun q16 h3=>.pT fun h1=>.drawT 22 [] [6,7,8,9,15,16,17,18,19,20,21] [3,5] mix (by kernel_rfl) (.j (fun o=>.fp (o z) fa1026_0 z)<|.k (fun p e=>.loadR 2 aD (e.op z) (p.get z z) ty1023 z)<|.j (fun o=>.m (o z) z)<|.j (fun o=>.fp (o z) fa1026_0 z)<|.k (fun p e=>.loadR 2 aD (e.op z) (p.get z z) ty1023 z)<|.j (fun o=>.m (o z) z)<|.skip<|.skip<|.skip<|.skip<|.j (fun o=>.m (o z) z)<|.j (fun o=>.fp (o z) jQ z)<|.k (fun p e=>.lp 0 jg (e.op z) (p.get z z) ty9 z)<|.k (fun p e h=>.build z CL z49 (.cons mj z (e.op z)<|.nil) z<|h)<|.k (fun p e h=>.litN (T:=tSet) u35 yV z z (.cons (e.op z)<|.nil) z<|h)<|.skip<|.skip<|.skip<|.skip<|.skip<|.skip<|.skip<|.nil) z<|.node (.on ?_<|.off (by kernel_rfl)<|.off (by kernel_rfl)<|.off (by kernel_rfl)<|.off (by kernel_rfl)<|.off (by kernel_rfl)<|.off (by kernel_rfl)<|.off (by kernel_rfl)<|.off (by kernel_rfl)<|.off (by kernel_rfl)<|.off (by kernel_rfl)<|.nil)
         ·refine .put 74 z z fun _ _ hE h=>.useC h1<|.elemA 3 (hE.op z) (hE.op z) z u26 ba z<|h _ _ (.same<|.same<|.same<|.hole z<|.same<|.nil)<|.node (.on ?_<|.off (by kernel_rfl)<|.off (by kernel_rfl)<|.off (by kernel_rfl)<|.off (by kernel_rfl)<|.off (by kernel_rfl)<|.off (by kernel_rfl)<|.off (by kernel_rfl)<|.off (by kernel_rfl)<|.off (by kernel_rfl)<|.nil)
          ·refine .put 75 z z fun _ _ hE h=>.fieldA (hE.op z) aC z<|h _ _ (.same<|.same<|.same<|.hole z<|.same<|.nil)<|.node (.on ?_<|.off (by kernel_rfl)<|.off (by kernel_rfl)<|.off (by kernel_rfl)<|.off (by kernel_rfl)<|.off (by kernel_rfl)<|.off (by kernel_rfl)<|.off (by kernel_rfl)<|.off (by kernel_rfl)<|.nil)
           ·refine .put 76 z z fun _ _ hE h=>.loadA 3 fTab_1 (hE.op z) z ty27 z<|h _ _ (.same<|.same<|.same<|.hole z<|.same<|.nil)<|.node (.on ?_<|.off (by kernel_rfl)<|.off (by kernel_rfl)<|.off (by kernel_rfl)<|.off (by kernel_rfl)<|.off (by kernel_rfl)<|.off (by kernel_rfl)<|.off (by kernel_rfl)<|.nil)
            ·refine .put 77 z z fun _ _ hE h=>.bindE2 h2 (fun r h=>.callL0 (c42 fu _) n42 (hE.ops z) z h) fun p15=>.toEnd<|.toEnd<|h _ _ (.same<|.same<|.same<|.hole z<|.same<|.nil)<|.node (.on ?_<|.off (by kernel_rfl)<|.off (by kernel_rfl)<|.off (by kernel_rfl)<|.off (by kernel_rfl)<|.off (by kernel_rfl)<|.off (by kernel_rfl)<|.nil)
             ·refine .put 83 z z fun _ _ hE h=>.bindE h3 (fun r h=>.callD 5 (wH (c76 fu _ _ _ _ _)) z n76 (hE.ops z) z h)<|h _ _ (.same<|.same<|.same<|.hole z<|.same<|.nil)<|.node (.on ?_<|.off (by kernel_rfl)<|.off (by kernel_rfl)<|.off (by kernel_rfl)<|.off (by kernel_rfl)<|.off (by kernel_rfl)<|.nil)
              ·refine .put 67 z z fun _ _ hE h=>.m (hE.op z) z<|h _ _ (.same<|.same<|.same<|.hole z<|.same<|.nil)<|.node (.on ?_<|.on ?_<|.off (by kernel_rfl)<|.off (by kernel_rfl)<|.off (by kernel_rfl)<|.nil)
               ·refine .put 84 z z fun _ _ hE h=>.extract (hE.op z) z z<|h _ _ (.same<|.same<|.same<|.hole z<|.same<|.nil)<|.node (.on ?_<|.on ?_<|.off (by kernel_rfl)<|.off (by kernel_rfl)<|.nil)
                ·refine .put 85 z z fun _ _ hE h=>.extract (hE.op z) z z<|h _ _ (.same<|.same<|.same<|.hole z<|.same<|.nil)<|.node (.on ?_<|.off (by kernel_rfl)<|.off (by kernel_rfl)<|.nil)
                 ·refine .put 86 z z fun _ _ hE h=>.useC h1<|.elemA 3 (hE.op z) (hE.op z) z u26 ba z<|h _ _ (.same<|.same<|.same<|.hole z<|.same<|.nil)<|.node (.on ?_<|.off (by kernel_rfl)<|.nil)
                  ·refine .put 87 z z fun _ _ hE h=>.fieldA (hE.op z) aC z<|h _ _ (.same<|.same<|.same<|.hole z<|.same<|.nil)<|.node (.on ?_<|.nil)
                   ·exact .act z fun _ _ hE h=>.storeA 3 fTab_1 (hE.op z) z (hE.op z) ty27<|h _ (.same<|.same<|.same<|.hole z<|.same<|.nil)<|.leaf<|fj (hj12 _)
                ·refine .put 86 z z fun _ _ hE h=>.useC h1<|.elemA 3 (hE.op z) (hE.op z) z u26 ba z<|h _ _ (.same<|.same<|.same<|.hole z<|.same<|.nil)<|.node (.on ?_<|.on ?_<|.off (by kernel_rfl)<|.nil)
                 ·refine .put 85 z z fun _ _ hE h=>.extract (hE.op z) z z<|h _ _ (.same<|.same<|.same<|.hole z<|.same<|.nil)<|.node (.on ?_<|.off (by kernel_rfl)<|.nil)
                  ·refine .put 87 z z fun _ _ hE h=>.fieldA (hE.op z) aC z<|h _ _ (.same<|.same<|.same<|.hole z<|.same<|.nil)<|.node (.on ?_<|.nil)
                   ·exact .act z fun _ _ hE h=>.storeA 3 fTab_1 (hE.op z) z (hE.op z) ty27<|h _ (.same<|.same<|.same<|.hole z<|.same<|.nil)<|.leaf<|fj (hj12 _)
                 ·refine .put 87 z z fun _ _ hE h=>.fieldA (hE.op z) aC z<|h _ _ (.same<|.same<|.same<|.hole z<|.same<|.nil)<|.node (.on ?_<|.on ?_<|.nil)
                  ·refine .put 85 z z fun _ _ hE h=>.extract (hE.op z) z z<|h _ _ (.same<|.same<|.same<|.hole z<|.same<|.nil)<|.node (.on ?_<|.nil)
                   ·exact .act z fun _ _ hE h=>.storeA 3 fTab_1 (hE.op z) z (hE.op z) ty27<|h _ (.same<|.same<|.same<|.hole z<|.same<|.nil)<|.leaf<|fj (hj12 _)
                  ·refine .act z fun _ _ hE h=>.storeA 3 fTab_1 (hE.op z) z (hE.op z) ty27<|h _ (.same<|.same<|.same<|.hole z<|.same<|.nil)<|.node (.on ?_<|.nil)
                   ·exact .put 85 z z fun _ _ hE h=>.extract (hE.op z) z z<|h _ _ (.same<|.same<|.same<|.hole z<|.same<|.nil)<|.leaf<|fj (hj12 _)
               ·refine .put 85 z z fun _ _ hE h=>.extract (hE.op z) z z<|h _ _ (.same<|.same<|.same<|.hole z<|.same<|.nil)<|.node (.on ?_<|.off (by kernel_rfl)<|.off (by kernel_rfl)<|.off (by kernel_rfl)<|.nil)
                ·refine .put 84 z z fun _ _ hE h=>.extract (hE.op z) z z<|h _ _ (.same<|.same<|.same<|.hole z<|.same<|.nil)<|.node (.on ?_<|.off (by kernel_rfl)<|.off (by kernel_rfl)<|.nil)
                 ·refine .put 86 z z fun _ _ hE h=>.useC h1<|.elemA 3 (hE.op z) (hE.op z) z u26 ba z<|h _ _ (.same<|.same<|.same<|.hole z<|.same<|.nil)<|.node (.on ?_<|.off (by kernel_rfl)<|.nil)
                  ·refine .put 87 z z fun _ _ hE h=>.fieldA (hE.op z) aC z<|h _ _ (.same<|.same<|.same<|.hole z<|.same<|.nil)<|.node (.on ?_<|.nil)
                   ·exact .act z fun _ _ hE h=>.storeA 3 fTab_1 (hE.op z) z (hE.op z) ty27<|h _ (.same<|.same<|.same<|.hole z<|.same<|.nil)<|.leaf<|fj (hj12 _)
        ·exact fj (hj12 _)
      ·refine .g<|go ?_
       refine .call0 (c1182 fu _ _ _) n1182 z z fun q14=>go ?_
       refine .split 60 z (fun _=>?_) (fun _=>?_)
       ·refine go ?_
        exact .callR 3 (c1184o fu _ _ _ _ _ _) z n1184 z z fun q15=>fj (hj11 _)
       ·exact fj (hj11 _)
     ·exact fj (ih1 _ _ _)
    ·refine .g<|go ?_
     refine .split 36 z (fun _=>?_) (fun _=>?_)
     ·exact fj (hj10 _)
     ·exact fj (hj10 _)
  ·exact .exit z<|.s<|.lp 1 (Fld.self _) z z al z<|.storeP 0 (Fld.self _) z z z al<|.nil<|.retL1 (vp0,cp0) func206 results206 (.cell 0 z z al) z (fun _ _ _ h=>nW h) (.c<|.c<|.d<|.d<|.e)
def eX (fu:Nat)(q4:(List Ref))(q8:ac):Nat→Int→(List Tab)→Option (ac×Int)
 | 0,_,_=>none
 | n1+1,i11,i12=>cond (decide (i11 < (q4.length:Int))) (cond (decide (0≤i11)&&decide (i11 < (q4.length:Int))) ((f1062o fu (⟨i12,q8.links⟩:ac) ((q4.getD i11.toNat default).name)).bind fun q13=>cond (decide (0≤q13)&&decide (q13 < (i12.length:Int))) (cond (decide (0≤i11)&&decide (i11 < (q4.length:Int))) ((f41a fu ((i12.getD q13.toNat default).table) ((q4.getD i11.toNat default).id)).bind fun q14=>cond (decide (0≤q13)&&decide (q13 < (i12.length:Int))) ((eX fu q4 q8 n1) (IntKind.i64.wrap (i11+1)) (i12.set q13.toNat ({ (i12.getD q13.toNat default) with table:=q14.1 }:Tab))) none) none) none) none) (some ((⟨i12,q8.links⟩:ac),0))
def sT (fu:Nat)(a0:ac)(a1:List UInt8)(a2:Int):Option (ac×Int):=(uZ fu a0 a1 a2).bind fun q3=>cond (!q3) (some (a0,5)) ((uY fu a0 a1 a2).bind fun q4=>(uX fu a0 q4).bind fun q5=>cond q5 (some (a0,6)) ((d7 fu a0).bind fun q6=>(xv fu q6 q4).bind fun q8=>eX fu q4 q8 fu 0 q8.tabs))
theorem n1091:Nm prog 174:=⟨_,_,func174,by kernel_rfl,z⟩
theorem c1091 (fu:Nat)(a0:ac)(a1:List UInt8)(a2:Int):Ctr prog 174 [tBase.va a0,isS a1,isI .i64 a2] [] (sT fu a0 a1 a2) (fun _ _=>[]) (fun q=>tup [tBase.va q.1,isI .i64 q.2]):=by
 refine .w func174 ntmps174 fun hf A w=>?_
 unfold sT
 refine .s<|.box (T:=tBase) z z fun b1=>.alloc tBaseA au [] aA z fun b2=>.an z z<|.seq<|.s<|go ?_
 refine .call0 (c1146 fu _ _ _) n1146 z z fun q3=>.not z z<|.nil<|.cd z ?_ ?_
 ·refine .s<|go ?_
  exact .storeW 0 z z z z al<|fr
 ·refine .skip<|.s<|go ?_
  refine .call0 (c1147 fu _ _ _) n1147 z z fun q4=>.an z z<|.seq<|.s<|go ?_
  refine .call0 (c1148 fu _ _) n1148 z z fun q5=>.nil<|.cd z ?_ ?_
  ·refine .s<|go ?_
   exact .storeW 0 z z z z al<|fr
  ·refine .skip<|.s<|go ?_
   refine .callL0 (c1059 fu _) n1059 z z fun q6 p7=>.m z z<|.callL2 0 0 (c1149 fu _ _ _ _) z z n1149 z z fun q8 p9=>.alloc tBaseA au [] aA z fun b10=>go ?_
   refine .seq<|.s<|.an z z<|.block<|.loop<|.drop (.d<|.d<|.d<|.d<|.c<|.e)<|.keep [6,8,9,10] [] z<|(show ∀ (n1:Nat) (i11:Int) (i12:List Tab),W _ _ _ _ _ ⟨[(6,isP b2 0,none),(8,(tL tRef).va q4,none),(9,isP b10 0,none),(10,isI .i64 i11,none)],[boxO b10 tBaseA (⟨p9.1,p9.2⟩:aL) [],arrO tTab p9.1 i12,arrO tLink p9.2 q8.links,boxO b2 tBaseA (⟨(.slice none 0 0),(.slice none 0 0)⟩:aL) []]⟩ (eX fu q4 q8 n1 i11 i12) from ?_) fu _ _
   intro n1
   induction n1 with
   | zero=>exact fun _ _=>.stop
   | succ n1 ih1=>
    intro i11 i12
    refine .inLoop<|.seq<|.s<|go ?_
    refine .cd z ?_ ?_
    ·exact .skip<|.seq<|.block<|.seq<|.pT fun h5=>.draw 6 [] mix (by kernel_rfl) sts z<|.callR 1 (c1062o fu _ _ _ _) z n1062 z z fun q13=>.an z z<|.pT fun h6=>.pT fun h7=>.pb (c41a fu _ _) n41 fun q14 h8 k=>.draw 18 [17] mix (by kernel_rfl) sts z<|fj (ih1 _ _)
    ·refine .exit z<|.s<|go ?_
     exact .frzBox 3 1 conv1026_0 z z<|.frzBox 3 2 conv1026_1 z z<|fr
end Go.Proofs.YtganfdhmkdehlaaGreatDoor
