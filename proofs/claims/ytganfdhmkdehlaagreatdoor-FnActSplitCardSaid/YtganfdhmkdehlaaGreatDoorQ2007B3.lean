/- What functions answer. -/
import Derived.Test.YtganfdhmkdehlaaGreatDoorQ2007B2
import Derived.KernelRfl
set_option linter.all false
namespace Go.Proofs.YtganfdhmkdehlaaGreatDoor
open Go Go.HL Tryz
attribute [local irreducible] W WO
def e8 (i8:Int)(rec1:Int→(List Set)→Rd→Option ((List Set)×Rd))(rec2:Int→(List Set)→Rd→Option ((List Set)×Rd))(i15:List Set)(i16:Rd):Option ((List Set)×Rd):=rec2 (IntKind.i64.wrap (i8+1)) i15 i16
def e9 (fu:Nat)(a1:ac)(i5:Int)(i8:Int)(i9:List Set)(q12:Int)(rec1:Int→(List Set)→Rd→Option ((List Set)×Rd))(rec2:Int→(List Set)→Rd→Option ((List Set)×Rd))(i13:Bool)(i14:Rd):Option ((List Set)×Rd):=cond i13 (cond (decide (0≤q12)&&decide (q12 < (a1.tabs.length:Int))) (cond (decide (0 < (List.length (((a1.tabs.getD q12.toNat default).table).rows):Int))) ((f74 fu i14 (List.length (((a1.tabs.getD q12.toNat default).table).rows):Int)).bind fun q17=>cond (decide (0≤q17.1)&&decide (q17.1 < (List.length (((a1.tabs.getD q12.toNat default).table).rows):Int))) (cond (decide (0≤i5)&&decide (i5 < (i9.length:Int))) (e8 i8 rec1 rec2 (i9.set i5.toNat ({ (i9.getD i5.toNat default) with val:=({ (i9.getD i5.toNat default).val with n:=((((a1.tabs.getD q12.toNat default).table).rows).getD q17.1.toNat default).id }:Val) }:Set)) q17.2) none) none) ((f74 fu i14 2).bind fun q18=>cond (decide (q18.1=0)) (cond (decide (0≤i5)&&decide (i5 < (i9.length:Int))) (e8 i8 rec1 rec2 (i9.set i5.toNat ({ (i9.getD i5.toNat default) with val:=(⟨d0_47.kind,d0_47.n,d0_47.text⟩:Val) }:Set)) q18.2) none) (e8 i8 rec1 rec2 i9 q18.2))) none) (e8 i8 rec1 rec2 i9 i14)
def bG (fu:Nat)(a1:ac)(a2:Int)(i5:Int)(rec1:Int→(List Set)→Rd→Option ((List Set)×Rd)):Nat→Int→(List Set)→Rd→Option ((List Set)×Rd)
 | 0,_,_,_=>none
 | n2+1,i8,i9,i10=>cond (decide (i8 < (a1.links.length:Int))) (cond (decide (0≤i8)&&decide (i8 < (a1.links.length:Int))) ((f1062 fu a1 ((a1.links.getD i8.toNat default).to)).bind fun q12=>cond (decide (0≤a2)&&decide (a2 < (a1.tabs.length:Int))) (cond (decide (((a1.links.getD i8.toNat default).from_)=((a1.tabs.getD a2.toNat default).name))) (cond (decide (0≤i5)&&decide (i5 < (i9.length:Int))) (cond (decide (((a1.links.getD i8.toNat default).col)=((i9.getD i5.toNat default).name))) (cond (decide (0≤i5)&&decide (i5 < (i9.length:Int))) (cond (decide ((((i9.getD i5.toNat default).val).kind)=1)) ((f74 fu i10 8).bind fun q19=>e9 fu a1 i5 i8 i9 q12 rec1 (bG fu a1 a2 i5 rec1 n2) (decide (0<q19.1)) q19.2) (e9 fu a1 i5 i8 i9 q12 rec1 (bG fu a1 a2 i5 rec1 n2) false i10)) none) (e9 fu a1 i5 i8 i9 q12 rec1 (bG fu a1 a2 i5 rec1 n2) false i10)) none) (e9 fu a1 i5 i8 i9 q12 rec1 (bG fu a1 a2 i5 rec1 n2) false i10)) none) none) (rec1 (IntKind.i64.wrap (i5+1)) i9 i10)
def co (fu:Nat)(a1:ac)(a2:Int):Nat→Int→(List Set)→Rd→Option ((List Set)×Rd)
 | 0,_,_,_=>none
 | n1+1,i5,i6,i7=>cond (decide (i5 < (i6.length:Int))) (bG fu a1 a2 i5 (co fu a1 a2 n1) fu 0 i6 i7) (some (i6,i7))
def po (fu:Nat)(a0:Rd)(a1:ac)(a2:Int):Option ((List Set)×Rd):=cond (decide (0≤a2)&&decide (a2 < (a1.tabs.length:Int))) ((f53 fu ((a1.tabs.getD a2.toNat default).table)).bind fun q2=>(f62a fu a0 q2).bind fun q3=>co fu a1 a2 fu 0 q3.1 q3.2) none
theorem xA:Nm prog 94:=nmK func94
theorem y2 (fu:Nat)(bp0:Nat)(a0:Rd)(a1:ac)(a2:Int):Ctr prog 94 [isP bp0 0,tBase.va a1,isI .i64 a2] [boxO bp0 tRd a0 []] (po fu a0 a1 a2) (fun q _=>[boxO bp0 tRd q.2 []]) (fun q=>(tL tSet).va q.1):=by
 refine .w func94 ntmps94 fun hf A w=>?_
 unfold po
 refine .s<|.box (T:=tBase) z z fun b1=>.assignNil tSet z<|.nil<|.s<|go ?_
 refine .call0 (c53 fu _) n53 z z fun q2=>.callL1 1 (H4 fu _ _ _) z n62 z z fun q3 v4=>.unRaw 21 z<|.an z z<|.seq<|.s<|.an z z<|.block<|.loop<|.keep [0,2,4,8] [7] z<|(show ∀ (n1:Nat) (i5:Int) (i6:List Set) (i7:Rd),W _ _ _ _ _ ⟨[(0,isP bp0 0,none),(2,isI .i64 a2,none),(4,isP b1 0,none),(8,isI .i64 i5,none),(7,isV v4,some v4)],[arrO tSet v4 i6,boxO bp0 tRd i7 [],boxO b1 tBase a1 []]⟩ (co fu a1 a2 n1 i5 i6 i7) from ?_) fu _ _ _
 intro n1
 induction n1 with
 | zero=>exact fun _ _ _=>.stop
 | succ n1 ih1=>
  intro i5 i6 i7
  refine .inLoop<|.seq<|.s<|go ?_
  refine .cd z ?_ ?_
  ·refine .skip<|.seq<|.block<|.s<|.an z z<|.block<|.loop<|.keep [0,2,4,8,9] [7] z<|(show ∀ (n2:Nat) (i8:Int) (i9:List Set) (i10:Rd),W _ _ _ _ _ ⟨[(0,isP bp0 0,none),(2,isI .i64 a2,none),(4,isP b1 0,none),(8,isI .i64 i5,none),(9,isI .i64 i8,none),(7,isV v4,some v4)],[arrO tSet v4 i9,boxO bp0 tRd i10 [],boxO b1 tBase a1 []]⟩ (bG fu a1 a2 i5 (co fu a1 a2 n1) n2 i8 i9 i10) from ?_) fu _ _ _
   intro n2
   induction n2 with
   | zero=>exact fun _ _ _=>.stop
   | succ n2 ih2=>
    intro i8 i9 i10
    refine .inLoop<|.seq<|.s<|go ?_
    refine .cd z ?_ ?_
    ·refine .skip<|.seq<|.block<|.s<|go ?_
     refine .alloc tLink d0_1044 [] z1044 z fun b11=>go ?_
     refine .s<|go ?_
     refine .call0 (gu fu _ _) eM z z fun q12=>.an z z<|.seq<|.join2 (fun i13 i14=>⟨[(0,isP bp0 0,none),(2,isI .i64 a2,none),(4,isP b1 0,none),(8,isI .i64 i5,none),(9,isI .i64 i8,none),(11,isI .i64 q12,none),(76,isB i13,none),(7,isV v4,some v4)],[arrO tSet v4 i9,boxO bp0 tRd i14 [],boxO b1 tBase a1 []]⟩) (fun i13 i14=>e9 fu a1 i5 i8 i9 q12 (co fu a1 a2 n1) (bG fu a1 a2 i5 (co fu a1 a2 n1) n2) i13 i14) (fun i13 i14=>?_) (fun hj7=>?_)
     ·refine .join2 (fun i15 i16=>⟨[(0,isP bp0 0,none),(2,isI .i64 a2,none),(4,isP b1 0,none),(8,isI .i64 i5,none),(9,isI .i64 i8,none),(7,isV v4,some v4)],[arrO tSet v4 i15,boxO bp0 tRd i16 [],boxO b1 tBase a1 []]⟩) (fun i15 i16=>e8 i8 (co fu a1 a2 n1) (bG fu a1 a2 i5 (co fu a1 a2 n1) n2) i15 i16) (fun i15 i16=>?_) (fun hj8=>?_)
      ·exact fj (ih2 _ _ _)
      ·refine .cd z ?_ ?_
       ·refine .s<|go ?_
        refine .s<|go ?_
        refine .cd z ?_ ?_
        ·refine .g<|go ?_
         exact .call1 1 (c74 fu _ _ _) z n74 z z fun q17=>fj (hj8 _ _)
        ·refine .s<|.m z z<|.call1 1 (c74 fu _ _ _) z n74 z z fun q18=>go ?_
         refine .cd z ?_ ?_
         ·exact fj (hj8 _ _)
         ·exact fj (hj8 _ _)
       ·exact fj (hj8 _ _)
     ·refine .pT fun h13=>.pcond (fun h14=>?_) (fun h14=>?_)
      ·refine .pT fun h15=>.pcond (fun h16=>?_) (fun h16=>?_)
       ·refine .draw 22 [] mix (by kernel_rfl) sts z<|go ?_
        refine .split 72 z (fun _=>?_) (fun _=>?_)
        ·refine go ?_
         exact .call1 2 (c74 fu _ _ _) z n74 z z fun q19=>fj (hj7 _ _)
        ·exact fj (hj7 _ _)
       ·exact .draw 22 [] mix (by kernel_rfl) sts z<|fj (hj7 _ _)
      ·exact .draw 22 [] mix (by kernel_rfl) sts z<|fj (hj7 _ _)
    ·exact fj (ih1 _ _ _)
  ·refine .exit z<|.s<|go ?_
   exact .frz 0 6 z z<|fr
def eY (fu:Nat)(a0:ac):Nat→Int→Option Bool
 | 0,_=>none
 | n1+1,i2=>cond (decide (i2 < (a0.links.length:Int))) (cond (decide (0≤i2)&&decide (i2 < (a0.links.length:Int))) ((qU fu a0 (a0.links.getD i2.toNat default)).bind fun q3=>cond (!q3) (some false) ((eY fu a0 n1) (IntKind.i64.wrap (i2+1)))) none) (some true)
def tl (fu:Nat)(a0:ac):Option Bool:=eY fu a0 fu 0
theorem Et:Nm prog 219:=nmK func219
theorem FP (fu:Nat)(a0:ac):Ctr prog 219 [tBase.va a0] [] (tl fu a0) (fun _ _=>[]) (fun q=>isB q):=by
 refine .w func219 ntmps219 fun hf A w=>?_
 unfold tl
 refine .s<|.box (T:=tBase) z z fun b1=>.an z z<|.seq<|.s<|.an z z<|.block<|.loop<|.keep [1,3] [] z<|(show ∀ (n1:Nat) (i2:Int),W _ _ _ _ _ ⟨[(1,isP b1 0,none),(3,isI .i64 i2,none)],[boxO b1 tBase a0 []]⟩ (eY fu a0 n1 i2) from ?_) fu _
 intro n1
 induction n1 with
 | zero=>exact fun _=>.stop
 | succ n1 ih1=>
  intro i2
  refine .inLoop<|.seq<|.s<|go ?_
  refine .cd z ?_ ?_
  ·refine .skip<|.seq<|.block<|.seq<|.pT fun h2=>.draw 6 [] mix (by kernel_rfl) sts z<|.call0 (Bd fu _ _) Aj z z fun q3=>.not z z<|.nil<|.cd z ?_ ?_
   ·exact fr
   ·exact fj (ih1 _)
  ·exact fr
def tp (fu:Nat)(a0:ac)(a1:Int)(a2:ab)(a3:Int):Option (ac×Int):=cond (!decide (a3=0)) (some (a0,a3)) ((cY fu a0).bind fun q4=>cond (decide (0≤a1)&&decide (a1 < (q4.tabs.length:Int))) ((tl fu (⟨q4.tabs.set a1.toNat ({ (q4.tabs.getD a1.toNat default) with table:=a2 }:Tab),q4.links⟩:ac)).bind fun q7=>cond (!q7) (some (a0,7)) (some ((⟨q4.tabs.set a1.toNat ({ (q4.tabs.getD a1.toNat default) with table:=a2 }:Tab),q4.links⟩:ac),a3))) none)
theorem Cb:Nm prog 201:=nmK func201
theorem Dl (fu:Nat)(a0:ac)(a1:Int)(a2:ab)(a3:Int):Ctr prog 201 [tBase.va a0,isI .i64 a1,tTable.va a2,isI .i64 a3] [] (tp fu a0 a1 a2 a3) (fun _ _=>[]) (fun q=>tup [tBase.va q.1,isI .i64 q.2]):=by
 refine .w func201 ntmps201 fun hf A w=>?_
 unfold tp
 refine .s<|.box (T:=tBase) z z fun b1=>.box (T:=tTable) z z fun b2=>.alloc tBaseA av [] aA z fun b3=>.an z z<|.seq<|.s<|go ?_
 refine .cd z ?_ ?_
 ·refine .s<|go ?_
  exact .storeW 0 z z z z ao<|fr
 ·refine .skip<|.s<|go ?_
  refine .callL0 (dJ fu _) dH z z fun q4 p5=>.alloc tBaseA av [] aA z fun b6=>go ?_
  refine .s<|go ?_
  refine .seq<|.seq<|.frzBox 0 1 conv1026_0 z z<|.frzBox 0 2 conv1026_1 z z<|.g<|go ?_
  refine .call0 (FP fu _) Et z z fun q7=>.not z z<|.nil<|.cd z ?_ ?_
  ·refine .s<|go ?_
   exact .storeW 3 z z z z ao<|fr
  ·refine .skip<|.s<|go ?_
   exact .storeW 3 z z z z ao<|fr
def qK (fu:Nat)(a0:ac)(a1:List UInt8)(a2:Int)(a3:List Set):Option (ac×Int):=(f1062 fu a0 a1).bind fun q3=>cond (decide (q3<0)) (some (a0,5)) (cond (decide (0≤q3)&&decide (q3 < (a0.tabs.length:Int))) ((f42 fu ((a0.tabs.getD q3.toNat default).table)).bind fun q4=>(f76 fu q4 a2 a3).bind fun q6=>(tp fu a0 q3 q6.1 q6.2).bind fun q9=>some (q9.1,q9.2)) none)
theorem Ad:Nm prog 173:=nmK func173
theorem A7 (fu:Nat)(a0:ac)(a1:List UInt8)(a2:Int)(a3:List Set):Ctr prog 173 [tBase.va a0,isS a1,isI .i64 a2,(tL tSet).va a3] [] (qK fu a0 a1 a2 a3) (fun _ _=>[]) (fun q=>tup [tBase.va q.1,isI .i64 q.2]):=by
 refine .w func173 ntmps173 fun hf A w=>?_
 unfold qK
 refine .s<|.box (T:=tBase) z z fun b1=>.alloc tBaseA av [] aA z fun b2=>.an z z<|.s<|go ?_
 refine .call0 (gu fu _ _) eM z z fun q3=>.an z z<|.seq<|.s<|go ?_
 refine .cd z ?_ ?_
 ·refine .s<|go ?_
  exact .storeW 0 z z z z ao<|fr
 ·refine .skip<|.s<|go ?_
  refine .callL0 (c42 fu _) n42 z z fun q4 p5=>go ?_
  refine .callS 0 (c76 fu _ _ _ _ _) z n76 z z fun q6 p7=>go ?_
  refine .alloc tTableA aS [] bB z fun b8=>go ?_
  refine .seq<|.frzBox 0 1 conv27 z z<|.g<|go ?_
  refine .call0 (Dl fu _ _ _ _) Cb z z fun q9=>go ?_
  exact .storeW 3 z z z z ao<|fr
def kp (i2:Int)(rec1:Int→Option Bool)(i3:Bool):Option Bool:=cond i3 (some true) (rec1 (IntKind.i64.wrap (i2+1)))
def cK (a0:ac)(a1:List UInt8)(a2:List UInt8):Nat→Int→Option Bool
 | 0,_=>none
 | n1+1,i2=>cond (decide (i2 < (a0.links.length:Int))) (cond (decide (0≤i2)&&decide (i2 < (a0.links.length:Int))) (cond (decide (((a0.links.getD i2.toNat default).from_)=a1)) (cond (decide (0≤i2)&&decide (i2 < (a0.links.length:Int))) (kp i2 (cK a0 a1 a2 n1) (decide (((a0.links.getD i2.toNat default).col)=a2))) none) (kp i2 (cK a0 a1 a2 n1) false)) none) (some false)
def qA (fu:Nat)(a0:ac)(a1:List UInt8)(a2:List UInt8):Option Bool:=cK a0 a1 a2 fu 0
theorem Cc:Nm prog 208:=nmK func208
theorem Dm (fu:Nat)(a0:ac)(a1:List UInt8)(a2:List UInt8):Ctr prog 208 [tBase.va a0,isS a1,isS a2] [] (qA fu a0 a1 a2) (fun _ _=>[]) (fun q=>isB q):=by
 refine .w func208 ntmps208 fun hf A w=>?_
 unfold qA
 refine .s<|.box (T:=tBase) z z fun b1=>.an z z<|.seq<|.s<|.an z z<|.block<|.loop<|.keep [1,2,3,7] [] z<|(show ∀ (n1:Nat) (i2:Int),W _ _ _ _ _ ⟨[(1,isS a1,none),(2,isS a2,none),(3,isP b1 0,none),(7,isI .i64 i2,none)],[boxO b1 tBase a0 []]⟩ (cK a0 a1 a2 n1 i2) from ?_) fu _
 intro n1
 induction n1 with
 | zero=>exact fun _=>.stop
 | succ n1 ih1=>
  intro i2
  refine .inLoop<|.seq<|.s<|go ?_
  refine .cd z ?_ ?_
  ·refine .skip<|.seq<|.block<|.seq<|.join1 (fun i3=>⟨[(1,isS a1,none),(2,isS a2,none),(3,isP b1 0,none),(7,isI .i64 i2,none),(32,isB i3,none)],[boxO b1 tBase a0 []]⟩) (fun i3=>kp i2 (cK a0 a1 a2 n1) i3) (fun i3=>?_) (fun hj2=>?_)
   ·refine .cd z ?_ ?_
    ·exact fr
    ·exact fj (ih1 _)
   ·refine .g<|go ?_
    refine .split 23 z (fun _=>?_) (fun _=>?_)
    ·exact fj (hj2 _)
    ·exact fj (hj2 _)
  ·exact fr
end Go.Proofs.YtganfdhmkdehlaaGreatDoor
