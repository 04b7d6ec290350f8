/- Functions of the program: what each answers, and that the machine answers so. -/
import Derived.Test.YtdpigighgmipfaaGreatDoorQ1013B6
import Derived.Test.YtdpigighgmipfaaGreatDoorQ1013AU
import Derived.KernelRfl
set_option linter.all false
namespace Go.Proofs.YtdpigighgmipfaaGreatDoor
open Go Go.HL Tryz
attribute [local irreducible] W WO
def f1035_l1 (a0:Base)(a1:List UInt8):Nat→Int→Option Int
 | 0,_=>none
 | n1+1,i2=>cond (decide (i2 < (a0.tabs.length:Int))) (cond (decide (0≤i2)&&decide (i2 < (a0.tabs.length:Int))) (cond (decide (((a0.tabs.getD i2.toNat default).name)=a1)) (some i2) ((f1035_l1 a0 a1 n1) (IntKind.i64.wrap (i2+1)))) none) (some (-1))
def f1035 (fu:Nat)(a0:Base)(a1:List UInt8):Option Int:=f1035_l1 a0 a1 fu 0
theorem n1035:Nm prog 35:=⟨_,_,func35,by kernel_rfl,z⟩
theorem c1035 (fu:Nat)(a0:Base)(a1:List UInt8):Ctr prog 35 [tBase.va a0,isS a1] [] (f1035 fu a0 a1) (fun _ _=>[]) (fun q=>isI .i64 q):=by
 refine .w func35 ntmps35 fun hf A w=>?_
 unfold f1035
 refine .s<|.box (T:=tBase) z z fun b1=>.an z z<|.seq<|.s<|.an z z<|.block<|.loop<|.keep [1,2,5] [] z<|(show ∀ (n1:Nat) (i2:Int),W _ _ _ _ _ ⟨[(1,isS a1,none),(2,isP b1 0,none),(5,isI .i64 i2,none)],[boxO b1 tBase a0 []]⟩ (f1035_l1 a0 a1 n1 i2) from ?_) fu _
 intro n1
 induction n1 with
 | zero=>exact fun _=>.stop
 | succ n1 ih1=>
  intro i2
  refine .inLoop<|.seq<|.s<|go ?_
  refine .cd z ?_ ?_
  ·refine .skip<|.seq<|.block<|.s<|go ?_
   refine .cd z ?_ ?_
   ·exact fr
   ·exact fj (ih1 _)
  ·exact fr
def f1026_j8 (i10:Int)(rec1:Int→Option Bool)(rec2:Int→Option Bool)(i14:Bool):Option Bool:=cond i14 (some false) (rec2 (IntKind.i64.wrap (i10+1)))
def f1026_j7 (fu:Nat)(a0:Base)(i2:Int)(q4:Int)(q6:Int)(q9:Int)(i10:Int)(rec1:Int→Option Bool)(rec2:Int→Option Bool)(i11:Bool):Option Bool:=cond i11 (cond (decide (0≤i10)&&decide (i10 < (List.length (((a0.tabs.getD q4.toNat default).table).rows):Int))) ((f16 fu ((a0.tabs.getD q4.toNat default).table) (((((a0.tabs.getD q4.toNat default).table).rows).getD i10.toNat default).id)).bind fun q12=>cond (decide (0≤q9)&&decide (q9 < (q12.1.length:Int))) ((f16 fu ((a0.tabs.getD q6.toNat default).table) ((q12.1.getD q9.toNat default).n)).bind fun q13=>cond (decide (0≤q9)&&decide (q9 < (q12.1.length:Int))) (cond (!decide (((q12.1.getD q9.toNat default).kind)=0)) (f1026_j8 i10 rec1 rec2 (!q13.2)) (f1026_j8 i10 rec1 rec2 false)) none) none) none) (cond (decide (q9<0)) (some false) (rec1 (IntKind.i64.wrap (i2+1))))
def f1026_l2 (fu:Nat)(a0:Base)(i2:Int)(q4:Int)(q6:Int)(q9:Int)(rec1:Int→Option Bool):Nat→Int→Option Bool
 | 0,_=>none
 | n2+1,i10=>cond (decide (i10 < (List.length (((a0.tabs.getD q4.toNat default).table).rows):Int))) (f1026_j7 fu a0 i2 q4 q6 q9 i10 rec1 (f1026_l2 fu a0 i2 q4 q6 q9 rec1 n2) (decide (0≤q9))) (f1026_j7 fu a0 i2 q4 q6 q9 i10 rec1 (f1026_l2 fu a0 i2 q4 q6 q9 rec1 n2) false)
def f1026_l1 (fu:Nat)(a0:Base):Nat→Int→Option Bool
 | 0,_=>none
 | n1+1,i2=>cond (decide (i2 < (a0.links.length:Int))) (cond (decide (0≤i2)&&decide (i2 < (a0.links.length:Int))) ((f1035 fu a0 ((a0.links.getD i2.toNat default).from_)).bind fun q4=>cond (decide (0≤q4)&&decide (q4 < (a0.tabs.length:Int))) ((f1035 fu a0 ((a0.links.getD i2.toNat default).to)).bind fun q6=>cond (decide (0≤q6)&&decide (q6 < (a0.tabs.length:Int))) ((f23 fu ((a0.tabs.getD q4.toNat default).table)).bind fun q8=>(f24 fu q8 ((a0.links.getD i2.toNat default).col)).bind fun q9=>f1026_l2 fu a0 i2 q4 q6 q9 (f1026_l1 fu a0 n1) fu 0) none) none) none) (some true)
def f1026 (fu:Nat)(a0:Base):Option Bool:=f1026_l1 fu a0 fu 0
theorem n1026:Nm prog 26:=⟨_,_,func26,by kernel_rfl,z⟩
theorem c1026 (fu:Nat)(a0:Base):Ctr prog 26 [tBase.va a0] [] (f1026 fu a0) (fun _ _=>[]) (fun q=>isB q):=by
 refine .w func26 ntmps26 fun hf A w=>?_
 unfold f1026
 refine .s<|.box (T:=tBase) z z fun b1=>.an z z<|.seq<|.s<|.an z z<|.block<|.loop<|.keep [1,3] [] z<|(show ∀ (n1:Nat) (i2:Int),W _ _ _ _ _ ⟨[(1,isP b1 0,none),(3,isI .i64 i2,none)],[boxO b1 tBase a0 []]⟩ (f1026_l1 fu a0 n1 i2) from ?_) fu _
 intro n1
 induction n1 with
 | zero=>exact fun _=>.stop
 | succ n1 ih1=>
  intro i2
  refine .inLoop<|.seq<|.s<|go ?_
  refine .cd z ?_ ?_
  ·refine .skip<|.seq<|.block<|.s<|go ?_
   refine .alloc tLink d0_1044 [] z1044 z fun b3=>go ?_
   refine .seq<|.pb (c1035 fu _ _) n1035 fun q4 h10 k=>.pT fun h11=>.drawS 10 [] [9] [] mix (by kernel_rfl) sts z<|.cons (d:=5) z z fun _ _ hE h=>.alloc tTable d0_27 [] z27 z fun b5=>.toEnd<|h _ _ (.same<|.same<|.nil)<|go ?_
   refine .seq<|.pb (c1035 fu _ _) n1035 fun q6 h12 k=>.pT fun h13=>.drawS 10 [] [9] [] mix (by kernel_rfl) sts z<|.cons (d:=6) z z fun _ _ hE h=>.alloc tTable d0_27 [] z27 z fun b7=>.toEnd<|h _ _ (.same<|.same<|.same<|.nil)<|go ?_
   refine .seq<|.pb (c23 fu _) n23 fun q8 h14 k=>.draw 4 [] mix (by kernel_rfl) sts z<|.call0 (c24 fu _ _) n24 z z fun q9=>.an z z<|.seq<|.s<|.an z z<|.block<|.loop<|.drop (.c<|.d<|.d<|.d<|.e)<|.keep [1,3,5,6,7,8] [] z<|(show ∀ (n2:Nat) (i10:Int),W _ _ _ _ _ ⟨[(1,isP b1 0,none),(3,isI .i64 i2,none),(5,isP b5 0,none),(6,isP b7 0,none),(7,isI .i64 q9,none),(8,isI .i64 i10,none)],[boxO b1 tBase a0 [],boxO b5 tTable ((a0.tabs.getD q4.toNat default).table) [],boxO b7 tTable ((a0.tabs.getD q6.toNat default).table) []]⟩ (f1026_l2 fu a0 i2 q4 q6 q9 (f1026_l1 fu a0 n1) n2 i10) from ?_) fu _
   intro n2
   induction n2 with
   | zero=>exact fun _=>.stop
   | succ n2 ih2=>
    intro i10
    refine .inLoop<|.seq<|.seq<|.join1 (fun i11=>⟨[(1,isP b1 0,none),(3,isI .i64 i2,none),(5,isP b5 0,none),(6,isP b7 0,none),(7,isI .i64 q9,none),(8,isI .i64 i10,none),(56,isB i11,none)],[boxO b1 tBase a0 [],boxO b5 tTable ((a0.tabs.getD q4.toNat default).table) [],boxO b7 tTable ((a0.tabs.getD q6.toNat default).table) []]⟩) (fun i11=>f1026_j7 fu a0 i2 q4 q6 q9 i10 (f1026_l1 fu a0 n1) (f1026_l2 fu a0 i2 q4 q6 q9 (f1026_l1 fu a0 n1) n2) i11) (fun i11=>?_) (fun hj7=>?_)
    ·refine .cd z ?_ ?_
     ·refine .skip<|.seq<|.block<|.seq<|.pT fun h17=>.draw 7 [] mix (by kernel_rfl) sts z<|.call0 (c16 fu _ _) n16 z z fun q12=>go ?_
      refine .seq<|.pT fun h18=>.draw 6 [] mix (by kernel_rfl) sts z<|.call0 (c16 fu _ _) n16 z z fun q13=>go ?_
      refine .seq<|.join1 (fun i14=>⟨[(1,isP b1 0,none),(3,isI .i64 i2,none),(5,isP b5 0,none),(6,isP b7 0,none),(7,isI .i64 q9,none),(8,isI .i64 i10,none),(89,isB i14,none)],[boxO b1 tBase a0 [],boxO b5 tTable ((a0.tabs.getD q4.toNat default).table) [],boxO b7 tTable ((a0.tabs.getD q6.toNat default).table) []]⟩) (fun i14=>f1026_j8 i10 (f1026_l1 fu a0 n1) (f1026_l2 fu a0 i2 q4 q6 q9 (f1026_l1 fu a0 n1) n2) i14) (fun i14=>?_) (fun hj8=>?_)
      ·refine .cd z ?_ ?_
       ·exact fr
       ·exact fj (ih2 _)
      ·refine .g<|go ?_
       refine .split 86 z (fun _=>?_) (fun _=>?_)
       ·exact fj (hj8 _)
       ·exact fj (hj8 _)
     ·refine .exit z<|.s<|go ?_
      refine .cd z ?_ ?_
      ·exact fr
      ·exact fj (ih1 _)
    ·refine .g<|go ?_
     refine .split 53 z (fun _=>?_) (fun _=>?_)
     ·exact fj (hj7 _)
     ·exact fj (hj7 _)
  ·exact fr
end Go.Proofs.YtdpigighgmipfaaGreatDoor
