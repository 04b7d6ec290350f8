/- What functions answer. -/
import Derived.Test.YtganfdhmkdehlaaGreatDoorQ2008B6
import Derived.KernelRfl
set_option linter.all false
namespace Go.Proofs.YtganfdhmkdehlaaGreatDoor
open Go Go.HL Tryz
attribute [local irreducible] W WO
def kP (fu:Nat)(a0:ac)(a1:ai)(q5:ac)(i8:Bool):Option (ac×Int):=cond i8 (some (q5,1)) ((qK fu a0 a1).bind fun q9=>cond (!q9) (some (q5,7)) (cond (decide ((a0.links.length:Int)=4)) (some (q5,4)) (cond (decide (q5.links.length+List.length ([a1]:List ai)≤CAP)) ((tf (q5.links++([a1]:List ai))).bind fun q11=>some ((⟨q5.tabs,q11⟩:ac),0)) none)))
def wd (fu:Nat)(a0:ac)(a1:ai):Option (ac×Int):=(jY fu a0).bind fun q4=>cond (!q4) (some ((⟨([]:List Tab),([]:List ai)⟩:ac),1)) ((eD fu a0).bind fun q5=>(tg fu a0 a1).bind fun q13=>cond (!q13) (kP fu a0 a1 q5 true) ((qJ fu a0 a1.from_ a1.col).bind fun q14=>kP fu a0 a1 q5 (decide (0≤q14))))
theorem EX:Nm prog 43:=nmK func43
theorem Gm (fu:Nat)(a0:ac)(a1:ai):Ctr prog 43 [tBase.va a0,tLink.va a1] [] (wd fu a0 a1) (fun _ _=>[]) (fun q=>tup [tBase.va q.1,isI .i64 q.2]):=by
 refine .w func43 ntmps43 fun hf A w=>?_
 unfold wd
 refine .s<|.box (T:=tBase) z z fun b1=>.box (T:=tLink) z z fun b2=>.alloc tBaseA av [] aA z fun b3=>.an z z<|.seq<|.s<|go ?_
 refine .call0 (px fu _) oQ z z fun q4=>.not z z<|.nil<|.cd z ?_ ?_
 ·exact .s<|.buildA z dK aA (.nil) z<|.storeP 0 (Fld.self _) z z z ap<|.arrNil tTab<|.arrNil tLink<|.an z z<|.frzBox 2 1 conv1026_0 z z<|.frzBox 2 0 conv1026_1 z z<|fr
 ·refine .skip<|.s<|go ?_
  refine .callL0 (gx fu _) gu z z fun q5 p6=>.alloc tBaseA av [] aA z fun b7=>go ?_
  refine .seq<|.block<|.seq<|.join1 (fun i8=>⟨[(2,isP b1 0,none),(3,isP b2 0,none),(4,isP b3 0,none),(6,isP b7 0,none),(13,isB i8,none)],[boxO b7 tBaseA (⟨p6.1,p6.2⟩:aM) [],arrO tTab p6.1 q5.tabs,arrO tLink p6.2 q5.links,boxO b3 tBaseA (⟨(.slice none 0 0),(.slice none 0 0)⟩:aM) [],boxO b2 tLink a1 [],boxO b1 tBase a0 []]⟩) (fun i8=>kP fu a0 a1 q5 i8) (fun i8=>?_) (fun hj1=>?_)
  ·refine .cd z ?_ ?_
   ·refine .s<|go ?_
    exact .frzBox 3 1 conv1026_0 z z<|.frzBox 3 2 conv1026_1 z z<|fr
   ·refine .s<|go ?_
    refine .call0 (AY fu _ _) z7 z z fun q9=>go ?_
    refine .cd z ?_ ?_
    ·refine .s<|go ?_
     exact .frzBox 3 1 conv1026_0 z z<|.frzBox 3 2 conv1026_1 z z<|fr
    ·refine .s<|go ?_
     refine .cd z ?_ ?_
     ·refine .s<|go ?_
      exact .frzBox 3 1 conv1026_0 z z<|.frzBox 3 2 conv1026_1 z z<|fr
     ·refine .skip<|.inBlock<|.s<|go ?_
      refine .appA (T:=tLink) 2 z z z u27 gI z fun v10=>.frz 2 44 z z<|.callL0 (yU _) xv z z fun q11 v12=>.unRaw 45 z<|.fp z ci z<|.toRaw (T:=tLink) 0 45 z z<|go ?_
      refine .s<|go ?_
      exact .frzBox 4 2 conv1026_0 z z<|.frzBox 4 0 conv1026_1 z z<|fr
  ·refine .g<|go ?_
   refine .call0 (Dc fu _ _) B5 z z fun q13=>go ?_
   refine .split 18 z (fun _=>?_) (fun _=>?_)
   ·exact fj (hj1 _)
   ·refine go ?_
    exact .call0 (AX fu _ _ _) z6 z z fun q14=>fj (hj1 _)
def fe (a0:ac)(a1:List UInt8):Nat→Int→Option Int
 | 0,_=>none
 | n1+1,i2=>cond (decide (i2 < (a0.tabs.length:Int))) (cond (decide (0≤i2)&&decide (i2 < (a0.tabs.length:Int))) (cond (decide (((a0.tabs.getD i2.toNat default).name)=a1)) (some i2) ((fe a0 a1 n1) (IntKind.i64.wrap (i2+1)))) none) (some (-1))
def tj (fu:Nat)(a0:ac)(a1:List UInt8):Option Int:=fe a0 a1 fu 0
theorem B8:Nm prog 66:=nmK func66
theorem Df (fu:Nat)(a0:ac)(a1:List UInt8):Ctr prog 66 [tBase.va a0,isS a1] [] (tj fu a0 a1) (fun _ _=>[]) (fun q=>isI .i64 q):=by
 refine .w func66 ntmps66 fun hf A w=>?_
 unfold tj
 refine .s<|.box (T:=tBase) z z fun b1=>.an z z<|.seq<|.s<|.an z z<|.block<|.loop<|.keep [1,2,5] [] z<|(show ∀ (n1:Nat) (i2:Int),W _ _ _ _ _ ⟨[(1,isS a1,none),(2,isP b1 0,none),(5,isI .i64 i2,none)],[boxO b1 tBase a0 []]⟩ (fe a0 a1 n1 i2) from ?_) fu _
 intro n1
 induction n1 with
 | zero=>exact fun _=>.stop
 | succ n1 ih1=>
  intro i2
  refine .inLoop<|.seq<|.s<|go ?_
  refine .cd z ?_ ?_
  ·refine .skip<|.seq<|.block<|.s<|go ?_
   refine .cd z ?_ ?_
   ·exact fr
   ·exact fj (ih1 _)
  ·exact fr
def f1026_j8 (i10:Int)(rec1:Int→Option Bool)(rec2:Int→Option Bool)(i14:Bool):Option Bool:=cond i14 (some false) (rec2 (IntKind.i64.wrap (i10+1)))
def iV (fu:Nat)(a0:ac)(i2:Int)(q4:Int)(q6:Int)(q9:Int)(i10:Int)(rec1:Int→Option Bool)(rec2:Int→Option Bool)(i11:Bool):Option Bool:=cond i11 (cond (decide (0≤i10)&&decide (i10 < (List.length (((a0.tabs.getD q4.toNat default).table).rows):Int))) ((f16 fu ((a0.tabs.getD q4.toNat default).table) (((((a0.tabs.getD q4.toNat default).table).rows).getD i10.toNat default).id)).bind fun q12=>cond (decide (0≤q9)&&decide (q9 < (q12.1.length:Int))) ((f16 fu ((a0.tabs.getD q6.toNat default).table) ((q12.1.getD q9.toNat default).n)).bind fun q13=>cond (decide (0≤q9)&&decide (q9 < (q12.1.length:Int))) (cond (!decide (((q12.1.getD q9.toNat default).kind)=0)) (f1026_j8 i10 rec1 rec2 (!q13.2)) (f1026_j8 i10 rec1 rec2 false)) none) none) none) (cond (decide (q9<0)) (some false) (rec1 (IntKind.i64.wrap (i2+1))))
def dp (fu:Nat)(a0:ac)(i2:Int)(q4:Int)(q6:Int)(q9:Int)(rec1:Int→Option Bool):Nat→Int→Option Bool
 | 0,_=>none
 | n2+1,i10=>cond (decide (i10 < (List.length (((a0.tabs.getD q4.toNat default).table).rows):Int))) (iV fu a0 i2 q4 q6 q9 i10 rec1 (dp fu a0 i2 q4 q6 q9 rec1 n2) (decide (0≤q9))) (iV fu a0 i2 q4 q6 q9 i10 rec1 (dp fu a0 i2 q4 q6 q9 rec1 n2) false)
def bi (fu:Nat)(a0:ac):Nat→Int→Option Bool
 | 0,_=>none
 | n1+1,i2=>cond (decide (i2 < (a0.links.length:Int))) (cond (decide (0≤i2)&&decide (i2 < (a0.links.length:Int))) ((tj fu a0 ((a0.links.getD i2.toNat default).from_)).bind fun q4=>cond (decide (0≤q4)&&decide (q4 < (a0.tabs.length:Int))) ((tj fu a0 ((a0.links.getD i2.toNat default).to)).bind fun q6=>cond (decide (0≤q6)&&decide (q6 < (a0.tabs.length:Int))) ((f23 fu ((a0.tabs.getD q4.toNat default).table)).bind fun q8=>(f24 fu q8 ((a0.links.getD i2.toNat default).col)).bind fun q9=>dp fu a0 i2 q4 q6 q9 (bi fu a0 n1) fu 0) none) none) none) (some true)
def wc (fu:Nat)(a0:ac):Option Bool:=bi fu a0 fu 0
theorem EW:Nm prog 24:=nmK func24
theorem Gl (fu:Nat)(a0:ac):Ctr prog 24 [tBase.va a0] [] (wc fu a0) (fun _ _=>[]) (fun q=>isB q):=by
 refine .w func24 ntmps24 fun hf A w=>?_
 unfold wc
 refine .s<|.box (T:=tBase) z z fun b1=>.an z z<|.seq<|.s<|.an z z<|.block<|.loop<|.keep [1,3] [] z<|(show ∀ (n1:Nat) (i2:Int),W _ _ _ _ _ ⟨[(1,isP b1 0,none),(3,isI .i64 i2,none)],[boxO b1 tBase a0 []]⟩ (bi fu a0 n1 i2) from ?_) fu _
 intro n1
 induction n1 with
 | zero=>exact fun _=>.stop
 | succ n1 ih1=>
  intro i2
  refine .inLoop<|.seq<|.s<|go ?_
  refine .cd z ?_ ?_
  ·refine .skip<|.seq<|.block<|.s<|go ?_
   refine .alloc tLink d0_1044 [] z1044 z fun b3=>go ?_
   refine .seq<|.pb (Df fu _ _) B8 fun q4 h10 k=>.pT fun h11=>.drawS 10 [] [9] [] mix (by kernel_rfl) sts z<|.cons (d:=5) z z fun _ _ hE h=>.alloc tTable d0_27 [] z27 z fun b5=>.toEnd<|h _ _ (.same<|.same<|.nil)<|go ?_
   refine .seq<|.pb (Df fu _ _) B8 fun q6 h12 k=>.pT fun h13=>.drawS 10 [] [9] [] mix (by kernel_rfl) sts z<|.cons (d:=6) z z fun _ _ hE h=>.alloc tTable d0_27 [] z27 z fun b7=>.toEnd<|h _ _ (.same<|.same<|.same<|.nil)<|go ?_
   refine .seq<|.pb (c23 fu _) n23 fun q8 h14 k=>.draw 4 [] mix (by kernel_rfl) sts z<|.call0 (c24 fu _ _) n24 z z fun q9=>.an z z<|.seq<|.s<|.an z z<|.block<|.loop<|.drop (.c<|.d<|.d<|.d<|.e)<|.keep [1,3,5,6,7,8] [] z<|(show ∀ (n2:Nat) (i10:Int),W _ _ _ _ _ ⟨[(1,isP b1 0,none),(3,isI .i64 i2,none),(5,isP b5 0,none),(6,isP b7 0,none),(7,isI .i64 q9,none),(8,isI .i64 i10,none)],[boxO b1 tBase a0 [],boxO b5 tTable ((a0.tabs.getD q4.toNat default).table) [],boxO b7 tTable ((a0.tabs.getD q6.toNat default).table) []]⟩ (dp fu a0 i2 q4 q6 q9 (bi fu a0 n1) n2 i10) from ?_) fu _
   intro n2
   induction n2 with
   | zero=>exact fun _=>.stop
   | succ n2 ih2=>
    intro i10
    refine .inLoop<|.seq<|.seq<|.join1 (fun i11=>⟨[(1,isP b1 0,none),(3,isI .i64 i2,none),(5,isP b5 0,none),(6,isP b7 0,none),(7,isI .i64 q9,none),(8,isI .i64 i10,none),(56,isB i11,none)],[boxO b1 tBase a0 [],boxO b5 tTable ((a0.tabs.getD q4.toNat default).table) [],boxO b7 tTable ((a0.tabs.getD q6.toNat default).table) []]⟩) (fun i11=>iV fu a0 i2 q4 q6 q9 i10 (bi fu a0 n1) (dp fu a0 i2 q4 q6 q9 (bi fu a0 n1) n2) i11) (fun i11=>?_) (fun hj7=>?_)
    ·refine .cd z ?_ ?_
     ·refine .skip<|.seq<|.block<|.seq<|.pT fun h17=>.draw 7 [] mix (by kernel_rfl) sts z<|.call0 (c16 fu _ _) n16 z z fun q12=>go ?_
      refine .seq<|.pT fun h18=>.draw 6 [] mix (by kernel_rfl) sts z<|.call0 (c16 fu _ _) n16 z z fun q13=>go ?_
      refine .seq<|.join1 (fun i14=>⟨[(1,isP b1 0,none),(3,isI .i64 i2,none),(5,isP b5 0,none),(6,isP b7 0,none),(7,isI .i64 q9,none),(8,isI .i64 i10,none),(89,isB i14,none)],[boxO b1 tBase a0 [],boxO b5 tTable ((a0.tabs.getD q4.toNat default).table) [],boxO b7 tTable ((a0.tabs.getD q6.toNat default).table) []]⟩) (fun i14=>f1026_j8 i10 (bi fu a0 n1) (dp fu a0 i2 q4 q6 q9 (bi fu a0 n1) n2) i14) (fun i14=>?_) (fun hj8=>?_)
      ·refine .cd z ?_ ?_
       ·exact fr
       ·exact fj (ih2 _)
      ·refine .g<|go ?_
       refine .split 86 z (fun _=>?_) (fun _=>?_)
       ·exact fj (hj8 _)
       ·exact fj (hj8 _)
     ·refine .exit z<|.s<|go ?_
      refine .cd z ?_ ?_
      ·exact fr
      ·exact fj (ih1 _)
    ·refine .g<|go ?_
     refine .split 53 z (fun _=>?_) (fun _=>?_)
     ·exact fj (hj7 _)
     ·exact fj (hj7 _)
  ·exact fr
end Go.Proofs.YtganfdhmkdehlaaGreatDoor
