/- Laws of bases that take rows away: what they answer, and that the machine answers so. -/
import Derived.Test.YtdpigighgmipfaaGreatDoorQ1010B11
import Derived.Test.YtdpigighgmipfaaGreatDoorQ1010AU
import Derived.KernelRfl
set_option linter.all false
namespace Go.Proofs.YtdpigighgmipfaaGreatDoor
open Go Go.HL Tryz
attribute [local irreducible] W WO
noncomputable def f1010_j6 (i15:Int) (rec1:Bool→Int→Option Bool) (rec2:Bool→Int→Option Bool) (i20:Bool):Option Bool:=rec2 i20 (IntKind.i64.wrap (i15+1))
noncomputable def f1010_l2 (fu:Nat) (q1:Base×(List UInt8)×Int) (q7:List Ref) (i10:Int) (q12:Int) (rec1:Bool→Int→Option Bool):Nat→Bool→Int→Option Bool
 | 0,_,_=>none
 | n1002+1,i14,i15=>cond (decide (i15 < (List.length (((q1.1.tabs.getD q12.toNat default).table).rows):Int))) (cond (decide (0≤i15)&&decide (i15 < (List.length (((q1.1.tabs.getD q12.toNat default).table).rows):Int))) ((f16 fu ((q1.1.tabs.getD q12.toNat default).table) (((((q1.1.tabs.getD q12.toNat default).table).rows).getD i15.toNat default).id)).bind fun q16=>(f23 fu ((q1.1.tabs.getD q12.toNat default).table)).bind fun q17=>(f24 fu q17 ((q1.1.links.getD i10.toNat default).col)).bind fun q18=>cond (decide (0≤q18)&&decide (q18 < (q16.1.length:Int))) (cond i14 (f1010_j6 i15 rec1 (f1010_l2 fu q1 q7 i10 q12 rec1 n1002) true) (cond (decide (((q1.1.links.getD i10.toNat default).how)=1)) (cond (decide (0≤i15)&&decide (i15 < (List.length (((q1.1.tabs.getD q12.toNat default).table).rows):Int))) ((f1047 fu q7 ((q1.1.links.getD i10.toNat default).from_) (((((q1.1.tabs.getD q12.toNat default).table).rows).getD i15.toNat default).id)).bind fun q21=>cond (!q21) (cond (!decide (((q16.1.getD q18.toNat default).kind)=0)) ((f1047 fu q7 ((q1.1.links.getD i10.toNat default).to) ((q16.1.getD q18.toNat default).n)).bind fun q22=>f1010_j6 i15 rec1 (f1010_l2 fu q1 q7 i10 q12 rec1 n1002) q22) (f1010_j6 i15 rec1 (f1010_l2 fu q1 q7 i10 q12 rec1 n1002) false)) (f1010_j6 i15 rec1 (f1010_l2 fu q1 q7 i10 q12 rec1 n1002) false)) none) (f1010_j6 i15 rec1 (f1010_l2 fu q1 q7 i10 q12 rec1 n1002) false))) none) none) (rec1 i14 (IntKind.i64.wrap (i10+1)))
noncomputable def f1010_j7 (rec1:Bool→Int→Option Bool) (i23:Bool):Option Bool:=some i23
noncomputable def f1010_l1 (fu:Nat) (q1:Base×(List UInt8)×Int) (q3:Base×Int) (q7:List Ref):Nat→Bool→Int→Option Bool
 | 0,_,_=>none
 | n1001+1,i9,i10=>cond (decide (i10 < (q1.1.links.length:Int))) (cond (decide (0≤i10)&&decide (i10 < (q1.1.links.length:Int))) ((f1035 fu q1.1 ((q1.1.links.getD i10.toNat default).from_)).bind fun q12=>cond (decide (0≤q12)&&decide (q12 < (q1.1.tabs.length:Int))) (f1010_l2 fu q1 q7 i10 q12 (f1010_l1 fu q1 q3 q7 n1001) fu i9 0) none) none) (cond ((decide (q3.2=6)) == i9) (cond i9 (f1010_j7 (f1010_l1 fu q1 q3 q7 n1001) true) (f1010_j7 (f1010_l1 fu q1 q3 q7 n1001) (decide (q3.2=0)))) (f1010_j7 (f1010_l1 fu q1 q3 q7 n1001) false))
noncomputable def f1010_j1 (fu:Nat) (q1:Base×(List UInt8)×Int) (q3:Base×Int) (q5:Base×Int) (q7:List Ref) (i8:Bool):Option Bool:=cond i8 (some (decide (q3.2=q5.2))) (f1010_l1 fu q1 q3 q7 fu false 0)
noncomputable def f1010 (fu:Nat) (a0:List Int):Option Bool:=cond (decide (1048576 < (a0.length:Int))) (some true) ((f1027 fu a0).bind fun q1=>(f1028 fu q1.1 q1.2.1 q1.2.2).bind fun q3=>(f1029 fu q1.1 q1.2.1 q1.2.2).bind fun q5=>(f1031 fu q1.1 q1.2.1 q1.2.2).bind fun q7=>cond (!decide (q3.2=q5.2)) (f1010_j1 fu q1 q3 q5 q7 true) (f1010_j1 fu q1 q3 q5 q7 (decide ((q7.length:Int)=0))))
theorem c1010 (fu:Nat)(a0:List Int):Ctr prog 10 [(tL (tI .u8)).va a0] [] (f1010 fu a0) (fun _ _=>[]) (fun q=>isB q):=by
 refine .w func10 ntmps10 fun hf A w=>?_
 unfold f1010
 refine .s<|.an z z<|.seq<|.s<|go ?_
 refine .cd z ?_ ?_
 ·exact fr
 ·refine .skip<|.s<|.m z z<|.call0 (c1027 fu _) n1027 z z fun q1=>go ?_
  refine .alloc tBase d0_1026 [] z1026 z fun b2=>go ?_
  refine .s<|go ?_
  refine .call0 (c1028 fu _ _ _) n1028 z z fun q3=>go ?_
  refine .alloc tBase d0_1026 [] z1026 z fun b4=>go ?_
  refine .s<|go ?_
  refine .call0 (c1029 fu _ _ _) n1029 z z fun q5=>go ?_
  refine .alloc tBase d0_1026 [] z1026 z fun b6=>go ?_
  refine .s<|go ?_
  refine .call0 (c1031 fu _ _ _) n1031 z z fun q7=>.an z z<|.seq<|.seq<|.join1 (fun i8=>⟨[(3,isP b2 0,none),(7,isI .i64 q3.2,none),(9,isI .i64 q5.2,none),(10,(tL tRef).va q7,none),(53,isB i8,none)],[boxO b2 tBase q1.1 []]⟩) (fun i8=>f1010_j1 fu q1 q3 q5 q7 i8) (fun i8=>?_) (fun hj1=>?_)
  ·refine .cd z ?_ ?_
   ·exact fr
   ·refine .skip<|.s<|.an z z<|.seq<|.s<|.an z z<|.block<|.loop<|.keep [3,7,10,11,12] [] z<|(show ∀ (n1001:Nat) (i9:Bool) (i10:Int),W _ _ _ _ _ ⟨[(3,isP b2 0,none),(7,isI .i64 q3.2,none),(10,(tL tRef).va q7,none),(11,isB i9,none),(12,isI .i64 i10,none)],[boxO b2 tBase q1.1 []]⟩ (f1010_l1 fu q1 q3 q7 n1001 i9 i10) from ?_) fu _ _
    intro n1001
    induction n1001 with
    | zero=>exact fun _ _=>.stop
    | succ n1001 ih1=>
     intro i9 i10
     refine .inLoop<|.seq<|.s<|go ?_
     refine .cd z ?_ ?_
     ·refine .skip<|.seq<|.block<|.s<|go ?_
      refine .alloc tLink d0_1044 [] z1044 z fun b11=>go ?_
      refine .seq<|.pb (c1035 fu _ _) n1035 fun q12 h22 k=>.pT fun h23=>.drawS 10 [] [9] [] mix (by kernel_rfl) sts z<|.cons (d:=14) z z fun _ _ hE h=>.alloc tTable d0_27 [] z27 z fun b13=>.toEnd<|h _ _ (.same<|.same<|.nil)<|go ?_
      refine .s<|.an z z<|.block<|.loop<|.keep [3,7,10,11,12,13,14,15] [] z<|(show ∀ (n1002:Nat) (i14:Bool) (i15:Int),W _ _ _ _ _ ⟨[(3,isP b2 0,none),(7,isI .i64 q3.2,none),(10,(tL tRef).va q7,none),(11,isB i14,none),(12,isI .i64 i10,none),(13,isP b11 0,none),(14,isP b13 0,none),(15,isI .i64 i15,none)],[boxO b11 tLink (q1.1.links.getD i10.toNat default) [],boxO b2 tBase q1.1 [],boxO b13 tTable ((q1.1.tabs.getD q12.toNat default).table) []]⟩ (f1010_l2 fu q1 q7 i10 q12 (f1010_l1 fu q1 q3 q7 n1001) n1002 i14 i15) from ?_) fu _ _
      intro n1002
      induction n1002 with
      | zero=>exact fun _ _=>.stop
      | succ n1002 ih2=>
       intro i14 i15
       refine .inLoop<|.seq<|.s<|go ?_
       refine .cd z ?_ ?_
       ·refine .skip<|.seq<|.block<|.seq<|.pT fun h34=>.draw 7 [] mix (by kernel_rfl) sts z<|.call0 (c16 fu _ _) n16 z z fun q16=>go ?_
        refine .seq<|.pb (c23 fu _) n23 fun q17 h35 k=>.pb (c24 fu _ _) n24 fun q18 h36 k=>.pT fun h37=>.drawS 9 [] [8] [] mix (by kernel_rfl) sts z<|.cons (d:=18) z z fun _ _ hE h=>.alloc tVal d0_47 [] z47 z fun b19=>.toEnd<|h _ _ (.same<|.same<|.same<|.nil)<|go ?_
        refine .join1 (fun i20=>⟨[(3,isP b2 0,none),(7,isI .i64 q3.2,none),(10,(tL tRef).va q7,none),(11,isB i20,none),(12,isI .i64 i10,none),(13,isP b11 0,none),(14,isP b13 0,none),(15,isI .i64 i15,none)],[boxO b11 tLink (q1.1.links.getD i10.toNat default) [],boxO b2 tBase q1.1 [],boxO b13 tTable ((q1.1.tabs.getD q12.toNat default).table) []]⟩) (fun i20=>f1010_j6 i15 (f1010_l1 fu q1 q3 q7 n1001) (f1010_l2 fu q1 q7 i10 q12 (f1010_l1 fu q1 q3 q7 n1001) n1002) i20) (fun i20=>?_) (fun hj6=>?_)
        ·exact fj (ih2 _ _)
        ·refine .pcond (fun h38=>?_) (fun h38=>?_)
         ·exact .draw 29 [] mix (by kernel_rfl) sts z<|fj (hj6 _)
         ·refine .pcond (fun h39=>?_) (fun h39=>?_)
          ·refine .pT fun h40=>.pb (c1047 fu _ _ _) n1047 fun q21 h41 k=>.pcond (fun h42=>?_) (fun h42=>?_)
           ·refine .pcond (fun h43=>?_) (fun h43=>?_)
            ·exact .draw 29 [] mix (by kernel_rfl) sts z<|.on z z<|.call0 (c1047 fu _ _ _) n1047 z z fun q22=>fj (hj6 _)
            ·exact .draw 29 [] mix (by kernel_rfl) sts z<|fj (hj6 _)
           ·exact .draw 29 [] mix (by kernel_rfl) sts z<|fj (hj6 _)
          ·exact .draw 29 [] mix (by kernel_rfl) sts z<|fj (hj6 _)
       ·exact fj (ih1 _ _)
     ·refine .exit z<|.seq<|.join1 (fun i23=>⟨[(2,isB i23,none)],[]⟩) (fun i23=>f1010_j7 (f1010_l1 fu q1 q3 q7 n1001) i23) (fun i23=>?_) (fun hj7=>?_)
      ·exact fr
      ·refine .g<|.m z z<|.bin z z z z<|.m z z<|.beq z z u4 z<|.m z z<|.split 140 z (fun _=>?_) (fun _=>?_)
       ·refine go ?_
        refine .split 142 z (fun _=>?_) (fun _=>?_)
        ·exact fj (hj7 _)
        ·exact fj (hj7 _)
       ·exact fj (hj7 _)
  ·refine .g<|go ?_
   refine .split 49 z (fun _=>?_) (fun _=>?_)
   ·exact fj (hj1 _)
   ·exact fj (hj1 _)
end Go.Proofs.YtdpigighgmipfaaGreatDoor
