/- Laws of bases that take rows away: what they answer, and that the machine answers so. -/
import Derived.Test.YtdpigighgmipfaaGreatDoorQ1007B11
import Derived.Test.YtdpigighgmipfaaGreatDoorQ1007AU
import Derived.KernelRfl
set_option linter.all false
namespace Go.Proofs.YtdpigighgmipfaaGreatDoor
open Go Go.HL Tryz
attribute [local irreducible] W WO
noncomputable def f1007_j3 (i9:Int) (rec1:Int→Option Bool) (i12:Bool):Option Bool:=cond i12 (some false) (rec1 (IntKind.i64.wrap (i9+1)))
noncomputable def f1007_l1 (fu:Nat) (q3:Base×Int) (q7:List Ref):Nat→Int→Option Bool
 | 0,_=>none
 | n1001+1,i9=>cond (decide (i9 < (q7.length:Int))) (cond (decide (0≤i9)&&decide (i9 < (q7.length:Int))) (cond (decide (0≤i9)&&decide (i9 < (q7.length:Int))) ((f1028 fu q3.1 ((q7.getD i9.toNat default).name) ((q7.getD i9.toNat default).id)).bind fun q10=>cond (!decide (q10.2=5)) (f1007_j3 i9 (f1007_l1 fu q3 q7 n1001) true) ((f1018 fu q3.1 q10.1).bind fun q13=>cond (!q13) (f1007_j3 i9 (f1007_l1 fu q3 q7 n1001) true) (cond (decide (0≤i9)&&decide (i9 < (q7.length:Int))) (cond (decide (0≤i9)&&decide (i9 < (q7.length:Int))) ((f1031 fu q3.1 ((q7.getD i9.toNat default).name) ((q7.getD i9.toNat default).id)).bind fun q14=>f1007_j3 i9 (f1007_l1 fu q3 q7 n1001) (!decide ((q14.length:Int)=0))) none) none))) none) none) (some (decide (0 < (q7.length:Int))))
noncomputable def f1007_j1 (fu:Nat) (q3:Base×Int) (q5:Base×Int) (q7:List Ref) (i8:Bool):Option Bool:=cond i8 (some (decide (q3.2=q5.2))) (f1007_l1 fu q3 q7 fu 0)
noncomputable def f1007 (fu:Nat) (a0:List Int):Option Bool:=cond (decide (1048576 < (a0.length:Int))) (some true) ((f1027 fu a0).bind fun q1=>(f1028 fu q1.1 q1.2.1 q1.2.2).bind fun q3=>(f1029 fu q1.1 q1.2.1 q1.2.2).bind fun q5=>(f1031 fu q1.1 q1.2.1 q1.2.2).bind fun q7=>cond (!decide (q3.2=q5.2)) (f1007_j1 fu q3 q5 q7 true) (f1007_j1 fu q3 q5 q7 (!decide (q3.2=0))))
theorem c1007 (fu:Nat)(a0:List Int):Ctr prog 7 [(tL (tI .u8)).va a0] [] (f1007 fu a0) (fun _ _=>[]) (fun q=>isB q):=by
 refine .w func7 ntmps7 fun hf A w=>?_
 unfold f1007
 refine .s<|.an z z<|.seq<|.s<|go ?_
 refine .cd z ?_ ?_
 ·exact fr
 ·refine .skip<|.s<|.m z z<|.call0 (c1027 fu _) n1027 z z fun q1=>go ?_
  refine .alloc tBase d0_1026 [] z1026 z fun b2=>go ?_
  refine .s<|go ?_
  refine .call0 (c1028 fu _ _ _) n1028 z z fun q3=>go ?_
  refine .alloc tBase d0_1026 [] z1026 z fun b4=>go ?_
  refine .s<|go ?_
  refine .call0 (c1029 fu _ _ _) n1029 z z fun q5=>go ?_
  refine .alloc tBase d0_1026 [] z1026 z fun b6=>go ?_
  refine .s<|go ?_
  refine .call0 (c1031 fu _ _ _) n1031 z z fun q7=>.an z z<|.seq<|.seq<|.join1 (fun i8=>⟨[(6,isP b4 0,none),(7,isI .i64 q3.2,none),(9,isI .i64 q5.2,none),(10,(tL tRef).va q7,none),(47,isB i8,none)],[boxO b4 tBase q3.1 []]⟩) (fun i8=>f1007_j1 fu q3 q5 q7 i8) (fun i8=>?_) (fun hj1=>?_)
  ·refine .cd z ?_ ?_
   ·exact fr
   ·refine .skip<|.seq<|.s<|.an z z<|.block<|.loop<|.keep [6,10,11] [] z<|(show ∀ (n1001:Nat) (i9:Int),W _ _ _ _ _ ⟨[(6,isP b4 0,none),(10,(tL tRef).va q7,none),(11,isI .i64 i9,none)],[boxO b4 tBase q3.1 []]⟩ (f1007_l1 fu q3 q7 n1001 i9) from ?_) fu _
    intro n1001
    induction n1001 with
    | zero=>exact fun _=>.stop
    | succ n1001 ih1=>
     intro i9
     refine .inLoop<|.seq<|.s<|go ?_
     refine .cd z ?_ ?_
     ·refine .skip<|.seq<|.block<|.seq<|.pT fun h9=>.pT fun h10=>.pbind fun q10 h11=>.drawS 16 [14] [15] [] mix (by kernel_rfl) (.k (fun p e=>.lp 0 (Fld.self _) (e.op z) (p.get z z) ty1026 z)<|.j (fun o=>.m (o z) z)<|.j (fun o=>.m (o z) z)<|.k (fun p e h=>.useC h9<|.elemAt (e.op z) (e.op z) u52 ty1055 z<|h)<|.j (fun o=>.fieldAt fRef_0 (o z) fa1055_0 z)<|.j (fun o=>.load (o z) ty9 z)<|.j (fun o=>.m (o z) z)<|.j (fun o=>.m (o z) z)<|.k (fun p e h=>.useC h10<|.elemAt (e.op z) (e.op z) u52 ty1055 z<|h)<|.j (fun o=>.fieldAt fRef_1 (o z) fa1055_1 z)<|.j (fun o=>.load (o z) ty3 z)<|.k (fun p e h=>.bindE h11 (fun r h=>.call0 (c1028 fu _ _ _) n1028 (e.ops z) z h)<|h)<|.j (fun o=>.m (o z) z)<|.j (fun o=>.extract (o z) z z)<|.j (fun o=>.extract (o z) z z)<|.skip<|.nil) z<|.cons (d:=12) z z fun _ _ hE h=>.alloc tBase d0_1026 [] z1026 z fun b11=>.toEnd<|h _ _ (.same<|.nil)<|go ?_
      refine .seq<|.join1 (fun i12=>⟨[(6,isP b4 0,none),(10,(tL tRef).va q7,none),(11,isI .i64 i9,none),(95,isB i12,none)],[boxO b4 tBase q3.1 []]⟩) (fun i12=>f1007_j3 i9 (f1007_l1 fu q3 q7 n1001) i12) (fun i12=>?_) (fun hj3=>?_)
      ·refine .cd z ?_ ?_
       ·exact fr
       ·exact fj (ih1 _)
      ·refine .pcond (fun h12=>?_) (fun h12=>?_)
       ·exact .draw 20 [] mix (by kernel_rfl) sts z<|fj (hj3 _)
       ·refine .pb (c1018 fu _ _) n1018 fun q13 h13 k=>.pcond (fun h14=>?_) (fun h14=>?_)
        ·exact .draw 20 [] mix (by kernel_rfl) sts z<|fj (hj3 _)
        ·exact .pT fun h15=>.pT fun h16=>.draw 20 [] mix (by kernel_rfl) sts z<|.on z z<|.call0 (c1031 fu _ _ _) n1031 z z fun q14=>fj (hj3 _)
     ·exact fr
  ·refine .g<|go ?_
   refine .split 44 z (fun _=>?_) (fun _=>?_)
   ·exact fj (hj1 _)
   ·exact fj (hj1 _)
end Go.Proofs.YtdpigighgmipfaaGreatDoor
