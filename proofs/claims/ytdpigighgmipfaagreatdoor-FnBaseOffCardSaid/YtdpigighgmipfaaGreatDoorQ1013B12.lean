/- Laws of bases that take rows away: what they answer, and that the machine answers so. -/
import Derived.Test.YtdpigighgmipfaaGreatDoorQ1013B11
import Derived.Test.YtdpigighgmipfaaGreatDoorQ1013AU
import Derived.KernelRfl
set_option linter.all false
namespace Go.Proofs.YtdpigighgmipfaaGreatDoor
open Go Go.HL Tryz
attribute [local irreducible] W WO
noncomputable def f1013_j2 (i9:Bool):Option Bool:=some i9
noncomputable def f1013_j3 (i12:Bool):Option Bool:=some i12
noncomputable def f1013_j35 (i23:Int) (rec1:Int→Option Bool) (rec2:Int→Option Bool) (rec3:Int→Option Bool) (rec4:Bool→Int→Option Bool) (i24:Bool):Option Bool:=rec4 i24 (IntKind.i64.wrap (i23+1))
noncomputable def f1013_j36 (i20:Int) (rec1:Int→Option Bool) (rec2:Int→Option Bool) (rec3:Int→Option Bool) (rec4:Bool→Int→Option Bool) (i26:Bool):Option Bool:=cond i26 (some false) (rec3 (IntKind.i64.wrap (i20+1)))
noncomputable def f1013_l4 (fu:Nat) (q1:Base×(List UInt8)×Int) (q11:List Ref) (i14:Int) (q15:(List Col)) (q17:(List Val)×Bool) (q18:(List Val)×Bool) (i20:Int) (rec1:Int→Option Bool) (rec2:Int→Option Bool) (rec3:Int→Option Bool):Nat→Bool→Int→Option Bool
 | 0,_,_=>none
 | n1004+1,i22,i23=>cond (decide (i23 < (q1.1.links.length:Int))) (cond i22 (f1013_j35 i23 rec1 rec2 rec3 (f1013_l4 fu q1 q11 i14 q15 q17 q18 i20 rec1 rec2 rec3 n1004) true) (cond (decide (0≤i23)&&decide (i23 < (q1.1.links.length:Int))) (cond (decide (0≤i14)&&decide (i14 < (q1.1.tabs.length:Int))) (cond (decide (((q1.1.links.getD i23.toNat default).from_)=((q1.1.tabs.getD i14.toNat default).name))) (cond (decide (0≤i23)&&decide (i23 < (q1.1.links.length:Int))) (cond (decide (0≤i20)&&decide (i20 < (q15.length:Int))) (cond (decide (((q1.1.links.getD i23.toNat default).col)=((q15.getD i20.toNat default).name))) (cond (decide (0≤i20)&&decide (i20 < (q17.1.length:Int))) (cond (!decide (((q17.1.getD i20.toNat default).kind)=0)) (cond (decide (0≤i23)&&decide (i23 < (q1.1.links.length:Int))) (cond (decide (0≤i20)&&decide (i20 < (q17.1.length:Int))) ((f1047 fu q11 ((q1.1.links.getD i23.toNat default).to) ((q17.1.getD i20.toNat default).n)).bind fun q25=>f1013_j35 i23 rec1 rec2 rec3 (f1013_l4 fu q1 q11 i14 q15 q17 q18 i20 rec1 rec2 rec3 n1004) q25) none) none) (f1013_j35 i23 rec1 rec2 rec3 (f1013_l4 fu q1 q11 i14 q15 q17 q18 i20 rec1 rec2 rec3 n1004) false)) none) (f1013_j35 i23 rec1 rec2 rec3 (f1013_l4 fu q1 q11 i14 q15 q17 q18 i20 rec1 rec2 rec3 n1004) false)) none) none) (f1013_j35 i23 rec1 rec2 rec3 (f1013_l4 fu q1 q11 i14 q15 q17 q18 i20 rec1 rec2 rec3 n1004) false)) none) none)) (cond i22 (cond (decide (0≤i20)&&decide (i20 < (q18.1.length:Int))) (cond (!decide ((q18.1.getD i20.toNat default)=(⟨d0_47.kind,d0_47.n,d0_47.text⟩:Val))) (f1013_j36 i20 rec1 rec2 rec3 (f1013_l4 fu q1 q11 i14 q15 q17 q18 i20 rec1 rec2 rec3 n1004) true) (cond (!i22) (cond (decide (0≤i20)&&decide (i20 < (q18.1.length:Int))) (cond (decide (0≤i20)&&decide (i20 < (q17.1.length:Int))) (f1013_j36 i20 rec1 rec2 rec3 (f1013_l4 fu q1 q11 i14 q15 q17 q18 i20 rec1 rec2 rec3 n1004) (!decide ((q18.1.getD i20.toNat default)=(q17.1.getD i20.toNat default)))) none) none) (f1013_j36 i20 rec1 rec2 rec3 (f1013_l4 fu q1 q11 i14 q15 q17 q18 i20 rec1 rec2 rec3 n1004) false))) none) (cond (!i22) (cond (decide (0≤i20)&&decide (i20 < (q18.1.length:Int))) (cond (decide (0≤i20)&&decide (i20 < (q17.1.length:Int))) (f1013_j36 i20 rec1 rec2 rec3 (f1013_l4 fu q1 q11 i14 q15 q17 q18 i20 rec1 rec2 rec3 n1004) (!decide ((q18.1.getD i20.toNat default)=(q17.1.getD i20.toNat default)))) none) none) (f1013_j36 i20 rec1 rec2 rec3 (f1013_l4 fu q1 q11 i14 q15 q17 q18 i20 rec1 rec2 rec3 n1004) false)))
noncomputable def f1013_j33 (fu:Nat) (q1:Base×(List UInt8)×Int) (q11:List Ref) (i14:Int) (q15:(List Col)) (i16:Int) (q17:(List Val)×Bool) (q18:(List Val)×Bool) (i20:Int) (rec1:Int→Option Bool) (rec2:Int→Option Bool) (rec3:Int→Option Bool) (i21:Bool):Option Bool:=cond i21 (f1013_l4 fu q1 q11 i14 q15 q17 q18 i20 rec1 rec2 rec3 fu false 0) (rec2 (IntKind.i64.wrap (i16+1)))
noncomputable def f1013_l3 (fu:Nat) (q1:Base×(List UInt8)×Int) (q11:List Ref) (i14:Int) (q15:(List Col)) (i16:Int) (q17:(List Val)×Bool) (q18:(List Val)×Bool) (rec1:Int→Option Bool) (rec2:Int→Option Bool):Nat→Int→Option Bool
 | 0,_=>none
 | n1003+1,i20=>cond (decide (i20 < (q15.length:Int))) (f1013_j33 fu q1 q11 i14 q15 i16 q17 q18 i20 rec1 rec2 (f1013_l3 fu q1 q11 i14 q15 i16 q17 q18 rec1 rec2 n1003) q18.2) (f1013_j33 fu q1 q11 i14 q15 i16 q17 q18 i20 rec1 rec2 (f1013_l3 fu q1 q11 i14 q15 i16 q17 q18 rec1 rec2 n1003) false)
noncomputable def f1013_l2 (fu:Nat) (q1:Base×(List UInt8)×Int) (q3:Base×Int) (q11:List Ref) (i14:Int) (q15:(List Col)) (rec1:Int→Option Bool):Nat→Int→Option Bool
 | 0,_=>none
 | n1002+1,i16=>cond (decide (0≤i14)&&decide (i14 < (q1.1.tabs.length:Int))) (cond (decide (i16 < (List.length (((q1.1.tabs.getD i14.toNat default).table).rows):Int))) (cond (decide (0≤i14)&&decide (i14 < (q1.1.tabs.length:Int))) (cond (decide (0≤i16)&&decide (i16 < (List.length (((q1.1.tabs.getD i14.toNat default).table).rows):Int))) (cond (decide (0≤i14)&&decide (i14 < (q1.1.tabs.length:Int))) ((f16 fu ((q1.1.tabs.getD i14.toNat default).table) (((((q1.1.tabs.getD i14.toNat default).table).rows).getD i16.toNat default).id)).bind fun q17=>cond (decide (0≤i14)&&decide (i14 < (q3.1.tabs.length:Int))) ((f16 fu ((q3.1.tabs.getD i14.toNat default).table) (((((q1.1.tabs.getD i14.toNat default).table).rows).getD i16.toNat default).id)).bind fun q18=>cond (decide (0≤i14)&&decide (i14 < (q1.1.tabs.length:Int))) ((f1047 fu q11 ((q1.1.tabs.getD i14.toNat default).name) (((((q1.1.tabs.getD i14.toNat default).table).rows).getD i16.toNat default).id)).bind fun q19=>cond (q18.2 == q19) (some false) (f1013_l3 fu q1 q11 i14 q15 i16 q17 q18 rec1 (f1013_l2 fu q1 q3 q11 i14 q15 rec1 n1002) fu 0)) none) none) none) none) none) (rec1 (IntKind.i64.wrap (i14+1)))) none
noncomputable def f1013_j37 (rec1:Int→Option Bool) (i27:Bool):Option Bool:=some i27
noncomputable def f1013_l1 (fu:Nat) (q1:Base×(List UInt8)×Int) (q3:Base×Int) (q11:List Ref):Nat→Int→Option Bool
 | 0,_=>none
 | n1001+1,i14=>cond (decide (i14 < (q1.1.tabs.length:Int))) (cond (decide (0≤i14)&&decide (i14 < (q1.1.tabs.length:Int))) ((f23 fu ((q1.1.tabs.getD i14.toNat default).table)).bind fun q15=>f1013_l2 fu q1 q3 q11 i14 q15 (f1013_l1 fu q1 q3 q11 n1001) fu 0) none) ((f1020 fu q3.1).bind fun q28=>cond q28 ((f1026 fu q3.1).bind fun q29=>cond q29 (f1013_j37 (f1013_l1 fu q1 q3 q11 n1001) (decide (0 < (q11.length:Int)))) (f1013_j37 (f1013_l1 fu q1 q3 q11 n1001) false)) (f1013_j37 (f1013_l1 fu q1 q3 q11 n1001) false))
noncomputable def f1013_j1 (fu:Nat) (q1:Base×(List UInt8)×Int) (q3:Base×Int) (i7:Bool):Option Bool:=cond i7 (some false) ((f1019 fu q1.1).bind fun q8=>cond (!q8) (cond (decide (q3.2=1)) ((f1018 fu q3.1 (⟨d0_1026.tabs,d0_1026.links⟩:Base)).bind fun q10=>f1013_j2 q10) (f1013_j2 false)) ((f1031 fu q1.1 q1.2.1 q1.2.2).bind fun q11=>cond (!decide (q3.2=0)) ((f1018 fu q3.1 q1.1).bind fun q13=>cond q13 (f1013_j3 ((decide (q3.2=5)) == (decide ((q11.length:Int)=0)))) (f1013_j3 false)) (f1013_l1 fu q1 q3 q11 fu 0)))
noncomputable def f1013 (fu:Nat) (a0:List Int):Option Bool:=cond (decide (1048576 < (a0.length:Int))) (some true) ((f1027 fu a0).bind fun q1=>(f1028 fu q1.1 q1.2.1 q1.2.2).bind fun q3=>(f1029 fu q1.1 q1.2.1 q1.2.2).bind fun q5=>cond (!decide (q3.2=q5.2)) (f1013_j1 fu q1 q3 true) ((f1018 fu q3.1 q5.1).bind fun q30=>f1013_j1 fu q1 q3 (!q30)))
set_option maxHeartbeats 2000000 in
theorem c1013 (fu:Nat)(a0:List Int):Ctr prog 13 [(tL (tI .u8)).va a0] [] (f1013 fu a0) (fun _ _=>[]) (fun q=>isB q):=by
 refine .w func13 ntmps13 fun hf A w=>?_
 unfold f1013
 refine .s<|.an z z<|.seq<|.s<|go ?_
 refine .cd z ?_ ?_
 ·exact fr
 ·refine .skip<|.s<|.m z z<|.call0 (c1027 fu _) n1027 z z fun q1=>go ?_
  refine .alloc tBase d0_1026 [] z1026 z fun b2=>go ?_
  refine .s<|go ?_
  refine .call0 (c1028 fu _ _ _) n1028 z z fun q3=>go ?_
  refine .alloc tBase d0_1026 [] z1026 z fun b4=>go ?_
  refine .s<|go ?_
  refine .call0 (c1029 fu _ _ _) n1029 z z fun q5=>go ?_
  refine .alloc tBase d0_1026 [] z1026 z fun b6=>go ?_
  refine .seq<|.seq<|.join1 (fun i7=>⟨[(3,isP b2 0,none),(4,isS q1.2.1,none),(5,isI .i64 q1.2.2,none),(6,isP b4 0,none),(7,isI .i64 q3.2,none),(53,isB i7,none)],[boxO b4 tBase q3.1 [],boxO b2 tBase q1.1 []]⟩) (fun i7=>f1013_j1 fu q1 q3 i7) (fun i7=>?_) (fun hj1=>?_)
  ·refine .cd z ?_ ?_
   ·exact fr
   ·refine .skip<|.seq<|.s<|go ?_
    refine .call0 (c1019 fu _) n1019 z z fun q8=>.not z z<|.nil<|.cd z ?_ ?_
    ·refine .seq<|.join1 (fun i9=>⟨[(2,isB i9,none)],[]⟩) (fun i9=>f1013_j2 i9) (fun i9=>?_) (fun hj2=>?_)
     ·exact fr
     ·refine .g<|go ?_
      refine .split 59 z (fun _=>?_) (fun _=>?_)
      ·refine go ?_
       exact .call0 (c1018 fu _ _) n1018 z z fun q10=>fj (hj2 _)
      ·exact fj (hj2 _)
    ·refine .skip<|.s<|go ?_
     refine .call0 (c1031 fu _ _ _) n1031 z z fun q11=>.an z z<|.seq<|.s<|go ?_
     refine .cd z ?_ ?_
     ·refine .seq<|.join1 (fun i12=>⟨[(2,isB i12,none)],[]⟩) (fun i12=>f1013_j3 i12) (fun i12=>?_) (fun hj3=>?_)
      ·exact fr
      ·refine .g<|go ?_
       refine .call0 (c1018 fu _ _) n1018 z z fun q13=>.m z z<|.split 73 z (fun _=>?_) (fun _=>?_)
       ·exact .on z z<|.m z z<|.on z z<|.bin z z z z<|.on z z<|.m z z<|.on z z<|.lenL z u52 z<|.on z z<|.bin z z z z<|.on z z<|.beq z z u4 z<|fj (hj3 _)
       ·exact fj (hj3 _)
     ·refine .skip<|.seq<|.s<|.an z z<|.block<|.loop<|.keep [3,6,10,11] [] z<|(show ∀ (n1001:Nat) (i14:Int),W _ _ _ _ _ ⟨[(3,isP b2 0,none),(6,isP b4 0,none),(10,(tL tRef).va q11,none),(11,isI .i64 i14,none)],[boxO b4 tBase q3.1 [],boxO b2 tBase q1.1 []]⟩ (f1013_l1 fu q1 q3 q11 n1001 i14) from ?_) fu _
      intro n1001
      induction n1001 with
      | zero=>exact fun _=>.stop
      | succ n1001 ih1=>
       intro i14
       refine .inLoop<|.seq<|.s<|go ?_
       refine .cd z ?_ ?_
       ·refine .skip<|.seq<|.block<|.s<|go ?_
        refine .call0 (c23 fu _) n23 z z fun q15=>.an z z<|.s<|.an z z<|.block<|.loop<|.keep [3,6,10,11,12,13] [] z<|(show ∀ (n1002:Nat) (i16:Int),W _ _ _ _ _ ⟨[(3,isP b2 0,none),(6,isP b4 0,none),(10,(tL tRef).va q11,none),(11,isI .i64 i14,none),(12,(tL tCol).va q15,none),(13,isI .i64 i16,none)],[boxO b4 tBase q3.1 [],boxO b2 tBase q1.1 []]⟩ (f1013_l2 fu q1 q3 q11 i14 q15 (f1013_l1 fu q1 q3 q11 n1001) n1002 i16) from ?_) fu _
        intro n1002
        induction n1002 with
        | zero=>exact fun _=>.stop
        | succ n1002 ih2=>
         intro i16
         refine .inLoop<|.seq<|.s<|go ?_
         refine .cd z ?_ ?_
         ·refine .skip<|.seq<|.block<|.s<|go ?_
          refine .s<|go ?_
          refine .call0 (c16 fu _ _) n16 z z fun q17=>go ?_
          refine .s<|go ?_
          refine .call0 (c16 fu _ _) n16 z z fun q18=>go ?_
          refine .seq<|.s<|go ?_
          refine .call0 (c1047 fu _ _ _) n1047 z z fun q19=>.beq z z u4 z<|.nil<|.cd z ?_ ?_
          ·exact fr
          ·refine .skip<|.s<|.an z z<|.block<|.loop<|.keep [3,6,10,11,12,13,15,17,18,19] [] z<|(show ∀ (n1003:Nat) (i20:Int),W _ _ _ _ _ ⟨[(3,isP b2 0,none),(6,isP b4 0,none),(10,(tL tRef).va q11,none),(11,isI .i64 i14,none),(12,(tL tCol).va q15,none),(13,isI .i64 i16,none),(15,(tL tVal).va q17.1,none),(17,(tL tVal).va q18.1,none),(18,isB q18.2,none),(19,isI .i64 i20,none)],[boxO b4 tBase q3.1 [],boxO b2 tBase q1.1 []]⟩ (f1013_l3 fu q1 q11 i14 q15 i16 q17 q18 (f1013_l1 fu q1 q3 q11 n1001) (f1013_l2 fu q1 q3 q11 i14 q15 (f1013_l1 fu q1 q3 q11 n1001) n1002) n1003 i20) from ?_) fu _
           intro n1003
           induction n1003 with
           | zero=>exact fun _=>.stop
           | succ n1003 ih3=>
            intro i20
            refine .inLoop<|.seq<|.seq<|.join1 (fun i21=>⟨[(3,isP b2 0,none),(6,isP b4 0,none),(10,(tL tRef).va q11,none),(11,isI .i64 i14,none),(12,(tL tCol).va q15,none),(13,isI .i64 i16,none),(15,(tL tVal).va q17.1,none),(17,(tL tVal).va q18.1,none),(18,isB q18.2,none),(19,isI .i64 i20,none),(157,isB i21,none)],[boxO b4 tBase q3.1 [],boxO b2 tBase q1.1 []]⟩) (fun i21=>f1013_j33 fu q1 q11 i14 q15 i16 q17 q18 i20 (f1013_l1 fu q1 q3 q11 n1001) (f1013_l2 fu q1 q3 q11 i14 q15 (f1013_l1 fu q1 q3 q11 n1001) n1002) (f1013_l3 fu q1 q11 i14 q15 i16 q17 q18 (f1013_l1 fu q1 q3 q11 n1001) (f1013_l2 fu q1 q3 q11 i14 q15 (f1013_l1 fu q1 q3 q11 n1001) n1002) n1003) i21) (fun i21=>?_) (fun hj33=>?_)
            ·refine .cd z ?_ ?_
             ·refine .skip<|.seq<|.block<|.s<|.an z z<|.seq<|.s<|.an z z<|.block<|.loop<|.keep [3,6,10,11,12,13,15,17,18,19,20,21] [] z<|(show ∀ (n1004:Nat) (i22:Bool) (i23:Int),W _ _ _ _ _ ⟨[(3,isP b2 0,none),(6,isP b4 0,none),(10,(tL tRef).va q11,none),(11,isI .i64 i14,none),(12,(tL tCol).va q15,none),(13,isI .i64 i16,none),(15,(tL tVal).va q17.1,none),(17,(tL tVal).va q18.1,none),(18,isB q18.2,none),(19,isI .i64 i20,none),(20,isB i22,none),(21,isI .i64 i23,none)],[boxO b4 tBase q3.1 [],boxO b2 tBase q1.1 []]⟩ (f1013_l4 fu q1 q11 i14 q15 q17 q18 i20 (f1013_l1 fu q1 q3 q11 n1001) (f1013_l2 fu q1 q3 q11 i14 q15 (f1013_l1 fu q1 q3 q11 n1001) n1002) (f1013_l3 fu q1 q11 i14 q15 i16 q17 q18 (f1013_l1 fu q1 q3 q11 n1001) (f1013_l2 fu q1 q3 q11 i14 q15 (f1013_l1 fu q1 q3 q11 n1001) n1002) n1003) n1004 i22 i23) from ?_) fu _ _
              intro n1004
              induction n1004 with
              | zero=>exact fun _ _=>.stop
              | succ n1004 ih4=>
               intro i22 i23
               refine .inLoop<|.seq<|.s<|go ?_
               refine .cd z ?_ ?_
               ·refine .skip<|.seq<|.block<|.join1 (fun i24=>⟨[(3,isP b2 0,none),(6,isP b4 0,none),(10,(tL tRef).va q11,none),(11,isI .i64 i14,none),(12,(tL tCol).va q15,none),(13,isI .i64 i16,none),(15,(tL tVal).va q17.1,none),(17,(tL tVal).va q18.1,none),(18,isB q18.2,none),(19,isI .i64 i20,none),(20,isB i24,none),(21,isI .i64 i23,none)],[boxO b4 tBase q3.1 [],boxO b2 tBase q1.1 []]⟩) (fun i24=>f1013_j35 i23 (f1013_l1 fu q1 q3 q11 n1001) (f1013_l2 fu q1 q3 q11 i14 q15 (f1013_l1 fu q1 q3 q11 n1001) n1002) (f1013_l3 fu q1 q11 i14 q15 i16 q17 q18 (f1013_l1 fu q1 q3 q11 n1001) (f1013_l2 fu q1 q3 q11 i14 q15 (f1013_l1 fu q1 q3 q11 n1001) n1002) n1003) (f1013_l4 fu q1 q11 i14 q15 q17 q18 i20 (f1013_l1 fu q1 q3 q11 n1001) (f1013_l2 fu q1 q3 q11 i14 q15 (f1013_l1 fu q1 q3 q11 n1001) n1002) (f1013_l3 fu q1 q11 i14 q15 i16 q17 q18 (f1013_l1 fu q1 q3 q11 n1001) (f1013_l2 fu q1 q3 q11 i14 q15 (f1013_l1 fu q1 q3 q11 n1001) n1002) n1003) n1004) i24) (fun i24=>?_) (fun hj35=>?_)
                ·exact fj (ih4 _ _)
                ·refine .pcond (fun h237=>?_) (fun h237=>?_)
                 ·exact .draw 50 [] mix (by kernel_rfl) sts z<|fj (hj35 _)
                 ·refine .pT fun h238=>.pT fun h239=>.pcond (fun h240=>?_) (fun h240=>?_)
                  ·refine .pT fun h241=>.pT fun h242=>.pcond (fun h243=>?_) (fun h243=>?_)
                   ·refine .pT fun h244=>.pcond (fun h245=>?_) (fun h245=>?_)
                    ·exact .pT fun h246=>.pT fun h247=>.draw 50 [] mix (by kernel_rfl) sts z<|.on z z<|.call0 (c1047 fu _ _ _) n1047 z z fun q25=>fj (hj35 _)
                    ·exact .draw 50 [] mix (by kernel_rfl) sts z<|fj (hj35 _)
                   ·exact .draw 50 [] mix (by kernel_rfl) sts z<|fj (hj35 _)
                  ·exact .draw 50 [] mix (by kernel_rfl) sts z<|fj (hj35 _)
               ·refine .exit z<|.seq<|.join1 (fun i26=>⟨[(3,isP b2 0,none),(6,isP b4 0,none),(10,(tL tRef).va q11,none),(11,isI .i64 i14,none),(12,(tL tCol).va q15,none),(13,isI .i64 i16,none),(15,(tL tVal).va q17.1,none),(17,(tL tVal).va q18.1,none),(18,isB q18.2,none),(19,isI .i64 i20,none),(243,isB i26,none)],[boxO b4 tBase q3.1 [],boxO b2 tBase q1.1 []]⟩) (fun i26=>f1013_j36 i20 (f1013_l1 fu q1 q3 q11 n1001) (f1013_l2 fu q1 q3 q11 i14 q15 (f1013_l1 fu q1 q3 q11 n1001) n1002) (f1013_l3 fu q1 q11 i14 q15 i16 q17 q18 (f1013_l1 fu q1 q3 q11 n1001) (f1013_l2 fu q1 q3 q11 i14 q15 (f1013_l1 fu q1 q3 q11 n1001) n1002) n1003) (f1013_l4 fu q1 q11 i14 q15 q17 q18 i20 (f1013_l1 fu q1 q3 q11 n1001) (f1013_l2 fu q1 q3 q11 i14 q15 (f1013_l1 fu q1 q3 q11 n1001) n1002) (f1013_l3 fu q1 q11 i14 q15 i16 q17 q18 (f1013_l1 fu q1 q3 q11 n1001) (f1013_l2 fu q1 q3 q11 i14 q15 (f1013_l1 fu q1 q3 q11 n1001) n1002) n1003) n1004) i26) (fun i26=>?_) (fun hj36=>?_)
                ·refine .cd z ?_ ?_
                 ·exact fr
                 ·exact fj (ih3 _)
                ·refine .pcond (fun h248=>?_) (fun h248=>?_)
                 ·refine .pT fun h249=>.pcond (fun h250=>?_) (fun h250=>?_)
                  ·exact .draw 21 [] mix (by kernel_rfl) (.j (fun o=>.m (o z) z)<|.k (fun p e h=>.m (e.op z) z<|.noV<|.useEq h248 h)<|.k (fun p e h=>.on z (e _ _ z)<|.m (e.op z) z<|h)<|.k (fun p e h=>.on z (e _ _ z)<|.m (e.op z) z<|h)<|.k (fun p e h=>.on z (e _ _ z)<|.useC h249<|.elemAt (e.op z) (e.op z) u76 ty47 z<|h)<|.k (fun p e h=>.on z (e _ _ z)<|.load (e.op z) ty47 z<|h)<|.k (fun p e h=>.on z (e _ _ z)<|.build z st47 z47 (.nil) z<|h)<|.k (fun p e h=>.on z (e _ _ z)<|.neT eq47 (e.op z) (e.op z) z<|h)<|.j (fun o=>.pickT (o z) (o z) z)<|.k (fun p e h=>.m (e.op z) z<|.noV<|.useEq h250 h)<|.f z z z<|.f z z z<|.f z z z<|.k (fun p e=>.offU z (e _ _ z) z)<|.k (fun p e=>.offU z (e _ _ z) z)<|.k (fun p e=>.offU z (e _ _ z) z)<|.k (fun p e=>.offU z (e _ _ z) z)<|.k (fun p e=>.offU z (e _ _ z) z)<|.k (fun p e=>.offU z (e _ _ z) z)<|.k (fun p e=>.offU z (e _ _ z) z)<|.k (fun p e=>.offU z (e _ _ z) z)<|.nil) z<|fj (hj36 _)
                  ·refine .pcond (fun h251=>?_) (fun h251=>?_)
                   ·exact .pT fun h252=>.pT fun h253=>.draw 21 [] mix (by kernel_rfl) (.j (fun o=>.m (o z) z)<|.k (fun p e h=>.m (e.op z) z<|.noV<|.useEq h248 h)<|.k (fun p e h=>.on z (e _ _ z)<|.m (e.op z) z<|h)<|.k (fun p e h=>.on z (e _ _ z)<|.m (e.op z) z<|h)<|.k (fun p e h=>.on z (e _ _ z)<|.useC h249<|.elemAt (e.op z) (e.op z) u76 ty47 z<|h)<|.k (fun p e h=>.on z (e _ _ z)<|.load (e.op z) ty47 z<|h)<|.k (fun p e h=>.on z (e _ _ z)<|.build z st47 z47 (.nil) z<|h)<|.k (fun p e h=>.on z (e _ _ z)<|.neT eq47 (e.op z) (e.op z) z<|h)<|.j (fun o=>.pickT (o z) (o z) z)<|.k (fun p e h=>.m (e.op z) z<|.noV<|.useEq h250 h)<|.k (fun p e h=>.on z (e _ _ z)<|.m (e.op z) z<|h)<|.k (fun p e h=>.on z (e _ _ z)<|.not (e.op z) z<|h)<|.k (fun p e h=>.on z (e _ _ z)<|.m (e.op z) z<|.noV<|.useEq h251 h)<|.k (fun p e h=>.on z (e _ _ z)<|.m (e.op z) z<|h)<|.k (fun p e h=>.on z (e _ _ z)<|.m (e.op z) z<|h)<|.k (fun p e h=>.on z (e _ _ z)<|.useC h252<|.elemAt (e.op z) (e.op z) u76 ty47 z<|h)<|.k (fun p e h=>.on z (e _ _ z)<|.load (e.op z) ty47 z<|h)<|.k (fun p e h=>.on z (e _ _ z)<|.m (e.op z) z<|h)<|.k (fun p e h=>.on z (e _ _ z)<|.m (e.op z) z<|h)<|.k (fun p e h=>.on z (e _ _ z)<|.useC h253<|.elemAt (e.op z) (e.op z) u76 ty47 z<|h)<|.k (fun p e h=>.on z (e _ _ z)<|.load (e.op z) ty47 z<|h)<|.nil) z<|.on z z<|.neT eq47 z z z<|fj (hj36 _)
                   ·exact .draw 21 [] mix (by kernel_rfl) (.j (fun o=>.m (o z) z)<|.k (fun p e h=>.m (e.op z) z<|.noV<|.useEq h248 h)<|.k (fun p e h=>.on z (e _ _ z)<|.m (e.op z) z<|h)<|.k (fun p e h=>.on z (e _ _ z)<|.m (e.op z) z<|h)<|.k (fun p e h=>.on z (e _ _ z)<|.useC h249<|.elemAt (e.op z) (e.op z) u76 ty47 z<|h)<|.k (fun p e h=>.on z (e _ _ z)<|.load (e.op z) ty47 z<|h)<|.k (fun p e h=>.on z (e _ _ z)<|.build z st47 z47 (.nil) z<|h)<|.k (fun p e h=>.on z (e _ _ z)<|.neT eq47 (e.op z) (e.op z) z<|h)<|.j (fun o=>.pickT (o z) (o z) z)<|.k (fun p e h=>.m (e.op z) z<|.noV<|.useEq h250 h)<|.k (fun p e h=>.on z (e _ _ z)<|.m (e.op z) z<|h)<|.k (fun p e h=>.on z (e _ _ z)<|.not (e.op z) z<|h)<|.k (fun p e h=>.on z (e _ _ z)<|.m (e.op z) z<|.noV<|.useEq h251 h)<|.f z z z<|.f z z z<|.f z z z<|.f z z z<|.f z z z<|.f z z z<|.f z z z<|.f z z z<|.nil) z<|fj (hj36 _)
                 ·refine .pcond (fun h254=>?_) (fun h254=>?_)
                  ·exact .pT fun h255=>.pT fun h256=>.draw 21 [] mix (by kernel_rfl) sts z<|.on z z<|.neT eq47 z z z<|fj (hj36 _)
                  ·rw [h248] at h254;cases h254
             ·exact fj (ih2 _)
            ·refine .g<|go ?_
             refine .split 155 z (fun _=>?_) (fun _=>?_)
             ·exact fj (hj33 _)
             ·exact fj (hj33 _)
         ·exact fj (ih1 _)
       ·refine .exit z<|.seq<|.join1 (fun i27=>⟨[(2,isB i27,none)],[]⟩) (fun i27=>f1013_j37 (f1013_l1 fu q1 q3 q11 n1001) i27) (fun i27=>?_) (fun hj37=>?_)
        ·exact fr
        ·refine .g<|go ?_
         refine .call0 (c1020 fu _) n1020 z z fun q28=>.m z z<|.split 246 z (fun _=>?_) (fun _=>?_)
         ·refine go ?_
          refine .call0 (c1026 fu _) n1026 z z fun q29=>go ?_
          refine .split 250 z (fun _=>?_) (fun _=>?_)
          ·exact fj (hj37 _)
          ·exact fj (hj37 _)
         ·exact fj (hj37 _)
  ·refine .g<|go ?_
   refine .split 48 z (fun _=>?_) (fun _=>?_)
   ·exact fj (hj1 _)
   ·refine go ?_
    exact .call0 (c1018 fu _ _) n1018 z z fun q30=>fj (hj1 _)
end Go.Proofs.YtdpigighgmipfaaGreatDoor
