/- Laws of bases that take rows away: what they answer, and that the machine answers so. -/
import Derived.Test.YtdpigighgmipfaaGreatDoorQ1014B11
import Derived.Test.YtdpigighgmipfaaGreatDoorQ1014AU
import Derived.KernelRfl
set_option linter.all false
namespace Go.Proofs.YtdpigighgmipfaaGreatDoor
open Go Go.HL Tryz
attribute [local irreducible] W WO
noncomputable def f1014_j2 (i8:Bool):Option Bool:=some i8
noncomputable def f1014_j3 (i16:Bool):Option Bool:=some i16
noncomputable def f1014_j1 (fu:Nat) (q1:Base×(List UInt8)×(List Set)) (q3:Base×Int) (q5:Base×Int) (i7:Bool):Option Bool:=cond i7 (cond (decide (q3.2=q5.2)) ((f1018 fu q3.1 q5.1).bind fun q9=>f1014_j2 q9) (f1014_j2 false)) ((f1038 fu q1.1 ([122,122,122]:List UInt8) 1 q1.2.2).bind fun q10=>(f1028 fu q1.1 ([122,122,122]:List UInt8) 1).bind fun q12=>(f1033 fu q1.1 ([122,122,122]:List UInt8) (⟨2,([97]:List UInt8),d0_56.new,d0_56.col⟩:Change)).bind fun q14=>cond (decide (q3.2=5)) (cond (decide (q10.2=5)) (cond (decide (q12.2=5)) (cond (decide (q14.2=5)) ((f1018 fu q3.1 q1.1).bind fun q17=>cond q17 ((f1031 fu q1.1 ([122,122,122]:List UInt8) 1).bind fun q18=>f1014_j3 (decide ((q18.length:Int)=0))) (f1014_j3 false)) (f1014_j3 false)) (f1014_j3 false)) (f1014_j3 false)) (f1014_j3 false))
noncomputable def f1014 (fu:Nat) (a0:List Int):Option Bool:=cond (decide (1048576 < (a0.length:Int))) (some true) ((f1040 fu a0).bind fun q1=>(f1041 fu q1.1 ([122,122,122]:List UInt8) q1.2.2).bind fun q3=>(f1042 fu q1.1 ([122,122,122]:List UInt8) q1.2.2).bind fun q5=>cond (!decide (q3.2=q5.2)) (f1014_j1 fu q1 q3 q5 true) ((f1018 fu q3.1 q5.1).bind fun q19=>cond (!q19) (f1014_j1 fu q1 q3 q5 true) ((f1019 fu q1.1).bind fun q20=>f1014_j1 fu q1 q3 q5 (!q20))))
theorem c1014 (fu:Nat)(a0:List Int):Ctr prog 14 [(tL (tI .u8)).va a0] [] (f1014 fu a0) (fun _ _=>[]) (fun q=>isB q):=by
 refine .w func14 ntmps14 fun hf A w=>?_
 unfold f1014
 refine .s<|.an z z<|.seq<|.s<|go ?_
 refine .cd z ?_ ?_
 ·exact fr
 ·refine .skip<|.s<|.m z z<|.call0 (c1040 fu _) n1040 z z fun q1=>go ?_
  refine .alloc tBase d0_1026 [] z1026 z fun b2=>go ?_
  refine .s<|go ?_
  refine .call0 (c1041 fu _ _ _) n1041 z z fun q3=>go ?_
  refine .alloc tBase d0_1026 [] z1026 z fun b4=>go ?_
  refine .s<|go ?_
  refine .call0 (c1042 fu _ _ _) n1042 z z fun q5=>go ?_
  refine .alloc tBase d0_1026 [] z1026 z fun b6=>go ?_
  refine .seq<|.seq<|.join1 (fun i7=>⟨[(3,isP b2 0,none),(5,(tL tSet).va q1.2.2,none),(6,isP b4 0,none),(7,isI .i64 q3.2,none),(8,isP b6 0,none),(9,isI .i64 q5.2,none),(50,isB i7,none)],[boxO b6 tBase q5.1 [],boxO b4 tBase q3.1 [],boxO b2 tBase q1.1 []]⟩) (fun i7=>f1014_j1 fu q1 q3 q5 i7) (fun i7=>?_) (fun hj1=>?_)
  ·refine .cd z ?_ ?_
   ·refine .seq<|.join1 (fun i8=>⟨[(2,isB i8,none)],[]⟩) (fun i8=>f1014_j2 i8) (fun i8=>?_) (fun hj2=>?_)
    ·exact fr
    ·refine .g<|go ?_
     refine .split 54 z (fun _=>?_) (fun _=>?_)
     ·refine go ?_
      exact .call0 (c1018 fu _ _) n1018 z z fun q9=>fj (hj2 _)
     ·exact fj (hj2 _)
   ·refine .skip<|.s<|go ?_
    refine .call0 (c1038 fu _ _ _ _) n1038 z z fun q10=>go ?_
    refine .alloc tBase d0_1026 [] z1026 z fun b11=>go ?_
    refine .s<|go ?_
    refine .call0 (c1028 fu _ _ _) n1028 z z fun q12=>go ?_
    refine .alloc tBase d0_1026 [] z1026 z fun b13=>go ?_
    refine .s<|go ?_
    refine .call0 (c1033 fu _ _ _) n1033 z z fun q14=>go ?_
    refine .alloc tBase d0_1026 [] z1026 z fun b15=>go ?_
    refine .seq<|.join1 (fun i16=>⟨[(2,isB i16,none)],[]⟩) (fun i16=>f1014_j3 i16) (fun i16=>?_) (fun hj3=>?_)
    ·exact fr
    ·refine .g<|go ?_
     refine .split 78 z (fun _=>?_) (fun _=>?_)
     ·refine go ?_
      refine .split 82 z (fun _=>?_) (fun _=>?_)
      ·refine go ?_
       refine .split 86 z (fun _=>?_) (fun _=>?_)
       ·refine go ?_
        refine .split 90 z (fun _=>?_) (fun _=>?_)
        ·refine go ?_
         refine .call0 (c1018 fu _ _) n1018 z z fun q17=>go ?_
         refine .split 95 z (fun _=>?_) (fun _=>?_)
         ·refine go ?_
          exact .call0 (c1031 fu _ _ _) n1031 z z fun q18=>fj (hj3 _)
         ·exact fj (hj3 _)
        ·exact fj (hj3 _)
       ·exact fj (hj3 _)
      ·exact fj (hj3 _)
     ·exact fj (hj3 _)
  ·refine .g<|go ?_
   refine .split 40 z (fun _=>?_) (fun _=>?_)
   ·exact fj (hj1 _)
   ·refine go ?_
    refine .call0 (c1018 fu _ _) n1018 z z fun q19=>go ?_
    refine .split 46 z (fun _=>?_) (fun _=>?_)
    ·exact fj (hj1 _)
    ·refine go ?_
     exact .call0 (c1019 fu _) n1019 z z fun q20=>fj (hj1 _)
end Go.Proofs.YtdpigighgmipfaaGreatDoor
