/- What functions answer. -/
import Derived.Test.YtganfdhmkdehlaaGreatDoorQ2007B6
import Derived.KernelRfl
set_option linter.all false
namespace Go.Proofs.YtganfdhmkdehlaaGreatDoor
open Go Go.HL Tryz
attribute [local irreducible] W WO
def kP (fu:Nat)(a0:ac)(a1:aj)(q5:ac)(i8:Bool):Option (ac×Int):=cond i8 (some (q5,1)) ((qT fu a0 a1).bind fun q9=>cond (!q9) (some (q5,7)) (cond (decide ((a0.links.length:Int)=4)) (some (q5,4)) (cond (decide (q5.links.length+List.length ([a1]:List aj)≤CAP)) ((tv (q5.links++([a1]:List aj))).bind fun q11=>some ((⟨q5.tabs,q11⟩:ac),0)) none)))
def wk (fu:Nat)(a0:ac)(a1:aj):Option (ac×Int):=(lS fu a0).bind fun q4=>cond (!q4) (some ((⟨([]:List Tab),([]:List aj)⟩:ac),1)) ((eE fu a0).bind fun q5=>(tw fu a0 a1).bind fun q13=>cond (!q13) (kP fu a0 a1 q5 true) ((qS fu a0 a1.from_ a1.col).bind fun q14=>kP fu a0 a1 q5 (decide (0≤q14))))
theorem Fa:Nm prog 43:=nmK func43
theorem Gz (fu:Nat)(a0:ac)(a1:aj):Ctr prog 43 [tBase.va a0,tLink.va a1] [] (wk fu a0 a1) (fun _ _=>[]) (fun q=>tup [tBase.va q.1,isI .i64 q.2]):=by
 refine .w func43 ntmps43 fun hf A w=>?_
 unfold wk
 refine .s<|.box (T:=tBase) z z fun b1=>.box (T:=tLink) z z fun b2=>.alloc tBaseA av [] aA z fun b3=>.an z z<|.seq<|.s<|go ?_
 refine .call0 (rd fu _) qj z z fun q4=>.not z z<|.nil<|.cd z ?_ ?_
 ·exact .s<|.buildA z dL aA (.nil) z<|.storeP 0 (Fld.self _) z z z ao<|.arrNil tTab<|.arrNil tLink<|.an z z<|.frzBox 2 1 conv1026_0 z z<|.frzBox 2 0 conv1026_1 z z<|fr
 ·refine .skip<|.s<|go ?_
  refine .callL0 (gv fu _) gr z z fun q5 p6=>.alloc tBaseA av [] aA z fun b7=>go ?_
  refine .seq<|.block<|.seq<|.join1 (fun i8=>⟨[(2,isP b1 0,none),(3,isP b2 0,none),(4,isP b3 0,none),(6,isP b7 0,none),(13,isB i8,none)],[boxO b7 tBaseA (⟨p6.1,p6.2⟩:aL) [],arrO tTab p6.1 q5.tabs,arrO tLink p6.2 q5.links,boxO b3 tBaseA (⟨(.slice none 0 0),(.slice none 0 0)⟩:aL) [],boxO b2 tLink a1 [],boxO b1 tBase a0 []]⟩) (fun i8=>kP fu a0 a1 q5 i8) (fun i8=>?_) (fun hj1=>?_)
  ·refine .cd z ?_ ?_
   ·refine .s<|go ?_
    exact .frzBox 3 1 conv1026_0 z z<|.frzBox 3 2 conv1026_1 z z<|fr
   ·refine .s<|go ?_
    refine .call0 (Bc fu _ _) Ai z z fun q9=>go ?_
    refine .cd z ?_ ?_
    ·refine .s<|go ?_
     exact .frzBox 3 1 conv1026_0 z z<|.frzBox 3 2 conv1026_1 z z<|fr
    ·refine .s<|go ?_
     refine .cd z ?_ ?_
     ·refine .s<|go ?_
      exact .frzBox 3 1 conv1026_0 z z<|.frzBox 3 2 conv1026_1 z z<|fr
     ·refine .skip<|.inBlock<|.s<|go ?_
      refine .appA (T:=tLink) 2 z z z u27 gG z fun v10=>.frz 2 44 z z<|.callL0 (y3 _) xC z z fun q11 v12=>.unRaw 45 z<|.fp z ci z<|.toRaw (T:=tLink) 0 45 z z<|go ?_
      refine .s<|go ?_
      exact .frzBox 4 2 conv1026_0 z z<|.frzBox 4 0 conv1026_1 z z<|fr
  ·refine .g<|go ?_
   refine .call0 (Dp fu _ _) Cf z z fun q13=>go ?_
   refine .split 18 z (fun _=>?_) (fun _=>?_)
   ·exact fj (hj1 _)
   ·refine go ?_
    exact .call0 (Bb fu _ _ _) Ah z z fun q14=>fj (hj1 _)
end Go.Proofs.YtganfdhmkdehlaaGreatDoor
