/- Functions of the program: what each answers, and that the machine answers so. -/
import Derived.Test.YtganfdhmkdehlaaGreatDoorQ2004B19
import Derived.KernelRfl
set_option linter.all false
namespace Go.Proofs.YtganfdhmkdehlaaGreatDoor
open Go Go.HL Tryz
attribute [local irreducible] W WO
theorem C9 {ρ α:Type}{T:Ty α}{P:Program}{k:FuncId}{Q0:VA}{O:List Own}{y:Option ρ}{O':ρ→Value→List Own}{Q:ρ→VA}(h:Ctr P k [Q0,(tL T).va []] O y O' Q):Ctr P k [Q0,isV (.slice none 0 0)] O y O' Q:=
 fun q hq A w args hp ha=>h q hq A w args hp (by
  cases ha with
  | cons h1 h2=>cases h2 with
   | cons h3 h4=>cases h3;exact .cons h1 (.cons (aG T _ _) h4))
def dP (i13:Bool):Option Bool:=some i13
noncomputable def jZ (fu:Nat) (q1:ac×bj) (q4:ac×Int) (q6:ac×Int) (i8:Bool):Option Bool:=cond i8 (some (decide (q4.2=q6.2))) ((sJ fu q1.1 ([q1.2]:List bj)).bind fun q9=>(sJ fu q1.1 []).bind fun q11=>cond (decide (q4.2=q9.2.1)) ((qm fu q4.1 q9.1).bind fun q14=>cond q14 (cond ((decide (q9.2.2=1)) == (decide (q4.2=0))) (cond (decide (q11.2.1=0)) (cond (decide (q11.2.2=0)) ((qm fu q11.1 q1.1).bind fun q15=>dP q15) (dP false)) (dP false)) (dP false)) (dP false)) (dP false))
noncomputable def xn (fu:Nat) (a0:List Int):Option Bool:=cond (decide (1048576 < (a0.length:Int))) (some true) ((uS fu a0).bind fun q1=>(sI fu q1.1 q1.2).bind fun q4=>(uR fu q1.1 q1.2).bind fun q6=>cond (!decide (q4.2=q6.2)) (jZ fu q1 q4 q6 true) ((jm fu q1.1).bind fun q16=>jZ fu q1 q4 q6 (!q16)))
attribute [local semireducible] W WO
theorem c2004 (fu:Nat)(a0:List Int):Ctr prog 4 [(tL (tI .u8)).va a0] [] (xn fu a0) (fun _ _=>[]) (fun q=>isB q):=by
 refine Ctr.of_W func4 z ntmps4 z fun A w=>?_
 unfold xn
 refine .s<|.an z z<|.seq<|.s<|.m z z<|.lenL z u22 z<|.bin z z z z<|.nil<|.cd z ?_ ?_
 ·exact .s<|.an z z<|.ret1 func4 results4 (.tmp z) z (fun _ _=>.e)
 ·refine .skip<|.s<|.m z z<|.call0 (c2014 fu _) n2014 z z fun q1=>.m z z<|.extract z z z<|.extract z z z<|.alloc tBase d0_1026 [] dn z fun b2=>.alloc tDeed d0_2046 [] z2046 z fun b3=>.storeP 1 (Fld.self _) z z z al<|.storeP 0 (Fld.self _) z z z l6<|.nil<|.s<|.lp 1 (Fld.self _) z z al z<|.lp 0 (Fld.self _) z z l6 z<|.call0 (c2015 fu _ _) n2015 z z fun q4=>.m z z<|.extract z z z<|.extract z z z<|.alloc tBase d0_1026 [] dn z fun b5=>.storeP 0 (Fld.self _) z z z al<|.an z z<|.s<|.lp 2 (Fld.self _) z z al z<|.lp 1 (Fld.self _) z z l6 z<|.call0 (c2016 fu _ _) n2016 z z fun q6=>.m z z<|.extract z z z<|.extract z z z<|.alloc tBase d0_1026 [] dn z fun b7=>.storeP 0 (Fld.self _) z z z al<|.an z z<|.seq<|.seq<|.join1 (fun i8=>⟨[(3,isP b2 0,none),(4,isP b3 0,none),(5,isP b5 0,none),(6,isI .i64 q4.2,none),(8,isI .i64 q6.2,none),(42,isB i8,none)],[boxO b5 tBase q4.1 [],boxO b3 tDeed q1.2 [],boxO b2 tBase q1.1 []]⟩) (fun i8=>jZ fu q1 q4 q6 i8) (fun i8=>?_) (fun hj1=>?_)
  ·refine .cd z ?_ ?_
   ·exact .s<|.m z z<|.m z z<|.bin z z z z<|.an z z<|.ret1 func4 results4 (.tmp z) z (fun _ _=>.c<|.c<|.c<|.e)
   ·refine .skip<|.s<|.lp 2 (Fld.self _) z z al z<|.lp 1 (Fld.self _) z z l6 z<|.litN (T:=tDeed) u32 BI z z (.cons z<|.nil) z<|.call0 (c2012 fu _ _) n2012 z z fun q9=>.m z z<|.extract z z z<|.extract z z z<|.extract z z z<|.alloc tBase d0_1026 [] dn z fun b10=>.storeP 0 (Fld.self _) z z z al<|.a z z<|.an z z<|.s<|.lp 3 (Fld.self _) z z al z<|.call0 (C9 (T:=tDeed) (c2012 fu _ [])) n2012 z z fun q11=>.m z z<|.extract z z z<|.extract z z z<|.extract z z z<|.alloc tBase d0_1026 [] dn z fun b12=>.storeP 0 (Fld.self _) z z z al<|.a z z<|.an z z<|.seq<|.join1 (fun i13=>⟨[(2,isB i13,none)],[]⟩) (fun i13=>dP i13) (fun i13=>?_) (fun hj2=>?_)
    ·exact .ret1 func4 results4 (.tmp z) z (fun _ _=>.e)
    ·refine .g<|.m z z<|.m z z<|.bin z z z z<|.m z z<|.split 63 z (fun _=>?_) (fun _=>?_)
     ·refine .on z z<|.lp 2 (Fld.self _) z z al z<|.on z z<|.lp 1 (Fld.self _) z z al z<|.on z z<|.call0 (c1018 fu _ _) n1018 z z fun q14=>.pickT z z z<|.m z z<|.split 68 z (fun _=>?_) (fun _=>?_)
      ·refine .on z z<|.m z z<|.on z z<|.bin z z z z<|.on z z<|.m z z<|.on z z<|.bin z z z z<|.on z z<|.beq z z u4 z<|.pickT z z z<|.m z z<|.split 75 z (fun _=>?_) (fun _=>?_)
       ·refine .on z z<|.m z z<|.on z z<|.bin z z z z<|.pickT z z z<|.m z z<|.split 79 z (fun _=>?_) (fun _=>?_)
        ·refine .on z z<|.m z z<|.on z z<|.bin z z z z<|.pickT z z z<|.m z z<|.split 83 z (fun _=>?_) (fun _=>?_)
         ·exact .on z z<|.lp 0 (Fld.self _) z z al z<|.on z z<|.lp 4 (Fld.self _) z z al z<|.on z z<|.call0 (c1018 fu _ _) n1018 z z fun q15=>.pickT z z z<|.an z z<|.keep [2] [] z (.drop (.c<|.c<|.c<|.c<|.c<|.e)<|hj2 _)
         ·exact .off z z z<|.off z z z<|.off z z z<|.pickF z z z<|.an z z<|.keep [2] [] z (.drop (.c<|.c<|.c<|.c<|.c<|.e)<|hj2 _)
        ·exact .off z z z<|.off z z z<|.pickF z z z<|.m z z<|.off z z z<|.off z z z<|.off z z z<|.pickF z z z<|.an z z<|.keep [2] [] z (.drop (.c<|.c<|.c<|.c<|.c<|.e)<|hj2 _)
       ·exact .off z z z<|.off z z z<|.pickF z z z<|.m z z<|.off z z z<|.off z z z<|.pickF z z z<|.m z z<|.off z z z<|.off z z z<|.off z z z<|.pickF z z z<|.an z z<|.keep [2] [] z (.drop (.c<|.c<|.c<|.c<|.c<|.e)<|hj2 _)
      ·exact .off z z z<|.off z z z<|.off z z z<|.off z z z<|.off z z z<|.pickF z z z<|.m z z<|.off z z z<|.off z z z<|.pickF z z z<|.m z z<|.off z z z<|.off z z z<|.pickF z z z<|.m z z<|.off z z z<|.off z z z<|.off z z z<|.pickF z z z<|.an z z<|.keep [2] [] z (.drop (.c<|.c<|.c<|.c<|.c<|.e)<|hj2 _)
     ·exact .off z z z<|.off z z z<|.off z z z<|.pickF z z z<|.m z z<|.off z z z<|.off z z z<|.off z z z<|.off z z z<|.off z z z<|.pickF z z z<|.m z z<|.off z z z<|.off z z z<|.pickF z z z<|.m z z<|.off z z z<|.off z z z<|.pickF z z z<|.m z z<|.off z z z<|.off z z z<|.off z z z<|.pickF z z z<|.an z z<|.keep [2] [] z (.drop (.c<|.c<|.c<|.c<|.c<|.e)<|hj2 _)
  ·refine .g<|.m z z<|.m z z<|.bin z z z z<|.m z z<|.split 38 z (fun _=>?_) (fun _=>?_)
   ·exact .off z z z<|.off z z z<|.off z z z<|.pickT z z z<|.nil<|.keep [3,4,5,6,8,42] [] z (.drop (.c<|.d<|.d<|.d<|.e)<|hj1 _)
   ·exact .on z z<|.lp 3 (Fld.self _) z z al z<|.on z z<|.call0 (c1019 fu _) n1019 z z fun q16=>.on z z<|.not z z<|.pickF z z z<|.nil<|.keep [3,4,5,6,8,42] [] z (.drop (.c<|.d<|.d<|.d<|.e)<|hj1 _)
attribute [local irreducible] W WO
end Go.Proofs.YtganfdhmkdehlaaGreatDoor
