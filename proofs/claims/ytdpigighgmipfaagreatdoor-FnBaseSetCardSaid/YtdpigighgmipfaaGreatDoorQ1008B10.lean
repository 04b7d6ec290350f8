/- Functions of the program: what each answers, and that the machine answers so. -/
import Derived.Test.YtdpigighgmipfaaGreatDoorQ1008B9
import Derived.KernelRfl
set_option linter.all false
namespace Go.Proofs.YtdpigighgmipfaaGreatDoor
open Go Go.HL Tryz
def f1008_j2 (i9:Bool):Option Bool:=some i9
def f1008_j5 (i12:Int)(rec1:Int→Option Bool)(i13:Bool):Option Bool:=cond i13 (some false) (rec1 (IntKind.i64.wrap (i12+1)))
def f1008_j6 (rec1:Int→Option Bool)(i15:Bool):Option Bool:=some i15
def f1008_l1 (fu:Nat)(q1:Base×(List UInt8)×Int×(List Set))(q3:Base×Int):Nat→Int→Option Bool
 | 0,_=>none
 | n1+1,i12=>cond (decide (i12 < (q1.1.tabs.length:Int))) (cond (decide (0≤i12)&&decide (i12 < (q1.1.tabs.length:Int))) (cond (!decide (((q1.1.tabs.getD i12.toNat default).name)=q1.2.1)) (cond (decide (0≤i12)&&decide (i12 < (q1.1.tabs.length:Int))) (cond (decide (0≤i12)&&decide (i12 < (q3.1.tabs.length:Int))) ((f15 fu ((q1.1.tabs.getD i12.toNat default).table) ((q3.1.tabs.getD i12.toNat default).table)).bind fun q14=>f1008_j5 i12 (f1008_l1 fu q1 q3 n1) (!q14)) none) none) (f1008_j5 i12 (f1008_l1 fu q1 q3 n1) false)) none) ((f1020 fu q3.1).bind fun q16=>cond q16 ((f1026 fu q3.1).bind fun q17=>cond q17 (f1008_j6 (f1008_l1 fu q1 q3 n1) (decide ((q3.1.tabs.length:Int)=(q1.1.tabs.length:Int)))) (f1008_j6 (f1008_l1 fu q1 q3 n1) false)) (f1008_j6 (f1008_l1 fu q1 q3 n1) false))
def f1008_j1 (fu:Nat)(q1:Base×(List UInt8)×Int×(List Set))(q3:Base×Int)(i7:Bool):Option Bool:=cond i7 (some false) ((f1019 fu q1.1).bind fun q8=>cond (!q8) (cond (decide (q3.2=1)) ((f1018 fu q3.1 (⟨d0_1026.tabs,d0_1026.links⟩:Base)).bind fun q10=>f1008_j2 q10) (f1008_j2 false)) (cond (!decide (q3.2=0)) ((f1018 fu q3.1 q1.1).bind fun q11=>some q11) (f1008_l1 fu q1 q3 fu 0)))
def f1008 (fu:Nat)(a0:List Int):Option Bool:=cond (decide (1048576 < (a0.length:Int))) (some true) ((f1037 fu a0).bind fun q1=>(f1038 fu q1.1 q1.2.1 q1.2.2.1 q1.2.2.2).bind fun q3=>(f1039 fu q1.1 q1.2.1 q1.2.2.1 q1.2.2.2).bind fun q5=>cond (!decide (q3.2=q5.2)) (f1008_j1 fu q1 q3 true) ((f1018 fu q3.1 q5.1).bind fun q18=>f1008_j1 fu q1 q3 (!q18)))
theorem c1008 (fu:Nat)(a0:List Int):Ctr prog 8 [(tL (tI .u8)).va a0] [] (f1008 fu a0) (fun _ _=>[]) (fun q=>isB q):=by
 refine Ctr.of_W func8 z ntmps8 z fun A w=>?_
 unfold f1008
 refine .s<|.an z z<|.seq<|.s<|.m z z<|.lenL z u22 z<|.bin z z z z<|.nil<|.cd z ?_ ?_
 ·exact .s<|.an z z<|.ret1 func8 results8 (.tmp z) z (fun _ _=>.e)
 ·refine .skip<|.s<|.m z z<|.call0 (c1037 fu _) n1037 z z fun q1=>.m z z<|.extract z z z<|.extract z z z<|.extract z z z<|.extract z z z<|.alloc tBase d0_1026 [] z1026 z fun b2=>.storeP 0 (Fld.self _) z z z ty1026<|.a z z<|.a z z<|.an z z<|.s<|.lp 0 (Fld.self _) z z ty1026 z<|.m z z<|.m z z<|.m z z<|.call0 (c1038 fu _ _ _ _) n1038 z z fun q3=>.m z z<|.extract z z z<|.extract z z z<|.alloc tBase d0_1026 [] z1026 z fun b4=>.storeP 0 (Fld.self _) z z z ty1026<|.an z z<|.s<|.lp 1 (Fld.self _) z z ty1026 z<|.m z z<|.m z z<|.m z z<|.call0 (c1039 fu _ _ _ _) n1039 z z fun q5=>.m z z<|.extract z z z<|.extract z z z<|.alloc tBase d0_1026 [] z1026 z fun b6=>.storeP 0 (Fld.self _) z z z ty1026<|.an z z<|.seq<|.seq<|.join1 (fun i7=>⟨[(3,isP b2 0,none),(4,isS q1.2.1,none),(7,isP b4 0,none),(8,isI .i64 q3.2,none),(46,isB i7,none)],[boxO b4 tBase q3.1 [],boxO b2 tBase q1.1 []]⟩) (fun i7=>f1008_j1 fu q1 q3 i7) (fun i7=>?_) (fun hj1=>?_)
  ·refine .cd z ?_ ?_
   ·exact .s<|.an z z<|.ret1 func8 results8 (.tmp z) z (fun _ _=>.c<|.c<|.e)
   ·refine .skip<|.seq<|.s<|.lp 1 (Fld.self _) z z ty1026 z<|.call0 (c1019 fu _) n1019 z z fun q8=>.not z z<|.nil<|.cd z ?_ ?_
    ·refine .seq<|.join1 (fun i9=>⟨[(2,isB i9,none)],[]⟩) (fun i9=>f1008_j2 i9) (fun i9=>?_) (fun hj2=>?_)
     ·exact .ret1 func8 results8 (.tmp z) z (fun _ _=>.e)
     ·refine .g<|.m z z<|.bin z z z z<|.m z z<|.split 52 z (fun _=>?_) (fun _=>?_)
      ·exact .on z z<|.lp 0 (Fld.self _) z z ty1026 z<|.on z z<|.build z st1026 z1026 (.nil) z<|.on z z<|.call0 (c1018 fu _ _) n1018 z z fun q10=>.pickT z z z<|.an z z<|.keep [2] [] z (.drop (.c<|.c<|.e)<|hj2 _)
      ·exact .off z z z<|.off z z z<|.off z z z<|.pickF z z z<|.an z z<|.keep [2] [] z (.drop (.c<|.c<|.e)<|hj2 _)
    ·refine .skip<|.seq<|.s<|.m z z<|.bin z z z z<|.nil<|.cd z ?_ ?_
     ·exact .s<|.lp 0 (Fld.self _) z z ty1026 z<|.lp 1 (Fld.self _) z z ty1026 z<|.call0 (c1018 fu _ _) n1018 z z fun q11=>.an z z<|.ret1 func8 results8 (.tmp z) z (fun _ _=>.c<|.c<|.e)
     ·refine .skip<|.seq<|.s<|.an z z<|.block<|.loop<|.keep [3,4,7,11] [] z<|(show ∀ (n1:Nat) (i12:Int),W _ _ _ _ _ ⟨[(3,isP b2 0,none),(4,isS q1.2.1,none),(7,isP b4 0,none),(11,isI .i64 i12,none)],[boxO b4 tBase q3.1 [],boxO b2 tBase q1.1 []]⟩ (f1008_l1 fu q1 q3 n1 i12) from ?_) fu _
      intro n1
      induction n1 with
      | zero=>exact fun _=>.stop
      | succ n1 ih1=>
       intro i12
       refine .inLoop<|.seq<|.s<|.m z z<|.fp z fa1026_0 z<|.lp 1 fBase_0 z z ty1023 z<|.lenL z u23 z<|.bin z z z z<|.nil<|.cd z ?_ ?_
       ·refine .skip<|.seq<|.block<|.seq<|.join1 (fun i13=>⟨[(3,isP b2 0,none),(4,isS q1.2.1,none),(7,isP b4 0,none),(11,isI .i64 i12,none),(92,isB i13,none)],[boxO b4 tBase q3.1 [],boxO b2 tBase q1.1 []]⟩) (fun i13=>f1008_j5 i12 (f1008_l1 fu q1 q3 n1) i13) (fun i13=>?_) (fun hj5=>?_)
        ·refine .cd z ?_ ?_
         ·exact .s<|.an z z<|.ret1 func8 results8 (.tmp z) z (fun _ _=>.c<|.c<|.e)
         ·exact .skip<|.inBlock<|.g<|.m z z<|.bin z z z z<|.an z z<|.keep [3,4,7,11] [] z (ih1 _)
        ·refine .pT fun h5=>?_
         refine .pcond (fun h6=>?_) (fun h6=>?_)
         ·refine .pT fun h7=>?_
          refine .pT fun h8=>?_
          refine .draw 21 [] mix (by kernel_rfl) (.j (fun o=>.fp (o z) fa1026_0 z)<|.k (fun p e=>.lp 1 fBase_0 (e.op z) (p.get z z) ty1023 z)<|.j (fun o=>.m (o z) z)<|.k (fun p e h=>.useC h5<|.elemAt (e.op z) (e.op z) u23 ty1039 z<|h)<|.j (fun o=>.fieldAt fTab_0 (o z) fa1039_0 z)<|.j (fun o=>.load (o z) ty9 z)<|.j (fun o=>.m (o z) z)<|.j (fun o=>.sne (o z) (o z) z)<|.k (fun p e h=>.m (e.op z) z<|.noV<|.useEq h6 h)<|.k (fun p e h=>.on z (e _ _ z)<|.fp (e.op z) fa1026_0 z<|h)<|.k (fun p e h=>.on z (e _ _ z)<|.lp 1 fBase_0 (e.op z) (p.get z z) ty1023 z<|h)<|.k (fun p e h=>.on z (e _ _ z)<|.m (e.op z) z<|h)<|.k (fun p e h=>.on z (e _ _ z)<|.useC h7<|.elemAt (e.op z) (e.op z) u23 ty1039 z<|h)<|.k (fun p e h=>.on z (e _ _ z)<|.fieldAt fTab_1 (e.op z) fa1039_1 z<|h)<|.k (fun p e h=>.on z (e _ _ z)<|.load (e.op z) ty27 z<|h)<|.k (fun p e h=>.on z (e _ _ z)<|.fp (e.op z) fa1026_0 z<|h)<|.k (fun p e h=>.on z (e _ _ z)<|.lp 0 fBase_0 (e.op z) (p.get z z) ty1023 z<|h)<|.k (fun p e h=>.on z (e _ _ z)<|.m (e.op z) z<|h)<|.k (fun p e h=>.on z (e _ _ z)<|.useC h8<|.elemAt (e.op z) (e.op z) u23 ty1039 z<|h)<|.k (fun p e h=>.on z (e _ _ z)<|.fieldAt fTab_1 (e.op z) fa1039_1 z<|h)<|.k (fun p e h=>.on z (e _ _ z)<|.load (e.op z) ty27 z<|h)<|.nil) z<|.on z z<|.call0 (c15 fu _ _) n15 z z fun q14=>.on z z<|.not z z<|.pickT z z z<|.nil ?_
          exact .keep [3,4,7,11,92] [] z (hj5 _)
         ·exact .draw 21 [] mix (by kernel_rfl) (.j (fun o=>.fp (o z) fa1026_0 z)<|.k (fun p e=>.lp 1 fBase_0 (e.op z) (p.get z z) ty1023 z)<|.j (fun o=>.m (o z) z)<|.k (fun p e h=>.useC h5<|.elemAt (e.op z) (e.op z) u23 ty1039 z<|h)<|.j (fun o=>.fieldAt fTab_0 (o z) fa1039_0 z)<|.j (fun o=>.load (o z) ty9 z)<|.j (fun o=>.m (o z) z)<|.j (fun o=>.sne (o z) (o z) z)<|.k (fun p e h=>.m (e.op z) z<|.noV<|.useEq h6 h)<|.f z z z<|.f z z z<|.f z z z<|.f z z z<|.f z z z<|.f z z z<|.f z z z<|.f z z z<|.f z z z<|.f z z z<|.f z z z<|.f z z z<|.nil) z<|.off z z z<|.off z z z<|.pickF z z z<|.nil<|.keep [3,4,7,11,92] [] z (hj5 _)
       ·refine .exit z<|.seq<|.join1 (fun i15=>⟨[(2,isB i15,none)],[]⟩) (fun i15=>f1008_j6 (f1008_l1 fu q1 q3 n1) i15) (fun i15=>?_) (fun hj6=>?_)
        ·exact .ret1 func8 results8 (.tmp z) z (fun _ _=>.e)
        ·refine .g<|.lp 0 (Fld.self _) z z ty1026 z<|.call0 (c1020 fu _) n1020 z z fun q16=>.m z z<|.split 95 z (fun _=>?_) (fun _=>?_)
         ·refine .on z z<|.lp 0 (Fld.self _) z z ty1026 z<|.on z z<|.call0 (c1026 fu _) n1026 z z fun q17=>.pickT z z z<|.m z z<|.split 99 z (fun _=>?_) (fun _=>?_)
          ·exact .on z z<|.fp z fa1026_0 z<|.on z z<|.lp 0 fBase_0 z z ty1023 z<|.on z z<|.lenL z u23 z<|.on z z<|.fp z fa1026_0 z<|.on z z<|.lp 1 fBase_0 z z ty1023 z<|.on z z<|.lenL z u23 z<|.on z z<|.bin z z z z<|.pickT z z z<|.an z z<|.keep [2] [] z (.drop (.c<|.c<|.e)<|hj6 _)
          ·exact .off z z z<|.off z z z<|.off z z z<|.off z z z<|.off z z z<|.off z z z<|.off z z z<|.pickF z z z<|.an z z<|.keep [2] [] z (.drop (.c<|.c<|.e)<|hj6 _)
         ·exact .off z z z<|.off z z z<|.pickF z z z<|.m z z<|.off z z z<|.off z z z<|.off z z z<|.off z z z<|.off z z z<|.off z z z<|.off z z z<|.pickF z z z<|.an z z<|.keep [2] [] z (.drop (.c<|.c<|.e)<|hj6 _)
  ·refine .g<|.m z z<|.m z z<|.bin z z z z<|.m z z<|.split 41 z (fun _=>?_) (fun _=>?_)
   ·exact .off z z z<|.off z z z<|.off z z z<|.off z z z<|.pickT z z z<|.nil<|.keep [3,4,7,8,46] [] z (.drop (.c<|.d<|.d<|.e)<|hj1 _)
   ·exact .on z z<|.lp 1 (Fld.self _) z z ty1026 z<|.on z z<|.lp 0 (Fld.self _) z z ty1026 z<|.on z z<|.call0 (c1018 fu _ _) n1018 z z fun q18=>.on z z<|.not z z<|.pickF z z z<|.nil<|.keep [3,4,7,8,46] [] z (.drop (.c<|.d<|.d<|.e)<|hj1 _)
end Go.Proofs.YtdpigighgmipfaaGreatDoor
