/- What functions answer. -/
import Derived.Test.YtganfdhmkdehlaaGreatDoorQ2007A9
import Derived.KernelRfl
set_option linter.all false
namespace Go.Proofs.YtganfdhmkdehlaaGreatDoor
open Go Go.HL Tryz
attribute [local irreducible] W WO
def vk (i3:Int)(rec1:Int→Option Bool)(i6:Bool):Option Bool:=cond i6 (some false) (rec1 (IntKind.i64.wrap (i3+1)))
def io (fu:Nat)(a0:ab)(q2:(List Col))(i3:Int)(rec1:Int→Option Bool)(i5:Bool):Option Bool:=cond i5 (some false) ((f89 fu a0 ((a0.rows.getD i3.toNat default).ver)).bind fun q7=>(f88 fu q7 ((a0.rows.getD i3.toNat default).vals)).bind fun q8=>cond (!q8) (vk i3 rec1 true) ((f90 fu a0 (a0.rows.getD i3.toNat default)).bind fun q9=>(f88 fu q2 q9).bind fun q10=>vk i3 rec1 (!q10)))
def cX (fu:Nat)(a0:ab)(q2:(List Col)):Nat→Int→Option Bool
 | 0,_=>none
 | n1+1,i3=>cond (decide (i3 < (a0.rows.length:Int))) (cond (decide (0≤i3)&&decide (i3 < (a0.rows.length:Int))) (cond (decide (((a0.rows.getD i3.toNat default).ver)<0)) (io fu a0 q2 i3 (cX fu a0 q2 n1) true) (cond (decide ((a0.changes.length:Int) < ((a0.rows.getD i3.toNat default).ver))) (io fu a0 q2 i3 (cX fu a0 q2 n1) true) (cond (decide (((a0.rows.getD i3.toNat default).id)<1)) (io fu a0 q2 i3 (cX fu a0 q2 n1) true) (cond (decide (a0.next≤((a0.rows.getD i3.toNat default).id))) (io fu a0 q2 i3 (cX fu a0 q2 n1) true) (cond (decide (0<i3)) (cond (decide (0≤(IntKind.i64.wrap (i3-1)))&&decide ((IntKind.i64.wrap (i3-1)) < (a0.rows.length:Int))) (io fu a0 q2 i3 (cX fu a0 q2 n1) (decide (((a0.rows.getD i3.toNat default).id)≤((a0.rows.getD (IntKind.i64.wrap (i3-1)).toNat default).id)))) none) (io fu a0 q2 i3 (cX fu a0 q2 n1) false)))))) none) (some true)
def f51 (fu:Nat)(a0:ab):Option Bool:=(f53 fu a0).bind fun q2=>cX fu a0 q2 fu 0
theorem n51:Nm prog 177:=nmK func177
attribute [local semireducible] W WO
theorem c51 (fu:Nat)(a0:ab):Ctr prog 177 [tTable.va a0] [] (f51 fu a0) (fun _ _=>[]) (fun q=>isB q):=by
 refine Ctr.of_W func177 z ntmps177 z fun A w=>?_
 unfold f51
 refine .s<|.box (T:=tTable) z z fun b1=>.an z z<|.s<|.lp 0 (Fld.self _) z z ty27 z<|.call0 (c53 fu _) n53 z z fun q2=>.an z z<|.seq<|.s<|.an z z<|.block<|.loop<|.keep [1,3,4] [] z<|(show ∀ (n1:Nat) (i3:Int),W _ _ _ _ _ ⟨[(1,isP b1 0,none),(3,(tL tCol).va q2,none),(4,isI .i64 i3,none)],[boxO b1 tTable a0 []]⟩ (cX fu a0 q2 n1 i3) from ?_) fu _
 intro n1
 induction n1 with
 | zero=>exact fun _=>.stop
 | succ n1 ih1=>
  intro i3
  refine .inLoop<|.seq<|.s<|.m z z<|.fp z fa27_2 z<|.lp 0 fTable_2 z z ty25 z<|.lenL z u57 z<|.bin z z z z<|.nil<|.cd z ?_ ?_
  ·refine .skip<|.seq<|.block<|.s<|.fp z fa27_2 z<|.lp 0 fTable_2 z z ty25 z<|.m z z<|.elemAt z z u57 ty37 z<|.load z ty37 z<|.alloc tRow d0_37 [] z37 z fun b4=>.storeP 0 (Fld.self _) z z z ty37<|.nil<|.seq<|.seq<|.join1 (fun i5=>⟨[(1,isP b1 0,none),(3,(tL tCol).va q2,none),(4,isI .i64 i3,none),(5,isP b4 0,none),(58,isB i5,none)],[boxO b4 tRow (a0.rows.getD i3.toNat default) [],boxO b1 tTable a0 []]⟩) (fun i5=>io fu a0 q2 i3 (cX fu a0 q2 n1) i5) (fun i5=>?_) (fun hj3=>?_)
   ·refine .cd z ?_ ?_
    ·exact .s<|.an z z<|.ret1 func177 results177 (.tmp z) z (fun _ _=>.c<|.c<|.e)
    ·refine .skip<|.seq<|.join1 (fun i6=>⟨[(1,isP b1 0,none),(3,(tL tCol).va q2,none),(4,isI .i64 i3,none),(74,isB i6,none)],[boxO b1 tTable a0 []]⟩) (fun i6=>vk i3 (cX fu a0 q2 n1) i6) (fun i6=>?_) (fun hj4=>?_)
     ·refine .cd z ?_ ?_
      ·exact .s<|.an z z<|.ret1 func177 results177 (.tmp z) z (fun _ _=>.c<|.e)
      ·exact .skip<|.inBlock<|.g<|.m z z<|.bin z z z z<|.an z z<|.keep [1,3,4] [] z (ih1 _)
     ·refine .pbind fun q7 h11=>?_
      refine .pbind fun q8 h12=>?_
      refine .pcond (fun h13=>?_) (fun h13=>?_)
      ·exact .draw 13 [] mix (by kernel_rfl) (.k (fun p e=>.lp 1 (Fld.self _) (e.op z) (p.get z z) ty27 z)<|.j (fun o=>.fp (o z) bh z)<|.k (fun p e=>.lp 0 a8 (e.op z) (p.get z z) ty3 z)<|.k (fun p e h=>.bindE h11 (fun r h=>.call0 (c89 fu _ _) n89 (e.ops z) z h)<|h)<|.j (fun o=>.fp (o z) cV z)<|.k (fun p e=>.lp 0 dy (e.op z) (p.get z z) oA z)<|.k (fun p e h=>.bindE h12 (fun r h=>.call0 (c88 fu _ _) n88 (e.ops z) z h)<|h)<|.j (fun o=>.not (o z) z)<|.k (fun p e h=>.m (e.op z) z<|.noV<|.useEq h13 h)<|.f z z z<|.f z z z<|.f z z z<|.f z z z<|.nil) z<|.off z z z<|.off z z z<|.pickT z z z<|.nil<|.keep [1,3,4,74] [] z (.drop (.c<|.d<|.e)<|hj4 _)
      ·refine .pbind fun q9 h14=>?_
       exact .draw 13 [] mix (by kernel_rfl) (.k (fun p e=>.lp 1 (Fld.self _) (e.op z) (p.get z z) ty27 z)<|.j (fun o=>.fp (o z) bh z)<|.k (fun p e=>.lp 0 a8 (e.op z) (p.get z z) ty3 z)<|.k (fun p e h=>.bindE h11 (fun r h=>.call0 (c89 fu _ _) n89 (e.ops z) z h)<|h)<|.j (fun o=>.fp (o z) cV z)<|.k (fun p e=>.lp 0 dy (e.op z) (p.get z z) oA z)<|.k (fun p e h=>.bindE h12 (fun r h=>.call0 (c88 fu _ _) n88 (e.ops z) z h)<|h)<|.j (fun o=>.not (o z) z)<|.k (fun p e h=>.m (e.op z) z<|.noV<|.useEq h13 h)<|.k (fun p e h=>.on z (e _ _ z)<|.m (e.op z) z<|h)<|.k (fun p e h=>.on z (e _ _ z)<|.lp 1 (Fld.self _) (e.op z) (p.get z z) ty27 z<|h)<|.k (fun p e h=>.on z (e _ _ z)<|.lp 0 (Fld.self _) (e.op z) (p.get z z) ty37 z<|h)<|.k (fun p e h=>.on z (e _ _ z)<|.bindE h14 (fun r h=>.call0 (c90 fu _ _) n90 (e.ops z) z h)<|h)<|.nil) z<|.on z z<|.call0 (c88 fu _ _) n88 z z fun q10=>.on z z<|.not z z<|.pickF z z z<|.nil<|.keep [1,3,4,74] [] z (.drop (.c<|.d<|.e)<|hj4 _)
   ·refine .pcond (fun h15=>?_) (fun h15=>?_)
    ·refine .draw 36 [] mix (by kernel_rfl) (.j (fun o=>.fp (o z) bh z)<|.k (fun p e=>.lp 0 a8 (e.op z) (p.get z z) ty3 z)<|.j (fun o=>.bin z (o z) (o z) z)<|.k (fun p e h=>.m (e.op z) z<|.noV<|.useEq h15 h)<|.f z z z<|.f z z z<|.f z z z<|.f z z z<|.f z z z<|.f z z z<|.j (fun o=>.pickT (o z) (o z) z)<|.j (fun o=>.m (o z) z)<|.f z z z<|.f z z z<|.f z z z<|.j (fun o=>.pickT (o z) (o z) z)<|.j (fun o=>.m (o z) z)<|.f z z z<|.f z z z<|.f z z z<|.f z z z<|.f z z z<|.j (fun o=>.pickT (o z) (o z) z)<|.j (fun o=>.m (o z) z)<|.f z z z<|.f z z z<|.f z z z<|.k (fun p e=>.offU z (e _ _ z) z)<|.k (fun p e=>.offU z (e _ _ z) z)<|.k (fun p e=>.offU z (e _ _ z) z)<|.k (fun p e=>.offU z (e _ _ z) z)<|.k (fun p e=>.offU z (e _ _ z) z)<|.k (fun p e=>.offU z (e _ _ z) z)<|.k (fun p e=>.offU z (e _ _ z) z)<|.k (fun p e=>.offU z (e _ _ z) z)<|.k (fun p e=>.offU z (e _ _ z) z)<|.nil) z<|.offU z z z<|.off z z z<|.pickT z z z<|.nil ?_
     exact .keep [1,3,4,5,58] [] z (hj3 _)
    ·refine .pcond (fun h16=>?_) (fun h16=>?_)
     ·refine .draw 36 [] mix (by kernel_rfl) (.j (fun o=>.fp (o z) bh z)<|.k (fun p e=>.lp 0 a8 (e.op z) (p.get z z) ty3 z)<|.j (fun o=>.bin z (o z) (o z) z)<|.k (fun p e h=>.m (e.op z) z<|.noV<|.useEq h15 h)<|.k (fun p e h=>.on z (e _ _ z)<|.fp (e.op z) bh z<|h)<|.k (fun p e h=>.on z (e _ _ z)<|.lp 0 a8 (e.op z) (p.get z z) ty3 z<|h)<|.k (fun p e h=>.on z (e _ _ z)<|.fp (e.op z) bw z<|h)<|.k (fun p e h=>.on z (e _ _ z)<|.lp 1 br (e.op z) (p.get z z) kT z<|h)<|.k (fun p e h=>.on z (e _ _ z)<|.lenL (e.op z) u56 z<|h)<|.k (fun p e h=>.on z (e _ _ z)<|.bin z (e.op z) (e.op z) z<|h)<|.j (fun o=>.pickF (o z) (o z) z)<|.k (fun p e h=>.m (e.op z) z<|.noV<|.useEq h16 h)<|.f z z z<|.f z z z<|.f z z z<|.j (fun o=>.pickT (o z) (o z) z)<|.j (fun o=>.m (o z) z)<|.f z z z<|.f z z z<|.f z z z<|.f z z z<|.f z z z<|.j (fun o=>.pickT (o z) (o z) z)<|.j (fun o=>.m (o z) z)<|.f z z z<|.f z z z<|.f z z z<|.k (fun p e=>.offU z (e _ _ z) z)<|.k (fun p e=>.offU z (e _ _ z) z)<|.k (fun p e=>.offU z (e _ _ z) z)<|.k (fun p e=>.offU z (e _ _ z) z)<|.k (fun p e=>.offU z (e _ _ z) z)<|.k (fun p e=>.offU z (e _ _ z) z)<|.k (fun p e=>.offU z (e _ _ z) z)<|.k (fun p e=>.offU z (e _ _ z) z)<|.k (fun p e=>.offU z (e _ _ z) z)<|.nil) z<|.offU z z z<|.off z z z<|.pickT z z z<|.nil ?_
      exact .keep [1,3,4,5,58] [] z (hj3 _)
     ·refine .pcond (fun h17=>?_) (fun h17=>?_)
      ·refine .draw 36 [] mix (by kernel_rfl) (.j (fun o=>.fp (o z) bh z)<|.k (fun p e=>.lp 0 a8 (e.op z) (p.get z z) ty3 z)<|.j (fun o=>.bin z (o z) (o z) z)<|.k (fun p e h=>.m (e.op z) z<|.noV<|.useEq h15 h)<|.k (fun p e h=>.on z (e _ _ z)<|.fp (e.op z) bh z<|h)<|.k (fun p e h=>.on z (e _ _ z)<|.lp 0 a8 (e.op z) (p.get z z) ty3 z<|h)<|.k (fun p e h=>.on z (e _ _ z)<|.fp (e.op z) bw z<|h)<|.k (fun p e h=>.on z (e _ _ z)<|.lp 1 br (e.op z) (p.get z z) kT z<|h)<|.k (fun p e h=>.on z (e _ _ z)<|.lenL (e.op z) u56 z<|h)<|.k (fun p e h=>.on z (e _ _ z)<|.bin z (e.op z) (e.op z) z<|h)<|.j (fun o=>.pickF (o z) (o z) z)<|.k (fun p e h=>.m (e.op z) z<|.noV<|.useEq h16 h)<|.k (fun p e h=>.on z (e _ _ z)<|.fp (e.op z) ca z<|h)<|.k (fun p e h=>.on z (e _ _ z)<|.lp 0 bH (e.op z) (p.get z z) ty3 z<|h)<|.k (fun p e h=>.on z (e _ _ z)<|.bin z (e.op z) (e.op z) z<|h)<|.j (fun o=>.pickF (o z) (o z) z)<|.k (fun p e h=>.m (e.op z) z<|.noV<|.useEq h17 h)<|.f z z z<|.f z z z<|.f z z z<|.f z z z<|.f z z z<|.j (fun o=>.pickT (o z) (o z) z)<|.j (fun o=>.m (o z) z)<|.f z z z<|.f z z z<|.f z z z<|.k (fun p e=>.offU z (e _ _ z) z)<|.k (fun p e=>.offU z (e _ _ z) z)<|.k (fun p e=>.offU z (e _ _ z) z)<|.k (fun p e=>.offU z (e _ _ z) z)<|.k (fun p e=>.offU z (e _ _ z) z)<|.k (fun p e=>.offU z (e _ _ z) z)<|.k (fun p e=>.offU z (e _ _ z) z)<|.k (fun p e=>.offU z (e _ _ z) z)<|.k (fun p e=>.offU z (e _ _ z) z)<|.nil) z<|.offU z z z<|.off z z z<|.pickT z z z<|.nil ?_
       exact .keep [1,3,4,5,58] [] z (hj3 _)
      ·refine .pcond (fun h18=>?_) (fun h18=>?_)
       ·refine .draw 36 [] mix (by kernel_rfl) (.j (fun o=>.fp (o z) bh z)<|.k (fun p e=>.lp 0 a8 (e.op z) (p.get z z) ty3 z)<|.j (fun o=>.bin z (o z) (o z) z)<|.k (fun p e h=>.m (e.op z) z<|.noV<|.useEq h15 h)<|.k (fun p e h=>.on z (e _ _ z)<|.fp (e.op z) bh z<|h)<|.k (fun p e h=>.on z (e _ _ z)<|.lp 0 a8 (e.op z) (p.get z z) ty3 z<|h)<|.k (fun p e h=>.on z (e _ _ z)<|.fp (e.op z) bw z<|h)<|.k (fun p e h=>.on z (e _ _ z)<|.lp 1 br (e.op z) (p.get z z) kT z<|h)<|.k (fun p e h=>.on z (e _ _ z)<|.lenL (e.op z) u56 z<|h)<|.k (fun p e h=>.on z (e _ _ z)<|.bin z (e.op z) (e.op z) z<|h)<|.j (fun o=>.pickF (o z) (o z) z)<|.k (fun p e h=>.m (e.op z) z<|.noV<|.useEq h16 h)<|.k (fun p e h=>.on z (e _ _ z)<|.fp (e.op z) ca z<|h)<|.k (fun p e h=>.on z (e _ _ z)<|.lp 0 bH (e.op z) (p.get z z) ty3 z<|h)<|.k (fun p e h=>.on z (e _ _ z)<|.bin z (e.op z) (e.op z) z<|h)<|.j (fun o=>.pickF (o z) (o z) z)<|.k (fun p e h=>.m (e.op z) z<|.noV<|.useEq h17 h)<|.k (fun p e h=>.on z (e _ _ z)<|.fp (e.op z) ca z<|h)<|.k (fun p e h=>.on z (e _ _ z)<|.lp 0 bH (e.op z) (p.get z z) ty3 z<|h)<|.k (fun p e h=>.on z (e _ _ z)<|.fp (e.op z) gD z<|h)<|.k (fun p e h=>.on z (e _ _ z)<|.lp 1 dM (e.op z) (p.get z z) ty3 z<|h)<|.k (fun p e h=>.on z (e _ _ z)<|.bin z (e.op z) (e.op z) z<|h)<|.j (fun o=>.pickF (o z) (o z) z)<|.k (fun p e h=>.m (e.op z) z<|.noV<|.useEq h18 h)<|.f z z z<|.f z z z<|.f z z z<|.k (fun p e=>.offU z (e _ _ z) z)<|.k (fun p e=>.offU z (e _ _ z) z)<|.k (fun p e=>.offU z (e _ _ z) z)<|.k (fun p e=>.offU z (e _ _ z) z)<|.k (fun p e=>.offU z (e _ _ z) z)<|.k (fun p e=>.offU z (e _ _ z) z)<|.k (fun p e=>.offU z (e _ _ z) z)<|.k (fun p e=>.offU z (e _ _ z) z)<|.k (fun p e=>.offU z (e _ _ z) z)<|.nil) z<|.offU z z z<|.off z z z<|.pickT z z z<|.nil ?_
        exact .keep [1,3,4,5,58] [] z (hj3 _)
       ·refine .pcond (fun h19=>?_) (fun h19=>?_)
        ·refine .pT fun h20=>?_
         refine .draw 36 [] mix (by kernel_rfl) (.j (fun o=>.fp (o z) bh z)<|.k (fun p e=>.lp 0 a8 (e.op z) (p.get z z) ty3 z)<|.j (fun o=>.bin z (o z) (o z) z)<|.k (fun p e h=>.m (e.op z) z<|.noV<|.useEq h15 h)<|.k (fun p e h=>.on z (e _ _ z)<|.fp (e.op z) bh z<|h)<|.k (fun p e h=>.on z (e _ _ z)<|.lp 0 a8 (e.op z) (p.get z z) ty3 z<|h)<|.k (fun p e h=>.on z (e _ _ z)<|.fp (e.op z) bw z<|h)<|.k (fun p e h=>.on z (e _ _ z)<|.lp 1 br (e.op z) (p.get z z) kT z<|h)<|.k (fun p e h=>.on z (e _ _ z)<|.lenL (e.op z) u56 z<|h)<|.k (fun p e h=>.on z (e _ _ z)<|.bin z (e.op z) (e.op z) z<|h)<|.j (fun o=>.pickF (o z) (o z) z)<|.k (fun p e h=>.m (e.op z) z<|.noV<|.useEq h16 h)<|.k (fun p e h=>.on z (e _ _ z)<|.fp (e.op z) ca z<|h)<|.k (fun p e h=>.on z (e _ _ z)<|.lp 0 bH (e.op z) (p.get z z) ty3 z<|h)<|.k (fun p e h=>.on z (e _ _ z)<|.bin z (e.op z) (e.op z) z<|h)<|.j (fun o=>.pickF (o z) (o z) z)<|.k (fun p e h=>.m (e.op z) z<|.noV<|.useEq h17 h)<|.k (fun p e h=>.on z (e _ _ z)<|.fp (e.op z) ca z<|h)<|.k (fun p e h=>.on z (e _ _ z)<|.lp 0 bH (e.op z) (p.get z z) ty3 z<|h)<|.k (fun p e h=>.on z (e _ _ z)<|.fp (e.op z) gD z<|h)<|.k (fun p e h=>.on z (e _ _ z)<|.lp 1 dM (e.op z) (p.get z z) ty3 z<|h)<|.k (fun p e h=>.on z (e _ _ z)<|.bin z (e.op z) (e.op z) z<|h)<|.j (fun o=>.pickF (o z) (o z) z)<|.k (fun p e h=>.m (e.op z) z<|.noV<|.useEq h18 h)<|.k (fun p e h=>.on z (e _ _ z)<|.m (e.op z) z<|h)<|.k (fun p e h=>.on z (e _ _ z)<|.bin z (e.op z) (e.op z) z<|h)<|.k (fun p e h=>.on z (e _ _ z)<|.m (e.op z) z<|.noV<|.useEq h19 h)<|.k (fun p e h=>.on z (e _ _ z)<|.fp (e.op z) fa27_2 z<|h)<|.k (fun p e h=>.on z (e _ _ z)<|.lp 1 fTable_2 (e.op z) (p.get z z) ty25 z<|h)<|.k (fun p e h=>.on z (e _ _ z)<|.m (e.op z) z<|h)<|.k (fun p e h=>.on z (e _ _ z)<|.bin z (e.op z) (e.op z) z<|h)<|.k (fun p e h=>.on z (e _ _ z)<|.useC h20<|.elemAt (e.op z) (e.op z) u57 ty37 z<|h)<|.k (fun p e h=>.on z (e _ _ z)<|.fieldAt bH (e.op z) ca z<|h)<|.k (fun p e h=>.on z (e _ _ z)<|.load (e.op z) ty3 z<|h)<|.k (fun p e h=>.on z (e _ _ z)<|.fp (e.op z) ca z<|h)<|.k (fun p e h=>.on z (e _ _ z)<|.lp 0 bH (e.op z) (p.get z z) ty3 z<|h)<|.nil) z<|.on z z<|.bin z z z z<|.on z z<|.pickT z z z<|.pickF z z z<|.nil ?_
         exact .keep [1,3,4,5,58] [] z (hj3 _)
        ·refine .draw 36 [] mix (by kernel_rfl) (.j (fun o=>.fp (o z) bh z)<|.k (fun p e=>.lp 0 a8 (e.op z) (p.get z z) ty3 z)<|.j (fun o=>.bin z (o z) (o z) z)<|.k (fun p e h=>.m (e.op z) z<|.noV<|.useEq h15 h)<|.k (fun p e h=>.on z (e _ _ z)<|.fp (e.op z) bh z<|h)<|.k (fun p e h=>.on z (e _ _ z)<|.lp 0 a8 (e.op z) (p.get z z) ty3 z<|h)<|.k (fun p e h=>.on z (e _ _ z)<|.fp (e.op z) bw z<|h)<|.k (fun p e h=>.on z (e _ _ z)<|.lp 1 br (e.op z) (p.get z z) kT z<|h)<|.k (fun p e h=>.on z (e _ _ z)<|.lenL (e.op z) u56 z<|h)<|.k (fun p e h=>.on z (e _ _ z)<|.bin z (e.op z) (e.op z) z<|h)<|.j (fun o=>.pickF (o z) (o z) z)<|.k (fun p e h=>.m (e.op z) z<|.noV<|.useEq h16 h)<|.k (fun p e h=>.on z (e _ _ z)<|.fp (e.op z) ca z<|h)<|.k (fun p e h=>.on z (e _ _ z)<|.lp 0 bH (e.op z) (p.get z z) ty3 z<|h)<|.k (fun p e h=>.on z (e _ _ z)<|.bin z (e.op z) (e.op z) z<|h)<|.j (fun o=>.pickF (o z) (o z) z)<|.k (fun p e h=>.m (e.op z) z<|.noV<|.useEq h17 h)<|.k (fun p e h=>.on z (e _ _ z)<|.fp (e.op z) ca z<|h)<|.k (fun p e h=>.on z (e _ _ z)<|.lp 0 bH (e.op z) (p.get z z) ty3 z<|h)<|.k (fun p e h=>.on z (e _ _ z)<|.fp (e.op z) gD z<|h)<|.k (fun p e h=>.on z (e _ _ z)<|.lp 1 dM (e.op z) (p.get z z) ty3 z<|h)<|.k (fun p e h=>.on z (e _ _ z)<|.bin z (e.op z) (e.op z) z<|h)<|.j (fun o=>.pickF (o z) (o z) z)<|.k (fun p e h=>.m (e.op z) z<|.noV<|.useEq h18 h)<|.k (fun p e h=>.on z (e _ _ z)<|.m (e.op z) z<|h)<|.k (fun p e h=>.on z (e _ _ z)<|.bin z (e.op z) (e.op z) z<|h)<|.k (fun p e h=>.on z (e _ _ z)<|.m (e.op z) z<|.noV<|.useEq h19 h)<|.f z z z<|.f z z z<|.f z z z<|.f z z z<|.f z z z<|.f z z z<|.f z z z<|.f z z z<|.f z z z<|.nil) z<|.off z z z<|.on z z<|.pickF z z z<|.pickF z z z<|.nil ?_
         exact .keep [1,3,4,5,58] [] z (hj3 _)
  ·exact .exit z<|.s<|.an z z<|.ret1 func177 results177 (.tmp z) z (fun _ _=>.c<|.e)
attribute [local irreducible] W WO
def mQ (fu:Nat)(a0:ab):Nat→Int→(List (List Val))→Option (List (List Val))
 | 0,_,_=>none
 | n1+1,i3,i4=>cond (decide (i3 < (a0.rows.length:Int))) (cond (decide (0≤i3)&&decide (i3 < (a0.rows.length:Int))) ((f90 fu a0 (a0.rows.getD i3.toNat default)).bind fun q6=>cond (decide (i4.length+List.length ([q6]:List (List Val))≤CAP)) ((mQ fu a0 n1) (IntKind.i64.wrap (i3+1)) (i4++([q6]:List (List Val)))) none) none) (some i4)
def f54 (fu:Nat)(a0:ab):Option (List (List Val)):=mQ fu a0 fu 0 ([]:List (List Val))
theorem n54:Nm prog 179:=nmK func179
attribute [local semireducible] W WO
theorem c54 (fu:Nat)(a0:ab):Ctr prog 179 [tTable.va a0] [] (f54 fu a0) (fun _ _=>[]) (fun q=>(tL (tL tVal)).va q):=by
 refine Ctr.of_W func179 z ntmps179 z fun A w=>?_
 unfold f54
 refine .s<|.box (T:=tTable) z z fun b1=>.assignNil (tL tVal) z<|.nil<|.s<|.lit (T:=(tL tVal)) Bu BK z z (.nil) z fun v2=>.an z z<|.seq<|.s<|.an z z<|.block<|.loop<|.keep [1,4] [3] z<|(show ∀ (n1:Nat) (i3:Int) (i4:List (List Val)) (v5:Value),W _ _ _ _ _ ⟨[(1,isP b1 0,none),(4,isI .i64 i3,none),(3,(tL (tL tVal)).va i4,some v5)],[appO 1 v5,boxO b1 tTable a0 []]⟩ (mQ fu a0 n1 i3 i4) from ?_) fu _ _ _
 intro n1
 induction n1 with
 | zero=>exact fun _ _ _=>.stop
 | succ n1 ih1=>
  intro i3 i4 v5
  refine .inLoop<|.seq<|.s<|.m z z<|.fp z fa27_2 z<|.lp 1 fTable_2 z z ty25 z<|.lenL z u57 z<|.bin z z z z<|.nil<|.cd z ?_ ?_
  ·refine .skip<|.seq<|.block<|.pT fun h2=>?_
   exact .draw 7 [0] mix (by kernel_rfl) (.j (fun o=>.m (o z) z)<|.k (fun p e=>.lp 1 (Fld.self _) (e.op z) (p.get z z) ty27 z)<|.j (fun o=>.fp (o z) fa27_2 z)<|.k (fun p e=>.lp 1 fTable_2 (e.op z) (p.get z z) ty25 z)<|.j (fun o=>.m (o z) z)<|.k (fun p e h=>.useC h2<|.elemAt (e.op z) (e.op z) u57 ty37 z<|h)<|.j (fun o=>.load (o z) ty37 z)<|.nil) z<|.call0 (c90 fu _ _) n90 z z fun q6=>.litN (T:=(tL tVal)) Bu BK z z (.cons z<|.nil) z<|.app (T:=(tL tVal)) 0 z z z Bu BK z fun v7=>.an z z<|.inBlock<|.g<|.m z z<|.bin z z z z<|.an z z<|.keep [1,4] [3] z (ih1 _ _ _)
  ·exact .exit z<|.s<|.m z z<|.an z z<|.ret1 func179 results179 (.tmp z) z (fun _ _=>.c<|.c<|.e)
attribute [local irreducible] W WO
def jP (fu:Nat)(a0:ab)(i3:Bool):Option Bool:=cond i3 (some false) ((f53 fu a0).bind fun q4=>(f54 fu a0).bind fun q5=>(f52 fu q4 q5).bind fun q6=>some (!q6))
def f17 (fu:Nat)(a0:ab):Option Bool:=(f50 fu a0.first a0.changes).bind fun q2=>cond (!q2.2) (jP fu a0 true) (cond (decide (8 < (a0.changes.length:Int))) (jP fu a0 true) (cond (decide (8 < (a0.rows.length:Int))) (jP fu a0 true) (cond (decide (a0.next<1)) (jP fu a0 true) (cond (decide (60<a0.next)) (jP fu a0 true) ((f51 fu a0).bind fun q7=>jP fu a0 (!q7))))))
theorem n17:Nm prog 127:=nmK func127
theorem c17 (fu:Nat)(a0:ab):Ctr prog 127 [tTable.va a0] [] (f17 fu a0) (fun _ _=>[]) (fun q=>isB q):=by
 refine .w func127 ntmps127 fun hf A w=>?_
 unfold f17
 refine .s<|.box (T:=tTable) z z fun b1=>.an z z<|.s<|go ?_
 refine .call0 (c50 fu _ _) n50 z z fun q2=>go ?_
 refine .seq<|.seq<|.join1 (fun i3=>⟨[(1,isP b1 0,none),(41,isB i3,none)],[boxO b1 tTable a0 []]⟩) (fun i3=>jP fu a0 i3) (fun i3=>?_) (fun hj1=>?_)
 ·refine .cd z ?_ ?_
  ·exact fr
  ·exact .skip<|.seq<|.pb (c53 fu _) n53 fun q4 h1 k=>.draw 3 [] mix (by kernel_rfl) sts z<|.call0 (c54 fu _) n54 z z fun q5=>.call0 (c52 fu _ _) n52 z z fun q6=>fr
 ·refine .g<|go ?_
  refine .split 15 z (fun _=>?_) (fun _=>?_)
  ·exact fj (hj1 _)
  ·refine go ?_
   refine .split 21 z (fun _=>?_) (fun _=>?_)
   ·exact fj (hj1 _)
   ·refine go ?_
    refine .split 27 z (fun _=>?_) (fun _=>?_)
    ·exact fj (hj1 _)
    ·refine go ?_
     refine .split 32 z (fun _=>?_) (fun _=>?_)
     ·exact fj (hj1 _)
     ·refine go ?_
      refine .split 37 z (fun _=>?_) (fun _=>?_)
      ·exact fj (hj1 _)
      ·refine go ?_
       exact .call0 (c51 fu _) n51 z z fun q7=>fj (hj1 _)
def sh (a0:List Col)(a1:List Col):Nat→Int→Option Bool
 | 0,_=>none
 | n1+1,i1=>cond (decide (i1 < (a0.length:Int))) (cond (decide (0≤i1)&&decide (i1 < (a0.length:Int))) (cond (decide (0≤i1)&&decide (i1 < (a1.length:Int))) (cond (!decide ((a0.getD i1.toNat default)=(a1.getD i1.toNat default))) (some false) ((sh a0 a1 n1) (IntKind.i64.wrap (i1+1)))) none) none) (some true)
def f43 (fu:Nat)(a0:List Col)(a1:List Col):Option Bool:=cond (!decide ((a0.length:Int)=(a1.length:Int))) (some false) (sh a0 a1 fu 0)
theorem n43:Nm prog 131:=nmK func131
theorem c43 (fu:Nat)(a0:List Col)(a1:List Col):Ctr prog 131 [(tL tCol).va a0,(tL tCol).va a1] [] (f43 fu a0 a1) (fun _ _=>[]) (fun q=>isB q):=by
 refine .w func131 ntmps131 fun hf A w=>?_
 unfold f43
 refine .s<|.an z z<|.seq<|.s<|go ?_
 refine .cd z ?_ ?_
 ·exact fr
 ·refine .skip<|.seq<|.s<|go ?_
  refine .block<|.loop<|.keep [0,1,12,13] [] z<|(show ∀ (n1:Nat) (i1:Int),W _ _ _ _ _ ⟨[(0,(tL tCol).va a0,none),(1,(tL tCol).va a1,none),(12,isI .i64 (a0.length:Int),none),(13,isI .i64 i1,none)],[]⟩ (sh a0 a1 n1 i1) from ?_) fu _
  intro n1
  induction n1 with
  | zero=>exact fun _=>.stop
  | succ n1 ih1=>
   intro i1
   refine .inLoop<|.s<|go ?_
   refine .seq<|.cd z ?_ ?_
   ·refine .skip<|.seq<|.block<|.s<|go ?_
    refine .seq<|.pT fun h3=>.pT fun h4=>.draw 8 [] mix (by kernel_rfl) sts z<|.neT BJ z z z<|.nil<|.cd z ?_ ?_
    ·exact fr
    ·exact fj (ih1 _)
   ·exact fr
def sg (a0:List aa)(a1:List aa):Nat→Int→Option Bool
 | 0,_=>none
 | n1+1,i1=>cond (decide (i1 < (a0.length:Int))) (cond (decide (0≤i1)&&decide (i1 < (a0.length:Int))) (cond (decide (0≤i1)&&decide (i1 < (a1.length:Int))) (cond (!decide ((a0.getD i1.toNat default)=(a1.getD i1.toNat default))) (some false) ((sg a0 a1 n1) (IntKind.i64.wrap (i1+1)))) none) none) (some true)
def f44 (fu:Nat)(a0:List aa)(a1:List aa):Option Bool:=cond (!decide ((a0.length:Int)=(a1.length:Int))) (some false) (sg a0 a1 fu 0)
theorem n44:Nm prog 132:=nmK func132
theorem c44 (fu:Nat)(a0:List aa)(a1:List aa):Ctr prog 132 [(tL tChange).va a0,(tL tChange).va a1] [] (f44 fu a0 a1) (fun _ _=>[]) (fun q=>isB q):=by
 refine .w func132 ntmps132 fun hf A w=>?_
 unfold f44
 refine .s<|.an z z<|.seq<|.s<|go ?_
 refine .cd z ?_ ?_
 ·exact fr
 ·refine .skip<|.seq<|.s<|go ?_
  refine .block<|.loop<|.keep [0,1,12,13] [] z<|(show ∀ (n1:Nat) (i1:Int),W _ _ _ _ _ ⟨[(0,(tL tChange).va a0,none),(1,(tL tChange).va a1,none),(12,isI .i64 (a0.length:Int),none),(13,isI .i64 i1,none)],[]⟩ (sg a0 a1 n1 i1) from ?_) fu _
  intro n1
  induction n1 with
  | zero=>exact fun _=>.stop
  | succ n1 ih1=>
   intro i1
   refine .inLoop<|.s<|go ?_
   refine .seq<|.cd z ?_ ?_
   ·refine .skip<|.seq<|.block<|.s<|go ?_
    refine .seq<|.pT fun h3=>.pT fun h4=>.draw 8 [] mix (by kernel_rfl) sts z<|.neT DT z z z<|.nil<|.cd z ?_ ?_
    ·exact fr
    ·exact fj (ih1 _)
   ·exact fr
def lG (a0:List Row)(a1:List Row)(a2:Row→Row→Option Bool):Nat→Int→Option Bool
 | 0,_=>none
 | n1+1,i1=>cond (decide (i1 < (a0.length:Int))) (cond (decide (0≤i1)&&decide (i1 < (a0.length:Int))) (cond (decide (0≤i1)&&decide (i1 < (a1.length:Int))) ((a2 (a0.getD i1.toNat default) (a1.getD i1.toNat default)).bind fun q4=>cond (!q4) (some false) ((lG a0 a1 a2 n1) (IntKind.i64.wrap (i1+1)))) none) none) (some true)
def f45 (fu:Nat)(a0:List Row)(a1:List Row)(a2:Row→Row→Option Bool):Option Bool:=cond (!decide ((a0.length:Int)=(a1.length:Int))) (some false) (lG a0 a1 a2 fu 0)
theorem n45:Nm prog 133:=nmK func133
theorem c45 (fu : Nat)(a0 : List Row)(a1 : List Row)(a2 : Row → Row → Option Bool)(g2 : Nat)(k2 : List VA)(hn2 : ∃ fn c, prog.funcs[g2]? = some fn ∧ (fn.name == "runtime.NumGoroutine") = false ∧ fn.body = some c)(hc2 : ∀ (x0 : Row) (x1 : Row), Ctr prog g2 ([tRow.va x0, tRow.va x1] ++ k2) [] (a2 x0 x1) (fun _ _ => []) (fun q => isB q)) : Ctr prog 133 [(tL tRow).va a0, (tL tRow).va a1, ce g2 k2] [] (f45 fu a0 a1 a2) (fun _ _ => []) (fun q => isB q) := by
 refine .w func133 ntmps133 fun hf A w=>?_
 unfold f45
 refine .s<|.an z z<|.seq<|.s<|go ?_
 refine .cd z ?_ ?_
 ·exact fr
 ·refine .skip<|.seq<|.s<|go ?_
  refine .block<|.loop<|.keep [1,2,15,16,17] [] z<|(show ∀ (n1:Nat) (i1:Int),W _ _ _ _ _ ⟨[(1,(tL tRow).va a1,none),(2,ce g2 k2,none),(15,(tL tRow).va a0,none),(16,isI .i64 (a0.length:Int),none),(17,isI .i64 i1,none)],[]⟩ (lG a0 a1 a2 n1 i1) from ?_) fu _
  intro n1
  induction n1 with
  | zero=>exact fun _=>.stop
  | succ n1 ih1=>
   intro i1
   refine .inLoop<|.s<|go ?_
   refine .seq<|.cd z ?_ ?_
   ·refine .skip<|.seq<|.block<|.s<|go ?_
    refine .alloc tRow d0_37 [] z37 z fun b2=>go ?_
    refine .s<|go ?_
    refine .alloc tRow d0_37 [] z37 z fun b3=>go ?_
    refine .s<|go ?_
    refine .callC z (hc2 _ _) hn2 z z fun q4=>.not z z<|.nil<|.cd z ?_ ?_
    ·exact fr
    ·exact fj (ih1 _)
   ·exact fr
def sf (a0:List Val)(a1:List Val):Nat→Int→Option Bool
 | 0,_=>none
 | n1+1,i1=>cond (decide (i1 < (a0.length:Int))) (cond (decide (0≤i1)&&decide (i1 < (a0.length:Int))) (cond (decide (0≤i1)&&decide (i1 < (a1.length:Int))) (cond (!decide ((a0.getD i1.toNat default)=(a1.getD i1.toNat default))) (some false) ((sf a0 a1 n1) (IntKind.i64.wrap (i1+1)))) none) none) (some true)
def f47 (fu:Nat)(a0:List Val)(a1:List Val):Option Bool:=cond (!decide ((a0.length:Int)=(a1.length:Int))) (some false) (sf a0 a1 fu 0)
theorem n47:Nm prog 135:=nmK func135
theorem c47 (fu:Nat)(a0:List Val)(a1:List Val):Ctr prog 135 [(tL tVal).va a0,(tL tVal).va a1] [] (f47 fu a0 a1) (fun _ _=>[]) (fun q=>isB q):=by
 refine .w func135 ntmps135 fun hf A w=>?_
 unfold f47
 refine .s<|.an z z<|.seq<|.s<|go ?_
 refine .cd z ?_ ?_
 ·exact fr
 ·refine .skip<|.seq<|.s<|go ?_
  refine .block<|.loop<|.keep [0,1,12,13] [] z<|(show ∀ (n1:Nat) (i1:Int),W _ _ _ _ _ ⟨[(0,(tL tVal).va a0,none),(1,(tL tVal).va a1,none),(12,isI .i64 (a0.length:Int),none),(13,isI .i64 i1,none)],[]⟩ (sf a0 a1 n1 i1) from ?_) fu _
  intro n1
  induction n1 with
  | zero=>exact fun _=>.stop
  | succ n1 ih1=>
   intro i1
   refine .inLoop<|.s<|go ?_
   refine .seq<|.cd z ?_ ?_
   ·refine .skip<|.seq<|.block<|.s<|go ?_
    refine .seq<|.pT fun h3=>.pT fun h4=>.draw 8 [] mix (by kernel_rfl) sts z<|.neT eq47 z z z<|.nil<|.cd z ?_ ?_
    ·exact fr
    ·exact fj (ih1 _)
   ·exact fr
def pf (i3:Bool):Option Bool:=some i3
def f46 (fu:Nat)(a0:Row)(a1:Row):Option Bool:=cond (decide (a0.id=a1.id)) (cond (decide (a0.ver=a1.ver)) ((f47 fu a0.vals a1.vals).bind fun q4=>pf q4) (pf false)) (pf false)
theorem n46:Nm prog 134:=nmK func134
theorem c46 (fu:Nat)(a0:Row)(a1:Row):Ctr prog 134 [tRow.va a0,tRow.va a1] [] (f46 fu a0 a1) (fun _ _=>[]) (fun q=>isB q):=by
 refine .w func134 ntmps134 fun hf A w=>?_
 unfold f46
 refine .s<|.box (T:=tRow) z z fun b1=>.box (T:=tRow) z z fun b2=>.an z z<|.seq<|.join1 (fun i3=>⟨[(4,isB i3,none)],[]⟩) (fun i3=>pf i3) (fun i3=>?_) (fun hj1=>?_)
 ·exact fr
 ·refine .g<|go ?_
  refine .split 10 z (fun _=>?_) (fun _=>?_)
  ·refine go ?_
   refine .split 17 z (fun _=>?_) (fun _=>?_)
   ·refine go ?_
    exact .call0 (c47 fu _ _) n47 z z fun q4=>fj (hj1 _)
   ·exact fj (hj1 _)
  ·exact fj (hj1 _)
def mT (i3:Bool):Option Bool:=some i3
def f15 (fu:Nat)(a0:ab)(a1:ab):Option Bool:=(f43 fu a0.first a1.first).bind fun q4=>cond q4 ((f44 fu a0.changes a1.changes).bind fun q5=>cond q5 (cond (decide (a0.next=a1.next)) ((f45 fu a0.rows a1.rows (fun x0 x1=>f46 fu x0 x1)).bind fun q6=>mT q6) (mT false)) (mT false)) (mT false)
theorem n15:Nm prog 58:=nmK func58
theorem c15 (fu:Nat)(a0:ab)(a1:ab):Ctr prog 58 [tTable.va a0,tTable.va a1] [] (f15 fu a0 a1) (fun _ _=>[]) (fun q=>isB q):=by
 refine .w func58 ntmps58 fun hf A w=>?_
 unfold f15
 refine .s<|.box (T:=tTable) z z fun b1=>.box (T:=tTable) z z fun b2=>.an z z<|.seq<|.join1 (fun i3=>⟨[(4,isB i3,none)],[]⟩) (fun i3=>mT i3) (fun i3=>?_) (fun hj1=>?_)
 ·exact fr
 ·refine .g<|go ?_
  refine .call0 (c43 fu _ _) n43 z z fun q4=>.m z z<|.split 10 z (fun _=>?_) (fun _=>?_)
  ·refine go ?_
   refine .call0 (c44 fu _ _) n44 z z fun q5=>go ?_
   refine .split 17 z (fun _=>?_) (fun _=>?_)
   ·refine go ?_
    refine .split 24 z (fun _=>?_) (fun _=>?_)
    ·refine go ?_
     exact .call0 (c45 fu _ _ (fun x0 x1=>f46 fu x0 x1) 134 [] n46 (fun x0 x1=>c46 fu x0 x1)) n45 z z fun q6=>fj (hj1 _)
    ·exact fj (hj1 _)
   ·exact fj (hj1 _)
  ·exact fj (hj1 _)
end Go.Proofs.YtganfdhmkdehlaaGreatDoor
