/- Functions of the program: what each answers, and that the machine answers so. -/
import Derived.Test.YtdpigighgmipfaaGreatDoorQ1008A11
import Derived.KernelRfl
import Derived.KernelRfl
set_option linter.all false
namespace Go.Proofs.YtdpigighgmipfaaGreatDoor
open Go Go.HL Tryz
def f75 (fu:Nat)(a0:Table)(a1:Int)(a2:List Set):Option (Table×Int):=(f48 fu a0 a1).bind fun q3=>cond (decide (q3<0)) ((f80 fu a0).bind fun q4=>some (q4,5)) ((f66 fu a0).bind fun q6=>(f80 fu a0).bind fun q7=>cond (decide (0≤q3)&&decide (q3 < (a0.rows.length:Int))) ((f49 fu a0 (a0.rows.getD q3.toNat default)).bind fun q10=>(f99 fu q6 q10 a2).bind fun q12=>cond (!q12.1) ((f80 fu a0).bind fun q13=>some (q13,1)) (cond (decide (0≤q3)&&decide (q3 < (q7.rows.length:Int))) ((f58 fu q6 q12.2).bind fun q15=>cond (!q15) ((f80 fu a0).bind fun q16=>some (q16,2)) ((f59 fu (⟨q7.first,q7.changes,q7.rows.set q3.toNat (⟨a1,(a0.changes.length:Int),q12.2⟩:Row),q7.next⟩:Table)).bind fun q18=>cond (!q18) ((f80 fu a0).bind fun q19=>some (q19,3)) (some ((⟨q7.first,q7.changes,q7.rows.set q3.toNat (⟨a1,(a0.changes.length:Int),q12.2⟩:Row),q7.next⟩:Table),0)))) none)) none)
theorem n75:Nm prog 90:=⟨_,_,func90,by kernel_rfl,z⟩
theorem c75 (fu:Nat)(a0:Table)(a1:Int)(a2:List Set):Ctr prog 90 [tTable.va a0,isI .i64 a1,(tL tSet).va a2] [] (f75 fu a0 a1 a2) (fun _ _=>[]) (fun q=>tup [tTable.va q.1,isI .i64 q.2]):=by
 refine Ctr.of_W func90 z ntmps90 z fun A w=>?_
 unfold f75
 refine .s<|.box (T:=tTable) z z fun b1=>.alloc tTableA d0A27 [] zA27 z fun b2=>.an z z<|.s<|.lp 1 (Fld.self _) z z ty27 z<|.m z z<|.call0 (c48 fu _ _) n48 z z fun q3=>.an z z<|.seq<|.s<|.m z z<|.bin z z z z<|.nil<|.cd z ?_ ?_
 ·exact .s<|.lp 1 (Fld.self _) z z ty27 z<|.callL0 (c80 fu _) n80 z z fun q4 p5=>.storeP 2 (Fld.self _) z z z ty27<|.an z z<|.frzBox 2 0 conv27 z z<|.ret2 func90 results90 (.cell 2 z z ty27) (.tmp z) z (fun _=>.c<|.c<|.c<|.c<|.e)
 ·refine .skip<|.s<|.lp 1 (Fld.self _) z z ty27 z<|.call0 (c66 fu _) n66 z z fun q6=>.an z z<|.s<|.lp 1 (Fld.self _) z z ty27 z<|.callL0 (c80 fu _) n80 z z fun q7 p8=>.alloc tTableA d0A27 [] zA27 z fun b9=>.storeP 0 (Fld.self _) z z z ty27<|.nil<|.seq<|.pT fun h1=>?_
  refine .draw 6 [] mix (by kernel_rfl) (.k (fun p e=>.lp 4 (Fld.self _) (e.op z) (p.get z z) ty27 z)<|.j (fun o=>.fp (o z) fa27_2 z)<|.k (fun p e=>.lp 4 fTable_2 (e.op z) (p.get z z) ty25 z)<|.j (fun o=>.m (o z) z)<|.k (fun p e h=>.useC h1<|.elemAt (e.op z) (e.op z) u35 ty37 z<|h)<|.j (fun o=>.load (o z) ty37 z)<|.nil) z<|.callL0 (c49 fu _ _) n49 z z fun q10 v11=>.unRaw 29 z<|.an z z<|.seq<|.s<|.m z z<|.m z z<|.m z z<|.call1 0 (c99 fu _ _ _ _) z n99 z z fun q12=>.not z z<|.nil<|.cd z ?_ ?_
  ·exact .s<|.lp 5 (Fld.self _) z z ty27 z<|.callL0 (c80 fu _) n80 z z fun q13 p14=>.storeP 6 (Fld.self _) z z z ty27<|.an z z<|.frzBox 6 0 conv27 z z<|.ret2 func90 results90 (.cell 6 z z ty27) (.tmp z) z (fun _=>.c<|.c<|.c<|.c<|.c<|.c<|.c<|.c<|.e)
  ·refine .skip<|.s<|.fp z fa27_2 z<|.loadR 1 fTableA_2 z z ty25 z<|.know 38 z<|.m z z<|.m z z<|.fp z fa27_1 z<|.lp 5 fTable_1 z z ty24 z<|.lenL z u34 z<|.m z z<|.frz 0 11 z z<|.also 44 11 z z<|.build z st37 z37 (.cons fRow_0 z z<|.cons fRow_1 z z<|.cons fRow_2 z z<|.nil) z<|.elemA 2 z z z u35 ty37 z<|.storeA 2 (Fld.self _) z z z ty37<|.nil<|.seq<|.block<|.s<|.m z z<|.m z z<|.call0 (c58 fu _ _) n58 z z fun q15=>.not z z<|.an z z<|.cd z ?_ ?_
   ·exact .s<|.lp 5 (Fld.self _) z z ty27 z<|.callL0 (c80 fu _) n80 z z fun q16 p17=>.storeP 6 (Fld.self _) z z z ty27<|.an z z<|.frzBox 6 0 conv27 z z<|.ret2 func90 results90 (.cell 6 z z ty27) (.tmp z) z (fun _=>.c<|.c<|.c<|.c<|.c<|.c<|.c<|.c<|.e)
   ·refine .seq<|.frzBox 1 2 conv27 z z<|.g<|.lp 1 (Fld.self _) z z ty27 z<|.call0 (c59 fu _) n59 z z fun q18=>.not z z<|.an z z<|.cd z ?_ ?_
    ·exact .s<|.lp 5 (Fld.self _) z z ty27 z<|.callL0 (c80 fu _) n80 z z fun q19 p20=>.storeP 6 (Fld.self _) z z z ty27<|.an z z<|.frzBox 6 0 conv27 z z<|.ret2 func90 results90 (.cell 6 z z ty27) (.tmp z) z (fun _=>.c<|.c<|.c<|.c<|.c<|.c<|.c<|.c<|.e)
    ·exact .skip<|.inBlock<|.s<|.lp 1 (Fld.self _) z z ty27 z<|.storeW 4 z z z z ty27<|.an z z<|.ret2 func90 results90 (.cell 4 z z ty27) (.tmp z) z (fun _=>.c<|.c<|.c<|.c<|.c<|.c<|.e)
end Go.Proofs.YtdpigighgmipfaaGreatDoor
