/- Functions of the program: what each answers, and that the machine answers so. -/
import Derived.Test.YtdpigighgmipfaaGreatDoorQ1006A11
import Derived.KernelRfl
import Derived.KernelRfl
set_option linter.all false
namespace Go.Proofs.YtdpigighgmipfaaGreatDoor
open Go Go.HL Tryz
def f71_l1 (fu:Nat)(a0:Table)(q5:(List Col)×Bool)(q8:Table)(q12:(List Change)):Nat→Int→Option (Table×Int)
 | 0,_=>none
 | n1+1,i14=>cond (decide (i14 < (q8.rows.length:Int))) (cond (decide (0≤i14)&&decide (i14 < (q8.rows.length:Int))) ((f49 fu (⟨q8.first,q12,q8.rows,q8.next⟩:Table) (q8.rows.getD i14.toNat default)).bind fun q16=>(f58 fu q5.1 q16).bind fun q17=>cond (!q17) ((f80 fu a0).bind fun q18=>some (q18,2)) ((f71_l1 fu a0 q5 q8 q12 n1) (IntKind.i64.wrap (i14+1)))) none) (cond (decide ((a0.changes.length:Int)=8)) ((f80 fu a0).bind fun q20=>some (q20,4)) (some ((⟨q8.first,q12,q8.rows,q8.next⟩:Table),0)))
def f71 (fu:Nat)(a0:Table)(a1:Change):Option (Table×Int):=(f66 fu a0).bind fun q4=>(f78 fu q4 a1).bind fun q5=>cond (!q5.2) ((f80 fu a0).bind fun q6=>some (q6,1)) ((f80 fu a0).bind fun q8=>cond (decide (q8.changes.length+List.length ([a1]:List Change)≤CAP)) ((f109 (q8.changes++([a1]:List Change))).bind fun q12=>f71_l1 fu a0 q5 q8 q12 fu 0) none)
theorem n71:Nm prog 99:=⟨_,_,func99,by kernel_rfl,z⟩
theorem c71 (fu:Nat)(a0:Table)(a1:Change):Ctr prog 99 [tTable.va a0,tChange.va a1] [] (f71 fu a0 a1) (fun _ _=>[]) (fun q=>tup [tTable.va q.1,isI .i64 q.2]):=by
 refine Ctr.of_W func99 z ntmps99 z fun A w=>?_
 unfold f71
 refine .s<|.box (T:=tTable) z z fun b1=>.box (T:=tChange) z z fun b2=>.alloc tTableA d0A27 [] zA27 z fun b3=>.an z z<|.seq<|.pbind fun q4 h1=>?_
 refine .draw 3 [] mix (by kernel_rfl) (.k (fun p e=>.lp 2 (Fld.self _) (e.op z) (p.get z z) ty27 z)<|.k (fun p e h=>.bindE h1 (fun r h=>.call0 (c66 fu _) n66 (e.ops z) z h)<|h)<|.k (fun p e=>.lp 1 (Fld.self _) (e.op z) (p.get z z) ty56 z)<|.nil) z<|.call0 (c78 fu _ _) n78 z z fun q5=>.m z z<|.extract z z z<|.extract z z z<|.a z z<|.an z z<|.seq<|.s<|.m z z<|.not z z<|.nil<|.cd z ?_ ?_
 ·exact .s<|.lp 2 (Fld.self _) z z ty27 z<|.callL0 (c80 fu _) n80 z z fun q6 p7=>.storeP 2 (Fld.self _) z z z ty27<|.an z z<|.frzBox 2 0 conv27 z z<|.ret2 func99 results99 (.cell 2 z z ty27) (.tmp z) z (fun _=>.c<|.c<|.c<|.c<|.c<|.e)
 ·refine .skip<|.s<|.lp 2 (Fld.self _) z z ty27 z<|.callL0 (c80 fu _) n80 z z fun q8 p9=>.alloc tTableA d0A27 [] zA27 z fun b10=>.storeP 0 (Fld.self _) z z z ty27<|.nil<|.s<|.fp z fa27_1 z<|.loadKV 0 fTableA_1 z z ty24 z<|.lp 4 (Fld.self _) z z ty56 z<|.litN (T:=tChange) underlying34 el56 z z (.cons z<|.nil) z<|.app (T:=tChange) 2 z z z underlying34 el56 z fun v11=>.call0 (CtrL.plain (c109 _)) n109 z z fun q12=>.fp z fa27_1 z<|.name 29 z fun v13=>.toK 29 z<|.storeP 0 fTableA_1 z z z ty24<|.nil<|.seq<|.s<|.fp z fa27_2 z<|.loadR 0 fTableA_2 z z ty25 z<|.know 32 z<|.lenA 1 z z underlying35 z<|.m z z<|.nil<|.block<|.frz 1 32 z z<|.boxFrom 0 32 conv27 z z<|.loop<|.drop (.d<|.d<|.c<|.d<|.c<|.d<|.e)<|.keep [2,4,6,8,33,34] [32] z<|(show ∀ (n1:Nat) (i14:Int),W _ _ _ _ _ ⟨[(2,isP b1 0,none),(4,isP b3 0,none),(6,(tL tCol).va q5.1,none),(8,isP b10 0,none),(33,isI .i64 (q8.rows.length:Int),none),(34,isI .i64 i14,none),(32,(tL tRow).va q8.rows,some p9.1)],[boxO b10 tTable (⟨q8.first,q12,q8.rows,q8.next⟩:Table) [],appO 3 p9.1,boxO b3 tTableA (⟨([]:List Col),((.slice none 0 0),([]:List Change)),(.slice none 0 0),(0:Int)⟩:TableA) [],boxO b1 tTable a0 []]⟩ (f71_l1 fu a0 q5 q8 q12 n1 i14) from ?_) fu _
  intro n1
  induction n1 with
  | zero=>exact fun _=>.stop
  | succ n1 ih1=>
   intro i14
   refine .inLoop<|.s<|.bin z z z z<|.nil<|.seq<|.cd z ?_ ?_
   ·refine .skip<|.seq<|.block<|.s<|.elemAt z z underlying35 ty37 z<|.load z ty37 z<|.alloc tRow d0_37 [] z37 z fun b15=>.storeP 0 (Fld.self _) z z z ty37<|.nil<|.s<|.m z z<|.lp 1 (Fld.self _) z z ty27 z<|.lp 0 (Fld.self _) z z ty37 z<|.call0 (CtrL.plain (c49 fu _ _)) n49 z z fun q16=>.call0 (c58 fu _ _) n58 z z fun q17=>.not z z<|.nil<|.cd z ?_ ?_
    ·exact .s<|.lp 4 (Fld.self _) z z ty27 z<|.callL0 (c80 fu _) n80 z z fun q18 p19=>.storeP 5 (Fld.self _) z z z ty27<|.an z z<|.frzBox 5 0 conv27 z z<|.ret2 func99 results99 (.cell 5 z z ty27) (.tmp z) z (fun _=>.c<|.c<|.c<|.c<|.c<|.c<|.c<|.e)
    ·exact .skip<|.inBlock<|.g<|.bin z z z z<|.m z z<|.nil<|.keep [2,4,6,8,33,34] [32] z (.drop (.c<|.d<|.d<|.d<|.d<|.e)<|ih1 _)
   ·refine .exit z<|.seq<|.s<|.fp z fa27_1 z<|.lp 3 fTable_1 z z ty24 z<|.lenL z underlying34 z<|.bin z z z z<|.nil<|.cd z ?_ ?_
    ·exact .s<|.lp 3 (Fld.self _) z z ty27 z<|.callL0 (c80 fu _) n80 z z fun q20 p21=>.storeP 4 (Fld.self _) z z z ty27<|.an z z<|.frzBox 4 0 conv27 z z<|.ret2 func99 results99 (.cell 4 z z ty27) (.tmp z) z (fun _=>.c<|.c<|.c<|.c<|.c<|.c<|.e)
    ·exact .skip<|.s<|.lp 0 (Fld.self _) z z ty27 z<|.storeW 2 z z z z ty27<|.an z z<|.ret2 func99 results99 (.cell 2 z z ty27) (.tmp z) z (fun _=>.c<|.c<|.c<|.c<|.e)
def f28 (fu:Nat)(a0:Table)(a1:Change):Option (Table×Int):=(f19 fu a0).bind fun q4=>cond (!q4) (some ((⟨d0_27.first,d0_27.changes,d0_27.rows,d0_27.next⟩:Table),1)) ((f71 fu a0 a1).bind fun q5=>some (q5.1,q5.2))
theorem n28:Nm prog 36:=⟨_,_,func36,by kernel_rfl,z⟩
theorem c28 (fu:Nat)(a0:Table)(a1:Change):Ctr prog 36 [tTable.va a0,tChange.va a1] [] (f28 fu a0 a1) (fun _ _=>[]) (fun q=>tup [tTable.va q.1,isI .i64 q.2]):=by
 refine Ctr.of_W func36 z ntmps36 z fun A w=>?_
 unfold f28
 refine .s<|.box (T:=tTable) z z fun b1=>.box (T:=tChange) z z fun b2=>.alloc tTable d0_27 [] z27 z fun b3=>.an z z<|.seq<|.s<|.lp 2 (Fld.self _) z z ty27 z<|.call0 (c19 fu _) n19 z z fun q4=>.not z z<|.nil<|.cd z ?_ ?_
 ·exact .s<|.build z st27 z27 (.nil) z<|.storeP 0 (Fld.self _) z z z ty27<|.an z z<|.ret2 func36 results36 (.cell 0 z z ty27) (.tmp z) z (fun _=>.c<|.c<|.c<|.e)
 ·exact .skip<|.s<|.lp 2 (Fld.self _) z z ty27 z<|.lp 1 (Fld.self _) z z ty56 z<|.call0 (c71 fu _ _) n71 z z fun q5=>.extract z z z<|.extract z z z<|.storeP 0 (Fld.self _) z z z ty27<|.an z z<|.ret2 func36 results36 (.cell 0 z z ty27) (.tmp z) z (fun _=>.c<|.c<|.c<|.e)
end Go.Proofs.YtdpigighgmipfaaGreatDoor
