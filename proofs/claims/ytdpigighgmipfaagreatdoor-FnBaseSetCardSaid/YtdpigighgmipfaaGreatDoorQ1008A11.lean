/- Functions of the program: what each answers, and that the machine answers so. -/
import Derived.Test.YtdpigighgmipfaaGreatDoorQ1008A10
import Derived.KernelRfl
set_option linter.all false
namespace Go.Proofs.YtdpigighgmipfaaGreatDoor
open Go Go.HL Tryz
def f99_j2 (a2:List Set)(i2:Int)(i3:List (List UInt8))(i4:List Val)(q6:Int)(rec1:Int→(List (List UInt8))→(List Val)→Option (Bool×(List Val)))(i7:Bool):Option (Bool×(List Val)):=cond i7 (some (false,i4)) (cond (decide (0≤q6)&&decide (q6 < (i4.length:Int))) (rec1 (IntKind.i64.wrap (i2+1)) (cond (memK ((a2.getD i2.toNat default).name) i3) i3 (i3++[(a2.getD i2.toNat default).name])) (i4.set q6.toNat ((a2.getD i2.toNat default).val))) none)
def f99_l1 (fu:Nat)(a0:List Col)(a2:List Set):Nat→Int→(List (List UInt8))→(List Val)→Option (Bool×(List Val))
 | 0,_,_,_=>none
 | n1+1,i2,i3,i4=>cond (decide (i2 < (a2.length:Int))) (cond (decide (0≤i2)&&decide (i2 < (a2.length:Int))) ((f68 fu a0 ((a2.getD i2.toNat default).name)).bind fun q6=>cond (decide (q6<0)) (f99_j2 a2 i2 i3 i4 q6 (f99_l1 fu a0 a2 n1) true) (cond (memK ((a2.getD i2.toNat default).name) i3) (f99_j2 a2 i2 i3 i4 q6 (f99_l1 fu a0 a2 n1) true) ((f25 fu ((a2.getD i2.toNat default).val)).bind fun q8=>cond (!q8) (f99_j2 a2 i2 i3 i4 q6 (f99_l1 fu a0 a2 n1) true) (cond (decide (0≤q6)&&decide (q6 < (a0.length:Int))) ((f92 fu ((a2.getD i2.toNat default).val) ((a0.getD q6.toNat default).kind)).bind fun q9=>f99_j2 a2 i2 i3 i4 q6 (f99_l1 fu a0 a2 n1) (!q9)) none)))) none) (some (true,i4))
def f99 (fu:Nat)(a0:List Col)(a1:List Val)(a2:List Set):Option (Bool×(List Val)):=f99_l1 fu a0 a2 fu 0 ([]:List (List UInt8)) a1
theorem n99:Nm prog 145:=⟨_,_,func145,by kernel_rfl,z⟩
theorem c99 (fu:Nat)(a0:List Col)(vp1:Value)(a1:List Val)(a2:List Set):Ctr prog 145 [(tL tCol).va a0,isV vp1,(tL tSet).va a2] [arrO tVal vp1 a1] (f99 fu a0 a1 a2) (fun q _=>[arrO tVal vp1 q.2]) (fun q=>isB q.1):=by
 refine Ctr.of_W func145 z ntmps145 z fun A w=>?_
 unfold f99
 refine .know 1 z<|.s<|.an z z<|.s<|.makeMap str z fun v1=>.an z z<|.seq<|.s<|.m z z<|.lenL z u68 z<|.m z z<|.nil<|.block<|.loop<|.keep [0,12,13,14] [1,7] z<|(show ∀ (n1:Nat) (i2:Int) (i3:List (List UInt8)) (i4:List Val),W _ _ _ _ _ ⟨[(0,(tL tCol).va a0,none),(12,(tL tSet).va a2,none),(13,isI .i64 (a2.length:Int),none),(14,isI .i64 i2,none),(1,isV vp1,some vp1),(7,isV v1,some v1)],[mapO str v1 i3,arrO tVal vp1 i4]⟩ (f99_l1 fu a0 a2 n1 i2 i3 i4) from ?_) fu _ _ _
 intro n1
 induction n1 with
 | zero=>exact fun _ _ _=>.stop
 | succ n1 ih1=>
  intro i2 i3 i4
  refine .inLoop<|.s<|.bin z z z z<|.nil<|.seq<|.cd z ?_ ?_
  ·refine .skip<|.seq<|.block<|.s<|.elemAt z z u68 ty49 z<|.load z ty49 z<|.alloc tSet d0_49 [] z49 z fun b5=>.storeP 0 (Fld.self _) z z z ty49<|.nil<|.s<|.m z z<|.fp z fa49_0 z<|.lp 0 fSet_0 z z ty9 z<|.call0 (c68 fu _ _) n68 z z fun q6=>.an z z<|.seq<|.seq<|.join1 (fun i7=>⟨[(0,(tL tCol).va a0,none),(9,isP b5 0,none),(10,isI .i64 q6,none),(12,(tL tSet).va a2,none),(13,isI .i64 (a2.length:Int),none),(14,isI .i64 i2,none),(46,isB i7,none),(1,isV vp1,some vp1),(7,isV v1,some v1)],[boxO b5 tSet (a2.getD i2.toNat default) [],mapO str v1 i3,arrO tVal vp1 i4]⟩) (fun i7=>f99_j2 a2 i2 i3 i4 q6 (f99_l1 fu a0 a2 n1) i7) (fun i7=>?_) (fun hj2=>?_)
   ·refine .cd z ?_ ?_
    ·exact .s<|.an z z<|.ret1 func145 results145 (.tmp z) z (fun _ _=>.c<|.c<|.d<|.e)
    ·exact .skip<|.s<|.m z z<|.fp z fa49_0 z<|.lp 0 fSet_0 z z ty9 z<|.mapAdd (T:=tS) 1 z z z u186 key9<|.nil<|.g<|.m z z<|.m z z<|.fp z fa49_1 z<|.lp 0 fSet_1 z z ty47 z<|.elemA 2 z z z u76 ty47 z<|.storeA 2 (Fld.self _) z z z ty47<|.nil<|.inBlock<|.g<|.bin z z z z<|.m z z<|.nil<|.keep [0,12,13,14] [1,7] z (.drop (.c<|.d<|.d<|.e)<|ih1 _ _ _)
   ·refine .pcond (fun h6=>?_) (fun h6=>?_)
    ·exact .draw 22 [] mix (by kernel_rfl) (.j (fun o=>.m (o z) z)<|.j (fun o=>.bin z (o z) (o z) z)<|.k (fun p e h=>.m (e.op z) z<|.noV<|.useEq h6 h)<|.f z z z<|.f z z z<|.f z z z<|.f z z z<|.j (fun o=>.pickT (o z) (o z) z)<|.j (fun o=>.m (o z) z)<|.f z z z<|.f z z z<|.f z z z<|.f z z z<|.j (fun o=>.pickT (o z) (o z) z)<|.j (fun o=>.m (o z) z)<|.f z z z<|.f z z z<|.f z z z<|.f z z z<|.f z z z<|.f z z z<|.f z z z<|.nil) z<|.off z z z<|.off z z z<|.pickT z z z<|.nil<|.keep [0,9,10,12,13,14,46] [1,7] z (hj2 _)
    ·refine .pcond (fun h7=>?_) (fun h7=>?_)
     ·exact .draw 22 [] mix (by kernel_rfl) (.j (fun o=>.m (o z) z)<|.j (fun o=>.bin z (o z) (o z) z)<|.k (fun p e h=>.m (e.op z) z<|.noV<|.useEq h6 h)<|.k (fun p e h=>.on z (e _ _ z)<|.m (e.op z) z<|h)<|.k (fun p e h=>.on z (e _ _ z)<|.fp (e.op z) fa49_0 z<|h)<|.k (fun p e h=>.on z (e _ _ z)<|.lp 0 fSet_0 (e.op z) (p.get z z) ty9 z<|h)<|.k (fun p e h=>.on z (e _ _ z)<|.lookup (T:=tS) 1 (e.op z) (e.op z) (p.get z z) u186 key9 (by kernel_rfl) z<|h)<|.j (fun o=>.pickF (o z) (o z) z)<|.k (fun p e h=>.m (e.op z) z<|.noV<|.useEq h7 h)<|.f z z z<|.f z z z<|.f z z z<|.f z z z<|.j (fun o=>.pickT (o z) (o z) z)<|.j (fun o=>.m (o z) z)<|.f z z z<|.f z z z<|.f z z z<|.f z z z<|.f z z z<|.f z z z<|.f z z z<|.nil) z<|.off z z z<|.off z z z<|.pickT z z z<|.nil<|.keep [0,9,10,12,13,14,46] [1,7] z (hj2 _)
     ·refine .pbind fun q8 h8=>?_
      refine .pcond (fun h9=>?_) (fun h9=>?_)
      ·refine .draw 22 [] mix (by kernel_rfl) (.j (fun o=>.m (o z) z)<|.j (fun o=>.bin z (o z) (o z) z)<|.k (fun p e h=>.m (e.op z) z<|.noV<|.useEq h6 h)<|.k (fun p e h=>.on z (e _ _ z)<|.m (e.op z) z<|h)<|.k (fun p e h=>.on z (e _ _ z)<|.fp (e.op z) fa49_0 z<|h)<|.k (fun p e h=>.on z (e _ _ z)<|.lp 0 fSet_0 (e.op z) (p.get z z) ty9 z<|h)<|.k (fun p e h=>.on z (e _ _ z)<|.lookup (T:=tS) 1 (e.op z) (e.op z) (p.get z z) u186 key9 (by kernel_rfl) z<|h)<|.j (fun o=>.pickF (o z) (o z) z)<|.k (fun p e h=>.m (e.op z) z<|.noV<|.useEq h7 h)<|.k (fun p e h=>.on z (e _ _ z)<|.fp (e.op z) fa49_1 z<|h)<|.k (fun p e h=>.on z (e _ _ z)<|.lp 0 fSet_1 (e.op z) (p.get z z) ty47 z<|h)<|.k (fun p e h=>.on z (e _ _ z)<|.bindE h8 (fun r h=>.call0 (c25 fu _) n25 (e.ops z) z h)<|h)<|.k (fun p e h=>.on z (e _ _ z)<|.not (e.op z) z<|h)<|.j (fun o=>.pickF (o z) (o z) z)<|.k (fun p e h=>.m (e.op z) z<|.noV<|.useEq h9 h)<|.f z z z<|.f z z z<|.f z z z<|.f z z z<|.f z z z<|.f z z z<|.f z z z<|.nil) z<|.off z z z<|.off z z z<|.pickT z z z<|.nil ?_
       exact .keep [0,9,10,12,13,14,46] [1,7] z (hj2 _)
      ·refine .pT fun h10=>?_
       refine .draw 22 [] mix (by kernel_rfl) (.j (fun o=>.m (o z) z)<|.j (fun o=>.bin z (o z) (o z) z)<|.k (fun p e h=>.m (e.op z) z<|.noV<|.useEq h6 h)<|.k (fun p e h=>.on z (e _ _ z)<|.m (e.op z) z<|h)<|.k (fun p e h=>.on z (e _ _ z)<|.fp (e.op z) fa49_0 z<|h)<|.k (fun p e h=>.on z (e _ _ z)<|.lp 0 fSet_0 (e.op z) (p.get z z) ty9 z<|h)<|.k (fun p e h=>.on z (e _ _ z)<|.lookup (T:=tS) 1 (e.op z) (e.op z) (p.get z z) u186 key9 (by kernel_rfl) z<|h)<|.j (fun o=>.pickF (o z) (o z) z)<|.k (fun p e h=>.m (e.op z) z<|.noV<|.useEq h7 h)<|.k (fun p e h=>.on z (e _ _ z)<|.fp (e.op z) fa49_1 z<|h)<|.k (fun p e h=>.on z (e _ _ z)<|.lp 0 fSet_1 (e.op z) (p.get z z) ty47 z<|h)<|.k (fun p e h=>.on z (e _ _ z)<|.bindE h8 (fun r h=>.call0 (c25 fu _) n25 (e.ops z) z h)<|h)<|.k (fun p e h=>.on z (e _ _ z)<|.not (e.op z) z<|h)<|.j (fun o=>.pickF (o z) (o z) z)<|.k (fun p e h=>.m (e.op z) z<|.noV<|.useEq h9 h)<|.k (fun p e h=>.on z (e _ _ z)<|.fp (e.op z) fa49_1 z<|h)<|.k (fun p e h=>.on z (e _ _ z)<|.lp 0 fSet_1 (e.op z) (p.get z z) ty47 z<|h)<|.k (fun p e h=>.on z (e _ _ z)<|.m (e.op z) z<|h)<|.k (fun p e h=>.on z (e _ _ z)<|.m (e.op z) z<|h)<|.k (fun p e h=>.on z (e _ _ z)<|.useC h10<|.elemAt (e.op z) (e.op z) u27 ty52 z<|h)<|.k (fun p e h=>.on z (e _ _ z)<|.fieldAt fCol_1 (e.op z) fa52_1 z<|h)<|.k (fun p e h=>.on z (e _ _ z)<|.load (e.op z) ty3 z<|h)<|.nil) z<|.on z z<|.call0 (c92 fu _ _) n92 z z fun q9=>.on z z<|.not z z<|.pickF z z z<|.nil ?_
       exact .keep [0,9,10,12,13,14,46] [1,7] z (hj2 _)
  ·exact .exit z<|.s<|.an z z<|.ret1 func145 results145 (.tmp z) z (fun _ _=>.c<|.d<|.e)
def f23 (fu:Nat)(a0:Table):Option (List Col):=(f19 fu a0).bind fun q2=>cond (!q2) (some ([]:List Col)) ((f66 fu a0).bind fun q3=>some q3)
theorem n23:Nm prog 46:=⟨_,_,func46,by kernel_rfl,z⟩
theorem c23 (fu:Nat)(a0:Table):Ctr prog 46 [tTable.va a0] [] (f23 fu a0) (fun _ _=>[]) (fun q=>(tL tCol).va q):=by
 refine Ctr.of_W func46 z ntmps46 z fun A w=>?_
 unfold f23
 refine .s<|.box (T:=tTable) z z fun b1=>.assignNil tCol z<|.nil<|.seq<|.s<|.lp 0 (Fld.self _) z z ty27 z<|.call0 (c19 fu _) n19 z z fun q2=>.not z z<|.nil<|.cd z ?_ ?_
 ·exact .s<|.assignNil tCol z<|.nil<|.ret1 func46 results46 (.tmp z) z (fun _ _=>.c<|.e)
 ·exact .skip<|.s<|.lp 0 (Fld.self _) z z ty27 z<|.call0 (c66 fu _) n66 z z fun q3=>.an z z<|.ret1 func46 results46 (.tmp z) z (fun _ _=>.c<|.e)
def f24 (fu:Nat)(a0:List Col)(a1:List UInt8):Option Int:=(f67 fu a0).bind fun q1=>cond (!q1) (some (-1)) ((f68 fu a0 a1).bind fun q2=>some q2)
theorem n24:Nm prog 45:=⟨_,_,func45,by kernel_rfl,z⟩
theorem c24 (fu:Nat)(a0:List Col)(a1:List UInt8):Ctr prog 45 [(tL tCol).va a0,isS a1] [] (f24 fu a0 a1) (fun _ _=>[]) (fun q=>isI .i64 q):=by
 refine Ctr.of_W func45 z ntmps45 z fun A w=>?_
 unfold f24
 refine .s<|.an z z<|.seq<|.s<|.m z z<|.call0 (c67 fu _) n67 z z fun q1=>.not z z<|.nil<|.cd z ?_ ?_
 ·exact .s<|.an z z<|.ret1 func45 results45 (.tmp z) z (fun _ _=>.e)
 ·exact .skip<|.s<|.m z z<|.m z z<|.call0 (c68 fu _ _) n68 z z fun q2=>.an z z<|.ret1 func45 results45 (.tmp z) z (fun _ _=>.e)
end Go.Proofs.YtdpigighgmipfaaGreatDoor
