/- Functions of the program: what each answers, and that the machine answers so. -/
import Derived.Test.YtdpigighgmipfaaGreatDoorQ1005A10
import Derived.Test.YtdpigighgmipfaaGreatDoorQ1005AU
import Derived.KernelRfl
set_option linter.all false
namespace Go.Proofs.YtdpigighgmipfaaGreatDoor
open Go Go.HL Tryz
attribute [local irreducible] W WO
def f99_j2 (a2:List Set)(i2:Int)(i3:List (List UInt8))(i4:List Val)(q6:Int)(rec1:Int→(List (List UInt8))→(List Val)→Option (Bool×(List Val)))(i7:Bool):Option (Bool×(List Val)):=cond i7 (some (false,i4)) (cond (decide (0≤q6)&&decide (q6 < (i4.length:Int))) (rec1 (IntKind.i64.wrap (i2+1)) (cond (memK ((a2.getD i2.toNat default).name) i3) i3 (i3++[(a2.getD i2.toNat default).name])) (i4.set q6.toNat ((a2.getD i2.toNat default).val))) none)
def f99_l1 (fu:Nat)(a0:List Col)(a2:List Set):Nat→Int→(List (List UInt8))→(List Val)→Option (Bool×(List Val))
 | 0,_,_,_=>none
 | n1+1,i2,i3,i4=>cond (decide (i2 < (a2.length:Int))) (cond (decide (0≤i2)&&decide (i2 < (a2.length:Int))) ((f68 fu a0 ((a2.getD i2.toNat default).name)).bind fun q6=>cond (decide (q6<0)) (f99_j2 a2 i2 i3 i4 q6 (f99_l1 fu a0 a2 n1) true) (cond (memK ((a2.getD i2.toNat default).name) i3) (f99_j2 a2 i2 i3 i4 q6 (f99_l1 fu a0 a2 n1) true) ((f25 fu ((a2.getD i2.toNat default).val)).bind fun q8=>cond (!q8) (f99_j2 a2 i2 i3 i4 q6 (f99_l1 fu a0 a2 n1) true) (cond (decide (0≤q6)&&decide (q6 < (a0.length:Int))) ((f92 fu ((a2.getD i2.toNat default).val) ((a0.getD q6.toNat default).kind)).bind fun q9=>f99_j2 a2 i2 i3 i4 q6 (f99_l1 fu a0 a2 n1) (!q9)) none)))) none) (some (true,i4))
def f99 (fu:Nat)(a0:List Col)(a1:List Val)(a2:List Set):Option (Bool×(List Val)):=f99_l1 fu a0 a2 fu 0 ([]:List (List UInt8)) a1
theorem n99:Nm prog 145:=⟨_,_,func145,by kernel_rfl,z⟩
theorem c99 (fu:Nat)(a0:List Col)(vp1:Value)(a1:List Val)(a2:List Set):Ctr prog 145 [(tL tCol).va a0,isV vp1,(tL tSet).va a2] [arrO tVal vp1 a1] (f99 fu a0 a1 a2) (fun q _=>[arrO tVal vp1 q.2]) (fun q=>isB q.1):=by
 refine .w func145 ntmps145 fun hf A w=>?_
 unfold f99
 refine .know 1 z<|.s<|.an z z<|.s<|.makeMap str z fun v1=>.an z z<|.seq<|.s<|go ?_
 refine .block<|.loop<|.keep [0,12,13,14] [1,7] z<|(show ∀ (n1:Nat) (i2:Int) (i3:List (List UInt8)) (i4:List Val),W _ _ _ _ _ ⟨[(0,(tL tCol).va a0,none),(12,(tL tSet).va a2,none),(13,isI .i64 (a2.length:Int),none),(14,isI .i64 i2,none),(1,isV vp1,some vp1),(7,isV v1,some v1)],[mapO str v1 i3,arrO tVal vp1 i4]⟩ (f99_l1 fu a0 a2 n1 i2 i3 i4) from ?_) fu _ _ _
 intro n1
 induction n1 with
 | zero=>exact fun _ _ _=>.stop
 | succ n1 ih1=>
  intro i2 i3 i4
  refine .inLoop<|.s<|go ?_
  refine .seq<|.cd z ?_ ?_
  ·refine .skip<|.seq<|.block<|.s<|go ?_
   refine .alloc tSet d0_49 [] z49 z fun b5=>go ?_
   refine .s<|go ?_
   refine .call0 (c68 fu _ _) n68 z z fun q6=>.an z z<|.seq<|.seq<|.join1 (fun i7=>⟨[(0,(tL tCol).va a0,none),(9,isP b5 0,none),(10,isI .i64 q6,none),(12,(tL tSet).va a2,none),(13,isI .i64 (a2.length:Int),none),(14,isI .i64 i2,none),(46,isB i7,none),(1,isV vp1,some vp1),(7,isV v1,some v1)],[boxO b5 tSet (a2.getD i2.toNat default) [],mapO str v1 i3,arrO tVal vp1 i4]⟩) (fun i7=>f99_j2 a2 i2 i3 i4 q6 (f99_l1 fu a0 a2 n1) i7) (fun i7=>?_) (fun hj2=>?_)
   ·refine .cd z ?_ ?_
    ·exact fr
    ·refine .skip<|.s<|go ?_
     exact .mapAdd (T:=tS) 1 z z z u186 key9<|fj (ih1 _ _ _)
   ·refine .pcond (fun h6=>?_) (fun h6=>?_)
    ·exact .draw 22 [] mix (by kernel_rfl) sts z<|fj (hj2 _)
    ·refine .pcond (fun h7=>?_) (fun h7=>?_)
     ·exact .draw 22 [] mix (by kernel_rfl) (.j (fun o=>.m (o z) z)<|.j (fun o=>.bin z (o z) (o z) z)<|.k (fun p e h=>.m (e.op z) z<|.noV<|.useEq h6 h)<|.k (fun p e h=>.on z (e _ _ z)<|.m (e.op z) z<|h)<|.k (fun p e h=>.on z (e _ _ z)<|.fp (e.op z) fa49_0 z<|h)<|.k (fun p e h=>.on z (e _ _ z)<|.lp 0 fSet_0 (e.op z) (p.get z z) ty9 z<|h)<|.k (fun p e h=>.on z (e _ _ z)<|.lookup (T:=tS) 1 (e.op z) (e.op z) (p.get z z) u186 key9 (by kernel_rfl) z<|h)<|.j (fun o=>.pickF (o z) (o z) z)<|.k (fun p e h=>.m (e.op z) z<|.noV<|.useEq h7 h)<|.f z z z<|.f z z z<|.f z z z<|.f z z z<|.j (fun o=>.pickT (o z) (o z) z)<|.j (fun o=>.m (o z) z)<|.f z z z<|.f z z z<|.f z z z<|.f z z z<|.f z z z<|.f z z z<|.f z z z<|.nil) z<|fj (hj2 _)
     ·refine .pbind fun q8 h8=>.pcond (fun h9=>?_) (fun h9=>?_)
      ·exact .draw 22 [] mix (by kernel_rfl) (.j (fun o=>.m (o z) z)<|.j (fun o=>.bin z (o z) (o z) z)<|.k (fun p e h=>.m (e.op z) z<|.noV<|.useEq h6 h)<|.k (fun p e h=>.on z (e _ _ z)<|.m (e.op z) z<|h)<|.k (fun p e h=>.on z (e _ _ z)<|.fp (e.op z) fa49_0 z<|h)<|.k (fun p e h=>.on z (e _ _ z)<|.lp 0 fSet_0 (e.op z) (p.get z z) ty9 z<|h)<|.k (fun p e h=>.on z (e _ _ z)<|.lookup (T:=tS) 1 (e.op z) (e.op z) (p.get z z) u186 key9 (by kernel_rfl) z<|h)<|.j (fun o=>.pickF (o z) (o z) z)<|.k (fun p e h=>.m (e.op z) z<|.noV<|.useEq h7 h)<|.k (fun p e h=>.on z (e _ _ z)<|.fp (e.op z) fa49_1 z<|h)<|.k (fun p e h=>.on z (e _ _ z)<|.lp 0 fSet_1 (e.op z) (p.get z z) ty47 z<|h)<|.k (fun p e h=>.on z (e _ _ z)<|.bindE h8 (fun r h=>.call0 (c25 fu _) n25 (e.ops z) z h)<|h)<|.k (fun p e h=>.on z (e _ _ z)<|.not (e.op z) z<|h)<|.j (fun o=>.pickF (o z) (o z) z)<|.k (fun p e h=>.m (e.op z) z<|.noV<|.useEq h9 h)<|.f z z z<|.f z z z<|.f z z z<|.f z z z<|.f z z z<|.f z z z<|.f z z z<|.nil) z<|fj (hj2 _)
      ·exact .pT fun h10=>.draw 22 [] mix (by kernel_rfl) (.j (fun o=>.m (o z) z)<|.j (fun o=>.bin z (o z) (o z) z)<|.k (fun p e h=>.m (e.op z) z<|.noV<|.useEq h6 h)<|.k (fun p e h=>.on z (e _ _ z)<|.m (e.op z) z<|h)<|.k (fun p e h=>.on z (e _ _ z)<|.fp (e.op z) fa49_0 z<|h)<|.k (fun p e h=>.on z (e _ _ z)<|.lp 0 fSet_0 (e.op z) (p.get z z) ty9 z<|h)<|.k (fun p e h=>.on z (e _ _ z)<|.lookup (T:=tS) 1 (e.op z) (e.op z) (p.get z z) u186 key9 (by kernel_rfl) z<|h)<|.j (fun o=>.pickF (o z) (o z) z)<|.k (fun p e h=>.m (e.op z) z<|.noV<|.useEq h7 h)<|.k (fun p e h=>.on z (e _ _ z)<|.fp (e.op z) fa49_1 z<|h)<|.k (fun p e h=>.on z (e _ _ z)<|.lp 0 fSet_1 (e.op z) (p.get z z) ty47 z<|h)<|.k (fun p e h=>.on z (e _ _ z)<|.bindE h8 (fun r h=>.call0 (c25 fu _) n25 (e.ops z) z h)<|h)<|.k (fun p e h=>.on z (e _ _ z)<|.not (e.op z) z<|h)<|.j (fun o=>.pickF (o z) (o z) z)<|.k (fun p e h=>.m (e.op z) z<|.noV<|.useEq h9 h)<|.k (fun p e h=>.on z (e _ _ z)<|.fp (e.op z) fa49_1 z<|h)<|.k (fun p e h=>.on z (e _ _ z)<|.lp 0 fSet_1 (e.op z) (p.get z z) ty47 z<|h)<|.k (fun p e h=>.on z (e _ _ z)<|.m (e.op z) z<|h)<|.k (fun p e h=>.on z (e _ _ z)<|.m (e.op z) z<|h)<|.k (fun p e h=>.on z (e _ _ z)<|.useC h10<|.elemAt (e.op z) (e.op z) u27 ty52 z<|h)<|.k (fun p e h=>.on z (e _ _ z)<|.fieldAt fCol_1 (e.op z) fa52_1 z<|h)<|.k (fun p e h=>.on z (e _ _ z)<|.load (e.op z) ty3 z<|h)<|.nil) z<|.on z z<|.call0 (c92 fu _ _) n92 z z fun q9=>fj (hj2 _)
  ·exact fr
end Go.Proofs.YtdpigighgmipfaaGreatDoor
