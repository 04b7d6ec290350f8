/- What functions answer. -/
import Derived.Test.YtganfdhmkdehlaaGreatDoorQ2007A10
import Derived.KernelRfl
set_option linter.all false
namespace Go.Proofs.YtganfdhmkdehlaaGreatDoor
open Go Go.HL Tryz
attribute [local irreducible] W WO
def mD (a2:List Set)(i2:Int)(i3:List (List UInt8))(i4:List Val)(q6:Int)(rec1:Int→(List (List UInt8))→(List Val)→Option (Bool×(List Val)))(i7:Bool):Option (Bool×(List Val)):=cond i7 (some (false,i4)) (cond (decide (0≤q6)&&decide (q6 < (i4.length:Int))) (rec1 (IntKind.i64.wrap (i2+1)) (cond (memK ((a2.getD i2.toNat default).name) i3) i3 (i3++[(a2.getD i2.toNat default).name])) (i4.set q6.toNat ((a2.getD i2.toNat default).val))) none)
def f99_l1 (fu:Nat)(a0:List Col)(a2:List Set):Nat→Int→(List (List UInt8))→(List Val)→Option (Bool×(List Val))
 | 0,_,_,_=>none
 | n1+1,i2,i3,i4=>cond (decide (i2 < (a2.length:Int))) (cond (decide (0≤i2)&&decide (i2 < (a2.length:Int))) ((f68 fu a0 ((a2.getD i2.toNat default).name)).bind fun q6=>cond (decide (q6<0)) (mD a2 i2 i3 i4 q6 (f99_l1 fu a0 a2 n1) true) (cond (memK ((a2.getD i2.toNat default).name) i3) (mD a2 i2 i3 i4 q6 (f99_l1 fu a0 a2 n1) true) ((f25 fu ((a2.getD i2.toNat default).val)).bind fun q8=>cond (!q8) (mD a2 i2 i3 i4 q6 (f99_l1 fu a0 a2 n1) true) (cond (decide (0≤q6)&&decide (q6 < (a0.length:Int))) ((f92 fu ((a2.getD i2.toNat default).val) ((a0.getD q6.toNat default).kind)).bind fun q9=>mD a2 i2 i3 i4 q6 (f99_l1 fu a0 a2 n1) (!q9)) none)))) none) (some (true,i4))
def f99 (fu:Nat)(a0:List Col)(a1:List Val)(a2:List Set):Option (Bool×(List Val)):=f99_l1 fu a0 a2 fu 0 ([]:List (List UInt8)) a1
theorem n99:Nm prog 166:=nmK func166
theorem c99 (fu:Nat)(a0:List Col)(vp1:Value)(a1:List Val)(a2:List Set):Ctr prog 166 [(tL tCol).va a0,isV vp1,(tL tSet).va a2] [arrO tVal vp1 a1] (f99 fu a0 a1 a2) (fun q _=>[arrO tVal vp1 q.2]) (fun q=>isB q.1):=by
 refine .w func166 ntmps166 fun hf A w=>?_
 unfold f99
 refine .know 1 z<|.s<|.an z z<|.s<|.makeMap str z fun v1=>.an z z<|.seq<|.s<|go ?_
 refine .block<|.loop<|.keep [0,12,13,14] [1,7] z<|(show ∀ (n1:Nat) (i2:Int) (i3:List (List UInt8)) (i4:List Val),W _ _ _ _ _ ⟨[(0,(tL tCol).va a0,none),(12,(tL tSet).va a2,none),(13,isI .i64 (a2.length:Int),none),(14,isI .i64 i2,none),(1,isV vp1,some vp1),(7,isV v1,some v1)],[mapO str v1 i3,arrO tVal vp1 i4]⟩ (f99_l1 fu a0 a2 n1 i2 i3 i4) from ?_) fu _ _ _
 intro n1
 induction n1 with
 | zero=>exact fun _ _ _=>.stop
 | succ n1 ih1=>
  intro i2 i3 i4
  refine .inLoop<|.s<|go ?_
  refine .seq<|.cd z ?_ ?_
  ·refine .skip<|.seq<|.block<|.s<|go ?_
   refine .alloc tSet d0_49 [] z49 z fun b5=>go ?_
   refine .s<|go ?_
   refine .call0 (c68 fu _ _) n68 z z fun q6=>.an z z<|.seq<|.seq<|.join1 (fun i7=>⟨[(0,(tL tCol).va a0,none),(9,isP b5 0,none),(10,isI .i64 q6,none),(12,(tL tSet).va a2,none),(13,isI .i64 (a2.length:Int),none),(14,isI .i64 i2,none),(46,isB i7,none),(1,isV vp1,some vp1),(7,isV v1,some v1)],[boxO b5 tSet (a2.getD i2.toNat default) [],mapO str v1 i3,arrO tVal vp1 i4]⟩) (fun i7=>mD a2 i2 i3 i4 q6 (f99_l1 fu a0 a2 n1) i7) (fun i7=>?_) (fun hj2=>?_)
   ·refine .cd z ?_ ?_
    ·exact fr
    ·refine .skip<|.s<|go ?_
     exact .mapAdd (T:=tS) 1 z z z DE DJ<|fj (ih1 _ _ _)
   ·refine .pcond (fun h6=>?_) (fun h6=>?_)
    ·exact .draw 22 [] mix (by kernel_rfl) sts z<|fj (hj2 _)
    ·refine .pcond (fun h7=>?_) (fun h7=>?_)
     ·exact .draw 22 [] mix (by kernel_rfl) (.j (fun o=>.m (o z) z)<|.j (fun o=>.bin z (o z) (o z) z)<|.k (fun p e h=>.m (e.op z) z<|.noV<|.useEq h6 h)<|.k (fun p e h=>.on z (e _ _ z)<|.m (e.op z) z<|h)<|.k (fun p e h=>.on z (e _ _ z)<|.fp (e.op z) oZ z<|h)<|.k (fun p e h=>.on z (e _ _ z)<|.lp 0 mA (e.op z) (p.get z z) ty9 z<|h)<|.k (fun p e h=>.on z (e _ _ z)<|.lookup (T:=tS) 1 (e.op z) (e.op z) (p.get z z) DE DJ (by kernel_rfl) z<|h)<|.j (fun o=>.pickF (o z) (o z) z)<|.k (fun p e h=>.m (e.op z) z<|.noV<|.useEq h7 h)<|.f z z z<|.f z z z<|.f z z z<|.f z z z<|.j (fun o=>.pickT (o z) (o z) z)<|.j (fun o=>.m (o z) z)<|.f z z z<|.f z z z<|.f z z z<|.f z z z<|.f z z z<|.f z z z<|.f z z z<|.nil) z<|fj (hj2 _)
     ·refine .pbind fun q8 h8=>.pcond (fun h9=>?_) (fun h9=>?_)
      ·exact .draw 22 [] mix (by kernel_rfl) (.j (fun o=>.m (o z) z)<|.j (fun o=>.bin z (o z) (o z) z)<|.k (fun p e h=>.m (e.op z) z<|.noV<|.useEq h6 h)<|.k (fun p e h=>.on z (e _ _ z)<|.m (e.op z) z<|h)<|.k (fun p e h=>.on z (e _ _ z)<|.fp (e.op z) oZ z<|h)<|.k (fun p e h=>.on z (e _ _ z)<|.lp 0 mA (e.op z) (p.get z z) ty9 z<|h)<|.k (fun p e h=>.on z (e _ _ z)<|.lookup (T:=tS) 1 (e.op z) (e.op z) (p.get z z) DE DJ (by kernel_rfl) z<|h)<|.j (fun o=>.pickF (o z) (o z) z)<|.k (fun p e h=>.m (e.op z) z<|.noV<|.useEq h7 h)<|.k (fun p e h=>.on z (e _ _ z)<|.fp (e.op z) oY z<|h)<|.k (fun p e h=>.on z (e _ _ z)<|.lp 0 fSet_1 (e.op z) (p.get z z) t7 z<|h)<|.k (fun p e h=>.on z (e _ _ z)<|.bindE h8 (fun r h=>.call0 (c25 fu _) n25 (e.ops z) z h)<|h)<|.k (fun p e h=>.on z (e _ _ z)<|.not (e.op z) z<|h)<|.j (fun o=>.pickF (o z) (o z) z)<|.k (fun p e h=>.m (e.op z) z<|.noV<|.useEq h9 h)<|.f z z z<|.f z z z<|.f z z z<|.f z z z<|.f z z z<|.f z z z<|.f z z z<|.nil) z<|fj (hj2 _)
      ·exact .pT fun h10=>.draw 22 [] mix (by kernel_rfl) (.j (fun o=>.m (o z) z)<|.j (fun o=>.bin z (o z) (o z) z)<|.k (fun p e h=>.m (e.op z) z<|.noV<|.useEq h6 h)<|.k (fun p e h=>.on z (e _ _ z)<|.m (e.op z) z<|h)<|.k (fun p e h=>.on z (e _ _ z)<|.fp (e.op z) oZ z<|h)<|.k (fun p e h=>.on z (e _ _ z)<|.lp 0 mA (e.op z) (p.get z z) ty9 z<|h)<|.k (fun p e h=>.on z (e _ _ z)<|.lookup (T:=tS) 1 (e.op z) (e.op z) (p.get z z) DE DJ (by kernel_rfl) z<|h)<|.j (fun o=>.pickF (o z) (o z) z)<|.k (fun p e h=>.m (e.op z) z<|.noV<|.useEq h7 h)<|.k (fun p e h=>.on z (e _ _ z)<|.fp (e.op z) oY z<|h)<|.k (fun p e h=>.on z (e _ _ z)<|.lp 0 fSet_1 (e.op z) (p.get z z) t7 z<|h)<|.k (fun p e h=>.on z (e _ _ z)<|.bindE h8 (fun r h=>.call0 (c25 fu _) n25 (e.ops z) z h)<|h)<|.k (fun p e h=>.on z (e _ _ z)<|.not (e.op z) z<|h)<|.j (fun o=>.pickF (o z) (o z) z)<|.k (fun p e h=>.m (e.op z) z<|.noV<|.useEq h9 h)<|.k (fun p e h=>.on z (e _ _ z)<|.fp (e.op z) oY z<|h)<|.k (fun p e h=>.on z (e _ _ z)<|.lp 0 fSet_1 (e.op z) (p.get z z) t7 z<|h)<|.k (fun p e h=>.on z (e _ _ z)<|.m (e.op z) z<|h)<|.k (fun p e h=>.on z (e _ _ z)<|.m (e.op z) z<|h)<|.k (fun p e h=>.on z (e _ _ z)<|.useC h10<|.elemAt (e.op z) (e.op z) u36 BV z<|h)<|.k (fun p e h=>.on z (e _ _ z)<|.fieldAt jJ (e.op z) uW z<|h)<|.k (fun p e h=>.on z (e _ _ z)<|.load (e.op z) ty3 z<|h)<|.nil) z<|.on z z<|.call0 (c92 fu _ _) n92 z z fun q9=>fj (hj2 _)
  ·exact fr
def sb (fu:Nat)(a0:ab)(q4:ab)(q15:(List Row))(rec1:Int→(List Val)→Option (ab×Int))(i23:Bool):Option (ab×Int):=cond i23 ((f80 fu a0).bind fun q24=>some (q24,4)) (some ((⟨q4.first,q4.changes,q15,IntKind.i64.wrap (q4.next+1)⟩:ab),0))
def gF (fu:Nat)(a0:ab)(a1:List Set)(q3:(List Col))(q4:ab):Nat→Int→(List Val)→Option (ab×Int)
 | 0,_,_=>none
 | n1+1,i8,i9=>cond (decide (i8 < (q3.length:Int))) (cond (decide (0≤i8)&&decide (i8 < (q3.length:Int))) (cond (decide (0≤i8)&&decide (i8 < (i9.length:Int))) ((gF fu a0 a1 q3 q4 n1) (IntKind.i64.wrap (i8+1)) (i9.set i8.toNat ((q3.getD i8.toNat default).def_))) none) none) ((f99 fu q3 i9 a1).bind fun q11=>cond (!q11.1) ((f80 fu a0).bind fun q12=>some (q12,1)) (cond (decide (q4.rows.length+List.length ([(⟨a0.next,(a0.changes.length:Int),q11.2⟩:Row)]:List Row)≤CAP)) ((f77 (q4.rows++([(⟨a0.next,(a0.changes.length:Int),q11.2⟩:Row)]:List Row))).bind fun q15=>(f58 fu q3 q11.2).bind fun q17=>cond (!q17) ((f80 fu a0).bind fun q18=>some (q18,2)) ((f59 fu (⟨q4.first,q4.changes,q15,IntKind.i64.wrap (q4.next+1)⟩:ab)).bind fun q20=>cond (!q20) ((f80 fu a0).bind fun q21=>some (q21,3)) (cond (decide ((a0.rows.length:Int)=8)) (sb fu a0 q4 q15 (gF fu a0 a1 q3 q4 n1) true) (sb fu a0 q4 q15 (gF fu a0 a1 q3 q4 n1) (decide (a0.next=60)))))) none))
def f64 (fu:Nat)(a0:ab)(a1:List Set):Option (ab×Int):=(f66 fu a0).bind fun q3=>(f80 fu a0).bind fun q4=>cond (decide (0≤(q3.length:Int))&&decide ((q3.length:Int)≤(CAP:Int))) (gF fu a0 a1 q3 q4 fu 0 (List.replicate (q3.length:Int).toNat d0_47)) none
theorem n64:Nm prog 105:=nmK func105
theorem c64 (fu:Nat)(a0:ab)(a1:List Set):Ctr prog 105 [tTable.va a0,(tL tSet).va a1] [] (f64 fu a0 a1) (fun _ _=>[]) (fun q=>tup [tTable.va q.1,isI .i64 q.2]):=by
 refine .w func105 ntmps105 fun hf A w=>?_
 unfold f64
 refine .s<|.box (T:=tTable) z z fun b1=>.alloc tTableA aS [] bB z fun b2=>.an z z<|.s<|go ?_
 refine .call0 (c66 fu _) n66 z z fun q3=>.an z z<|.s<|go ?_
 refine .callL0 (c80 fu _) n80 z z fun q4 p5=>.alloc tTableA aS [] bB z fun b6=>go ?_
 refine .s<|.m z z<|.lenL z u36 z<|.makeSlice (T:=tVal) z z u62 fv z47 z fun v7=>.an z z<|.seq<|.s<|go ?_
 refine .block<|.loop<|.keep [1,2,4,6,7,18,19,20] [8] z<|(show ∀ (n1:Nat) (i8:Int) (i9:List Val),W _ _ _ _ _ ⟨[(1,(tL tSet).va a1,none),(2,isP b1 0,none),(4,isP b2 0,none),(6,(tL tCol).va q3,none),(7,isP b6 0,none),(18,(tL tCol).va q3,none),(19,isI .i64 (q3.length:Int),none),(20,isI .i64 i8,none),(8,isV v7,some v7)],[arrO tVal v7 i9,boxO b6 tTableA (⟨q4.first,(p5.2,q4.changes),p5.1,q4.next⟩:aq) [],arrO tRow p5.1 q4.rows,appO 10 p5.2,boxO b2 tTableA (⟨([]:List Col),((.slice none 0 0),([]:List aa)),(.slice none 0 0),(0:Int)⟩:aq) [],boxO b1 tTable a0 []]⟩ (gF fu a0 a1 q3 q4 n1 i8 i9) from ?_) fu _ _
 intro n1
 induction n1 with
 | zero=>exact fun _ _=>.stop
 | succ n1 ih1=>
  intro i8 i9
  refine .inLoop<|.s<|go ?_
  refine .seq<|.cd z ?_ ?_
  ·refine .skip<|.seq<|.block<|.s<|go ?_
   exact .alloc tCol d0_52 [] z52 z fun b10=>fj (ih1 _ _)
  ·refine .exit z<|.seq<|.s<|go ?_
   refine .call1 0 (c99 fu _ _ _ _) z n99 z z fun q11=>.not z z<|.nil<|.cd z ?_ ?_
   ·refine .s<|go ?_
    refine .callL0 (c80 fu _) n80 z z fun q12 p13=>go ?_
    exact .frzBox 6 0 conv27 z z<|fr
   ·refine .skip<|.s<|go ?_
    refine .frz 0 8 z z<|.also 45 8 z z<|go ?_
    refine .appA (T:=tRow) 2 z z z u57 jA z fun v14=>.frz 2 48 z z<|.callL0 (c77 _) n77 z z fun q15 v16=>.unRaw 49 z<|.fp z fa27_2 z<|.toRaw (T:=tRow) 0 49 z z<|go ?_
    refine .s<|go ?_
    refine .seq<|.block<|.s<|go ?_
    refine .call0 (c58 fu _ _) n58 z z fun q17=>go ?_
    refine .cd z ?_ ?_
    ·refine .s<|go ?_
     refine .callL0 (c80 fu _) n80 z z fun q18 p19=>go ?_
     exact .frzBox 7 0 conv27 z z<|fr
    ·refine .seq<|.frzBox 2 0 conv27 z z<|.g<|go ?_
     refine .call0 (c59 fu _) n59 z z fun q20=>go ?_
     refine .cd z ?_ ?_
     ·refine .s<|go ?_
      refine .callL0 (c80 fu _) n80 z z fun q21 p22=>go ?_
      exact .frzBox 7 0 conv27 z z<|fr
     ·refine .seq<|.join1 (fun i23=>⟨[(2,isP b1 0,none),(4,isP b2 0,none),(7,isP b6 0,none),(68,isB i23,none)],[boxO b6 tTable (⟨q4.first,q4.changes,q15,IntKind.i64.wrap (q4.next+1)⟩:ab) [],boxO b2 tTableA (⟨([]:List Col),((.slice none 0 0),([]:List aa)),(.slice none 0 0),(0:Int)⟩:aq) [],boxO b1 tTable a0 []]⟩) (fun i23=>sb fu a0 q4 q15 (gF fu a0 a1 q3 q4 n1) i23) (fun i23=>?_) (fun hj2=>?_)
      ·refine .cd z ?_ ?_
       ·refine .s<|go ?_
        refine .callL0 (c80 fu _) n80 z z fun q24 p25=>go ?_
        exact .frzBox 3 0 conv27 z z<|fr
       ·refine .skip<|.inBlock<|.s<|go ?_
        exact .storeW 1 z z z z ty27<|fr
      ·refine .g<|go ?_
       refine .split 73 z (fun _=>?_) (fun _=>?_)
       ·exact fj (hj2 _)
       ·exact fj (hj2 _)
end Go.Proofs.YtganfdhmkdehlaaGreatDoor
