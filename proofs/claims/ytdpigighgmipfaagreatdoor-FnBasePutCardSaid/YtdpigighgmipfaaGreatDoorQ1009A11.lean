/- Functions of the program: what each answers, and that the machine answers so. -/
import Derived.Test.YtdpigighgmipfaaGreatDoorQ1009A10
import Derived.KernelRfl
set_option linter.all false
namespace Go.Proofs.YtdpigighgmipfaaGreatDoor
open Go Go.HL Tryz
def f99_j2 (a2:List Set)(i2:Int)(i3:List (List UInt8))(i4:List Val)(q6:Int)(rec1:Int→(List (List UInt8))→(List Val)→Option (Bool×(List Val)))(i7:Bool):Option (Bool×(List Val)):=cond i7 (some (false,i4)) (cond (decide (0≤q6)&&decide (q6 < (i4.length:Int))) (rec1 (IntKind.i64.wrap (i2+1)) (cond (memK ((a2.getD i2.toNat default).name) i3) i3 (i3++[(a2.getD i2.toNat default).name])) (i4.set q6.toNat ((a2.getD i2.toNat default).val))) none)
def f99_l1 (fu:Nat)(a0:List Col)(a2:List Set):Nat→Int→(List (List UInt8))→(List Val)→Option (Bool×(List Val))
 | 0,_,_,_=>none
 | n1+1,i2,i3,i4=>cond (decide (i2 < (a2.length:Int))) (cond (decide (0≤i2)&&decide (i2 < (a2.length:Int))) ((f68 fu a0 ((a2.getD i2.toNat default).name)).bind fun q6=>cond (decide (q6<0)) (f99_j2 a2 i2 i3 i4 q6 (f99_l1 fu a0 a2 n1) true) (cond (memK ((a2.getD i2.toNat default).name) i3) (f99_j2 a2 i2 i3 i4 q6 (f99_l1 fu a0 a2 n1) true) ((f25 fu ((a2.getD i2.toNat default).val)).bind fun q8=>cond (!q8) (f99_j2 a2 i2 i3 i4 q6 (f99_l1 fu a0 a2 n1) true) (cond (decide (0≤q6)&&decide (q6 < (a0.length:Int))) ((f92 fu ((a2.getD i2.toNat default).val) ((a0.getD q6.toNat default).kind)).bind fun q9=>f99_j2 a2 i2 i3 i4 q6 (f99_l1 fu a0 a2 n1) (!q9)) none)))) none) (some (true,i4))
def f99 (fu:Nat)(a0:List Col)(a1:List Val)(a2:List Set):Option (Bool×(List Val)):=f99_l1 fu a0 a2 fu 0 ([]:List (List UInt8)) a1
theorem n99:Nm prog 145:=⟨_,_,func145,by kernel_rfl,z⟩
theorem c99 (fu:Nat)(a0:List Col)(vp1:Value)(a1:List Val)(a2:List Set):Ctr prog 145 [(tL tCol).va a0,isV vp1,(tL tSet).va a2] [arrO tVal vp1 a1] (f99 fu a0 a1 a2) (fun q _=>[arrO tVal vp1 q.2]) (fun q=>isB q.1):=by
 refine Ctr.of_W func145 z ntmps145 z fun A w=>?_
 unfold f99
 refine .know 1 z<|.s<|.an z z<|.s<|.makeMap str z fun v1=>.an z z<|.seq<|.s<|.m z z<|.lenL z u68 z<|.m z z<|.nil<|.block<|.loop<|.keep [0,12,13,14] [1,7] z<|(show ∀ (n1:Nat) (i2:Int) (i3:List (List UInt8)) (i4:List Val),W _ _ _ _ _ ⟨[(0,(tL tCol).va a0,none),(12,(tL tSet).va a2,none),(13,isI .i64 (a2.length:Int),none),(14,isI .i64 i2,none),(1,isV vp1,some vp1),(7,isV v1,some v1)],[mapO str v1 i3,arrO tVal vp1 i4]⟩ (f99_l1 fu a0 a2 n1 i2 i3 i4) from ?_) fu _ _ _
 intro n1
 induction n1 with
 | zero=>exact fun _ _ _=>.stop
 | succ n1 ih1=>
  intro i2 i3 i4
  refine .inLoop<|.s<|.bin z z z z<|.nil<|.seq<|.cd z ?_ ?_
  ·refine .skip<|.seq<|.block<|.s<|.elemAt z z u68 ty49 z<|.load z ty49 z<|.alloc tSet d0_49 [] z49 z fun b5=>.storeP 0 (Fld.self _) z z z ty49<|.nil<|.s<|.m z z<|.fp z fa49_0 z<|.lp 0 fSet_0 z z ty9 z<|.call0 (c68 fu _ _) n68 z z fun q6=>.an z z<|.seq<|.seq<|.join1 (fun i7=>⟨[(0,(tL tCol).va a0,none),(9,isP b5 0,none),(10,isI .i64 q6,none),(12,(tL tSet).va a2,none),(13,isI .i64 (a2.length:Int),none),(14,isI .i64 i2,none),(46,isB i7,none),(1,isV vp1,some vp1),(7,isV v1,some v1)],[boxO b5 tSet (a2.getD i2.toNat default) [],mapO str v1 i3,arrO tVal vp1 i4]⟩) (fun i7=>f99_j2 a2 i2 i3 i4 q6 (f99_l1 fu a0 a2 n1) i7) (fun i7=>?_) (fun hj2=>?_)
   ·refine .cd z ?_ ?_
    ·exact .s<|.an z z<|.ret1 func145 results145 (.tmp z) z (fun _ _=>.c<|.c<|.d<|.e)
    ·exact .skip<|.s<|.m z z<|.fp z fa49_0 z<|.lp 0 fSet_0 z z ty9 z<|.mapAdd (T:=tS) 1 z z z u186 key9<|.nil<|.g<|.m z z<|.m z z<|.fp z fa49_1 z<|.lp 0 fSet_1 z z ty47 z<|.elemA 2 z z z u76 ty47 z<|.storeA 2 (Fld.self _) z z z ty47<|.nil<|.inBlock<|.g<|.bin z z z z<|.m z z<|.nil<|.keep [0,12,13,14] [1,7] z (.drop (.c<|.d<|.d<|.e)<|ih1 _ _ _)
   ·refine .pcond (fun h6=>?_) (fun h6=>?_)
    ·exact .draw 22 [] mix (by kernel_rfl) (.j (fun o=>.m (o z) z)<|.j (fun o=>.bin z (o z) (o z) z)<|.k (fun p e h=>.m (e.op z) z<|.noV<|.useEq h6 h)<|.f z z z<|.f z z z<|.f z z z<|.f z z z<|.j (fun o=>.pickT (o z) (o z) z)<|.j (fun o=>.m (o z) z)<|.f z z z<|.f z z z<|.f z z z<|.f z z z<|.j (fun o=>.pickT (o z) (o z) z)<|.j (fun o=>.m (o z) z)<|.f z z z<|.f z z z<|.f z z z<|.f z z z<|.f z z z<|.f z z z<|.f z z z<|.nil) z<|.off z z z<|.off z z z<|.pickT z z z<|.nil<|.keep [0,9,10,12,13,14,46] [1,7] z (hj2 _)
    ·refine .pcond (fun h7=>?_) (fun h7=>?_)
     ·exact .draw 22 [] mix (by kernel_rfl) (.j (fun o=>.m (o z) z)<|.j (fun o=>.bin z (o z) (o z) z)<|.k (fun p e h=>.m (e.op z) z<|.noV<|.useEq h6 h)<|.k (fun p e h=>.on z (e _ _ z)<|.m (e.op z) z<|h)<|.k (fun p e h=>.on z (e _ _ z)<|.fp (e.op z) fa49_0 z<|h)<|.k (fun p e h=>.on z (e _ _ z)<|.lp 0 fSet_0 (e.op z) (p.get z z) ty9 z<|h)<|.k (fun p e h=>.on z (e _ _ z)<|.lookup (T:=tS) 1 (e.op z) (e.op z) (p.get z z) u186 key9 (by kernel_rfl) z<|h)<|.j (fun o=>.pickF (o z) (o z) z)<|.k (fun p e h=>.m (e.op z) z<|.noV<|.useEq h7 h)<|.f z z z<|.f z z z<|.f z z z<|.f z z z<|.j (fun o=>.pickT (o z) (o z) z)<|.j (fun o=>.m (o z) z)<|.f z z z<|.f z z z<|.f z z z<|.f z z z<|.f z z z<|.f z z z<|.f z z z<|.nil) z<|.off z z z<|.off z z z<|.pickT z z z<|.nil<|.keep [0,9,10,12,13,14,46] [1,7] z (hj2 _)
     ·refine .pbind fun q8 h8=>?_
      refine .pcond (fun h9=>?_) (fun h9=>?_)
      ·refine .draw 22 [] mix (by kernel_rfl) (.j (fun o=>.m (o z) z)<|.j (fun o=>.bin z (o z) (o z) z)<|.k (fun p e h=>.m (e.op z) z<|.noV<|.useEq h6 h)<|.k (fun p e h=>.on z (e _ _ z)<|.m (e.op z) z<|h)<|.k (fun p e h=>.on z (e _ _ z)<|.fp (e.op z) fa49_0 z<|h)<|.k (fun p e h=>.on z (e _ _ z)<|.lp 0 fSet_0 (e.op z) (p.get z z) ty9 z<|h)<|.k (fun p e h=>.on z (e _ _ z)<|.lookup (T:=tS) 1 (e.op z) (e.op z) (p.get z z) u186 key9 (by kernel_rfl) z<|h)<|.j (fun o=>.pickF (o z) (o z) z)<|.k (fun p e h=>.m (e.op z) z<|.noV<|.useEq h7 h)<|.k (fun p e h=>.on z (e _ _ z)<|.fp (e.op z) fa49_1 z<|h)<|.k (fun p e h=>.on z (e _ _ z)<|.lp 0 fSet_1 (e.op z) (p.get z z) ty47 z<|h)<|.k (fun p e h=>.on z (e _ _ z)<|.bindE h8 (fun r h=>.call0 (c25 fu _) n25 (e.ops z) z h)<|h)<|.k (fun p e h=>.on z (e _ _ z)<|.not (e.op z) z<|h)<|.j (fun o=>.pickF (o z) (o z) z)<|.k (fun p e h=>.m (e.op z) z<|.noV<|.useEq h9 h)<|.f z z z<|.f z z z<|.f z z z<|.f z z z<|.f z z z<|.f z z z<|.f z z z<|.nil) z<|.off z z z<|.off z z z<|.pickT z z z<|.nil ?_
       exact .keep [0,9,10,12,13,14,46] [1,7] z (hj2 _)
      ·refine .pT fun h10=>?_
       refine .draw 22 [] mix (by kernel_rfl) (.j (fun o=>.m (o z) z)<|.j (fun o=>.bin z (o z) (o z) z)<|.k (fun p e h=>.m (e.op z) z<|.noV<|.useEq h6 h)<|.k (fun p e h=>.on z (e _ _ z)<|.m (e.op z) z<|h)<|.k (fun p e h=>.on z (e _ _ z)<|.fp (e.op z) fa49_0 z<|h)<|.k (fun p e h=>.on z (e _ _ z)<|.lp 0 fSet_0 (e.op z) (p.get z z) ty9 z<|h)<|.k (fun p e h=>.on z (e _ _ z)<|.lookup (T:=tS) 1 (e.op z) (e.op z) (p.get z z) u186 key9 (by kernel_rfl) z<|h)<|.j (fun o=>.pickF (o z) (o z) z)<|.k (fun p e h=>.m (e.op z) z<|.noV<|.useEq h7 h)<|.k (fun p e h=>.on z (e _ _ z)<|.fp (e.op z) fa49_1 z<|h)<|.k (fun p e h=>.on z (e _ _ z)<|.lp 0 fSet_1 (e.op z) (p.get z z) ty47 z<|h)<|.k (fun p e h=>.on z (e _ _ z)<|.bindE h8 (fun r h=>.call0 (c25 fu _) n25 (e.ops z) z h)<|h)<|.k (fun p e h=>.on z (e _ _ z)<|.not (e.op z) z<|h)<|.j (fun o=>.pickF (o z) (o z) z)<|.k (fun p e h=>.m (e.op z) z<|.noV<|.useEq h9 h)<|.k (fun p e h=>.on z (e _ _ z)<|.fp (e.op z) fa49_1 z<|h)<|.k (fun p e h=>.on z (e _ _ z)<|.lp 0 fSet_1 (e.op z) (p.get z z) ty47 z<|h)<|.k (fun p e h=>.on z (e _ _ z)<|.m (e.op z) z<|h)<|.k (fun p e h=>.on z (e _ _ z)<|.m (e.op z) z<|h)<|.k (fun p e h=>.on z (e _ _ z)<|.useC h10<|.elemAt (e.op z) (e.op z) u27 ty52 z<|h)<|.k (fun p e h=>.on z (e _ _ z)<|.fieldAt fCol_1 (e.op z) fa52_1 z<|h)<|.k (fun p e h=>.on z (e _ _ z)<|.load (e.op z) ty3 z<|h)<|.nil) z<|.on z z<|.call0 (c92 fu _ _) n92 z z fun q9=>.on z z<|.not z z<|.pickF z z z<|.nil ?_
       exact .keep [0,9,10,12,13,14,46] [1,7] z (hj2 _)
  ·exact .exit z<|.s<|.an z z<|.ret1 func145 results145 (.tmp z) z (fun _ _=>.c<|.d<|.e)
def f64_j2 (fu:Nat)(a0:Table)(q4:Table)(q15:(List Row))(rec1:Int→(List Val)→Option (Table×Int))(i23:Bool):Option (Table×Int):=cond i23 ((f80 fu a0).bind fun q24=>some (q24,4)) (some ((⟨q4.first,q4.changes,q15,IntKind.i64.wrap (q4.next+1)⟩:Table),0))
def f64_l1 (fu:Nat)(a0:Table)(a1:List Set)(q3:(List Col))(q4:Table):Nat→Int→(List Val)→Option (Table×Int)
 | 0,_,_=>none
 | n1+1,i8,i9=>cond (decide (i8 < (q3.length:Int))) (cond (decide (0≤i8)&&decide (i8 < (q3.length:Int))) (cond (decide (0≤i8)&&decide (i8 < (i9.length:Int))) ((f64_l1 fu a0 a1 q3 q4 n1) (IntKind.i64.wrap (i8+1)) (i9.set i8.toNat ((q3.getD i8.toNat default).def_))) none) none) ((f99 fu q3 i9 a1).bind fun q11=>cond (!q11.1) ((f80 fu a0).bind fun q12=>some (q12,1)) (cond (decide (q4.rows.length+List.length ([(⟨a0.next,(a0.changes.length:Int),q11.2⟩:Row)]:List Row)≤CAP)) ((f77 (q4.rows++([(⟨a0.next,(a0.changes.length:Int),q11.2⟩:Row)]:List Row))).bind fun q15=>(f58 fu q3 q11.2).bind fun q17=>cond (!q17) ((f80 fu a0).bind fun q18=>some (q18,2)) ((f59 fu (⟨q4.first,q4.changes,q15,IntKind.i64.wrap (q4.next+1)⟩:Table)).bind fun q20=>cond (!q20) ((f80 fu a0).bind fun q21=>some (q21,3)) (cond (decide ((a0.rows.length:Int)=8)) (f64_j2 fu a0 q4 q15 (f64_l1 fu a0 a1 q3 q4 n1) true) (f64_j2 fu a0 q4 q15 (f64_l1 fu a0 a1 q3 q4 n1) (decide (a0.next=60)))))) none))
def f64 (fu:Nat)(a0:Table)(a1:List Set):Option (Table×Int):=(f66 fu a0).bind fun q3=>(f80 fu a0).bind fun q4=>cond (decide (0≤(q3.length:Int))&&decide ((q3.length:Int)≤(CAP:Int))) (f64_l1 fu a0 a1 q3 q4 fu 0 (List.replicate (q3.length:Int).toNat d0_47)) none
theorem n64:Nm prog 108:=⟨_,_,func108,by kernel_rfl,z⟩
theorem c64 (fu:Nat)(a0:Table)(a1:List Set):Ctr prog 108 [tTable.va a0,(tL tSet).va a1] [] (f64 fu a0 a1) (fun _ _=>[]) (fun q=>tup [tTable.va q.1,isI .i64 q.2]):=by
 refine Ctr.of_W func108 z ntmps108 z fun A w=>?_
 unfold f64
 refine .s<|.box (T:=tTable) z z fun b1=>.alloc tTableA d0A27 [] zA27 z fun b2=>.an z z<|.s<|.lp 1 (Fld.self _) z z ty27 z<|.call0 (c66 fu _) n66 z z fun q3=>.an z z<|.s<|.lp 1 (Fld.self _) z z ty27 z<|.callL0 (c80 fu _) n80 z z fun q4 p5=>.alloc tTableA d0A27 [] zA27 z fun b6=>.storeP 0 (Fld.self _) z z z ty27<|.nil<|.s<|.m z z<|.lenL z u27 z<|.makeSlice (T:=tVal) z z u76 el47 z47 z fun v7=>.an z z<|.seq<|.s<|.m z z<|.lenL z u27 z<|.m z z<|.nil<|.block<|.loop<|.keep [1,2,4,6,7,18,19,20] [8] z<|(show ∀ (n1:Nat) (i8:Int) (i9:List Val),W _ _ _ _ _ ⟨[(1,(tL tSet).va a1,none),(2,isP b1 0,none),(4,isP b2 0,none),(6,(tL tCol).va q3,none),(7,isP b6 0,none),(18,(tL tCol).va q3,none),(19,isI .i64 (q3.length:Int),none),(20,isI .i64 i8,none),(8,isV v7,some v7)],[arrO tVal v7 i9,boxO b6 tTableA (⟨q4.first,(p5.2,q4.changes),p5.1,q4.next⟩:TableA) [],arrO tRow p5.1 q4.rows,appO 10 p5.2,boxO b2 tTableA (⟨([]:List Col),((.slice none 0 0),([]:List Change)),(.slice none 0 0),(0:Int)⟩:TableA) [],boxO b1 tTable a0 []]⟩ (f64_l1 fu a0 a1 q3 q4 n1 i8 i9) from ?_) fu _ _
 intro n1
 induction n1 with
 | zero=>exact fun _ _=>.stop
 | succ n1 ih1=>
  intro i8 i9
  refine .inLoop<|.s<|.bin z z z z<|.nil<|.seq<|.cd z ?_ ?_
  ·exact .skip<|.seq<|.block<|.s<|.m z z<|.elemAt z z u27 ty52 z<|.load z ty52 z<|.alloc tCol d0_52 [] z52 z fun b10=>.a z z<|.storeP 0 (Fld.self _) z z z ty52<|.nil<|.g<|.m z z<|.m z z<|.fp z fa52_4 z<|.lp 0 fCol_4 z z ty47 z<|.elemA 1 z z z u76 ty47 z<|.storeA 1 (Fld.self _) z z z ty47<|.nil<|.inBlock<|.g<|.bin z z z z<|.m z z<|.nil<|.keep [1,2,4,6,7,18,19,20] [8] z (.drop (.c<|.d<|.d<|.d<|.d<|.d<|.d<|.e)<|ih1 _ _)
  ·refine .exit z<|.seq<|.s<|.m z z<|.m z z<|.m z z<|.call1 0 (c99 fu _ _ _ _) z n99 z z fun q11=>.not z z<|.nil<|.cd z ?_ ?_
   ·exact .s<|.lp 5 (Fld.self _) z z ty27 z<|.callL0 (c80 fu _) n80 z z fun q12 p13=>.storeP 6 (Fld.self _) z z z ty27<|.an z z<|.frzBox 6 0 conv27 z z<|.ret2 func108 results108 (.cell 6 z z ty27) (.tmp z) z (fun _=>.c<|.c<|.c<|.c<|.c<|.c<|.c<|.c<|.e)
   ·refine .skip<|.s<|.fp z fa27_2 z<|.loadR 1 fTableA_2 z z ty25 z<|.know 39 z<|.fp z fa27_3 z<|.lp 5 fTable_3 z z ty3 z<|.fp z fa27_1 z<|.lp 5 fTable_1 z z ty24 z<|.lenL z u34 z<|.m z z<|.frz 0 8 z z<|.also 45 8 z z<|.build z st37 z37 (.cons fRow_0 z z<|.cons fRow_1 z z<|.cons fRow_2 z z<|.nil) z<|.litN (T:=tRow) u35 el37 z z (.cons z<|.nil) z<|.appA (T:=tRow) 2 z z z u35 el37 z fun v14=>.frz 2 48 z z<|.callL0 (c77 _) n77 z z fun q15 v16=>.unRaw 49 z<|.fp z fa27_2 z<|.toRaw (T:=tRow) 0 49 z z<|.storeP 2 fTableA_2 z z z ty25<|.nil<|.s<|.fp z fa27_3 z<|.lp 2 fTableA_3 z z ty3 z<|.bin z z z z<|.fp z fa27_3 z<|.storeP 2 fTableA_3 z z z ty3<|.nil<|.seq<|.block<|.s<|.m z z<|.m z z<|.call0 (c58 fu _ _) n58 z z fun q17=>.not z z<|.an z z<|.cd z ?_ ?_
    ·exact .s<|.lp 6 (Fld.self _) z z ty27 z<|.callL0 (c80 fu _) n80 z z fun q18 p19=>.storeP 7 (Fld.self _) z z z ty27<|.an z z<|.frzBox 7 0 conv27 z z<|.ret2 func108 results108 (.cell 7 z z ty27) (.tmp z) z (fun _=>.c<|.c<|.c<|.c<|.c<|.c<|.c<|.c<|.c<|.e)
    ·refine .seq<|.frzBox 2 0 conv27 z z<|.g<|.lp 2 (Fld.self _) z z ty27 z<|.call0 (c59 fu _) n59 z z fun q20=>.not z z<|.an z z<|.cd z ?_ ?_
     ·exact .s<|.lp 6 (Fld.self _) z z ty27 z<|.callL0 (c80 fu _) n80 z z fun q21 p22=>.storeP 7 (Fld.self _) z z z ty27<|.an z z<|.frzBox 7 0 conv27 z z<|.ret2 func108 results108 (.cell 7 z z ty27) (.tmp z) z (fun _=>.c<|.c<|.c<|.c<|.c<|.c<|.c<|.c<|.c<|.e)
     ·refine .seq<|.join1 (fun i23=>⟨[(2,isP b1 0,none),(4,isP b2 0,none),(7,isP b6 0,none),(68,isB i23,none)],[boxO b6 tTable (⟨q4.first,q4.changes,q15,IntKind.i64.wrap (q4.next+1)⟩:Table) [],boxO b2 tTableA (⟨([]:List Col),((.slice none 0 0),([]:List Change)),(.slice none 0 0),(0:Int)⟩:TableA) [],boxO b1 tTable a0 []]⟩) (fun i23=>f64_j2 fu a0 q4 q15 (f64_l1 fu a0 a1 q3 q4 n1) i23) (fun i23=>?_) (fun hj2=>?_)
      ·refine .cd z ?_ ?_
       ·exact .s<|.lp 2 (Fld.self _) z z ty27 z<|.callL0 (c80 fu _) n80 z z fun q24 p25=>.storeP 3 (Fld.self _) z z z ty27<|.an z z<|.frzBox 3 0 conv27 z z<|.ret2 func108 results108 (.cell 3 z z ty27) (.tmp z) z (fun _=>.c<|.c<|.c<|.c<|.c<|.e)
       ·exact .skip<|.inBlock<|.s<|.lp 0 (Fld.self _) z z ty27 z<|.storeW 1 z z z z ty27<|.an z z<|.ret2 func108 results108 (.cell 1 z z ty27) (.tmp z) z (fun _=>.c<|.c<|.c<|.e)
      ·refine .g<|.fp z fa27_2 z<|.lp 6 fTable_2 z z ty25 z<|.lenL z u35 z<|.bin z z z z<|.m z z<|.split 73 z (fun _=>?_) (fun _=>?_)
       ·exact .off z z z<|.off z z z<|.off z z z<|.pickT z z z<|.an z z<|.keep [2,4,7,68] [] z (.drop (.c<|.c<|.d<|.c<|.c<|.d<|.d<|.e)<|hj2 _)
       ·exact .on z z<|.fp z fa27_3 z<|.on z z<|.lp 6 fTable_3 z z ty3 z<|.on z z<|.bin z z z z<|.pickF z z z<|.an z z<|.keep [2,4,7,68] [] z (.drop (.c<|.c<|.d<|.c<|.c<|.d<|.d<|.e)<|hj2 _)
def f21 (fu:Nat)(a0:Table)(a1:List Set):Option (Table×Int):=(f19 fu a0).bind fun q3=>cond (!q3) (some ((⟨d0_27.first,d0_27.changes,d0_27.rows,d0_27.next⟩:Table),1)) ((f64 fu a0 a1).bind fun q4=>some (q4.1,q4.2))
theorem n21:Nm prog 43:=⟨_,_,func43,by kernel_rfl,z⟩
theorem c21 (fu:Nat)(a0:Table)(a1:List Set):Ctr prog 43 [tTable.va a0,(tL tSet).va a1] [] (f21 fu a0 a1) (fun _ _=>[]) (fun q=>tup [tTable.va q.1,isI .i64 q.2]):=by
 refine Ctr.of_W func43 z ntmps43 z fun A w=>?_
 unfold f21
 refine .s<|.box (T:=tTable) z z fun b1=>.alloc tTable d0_27 [] z27 z fun b2=>.an z z<|.seq<|.s<|.lp 1 (Fld.self _) z z ty27 z<|.call0 (c19 fu _) n19 z z fun q3=>.not z z<|.nil<|.cd z ?_ ?_
 ·exact .s<|.build z st27 z27 (.nil) z<|.storeP 0 (Fld.self _) z z z ty27<|.an z z<|.ret2 func43 results43 (.cell 0 z z ty27) (.tmp z) z (fun _=>.c<|.c<|.e)
 ·exact .skip<|.s<|.lp 1 (Fld.self _) z z ty27 z<|.m z z<|.call0 (c64 fu _ _) n64 z z fun q4=>.extract z z z<|.extract z z z<|.storeP 0 (Fld.self _) z z z ty27<|.an z z<|.ret2 func43 results43 (.cell 0 z z ty27) (.tmp z) z (fun _=>.c<|.c<|.e)
def f23 (fu:Nat)(a0:Table):Option (List Col):=(f19 fu a0).bind fun q2=>cond (!q2) (some ([]:List Col)) ((f66 fu a0).bind fun q3=>some q3)
theorem n23:Nm prog 46:=⟨_,_,func46,by kernel_rfl,z⟩
theorem c23 (fu:Nat)(a0:Table):Ctr prog 46 [tTable.va a0] [] (f23 fu a0) (fun _ _=>[]) (fun q=>(tL tCol).va q):=by
 refine Ctr.of_W func46 z ntmps46 z fun A w=>?_
 unfold f23
 refine .s<|.box (T:=tTable) z z fun b1=>.assignNil tCol z<|.nil<|.seq<|.s<|.lp 0 (Fld.self _) z z ty27 z<|.call0 (c19 fu _) n19 z z fun q2=>.not z z<|.nil<|.cd z ?_ ?_
 ·exact .s<|.assignNil tCol z<|.nil<|.ret1 func46 results46 (.tmp z) z (fun _ _=>.c<|.e)
 ·exact .skip<|.s<|.lp 0 (Fld.self _) z z ty27 z<|.call0 (c66 fu _) n66 z z fun q3=>.an z z<|.ret1 func46 results46 (.tmp z) z (fun _ _=>.c<|.e)
def f24 (fu:Nat)(a0:List Col)(a1:List UInt8):Option Int:=(f67 fu a0).bind fun q1=>cond (!q1) (some (-1)) ((f68 fu a0 a1).bind fun q2=>some q2)
theorem n24:Nm prog 45:=⟨_,_,func45,by kernel_rfl,z⟩
theorem c24 (fu:Nat)(a0:List Col)(a1:List UInt8):Ctr prog 45 [(tL tCol).va a0,isS a1] [] (f24 fu a0 a1) (fun _ _=>[]) (fun q=>isI .i64 q):=by
 refine Ctr.of_W func45 z ntmps45 z fun A w=>?_
 unfold f24
 refine .s<|.an z z<|.seq<|.s<|.m z z<|.call0 (c67 fu _) n67 z z fun q1=>.not z z<|.nil<|.cd z ?_ ?_
 ·exact .s<|.an z z<|.ret1 func45 results45 (.tmp z) z (fun _ _=>.e)
 ·exact .skip<|.s<|.m z z<|.m z z<|.call0 (c68 fu _ _) n68 z z fun q2=>.an z z<|.ret1 func45 results45 (.tmp z) z (fun _ _=>.e)
end Go.Proofs.YtdpigighgmipfaaGreatDoor
