/- Functions of the program: what each answers, and that the machine answers so. -/
import Derived.Test.YtdpigighgmipfaaGreatDoorQ1008A1
import Derived.KernelRfl
set_option linter.all false
namespace Go.Proofs.YtdpigighgmipfaaGreatDoor
open Go Go.HL Tryz
def f118_j4 (fu:Nat)(a0:List Col)(a1:Change)(q2:Int)(i10:Bool):Option (List Col):=cond i10 (cond (decide (0≤q2)&&decide (q2 < (List.length (([]:List Col)++a0):Int))) (cond (decide (0≤q2)&&decide (q2 < (a0.length:Int))) ((f138 fu ((a0.getD q2.toNat default).def_) a1.col.kind).bind fun q11=>cond (decide (0≤q2)&&decide (q2 < (List.length ((([]:List Col)++a0).set q2.toNat ({ ((([]:List Col)++a0).getD q2.toNat default) with kind:=a1.col.kind }:Col)):Int))) (some (((([]:List Col)++a0).set q2.toNat ({ ((([]:List Col)++a0).getD q2.toNat default) with kind:=a1.col.kind }:Col)).set q2.toNat ({ (((([]:List Col)++a0).set q2.toNat ({ ((([]:List Col)++a0).getD q2.toNat default) with kind:=a1.col.kind }:Col)).getD q2.toNat default) with def_:=q11 }:Col))) none) none) none) (some ([]:List Col))
def f118_j3 (fu:Nat)(a0:List Col)(a1:Change)(q2:Int)(i8:Bool):Option (List Col):=cond i8 ((f137 a0 q2).bind fun q9=>some q9) (cond (decide (a1.kind=3)) (cond (decide (0≤q2)&&decide (q2 < (List.length (([]:List Col)++a0):Int))) (some ((([]:List Col)++a0).set q2.toNat ({ ((([]:List Col)++a0).getD q2.toNat default) with name:=a1.new }:Col))) none) (cond (decide (a1.kind=4)) (cond (decide (a1.new=([]:List UInt8))) (cond (decide (0≤q2)&&decide (q2 < (a0.length:Int))) (f118_j4 fu a0 a1 q2 (!decide (a1.col.kind=((a0.getD q2.toNat default).kind)))) none) (f118_j4 fu a0 a1 q2 false)) (f118_j4 fu a0 a1 q2 false)))
def f118_j2 (fu:Nat)(a0:List Col)(a1:Change)(q2:Int)(i7:Bool):Option (List Col):=cond i7 (some ([]:List Col)) (cond (decide (a1.kind=2)) (f118_j3 fu a0 a1 q2 (decide (a1.new=([]:List UInt8)))) (f118_j3 fu a0 a1 q2 false))
def f118_j1 (fu:Nat)(a0:List Col)(a1:Change)(q2:Int)(i5:Bool):Option (List Col):=cond i5 (cond (decide (List.length (([]:List Col)++a0)+List.length ([a1.col]:List Col)≤CAP)) (some ((([]:List Col)++a0)++([a1.col]:List Col))) none) (cond (decide (a1.kind=1)) (f118_j2 fu a0 a1 q2 true) (cond (decide (q2<0)) (f118_j2 fu a0 a1 q2 true) ((f136 a1).bind fun q12=>f118_j2 fu a0 a1 q2 (!decide (a1.col=q12)))))
def f118 (fu:Nat)(a0:List Col)(a1:Change):Option (List Col):=(f108 fu a0 a1.name).bind fun q2=>cond (decide (List.length ([]:List Col)+a0.length≤CAP)) (cond (decide (a1.kind=1)) (cond (decide (a1.name=([]:List UInt8))) (cond (decide (a1.new=([]:List UInt8))) (cond (!a1.col.need) (f118_j1 fu a0 a1 q2 true) (f118_j1 fu a0 a1 q2 (!decide (a1.col.def_.kind=0)))) (f118_j1 fu a0 a1 q2 false)) (f118_j1 fu a0 a1 q2 false)) (f118_j1 fu a0 a1 q2 false)) none
theorem n118:Nm prog 208:=⟨_,_,func208,by kernel_rfl,z⟩
theorem c118 (fu:Nat)(a0:List Col)(a1:Change):Ctr prog 208 [(tL tCol).va a0,tChange.va a1] [] (f118 fu a0 a1) (fun _ _=>[]) (fun q=>(tL tCol).va q):=by
 refine Ctr.of_W func208 z ntmps208 z fun A w=>?_
 unfold f118
 refine .s<|.box (T:=tChange) z z fun b1=>.assignNil tCol z<|.nil<|.s<|.m z z<|.fp z fa56_1 z<|.lp 0 fChange_1 z z ty9 z<|.call0 (c108 fu _ _) n108 z z fun q2=>.an z z<|.s<|.lit (T:=tCol) u27 el52 z z (.nil) z fun v3=>.toArr 0 11 z z z<|.m z z<|.appA (T:=tCol) 0 z z z u27 el52 z fun v4=>.an z z<|.seq<|.block<|.seq<|.join1 (fun i5=>⟨[(0,(tL tCol).va a0,none),(3,isP b1 0,none),(5,isI .i64 q2,none),(14,isB i5,none),(6,isV v4,some v4)],[arrO tCol v4 (([]:List Col)++a0),boxO b1 tChange a1 []]⟩) (fun i5=>f118_j1 fu a0 a1 q2 i5) (fun i5=>?_) (fun hj1=>?_)
 ·refine .cd z ?_ ?_
  ·exact .s<|.m z z<|.fp z fa56_3 z<|.lp 1 fChange_3 z z ty52 z<|.litN (T:=tCol) u27 el52 z z (.cons z<|.nil) z<|.frz 0 6 z z<|.also 41 6 z z<|.app (T:=tCol) 0 z z z u27 el52 z fun v6=>.an z z<|.ret1 func208 results208 (.tmp z) z (fun _ _=>.c<|.c<|.e)
  ·refine .seq<|.join1 (fun i7=>⟨[(0,(tL tCol).va a0,none),(3,isP b1 0,none),(5,isI .i64 q2,none),(46,isB i7,none),(6,isV v4,some v4)],[arrO tCol v4 (([]:List Col)++a0),boxO b1 tChange a1 []]⟩) (fun i7=>f118_j2 fu a0 a1 q2 i7) (fun i7=>?_) (fun hj2=>?_)
   ·refine .cd z ?_ ?_
    ·exact .s<|.litN (T:=tCol) u27 el52 z z (.nil) z<|.an z z<|.ret1 func208 results208 (.tmp z) z (fun _ _=>.c<|.c<|.e)
    ·refine .seq<|.join1 (fun i8=>⟨[(0,(tL tCol).va a0,none),(3,isP b1 0,none),(5,isI .i64 q2,none),(62,isB i8,none),(6,isV v4,some v4)],[arrO tCol v4 (([]:List Col)++a0),boxO b1 tChange a1 []]⟩) (fun i8=>f118_j3 fu a0 a1 q2 i8) (fun i8=>?_) (fun hj3=>?_)
     ·refine .cd z ?_ ?_
      ·exact .s<|.m z z<|.m z z<|.call0 (c137 _ _) n137 z z fun q9=>.an z z<|.ret1 func208 results208 (.tmp z) z (fun _ _=>.c<|.c<|.e)
      ·refine .s<|.fp z fa56_0 z<|.lp 1 fChange_0 z z ty3 z<|.bin z z z z<|.an z z<|.cd z ?_ ?_
       ·exact .s<|.m z z<|.m z z<|.fp z fa56_2 z<|.lp 1 fChange_2 z z ty9 z<|.elemA 0 z z z u27 ty52 z<|.fieldA z fa52_0 z<|.storeA 0 fCol_0 z z z ty9<|.nil<|.s<|.m z z<|.an z z<|.frz 0 4 z z<|.ret1 func208 results208 (.tmp z) z (fun _ _=>.c<|.c<|.e)
       ·refine .seq<|.join1 (fun i10=>⟨[(0,(tL tCol).va a0,none),(3,isP b1 0,none),(5,isI .i64 q2,none),(85,isB i10,none),(6,isV v4,some v4)],[arrO tCol v4 (([]:List Col)++a0),boxO b1 tChange a1 []]⟩) (fun i10=>f118_j4 fu a0 a1 q2 i10) (fun i10=>?_) (fun hj4=>?_)
        ·refine .cd z ?_ ?_
         ·refine .s<|.m z z<|.m z z<|.fp z fa56_3 z<|.fp z fa52_1 z<|.lp 1 (fChange_3.comp fCol_1) z z ty3 z<|.elemA 0 z z z u27 ty52 z<|.fieldA z fa52_1 z<|.storeA 0 fCol_1 z z z ty3<|.nil<|.seq<|.pT fun h1=>?_
          exact .draw 10 [0,1] mix (by kernel_rfl) (.j (fun o=>.m (o z) z)<|.j (fun o=>.m (o z) z)<|.j (fun o=>.m (o z) z)<|.j (fun o=>.m (o z) z)<|.k (fun p e h=>.useC h1<|.elemAt (e.op z) (e.op z) u27 ty52 z<|h)<|.j (fun o=>.fieldAt fCol_4 (o z) fa52_4 z)<|.j (fun o=>.load (o z) ty47 z)<|.j (fun o=>.fp (o z) fa56_3 z)<|.j (fun o=>.fp (o z) fa52_1 z)<|.k (fun p e=>.lp 1 (fChange_3.comp fCol_1) (e.op z) (p.get z z) ty3 z)<|.nil) z<|.call0 (c138 fu _ _) n138 z z fun q11=>.elemA 0 z z z u27 ty52 z<|.fieldA z fa52_4 z<|.storeA 0 fCol_4 z z z ty47<|.nil<|.s<|.m z z<|.an z z<|.frz 0 4 z z<|.ret1 func208 results208 (.tmp z) z (fun _ _=>.c<|.c<|.e)
         ·exact .skip<|.inBlock<|.s<|.litN (T:=tCol) u27 el52 z z (.nil) z<|.an z z<|.ret1 func208 results208 (.tmp z) z (fun _ _=>.c<|.c<|.e)
        ·refine .pcond (fun h2=>?_) (fun h2=>?_)
         ·refine .pcond (fun h3=>?_) (fun h3=>?_)
          ·refine .pT fun h4=>?_
           exact .draw 17 [] mix (by kernel_rfl) (.j (fun o=>.fp (o z) fa56_0 z)<|.k (fun p e=>.lp 1 fChange_0 (e.op z) (p.get z z) ty3 z)<|.j (fun o=>.bin z (o z) (o z) z)<|.k (fun p e h=>.m (e.op z) z<|.noV<|.useEq h2 h)<|.k (fun p e h=>.on z (e _ _ z)<|.fp (e.op z) fa56_2 z<|h)<|.k (fun p e h=>.on z (e _ _ z)<|.lp 1 fChange_2 (e.op z) (p.get z z) ty9 z<|h)<|.k (fun p e h=>.on z (e _ _ z)<|.seq (e.op z) (e.op z) z<|h)<|.j (fun o=>.pickT (o z) (o z) z)<|.k (fun p e h=>.m (e.op z) z<|.noV<|.useEq h3 h)<|.k (fun p e h=>.on z (e _ _ z)<|.fp (e.op z) fa56_3 z<|h)<|.k (fun p e h=>.on z (e _ _ z)<|.fp (e.op z) fa52_1 z<|h)<|.k (fun p e h=>.on z (e _ _ z)<|.lp 1 (fChange_3.comp fCol_1) (e.op z) (p.get z z) ty3 z<|h)<|.k (fun p e h=>.on z (e _ _ z)<|.m (e.op z) z<|h)<|.k (fun p e h=>.on z (e _ _ z)<|.m (e.op z) z<|h)<|.k (fun p e h=>.on z (e _ _ z)<|.useC h4<|.elemAt (e.op z) (e.op z) u27 ty52 z<|h)<|.k (fun p e h=>.on z (e _ _ z)<|.fieldAt fCol_1 (e.op z) fa52_1 z<|h)<|.k (fun p e h=>.on z (e _ _ z)<|.load (e.op z) ty3 z<|h)<|.nil) z<|.on z z<|.bin z z z z<|.pickT z z z<|.an z z<|.keep [0,3,5,85] [6] z (hj4 _)
          ·exact .draw 17 [] mix (by kernel_rfl) (.j (fun o=>.fp (o z) fa56_0 z)<|.k (fun p e=>.lp 1 fChange_0 (e.op z) (p.get z z) ty3 z)<|.j (fun o=>.bin z (o z) (o z) z)<|.k (fun p e h=>.m (e.op z) z<|.noV<|.useEq h2 h)<|.k (fun p e h=>.on z (e _ _ z)<|.fp (e.op z) fa56_2 z<|h)<|.k (fun p e h=>.on z (e _ _ z)<|.lp 1 fChange_2 (e.op z) (p.get z z) ty9 z<|h)<|.k (fun p e h=>.on z (e _ _ z)<|.seq (e.op z) (e.op z) z<|h)<|.j (fun o=>.pickT (o z) (o z) z)<|.k (fun p e h=>.m (e.op z) z<|.noV<|.useEq h3 h)<|.f z z z<|.f z z z<|.f z z z<|.f z z z<|.f z z z<|.f z z z<|.f z z z<|.f z z z<|.nil) z<|.off z z z<|.pickF z z z<|.an z z<|.keep [0,3,5,85] [6] z (hj4 _)
         ·exact .draw 17 [] mix (by kernel_rfl) (.j (fun o=>.fp (o z) fa56_0 z)<|.k (fun p e=>.lp 1 fChange_0 (e.op z) (p.get z z) ty3 z)<|.j (fun o=>.bin z (o z) (o z) z)<|.k (fun p e h=>.m (e.op z) z<|.noV<|.useEq h2 h)<|.f z z z<|.f z z z<|.f z z z<|.j (fun o=>.pickF (o z) (o z) z)<|.j (fun o=>.m (o z) z)<|.f z z z<|.f z z z<|.f z z z<|.f z z z<|.f z z z<|.f z z z<|.f z z z<|.f z z z<|.nil) z<|.off z z z<|.pickF z z z<|.an z z<|.keep [0,3,5,85] [6] z (hj4 _)
     ·refine .g<|.fp z fa56_0 z<|.lp 1 fChange_0 z z ty3 z<|.bin z z z z<|.m z z<|.split 66 z (fun _=>?_) (fun _=>?_)
      ·exact .on z z<|.fp z fa56_2 z<|.on z z<|.lp 1 fChange_2 z z ty9 z<|.on z z<|.seq z z z<|.pickT z z z<|.an z z<|.keep [0,3,5,62] [6] z (hj3 _)
      ·exact .off z z z<|.off z z z<|.off z z z<|.pickF z z z<|.an z z<|.keep [0,3,5,62] [6] z (hj3 _)
   ·refine .pcond (fun h5=>?_) (fun h5=>?_)
    ·exact .draw 12 [] mix (by kernel_rfl) (.j (fun o=>.fp (o z) fa56_0 z)<|.k (fun p e=>.lp 1 fChange_0 (e.op z) (p.get z z) ty3 z)<|.j (fun o=>.bin z (o z) (o z) z)<|.k (fun p e h=>.m (e.op z) z<|.noV<|.useEq h5 h)<|.f z z z<|.f z z z<|.j (fun o=>.pickT (o z) (o z) z)<|.j (fun o=>.m (o z) z)<|.f z z z<|.f z z z<|.f z z z<|.f z z z<|.nil) z<|.off z z z<|.pickT z z z<|.an z z<|.keep [0,3,5,46] [6] z (hj2 _)
    ·refine .pcond (fun h6=>?_) (fun h6=>?_)
     ·exact .draw 12 [] mix (by kernel_rfl) (.j (fun o=>.fp (o z) fa56_0 z)<|.k (fun p e=>.lp 1 fChange_0 (e.op z) (p.get z z) ty3 z)<|.j (fun o=>.bin z (o z) (o z) z)<|.k (fun p e h=>.m (e.op z) z<|.noV<|.useEq h5 h)<|.k (fun p e h=>.on z (e _ _ z)<|.m (e.op z) z<|h)<|.k (fun p e h=>.on z (e _ _ z)<|.bin z (e.op z) (e.op z) z<|h)<|.j (fun o=>.pickF (o z) (o z) z)<|.k (fun p e h=>.m (e.op z) z<|.noV<|.useEq h6 h)<|.f z z z<|.f z z z<|.f z z z<|.f z z z<|.nil) z<|.off z z z<|.pickT z z z<|.an z z<|.keep [0,3,5,46] [6] z (hj2 _)
     ·refine .pbind fun q12 h7=>?_
      exact .draw 12 [] mix (by kernel_rfl) (.j (fun o=>.fp (o z) fa56_0 z)<|.k (fun p e=>.lp 1 fChange_0 (e.op z) (p.get z z) ty3 z)<|.j (fun o=>.bin z (o z) (o z) z)<|.k (fun p e h=>.m (e.op z) z<|.noV<|.useEq h5 h)<|.k (fun p e h=>.on z (e _ _ z)<|.m (e.op z) z<|h)<|.k (fun p e h=>.on z (e _ _ z)<|.bin z (e.op z) (e.op z) z<|h)<|.j (fun o=>.pickF (o z) (o z) z)<|.k (fun p e h=>.m (e.op z) z<|.noV<|.useEq h6 h)<|.k (fun p e h=>.on z (e _ _ z)<|.fp (e.op z) fa56_3 z<|h)<|.k (fun p e h=>.on z (e _ _ z)<|.lp 1 fChange_3 (e.op z) (p.get z z) ty52 z<|h)<|.k (fun p e h=>.on z (e _ _ z)<|.lp 1 (Fld.self _) (e.op z) (p.get z z) ty56 z<|h)<|.k (fun p e h=>.on z (e _ _ z)<|.bindE h7 (fun r h=>.call0 (c136 _) n136 (e.ops z) z h)<|h)<|.nil) z<|.on z z<|.neT eq52 z z z<|.pickF z z z<|.an z z<|.keep [0,3,5,46] [6] z (hj2 _)
 ·refine .g<|.fp z fa56_0 z<|.lp 1 fChange_0 z z ty3 z<|.bin z z z z<|.m z z<|.split 18 z (fun _=>?_) (fun _=>?_)
  ·refine .on z z<|.fp z fa56_1 z<|.on z z<|.lp 1 fChange_1 z z ty9 z<|.on z z<|.seq z z z<|.pickT z z z<|.m z z<|.split 23 z (fun _=>?_) (fun _=>?_)
   ·refine .on z z<|.fp z fa56_2 z<|.on z z<|.lp 1 fChange_2 z z ty9 z<|.on z z<|.seq z z z<|.pickT z z z<|.m z z<|.split 28 z (fun _=>?_) (fun _=>?_)
    ·refine .on z z<|.fp z fa56_3 z<|.on z z<|.fp z fa52_2 z<|.on z z<|.lp 1 (fChange_3.comp fCol_2) z z ty4 z<|.on z z<|.not z z<|.on z z<|.m z z<|.split 33 z (fun _=>?_) (fun _=>?_)
     ·exact .off z z z<|.off z z z<|.off z z z<|.off z z z<|.off z z z<|.on z z<|.pickT z z z<|.pickT z z z<|.an z z<|.keep [0,3,5,14] [6] z (hj1 _)
     ·exact .on z z<|.fp z fa56_3 z<|.on z z<|.fp z fa52_4 z<|.on z z<|.fp z fa47_0 z<|.on z z<|.lp 1 (fChange_3.comp (fCol_4.comp fVal_0)) z z ty3 z<|.on z z<|.bin z z z z<|.on z z<|.pickF z z z<|.pickT z z z<|.an z z<|.keep [0,3,5,14] [6] z (hj1 _)
    ·exact .off z z z<|.off z z z<|.off z z z<|.off z z z<|.off z z z<|.offU z z z<|.offU z z z<|.offU z z z<|.offU z z z<|.offU z z z<|.off z z z<|.pickF z z z<|.an z z<|.keep [0,3,5,14] [6] z (hj1 _)
   ·exact .off z z z<|.off z z z<|.off z z z<|.pickF z z z<|.m z z<|.off z z z<|.off z z z<|.off z z z<|.off z z z<|.off z z z<|.offU z z z<|.offU z z z<|.offU z z z<|.offU z z z<|.offU z z z<|.off z z z<|.pickF z z z<|.an z z<|.keep [0,3,5,14] [6] z (hj1 _)
  ·exact .off z z z<|.off z z z<|.off z z z<|.pickF z z z<|.m z z<|.off z z z<|.off z z z<|.off z z z<|.pickF z z z<|.m z z<|.off z z z<|.off z z z<|.off z z z<|.off z z z<|.off z z z<|.offU z z z<|.offU z z z<|.offU z z z<|.offU z z z<|.offU z z z<|.off z z z<|.pickF z z z<|.an z z<|.keep [0,3,5,14] [6] z (hj1 _)
def f87 (fu:Nat)(a0:List Col)(a1:Change):Option ((List Col)×Bool):=(f86 fu a0).bind fun q2=>cond (!q2) (some (([]:List Col),false)) ((f118 fu a0 a1).bind fun q3=>(f86 fu q3).bind fun q4=>cond (!q4) (cond (decide (List.length ([]:List Col)+a0.length≤CAP)) (some (([]:List Col)++a0,false)) none) (some (q3,true)))
theorem n87:Nm prog 191:=⟨_,_,func191,by kernel_rfl,z⟩
theorem c87 (fu:Nat)(a0:List Col)(a1:Change):Ctr prog 191 [(tL tCol).va a0,tChange.va a1] [] (f87 fu a0 a1) (fun _ _=>[]) (fun q=>tup [(tL tCol).va q.1,isB q.2]):=by
 refine Ctr.of_W func191 z ntmps191 z fun A w=>?_
 unfold f87
 refine .s<|.box (T:=tChange) z z fun b1=>.assignNil tCol z<|.an z z<|.seq<|.s<|.m z z<|.call0 (c86 fu _) n86 z z fun q2=>.not z z<|.nil<|.cd z ?_ ?_
 ·exact .s<|.litN (T:=tCol) u27 el52 z z (.nil) z<|.a z z<|.an z z<|.ret2 func191 results191 (.tmp z) (.tmp z) z (fun _=>.c<|.e)
 ·refine .skip<|.s<|.m z z<|.lp 0 (Fld.self _) z z ty56 z<|.call0 (c118 fu _ _) n118 z z fun q3=>.an z z<|.seq<|.s<|.m z z<|.call0 (c86 fu _) n86 z z fun q4=>.not z z<|.nil<|.cd z ?_ ?_
  ·exact .s<|.lit (T:=tCol) u27 el52 z z (.nil) z fun v5=>.m z z<|.app (T:=tCol) 0 z z z u27 el52 z fun v6=>.a z z<|.an z z<|.ret2 func191 results191 (.tmp z) (.tmp z) z (fun _=>.c<|.c<|.e)
  ·exact .skip<|.s<|.m z z<|.a z z<|.an z z<|.ret2 func191 results191 (.tmp z) (.tmp z) z (fun _=>.c<|.e)
def f50_l1 (fu:Nat)(a1:List Change):Nat→(List Col)→Int→Option ((List Col)×Bool)
 | 0,_,_=>none
 | n1+1,i4,i5=>cond (decide (i5 < (a1.length:Int))) (cond (decide (0≤i5)&&decide (i5 < (a1.length:Int))) ((f87 fu i4 (a1.getD i5.toNat default)).bind fun q6=>cond (!q6.2) (some (([]:List Col),false)) ((f50_l1 fu a1 n1) q6.1 (IntKind.i64.wrap (i5+1)))) none) (some (i4,true))
def f50 (fu:Nat)(a0:List Col)(a1:List Change):Option ((List Col)×Bool):=(f86 fu a0).bind fun q1=>cond (!q1) (some (([]:List Col),false)) (cond (decide (List.length ([]:List Col)+a0.length≤CAP)) (f50_l1 fu a1 fu (([]:List Col)++a0) 0) none)
theorem n50:Nm prog 177:=⟨_,_,func177,by kernel_rfl,z⟩
theorem c50 (fu:Nat)(a0:List Col)(a1:List Change):Ctr prog 177 [(tL tCol).va a0,(tL tChange).va a1] [] (f50 fu a0 a1) (fun _ _=>[]) (fun q=>tup [(tL tCol).va q.1,isB q.2]):=by
 refine Ctr.of_W func177 z ntmps177 z fun A w=>?_
 unfold f50
 refine .s<|.assignNil tCol z<|.an z z<|.seq<|.s<|.m z z<|.call0 (c86 fu _) n86 z z fun q1=>.not z z<|.nil<|.cd z ?_ ?_
 ·exact .s<|.litN (T:=tCol) u27 el52 z z (.nil) z<|.a z z<|.an z z<|.ret2 func177 results177 (.tmp z) (.tmp z) z (fun _=>.e)
 ·refine .skip<|.s<|.lit (T:=tCol) u27 el52 z z (.nil) z fun v2=>.m z z<|.app (T:=tCol) 0 z z z u27 el52 z fun v3=>.an z z<|.seq<|.s<|.an z z<|.block<|.loop<|.drop (.c<|.e)<|.keep [1,6,7] [] z<|(show ∀ (n1:Nat) (i4:List Col) (i5:Int),W _ _ _ _ _ ⟨[(1,(tL tChange).va a1,none),(6,(tL tCol).va i4,none),(7,isI .i64 i5,none)],[]⟩ (f50_l1 fu a1 n1 i4 i5) from ?_) fu _ _
  intro n1
  induction n1 with
  | zero=>exact fun _ _=>.stop
  | succ n1 ih1=>
   intro i4 i5
   refine .inLoop<|.seq<|.s<|.m z z<|.m z z<|.lenL z u34 z<|.bin z z z z<|.nil<|.cd z ?_ ?_
   ·refine .skip<|.seq<|.block<|.s<|.an z z<|.s<|.m z z<|.m z z<|.m z z<|.elemAt z z u34 ty56 z<|.load z ty56 z<|.call0 (c87 fu _ _) n87 z z fun q6=>.m z z<|.extract z z z<|.extract z z z<|.a z z<|.an z z<|.s<|.m z z<|.not z z<|.nil<|.cd z ?_ ?_
    ·exact .s<|.litN (T:=tCol) u27 el52 z z (.nil) z<|.a z z<|.an z z<|.ret2 func177 results177 (.tmp z) (.tmp z) z (fun _=>.e)
    ·exact .skip<|.inBlock<|.g<|.m z z<|.bin z z z z<|.an z z<|.keep [1,6,7] [] z (ih1 _ _)
   ·exact .exit z<|.s<|.m z z<|.a z z<|.an z z<|.ret2 func177 results177 (.tmp z) (.tmp z) z (fun _=>.e)
def f89 (fu:Nat)(a0:Table)(a1:Int):Option (List Col):=cond (decide (0≤(0:Int))&&decide ((0:Int)≤a1)&&decide (a1≤(a0.changes.length:Int))) ((f50 fu a0.first ((a0.changes.take a1.toNat).drop (0:Int).toNat)).bind fun q2=>some q2.1) none
theorem n89:Nm prog 155:=⟨_,_,func155,by kernel_rfl,z⟩
theorem c89 (fu:Nat)(a0:Table)(a1:Int):Ctr prog 155 [tTable.va a0,isI .i64 a1] [] (f89 fu a0 a1) (fun _ _=>[]) (fun q=>(tL tCol).va q):=by
 refine Ctr.of_W func155 z ntmps155 z fun A w=>?_
 unfold f89
 refine .s<|.box (T:=tTable) z z fun b1=>.assignNil tCol z<|.nil<|.seq<|.pT fun h1=>?_
 exact .draw 6 [] mix (by kernel_rfl) (.j (fun o=>.fp (o z) fa27_0 z)<|.k (fun p e=>.lp 0 fTable_0 (e.op z) (p.get z z) ty23 z)<|.j (fun o=>.fp (o z) fa27_1 z)<|.k (fun p e=>.lp 0 fTable_1 (e.op z) (p.get z z) ty24 z)<|.j (fun o=>.m (o z) z)<|.k (fun p e h=>.useC h1<|.cut (e.op z) u34 el56 z ⟨_,(e.op z)⟩ z<|h)<|.nil) z<|.call0 (c50 fu _ _) n50 z z fun q2=>.m z z<|.extract z z z<|.extract z z z<|.a z z<|.an z z<|.s<|.m z z<|.an z z<|.ret1 func155 results155 (.tmp z) z (fun _ _=>.c<|.e)
def f89o (fu:Nat)(a0:Table)(a1:Int):Option (List Col):=cond (decide (0≤(0:Int))&&decide ((0:Int)≤a1)&&decide (a1≤(a0.changes.length:Int))) ((f50 fu a0.first ((a0.changes.take a1.toNat).drop (0:Int).toNat)).bind fun q2=>some q2.1) none
theorem c89o (fu:Nat)(vp0:Value)(cp0:Value)(a0:Table)(a1:Int):Ctr prog 155 [tTableA.va (⟨a0.first,(cp0,a0.changes),vp0,a0.next⟩:TableA),isI .i64 a1] [arrO tRow vp0 a0.rows] (f89o fu a0 a1) (fun _ _=>[arrO tRow vp0 a0.rows]) (fun q=>(tL tCol).va q):=by
 refine Ctr.of_W func155 z ntmps155 z fun A w=>?_
 unfold f89o
 refine .s<|.box (T:=tTableA) z z fun b1=>.assignNil tCol z<|.nil<|.seq<|.pT fun h1=>?_
 exact .draw 6 [] mix (by kernel_rfl) (.j (fun o=>.fp (o z) fa27_0 z)<|.k (fun p e=>.lp 0 fTableA_0 (e.op z) (p.get z z) ty23 z)<|.j (fun o=>.fp (o z) fa27_1 z)<|.k (fun p e=>.loadK 0 fTableA_1 (e.op z) (p.get z z) ty24 z)<|.j (fun o=>.m (o z) z)<|.k (fun p e h=>.useC h1<|.cut (e.op z) u34 el56 z ⟨_,(e.op z)⟩ z<|h)<|.nil) z<|.call0 (c50 fu _ _) n50 z z fun q2=>.m z z<|.extract z z z<|.extract z z z<|.a z z<|.an z z<|.s<|.m z z<|.an z z<|.ret1 func155 results155 (.tmp z) z (fun _ _=>.c<|.d<|.e)
def f53 (fu:Nat)(a0:Table):Option (List Col):=(f89 fu a0 (a0.changes.length:Int)).bind fun q2=>some q2
theorem n53:Nm prog 98:=⟨_,_,func98,by kernel_rfl,z⟩
theorem c53 (fu:Nat)(a0:Table):Ctr prog 98 [tTable.va a0] [] (f53 fu a0) (fun _ _=>[]) (fun q=>(tL tCol).va q):=by
 refine Ctr.of_W func98 z ntmps98 z fun A w=>?_
 unfold f53
 exact .s<|.box (T:=tTable) z z fun b1=>.assignNil tCol z<|.nil<|.s<|.lp 0 (Fld.self _) z z ty27 z<|.fp z fa27_1 z<|.lp 0 fTable_1 z z ty24 z<|.lenL z u34 z<|.call0 (c89 fu _ _) n89 z z fun q2=>.an z z<|.ret1 func98 results98 (.tmp z) z (fun _ _=>.c<|.e)
def f53o (fu:Nat)(a0:Table):Option (List Col):=(f89o fu a0 (a0.changes.length:Int)).bind fun q2=>some q2
theorem c53o (fu:Nat)(vp0:Value)(cp0:Value)(a0:Table):Ctr prog 98 [tTableA.va (⟨a0.first,(cp0,a0.changes),vp0,a0.next⟩:TableA)] [arrO tRow vp0 a0.rows] (f53o fu a0) (fun _ _=>[arrO tRow vp0 a0.rows]) (fun q=>(tL tCol).va q):=by
 refine Ctr.of_W func98 z ntmps98 z fun A w=>?_
 unfold f53o
 exact .s<|.box (T:=tTableA) z z fun b1=>.assignNil tCol z<|.nil<|.s<|.lp 0 (Fld.self _) z z ty27 z<|.fp z fa27_1 z<|.loadKV 0 fTableA_1 z z ty24 z<|.lenL z u34 z<|.callR 1 (c89o fu _ _ _ _) z n89 z z fun q2=>.an z z<|.ret1 func98 results98 (.tmp z) z (fun _ _=>.c<|.d<|.e)
def f142 (a0:Int)(a1:Int):Option Int:=cond (decide (a1<a0)) (some a0) (some a1)
theorem n142:Nm prog 199:=⟨_,_,func199,by kernel_rfl,z⟩
theorem c142 (a0:Int)(a1:Int):Ctr prog 199 [isI .i64 a0,isI .i64 a1] [] (f142 a0 a1) (fun _ _=>[]) (fun q=>isI .i64 q):=by
 refine Ctr.of_W func199 z ntmps199 z fun A w=>?_
 unfold f142
 refine .s<|.an z z<|.seq<|.s<|.m z z<|.m z z<|.bin z z z z<|.nil<|.cd z ?_ ?_
 ·exact .s<|.m z z<|.an z z<|.ret1 func199 results199 (.tmp z) z (fun _ _=>.e)
 ·exact .skip<|.s<|.m z z<|.an z z<|.ret1 func199 results199 (.tmp z) z (fun _ _=>.e)
def f82_l1 (a0:Table)(a1:Int):Nat→Int→Option Int
 | 0,_=>none
 | n1+1,i2=>cond (decide (i2 < (a0.rows.length:Int))) (cond (decide (0≤i2)&&decide (i2 < (a0.rows.length:Int))) (cond (decide (((a0.rows.getD i2.toNat default).id)=a1)) (some i2) ((f82_l1 a0 a1 n1) (IntKind.i64.wrap (i2+1)))) none) (some (-1))
def f82 (fu:Nat)(a0:Table)(a1:Int):Option Int:=f82_l1 a0 a1 fu 0
theorem n82:Nm prog 131:=⟨_,_,func131,by kernel_rfl,z⟩
theorem c82 (fu:Nat)(a0:Table)(a1:Int):Ctr prog 131 [tTable.va a0,isI .i64 a1] [] (f82 fu a0 a1) (fun _ _=>[]) (fun q=>isI .i64 q):=by
 refine Ctr.of_W func131 z ntmps131 z fun A w=>?_
 unfold f82
 refine .s<|.box (T:=tTable) z z fun b1=>.an z z<|.seq<|.s<|.an z z<|.block<|.loop<|.keep [1,2,5] [] z<|(show ∀ (n1:Nat) (i2:Int),W _ _ _ _ _ ⟨[(1,isI .i64 a1,none),(2,isP b1 0,none),(5,isI .i64 i2,none)],[boxO b1 tTable a0 []]⟩ (f82_l1 a0 a1 n1 i2) from ?_) fu _
 intro n1
 induction n1 with
 | zero=>exact fun _=>.stop
 | succ n1 ih1=>
  intro i2
  refine .inLoop<|.seq<|.s<|.m z z<|.fp z fa27_2 z<|.lp 0 fTable_2 z z ty25 z<|.lenL z u35 z<|.bin z z z z<|.nil<|.cd z ?_ ?_
  ·refine .skip<|.seq<|.block<|.s<|.fp z fa27_2 z<|.lp 0 fTable_2 z z ty25 z<|.m z z<|.elemAt z z u35 ty37 z<|.fieldAt fRow_0 z fa37_0 z<|.load z ty3 z<|.m z z<|.bin z z z z<|.nil<|.cd z ?_ ?_
   ·exact .s<|.m z z<|.an z z<|.ret1 func131 results131 (.tmp z) z (fun _ _=>.c<|.e)
   ·exact .skip<|.inBlock<|.g<|.m z z<|.bin z z z z<|.an z z<|.keep [1,2,5] [] z (ih1 _)
  ·exact .exit z<|.s<|.an z z<|.ret1 func131 results131 (.tmp z) z (fun _ _=>.c<|.e)
def f82o_l1 (a0:Table)(a1:Int):Nat→Int→Option Int
 | 0,_=>none
 | n1+1,i2=>cond (decide (i2 < (a0.rows.length:Int))) (cond (decide (0≤i2)&&decide (i2 < (a0.rows.length:Int))) (cond (decide (((a0.rows.getD i2.toNat default).id)=a1)) (some i2) ((f82o_l1 a0 a1 n1) (IntKind.i64.wrap (i2+1)))) none) (some (-1))
def f82o (fu:Nat)(a0:Table)(a1:Int):Option Int:=f82o_l1 a0 a1 fu 0
theorem c82o (fu:Nat)(vp0:Value)(cp0:Value)(a0:Table)(a1:Int):Ctr prog 131 [tTableA.va (⟨a0.first,(cp0,a0.changes),vp0,a0.next⟩:TableA),isI .i64 a1] [arrO tRow vp0 a0.rows] (f82o fu a0 a1) (fun _ _=>[arrO tRow vp0 a0.rows]) (fun q=>isI .i64 q):=by
 refine Ctr.of_W func131 z ntmps131 z fun A w=>?_
 unfold f82o
 refine .s<|.box (T:=tTableA) z z fun b1=>.an z z<|.seq<|.s<|.an z z<|.block<|.loop<|.keep [1,2,5] [] z<|(show ∀ (n1:Nat) (i2:Int),W _ _ _ _ _ ⟨[(1,isI .i64 a1,none),(2,isP b1 0,none),(5,isI .i64 i2,none)],[boxO b1 tTableA (⟨a0.first,(cp0,a0.changes),vp0,a0.next⟩:TableA) [],arrO tRow vp0 a0.rows]⟩ (f82o_l1 a0 a1 n1 i2) from ?_) fu _
 intro n1
 induction n1 with
 | zero=>exact fun _=>.stop
 | succ n1 ih1=>
  intro i2
  refine .inLoop<|.seq<|.s<|.m z z<|.fp z fa27_2 z<|.loadR 0 fTableA_2 z z ty25 z<|.know 8 z<|.lenA 1 z z u35 z<|.bin z z z z<|.nil<|.cd z ?_ ?_
  ·refine .skip<|.seq<|.block<|.s<|.fp z fa27_2 z<|.loadR 0 fTableA_2 z z ty25 z<|.know 14 z<|.m z z<|.elemA 1 z z z u35 ty37 z<|.fieldA z fa37_0 z<|.loadA 1 fRow_0 z z ty3 z<|.m z z<|.bin z z z z<|.nil<|.cd z ?_ ?_
   ·exact .s<|.m z z<|.an z z<|.ret1 func131 results131 (.tmp z) z (fun _ _=>.c<|.d<|.e)
   ·exact .skip<|.inBlock<|.g<|.m z z<|.bin z z z z<|.an z z<|.keep [1,2,5] [] z (ih1 _)
  ·exact .exit z<|.s<|.an z z<|.ret1 func131 results131 (.tmp z) z (fun _ _=>.c<|.d<|.e)
def f41 (fu:Nat)(a0:Table)(a1:Int):Option (Table×Int):=(f82o fu a0 a1).bind fun q3=>cond (decide (q3<0)) (some (a0,5)) (cond (decide (0≤(0:Int))&&decide ((0:Int)≤q3)&&decide (q3≤(a0.rows.length:Int))) (cond (decide (List.length ([]:List Row)+List.length ((a0.rows.take q3.toNat).drop (0:Int).toNat)≤CAP)) (cond (decide (0≤(IntKind.i64.wrap (q3+1)))&&decide ((IntKind.i64.wrap (q3+1))≤(a0.rows.length:Int))&&decide ((a0.rows.length:Int)≤(a0.rows.length:Int))) (cond (decide (List.length (([]:List Row)++((a0.rows.take q3.toNat).drop (0:Int).toNat))+List.length ((a0.rows.take (a0.rows.length:Int).toNat).drop (IntKind.i64.wrap (q3+1)).toNat)≤CAP)) (some ((⟨a0.first,a0.changes,(([]:List Row)++((a0.rows.take q3.toNat).drop (0:Int).toNat))++((a0.rows.take (a0.rows.length:Int).toNat).drop (IntKind.i64.wrap (q3+1)).toNat),a0.next⟩:Table),0)) none) none) none) none)
theorem n41:Nm prog 150:=⟨_,_,func150,by kernel_rfl,z⟩
def f41a (fu:Nat)(a0:Table)(a1:Int):Option (Table×Int):=(f82 fu a0 a1).bind fun q3=>cond (decide (q3<0)) (some (a0,5)) (cond (decide (0≤(0:Int))&&decide ((0:Int)≤q3)&&decide (q3≤(a0.rows.length:Int))) (cond (decide (List.length ([]:List Row)+List.length ((a0.rows.take q3.toNat).drop (0:Int).toNat)≤CAP)) (cond (decide (0≤(IntKind.i64.wrap (q3+1)))&&decide ((IntKind.i64.wrap (q3+1))≤(a0.rows.length:Int))&&decide ((a0.rows.length:Int)≤(a0.rows.length:Int))) (cond (decide (List.length (([]:List Row)++((a0.rows.take q3.toNat).drop (0:Int).toNat))+List.length ((a0.rows.take (a0.rows.length:Int).toNat).drop (IntKind.i64.wrap (q3+1)).toNat)≤CAP)) (some ((⟨a0.first,a0.changes,(([]:List Row)++((a0.rows.take q3.toNat).drop (0:Int).toNat))++((a0.rows.take (a0.rows.length:Int).toNat).drop (IntKind.i64.wrap (q3+1)).toNat),a0.next⟩:Table),0)) none) none) none) none)
theorem c41a (fu:Nat)(a0:Table)(a1:Int):Ctr prog 150 [tTable.va a0,isI .i64 a1] [] (f41a fu a0 a1) (fun _ _=>[]) (fun q=>tup [tTable.va q.1,isI .i64 q.2]):=by
 refine Ctr.of_W func150 z ntmps150 z fun A w=>?_
 unfold f41a
 refine .s<|.box (T:=tTable) z z fun b1=>.alloc tTableA d0A27 [] zA27 z fun b2=>.an z z<|.s<|.lp 1 (Fld.self _) z z ty27 z<|.m z z<|.call0 (c82 fu _ _) n82 z z fun q3=>.an z z<|.seq<|.s<|.m z z<|.bin z z z z<|.nil<|.cd z ?_ ?_
 ·exact .s<|.lp 1 (Fld.self _) z z ty27 z<|.storeW 0 z z z z ty27<|.an z z<|.ret2 func150 results150 (.cell 0 z z ty27) (.tmp z) z (fun _=>.c<|.c<|.e)
 ·refine .skip<|.seq<|.pT fun h1=>?_
  refine .pT fun h2=>?_
  refine .pT fun h3=>?_
  exact .drawS 11 [] [5] [] mix (by kernel_rfl) (.j (fun o=>.litE tRow u35 el37 z z)<|.j (fun o=>.fp (o z) fa27_2 z)<|.k (fun p e=>.lp 1 fTable_2 (e.op z) (p.get z z) ty25 z)<|.j (fun o=>.m (o z) z)<|.k (fun p e h=>.useC h1<|.cut (e.op z) u35 el37 z ⟨_,(e.op z)⟩ z<|h)<|.skip<|.j (fun o=>.fp (o z) fa27_2 z)<|.k (fun p e=>.lp 1 fTable_2 (e.op z) (p.get z z) ty25 z)<|.j (fun o=>.m (o z) z)<|.j (fun o=>.bin z (o z) (o z) z)<|.k (fun p e h=>.useC h3<|.cut (e.op z) u35 el37 ⟨_,(e.op z)⟩ z z<|h)<|.nil) z<|.cons (d:=18) z z fun _ _ hE h=>.useC h2<|.appEA (T:=tRow) (hE.op z) (hE.op z) z u35 el37 z fun v4=>.toEnd<|h _ _ (.same<|.same<|.nil)<|.nil<|.appA (T:=tRow) 2 z z z u35 el37 z fun v5=>.fp z fa27_2 z<|.unBox 1 convX27 z fun p6=>.toRaw (T:=tRow) 2 24 z z<|.storeP 1 fTableA_2 z z z ty25<|.nil<|.s<|.lp 1 (Fld.self _) z z ty27 z<|.storeP 0 (Fld.self _) z z z ty27<|.an z z<|.frzBox 0 2 conv27 z z<|.ret2 func150 results150 (.cell 0 z z ty27) (.tmp z) z (fun _=>.c<|.c<|.c<|.e)
def f127_j1 (i4:Val)(i5:Rd):Option (Val×Rd):=some (i4,i5)
def f127 (fu:Nat)(a0:Rd)(a1:Val):Option (Val×Rd):=(f74 fu a0 32).bind fun q3=>cond (decide (q3.1=0)) ((f73 fu q3.2 ([0,3,-1,1,2]:List Int)).bind fun q6=>f127_j1 ({ a1 with kind:=q6.1 }:Val) q6.2) (cond (decide (q3.1=1)) ((f73 fu q3.2 ([1000,-1000,5,9223372036854775807]:List Int)).bind fun q7=>f127_j1 ({ a1 with n:=q7.1 }:Val) q7.2) (cond (decide (q3.1=2)) ((f96 fu q3.2 ([([97,98,99,100,101]:List UInt8),([65]:List UInt8),([113]:List UInt8),([39]:List UInt8)]:List (List UInt8))).bind fun q8=>f127_j1 ({ a1 with text:=q8.1 }:Val) q8.2) (f127_j1 a1 q3.2)))
theorem n127:Nm prog 172:=⟨_,_,func172,by kernel_rfl,z⟩
theorem c127 (fu:Nat)(bp0:Nat)(a0:Rd)(a1:Val):Ctr prog 172 [isP bp0 0,tVal.va a1] [boxO bp0 tRd a0 []] (f127 fu a0 a1) (fun q _=>[boxO bp0 tRd q.2 []]) (fun q=>tVal.va q.1):=by
 refine Ctr.of_W func172 z ntmps172 z fun A w=>?_
 unfold f127
 refine .s<|.box (T:=tVal) z z fun b1=>.alloc tVal d0_47 [] z47 z fun b2=>.nil<|.seq<|.s<|.m z z<|.call1 2 (c74 fu _ _ _) z n74 z z fun q3=>.nil<|.block<|.s<|.bin z z z z<|.an z z<|.join2 (fun i4 i5=>⟨[(3,isP b1 0,none),(4,isP b2 0,none)],[boxO b2 tVal d0_47 [],boxO b1 tVal i4 [],boxO bp0 tRd i5 []]⟩) (fun i4 i5=>f127_j1 i4 i5) (fun i4 i5=>?_) (fun hj1=>?_)
 ·exact .inBlock<|.s<|.lp 1 (Fld.self _) z z ty47 z<|.storeP 0 (Fld.self _) z z z ty47<|.nil<|.ret1 func172 results172 (.cell 0 z z ty47) z (fun _ _=>.c<|.c<|.d<|.e)
 ·refine .cd z ?_ ?_
  ·exact .g<|.m z z<|.litN (T:=(tI .i64)) u143 el3 z z (.cons z<|.cons z<|.cons z<|.cons z<|.cons z<|.nil) z<|.call1 2 (c73 fu _ _ _) z n73 z z fun q6=>.fp z fa47_0 z<|.storeP 1 fVal_0 z z z ty3<|.nil<|.keep [3,4] [] z (hj1 _ _)
  ·refine .s<|.bin z z z z<|.an z z<|.cd z ?_ ?_
   ·exact .g<|.m z z<|.litN (T:=(tI .i64)) u143 el3 z z (.cons z<|.cons z<|.cons z<|.cons z<|.nil) z<|.call1 2 (c73 fu _ _ _) z n73 z z fun q7=>.fp z fa47_1 z<|.storeP 1 fVal_1 z z z ty3<|.nil<|.keep [3,4] [] z (hj1 _ _)
   ·refine .s<|.bin z z z z<|.an z z<|.cd z ?_ ?_
    ·exact .g<|.m z z<|.litN (T:=tS) u89 el9 z z (.cons z<|.cons z<|.cons z<|.cons z<|.nil) z<|.call1 2 (c96 fu _ _ _) z n96 z z fun q8=>.fp z fa47_2 z<|.storeP 1 fVal_2 z z z ty9<|.nil<|.keep [3,4] [] z (hj1 _ _)
    ·exact .skip<|.keep [3,4] [] z (hj1 _ _)
def f97 (fu:Nat)(a0:Rd):Option (Val×Rd):=(f74 fu a0 3).bind fun q2=>(f95 fu q2.2 q2.1).bind fun q3=>(f127 fu q3.2 q3.1).bind fun q4=>some (q4.1,q4.2)
theorem n97:Nm prog 116:=⟨_,_,func116,by kernel_rfl,z⟩
theorem c97 (fu:Nat)(bp0:Nat)(a0:Rd):Ctr prog 116 [isP bp0 0] [boxO bp0 tRd a0 []] (f97 fu a0) (fun q _=>[boxO bp0 tRd q.2 []]) (fun q=>tVal.va q.1):=by
 refine Ctr.of_W func116 z ntmps116 z fun A w=>?_
 unfold f97
 exact .s<|.alloc tVal d0_47 [] z47 z fun b1=>.nil<|.s<|.m z z<|.m z z<|.m z z<|.call1 1 (c74 fu _ _ _) z n74 z z fun q2=>.call1 1 (c95 fu _ _ _) z n95 z z fun q3=>.call1 1 (c127 fu _ _ _) z n127 z z fun q4=>.storeP 0 (Fld.self _) z z z ty47<|.nil<|.ret1 func116 results116 (.cell 0 z z ty47) z (fun _ _=>.c<|.d<|.e)
end Go.Proofs.YtdpigighgmipfaaGreatDoor
