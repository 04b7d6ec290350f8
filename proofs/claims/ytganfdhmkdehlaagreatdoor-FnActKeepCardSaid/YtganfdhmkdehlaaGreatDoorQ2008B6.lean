/- What functions answer. -/
import Derived.Test.YtganfdhmkdehlaaGreatDoorQ2008B5
import Derived.KernelRfl
set_option linter.all false
namespace Go.Proofs.YtganfdhmkdehlaaGreatDoor
open Go Go.HL Tryz
attribute [local irreducible] W WO
def qK (fu:Nat)(a0:ac)(a1:ai):Option Bool:=(fc fu a0 a1.to).bind fun q4=>cond (decide (0≤q4)&&decide (q4 < (a0.tabs.length:Int))) ((me fu a0 a1 (fun x0 x1 s=>qy fu x0 x1 s ((a0.tabs.getD q4.toNat default).table)) true).bind fun q6=>some q6) none
theorem z7:Nm prog 35:=nmK func35
theorem AY (fu:Nat)(a0:ac)(a1:ai):Ctr prog 35 [tBase.va a0,tLink.va a1] [] (qK fu a0 a1) (fun _ _=>[]) (fun q=>isB q):=by
 refine .w func35 ntmps35 fun hf A w=>?_
 unfold qK
 refine .s<|.box (T:=tBase) z z fun b1=>.box (T:=tLink) z z fun b2=>.an z z<|.s<|.alloc tB Fd [] z4 z fun b3=>go ?_
 refine .seq<|.pb (jZ fu _ _) jW fun q4 h1 k=>.pT fun h2=>.drawS 10 [] [9] [] mix (by kernel_rfl) sts z<|.cons (d:=6) z z fun _ _ hE h=>.alloc tTable d0_27 [] z27 z fun b5=>.toEnd<|h _ _ (.same<|.same<|.same<|.nil)<|go ?_
 exact .s<|.lp 2 (Fld.self _) z z ap z<|.lp 1 (Fld.self _) z z mo z<|.frzP 3 6 z z<|.makeF z z<|.call1 0 (F6 fu _ _ (fun x0 x1 s=>qy fu x0 x1 s ((a0.tabs.getD q4.toNat default).table)) (fun s=>boxO b3 tB s []) 83 [isP b3 0,da tTable ((a0.tabs.getD q4.toNat default).table)] Ev (fun x0 x1 s=>FS fu x0 x1 b3 s ((a0.tabs.getD q4.toNat default).table)) _) z xu z z fun q6=>fr
def kx (i2:Bool):Option Bool:=some i2
def pk (fu:Nat)(a0:ai)(a1:List UInt8)(a2:List UInt8):Option Bool:=cond (decide (a0.from_=a1)) (kx (decide (a0.col=a2))) (kx false)
theorem Eu:Nm prog 85:=nmK func85
theorem FR (fu:Nat)(a0:ai)(a1:List UInt8)(a2:List UInt8):Ctr prog 85 [tLink.va a0,da tS a1,da tS a2] [] (pk fu a0 a1 a2) (fun _ _=>[]) (fun q=>isB q):=by
 refine .w func85 ntmps85 fun hf A w=>?_
 unfold pk
 refine .s<|.box (T:=tLink) z z fun b1=>.an z z<|.seq<|.join1 (fun i2=>⟨[(4,isB i2,none)],[]⟩) (fun i2=>kx i2) (fun i2=>?_) (fun hj1=>?_)
 ·exact fr
 ·refine .g<|go ?_
  refine .split 9 z (fun _=>?_) (fun _=>?_)
  ·exact fj (hj1 _)
  ·exact fj (hj1 _)
def bS (a0:List ai)(a1:ai→Option Bool):Nat→Int→Option Int
 | 0,_=>none
 | n1+1,i1=>cond (decide (i1 < (a0.length:Int))) (cond (decide (0≤i1)&&decide (i1 < (a0.length:Int))) ((a1 (a0.getD i1.toNat default)).bind fun q2=>cond q2 (some i1) ((bS a0 a1 n1) (IntKind.i64.wrap (i1+1)))) none) (some (-1))
def tc (fu:Nat)(a0:List ai)(a1:ai→Option Bool):Option Int:=bS a0 a1 fu 0
theorem B3:Nm prog 84:=nmK func84
theorem Da (fu : Nat)(a0 : List ai)(a1 : ai → Option Bool)(g1 : Nat)(k1 : List VA)(hn1 : ∃ fn c, prog.funcs[g1]? = some fn ∧ (fn.name == "runtime.NumGoroutine") = false ∧ fn.body = some c)(hc1 : ∀ (x0 : ai), Ctr prog g1 ([tLink.va x0] ++ k1) [] (a1 x0) (fun _ _ => []) (fun q => isB q)) : Ctr prog 84 [(tL tLink).va a0, cW g1 k1] [] (tc fu a0 a1) (fun _ _ => []) (fun q => isI .i64 q) := by
 refine .w func84 ntmps84 fun hf A w=>?_
 unfold tc
 refine .s<|.an z z<|.seq<|.s<|go ?_
 refine .block<|.loop<|.keep [0,1,7,8] [] z<|(show ∀ (n1:Nat) (i1:Int),W _ _ _ _ _ ⟨[(0,(tL tLink).va a0,none),(1,cW g1 k1,none),(7,isI .i64 (a0.length:Int),none),(8,isI .i64 i1,none)],[]⟩ (bS a0 a1 n1 i1) from ?_) fu _
 intro n1
 induction n1 with
 | zero=>exact fun _=>.stop
 | succ n1 ih1=>
  intro i1
  refine .inLoop<|.s<|go ?_
  refine .seq<|.cd z ?_ ?_
  ·refine .skip<|.seq<|.block<|.s<|go ?_
   refine .s<|go ?_
   refine .callC z (hc1 _) hn1 z z fun q2=>.nil<|.cd z ?_ ?_
   ·exact fr
   ·exact fj (ih1 _)
  ·exact fr
def qJ (fu:Nat)(a0:ac)(a1:List UInt8)(a2:List UInt8):Option Int:=(tc fu a0.links (fun x0=>pk fu x0 a1 a2)).bind fun q4=>some q4
theorem z6:Nm prog 36:=nmK func36
theorem AX (fu:Nat)(a0:ac)(a1:List UInt8)(a2:List UInt8):Ctr prog 36 [tBase.va a0,isS a1,isS a2] [] (qJ fu a0 a1 a2) (fun _ _=>[]) (fun q=>isI .i64 q):=by
 refine .w func36 ntmps36 fun hf A w=>?_
 unfold qJ
 exact .s<|.box (T:=tBase) z z fun b1=>.box (T:=tS) z z fun b2=>.box (T:=tS) z z fun b3=>.an z z<|.s<|.fp z ci z<|.lp 2 gP z z fy z<|.frzP 1 4 z z<|.frzP 0 5 z z<|.makeF z z<|.call0 (Da fu _ (fun x0=>pk fu x0 a1 a2) 85 [da tS a1,da tS a2] Eu (fun x0=>FR fu x0 a1 a2)) B3 z z fun q4=>fr
def iX (i2:Int)(rec1:Int→Option Bool)(i4:Bool):Option Bool:=cond i4 (some false) (rec1 (IntKind.i64.wrap (i2+1)))
def iW (i8:Int)(rec1:Int→Option Bool)(rec2:Int→Option Bool)(i10:Bool):Option Bool:=cond i10 (some false) (rec2 (IntKind.i64.wrap (i8+1)))
def iY (rec1:Int→Option Bool)(rec2:Int→Option Bool)(i14:Bool):Option Bool:=some i14
def bj (fu:Nat)(a0:ac)(rec1:Int→Option Bool):Nat→Int→Option Bool
 | 0,_=>none
 | n2+1,i8=>cond (decide (i8 < (a0.links.length:Int))) (cond (decide (0≤i8)&&decide (i8 < (a0.links.length:Int))) ((tg fu a0 (a0.links.getD i8.toNat default)).bind fun q11=>cond (!q11) (iW i8 rec1 (bj fu a0 rec1 n2) true) ((qK fu a0 (a0.links.getD i8.toNat default)).bind fun q12=>cond (!q12) (iW i8 rec1 (bj fu a0 rec1 n2) true) ((qJ fu a0 ((a0.links.getD i8.toNat default).from_) ((a0.links.getD i8.toNat default).col)).bind fun q13=>iW i8 rec1 (bj fu a0 rec1 n2) (!decide (q13=i8))))) none) (cond (decide ((a0.tabs.length:Int)≤3)) (iY rec1 (bj fu a0 rec1 n2) (decide ((a0.links.length:Int)≤4))) (iY rec1 (bj fu a0 rec1 n2) false))
def aF (fu:Nat)(a0:ac):Nat→Int→Option Bool
 | 0,_=>none
 | n1+1,i2=>cond (decide (i2 < (a0.tabs.length:Int))) (cond (decide (0≤i2)&&decide (i2 < (a0.tabs.length:Int))) ((mc fu ((a0.tabs.getD i2.toNat default).name)).bind fun q5=>cond (!q5) (iX i2 (aF fu a0 n1) true) ((fc fu a0 ((a0.tabs.getD i2.toNat default).name)).bind fun q6=>cond (!decide (q6=i2)) (iX i2 (aF fu a0 n1) true) ((f19 fu ((a0.tabs.getD i2.toNat default).table)).bind fun q7=>iX i2 (aF fu a0 n1) (!q7)))) none) (bj fu a0 (aF fu a0 n1) fu 0)
def jY (fu:Nat)(a0:ac):Option Bool:=aF fu a0 fu 0
theorem oQ:Nm prog 13:=nmK func13
theorem px (fu:Nat)(a0:ac):Ctr prog 13 [tBase.va a0] [] (jY fu a0) (fun _ _=>[]) (fun q=>isB q):=by
 refine .w func13 ntmps13 fun hf A w=>?_
 unfold jY
 refine .s<|.box (T:=tBase) z z fun b1=>.an z z<|.seq<|.s<|go ?_
 refine .block<|.loop<|.keep [1,8,9,10] [] z<|(show ∀ (n1:Nat) (i2:Int),W _ _ _ _ _ ⟨[(1,isP b1 0,none),(8,(tL tTab).va a0.tabs,none),(9,isI .i64 (a0.tabs.length:Int),none),(10,isI .i64 i2,none)],[boxO b1 tBase a0 []]⟩ (aF fu a0 n1 i2) from ?_) fu _
 intro n1
 induction n1 with
 | zero=>exact fun _=>.stop
 | succ n1 ih1=>
  intro i2
  refine .inLoop<|.s<|go ?_
  refine .seq<|.cd z ?_ ?_
  ·refine .skip<|.seq<|.block<|.s<|go ?_
   refine .alloc tTab d0_1039 [] z1039 z fun b3=>go ?_
   refine .seq<|.join1 (fun i4=>⟨[(1,isP b1 0,none),(8,(tL tTab).va a0.tabs,none),(9,isI .i64 (a0.tabs.length:Int),none),(10,isI .i64 i2,none),(32,isB i4,none)],[boxO b1 tBase a0 []]⟩) (fun i4=>iX i2 (aF fu a0 n1) i4) (fun i4=>?_) (fun hj6=>?_)
   ·refine .cd z ?_ ?_
    ·exact fr
    ·exact fj (ih1 _)
   ·refine .g<|go ?_
    refine .call0 (pM fu _) pK z z fun q5=>go ?_
    refine .split 19 z (fun _=>?_) (fun _=>?_)
    ·exact fj (hj6 _)
    ·refine go ?_
     refine .call0 (jZ fu _ _) jW z z fun q6=>go ?_
     refine .split 27 z (fun _=>?_) (fun _=>?_)
     ·exact fj (hj6 _)
     ·refine go ?_
      exact .call0 (c19 fu _) n19 z z fun q7=>fj (hj6 _)
  ·refine .exit z<|.seq<|.s<|go ?_
   refine .block<|.loop<|.keep [1,35,36,37] [] z<|(show ∀ (n2:Nat) (i8:Int),W _ _ _ _ _ ⟨[(1,isP b1 0,none),(35,(tL tLink).va a0.links,none),(36,isI .i64 (a0.links.length:Int),none),(37,isI .i64 i8,none)],[boxO b1 tBase a0 []]⟩ (bj fu a0 (aF fu a0 n1) n2 i8) from ?_) fu _
   intro n2
   induction n2 with
   | zero=>exact fun _=>.stop
   | succ n2 ih2=>
    intro i8
    refine .inLoop<|.s<|go ?_
    refine .seq<|.cd z ?_ ?_
    ·refine .skip<|.seq<|.block<|.s<|go ?_
     refine .alloc tLink d0_1044 [] z1044 z fun b9=>go ?_
     refine .seq<|.join1 (fun i10=>⟨[(1,isP b1 0,none),(35,(tL tLink).va a0.links,none),(36,isI .i64 (a0.links.length:Int),none),(37,isI .i64 i8,none),(61,isB i10,none)],[boxO b1 tBase a0 []]⟩) (fun i10=>iW i8 (aF fu a0 n1) (bj fu a0 (aF fu a0 n1) n2) i10) (fun i10=>?_) (fun hj9=>?_)
     ·refine .cd z ?_ ?_
      ·exact fr
      ·exact fj (ih2 _)
     ·refine .g<|go ?_
      refine .call0 (Dc fu _ _) B5 z z fun q11=>go ?_
      refine .split 46 z (fun _=>?_) (fun _=>?_)
      ·exact fj (hj9 _)
      ·refine go ?_
       refine .call0 (AY fu _ _) z7 z z fun q12=>go ?_
       refine .split 52 z (fun _=>?_) (fun _=>?_)
       ·exact fj (hj9 _)
       ·refine go ?_
        exact .call0 (AX fu _ _ _) z6 z z fun q13=>fj (hj9 _)
    ·refine .exit z<|.seq<|.join1 (fun i14=>⟨[(2,isB i14,none)],[]⟩) (fun i14=>iY (aF fu a0 n1) (bj fu a0 (aF fu a0 n1) n2) i14) (fun i14=>?_) (fun hj10=>?_)
     ·exact fr
     ·refine .g<|go ?_
      refine .split 67 z (fun _=>?_) (fun _=>?_)
      ·exact fj (hj10 _)
      ·exact fj (hj10 _)
def yu (a0:List Tab):Option (List Tab):=cond (decide (List.length ([]:List Tab)+a0.length≤CAP)) (some (([]:List Tab)++a0)) none
theorem Ew:Nm prog 144:=nmK func144
attribute [local semireducible] W WO
theorem FT (a0:List Tab):aX prog 144 [(tL tTab).va a0] [] (yu a0) (fun v=>v) (fun q v=>[arrO tTab v q]) (fun _ v=>tRaw.va v):=by
 refine aX.of_W func144 z ntmps144 z fun A w=>?_
 unfold yu
 refine .s<|.a z z<|.arrNil tTab<|.nil<|.seq<|.s<|.m z z<|.eqNil z u26 z fun nb1 hnb1=>.nil<|.eqr (r':=cond nb1 (cond (decide (List.length ([]:List Tab)+a0.length≤CAP)) (some (([]:List Tab)++a0)) none) (cond (decide (List.length ([]:List Tab)+a0.length≤CAP)) (some (([]:List Tab)++a0)) none)) ?_<|.cond z (fun _=>?_) (fun _=>?_)
 ·cases nb1<;>rfl
 ·obtain rfl:=hnb1 (by assumption)
  refine .eqr (r':=some ([]:List Tab)) (by simp) ?_
  exact .s<|.an z z<|.toRaw 0 2 z z<|.retL1 (.slice none 0 0) func144 results144 (.tmp z) z (fun _ _ _ h=>h.1) (.d<|.e)
 ·exact .skip<|.s<|.lit (T:=tTab) u26 dh z z (.nil) z fun v2=>.toArr 0 5 z z z<|.m z z<|.appA (T:=tTab) 0 z z z u26 dh z fun v3=>.an z z<|.toRaw 0 2 z z<|.retL1 v3 func144 results144 (.tmp z) z (fun _ _ _ h=>h.1) (.d<|.c<|.e)
attribute [local irreducible] W WO
def yv (a0:List Tab):Option (List Tab):=some a0
theorem Ex:Nm prog 143:=nmK func143
theorem FU (vp0:Value)(a0:List Tab):aX prog 143 [isV vp0] [arrO tTab vp0 a0] (yv a0) (fun v=>v) (fun q v=>[arrO tTab v q]) (fun _ v=>tRaw.va v):=by
 refine .w func143 ntmps143 fun hf A w=>?_
 unfold yv
 exact .know 0 z<|.s<|.a z z<|.arrNil tTab<|.nil<|.s<|.m z z<|.m z z<|.lenA 1 z z u26 z<|.m z z<|.lenA 1 z z u26 z<|.clip (T:=tTab) 1 z z z z u26 dh z fun v1=>.an z z<|.toRaw 1 2 z z<|.retL1 v1 func143 results143 (.tmp z) z (fun _ _ _ h=>h.1) (.c<|.d<|.e)
def ti (a0:List Tab):Option (List Tab):=(yu a0).bind fun q1=>(yv q1).bind fun q3=>some q3
theorem Aa:Nm prog 72:=nmK func72
theorem A3 (a0:List Tab):aX prog 72 [(tL tTab).va a0] [] (ti a0) (fun v=>v) (fun q v=>[arrO tTab v q]) (fun _ v=>tRaw.va v):=by
 refine .w func72 ntmps72 fun hf A w=>?_
 unfold ti
 exact .s<|.a z z<|.arrNil tTab<|.nil<|.s<|.m z z<|.callL0 (FT _) Ew z z fun q1 v2=>.unRaw 4 z<|.callS 0 (FU _ _) z Ex z z fun q3 v4=>.unRaw 5 z<|.an z z<|.toRaw 0 2 z z<|.retL1 v4 func72 results72 (.tmp z) z (fun _ _ _ h=>h.1) (.d<|.c<|.e)
def yq (a0:List ai):Option (List ai):=cond (decide (List.length ([]:List ai)+a0.length≤CAP)) (some (([]:List ai)++a0)) none
theorem Es:Nm prog 146:=nmK func146
attribute [local semireducible] W WO
theorem FP (a0:List ai):aX prog 146 [(tL tLink).va a0] [] (yq a0) (fun v=>v) (fun q v=>[arrO tLink v q]) (fun _ v=>tRaw.va v):=by
 refine aX.of_W func146 z ntmps146 z fun A w=>?_
 unfold yq
 refine .s<|.a z z<|.arrNil tLink<|.nil<|.seq<|.s<|.m z z<|.eqNil z u27 z fun nb1 hnb1=>.nil<|.eqr (r':=cond nb1 (cond (decide (List.length ([]:List ai)+a0.length≤CAP)) (some (([]:List ai)++a0)) none) (cond (decide (List.length ([]:List ai)+a0.length≤CAP)) (some (([]:List ai)++a0)) none)) ?_<|.cond z (fun _=>?_) (fun _=>?_)
 ·cases nb1<;>rfl
 ·obtain rfl:=hnb1 (by assumption)
  refine .eqr (r':=some ([]:List ai)) (by simp) ?_
  exact .s<|.an z z<|.toRaw 0 2 z z<|.retL1 (.slice none 0 0) func146 results146 (.tmp z) z (fun _ _ _ h=>h.1) (.d<|.e)
 ·exact .skip<|.s<|.lit (T:=tLink) u27 gI z z (.nil) z fun v2=>.toArr 0 5 z z z<|.m z z<|.appA (T:=tLink) 0 z z z u27 gI z fun v3=>.an z z<|.toRaw 0 2 z z<|.retL1 v3 func146 results146 (.tmp z) z (fun _ _ _ h=>h.1) (.d<|.c<|.e)
attribute [local irreducible] W WO
def yr (a0:List ai):Option (List ai):=some a0
theorem Et:Nm prog 145:=nmK func145
theorem FQ (vp0:Value)(a0:List ai):aX prog 145 [isV vp0] [arrO tLink vp0 a0] (yr a0) (fun v=>v) (fun q v=>[arrO tLink v q]) (fun _ v=>tRaw.va v):=by
 refine .w func145 ntmps145 fun hf A w=>?_
 unfold yr
 exact .know 0 z<|.s<|.a z z<|.arrNil tLink<|.nil<|.s<|.m z z<|.m z z<|.lenA 1 z z u27 z<|.m z z<|.lenA 1 z z u27 z<|.clip (T:=tLink) 1 z z z z u27 gI z fun v1=>.an z z<|.toRaw 1 2 z z<|.retL1 v1 func145 results145 (.tmp z) z (fun _ _ _ h=>h.1) (.c<|.d<|.e)
def tf (a0:List ai):Option (List ai):=(yq a0).bind fun q1=>(yr q1).bind fun q3=>some q3
theorem xv:Nm prog 73:=nmK func73
theorem yU (a0:List ai):aX prog 73 [(tL tLink).va a0] [] (tf a0) (fun v=>v) (fun q v=>[arrO tLink v q]) (fun _ v=>tRaw.va v):=by
 refine .w func73 ntmps73 fun hf A w=>?_
 unfold tf
 exact .s<|.a z z<|.arrNil tLink<|.nil<|.s<|.m z z<|.callL0 (FP _) Es z z fun q1 v2=>.unRaw 4 z<|.callS 0 (FQ _ _) z Et z z fun q3 v4=>.unRaw 5 z<|.an z z<|.toRaw 0 2 z z<|.retL1 v4 func73 results73 (.tmp z) z (fun _ _ _ h=>h.1) (.d<|.c<|.e)
def gj (fu:Nat)(a0:ac)(i7:List ai):Nat→Int→(List Tab)→Option ac
 | 0,_,_=>none
 | n1+1,i8,i9=>cond (decide (i8 < (a0.tabs.length:Int))) (cond (decide (0≤i8)&&decide (i8 < (a0.tabs.length:Int))) ((f80 fu ((a0.tabs.getD i8.toNat default).table)).bind fun q11=>cond (decide (0≤i8)&&decide (i8 < (i9.length:Int))) ((gj fu a0 i7 n1) (IntKind.i64.wrap (i8+1)) (i9.set i8.toNat ({ (i9.getD i8.toNat default) with table:=q11 }:Tab))) none) none) (some (⟨i9,i7⟩:ac))
def oe (fu:Nat)(a0:ac)(i6:List Tab)(i7:List ai):Option ac:=gj fu a0 i7 fu 0 i6
def eD (fu:Nat)(a0:ac):Option ac:=(ti a0.tabs).bind fun q14=>(tf a0.links).bind fun q16=>oe fu a0 q14 q16
theorem gu:Nm prog 30:=nmK func30
theorem gx (fu:Nat)(a0:ac):aX prog 30 [tBase.va a0] [] (eD fu a0) wz (fun q p=>[arrO tTab p.1 q.tabs,arrO tLink p.2 q.links]) (fun q p=>tBaseA.va (⟨p.1,p.2⟩:aM)):=by
 refine .w func30 ntmps30 fun hf A w=>?_
 unfold eD
 refine .s<|.box (T:=tBase) z z fun b1=>.alloc tBaseA av [] aA z fun b2=>.nil<|.seq<|.join5 (fun b3 v4 v5 i6 i7=>⟨[(1,isP b1 0,none),(2,isP b2 0,none),(3,isP b3 0,none)],[boxO b2 tBaseA (⟨(.slice none 0 0),(.slice none 0 0)⟩:aM) [],boxO b1 tBase a0 [],arrO tTab v4 i6,arrO tLink v5 i7,boxO b3 tBaseA (⟨v4,v5⟩:aM) []]⟩) (fun b3 v4 v5 i6 i7=>oe fu a0 i6 i7) (fun b3 v4 v5 i6 i7=>?_) (fun hj1=>?_)
 ·refine .seq<|.s<|go ?_
  refine .block<|.loop<|.drop (.d<|.c<|.d<|.d<|.d<|.e)<|.keep [2,3,14,15,16] [] z<|(show ∀ (n1:Nat) (i8:Int) (i9:List Tab),W _ _ _ _ _ ⟨[(2,isP b2 0,none),(3,isP b3 0,none),(14,(tL tTab).va a0.tabs,none),(15,isI .i64 (a0.tabs.length:Int),none),(16,isI .i64 i8,none)],[boxO b2 tBaseA (⟨(.slice none 0 0),(.slice none 0 0)⟩:aM) [],arrO tTab v4 i9,arrO tLink v5 i7,boxO b3 tBaseA (⟨v4,v5⟩:aM) []]⟩ (gj fu a0 i7 n1 i8 i9) from ?_) fu _ _
  intro n1
  induction n1 with
  | zero=>exact fun _ _=>.stop
  | succ n1 ih1=>
   intro i8 i9
   refine .inLoop<|.s<|go ?_
   refine .seq<|.cd z ?_ ?_
   ·refine .skip<|.seq<|.block<|.s<|go ?_
    refine .alloc tTab d0_1039 [] z1039 z fun b10=>go ?_
    exact .pbind fun q11 h2=>.drawS 6 [] [5] [] mix (by kernel_rfl) sts z<|.cons (d:=26) z z fun _ _ hE h=>.bindE2 h2 (fun r h=>.callL0 (c80 fu _) n80 (hE.ops z) z h) fun p12=>.toEnd<|.toEnd<|h _ _ (.same<|.same<|.same<|.same<|.same<|.nil)<|.nil<|.elemA 2 z z z u26 be z<|.fieldA z aC z<|.frzT 26 5 conv27 z z<|fj (ih1 _ _)
   ·exact .exit z<|.s<|.lp 3 (Fld.self _) z z ap z<|.storeP 0 (Fld.self _) z z z ap<|.nil<|.retL1 (v4,v5) func30 results30 (.cell 0 z z ap) z (fun _ _ _ h=>ol h) (.c<|.d<|.d<|.c<|.e)
 ·refine .pbind fun q14 h3=>.pbind fun q16 h4=>.drawF 8 [] [2,5,6] (some 7) [] mix (by kernel_rfl) (.j (fun o=>.fp (o z) fa1026_0 z)<|.k (fun p e=>.lp 1 fBase_0 (e.op z) (p.get z z) ty1023 z)<|.skip<|.j (fun o=>.fp (o z) ci z)<|.k (fun p e=>.lp 1 gP (e.op z) (p.get z z) fy z)<|.skip<|.skip<|.skip<|.nil) z<|.next ?_ ?_
  ·refine .put 8 z z fun _ _ hE h=>.bindE2 h3 (fun r h=>.callL0 (A3 _) Aa (hE.ops z) z h) fun v15=>.toEnd<|h _ _ (.same<|.same<|.nil)<|.next ?_ ?_
   ·refine .put 11 z z fun _ _ hE h=>.bindE2 h4 (fun r h=>.callL0 (yU _) xv (hE.ops z) z h) fun v17=>.toEnd<|h _ _ (.same<|.same<|.nil)<|.next ?_ ?_
    ·exact .put 12 z z fun _ _ hE h=>.buildA z dK aA (.cons aD z (vOf (hE.op z))<|.cons bF z (vOf (hE.op z))<|.nil) z<|h _ _ (.same<|.same<|.nil)<|.last<|.put 3 z z fun _ _ hE h=>.alloc tBaseA av [] aA z fun b13=>.toEnd<|h _ _ (.same<|.same<|.nil)<|fj (hj1 _ _ _ _ _)
    ·exact .put 3 z z fun _ _ hE h=>.alloc tBaseA av [] aA z fun b13=>.toEnd<|h _ _ (.same<|.same<|.nil)<|.cons (d:=12) z z fun _ _ hE h=>.buildA z dK aA (.cons aD z (vOf (hE.op z))<|.cons bF z (vOf (hE.op z))<|.nil) z<|h _ _ (.same<|.same<|.nil)<|fj (hj1 _ _ _ _ _)
   ·exact .put 3 z z fun _ _ hE h=>.alloc tBaseA av [] aA z fun b13=>.toEnd<|h _ _ (.same<|.same<|.nil)<|.cons (d:=11) z z fun _ _ hE h=>.bindE2 h4 (fun r h=>.callL0 (yU _) xv (hE.ops z) z h) fun v17=>.toEnd<|h _ _ (.same<|.same<|.nil)<|.cons (d:=12) z z fun _ _ hE h=>.buildA z dK aA (.cons aD z (vOf (hE.op z))<|.cons bF z (vOf (hE.op z))<|.nil) z<|h _ _ (.same<|.same<|.nil)<|.nil<|.pick [0,0,0,1,0] z<|fj (hj1 _ _ _ _ _)
  ·exact .put 3 z z fun _ _ hE h=>.alloc tBaseA av [] aA z fun b13=>.toEnd<|h _ _ (.same<|.same<|.nil)<|.cons (d:=8) z z fun _ _ hE h=>.bindE2 h3 (fun r h=>.callL0 (A3 _) Aa (hE.ops z) z h) fun v15=>.toEnd<|h _ _ (.same<|.same<|.nil)<|.cons (d:=11) z z fun _ _ hE h=>.bindE2 h4 (fun r h=>.callL0 (yU _) xv (hE.ops z) z h) fun v17=>.toEnd<|h _ _ (.same<|.same<|.nil)<|.cons (d:=12) z z fun _ _ hE h=>.buildA z dK aA (.cons aD z (vOf (hE.op z))<|.cons bF z (vOf (hE.op z))<|.nil) z<|h _ _ (.same<|.same<|.nil)<|.nil<|.pick [0,0,1,1,0] z<|fj (hj1 _ _ _ _ _)
def wg (fu:Nat)(a0:List Col):Option ab:=(f67 fu a0).bind fun q2=>cond (!q2) (some (⟨d0_27.first,d0_27.changes,d0_27.rows,d0_27.next⟩:ab)) ((f91 a0).bind fun q3=>some (⟨q3,d0_27.changes,d0_27.rows,1⟩:ab))
theorem EY:Nm prog 102:=nmK func102
theorem Gn (fu:Nat)(a0:List Col):Ctr prog 102 [(tL tCol).va a0] [] (wg fu a0) (fun _ _=>[]) (fun q=>tTable.va q):=by
 refine .w func102 ntmps102 fun hf A w=>?_
 unfold wg
 refine .s<|.alloc tTable d0_27 [] z27 z fun b1=>.nil<|.seq<|.s<|.m z z<|.call0 (c67 fu _) n67 z z fun q2=>.not z z<|.nil<|.cd z ?_ ?_
 ·exact fr
 ·exact .skip<|.s<|.m z z<|.call0 (aX.plain (c91 _)) n91 z z fun q3=>fr
def jd (fu:Nat)(a0:ac)(a1:List UInt8)(a2:List Col)(q4:ac)(i7:Bool):Option (ac×Int):=cond i7 (some (q4,1)) (cond (decide ((a0.tabs.length:Int)=3)) (some (q4,4)) ((wg fu a2).bind fun q8=>cond (decide (q4.tabs.length+List.length ([(⟨a1,q8⟩:Tab)]:List Tab)≤CAP)) ((ti (q4.tabs++([(⟨a1,q8⟩:Tab)]:List Tab))).bind fun q10=>some ((⟨q10,q4.links⟩:ac),0)) none))
def wh (fu:Nat)(a0:ac)(a1:List UInt8)(a2:List Col):Option (ac×Int):=(jY fu a0).bind fun q3=>cond (!q3) (some ((⟨([]:List Tab),([]:List ai)⟩:ac),1)) ((eD fu a0).bind fun q4=>(mc fu a1).bind fun q12=>cond (!q12) (jd fu a0 a1 a2 q4 true) ((fc fu a0 a1).bind fun q13=>cond (decide (0≤q13)) (jd fu a0 a1 a2 q4 true) ((f67 fu a2).bind fun q14=>jd fu a0 a1 a2 q4 (!q14))))
theorem EZ:Nm prog 42:=nmK func42
theorem Gp (fu:Nat)(a0:ac)(a1:List UInt8)(a2:List Col):Ctr prog 42 [tBase.va a0,isS a1,(tL tCol).va a2] [] (wh fu a0 a1 a2) (fun _ _=>[]) (fun q=>tup [tBase.va q.1,isI .i64 q.2]):=by
 refine .w func42 ntmps42 fun hf A w=>?_
 unfold wh
 refine .s<|.box (T:=tBase) z z fun b1=>.alloc tBaseA av [] aA z fun b2=>.an z z<|.seq<|.s<|go ?_
 refine .call0 (px fu _) oQ z z fun q3=>.not z z<|.nil<|.cd z ?_ ?_
 ·exact .s<|.buildA z dK aA (.nil) z<|.storeP 0 (Fld.self _) z z z ap<|.arrNil tTab<|.arrNil tLink<|.an z z<|.frzBox 2 1 conv1026_0 z z<|.frzBox 2 0 conv1026_1 z z<|fr
 ·refine .skip<|.s<|go ?_
  refine .callL0 (gx fu _) gu z z fun q4 p5=>.alloc tBaseA av [] aA z fun b6=>go ?_
  refine .seq<|.block<|.seq<|.join1 (fun i7=>⟨[(1,isS a1,none),(2,(tL tCol).va a2,none),(3,isP b1 0,none),(6,isP b2 0,none),(8,isP b6 0,none),(15,isB i7,none)],[boxO b6 tBaseA (⟨p5.1,p5.2⟩:aM) [],arrO tTab p5.1 q4.tabs,arrO tLink p5.2 q4.links,boxO b2 tBaseA (⟨(.slice none 0 0),(.slice none 0 0)⟩:aM) [],boxO b1 tBase a0 []]⟩) (fun i7=>jd fu a0 a1 a2 q4 i7) (fun i7=>?_) (fun hj1=>?_)
  ·refine .cd z ?_ ?_
   ·refine .s<|go ?_
    exact .frzBox 3 1 conv1026_0 z z<|.frzBox 3 2 conv1026_1 z z<|fr
   ·refine .s<|go ?_
    refine .cd z ?_ ?_
    ·refine .s<|go ?_
     exact .frzBox 3 1 conv1026_0 z z<|.frzBox 3 2 conv1026_1 z z<|fr
    ·refine .skip<|.inBlock<|.seq<|.pb (Gn fu _) EY fun q8 h1 k=>.draw 7 [] mix (by kernel_rfl) sts z<|.appA (T:=tTab) 1 z z z u26 dh z fun v9=>.frz 1 44 z z<|.callL0 (A3 _) Aa z z fun q10 v11=>.unRaw 45 z<|.fp z fa1026_0 z<|.toRaw (T:=tTab) 0 45 z z<|go ?_
     refine .s<|go ?_
     exact .frzBox 4 0 conv1026_0 z z<|.frzBox 4 3 conv1026_1 z z<|fr
  ·refine .g<|.m z z<|.call0 (pM fu _) pK z z fun q12=>go ?_
   refine .split 19 z (fun _=>?_) (fun _=>?_)
   ·exact fj (hj1 _)
   ·refine go ?_
    refine .call0 (jZ fu _ _) jW z z fun q13=>go ?_
    refine .split 25 z (fun _=>?_) (fun _=>?_)
    ·exact fj (hj1 _)
    ·refine go ?_
     exact .call0 (c67 fu _) n67 z z fun q14=>fj (hj1 _)
end Go.Proofs.YtganfdhmkdehlaaGreatDoor
