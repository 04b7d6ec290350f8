/- What functions answer. -/
import Derived.Test.YtganfdhmkdehlaaGreatDoorQ2007B5
import Derived.KernelRfl
set_option linter.all false
namespace Go.Proofs.YtganfdhmkdehlaaGreatDoor
open Go Go.HL Tryz
attribute [local irreducible] W WO
def qT (fu:Nat)(a0:ac)(a1:aj):Option Bool:=(fb fu a0 a1.to).bind fun q4=>cond (decide (0≤q4)&&decide (q4 < (a0.tabs.length:Int))) ((md fu a0 a1 (fun x0 x1 s=>qH fu x0 x1 s ((a0.tabs.getD q4.toNat default).table)) true).bind fun q6=>some q6) none
theorem Ai:Nm prog 35:=nmK func35
theorem Bc (fu:Nat)(a0:ac)(a1:aj):Ctr prog 35 [tBase.va a0,tLink.va a1] [] (qT fu a0 a1) (fun _ _=>[]) (fun q=>isB q):=by
 refine .w func35 ntmps35 fun hf A w=>?_
 unfold qT
 refine .s<|.box (T:=tBase) z z fun b1=>.box (T:=tLink) z z fun b2=>.an z z<|.s<|.alloc tB Fp [] z4 z fun b3=>go ?_
 refine .seq<|.pb (jY fu _ _) jW fun q4 h1 k=>.pT fun h2=>.drawS 10 [] [9] [] mix (by kernel_rfl) sts z<|.cons (d:=6) z z fun _ _ hE h=>.alloc tTable d0_27 [] z27 z fun b5=>.toEnd<|h _ _ (.same<|.same<|.same<|.nil)<|go ?_
 exact .s<|.lp 2 (Fld.self _) z z ao z<|.lp 1 (Fld.self _) z z mm z<|.frzP 3 6 z z<|.makeF z z<|.call1 0 (Gg fu _ _ (fun x0 x1 s=>qH fu x0 x1 s ((a0.tabs.getD q4.toNat default).table)) (fun s=>boxO b3 tB s []) 83 [isP b3 0,c7 tTable ((a0.tabs.getD q4.toNat default).table)] EG (fun x0 x1 s=>F2 fu x0 x1 b3 s ((a0.tabs.getD q4.toNat default).table)) _) z xB z z fun q6=>fr
def kv (i2:Bool):Option Bool:=some i2
def pm (fu:Nat)(a0:aj)(a1:List UInt8)(a2:List UInt8):Option Bool:=cond (decide (a0.from_=a1)) (kv (decide (a0.col=a2))) (kv false)
theorem EF:Nm prog 85:=nmK func85
theorem F1 (fu:Nat)(a0:aj)(a1:List UInt8)(a2:List UInt8):Ctr prog 85 [tLink.va a0,c7 tS a1,c7 tS a2] [] (pm fu a0 a1 a2) (fun _ _=>[]) (fun q=>isB q):=by
 refine .w func85 ntmps85 fun hf A w=>?_
 unfold pm
 refine .s<|.box (T:=tLink) z z fun b1=>.an z z<|.seq<|.join1 (fun i2=>⟨[(4,isB i2,none)],[]⟩) (fun i2=>kv i2) (fun i2=>?_) (fun hj1=>?_)
 ·exact fr
 ·refine .g<|go ?_
  refine .split 9 z (fun _=>?_) (fun _=>?_)
  ·exact fj (hj1 _)
  ·exact fj (hj1 _)
def bS (a0:List aj)(a1:aj→Option Bool):Nat→Int→Option Int
 | 0,_=>none
 | n1+1,i1=>cond (decide (i1 < (a0.length:Int))) (cond (decide (0≤i1)&&decide (i1 < (a0.length:Int))) ((a1 (a0.getD i1.toNat default)).bind fun q2=>cond q2 (some i1) ((bS a0 a1 n1) (IntKind.i64.wrap (i1+1)))) none) (some (-1))
def tr (fu:Nat)(a0:List aj)(a1:aj→Option Bool):Option Int:=bS a0 a1 fu 0
theorem Cd:Nm prog 84:=nmK func84
theorem Dn (fu : Nat)(a0 : List aj)(a1 : aj → Option Bool)(g1 : Nat)(k1 : List VA)(hn1 : ∃ fn c, prog.funcs[g1]? = some fn ∧ (fn.name == "runtime.NumGoroutine") = false ∧ fn.body = some c)(hc1 : ∀ (x0 : aj), Ctr prog g1 ([tLink.va x0] ++ k1) [] (a1 x0) (fun _ _ => []) (fun q => isB q)) : Ctr prog 84 [(tL tLink).va a0, ce g1 k1] [] (tr fu a0 a1) (fun _ _ => []) (fun q => isI .i64 q) := by
 refine .w func84 ntmps84 fun hf A w=>?_
 unfold tr
 refine .s<|.an z z<|.seq<|.s<|go ?_
 refine .block<|.loop<|.keep [0,1,7,8] [] z<|(show ∀ (n1:Nat) (i1:Int),W _ _ _ _ _ ⟨[(0,(tL tLink).va a0,none),(1,ce g1 k1,none),(7,isI .i64 (a0.length:Int),none),(8,isI .i64 i1,none)],[]⟩ (bS a0 a1 n1 i1) from ?_) fu _
 intro n1
 induction n1 with
 | zero=>exact fun _=>.stop
 | succ n1 ih1=>
  intro i1
  refine .inLoop<|.s<|go ?_
  refine .seq<|.cd z ?_ ?_
  ·refine .skip<|.seq<|.block<|.s<|go ?_
   refine .s<|go ?_
   refine .callC z (hc1 _) hn1 z z fun q2=>.nil<|.cd z ?_ ?_
   ·exact fr
   ·exact fj (ih1 _)
  ·exact fr
def qS (fu:Nat)(a0:ac)(a1:List UInt8)(a2:List UInt8):Option Int:=(tr fu a0.links (fun x0=>pm fu x0 a1 a2)).bind fun q4=>some q4
theorem Ah:Nm prog 36:=nmK func36
theorem Bb (fu:Nat)(a0:ac)(a1:List UInt8)(a2:List UInt8):Ctr prog 36 [tBase.va a0,isS a1,isS a2] [] (qS fu a0 a1 a2) (fun _ _=>[]) (fun q=>isI .i64 q):=by
 refine .w func36 ntmps36 fun hf A w=>?_
 unfold qS
 exact .s<|.box (T:=tBase) z z fun b1=>.box (T:=tS) z z fun b2=>.box (T:=tS) z z fun b3=>.an z z<|.s<|.fp z ci z<|.lp 2 gL z z fx z<|.frzP 1 4 z z<|.frzP 0 5 z z<|.makeF z z<|.call0 (Dn fu _ (fun x0=>pm fu x0 a1 a2) 85 [c7 tS a1,c7 tS a2] EF (fun x0=>F1 fu x0 a1 a2)) Cd z z fun q4=>fr
def iS (i2:Int)(rec1:Int→Option Bool)(i4:Bool):Option Bool:=cond i4 (some false) (rec1 (IntKind.i64.wrap (i2+1)))
def iR (i8:Int)(rec1:Int→Option Bool)(rec2:Int→Option Bool)(i10:Bool):Option Bool:=cond i10 (some false) (rec2 (IntKind.i64.wrap (i8+1)))
def iT (rec1:Int→Option Bool)(rec2:Int→Option Bool)(i14:Bool):Option Bool:=some i14
def bk (fu:Nat)(a0:ac)(rec1:Int→Option Bool):Nat→Int→Option Bool
 | 0,_=>none
 | n2+1,i8=>cond (decide (i8 < (a0.links.length:Int))) (cond (decide (0≤i8)&&decide (i8 < (a0.links.length:Int))) ((tw fu a0 (a0.links.getD i8.toNat default)).bind fun q11=>cond (!q11) (iR i8 rec1 (bk fu a0 rec1 n2) true) ((qT fu a0 (a0.links.getD i8.toNat default)).bind fun q12=>cond (!q12) (iR i8 rec1 (bk fu a0 rec1 n2) true) ((qS fu a0 ((a0.links.getD i8.toNat default).from_) ((a0.links.getD i8.toNat default).col)).bind fun q13=>iR i8 rec1 (bk fu a0 rec1 n2) (!decide (q13=i8))))) none) (cond (decide ((a0.tabs.length:Int)≤3)) (iT rec1 (bk fu a0 rec1 n2) (decide ((a0.links.length:Int)≤4))) (iT rec1 (bk fu a0 rec1 n2) false))
def aF (fu:Nat)(a0:ac):Nat→Int→Option Bool
 | 0,_=>none
 | n1+1,i2=>cond (decide (i2 < (a0.tabs.length:Int))) (cond (decide (0≤i2)&&decide (i2 < (a0.tabs.length:Int))) ((mb fu ((a0.tabs.getD i2.toNat default).name)).bind fun q5=>cond (!q5) (iS i2 (aF fu a0 n1) true) ((fb fu a0 ((a0.tabs.getD i2.toNat default).name)).bind fun q6=>cond (!decide (q6=i2)) (iS i2 (aF fu a0 n1) true) ((f19 fu ((a0.tabs.getD i2.toNat default).table)).bind fun q7=>iS i2 (aF fu a0 n1) (!q7)))) none) (bk fu a0 (aF fu a0 n1) fu 0)
def lS (fu:Nat)(a0:ac):Option Bool:=aF fu a0 fu 0
theorem qj:Nm prog 13:=nmK func13
theorem rd (fu:Nat)(a0:ac):Ctr prog 13 [tBase.va a0] [] (lS fu a0) (fun _ _=>[]) (fun q=>isB q):=by
 refine .w func13 ntmps13 fun hf A w=>?_
 unfold lS
 refine .s<|.box (T:=tBase) z z fun b1=>.an z z<|.seq<|.s<|go ?_
 refine .block<|.loop<|.keep [1,8,9,10] [] z<|(show ∀ (n1:Nat) (i2:Int),W _ _ _ _ _ ⟨[(1,isP b1 0,none),(8,(tL tTab).va a0.tabs,none),(9,isI .i64 (a0.tabs.length:Int),none),(10,isI .i64 i2,none)],[boxO b1 tBase a0 []]⟩ (aF fu a0 n1 i2) from ?_) fu _
 intro n1
 induction n1 with
 | zero=>exact fun _=>.stop
 | succ n1 ih1=>
  intro i2
  refine .inLoop<|.s<|go ?_
  refine .seq<|.cd z ?_ ?_
  ·refine .skip<|.seq<|.block<|.s<|go ?_
   refine .alloc tTab d0_1039 [] z1039 z fun b3=>go ?_
   refine .seq<|.join1 (fun i4=>⟨[(1,isP b1 0,none),(8,(tL tTab).va a0.tabs,none),(9,isI .i64 (a0.tabs.length:Int),none),(10,isI .i64 i2,none),(32,isB i4,none)],[boxO b1 tBase a0 []]⟩) (fun i4=>iS i2 (aF fu a0 n1) i4) (fun i4=>?_) (fun hj6=>?_)
   ·refine .cd z ?_ ?_
    ·exact fr
    ·exact fj (ih1 _)
   ·refine .g<|go ?_
    refine .call0 (pQ fu _) pO z z fun q5=>go ?_
    refine .split 19 z (fun _=>?_) (fun _=>?_)
    ·exact fj (hj6 _)
    ·refine go ?_
     refine .call0 (jY fu _ _) jW z z fun q6=>go ?_
     refine .split 27 z (fun _=>?_) (fun _=>?_)
     ·exact fj (hj6 _)
     ·refine go ?_
      exact .call0 (c19 fu _) n19 z z fun q7=>fj (hj6 _)
  ·refine .exit z<|.seq<|.s<|go ?_
   refine .block<|.loop<|.keep [1,35,36,37] [] z<|(show ∀ (n2:Nat) (i8:Int),W _ _ _ _ _ ⟨[(1,isP b1 0,none),(35,(tL tLink).va a0.links,none),(36,isI .i64 (a0.links.length:Int),none),(37,isI .i64 i8,none)],[boxO b1 tBase a0 []]⟩ (bk fu a0 (aF fu a0 n1) n2 i8) from ?_) fu _
   intro n2
   induction n2 with
   | zero=>exact fun _=>.stop
   | succ n2 ih2=>
    intro i8
    refine .inLoop<|.s<|go ?_
    refine .seq<|.cd z ?_ ?_
    ·refine .skip<|.seq<|.block<|.s<|go ?_
     refine .alloc tLink d0_1044 [] z1044 z fun b9=>go ?_
     refine .seq<|.join1 (fun i10=>⟨[(1,isP b1 0,none),(35,(tL tLink).va a0.links,none),(36,isI .i64 (a0.links.length:Int),none),(37,isI .i64 i8,none),(61,isB i10,none)],[boxO b1 tBase a0 []]⟩) (fun i10=>iR i8 (aF fu a0 n1) (bk fu a0 (aF fu a0 n1) n2) i10) (fun i10=>?_) (fun hj9=>?_)
     ·refine .cd z ?_ ?_
      ·exact fr
      ·exact fj (ih2 _)
     ·refine .g<|go ?_
      refine .call0 (Dp fu _ _) Cf z z fun q11=>go ?_
      refine .split 46 z (fun _=>?_) (fun _=>?_)
      ·exact fj (hj9 _)
      ·refine go ?_
       refine .call0 (Bc fu _ _) Ai z z fun q12=>go ?_
       refine .split 52 z (fun _=>?_) (fun _=>?_)
       ·exact fj (hj9 _)
       ·refine go ?_
        exact .call0 (Bb fu _ _ _) Ah z z fun q13=>fj (hj9 _)
    ·refine .exit z<|.seq<|.join1 (fun i14=>⟨[(2,isB i14,none)],[]⟩) (fun i14=>iT (aF fu a0 n1) (bk fu a0 (aF fu a0 n1) n2) i14) (fun i14=>?_) (fun hj10=>?_)
     ·exact fr
     ·refine .g<|go ?_
      refine .split 67 z (fun _=>?_) (fun _=>?_)
      ·exact fj (hj10 _)
      ·exact fj (hj10 _)
def yz (a0:List Tab):Option (List Tab):=cond (decide (List.length ([]:List Tab)+a0.length≤CAP)) (some (([]:List Tab)++a0)) none
theorem EH:Nm prog 144:=nmK func144
attribute [local semireducible] W WO
theorem F3 (a0:List Tab):aY prog 144 [(tL tTab).va a0] [] (yz a0) (fun v=>v) (fun q v=>[arrO tTab v q]) (fun _ v=>tRaw.va v):=by
 refine aY.of_W func144 z ntmps144 z fun A w=>?_
 unfold yz
 refine .s<|.a z z<|.arrNil tTab<|.nil<|.seq<|.s<|.m z z<|.eqNil z u26 z fun nb1 hnb1=>.nil<|.eqr (r':=cond nb1 (cond (decide (List.length ([]:List Tab)+a0.length≤CAP)) (some (([]:List Tab)++a0)) none) (cond (decide (List.length ([]:List Tab)+a0.length≤CAP)) (some (([]:List Tab)++a0)) none)) ?_<|.cond z (fun _=>?_) (fun _=>?_)
 ·cases nb1<;>rfl
 ·obtain rfl:=hnb1 (by assumption)
  refine .eqr (r':=some ([]:List Tab)) (by simp) ?_
  exact .s<|.an z z<|.toRaw 0 2 z z<|.retL1 (.slice none 0 0) func144 results144 (.tmp z) z (fun _ _ _ h=>h.1) (.d<|.e)
 ·exact .skip<|.s<|.lit (T:=tTab) u26 dh z z (.nil) z fun v2=>.toArr 0 5 z z z<|.m z z<|.appA (T:=tTab) 0 z z z u26 dh z fun v3=>.an z z<|.toRaw 0 2 z z<|.retL1 v3 func144 results144 (.tmp z) z (fun _ _ _ h=>h.1) (.d<|.c<|.e)
attribute [local irreducible] W WO
def yA (a0:List Tab):Option (List Tab):=some a0
theorem EI:Nm prog 143:=nmK func143
theorem F4 (vp0:Value)(a0:List Tab):aY prog 143 [isV vp0] [arrO tTab vp0 a0] (yA a0) (fun v=>v) (fun q v=>[arrO tTab v q]) (fun _ v=>tRaw.va v):=by
 refine .w func143 ntmps143 fun hf A w=>?_
 unfold yA
 exact .know 0 z<|.s<|.a z z<|.arrNil tTab<|.nil<|.s<|.m z z<|.m z z<|.lenA 1 z z u26 z<|.m z z<|.lenA 1 z z u26 z<|.clip (T:=tTab) 1 z z z z u26 dh z fun v1=>.an z z<|.toRaw 1 2 z z<|.retL1 v1 func143 results143 (.tmp z) z (fun _ _ _ h=>h.1) (.c<|.d<|.e)
def tz (a0:List Tab):Option (List Tab):=(yz a0).bind fun q1=>(yA q1).bind fun q3=>some q3
theorem Ak:Nm prog 72:=nmK func72
theorem Be (a0:List Tab):aY prog 72 [(tL tTab).va a0] [] (tz a0) (fun v=>v) (fun q v=>[arrO tTab v q]) (fun _ v=>tRaw.va v):=by
 refine .w func72 ntmps72 fun hf A w=>?_
 unfold tz
 exact .s<|.a z z<|.arrNil tTab<|.nil<|.s<|.m z z<|.callL0 (F3 _) EH z z fun q1 v2=>.unRaw 4 z<|.callS 0 (F4 _ _) z EI z z fun q3 v4=>.unRaw 5 z<|.an z z<|.toRaw 0 2 z z<|.retL1 v4 func72 results72 (.tmp z) z (fun _ _ _ h=>h.1) (.d<|.c<|.e)
def yw (a0:List aj):Option (List aj):=cond (decide (List.length ([]:List aj)+a0.length≤CAP)) (some (([]:List aj)++a0)) none
theorem ED:Nm prog 146:=nmK func146
attribute [local semireducible] W WO
theorem FZ (a0:List aj):aY prog 146 [(tL tLink).va a0] [] (yw a0) (fun v=>v) (fun q v=>[arrO tLink v q]) (fun _ v=>tRaw.va v):=by
 refine aY.of_W func146 z ntmps146 z fun A w=>?_
 unfold yw
 refine .s<|.a z z<|.arrNil tLink<|.nil<|.seq<|.s<|.m z z<|.eqNil z u27 z fun nb1 hnb1=>.nil<|.eqr (r':=cond nb1 (cond (decide (List.length ([]:List aj)+a0.length≤CAP)) (some (([]:List aj)++a0)) none) (cond (decide (List.length ([]:List aj)+a0.length≤CAP)) (some (([]:List aj)++a0)) none)) ?_<|.cond z (fun _=>?_) (fun _=>?_)
 ·cases nb1<;>rfl
 ·obtain rfl:=hnb1 (by assumption)
  refine .eqr (r':=some ([]:List aj)) (by simp) ?_
  exact .s<|.an z z<|.toRaw 0 2 z z<|.retL1 (.slice none 0 0) func146 results146 (.tmp z) z (fun _ _ _ h=>h.1) (.d<|.e)
 ·exact .skip<|.s<|.lit (T:=tLink) u27 gG z z (.nil) z fun v2=>.toArr 0 5 z z z<|.m z z<|.appA (T:=tLink) 0 z z z u27 gG z fun v3=>.an z z<|.toRaw 0 2 z z<|.retL1 v3 func146 results146 (.tmp z) z (fun _ _ _ h=>h.1) (.d<|.c<|.e)
attribute [local irreducible] W WO
def yx (a0:List aj):Option (List aj):=some a0
theorem EE:Nm prog 145:=nmK func145
theorem F0 (vp0:Value)(a0:List aj):aY prog 145 [isV vp0] [arrO tLink vp0 a0] (yx a0) (fun v=>v) (fun q v=>[arrO tLink v q]) (fun _ v=>tRaw.va v):=by
 refine .w func145 ntmps145 fun hf A w=>?_
 unfold yx
 exact .know 0 z<|.s<|.a z z<|.arrNil tLink<|.nil<|.s<|.m z z<|.m z z<|.lenA 1 z z u27 z<|.m z z<|.lenA 1 z z u27 z<|.clip (T:=tLink) 1 z z z z u27 gG z fun v1=>.an z z<|.toRaw 1 2 z z<|.retL1 v1 func145 results145 (.tmp z) z (fun _ _ _ h=>h.1) (.c<|.d<|.e)
def tv (a0:List aj):Option (List aj):=(yw a0).bind fun q1=>(yx q1).bind fun q3=>some q3
theorem xC:Nm prog 73:=nmK func73
theorem y3 (a0:List aj):aY prog 73 [(tL tLink).va a0] [] (tv a0) (fun v=>v) (fun q v=>[arrO tLink v q]) (fun _ v=>tRaw.va v):=by
 refine .w func73 ntmps73 fun hf A w=>?_
 unfold tv
 exact .s<|.a z z<|.arrNil tLink<|.nil<|.s<|.m z z<|.callL0 (FZ _) ED z z fun q1 v2=>.unRaw 4 z<|.callS 0 (F0 _ _) z EE z z fun q3 v4=>.unRaw 5 z<|.an z z<|.toRaw 0 2 z z<|.retL1 v4 func73 results73 (.tmp z) z (fun _ _ _ h=>h.1) (.d<|.c<|.e)
def gi (fu:Nat)(a0:ac)(i7:List aj):Nat→Int→(List Tab)→Option ac
 | 0,_,_=>none
 | n1+1,i8,i9=>cond (decide (i8 < (a0.tabs.length:Int))) (cond (decide (0≤i8)&&decide (i8 < (a0.tabs.length:Int))) ((f80 fu ((a0.tabs.getD i8.toNat default).table)).bind fun q11=>cond (decide (0≤i8)&&decide (i8 < (i9.length:Int))) ((gi fu a0 i7 n1) (IntKind.i64.wrap (i8+1)) (i9.set i8.toNat ({ (i9.getD i8.toNat default) with table:=q11 }:Tab))) none) none) (some (⟨i9,i7⟩:ac))
def oe (fu:Nat)(a0:ac)(i6:List Tab)(i7:List aj):Option ac:=gi fu a0 i7 fu 0 i6
def eE (fu:Nat)(a0:ac):Option ac:=(tz a0.tabs).bind fun q14=>(tv a0.links).bind fun q16=>oe fu a0 q14 q16
theorem gr:Nm prog 30:=nmK func30
theorem gv (fu:Nat)(a0:ac):aY prog 30 [tBase.va a0] [] (eE fu a0) wD (fun q p=>[arrO tTab p.1 q.tabs,arrO tLink p.2 q.links]) (fun q p=>tBaseA.va (⟨p.1,p.2⟩:aL)):=by
 refine .w func30 ntmps30 fun hf A w=>?_
 unfold eE
 refine .s<|.box (T:=tBase) z z fun b1=>.alloc tBaseA av [] aA z fun b2=>.nil<|.seq<|.join5 (fun b3 v4 v5 i6 i7=>⟨[(1,isP b1 0,none),(2,isP b2 0,none),(3,isP b3 0,none)],[boxO b2 tBaseA (⟨(.slice none 0 0),(.slice none 0 0)⟩:aL) [],boxO b1 tBase a0 [],arrO tTab v4 i6,arrO tLink v5 i7,boxO b3 tBaseA (⟨v4,v5⟩:aL) []]⟩) (fun b3 v4 v5 i6 i7=>oe fu a0 i6 i7) (fun b3 v4 v5 i6 i7=>?_) (fun hj1=>?_)
 ·refine .seq<|.s<|go ?_
  refine .block<|.loop<|.drop (.d<|.c<|.d<|.d<|.d<|.e)<|.keep [2,3,14,15,16] [] z<|(show ∀ (n1:Nat) (i8:Int) (i9:List Tab),W _ _ _ _ _ ⟨[(2,isP b2 0,none),(3,isP b3 0,none),(14,(tL tTab).va a0.tabs,none),(15,isI .i64 (a0.tabs.length:Int),none),(16,isI .i64 i8,none)],[boxO b2 tBaseA (⟨(.slice none 0 0),(.slice none 0 0)⟩:aL) [],arrO tTab v4 i9,arrO tLink v5 i7,boxO b3 tBaseA (⟨v4,v5⟩:aL) []]⟩ (gi fu a0 i7 n1 i8 i9) from ?_) fu _ _
  intro n1
  induction n1 with
  | zero=>exact fun _ _=>.stop
  | succ n1 ih1=>
   intro i8 i9
   refine .inLoop<|.s<|go ?_
   refine .seq<|.cd z ?_ ?_
   ·refine .skip<|.seq<|.block<|.s<|go ?_
    refine .alloc tTab d0_1039 [] z1039 z fun b10=>go ?_
    exact .pbind fun q11 h2=>.drawS 6 [] [5] [] mix (by kernel_rfl) sts z<|.cons (d:=26) z z fun _ _ hE h=>.bindE2 h2 (fun r h=>.callL0 (c80 fu _) n80 (hE.ops z) z h) fun p12=>.toEnd<|.toEnd<|h _ _ (.same<|.same<|.same<|.same<|.same<|.nil)<|.nil<|.elemA 2 z z z u26 bf z<|.fieldA z aC z<|.frzT 26 5 conv27 z z<|fj (ih1 _ _)
   ·exact .exit z<|.s<|.lp 3 (Fld.self _) z z ao z<|.storeP 0 (Fld.self _) z z z ao<|.nil<|.retL1 (v4,v5) func30 results30 (.cell 0 z z ao) z (fun _ _ _ h=>om h) (.c<|.d<|.d<|.c<|.e)
 ·refine .pbind fun q14 h3=>.pbind fun q16 h4=>.drawF 8 [] [2,5,6] (some 7) [] mix (by kernel_rfl) (.j (fun o=>.fp (o z) fa1026_0 z)<|.k (fun p e=>.lp 1 fBase_0 (e.op z) (p.get z z) ty1023 z)<|.skip<|.j (fun o=>.fp (o z) ci z)<|.k (fun p e=>.lp 1 gL (e.op z) (p.get z z) fx z)<|.skip<|.skip<|.skip<|.nil) z<|.next ?_ ?_
  ·refine .put 8 z z fun _ _ hE h=>.bindE2 h3 (fun r h=>.callL0 (Be _) Ak (hE.ops z) z h) fun v15=>.toEnd<|h _ _ (.same<|.same<|.nil)<|.next ?_ ?_
   ·refine .put 11 z z fun _ _ hE h=>.bindE2 h4 (fun r h=>.callL0 (y3 _) xC (hE.ops z) z h) fun v17=>.toEnd<|h _ _ (.same<|.same<|.nil)<|.next ?_ ?_
    ·exact .put 12 z z fun _ _ hE h=>.buildA z dL aA (.cons aD z (vOf (hE.op z))<|.cons bF z (vOf (hE.op z))<|.nil) z<|h _ _ (.same<|.same<|.nil)<|.last<|.put 3 z z fun _ _ hE h=>.alloc tBaseA av [] aA z fun b13=>.toEnd<|h _ _ (.same<|.same<|.nil)<|fj (hj1 _ _ _ _ _)
    ·exact .put 3 z z fun _ _ hE h=>.alloc tBaseA av [] aA z fun b13=>.toEnd<|h _ _ (.same<|.same<|.nil)<|.cons (d:=12) z z fun _ _ hE h=>.buildA z dL aA (.cons aD z (vOf (hE.op z))<|.cons bF z (vOf (hE.op z))<|.nil) z<|h _ _ (.same<|.same<|.nil)<|fj (hj1 _ _ _ _ _)
   ·exact .put 3 z z fun _ _ hE h=>.alloc tBaseA av [] aA z fun b13=>.toEnd<|h _ _ (.same<|.same<|.nil)<|.cons (d:=11) z z fun _ _ hE h=>.bindE2 h4 (fun r h=>.callL0 (y3 _) xC (hE.ops z) z h) fun v17=>.toEnd<|h _ _ (.same<|.same<|.nil)<|.cons (d:=12) z z fun _ _ hE h=>.buildA z dL aA (.cons aD z (vOf (hE.op z))<|.cons bF z (vOf (hE.op z))<|.nil) z<|h _ _ (.same<|.same<|.nil)<|.nil<|.pick [0,0,0,1,0] z<|fj (hj1 _ _ _ _ _)
  ·exact .put 3 z z fun _ _ hE h=>.alloc tBaseA av [] aA z fun b13=>.toEnd<|h _ _ (.same<|.same<|.nil)<|.cons (d:=8) z z fun _ _ hE h=>.bindE2 h3 (fun r h=>.callL0 (Be _) Ak (hE.ops z) z h) fun v15=>.toEnd<|h _ _ (.same<|.same<|.nil)<|.cons (d:=11) z z fun _ _ hE h=>.bindE2 h4 (fun r h=>.callL0 (y3 _) xC (hE.ops z) z h) fun v17=>.toEnd<|h _ _ (.same<|.same<|.nil)<|.cons (d:=12) z z fun _ _ hE h=>.buildA z dL aA (.cons aD z (vOf (hE.op z))<|.cons bF z (vOf (hE.op z))<|.nil) z<|h _ _ (.same<|.same<|.nil)<|.nil<|.pick [0,0,1,1,0] z<|fj (hj1 _ _ _ _ _)
def wm (fu:Nat)(a0:List Col):Option ab:=(f67 fu a0).bind fun q2=>cond (!q2) (some (⟨d0_27.first,d0_27.changes,d0_27.rows,d0_27.next⟩:ab)) ((f91 a0).bind fun q3=>some (⟨q3,d0_27.changes,d0_27.rows,1⟩:ab))
theorem Fb:Nm prog 102:=nmK func102
theorem GA (fu:Nat)(a0:List Col):Ctr prog 102 [(tL tCol).va a0] [] (wm fu a0) (fun _ _=>[]) (fun q=>tTable.va q):=by
 refine .w func102 ntmps102 fun hf A w=>?_
 unfold wm
 refine .s<|.alloc tTable d0_27 [] z27 z fun b1=>.nil<|.seq<|.s<|.m z z<|.call0 (c67 fu _) n67 z z fun q2=>.not z z<|.nil<|.cd z ?_ ?_
 ·exact fr
 ·exact .skip<|.s<|.m z z<|.call0 (aY.plain (c91 _)) n91 z z fun q3=>fr
def iX (fu:Nat)(a0:ac)(a1:List UInt8)(a2:List Col)(q4:ac)(i7:Bool):Option (ac×Int):=cond i7 (some (q4,1)) (cond (decide ((a0.tabs.length:Int)=3)) (some (q4,4)) ((wm fu a2).bind fun q8=>cond (decide (q4.tabs.length+List.length ([(⟨a1,q8⟩:Tab)]:List Tab)≤CAP)) ((tz (q4.tabs++([(⟨a1,q8⟩:Tab)]:List Tab))).bind fun q10=>some ((⟨q10,q4.links⟩:ac),0)) none))
def wn (fu:Nat)(a0:ac)(a1:List UInt8)(a2:List Col):Option (ac×Int):=(lS fu a0).bind fun q3=>cond (!q3) (some ((⟨([]:List Tab),([]:List aj)⟩:ac),1)) ((eE fu a0).bind fun q4=>(mb fu a1).bind fun q12=>cond (!q12) (iX fu a0 a1 a2 q4 true) ((fb fu a0 a1).bind fun q13=>cond (decide (0≤q13)) (iX fu a0 a1 a2 q4 true) ((f67 fu a2).bind fun q14=>iX fu a0 a1 a2 q4 (!q14))))
theorem Fd:Nm prog 42:=nmK func42
theorem GC (fu:Nat)(a0:ac)(a1:List UInt8)(a2:List Col):Ctr prog 42 [tBase.va a0,isS a1,(tL tCol).va a2] [] (wn fu a0 a1 a2) (fun _ _=>[]) (fun q=>tup [tBase.va q.1,isI .i64 q.2]):=by
 refine .w func42 ntmps42 fun hf A w=>?_
 unfold wn
 refine .s<|.box (T:=tBase) z z fun b1=>.alloc tBaseA av [] aA z fun b2=>.an z z<|.seq<|.s<|go ?_
 refine .call0 (rd fu _) qj z z fun q3=>.not z z<|.nil<|.cd z ?_ ?_
 ·exact .s<|.buildA z dL aA (.nil) z<|.storeP 0 (Fld.self _) z z z ao<|.arrNil tTab<|.arrNil tLink<|.an z z<|.frzBox 2 1 conv1026_0 z z<|.frzBox 2 0 conv1026_1 z z<|fr
 ·refine .skip<|.s<|go ?_
  refine .callL0 (gv fu _) gr z z fun q4 p5=>.alloc tBaseA av [] aA z fun b6=>go ?_
  refine .seq<|.block<|.seq<|.join1 (fun i7=>⟨[(1,isS a1,none),(2,(tL tCol).va a2,none),(3,isP b1 0,none),(6,isP b2 0,none),(8,isP b6 0,none),(15,isB i7,none)],[boxO b6 tBaseA (⟨p5.1,p5.2⟩:aL) [],arrO tTab p5.1 q4.tabs,arrO tLink p5.2 q4.links,boxO b2 tBaseA (⟨(.slice none 0 0),(.slice none 0 0)⟩:aL) [],boxO b1 tBase a0 []]⟩) (fun i7=>iX fu a0 a1 a2 q4 i7) (fun i7=>?_) (fun hj1=>?_)
  ·refine .cd z ?_ ?_
   ·refine .s<|go ?_
    exact .frzBox 3 1 conv1026_0 z z<|.frzBox 3 2 conv1026_1 z z<|fr
   ·refine .s<|go ?_
    refine .cd z ?_ ?_
    ·refine .s<|go ?_
     exact .frzBox 3 1 conv1026_0 z z<|.frzBox 3 2 conv1026_1 z z<|fr
    ·refine .skip<|.inBlock<|.seq<|.pb (GA fu _) Fb fun q8 h1 k=>.draw 7 [] mix (by kernel_rfl) sts z<|.appA (T:=tTab) 1 z z z u26 dh z fun v9=>.frz 1 44 z z<|.callL0 (Be _) Ak z z fun q10 v11=>.unRaw 45 z<|.fp z fa1026_0 z<|.toRaw (T:=tTab) 0 45 z z<|go ?_
     refine .s<|go ?_
     exact .frzBox 4 0 conv1026_0 z z<|.frzBox 4 3 conv1026_1 z z<|fr
  ·refine .g<|.m z z<|.call0 (pQ fu _) pO z z fun q12=>go ?_
   refine .split 19 z (fun _=>?_) (fun _=>?_)
   ·exact fj (hj1 _)
   ·refine go ?_
    refine .call0 (jY fu _ _) jW z z fun q13=>go ?_
    refine .split 25 z (fun _=>?_) (fun _=>?_)
    ·exact fj (hj1 _)
    ·refine go ?_
     exact .call0 (c67 fu _) n67 z z fun q14=>fj (hj1 _)
def kH (a0:List aj)(a1:List aj):Nat→Int→Option Bool
 | 0,_=>none
 | n1+1,i1=>cond (decide (i1 < (a0.length:Int))) (cond (decide (0≤i1)&&decide (i1 < (a0.length:Int))) (cond (decide (0≤i1)&&decide (i1 < (a1.length:Int))) (cond (!decide ((a0.getD i1.toNat default)=(a1.getD i1.toNat default))) (some false) ((kH a0 a1 n1) (IntKind.i64.wrap (i1+1)))) none) none) (some true)
def yL (fu:Nat)(a0:List aj)(a1:List aj):Option Bool:=cond (!decide ((a0.length:Int)=(a1.length:Int))) (some false) (kH a0 a1 fu 0)
theorem EZ:Nm prog 55:=nmK func55
theorem Gn (fu:Nat)(a0:List aj)(a1:List aj):Ctr prog 55 [(tL tLink).va a0,(tL tLink).va a1] [] (yL fu a0 a1) (fun _ _=>[]) (fun q=>isB q):=by
 refine .w func55 ntmps55 fun hf A w=>?_
 unfold yL
 refine .s<|.an z z<|.seq<|.s<|go ?_
 refine .cd z ?_ ?_
 ·exact fr
 ·refine .skip<|.seq<|.s<|go ?_
  refine .block<|.loop<|.keep [0,1,12,13] [] z<|(show ∀ (n1:Nat) (i1:Int),W _ _ _ _ _ ⟨[(0,(tL tLink).va a0,none),(1,(tL tLink).va a1,none),(12,isI .i64 (a0.length:Int),none),(13,isI .i64 i1,none)],[]⟩ (kH a0 a1 n1 i1) from ?_) fu _
  intro n1
  induction n1 with
  | zero=>exact fun _=>.stop
  | succ n1 ih1=>
   intro i1
   refine .inLoop<|.s<|go ?_
   refine .seq<|.cd z ?_ ?_
   ·refine .skip<|.seq<|.block<|.s<|go ?_
    refine .seq<|.pT fun h3=>.pT fun h4=>.draw 8 [] mix (by kernel_rfl) sts z<|.neT wq z z z<|.nil<|.cd z ?_ ?_
    ·exact fr
    ·exact fj (ih1 _)
   ·exact fr
def dn (a0:List Tab)(a1:List Tab)(a2:Tab→Tab→Option Bool):Nat→Int→Option Bool
 | 0,_=>none
 | n1+1,i1=>cond (decide (i1 < (a0.length:Int))) (cond (decide (0≤i1)&&decide (i1 < (a0.length:Int))) (cond (decide (0≤i1)&&decide (i1 < (a1.length:Int))) ((a2 (a0.getD i1.toNat default) (a1.getD i1.toNat default)).bind fun q4=>cond (!q4) (some false) ((dn a0 a1 a2 n1) (IntKind.i64.wrap (i1+1)))) none) none) (some true)
def vX (fu:Nat)(a0:List Tab)(a1:List Tab)(a2:Tab→Tab→Option Bool):Option Bool:=cond (!decide ((a0.length:Int)=(a1.length:Int))) (some false) (dn a0 a1 a2 fu 0)
theorem EY:Nm prog 56:=nmK func56
theorem Gm (fu : Nat)(a0 : List Tab)(a1 : List Tab)(a2 : Tab → Tab → Option Bool)(g2 : Nat)(k2 : List VA)(hn2 : ∃ fn c, prog.funcs[g2]? = some fn ∧ (fn.name == "runtime.NumGoroutine") = false ∧ fn.body = some c)(hc2 : ∀ (x0 : Tab) (x1 : Tab), Ctr prog g2 ([tTab.va x0, tTab.va x1] ++ k2) [] (a2 x0 x1) (fun _ _ => []) (fun q => isB q)) : Ctr prog 56 [(tL tTab).va a0, (tL tTab).va a1, ce g2 k2] [] (vX fu a0 a1 a2) (fun _ _ => []) (fun q => isB q) := by
 refine .w func56 ntmps56 fun hf A w=>?_
 unfold vX
 refine .s<|.an z z<|.seq<|.s<|go ?_
 refine .cd z ?_ ?_
 ·exact fr
 ·refine .skip<|.seq<|.s<|go ?_
  refine .block<|.loop<|.keep [1,2,15,16,17] [] z<|(show ∀ (n1:Nat) (i1:Int),W _ _ _ _ _ ⟨[(1,(tL tTab).va a1,none),(2,ce g2 k2,none),(15,(tL tTab).va a0,none),(16,isI .i64 (a0.length:Int),none),(17,isI .i64 i1,none)],[]⟩ (dn a0 a1 a2 n1 i1) from ?_) fu _
  intro n1
  induction n1 with
  | zero=>exact fun _=>.stop
  | succ n1 ih1=>
   intro i1
   refine .inLoop<|.s<|go ?_
   refine .seq<|.cd z ?_ ?_
   ·refine .skip<|.seq<|.block<|.s<|go ?_
    refine .alloc tTab d0_1039 [] z1039 z fun b2=>go ?_
    refine .s<|go ?_
    refine .alloc tTab d0_1039 [] z1039 z fun b3=>go ?_
    refine .s<|go ?_
    refine .callC z (hc2 _ _) hn2 z z fun q4=>.not z z<|.nil<|.cd z ?_ ?_
    ·exact fr
    ·exact fj (ih1 _)
   ·exact fr
def kG (i3:Bool):Option Bool:=some i3
def me (fu:Nat)(a0:Tab)(a1:Tab):Option Bool:=cond (decide (a0.name=a1.name)) ((f15 fu a0.table a1.table).bind fun q4=>kG q4) (kG false)
theorem EX:Nm prog 57:=nmK func57
theorem Gl (fu:Nat)(a0:Tab)(a1:Tab):Ctr prog 57 [tTab.va a0,tTab.va a1] [] (me fu a0 a1) (fun _ _=>[]) (fun q=>isB q):=by
 refine .w func57 ntmps57 fun hf A w=>?_
 unfold me
 refine .s<|.box (T:=tTab) z z fun b1=>.box (T:=tTab) z z fun b2=>.an z z<|.seq<|.join1 (fun i3=>⟨[(4,isB i3,none)],[]⟩) (fun i3=>kG i3) (fun i3=>?_) (fun hj1=>?_)
 ·exact fr
 ·refine .g<|go ?_
  refine .split 10 z (fun _=>?_) (fun _=>?_)
  ·refine go ?_
   exact .call0 (c15 fu _ _) n15 z z fun q4=>fj (hj1 _)
  ·exact fj (hj1 _)
def kR (i3:Bool):Option Bool:=some i3
def tC (fu:Nat)(a0:ac)(a1:ac):Option Bool:=(yL fu a0.links a1.links).bind fun q4=>cond q4 ((vX fu a0.tabs a1.tabs (fun x0 x1=>me fu x0 x1)).bind fun q5=>kR q5) (kR false)
theorem Fc:Nm prog 18:=nmK func18
theorem GB (fu:Nat)(a0:ac)(a1:ac):Ctr prog 18 [tBase.va a0,tBase.va a1] [] (tC fu a0 a1) (fun _ _=>[]) (fun q=>isB q):=by
 refine .w func18 ntmps18 fun hf A w=>?_
 unfold tC
 refine .s<|.box (T:=tBase) z z fun b1=>.box (T:=tBase) z z fun b2=>.an z z<|.seq<|.join1 (fun i3=>⟨[(4,isB i3,none)],[]⟩) (fun i3=>kR i3) (fun i3=>?_) (fun hj1=>?_)
 ·exact fr
 ·refine .g<|go ?_
  refine .call0 (Gn fu _ _) EZ z z fun q4=>.m z z<|.split 10 z (fun _=>?_) (fun _=>?_)
  ·refine go ?_
   exact .call0 (Gm fu _ _ (fun x0 x1=>me fu x0 x1) 57 [] EX (fun x0 x1=>Gl fu x0 x1)) EY z z fun q5=>fj (hj1 _)
  ·exact fj (hj1 _)
end Go.Proofs.YtganfdhmkdehlaaGreatDoor
