/- Functions of the program: what each answers, and that the machine answers so. -/
import Derived.Test.YtganfdhmkdehlaaGreatDoorQ2004B5
import Derived.KernelRfl
set_option linter.all false
namespace Go.Proofs.YtganfdhmkdehlaaGreatDoor
open Go Go.HL Tryz
attribute [local irreducible] W WO
def qh (fu:Nat)(a0:ac)(a1:aj):Option Bool:=(eY fu a0 a1.to).bind fun q4=>cond (decide (0≤q4)&&decide (q4 < (a0.tabs.length:Int))) ((lW fu a0 a1 (fun x0 x1 s=>p3 fu x0 x1 s ((a0.tabs.getD q4.toNat default).table)) true).bind fun q6=>some q6) none
theorem n1073:Nm prog 35:=⟨_,_,func35,by kernel_rfl,z⟩
theorem c1073 (fu:Nat)(a0:ac)(a1:aj):Ctr prog 35 [tBase.va a0,tLink.va a1] [] (qh fu a0 a1) (fun _ _=>[]) (fun q=>isB q):=by
 refine .w func35 ntmps35 fun hf A w=>?_
 unfold qh
 refine .s<|.box (T:=tBase) z z fun b1=>.box (T:=tLink) z z fun b2=>.an z z<|.s<|.alloc tB CB [] z4 z fun b3=>go ?_
 refine .seq<|.pb (c1056 fu _ _) n1056 fun q4 h1 k=>.pT fun h2=>.drawS 10 [] [9] [] mix (by kernel_rfl) sts z<|.cons (d:=6) z z fun _ _ hE h=>.alloc tTable d0_27 [] z27 z fun b5=>.toEnd<|h _ _ (.same<|.same<|.same<|.nil)<|go ?_
 exact .s<|.lp 2 (Fld.self _) z z al z<|.lp 1 (Fld.self _) z z l7 z<|.frzP 3 6 z z<|.makeF z z<|.call1 0 (c1086 fu _ _ (fun x0 x1 s=>p3 fu x0 x1 s ((a0.tabs.getD q4.toNat default).table)) (fun s=>boxO b3 tB s []) 83 [isP b3 0,cY tTable ((a0.tabs.getD q4.toNat default).table)] n1136 (fun x0 x1 s=>c1136 fu x0 x1 b3 s ((a0.tabs.getD q4.toNat default).table)) _) z n1086 z z fun q6=>fr
def ka (i2:Bool):Option Bool:=some i2
def oV (fu:Nat)(a0:aj)(a1:List UInt8)(a2:List UInt8):Option Bool:=cond (decide (a0.from_=a1)) (ka (decide (a0.col=a2))) (ka false)
theorem n1138:Nm prog 85:=⟨_,_,func85,by kernel_rfl,z⟩
theorem c1138 (fu:Nat)(a0:aj)(a1:List UInt8)(a2:List UInt8):Ctr prog 85 [tLink.va a0,cY tS a1,cY tS a2] [] (oV fu a0 a1 a2) (fun _ _=>[]) (fun q=>isB q):=by
 refine .w func85 ntmps85 fun hf A w=>?_
 unfold oV
 refine .s<|.box (T:=tLink) z z fun b1=>.an z z<|.seq<|.join1 (fun i2=>⟨[(4,isB i2,none)],[]⟩) (fun i2=>ka i2) (fun i2=>?_) (fun hj1=>?_)
 ·exact fr
 ·refine .g<|go ?_
  refine .split 9 z (fun _=>?_) (fun _=>?_)
  ·exact fj (hj1 _)
  ·exact fj (hj1 _)
def bR (a0:List aj)(a1:aj→Option Bool):Nat→Int→Option Int
 | 0,_=>none
 | n1+1,i1=>cond (decide (i1 < (a0.length:Int))) (cond (decide (0≤i1)&&decide (i1 < (a0.length:Int))) ((a1 (a0.getD i1.toNat default)).bind fun q2=>cond q2 (some i1) ((bR a0 a1 n1) (IntKind.i64.wrap (i1+1)))) none) (some (-1))
def sO (fu:Nat)(a0:List aj)(a1:aj→Option Bool):Option Int:=bR a0 a1 fu 0
theorem n1137:Nm prog 84:=⟨_,_,func84,by kernel_rfl,z⟩
theorem c1137 (fu : Nat)(a0 : List aj)(a1 : aj → Option Bool)(g1 : Nat)(k1 : List VA)(hn1 : ∃ fn c, prog.funcs[g1]? = some fn ∧ (fn.name == "runtime.NumGoroutine") = false ∧ fn.body = some c)(hc1 : ∀ (x0 : aj), Ctr prog g1 ([tLink.va x0] ++ k1) [] (a1 x0) (fun _ _ => []) (fun q => isB q)) : Ctr prog 84 [(tL tLink).va a0, ca g1 k1] [] (sO fu a0 a1) (fun _ _ => []) (fun q => isI .i64 q) := by
 refine .w func84 ntmps84 fun hf A w=>?_
 unfold sO
 refine .s<|.an z z<|.seq<|.s<|go ?_
 refine .block<|.loop<|.keep [0,1,7,8] [] z<|(show ∀ (n1:Nat) (i1:Int),W _ _ _ _ _ ⟨[(0,(tL tLink).va a0,none),(1,ca g1 k1,none),(7,isI .i64 (a0.length:Int),none),(8,isI .i64 i1,none)],[]⟩ (bR a0 a1 n1 i1) from ?_) fu _
 intro n1
 induction n1 with
 | zero=>exact fun _=>.stop
 | succ n1 ih1=>
  intro i1
  refine .inLoop<|.s<|go ?_
  refine .seq<|.cd z ?_ ?_
  ·refine .skip<|.seq<|.block<|.s<|go ?_
   refine .s<|go ?_
   refine .callC z (hc1 _) hn1 z z fun q2=>.nil<|.cd z ?_ ?_
   ·exact fr
   ·exact fj (ih1 _)
  ·exact fr
def qg (fu:Nat)(a0:ac)(a1:List UInt8)(a2:List UInt8):Option Int:=(sO fu a0.links (fun x0=>oV fu x0 a1 a2)).bind fun q4=>some q4
theorem n1074:Nm prog 36:=⟨_,_,func36,by kernel_rfl,z⟩
theorem c1074 (fu:Nat)(a0:ac)(a1:List UInt8)(a2:List UInt8):Ctr prog 36 [tBase.va a0,isS a1,isS a2] [] (qg fu a0 a1 a2) (fun _ _=>[]) (fun q=>isI .i64 q):=by
 refine .w func36 ntmps36 fun hf A w=>?_
 unfold qg
 exact .s<|.box (T:=tBase) z z fun b1=>.box (T:=tS) z z fun b2=>.box (T:=tS) z z fun b3=>.an z z<|.s<|.fp z cg z<|.lp 2 gz z z fo z<|.frzP 1 4 z z<|.frzP 0 5 z z<|.makeF z z<|.call0 (c1137 fu _ (fun x0=>oV fu x0 a1 a2) 85 [cY tS a1,cY tS a2] n1138 (fun x0=>c1138 fu x0 a1 a2)) n1137 z z fun q4=>fr
def iF (i2:Int)(rec1:Int→Option Bool)(i4:Bool):Option Bool:=cond i4 (some false) (rec1 (IntKind.i64.wrap (i2+1)))
def iE (i8:Int)(rec1:Int→Option Bool)(rec2:Int→Option Bool)(i10:Bool):Option Bool:=cond i10 (some false) (rec2 (IntKind.i64.wrap (i8+1)))
def iG (rec1:Int→Option Bool)(rec2:Int→Option Bool)(i14:Bool):Option Bool:=some i14
def bh (fu:Nat)(a0:ac)(rec1:Int→Option Bool):Nat→Int→Option Bool
 | 0,_=>none
 | n2+1,i8=>cond (decide (i8 < (a0.links.length:Int))) (cond (decide (0≤i8)&&decide (i8 < (a0.links.length:Int))) ((sV fu a0 (a0.links.getD i8.toNat default)).bind fun q11=>cond (!q11) (iE i8 rec1 (bh fu a0 rec1 n2) true) ((qh fu a0 (a0.links.getD i8.toNat default)).bind fun q12=>cond (!q12) (iE i8 rec1 (bh fu a0 rec1 n2) true) ((qg fu a0 ((a0.links.getD i8.toNat default).from_) ((a0.links.getD i8.toNat default).col)).bind fun q13=>iE i8 rec1 (bh fu a0 rec1 n2) (!decide (q13=i8))))) none) (cond (decide ((a0.tabs.length:Int)≤3)) (iG rec1 (bh fu a0 rec1 n2) (decide ((a0.links.length:Int)≤4))) (iG rec1 (bh fu a0 rec1 n2) false))
def aF (fu:Nat)(a0:ac):Nat→Int→Option Bool
 | 0,_=>none
 | n1+1,i2=>cond (decide (i2 < (a0.tabs.length:Int))) (cond (decide (0≤i2)&&decide (i2 < (a0.tabs.length:Int))) ((lU fu ((a0.tabs.getD i2.toNat default).name)).bind fun q5=>cond (!q5) (iF i2 (aF fu a0 n1) true) ((eY fu a0 ((a0.tabs.getD i2.toNat default).name)).bind fun q6=>cond (!decide (q6=i2)) (iF i2 (aF fu a0 n1) true) ((f19 fu ((a0.tabs.getD i2.toNat default).table)).bind fun q7=>iF i2 (aF fu a0 n1) (!q7)))) none) (bh fu a0 (aF fu a0 n1) fu 0)
def lE (fu:Nat)(a0:ac):Option Bool:=aF fu a0 fu 0
theorem n1020:Nm prog 13:=⟨_,_,func13,by kernel_rfl,z⟩
theorem c1020 (fu:Nat)(a0:ac):Ctr prog 13 [tBase.va a0] [] (lE fu a0) (fun _ _=>[]) (fun q=>isB q):=by
 refine .w func13 ntmps13 fun hf A w=>?_
 unfold lE
 refine .s<|.box (T:=tBase) z z fun b1=>.an z z<|.seq<|.s<|go ?_
 refine .block<|.loop<|.keep [1,8,9,10] [] z<|(show ∀ (n1:Nat) (i2:Int),W _ _ _ _ _ ⟨[(1,isP b1 0,none),(8,(tL tTab).va a0.tabs,none),(9,isI .i64 (a0.tabs.length:Int),none),(10,isI .i64 i2,none)],[boxO b1 tBase a0 []]⟩ (aF fu a0 n1 i2) from ?_) fu _
 intro n1
 induction n1 with
 | zero=>exact fun _=>.stop
 | succ n1 ih1=>
  intro i2
  refine .inLoop<|.s<|go ?_
  refine .seq<|.cd z ?_ ?_
  ·refine .skip<|.seq<|.block<|.s<|go ?_
   refine .alloc tTab d0_1039 [] z1039 z fun b3=>go ?_
   refine .seq<|.join1 (fun i4=>⟨[(1,isP b1 0,none),(8,(tL tTab).va a0.tabs,none),(9,isI .i64 (a0.tabs.length:Int),none),(10,isI .i64 i2,none),(32,isB i4,none)],[boxO b1 tBase a0 []]⟩) (fun i4=>iF i2 (aF fu a0 n1) i4) (fun i4=>?_) (fun hj6=>?_)
   ·refine .cd z ?_ ?_
    ·exact fr
    ·exact fj (ih1 _)
   ·refine .g<|go ?_
    refine .call0 (c128 fu _) n128 z z fun q5=>go ?_
    refine .split 19 z (fun _=>?_) (fun _=>?_)
    ·exact fj (hj6 _)
    ·refine go ?_
     refine .call0 (c1056 fu _ _) n1056 z z fun q6=>go ?_
     refine .split 27 z (fun _=>?_) (fun _=>?_)
     ·exact fj (hj6 _)
     ·refine go ?_
      exact .call0 (c19 fu _) n19 z z fun q7=>fj (hj6 _)
  ·refine .exit z<|.seq<|.s<|go ?_
   refine .block<|.loop<|.keep [1,35,36,37] [] z<|(show ∀ (n2:Nat) (i8:Int),W _ _ _ _ _ ⟨[(1,isP b1 0,none),(35,(tL tLink).va a0.links,none),(36,isI .i64 (a0.links.length:Int),none),(37,isI .i64 i8,none)],[boxO b1 tBase a0 []]⟩ (bh fu a0 (aF fu a0 n1) n2 i8) from ?_) fu _
   intro n2
   induction n2 with
   | zero=>exact fun _=>.stop
   | succ n2 ih2=>
    intro i8
    refine .inLoop<|.s<|go ?_
    refine .seq<|.cd z ?_ ?_
    ·refine .skip<|.seq<|.block<|.s<|go ?_
     refine .alloc tLink d0_1044 [] z1044 z fun b9=>go ?_
     refine .seq<|.join1 (fun i10=>⟨[(1,isP b1 0,none),(35,(tL tLink).va a0.links,none),(36,isI .i64 (a0.links.length:Int),none),(37,isI .i64 i8,none),(61,isB i10,none)],[boxO b1 tBase a0 []]⟩) (fun i10=>iE i8 (aF fu a0 n1) (bh fu a0 (aF fu a0 n1) n2) i10) (fun i10=>?_) (fun hj9=>?_)
     ·refine .cd z ?_ ?_
      ·exact fr
      ·exact fj (ih2 _)
     ·refine .g<|go ?_
      refine .call0 (c1072 fu _ _) n1072 z z fun q11=>go ?_
      refine .split 46 z (fun _=>?_) (fun _=>?_)
      ·exact fj (hj9 _)
      ·refine go ?_
       refine .call0 (c1073 fu _ _) n1073 z z fun q12=>go ?_
       refine .split 52 z (fun _=>?_) (fun _=>?_)
       ·exact fj (hj9 _)
       ·refine go ?_
        exact .call0 (c1074 fu _ _ _) n1074 z z fun q13=>fj (hj9 _)
    ·refine .exit z<|.seq<|.join1 (fun i14=>⟨[(2,isB i14,none)],[]⟩) (fun i14=>iG (aF fu a0 n1) (bh fu a0 (aF fu a0 n1) n2) i14) (fun i14=>?_) (fun hj10=>?_)
     ·exact fr
     ·refine .g<|go ?_
      refine .split 67 z (fun _=>?_) (fun _=>?_)
      ·exact fj (hj10 _)
      ·exact fj (hj10 _)
def xD (a0:List Tab):Option (List Tab):=cond (decide (List.length ([]:List Tab)+a0.length≤CAP)) (some (([]:List Tab)++a0)) none
theorem n1126:Nm prog 144:=⟨_,_,func144,by kernel_rfl,z⟩
attribute [local semireducible] W WO
theorem c1126 (a0:List Tab):aW prog 144 [(tL tTab).va a0] [] (xD a0) (fun v=>v) (fun q v=>[arrO tTab v q]) (fun _ v=>tRaw.va v):=by
 refine aW.of_W func144 z ntmps144 z fun A w=>?_
 unfold xD
 refine .s<|.a z z<|.arrNil tTab<|.nil<|.seq<|.s<|.m z z<|.eqNil z u26 z fun nb1 hnb1=>.nil<|.eqr (r':=cond nb1 (cond (decide (List.length ([]:List Tab)+a0.length≤CAP)) (some (([]:List Tab)++a0)) none) (cond (decide (List.length ([]:List Tab)+a0.length≤CAP)) (some (([]:List Tab)++a0)) none)) ?_<|.cond z (fun _=>?_) (fun _=>?_)
 ·cases nb1<;>rfl
 ·obtain rfl:=hnb1 (by assumption)
  refine .eqr (r':=some ([]:List Tab)) (by simp) ?_
  exact .s<|.an z z<|.toRaw 0 2 z z<|.retL1 (.slice none 0 0) func144 results144 (.tmp z) z (fun _ _ _ h=>h.1) (.d<|.e)
 ·exact .skip<|.s<|.lit (T:=tTab) u26 db z z (.nil) z fun v2=>.toArr 0 5 z z z<|.m z z<|.appA (T:=tTab) 0 z z z u26 db z fun v3=>.an z z<|.toRaw 0 2 z z<|.retL1 v3 func144 results144 (.tmp z) z (fun _ _ _ h=>h.1) (.d<|.c<|.e)
attribute [local irreducible] W WO
def xE (a0:List Tab):Option (List Tab):=some a0
theorem n1125:Nm prog 143:=⟨_,_,func143,by kernel_rfl,z⟩
theorem c1125 (vp0:Value)(a0:List Tab):aW prog 143 [isV vp0] [arrO tTab vp0 a0] (xE a0) (fun v=>v) (fun q v=>[arrO tTab v q]) (fun _ v=>tRaw.va v):=by
 refine .w func143 ntmps143 fun hf A w=>?_
 unfold xE
 exact .know 0 z<|.s<|.a z z<|.arrNil tTab<|.nil<|.s<|.m z z<|.m z z<|.lenA 1 z z u26 z<|.m z z<|.lenA 1 z z u26 z<|.clip (T:=tTab) 1 z z z z u26 db z fun v1=>.an z z<|.toRaw 1 2 z z<|.retL1 v1 func143 results143 (.tmp z) z (fun _ _ _ h=>h.1) (.c<|.d<|.e)
def sX (a0:List Tab):Option (List Tab):=(xD a0).bind fun q1=>(xE q1).bind fun q3=>some q3
theorem n1058:Nm prog 72:=⟨_,_,func72,by kernel_rfl,z⟩
theorem c1058 (a0:List Tab):aW prog 72 [(tL tTab).va a0] [] (sX a0) (fun v=>v) (fun q v=>[arrO tTab v q]) (fun _ v=>tRaw.va v):=by
 refine .w func72 ntmps72 fun hf A w=>?_
 unfold sX
 exact .s<|.a z z<|.arrNil tTab<|.nil<|.s<|.m z z<|.callL0 (c1126 _) n1126 z z fun q1 v2=>.unRaw 4 z<|.callS 0 (c1125 _ _) z n1125 z z fun q3 v4=>.unRaw 5 z<|.an z z<|.toRaw 0 2 z z<|.retL1 v4 func72 results72 (.tmp z) z (fun _ _ _ h=>h.1) (.d<|.c<|.e)
def xA (a0:List aj):Option (List aj):=cond (decide (List.length ([]:List aj)+a0.length≤CAP)) (some (([]:List aj)++a0)) none
theorem n1142:Nm prog 146:=⟨_,_,func146,by kernel_rfl,z⟩
attribute [local semireducible] W WO
theorem c1142 (a0:List aj):aW prog 146 [(tL tLink).va a0] [] (xA a0) (fun v=>v) (fun q v=>[arrO tLink v q]) (fun _ v=>tRaw.va v):=by
 refine aW.of_W func146 z ntmps146 z fun A w=>?_
 unfold xA
 refine .s<|.a z z<|.arrNil tLink<|.nil<|.seq<|.s<|.m z z<|.eqNil z u27 z fun nb1 hnb1=>.nil<|.eqr (r':=cond nb1 (cond (decide (List.length ([]:List aj)+a0.length≤CAP)) (some (([]:List aj)++a0)) none) (cond (decide (List.length ([]:List aj)+a0.length≤CAP)) (some (([]:List aj)++a0)) none)) ?_<|.cond z (fun _=>?_) (fun _=>?_)
 ·cases nb1<;>rfl
 ·obtain rfl:=hnb1 (by assumption)
  refine .eqr (r':=some ([]:List aj)) (by simp) ?_
  exact .s<|.an z z<|.toRaw 0 2 z z<|.retL1 (.slice none 0 0) func146 results146 (.tmp z) z (fun _ _ _ h=>h.1) (.d<|.e)
 ·exact .skip<|.s<|.lit (T:=tLink) u27 gr z z (.nil) z fun v2=>.toArr 0 5 z z z<|.m z z<|.appA (T:=tLink) 0 z z z u27 gr z fun v3=>.an z z<|.toRaw 0 2 z z<|.retL1 v3 func146 results146 (.tmp z) z (fun _ _ _ h=>h.1) (.d<|.c<|.e)
attribute [local irreducible] W WO
def xB (a0:List aj):Option (List aj):=some a0
theorem n1141:Nm prog 145:=⟨_,_,func145,by kernel_rfl,z⟩
theorem c1141 (vp0:Value)(a0:List aj):aW prog 145 [isV vp0] [arrO tLink vp0 a0] (xB a0) (fun v=>v) (fun q v=>[arrO tLink v q]) (fun _ v=>tRaw.va v):=by
 refine .w func145 ntmps145 fun hf A w=>?_
 unfold xB
 exact .know 0 z<|.s<|.a z z<|.arrNil tLink<|.nil<|.s<|.m z z<|.m z z<|.lenA 1 z z u27 z<|.m z z<|.lenA 1 z z u27 z<|.clip (T:=tLink) 1 z z z z u27 gr z fun v1=>.an z z<|.toRaw 1 2 z z<|.retL1 v1 func145 results145 (.tmp z) z (fun _ _ _ h=>h.1) (.c<|.d<|.e)
def sU (a0:List aj):Option (List aj):=(xA a0).bind fun q1=>(xB q1).bind fun q3=>some q3
theorem n1082:Nm prog 73:=⟨_,_,func73,by kernel_rfl,z⟩
theorem c1082 (a0:List aj):aW prog 73 [(tL tLink).va a0] [] (sU a0) (fun v=>v) (fun q v=>[arrO tLink v q]) (fun _ v=>tRaw.va v):=by
 refine .w func73 ntmps73 fun hf A w=>?_
 unfold sU
 exact .s<|.a z z<|.arrNil tLink<|.nil<|.s<|.m z z<|.callL0 (c1142 _) n1142 z z fun q1 v2=>.unRaw 4 z<|.callS 0 (c1141 _ _) z n1141 z z fun q3 v4=>.unRaw 5 z<|.an z z<|.toRaw 0 2 z z<|.retL1 v4 func73 results73 (.tmp z) z (fun _ _ _ h=>h.1) (.d<|.c<|.e)
def f9 (fu:Nat)(a0:ac)(i7:List aj):Nat→Int→(List Tab)→Option ac
 | 0,_,_=>none
 | n1+1,i8,i9=>cond (decide (i8 < (a0.tabs.length:Int))) (cond (decide (0≤i8)&&decide (i8 < (a0.tabs.length:Int))) ((f80 fu ((a0.tabs.getD i8.toNat default).table)).bind fun q11=>cond (decide (0≤i8)&&decide (i8 < (i9.length:Int))) ((f9 fu a0 i7 n1) (IntKind.i64.wrap (i8+1)) (i9.set i8.toNat ({ (i9.getD i8.toNat default) with table:=q11 }:Tab))) none) none) (some (⟨i9,i7⟩:ac))
def nR (fu:Nat)(a0:ac)(i6:List Tab)(i7:List aj):Option ac:=f9 fu a0 i7 fu 0 i6
def ez (fu:Nat)(a0:ac):Option ac:=(sX a0.tabs).bind fun q14=>(sU a0.links).bind fun q16=>nR fu a0 q14 q16
theorem n1054:Nm prog 30:=⟨_,_,func30,by kernel_rfl,z⟩
theorem c1054 (fu:Nat)(a0:ac):aW prog 30 [tBase.va a0] [] (ez fu a0) vN (fun q p=>[arrO tTab p.1 q.tabs,arrO tLink p.2 q.links]) (fun q p=>tBaseA.va (⟨p.1,p.2⟩:aL)):=by
 refine .w func30 ntmps30 fun hf A w=>?_
 unfold ez
 refine .s<|.box (T:=tBase) z z fun b1=>.alloc tBaseA au [] aA z fun b2=>.nil<|.seq<|.join5 (fun b3 v4 v5 i6 i7=>⟨[(1,isP b1 0,none),(2,isP b2 0,none),(3,isP b3 0,none)],[boxO b2 tBaseA (⟨(.slice none 0 0),(.slice none 0 0)⟩:aL) [],boxO b1 tBase a0 [],arrO tTab v4 i6,arrO tLink v5 i7,boxO b3 tBaseA (⟨v4,v5⟩:aL) []]⟩) (fun b3 v4 v5 i6 i7=>nR fu a0 i6 i7) (fun b3 v4 v5 i6 i7=>?_) (fun hj1=>?_)
 ·refine .seq<|.s<|go ?_
  refine .block<|.loop<|.drop (.d<|.c<|.d<|.d<|.d<|.e)<|.keep [2,3,14,15,16] [] z<|(show ∀ (n1:Nat) (i8:Int) (i9:List Tab),W _ _ _ _ _ ⟨[(2,isP b2 0,none),(3,isP b3 0,none),(14,(tL tTab).va a0.tabs,none),(15,isI .i64 (a0.tabs.length:Int),none),(16,isI .i64 i8,none)],[boxO b2 tBaseA (⟨(.slice none 0 0),(.slice none 0 0)⟩:aL) [],arrO tTab v4 i9,arrO tLink v5 i7,boxO b3 tBaseA (⟨v4,v5⟩:aL) []]⟩ (f9 fu a0 i7 n1 i8 i9) from ?_) fu _ _
  intro n1
  induction n1 with
  | zero=>exact fun _ _=>.stop
  | succ n1 ih1=>
   intro i8 i9
   refine .inLoop<|.s<|go ?_
   refine .seq<|.cd z ?_ ?_
   ·refine .skip<|.seq<|.block<|.s<|go ?_
    refine .alloc tTab d0_1039 [] z1039 z fun b10=>go ?_
    exact .pbind fun q11 h2=>.drawS 6 [] [5] [] mix (by kernel_rfl) sts z<|.cons (d:=26) z z fun _ _ hE h=>.bindE2 h2 (fun r h=>.callL0 (c80 fu _) n80 (hE.ops z) z h) fun p12=>.toEnd<|.toEnd<|h _ _ (.same<|.same<|.same<|.same<|.same<|.nil)<|.nil<|.elemA 2 z z z u26 ba z<|.fieldA z aC z<|.frzT 26 5 conv27 z z<|fj (ih1 _ _)
   ·exact .exit z<|.s<|.lp 3 (Fld.self _) z z al z<|.storeP 0 (Fld.self _) z z z al<|.nil<|.retL1 (v4,v5) func30 results30 (.cell 0 z z al) z (fun _ _ _ h=>nW h) (.c<|.d<|.d<|.c<|.e)
 ·refine .pbind fun q14 h3=>.pbind fun q16 h4=>.drawF 8 [] [2,5,6] (some 7) [] mix (by kernel_rfl) (.j (fun o=>.fp (o z) fa1026_0 z)<|.k (fun p e=>.lp 1 fBase_0 (e.op z) (p.get z z) ty1023 z)<|.skip<|.j (fun o=>.fp (o z) cg z)<|.k (fun p e=>.lp 1 gz (e.op z) (p.get z z) fo z)<|.skip<|.skip<|.skip<|.nil) z<|.next ?_ ?_
  ·refine .put 8 z z fun _ _ hE h=>.bindE2 h3 (fun r h=>.callL0 (c1058 _) n1058 (hE.ops z) z h) fun v15=>.toEnd<|h _ _ (.same<|.same<|.nil)<|.next ?_ ?_
   ·refine .put 11 z z fun _ _ hE h=>.bindE2 h4 (fun r h=>.callL0 (c1082 _) n1082 (hE.ops z) z h) fun v17=>.toEnd<|h _ _ (.same<|.same<|.nil)<|.next ?_ ?_
    ·exact .put 12 z z fun _ _ hE h=>.buildA z dF aA (.cons aD z (vOf (hE.op z))<|.cons bE z (vOf (hE.op z))<|.nil) z<|h _ _ (.same<|.same<|.nil)<|.last<|.put 3 z z fun _ _ hE h=>.alloc tBaseA au [] aA z fun b13=>.toEnd<|h _ _ (.same<|.same<|.nil)<|fj (hj1 _ _ _ _ _)
    ·exact .put 3 z z fun _ _ hE h=>.alloc tBaseA au [] aA z fun b13=>.toEnd<|h _ _ (.same<|.same<|.nil)<|.cons (d:=12) z z fun _ _ hE h=>.buildA z dF aA (.cons aD z (vOf (hE.op z))<|.cons bE z (vOf (hE.op z))<|.nil) z<|h _ _ (.same<|.same<|.nil)<|fj (hj1 _ _ _ _ _)
   ·exact .put 3 z z fun _ _ hE h=>.alloc tBaseA au [] aA z fun b13=>.toEnd<|h _ _ (.same<|.same<|.nil)<|.cons (d:=11) z z fun _ _ hE h=>.bindE2 h4 (fun r h=>.callL0 (c1082 _) n1082 (hE.ops z) z h) fun v17=>.toEnd<|h _ _ (.same<|.same<|.nil)<|.cons (d:=12) z z fun _ _ hE h=>.buildA z dF aA (.cons aD z (vOf (hE.op z))<|.cons bE z (vOf (hE.op z))<|.nil) z<|h _ _ (.same<|.same<|.nil)<|.nil<|.pick [0,0,0,1,0] z<|fj (hj1 _ _ _ _ _)
  ·exact .put 3 z z fun _ _ hE h=>.alloc tBaseA au [] aA z fun b13=>.toEnd<|h _ _ (.same<|.same<|.nil)<|.cons (d:=8) z z fun _ _ hE h=>.bindE2 h3 (fun r h=>.callL0 (c1058 _) n1058 (hE.ops z) z h) fun v15=>.toEnd<|h _ _ (.same<|.same<|.nil)<|.cons (d:=11) z z fun _ _ hE h=>.bindE2 h4 (fun r h=>.callL0 (c1082 _) n1082 (hE.ops z) z h) fun v17=>.toEnd<|h _ _ (.same<|.same<|.nil)<|.cons (d:=12) z z fun _ _ hE h=>.buildA z dF aA (.cons aD z (vOf (hE.op z))<|.cons bE z (vOf (hE.op z))<|.nil) z<|h _ _ (.same<|.same<|.nil)<|.nil<|.pick [0,0,1,1,0] z<|fj (hj1 _ _ _ _ _)
def vz (fu:Nat)(a0:List Col):Option ab:=(f67 fu a0).bind fun q2=>cond (!q2) (some (⟨d0_27.first,d0_27.changes,d0_27.rows,d0_27.next⟩:ab)) ((f91 a0).bind fun q3=>some (⟨q3,d0_27.changes,d0_27.rows,1⟩:ab))
theorem n1022:Nm prog 102:=⟨_,_,func102,by kernel_rfl,z⟩
theorem c1022 (fu:Nat)(a0:List Col):Ctr prog 102 [(tL tCol).va a0] [] (vz fu a0) (fun _ _=>[]) (fun q=>tTable.va q):=by
 refine .w func102 ntmps102 fun hf A w=>?_
 unfold vz
 refine .s<|.alloc tTable d0_27 [] z27 z fun b1=>.nil<|.seq<|.s<|.m z z<|.call0 (c67 fu _) n67 z z fun q2=>.not z z<|.nil<|.cd z ?_ ?_
 ·exact fr
 ·exact .skip<|.s<|.m z z<|.call0 (aW.plain (c91 _)) n91 z z fun q3=>fr
def iK (fu:Nat)(a0:ac)(a1:List UInt8)(a2:List Col)(q4:ac)(i7:Bool):Option (ac×Int):=cond i7 (some (q4,1)) (cond (decide ((a0.tabs.length:Int)=3)) (some (q4,4)) ((vz fu a2).bind fun q8=>cond (decide (q4.tabs.length+List.length ([(⟨a1,q8⟩:Tab)]:List Tab)≤CAP)) ((sX (q4.tabs++([(⟨a1,q8⟩:Tab)]:List Tab))).bind fun q10=>some ((⟨q10,q4.links⟩:ac),0)) none))
def vA (fu:Nat)(a0:ac)(a1:List UInt8)(a2:List Col):Option (ac×Int):=(lE fu a0).bind fun q3=>cond (!q3) (some ((⟨([]:List Tab),([]:List aj)⟩:ac),1)) ((ez fu a0).bind fun q4=>(lU fu a1).bind fun q12=>cond (!q12) (iK fu a0 a1 a2 q4 true) ((eY fu a0 a1).bind fun q13=>cond (decide (0≤q13)) (iK fu a0 a1 a2 q4 true) ((f67 fu a2).bind fun q14=>iK fu a0 a1 a2 q4 (!q14))))
theorem n1016:Nm prog 42:=⟨_,_,func42,by kernel_rfl,z⟩
theorem c1016 (fu:Nat)(a0:ac)(a1:List UInt8)(a2:List Col):Ctr prog 42 [tBase.va a0,isS a1,(tL tCol).va a2] [] (vA fu a0 a1 a2) (fun _ _=>[]) (fun q=>tup [tBase.va q.1,isI .i64 q.2]):=by
 refine .w func42 ntmps42 fun hf A w=>?_
 unfold vA
 refine .s<|.box (T:=tBase) z z fun b1=>.alloc tBaseA au [] aA z fun b2=>.an z z<|.seq<|.s<|go ?_
 refine .call0 (c1020 fu _) n1020 z z fun q3=>.not z z<|.nil<|.cd z ?_ ?_
 ·exact .s<|.buildA z dF aA (.nil) z<|.storeP 0 (Fld.self _) z z z al<|.arrNil tTab<|.arrNil tLink<|.an z z<|.frzBox 2 1 conv1026_0 z z<|.frzBox 2 0 conv1026_1 z z<|fr
 ·refine .skip<|.s<|go ?_
  refine .callL0 (c1054 fu _) n1054 z z fun q4 p5=>.alloc tBaseA au [] aA z fun b6=>go ?_
  refine .seq<|.block<|.seq<|.join1 (fun i7=>⟨[(1,isS a1,none),(2,(tL tCol).va a2,none),(3,isP b1 0,none),(6,isP b2 0,none),(8,isP b6 0,none),(15,isB i7,none)],[boxO b6 tBaseA (⟨p5.1,p5.2⟩:aL) [],arrO tTab p5.1 q4.tabs,arrO tLink p5.2 q4.links,boxO b2 tBaseA (⟨(.slice none 0 0),(.slice none 0 0)⟩:aL) [],boxO b1 tBase a0 []]⟩) (fun i7=>iK fu a0 a1 a2 q4 i7) (fun i7=>?_) (fun hj1=>?_)
  ·refine .cd z ?_ ?_
   ·refine .s<|go ?_
    exact .frzBox 3 1 conv1026_0 z z<|.frzBox 3 2 conv1026_1 z z<|fr
   ·refine .s<|go ?_
    refine .cd z ?_ ?_
    ·refine .s<|go ?_
     exact .frzBox 3 1 conv1026_0 z z<|.frzBox 3 2 conv1026_1 z z<|fr
    ·refine .skip<|.inBlock<|.seq<|.pb (c1022 fu _) n1022 fun q8 h1 k=>.draw 7 [] mix (by kernel_rfl) sts z<|.appA (T:=tTab) 1 z z z u26 db z fun v9=>.frz 1 44 z z<|.callL0 (c1058 _) n1058 z z fun q10 v11=>.unRaw 45 z<|.fp z fa1026_0 z<|.toRaw (T:=tTab) 0 45 z z<|go ?_
     refine .s<|go ?_
     exact .frzBox 4 0 conv1026_0 z z<|.frzBox 4 3 conv1026_1 z z<|fr
  ·refine .g<|.m z z<|.call0 (c128 fu _) n128 z z fun q12=>go ?_
   refine .split 19 z (fun _=>?_) (fun _=>?_)
   ·exact fj (hj1 _)
   ·refine go ?_
    refine .call0 (c1056 fu _ _) n1056 z z fun q13=>go ?_
    refine .split 25 z (fun _=>?_) (fun _=>?_)
    ·exact fj (hj1 _)
    ·refine go ?_
     exact .call0 (c67 fu _) n67 z z fun q14=>fj (hj1 _)
def ko (a0:List aj)(a1:List aj):Nat→Int→Option Bool
 | 0,_=>none
 | n1+1,i1=>cond (decide (i1 < (a0.length:Int))) (cond (decide (0≤i1)&&decide (i1 < (a0.length:Int))) (cond (decide (0≤i1)&&decide (i1 < (a1.length:Int))) (cond (!decide ((a0.getD i1.toNat default)=(a1.getD i1.toNat default))) (some false) ((ko a0 a1 n1) (IntKind.i64.wrap (i1+1)))) none) none) (some true)
def xP (fu:Nat)(a0:List aj)(a1:List aj):Option Bool:=cond (!decide ((a0.length:Int)=(a1.length:Int))) (some false) (ko a0 a1 fu 0)
theorem n1064:Nm prog 55:=⟨_,_,func55,by kernel_rfl,z⟩
theorem c1064 (fu:Nat)(a0:List aj)(a1:List aj):Ctr prog 55 [(tL tLink).va a0,(tL tLink).va a1] [] (xP fu a0 a1) (fun _ _=>[]) (fun q=>isB q):=by
 refine .w func55 ntmps55 fun hf A w=>?_
 unfold xP
 refine .s<|.an z z<|.seq<|.s<|go ?_
 refine .cd z ?_ ?_
 ·exact fr
 ·refine .skip<|.seq<|.s<|go ?_
  refine .block<|.loop<|.keep [0,1,12,13] [] z<|(show ∀ (n1:Nat) (i1:Int),W _ _ _ _ _ ⟨[(0,(tL tLink).va a0,none),(1,(tL tLink).va a1,none),(12,isI .i64 (a0.length:Int),none),(13,isI .i64 i1,none)],[]⟩ (ko a0 a1 n1 i1) from ?_) fu _
  intro n1
  induction n1 with
  | zero=>exact fun _=>.stop
  | succ n1 ih1=>
   intro i1
   refine .inLoop<|.s<|go ?_
   refine .seq<|.cd z ?_ ?_
   ·refine .skip<|.seq<|.block<|.s<|go ?_
    refine .seq<|.pT fun h3=>.pT fun h4=>.draw 8 [] mix (by kernel_rfl) sts z<|.neT vC z z z<|.nil<|.cd z ?_ ?_
    ·exact fr
    ·exact fj (ih1 _)
   ·exact fr
def di (a0:List Tab)(a1:List Tab)(a2:Tab→Tab→Option Bool):Nat→Int→Option Bool
 | 0,_=>none
 | n1+1,i1=>cond (decide (i1 < (a0.length:Int))) (cond (decide (0≤i1)&&decide (i1 < (a0.length:Int))) (cond (decide (0≤i1)&&decide (i1 < (a1.length:Int))) ((a2 (a0.getD i1.toNat default) (a1.getD i1.toNat default)).bind fun q4=>cond (!q4) (some false) ((di a0 a1 a2 n1) (IntKind.i64.wrap (i1+1)))) none) none) (some true)
def vi (fu:Nat)(a0:List Tab)(a1:List Tab)(a2:Tab→Tab→Option Bool):Option Bool:=cond (!decide ((a0.length:Int)=(a1.length:Int))) (some false) (di a0 a1 a2 fu 0)
theorem n1065:Nm prog 56:=⟨_,_,func56,by kernel_rfl,z⟩
theorem c1065 (fu : Nat)(a0 : List Tab)(a1 : List Tab)(a2 : Tab → Tab → Option Bool)(g2 : Nat)(k2 : List VA)(hn2 : ∃ fn c, prog.funcs[g2]? = some fn ∧ (fn.name == "runtime.NumGoroutine") = false ∧ fn.body = some c)(hc2 : ∀ (x0 : Tab) (x1 : Tab), Ctr prog g2 ([tTab.va x0, tTab.va x1] ++ k2) [] (a2 x0 x1) (fun _ _ => []) (fun q => isB q)) : Ctr prog 56 [(tL tTab).va a0, (tL tTab).va a1, ca g2 k2] [] (vi fu a0 a1 a2) (fun _ _ => []) (fun q => isB q) := by
 refine .w func56 ntmps56 fun hf A w=>?_
 unfold vi
 refine .s<|.an z z<|.seq<|.s<|go ?_
 refine .cd z ?_ ?_
 ·exact fr
 ·refine .skip<|.seq<|.s<|go ?_
  refine .block<|.loop<|.keep [1,2,15,16,17] [] z<|(show ∀ (n1:Nat) (i1:Int),W _ _ _ _ _ ⟨[(1,(tL tTab).va a1,none),(2,ca g2 k2,none),(15,(tL tTab).va a0,none),(16,isI .i64 (a0.length:Int),none),(17,isI .i64 i1,none)],[]⟩ (di a0 a1 a2 n1 i1) from ?_) fu _
  intro n1
  induction n1 with
  | zero=>exact fun _=>.stop
  | succ n1 ih1=>
   intro i1
   refine .inLoop<|.s<|go ?_
   refine .seq<|.cd z ?_ ?_
   ·refine .skip<|.seq<|.block<|.s<|go ?_
    refine .alloc tTab d0_1039 [] z1039 z fun b2=>go ?_
    refine .s<|go ?_
    refine .alloc tTab d0_1039 [] z1039 z fun b3=>go ?_
    refine .s<|go ?_
    refine .callC z (hc2 _ _) hn2 z z fun q4=>.not z z<|.nil<|.cd z ?_ ?_
    ·exact fr
    ·exact fj (ih1 _)
   ·exact fr
def km (i3:Bool):Option Bool:=some i3
def lX (fu:Nat)(a0:Tab)(a1:Tab):Option Bool:=cond (decide (a0.name=a1.name)) ((f15 fu a0.table a1.table).bind fun q4=>km q4) (km false)
theorem n1066:Nm prog 57:=⟨_,_,func57,by kernel_rfl,z⟩
theorem c1066 (fu:Nat)(a0:Tab)(a1:Tab):Ctr prog 57 [tTab.va a0,tTab.va a1] [] (lX fu a0 a1) (fun _ _=>[]) (fun q=>isB q):=by
 refine .w func57 ntmps57 fun hf A w=>?_
 unfold lX
 refine .s<|.box (T:=tTab) z z fun b1=>.box (T:=tTab) z z fun b2=>.an z z<|.seq<|.join1 (fun i3=>⟨[(4,isB i3,none)],[]⟩) (fun i3=>km i3) (fun i3=>?_) (fun hj1=>?_)
 ·exact fr
 ·refine .g<|go ?_
  refine .split 10 z (fun _=>?_) (fun _=>?_)
  ·refine go ?_
   exact .call0 (c15 fu _ _) n15 z z fun q4=>fj (hj1 _)
  ·exact fj (hj1 _)
def kz (i3:Bool):Option Bool:=some i3
def qm (fu:Nat)(a0:ac)(a1:ac):Option Bool:=(xP fu a0.links a1.links).bind fun q4=>cond q4 ((vi fu a0.tabs a1.tabs (fun x0 x1=>lX fu x0 x1)).bind fun q5=>kz q5) (kz false)
theorem n1018:Nm prog 18:=⟨_,_,func18,by kernel_rfl,z⟩
theorem c1018 (fu:Nat)(a0:ac)(a1:ac):Ctr prog 18 [tBase.va a0,tBase.va a1] [] (qm fu a0 a1) (fun _ _=>[]) (fun q=>isB q):=by
 refine .w func18 ntmps18 fun hf A w=>?_
 unfold qm
 refine .s<|.box (T:=tBase) z z fun b1=>.box (T:=tBase) z z fun b2=>.an z z<|.seq<|.join1 (fun i3=>⟨[(4,isB i3,none)],[]⟩) (fun i3=>kz i3) (fun i3=>?_) (fun hj1=>?_)
 ·exact fr
 ·refine .g<|go ?_
  refine .call0 (c1064 fu _ _) n1064 z z fun q4=>.m z z<|.split 10 z (fun _=>?_) (fun _=>?_)
  ·refine go ?_
   exact .call0 (c1065 fu _ _ (fun x0 x1=>lX fu x0 x1) 57 [] n1066 (fun x0 x1=>c1066 fu x0 x1)) n1065 z z fun q5=>fj (hj1 _)
  ·exact fj (hj1 _)
end Go.Proofs.YtganfdhmkdehlaaGreatDoor
