/- Functions of the program: what each answers, and that the machine answers so. -/
import Derived.Test.YtganfdhmkdehlaaGreatDoorQ2003B4
import Derived.KernelRfl
set_option linter.all false
namespace Go.Proofs.YtganfdhmkdehlaaGreatDoor
open Go Go.HL Tryz
attribute [local irreducible] W WO
def oz (a0:Tab)(a1:List UInt8):Option Bool:=some (decide (a0.name=a1))
theorem n1123:Nm prog 77:=⟨_,_,func77,by kernel_rfl,z⟩
theorem c1123 (a0:Tab)(a1:List UInt8):Ctr prog 77 [tTab.va a0,cT tS a1] [] (oz a0 a1) (fun _ _=>[]) (fun q=>isB q):=by
 refine .w func77 ntmps77 fun hf A w=>?_
 unfold oz
 exact .s<|.box (T:=tTab) z z fun b1=>fr
def dF (a0:List Tab)(a1:Tab→Option Bool):Nat→Int→Option Int
 | 0,_=>none
 | n1+1,i1=>cond (decide (i1 < (a0.length:Int))) (cond (decide (0≤i1)&&decide (i1 < (a0.length:Int))) ((a1 (a0.getD i1.toNat default)).bind fun q2=>cond q2 (some i1) ((dF a0 a1 n1) (IntKind.i64.wrap (i1+1)))) none) (some (-1))
def xb (fu:Nat)(a0:List Tab)(a1:Tab→Option Bool):Option Int:=dF a0 a1 fu 0
theorem n1122:Nm prog 76:=⟨_,_,func76,by kernel_rfl,z⟩
theorem c1122 (fu : Nat)(a0 : List Tab)(a1 : Tab → Option Bool)(g1 : Nat)(k1 : List VA)(hn1 : ∃ fn c, prog.funcs[g1]? = some fn ∧ (fn.name == "runtime.NumGoroutine") = false ∧ fn.body = some c)(hc1 : ∀ (x0 : Tab), Ctr prog g1 ([tTab.va x0] ++ k1) [] (a1 x0) (fun _ _ => []) (fun q => isB q)) : Ctr prog 76 [(tL tTab).va a0, cN g1 k1] [] (xb fu a0 a1) (fun _ _ => []) (fun q => isI .i64 q) := by
 refine .w func76 ntmps76 fun hf A w=>?_
 unfold xb
 refine .s<|.an z z<|.seq<|.s<|go ?_
 refine .block<|.loop<|.keep [0,1,7,8] [] z<|(show ∀ (n1:Nat) (i1:Int),W _ _ _ _ _ ⟨[(0,(tL tTab).va a0,none),(1,cN g1 k1,none),(7,isI .i64 (a0.length:Int),none),(8,isI .i64 i1,none)],[]⟩ (dF a0 a1 n1 i1) from ?_) fu _
 intro n1
 induction n1 with
 | zero=>exact fun _=>.stop
 | succ n1 ih1=>
  intro i1
  refine .inLoop<|.s<|go ?_
  refine .seq<|.cd z ?_ ?_
  ·refine .skip<|.seq<|.block<|.s<|go ?_
   refine .s<|go ?_
   refine .callC z (hc1 _) hn1 z z fun q2=>.nil<|.cd z ?_ ?_
   ·exact fr
   ·exact fj (ih1 _)
  ·exact fr
def eL (fu:Nat)(a0:ac)(a1:List UInt8):Option Int:=(xb fu a0.tabs (fun x0=>oz x0 a1)).bind fun q3=>some q3
theorem n1056:Nm prog 32:=⟨_,_,func32,by kernel_rfl,z⟩
theorem c1056 (fu:Nat)(a0:ac)(a1:List UInt8):Ctr prog 32 [tBase.va a0,isS a1] [] (eL fu a0 a1) (fun _ _=>[]) (fun q=>isI .i64 q):=by
 refine .w func32 ntmps32 fun hf A w=>?_
 unfold eL
 exact .s<|.box (T:=tBase) z z fun b1=>.box (T:=tS) z z fun b2=>.an z z<|.s<|.fp z fa1026_0 z<|.lp 1 fBase_0 z z ty1023 z<|.frzP 0 3 z z<|.makeF z z<|.call0 (c1122 fu _ (fun x0=>oz x0 a1) 77 [cT tS a1] n1123 (fun x0=>c1123 x0 a1)) n1122 z z fun q3=>fr
def fS (i8:Bool):Option Bool:=some i8
def iv (fu:Nat)(a0:ac)(a1:aj)(q3:Int)(i5:Bool):Option Bool:=cond i5 (some false) (cond (decide (0≤q3)&&decide (q3 < (a0.tabs.length:Int))) ((f66 fu ((a0.tabs.getD q3.toNat default).table)).bind fun q6=>(f68 fu q6 a1.col).bind fun q7=>cond (decide (0≤q7)) (cond (decide (0≤q7)&&decide (q7 < (q6.length:Int))) (cond (decide (((q6.getD q7.toNat default).kind)=1)) (cond (!decide (a1.how=3)) (fS true) (cond (decide (0≤q7)&&decide (q7 < (q6.length:Int))) (fS (!((q6.getD q7.toNat default).need))) none)) (fS false)) none) (fS false)) none)
def sn (fu:Nat)(a0:ac)(a1:aj):Option Bool:=(eL fu a0 a1.from_).bind fun q3=>(eL fu a0 a1.to).bind fun q4=>cond (decide (q3<0)) (iv fu a0 a1 q3 true) (cond (decide (q4<0)) (iv fu a0 a1 q3 true) ((f56 fu a1.how 1 3).bind fun q9=>iv fu a0 a1 q3 (!q9)))
theorem n1072:Nm prog 34:=⟨_,_,func34,by kernel_rfl,z⟩
theorem c1072 (fu:Nat)(a0:ac)(a1:aj):Ctr prog 34 [tBase.va a0,tLink.va a1] [] (sn fu a0 a1) (fun _ _=>[]) (fun q=>isB q):=by
 refine .w func34 ntmps34 fun hf A w=>?_
 unfold sn
 refine .s<|.box (T:=tBase) z z fun b1=>.box (T:=tLink) z z fun b2=>.an z z<|.seq<|.pb (c1056 fu _ _) n1056 fun q3 h1 k=>.draw 7 [] mix (by kernel_rfl) sts z<|.call0 (c1056 fu _ _) n1056 z z fun q4=>go ?_
 refine .seq<|.seq<|.join1 (fun i5=>⟨[(2,isP b1 0,none),(3,isP b2 0,none),(5,isI .i64 q3,none),(28,isB i5,none)],[boxO b2 tLink a1 [],boxO b1 tBase a0 []]⟩) (fun i5=>iv fu a0 a1 q3 i5) (fun i5=>?_) (fun hj1=>?_)
 ·refine .cd z ?_ ?_
  ·exact fr
  ·refine .skip<|.s<|go ?_
   refine .call0 (c66 fu _) n66 z z fun q6=>.an z z<|.s<|go ?_
   refine .call0 (c68 fu _ _) n68 z z fun q7=>.an z z<|.seq<|.join1 (fun i8=>⟨[(4,isB i8,none)],[]⟩) (fun i8=>fS i8) (fun i8=>?_) (fun hj2=>?_)
   ·exact fr
   ·refine .g<|go ?_
    refine .split 42 z (fun _=>?_) (fun _=>?_)
    ·refine go ?_
     refine .split 50 z (fun _=>?_) (fun _=>?_)
     ·refine go ?_
      refine .split 54 z (fun _=>?_) (fun _=>?_)
      ·exact fj (hj2 _)
      ·exact fj (hj2 _)
     ·exact fj (hj2 _)
    ·exact fj (hj2 _)
 ·refine .g<|go ?_
  refine .split 19 z (fun _=>?_) (fun _=>?_)
  ·exact fj (hj1 _)
  ·refine go ?_
   refine .split 23 z (fun _=>?_) (fun _=>?_)
   ·exact fj (hj1 _)
   ·refine go ?_
    exact .call0 (c56 fu _ _ _) n56 z z fun q9=>fj (hj1 _)
def jZ (i1:Bool):Option Bool:=some i1
def pI (fu:Nat)(a0:Int)(a1:Int)(a2:Bool)(a3:ab):Option Bool:=cond a2 ((f48 fu a3 a1).bind fun q2=>jZ (decide (0≤q2))) (jZ false)
theorem n1136:Nm prog 83:=⟨_,_,func83,by kernel_rfl,z⟩
theorem c1136 (fu:Nat)(a0:Int)(a1:Int)(bp2:Nat)(a2:Bool)(a3:ab):Ctr prog 83 [isI .i64 a0,isI .i64 a1,isP bp2 0,cT tTable a3] [boxO bp2 tB a2 []] (pI fu a0 a1 a2 a3) (fun q _=>[boxO bp2 tB q []]) (fun q=>vy):=by
 refine .w func83 ntmps83 fun hf A w=>?_
 unfold pI
 refine .join1 (fun i1=>⟨[],[boxO bp2 tB i1 []]⟩) (fun i1=>jZ i1) (fun i1=>?_) (fun hj1=>?_)
 ·exact .end0 func83 results83 (fun _=>.d<|.e)
 ·refine .g<|go ?_
  refine .split 7 z (fun _=>?_) (fun _=>?_)
  ·refine go ?_
   exact .call0 (c48 fu _ _) n48 z z fun q2=>fj (hj1 _)
  ·exact fj (hj1 _)
def iq {σ2:Type}(i7:Int)(rec1:Int→σ2→Option σ2)(i12:σ2):Option σ2:=rec1 (IntKind.i64.wrap (i7+1)) i12
def cF {σ2:Type}(fu:Nat)(a0:ac)(a2:Int→Int→σ2→Option σ2)(q3:Int)(q6:Int):Nat→Int→σ2→Option σ2
 | 0,_,_=>none
 | n1+1,i7,i8=>cond (decide (i7 < (List.length (((a0.tabs.getD q3.toNat default).table).rows):Int))) (cond (decide (0≤i7)&&decide (i7 < (List.length (((a0.tabs.getD q3.toNat default).table).rows):Int))) ((f49 fu ((a0.tabs.getD q3.toNat default).table) ((((a0.tabs.getD q3.toNat default).table).rows).getD i7.toNat default)).bind fun q10=>cond (decide (0≤q6)&&decide (q6 < (q10.length:Int))) (cond (!decide (((q10.getD q6.toNat default).kind)=0)) ((a2 (((((a0.tabs.getD q3.toNat default).table).rows).getD i7.toNat default).id) ((q10.getD q6.toNat default).n) i8).bind fun q13=>iq i7 (cF fu a0 a2 q3 q6 n1) q13) (iq i7 (cF fu a0 a2 q3 q6 n1) i8)) none) none) (some i8)
def lE {σ2:Type}(fu:Nat)(a0:ac)(a1:aj)(a2:Int→Int→σ2→Option σ2)(s2:σ2):Option σ2:=(eL fu a0 a1.from_).bind fun q3=>cond (decide (0≤q3)&&decide (q3 < (a0.tabs.length:Int))) ((f66 fu ((a0.tabs.getD q3.toNat default).table)).bind fun q5=>(f68 fu q5 a1.col).bind fun q6=>cF fu a0 a2 q3 q6 fu 0 s2) none
theorem n1086:Nm prog 82:=⟨_,_,func82,by kernel_rfl,z⟩
theorem c1086 (fu : Nat)(a0 : ac)(a1 : aj){σ2 : Type}(a2 : Int → Int → σ2 → Option σ2)(O2 : σ2 → Own)(g2 : Nat)(k2 : List VA)(hn2 : ∃ fn c, prog.funcs[g2]? = some fn ∧ (fn.name == "runtime.NumGoroutine") = false ∧ fn.body = some c)(hc2 : ∀ (x0 : Int) (x1 : Int) (s : σ2), Ctr prog g2 ([isI .i64 x0, isI .i64 x1] ++ k2) [O2 s] (a2 x0 x1 s) (fun q _ => [O2 q]) (fun _ => vy))(s2 : σ2) : Ctr prog 82 [tBase.va a0, tLink.va a1, cN g2 k2] [O2 s2] (lE fu a0 a1 a2 s2) (fun q _ => [O2 q]) (fun q => vy) := by
 refine .w func82 ntmps82 fun hf A w=>?_
 unfold lE
 refine .s<|.box (T:=tBase) z z fun b1=>.box (T:=tLink) z z fun b2=>.nil<|.seq<|.pb (c1056 fu _ _) n1056 fun q3 h1 k=>.pT fun h2=>.drawS 10 [] [9] [] mix (by kernel_rfl) sts z<|.cons (d:=6) z z fun _ _ hE h=>.alloc tTable d0_27 [] z27 z fun b4=>.toEnd<|h _ _ (.same<|.same<|.same<|.nil)<|go ?_
 refine .seq<|.pb (c66 fu _) n66 fun q5 h3 k=>.draw 4 [] mix (by kernel_rfl) sts z<|.call0 (c68 fu _ _) n68 z z fun q6=>.an z z<|.s<|go ?_
 refine .block<|.loop<|.drop (.c<|.c<|.d<|.d<|.e)<|.keep [2,6,7,26,27,28] [] z<|(show ∀ (n1:Nat) (i7:Int) (i8:σ2),W _ _ _ _ _ ⟨[(2,cN g2 k2,none),(6,isP b4 0,none),(7,isI .i64 q6,none),(26,(tL tRow).va (((a0.tabs.getD q3.toNat default).table).rows),none),(27,isI .i64 (List.length (((a0.tabs.getD q3.toNat default).table).rows):Int),none),(28,isI .i64 i7,none)],[O2 i8,boxO b4 tTable ((a0.tabs.getD q3.toNat default).table) []]⟩ (cF fu a0 a2 q3 q6 n1 i7 i8) from ?_) fu _ _
 intro n1
 induction n1 with
 | zero=>exact fun _ _=>.stop
 | succ n1 ih1=>
  intro i7 i8
  refine .inLoop<|.s<|go ?_
  refine .seq<|.cd z ?_ ?_
  ·refine .skip<|.seq<|.block<|.s<|go ?_
   refine .alloc tRow d0_37 [] z37 z fun b9=>go ?_
   refine .s<|go ?_
   refine .call0 (aS.plain (c49 fu _ _)) n49 z z fun q10=>go ?_
   refine .alloc tVal d0_47 [] z47 z fun b11=>go ?_
   refine .s<|go ?_
   refine .join1 (fun i12=>⟨[(2,cN g2 k2,none),(6,isP b4 0,none),(7,isI .i64 q6,none),(26,(tL tRow).va (((a0.tabs.getD q3.toNat default).table).rows),none),(27,isI .i64 (List.length (((a0.tabs.getD q3.toNat default).table).rows):Int),none),(28,isI .i64 i7,none)],[O2 i12,boxO b4 tTable ((a0.tabs.getD q3.toNat default).table) []]⟩) (fun i12=>iq i7 (cF fu a0 a2 q3 q6 n1) i12) (fun i12=>?_) (fun hj2=>?_)
   ·exact fj (ih1 _ _)
   ·refine .cd z ?_ ?_
    ·exact .g<|.m z z<|.fp z cO z<|.lp 1 bW z z ty3 z<|.fp z tN z<|.lp 0 qF z z ty3 z<|.callCS 2 z (hc2 _ _ _) z hn2 z z fun q13=>fj (hj2 _)
    ·exact fj (hj2 _)
  ·exact .exit z<|.end0 func82 results82 (fun _=>.d<|.c<|.e)
end Go.Proofs.YtganfdhmkdehlaaGreatDoor
