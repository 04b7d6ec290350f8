/- What functions answer. -/
import Derived.Test.YtganfdhmkdehlaaGreatDoorQ2007A6
import Derived.KernelRfl
set_option linter.all false
namespace Go.Proofs.YtganfdhmkdehlaaGreatDoor
open Go Go.HL Tryz
attribute [local irreducible] W WO
def lF (i1:Bool):Option Bool:=some i1
def f56 (fu:Nat)(a0:Int)(a1:Int)(a2:Int):Option Bool:=cond (decide (a1≤a0)) (lF (decide (a0≤a2))) (lF false)
theorem n56:Nm prog 75:=nmK func75
theorem c56 (fu:Nat)(a0:Int)(a1:Int)(a2:Int):Ctr prog 75 [isI .i64 a0,isI .i64 a1,isI .i64 a2] [] (f56 fu a0 a1 a2) (fun _ _=>[]) (fun q=>isB q):=by
 refine .w func75 ntmps75 fun hf A w=>?_
 unfold f56
 refine .s<|.an z z<|.seq<|.join1 (fun i1=>⟨[(6,isB i1,none)],[]⟩) (fun i1=>lF i1) (fun i1=>?_) (fun hj1=>?_)
 ·exact fr
 ·refine .g<|go ?_
  refine .split 10 z (fun _=>?_) (fun _=>?_)
  ·exact fj (hj1 _)
  ·exact fj (hj1 _)
def nU (i1:Int)(rec1:Int→Option Bool)(i2:Bool):Option Bool:=cond i2 (some false) (rec1 (IntKind.i64.wrap (i1+1)))
def gN (fu:Nat)(a0:List UInt8):Nat→Int→Option Bool
 | 0,_=>none
 | n1+1,i1=>cond (decide (i1 < (a0.length:Int))) (cond (decide (0≤i1)&&decide (i1 < (a0.length:Int))) (cond (decide ((((a0.getD i1.toNat 0).toNat:Nat):Int)<97)) (nU i1 (gN fu a0 n1) true) (cond (decide (0≤i1)&&decide (i1 < (a0.length:Int))) (nU i1 (gN fu a0 n1) (decide (122 < (((a0.getD i1.toNat 0).toNat:Nat):Int)))) none)) none) ((f56 fu (a0.length:Int) 1 3).bind fun q3=>some q3)
def mb (fu:Nat)(a0:List UInt8):Option Bool:=gN fu a0 fu 0
theorem pO:Nm prog 31:=nmK func31
theorem pQ (fu:Nat)(a0:List UInt8):Ctr prog 31 [isS a0] [] (mb fu a0) (fun _ _=>[]) (fun q=>isB q):=by
 refine .w func31 ntmps31 fun hf A w=>?_
 unfold mb
 refine .s<|.an z z<|.seq<|.s<|go ?_
 refine .block<|.loop<|.keep [0,5,6] [] z<|(show ∀ (n1:Nat) (i1:Int),W _ _ _ _ _ ⟨[(0,isS a0,none),(5,isI .i64 (a0.length:Int),none),(6,isI .i64 i1,none)],[]⟩ (gN fu a0 n1 i1) from ?_) fu _
 intro n1
 induction n1 with
 | zero=>exact fun _=>.stop
 | succ n1 ih1=>
  intro i1
  refine .inLoop<|.s<|go ?_
  refine .seq<|.cd z ?_ ?_
  ·refine .skip<|.seq<|.block<|.s<|go ?_
   refine .seq<|.join1 (fun i2=>⟨[(0,isS a0,none),(5,isI .i64 (a0.length:Int),none),(6,isI .i64 i1,none),(18,isB i2,none)],[]⟩) (fun i2=>nU i1 (gN fu a0 n1) i2) (fun i2=>?_) (fun hj2=>?_)
   ·refine .cd z ?_ ?_
    ·exact fr
    ·exact fj (ih1 _)
   ·refine .g<|go ?_
    refine .idxS z z u9 z<|go ?_
    refine .split 13 z (fun _=>?_) (fun _=>?_)
    ·exact fj (hj2 _)
    ·refine go ?_
     exact .idxS z z u9 z<|fj (hj2 _)
  ·refine .exit z<|.s<|go ?_
   exact .call0 (c56 fu _ _ _) n56 z z fun q3=>fr
def sj (i2:Bool):Option Bool:=some i2
def iq (i4:Int)(rec1:Int→Option Bool)(i5:Bool):Option Bool:=cond i5 (some false) (rec1 (IntKind.i64.wrap (i4+1)))
def si (rec1:Int→Option Bool)(i6:Bool):Option Bool:=some i6
def dg (a0:Val):Nat→Int→Option Bool
 | 0,_=>none
 | n1+1,i4=>cond (decide (i4 < (a0.text.length:Int))) (cond (decide (0≤i4)&&decide (i4 < (a0.text.length:Int))) (cond (decide ((((a0.text.getD i4.toNat 0).toNat:Nat):Int)<97)) (cond (decide ((((a0.text.getD i4.toNat 0).toNat:Nat):Int)<48)) (iq i4 (dg a0 n1) (!decide ((((a0.text.getD i4.toNat 0).toNat:Nat):Int)=45))) (cond (decide (57 < (((a0.text.getD i4.toNat 0).toNat:Nat):Int))) (iq i4 (dg a0 n1) (!decide ((((a0.text.getD i4.toNat 0).toNat:Nat):Int)=45))) (iq i4 (dg a0 n1) false))) (cond (decide (122 < (((a0.text.getD i4.toNat 0).toNat:Nat):Int))) (cond (decide ((((a0.text.getD i4.toNat 0).toNat:Nat):Int)<48)) (iq i4 (dg a0 n1) (!decide ((((a0.text.getD i4.toNat 0).toNat:Nat):Int)=45))) (cond (decide (57 < (((a0.text.getD i4.toNat 0).toNat:Nat):Int))) (iq i4 (dg a0 n1) (!decide ((((a0.text.getD i4.toNat 0).toNat:Nat):Int)=45))) (iq i4 (dg a0 n1) false))) (iq i4 (dg a0 n1) false))) none) (cond (decide (a0.n=0)) (si (dg a0 n1) (decide ((a0.text.length:Int)≤4))) (si (dg a0 n1) false))
def f25 (fu:Nat)(a0:Val):Option Bool:=cond (decide (a0.kind=0)) (some (decide (a0=(⟨d0_47.kind,d0_47.n,d0_47.text⟩:Val)))) (cond (decide (a0.kind=1)) ((f56 fu a0.n (-999) 999).bind fun q3=>cond q3 (sj (decide (a0.text=([]:List UInt8)))) (sj false)) (cond (decide (a0.kind=2)) (dg a0 fu 0) (some false)))
theorem n25:Nm prog 140:=nmK func140
theorem c25 (fu:Nat)(a0:Val):Ctr prog 140 [tVal.va a0] [] (f25 fu a0) (fun _ _=>[]) (fun q=>isB q):=by
 refine .w func140 ntmps140 fun hf A w=>?_
 unfold f25
 refine .s<|.box (T:=tVal) z z fun b1=>.an z z<|.seq<|.s<|go ?_
 refine .block<|.s<|go ?_
 refine .cd z ?_ ?_
 ·refine .s<|go ?_
  exact .eqT eq47 z z z<|fr
 ·refine .s<|go ?_
  refine .cd z ?_ ?_
  ·refine .seq<|.join1 (fun i2=>⟨[(2,isB i2,none)],[]⟩) (fun i2=>sj i2) (fun i2=>?_) (fun hj1=>?_)
   ·exact fr
   ·refine .g<|go ?_
    refine .call0 (c56 fu _ _ _) n56 z z fun q3=>.m z z<|.split 17 z (fun _=>?_) (fun _=>?_)
    ·exact fj (hj1 _)
    ·exact fj (hj1 _)
  ·refine .s<|go ?_
   refine .cd z ?_ ?_
   ·refine .seq<|.s<|go ?_
    refine .block<|.loop<|.keep [1,26,27] [] z<|(show ∀ (n1:Nat) (i4:Int),W _ _ _ _ _ ⟨[(1,isP b1 0,none),(26,isI .i64 (a0.text.length:Int),none),(27,isI .i64 i4,none)],[boxO b1 tVal a0 []]⟩ (dg a0 n1 i4) from ?_) fu _
    intro n1
    induction n1 with
    | zero=>exact fun _=>.stop
    | succ n1 ih1=>
     intro i4
     refine .inLoop<|.s<|go ?_
     refine .seq<|.cd z ?_ ?_
     ·refine .skip<|.seq<|.block<|.s<|go ?_
      refine .s<|go ?_
      refine .idxS z z u9 z<|.an z z<|.seq<|.join1 (fun i5=>⟨[(1,isP b1 0,none),(26,isI .i64 (a0.text.length:Int),none),(27,isI .i64 i4,none),(51,isB i5,none)],[boxO b1 tVal a0 []]⟩) (fun i5=>iq i4 (dg a0 n1) i5) (fun i5=>?_) (fun hj4=>?_)
      ·refine .cd z ?_ ?_
       ·exact fr
       ·exact fj (ih1 _)
      ·refine .g<|go ?_
       refine .split 36 z (fun _=>?_) (fun _=>?_)
       ·refine go ?_
        refine .split 43 z (fun _=>?_) (fun _=>?_)
        ·exact fj (hj4 _)
        ·refine go ?_
         refine .split 48 z (fun _=>?_) (fun _=>?_)
         ·exact fj (hj4 _)
         ·exact fj (hj4 _)
       ·refine go ?_
        refine .split 40 z (fun _=>?_) (fun _=>?_)
        ·refine go ?_
         refine .split 43 z (fun _=>?_) (fun _=>?_)
         ·exact fj (hj4 _)
         ·refine go ?_
          refine .split 48 z (fun _=>?_) (fun _=>?_)
          ·exact fj (hj4 _)
          ·exact fj (hj4 _)
        ·exact fj (hj4 _)
     ·refine .exit z<|.seq<|.join1 (fun i6=>⟨[(2,isB i6,none)],[]⟩) (fun i6=>si (dg a0 n1) i6) (fun i6=>?_) (fun hj5=>?_)
      ·exact fr
      ·refine .g<|go ?_
       refine .split 56 z (fun _=>?_) (fun _=>?_)
       ·exact fj (hj5 _)
       ·exact fj (hj5 _)
   ·exact fr
def rS (i2:Bool):Option Bool:=some i2
def f92 (fu:Nat)(a0:Val)(a1:Int):Option Bool:=cond (decide (a0.kind=0)) (rS true) (rS (decide (a0.kind=a1)))
theorem n92:Nm prog 141:=nmK func141
theorem c92 (fu:Nat)(a0:Val)(a1:Int):Ctr prog 141 [tVal.va a0,isI .i64 a1] [] (f92 fu a0 a1) (fun _ _=>[]) (fun q=>isB q):=by
 refine .w func141 ntmps141 fun hf A w=>?_
 unfold f92
 refine .s<|.box (T:=tVal) z z fun b1=>.an z z<|.seq<|.join1 (fun i2=>⟨[(4,isB i2,none)],[]⟩) (fun i2=>rS i2) (fun i2=>?_) (fun hj1=>?_)
 ·exact fr
 ·refine .g<|go ?_
  refine .split 8 z (fun _=>?_) (fun _=>?_)
  ·exact fj (hj1 _)
  ·exact fj (hj1 _)
def fM (i2:Bool):Option Bool:=some i2
def AT (fu:Nat)(a0:Col):Option Bool:=(mb fu a0.name).bind fun q3=>cond q3 ((f56 fu a0.kind 1 2).bind fun q4=>cond q4 ((f25 fu a0.def_).bind fun q5=>cond q5 ((f92 fu a0.def_ a0.kind).bind fun q6=>cond q6 (cond (!a0.once) (fM true) (fM (decide (a0.def_.kind=0)))) (fM false)) (fM false)) (fM false)) (fM false)
theorem E7:Nm prog 99:=nmK func99
theorem Gw (fu:Nat)(a0:Col):Ctr prog 99 [tCol.va a0] [] (AT fu a0) (fun _ _=>[]) (fun q=>isB q):=by
 refine .w func99 ntmps99 fun hf A w=>?_
 unfold AT
 refine .s<|.box (T:=tCol) z z fun b1=>.an z z<|.seq<|.join1 (fun i2=>⟨[(2,isB i2,none)],[]⟩) (fun i2=>fM i2) (fun i2=>?_) (fun hj1=>?_)
 ·exact fr
 ·refine .g<|go ?_
  refine .call0 (pQ fu _) pO z z fun q3=>.m z z<|.split 6 z (fun _=>?_) (fun _=>?_)
  ·refine go ?_
   refine .call0 (c56 fu _ _ _) n56 z z fun q4=>go ?_
   refine .split 11 z (fun _=>?_) (fun _=>?_)
   ·refine go ?_
    refine .call0 (c25 fu _) n25 z z fun q5=>go ?_
    refine .split 16 z (fun _=>?_) (fun _=>?_)
    ·refine go ?_
     refine .call0 (c92 fu _ _) n92 z z fun q6=>go ?_
     refine .split 23 z (fun _=>?_) (fun _=>?_)
     ·refine go ?_
      refine .split 27 z (fun _=>?_) (fun _=>?_)
      ·exact fj (hj1 _)
      ·exact fj (hj1 _)
     ·exact fj (hj1 _)
    ·exact fj (hj1 _)
   ·exact fj (hj1 _)
  ·exact fj (hj1 _)
def AS (a0:Col)(a1:List UInt8):Option Bool:=some (decide (a0.name=a1))
theorem HP:Nm prog 153:=nmK func153
theorem In (a0:Col)(a1:List UInt8):Ctr prog 153 [tCol.va a0,c7 tS a1] [] (AS a0 a1) (fun _ _=>[]) (fun q=>isB q):=by
 refine .w func153 ntmps153 fun hf A w=>?_
 unfold AS
 exact .s<|.box (T:=tCol) z z fun b1=>fr
def eo (a0:List Col)(a1:Col→Option Bool):Nat→Int→Option Int
 | 0,_=>none
 | n1+1,i1=>cond (decide (i1 < (a0.length:Int))) (cond (decide (0≤i1)&&decide (i1 < (a0.length:Int))) ((a1 (a0.getD i1.toNat default)).bind fun q2=>cond q2 (some i1) ((eo a0 a1 n1) (IntKind.i64.wrap (i1+1)))) none) (some (-1))
def BG (fu:Nat)(a0:List Col)(a1:Col→Option Bool):Option Int:=eo a0 a1 fu 0
theorem GY:Nm prog 152:=nmK func152
theorem Hg (fu : Nat)(a0 : List Col)(a1 : Col → Option Bool)(g1 : Nat)(k1 : List VA)(hn1 : ∃ fn c, prog.funcs[g1]? = some fn ∧ (fn.name == "runtime.NumGoroutine") = false ∧ fn.body = some c)(hc1 : ∀ (x0 : Col), Ctr prog g1 ([tCol.va x0] ++ k1) [] (a1 x0) (fun _ _ => []) (fun q => isB q)) : Ctr prog 152 [(tL tCol).va a0, ce g1 k1] [] (BG fu a0 a1) (fun _ _ => []) (fun q => isI .i64 q) := by
 refine .w func152 ntmps152 fun hf A w=>?_
 unfold BG
 refine .s<|.an z z<|.seq<|.s<|go ?_
 refine .block<|.loop<|.keep [0,1,7,8] [] z<|(show ∀ (n1:Nat) (i1:Int),W _ _ _ _ _ ⟨[(0,(tL tCol).va a0,none),(1,ce g1 k1,none),(7,isI .i64 (a0.length:Int),none),(8,isI .i64 i1,none)],[]⟩ (eo a0 a1 n1 i1) from ?_) fu _
 intro n1
 induction n1 with
 | zero=>exact fun _=>.stop
 | succ n1 ih1=>
  intro i1
  refine .inLoop<|.s<|go ?_
  refine .seq<|.cd z ?_ ?_
  ·refine .skip<|.seq<|.block<|.s<|go ?_
   refine .s<|go ?_
   refine .callC z (hc1 _) hn1 z z fun q2=>.nil<|.cd z ?_ ?_
   ·exact fr
   ·exact fj (ih1 _)
  ·exact fr
def f68 (fu:Nat)(a0:List Col)(a1:List UInt8):Option Int:=(BG fu a0 (fun x0=>AS x0 a1)).bind fun q2=>some q2
theorem n68:Nm prog 81:=nmK func81
theorem c68 (fu:Nat)(a0:List Col)(a1:List UInt8):Ctr prog 81 [(tL tCol).va a0,isS a1] [] (f68 fu a0 a1) (fun _ _=>[]) (fun q=>isI .i64 q):=by
 refine .w func81 ntmps81 fun hf A w=>?_
 unfold f68
 exact .s<|.box (T:=tS) z z fun b1=>.an z z<|.s<|.m z z<|.frzP 0 3 z z<|.makeF z z<|.call0 (Hg fu _ (fun x0=>AS x0 a1) 153 [c7 tS a1] HP (fun x0=>In x0 a1)) GY z z fun q2=>fr
def r8 (i1:Int)(rec1:Int→Option Bool)(i3:Bool):Option Bool:=cond i3 (some false) (rec1 (IntKind.i64.wrap (i1+1)))
def lC (fu:Nat)(a0:List Col):Nat→Int→Option Bool
 | 0,_=>none
 | n1+1,i1=>cond (decide (i1 < (a0.length:Int))) (cond (decide (0≤i1)&&decide (i1 < (a0.length:Int))) ((AT fu (a0.getD i1.toNat default)).bind fun q4=>cond (!q4) (r8 i1 (lC fu a0 n1) true) ((f68 fu a0 ((a0.getD i1.toNat default).name)).bind fun q5=>r8 i1 (lC fu a0 n1) (!decide (q5=i1)))) none) ((f56 fu (a0.length:Int) 1 5).bind fun q6=>some q6)
def f67 (fu:Nat)(a0:List Col):Option Bool:=lC fu a0 fu 0
theorem n67:Nm prog 64:=nmK func64
theorem c67 (fu:Nat)(a0:List Col):Ctr prog 64 [(tL tCol).va a0] [] (f67 fu a0) (fun _ _=>[]) (fun q=>isB q):=by
 refine .w func64 ntmps64 fun hf A w=>?_
 unfold f67
 refine .s<|.an z z<|.seq<|.s<|go ?_
 refine .block<|.loop<|.keep [0,5,6,7] [] z<|(show ∀ (n1:Nat) (i1:Int),W _ _ _ _ _ ⟨[(0,(tL tCol).va a0,none),(5,(tL tCol).va a0,none),(6,isI .i64 (a0.length:Int),none),(7,isI .i64 i1,none)],[]⟩ (lC fu a0 n1 i1) from ?_) fu _
 intro n1
 induction n1 with
 | zero=>exact fun _=>.stop
 | succ n1 ih1=>
  intro i1
  refine .inLoop<|.s<|go ?_
  refine .seq<|.cd z ?_ ?_
  ·refine .skip<|.seq<|.block<|.s<|go ?_
   refine .alloc tCol d0_52 [] z52 z fun b2=>go ?_
   refine .seq<|.join1 (fun i3=>⟨[(0,(tL tCol).va a0,none),(5,(tL tCol).va a0,none),(6,isI .i64 (a0.length:Int),none),(7,isI .i64 i1,none),(22,isB i3,none)],[]⟩) (fun i3=>r8 i1 (lC fu a0 n1) i3) (fun i3=>?_) (fun hj2=>?_)
   ·refine .cd z ?_ ?_
    ·exact fr
    ·exact fj (ih1 _)
   ·refine .g<|go ?_
    refine .call0 (Gw fu _) E7 z z fun q4=>go ?_
    refine .split 15 z (fun _=>?_) (fun _=>?_)
    ·exact fj (hj2 _)
    ·refine go ?_
     exact .call0 (c68 fu _ _) n68 z z fun q5=>fj (hj2 _)
  ·refine .exit z<|.s<|go ?_
   exact .call0 (c56 fu _ _ _) n56 z z fun q6=>fr
def DP (a0:List Col):Option (List Col):=cond (decide (List.length ([]:List Col)+a0.length≤CAP)) (some (([]:List Col)++a0)) none
theorem HH:Nm prog 183:=nmK func183
attribute [local semireducible] W WO
theorem Ig (a0:List Col):aY prog 183 [(tL tCol).va a0] [] (DP a0) (fun v=>v) (fun q v=>[arrO tCol v q]) (fun _ v=>tRaw.va v):=by
 refine aY.of_W func183 z ntmps183 z fun A w=>?_
 unfold DP
 refine .s<|.a z z<|.arrNil tCol<|.nil<|.seq<|.s<|.m z z<|.eqNil z u36 z fun nb1 hnb1=>.nil<|.eqr (r':=cond nb1 (cond (decide (List.length ([]:List Col)+a0.length≤CAP)) (some (([]:List Col)++a0)) none) (cond (decide (List.length ([]:List Col)+a0.length≤CAP)) (some (([]:List Col)++a0)) none)) ?_<|.cond z (fun _=>?_) (fun _=>?_)
 ·cases nb1<;>rfl
 ·obtain rfl:=hnb1 (by assumption)
  refine .eqr (r':=some ([]:List Col)) (by simp) ?_
  exact .s<|.an z z<|.toRaw 0 2 z z<|.retL1 (.slice none 0 0) func183 results183 (.tmp z) z (fun _ _ _ h=>h.1) (.d<|.e)
 ·exact .skip<|.s<|.lit (T:=tCol) u36 cu z z (.nil) z fun v2=>.toArr 0 5 z z z<|.m z z<|.appA (T:=tCol) 0 z z z u36 cu z fun v3=>.an z z<|.toRaw 0 2 z z<|.retL1 v3 func183 results183 (.tmp z) z (fun _ _ _ h=>h.1) (.d<|.c<|.e)
attribute [local irreducible] W WO
def DQ (a0:List Col):Option (List Col):=some a0
theorem HI:Nm prog 182:=nmK func182
theorem Ih (vp0:Value)(a0:List Col):aY prog 182 [isV vp0] [arrO tCol vp0 a0] (DQ a0) (fun v=>v) (fun q v=>[arrO tCol v q]) (fun _ v=>tRaw.va v):=by
 refine .w func182 ntmps182 fun hf A w=>?_
 unfold DQ
 exact .know 0 z<|.s<|.a z z<|.arrNil tCol<|.nil<|.s<|.m z z<|.m z z<|.lenA 1 z z u36 z<|.m z z<|.lenA 1 z z u36 z<|.clip (T:=tCol) 1 z z z z u36 cu z fun v1=>.an z z<|.toRaw 1 2 z z<|.retL1 v1 func182 results182 (.tmp z) z (fun _ _ _ h=>h.1) (.c<|.d<|.e)
def f91 (a0:List Col):Option (List Col):=(DP a0).bind fun q1=>(DQ q1).bind fun q3=>some q3
theorem n91:Nm prog 147:=nmK func147
theorem c91 (a0:List Col):aY prog 147 [(tL tCol).va a0] [] (f91 a0) (fun v=>v) (fun q v=>[arrO tCol v q]) (fun _ v=>tRaw.va v):=by
 refine .w func147 ntmps147 fun hf A w=>?_
 unfold f91
 exact .s<|.a z z<|.arrNil tCol<|.nil<|.s<|.m z z<|.callL0 (Ig _) HH z z fun q1 v2=>.unRaw 4 z<|.callS 0 (Ih _ _) z HI z z fun q3 v4=>.unRaw 5 z<|.an z z<|.toRaw 0 2 z z<|.retL1 v4 func147 results147 (.tmp z) z (fun _ _ _ h=>h.1) (.d<|.c<|.e)
def lP (a0:aa)(i3:aa):Option Bool:=some (decide (i3=a0))
def BE (fu:Nat)(a0:aa):Option Bool:=cond (decide (a0.kind=1)) (lP a0 ({ (⟨a0.kind,d0_56.name,d0_56.new,d0_56.col⟩:aa) with col:=a0.col }:aa)) (cond (decide (a0.kind=2)) (lP a0 ({ (⟨a0.kind,d0_56.name,d0_56.new,d0_56.col⟩:aa) with name:=a0.name }:aa)) (cond (decide (a0.kind=3)) (lP a0 ({ ({ (⟨a0.kind,d0_56.name,d0_56.new,d0_56.col⟩:aa) with name:=a0.name }:aa) with new:=a0.new }:aa)) (cond (decide (a0.kind=4)) (lP a0 ({ ({ (⟨a0.kind,d0_56.name,d0_56.new,d0_56.col⟩:aa) with name:=a0.name }:aa) with col:=({ ({ (⟨a0.kind,d0_56.name,d0_56.new,d0_56.col⟩:aa) with name:=a0.name }:aa).col with kind:=a0.col.kind }:Col) }:aa)) (some false))))
theorem GX:Nm prog 164:=nmK func164
theorem Hf (fu:Nat)(a0:aa):Ctr prog 164 [tChange.va a0] [] (BE fu a0) (fun _ _=>[]) (fun q=>isB q):=by
 refine .w func164 ntmps164 fun hf A w=>?_
 unfold BE
 refine .s<|.box (T:=tChange) z z fun b1=>.an z z<|.s<|go ?_
 refine .alloc tChange d0_56 [] z56 z fun b2=>go ?_
 refine .seq<|.s<|go ?_
 refine .block<|.s<|go ?_
 refine .join1 (fun i3=>⟨[(1,isP b1 0,none),(3,isP b2 0,none)],[boxO b2 tChange i3 [],boxO b1 tChange a0 []]⟩) (fun i3=>lP a0 i3) (fun i3=>?_) (fun hj1=>?_)
 ·refine .inBlock<|.s<|go ?_
  exact .eqT DT z z z<|fr
 ·refine .cd z ?_ ?_
  ·exact fj (hj1 _)
  ·refine .s<|go ?_
   refine .cd z ?_ ?_
   ·exact fj (hj1 _)
   ·refine .s<|go ?_
    refine .cd z ?_ ?_
    ·exact .drawS 6 [] [5] [0] mix (by kernel_rfl) sts z<|.consS z fun _ _ hE h=>.storeP 0 ij (hE.op z) z (hE.op z) ty9<|h _ (.hole z<|.same<|.nil)<|fj (hj1 _)
    ·refine .s<|go ?_
     refine .cd z ?_ ?_
     ·exact .drawS 7 [] [6] [0] mix (by kernel_rfl) sts z<|.consS z fun _ _ hE h=>.storeP 0 ij (hE.op z) z (hE.op z) ty9<|h _ (.hole z<|.same<|.nil)<|fj (hj1 _)
     ·exact fr
def C0 (a0:List Col)(a1 a2:Int):Option (List Col):=cond (decide (0≤a1)&&decide (a1≤a2)&&decide (a2≤(a0.length:Int))) (some (a0.take a1.toNat++a0.drop a2.toNat)) none
theorem HM:Nm prog 190:=nmK func190
theorem Ik (v0:Value)(a0:List Col)(a1 a2:Int):aY prog 190 [isV v0,isI .i64 a1,isI .i64 a2] [arrO tCol v0 a0] (C0 a0 a1 a2) (fun v=>v) (fun q v=>[arrO tCol v q]) (fun _ v=>tRaw.va v):=by
 refine .w func190 ntmps190 fun hf A w=>?_
 unfold C0
 refine .pcond (fun h=>?_) (fun _=>.stop)
 simp only [Bool.and_eq_true,decide_eq_true_eq] at h
 obtain ⟨⟨h1,h2⟩,h3⟩:=h
 obtain ⟨i,rfl⟩:∃ i:Nat,a1=i:=⟨a1.toNat,by omega⟩
 obtain ⟨j,rfl⟩:∃ j:Nat,a2=j:=⟨a2.toNat,by omega⟩
 refine .arrV 0 z fun ad n c hv hn hnc hlim had=>?_
 subst hv
 have hij:i≤j:=by omega
 have hjn:j≤n:=by omega
 refine .s<|.an z z<|.s<|.m z z<|.m z z<|.m z z<|.m z z<|.lenV z u36 z<|.sliceV (T:=tCol) (l:=i) (h':=j) (m:=n) z u36 cu ⟨_,z⟩ ⟨_,z⟩ ⟨_,z⟩ hij hjn hnc z z<|.nil<|.eqr (r':=cond (decide ((i:Int)=(j:Int))) (some (a0.take i++a0.drop j)) (some (a0.take i++a0.drop j))) (by cases decide ((i:Int)=(j:Int))<;>rfl) ?_
 refine .seq<|.s<|go ?_
 refine .cond z (fun h=>?_) (fun h=>?_)
 ·simp only [decide_eq_true_eq,Int.natCast_inj] at h
  subst h
  refine .eqr (r':=some a0) (by simp) ?_
  refine .s<|go ?_
  exact .toRaw 0 6 z z<|.retL1 _ func190 results190 (.tmp z) z (fun _ _ _ h=>h.1) (.cons_cons _ .e)
 ·simp only [decide_eq_false_iff_not,Int.natCast_inj] at h
  have hc:0<c:=by omega
  obtain ⟨b,o,rfl⟩:=had hc
  have hi:i<j:=by omega
  have e1:(if c=0 then some (⟨b,o,none⟩:Addr) else (some (⟨b,o,none⟩:Addr)).map (·.add (0*tCol.sz)))=some ⟨b,o,none⟩:=by rw [if_neg (by omega)];simp [Addr.add0]
  have e2:i+(n-j)-0=i+(n-j):=by omega
  have e3:(if c=i+(n-j) then some (⟨b,o,none⟩:Addr) else (some (⟨b,o,none⟩:Addr)).map (·.add ((i+(n-j))*tCol.sz)))=some ⟨b,o+(i+(n-j))*tCol.sz,none⟩:=by rw [if_neg (by omega)];simp [Addr.add0]
  refine .skip<|.s<|.m z z<|.lenV z u36 z<|.an z z<|.seq<|.draw 6 [] mix (by kernel_rfl) (.j (fun o=>.m (o z) z)<|.j (fun o=>.m (o z) z)<|.j (fun o=>.sliceV (T:=tCol) (lo:=none) (hi:=some _) (mx:=none) (l:=0) (h':=i) (m:=c) (o z) u36 cu z ⟨_,o z⟩ z (Nat.zero_le _) (by omega) (Nat.le_refl _) e1 z)<|
   .j (fun o=>.m (o z) z)<|.j (fun o=>.m (o z) z)<|.j (fun o=>.sliceV (T:=tCol) (lo:=some _) (hi:=none) (mx:=none) (l:=j) (h':=n) (m:=c) (o z) u36 cu ⟨_,o z⟩ ⟨z,z⟩ z hjn hnc (Nat.le_refl _) z z)<|.nil) z<|?_
  refine .appDel (T:=tCol) 0 z z z hc hij hjn (fun hl=>by rw [if_neg (by omega)];simp [Addr.add0]) u36 cu z<|go ?_
  refine .s<|.m z z<|.m z z<|.lenV z u36 z<|.m z z<|.sliceV (T:=tCol) (lo:=some _) (hi:=some _) (mx:=none) (l:=i+(n-j)) (h':=n) (m:=c) z u36 cu ⟨_,z⟩ ⟨_,z⟩ z (by omega) hnc (Nat.le_refl _) e3 z<|.clearV (T:=tCol) 0 z z hc (by omega) (by omega) u36 cu z52<|.nil ?_
  refine .s<|go ?_
  exact .toRaw 0 6 z z<|.retL1 _ func190 results190 (.tmp z) z (fun _ _ _ h=>h.1) (.cons_cons _ .e)
def eX (q2:Int×Bool)(i4:Bool):Option Val:=cond i4 (some (⟨d0_47.kind,d0_47.n,d0_47.text⟩:Val)) (some (⟨1,q2.1,d0_47.text⟩:Val))
def CW (fu:Nat)(a0:List UInt8):Option Val:=(DL a0).bind fun q2=>cond q2.2 (eX q2 true) ((f25 fu (⟨1,q2.1,d0_47.text⟩:Val)).bind fun q5=>cond (!q5) (eX q2 true) ((AH q2.1).bind fun q6=>eX q2 (!decide (q6=a0))))
theorem HD:Nm prog 214:=nmK func214
theorem Id (fu:Nat)(a0:List UInt8):Ctr prog 214 [isS a0] [] (CW fu a0) (fun _ _=>[]) (fun q=>tVal.va q):=by
 refine .w func214 ntmps214 fun hf A w=>?_
 unfold CW
 refine .s<|.alloc tVal d0_47 [] z47 z fun b1=>.nil<|.s<|.m z z<|.call0 (H7 _) Hx z z fun q2=>go ?_
 refine .s<|go ?_
 refine .alloc tVal d0_47 [] z47 z fun b3=>go ?_
 refine .seq<|.seq<|.join1 (fun i4=>⟨[(2,isP b1 0,none),(5,isP b3 0,none),(25,isB i4,none)],[boxO b3 tVal (⟨1,q2.1,d0_47.text⟩:Val) [],boxO b1 tVal d0_47 []]⟩) (fun i4=>eX q2 i4) (fun i4=>?_) (fun hj1=>?_)
 ·refine .cd z ?_ ?_
  ·exact fr
  ·exact fr
 ·refine .g<|.m z z<|.errNe z Hm z<|.m z z<|.split 15 z (fun _=>?_) (fun _=>?_)
  ·exact fj (hj1 _)
  ·refine go ?_
   refine .call0 (c25 fu _) n25 z z fun q5=>go ?_
   refine .split 20 z (fun _=>?_) (fun _=>?_)
   ·exact fj (hj1 _)
   ·refine go ?_
    exact .call0 (Hc _) GU z z fun q6=>fj (hj1 _)
def lM (fu:Nat)(a0:Val)(a1:Int)(i3:Bool):Option Val:=cond i3 (some (⟨d0_47.kind,d0_47.n,d0_47.text⟩:Val)) (cond (decide (a0.kind=a1)) (some a0) (cond (decide (a1=2)) ((AH a0.n).bind fun q4=>some (⟨2,d0_47.n,q4⟩:Val)) ((CW fu a0.text).bind fun q5=>some q5)))
def BD (fu:Nat)(a0:Val)(a1:Int):Option Val:=(f25 fu a0).bind fun q6=>cond (!q6) (lM fu a0 a1 true) (cond (decide (a0.kind=0)) (lM fu a0 a1 true) ((f56 fu a1 1 2).bind fun q7=>lM fu a0 a1 (!q7)))
theorem GW:Nm prog 191:=nmK func191
theorem He (fu:Nat)(a0:Val)(a1:Int):Ctr prog 191 [tVal.va a0,isI .i64 a1] [] (BD fu a0 a1) (fun _ _=>[]) (fun q=>tVal.va q):=by
 refine .w func191 ntmps191 fun hf A w=>?_
 unfold BD
 refine .s<|.box (T:=tVal) z z fun b1=>.alloc tVal d0_47 [] z47 z fun b2=>.nil<|.seq<|.block<|.seq<|.join1 (fun i3=>⟨[(1,isI .i64 a1,none),(2,isP b1 0,none),(4,isP b2 0,none),(5,isB i3,none)],[boxO b2 tVal d0_47 [],boxO b1 tVal a0 []]⟩) (fun i3=>lM fu a0 a1 i3) (fun i3=>?_) (fun hj1=>?_)
 ·refine .cd z ?_ ?_
  ·exact fr
  ·refine .s<|go ?_
   refine .cd z ?_ ?_
   ·exact fr
   ·refine .s<|go ?_
    refine .cd z ?_ ?_
    ·refine .s<|go ?_
     exact .call0 (Hc _) GU z z fun q4=>fr
    ·refine .skip<|.inBlock<|.s<|go ?_
     exact .call0 (Id fu _) HD z z fun q5=>fr
 ·refine .g<|go ?_
  refine .call0 (c25 fu _) n25 z z fun q6=>go ?_
  refine .split 9 z (fun _=>?_) (fun _=>?_)
  ·exact fj (hj1 _)
  ·refine go ?_
   refine .split 14 z (fun _=>?_) (fun _=>?_)
   ·exact fj (hj1 _)
   ·refine go ?_
    exact .call0 (c56 fu _ _ _) n56 z z fun q7=>fj (hj1 _)
end Go.Proofs.YtganfdhmkdehlaaGreatDoor
