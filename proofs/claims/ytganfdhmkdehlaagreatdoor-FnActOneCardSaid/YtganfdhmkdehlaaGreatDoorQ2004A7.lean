/- Functions of the program: what each answers, and that the machine answers so. -/
import Derived.Test.YtganfdhmkdehlaaGreatDoorQ2004A6
import Derived.KernelRfl
set_option linter.all false
namespace Go.Proofs.YtganfdhmkdehlaaGreatDoor
open Go Go.HL Tryz
attribute [local irreducible] W WO
def ln (i1:Bool):Option Bool:=some i1
def f56 (fu:Nat)(a0:Int)(a1:Int)(a2:Int):Option Bool:=cond (decide (a1≤a0)) (ln (decide (a0≤a2))) (ln false)
theorem n56:Nm prog 75:=⟨_,_,func75,by kernel_rfl,z⟩
theorem c56 (fu:Nat)(a0:Int)(a1:Int)(a2:Int):Ctr prog 75 [isI .i64 a0,isI .i64 a1,isI .i64 a2] [] (f56 fu a0 a1 a2) (fun _ _=>[]) (fun q=>isB q):=by
 refine .w func75 ntmps75 fun hf A w=>?_
 unfold f56
 refine .s<|.an z z<|.seq<|.join1 (fun i1=>⟨[(6,isB i1,none)],[]⟩) (fun i1=>ln i1) (fun i1=>?_) (fun hj1=>?_)
 ·exact fr
 ·refine .g<|go ?_
  refine .split 10 z (fun _=>?_) (fun _=>?_)
  ·exact fj (hj1 _)
  ·exact fj (hj1 _)
def nF (i1:Int)(rec1:Int→Option Bool)(i2:Bool):Option Bool:=cond i2 (some false) (rec1 (IntKind.i64.wrap (i1+1)))
def gC (fu:Nat)(a0:List UInt8):Nat→Int→Option Bool
 | 0,_=>none
 | n1+1,i1=>cond (decide (i1 < (a0.length:Int))) (cond (decide (0≤i1)&&decide (i1 < (a0.length:Int))) (cond (decide ((((a0.getD i1.toNat 0).toNat:Nat):Int)<97)) (nF i1 (gC fu a0 n1) true) (cond (decide (0≤i1)&&decide (i1 < (a0.length:Int))) (nF i1 (gC fu a0 n1) (decide (122 < (((a0.getD i1.toNat 0).toNat:Nat):Int)))) none)) none) ((f56 fu (a0.length:Int) 1 3).bind fun q3=>some q3)
def lU (fu:Nat)(a0:List UInt8):Option Bool:=gC fu a0 fu 0
theorem n128:Nm prog 31:=⟨_,_,func31,by kernel_rfl,z⟩
theorem c128 (fu:Nat)(a0:List UInt8):Ctr prog 31 [isS a0] [] (lU fu a0) (fun _ _=>[]) (fun q=>isB q):=by
 refine .w func31 ntmps31 fun hf A w=>?_
 unfold lU
 refine .s<|.an z z<|.seq<|.s<|go ?_
 refine .block<|.loop<|.keep [0,5,6] [] z<|(show ∀ (n1:Nat) (i1:Int),W _ _ _ _ _ ⟨[(0,isS a0,none),(5,isI .i64 (a0.length:Int),none),(6,isI .i64 i1,none)],[]⟩ (gC fu a0 n1 i1) from ?_) fu _
 intro n1
 induction n1 with
 | zero=>exact fun _=>.stop
 | succ n1 ih1=>
  intro i1
  refine .inLoop<|.s<|go ?_
  refine .seq<|.cd z ?_ ?_
  ·refine .skip<|.seq<|.block<|.s<|go ?_
   refine .seq<|.join1 (fun i2=>⟨[(0,isS a0,none),(5,isI .i64 (a0.length:Int),none),(6,isI .i64 i1,none),(18,isB i2,none)],[]⟩) (fun i2=>nF i1 (gC fu a0 n1) i2) (fun i2=>?_) (fun hj2=>?_)
   ·refine .cd z ?_ ?_
    ·exact fr
    ·exact fj (ih1 _)
   ·refine .g<|go ?_
    refine .idxS z z u9 z<|go ?_
    refine .split 13 z (fun _=>?_) (fun _=>?_)
    ·exact fj (hj2 _)
    ·refine go ?_
     exact .idxS z z u9 z<|fj (hj2 _)
  ·refine .exit z<|.s<|go ?_
   exact .call0 (c56 fu _ _ _) n56 z z fun q3=>fr
def rB (i2:Bool):Option Bool:=some i2
def ib (i4:Int)(rec1:Int→Option Bool)(i5:Bool):Option Bool:=cond i5 (some false) (rec1 (IntKind.i64.wrap (i4+1)))
def rA (rec1:Int→Option Bool)(i6:Bool):Option Bool:=some i6
def da (a0:Val):Nat→Int→Option Bool
 | 0,_=>none
 | n1+1,i4=>cond (decide (i4 < (a0.text.length:Int))) (cond (decide (0≤i4)&&decide (i4 < (a0.text.length:Int))) (cond (decide ((((a0.text.getD i4.toNat 0).toNat:Nat):Int)<97)) (cond (decide ((((a0.text.getD i4.toNat 0).toNat:Nat):Int)<48)) (ib i4 (da a0 n1) (!decide ((((a0.text.getD i4.toNat 0).toNat:Nat):Int)=45))) (cond (decide (57 < (((a0.text.getD i4.toNat 0).toNat:Nat):Int))) (ib i4 (da a0 n1) (!decide ((((a0.text.getD i4.toNat 0).toNat:Nat):Int)=45))) (ib i4 (da a0 n1) false))) (cond (decide (122 < (((a0.text.getD i4.toNat 0).toNat:Nat):Int))) (cond (decide ((((a0.text.getD i4.toNat 0).toNat:Nat):Int)<48)) (ib i4 (da a0 n1) (!decide ((((a0.text.getD i4.toNat 0).toNat:Nat):Int)=45))) (cond (decide (57 < (((a0.text.getD i4.toNat 0).toNat:Nat):Int))) (ib i4 (da a0 n1) (!decide ((((a0.text.getD i4.toNat 0).toNat:Nat):Int)=45))) (ib i4 (da a0 n1) false))) (ib i4 (da a0 n1) false))) none) (cond (decide (a0.n=0)) (rA (da a0 n1) (decide ((a0.text.length:Int)≤4))) (rA (da a0 n1) false))
def f25 (fu:Nat)(a0:Val):Option Bool:=cond (decide (a0.kind=0)) (some (decide (a0=(⟨d0_47.kind,d0_47.n,d0_47.text⟩:Val)))) (cond (decide (a0.kind=1)) ((f56 fu a0.n (-999) 999).bind fun q3=>cond q3 (rB (decide (a0.text=([]:List UInt8)))) (rB false)) (cond (decide (a0.kind=2)) (da a0 fu 0) (some false)))
theorem n25:Nm prog 140:=⟨_,_,func140,by kernel_rfl,z⟩
theorem c25 (fu:Nat)(a0:Val):Ctr prog 140 [tVal.va a0] [] (f25 fu a0) (fun _ _=>[]) (fun q=>isB q):=by
 refine .w func140 ntmps140 fun hf A w=>?_
 unfold f25
 refine .s<|.box (T:=tVal) z z fun b1=>.an z z<|.seq<|.s<|go ?_
 refine .block<|.s<|go ?_
 refine .cd z ?_ ?_
 ·refine .s<|go ?_
  exact .eqT eq47 z z z<|fr
 ·refine .s<|go ?_
  refine .cd z ?_ ?_
  ·refine .seq<|.join1 (fun i2=>⟨[(2,isB i2,none)],[]⟩) (fun i2=>rB i2) (fun i2=>?_) (fun hj1=>?_)
   ·exact fr
   ·refine .g<|go ?_
    refine .call0 (c56 fu _ _ _) n56 z z fun q3=>.m z z<|.split 17 z (fun _=>?_) (fun _=>?_)
    ·exact fj (hj1 _)
    ·exact fj (hj1 _)
  ·refine .s<|go ?_
   refine .cd z ?_ ?_
   ·refine .seq<|.s<|go ?_
    refine .block<|.loop<|.keep [1,26,27] [] z<|(show ∀ (n1:Nat) (i4:Int),W _ _ _ _ _ ⟨[(1,isP b1 0,none),(26,isI .i64 (a0.text.length:Int),none),(27,isI .i64 i4,none)],[boxO b1 tVal a0 []]⟩ (da a0 n1 i4) from ?_) fu _
    intro n1
    induction n1 with
    | zero=>exact fun _=>.stop
    | succ n1 ih1=>
     intro i4
     refine .inLoop<|.s<|go ?_
     refine .seq<|.cd z ?_ ?_
     ·refine .skip<|.seq<|.block<|.s<|go ?_
      refine .s<|go ?_
      refine .idxS z z u9 z<|.an z z<|.seq<|.join1 (fun i5=>⟨[(1,isP b1 0,none),(26,isI .i64 (a0.text.length:Int),none),(27,isI .i64 i4,none),(51,isB i5,none)],[boxO b1 tVal a0 []]⟩) (fun i5=>ib i4 (da a0 n1) i5) (fun i5=>?_) (fun hj4=>?_)
      ·refine .cd z ?_ ?_
       ·exact fr
       ·exact fj (ih1 _)
      ·refine .g<|go ?_
       refine .split 36 z (fun _=>?_) (fun _=>?_)
       ·refine go ?_
        refine .split 43 z (fun _=>?_) (fun _=>?_)
        ·exact fj (hj4 _)
        ·refine go ?_
         refine .split 48 z (fun _=>?_) (fun _=>?_)
         ·exact fj (hj4 _)
         ·exact fj (hj4 _)
       ·refine go ?_
        refine .split 40 z (fun _=>?_) (fun _=>?_)
        ·refine go ?_
         refine .split 43 z (fun _=>?_) (fun _=>?_)
         ·exact fj (hj4 _)
         ·refine go ?_
          refine .split 48 z (fun _=>?_) (fun _=>?_)
          ·exact fj (hj4 _)
          ·exact fj (hj4 _)
        ·exact fj (hj4 _)
     ·refine .exit z<|.seq<|.join1 (fun i6=>⟨[(2,isB i6,none)],[]⟩) (fun i6=>rA (da a0 n1) i6) (fun i6=>?_) (fun hj5=>?_)
      ·exact fr
      ·refine .g<|go ?_
       refine .split 56 z (fun _=>?_) (fun _=>?_)
       ·exact fj (hj5 _)
       ·exact fj (hj5 _)
   ·exact fr
def rc (i2:Bool):Option Bool:=some i2
def f92 (fu:Nat)(a0:Val)(a1:Int):Option Bool:=cond (decide (a0.kind=0)) (rc true) (rc (decide (a0.kind=a1)))
theorem n92:Nm prog 141:=⟨_,_,func141,by kernel_rfl,z⟩
theorem c92 (fu:Nat)(a0:Val)(a1:Int):Ctr prog 141 [tVal.va a0,isI .i64 a1] [] (f92 fu a0 a1) (fun _ _=>[]) (fun q=>isB q):=by
 refine .w func141 ntmps141 fun hf A w=>?_
 unfold f92
 refine .s<|.box (T:=tVal) z z fun b1=>.an z z<|.seq<|.join1 (fun i2=>⟨[(4,isB i2,none)],[]⟩) (fun i2=>rc i2) (fun i2=>?_) (fun hj1=>?_)
 ·exact fr
 ·refine .g<|go ?_
  refine .split 8 z (fun _=>?_) (fun _=>?_)
  ·exact fj (hj1 _)
  ·exact fj (hj1 _)
def fH (i2:Bool):Option Bool:=some i2
def zK (fu:Nat)(a0:Col):Option Bool:=(lU fu a0.name).bind fun q3=>cond q3 ((f56 fu a0.kind 1 2).bind fun q4=>cond q4 ((f25 fu a0.def_).bind fun q5=>cond q5 ((f92 fu a0.def_ a0.kind).bind fun q6=>cond q6 (cond (!a0.once) (fH true) (fH (decide (a0.def_.kind=0)))) (fH false)) (fH false)) (fH false)) (fH false)
theorem n103:Nm prog 99:=⟨_,_,func99,by kernel_rfl,z⟩
theorem c103 (fu:Nat)(a0:Col):Ctr prog 99 [tCol.va a0] [] (zK fu a0) (fun _ _=>[]) (fun q=>isB q):=by
 refine .w func99 ntmps99 fun hf A w=>?_
 unfold zK
 refine .s<|.box (T:=tCol) z z fun b1=>.an z z<|.seq<|.join1 (fun i2=>⟨[(2,isB i2,none)],[]⟩) (fun i2=>fH i2) (fun i2=>?_) (fun hj1=>?_)
 ·exact fr
 ·refine .g<|go ?_
  refine .call0 (c128 fu _) n128 z z fun q3=>.m z z<|.split 6 z (fun _=>?_) (fun _=>?_)
  ·refine go ?_
   refine .call0 (c56 fu _ _ _) n56 z z fun q4=>go ?_
   refine .split 11 z (fun _=>?_) (fun _=>?_)
   ·refine go ?_
    refine .call0 (c25 fu _) n25 z z fun q5=>go ?_
    refine .split 16 z (fun _=>?_) (fun _=>?_)
    ·refine go ?_
     refine .call0 (c92 fu _ _) n92 z z fun q6=>go ?_
     refine .split 23 z (fun _=>?_) (fun _=>?_)
     ·refine go ?_
      refine .split 27 z (fun _=>?_) (fun _=>?_)
      ·exact fj (hj1 _)
      ·exact fj (hj1 _)
     ·exact fj (hj1 _)
    ·exact fj (hj1 _)
   ·exact fj (hj1 _)
  ·exact fj (hj1 _)
def zJ (a0:Col)(a1:List UInt8):Option Bool:=some (decide (a0.name=a1))
theorem n105:Nm prog 153:=⟨_,_,func153,by kernel_rfl,z⟩
theorem c105 (a0:Col)(a1:List UInt8):Ctr prog 153 [tCol.va a0,cY tS a1] [] (zJ a0 a1) (fun _ _=>[]) (fun q=>isB q):=by
 refine .w func153 ntmps153 fun hf A w=>?_
 unfold zJ
 exact .s<|.box (T:=tCol) z z fun b1=>fr
def d8 (a0:List Col)(a1:Col→Option Bool):Nat→Int→Option Int
 | 0,_=>none
 | n1+1,i1=>cond (decide (i1 < (a0.length:Int))) (cond (decide (0≤i1)&&decide (i1 < (a0.length:Int))) ((a1 (a0.getD i1.toNat default)).bind fun q2=>cond q2 (some i1) ((d8 a0 a1 n1) (IntKind.i64.wrap (i1+1)))) none) (some (-1))
def As (fu:Nat)(a0:List Col)(a1:Col→Option Bool):Option Int:=d8 a0 a1 fu 0
theorem n104:Nm prog 152:=⟨_,_,func152,by kernel_rfl,z⟩
theorem c104 (fu : Nat)(a0 : List Col)(a1 : Col → Option Bool)(g1 : Nat)(k1 : List VA)(hn1 : ∃ fn c, prog.funcs[g1]? = some fn ∧ (fn.name == "runtime.NumGoroutine") = false ∧ fn.body = some c)(hc1 : ∀ (x0 : Col), Ctr prog g1 ([tCol.va x0] ++ k1) [] (a1 x0) (fun _ _ => []) (fun q => isB q)) : Ctr prog 152 [(tL tCol).va a0, ca g1 k1] [] (As fu a0 a1) (fun _ _ => []) (fun q => isI .i64 q) := by
 refine .w func152 ntmps152 fun hf A w=>?_
 unfold As
 refine .s<|.an z z<|.seq<|.s<|go ?_
 refine .block<|.loop<|.keep [0,1,7,8] [] z<|(show ∀ (n1:Nat) (i1:Int),W _ _ _ _ _ ⟨[(0,(tL tCol).va a0,none),(1,ca g1 k1,none),(7,isI .i64 (a0.length:Int),none),(8,isI .i64 i1,none)],[]⟩ (d8 a0 a1 n1 i1) from ?_) fu _
 intro n1
 induction n1 with
 | zero=>exact fun _=>.stop
 | succ n1 ih1=>
  intro i1
  refine .inLoop<|.s<|go ?_
  refine .seq<|.cd z ?_ ?_
  ·refine .skip<|.seq<|.block<|.s<|go ?_
   refine .s<|go ?_
   refine .callC z (hc1 _) hn1 z z fun q2=>.nil<|.cd z ?_ ?_
   ·exact fr
   ·exact fj (ih1 _)
  ·exact fr
def f68 (fu:Nat)(a0:List Col)(a1:List UInt8):Option Int:=(As fu a0 (fun x0=>zJ x0 a1)).bind fun q2=>some q2
theorem n68:Nm prog 81:=⟨_,_,func81,by kernel_rfl,z⟩
theorem c68 (fu:Nat)(a0:List Col)(a1:List UInt8):Ctr prog 81 [(tL tCol).va a0,isS a1] [] (f68 fu a0 a1) (fun _ _=>[]) (fun q=>isI .i64 q):=by
 refine .w func81 ntmps81 fun hf A w=>?_
 unfold f68
 exact .s<|.box (T:=tS) z z fun b1=>.an z z<|.s<|.m z z<|.frzP 0 3 z z<|.makeF z z<|.call0 (c104 fu _ (fun x0=>zJ x0 a1) 153 [cY tS a1] n105 (fun x0=>c105 x0 a1)) n104 z z fun q2=>fr
def rl (i1:Int)(rec1:Int→Option Bool)(i3:Bool):Option Bool:=cond i3 (some false) (rec1 (IntKind.i64.wrap (i1+1)))
def lj (fu:Nat)(a0:List Col):Nat→Int→Option Bool
 | 0,_=>none
 | n1+1,i1=>cond (decide (i1 < (a0.length:Int))) (cond (decide (0≤i1)&&decide (i1 < (a0.length:Int))) ((zK fu (a0.getD i1.toNat default)).bind fun q4=>cond (!q4) (rl i1 (lj fu a0 n1) true) ((f68 fu a0 ((a0.getD i1.toNat default).name)).bind fun q5=>rl i1 (lj fu a0 n1) (!decide (q5=i1)))) none) ((f56 fu (a0.length:Int) 1 5).bind fun q6=>some q6)
def f67 (fu:Nat)(a0:List Col):Option Bool:=lj fu a0 fu 0
theorem n67:Nm prog 64:=⟨_,_,func64,by kernel_rfl,z⟩
theorem c67 (fu:Nat)(a0:List Col):Ctr prog 64 [(tL tCol).va a0] [] (f67 fu a0) (fun _ _=>[]) (fun q=>isB q):=by
 refine .w func64 ntmps64 fun hf A w=>?_
 unfold f67
 refine .s<|.an z z<|.seq<|.s<|go ?_
 refine .block<|.loop<|.keep [0,5,6,7] [] z<|(show ∀ (n1:Nat) (i1:Int),W _ _ _ _ _ ⟨[(0,(tL tCol).va a0,none),(5,(tL tCol).va a0,none),(6,isI .i64 (a0.length:Int),none),(7,isI .i64 i1,none)],[]⟩ (lj fu a0 n1 i1) from ?_) fu _
 intro n1
 induction n1 with
 | zero=>exact fun _=>.stop
 | succ n1 ih1=>
  intro i1
  refine .inLoop<|.s<|go ?_
  refine .seq<|.cd z ?_ ?_
  ·refine .skip<|.seq<|.block<|.s<|go ?_
   refine .alloc tCol d0_52 [] z52 z fun b2=>go ?_
   refine .seq<|.join1 (fun i3=>⟨[(0,(tL tCol).va a0,none),(5,(tL tCol).va a0,none),(6,isI .i64 (a0.length:Int),none),(7,isI .i64 i1,none),(22,isB i3,none)],[]⟩) (fun i3=>rl i1 (lj fu a0 n1) i3) (fun i3=>?_) (fun hj2=>?_)
   ·refine .cd z ?_ ?_
    ·exact fr
    ·exact fj (ih1 _)
   ·refine .g<|go ?_
    refine .call0 (c103 fu _) n103 z z fun q4=>go ?_
    refine .split 15 z (fun _=>?_) (fun _=>?_)
    ·exact fj (hj2 _)
    ·refine go ?_
     exact .call0 (c68 fu _ _) n68 z z fun q5=>fj (hj2 _)
  ·refine .exit z<|.s<|go ?_
   exact .call0 (c56 fu _ _ _) n56 z z fun q6=>fr
def Cb (a0:List Col):Option (List Col):=cond (decide (List.length ([]:List Col)+a0.length≤CAP)) (some (([]:List Col)++a0)) none
theorem n122:Nm prog 183:=⟨_,_,func183,by kernel_rfl,z⟩
attribute [local semireducible] W WO
theorem c122 (a0:List Col):aW prog 183 [(tL tCol).va a0] [] (Cb a0) (fun v=>v) (fun q v=>[arrO tCol v q]) (fun _ v=>tRaw.va v):=by
 refine aW.of_W func183 z ntmps183 z fun A w=>?_
 unfold Cb
 refine .s<|.a z z<|.arrNil tCol<|.nil<|.seq<|.s<|.m z z<|.eqNil z u36 z fun nb1 hnb1=>.nil<|.eqr (r':=cond nb1 (cond (decide (List.length ([]:List Col)+a0.length≤CAP)) (some (([]:List Col)++a0)) none) (cond (decide (List.length ([]:List Col)+a0.length≤CAP)) (some (([]:List Col)++a0)) none)) ?_<|.cond z (fun _=>?_) (fun _=>?_)
 ·cases nb1<;>rfl
 ·obtain rfl:=hnb1 (by assumption)
  refine .eqr (r':=some ([]:List Col)) (by simp) ?_
  exact .s<|.an z z<|.toRaw 0 2 z z<|.retL1 (.slice none 0 0) func183 results183 (.tmp z) z (fun _ _ _ h=>h.1) (.d<|.e)
 ·exact .skip<|.s<|.lit (T:=tCol) u36 cq z z (.nil) z fun v2=>.toArr 0 5 z z z<|.m z z<|.appA (T:=tCol) 0 z z z u36 cq z fun v3=>.an z z<|.toRaw 0 2 z z<|.retL1 v3 func183 results183 (.tmp z) z (fun _ _ _ h=>h.1) (.d<|.c<|.e)
attribute [local irreducible] W WO
def Cc (a0:List Col):Option (List Col):=some a0
theorem n121:Nm prog 182:=⟨_,_,func182,by kernel_rfl,z⟩
theorem c121 (vp0:Value)(a0:List Col):aW prog 182 [isV vp0] [arrO tCol vp0 a0] (Cc a0) (fun v=>v) (fun q v=>[arrO tCol v q]) (fun _ v=>tRaw.va v):=by
 refine .w func182 ntmps182 fun hf A w=>?_
 unfold Cc
 exact .know 0 z<|.s<|.a z z<|.arrNil tCol<|.nil<|.s<|.m z z<|.m z z<|.lenA 1 z z u36 z<|.m z z<|.lenA 1 z z u36 z<|.clip (T:=tCol) 1 z z z z u36 cq z fun v1=>.an z z<|.toRaw 1 2 z z<|.retL1 v1 func182 results182 (.tmp z) z (fun _ _ _ h=>h.1) (.c<|.d<|.e)
def f91 (a0:List Col):Option (List Col):=(Cb a0).bind fun q1=>(Cc q1).bind fun q3=>some q3
theorem n91:Nm prog 147:=⟨_,_,func147,by kernel_rfl,z⟩
theorem c91 (a0:List Col):aW prog 147 [(tL tCol).va a0] [] (f91 a0) (fun v=>v) (fun q v=>[arrO tCol v q]) (fun _ v=>tRaw.va v):=by
 refine .w func147 ntmps147 fun hf A w=>?_
 unfold f91
 exact .s<|.a z z<|.arrNil tCol<|.nil<|.s<|.m z z<|.callL0 (c122 _) n122 z z fun q1 v2=>.unRaw 4 z<|.callS 0 (c121 _ _) z n121 z z fun q3 v4=>.unRaw 5 z<|.an z z<|.toRaw 0 2 z z<|.retL1 v4 func147 results147 (.tmp z) z (fun _ _ _ h=>h.1) (.d<|.c<|.e)
def lB (a0:aa)(i3:aa):Option Bool:=some (decide (i3=a0))
def Ap (fu:Nat)(a0:aa):Option Bool:=cond (decide (a0.kind=1)) (lB a0 ({ (⟨a0.kind,d0_56.name,d0_56.new,d0_56.col⟩:aa) with col:=a0.col }:aa)) (cond (decide (a0.kind=2)) (lB a0 ({ (⟨a0.kind,d0_56.name,d0_56.new,d0_56.col⟩:aa) with name:=a0.name }:aa)) (cond (decide (a0.kind=3)) (lB a0 ({ ({ (⟨a0.kind,d0_56.name,d0_56.new,d0_56.col⟩:aa) with name:=a0.name }:aa) with new:=a0.new }:aa)) (cond (decide (a0.kind=4)) (lB a0 ({ ({ (⟨a0.kind,d0_56.name,d0_56.new,d0_56.col⟩:aa) with name:=a0.name }:aa) with col:=({ ({ (⟨a0.kind,d0_56.name,d0_56.new,d0_56.col⟩:aa) with name:=a0.name }:aa).col with kind:=a0.col.kind }:Col) }:aa)) (some false))))
theorem n112:Nm prog 164:=⟨_,_,func164,by kernel_rfl,z⟩
theorem c112 (fu:Nat)(a0:aa):Ctr prog 164 [tChange.va a0] [] (Ap fu a0) (fun _ _=>[]) (fun q=>isB q):=by
 refine .w func164 ntmps164 fun hf A w=>?_
 unfold Ap
 refine .s<|.box (T:=tChange) z z fun b1=>.an z z<|.s<|go ?_
 refine .alloc tChange d0_56 [] z56 z fun b2=>go ?_
 refine .seq<|.s<|go ?_
 refine .block<|.s<|go ?_
 refine .join1 (fun i3=>⟨[(1,isP b1 0,none),(3,isP b2 0,none)],[boxO b2 tChange i3 [],boxO b1 tChange a0 []]⟩) (fun i3=>lB a0 i3) (fun i3=>?_) (fun hj1=>?_)
 ·refine .inBlock<|.s<|go ?_
  exact .eqT Cf z z z<|fr
 ·refine .cd z ?_ ?_
  ·exact fj (hj1 _)
  ·refine .s<|go ?_
   refine .cd z ?_ ?_
   ·exact fj (hj1 _)
   ·refine .s<|go ?_
    refine .cd z ?_ ?_
    ·exact .drawS 6 [] [5] [0] mix (by kernel_rfl) sts z<|.consS z fun _ _ hE h=>.storeP 0 gY (hE.op z) z (hE.op z) ty9<|h _ (.hole z<|.same<|.nil)<|fj (hj1 _)
    ·refine .s<|go ?_
     refine .cd z ?_ ?_
     ·exact .drawS 7 [] [6] [0] mix (by kernel_rfl) sts z<|.consS z fun _ _ hE h=>.storeP 0 gY (hE.op z) z (hE.op z) ty9<|h _ (.hole z<|.same<|.nil)<|fj (hj1 _)
     ·exact fr
def BB (a0:List Col)(a1 a2:Int):Option (List Col):=cond (decide (0≤a1)&&decide (a1≤a2)&&decide (a2≤(a0.length:Int))) (some (a0.take a1.toNat++a0.drop a2.toNat)) none
theorem n113:Nm prog 190:=⟨_,_,func190,by kernel_rfl,z⟩
theorem c113 (v0:Value)(a0:List Col)(a1 a2:Int):aW prog 190 [isV v0,isI .i64 a1,isI .i64 a2] [arrO tCol v0 a0] (BB a0 a1 a2) (fun v=>v) (fun q v=>[arrO tCol v q]) (fun _ v=>tRaw.va v):=by
 refine .w func190 ntmps190 fun hf A w=>?_
 unfold BB
 refine .pcond (fun h=>?_) (fun _=>.stop)
 simp only [Bool.and_eq_true,decide_eq_true_eq] at h
 obtain ⟨⟨h1,h2⟩,h3⟩:=h
 obtain ⟨i,rfl⟩:∃ i:Nat,a1=i:=⟨a1.toNat,by omega⟩
 obtain ⟨j,rfl⟩:∃ j:Nat,a2=j:=⟨a2.toNat,by omega⟩
 refine .arrV 0 z fun ad n c hv hn hnc hlim had=>?_
 subst hv
 have hij:i≤j:=by omega
 have hjn:j≤n:=by omega
 refine .s<|.an z z<|.s<|.m z z<|.m z z<|.m z z<|.m z z<|.lenV z u36 z<|.sliceV (T:=tCol) (l:=i) (h':=j) (m:=n) z u36 cq ⟨_,z⟩ ⟨_,z⟩ ⟨_,z⟩ hij hjn hnc z z<|.nil<|.eqr (r':=cond (decide ((i:Int)=(j:Int))) (some (a0.take i++a0.drop j)) (some (a0.take i++a0.drop j))) (by cases decide ((i:Int)=(j:Int))<;>rfl) ?_
 refine .seq<|.s<|go ?_
 refine .cond z (fun h=>?_) (fun h=>?_)
 ·simp only [decide_eq_true_eq,Int.natCast_inj] at h
  subst h
  refine .eqr (r':=some a0) (by simp) ?_
  refine .s<|go ?_
  exact .toRaw 0 6 z z<|.retL1 _ func190 results190 (.tmp z) z (fun _ _ _ h=>h.1) (.cons_cons _ .e)
 ·simp only [decide_eq_false_iff_not,Int.natCast_inj] at h
  have hc:0<c:=by omega
  obtain ⟨b,o,rfl⟩:=had hc
  have hi:i<j:=by omega
  have e1:(if c=0 then some (⟨b,o,none⟩:Addr) else (some (⟨b,o,none⟩:Addr)).map (·.add (0*tCol.sz)))=some ⟨b,o,none⟩:=by rw [if_neg (by omega)];simp [Addr.add0]
  have e2:i+(n-j)-0=i+(n-j):=by omega
  have e3:(if c=i+(n-j) then some (⟨b,o,none⟩:Addr) else (some (⟨b,o,none⟩:Addr)).map (·.add ((i+(n-j))*tCol.sz)))=some ⟨b,o+(i+(n-j))*tCol.sz,none⟩:=by rw [if_neg (by omega)];simp [Addr.add0]
  refine .skip<|.s<|.m z z<|.lenV z u36 z<|.an z z<|.seq<|.draw 6 [] mix (by kernel_rfl) (.j (fun o=>.m (o z) z)<|.j (fun o=>.m (o z) z)<|.j (fun o=>.sliceV (T:=tCol) (lo:=none) (hi:=some _) (mx:=none) (l:=0) (h':=i) (m:=c) (o z) u36 cq z ⟨_,o z⟩ z (Nat.zero_le _) (by omega) (Nat.le_refl _) e1 z)<|
   .j (fun o=>.m (o z) z)<|.j (fun o=>.m (o z) z)<|.j (fun o=>.sliceV (T:=tCol) (lo:=some _) (hi:=none) (mx:=none) (l:=j) (h':=n) (m:=c) (o z) u36 cq ⟨_,o z⟩ ⟨z,z⟩ z hjn hnc (Nat.le_refl _) z z)<|.nil) z<|?_
  refine .appDel (T:=tCol) 0 z z z hc hij hjn (fun hl=>by rw [if_neg (by omega)];simp [Addr.add0]) u36 cq z<|go ?_
  refine .s<|.m z z<|.m z z<|.lenV z u36 z<|.m z z<|.sliceV (T:=tCol) (lo:=some _) (hi:=some _) (mx:=none) (l:=i+(n-j)) (h':=n) (m:=c) z u36 cq ⟨_,z⟩ ⟨_,z⟩ z (by omega) hnc (Nat.le_refl _) e3 z<|.clearV (T:=tCol) 0 z z hc (by omega) (by omega) u36 cq z52<|.nil ?_
  refine .s<|go ?_
  exact .toRaw 0 6 z z<|.retL1 _ func190 results190 (.tmp z) z (fun _ _ _ h=>h.1) (.cons_cons _ .e)
def eQ (q2:Int×Bool)(i4:Bool):Option Val:=cond i4 (some (⟨d0_47.kind,d0_47.n,d0_47.text⟩:Val)) (some (⟨1,q2.1,d0_47.text⟩:Val))
def Bx (fu:Nat)(a0:List UInt8):Option Val:=(B7 a0).bind fun q2=>cond q2.2 (eQ q2 true) ((f25 fu (⟨1,q2.1,d0_47.text⟩:Val)).bind fun q5=>cond (!q5) (eQ q2 true) ((zx q2.1).bind fun q6=>eQ q2 (!decide (q6=a0))))
theorem n132:Nm prog 214:=⟨_,_,func214,by kernel_rfl,z⟩
theorem c132 (fu:Nat)(a0:List UInt8):Ctr prog 214 [isS a0] [] (Bx fu a0) (fun _ _=>[]) (fun q=>tVal.va q):=by
 refine .w func214 ntmps214 fun hf A w=>?_
 unfold Bx
 refine .s<|.alloc tVal d0_47 [] z47 z fun b1=>.nil<|.s<|.m z z<|.call0 (c144 _) n144 z z fun q2=>go ?_
 refine .s<|go ?_
 refine .alloc tVal d0_47 [] z47 z fun b3=>go ?_
 refine .seq<|.seq<|.join1 (fun i4=>⟨[(2,isP b1 0,none),(5,isP b3 0,none),(25,isB i4,none)],[boxO b3 tVal (⟨1,q2.1,d0_47.text⟩:Val) [],boxO b1 tVal d0_47 []]⟩) (fun i4=>eQ q2 i4) (fun i4=>?_) (fun hj1=>?_)
 ·refine .cd z ?_ ?_
  ·exact fr
  ·exact fr
 ·refine .g<|.m z z<|.errNe z CZ z<|.m z z<|.split 15 z (fun _=>?_) (fun _=>?_)
  ·exact fj (hj1 _)
  ·refine go ?_
   refine .call0 (c25 fu _) n25 z z fun q5=>go ?_
   refine .split 20 z (fun _=>?_) (fun _=>?_)
   ·exact fj (hj1 _)
   ·refine go ?_
    exact .call0 (c131 _) n131 z z fun q6=>fj (hj1 _)
def ly (fu:Nat)(a0:Val)(a1:Int)(i3:Bool):Option Val:=cond i3 (some (⟨d0_47.kind,d0_47.n,d0_47.text⟩:Val)) (cond (decide (a0.kind=a1)) (some a0) (cond (decide (a1=2)) ((zx a0.n).bind fun q4=>some (⟨2,d0_47.n,q4⟩:Val)) ((Bx fu a0.text).bind fun q5=>some q5)))
def Ao (fu:Nat)(a0:Val)(a1:Int):Option Val:=(f25 fu a0).bind fun q6=>cond (!q6) (ly fu a0 a1 true) (cond (decide (a0.kind=0)) (ly fu a0 a1 true) ((f56 fu a1 1 2).bind fun q7=>ly fu a0 a1 (!q7)))
theorem n114:Nm prog 191:=⟨_,_,func191,by kernel_rfl,z⟩
theorem c114 (fu:Nat)(a0:Val)(a1:Int):Ctr prog 191 [tVal.va a0,isI .i64 a1] [] (Ao fu a0 a1) (fun _ _=>[]) (fun q=>tVal.va q):=by
 refine .w func191 ntmps191 fun hf A w=>?_
 unfold Ao
 refine .s<|.box (T:=tVal) z z fun b1=>.alloc tVal d0_47 [] z47 z fun b2=>.nil<|.seq<|.block<|.seq<|.join1 (fun i3=>⟨[(1,isI .i64 a1,none),(2,isP b1 0,none),(4,isP b2 0,none),(5,isB i3,none)],[boxO b2 tVal d0_47 [],boxO b1 tVal a0 []]⟩) (fun i3=>ly fu a0 a1 i3) (fun i3=>?_) (fun hj1=>?_)
 ·refine .cd z ?_ ?_
  ·exact fr
  ·refine .s<|go ?_
   refine .cd z ?_ ?_
   ·exact fr
   ·refine .s<|go ?_
    refine .cd z ?_ ?_
    ·refine .s<|go ?_
     exact .call0 (c131 _) n131 z z fun q4=>fr
    ·refine .skip<|.inBlock<|.s<|go ?_
     exact .call0 (c132 fu _) n132 z z fun q5=>fr
 ·refine .g<|go ?_
  refine .call0 (c25 fu _) n25 z z fun q6=>go ?_
  refine .split 9 z (fun _=>?_) (fun _=>?_)
  ·exact fj (hj1 _)
  ·refine go ?_
   refine .split 14 z (fun _=>?_) (fun _=>?_)
   ·exact fj (hj1 _)
   ·refine go ?_
    exact .call0 (c56 fu _ _ _) n56 z z fun q7=>fj (hj1 _)
end Go.Proofs.YtganfdhmkdehlaaGreatDoor
