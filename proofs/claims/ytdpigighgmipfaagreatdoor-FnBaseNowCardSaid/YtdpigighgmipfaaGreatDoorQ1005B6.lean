/- Functions of the program: what each answers, and that the machine answers so. -/
import Derived.Test.YtdpigighgmipfaaGreatDoorQ1005B5
import Derived.Test.YtdpigighgmipfaaGreatDoorQ1005AU
import Derived.KernelRfl
set_option linter.all false
namespace Go.Proofs.YtdpigighgmipfaaGreatDoor
open Go Go.HL Tryz
attribute [local irreducible] W WO
def f1073 (fu:Nat)(a0:Base)(a1:Link):Option Bool:=(f1056 fu a0 a1.to).bind fun q4=>cond (decide (0≤q4)&&decide (q4 < (a0.tabs.length:Int))) ((f1086 fu a0 a1 (fun x0 x1 s=>f1136 fu x0 x1 s ((a0.tabs.getD q4.toNat default).table)) true).bind fun q6=>some q6) none
theorem n1073:Nm prog 73:=⟨_,_,func73,by kernel_rfl,z⟩
theorem c1073 (fu:Nat)(a0:Base)(a1:Link):Ctr prog 73 [tBase.va a0,tLink.va a1] [] (f1073 fu a0 a1) (fun _ _=>[]) (fun q=>isB q):=by
 refine .w func73 ntmps73 fun hf A w=>?_
 unfold f1073
 refine .s<|.box (T:=tBase) z z fun b1=>.box (T:=tLink) z z fun b2=>.an z z<|.s<|.alloc tB d0_4 [] z4 z fun b3=>go ?_
 refine .seq<|.pb (c1056 fu _ _) n1056 fun q4 h1 k=>.pT fun h2=>.drawS 10 [] [9] [] mix (by kernel_rfl) sts z<|.cons (d:=6) z z fun _ _ hE h=>.alloc tTable d0_27 [] z27 z fun b5=>.toEnd<|h _ _ (.same<|.same<|.same<|.nil)<|go ?_
 exact .s<|.lp 2 (Fld.self _) z z ty1026 z<|.lp 1 (Fld.self _) z z ty1044 z<|.frzP 3 6 z z<|.makeF z z<|.call1 0 (c1086 fu _ _ (fun x0 x1 s=>f1136 fu x0 x1 s ((a0.tabs.getD q4.toNat default).table)) (fun s=>boxO b3 tB s []) 136 [isP b3 0,isAt tTable ((a0.tabs.getD q4.toNat default).table)] n1136 (fun x0 x1 s=>c1136 fu x0 x1 b3 s ((a0.tabs.getD q4.toNat default).table)) _) z n1086 z z fun q6=>fr
def f1138_j1 (i2:Bool):Option Bool:=some i2
def f1138 (fu:Nat)(a0:Link)(a1:List UInt8)(a2:List UInt8):Option Bool:=cond (decide (a0.from_=a1)) (f1138_j1 (decide (a0.col=a2))) (f1138_j1 false)
theorem n1138:Nm prog 138:=⟨_,_,func138,by kernel_rfl,z⟩
theorem c1138 (fu:Nat)(a0:Link)(a1:List UInt8)(a2:List UInt8):Ctr prog 138 [tLink.va a0,isAt tS a1,isAt tS a2] [] (f1138 fu a0 a1 a2) (fun _ _=>[]) (fun q=>isB q):=by
 refine .w func138 ntmps138 fun hf A w=>?_
 unfold f1138
 refine .s<|.box (T:=tLink) z z fun b1=>.an z z<|.seq<|.join1 (fun i2=>⟨[(4,isB i2,none)],[]⟩) (fun i2=>f1138_j1 i2) (fun i2=>?_) (fun hj1=>?_)
 ·exact fr
 ·refine .g<|go ?_
  refine .split 9 z (fun _=>?_) (fun _=>?_)
  ·exact fj (hj1 _)
  ·exact fj (hj1 _)
def f1137_l1 (a0:List Link)(a1:Link→Option Bool):Nat→Int→Option Int
 | 0,_=>none
 | n1+1,i1=>cond (decide (i1 < (a0.length:Int))) (cond (decide (0≤i1)&&decide (i1 < (a0.length:Int))) ((a1 (a0.getD i1.toNat default)).bind fun q2=>cond q2 (some i1) ((f1137_l1 a0 a1 n1) (IntKind.i64.wrap (i1+1)))) none) (some (-1))
def f1137 (fu:Nat)(a0:List Link)(a1:Link→Option Bool):Option Int:=f1137_l1 a0 a1 fu 0
theorem n1137:Nm prog 137:=⟨_,_,func137,by kernel_rfl,z⟩
theorem c1137 (fu : Nat)(a0 : List Link)(a1 : Link → Option Bool)(g1 : Nat)(k1 : List VA)(hn1 : ∃ fn c, prog.funcs[g1]? = some fn ∧ (fn.name == "runtime.NumGoroutine") = false ∧ fn.body = some c)(hc1 : ∀ (x0 : Link), Ctr prog g1 ([tLink.va x0] ++ k1) [] (a1 x0) (fun _ _ => []) (fun q => isB q)) : Ctr prog 137 [(tL tLink).va a0, isClo g1 k1] [] (f1137 fu a0 a1) (fun _ _ => []) (fun q => isI .i64 q) := by
 refine .w func137 ntmps137 fun hf A w=>?_
 unfold f1137
 refine .s<|.an z z<|.seq<|.s<|go ?_
 refine .block<|.loop<|.keep [0,1,7,8] [] z<|(show ∀ (n1:Nat) (i1:Int),W _ _ _ _ _ ⟨[(0,(tL tLink).va a0,none),(1,isClo g1 k1,none),(7,isI .i64 (a0.length:Int),none),(8,isI .i64 i1,none)],[]⟩ (f1137_l1 a0 a1 n1 i1) from ?_) fu _
 intro n1
 induction n1 with
 | zero=>exact fun _=>.stop
 | succ n1 ih1=>
  intro i1
  refine .inLoop<|.s<|go ?_
  refine .seq<|.cd z ?_ ?_
  ·refine .skip<|.seq<|.block<|.s<|go ?_
   refine .s<|go ?_
   refine .callC z (hc1 _) hn1 z z fun q2=>.nil<|.cd z ?_ ?_
   ·exact fr
   ·exact fj (ih1 _)
  ·exact fr
def f1074 (fu:Nat)(a0:Base)(a1:List UInt8)(a2:List UInt8):Option Int:=(f1137 fu a0.links (fun x0=>f1138 fu x0 a1 a2)).bind fun q4=>some q4
theorem n1074:Nm prog 74:=⟨_,_,func74,by kernel_rfl,z⟩
theorem c1074 (fu:Nat)(a0:Base)(a1:List UInt8)(a2:List UInt8):Ctr prog 74 [tBase.va a0,isS a1,isS a2] [] (f1074 fu a0 a1 a2) (fun _ _=>[]) (fun q=>isI .i64 q):=by
 refine .w func74 ntmps74 fun hf A w=>?_
 unfold f1074
 exact .s<|.box (T:=tBase) z z fun b1=>.box (T:=tS) z z fun b2=>.box (T:=tS) z z fun b3=>.an z z<|.s<|.fp z fa1026_1 z<|.lp 2 fBase_1 z z ty1024 z<|.frzP 1 4 z z<|.frzP 0 5 z z<|.makeF z z<|.call0 (c1137 fu _ (fun x0=>f1138 fu x0 a1 a2) 138 [isAt tS a1,isAt tS a2] n1138 (fun x0=>c1138 fu x0 a1 a2)) n1137 z z fun q4=>fr
def f1020_j6 (i2:Int)(rec1:Int→Option Bool)(i4:Bool):Option Bool:=cond i4 (some false) (rec1 (IntKind.i64.wrap (i2+1)))
def f1020_j9 (i8:Int)(rec1:Int→Option Bool)(rec2:Int→Option Bool)(i10:Bool):Option Bool:=cond i10 (some false) (rec2 (IntKind.i64.wrap (i8+1)))
def f1020_j10 (rec1:Int→Option Bool)(rec2:Int→Option Bool)(i14:Bool):Option Bool:=some i14
def f1020_l2 (fu:Nat)(a0:Base)(rec1:Int→Option Bool):Nat→Int→Option Bool
 | 0,_=>none
 | n2+1,i8=>cond (decide (i8 < (a0.links.length:Int))) (cond (decide (0≤i8)&&decide (i8 < (a0.links.length:Int))) ((f1072 fu a0 (a0.links.getD i8.toNat default)).bind fun q11=>cond (!q11) (f1020_j9 i8 rec1 (f1020_l2 fu a0 rec1 n2) true) ((f1073 fu a0 (a0.links.getD i8.toNat default)).bind fun q12=>cond (!q12) (f1020_j9 i8 rec1 (f1020_l2 fu a0 rec1 n2) true) ((f1074 fu a0 ((a0.links.getD i8.toNat default).from_) ((a0.links.getD i8.toNat default).col)).bind fun q13=>f1020_j9 i8 rec1 (f1020_l2 fu a0 rec1 n2) (!decide (q13=i8))))) none) (cond (decide ((a0.tabs.length:Int)≤3)) (f1020_j10 rec1 (f1020_l2 fu a0 rec1 n2) (decide ((a0.links.length:Int)≤4))) (f1020_j10 rec1 (f1020_l2 fu a0 rec1 n2) false))
def f1020_l1 (fu:Nat)(a0:Base):Nat→Int→Option Bool
 | 0,_=>none
 | n1+1,i2=>cond (decide (i2 < (a0.tabs.length:Int))) (cond (decide (0≤i2)&&decide (i2 < (a0.tabs.length:Int))) ((f128 fu ((a0.tabs.getD i2.toNat default).name)).bind fun q5=>cond (!q5) (f1020_j6 i2 (f1020_l1 fu a0 n1) true) ((f1056 fu a0 ((a0.tabs.getD i2.toNat default).name)).bind fun q6=>cond (!decide (q6=i2)) (f1020_j6 i2 (f1020_l1 fu a0 n1) true) ((f19 fu ((a0.tabs.getD i2.toNat default).table)).bind fun q7=>f1020_j6 i2 (f1020_l1 fu a0 n1) (!q7)))) none) (f1020_l2 fu a0 (f1020_l1 fu a0 n1) fu 0)
def f1020 (fu:Nat)(a0:Base):Option Bool:=f1020_l1 fu a0 fu 0
theorem n1020:Nm prog 20:=⟨_,_,func20,by kernel_rfl,z⟩
theorem c1020 (fu:Nat)(a0:Base):Ctr prog 20 [tBase.va a0] [] (f1020 fu a0) (fun _ _=>[]) (fun q=>isB q):=by
 refine .w func20 ntmps20 fun hf A w=>?_
 unfold f1020
 refine .s<|.box (T:=tBase) z z fun b1=>.an z z<|.seq<|.s<|go ?_
 refine .block<|.loop<|.keep [1,8,9,10] [] z<|(show ∀ (n1:Nat) (i2:Int),W _ _ _ _ _ ⟨[(1,isP b1 0,none),(8,(tL tTab).va a0.tabs,none),(9,isI .i64 (a0.tabs.length:Int),none),(10,isI .i64 i2,none)],[boxO b1 tBase a0 []]⟩ (f1020_l1 fu a0 n1 i2) from ?_) fu _
 intro n1
 induction n1 with
 | zero=>exact fun _=>.stop
 | succ n1 ih1=>
  intro i2
  refine .inLoop<|.s<|go ?_
  refine .seq<|.cd z ?_ ?_
  ·refine .skip<|.seq<|.block<|.s<|go ?_
   refine .alloc tTab d0_1039 [] z1039 z fun b3=>go ?_
   refine .seq<|.join1 (fun i4=>⟨[(1,isP b1 0,none),(8,(tL tTab).va a0.tabs,none),(9,isI .i64 (a0.tabs.length:Int),none),(10,isI .i64 i2,none),(32,isB i4,none)],[boxO b1 tBase a0 []]⟩) (fun i4=>f1020_j6 i2 (f1020_l1 fu a0 n1) i4) (fun i4=>?_) (fun hj6=>?_)
   ·refine .cd z ?_ ?_
    ·exact fr
    ·exact fj (ih1 _)
   ·refine .g<|go ?_
    refine .call0 (c128 fu _) n128 z z fun q5=>go ?_
    refine .split 19 z (fun _=>?_) (fun _=>?_)
    ·exact fj (hj6 _)
    ·refine go ?_
     refine .call0 (c1056 fu _ _) n1056 z z fun q6=>go ?_
     refine .split 27 z (fun _=>?_) (fun _=>?_)
     ·exact fj (hj6 _)
     ·refine go ?_
      exact .call0 (c19 fu _) n19 z z fun q7=>fj (hj6 _)
  ·refine .exit z<|.seq<|.s<|go ?_
   refine .block<|.loop<|.keep [1,35,36,37] [] z<|(show ∀ (n2:Nat) (i8:Int),W _ _ _ _ _ ⟨[(1,isP b1 0,none),(35,(tL tLink).va a0.links,none),(36,isI .i64 (a0.links.length:Int),none),(37,isI .i64 i8,none)],[boxO b1 tBase a0 []]⟩ (f1020_l2 fu a0 (f1020_l1 fu a0 n1) n2 i8) from ?_) fu _
   intro n2
   induction n2 with
   | zero=>exact fun _=>.stop
   | succ n2 ih2=>
    intro i8
    refine .inLoop<|.s<|go ?_
    refine .seq<|.cd z ?_ ?_
    ·refine .skip<|.seq<|.block<|.s<|go ?_
     refine .alloc tLink d0_1044 [] z1044 z fun b9=>go ?_
     refine .seq<|.join1 (fun i10=>⟨[(1,isP b1 0,none),(35,(tL tLink).va a0.links,none),(36,isI .i64 (a0.links.length:Int),none),(37,isI .i64 i8,none),(61,isB i10,none)],[boxO b1 tBase a0 []]⟩) (fun i10=>f1020_j9 i8 (f1020_l1 fu a0 n1) (f1020_l2 fu a0 (f1020_l1 fu a0 n1) n2) i10) (fun i10=>?_) (fun hj9=>?_)
     ·refine .cd z ?_ ?_
      ·exact fr
      ·exact fj (ih2 _)
     ·refine .g<|go ?_
      refine .call0 (c1072 fu _ _) n1072 z z fun q11=>go ?_
      refine .split 46 z (fun _=>?_) (fun _=>?_)
      ·exact fj (hj9 _)
      ·refine go ?_
       refine .call0 (c1073 fu _ _) n1073 z z fun q12=>go ?_
       refine .split 52 z (fun _=>?_) (fun _=>?_)
       ·exact fj (hj9 _)
       ·refine go ?_
        exact .call0 (c1074 fu _ _ _) n1074 z z fun q13=>fj (hj9 _)
    ·refine .exit z<|.seq<|.join1 (fun i14=>⟨[(2,isB i14,none)],[]⟩) (fun i14=>f1020_j10 (f1020_l1 fu a0 n1) (f1020_l2 fu a0 (f1020_l1 fu a0 n1) n2) i14) (fun i14=>?_) (fun hj10=>?_)
     ·exact fr
     ·refine .g<|go ?_
      refine .split 67 z (fun _=>?_) (fun _=>?_)
      ·exact fj (hj10 _)
      ·exact fj (hj10 _)
def f1126 (a0:List Tab):Option (List Tab):=cond (decide (List.length ([]:List Tab)+a0.length≤CAP)) (some (([]:List Tab)++a0)) none
theorem n1126:Nm prog 126:=⟨_,_,func126,by kernel_rfl,z⟩
attribute [local semireducible] W WO
theorem c1126 (a0:List Tab):CtrL prog 126 [(tL tTab).va a0] [] (f1126 a0) (fun v=>v) (fun q v=>[arrO tTab v q]) (fun _ v=>tRaw.va v):=by
 refine CtrL.of_W func126 z ntmps126 z fun A w=>?_
 unfold f1126
 refine .s<|.a z z<|.arrNil tTab<|.nil<|.seq<|.s<|.m z z<|.eqNil z u23 z fun nb1 hnb1=>.nil<|.eqr (r':=cond nb1 (cond (decide (List.length ([]:List Tab)+a0.length≤CAP)) (some (([]:List Tab)++a0)) none) (cond (decide (List.length ([]:List Tab)+a0.length≤CAP)) (some (([]:List Tab)++a0)) none)) ?_<|.cond z (fun _=>?_) (fun _=>?_)
 ·cases nb1<;>rfl
 ·obtain rfl:=hnb1 (by assumption)
  refine .eqr (r':=some ([]:List Tab)) (by simp) ?_
  exact .s<|.an z z<|.toRaw 0 2 z z<|.retL1 (.slice none 0 0) func126 results126 (.tmp z) z (fun _ _ _ h=>h.1) (.d<|.e)
 ·exact .skip<|.s<|.lit (T:=tTab) u23 el1039 z z (.nil) z fun v2=>.toArr 0 5 z z z<|.m z z<|.appA (T:=tTab) 0 z z z u23 el1039 z fun v3=>.an z z<|.toRaw 0 2 z z<|.retL1 v3 func126 results126 (.tmp z) z (fun _ _ _ h=>h.1) (.d<|.c<|.e)
attribute [local irreducible] W WO
def f1125 (a0:List Tab):Option (List Tab):=some a0
theorem n1125:Nm prog 125:=⟨_,_,func125,by kernel_rfl,z⟩
theorem c1125 (vp0:Value)(a0:List Tab):CtrL prog 125 [isV vp0] [arrO tTab vp0 a0] (f1125 a0) (fun v=>v) (fun q v=>[arrO tTab v q]) (fun _ v=>tRaw.va v):=by
 refine .w func125 ntmps125 fun hf A w=>?_
 unfold f1125
 exact .know 0 z<|.s<|.a z z<|.arrNil tTab<|.nil<|.s<|.m z z<|.m z z<|.lenA 1 z z u23 z<|.m z z<|.lenA 1 z z u23 z<|.clip (T:=tTab) 1 z z z z u23 el1039 z fun v1=>.an z z<|.toRaw 1 2 z z<|.retL1 v1 func125 results125 (.tmp z) z (fun _ _ _ h=>h.1) (.c<|.d<|.e)
def f1058 (a0:List Tab):Option (List Tab):=(f1126 a0).bind fun q1=>(f1125 q1).bind fun q3=>some q3
theorem n1058:Nm prog 58:=⟨_,_,func58,by kernel_rfl,z⟩
theorem c1058 (a0:List Tab):CtrL prog 58 [(tL tTab).va a0] [] (f1058 a0) (fun v=>v) (fun q v=>[arrO tTab v q]) (fun _ v=>tRaw.va v):=by
 refine .w func58 ntmps58 fun hf A w=>?_
 unfold f1058
 exact .s<|.a z z<|.arrNil tTab<|.nil<|.s<|.m z z<|.callL0 (c1126 _) n1126 z z fun q1 v2=>.unRaw 4 z<|.callS 0 (c1125 _ _) z n1125 z z fun q3 v4=>.unRaw 5 z<|.an z z<|.toRaw 0 2 z z<|.retL1 v4 func58 results58 (.tmp z) z (fun _ _ _ h=>h.1) (.d<|.c<|.e)
def f1142 (a0:List Link):Option (List Link):=cond (decide (List.length ([]:List Link)+a0.length≤CAP)) (some (([]:List Link)++a0)) none
theorem n1142:Nm prog 142:=⟨_,_,func142,by kernel_rfl,z⟩
attribute [local semireducible] W WO
theorem c1142 (a0:List Link):CtrL prog 142 [(tL tLink).va a0] [] (f1142 a0) (fun v=>v) (fun q v=>[arrO tLink v q]) (fun _ v=>tRaw.va v):=by
 refine CtrL.of_W func142 z ntmps142 z fun A w=>?_
 unfold f1142
 refine .s<|.a z z<|.arrNil tLink<|.nil<|.seq<|.s<|.m z z<|.eqNil z u24 z fun nb1 hnb1=>.nil<|.eqr (r':=cond nb1 (cond (decide (List.length ([]:List Link)+a0.length≤CAP)) (some (([]:List Link)++a0)) none) (cond (decide (List.length ([]:List Link)+a0.length≤CAP)) (some (([]:List Link)++a0)) none)) ?_<|.cond z (fun _=>?_) (fun _=>?_)
 ·cases nb1<;>rfl
 ·obtain rfl:=hnb1 (by assumption)
  refine .eqr (r':=some ([]:List Link)) (by simp) ?_
  exact .s<|.an z z<|.toRaw 0 2 z z<|.retL1 (.slice none 0 0) func142 results142 (.tmp z) z (fun _ _ _ h=>h.1) (.d<|.e)
 ·exact .skip<|.s<|.lit (T:=tLink) u24 el1044 z z (.nil) z fun v2=>.toArr 0 5 z z z<|.m z z<|.appA (T:=tLink) 0 z z z u24 el1044 z fun v3=>.an z z<|.toRaw 0 2 z z<|.retL1 v3 func142 results142 (.tmp z) z (fun _ _ _ h=>h.1) (.d<|.c<|.e)
attribute [local irreducible] W WO
def f1141 (a0:List Link):Option (List Link):=some a0
theorem n1141:Nm prog 141:=⟨_,_,func141,by kernel_rfl,z⟩
theorem c1141 (vp0:Value)(a0:List Link):CtrL prog 141 [isV vp0] [arrO tLink vp0 a0] (f1141 a0) (fun v=>v) (fun q v=>[arrO tLink v q]) (fun _ v=>tRaw.va v):=by
 refine .w func141 ntmps141 fun hf A w=>?_
 unfold f1141
 exact .know 0 z<|.s<|.a z z<|.arrNil tLink<|.nil<|.s<|.m z z<|.m z z<|.lenA 1 z z u24 z<|.m z z<|.lenA 1 z z u24 z<|.clip (T:=tLink) 1 z z z z u24 el1044 z fun v1=>.an z z<|.toRaw 1 2 z z<|.retL1 v1 func141 results141 (.tmp z) z (fun _ _ _ h=>h.1) (.c<|.d<|.e)
def f1082 (a0:List Link):Option (List Link):=(f1142 a0).bind fun q1=>(f1141 q1).bind fun q3=>some q3
theorem n1082:Nm prog 82:=⟨_,_,func82,by kernel_rfl,z⟩
theorem c1082 (a0:List Link):CtrL prog 82 [(tL tLink).va a0] [] (f1082 a0) (fun v=>v) (fun q v=>[arrO tLink v q]) (fun _ v=>tRaw.va v):=by
 refine .w func82 ntmps82 fun hf A w=>?_
 unfold f1082
 exact .s<|.a z z<|.arrNil tLink<|.nil<|.s<|.m z z<|.callL0 (c1142 _) n1142 z z fun q1 v2=>.unRaw 4 z<|.callS 0 (c1141 _ _) z n1141 z z fun q3 v4=>.unRaw 5 z<|.an z z<|.toRaw 0 2 z z<|.retL1 v4 func82 results82 (.tmp z) z (fun _ _ _ h=>h.1) (.d<|.c<|.e)
def f1054_l1 (fu:Nat)(a0:Base)(i7:List Link):Nat→Int→(List Tab)→Option Base
 | 0,_,_=>none
 | n1+1,i8,i9=>cond (decide (i8 < (a0.tabs.length:Int))) (cond (decide (0≤i8)&&decide (i8 < (a0.tabs.length:Int))) ((f80 fu ((a0.tabs.getD i8.toNat default).table)).bind fun q11=>cond (decide (0≤i8)&&decide (i8 < (i9.length:Int))) ((f1054_l1 fu a0 i7 n1) (IntKind.i64.wrap (i8+1)) (i9.set i8.toNat ({ (i9.getD i8.toNat default) with table:=q11 }:Tab))) none) none) (some (⟨i9,i7⟩:Base))
def f1054_j1 (fu:Nat)(a0:Base)(i6:List Tab)(i7:List Link):Option Base:=f1054_l1 fu a0 i7 fu 0 i6
def f1054 (fu:Nat)(a0:Base):Option Base:=(f1058 a0.tabs).bind fun q14=>(f1082 a0.links).bind fun q16=>f1054_j1 fu a0 q14 q16
theorem n1054:Nm prog 54:=⟨_,_,func54,by kernel_rfl,z⟩
theorem c1054 (fu:Nat)(a0:Base):CtrL prog 54 [tBase.va a0] [] (f1054 fu a0) baseV (fun q p=>[arrO tTab p.1 q.tabs,arrO tLink p.2 q.links]) (fun q p=>tBaseA.va (⟨p.1,p.2⟩:BaseA)):=by
 refine .w func54 ntmps54 fun hf A w=>?_
 unfold f1054
 refine .s<|.box (T:=tBase) z z fun b1=>.alloc tBaseA d0A1026 [] zA1026 z fun b2=>.nil<|.seq<|.join5 (fun b3 v4 v5 i6 i7=>⟨[(1,isP b1 0,none),(2,isP b2 0,none),(3,isP b3 0,none)],[boxO b2 tBaseA (⟨(.slice none 0 0),(.slice none 0 0)⟩:BaseA) [],boxO b1 tBase a0 [],arrO tTab v4 i6,arrO tLink v5 i7,boxO b3 tBaseA (⟨v4,v5⟩:BaseA) []]⟩) (fun b3 v4 v5 i6 i7=>f1054_j1 fu a0 i6 i7) (fun b3 v4 v5 i6 i7=>?_) (fun hj1=>?_)
 ·refine .seq<|.s<|go ?_
  refine .block<|.loop<|.drop (.d<|.c<|.d<|.d<|.d<|.e)<|.keep [2,3,14,15,16] [] z<|(show ∀ (n1:Nat) (i8:Int) (i9:List Tab),W _ _ _ _ _ ⟨[(2,isP b2 0,none),(3,isP b3 0,none),(14,(tL tTab).va a0.tabs,none),(15,isI .i64 (a0.tabs.length:Int),none),(16,isI .i64 i8,none)],[boxO b2 tBaseA (⟨(.slice none 0 0),(.slice none 0 0)⟩:BaseA) [],arrO tTab v4 i9,arrO tLink v5 i7,boxO b3 tBaseA (⟨v4,v5⟩:BaseA) []]⟩ (f1054_l1 fu a0 i7 n1 i8 i9) from ?_) fu _ _
  intro n1
  induction n1 with
  | zero=>exact fun _ _=>.stop
  | succ n1 ih1=>
   intro i8 i9
   refine .inLoop<|.s<|go ?_
   refine .seq<|.cd z ?_ ?_
   ·refine .skip<|.seq<|.block<|.s<|go ?_
    refine .alloc tTab d0_1039 [] z1039 z fun b10=>go ?_
    exact .pbind fun q11 h2=>.drawS 6 [] [5] [] mix (by kernel_rfl) sts z<|.cons (d:=26) z z fun _ _ hE h=>.bindE2 h2 (fun r h=>.callL0 (c80 fu _) n80 (hE.ops z) z h) fun p12=>.toEnd<|.toEnd<|h _ _ (.same<|.same<|.same<|.same<|.same<|.nil)<|.nil<|.elemA 2 z z z u23 ty1039 z<|.fieldA z fa1039_1 z<|.frzT 26 5 conv27 z z<|fj (ih1 _ _)
   ·exact .exit z<|.s<|.lp 3 (Fld.self _) z z ty1026 z<|.storeP 0 (Fld.self _) z z z ty1026<|.nil<|.retL1 (v4,v5) func54 results54 (.cell 0 z z ty1026) z (fun _ _ _ h=>baseV_of h) (.c<|.d<|.d<|.c<|.e)
 ·refine .pbind fun q14 h3=>.pbind fun q16 h4=>.drawF 8 [] [2,5,6] (some 7) [] mix (by kernel_rfl) (.j (fun o=>.fp (o z) fa1026_0 z)<|.k (fun p e=>.lp 1 fBase_0 (e.op z) (p.get z z) ty1023 z)<|.skip<|.j (fun o=>.fp (o z) fa1026_1 z)<|.k (fun p e=>.lp 1 fBase_1 (e.op z) (p.get z z) ty1024 z)<|.skip<|.skip<|.skip<|.nil) z<|.next ?_ ?_
  ·refine .put 8 z z fun _ _ hE h=>.bindE2 h3 (fun r h=>.callL0 (c1058 _) n1058 (hE.ops z) z h) fun v15=>.toEnd<|h _ _ (.same<|.same<|.nil)<|.next ?_ ?_
   ·refine .put 11 z z fun _ _ hE h=>.bindE2 h4 (fun r h=>.callL0 (c1082 _) n1082 (hE.ops z) z h) fun v17=>.toEnd<|h _ _ (.same<|.same<|.nil)<|.next ?_ ?_
    ·exact .put 12 z z fun _ _ hE h=>.buildA z st1026 zA1026 (.cons fBaseA_0 z (vOf (hE.op z))<|.cons fBaseA_1 z (vOf (hE.op z))<|.nil) z<|h _ _ (.same<|.same<|.nil)<|.last<|.put 3 z z fun _ _ hE h=>.alloc tBaseA d0A1026 [] zA1026 z fun b13=>.toEnd<|h _ _ (.same<|.same<|.nil)<|fj (hj1 _ _ _ _ _)
    ·exact .put 3 z z fun _ _ hE h=>.alloc tBaseA d0A1026 [] zA1026 z fun b13=>.toEnd<|h _ _ (.same<|.same<|.nil)<|.cons (d:=12) z z fun _ _ hE h=>.buildA z st1026 zA1026 (.cons fBaseA_0 z (vOf (hE.op z))<|.cons fBaseA_1 z (vOf (hE.op z))<|.nil) z<|h _ _ (.same<|.same<|.nil)<|fj (hj1 _ _ _ _ _)
   ·exact .put 3 z z fun _ _ hE h=>.alloc tBaseA d0A1026 [] zA1026 z fun b13=>.toEnd<|h _ _ (.same<|.same<|.nil)<|.cons (d:=11) z z fun _ _ hE h=>.bindE2 h4 (fun r h=>.callL0 (c1082 _) n1082 (hE.ops z) z h) fun v17=>.toEnd<|h _ _ (.same<|.same<|.nil)<|.cons (d:=12) z z fun _ _ hE h=>.buildA z st1026 zA1026 (.cons fBaseA_0 z (vOf (hE.op z))<|.cons fBaseA_1 z (vOf (hE.op z))<|.nil) z<|h _ _ (.same<|.same<|.nil)<|.nil<|.pick [0,0,0,1,0] z<|fj (hj1 _ _ _ _ _)
  ·exact .put 3 z z fun _ _ hE h=>.alloc tBaseA d0A1026 [] zA1026 z fun b13=>.toEnd<|h _ _ (.same<|.same<|.nil)<|.cons (d:=8) z z fun _ _ hE h=>.bindE2 h3 (fun r h=>.callL0 (c1058 _) n1058 (hE.ops z) z h) fun v15=>.toEnd<|h _ _ (.same<|.same<|.nil)<|.cons (d:=11) z z fun _ _ hE h=>.bindE2 h4 (fun r h=>.callL0 (c1082 _) n1082 (hE.ops z) z h) fun v17=>.toEnd<|h _ _ (.same<|.same<|.nil)<|.cons (d:=12) z z fun _ _ hE h=>.buildA z st1026 zA1026 (.cons fBaseA_0 z (vOf (hE.op z))<|.cons fBaseA_1 z (vOf (hE.op z))<|.nil) z<|h _ _ (.same<|.same<|.nil)<|.nil<|.pick [0,0,1,1,0] z<|fj (hj1 _ _ _ _ _)
end Go.Proofs.YtdpigighgmipfaaGreatDoor
