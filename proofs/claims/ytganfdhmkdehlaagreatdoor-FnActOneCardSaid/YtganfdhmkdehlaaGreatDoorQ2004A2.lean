/- Functions of the program: what each answers, and that the machine answers so. -/
import Derived.Test.YtganfdhmkdehlaaGreatDoorQ2004A1
import Derived.KernelRfl
set_option linter.all false
namespace Go.Proofs.YtganfdhmkdehlaaGreatDoor
open Go Go.HL Tryz
attribute [local irreducible] W WO
def lw (fu:Nat)(a0:List Col)(a1:aa)(q2:Int)(i10:Bool):Option (List Col):=cond i10 (cond (decide (0≤q2)&&decide (q2 < (List.length (([]:List Col)++a0):Int))) (cond (decide (0≤q2)&&decide (q2 < (a0.length:Int))) ((Al fu ((a0.getD q2.toNat default).def_) a1.col.kind).bind fun q11=>cond (decide (0≤q2)&&decide (q2 < (List.length ((([]:List Col)++a0).set q2.toNat ({ ((([]:List Col)++a0).getD q2.toNat default) with kind:=a1.col.kind }:Col)):Int))) (some (((([]:List Col)++a0).set q2.toNat ({ ((([]:List Col)++a0).getD q2.toNat default) with kind:=a1.col.kind }:Col)).set q2.toNat ({ (((([]:List Col)++a0).set q2.toNat ({ ((([]:List Col)++a0).getD q2.toNat default) with kind:=a1.col.kind }:Col)).getD q2.toNat default) with def_:=q11 }:Col))) none) none) none) (some ([]:List Col))
def nL (fu:Nat)(a0:List Col)(a1:aa)(q2:Int)(i8:Bool):Option (List Col):=cond i8 ((Bw a0 q2).bind fun q9=>some q9) (cond (decide (a1.kind=3)) (cond (decide (0≤q2)&&decide (q2 < (List.length (([]:List Col)++a0):Int))) (some ((([]:List Col)++a0).set q2.toNat ({ ((([]:List Col)++a0).getD q2.toNat default) with name:=a1.new }:Col))) none) (cond (decide (a1.kind=4)) (cond (decide (a1.new=([]:List UInt8))) (cond (decide (0≤q2)&&decide (q2 < (a0.length:Int))) (lw fu a0 a1 q2 (!decide (a1.col.kind=((a0.getD q2.toNat default).kind)))) none) (lw fu a0 a1 q2 false)) (lw fu a0 a1 q2 false)))
def fB (fu:Nat)(a0:List Col)(a1:aa)(q2:Int)(i7:Bool):Option (List Col):=cond i7 (some ([]:List Col)) (cond (decide (a1.kind=2)) (nL fu a0 a1 q2 (decide (a1.new=([]:List UInt8)))) (nL fu a0 a1 q2 false))
def eS (fu:Nat)(a0:List Col)(a1:aa)(q2:Int)(i5:Bool):Option (List Col):=cond i5 (cond (decide (List.length (([]:List Col)++a0)+List.length ([a1.col]:List Col)≤CAP)) (some ((([]:List Col)++a0)++([a1.col]:List Col))) none) (cond (decide (a1.kind=1)) (fB fu a0 a1 q2 true) (cond (decide (q2<0)) (fB fu a0 a1 q2 true) ((Am a1).bind fun q12=>fB fu a0 a1 q2 (!decide (a1.col=q12)))))
def Bz (fu:Nat)(a0:List Col)(a1:aa):Option (List Col):=(f108 fu a0 a1.name).bind fun q2=>cond (decide (List.length ([]:List Col)+a0.length≤CAP)) (cond (decide (a1.kind=1)) (cond (decide (a1.name=([]:List UInt8))) (cond (decide (a1.new=([]:List UInt8))) (cond (!a1.col.need) (eS fu a0 a1 q2 true) (eS fu a0 a1 q2 (!decide (a1.col.def_.kind=0)))) (eS fu a0 a1 q2 false)) (eS fu a0 a1 q2 false)) (eS fu a0 a1 q2 false)) none
theorem n118:Nm prog 223:=⟨_,_,func223,by kernel_rfl,z⟩
theorem c118 (fu:Nat)(a0:List Col)(a1:aa):Ctr prog 223 [(tL tCol).va a0,tChange.va a1] [] (Bz fu a0 a1) (fun _ _=>[]) (fun q=>(tL tCol).va q):=by
 refine .w func223 ntmps223 fun hf A w=>?_
 unfold Bz
 refine .s<|.box (T:=tChange) z z fun b1=>.assignNil tCol z<|.nil<|.s<|go ?_
 refine .call0 (c108 fu _ _) n108 z z fun q2=>.an z z<|.s<|.lit (T:=tCol) u36 cq z z (.nil) z fun v3=>.toArr 0 11 z z z<|.m z z<|.appA (T:=tCol) 0 z z z u36 cq z fun v4=>.an z z<|.seq<|.block<|.seq<|.join1 (fun i5=>⟨[(0,(tL tCol).va a0,none),(3,isP b1 0,none),(5,isI .i64 q2,none),(14,isB i5,none),(6,isV v4,some v4)],[arrO tCol v4 (([]:List Col)++a0),boxO b1 tChange a1 []]⟩) (fun i5=>eS fu a0 a1 q2 i5) (fun i5=>?_) (fun hj1=>?_)
 ·refine .cd z ?_ ?_
  ·refine .s<|go ?_
   exact .frz 0 6 z z<|.also 41 6 z z<|.app (T:=tCol) 0 z z z u36 cq z fun v6=>fr
  ·refine .seq<|.join1 (fun i7=>⟨[(0,(tL tCol).va a0,none),(3,isP b1 0,none),(5,isI .i64 q2,none),(46,isB i7,none),(6,isV v4,some v4)],[arrO tCol v4 (([]:List Col)++a0),boxO b1 tChange a1 []]⟩) (fun i7=>fB fu a0 a1 q2 i7) (fun i7=>?_) (fun hj2=>?_)
   ·refine .cd z ?_ ?_
    ·exact fr
    ·refine .seq<|.join1 (fun i8=>⟨[(0,(tL tCol).va a0,none),(3,isP b1 0,none),(5,isI .i64 q2,none),(62,isB i8,none),(6,isV v4,some v4)],[arrO tCol v4 (([]:List Col)++a0),boxO b1 tChange a1 []]⟩) (fun i8=>nL fu a0 a1 q2 i8) (fun i8=>?_) (fun hj3=>?_)
     ·refine .cd z ?_ ?_
      ·refine .s<|go ?_
       exact .call0 (c137 _ _) n137 z z fun q9=>fr
      ·refine .s<|go ?_
       refine .cd z ?_ ?_
       ·refine .s<|go ?_
        refine .s<|go ?_
        exact .frz 0 4 z z<|fr
       ·refine .seq<|.join1 (fun i10=>⟨[(0,(tL tCol).va a0,none),(3,isP b1 0,none),(5,isI .i64 q2,none),(85,isB i10,none),(6,isV v4,some v4)],[arrO tCol v4 (([]:List Col)++a0),boxO b1 tChange a1 []]⟩) (fun i10=>lw fu a0 a1 q2 i10) (fun i10=>?_) (fun hj4=>?_)
        ·refine .cd z ?_ ?_
         ·refine .s<|go ?_
          refine .seq<|.pT fun h1=>.draw 10 [0,1] mix (by kernel_rfl) sts z<|.call0 (c138 fu _ _) n138 z z fun q11=>go ?_
          refine .s<|go ?_
          exact .frz 0 4 z z<|fr
         ·exact fr
        ·refine .pcond (fun h2=>?_) (fun h2=>?_)
         ·refine .pcond (fun h3=>?_) (fun h3=>?_)
          ·exact .pT fun h4=>.draw 17 [] mix (by kernel_rfl) sts z<|fj (hj4 _)
          ·exact .draw 17 [] mix (by kernel_rfl) sts z<|fj (hj4 _)
         ·exact .draw 17 [] mix (by kernel_rfl) sts z<|fj (hj4 _)
     ·refine .g<|go ?_
      refine .split 66 z (fun _=>?_) (fun _=>?_)
      ·exact fj (hj3 _)
      ·exact fj (hj3 _)
   ·refine .pcond (fun h5=>?_) (fun h5=>?_)
    ·exact .draw 12 [] mix (by kernel_rfl) sts z<|fj (hj2 _)
    ·refine .pcond (fun h6=>?_) (fun h6=>?_)
     ·exact .draw 12 [] mix (by kernel_rfl) sts z<|fj (hj2 _)
     ·exact .pb (c136 _) n136 fun q12 h7 k=>.draw 12 [] mix (by kernel_rfl) sts z<|.on z z<|.neT Av z z z<|fj (hj2 _)
 ·refine .g<|go ?_
  refine .split 18 z (fun _=>?_) (fun _=>?_)
  ·refine go ?_
   refine .split 23 z (fun _=>?_) (fun _=>?_)
   ·refine go ?_
    refine .split 28 z (fun _=>?_) (fun _=>?_)
    ·refine go ?_
     refine .split 33 z (fun _=>?_) (fun _=>?_)
     ·exact fj (hj1 _)
     ·exact fj (hj1 _)
    ·exact fj (hj1 _)
   ·exact fj (hj1 _)
  ·exact fj (hj1 _)
def f87 (fu:Nat)(a0:List Col)(a1:aa):Option ((List Col)×Bool):=(f86 fu a0).bind fun q2=>cond (!q2) (some (([]:List Col),false)) ((Bz fu a0 a1).bind fun q3=>(f86 fu q3).bind fun q4=>cond (!q4) (cond (decide (List.length ([]:List Col)+a0.length≤CAP)) (some (([]:List Col)++a0,false)) none) (some (q3,true)))
theorem n87:Nm prog 209:=⟨_,_,func209,by kernel_rfl,z⟩
theorem c87 (fu:Nat)(a0:List Col)(a1:aa):Ctr prog 209 [(tL tCol).va a0,tChange.va a1] [] (f87 fu a0 a1) (fun _ _=>[]) (fun q=>tup [(tL tCol).va q.1,isB q.2]):=by
 refine .w func209 ntmps209 fun hf A w=>?_
 unfold f87
 refine .s<|.box (T:=tChange) z z fun b1=>.assignNil tCol z<|.an z z<|.seq<|.s<|.m z z<|.call0 (c86 fu _) n86 z z fun q2=>.not z z<|.nil<|.cd z ?_ ?_
 ·exact fr
 ·refine .skip<|.s<|go ?_
  refine .call0 (c118 fu _ _) n118 z z fun q3=>.an z z<|.seq<|.s<|.m z z<|.call0 (c86 fu _) n86 z z fun q4=>.not z z<|.nil<|.cd z ?_ ?_
  ·exact .s<|.lit (T:=tCol) u36 cq z z (.nil) z fun v5=>.m z z<|.app (T:=tCol) 0 z z z u36 cq z fun v6=>fr
  ·exact fr
def mD (fu:Nat)(a1:List aa):Nat→(List Col)→Int→Option ((List Col)×Bool)
 | 0,_,_=>none
 | n1+1,i4,i5=>cond (decide (i5 < (a1.length:Int))) (cond (decide (0≤i5)&&decide (i5 < (a1.length:Int))) ((f87 fu i4 (a1.getD i5.toNat default)).bind fun q6=>cond (!q6.2) (some (([]:List Col),false)) ((mD fu a1 n1) q6.1 (IntKind.i64.wrap (i5+1)))) none) (some (i4,true))
def f50 (fu:Nat)(a0:List Col)(a1:List aa):Option ((List Col)×Bool):=(f86 fu a0).bind fun q1=>cond (!q1) (some (([]:List Col),false)) (cond (decide (List.length ([]:List Col)+a0.length≤CAP)) (mD fu a1 fu (([]:List Col)++a0) 0) none)
theorem n50:Nm prog 176:=⟨_,_,func176,by kernel_rfl,z⟩
theorem c50 (fu:Nat)(a0:List Col)(a1:List aa):Ctr prog 176 [(tL tCol).va a0,(tL tChange).va a1] [] (f50 fu a0 a1) (fun _ _=>[]) (fun q=>tup [(tL tCol).va q.1,isB q.2]):=by
 refine .w func176 ntmps176 fun hf A w=>?_
 unfold f50
 refine .s<|.assignNil tCol z<|.an z z<|.seq<|.s<|.m z z<|.call0 (c86 fu _) n86 z z fun q1=>.not z z<|.nil<|.cd z ?_ ?_
 ·exact fr
 ·refine .skip<|.s<|.lit (T:=tCol) u36 cq z z (.nil) z fun v2=>.m z z<|.app (T:=tCol) 0 z z z u36 cq z fun v3=>.an z z<|.seq<|.s<|.an z z<|.block<|.loop<|.drop (.c<|.e)<|.keep [1,6,7] [] z<|(show ∀ (n1:Nat) (i4:List Col) (i5:Int),W _ _ _ _ _ ⟨[(1,(tL tChange).va a1,none),(6,(tL tCol).va i4,none),(7,isI .i64 i5,none)],[]⟩ (mD fu a1 n1 i4 i5) from ?_) fu _ _
  intro n1
  induction n1 with
  | zero=>exact fun _ _=>.stop
  | succ n1 ih1=>
   intro i4 i5
   refine .inLoop<|.seq<|.s<|go ?_
   refine .cd z ?_ ?_
   ·refine .skip<|.seq<|.block<|.s<|.an z z<|.s<|go ?_
    refine .call0 (c87 fu _ _) n87 z z fun q6=>go ?_
    refine .s<|go ?_
    refine .cd z ?_ ?_
    ·exact fr
    ·exact fj (ih1 _ _)
   ·exact fr
def f89 (fu:Nat)(a0:ab)(a1:Int):Option (List Col):=cond (decide (0≤(0:Int))&&decide ((0:Int)≤a1)&&decide (a1≤(a0.changes.length:Int))) ((f50 fu a0.first ((a0.changes.take a1.toNat).drop (0:Int).toNat)).bind fun q2=>some q2.1) none
theorem n89:Nm prog 161:=⟨_,_,func161,by kernel_rfl,z⟩
theorem c89 (fu:Nat)(a0:ab)(a1:Int):Ctr prog 161 [tTable.va a0,isI .i64 a1] [] (f89 fu a0 a1) (fun _ _=>[]) (fun q=>(tL tCol).va q):=by
 refine .w func161 ntmps161 fun hf A w=>?_
 unfold f89
 exact .s<|.box (T:=tTable) z z fun b1=>.assignNil tCol z<|.nil<|.seq<|.pT fun h1=>.draw 6 [] mix (by kernel_rfl) (.j (fun o=>.fp (o z) fc z)<|.k (fun p e=>.lp 0 dH (e.op z) (p.get z z) sa z)<|.j (fun o=>.fp (o z) bv z)<|.k (fun p e=>.lp 0 bp (e.op z) (p.get z z) kB z)<|.j (fun o=>.m (o z) z)<|.k (fun p e h=>.useC h1<|.cut (e.op z) u56 jE z ⟨_,(e.op z)⟩ z<|h)<|.nil) z<|.call0 (c50 fu _ _) n50 z z fun q2=>fr
def B6 (fu:Nat)(a0:ab)(a1:Int):Option (List Col):=cond (decide (0≤(0:Int))&&decide ((0:Int)≤a1)&&decide (a1≤(a0.changes.length:Int))) ((f50 fu a0.first ((a0.changes.take a1.toNat).drop (0:Int).toNat)).bind fun q2=>some q2.1) none
theorem c89o (fu:Nat)(vp0:Value)(cp0:Value)(a0:ab)(a1:Int):Ctr prog 161 [tTableA.va (⟨a0.first,(cp0,a0.changes),vp0,a0.next⟩:ap),isI .i64 a1] [arrO tRow vp0 a0.rows] (B6 fu a0 a1) (fun _ _=>[arrO tRow vp0 a0.rows]) (fun q=>(tL tCol).va q):=by
 refine .w func161 ntmps161 fun hf A w=>?_
 unfold B6
 exact .s<|.box (T:=tTableA) z z fun b1=>.assignNil tCol z<|.nil<|.seq<|.pT fun h1=>.draw 6 [] mix (by kernel_rfl) (.j (fun o=>.fp (o z) fc z)<|.k (fun p e=>.lp 0 aI (e.op z) (p.get z z) sa z)<|.j (fun o=>.fp (o z) bv z)<|.k (fun p e=>.loadK 0 az (e.op z) (p.get z z) kB z)<|.j (fun o=>.m (o z) z)<|.k (fun p e h=>.useC h1<|.cut (e.op z) u56 jE z ⟨_,(e.op z)⟩ z<|h)<|.nil) z<|.call0 (c50 fu _ _) n50 z z fun q2=>fr
def f53 (fu:Nat)(a0:ab):Option (List Col):=(f89 fu a0 (a0.changes.length:Int)).bind fun q2=>some q2
theorem n53:Nm prog 96:=⟨_,_,func96,by kernel_rfl,z⟩
theorem c53 (fu:Nat)(a0:ab):Ctr prog 96 [tTable.va a0] [] (f53 fu a0) (fun _ _=>[]) (fun q=>(tL tCol).va q):=by
 refine .w func96 ntmps96 fun hf A w=>?_
 unfold f53
 refine .s<|.box (T:=tTable) z z fun b1=>.assignNil tCol z<|.nil<|.s<|go ?_
 exact .call0 (c89 fu _ _) n89 z z fun q2=>fr
def yO (fu:Nat)(a0:ab):Option (List Col):=(B6 fu a0 (a0.changes.length:Int)).bind fun q2=>some q2
theorem c53o (fu:Nat)(vp0:Value)(cp0:Value)(a0:ab):Ctr prog 96 [tTableA.va (⟨a0.first,(cp0,a0.changes),vp0,a0.next⟩:ap)] [arrO tRow vp0 a0.rows] (yO fu a0) (fun _ _=>[arrO tRow vp0 a0.rows]) (fun q=>(tL tCol).va q):=by
 refine .w func96 ntmps96 fun hf A w=>?_
 unfold yO
 refine .s<|.box (T:=tTableA) z z fun b1=>.assignNil tCol z<|.nil<|.s<|go ?_
 exact .callR 1 (c89o fu _ _ _ _) z n89 z z fun q2=>fr
def Aj (a0:Int)(a1:Int):Option Int:=cond (decide (a1<a0)) (some a0) (some a1)
theorem n142:Nm prog 70:=⟨_,_,func70,by kernel_rfl,z⟩
theorem c142 (a0:Int)(a1:Int):Ctr prog 70 [isI .i64 a0,isI .i64 a1] [] (Aj a0 a1) (fun _ _=>[]) (fun q=>isI .i64 q):=by
 refine .w func70 ntmps70 fun hf A w=>?_
 unfold Aj
 refine .s<|.an z z<|.seq<|.s<|go ?_
 refine .cd z ?_ ?_
 ·exact fr
 ·exact fr
def hH (a0:ab)(a1:Int):Nat→Int→Option Int
 | 0,_=>none
 | n1+1,i2=>cond (decide (i2 < (a0.rows.length:Int))) (cond (decide (0≤i2)&&decide (i2 < (a0.rows.length:Int))) (cond (decide (((a0.rows.getD i2.toNat default).id)=a1)) (some i2) ((hH a0 a1 n1) (IntKind.i64.wrap (i2+1)))) none) (some (-1))
def f82 (fu:Nat)(a0:ab)(a1:Int):Option Int:=hH a0 a1 fu 0
theorem n82:Nm prog 130:=⟨_,_,func130,by kernel_rfl,z⟩
theorem c82 (fu:Nat)(a0:ab)(a1:Int):Ctr prog 130 [tTable.va a0,isI .i64 a1] [] (f82 fu a0 a1) (fun _ _=>[]) (fun q=>isI .i64 q):=by
 refine .w func130 ntmps130 fun hf A w=>?_
 unfold f82
 refine .s<|.box (T:=tTable) z z fun b1=>.an z z<|.seq<|.s<|.an z z<|.block<|.loop<|.keep [1,2,5] [] z<|(show ∀ (n1:Nat) (i2:Int),W _ _ _ _ _ ⟨[(1,isI .i64 a1,none),(2,isP b1 0,none),(5,isI .i64 i2,none)],[boxO b1 tTable a0 []]⟩ (hH a0 a1 n1 i2) from ?_) fu _
 intro n1
 induction n1 with
 | zero=>exact fun _=>.stop
 | succ n1 ih1=>
  intro i2
  refine .inLoop<|.seq<|.s<|go ?_
  refine .cd z ?_ ?_
  ·refine .skip<|.seq<|.block<|.s<|go ?_
   refine .cd z ?_ ?_
   ·exact fr
   ·exact fj (ih1 _)
  ·exact fr
def f82o_l1 (a0:ab)(a1:Int):Nat→Int→Option Int
 | 0,_=>none
 | n1+1,i2=>cond (decide (i2 < (a0.rows.length:Int))) (cond (decide (0≤i2)&&decide (i2 < (a0.rows.length:Int))) (cond (decide (((a0.rows.getD i2.toNat default).id)=a1)) (some i2) ((f82o_l1 a0 a1 n1) (IntKind.i64.wrap (i2+1)))) none) (some (-1))
def f82o (fu:Nat)(a0:ab)(a1:Int):Option Int:=f82o_l1 a0 a1 fu 0
theorem c82o (fu:Nat)(vp0:Value)(cp0:Value)(a0:ab)(a1:Int):Ctr prog 130 [tTableA.va (⟨a0.first,(cp0,a0.changes),vp0,a0.next⟩:ap),isI .i64 a1] [arrO tRow vp0 a0.rows] (f82o fu a0 a1) (fun _ _=>[arrO tRow vp0 a0.rows]) (fun q=>isI .i64 q):=by
 refine .w func130 ntmps130 fun hf A w=>?_
 unfold f82o
 refine .s<|.box (T:=tTableA) z z fun b1=>.an z z<|.seq<|.s<|.an z z<|.block<|.loop<|.keep [1,2,5] [] z<|(show ∀ (n1:Nat) (i2:Int),W _ _ _ _ _ ⟨[(1,isI .i64 a1,none),(2,isP b1 0,none),(5,isI .i64 i2,none)],[boxO b1 tTableA (⟨a0.first,(cp0,a0.changes),vp0,a0.next⟩:ap) [],arrO tRow vp0 a0.rows]⟩ (f82o_l1 a0 a1 n1 i2) from ?_) fu _
 intro n1
 induction n1 with
 | zero=>exact fun _=>.stop
 | succ n1 ih1=>
  intro i2
  refine .inLoop<|.seq<|.s<|go ?_
  refine .cd z ?_ ?_
  ·refine .skip<|.seq<|.block<|.s<|go ?_
   refine .cd z ?_ ?_
   ·exact fr
   ·exact fj (ih1 _)
  ·exact fr
def f41 (fu:Nat)(a0:ab)(a1:Int):Option (ab×Int):=(f82o fu a0 a1).bind fun q3=>cond (decide (q3<0)) (some (a0,5)) (cond (decide (0≤(0:Int))&&decide ((0:Int)≤q3)&&decide (q3≤(a0.rows.length:Int))) (cond (decide (List.length ([]:List Row)+List.length ((a0.rows.take q3.toNat).drop (0:Int).toNat)≤CAP)) (cond (decide (0≤(IntKind.i64.wrap (q3+1)))&&decide ((IntKind.i64.wrap (q3+1))≤(a0.rows.length:Int))&&decide ((a0.rows.length:Int)≤(a0.rows.length:Int))) (cond (decide (List.length (([]:List Row)++((a0.rows.take q3.toNat).drop (0:Int).toNat))+List.length ((a0.rows.take (a0.rows.length:Int).toNat).drop (IntKind.i64.wrap (q3+1)).toNat)≤CAP)) (some ((⟨a0.first,a0.changes,(([]:List Row)++((a0.rows.take q3.toNat).drop (0:Int).toNat))++((a0.rows.take (a0.rows.length:Int).toNat).drop (IntKind.i64.wrap (q3+1)).toNat),a0.next⟩:ab),0)) none) none) none) none)
theorem n41:Nm prog 155:=⟨_,_,func155,by kernel_rfl,z⟩
def f41a (fu:Nat)(a0:ab)(a1:Int):Option (ab×Int):=(f82 fu a0 a1).bind fun q3=>cond (decide (q3<0)) (some (a0,5)) (cond (decide (0≤(0:Int))&&decide ((0:Int)≤q3)&&decide (q3≤(a0.rows.length:Int))) (cond (decide (List.length ([]:List Row)+List.length ((a0.rows.take q3.toNat).drop (0:Int).toNat)≤CAP)) (cond (decide (0≤(IntKind.i64.wrap (q3+1)))&&decide ((IntKind.i64.wrap (q3+1))≤(a0.rows.length:Int))&&decide ((a0.rows.length:Int)≤(a0.rows.length:Int))) (cond (decide (List.length (([]:List Row)++((a0.rows.take q3.toNat).drop (0:Int).toNat))+List.length ((a0.rows.take (a0.rows.length:Int).toNat).drop (IntKind.i64.wrap (q3+1)).toNat)≤CAP)) (some ((⟨a0.first,a0.changes,(([]:List Row)++((a0.rows.take q3.toNat).drop (0:Int).toNat))++((a0.rows.take (a0.rows.length:Int).toNat).drop (IntKind.i64.wrap (q3+1)).toNat),a0.next⟩:ab),0)) none) none) none) none)
theorem c41a (fu:Nat)(a0:ab)(a1:Int):Ctr prog 155 [tTable.va a0,isI .i64 a1] [] (f41a fu a0 a1) (fun _ _=>[]) (fun q=>tup [tTable.va q.1,isI .i64 q.2]):=by
 refine .w func155 ntmps155 fun hf A w=>?_
 unfold f41a
 refine .s<|.box (T:=tTable) z z fun b1=>.alloc tTableA aS [] bA z fun b2=>.an z z<|.s<|go ?_
 refine .call0 (c82 fu _ _) n82 z z fun q3=>.an z z<|.seq<|.s<|go ?_
 refine .cd z ?_ ?_
 ·refine .s<|go ?_
  exact .storeW 0 z z z z ty27<|fr
 ·refine .skip<|.seq<|.pT fun h1=>.pT fun h2=>.pT fun h3=>.drawS 11 [] [5] [] mix (by kernel_rfl) (.j (fun o=>.litE tRow u57 jn z z)<|.j (fun o=>.fp (o z) fa27_2 z)<|.k (fun p e=>.lp 1 fTable_2 (e.op z) (p.get z z) ty25 z)<|.j (fun o=>.m (o z) z)<|.k (fun p e h=>.useC h1<|.cut (e.op z) u57 jn z ⟨_,(e.op z)⟩ z<|h)<|.skip<|.j (fun o=>.fp (o z) fa27_2 z)<|.k (fun p e=>.lp 1 fTable_2 (e.op z) (p.get z z) ty25 z)<|.j (fun o=>.m (o z) z)<|.j (fun o=>.bin z (o z) (o z) z)<|.k (fun p e h=>.useC h3<|.cut (e.op z) u57 jn ⟨_,(e.op z)⟩ z z<|h)<|.nil) z<|.cons (d:=18) z z fun _ _ hE h=>.useC h2<|.appEA (T:=tRow) (hE.op z) (hE.op z) z u57 jn z fun v4=>.toEnd<|h _ _ (.same<|.same<|.nil)<|.nil<|.appA (T:=tRow) 2 z z z u57 jn z fun v5=>.fp z fa27_2 z<|.unBox 1 zQ z fun p6=>.toRaw (T:=tRow) 2 24 z z<|go ?_
  refine .s<|go ?_
  exact .frzBox 0 2 conv27 z z<|fr
def ji (i4:Val)(i5:Rd):Option (Val×Rd):=some (i4,i5)
def By (fu:Nat)(a0:Rd)(a1:Val):Option (Val×Rd):=(f74 fu a0 32).bind fun q3=>cond (decide (q3.1=0)) ((f73 fu q3.2 ([0,3,-1,1,2]:List Int)).bind fun q6=>ji ({ a1 with kind:=q6.1 }:Val) q6.2) (cond (decide (q3.1=1)) ((f73 fu q3.2 ([1000,-1000,5,9223372036854775807]:List Int)).bind fun q7=>ji ({ a1 with n:=q7.1 }:Val) q7.2) (cond (decide (q3.1=2)) ((f96 fu q3.2 ([([97,98,99,100,101]:List UInt8),([65]:List UInt8),([113]:List UInt8),([39]:List UInt8)]:List (List UInt8))).bind fun q8=>ji ({ a1 with text:=q8.1 }:Val) q8.2) (ji a1 q3.2)))
theorem n127:Nm prog 215:=⟨_,_,func215,by kernel_rfl,z⟩
theorem c127 (fu:Nat)(bp0:Nat)(a0:Rd)(a1:Val):Ctr prog 215 [isP bp0 0,tVal.va a1] [boxO bp0 tRd a0 []] (By fu a0 a1) (fun q _=>[boxO bp0 tRd q.2 []]) (fun q=>tVal.va q.1):=by
 refine .w func215 ntmps215 fun hf A w=>?_
 unfold By
 refine .s<|.box (T:=tVal) z z fun b1=>.alloc tVal d0_47 [] z47 z fun b2=>.nil<|.seq<|.s<|.m z z<|.call1 2 (c74 fu _ _ _) z n74 z z fun q3=>.nil<|.block<|.s<|go ?_
 refine .join2 (fun i4 i5=>⟨[(3,isP b1 0,none),(4,isP b2 0,none)],[boxO b2 tVal d0_47 [],boxO b1 tVal i4 [],boxO bp0 tRd i5 []]⟩) (fun i4 i5=>ji i4 i5) (fun i4 i5=>?_) (fun hj1=>?_)
 ·exact fr
 ·refine .cd z ?_ ?_
  ·refine .g<|go ?_
   exact .call1 2 (c73 fu _ _ _) z n73 z z fun q6=>fj (hj1 _ _)
  ·refine .s<|go ?_
   refine .cd z ?_ ?_
   ·refine .g<|go ?_
    exact .call1 2 (c73 fu _ _ _) z n73 z z fun q7=>fj (hj1 _ _)
   ·refine .s<|go ?_
    refine .cd z ?_ ?_
    ·refine .g<|go ?_
     exact .call1 2 (c96 fu _ _ _) z n96 z z fun q8=>fj (hj1 _ _)
    ·exact fj (hj1 _ _)
def f97 (fu:Nat)(a0:Rd):Option (Val×Rd):=(f74 fu a0 3).bind fun q2=>(f95 fu q2.2 q2.1).bind fun q3=>(By fu q3.2 q3.1).bind fun q4=>some (q4.1,q4.2)
theorem n97:Nm prog 193:=⟨_,_,func193,by kernel_rfl,z⟩
theorem c97 (fu:Nat)(bp0:Nat)(a0:Rd):Ctr prog 193 [isP bp0 0] [boxO bp0 tRd a0 []] (f97 fu a0) (fun q _=>[boxO bp0 tRd q.2 []]) (fun q=>tVal.va q.1):=by
 refine .w func193 ntmps193 fun hf A w=>?_
 unfold f97
 refine .s<|.alloc tVal d0_47 [] z47 z fun b1=>.nil<|.s<|go ?_
 exact .call1 1 (c74 fu _ _ _) z n74 z z fun q2=>.call1 1 (c95 fu _ _ _) z n95 z z fun q3=>.call1 1 (c127 fu _ _ _) z n127 z z fun q4=>fr
end Go.Proofs.YtganfdhmkdehlaaGreatDoor
