/- A law of bases: no links, no others that go. -/
import Derived.Test.YtdpigighgmipfaaGreatDoorQ1011B11
import Derived.Test.YtdpigighgmipfaaGreatDoorQ1011AU
import Derived.KernelRfl
import Derived.Test.YtdpigighgmipfaaGreatDoorQ1011AV
import Derived.KernelRfl
set_option linter.all false
namespace Go.HL
section
variable {P:Go.Program}{e:Env}{ρ α β:Type}{T:Ty α}{U:Ty β}{Kp:ρ→Go.Act→Go.World→Prop}
variable {S:List (Nat×Ent)}{B:List Own}{r:Option ρ}{arr:Array Oper}{rest:List Oper}
variable {t ty:Go.TypeId}{pos:String}{af:Array Go.Edge}{ov:Option Go.Value}{x:Go.Operand}{b:Nat}{v:α}
theorem WO.storeN (i:Nat){off:Nat}{g:α→List β}{st:α→List β→α}(hf:Fld T off (tL U) g st)(hx:opVA S x=some (isP b off,ov)){kn:List (Nat×Go.Value)}(hB:B[i]? = some (boxO b T v kn))(ht:TyAt P t 1 false)
     (h:WO P e Kp arr rest ⟨S,B.set i (boxO b T (st v []) (cutK kn off 1))⟩ r):WO P e Kp arr (mkOpN (.store t x (.const (.slice none 0 0))) ty pos af::rest) ⟨S,B⟩ r:=by
 refine opS' z z fun a w hk=>?_
 have h1:=hk.ev hx
 simp only [isP] at h1
 have hev:a.eval (.const (.slice none 0 0))=.slice none 0 0:=rfl
 obtain ⟨c,h6,h7⟩:=(tL U).iff.1 (show ((tL U).va ([]:List β)).f (a.eval (.const (.slice none 0 0))) (Acur e B w) w from slRel_nil U _ _)
 obtain ⟨cs,et,h2,h3,h5⟩:=hk.owns _ (get_mem hB)
 have hlen:=T.len h3
 have hc:c.length=1:=(tL U).len h7
 have hle:off+1≤T.sz:=hf.le
 have hst:=run_storeCells_at (P:=P) b off et c 0 cs.toArray w h2 (by simp;omega) (fun v hv=>plain_one ((tL U).plain h7 v hv))
 simp only [Nat.add_zero] at hst
 refine ⟨w.setRow b (cs.take off++c++cs.drop (off+c.length)).toArray,⟨S,B.set i (boxO b T (st v []) (cutK kn off 1))⟩,?_,?_,h⟩
 ·have h8:=(tL U).cells h7
  have h10:(tL U).sz=1:=rfl
  have h11:(tL U).agg=false:=rfl
  rw [h11] at h8 h6
  simp only [execOp,Instr.storeAt,h1,Instr.sureAddr,h6,storeVar,Sem.run_bind,Sem.run_pure,Result.andThen_ok,ht.sizeOf,h8]
  simp [hc,hst]
 ·refine Holds.write hk hB z z z z z (by simp [World.setRow]) (fun b' hb'=>setRow_other _ _ _ _ (fun hh=>hb' (by rw [hh];rfl))) (fun b' o _ ho=>absurd ho (Nat.not_lt_zero _)) (fun hs=>⟨_,et,setRow_heap w b _ _ _ _ h2,?_,hc▸cutK_get h5 (by omega)⟩)
  rw [hc] at hs ⊢
  exact hf.set (T.good hs h3) ((tL U).good hs h7)
end
end Go.HL
namespace Go.Proofs.YtdpigighgmipfaaGreatDoor
open Go Go.HL Tryz
attribute [local irreducible] W WO
noncomputable def f1011_j3 (i15:Bool):Option Bool:=some i15
noncomputable def f1011_j2 (fu:Nat) (q1:Base×(List UInt8)×Int) (q3:Base×Int) (q9:Base×Int) (q11:Int) (i12:Bool):Option Bool:=cond i12 (some (decide (q9.2=q3.2))) (cond (decide (0≤q11)&&decide (q11 < (q1.1.tabs.length:Int))) ((f13 fu ((q1.1.tabs.getD q11.toNat default).table) q1.2.2).bind fun q13=>cond (decide (q9.2=0)) (cond (decide (q13.2=0)) (cond (decide (0≤q11)&&decide (q11 < (q9.1.tabs.length:Int))) ((f15 fu ((q9.1.tabs.getD q11.toNat default).table) q13.1).bind fun q16=>cond q16 ((f1031 fu ({ q1.1 with links:=([]:List Link) }:Base) q1.2.1 q1.2.2).bind fun q17=>cond (decide ((q17.length:Int)=1)) ((f1020 fu ({ q1.1 with links:=([]:List Link) }:Base)).bind fun q18=>f1011_j3 q18) (f1011_j3 false)) (f1011_j3 false)) none) (f1011_j3 false)) (f1011_j3 false)) none)
noncomputable def f1011_j1 (fu:Nat) (q1:Base×(List UInt8)×Int) (q3:Base×Int) (q5:Base×Int) (i7:Bool):Option Bool:=cond i7 (some (decide (q3.2=q5.2))) ((f1028 fu ({ q1.1 with links:=([]:List Link) }:Base) q1.2.1 q1.2.2).bind fun q9=>(f1035 fu q1.1 q1.2.1).bind fun q11=>cond (decide (q3.2=5)) (f1011_j2 fu q1 q3 q9 q11 true) (f1011_j2 fu q1 q3 q9 q11 (decide (q11<0))))
noncomputable def f1011 (fu:Nat) (a0:List Int):Option Bool:=cond (decide (1048576 < (a0.length:Int))) (some true) ((f1027 fu a0).bind fun q1=>(f1028 fu q1.1 q1.2.1 q1.2.2).bind fun q3=>(f1029 fu q1.1 q1.2.1 q1.2.2).bind fun q5=>cond (!decide (q3.2=q5.2)) (f1011_j1 fu q1 q3 q5 true) ((f1019 fu q1.1).bind fun q19=>f1011_j1 fu q1 q3 q5 (!q19)))
theorem c1011 (fu:Nat)(a0:List Int):Ctr prog 11 [(tL (tI .u8)).va a0] [] (f1011 fu a0) (fun _ _=>[]) (fun q=>isB q):=by
 refine .w func11 ntmps11 fun hf A w=>?_
 unfold f1011
 refine .s<|.an z z<|.seq<|.s<|go ?_
 refine .cd z ?_ ?_
 ·exact fr
 ·refine .skip<|.s<|.m z z<|.call0 (c1027 fu _) n1027 z z fun q1=>go ?_
  refine .alloc tBase d0_1026 [] z1026 z fun b2=>go ?_
  refine .s<|go ?_
  refine .call0 (c1028 fu _ _ _) n1028 z z fun q3=>go ?_
  refine .alloc tBase d0_1026 [] z1026 z fun b4=>go ?_
  refine .s<|go ?_
  refine .call0 (c1029 fu _ _ _) n1029 z z fun q5=>go ?_
  refine .alloc tBase d0_1026 [] z1026 z fun b6=>go ?_
  refine .seq<|.seq<|.join1 (fun i7=>⟨[(3,isP b2 0,none),(4,isS q1.2.1,none),(5,isI .i64 q1.2.2,none),(7,isI .i64 q3.2,none),(9,isI .i64 q5.2,none),(46,isB i7,none)],[boxO b2 tBase q1.1 []]⟩) (fun i7=>f1011_j1 fu q1 q3 q5 i7) (fun i7=>?_) (fun hj1=>?_)
  ·refine .cd z ?_ ?_
   ·exact fr
   ·refine .skip<|.s<|go ?_
    refine .alloc tBase d0_1026 [] z1026 z fun b8=>go ?_
    refine .s<|.fp z fa1026_1 z<|.storeN 0 fBase_1 z z ty1024<|.nil<|.s<|go ?_
    refine .call0 (c1028 fu _ _ _) n1028 z z fun q9=>go ?_
    refine .alloc tBase d0_1026 [] z1026 z fun b10=>go ?_
    refine .s<|go ?_
    refine .call0 (c1035 fu _ _) n1035 z z fun q11=>.an z z<|.seq<|.seq<|.join1 (fun i12=>⟨[(3,isP b2 0,none),(4,isS q1.2.1,none),(5,isI .i64 q1.2.2,none),(7,isI .i64 q3.2,none),(10,isP b8 0,none),(11,isP b10 0,none),(12,isI .i64 q9.2,none),(13,isI .i64 q11,none),(67,isB i12,none)],[boxO b10 tBase q9.1 [],boxO b8 tBase ({ q1.1 with links:=([]:List Link) }:Base) [],boxO b2 tBase q1.1 []]⟩) (fun i12=>f1011_j2 fu q1 q3 q9 q11 i12) (fun i12=>?_) (fun hj2=>?_)
    ·refine .cd z ?_ ?_
     ·exact fr
     ·refine .skip<|.s<|go ?_
      refine .call0 (c13 fu _ _) n13 z z fun q13=>go ?_
      refine .alloc tTable d0_27 [] z27 z fun b14=>go ?_
      refine .seq<|.join1 (fun i15=>⟨[(2,isB i15,none)],[]⟩) (fun i15=>f1011_j3 i15) (fun i15=>?_) (fun hj3=>?_)
      ·exact fr
      ·refine .pcond (fun h1=>?_) (fun h1=>?_)
       ·refine .pcond (fun h2=>?_) (fun h2=>?_)
        ·refine .pT fun h3=>.pb (c15 fu _ _) n15 fun q16 h4 k=>.pcond (fun h5=>?_) (fun h5=>?_)
         ·refine .draw 20 [] mix (by kernel_rfl) sts z<|.on z z<|.call0 (c1031 fu _ _ _) n1031 z z fun q17=>go ?_
          refine .split 106 z (fun _=>?_) (fun _=>?_)
          ·refine go ?_
           exact .call0 (c1020 fu _) n1020 z z fun q18=>fj (hj3 _)
          ·exact fj (hj3 _)
         ·exact .draw 20 [] mix (by kernel_rfl) sts z<|fj (hj3 _)
        ·exact .draw 20 [] mix (by kernel_rfl) sts z<|fj (hj3 _)
       ·exact .draw 20 [] mix (by kernel_rfl) sts z<|fj (hj3 _)
    ·refine .g<|go ?_
     refine .split 64 z (fun _=>?_) (fun _=>?_)
     ·exact fj (hj2 _)
     ·exact fj (hj2 _)
  ·refine .g<|go ?_
   refine .split 42 z (fun _=>?_) (fun _=>?_)
   ·exact fj (hj1 _)
   ·refine go ?_
    exact .call0 (c1019 fu _) n1019 z z fun q19=>fj (hj1 _)
end Go.Proofs.YtdpigighgmipfaaGreatDoor
