/- A law of bases: the tables as they are now. -/
import Derived.Test.YtdpigighgmipfaaGreatDoorQ1005B11
import Derived.Test.YtdpigighgmipfaaGreatDoorQ1005AV
import Derived.KernelRfl
set_option linter.all false
namespace Go.Proofs.YtdpigighgmipfaaGreatDoor
open Go Go.HL Tryz
attribute [local irreducible] W WO
structure BaseB where
 tabs:Value
 links:List Link
def tBaseB:Ty BaseB:=(tRaw.x (tL tLink)).iso fun d=>(d.tabs,d.links)
theorem fBaseB_0:Fld tBaseB 0 tRaw (fun d=>d.tabs) (fun d x=>{ d with tabs:=x }):=Fld.iso Fld.fst fun _ _=>rfl
theorem fBaseB_1:Fld tBaseB 1 (tL tLink) (fun d=>d.links) (fun d x=>{ d with links:=x }):=Fld.iso Fld.last fun _ _=>rfl
abbrev d0B1026:BaseB:=⟨.slice none 0 0,[]⟩
theorem zB1026:ZeroAt prog 26 tBaseB d0B1026 []:=⟨(.agg #[.slice none 0 0,.slice none 0 0]),by kernel_rfl,fun A w=>⟨[.slice none 0 0],[.slice none 0 0],rfl,⟨rfl,rfl⟩,⟨_,rfl,slRel_nil _ _ _⟩⟩,fun _ h=>nomatch h⟩
theorem convB1026 {tabs:List Tab}{tabs_:Value}{links:List Link}:Conv tBaseB ⟨tabs_,links⟩ tTab tabs_ tabs tBase ⟨tabs,links⟩:=⟨rfl,fun h hr=>by
 obtain ⟨_,_,rfl,h0,h1⟩:=h
 exact ⟨_,_,z,⟨_,h0.1,hr⟩,h1⟩⟩
instance:FldC prog tBaseB 0 26 tBaseB (fun d=>d) (fun _ x=>x):=⟨Fld.self _,ty1026⟩
instance:RawC prog tBaseB 0 23 (fun d=>d.tabs) (fun d x=>{ d with tabs:=x }):=⟨fBaseB_0,ty1023⟩
noncomputable def f1005_l2 (p q:List Ref) (K:Option Bool):Nat→Int→Option Bool
 | 0,_=>none
 | n+1,i=>cond (decide (i < (p.length:Int))) (cond (decide (0≤i)&&decide (i < (p.length:Int))) (cond (decide (0≤i)&&decide (i < (q.length:Int))) (cond (!decide (p.getD i.toNat default=q.getD i.toNat default)) (some false) (f1005_l2 p q K n (IntKind.i64.wrap (i+1)))) none) none) K
noncomputable def f1005_j3 (fu:Nat) (q3 q13:Base×Int) (x:Base):Option Bool:=(f1020 fu x).bind fun ok=>cond ok (some (decide (q3.2=q13.2))) (some false)
noncomputable def f1005_j2 (fu:Nat) (q1:Base×List UInt8×Int) (q3:Base×Int) (T:List Tab):Option Bool:=(f1028 fu (⟨T,q1.1.links⟩:Base) q1.2.1 q1.2.2).bind fun q13=>(f1031 fu q1.1 q1.2.1 q1.2.2).bind fun p=>(f1031 fu (⟨T,q1.1.links⟩:Base) q1.2.1 q1.2.2).bind fun q=>cond (!decide ((p.length:Int)=(q.length:Int))) (some false) (f1005_l2 p q (f1005_j3 fu q3 q13 (⟨T,q1.1.links⟩:Base)) fu 0)
noncomputable def f1005_l1 (fu:Nat) (q1:Base×List UInt8×Int) (q3:Base×Int):Nat→Int→List Tab→Option Bool
 | 0,_,_=>none
 | n+1,i,T=>cond (decide (i < (q1.1.tabs.length:Int))) (cond (decide (0≤i)&&decide (i < (q1.1.tabs.length:Int))) ((f34 fu (q1.1.tabs.getD i.toNat default).table).bind fun t=>cond (decide (List.length T+List.length ([(⟨(q1.1.tabs.getD i.toNat default).name,t⟩:Tab)]:List Tab)≤CAP)) (f1005_l1 fu q1 q3 n (IntKind.i64.wrap (i+1)) (T++[(⟨(q1.1.tabs.getD i.toNat default).name,t⟩:Tab)])) none) none) (f1005_j2 fu q1 q3 T)
noncomputable def f1005_j1 (fu:Nat) (q1:Base×List UInt8×Int) (q3 q5:Base×Int) (i:Bool):Option Bool:=cond i (some (decide (q3.2=q5.2))) (f1005_l1 fu q1 q3 fu 0 [])
noncomputable def f1005 (fu:Nat) (a0:List Int):Option Bool:=cond (decide (1048576 < (a0.length:Int))) (some true) ((f1027 fu a0).bind fun q1=>(f1028 fu q1.1 q1.2.1 q1.2.2).bind fun q3=>(f1029 fu q1.1 q1.2.1 q1.2.2).bind fun q5=>cond (!decide (q3.2=q5.2)) (f1005_j1 fu q1 q3 q5 true) ((f1019 fu q1.1).bind fun q19=>f1005_j1 fu q1 q3 q5 (!q19)))
set_option maxHeartbeats 2000000 in
theorem c1005 (fu:Nat)(a0:List Int):Ctr prog 5 [(tL (tI .u8)).va a0] [] (f1005 fu a0) (fun _ _=>[]) (fun q=>isB q):=by
 refine .w func5 ntmps5 fun hf A w=>?_
 unfold f1005
 refine .s<|.an z z<|.seq<|.s<|go ?_
 refine .cd z ?_ ?_
 ·exact fr
 ·refine .skip<|.s<|.m z z<|.call0 (c1027 fu _) n1027 z z fun q1=>go ?_
  refine .alloc tBase d0_1026 [] z1026 z fun b2=>go ?_
  refine .s<|go ?_
  refine .call0 (c1028 fu _ _ _) n1028 z z fun q3=>go ?_
  refine .alloc tBase d0_1026 [] z1026 z fun b4=>go ?_
  refine .s<|go ?_
  refine .call0 (c1029 fu _ _ _) n1029 z z fun q5=>go ?_
  refine .alloc tBase d0_1026 [] z1026 z fun b6=>go ?_
  refine .seq<|.seq<|.join1 (fun i7=>⟨[(3,isP b2 0,none),(4,isS q1.2.1,none),(5,isI .i64 q1.2.2,none),(7,isI .i64 q3.2,none),(9,isI .i64 q5.2,none),(47,isB i7,none)],[boxO b2 tBase q1.1 []]⟩) (fun i7=>f1005_j1 fu q1 q3 q5 i7) (fun i7=>?_) (fun hj1=>?_)
  ·unfold f1005_j1
   refine .cd z ?_ ?_
   ·exact fr
   ·refine .skip<|.s<|.fp z fa1026_1 z<|.lp 0 fBase_1 z z ty1024 z<|.build (T:=tBaseB) z st1026 zB1026 (.cons fBaseB_1 z z<|.nil) z<|.alloc tBaseB d0B1026 [] zB1026 z fun b10=>.storeP 0 (Fld.self _) z z z ty1026<|.nil<|.arrNil tTab<|.seq<|.s<|.an z z<|.block<|.loop<|.use ((show ∀ (n:Nat) (i:Int) (T:List Tab) (v:Value),W _ _ _ _ _ ⟨[(3,isP b2 0,none),(4,isS q1.2.1,none),(5,isI .i64 q1.2.2,none),(7,isI .i64 q3.2,none),(10,isP b10 0,none),(11,isI .i64 i,none)],[arrO tTab v T,boxO b10 tBaseB (⟨v,q1.1.links⟩:BaseB) [],boxO b2 tBase q1.1 []]⟩ (f1005_l1 fu q1 q3 n i T) from ?_) fu _ _ _) sbS sbB
    intro n
    induction n with
    | zero=>exact fun _ _ _=>.stop
    | succ n ih=>
     intro i T v
     refine .inLoop<|.seq<|.s<|go ?_
     refine .cd z ?_ ?_
     ·refine .skip<|.seq<|.block<|.pT fun h1=>.pb (c34 fu _) n34 fun t h2 k2=>?_
      exact .draw 17 [] mix (by kernel_rfl) sts z<|.appA (T:=tTab) 0 z z z u23 el1039 z fun v'=>.fp z fa1026_0 z<|.toRaw (T:=tTab) 0 78 z z<|.storeP 1 fBaseB_0 z z z ty1023<|.nil<|fj (ih _ _ _)
     ·unfold f1005_j2
      refine .exit z<|.frzBox 1 0 convB1026 z z<|.s<|go ?_
      refine .call0 (c1028 fu _ _ _) n1028 z z fun q13=>go ?_
      refine .alloc tBase d0_1026 [] z1026 z fun b12=>go ?_
      refine .s<|go ?_
      refine .call0 (c1031 fu _ _ _) n1031 z z fun p=>go ?_
      refine .s<|go ?_
      refine .call0 (c1031 fu _ _ _) n1031 z z fun q=>go ?_
      refine .seq<|.s<|go ?_
      refine .cd z ?_ ?_
      ·exact fr
      ·refine .skip<|.seq<|.s<|.an z z<|.block<|.loop<|.use ((show ∀ (n2:Nat) (i:Int),W _ _ _ _ _ ⟨[(7,isI .i64 q3.2,none),(10,isP b10 0,none),(13,isI .i64 q13.2,none),(14,(tL tRef).va p,none),(15,(tL tRef).va q,none),(16,isI .i64 i,none)],[boxO b10 tBase (⟨T,q1.1.links⟩:Base) []]⟩ (f1005_l2 p q (f1005_j3 fu q3 q13 (⟨T,q1.1.links⟩:Base)) n2 i) from ?_) fu _) sbS sbB
       clear ih
       intro n2
       induction n2 with
       | zero=>exact fun _=>.stop
       | succ n2 ih2=>
        intro i
        refine .inLoop<|.seq<|.s<|go ?_
        refine .cd z ?_ ?_
        ·refine .skip<|.seq<|.block<|.seq<|.pT fun h1=>.pT fun h2=>.draw 8 [] mix (by kernel_rfl) sts z<|.neT eq1055 z z z<|.nil<|.cd z ?_ ?_
         ·exact fr
         ·exact fj (ih2 _)
        ·unfold f1005_j3
         refine .exit z<|.s<|go ?_
         refine .call0 (c1020 fu _) n1020 z z fun ok=>go ?_
         refine .split 117 z (fun _=>?_) (fun _=>?_)
         ·exact fr
         ·exact fr
  ·refine .g<|go ?_
   refine .split 43 z (fun _=>?_) (fun _=>?_)
   ·exact fj (hj1 _)
   ·refine go ?_
    exact .call0 (c1019 fu _) n1019 z z fun q19=>fj (hj1 _)
end Go.Proofs.YtdpigighgmipfaaGreatDoor
