/- A law of bases: what is put in and taken away again leaves all as it was. -/
import Derived.Test.YtdpigighgmipfaaGreatDoorQ1012B11
import Derived.Test.YtdpigighgmipfaaGreatDoorQ1012AV
import Derived.KernelRfl
set_option linter.all false
namespace Go.Proofs.YtdpigighgmipfaaGreatDoor
open Go Go.HL Tryz
attribute [local irreducible] W WO
set_option maxHeartbeats 2000000 in
theorem c1028a (fu:Nat)(a0:Base)(a1:List UInt8)(a2:Int):CtrL prog 28 [tBase.va a0,isS a1,isI .i64 a2] [] (f1028 fu a0 a1 a2) (fun v=>baseV (tupV 0 v)) (fun q p=>[arrO tTab p.1 q.1.tabs,arrO tLink p.2 q.1.links]) (fun q p=>tup [tBaseA.va (⟨p.1,p.2⟩:BaseA),isI .i64 q.2]):=by
 refine .w func28 ntmps28 fun hf A w=>?_
 unfold f1028
 refine .s<|.box (T:=tBase) z z fun b1=>.alloc tBaseA d0A1026 [] zA1026 z fun b2=>go ?_
 refine .seq<|.s<|go ?_
 refine .call0 (c1020 fu _) n1020 z z fun q1=>go ?_
 refine .cd z ?_ ?_
 ·exact .s<|.build (T:=tBaseA) z st1026 zA1026 (.nil) z<|.storeP 0 (Fld.self _) z z z ty1026<|.an z z<|.arrNil tLink<|.arrNil tTab<|.retL2 (.slice none 0 0,.slice none 0 0) func28 results28 (.cell 2 z z ty1026) (.tmp z) z (fun _ _ _ h=>baseV_of h) (by repeat first | exact List.Sublist.e | refine List.Sublist.cons_cons _ ?_ | refine List.Sublist.cons _ ?_)
 ·refine .skip<|.s<|go ?_
  refine .callL0 (c1054 fu _) n1054 z z fun q4 p5=>.alloc tBaseA d0A1026 [] zA1026 z fun b3=>go ?_
  refine .seq<|.s<|go ?_
  refine .call0 (c1084 fu _ _ _) n1084 z z fun q5=>go ?_
  refine .cd z ?_ ?_
  ·refine .s<|go ?_
   exact .retL2 (p5.1,p5.2) func28 results28 (.cell 3 z z ty1026) (.tmp z) z (fun _ _ _ h=>baseV_of h) (by repeat first | exact List.Sublist.e | refine List.Sublist.cons_cons _ ?_ | refine List.Sublist.cons _ ?_)
  ·refine .skip<|.s<|go ?_
   refine .callL0 (c1085 fu _ _ _) n1085 z z fun ks vm=>.alloc tRaw (.map none) [] z1115 z fun b4=>go ?_
   refine .frzP 0 9 z z<|.s<|.alloc tB d0_4 [] z4 z fun b5=>go ?_
   refine .seq<|.s<|go ?_
   refine .block<|.loop<|.use ((show ∀ (n1:Nat) (i:Int) (s:Bool),W _ _ _ _ _ ⟨[(3,isP b1 0,none),(6,isP b2 0,none),(8,isP b3 0,none),(9,isAt tRaw vm,none),(10,isP b5 0,none),(34,(tL tLink).va a0.links,none),(35,isI .i64 (a0.links.length:Int),none),(36,isI .i64 i,none)],[boxO b5 tB s [],mapO mk1055 vm ks,boxO b3 tBaseA (⟨p5.1,p5.2⟩:BaseA) [],arrO tTab p5.1 q4.tabs,arrO tLink p5.2 q4.links,boxO b2 tBaseA d0A1026 [],boxO b1 tBase a0 []]⟩ (f1028_l1 fu a0 q4 ks n1 i s) from ?_) fu _ _) sbS sbB
   intro n1
   induction n1 with
   | zero=>exact fun _ _=>.stop
   | succ n1 ih1=>
    intro i s
    refine .inLoop<|.s<|go ?_
    refine .seq<|.cd z ?_ ?_
    ·refine .skip<|.seq<|.block<|.s<|go ?_
     refine .alloc tLink d0_1044 [] z1044 z fun b6=>go ?_
     refine .g<|go ?_
     refine .frzP 0 12 z z<|.makeF z z<|.callNS [0,0] (c1086l fu _ _ (fun x0 x1 s=>f1087 x0 x1 (a0.links.getD i.toNat default) ks s) (fun s=>[boxO b5 tB s [],mapO mk1055 vm ks]) 87 [isP b5 0,isAt tLink (a0.links.getD i.toNat default),isAt tRaw vm] n1087 (fun x0 x1 s=>c1087 x0 x1 b5 (a0.links.getD i.toNat default) vm ks s) _) z n1086 z z fun q6=>fj (ih1 _ _)
    ·refine .exit z<|.seq<|.s<|go ?_
     unfold f1028_j1
     refine .cd z ?_ ?_
     ·refine .s<|go ?_
      exact .retL2 (p5.1,p5.2) func28 results28 (.cell 5 z z ty1026) (.tmp z) z (fun _ _ _ h=>baseV_of h) (by repeat first | exact List.Sublist.e | refine List.Sublist.cons_cons _ ?_ | refine List.Sublist.cons _ ?_)
     ·refine .skip<|.pbind fun X hX=>?_
      have hX:=anyM_some hX
      clear ih1
      refine .seq<|.s<|go ?_
      refine .unRaw 47 z<|.rangeMap (mk:=mk1055) 1 z z u115 z fun it m es clock hv hE hB hl=>?_
      subst hv
      refine .nil<|.block<|.loop<|.use ((show ∀ (N:Nat) (lk:List Ref) (seen:Array Nat) (tabs:List Tab),lk.length < N→HL.Left mk1055 es seen lk→(∀ p:List Ref,p.Perm lk→foldK (offStep fu q4.links) p tabs=some X)→W _ _ _ _ _ ⟨[(3,isP b1 0,none),(6,isP b2 0,none),(8,isP b3 0,none),(9,isAt tRaw (.map (some m)),none),(48,isP it 0,none)],[iterO it m clock clock seen,mapE m es clock,boxO b3 tBaseA (⟨p5.1,p5.2⟩:BaseA) [],arrO tTab p5.1 tabs,arrO tLink p5.2 q4.links,boxO b2 tBaseA d0A1026 [],boxO b1 tBase a0 []]⟩ (f1028_l2 fu a0 ks q4.links fu 0 X) from ?_) (ks.length+1) ks #[] q4.tabs (Nat.lt_succ_self _) hl hX) sbS sbB
      intro N
      induction N with
      | zero=>exact fun _ _ _ h=>absurd h (Nat.not_lt_zero _)
      | succ N ih=>
       intro lk seen tabs hlt hl hp
       refine .inLoop<|.s<|.nextMap2 0 1 z z z hB (Nat.le_refl _) hl z (fun h0=>?_) (fun k lk' en hperm hl2 hen hk hv=>?_)
       ·subst h0
        have hT:tabs=X:=by simpa [foldK] using hp [] (.refl _)
        subst hT
        refine go ?_
        refine .seq<|.condF z<|.exit z<|.mapBack 1 z hE hB<|.seq<|.s<|go ?_
        refine .block<|.loop<|.use ((show ∀ (n2:Nat) (i:Int) (tabs:List Tab),W _ _ _ _ _ ⟨[(3,isP b1 0,none),(6,isP b2 0,none),(8,isP b3 0,none),(9,isAt tRaw (.map (some m)),none),(75,(tL tLink).va a0.links,none),(76,isI .i64 (a0.links.length:Int),none),(77,isI .i64 i,none)],[boxO b3 tBaseA (⟨p5.1,p5.2⟩:BaseA) [],arrO tTab p5.1 tabs,arrO tLink p5.2 q4.links,mapO mk1055 (.map (some m)) ks,boxO b2 tBaseA d0A1026 [],boxO b1 tBase a0 []]⟩ (f1028_l2 fu a0 ks q4.links n2 i tabs) from ?_) fu _ _) sbS sbB
        clear hp ih hX
        intro n2
        induction n2 with
        | zero=>exact fun _ _=>.stop
        | succ n2 ih2=>
         intro i tabs
         refine .inLoop<|.s<|go ?_
         refine .seq<|.cd z ?_ ?_
         ·refine .skip<|.seq<|.block<|.s<|go ?_
          refine .alloc tLink d0_1044 [] z1044 z fun b8=>go ?_
          refine .g<|go ?_
          refine .frzP 0 16 z z<|.makeF z z<|.callNS [0,0,0,0] (c1086l fu _ _ (fun x0 x1 s=>f1089 fu x0 x1 (a0.links.getD i.toNat default) ks q4.links s) (fun s=>[boxO b3 tBaseA (⟨p5.1,p5.2⟩:BaseA) [],arrO tTab p5.1 s,arrO tLink p5.2 q4.links,mapO mk1055 (.map (some m)) ks]) 89 [isAt tLink (a0.links.getD i.toNat default),isAt tRaw (.map (some m)),isP b3 0] n1089 (fun x0 x1 s=>c1089 fu x0 x1 b3 p5.1 p5.2 (a0.links.getD i.toNat default) (.map (some m)) ks q4.links s) _) z n1086 z z fun q6=>fj (ih2 _ _)
         ·refine .exit z<|.s<|go ?_
          exact .retL2 (p5.1,p5.2) func28 results28 (.cell 4 z z ty1026) (.tmp z) z (fun _ _ _ h=>baseV_of h) (by repeat first | exact List.Sublist.e | refine List.Sublist.cons_cons _ ?_ | refine List.Sublist.cons _ ?_)
       ·have hlt:lk'.length < N:=by
         have:=hperm.length_eq
         simp at this
         omega
        obtain ⟨t',ht,hf2⟩:=foldK_step hp hperm
        obtain ⟨q2,q3,h2,hb,h3,rfl⟩:=offStep_inv ht
        have kk:CR prog 88 [tTable.va (tabs.getD q2.toNat default).table,isI .i64 k.id] q3 (fun q=>tup [tTable.va q.1,isI .i64 q.2]):=⟨by rw [← h3];exact c40 fu _ _,n40⟩
        refine go ?_
        refine .seq<|.condT z<|.skip<|.block<|.s<|.entryMap 0 1 z z z hB hen hk hv z<|go ?_
        refine .turnV 52 (Q':=tRef.va k) z (fun v A w h=>⟨[str k.name,.int .i64 k.id],h,⟨[_],[_],z,z,z⟩⟩)<|.alloc tRef d0_1055 [] z1055 z fun b7=>go ?_
        refine .s<|go ?_
        refine .lendR (y:=q2) (Q:=fun q=>isI .i64 q) (by rw [← h2];exact c1056 fu (⟨tabs,q4.links⟩:Base) k.name) (fun a w hk=>lend2 4 5 z z hk) lendBase (fun _ _ _ _ _ _ h=>h) n1056 z z<|go ?_
        refine .drawT 18 [] [6,7,8,11,12,13,14,15,16,17] [4] mix (by kernel_rfl) sts z<|.node (.on ?_<|.off (by kernel_rfl)<|.off (by kernel_rfl)<|.off (by kernel_rfl)<|.off (by kernel_rfl)<|.off (by kernel_rfl)<|.off (by kernel_rfl)<|.off (by kernel_rfl)<|.off (by kernel_rfl)<|.off (by kernel_rfl)<|.nil)
        ·refine .put 64 z z fun _ _ hE h=>.useC hb<|.elemA 4 (hE.op z) (hE.op z) z u23 ty1039 z<|h _ _ (.same<|.same<|.same<|.same<|.hole z<|.same<|.same<|.same<|.nil)<|.node (.on ?_<|.off (by kernel_rfl)<|.off (by kernel_rfl)<|.off (by kernel_rfl)<|.off (by kernel_rfl)<|.off (by kernel_rfl)<|.off (by kernel_rfl)<|.off (by kernel_rfl)<|.off (by kernel_rfl)<|.nil)
         ·refine .put 65 z z fun _ _ hE h=>.fieldA (hE.op z) fa1039_1 z<|h _ _ (.same<|.same<|.same<|.same<|.hole z<|.same<|.same<|.same<|.nil)<|.node (.on ?_<|.off (by kernel_rfl)<|.off (by kernel_rfl)<|.off (by kernel_rfl)<|.off (by kernel_rfl)<|.off (by kernel_rfl)<|.off (by kernel_rfl)<|.off (by kernel_rfl)<|.nil)
          ·refine .put 66 z z fun _ _ hE h=>.loadA 4 fTab_1 (hE.op z) z ty27 z<|h _ _ (.same<|.same<|.same<|.same<|.hole z<|.same<|.same<|.same<|.nil)<|.node (.on ?_<|.off (by kernel_rfl)<|.off (by kernel_rfl)<|.off (by kernel_rfl)<|.off (by kernel_rfl)<|.off (by kernel_rfl)<|.off (by kernel_rfl)<|.nil)
           ·refine .put 69 z z fun _ _ hE h=>.cr (hE.ops z) kk z<|h _ _ (.same<|.same<|.same<|.same<|.hole z<|.same<|.same<|.same<|.nil)<|.node (.on ?_<|.off (by kernel_rfl)<|.off (by kernel_rfl)<|.off (by kernel_rfl)<|.off (by kernel_rfl)<|.off (by kernel_rfl)<|.nil)
            ·refine .put 57 z z fun _ _ hE h=>.m (hE.op z) z<|h _ _ (.same<|.same<|.same<|.same<|.hole z<|.same<|.same<|.same<|.nil)<|.node (.on ?_<|.on ?_<|.off (by kernel_rfl)<|.off (by kernel_rfl)<|.off (by kernel_rfl)<|.nil)
             ·refine .put 70 z z fun _ _ hE h=>.extract (hE.op z) z z<|h _ _ (.same<|.same<|.same<|.same<|.hole z<|.same<|.same<|.same<|.nil)<|.node (.on ?_<|.on ?_<|.off (by kernel_rfl)<|.off (by kernel_rfl)<|.nil)
              ·refine .put 71 z z fun _ _ hE h=>.extract (hE.op z) z z<|h _ _ (.same<|.same<|.same<|.same<|.hole z<|.same<|.same<|.same<|.nil)<|.node (.on ?_<|.off (by kernel_rfl)<|.off (by kernel_rfl)<|.nil)
               ·refine .put 72 z z fun _ _ hE h=>.useC hb<|.elemA 4 (hE.op z) (hE.op z) z u23 ty1039 z<|h _ _ (.same<|.same<|.same<|.same<|.hole z<|.same<|.same<|.same<|.nil)<|.node (.on ?_<|.off (by kernel_rfl)<|.nil)
                ·refine .put 73 z z fun _ _ hE h=>.fieldA (hE.op z) fa1039_1 z<|h _ _ (.same<|.same<|.same<|.same<|.hole z<|.same<|.same<|.same<|.nil)<|.node (.on ?_<|.nil)
                 ·exact .act z fun _ _ hE h=>.storeA 4 fTab_1 (hE.op z) z (hE.op z) ty27<|h _ (.same<|.same<|.same<|.same<|.hole z<|.same<|.same<|.same<|.nil)<|.leaf<|.nil<|fj (ih _ _ _ hlt hl2 hf2)
              ·refine .put 72 z z fun _ _ hE h=>.useC hb<|.elemA 4 (hE.op z) (hE.op z) z u23 ty1039 z<|h _ _ (.same<|.same<|.same<|.same<|.hole z<|.same<|.same<|.same<|.nil)<|.node (.on ?_<|.on ?_<|.off (by kernel_rfl)<|.nil)
               ·refine .put 71 z z fun _ _ hE h=>.extract (hE.op z) z z<|h _ _ (.same<|.same<|.same<|.same<|.hole z<|.same<|.same<|.same<|.nil)<|.node (.on ?_<|.off (by kernel_rfl)<|.nil)
                ·refine .put 73 z z fun _ _ hE h=>.fieldA (hE.op z) fa1039_1 z<|h _ _ (.same<|.same<|.same<|.same<|.hole z<|.same<|.same<|.same<|.nil)<|.node (.on ?_<|.nil)
                 ·exact .act z fun _ _ hE h=>.storeA 4 fTab_1 (hE.op z) z (hE.op z) ty27<|h _ (.same<|.same<|.same<|.same<|.hole z<|.same<|.same<|.same<|.nil)<|.leaf<|.nil<|fj (ih _ _ _ hlt hl2 hf2)
               ·refine .put 73 z z fun _ _ hE h=>.fieldA (hE.op z) fa1039_1 z<|h _ _ (.same<|.same<|.same<|.same<|.hole z<|.same<|.same<|.same<|.nil)<|.node (.on ?_<|.on ?_<|.nil)
                ·refine .put 71 z z fun _ _ hE h=>.extract (hE.op z) z z<|h _ _ (.same<|.same<|.same<|.same<|.hole z<|.same<|.same<|.same<|.nil)<|.node (.on ?_<|.nil)
                 ·exact .act z fun _ _ hE h=>.storeA 4 fTab_1 (hE.op z) z (hE.op z) ty27<|h _ (.same<|.same<|.same<|.same<|.hole z<|.same<|.same<|.same<|.nil)<|.leaf<|.nil<|fj (ih _ _ _ hlt hl2 hf2)
                ·refine .act z fun _ _ hE h=>.storeA 4 fTab_1 (hE.op z) z (hE.op z) ty27<|h _ (.same<|.same<|.same<|.same<|.hole z<|.same<|.same<|.same<|.nil)<|.node (.on ?_<|.nil)
                 ·exact .put 71 z z fun _ _ hE h=>.extract (hE.op z) z z<|h _ _ (.same<|.same<|.same<|.same<|.hole z<|.same<|.same<|.same<|.nil)<|.leaf<|.nil<|fj (ih _ _ _ hlt hl2 hf2)
             ·refine .put 71 z z fun _ _ hE h=>.extract (hE.op z) z z<|h _ _ (.same<|.same<|.same<|.same<|.hole z<|.same<|.same<|.same<|.nil)<|.node (.on ?_<|.off (by kernel_rfl)<|.off (by kernel_rfl)<|.off (by kernel_rfl)<|.nil)
              ·refine .put 70 z z fun _ _ hE h=>.extract (hE.op z) z z<|h _ _ (.same<|.same<|.same<|.same<|.hole z<|.same<|.same<|.same<|.nil)<|.node (.on ?_<|.off (by kernel_rfl)<|.off (by kernel_rfl)<|.nil)
               ·refine .put 72 z z fun _ _ hE h=>.useC hb<|.elemA 4 (hE.op z) (hE.op z) z u23 ty1039 z<|h _ _ (.same<|.same<|.same<|.same<|.hole z<|.same<|.same<|.same<|.nil)<|.node (.on ?_<|.off (by kernel_rfl)<|.nil)
                ·refine .put 73 z z fun _ _ hE h=>.fieldA (hE.op z) fa1039_1 z<|h _ _ (.same<|.same<|.same<|.same<|.hole z<|.same<|.same<|.same<|.nil)<|.node (.on ?_<|.nil)
                 ·exact .act z fun _ _ hE h=>.storeA 4 fTab_1 (hE.op z) z (hE.op z) ty27<|h _ (.same<|.same<|.same<|.same<|.hole z<|.same<|.same<|.same<|.nil)<|.leaf<|.nil<|fj (ih _ _ _ hlt hl2 hf2)
noncomputable def f1012_j2 (fu:Nat) (q1:Base×List UInt8×List Set) (q9:Int) (q11:Base×Int) (i:Bool):Option Bool:=cond i (some false) (cond (decide (0≤q9)&&decide (q9 < (q11.1.tabs.length:Int))) (f1018 fu (⟨q11.1.tabs.set q9.toNat ⟨(q11.1.tabs.getD q9.toNat default).name,⟨(q11.1.tabs.getD q9.toNat default).table.first,(q11.1.tabs.getD q9.toNat default).table.changes,(q11.1.tabs.getD q9.toNat default).table.rows,(q1.1.tabs.getD q9.toNat default).table.next⟩⟩,q11.1.links⟩:Base) q1.1 |>.bind fun q15=>some q15) none)
noncomputable def f1012_j1 (fu:Nat) (q1:Base×List UInt8×List Set) (q3 q5:Base×Int) (i:Bool):Option Bool:=cond i (some (decide (q3.2=q5.2))) ((f1035 fu q1.1 q1.2.1).bind fun q9=>cond (decide (0≤q9)&&decide (q9 < (q1.1.tabs.length:Int))) ((f1028 fu q3.1 q1.2.1 (q1.1.tabs.getD q9.toNat default).table.next).bind fun q11=>cond (!decide (q11.2=0)) (f1012_j2 fu q1 q9 q11 true) (f1012_j2 fu q1 q9 q11 (!decide ((q11.1.tabs.length:Int)=(q1.1.tabs.length:Int))))) none)
noncomputable def f1012 (fu:Nat) (a0:List Int):Option Bool:=cond (decide (1048576 < (a0.length:Int))) (some true) ((f1040 fu a0).bind fun q1=>(f1041 fu q1.1 q1.2.1 q1.2.2).bind fun q3=>(f1042 fu q1.1 q1.2.1 q1.2.2).bind fun q5=>cond (!decide (q3.2=q5.2)) (f1012_j1 fu q1 q3 q5 true) (f1012_j1 fu q1 q3 q5 (!decide (q3.2=0))))
set_option maxHeartbeats 2000000 in
theorem c1012 (fu:Nat)(a0:List Int):Ctr prog 12 [(tL (tI .u8)).va a0] [] (f1012 fu a0) (fun _ _=>[]) (fun q=>isB q):=by
 refine .w func12 ntmps12 fun hf A w=>?_
 unfold f1012
 refine .s<|.an z z<|.seq<|.s<|go ?_
 refine .cd z ?_ ?_
 ·exact fr
 ·refine .skip<|.s<|.m z z<|.call0 (c1040 fu _) n1040 z z fun q1=>go ?_
  refine .alloc tBase d0_1026 [] z1026 z fun b2=>go ?_
  refine .s<|go ?_
  refine .call0 (c1041 fu _ _ _) n1041 z z fun q3=>go ?_
  refine .alloc tBase d0_1026 [] z1026 z fun b4=>go ?_
  refine .s<|go ?_
  refine .call0 (c1042 fu _ _ _) n1042 z z fun q5=>go ?_
  refine .alloc tBase d0_1026 [] z1026 z fun b6=>go ?_
  refine .seq<|.seq<|.join1 (fun i7=>⟨[(3,isP b2 0,none),(4,isS q1.2.1,none),(6,isP b4 0,none),(7,isI .i64 q3.2,none),(9,isI .i64 q5.2,none),(43,isB i7,none)],[boxO b4 tBase q3.1 [],boxO b2 tBase q1.1 []]⟩) (fun i7=>f1012_j1 fu q1 q3 q5 i7) (fun i7=>?_) (fun hj1=>?_)
  ·unfold f1012_j1
   refine .cd z ?_ ?_
   ·exact fr
   ·refine .skip<|.s<|go ?_
    refine .call0 (c1035 fu _ _) n1035 z z fun q9=>go ?_
    refine .s<|go ?_
    refine .s<|go ?_
    refine .callL0 (c1028a fu _ _ _) n1028 z z fun q11 p12=>go ?_
    refine .alloc tBaseA d0A1026 [] zA1026 z fun b13=>go ?_
    refine .seq<|.seq<|.join1 (fun i14=>⟨[(3,isP b2 0,none),(10,isI .i64 q9,none),(11,isI .i64 (q1.1.tabs.getD q9.toNat default).table.next,none),(12,isP b13 0,none),(74,isB i14,none)],[boxO b13 tBaseA (⟨p12.1,p12.2⟩:BaseA) [],arrO tTab p12.1 q11.1.tabs,arrO tLink p12.2 q11.1.links,boxO b2 tBase q1.1 []]⟩) (fun i14=>f1012_j2 fu q1 q9 q11 i14) (fun i14=>?_) (fun hj2=>?_)
    ·unfold f1012_j2
     refine .cd z ?_ ?_
     ·exact fr
     ·refine .skip<|.s<|go ?_
      refine .storeA 1 (fTab_1.comp fTable_3) z z z ty3<|.nil<|.frzBox 0 1 conv1026_0 z z<|.frzBox 0 2 conv1026_1 z z<|.s<|go ?_
      exact .call0 (c1018 fu _ _) n1018 z z fun q15=>fr
    ·refine .g<|go ?_
     refine .split 66 z (fun _=>?_) (fun _=>?_)
     ·exact fj (hj2 _)
     ·exact fj (hj2 _)
  ·refine .g<|go ?_
   refine .split 40 z (fun _=>?_) (fun _=>?_)
   ·exact fj (hj1 _)
   ·exact fj (hj1 _)
end Go.Proofs.YtdpigighgmipfaaGreatDoor
