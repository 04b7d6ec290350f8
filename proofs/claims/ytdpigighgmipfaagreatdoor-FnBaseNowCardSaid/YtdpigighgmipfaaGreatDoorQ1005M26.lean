/- When a base is right: what the program and the document answer. -/
import Derived.Test.YtdpigighgmipfaaGreatDoorQ1005M25
set_option linter.all false
namespace Go.Proofs.YtdpigighgmipfaaGreatDoor
open Go Go.HL
variable {fu:Nat}
theorem natn (n:Nat):decide ((n:Int)<0)=false:=by simp
theorem f1062_is {b:Base}{nm:List UInt8}(hf:BIG≤fu)(h:b.tabs.length≤1000):f1062 fu b nm=some (tabI b nm):=by
 unfold f1062 tabI tabN
 refine loopI (L:=f1062_l1 b nm) b.tabs (fun r=>decide (r.name=nm)) (by unfold BIG;omega) (fun n=>?_) (fun n k hk hp=>?_) (fun n k hk hp=>?_) (by unfold BIG at hf;omega)
 ·rw [f1062_l1,nlt];rfl
 ·rw [f1062_l1,ltR hk,ct,ge0,Bool.and_self,ct,tn,getD_lt hk,hp];rfl
 ·rw [f1062_l1,ltR hk,ct,ge0,Bool.and_self,ct,tn,getD_lt hk,hp];rfl
theorem o1062:@f1062o=@f1062:=by
 have h:∀ t id n i,f1062o_l1 t id n i=f1062_l1 t id n i:=fun t id n=>by
  induction n with
  | zero=>intro i;rfl
  | succ n ih=>intro i;rw [f1062o_l1,f1062_l1,ih]
 funext fu t id
 unfold f1062o f1062
 rw [h]
theorem f1062o_is {b:Base}{nm:List UInt8}(hf:BIG≤fu)(h:b.tabs.length≤1000):f1062o fu b nm=some (tabI b nm):=by rw [o1062];exact f1062_is hf h
theorem f1056_is {b:Base}{nm:List UInt8}(hf:BIG≤fu)(h:b.tabs.length≤1000):f1056 fu b nm=some (tabI b nm):=by
 unfold f1056 f1122
 have:f1122_l1 b.tabs (fun x0=>f1123 x0 nm) fu 0=some (tabI b nm):=by
  unfold tabI tabN
  refine loopI (L:=f1122_l1 b.tabs fun x0=>f1123 x0 nm) b.tabs (fun r=>decide (r.name=nm)) (by unfold BIG;omega) (fun n=>?_) (fun n k hk hp=>?_) (fun n k hk hp=>?_) (by unfold BIG at hf;omega)
  ·rw [f1122_l1,nlt];rfl
  ·rw [f1122_l1,ltR hk,ct,ge0,Bool.and_self,ct,tn,getD_lt hk];unfold f1123;rw [hp];rfl
  ·rw [f1122_l1,ltR hk,ct,ge0,Bool.and_self,ct,tn,getD_lt hk];unfold f1123;rw [hp];rfl
 rw [this];rfl
structure TabsG (b:Base):Prop where
 ok:∀ k,k<b.tabs.length→TabOK (tabK b k)
 sm:SmB b
theorem TabsG.tab {b:Base}(h:TabsG b){nm:List UInt8}(hk:tabN b nm<b.tabs.length):Good (tabT b nm):=⟨h.ok _ hk,h.sm.tabs _ hk⟩
theorem GoodB.g {b:Base}(h:GoodB b):TabsG b:=⟨fun k hk=>(h.ok.tabs k hk).ok,h.sm⟩
theorem Good.rt {t:Table}(h:Good t):Rt t:=h.ok.rt h.sm
theorem tabT_at (b:Base)(nm:List UInt8):(b.tabs.getD (tabN b nm) default).table=tabT b nm:=rfl
theorem fits_B {b:Base}{l:Link}{x y:Bool}(h1:tabN b l.from_<b.tabs.length)(h2:tabN b l.to<b.tabs.length)(hlo:1≤l.how)(hhi:l.how≤3)
     (hx:colN b l < (lastS (tabT b l.from_)).length→x=(decide (((lastS (tabT b l.from_)).getD (colN b l) default).kind=1)&&(!decide (l.how=3) || !((lastS (tabT b l.from_)).getD (colN b l) default).need)))
     (hy:¬ colN b l < (lastS (tabT b l.from_)).length→x=false):x=B (LinkFits b l):=by
 by_cases hc:colN b l < (lastS (tabT b l.from_)).length
 ·rw [hx hc]
  refine eq_B ?_
  simp only [Bool.and_eq_true,decide_eq_true_eq,Bool.or_eq_true,Bool.not_eq_true',decide_eq_false_iff_not]
  refine ⟨fun h=>⟨h1,h2,hlo,hhi,hc,h.1,fun hh=>?_⟩,fun h=>⟨h.kind,?_⟩⟩
  ·rcases h.2 with g|g
   ·exact absurd hh g
   ·exact g
  ·by_cases hh:l.how=3
   ·exact .inr (h.need hh)
   ·exact .inl hh
 ·rw [hy hc,B_f fun h=>hc h.col]
theorem f1068_is {b:Base}{l:Link}(hf:BIG≤fu)(h:TabsG b):f1068 fu b l=some (B (LinkFits b l)):=by
 have hs:=h.sm.ntab
 unfold f1068
 rw [f1062_is hf hs,bs]
 by_cases h1:tabN b l.from_<b.tabs.length
 case neg=>rw [tabI_no h1,B_f fun g=>h1 g.src];rfl
 rw [tabI_lt h1,natn,cf,f1062_is hf hs,bs]
 by_cases h2:tabN b l.to<b.tabs.length
 case neg=>rw [tabI_no h2,B_f fun g=>h2 g.dst];rfl
 rw [tabI_lt h2,natn,cf]
 by_cases h3:l.how<1
 ·rw [dt h3,B_f fun g=>by have:=g.lo;omega];rfl
 rw [df h3,cf]
 by_cases h4:3<l.how
 ·rw [dt h4,B_f fun g=>by have:=g.hi;omega];rfl
 rw [df h4]
 have g:=(h.tab h1).rt
 have hhi:=g.okLast.hi
 unfold f1068_j1
 rw [cf,inR h1,ct,tn,tabT_at,f53_is hf g,bs,f108_is hf (by omega),bs]
 by_cases hc:atN (lastS (tabT b l.from_)) l.col < (lastS (tabT b l.from_)).length
 case neg=>
  rw [atI_no hc,B_f fun g=>hc g.col];rfl
 rw [atI_lt hc,ge0,ct,ltR hc,Bool.and_self,ct,tn]
 have key:∀ x:Bool,x=(decide (((lastS (tabT b l.from_)).getD (colN b l) default).kind=1)&&(!decide (l.how=3) || !((lastS (tabT b l.from_)).getD (colN b l) default).need))→some x=some (B (LinkFits b l)):=fun x hx=>
  congrArg some (fits_B (y:=true) h1 h2 (by omega) (by omega) (fun _=>hx) fun hn=>absurd hc hn)
 unfold f1068_j2
 by_cases hk:((lastS (tabT b l.from_)).getD (atN (lastS (tabT b l.from_)) l.col) default).kind=1
 case neg=>
  rw [df hk,cf]
  refine key _ ?_
  unfold colN
  rw [df hk];rfl
 rw [dt hk,ct]
 by_cases hw:l.how=3
 case neg=>
  rw [df hw]
  refine key _ ?_
  unfold colN
  rw [dt hk,df hw];rfl
 rw [dt hw]
 simp only [Bool.not_true,cf,ct]
 refine key _ ?_
 unfold colN
 rw [dt hk,dt hw];simp
theorem f1072_is {b:Base}{l:Link}(hf:BIG≤fu)(h:TabsG b):f1072 fu b l=some (B (LinkFits b l)):=by
 have hs:=h.sm.ntab
 unfold f1072
 rw [f1056_is hf hs,bs,f1056_is hf hs,bs]
 by_cases h1:tabN b l.from_<b.tabs.length
 case neg=>rw [tabI_no h1,B_f fun g=>h1 g.src];rfl
 rw [tabI_lt h1,natn,cf]
 by_cases h2:tabN b l.to<b.tabs.length
 case neg=>rw [tabI_no h2,B_f fun g=>h2 g.dst];rfl
 rw [tabI_lt h2,natn,cf,f56_is,bs]
 by_cases h3:1≤l.how∧l.how≤3
 case neg=>rw [B_f h3,B_f fun g=>h3 ⟨g.lo,g.hi⟩];rfl
 rw [B_t h3]
 have g:=(h.tab h1).rt
 have hhi:=g.okLast.hi
 unfold f1072_j1
 simp only [Bool.not_true,cf]
 rw [inR h1,ct,tn,tabT_at,f66_is hf g,bs,f68_is hf (by omega),bs]
 by_cases hc:atN (lastS (tabT b l.from_)) l.col < (lastS (tabT b l.from_)).length
 case neg=>
  rw [atI_no hc,B_f fun g=>hc g.col];rfl
 rw [atI_lt hc,ge0,ct,ltR hc,Bool.and_self,ct,tn]
 have key:∀ x:Bool,x=(decide (((lastS (tabT b l.from_)).getD (colN b l) default).kind=1)&&(!decide (l.how=3) || !((lastS (tabT b l.from_)).getD (colN b l) default).need))→some x=some (B (LinkFits b l)):=fun x hx=>
  congrArg some (fits_B (y:=true) h1 h2 (by omega) (by omega) (fun _=>hx) fun hn=>absurd hc hn)
 unfold f1072_j2
 by_cases hk:((lastS (tabT b l.from_)).getD (atN (lastS (tabT b l.from_)) l.col) default).kind=1
 case neg=>
  rw [df hk,cf]
  refine key _ ?_
  unfold colN
  rw [df hk];rfl
 rw [dt hk,ct]
 by_cases hw:l.how=3
 case neg=>
  rw [df hw]
  refine key _ ?_
  unfold colN
  rw [dt hk,df hw];rfl
 rw [dt hw]
 simp only [Bool.not_true,cf,ct]
 refine key _ ?_
 unfold colN
 rw [dt hk,dt hw];simp
theorem f1069_is {b:Base}{i:Nat}(hf:BIG≤fu)(hl:b.links.length≤1000)(hi:i<b.links.length):f1069 fu b (i:Int)=some (B (LinkApart b i)):=by
 unfold f1069
 have hp:LinkApart b i↔((∀ k,k<i→¬ LinkAlike (b.links.getD k default) (b.links.getD i default))∧True):=⟨fun h=>⟨h,trivial⟩,fun h=>h.1⟩
 rw [B_congr hp]
 have step:∀ n (k:Nat),k<i→f1069_l1 b (i:Int) (n+1) (k:Int)=f1069_j2 (k:Int) (f1069_l1 b (i:Int) n) (B (LinkAlike (b.links.getD k default) (b.links.getD i default))):=fun n k hk=>by
  rw [f1069_l1,ltR hk,ct,inR (show k<b.links.length by omega),ct,inR hi,ct,tn,tn,ct,ct]
  unfold LinkAlike
  rw [B_and,dec_B,dec_B]
  cases B ((b.links.getD k default).from_=(b.links.getD i default).from_)<;>rfl
 refine loopB (L:=f1069_l1 b (i:Int)) _ _ (by unfold BIG;omega) (fun n _=>?_) (fun n h=>absurd trivial h) (fun n k hk hp=>?_) (fun n k hk hp=>?_) (by unfold BIG at hf;omega)
 ·rw [f1069_l1,nlt];rfl
 ·rw [step n k hk,B_f hp];rfl
 ·rw [step n k hk,B_t (Classical.byContradiction hp)];rfl
theorem f1130_is {t:Table}{col:List UInt8}{k:Nat}(hf:BIG≤fu)(h:Good t)(hk:k<t.rows.length)(hc:atN (lastS t) col < (lastS t).length):f1130 fu t (k:Int) col=some ((nowR t (t.rows.getD k default)).getD (atN (lastS t) col) default):=by
 have g:=h.rt
 have hhi:=g.okLast.hi
 have hl:=(h.now hk).len
 unfold f1130
 rw [inR hk,ct,tn,f90_is hf g ((h.ok.rws h.sm).all k hk),bs,f53_is hf g,bs,f108_is hf (by omega),bs,atI_lt hc,inR (show atN (lastS t) col < (nowR t (t.rows.getD k default)).length by omega),ct,tn]
theorem colV_at {b:Base}{l:Link}(k:Nat):(nowR (tabT b l.from_) ((tabT b l.from_).rows.getD k default)).getD (atN (lastS (tabT b l.from_)) l.col) default=colV b l ((tabT b l.from_).rows.getD k default):=rfl
theorem rowI_neg {t:Table}{id:Int}:decide (rowI t id<0) = !B (rowN t id<t.rows.length):=by
 by_cases h:rowN t id<t.rows.length
 ·rw [rowI_lt h,natn,B_t h];rfl
 ·rw [rowI_no h,B_f h];rfl
theorem rowI_ge {t:Table}{id:Int}:decide (0≤rowI t id)=B (rowN t id<t.rows.length):=by
 by_cases h:rowN t id<t.rows.length
 ·rw [rowI_lt h,ge0,B_t h]
 ·rw [rowI_no h,B_f h];rfl
theorem f1070_is {b:Base}{l:Link}(hf:BIG≤fu)(h:TabsG b)(hl:LinkFits b l):f1070 fu b l=some (B (LinkHolds b l)):=by
 have hs:=h.sm.ntab
 have g:=h.tab hl.src
 have g2:=h.tab hl.dst
 have hN:=g.sm.nrow
 unfold f1070
 rw [f1062_is hf hs,bs,tabI_lt hl.src,inR hl.src,ct,f1062_is hf hs,bs,tabI_lt hl.dst,inR hl.dst,ct]
 have hp:LinkHolds b l↔((∀ k,k < (tabT b l.from_).rows.length→RowHolds b l ((tabT b l.from_).rows.getD k default))∧True):=⟨fun h=>⟨h,trivial⟩,fun h=>h.1⟩
 rw [B_congr hp]
 have step:∀ n (k:Nat),k < (tabT b l.from_).rows.length→f1070_l1 fu b l (tabN b l.from_:Int) (tabN b l.to:Int) (n+1) (k:Int)=f1070_j2 (k:Int) (f1070_l1 fu b l (tabN b l.from_:Int) (tabN b l.to:Int) n) (B (¬ RowHolds b l ((tabT b l.from_).rows.getD k default))):=fun n k hk=>by
  rw [f1070_l1,tn,tn,tabT_at,tabT_at,ltR hk,ct,f1130_is hf g hk hl.col,bs,colV_at,f82_is hf g2.sm.nrow,bs,rowI_neg]
  by_cases hv:(colV b l ((tabT b l.from_).rows.getD k default)).kind=0
  ·have hr0:RowHolds b l ((tabT b l.from_).rows.getD k default):=fun h0=>absurd hv h0
   rw [dt hv,B_f (show ¬ ¬ RowHolds b l ((tabT b l.from_).rows.getD k default) from fun hh=>hh hr0)];rfl
  ·rw [df hv]
   by_cases hr:rowN (tabT b l.to) (colV b l ((tabT b l.from_).rows.getD k default)).n < (tabT b l.to).rows.length
   ·have hr0:RowHolds b l ((tabT b l.from_).rows.getD k default):=fun _=>hr
    rw [B_t hr,B_f (show ¬ ¬ RowHolds b l ((tabT b l.from_).rows.getD k default) from fun hh=>hh hr0)];rfl
   ·rw [B_f hr,B_t (show ¬ RowHolds b l ((tabT b l.from_).rows.getD k default) from fun hh=>hr (hh hv))];rfl
 refine loopB (L:=f1070_l1 fu b l (tabN b l.from_:Int) (tabN b l.to:Int)) _ _ (by unfold BIG;omega) (fun n _=>?_) (fun n h=>absurd trivial h) (fun n k hk hp=>?_) (fun n k hk hp=>?_) (by unfold BIG at hf;omega)
 ·rw [f1070_l1,tn,tabT_at,nlt];rfl
 ·rw [step n k hk,B_f fun hh=>hh hp];rfl
 ·rw [step n k hk,B_t hp];rfl
noncomputable def namingM {σ:Type} (b:Base) (l:Link) (f:Int→Int→σ→Option σ):List Row→σ→Option σ
 | [],s=>some s
 | r::rs,s=>@ite _ ((colV b l r).kind=0) (Classical.propDecidable _) (namingM b l f rs s) ((f r.id (colV b l r).n s).bind (namingM b l f rs))
theorem f1086_is {σ:Type}{b:Base}{l:Link}{f:Int→Int→σ→Option σ}{s:σ}(hf:BIG≤fu)(h:TabsG b)(hl:LinkFits b l):f1086 fu b l f s=namingM b l f (tabT b l.from_).rows s:=by
 have hs:=h.sm.ntab
 have g:=h.tab hl.src
 have hN:=g.sm.nrow
 have hhi:=g.rt.okLast.hi
 unfold f1086
 rw [f1056_is hf hs,bs,tabI_lt hl.src,inR hl.src,ct,tn,tabT_at,f66_is hf g.rt,bs,f68_is hf (by omega),bs,atI_lt hl.col]
 have key:∀ (m n k:Nat) (s:σ),k+m=(tabT b l.from_).rows.length→m<n→f1086_l1 fu b f (tabN b l.from_:Int) (atN (lastS (tabT b l.from_)) l.col:Int) n (k:Int) s=namingM b l f ((tabT b l.from_).rows.drop k) s:=by
  intro m
  induction m with
  | zero=>
   intro n k s hk hn
   obtain ⟨n,rfl⟩:∃ i,n=i+1:=⟨n-1,by omega⟩
   have:k=(tabT b l.from_).rows.length:=by omega
   subst this
   rw [f1086_l1,tn,tabT_at,nlt,List.drop_length];rfl
  | succ m ih=>
   intro n k s hk hn
   obtain ⟨n,rfl⟩:∃ i,n=i+1:=⟨n-1,by omega⟩
   have hkl:k < (tabT b l.from_).rows.length:=by omega
   have hlen:=(g.now hkl).len
   have hcl:atN (lastS (tabT b l.from_)) l.col < (nowR (tabT b l.from_) ((tabT b l.from_).rows.getD k default)).length:=by rw [hlen];exact hl.col
   rw [f1086_l1,tn,tabT_at,ltR hkl,ct,ge0,Bool.and_self,ct,tn,f49_is hf g.rt ((g.ok.rws g.sm).all k hkl),bs,inR hcl,ct,tn,colV_at,dropN (d:=default) hkl,namingM]
   simp only [f1086_j2,succI hkl (show (tabT b l.from_).rows.length≤BIG by unfold BIG;omega)]
   by_cases hv:(colV b l ((tabT b l.from_).rows.getD k default)).kind=0
   ·rw [if_pos hv,dt hv]
    exact ih n (k+1) s (by omega) (by omega)
   ·rw [if_neg hv,df hv]
    simp only [Bool.not_false,ct]
    congr 1
    funext s'
    exact ih n (k+1) s' (by omega) (by omega)
 have:=key (tabT b l.from_).rows.length fu 0 s (by omega) (by unfold BIG at hf;omega)
 rwa [List.drop_zero] at this
theorem f1136_is {t:Table}{id n:Int}{s:Bool}(hf:BIG≤fu)(h:t.rows.length≤1000):f1136 fu id n s t=some (s&&B (rowN t n<t.rows.length)):=by
 unfold f1136 f1136_j1
 rw [f48_is hf h,bs,rowI_ge]
 cases s<;>rfl
theorem f1073_is {b:Base}{l:Link}(hf:BIG≤fu)(h:TabsG b)(hl:LinkFits b l):f1073 fu b l=some (B (LinkHolds b l)):=by
 have hs:=h.sm.ntab
 have g2:=h.tab hl.dst
 unfold f1073
 rw [f1056_is hf hs,bs,tabI_lt hl.dst,inR hl.dst,ct,tn,tabT_at,f1086_is hf h hl]
 have key:∀ (rs:List Row) (s:Bool),namingM b l (fun x0 x1 s=>f1136 fu x0 x1 s (tabT b l.to)) rs s=some (s&&B (∀ r,r∈rs→RowHolds b l r)):=by
  intro rs
  induction rs with
  | nil=>intro s;rw [namingM,B_t (fun _ h=>nomatch h),Bool.and_true]
  | cons r rs ih=>
   intro s
   have e:B (∀ q,q∈r::rs→RowHolds b l q)=(B (RowHolds b l r)&&B (∀ q,q∈rs→RowHolds b l q)):=by
    rw [← B_and]
    exact B_congr (by simp)
   rw [namingM,e]
   by_cases hv:(colV b l r).kind=0
   ·rw [if_pos hv,ih,B_t (show RowHolds b l r from fun h0=>absurd hv h0),Bool.true_and]
   ·rw [if_neg hv,f1136_is hf g2.sm.nrow,bs,ih]
    have e2:B (RowHolds b l r)=B (rowN (tabT b l.to) (colV b l r).n < (tabT b l.to).rows.length):=B_congr ⟨fun hh=>hh hv,fun hh _=>hh⟩
    rw [e2,Bool.and_assoc]
 rw [key,bs,Bool.true_and]
 congr 1
 refine B_congr ⟨fun hh k hk=>hh _ (getD_mem hk),fun hh r hr=>LinkHolds.mem hh hr⟩
theorem f1067_is {b:Base}(hf:BIG≤fu)(hs:SmB b):f1067 fu b=some (B ((∀ k,k<b.tabs.length→TabGood b k)∧b.tabs.length≤3)):=by
 have hN:=hs.ntab
 unfold f1067
 have step:∀ n (k:Nat),k<b.tabs.length→f1067_l1 fu b (n+1) (k:Int)=f1067_j2 (k:Int) (f1067_l1 fu b n) (B (¬ TabGood b k)):=fun n k hk=>by
  rw [f1067_l1,ltR hk,ct,ge0,Bool.and_self,ct,tn,f135_sm hf (hs.names k hk),bs]
  by_cases h1:NameOK (b.tabs.getD k default).name
  case neg=>rw [B_f h1,B_t fun g=>h1 g.name];rfl
  rw [B_t h1]
  simp only [Bool.not_true,cf,ct]
  rw [f1062_is hf hN,bs]
  by_cases h2:tabN b (b.tabs.getD k default).name=k
  case neg=>
   have:decide (tabI b (b.tabs.getD k default).name=(k:Int))=false:=by
    refine df fun hh=>h2 ?_
    unfold tabI at hh
    split at hh<;>omega
   rw [this,B_t fun g=>h2 g.place];rfl
  have h2':tabI b (b.tabs.getD k default).name=(k:Int):=by rw [tabI_lt (by rw [h2];exact hk),h2]
  rw [dt h2']
  simp only [Bool.not_true,cf]
  have e:f17 fu (b.tabs.getD k default).table=some (B (TabOK (tabK b k))):=f17_is hf (hs.tabs k hk)
  rw [e,bs]
  by_cases h3:TabOK (tabK b k)
  ·rw [B_t h3,B_f fun hh=>hh ⟨h1,h2,h3⟩];rfl
  ·rw [B_f h3,B_t fun hh=>h3 hh.ok];rfl
 refine loopB (L:=f1067_l1 fu b) _ _ (by unfold BIG;omega) (fun n h=>?_) (fun n h=>?_) (fun n k hk hp=>?_) (fun n k hk hp=>?_) (by unfold BIG at hf;omega)
 ·rw [f1067_l1,nlt,cf,dt (by omega)]
 ·rw [f1067_l1,nlt,cf,df (by omega)]
 ·rw [step n k hk,B_f fun hh=>hh hp];rfl
 ·rw [step n k hk,B_t hp];rfl
theorem f1019_is {b:Base}(hf:BIG≤fu)(hs:SmB b):f1019 fu b=some (B (BaseOK b)):=by
 have hN:=hs.nlink
 unfold f1019
 rw [f1067_is hf hs,bs]
 by_cases h1:(∀ k,k<b.tabs.length→TabGood b k)∧b.tabs.length≤3
 case neg=>rw [B_f h1,B_f fun g=>h1 ⟨g.tabs,g.ntab⟩];rfl
 rw [B_t h1]
 have hg:TabsG b:=⟨fun k hk=>(h1.1 k hk).ok,hs⟩
 unfold f1019_j1
 simp only [Bool.not_true,cf]
 by_cases h2:b.links.length≤4
 case neg=>rw [dt (by omega),B_f fun g=>h2 g.nlink];rfl
 rw [df (by omega),cf]
 have hp:BaseOK b↔((∀ i,i<b.links.length→LinkGood b i)∧True):=⟨fun h=>⟨h.links,trivial⟩,fun h=>⟨h1.1,h1.2,h2,h.1⟩⟩
 rw [B_congr hp]
 have step:∀ n (k:Nat),k<b.links.length→f1019_l1 fu b (n+1) (k:Int)=f1019_j3 (k:Int) (f1019_l1 fu b n) (B (¬ LinkGood b k)):=fun n k hk=>by
  rw [f1019_l1,ltR hk,ct,ge0,Bool.and_self,ct,tn,f1068_is hf hg,bs]
  by_cases g1:LinkFits b (b.links.getD k default)
  case neg=>rw [B_f g1,B_t fun g=>g1 g.fits];rfl
  rw [B_t g1]
  simp only [Bool.not_true,cf,ct]
  rw [f1069_is hf hN hk,bs,f1070_is hf hg g1]
  by_cases g2:LinkApart b k
  case neg=>rw [B_f g2,B_t fun g=>g2 g.apart];rfl
  rw [B_t g2]
  by_cases g3:LinkHolds b (b.links.getD k default)
  ·rw [B_t g3,B_f fun hh=>hh ⟨g1,g2,g3⟩];rfl
  ·rw [B_f g3,B_t fun hh=>g3 hh.holds];rfl
 refine loopB (L:=f1019_l1 fu b) _ _ (by unfold BIG;omega) (fun n _=>?_) (fun n h=>absurd trivial h) (fun n k hk hp=>?_) (fun n k hk hp=>?_) (by unfold BIG at hf;omega)
 ·rw [f1019_l1,nlt];rfl
 ·rw [step n k hk,B_f fun hh=>hh hp];rfl
 ·rw [step n k hk,B_t hp];rfl
def linkN (b:Base)(nm col:List UInt8):Nat:=b.links.findIdx fun l=>decide (l.from_=nm)&&decide (l.col=col)
def linkI (b:Base)(nm col:List UInt8):Int:=if linkN b nm col<b.links.length then (linkN b nm col:Int) else -1
theorem f1138_is {l:Link}{nm col:List UInt8}:f1138 fu l nm col=some (decide (l.from_=nm)&&decide (l.col=col)):=by
 unfold f1138 f1138_j1
 cases decide (l.from_=nm)<;>rfl
theorem f1074_is {b:Base}{nm col:List UInt8}(hf:BIG≤fu)(h:b.links.length≤1000):f1074 fu b nm col=some (linkI b nm col):=by
 unfold f1074 f1137
 have:f1137_l1 b.links (fun x0=>f1138 fu x0 nm col) fu 0=some (linkI b nm col):=by
  unfold linkI linkN
  refine loopI (L:=f1137_l1 b.links fun x0=>f1138 fu x0 nm col) b.links (fun l=>decide (l.from_=nm)&&decide (l.col=col)) (by unfold BIG;omega) (fun n=>?_) (fun n k hk hp=>?_) (fun n k hk hp=>?_) (by unfold BIG at hf;omega)
  ·rw [f1137_l1,nlt];rfl
  ·rw [f1137_l1,ltR hk,ct,ge0,Bool.and_self,ct,tn,getD_lt hk,f1138_is,hp];rfl
  ·rw [f1137_l1,ltR hk,ct,ge0,Bool.and_self,ct,tn,getD_lt hk,f1138_is,hp];rfl
 rw [this];rfl
theorem linkN_iff {b:Base}{nm col:List UInt8}:linkN b nm col<b.links.length↔Linked b nm col:=by
 constructor
 ·intro h
  have:=List.findIdx_getElem (w:=h)
  simp only [Bool.and_eq_true,decide_eq_true_eq] at this
  exact ⟨_,h,by rw [getD_lt h];exact this⟩
 ·rintro ⟨k,hk,h1,h2⟩
  refine List.findIdx_lt_length_of_exists ⟨_,getD_mem (d:=(default:Link)) hk,?_⟩
  rw [h1,h2,dt rfl,dt rfl];rfl
theorem linkI_self {b:Base}{i:Nat}(hi:i<b.links.length):decide (linkI b (b.links.getD i default).from_ (b.links.getD i default).col=(i:Int))=B (LinkApart b i):=by
 have hL:Linked b (b.links.getD i default).from_ (b.links.getD i default).col:=⟨i,hi,rfl,rfl⟩
 have hlt:=linkN_iff.2 hL
 have hle:linkN b (b.links.getD i default).from_ (b.links.getD i default).col≤i:=by
  refine Classical.byContradiction fun hn=>?_
  have:=List.not_of_lt_findIdx (show i<linkN b (b.links.getD i default).from_ (b.links.getD i default).col by omega)
  rw [← getD_lt (d:=default) hi,dt rfl,dt rfl] at this
  cases this
 unfold linkI
 rw [if_pos hlt]
 refine Eq.trans dec_B (B_congr ?_)
 constructor
 ·intro h k hk hh
  have h':linkN b (b.links.getD i default).from_ (b.links.getD i default).col=i:=by omega
  have:=List.not_of_lt_findIdx (show k<linkN b (b.links.getD i default).from_ (b.links.getD i default).col by omega)
  rw [← getD_lt (d:=default) (show k<b.links.length by omega)] at this
  rw [dt hh.1,dt hh.2] at this
  cases this
 ·intro h
  refine Classical.byContradiction fun hn=>?_
  have hlt2:linkN b (b.links.getD i default).from_ (b.links.getD i default).col<i:=by omega
  have:=List.findIdx_getElem (w:=hlt)
  simp only [Bool.and_eq_true,decide_eq_true_eq] at this
  refine h _ hlt2 ⟨?_,?_⟩<;>rw [getD_lt hlt]
  ·exact this.1
  ·exact this.2
theorem f1020_is {b:Base}(hf:BIG≤fu)(hs:SmB b):f1020 fu b=some (B (BaseOK b)):=by
 have hN:=hs.ntab
 have hN2:=hs.nlink
 unfold f1020
 have hp:BaseOK b↔((∀ k,k<b.tabs.length→TabGood b k)∧BaseOK b):=⟨fun h=>⟨h.tabs,h⟩,fun h=>h.2⟩
 rw [B_congr hp]
 have step:∀ n (k:Nat),k<b.tabs.length→f1020_l1 fu b (n+1) (k:Int)=f1020_j6 (k:Int) (f1020_l1 fu b n) (B (¬ TabGood b k)):=fun n k hk=>by
  rw [f1020_l1,ltR hk,ct,ge0,Bool.and_self,ct,tn,f128_sm hf (hs.names k hk),bs]
  by_cases h1:NameOK (b.tabs.getD k default).name
  case neg=>rw [B_f h1,B_t fun g=>h1 g.name];rfl
  rw [B_t h1]
  simp only [Bool.not_true,cf]
  rw [f1056_is hf hN,bs]
  by_cases h2:tabN b (b.tabs.getD k default).name=k
  case neg=>
   have:decide (tabI b (b.tabs.getD k default).name=(k:Int))=false:=by
    refine df fun hh=>h2 ?_
    unfold tabI at hh
    split at hh<;>omega
   rw [this,B_t fun g=>h2 g.place];rfl
  have h2':tabI b (b.tabs.getD k default).name=(k:Int):=by rw [tabI_lt (by rw [h2];exact hk),h2]
  rw [dt h2']
  simp only [Bool.not_true,cf]
  have e:f19 fu (b.tabs.getD k default).table=some (B (TabOK (tabK b k))):=f19_is hf (hs.tabs k hk)
  rw [e,bs]
  by_cases h3:TabOK (tabK b k)
  ·rw [B_t h3,B_f fun hh=>hh ⟨h1,h2,h3⟩];rfl
  ·rw [B_f h3,B_t fun hh=>h3 hh.ok];rfl
 have tail:(∀ k,k<b.tabs.length→TabGood b k)→∀ n,f1020_l1 fu b (n+1) (b.tabs.length:Int)=some (B (BaseOK b)):=fun ht n=>by
  have hg:TabsG b:=⟨fun k hk=>(ht k hk).ok,hs⟩
  rw [f1020_l1,nlt,cf]
  have hp:BaseOK b↔((∀ i,i<b.links.length→LinkGood b i)∧(b.tabs.length≤3∧b.links.length≤4)):=⟨fun h=>⟨h.links,h.ntab,h.nlink⟩,fun h=>⟨ht,h.2.1,h.2.2,h.1⟩⟩
  rw [B_congr hp]
  have step:∀ m (k:Nat),k<b.links.length→f1020_l2 fu b (f1020_l1 fu b n) (m+1) (k:Int)=f1020_j9 (k:Int) (f1020_l1 fu b n) (f1020_l2 fu b (f1020_l1 fu b n) m) (B (¬ LinkGood b k)):=fun m k hk=>by
   rw [f1020_l2,ltR hk,ct,ge0,Bool.and_self,ct,tn,f1072_is hf hg,bs]
   by_cases g1:LinkFits b (b.links.getD k default)
   case neg=>rw [B_f g1,B_t fun g=>g1 g.fits];rfl
   rw [B_t g1]
   simp only [Bool.not_true,cf]
   rw [f1073_is hf hg g1,bs]
   by_cases g3:LinkHolds b (b.links.getD k default)
   case neg=>rw [B_f g3,B_t fun g=>g3 g.holds];rfl
   rw [B_t g3]
   simp only [Bool.not_true,cf]
   rw [f1074_is hf hN2,bs,linkI_self hk]
   by_cases g2:LinkApart b k
   ·rw [B_t g2,B_f fun hh=>hh ⟨g1,g2,g3⟩];rfl
   ·rw [B_f g2,B_t fun hh=>g2 hh.apart];rfl
  have hend:∀ m,f1020_l2 fu b (f1020_l1 fu b n) (m+1) (b.links.length:Int)=some (B (b.tabs.length≤3∧b.links.length≤4)):=fun m=>by
   rw [f1020_l2,nlt,cf]
   unfold f1020_j10
   by_cases g1:b.tabs.length≤3
   ·rw [dt (show (b.tabs.length:Int)≤3 by omega),ct]
    by_cases g2:b.links.length≤4
    ·rw [dt (show (b.links.length:Int)≤4 by omega),B_t ⟨g1,g2⟩]
    ·rw [df (show ¬ (b.links.length:Int)≤4 by omega),B_f fun hh=>g2 hh.2]
   ·rw [df (show ¬ (b.tabs.length:Int)≤3 by omega),B_f fun hh=>g1 hh.1];rfl
  refine loopB (L:=f1020_l2 fu b (f1020_l1 fu b n)) _ _ (by unfold BIG;omega) (fun m hq=>?_) (fun m hq=>?_) (fun m k hk hp=>?_) (fun m k hk hp=>?_) (by unfold BIG at hf;omega)
  ·rw [hend,B_t hq]
  ·rw [hend,B_f hq]
  ·rw [step m k hk,B_f fun hh=>hh hp];rfl
  ·rw [step m k hk,B_t hp];rfl
 by_cases ht:∀ k,k<b.tabs.length→TabGood b k
 ·refine loopB (L:=f1020_l1 fu b) _ _ (by unfold BIG;omega) (fun n hq=>?_) (fun n hq=>?_) (fun n k hk hp=>?_) (fun n k hk hp=>?_) (by unfold BIG at hf;omega)
  ·rw [tail ht,B_t hq]
  ·rw [tail ht,B_f hq]
  ·rw [step n k hk,B_f fun hh=>hh hp];rfl
  ·rw [step n k hk,B_t hp];rfl
 ·have hno:¬ BaseOK b:=fun h=>ht h.tabs
  have e1:=loopE (L:=f1020_l1 fu b) (N:=b.tabs.length) (fun k=>¬ TabGood b k) (some false) (f1020_l1 fu b 1 (b.tabs.length:Int)) (by unfold BIG;omega)
  rw [B_f fun hh=>hno hh.2]
  obtain ⟨k0,hk0⟩:=Classical.not_forall.1 ht
  have hk0':k0<b.tabs.length∧¬ TabGood b k0:=Classical.not_imp.1 hk0
  have key:∀ (m n k:Nat),k+m=k0→(m<n)→f1020_l1 fu b n (k:Int)=some false:=by
   intro m
   induction m with
   | zero=>
    intro n k hk hn
    obtain ⟨n,rfl⟩:∃ i,n=i+1:=⟨n-1,by omega⟩
    have:k=k0:=by omega
    subst this
    rw [step n k hk0'.1,B_t hk0'.2];rfl
   | succ m ih=>
    intro n k hk hn
    obtain ⟨n,rfl⟩:∃ i,n=i+1:=⟨n-1,by omega⟩
    rw [step n k (by omega)]
    by_cases hg:TabGood b k
    ·rw [B_f fun hh=>hh hg]
     show f1020_l1 fu b n (IntKind.i64.wrap ((k:Int)+1))=_
     rw [succI (show k<b.tabs.length by omega) (by unfold BIG;omega)]
     exact ih n (k+1) (by omega) (by omega)
    ·rw [B_t hg];rfl
  exact key k0 fu 0 (by omega) (by unfold BIG at hf;omega)
end Go.Proofs.YtdpigighgmipfaaGreatDoor
