/- When a base is right: what the program and the document answer. -/
import Derived.Test.YtganfdhmkdehlaaGreatDoorQ2003M25
set_option linter.all false
namespace Go.Proofs.YtganfdhmkdehlaaGreatDoor
open Go Go.HL
variable {fu:Nat}
theorem vw (n:Nat):decide ((n:Int)<0)=false:=by simp
theorem aZ {b:ac}{nm:List UInt8}(hf:BIG≤fu)(h:b.tabs.length≤1000):f1062 fu b nm=some (mD b nm):=by
 unfold f1062 mD tabN
 refine lA (L:=dg b nm) b.tabs (fun r=>decide (r.name=nm)) (by unfold BIG;omega) (fun n=>?_) (fun n k hk hp=>?_) (fun n k hk hp=>?_) (by unfold BIG at hf;omega)
 ·rw [dg,nlt];rfl
 ·rw [dg,ltR hk,ct,ge0,Bool.and_self,ct,tn,ae hk,hp];rfl
 ·rw [dg,ltR hk,ct,ge0,Bool.and_self,ct,tn,ae hk,hp];rfl
theorem Ad:@f1062o=@f1062:=by
 have h:∀ t id n i,f1062o_l1 t id n i=dg t id n i:=fun t id n=>by
  induction n with
  | zero=>intro i;rfl
  | succ n ih=>intro i;rw [f1062o_l1,dg,ih]
 funext fu t id
 unfold f1062o f1062
 rw [h]
theorem f1062o_is {b:ac}{nm:List UInt8}(hf:BIG≤fu)(h:b.tabs.length≤1000):f1062o fu b nm=some (mD b nm):=by rw [Ad];exact aZ hf h
theorem cJ {b:ac}{nm:List UInt8}(hf:BIG≤fu)(h:b.tabs.length≤1000):eL fu b nm=some (mD b nm):=by
 unfold eL xb
 have:dF b.tabs (fun x0=>oz x0 nm) fu 0=some (mD b nm):=by
  unfold mD tabN
  refine lA (L:=dF b.tabs fun x0=>oz x0 nm) b.tabs (fun r=>decide (r.name=nm)) (by unfold BIG;omega) (fun n=>?_) (fun n k hk hp=>?_) (fun n k hk hp=>?_) (by unfold BIG at hf;omega)
  ·rw [dF,nlt];rfl
  ·rw [dF,ltR hk,ct,ge0,Bool.and_self,ct,tn,ae hk];unfold oz;rw [hp];rfl
  ·rw [dF,ltR hk,ct,ge0,Bool.and_self,ct,tn,ae hk];unfold oz;rw [hp];rfl
 rw [this];rfl
structure fA (b:ac):Prop where
 ok:∀ k,k<b.tabs.length→aJ (eR b k)
 sm:SmB b
theorem fA.tab {b:ac}(h:fA b){nm:List UInt8}(hk:tabN b nm<b.tabs.length):oV (tabT b nm):=⟨h.ok _ hk,h.sm.tabs _ hk⟩
theorem am.g {b:ac}(h:am b):fA b:=⟨fun k hk=>(h.ok.tabs k hk).ok,h.sm⟩
theorem oV.rt {t:ab}(h:oV t):Rt t:=h.ok.rt h.sm
theorem aR (b:ac)(nm:List UInt8):(b.tabs.getD (tabN b nm) default).table=tabT b nm:=rfl
theorem xR {b:ac}{l:aj}{x y:Bool}(h1:tabN b l.from_<b.tabs.length)(h2:tabN b l.to<b.tabs.length)(hlo:1≤l.how)(hhi:l.how≤3)
     (hx:cq b l < (lastS (tabT b l.from_)).length→x=(decide (((lastS (tabT b l.from_)).getD (cq b l) default).kind=1)&&(!decide (l.how=3) || !((lastS (tabT b l.from_)).getD (cq b l) default).need)))
     (hy:¬ cq b l < (lastS (tabT b l.from_)).length→x=false):x=B (av b l):=by
 by_cases hc:cq b l < (lastS (tabT b l.from_)).length
 ·rw [hx hc]
  refine zQ ?_
  simp only [Bool.and_eq_true,decide_eq_true_eq,Bool.or_eq_true,Bool.not_eq_true',decide_eq_false_iff_not]
  refine ⟨fun h=>⟨h1,h2,hlo,hhi,hc,h.1,fun hh=>?_⟩,fun h=>⟨h.kind,?_⟩⟩
  ·rcases h.2 with g|g
   ·exact absurd hh g
   ·exact g
  ·by_cases hh:l.how=3
   ·exact .inr (h.need hh)
   ·exact .inl hh
 ·rw [hy hc,B_f fun h=>hc h.col]
theorem rp {b:ac}{l:aj}(hf:BIG≤fu)(h:fA b):sq fu b l=some (B (av b l)):=by
 have hs:=h.sm.ntab
 unfold sq
 rw [aZ hf hs,bs]
 by_cases h1:tabN b l.from_<b.tabs.length
 case neg=>rw [dN h1,B_f fun g=>h1 g.src];rfl
 rw [aF h1,vw,cf,aZ hf hs,bs]
 by_cases h2:tabN b l.to<b.tabs.length
 case neg=>rw [dN h2,B_f fun g=>h2 g.dst];rfl
 rw [aF h2,vw,cf]
 by_cases h3:l.how<1
 ·rw [dt h3,B_f fun g=>by have:=g.lo;omega];rfl
 rw [df h3,cf]
 by_cases h4:3<l.how
 ·rw [dt h4,B_f fun g=>by have:=g.hi;omega];rfl
 rw [df h4]
 have g:=(h.tab h1).rt
 have hhi:=g.okLast.hi
 unfold fU
 rw [cf,inR h1,ct,tn,aR,eW hf g,bs,fv hf (by omega),bs]
 by_cases hc:atN (lastS (tabT b l.from_)) l.col < (lastS (tabT b l.from_)).length
 case neg=>
  rw [ge hc,B_f fun g=>hc g.col];rfl
 rw [cR hc,ge0,ct,ltR hc,Bool.and_self,ct,tn]
 have key:∀ x:Bool,x=(decide (((lastS (tabT b l.from_)).getD (cq b l) default).kind=1)&&(!decide (l.how=3) || !((lastS (tabT b l.from_)).getD (cq b l) default).need))→some x=some (B (av b l)):=fun x hx=>
  congrArg some (xR (y:=true) h1 h2 (by omega) (by omega) (fun _=>hx) fun hn=>absurd hc hn)
 unfold fT
 by_cases hk:((lastS (tabT b l.from_)).getD (atN (lastS (tabT b l.from_)) l.col) default).kind=1
 case neg=>
  rw [df hk,cf]
  refine key _ ?_
  unfold cq
  rw [df hk];rfl
 rw [dt hk,ct]
 by_cases hw:l.how=3
 case neg=>
  rw [df hw]
  refine key _ ?_
  unfold cq
  rw [dt hk,df hw];rfl
 rw [dt hw]
 simp only [Bool.not_true,cf,ct]
 refine key _ ?_
 unfold cq
 rw [dt hk,dt hw];simp
theorem rn {b:ac}{l:aj}(hf:BIG≤fu)(h:fA b):sn fu b l=some (B (av b l)):=by
 have hs:=h.sm.ntab
 unfold sn
 rw [cJ hf hs,bs,cJ hf hs,bs]
 by_cases h1:tabN b l.from_<b.tabs.length
 case neg=>rw [dN h1,B_f fun g=>h1 g.src];rfl
 rw [aF h1,vw,cf]
 by_cases h2:tabN b l.to<b.tabs.length
 case neg=>rw [dN h2,B_f fun g=>h2 g.dst];rfl
 rw [aF h2,vw,cf,jn,bs]
 by_cases h3:1≤l.how∧l.how≤3
 case neg=>rw [B_f h3,B_f fun g=>h3 ⟨g.lo,g.hi⟩];rfl
 rw [B_t h3]
 have g:=(h.tab h1).rt
 have hhi:=g.okLast.hi
 unfold iv
 simp only [Bool.not_true,cf]
 rw [inR h1,ct,tn,aR,mg hf g,bs,mf hf (by omega),bs]
 by_cases hc:atN (lastS (tabT b l.from_)) l.col < (lastS (tabT b l.from_)).length
 case neg=>
  rw [ge hc,B_f fun g=>hc g.col];rfl
 rw [cR hc,ge0,ct,ltR hc,Bool.and_self,ct,tn]
 have key:∀ x:Bool,x=(decide (((lastS (tabT b l.from_)).getD (cq b l) default).kind=1)&&(!decide (l.how=3) || !((lastS (tabT b l.from_)).getD (cq b l) default).need))→some x=some (B (av b l)):=fun x hx=>
  congrArg some (xR (y:=true) h1 h2 (by omega) (by omega) (fun _=>hx) fun hn=>absurd hc hn)
 unfold fS
 by_cases hk:((lastS (tabT b l.from_)).getD (atN (lastS (tabT b l.from_)) l.col) default).kind=1
 case neg=>
  rw [df hk,cf]
  refine key _ ?_
  unfold cq
  rw [df hk];rfl
 rw [dt hk,ct]
 by_cases hw:l.how=3
 case neg=>
  rw [df hw]
  refine key _ ?_
  unfold cq
  rw [dt hk,df hw];rfl
 rw [dt hw]
 simp only [Bool.not_true,cf,ct]
 refine key _ ?_
 unfold cq
 rw [dt hk,dt hw];simp
theorem ro {b:ac}{i:Nat}(hf:BIG≤fu)(hl:b.links.length≤1000)(hi:i<b.links.length):pR fu b (i:Int)=some (B (cS b i)):=by
 unfold pR
 have hp:cS b i↔((∀ k,k<i→¬ iJ (b.links.getD k default) (b.links.getD i default))∧True):=⟨fun h=>⟨h,trivial⟩,fun h=>h.1⟩
 rw [ai hp]
 have step:∀ n (k:Nat),k<i→cH b (i:Int) (n+1) (k:Int)=kb (k:Int) (cH b (i:Int) n) (B (iJ (b.links.getD k default) (b.links.getD i default))):=fun n k hk=>by
  rw [cH,ltR hk,ct,inR (show k<b.links.length by omega),ct,inR hi,ct,tn,tn,ct,ct]
  unfold iJ
  rw [cn,bt,bt]
  cases B ((b.links.getD k default).from_=(b.links.getD i default).from_)<;>rfl
 refine eZ (L:=cH b (i:Int)) _ _ (by unfold BIG;omega) (fun n _=>?_) (fun n h=>absurd trivial h) (fun n k hk hp=>?_) (fun n k hk hp=>?_) (by unfold BIG at hf;omega)
 ·rw [cH,nlt];rfl
 ·rw [step n k hk,B_f hp];rfl
 ·rw [step n k hk,B_t (Classical.byContradiction hp)];rfl
theorem rf {t:ab}{col:List UInt8}{k:Nat}(hf:BIG≤fu)(h:oV t)(hk:k<t.rows.length)(hc:atN (lastS t) col < (lastS t).length):pJ fu t (k:Int) col=some ((nowR t (t.rows.getD k default)).getD (atN (lastS t) col) default):=by
 have g:=h.rt
 have hhi:=g.okLast.hi
 have hl:=(h.now hk).len
 unfold pJ
 rw [inR hk,ct,tn,l7 hf g ((h.ok.rws h.sm).all k hk),bs,eW hf g,bs,fv hf (by omega),bs,cR hc,inR (show atN (lastS t) col < (nowR t (t.rows.getD k default)).length by omega),ct,tn]
theorem pW {b:ac}{l:aj}(k:Nat):(nowR (tabT b l.from_) ((tabT b l.from_).rows.getD k default)).getD (atN (lastS (tabT b l.from_)) l.col) default=e8 b l ((tabT b l.from_).rows.getD k default):=rfl
theorem vQ {t:ab}{id:Int}:decide (vR t id<0) = !B (rowN t id<t.rows.length):=by
 by_cases h:rowN t id<t.rows.length
 ·rw [iL h,vw,B_t h];rfl
 ·rw [iK h,B_f h];rfl
theorem o4 {t:ab}{id:Int}:decide (0≤vR t id)=B (rowN t id<t.rows.length):=by
 by_cases h:rowN t id<t.rows.length
 ·rw [iL h,ge0,B_t h]
 ·rw [iK h,B_f h];rfl
theorem ka {b:ac}{l:aj}(hf:BIG≤fu)(h:fA b)(hl:av b l):pQ fu b l=some (B (aq b l)):=by
 have hs:=h.sm.ntab
 have g:=h.tab hl.src
 have g2:=h.tab hl.dst
 have hN:=g.sm.nrow
 unfold pQ
 rw [aZ hf hs,bs,aF hl.src,inR hl.src,ct,aZ hf hs,bs,aF hl.dst,inR hl.dst,ct]
 have hp:aq b l↔((∀ k,k < (tabT b l.from_).rows.length→ba b l ((tabT b l.from_).rows.getD k default))∧True):=⟨fun h=>⟨h,trivial⟩,fun h=>h.1⟩
 rw [ai hp]
 have step:∀ n (k:Nat),k < (tabT b l.from_).rows.length→cG fu b l (tabN b l.from_:Int) (tabN b l.to:Int) (n+1) (k:Int)=j9 (k:Int) (cG fu b l (tabN b l.from_:Int) (tabN b l.to:Int) n) (B (¬ ba b l ((tabT b l.from_).rows.getD k default))):=fun n k hk=>by
  rw [cG,tn,tn,aR,aR,ltR hk,ct,rf hf g hk hl.col,bs,pW,qN hf g2.sm.nrow,bs,vQ]
  by_cases hv:(e8 b l ((tabT b l.from_).rows.getD k default)).kind=0
  ·have hr0:ba b l ((tabT b l.from_).rows.getD k default):=fun h0=>absurd hv h0
   rw [dt hv,B_f (show ¬ ¬ ba b l ((tabT b l.from_).rows.getD k default) from fun hh=>hh hr0)];rfl
  ·rw [df hv]
   by_cases hr:rowN (tabT b l.to) (e8 b l ((tabT b l.from_).rows.getD k default)).n < (tabT b l.to).rows.length
   ·have hr0:ba b l ((tabT b l.from_).rows.getD k default):=fun _=>hr
    rw [B_t hr,B_f (show ¬ ¬ ba b l ((tabT b l.from_).rows.getD k default) from fun hh=>hh hr0)];rfl
   ·rw [B_f hr,B_t (show ¬ ba b l ((tabT b l.from_).rows.getD k default) from fun hh=>hr (hh hv))];rfl
 refine eZ (L:=cG fu b l (tabN b l.from_:Int) (tabN b l.to:Int)) _ _ (by unfold BIG;omega) (fun n _=>?_) (fun n h=>absurd trivial h) (fun n k hk hp=>?_) (fun n k hk hp=>?_) (by unfold BIG at hf;omega)
 ·rw [cG,tn,aR,nlt];rfl
 ·rw [step n k hk,B_f fun hh=>hh hp];rfl
 ·rw [step n k hk,B_t hp];rfl
noncomputable def namingM {σ:Type} (b:ac) (l:aj) (f:Int→Int→σ→Option σ):List Row→σ→Option σ
 | [],s=>some s
 | r::rs,s=>@ite _ ((e8 b l r).kind=0) (Classical.propDecidable _) (namingM b l f rs s) ((f r.id (e8 b l r).n s).bind (namingM b l f rs))
theorem j2 {σ:Type}{b:ac}{l:aj}{f:Int→Int→σ→Option σ}{s:σ}(hf:BIG≤fu)(h:fA b)(hl:av b l):lE fu b l f s=namingM b l f (tabT b l.from_).rows s:=by
 have hs:=h.sm.ntab
 have g:=h.tab hl.src
 have hN:=g.sm.nrow
 have hhi:=g.rt.okLast.hi
 unfold lE
 rw [cJ hf hs,bs,aF hl.src,inR hl.src,ct,tn,aR,mg hf g.rt,bs,mf hf (by omega),bs,cR hl.col]
 have key:∀ (m n k:Nat) (s:σ),k+m=(tabT b l.from_).rows.length→m<n→cF fu b f (tabN b l.from_:Int) (atN (lastS (tabT b l.from_)) l.col:Int) n (k:Int) s=namingM b l f ((tabT b l.from_).rows.drop k) s:=by
  intro m
  induction m with
  | zero=>
   intro n k s hk hn
   obtain ⟨n,rfl⟩:∃ i,n=i+1:=⟨n-1,by omega⟩
   have:k=(tabT b l.from_).rows.length:=by omega
   subst this
   rw [cF,tn,aR,nlt,List.drop_length];rfl
  | succ m ih=>
   intro n k s hk hn
   obtain ⟨n,rfl⟩:∃ i,n=i+1:=⟨n-1,by omega⟩
   have hkl:k < (tabT b l.from_).rows.length:=by omega
   have hlen:=(g.now hkl).len
   have hcl:atN (lastS (tabT b l.from_)) l.col < (nowR (tabT b l.from_) ((tabT b l.from_).rows.getD k default)).length:=by rw [hlen];exact hl.col
   rw [cF,tn,aR,ltR hkl,ct,ge0,Bool.and_self,ct,tn,oo hf g.rt ((g.ok.rws g.sm).all k hkl),bs,inR hcl,ct,tn,pW,lI (d:=default) hkl,namingM]
   simp only [iq,aU hkl (show (tabT b l.from_).rows.length≤BIG by unfold BIG;omega)]
   by_cases hv:(e8 b l ((tabT b l.from_).rows.getD k default)).kind=0
   ·rw [if_pos hv,dt hv]
    exact ih n (k+1) s (by omega) (by omega)
   ·rw [if_neg hv,df hv]
    simp only [Bool.not_false,ct]
    congr 1
    funext s'
    exact ih n (k+1) s' (by omega) (by omega)
 have:=key (tabT b l.from_).rows.length fu 0 s (by omega) (by unfold BIG at hf;omega)
 rwa [List.drop_zero] at this
theorem wY {t:ab}{id n:Int}{s:Bool}(hf:BIG≤fu)(h:t.rows.length≤1000):pI fu id n s t=some (s&&B (rowN t n<t.rows.length)):=by
 unfold pI jZ
 rw [qV hf h,bs,o4]
 cases s<;>rfl
theorem nq {b:ac}{l:aj}(hf:BIG≤fu)(h:fA b)(hl:av b l):pP fu b l=some (B (aq b l)):=by
 have hs:=h.sm.ntab
 have g2:=h.tab hl.dst
 unfold pP
 rw [cJ hf hs,bs,aF hl.dst,inR hl.dst,ct,tn,aR,j2 hf h hl]
 have key:∀ (rs:List Row) (s:Bool),namingM b l (fun x0 x1 s=>pI fu x0 x1 s (tabT b l.to)) rs s=some (s&&B (∀ r,r∈rs→ba b l r)):=by
  intro rs
  induction rs with
  | nil=>intro s;rw [namingM,B_t (fun _ h=>nomatch h),Bool.and_true]
  | cons r rs ih=>
   intro s
   have e:B (∀ q,q∈r::rs→ba b l q)=(B (ba b l r)&&B (∀ q,q∈rs→ba b l q)):=by
    rw [← cn]
    exact ai (by simp)
   rw [namingM,e]
   by_cases hv:(e8 b l r).kind=0
   ·rw [if_pos hv,ih,B_t (show ba b l r from fun h0=>absurd hv h0),Bool.true_and]
   ·rw [if_neg hv,wY hf g2.sm.nrow,bs,ih]
    have e2:B (ba b l r)=B (rowN (tabT b l.to) (e8 b l r).n < (tabT b l.to).rows.length):=ai ⟨fun hh=>hh hv,fun hh _=>hh⟩
    rw [e2,Bool.and_assoc]
 rw [key,bs,Bool.true_and]
 congr 1
 refine ai ⟨fun hh k hk=>hh _ (getD_mem hk),fun hh r hr=>aq.mem hh hr⟩
theorem xh {b:ac}(hf:BIG≤fu)(hs:SmB b):uF fu b=some (B ((∀ k,k<b.tabs.length→ck b k)∧b.tabs.length≤3)):=by
 have hN:=hs.ntab
 unfold uF
 have step:∀ n (k:Nat),k<b.tabs.length→bP fu b (n+1) (k:Int)=f1067_j2 (k:Int) (bP fu b n) (B (¬ ck b k)):=fun n k hk=>by
  rw [bP,ltR hk,ct,ge0,Bool.and_self,ct,tn,dO hf (hs.names k hk),bs]
  by_cases h1:ao (b.tabs.getD k default).name
  case neg=>rw [B_f h1,B_t fun g=>h1 g.name];rfl
  rw [B_t h1]
  simp only [Bool.not_true,cf,ct]
  rw [aZ hf hN,bs]
  by_cases h2:tabN b (b.tabs.getD k default).name=k
  case neg=>
   have:decide (mD b (b.tabs.getD k default).name=(k:Int))=false:=by
    refine df fun hh=>h2 ?_
    unfold mD at hh
    split at hh<;>omega
   rw [this,B_t fun g=>h2 g.place];rfl
  have h2':mD b (b.tabs.getD k default).name=(k:Int):=by rw [aF (by rw [h2];exact hk),h2]
  rw [dt h2']
  simp only [Bool.not_true,cf]
  have e:f17 fu (b.tabs.getD k default).table=some (B (aJ (eR b k))):=AH hf (hs.tabs k hk)
  rw [e,bs]
  by_cases h3:aJ (eR b k)
  ·rw [B_t h3,B_f fun hh=>hh ⟨h1,h2,h3⟩];rfl
  ·rw [B_f h3,B_t fun hh=>h3 hh.ok];rfl
 refine eZ (L:=bP fu b) _ _ (by unfold BIG;omega) (fun n h=>?_) (fun n h=>?_) (fun n k hk hp=>?_) (fun n k hk hp=>?_) (by unfold BIG at hf;omega)
 ·rw [bP,nlt,cf,dt (by omega)]
 ·rw [bP,nlt,cf,df (by omega)]
 ·rw [step n k hk,B_f fun hh=>hh hp];rfl
 ·rw [step n k hk,B_t hp];rfl
theorem fY {b:ac}(hf:BIG≤fu)(hs:SmB b):lF fu b=some (B (ah b)):=by
 have hN:=hs.nlink
 unfold lF
 rw [xh hf hs,bs]
 by_cases h1:(∀ k,k<b.tabs.length→ck b k)∧b.tabs.length≤3
 case neg=>rw [B_f h1,B_f fun g=>h1 ⟨g.tabs,g.ntab⟩];rfl
 rw [B_t h1]
 have hg:fA b:=⟨fun k hk=>(h1.1 k hk).ok,hs⟩
 unfold ki
 simp only [Bool.not_true,cf]
 by_cases h2:b.links.length≤4
 case neg=>rw [dt (by omega),B_f fun g=>h2 g.nlink];rfl
 rw [df (by omega),cf]
 have hp:ah b↔((∀ i,i<b.links.length→iI b i)∧True):=⟨fun h=>⟨h.links,trivial⟩,fun h=>⟨h1.1,h1.2,h2,h.1⟩⟩
 rw [ai hp]
 have step:∀ n (k:Nat),k<b.links.length→ce fu b (n+1) (k:Int)=iz (k:Int) (ce fu b n) (B (¬ iI b k)):=fun n k hk=>by
  rw [ce,ltR hk,ct,ge0,Bool.and_self,ct,tn,rp hf hg,bs]
  by_cases g1:av b (b.links.getD k default)
  case neg=>rw [B_f g1,B_t fun g=>g1 g.fits];rfl
  rw [B_t g1]
  simp only [Bool.not_true,cf,ct]
  rw [ro hf hN hk,bs,ka hf hg g1]
  by_cases g2:cS b k
  case neg=>rw [B_f g2,B_t fun g=>g2 g.apart];rfl
  rw [B_t g2]
  by_cases g3:aq b (b.links.getD k default)
  ·rw [B_t g3,B_f fun hh=>hh ⟨g1,g2,g3⟩];rfl
  ·rw [B_f g3,B_t fun hh=>g3 hh.holds];rfl
 refine eZ (L:=ce fu b) _ _ (by unfold BIG;omega) (fun n _=>?_) (fun n h=>absurd trivial h) (fun n k hk hp=>?_) (fun n k hk hp=>?_) (by unfold BIG at hf;omega)
 ·rw [ce,nlt];rfl
 ·rw [step n k hk,B_f fun hh=>hh hp];rfl
 ·rw [step n k hk,B_t hp];rfl
def linkN (b:ac)(nm col:List UInt8):Nat:=b.links.findIdx fun l=>decide (l.from_=nm)&&decide (l.col=col)
def lB (b:ac)(nm col:List UInt8):Int:=if linkN b nm col<b.links.length then (linkN b nm col:Int) else -1
theorem re {l:aj}{nm col:List UInt8}:oy fu l nm col=some (decide (l.from_=nm)&&decide (l.col=col)):=by
 unfold oy jY
 cases decide (l.from_=nm)<;>rfl
theorem np {b:ac}{nm col:List UInt8}(hf:BIG≤fu)(h:b.links.length≤1000):pO fu b nm col=some (lB b nm col):=by
 unfold pO sd
 have:bN b.links (fun x0=>oy fu x0 nm col) fu 0=some (lB b nm col):=by
  unfold lB linkN
  refine lA (L:=bN b.links fun x0=>oy fu x0 nm col) b.links (fun l=>decide (l.from_=nm)&&decide (l.col=col)) (by unfold BIG;omega) (fun n=>?_) (fun n k hk hp=>?_) (fun n k hk hp=>?_) (by unfold BIG at hf;omega)
  ·rw [bN,nlt];rfl
  ·rw [bN,ltR hk,ct,ge0,Bool.and_self,ct,tn,ae hk,re,hp];rfl
  ·rw [bN,ltR hk,ct,ge0,Bool.and_self,ct,tn,ae hk,re,hp];rfl
 rw [this];rfl
theorem kG {b:ac}{nm col:List UInt8}:linkN b nm col<b.links.length↔bJ b nm col:=by
 constructor
 ·intro h
  have:=List.findIdx_getElem (w:=h)
  simp only [Bool.and_eq_true,decide_eq_true_eq] at this
  exact ⟨_,h,by rw [ae h];exact this⟩
 ·rintro ⟨k,hk,h1,h2⟩
  refine List.findIdx_lt_length_of_exists ⟨_,getD_mem (d:=(default:aj)) hk,?_⟩
  rw [h1,h2,dt rfl,dt rfl];rfl
theorem mM {b:ac}{nm col:List UInt8}:decide (0≤lB b nm col)=B (bJ b nm col):=by
 rw [← ai kG]
 unfold lB
 by_cases h:linkN b nm col<b.links.length
 ·rw [if_pos h,ge0,B_t h]
 ·rw [if_neg h,B_f h];rfl
theorem rQ {b:ac}{i:Nat}(hi:i<b.links.length):decide (lB b (b.links.getD i default).from_ (b.links.getD i default).col=(i:Int))=B (cS b i):=by
 have hL:bJ b (b.links.getD i default).from_ (b.links.getD i default).col:=⟨i,hi,rfl,rfl⟩
 have hlt:=kG.2 hL
 have hle:linkN b (b.links.getD i default).from_ (b.links.getD i default).col≤i:=by
  refine Classical.byContradiction fun hn=>?_
  have:=List.not_of_lt_findIdx (show i<linkN b (b.links.getD i default).from_ (b.links.getD i default).col by omega)
  rw [← ae (d:=default) hi,dt rfl,dt rfl] at this
  cases this
 unfold lB
 rw [if_pos hlt]
 refine Eq.trans bt (ai ?_)
 constructor
 ·intro h k hk hh
  have h':linkN b (b.links.getD i default).from_ (b.links.getD i default).col=i:=by omega
  have:=List.not_of_lt_findIdx (show k<linkN b (b.links.getD i default).from_ (b.links.getD i default).col by omega)
  rw [← ae (d:=default) (show k<b.links.length by omega)] at this
  rw [dt hh.1,dt hh.2] at this
  cases this
 ·intro h
  refine Classical.byContradiction fun hn=>?_
  have hlt2:linkN b (b.links.getD i default).from_ (b.links.getD i default).col<i:=by omega
  have:=List.findIdx_getElem (w:=hlt)
  simp only [Bool.and_eq_true,decide_eq_true_eq] at this
  refine h _ hlt2 ⟨?_,?_⟩<;>rw [ae hlt]
  ·exact this.1
  ·exact this.2
theorem dK {b:ac}(hf:BIG≤fu)(hs:SmB b):jz fu b=some (B (ah b)):=by
 have hN:=hs.ntab
 have hN2:=hs.nlink
 unfold jz
 have hp:ah b↔((∀ k,k<b.tabs.length→ck b k)∧ah b):=⟨fun h=>⟨h.tabs,h⟩,fun h=>h.2⟩
 rw [ai hp]
 have step:∀ n (k:Nat),k<b.tabs.length→aC fu b (n+1) (k:Int)=ix (k:Int) (aC fu b n) (B (¬ ck b k)):=fun n k hk=>by
  rw [aC,ltR hk,ct,ge0,Bool.and_self,ct,tn,dQ hf (hs.names k hk),bs]
  by_cases h1:ao (b.tabs.getD k default).name
  case neg=>rw [B_f h1,B_t fun g=>h1 g.name];rfl
  rw [B_t h1]
  simp only [Bool.not_true,cf]
  rw [cJ hf hN,bs]
  by_cases h2:tabN b (b.tabs.getD k default).name=k
  case neg=>
   have:decide (mD b (b.tabs.getD k default).name=(k:Int))=false:=by
    refine df fun hh=>h2 ?_
    unfold mD at hh
    split at hh<;>omega
   rw [this,B_t fun g=>h2 g.place];rfl
  have h2':mD b (b.tabs.getD k default).name=(k:Int):=by rw [aF (by rw [h2];exact hk),h2]
  rw [dt h2']
  simp only [Bool.not_true,cf]
  have e:f19 fu (b.tabs.getD k default).table=some (B (aJ (eR b k))):=AG hf (hs.tabs k hk)
  rw [e,bs]
  by_cases h3:aJ (eR b k)
  ·rw [B_t h3,B_f fun hh=>hh ⟨h1,h2,h3⟩];rfl
  ·rw [B_f h3,B_t fun hh=>h3 hh.ok];rfl
 have tail:(∀ k,k<b.tabs.length→ck b k)→∀ n,aC fu b (n+1) (b.tabs.length:Int)=some (B (ah b)):=fun ht n=>by
  have hg:fA b:=⟨fun k hk=>(ht k hk).ok,hs⟩
  rw [aC,nlt,cf]
  have hp:ah b↔((∀ i,i<b.links.length→iI b i)∧(b.tabs.length≤3∧b.links.length≤4)):=⟨fun h=>⟨h.links,h.ntab,h.nlink⟩,fun h=>⟨ht,h.2.1,h.2.2,h.1⟩⟩
  rw [ai hp]
  have step:∀ m (k:Nat),k<b.links.length→bg fu b (aC fu b n) (m+1) (k:Int)=iw (k:Int) (aC fu b n) (bg fu b (aC fu b n) m) (B (¬ iI b k)):=fun m k hk=>by
   rw [bg,ltR hk,ct,ge0,Bool.and_self,ct,tn,rn hf hg,bs]
   by_cases g1:av b (b.links.getD k default)
   case neg=>rw [B_f g1,B_t fun g=>g1 g.fits];rfl
   rw [B_t g1]
   simp only [Bool.not_true,cf]
   rw [nq hf hg g1,bs]
   by_cases g3:aq b (b.links.getD k default)
   case neg=>rw [B_f g3,B_t fun g=>g3 g.holds];rfl
   rw [B_t g3]
   simp only [Bool.not_true,cf]
   rw [np hf hN2,bs,rQ hk]
   by_cases g2:cS b k
   ·rw [B_t g2,B_f fun hh=>hh ⟨g1,g2,g3⟩];rfl
   ·rw [B_f g2,B_t fun hh=>g2 hh.apart];rfl
  have hend:∀ m,bg fu b (aC fu b n) (m+1) (b.links.length:Int)=some (B (b.tabs.length≤3∧b.links.length≤4)):=fun m=>by
   rw [bg,nlt,cf]
   unfold iy
   by_cases g1:b.tabs.length≤3
   ·rw [dt (show (b.tabs.length:Int)≤3 by omega),ct]
    by_cases g2:b.links.length≤4
    ·rw [dt (show (b.links.length:Int)≤4 by omega),B_t ⟨g1,g2⟩]
    ·rw [df (show ¬ (b.links.length:Int)≤4 by omega),B_f fun hh=>g2 hh.2]
   ·rw [df (show ¬ (b.tabs.length:Int)≤3 by omega),B_f fun hh=>g1 hh.1];rfl
  refine eZ (L:=bg fu b (aC fu b n)) _ _ (by unfold BIG;omega) (fun m hq=>?_) (fun m hq=>?_) (fun m k hk hp=>?_) (fun m k hk hp=>?_) (by unfold BIG at hf;omega)
  ·rw [hend,B_t hq]
  ·rw [hend,B_f hq]
  ·rw [step m k hk,B_f fun hh=>hh hp];rfl
  ·rw [step m k hk,B_t hp];rfl
 by_cases ht:∀ k,k<b.tabs.length→ck b k
 ·refine eZ (L:=aC fu b) _ _ (by unfold BIG;omega) (fun n hq=>?_) (fun n hq=>?_) (fun n k hk hp=>?_) (fun n k hk hp=>?_) (by unfold BIG at hf;omega)
  ·rw [tail ht,B_t hq]
  ·rw [tail ht,B_f hq]
  ·rw [step n k hk,B_f fun hh=>hh hp];rfl
  ·rw [step n k hk,B_t hp];rfl
 ·have hno:¬ ah b:=fun h=>ht h.tabs
  have e1:=iQ (L:=aC fu b) (N:=b.tabs.length) (fun k=>¬ ck b k) (some false) (aC fu b 1 (b.tabs.length:Int)) (by unfold BIG;omega)
  rw [B_f fun hh=>hno hh.2]
  obtain ⟨k0,hk0⟩:=Classical.not_forall.1 ht
  have hk0':k0<b.tabs.length∧¬ ck b k0:=Classical.not_imp.1 hk0
  have key:∀ (m n k:Nat),k+m=k0→(m<n)→aC fu b n (k:Int)=some false:=by
   intro m
   induction m with
   | zero=>
    intro n k hk hn
    obtain ⟨n,rfl⟩:∃ i,n=i+1:=⟨n-1,by omega⟩
    have:k=k0:=by omega
    subst this
    rw [step n k hk0'.1,B_t hk0'.2];rfl
   | succ m ih=>
    intro n k hk hn
    obtain ⟨n,rfl⟩:∃ i,n=i+1:=⟨n-1,by omega⟩
    rw [step n k (by omega)]
    by_cases hg:ck b k
    ·rw [B_f fun hh=>hh hg]
     show aC fu b n (IntKind.i64.wrap ((k:Int)+1))=_
     rw [aU (show k<b.tabs.length by omega) (by unfold BIG;omega)]
     exact ih n (k+1) (by omega) (by omega)
    ·rw [B_t hg];rfl
  exact key k0 fu 0 (by omega) (by unfold BIG at hf;omega)
end Go.Proofs.YtganfdhmkdehlaaGreatDoor
