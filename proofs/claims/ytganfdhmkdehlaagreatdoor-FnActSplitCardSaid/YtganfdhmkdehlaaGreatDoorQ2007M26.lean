/- Plain laws. -/
import Derived.Test.YtganfdhmkdehlaaGreatDoorQ2007M25
set_option linter.all false
namespace Go.Proofs.YtganfdhmkdehlaaGreatDoor
open Go Go.HL
variable {fu:Nat}
theorem wR (n:Nat):decide ((n:Int)<0)=false:=by simp
theorem ba {b:ac}{nm:List UInt8}(hf:BIG≤fu)(h:b.tabs.length≤1000):f1062 fu b nm=some (nb b nm):=by
 unfold f1062 nb tabN
 refine l9 (L:=dp b nm) b.tabs (fun r=>decide (r.name=nm)) (by unfold BIG;omega) (fun n=>?_) (fun n k hk hp=>?_) (fun n k hk hp=>?_) (by unfold BIG at hf;omega)
 ·rw [dp,nlt];rfl
 ·rw [dp,ltR hk,ct,ge0,b_,ct,tn,ae hk,hp];rfl
 ·rw [dp,ltR hk,ct,ge0,b_,ct,tn,ae hk,hp];rfl
theorem B5:@f1062o=@f1062:=by
 have h:∀ t id n i,f1062o_l1 t id n i=dp t id n i:=fun t id n=>by
  induction n with
  | zero=>intro i;rfl
  | succ n ih=>intro i;rw [f1062o_l1,dp,ih]
 funext fu t id
 unfold f1062o f1062
 rw [h]
theorem f1062o_is {b:ac}{nm:List UInt8}(hf:BIG≤fu)(h:b.tabs.length≤1000):f1062o fu b nm=some (nb b nm):=by rw [B5];exact ba hf h
theorem cQ {b:ac}{nm:List UInt8}(hf:BIG≤fu)(h:b.tabs.length≤1000):fb fu b nm=some (nb b nm):=by
 unfold fb yB
 have:dX b.tabs (fun x0=>pn x0 nm) fu 0=some (nb b nm):=by
  unfold nb tabN
  refine l9 (L:=dX b.tabs fun x0=>pn x0 nm) b.tabs (fun r=>decide (r.name=nm)) (by unfold BIG;omega) (fun n=>?_) (fun n k hk hp=>?_) (fun n k hk hp=>?_) (by unfold BIG at hf;omega)
  ·rw [dX,nlt];rfl
  ·rw [dX,ltR hk,ct,ge0,b_,ct,tn,ae hk];unfold pn;rw [hp];rfl
  ·rw [dX,ltR hk,ct,ge0,b_,ct,tn,ae hk];unfold pn;rw [hp];rfl
 rw [this];rfl
structure fS (b:ac):Prop where
 ok:∀ k,k<b.tabs.length→aP (dr b k)
 sm:SmB b
theorem fS.tab {b:ac}(h:fS b){nm:List UInt8}(hk:tabN b nm<b.tabs.length):ot (tabT b nm):=⟨h.ok _ hk,h.sm.tabs _ hk⟩
theorem am.g {b:ac}(h:am b):fS b:=⟨fun k hk=>(h.ok.tabs k hk).ok,h.sm⟩
theorem ot.rt {t:ab}(h:ot t):Rt t:=h.ok.rt h.sm
theorem aW (b:ac)(nm:List UInt8):(b.tabs.getD (tabN b nm) default).table=tabT b nm:=rfl
theorem zq {b:ac}{l:aj}{x y:Bool}(h1:tabN b l.from_<b.tabs.length)(h2:tabN b l.to<b.tabs.length)(hlo:1≤l.how)(hhi:l.how≤3)
     (hx:cB b l < (lastS (tabT b l.from_)).length→x=(decide (((lastS (tabT b l.from_)).getD (cB b l) default).kind=1)&&(!decide (l.how=3) || !((lastS (tabT b l.from_)).getD (cB b l) default).need)))
     (hy:¬ cB b l < (lastS (tabT b l.from_)).length→x=false):x=B (ar b l):=by
 by_cases hc:cB b l < (lastS (tabT b l.from_)).length
 ·rw [hx hc]
  refine BI ?_
  simp only [Bool.and_eq_true,decide_eq_true_eq,Bool.or_eq_true,Bool.not_eq_true',decide_eq_false_iff_not]
  refine ⟨fun h=>⟨h1,h2,hlo,hhi,hc,h.1,fun hh=>?_⟩,fun h=>⟨h.kind,?_⟩⟩
  ·rcases h.2 with g|g
   ·exact absurd hh g
   ·exact g
  ·by_cases hh:l.how=3
   ·exact .inr (h.need hh)
   ·exact .inl hh
 ·rw [hy hc,B_f fun h=>hc h.col]
theorem sB {b:ac}{l:aj}(hf:BIG≤fu)(h:fS b):tx fu b l=some (B (ar b l)):=by
 have hs:=h.sm.ntab
 unfold tx
 rw [ba hf hs,bs]
 by_cases h1:tabN b l.from_<b.tabs.length
 case neg=>rw [d7 h1,B_f fun g=>h1 g.src];rfl
 rw [aK h1,wR,cf,ba hf hs,bs]
 by_cases h2:tabN b l.to<b.tabs.length
 case neg=>rw [d7 h2,B_f fun g=>h2 g.dst];rfl
 rw [aK h2,wR,cf]
 by_cases h3:l.how<1
 ·rw [dt h3,B_f fun g=>by have:=g.lo;omega];rfl
 rw [df h3,cf]
 by_cases h4:3<l.how
 ·rw [dt h4,B_f fun g=>by have:=g.hi;omega];rfl
 rw [df h4]
 have g:=(h.tab h1).rt
 have hhi:=g.okLast.hi
 unfold ge
 rw [cf,inR h1,ct,tn,aW,eC hf g,bs,fL hf (by omega),bs]
 by_cases hc:atN (lastS (tabT b l.from_)) l.col < (lastS (tabT b l.from_)).length
 case neg=>
  rw [gH hc,B_f fun g=>hc g.col];rfl
 rw [cZ hc,ge0,ct,ltR hc,b_,ct,tn]
 have key:∀ x:Bool,x=(decide (((lastS (tabT b l.from_)).getD (cB b l) default).kind=1)&&(!decide (l.how=3) || !((lastS (tabT b l.from_)).getD (cB b l) default).need))→some x=some (B (ar b l)):=fun x hx=>
  congrArg some (zq (y:=true) h1 h2 (by omega) (by omega) (fun _=>hx) fun hn=>absurd hc hn)
 unfold gd
 by_cases hk:((lastS (tabT b l.from_)).getD (atN (lastS (tabT b l.from_)) l.col) default).kind=1
 case neg=>
  rw [df hk,cf]
  refine key _ ?_
  unfold cB
  rw [df hk];rfl
 rw [dt hk,ct]
 by_cases hw:l.how=3
 case neg=>
  rw [df hw]
  refine key _ ?_
  unfold cB
  rw [dt hk,df hw];rfl
 rw [dt hw]
 simp only [n_,cf,ct]
 refine key _ ?_
 unfold cB
 rw [dt hk,dt hw];simp
theorem sy {b:ac}{l:aj}(hf:BIG≤fu)(h:fS b):tw fu b l=some (B (ar b l)):=by
 have hs:=h.sm.ntab
 unfold tw
 rw [cQ hf hs,bs,cQ hf hs,bs]
 by_cases h1:tabN b l.from_<b.tabs.length
 case neg=>rw [d7 h1,B_f fun g=>h1 g.src];rfl
 rw [aK h1,wR,cf]
 by_cases h2:tabN b l.to<b.tabs.length
 case neg=>rw [d7 h2,B_f fun g=>h2 g.dst];rfl
 rw [aK h2,wR,cf,jN,bs]
 by_cases h3:1≤l.how∧l.how≤3
 case neg=>rw [B_f h3,B_f fun g=>h3 ⟨g.lo,g.hi⟩];rfl
 rw [B_t h3]
 have g:=(h.tab h1).rt
 have hhi:=g.okLast.hi
 unfold iQ
 simp only [n_,cf]
 rw [inR h1,ct,tn,aW,mO hf g,bs,mN hf (by omega),bs]
 by_cases hc:atN (lastS (tabT b l.from_)) l.col < (lastS (tabT b l.from_)).length
 case neg=>
  rw [gH hc,B_f fun g=>hc g.col];rfl
 rw [cZ hc,ge0,ct,ltR hc,b_,ct,tn]
 have key:∀ x:Bool,x=(decide (((lastS (tabT b l.from_)).getD (cB b l) default).kind=1)&&(!decide (l.how=3) || !((lastS (tabT b l.from_)).getD (cB b l) default).need))→some x=some (B (ar b l)):=fun x hx=>
  congrArg some (zq (y:=true) h1 h2 (by omega) (by omega) (fun _=>hx) fun hn=>absurd hc hn)
 unfold gc
 by_cases hk:((lastS (tabT b l.from_)).getD (atN (lastS (tabT b l.from_)) l.col) default).kind=1
 case neg=>
  rw [df hk,cf]
  refine key _ ?_
  unfold cB
  rw [df hk];rfl
 rw [dt hk,ct]
 by_cases hw:l.how=3
 case neg=>
  rw [df hw]
  refine key _ ?_
  unfold cB
  rw [dt hk,df hw];rfl
 rw [dt hw]
 simp only [n_,cf,ct]
 refine key _ ?_
 unfold cB
 rw [dt hk,dt hw];simp
theorem sA {b:ac}{i:Nat}(hf:BIG≤fu)(hl:b.links.length≤1000)(hi:i<b.links.length):qV fu b (i:Int)=some (B (c6 b i)):=by
 unfold qV
 have hp:c6 b i↔((∀ k,k<i→¬ jg (b.links.getD k default) (b.links.getD i default))∧True):=⟨fun h=>⟨h,trivial⟩,fun h=>h.1⟩
 rw [ai hp]
 have step:∀ n (k:Nat),k<i→cP b (i:Int) (n+1) (k:Int)=kF (k:Int) (cP b (i:Int) n) (B (jg (b.links.getD k default) (b.links.getD i default))):=fun n k hk=>by
  rw [cP,ltR hk,ct,inR (show k<b.links.length by omega),ct,inR hi,ct,tn,tn,ct,ct]
  unfold jg
  rw [bY,bM,bM]
  cases B ((b.links.getD k default).from_=(b.links.getD i default).from_)<;>rfl
 refine d8 (L:=cP b (i:Int)) _ _ (by unfold BIG;omega) (fun n _=>?_) (fun n h=>absurd trivial h) (fun n k hk hp=>?_) (fun n k hk hp=>?_) (by unfold BIG at hf;omega)
 ·rw [cP,nlt];rfl
 ·rw [step n k hk,B_f hp];rfl
 ·rw [step n k hk,B_t (c_ hp)];rfl
theorem sv {t:ab}{col:List UInt8}{k:Nat}(hf:BIG≤fu)(h:ot t)(hk:k<t.rows.length)(hc:atN (lastS t) col < (lastS t).length):qI fu t (k:Int) col=some ((nowR t (t.rows.getD k default)).getD (atN (lastS t) col) default):=by
 have g:=h.rt
 have hhi:=g.okLast.hi
 have hl:=(h.now hk).len
 unfold qI
 rw [inR hk,ct,tn,mF hf g ((h.ok.rws h.sm).all k hk),bs,eC hf g,bs,fL hf (by omega),bs,cZ hc,inR (show atN (lastS t) col < (nowR t (t.rows.getD k default)).length by omega),ct,tn]
theorem q0 {b:ac}{l:aj}(k:Nat):(nowR (tabT b l.from_) ((tabT b l.from_).rows.getD k default)).getD (atN (lastS (tabT b l.from_)) l.col) default=fw b l ((tabT b l.from_).rows.getD k default):=rfl
theorem xn {t:ab}{id:Int}:decide (xo t id<0) = !B (rowN t id<t.rows.length):=by
 by_cases h:rowN t id<t.rows.length
 ·rw [jj h,wR,B_t h];rfl
 ·rw [ji h,B_f h];rfl
theorem qa {t:ab}{id:Int}:decide (0≤xo t id)=B (rowN t id<t.rows.length):=by
 by_cases h:rowN t id<t.rows.length
 ·rw [jj h,ge0,B_t h]
 ·rw [ji h,B_f h];rfl
theorem kE {b:ac}{l:aj}(hf:BIG≤fu)(h:fS b)(hl:ar b l):qU fu b l=some (B (ap b l)):=by
 have hs:=h.sm.ntab
 have g:=h.tab hl.src
 have g2:=h.tab hl.dst
 have hN:=g.sm.nrow
 unfold qU
 rw [ba hf hs,bs,aK hl.src,inR hl.src,ct,ba hf hs,bs,aK hl.dst,inR hl.dst,ct]
 have hp:ap b l↔((∀ k,k < (tabT b l.from_).rows.length→bd b l ((tabT b l.from_).rows.getD k default))∧True):=⟨fun h=>⟨h,trivial⟩,fun h=>h.1⟩
 rw [ai hp]
 have step:∀ n (k:Nat),k < (tabT b l.from_).rows.length→cO fu b l (tabN b l.from_:Int) (tabN b l.to:Int) (n+1) (k:Int)=kD (k:Int) (cO fu b l (tabN b l.from_:Int) (tabN b l.to:Int) n) (B (¬ bd b l ((tabT b l.from_).rows.getD k default))):=fun n k hk=>by
  rw [cO,tn,tn,aW,aW,ltR hk,ct,sv hf g hk hl.col,bs,q0,rY hf g2.sm.nrow,bs,xn]
  by_cases hv:(fw b l ((tabT b l.from_).rows.getD k default)).kind=0
  ·have hr0:bd b l ((tabT b l.from_).rows.getD k default):=fun h0=>absurd hv h0
   rw [dt hv,B_f (show ¬ ¬ bd b l ((tabT b l.from_).rows.getD k default) from fun hh=>hh hr0)];rfl
  ·rw [df hv]
   by_cases hr:rowN (tabT b l.to) (fw b l ((tabT b l.from_).rows.getD k default)).n < (tabT b l.to).rows.length
   ·have hr0:bd b l ((tabT b l.from_).rows.getD k default):=fun _=>hr
    rw [B_t hr,B_f (show ¬ ¬ bd b l ((tabT b l.from_).rows.getD k default) from fun hh=>hh hr0)];rfl
   ·rw [B_f hr,B_t (show ¬ bd b l ((tabT b l.from_).rows.getD k default) from fun hh=>hr (hh hv))];rfl
 refine d8 (L:=cO fu b l (tabN b l.from_:Int) (tabN b l.to:Int)) _ _ (by unfold BIG;omega) (fun n _=>?_) (fun n h=>absurd trivial h) (fun n k hk hp=>?_) (fun n k hk hp=>?_) (by unfold BIG at hf;omega)
 ·rw [cO,tn,aW,nlt];rfl
 ·rw [step n k hk,B_f fun hh=>hh hp];rfl
 ·rw [step n k hk,B_t hp];rfl
noncomputable def namingM {σ:Type} (b:ac) (l:aj) (f:Int→Int→σ→Option σ):List Row→σ→Option σ
 | [],s=>some s
 | r::rs,s=>@ite _ ((fw b l r).kind=0) (Classical.propDecidable _) (namingM b l f rs s) ((f r.id (fw b l r).n s).bind (namingM b l f rs))
theorem kA {σ:Type}{b:ac}{l:aj}{f:Int→Int→σ→Option σ}{s:σ}(hf:BIG≤fu)(h:fS b)(hl:ar b l):md fu b l f s=namingM b l f (tabT b l.from_).rows s:=by
 have hs:=h.sm.ntab
 have g:=h.tab hl.src
 have hN:=g.sm.nrow
 have hhi:=g.rt.okLast.hi
 unfold md
 rw [cQ hf hs,bs,aK hl.src,inR hl.src,ct,tn,aW,mO hf g.rt,bs,mN hf (by omega),bs,cZ hl.col]
 have key:∀ (m n k:Nat) (s:σ),k+m=(tabT b l.from_).rows.length→m<n→cN fu b f (tabN b l.from_:Int) (atN (lastS (tabT b l.from_)) l.col:Int) n (k:Int) s=namingM b l f ((tabT b l.from_).rows.drop k) s:=by
  intro m
  induction m with
  | zero=>
   intro n k s hk hn
   obtain ⟨n,rfl⟩:∃ i,n=i+1:=⟨n-1,by omega⟩
   have:k=(tabT b l.from_).rows.length:=by omega
   subst this
   rw [cN,tn,aW,nlt,List.drop_length];rfl
  | succ m ih=>
   intro n k s hk hn
   obtain ⟨n,rfl⟩:∃ i,n=i+1:=⟨n-1,by omega⟩
   have hkl:k < (tabT b l.from_).rows.length:=by omega
   have hlen:=(g.now hkl).len
   have hcl:atN (lastS (tabT b l.from_)) l.col < (nowR (tabT b l.from_) ((tabT b l.from_).rows.getD k default)).length:=by rw [hlen];exact hl.col
   rw [cN,tn,aW,ltR hkl,ct,ge0,b_,ct,tn,pd hf g.rt ((g.ok.rws g.sm).all k hkl),bs,inR hcl,ct,tn,q0,mg (d:=default) hkl,namingM]
   simp only [iN,bb hkl (show (tabT b l.from_).rows.length≤BIG by unfold BIG;omega)]
   by_cases hv:(fw b l ((tabT b l.from_).rows.getD k default)).kind=0
   ·rw [if_pos hv,dt hv]
    exact ih n (k+1) s (by omega) (by omega)
   ·rw [if_neg hv,df hv]
    simp only [m_,ct]
    congr 1
    funext s'
    exact ih n (k+1) s' (by omega) (by omega)
 have:=key (tabT b l.from_).rows.length fu 0 s (by omega) (by unfold BIG at hf;omega)
 rwa [List.drop_zero] at this
theorem yy {t:ab}{id n:Int}{s:Bool}(hf:BIG≤fu)(h:t.rows.length≤1000):qH fu id n s t=some (s&&B (rowN t n<t.rows.length)):=by
 unfold qH kw
 rw [se hf h,bs,qa]
 cases s<;>rfl
theorem od {b:ac}{l:aj}(hf:BIG≤fu)(h:fS b)(hl:ar b l):qT fu b l=some (B (ap b l)):=by
 have hs:=h.sm.ntab
 have g2:=h.tab hl.dst
 unfold qT
 rw [cQ hf hs,bs,aK hl.dst,inR hl.dst,ct,tn,aW,kA hf h hl]
 have key:∀ (rs:List Row) (s:Bool),namingM b l (fun x0 x1 s=>qH fu x0 x1 s (tabT b l.to)) rs s=some (s&&B (∀ r,r∈rs→bd b l r)):=by
  intro rs
  induction rs with
  | nil=>intro s;rw [namingM,B_t (fun _ h=>nomatch h),Bool.and_true]
  | cons r rs ih=>
   intro s
   have e:B (∀ q,q∈r::rs→bd b l q)=(B (bd b l r)&&B (∀ q,q∈rs→bd b l q)):=by
    rw [← bY]
    exact ai (by simp)
   rw [namingM,e]
   by_cases hv:(fw b l r).kind=0
   ·rw [if_pos hv,ih,B_t (show bd b l r from fun h0=>absurd hv h0),Bool.true_and]
   ·rw [if_neg hv,yy hf g2.sm.nrow,bs,ih]
    have e2:B (bd b l r)=B (rowN (tabT b l.to) (fw b l r).n < (tabT b l.to).rows.length):=ai ⟨fun hh=>hh hv,fun hh _=>hh⟩
    rw [e2,Bool.and_assoc]
 rw [key,bs,Bool.true_and]
 congr 1
 refine ai ⟨fun hh k hk=>hh _ (getD_mem hk),fun hh r hr=>ap.mem hh hr⟩
theorem yH {b:ac}(hf:BIG≤fu)(hs:SmB b):vW fu b=some (B ((∀ k,k<b.tabs.length→cx b k)∧b.tabs.length≤3)):=by
 have hN:=hs.ntab
 unfold vW
 have step:∀ n (k:Nat),k<b.tabs.length→bU fu b (n+1) (k:Int)=f1067_j2 (k:Int) (bU fu b n) (B (¬ cx b k)):=fun n k hk=>by
  rw [bU,ltR hk,ct,ge0,b_,ct,tn,d9 hf (hs.names k hk),bs]
  by_cases h1:al (b.tabs.getD k default).name
  case neg=>rw [B_f h1,B_t fun g=>h1 g.name];rfl
  rw [B_t h1]
  simp only [n_,cf,ct]
  rw [ba hf hN,bs]
  by_cases h2:tabN b (b.tabs.getD k default).name=k
  case neg=>
   have:decide (nb b (b.tabs.getD k default).name=(k:Int))=false:=by
    refine df fun hh=>h2 ?_
    unfold nb at hh
    split at hh<;>omega
   rw [this,B_t fun g=>h2 g.place];rfl
  have h2':nb b (b.tabs.getD k default).name=(k:Int):=by rw [aK (by rw [h2];exact hk),h2]
  rw [dt h2']
  simp only [n_,cf]
  have e:f17 fu (b.tabs.getD k default).table=some (B (aP (dr b k))):=CP hf (hs.tabs k hk)
  rw [e,bs]
  by_cases h3:aP (dr b k)
  ·rw [B_t h3,B_f fun hh=>hh ⟨h1,h2,h3⟩];rfl
  ·rw [B_f h3,B_t fun hh=>h3 hh.ok];rfl
 refine d8 (L:=bU fu b) _ _ (by unfold BIG;omega) (fun n h=>?_) (fun n h=>?_) (fun n k hk hp=>?_) (fun n k hk hp=>?_) (by unfold BIG at hf;omega)
 ·rw [bU,nlt,cf,dt (by omega)]
 ·rw [bU,nlt,cf,df (by omega)]
 ·rw [step n k hk,B_f fun hh=>hh hp];rfl
 ·rw [step n k hk,B_t hp];rfl
theorem dq {b:ac}(hf:BIG≤fu)(hs:SmB b):jz fu b=some (B (ah b)):=by
 have hN:=hs.nlink
 unfold jz
 rw [yH hf hs,bs]
 by_cases h1:(∀ k,k<b.tabs.length→cx b k)∧b.tabs.length≤3
 case neg=>rw [B_f h1,B_f fun g=>h1 ⟨g.tabs,g.ntab⟩];rfl
 rw [B_t h1]
 have hg:fS b:=⟨fun k hk=>(h1.1 k hk).ok,hs⟩
 unfold kQ
 simp only [n_,cf]
 by_cases h2:b.links.length≤4
 case neg=>rw [dt (by omega),B_f fun g=>h2 g.nlink];rfl
 rw [df (by omega),cf]
 have hp:ah b↔((∀ i,i<b.links.length→jf b i)∧True):=⟨fun h=>⟨h.links,trivial⟩,fun h=>⟨h1.1,h1.2,h2,h.1⟩⟩
 rw [ai hp]
 have step:∀ n (k:Nat),k<b.links.length→cq fu b (n+1) (k:Int)=iU (k:Int) (cq fu b n) (B (¬ jf b k)):=fun n k hk=>by
  rw [cq,ltR hk,ct,ge0,b_,ct,tn,sB hf hg,bs]
  by_cases g1:ar b (b.links.getD k default)
  case neg=>rw [B_f g1,B_t fun g=>g1 g.fits];rfl
  rw [B_t g1]
  simp only [n_,cf,ct]
  rw [sA hf hN hk,bs,kE hf hg g1]
  by_cases g2:c6 b k
  case neg=>rw [B_f g2,B_t fun g=>g2 g.apart];rfl
  rw [B_t g2]
  by_cases g3:ap b (b.links.getD k default)
  ·rw [B_t g3,B_f fun hh=>hh ⟨g1,g2,g3⟩];rfl
  ·rw [B_f g3,B_t fun hh=>g3 hh.holds];rfl
 refine d8 (L:=cq fu b) _ _ (by unfold BIG;omega) (fun n _=>?_) (fun n h=>absurd trivial h) (fun n k hk hp=>?_) (fun n k hk hp=>?_) (by unfold BIG at hf;omega)
 ·rw [cq,nlt];rfl
 ·rw [step n k hk,B_f fun hh=>hh hp];rfl
 ·rw [step n k hk,B_t hp];rfl
def linkN (b:ac)(nm col:List UInt8):Nat:=b.links.findIdx fun l=>decide (l.from_=nm)&&decide (l.col=col)
def ma (b:ac)(nm col:List UInt8):Int:=if linkN b nm col<b.links.length then (linkN b nm col:Int) else -1
theorem su {l:aj}{nm col:List UInt8}:pm fu l nm col=some (decide (l.from_=nm)&&decide (l.col=col)):=by
 unfold pm kv
 cases decide (l.from_=nm)<;>rfl
theorem oc {b:ac}{nm col:List UInt8}(hf:BIG≤fu)(h:b.links.length≤1000):qS fu b nm col=some (ma b nm col):=by
 unfold qS tr
 have:bS b.links (fun x0=>pm fu x0 nm col) fu 0=some (ma b nm col):=by
  unfold ma linkN
  refine l9 (L:=bS b.links fun x0=>pm fu x0 nm col) b.links (fun l=>decide (l.from_=nm)&&decide (l.col=col)) (by unfold BIG;omega) (fun n=>?_) (fun n k hk hp=>?_) (fun n k hk hp=>?_) (by unfold BIG at hf;omega)
  ·rw [bS,nlt];rfl
  ·rw [bS,ltR hk,ct,ge0,b_,ct,tn,ae hk,su,hp];rfl
  ·rw [bS,ltR hk,ct,ge0,b_,ct,tn,ae hk,su,hp];rfl
 rw [this];rfl
theorem lq {b:ac}{nm col:List UInt8}:linkN b nm col<b.links.length↔bA b nm col:=by
 constructor
 ·intro h
  have:=List.findIdx_getElem (w:=h)
  simp only [Bool.and_eq_true,decide_eq_true_eq] at this
  exact ⟨_,h,by rw [ae h];exact this⟩
 ·rintro ⟨k,hk,h1,h2⟩
  refine List.findIdx_lt_length_of_exists ⟨_,getD_mem (d:=(default:aj)) hk,?_⟩
  rw [h1,h2,dt rfl,dt rfl];rfl
theorem np {b:ac}{nm col:List UInt8}:decide (0≤ma b nm col)=B (bA b nm col):=by
 rw [← ai lq]
 unfold ma
 by_cases h:linkN b nm col<b.links.length
 ·rw [if_pos h,ge0,B_t h]
 ·rw [if_neg h,B_f h];rfl
theorem ta {b:ac}{i:Nat}(hi:i<b.links.length):decide (ma b (b.links.getD i default).from_ (b.links.getD i default).col=(i:Int))=B (c6 b i):=by
 have hL:bA b (b.links.getD i default).from_ (b.links.getD i default).col:=⟨i,hi,rfl,rfl⟩
 have hlt:=lq.2 hL
 have hle:linkN b (b.links.getD i default).from_ (b.links.getD i default).col≤i:=by
  refine c_ fun hn=>?_
  have:=List.not_of_lt_findIdx (show i<linkN b (b.links.getD i default).from_ (b.links.getD i default).col by omega)
  rw [← ae (d:=default) hi,dt rfl,dt rfl] at this
  cases this
 unfold ma
 rw [if_pos hlt]
 refine Eq.trans bM (ai ?_)
 constructor
 ·intro h k hk hh
  have h':linkN b (b.links.getD i default).from_ (b.links.getD i default).col=i:=by omega
  have:=List.not_of_lt_findIdx (show k<linkN b (b.links.getD i default).from_ (b.links.getD i default).col by omega)
  rw [← ae (d:=default) (show k<b.links.length by omega)] at this
  rw [dt hh.1,dt hh.2] at this
  cases this
 ·intro h
  refine c_ fun hn=>?_
  have hlt2:linkN b (b.links.getD i default).from_ (b.links.getD i default).col<i:=by omega
  have:=List.findIdx_getElem (w:=hlt)
  simp only [Bool.and_eq_true,decide_eq_true_eq] at this
  refine h _ hlt2 ⟨?_,?_⟩<;>rw [ae hlt]
  ·exact this.1
  ·exact this.2
theorem fe {b:ac}(hf:BIG≤fu)(hs:SmB b):lS fu b=some (B (ah b)):=by
 have hN:=hs.ntab
 have hN2:=hs.nlink
 unfold lS
 have hp:ah b↔((∀ k,k<b.tabs.length→cx b k)∧ah b):=⟨fun h=>⟨h.tabs,h⟩,fun h=>h.2⟩
 rw [ai hp]
 have step:∀ n (k:Nat),k<b.tabs.length→aF fu b (n+1) (k:Int)=iS (k:Int) (aF fu b n) (B (¬ cx b k)):=fun n k hk=>by
  rw [aF,ltR hk,ct,ge0,b_,ct,tn,ef hf (hs.names k hk),bs]
  by_cases h1:al (b.tabs.getD k default).name
  case neg=>rw [B_f h1,B_t fun g=>h1 g.name];rfl
  rw [B_t h1]
  simp only [n_,cf]
  rw [cQ hf hN,bs]
  by_cases h2:tabN b (b.tabs.getD k default).name=k
  case neg=>
   have:decide (nb b (b.tabs.getD k default).name=(k:Int))=false:=by
    refine df fun hh=>h2 ?_
    unfold nb at hh
    split at hh<;>omega
   rw [this,B_t fun g=>h2 g.place];rfl
  have h2':nb b (b.tabs.getD k default).name=(k:Int):=by rw [aK (by rw [h2];exact hk),h2]
  rw [dt h2']
  simp only [n_,cf]
  have e:f19 fu (b.tabs.getD k default).table=some (B (aP (dr b k))):=CO hf (hs.tabs k hk)
  rw [e,bs]
  by_cases h3:aP (dr b k)
  ·rw [B_t h3,B_f fun hh=>hh ⟨h1,h2,h3⟩];rfl
  ·rw [B_f h3,B_t fun hh=>h3 hh.ok];rfl
 have tail:(∀ k,k<b.tabs.length→cx b k)→∀ n,aF fu b (n+1) (b.tabs.length:Int)=some (B (ah b)):=fun ht n=>by
  have hg:fS b:=⟨fun k hk=>(ht k hk).ok,hs⟩
  rw [aF,nlt,cf]
  have hp:ah b↔((∀ i,i<b.links.length→jf b i)∧(b.tabs.length≤3∧b.links.length≤4)):=⟨fun h=>⟨h.links,h.ntab,h.nlink⟩,fun h=>⟨ht,h.2.1,h.2.2,h.1⟩⟩
  rw [ai hp]
  have step:∀ m (k:Nat),k<b.links.length→bk fu b (aF fu b n) (m+1) (k:Int)=iR (k:Int) (aF fu b n) (bk fu b (aF fu b n) m) (B (¬ jf b k)):=fun m k hk=>by
   rw [bk,ltR hk,ct,ge0,b_,ct,tn,sy hf hg,bs]
   by_cases g1:ar b (b.links.getD k default)
   case neg=>rw [B_f g1,B_t fun g=>g1 g.fits];rfl
   rw [B_t g1]
   simp only [n_,cf]
   rw [od hf hg g1,bs]
   by_cases g3:ap b (b.links.getD k default)
   case neg=>rw [B_f g3,B_t fun g=>g3 g.holds];rfl
   rw [B_t g3]
   simp only [n_,cf]
   rw [oc hf hN2,bs,ta hk]
   by_cases g2:c6 b k
   ·rw [B_t g2,B_f fun hh=>hh ⟨g1,g2,g3⟩];rfl
   ·rw [B_f g2,B_t fun hh=>g2 hh.apart];rfl
  have hend:∀ m,bk fu b (aF fu b n) (m+1) (b.links.length:Int)=some (B (b.tabs.length≤3∧b.links.length≤4)):=fun m=>by
   rw [bk,nlt,cf]
   unfold iT
   by_cases g1:b.tabs.length≤3
   ·rw [dt (show (b.tabs.length:Int)≤3 by omega),ct]
    by_cases g2:b.links.length≤4
    ·rw [dt (show (b.links.length:Int)≤4 by omega),B_t ⟨g1,g2⟩]
    ·rw [df (show ¬ (b.links.length:Int)≤4 by omega),B_f fun hh=>g2 hh.2]
   ·rw [df (show ¬ (b.tabs.length:Int)≤3 by omega),B_f fun hh=>g1 hh.1];rfl
  refine d8 (L:=bk fu b (aF fu b n)) _ _ (by unfold BIG;omega) (fun m hq=>?_) (fun m hq=>?_) (fun m k hk hp=>?_) (fun m k hk hp=>?_) (by unfold BIG at hf;omega)
  ·rw [hend,B_t hq]
  ·rw [hend,B_f hq]
  ·rw [step m k hk,B_f fun hh=>hh hp];rfl
  ·rw [step m k hk,B_t hp];rfl
 by_cases ht:∀ k,k<b.tabs.length→cx b k
 ·refine d8 (L:=aF fu b) _ _ (by unfold BIG;omega) (fun n hq=>?_) (fun n hq=>?_) (fun n k hk hp=>?_) (fun n k hk hp=>?_) (by unfold BIG at hf;omega)
  ·rw [tail ht,B_t hq]
  ·rw [tail ht,B_f hq]
  ·rw [step n k hk,B_f fun hh=>hh hp];rfl
  ·rw [step n k hk,B_t hp];rfl
 ·have hno:¬ ah b:=fun h=>ht h.tabs
  have e1:=jn (L:=aF fu b) (N:=b.tabs.length) (fun k=>¬ cx b k) (some false) (aF fu b 1 (b.tabs.length:Int)) (by unfold BIG;omega)
  rw [B_f fun hh=>hno hh.2]
  obtain ⟨k0,hk0⟩:=Classical.not_forall.1 ht
  have hk0':k0<b.tabs.length∧¬ cx b k0:=Classical.not_imp.1 hk0
  have key:∀ (m n k:Nat),k+m=k0→(m<n)→aF fu b n (k:Int)=some false:=by
   intro m
   induction m with
   | zero=>
    intro n k hk hn
    obtain ⟨n,rfl⟩:∃ i,n=i+1:=⟨n-1,by omega⟩
    have:k=k0:=by omega
    subst this
    rw [step n k hk0'.1,B_t hk0'.2];rfl
   | succ m ih=>
    intro n k hk hn
    obtain ⟨n,rfl⟩:∃ i,n=i+1:=⟨n-1,by omega⟩
    rw [step n k (by omega)]
    by_cases hg:cx b k
    ·rw [B_f fun hh=>hh hg]
     show aF fu b n (IntKind.i64.wrap ((k:Int)+1))=_
     rw [bb (show k<b.tabs.length by omega) (by unfold BIG;omega)]
     exact ih n (k+1) (by omega) (by omega)
    ·rw [B_t hg];rfl
  exact key k0 fu 0 (by omega) (by unfold BIG at hf;omega)
end Go.Proofs.YtganfdhmkdehlaaGreatDoor
