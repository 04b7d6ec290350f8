/- Plain laws. -/
import Derived.Test.YtganfdhmkdehlaaGreatDoorQ2008M25
set_option linter.all false
namespace Go.Proofs.YtganfdhmkdehlaaGreatDoor
open Go Go.HL
variable {fu:Nat}
theorem ul (n:Nat):decide ((n:Int)<0)=false:=by simp
theorem a8 {b:ac}{nm:List UInt8}(hf:BIG≤fu)(h:b.tabs.length≤1000):f1062 fu b nm=some (l9 b nm):=by
 unfold f1062 l9 tabN
 refine ll (L:=dn b nm) b.tabs (fun r=>decide (r.name=nm)) (by unfold BIG;omega) (fun n=>?_) (fun n k hk hp=>?_) (fun n k hk hp=>?_) (by unfold BIG at hf;omega)
 ·rw [dn,nlt];rfl
 ·rw [dn,ltR hk,ct,ge0,Bool.and_self,ct,tn,ae hk,hp];rfl
 ·rw [dn,ltR hk,ct,ge0,Bool.and_self,ct,tn,ae hk,hp];rfl
theorem BT:@f1062o=@f1062:=by
 have h:∀ t id n i,f1062o_l1 t id n i=dn t id n i:=fun t id n=>by
  induction n with
  | zero=>intro i;rfl
  | succ n ih=>intro i;rw [f1062o_l1,dn,ih]
 funext fu t id
 unfold f1062o f1062
 rw [h]
theorem f1062o_is {b:ac}{nm:List UInt8}(hf:BIG≤fu)(h:b.tabs.length≤1000):f1062o fu b nm=some (l9 b nm):=by rw [BT];exact a8 hf h
theorem sl {b:ac}{nm:List UInt8}(hf:BIG≤fu)(h:b.tabs.length≤1000):tj fu b nm=some (l9 b nm):=by
 unfold tj l9 tabN
 refine ll (L:=fe b nm) b.tabs (fun r=>decide (r.name=nm)) (by unfold BIG;omega) (fun n=>?_) (fun n k hk hp=>?_) (fun n k hk hp=>?_) (by unfold BIG at hf;omega)
 ·rw [fe,nlt];rfl
 ·rw [fe,ltR hk,ct,ge0,Bool.and_self,ct,tn,ae hk,hp];rfl
 ·rw [fe,ltR hk,ct,ge0,Bool.and_self,ct,tn,ae hk,hp];rfl
theorem cP {b:ac}{nm:List UInt8}(hf:BIG≤fu)(h:b.tabs.length≤1000):fc fu b nm=some (l9 b nm):=by
 unfold fc yw
 have:dX b.tabs (fun x0=>pm x0 nm) fu 0=some (l9 b nm):=by
  unfold l9 tabN
  refine ll (L:=dX b.tabs fun x0=>pm x0 nm) b.tabs (fun r=>decide (r.name=nm)) (by unfold BIG;omega) (fun n=>?_) (fun n k hk hp=>?_) (fun n k hk hp=>?_) (by unfold BIG at hf;omega)
  ·rw [dX,nlt];rfl
  ·rw [dX,ltR hk,ct,ge0,Bool.and_self,ct,tn,ae hk];unfold pm;rw [hp];rfl
  ·rw [dX,ltR hk,ct,ge0,Bool.and_self,ct,tn,ae hk];unfold pm;rw [hp];rfl
 rw [this];rfl
structure fU (b:ac):Prop where
 ok:∀ k,k<b.tabs.length→aL (cz b k)
 sm:SmB b
theorem fU.tab {b:ac}(h:fU b){nm:List UInt8}(hk:tabN b nm<b.tabs.length):or (tabT b nm):=⟨h.ok _ hk,h.sm.tabs _ hk⟩
theorem al.g {b:ac}(h:al b):fU b:=⟨fun k hk=>(h.ok.tabs k hk).ok,h.sm⟩
theorem or.rt {t:ab}(h:or t):Rt t:=h.ok.rt h.sm
theorem aP (b:ac)(nm:List UInt8):(b.tabs.getD (tabN b nm) default).table=tabT b nm:=rfl
theorem zg {b:ac}{l:ai}{x y:Bool}(h1:tabN b l.from_<b.tabs.length)(h2:tabN b l.to<b.tabs.length)(hlo:1≤l.how)(hhi:l.how≤3)
     (hx:ce b l < (lastS (tabT b l.from_)).length→x=(decide (((lastS (tabT b l.from_)).getD (ce b l) default).kind=1)&&(!decide (l.how=3) || !((lastS (tabT b l.from_)).getD (ce b l) default).need)))
     (hy:¬ ce b l < (lastS (tabT b l.from_)).length→x=false):x=B (ar b l):=by
 by_cases hc:ce b l < (lastS (tabT b l.from_)).length
 ·rw [hx hc]
  refine By ?_
  simp only [Bool.and_eq_true,decide_eq_true_eq,Bool.or_eq_true,Bool.not_eq_true',decide_eq_false_iff_not]
  refine ⟨fun h=>⟨h1,h2,hlo,hhi,hc,h.1,fun hh=>?_⟩,fun h=>⟨h.kind,?_⟩⟩
  ·rcases h.2 with g|g
   ·exact absurd hh g
   ·exact g
  ·by_cases hh:l.how=3
   ·exact .inr (h.need hh)
   ·exact .inl hh
 ·rw [hy hc,B_f fun h=>hc h.col]
theorem si {b:ac}{l:ai}(hf:BIG≤fu)(h:fU b):th fu b l=some (B (ar b l)):=by
 have hs:=h.sm.ntab
 unfold th
 rw [a8 hf hs,bs]
 by_cases h1:tabN b l.from_<b.tabs.length
 case neg=>rw [d8 h1,B_f fun g=>h1 g.src];rfl
 rw [aG h1,ul,cf,a8 hf hs,bs]
 by_cases h2:tabN b l.to<b.tabs.length
 case neg=>rw [d8 h2,B_f fun g=>h2 g.dst];rfl
 rw [aG h2,ul,cf]
 by_cases h3:l.how<1
 ·rw [dt h3,B_f fun g=>by have:=g.lo;omega];rfl
 rw [df h3,cf]
 by_cases h4:3<l.how
 ·rw [dt h4,B_f fun g=>by have:=g.hi;omega];rfl
 rw [df h4]
 have g:=(h.tab h1).rt
 have hhi:=g.okLast.hi
 unfold gf
 rw [cf,inR h1,ct,tn,aP,eB hf g,bs,fM hf (by omega),bs]
 by_cases hc:atN (lastS (tabT b l.from_)) l.col < (lastS (tabT b l.from_)).length
 case neg=>
  rw [gJ hc,B_f fun g=>hc g.col];rfl
 rw [cC hc,ge0,ct,ltR hc,Bool.and_self,ct,tn]
 have key:∀ x:Bool,x=(decide (((lastS (tabT b l.from_)).getD (ce b l) default).kind=1)&&(!decide (l.how=3) || !((lastS (tabT b l.from_)).getD (ce b l) default).need))→some x=some (B (ar b l)):=fun x hx=>
  congrArg some (zg (y:=true) h1 h2 (by omega) (by omega) (fun _=>hx) fun hn=>absurd hc hn)
 unfold ge
 by_cases hk:((lastS (tabT b l.from_)).getD (atN (lastS (tabT b l.from_)) l.col) default).kind=1
 case neg=>
  rw [df hk,cf]
  refine key _ ?_
  unfold ce
  rw [df hk];rfl
 rw [dt hk,ct]
 by_cases hw:l.how=3
 case neg=>
  rw [df hw]
  refine key _ ?_
  unfold ce
  rw [dt hk,df hw];rfl
 rw [dt hw]
 simp only [Bool.not_true,cf,ct]
 refine key _ ?_
 unfold ce
 rw [dt hk,dt hw];simp
theorem sg {b:ac}{l:ai}(hf:BIG≤fu)(h:fU b):tg fu b l=some (B (ar b l)):=by
 have hs:=h.sm.ntab
 unfold tg
 rw [cP hf hs,bs,cP hf hs,bs]
 by_cases h1:tabN b l.from_<b.tabs.length
 case neg=>rw [d8 h1,B_f fun g=>h1 g.src];rfl
 rw [aG h1,ul,cf]
 by_cases h2:tabN b l.to<b.tabs.length
 case neg=>rw [d8 h2,B_f fun g=>h2 g.dst];rfl
 rw [aG h2,ul,cf,jO,bs]
 by_cases h3:1≤l.how∧l.how≤3
 case neg=>rw [B_f h3,B_f fun g=>h3 ⟨g.lo,g.hi⟩];rfl
 rw [B_t h3]
 have g:=(h.tab h1).rt
 have hhi:=g.okLast.hi
 unfold iU
 simp only [Bool.not_true,cf]
 rw [inR h1,ct,tn,aP,lD hf g,bs,lB hf (by omega),bs]
 by_cases hc:atN (lastS (tabT b l.from_)) l.col < (lastS (tabT b l.from_)).length
 case neg=>
  rw [gJ hc,B_f fun g=>hc g.col];rfl
 rw [cC hc,ge0,ct,ltR hc,Bool.and_self,ct,tn]
 have key:∀ x:Bool,x=(decide (((lastS (tabT b l.from_)).getD (ce b l) default).kind=1)&&(!decide (l.how=3) || !((lastS (tabT b l.from_)).getD (ce b l) default).need))→some x=some (B (ar b l)):=fun x hx=>
  congrArg some (zg (y:=true) h1 h2 (by omega) (by omega) (fun _=>hx) fun hn=>absurd hc hn)
 unfold gd
 by_cases hk:((lastS (tabT b l.from_)).getD (atN (lastS (tabT b l.from_)) l.col) default).kind=1
 case neg=>
  rw [df hk,cf]
  refine key _ ?_
  unfold ce
  rw [df hk];rfl
 rw [dt hk,ct]
 by_cases hw:l.how=3
 case neg=>
  rw [df hw]
  refine key _ ?_
  unfold ce
  rw [dt hk,df hw];rfl
 rw [dt hw]
 simp only [Bool.not_true,cf,ct]
 refine key _ ?_
 unfold ce
 rw [dt hk,dt hw];simp
theorem sh {b:ac}{i:Nat}(hf:BIG≤fu)(hl:b.links.length≤1000)(hi:i<b.links.length):qM fu b (i:Int)=some (B (c7 b i)):=by
 unfold qM
 have hp:c7 b i↔((∀ k,k<i→¬ jm (b.links.getD k default) (b.links.getD i default))∧True):=⟨fun h=>⟨h,trivial⟩,fun h=>h.1⟩
 rw [ak hp]
 have step:∀ n (k:Nat),k<i→cO b (i:Int) (n+1) (k:Int)=kH (k:Int) (cO b (i:Int) n) (B (jm (b.links.getD k default) (b.links.getD i default))):=fun n k hk=>by
  rw [cO,ltR hk,ct,inR (show k<b.links.length by omega),ct,inR hi,ct,tn,tn,ct,ct]
  unfold jm
  rw [cb,bN,bN]
  cases B ((b.links.getD k default).from_=(b.links.getD i default).from_)<;>rfl
 refine eP (L:=cO b (i:Int)) _ _ (by unfold BIG;omega) (fun n _=>?_) (fun n h=>absurd trivial h) (fun n k hk hp=>?_) (fun n k hk hp=>?_) (by unfold BIG at hf;omega)
 ·rw [cO,nlt];rfl
 ·rw [step n k hk,B_f hp];rfl
 ·rw [step n k hk,B_t (Classical.byContradiction hp)];rfl
theorem sd {t:ab}{col:List UInt8}{k:Nat}(hf:BIG≤fu)(h:or t)(hk:k<t.rows.length)(hc:atN (lastS t) col < (lastS t).length):qz fu t (k:Int) col=some ((nowR t (t.rows.getD k default)).getD (atN (lastS t) col) default):=by
 have g:=h.rt
 have hhi:=g.okLast.hi
 have hl:=(h.now hk).len
 unfold qz
 rw [inR hk,ct,tn,mH hf g ((h.ok.rws h.sm).all k hk),bs,eB hf g,bs,fM hf (by omega),bs,cC hc,inR (show atN (lastS t) col < (nowR t (t.rows.getD k default)).length by omega),ct,tn]
theorem qQ {b:ac}{l:ai}(k:Nat):(nowR (tabT b l.from_) ((tabT b l.from_).rows.getD k default)).getD (atN (lastS (tabT b l.from_)) l.col) default=ft b l ((tabT b l.from_).rows.getD k default):=rfl
theorem xg {t:ab}{id:Int}:decide (xh t id<0) = !B (rowN t id<t.rows.length):=by
 by_cases h:rowN t id<t.rows.length
 ·rw [gM h,ul,B_t h];rfl
 ·rw [gL h,B_f h];rfl
theorem pW {t:ab}{id:Int}:decide (0≤xh t id)=B (rowN t id<t.rows.length):=by
 by_cases h:rowN t id<t.rows.length
 ·rw [gM h,ge0,B_t h]
 ·rw [gL h,B_f h];rfl
theorem kG {b:ac}{l:ai}(hf:BIG≤fu)(h:fU b)(hl:ar b l):qL fu b l=some (B (ao b l)):=by
 have hs:=h.sm.ntab
 have g:=h.tab hl.src
 have g2:=h.tab hl.dst
 have hN:=g.sm.nrow
 unfold qL
 rw [a8 hf hs,bs,aG hl.src,inR hl.src,ct,a8 hf hs,bs,aG hl.dst,inR hl.dst,ct]
 have hp:ao b l↔((∀ k,k < (tabT b l.from_).rows.length→bd b l ((tabT b l.from_).rows.getD k default))∧True):=⟨fun h=>⟨h,trivial⟩,fun h=>h.1⟩
 rw [ak hp]
 have step:∀ n (k:Nat),k < (tabT b l.from_).rows.length→cN fu b l (tabN b l.from_:Int) (tabN b l.to:Int) (n+1) (k:Int)=kF (k:Int) (cN fu b l (tabN b l.from_:Int) (tabN b l.to:Int) n) (B (¬ bd b l ((tabT b l.from_).rows.getD k default))):=fun n k hk=>by
  rw [cN,tn,tn,aP,aP,ltR hk,ct,sd hf g hk hl.col,bs,qQ,rO hf g2.sm.nrow,bs,xg]
  by_cases hv:(ft b l ((tabT b l.from_).rows.getD k default)).kind=0
  ·have hr0:bd b l ((tabT b l.from_).rows.getD k default):=fun h0=>absurd hv h0
   rw [dt hv,B_f (show ¬ ¬ bd b l ((tabT b l.from_).rows.getD k default) from fun hh=>hh hr0)];rfl
  ·rw [df hv]
   by_cases hr:rowN (tabT b l.to) (ft b l ((tabT b l.from_).rows.getD k default)).n < (tabT b l.to).rows.length
   ·have hr0:bd b l ((tabT b l.from_).rows.getD k default):=fun _=>hr
    rw [B_t hr,B_f (show ¬ ¬ bd b l ((tabT b l.from_).rows.getD k default) from fun hh=>hh hr0)];rfl
   ·rw [B_f hr,B_t (show ¬ bd b l ((tabT b l.from_).rows.getD k default) from fun hh=>hr (hh hv))];rfl
 refine eP (L:=cN fu b l (tabN b l.from_:Int) (tabN b l.to:Int)) _ _ (by unfold BIG;omega) (fun n _=>?_) (fun n h=>absurd trivial h) (fun n k hk hp=>?_) (fun n k hk hp=>?_) (by unfold BIG at hf;omega)
 ·rw [cN,tn,aP,nlt];rfl
 ·rw [step n k hk,B_f fun hh=>hh hp];rfl
 ·rw [step n k hk,B_t hp];rfl
noncomputable def namingM {σ:Type} (b:ac) (l:ai) (f:Int→Int→σ→Option σ):List Row→σ→Option σ
 | [],s=>some s
 | r::rs,s=>@ite _ ((ft b l r).kind=0) (Classical.propDecidable _) (namingM b l f rs s) ((f r.id (ft b l r).n s).bind (namingM b l f rs))
theorem kC {σ:Type}{b:ac}{l:ai}{f:Int→Int→σ→Option σ}{s:σ}(hf:BIG≤fu)(h:fU b)(hl:ar b l):me fu b l f s=namingM b l f (tabT b l.from_).rows s:=by
 have hs:=h.sm.ntab
 have g:=h.tab hl.src
 have hN:=g.sm.nrow
 have hhi:=g.rt.okLast.hi
 unfold me
 rw [cP hf hs,bs,aG hl.src,inR hl.src,ct,tn,aP,lD hf g.rt,bs,lB hf (by omega),bs,cC hl.col]
 have key:∀ (m n k:Nat) (s:σ),k+m=(tabT b l.from_).rows.length→m<n→cM fu b f (tabN b l.from_:Int) (atN (lastS (tabT b l.from_)) l.col:Int) n (k:Int) s=namingM b l f ((tabT b l.from_).rows.drop k) s:=by
  intro m
  induction m with
  | zero=>
   intro n k s hk hn
   obtain ⟨n,rfl⟩:∃ i,n=i+1:=⟨n-1,by omega⟩
   have:k=(tabT b l.from_).rows.length:=by omega
   subst this
   rw [cM,tn,aP,nlt,List.drop_length];rfl
  | succ m ih=>
   intro n k s hk hn
   obtain ⟨n,rfl⟩:∃ i,n=i+1:=⟨n-1,by omega⟩
   have hkl:k < (tabT b l.from_).rows.length:=by omega
   have hlen:=(g.now hkl).len
   have hcl:atN (lastS (tabT b l.from_)) l.col < (nowR (tabT b l.from_) ((tabT b l.from_).rows.getD k default)).length:=by rw [hlen];exact hl.col
   rw [cM,tn,aP,ltR hkl,ct,ge0,Bool.and_self,ct,tn,mU hf g.rt ((g.ok.rws g.sm).all k hkl),bs,inR hcl,ct,tn,qQ,mg (d:=default) hkl,namingM]
   simp only [iR,ba hkl (show (tabT b l.from_).rows.length≤BIG by unfold BIG;omega)]
   by_cases hv:(ft b l ((tabT b l.from_).rows.getD k default)).kind=0
   ·rw [if_pos hv,dt hv]
    exact ih n (k+1) s (by omega) (by omega)
   ·rw [if_neg hv,df hv]
    simp only [Bool.not_false,ct]
    congr 1
    funext s'
    exact ih n (k+1) s' (by omega) (by omega)
 have:=key (tabT b l.from_).rows.length fu 0 s (by omega) (by unfold BIG at hf;omega)
 rwa [List.drop_zero] at this
theorem yt {t:ab}{id n:Int}{s:Bool}(hf:BIG≤fu)(h:t.rows.length≤1000):qy fu id n s t=some (s&&B (rowN t n<t.rows.length)):=by
 unfold qy ky
 rw [pd hf h,bs,pW]
 cases s<;>rfl
theorem od {b:ac}{l:ai}(hf:BIG≤fu)(h:fU b)(hl:ar b l):qK fu b l=some (B (ao b l)):=by
 have hs:=h.sm.ntab
 have g2:=h.tab hl.dst
 unfold qK
 rw [cP hf hs,bs,aG hl.dst,inR hl.dst,ct,tn,aP,kC hf h hl]
 have key:∀ (rs:List Row) (s:Bool),namingM b l (fun x0 x1 s=>qy fu x0 x1 s (tabT b l.to)) rs s=some (s&&B (∀ r,r∈rs→bd b l r)):=by
  intro rs
  induction rs with
  | nil=>intro s;rw [namingM,B_t (fun _ h=>nomatch h),Bool.and_true]
  | cons r rs ih=>
   intro s
   have e:B (∀ q,q∈r::rs→bd b l q)=(B (bd b l r)&&B (∀ q,q∈rs→bd b l q)):=by
    rw [← cb]
    exact ak (by simp)
   rw [namingM,e]
   by_cases hv:(ft b l r).kind=0
   ·rw [if_pos hv,ih,B_t (show bd b l r from fun h0=>absurd hv h0),Bool.true_and]
   ·rw [if_neg hv,yt hf g2.sm.nrow,bs,ih]
    have e2:B (bd b l r)=B (rowN (tabT b l.to) (ft b l r).n < (tabT b l.to).rows.length):=ak ⟨fun hh=>hh hv,fun hh _=>hh⟩
    rw [e2,Bool.and_assoc]
 rw [key,bs,Bool.true_and]
 congr 1
 refine ak ⟨fun hh k hk=>hh _ (getD_mem hk),fun hh r hr=>ao.mem hh hr⟩
theorem yC {b:ac}(hf:BIG≤fu)(hs:SmB b):vQ fu b=some (B ((∀ k,k<b.tabs.length→cx b k)∧b.tabs.length≤3)):=by
 have hN:=hs.ntab
 unfold vQ
 have step:∀ n (k:Nat),k<b.tabs.length→bU fu b (n+1) (k:Int)=f1067_j2 (k:Int) (bU fu b n) (B (¬ cx b k)):=fun n k hk=>by
  rw [bU,ltR hk,ct,ge0,Bool.and_self,ct,tn,d9 hf (hs.names k hk),bs]
  by_cases h1:am (b.tabs.getD k default).name
  case neg=>rw [B_f h1,B_t fun g=>h1 g.name];rfl
  rw [B_t h1]
  simp only [Bool.not_true,cf,ct]
  rw [a8 hf hN,bs]
  by_cases h2:tabN b (b.tabs.getD k default).name=k
  case neg=>
   have:decide (l9 b (b.tabs.getD k default).name=(k:Int))=false:=by
    refine df fun hh=>h2 ?_
    unfold l9 at hh
    split at hh<;>omega
   rw [this,B_t fun g=>h2 g.place];rfl
  have h2':l9 b (b.tabs.getD k default).name=(k:Int):=by rw [aG (by rw [h2];exact hk),h2]
  rw [dt h2']
  simp only [Bool.not_true,cf]
  have e:f17 fu (b.tabs.getD k default).table=some (B (aL (cz b k))):=CC hf (hs.tabs k hk)
  rw [e,bs]
  by_cases h3:aL (cz b k)
  ·rw [B_t h3,B_f fun hh=>hh ⟨h1,h2,h3⟩];rfl
  ·rw [B_f h3,B_t fun hh=>h3 hh.ok];rfl
 refine eP (L:=bU fu b) _ _ (by unfold BIG;omega) (fun n h=>?_) (fun n h=>?_) (fun n k hk hp=>?_) (fun n k hk hp=>?_) (by unfold BIG at hf;omega)
 ·rw [bU,nlt,cf,dt (by omega)]
 ·rw [bU,nlt,cf,df (by omega)]
 ·rw [step n k hk,B_f fun hh=>hh hp];rfl
 ·rw [step n k hk,B_t hp];rfl
theorem cQ {b:ac}(hf:BIG≤fu)(hs:SmB b):ja fu b=some (B (ah b)):=by
 have hN:=hs.nlink
 unfold ja
 rw [yC hf hs,bs]
 by_cases h1:(∀ k,k<b.tabs.length→cx b k)∧b.tabs.length≤3
 case neg=>rw [B_f h1,B_f fun g=>h1 ⟨g.tabs,g.ntab⟩];rfl
 rw [B_t h1]
 have hg:fU b:=⟨fun k hk=>(h1.1 k hk).ok,hs⟩
 unfold kQ
 simp only [Bool.not_true,cf]
 by_cases h2:b.links.length≤4
 case neg=>rw [dt (by omega),B_f fun g=>h2 g.nlink];rfl
 rw [df (by omega),cf]
 have hp:ah b↔((∀ i,i<b.links.length→jl b i)∧True):=⟨fun h=>⟨h.links,trivial⟩,fun h=>⟨h1.1,h1.2,h2,h.1⟩⟩
 rw [ak hp]
 have step:∀ n (k:Nat),k<b.links.length→cq fu b (n+1) (k:Int)=iZ (k:Int) (cq fu b n) (B (¬ jl b k)):=fun n k hk=>by
  rw [cq,ltR hk,ct,ge0,Bool.and_self,ct,tn,si hf hg,bs]
  by_cases g1:ar b (b.links.getD k default)
  case neg=>rw [B_f g1,B_t fun g=>g1 g.fits];rfl
  rw [B_t g1]
  simp only [Bool.not_true,cf,ct]
  rw [sh hf hN hk,bs,kG hf hg g1]
  by_cases g2:c7 b k
  case neg=>rw [B_f g2,B_t fun g=>g2 g.apart];rfl
  rw [B_t g2]
  by_cases g3:ao b (b.links.getD k default)
  ·rw [B_t g3,B_f fun hh=>hh ⟨g1,g2,g3⟩];rfl
  ·rw [B_f g3,B_t fun hh=>g3 hh.holds];rfl
 refine eP (L:=cq fu b) _ _ (by unfold BIG;omega) (fun n _=>?_) (fun n h=>absurd trivial h) (fun n k hk hp=>?_) (fun n k hk hp=>?_) (by unfold BIG at hf;omega)
 ·rw [cq,nlt];rfl
 ·rw [step n k hk,B_f fun hh=>hh hp];rfl
 ·rw [step n k hk,B_t hp];rfl
def linkN (b:ac)(nm col:List UInt8):Nat:=b.links.findIdx fun l=>decide (l.from_=nm)&&decide (l.col=col)
def mb (b:ac)(nm col:List UInt8):Int:=if linkN b nm col<b.links.length then (linkN b nm col:Int) else -1
theorem sc {l:ai}{nm col:List UInt8}:pk fu l nm col=some (decide (l.from_=nm)&&decide (l.col=col)):=by
 unfold pk kx
 cases decide (l.from_=nm)<;>rfl
theorem oc {b:ac}{nm col:List UInt8}(hf:BIG≤fu)(h:b.links.length≤1000):qJ fu b nm col=some (mb b nm col):=by
 unfold qJ tc
 have:bS b.links (fun x0=>pk fu x0 nm col) fu 0=some (mb b nm col):=by
  unfold mb linkN
  refine ll (L:=bS b.links fun x0=>pk fu x0 nm col) b.links (fun l=>decide (l.from_=nm)&&decide (l.col=col)) (by unfold BIG;omega) (fun n=>?_) (fun n k hk hp=>?_) (fun n k hk hp=>?_) (by unfold BIG at hf;omega)
  ·rw [bS,nlt];rfl
  ·rw [bS,ltR hk,ct,ge0,Bool.and_self,ct,tn,ae hk,sc,hp];rfl
  ·rw [bS,ltR hk,ct,ge0,Bool.and_self,ct,tn,ae hk,sc,hp];rfl
 rw [this];rfl
theorem ln {b:ac}{nm col:List UInt8}:linkN b nm col<b.links.length↔bA b nm col:=by
 constructor
 ·intro h
  have:=List.findIdx_getElem (w:=h)
  simp only [Bool.and_eq_true,decide_eq_true_eq] at this
  exact ⟨_,h,by rw [ae h];exact this⟩
 ·rintro ⟨k,hk,h1,h2⟩
  refine List.findIdx_lt_length_of_exists ⟨_,getD_mem (d:=(default:ai)) hk,?_⟩
  rw [h1,h2,dt rfl,dt rfl];rfl
theorem np {b:ac}{nm col:List UInt8}:decide (0≤mb b nm col)=B (bA b nm col):=by
 rw [← ak ln]
 unfold mb
 by_cases h:linkN b nm col<b.links.length
 ·rw [if_pos h,ge0,B_t h]
 ·rw [if_neg h,B_f h];rfl
theorem sT {b:ac}{i:Nat}(hi:i<b.links.length):decide (mb b (b.links.getD i default).from_ (b.links.getD i default).col=(i:Int))=B (c7 b i):=by
 have hL:bA b (b.links.getD i default).from_ (b.links.getD i default).col:=⟨i,hi,rfl,rfl⟩
 have hlt:=ln.2 hL
 have hle:linkN b (b.links.getD i default).from_ (b.links.getD i default).col≤i:=by
  refine Classical.byContradiction fun hn=>?_
  have:=List.not_of_lt_findIdx (show i<linkN b (b.links.getD i default).from_ (b.links.getD i default).col by omega)
  rw [← ae (d:=default) hi,dt rfl,dt rfl] at this
  cases this
 unfold mb
 rw [if_pos hlt]
 refine Eq.trans bN (ak ?_)
 constructor
 ·intro h k hk hh
  have h':linkN b (b.links.getD i default).from_ (b.links.getD i default).col=i:=by omega
  have:=List.not_of_lt_findIdx (show k<linkN b (b.links.getD i default).from_ (b.links.getD i default).col by omega)
  rw [← ae (d:=default) (show k<b.links.length by omega)] at this
  rw [dt hh.1,dt hh.2] at this
  cases this
 ·intro h
  refine Classical.byContradiction fun hn=>?_
  have hlt2:linkN b (b.links.getD i default).from_ (b.links.getD i default).col<i:=by omega
  have:=List.findIdx_getElem (w:=hlt)
  simp only [Bool.and_eq_true,decide_eq_true_eq] at this
  refine h _ hlt2 ⟨?_,?_⟩<;>rw [ae hlt]
  ·exact this.1
  ·exact this.2
theorem d5 {b:ac}(hf:BIG≤fu)(hs:SmB b):jY fu b=some (B (ah b)):=by
 have hN:=hs.ntab
 have hN2:=hs.nlink
 unfold jY
 have hp:ah b↔((∀ k,k<b.tabs.length→cx b k)∧ah b):=⟨fun h=>⟨h.tabs,h⟩,fun h=>h.2⟩
 rw [ak hp]
 have step:∀ n (k:Nat),k<b.tabs.length→aF fu b (n+1) (k:Int)=iX (k:Int) (aF fu b n) (B (¬ cx b k)):=fun n k hk=>by
  rw [aF,ltR hk,ct,ge0,Bool.and_self,ct,tn,ef hf (hs.names k hk),bs]
  by_cases h1:am (b.tabs.getD k default).name
  case neg=>rw [B_f h1,B_t fun g=>h1 g.name];rfl
  rw [B_t h1]
  simp only [Bool.not_true,cf]
  rw [cP hf hN,bs]
  by_cases h2:tabN b (b.tabs.getD k default).name=k
  case neg=>
   have:decide (l9 b (b.tabs.getD k default).name=(k:Int))=false:=by
    refine df fun hh=>h2 ?_
    unfold l9 at hh
    split at hh<;>omega
   rw [this,B_t fun g=>h2 g.place];rfl
  have h2':l9 b (b.tabs.getD k default).name=(k:Int):=by rw [aG (by rw [h2];exact hk),h2]
  rw [dt h2']
  simp only [Bool.not_true,cf]
  have e:f19 fu (b.tabs.getD k default).table=some (B (aL (cz b k))):=vz hf (hs.tabs k hk)
  rw [e,bs]
  by_cases h3:aL (cz b k)
  ·rw [B_t h3,B_f fun hh=>hh ⟨h1,h2,h3⟩];rfl
  ·rw [B_f h3,B_t fun hh=>h3 hh.ok];rfl
 have tail:(∀ k,k<b.tabs.length→cx b k)→∀ n,aF fu b (n+1) (b.tabs.length:Int)=some (B (ah b)):=fun ht n=>by
  have hg:fU b:=⟨fun k hk=>(ht k hk).ok,hs⟩
  rw [aF,nlt,cf]
  have hp:ah b↔((∀ i,i<b.links.length→jl b i)∧(b.tabs.length≤3∧b.links.length≤4)):=⟨fun h=>⟨h.links,h.ntab,h.nlink⟩,fun h=>⟨ht,h.2.1,h.2.2,h.1⟩⟩
  rw [ak hp]
  have step:∀ m (k:Nat),k<b.links.length→bj fu b (aF fu b n) (m+1) (k:Int)=iW (k:Int) (aF fu b n) (bj fu b (aF fu b n) m) (B (¬ jl b k)):=fun m k hk=>by
   rw [bj,ltR hk,ct,ge0,Bool.and_self,ct,tn,sg hf hg,bs]
   by_cases g1:ar b (b.links.getD k default)
   case neg=>rw [B_f g1,B_t fun g=>g1 g.fits];rfl
   rw [B_t g1]
   simp only [Bool.not_true,cf]
   rw [od hf hg g1,bs]
   by_cases g3:ao b (b.links.getD k default)
   case neg=>rw [B_f g3,B_t fun g=>g3 g.holds];rfl
   rw [B_t g3]
   simp only [Bool.not_true,cf]
   rw [oc hf hN2,bs,sT hk]
   by_cases g2:c7 b k
   ·rw [B_t g2,B_f fun hh=>hh ⟨g1,g2,g3⟩];rfl
   ·rw [B_f g2,B_t fun hh=>g2 hh.apart];rfl
  have hend:∀ m,bj fu b (aF fu b n) (m+1) (b.links.length:Int)=some (B (b.tabs.length≤3∧b.links.length≤4)):=fun m=>by
   rw [bj,nlt,cf]
   unfold iY
   by_cases g1:b.tabs.length≤3
   ·rw [dt (show (b.tabs.length:Int)≤3 by omega),ct]
    by_cases g2:b.links.length≤4
    ·rw [dt (show (b.links.length:Int)≤4 by omega),B_t ⟨g1,g2⟩]
    ·rw [df (show ¬ (b.links.length:Int)≤4 by omega),B_f fun hh=>g2 hh.2]
   ·rw [df (show ¬ (b.tabs.length:Int)≤3 by omega),B_f fun hh=>g1 hh.1];rfl
  refine eP (L:=bj fu b (aF fu b n)) _ _ (by unfold BIG;omega) (fun m hq=>?_) (fun m hq=>?_) (fun m k hk hp=>?_) (fun m k hk hp=>?_) (by unfold BIG at hf;omega)
  ·rw [hend,B_t hq]
  ·rw [hend,B_f hq]
  ·rw [step m k hk,B_f fun hh=>hh hp];rfl
  ·rw [step m k hk,B_t hp];rfl
 by_cases ht:∀ k,k<b.tabs.length→cx b k
 ·refine eP (L:=aF fu b) _ _ (by unfold BIG;omega) (fun n hq=>?_) (fun n hq=>?_) (fun n k hk hp=>?_) (fun n k hk hp=>?_) (by unfold BIG at hf;omega)
  ·rw [tail ht,B_t hq]
  ·rw [tail ht,B_f hq]
  ·rw [step n k hk,B_f fun hh=>hh hp];rfl
  ·rw [step n k hk,B_t hp];rfl
 ·have hno:¬ ah b:=fun h=>ht h.tabs
  have e1:=gv (L:=aF fu b) (N:=b.tabs.length) (fun k=>¬ cx b k) (some false) (aF fu b 1 (b.tabs.length:Int)) (by unfold BIG;omega)
  rw [B_f fun hh=>hno hh.2]
  obtain ⟨k0,hk0⟩:=Classical.not_forall.1 ht
  have hk0':k0<b.tabs.length∧¬ cx b k0:=Classical.not_imp.1 hk0
  have key:∀ (m n k:Nat),k+m=k0→(m<n)→aF fu b n (k:Int)=some false:=by
   intro m
   induction m with
   | zero=>
    intro n k hk hn
    obtain ⟨n,rfl⟩:∃ i,n=i+1:=⟨n-1,by omega⟩
    have:k=k0:=by omega
    subst this
    rw [step n k hk0'.1,B_t hk0'.2];rfl
   | succ m ih=>
    intro n k hk hn
    obtain ⟨n,rfl⟩:∃ i,n=i+1:=⟨n-1,by omega⟩
    rw [step n k (by omega)]
    by_cases hg:cx b k
    ·rw [B_f fun hh=>hh hg]
     show aF fu b n (IntKind.i64.wrap ((k:Int)+1))=_
     rw [ba (show k<b.tabs.length by omega) (by unfold BIG;omega)]
     exact ih n (k+1) (by omega) (by omega)
    ·rw [B_t hg];rfl
  exact key k0 fu 0 (by omega) (by unfold BIG at hf;omega)
end Go.Proofs.YtganfdhmkdehlaaGreatDoor
