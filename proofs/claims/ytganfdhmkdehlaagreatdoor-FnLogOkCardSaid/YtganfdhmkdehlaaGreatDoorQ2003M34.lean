/- A row taken away with those that go with it: the program does as the model (the set of those that go). -/
import Derived.Test.YtganfdhmkdehlaaGreatDoorQ2003M32
import Derived.Test.YtganfdhmkdehlaaGreatDoorQ2003B11
set_option linter.all false
namespace Go.Proofs.YtganfdhmkdehlaaGreatDoor
open Go Go.HL
variable {fu:Nat}
theorem nX {q:Ref}{ks:List Ref}:memK q ks=B (inL ks q.name q.id):=by
 unfold memK
 rw [Bool.eq_iff_iff,gy,decide_eq_true_iff,di]
theorem zm {q:Ref}{ks:List Ref}:BY q ks=if q∈ks then ks else ks++[q]:=by
 unfold BY memK
 by_cases h:q∈ks<;>simp [h]
theorem wV {x0 x1:Int}{l:aj}{ks:List Ref}:pH x0 x1 l ks=some (@ite _ (l.how=2∧inL ks l.to x1∧¬ inL ks l.from_ x0) (Classical.propDecidable _) (ks++[(⟨l.from_,x0⟩:Ref)]) ks):=by
 unfold pH jX
 rw [nX]
 by_cases h1:l.how=2
 case neg=>rw [df h1,if_neg fun hh=>h1 hh.1];rfl
 rw [dt h1,ct]
 by_cases h2:inL ks l.to x1
 case neg=>rw [B_f h2,if_neg fun hh=>h2 hh.2.1];rfl
 rw [B_t h2,ct,zm]
 by_cases h3:inL ks l.from_ x0
 ·rw [if_pos (di.1 h3),if_neg fun hh=>hh.2.2 h3]
 ·rw [if_neg fun hh=>h3 (di.2 hh),if_pos ⟨h1,h2,h3⟩]
structure sy (b:ac) (nm:List UInt8) (id:Int) (C:aj→Row→Prop) (s s':List Ref):Prop where
 grows:f5 b nm id s'
 less:pk b s'≤pk b s
 same:s'.length=s.length→s' = s
 loud:s'≠s→pk b s'<pk b s∧s.length<s'.length
 quiet:s' = s→∀ l r,C l r→l.how=2→dv b (inL s) l r→inL s l.from_ r.id
theorem sy.refl {b:ac}{nm:List UInt8}{id:Int}{s:List Ref}(h:f5 b nm id s):sy b nm id (fun _ _=>False) s s:=⟨h,Nat.le_refl _,fun _=>rfl,fun hh=>absurd rfl hh,fun _ _ _ h=>h.elim⟩
theorem sy.trans {b:ac}{nm:List UInt8}{id:Int}{C D:aj→Row→Prop}{s s' s'':List Ref}(h:sy b nm id C s s')(g:sy b nm id D s' s''):sy b nm id (fun l r=>C l r∨D l r) s s'':=by
 have hl:s.length≤s'.length:=by
  by_cases e:s' = s
  ·rw [e];exact Nat.le_refl _
  ·exact Nat.le_of_lt (h.loud e).2
 have gl:s'.length≤s''.length:=by
  by_cases e:s'' = s'
  ·rw [e];exact Nat.le_refl _
  ·exact Nat.le_of_lt (g.loud e).2
 refine ⟨g.grows,Nat.le_trans g.less h.less,fun e=>?_,fun e=>?_,fun e=>?_⟩
 ·rw [g.same (by omega),h.same (by omega)]
 ·by_cases e1:s' = s
  ·subst e1;exact g.loud e
  ·have h1:=h.loud e1
   exact ⟨Nat.lt_of_le_of_lt g.less h1.1,by omega⟩
 ·subst e
  have e1:s' = s'':=h.same (by omega)
  subst e1
  exact fun l r hc=>hc.elim (h.quiet rfl l r) (g.quiet rfl l r)
theorem sy.sub {b:ac}{nm:List UInt8}{id:Int}{C D:aj→Row→Prop}{s s':List Ref}(h:sy b nm id C s s')(hs:∀ l r,D l r→C l r):sy b nm id D s s':=
 ⟨h.grows,h.less,h.same,h.loud,fun e l r hd=>h.quiet e l r (hs l r hd)⟩
theorem td {b:ac}{nm:List UInt8}{id:Int}(h:am b){l:aj}(hl:l∈b.links):∀ (rows:List Row) (s:List Ref),(∀ r,r∈rows→r∈(tabT b l.from_).rows)→f5 b nm id s→
     ∃ s',namingM b l (fun x0 x1 s=>pH x0 x1 l s) rows s=some s'∧sy b nm id (fun l' r=>l' = l∧r∈rows) s s':=by
 intro rows
 induction rows with
 | nil=>exact fun s _ hg=>⟨s,rfl,(sy.refl hg).sub fun l' r hh=>by cases hh.2⟩
 | cons r rs ih=>
  intro s hr hg
  have hrm:=hr r List.mem_cons_self
  have hrs:∀ q,q∈rs→q∈(tabT b l.from_).rows:=fun q hq=>hr q (List.mem_cons_of_mem _ hq)
  rw [namingM]
  by_cases hv:(e8 b l r).kind=0
  ·rw [if_pos hv]
   obtain ⟨s',e,hp⟩:=ih s hrs hg
   refine ⟨s',e,⟨hp.grows,hp.less,hp.same,hp.loud,fun e2 l' q hc hw hn=>?_⟩⟩
   rcases List.mem_cons.1 hc.2 with e3|hq
   ·rw [hc.1,e3] at hn
    exact absurd hv hn.1
   ·exact hp.quiet e2 l' q ⟨hc.1,hq⟩ hw hn
  rw [if_neg hv,wV,bs]
  by_cases hh:l.how=2∧inL s l.to (e8 b l r).n∧¬ inL s l.from_ r.id
  ·rw [if_pos hh]
   have hx:(⟨l.from_,r.id⟩:Ref)∈o5 b:=by
    have h1:=(h.ok.link hl).1.src
    have h2:=qj (getD_mem (d:=(default:Tab)) h1) (r:=r) hrm
    rwa [bV h1] at h2
   have hnot:(⟨l.from_,r.id⟩:Ref)∉s:=fun hm=>hh.2.2 (di.2 hm)
   have hlk:=nY hx hnot
   have hg1:f5 b nm id (s++[(⟨l.from_,r.id⟩:Ref)]):=⟨fun x n hxn=>by
    rcases inL_snoc.1 hxn with h1|⟨h1,h2⟩
    ·exact hg.sound x n h1
    ·subst h1 h2
     exact .next hl hrm hh.1 hv (hg.sound _ _ hh.2.1),inL_snoc.2 (.inl hg.self),by
    have:=hg.len
    rw [List.length_append,List.length_singleton];omega⟩
   obtain ⟨s',e,hp⟩:=ih _ hrs hg1
   have hlen:s.length<s'.length:=by
    by_cases e2:s' = s++[(⟨l.from_,r.id⟩:Ref)]
    ·rw [e2,List.length_append,List.length_singleton];omega
    ·have:=(hp.loud e2).2
     rw [List.length_append,List.length_singleton] at this
     omega
   refine ⟨s',e,⟨hp.grows,Nat.le_of_lt (Nat.lt_of_le_of_lt hp.less hlk),fun e2=>by omega,fun _=>⟨Nat.lt_of_le_of_lt hp.less hlk,hlen⟩,fun e2=>by rw [e2] at hlen;omega⟩⟩
  ·rw [if_neg hh]
   obtain ⟨s',e,hp⟩:=ih s hrs hg
   refine ⟨s',e,⟨hp.grows,hp.less,hp.same,hp.loud,fun e2 l' q hc hw hn=>?_⟩⟩
   rcases List.mem_cons.1 hc.2 with e3|hq
   ·rw [hc.1,e3] at hn ⊢
    rw [hc.1] at hw
    by_cases h3:inL s l.from_ r.id
    ·exact h3
    ·exact absurd ⟨hw,hn.2,h3⟩ hh
   ·exact hp.quiet e2 l' q ⟨hc.1,hq⟩ hw hn
theorem lb {b:ac}{nm:List UInt8}{id n0:Int}{rec1:Int→List Ref→Option (List Ref)}(hf:BIG≤fu)(h:am b):∀ (m n i:Nat) (s:List Ref),i+m=b.links.length→m<n→f5 b nm id s→
     ∃ s',fR fu b n0 rec1 n (i:Int) s=rec1 n0 s'∧sy b nm id (fun l r=>(∃ j,i≤j∧j<b.links.length∧b.links.getD j default=l)∧r∈(tabT b l.from_).rows) s s':=by
 intro m
 have h4:=h.ok.nlink
 induction m with
 | zero=>
  intro n i s hi hn hg
  obtain ⟨n,rfl⟩:∃ z,n=z+1:=⟨n-1,by omega⟩
  have:i=b.links.length:=by omega
  subst this
  refine ⟨s,by rw [fR,nlt];rfl,(sy.refl hg).sub fun l r hh=>?_⟩
  obtain ⟨⟨j,h1,h2,_⟩,_⟩:=hh
  omega
 | succ m ih=>
  intro n i s hi hn hg
  obtain ⟨n,rfl⟩:∃ z,n=z+1:=⟨n-1,by omega⟩
  have hil:i<b.links.length:=by omega
  have hm:=cz hil
  obtain ⟨s1,e1,p1⟩:=td h hm (tabT b (b.links.getD i default).from_).rows s (fun _ hr=>hr) hg
  obtain ⟨s',e2,p2⟩:=ih n (i+1) s1 (by omega) (by omega) p1.grows
  refine ⟨s',?_,(p1.trans p2).sub fun l r hh=>?_⟩
  ·rw [fR,ltR hil,ct,ge0,Bool.and_self,ct,tn,j2 hf h.g (h.ok.link hm).1,e1,bs,aU hil (by unfold BIG;omega)]
   exact e2
  ·obtain ⟨⟨j,h1,h2,h3⟩,hr⟩:=hh
   by_cases e:j=i
   ·subst e;subst h3
    exact .inl ⟨rfl,hr⟩
   ·exact .inr ⟨⟨j,by omega,h2,h3⟩,hr⟩
def B3 (b:ac)(s:List Ref):Prop:=∀ l r,l∈b.links→r∈(tabT b l.from_).rows→l.how=2→dv b (inL s) l r→inL s l.from_ r.id
theorem pN {b:ac}{nm:List UInt8}{id:Int}(hf:BIG≤fu)(h:am b):∀ (m n:Nat) (i1:Int) (s:List Ref),pk b s≤m→m+2<n→f5 b nm id s→(i1=(s.length:Int)→B3 b s)→
     ∃ ks,bn fu b n i1 s=some ks∧f5 b nm id ks∧B3 b ks:=by
 intro m
 induction m with
 | zero=>
  intro n i1 s hm hn hg hc
  obtain ⟨n,rfl⟩:∃ z,n=z+2:=⟨n-2,by omega⟩
  by_cases e:i1=(s.length:Int)
  ·exact ⟨s,by rw [bn,dt e];rfl,hg,hc e⟩
  obtain ⟨s',e1,p⟩:=lb (n0:=(s.length:Int)) (rec1:=bn fu b (n+1)) hf h b.links.length fu 0 s (by omega) (by have:=h.ok.nlink;unfold BIG at hf;omega) hg
  by_cases es:s' = s
  ·subst es
   refine ⟨s',?_,hg,fun l r hl hr=>p.quiet rfl l r ⟨?_,hr⟩⟩
   ·rw [bn,df e]
    refine Eq.trans e1 ?_
    rw [bn,dt rfl];rfl
   ·obtain ⟨j,hj,rfl⟩:=List.getElem_of_mem hl
    exact ⟨j,Nat.zero_le _,hj,ae hj⟩
  ·have:=(p.loud es).1
   omega
 | succ m ih=>
  intro n i1 s hm hn hg hc
  obtain ⟨n,rfl⟩:∃ z,n=z+2:=⟨n-2,by omega⟩
  by_cases e:i1=(s.length:Int)
  ·exact ⟨s,by rw [bn,dt e];rfl,hg,hc e⟩
  obtain ⟨s',e1,p⟩:=lb (n0:=(s.length:Int)) (rec1:=bn fu b (n+1)) hf h b.links.length fu 0 s (by omega) (by have:=h.ok.nlink;unfold BIG at hf;omega) hg
  by_cases es:s' = s
  ·subst es
   refine ⟨s',?_,hg,fun l r hl hr=>p.quiet rfl l r ⟨?_,hr⟩⟩
   ·rw [bn,df e]
    refine Eq.trans e1 ?_
    rw [bn,dt rfl];rfl
   ·obtain ⟨j,hj,rfl⟩:=List.getElem_of_mem hl
    exact ⟨j,Nat.zero_le _,hj,ae hj⟩
  ·have h2:=p.loud es
   obtain ⟨ks,e3,hk⟩:=ih (n+1) (s.length:Int) s' (by omega) (by omega) p.grows fun e4=>by omega
   refine ⟨ks,?_,hk⟩
   rw [bn,df e]
   exact e1.trans e3
theorem vM {b:ac}{nm:List UInt8}{id:Int}{s:List Ref}(hg:f5 b nm id s)(hc:B3 b s):∀ x n,f6 b nm id x n→inL s x n:=by
 intro x n hx
 induction hx with
 | self=>exact hg.self
 | @next lk r hl hr hw hv _ ih=>exact hc lk r hl hr hw ⟨hv,ih⟩
theorem xe {b:ac}{nm:List UInt8}{id:Int}(hf:BIG≤fu)(h:am b):∃ ks,xf fu b nm id=some ks∧(∀ x n,inL ks x n↔f6 b nm id x n)∧ks.length≤25:=by
 have hl:=tz h.ok [(⟨nm,id⟩:Ref)]
 have h0:f5 b nm id [(⟨nm,id⟩:Ref)]:=⟨fun x n hx=>by
  have:=di.1 hx
  rw [List.mem_singleton] at this
  cases this
  exact .self,⟨_,List.mem_singleton.2 rfl,rfl,rfl⟩,by rw [List.length_singleton];omega⟩
 obtain ⟨ks,e,hg,hc⟩:=pN (nm:=nm) (id:=id) hf h 24 fu 0 [(⟨nm,id⟩:Ref)] hl (by unfold BIG at hf;omega) h0 fun hh=>by simp at hh
 exact ⟨ks,e,fun x n=>⟨hg.sound x n,vM hg hc x n⟩,by have:=hg.len;omega⟩
end Go.Proofs.YtganfdhmkdehlaaGreatDoor
/- A row taken away with those that go with it: the program does as the model. -/
namespace Go.Proofs.YtganfdhmkdehlaaGreatDoor
open Go Go.HL
variable {fu:Nat}
theorem xd {x0 x1:Int}{l:aj}{ks:List Ref}{s:Bool}:pM x0 x1 l ks s=some (s || B (l.how=1∧inL ks l.to x1∧¬ inL ks l.from_ x0)):=by
 unfold pM
 rw [nX,nX]
 cases s
 case true=>rfl
 by_cases h1:l.how=1
 case neg=>rw [df h1,show B (l.how=1∧inL ks l.to x1∧¬ inL ks l.from_ x0)=false from B_f fun hh=>h1 hh.1];rfl
 rw [dt h1]
 by_cases h2:inL ks l.to x1
 case neg=>rw [B_f h2,show B (l.how=1∧inL ks l.to x1∧¬ inL ks l.from_ x0)=false from B_f fun hh=>h2 hh.2.1];rfl
 rw [B_t h2]
 by_cases h3:inL ks l.from_ x0
 ·rw [B_t h3,show B (l.how=1∧inL ks l.to x1∧¬ inL ks l.from_ x0)=false from B_f fun hh=>hh.2.2 h3];rfl
 ·rw [B_f h3,B_t ⟨h1,h2,h3⟩];rfl
theorem sO {b:ac}{l:aj}{ks:List Ref}:∀ (rows:List Row) (s:Bool),namingM b l (fun x0 x1 s=>pM x0 x1 l ks s) rows s=some (s || B (l.how=1∧∃ r,r∈rows∧¬ inL ks l.from_ r.id∧dv b (inL ks) l r)):=by
 intro rows
 induction rows with
 | nil=>intro s;rw [namingM,B_f fun hh=>by obtain ⟨_,r,hr,_⟩:=hh;cases hr];cases s<;>rfl
 | cons r rs ih=>
  intro s
  rw [namingM]
  by_cases hv:(e8 b l r).kind=0
  ·rw [if_pos hv,ih]
   congr 2
   refine ai (and_congr_right fun _=>⟨fun ⟨q,hq,hh⟩=>⟨q,List.mem_cons_of_mem _ hq,hh⟩,fun ⟨q,hq,hh⟩=>?_⟩)
   rcases List.mem_cons.1 hq with e|hq
   ·rw [e] at hh
    exact absurd hv hh.2.1
   ·exact ⟨q,hq,hh⟩
  rw [if_neg hv,xd,bs,ih,Bool.or_assoc]
  congr 2
  rw [Bool.eq_iff_iff,Bool.or_eq_true,gy,gy,gy]
  constructor
  ·rintro (⟨h1,h2,h3⟩ | ⟨h1,q,hq,hh⟩)
   ·exact ⟨h1,r,List.mem_cons_self,h3,hv,h2⟩
   ·exact ⟨h1,q,List.mem_cons_of_mem _ hq,hh⟩
  ·rintro ⟨h1,q,hq,hh⟩
   rcases List.mem_cons.1 hq with e|hq
   ·rw [e] at hh
    exact .inl ⟨h1,hh.2.2,hh.1⟩
   ·exact .inr ⟨h1,q,hq,hh⟩
def vq (b:ac)(G:aP)(i:Nat):Prop:=(b.links.getD i default).how=1∧∃ r,r∈(tabT b (b.links.getD i default).from_).rows∧¬ G (b.links.getD i default).from_ r.id∧dv b G (b.links.getD i default) r
theorem stops_at {b:ac}{G:aP}:lr b G↔∃ j,0≤j∧j<b.links.length∧vq b G j:=by
 constructor
 ·rintro ⟨l,hl,hw,hh⟩
  obtain ⟨i,hi,rfl⟩:=List.getElem_of_mem hl
  exact ⟨i,Nat.zero_le _,hi,by unfold vq;rw [ae hi];exact ⟨hw,hh⟩⟩
 ·rintro ⟨i,_,hi,hw,hh⟩
  exact ⟨_,getD_mem hi,hw,hh⟩
theorem pU {b q4:ac}{ks:List Ref}(hf:BIG≤fu)(h:am b):∀ (m n i:Nat) (s:Bool),i+m=b.links.length→m<n→
     fX fu b q4 ks n (i:Int) s=kf fu b q4 ks (s || B (∃ j,i≤j∧j<b.links.length∧vq b (inL ks) j)):=by
 intro m
 have h4:=h.ok.nlink
 induction m with
 | zero=>
  intro n i s hi hn
  obtain ⟨n,rfl⟩:∃ z,n=z+1:=⟨n-1,by omega⟩
  have:i=b.links.length:=by omega
  subst this
  rw [fX,nlt,B_f fun hh=>by obtain ⟨j,h1,h2,_⟩:=hh;omega,Bool.or_false];rfl
 | succ m ih=>
  intro n i s hi hn
  obtain ⟨n,rfl⟩:∃ z,n=z+1:=⟨n-1,by omega⟩
  have hil:i<b.links.length:=by omega
  have hm:=cz hil
  rw [fX,ltR hil,ct,ge0,Bool.and_self,ct,tn,j2 hf h.g (h.ok.link hm).1,sO,bs,aU hil (by unfold BIG;omega),ih n (i+1) _ (by omega) (by omega),Bool.or_assoc]
  congr 2
  rw [Bool.eq_iff_iff,Bool.or_eq_true,gy,gy,gy]
  constructor
  ·rintro (h1 | ⟨j,h1,h2,h3⟩)
   ·exact ⟨i,Nat.le_refl _,hil,h1⟩
   ·exact ⟨j,by omega,h2,h3⟩
  ·rintro ⟨j,h1,h2,h3⟩
   by_cases e:j=i
   ·subst e;exact .inl h3
   ·exact .inr ⟨j,by omega,h2,h3⟩
theorem Aq {b:ac}{p:List UInt8→Row→Prop}{ψ:List UInt8→Row→Row}{nm:List UInt8}(hf:BIG≤fu)(h:am b)(hk:tabN b nm<b.tabs.length):eL fu (⟨(baseW b p ψ).tabs,b.links⟩:ac) nm=some (tabN b nm:Int):=by
 rw [cJ hf (by show (baseW b p ψ).tabs.length≤1000;rw [aG];exact h.sm.ntab)]
 congr 1
 have e1:tabN (⟨(baseW b p ψ).tabs,b.links⟩:ac) nm=tabN b nm:=f0 b p ψ _
 rw [aF (by rw [e1];show _ < (baseW b p ψ).tabs.length;rw [aG];exact hk),e1]
theorem vX {b:ac}{ψ:List UInt8→Row→Row}{list:List Ref}(hf:BIG≤fu)(h:am b)(hw:cy b ψ)(hr:∀ j,j<list.length→tabN b (list.getD j default).name<b.tabs.length) :
     ∀ (m j:Nat),j+m=list.length→gP (fe fu b.links) (list.drop j) (baseW b (bU list j) ψ).tabs=some (baseW b (bU list list.length) ψ).tabs:=by
 intro m
 induction m with
 | zero=>
  intro j hj
  have:j=list.length:=by omega
  subst this
  rw [List.drop_length,gP]
 | succ m ih=>
  intro j hj
  have hjl:j<list.length:=by omega
  have hs:=hr j hjl
  have go:=ih (j+1) (by omega)
  have gt:SmT (tabW (tabT b (list.getD j default).name) (bU list j (list.getD j default).name) (ψ (list.getD j default).name)):=ko (h.tabT hs).sm (nD (h.tabT hs).ok (h.tabT hs).sm (hw.at_ hs))
  rw [lI (d:=default) hjl,gP]
  have e:fe fu b.links (list.getD j default) (baseW b (bU list j) ψ).tabs=some (baseW b (bU list (j+1)) ψ).tabs:=by
   unfold fe
   rw [Aq hf h hs,bs,aG,inR hs,ct,tn,kj hs,AE hf gt,bs]
   show some (aV (baseW b (bU list j) ψ) (tabN b (list.getD j default).name) (vv (tabW (tabT b (list.getD j default).name) (bU list j (list.getD j default).name) (ψ (list.getD j default).name)) (list.getD j default).id).1).tabs=_
   rw [ql h hw hjl hs]
  rw [e,bs]
  exact go
def iT (ks:List Ref)(nm:List UInt8)(r:Row):Prop:=¬ inL ks nm r.id
theorem qv {p ks:List Ref}(hp:p.Perm ks){nm:List UInt8}{id:Int}:inL p nm id↔inL ks nm id:=by rw [di,di];exact hp.mem_iff
theorem yx {b:ac}{ks:List Ref}(hf:BIG≤fu)(h:am b)(hr:∀ x n,inL ks x n→tabN b x<b.tabs.length):zT (fe fu b.links) ks b.tabs=some (baseW b (iT ks) (fun _ r=>r)).tabs:=by
 refine zl fun p hp=>?_
 have hr':∀ j,j<p.length→tabN b (p.getD j default).name<b.tabs.length:=fun j hj=>hr _ (p.getD j default).id ((qv hp).1 ⟨_,getD_mem hj,rfl,rfl⟩)
 have:=vX (list:=p) hf h (cy.same h.ok) hr' p.length 0 (by omega)
 rw [List.drop_zero,nK] at this
 have e:baseW b lK (fun _ r=>r)=b:=oI
 rw [e] at this
 rw [this]
 congr 2
 refine baseW_rows h.ok (fun x hx r hr=>?_) fun _ _ _ _ _=>rfl
 unfold bU iT
 rw [List.take_length]
 exact not_congr (qv hp)
theorem xc {x0 x1:Int}{l:aj}{ks:List Ref}{links:List aj}{T:List Tab}:pL fu x0 x1 l ks links T=@ite _ (l.how=3∧inL ks l.to x1∧¬ inL ks l.from_ x0) (Classical.propDecidable _) (dI fu x0 l links T true) (some T):=by
 unfold pL
 rw [nX,nX]
 have e:dI fu x0 l links T false=some T:=rfl
 by_cases h1:l.how=3
 case neg=>rw [df h1,if_neg fun hh=>h1 hh.1];exact e
 rw [dt h1,ct]
 by_cases h2:inL ks l.to x1
 case neg=>rw [B_f h2,if_neg fun hh=>h2 hh.2.1];exact e
 rw [B_t h2,ct]
 by_cases h3:inL ks l.from_ x0
 ·rw [B_t h3,if_neg fun hh=>hh.2.2 h3];exact e
 ·rw [B_f h3,if_pos ⟨h1,h2,h3⟩];rfl
noncomputable def rO (b:ac) (ks:List Ref) (i:Nat) (nm:List UInt8) (k:Nat):ac:=baseW b (iT ks) (vE (freeG b (inL ks) i) nm (ep b (inL ks) i nm k))
theorem tk {b:ac}{ks:List Ref}{i:Nat}{nm:List UInt8}(h:ah b):rO b ks i nm 0=baseW b (iT ks) (freeG b (inL ks) i):=by
 refine baseW_rows h (fun _ _ _ _=>Iff.rfl) fun x hx r hr _=>?_
 by_cases e:x=nm
 ·subst e
  rw [az]
  exact if_neg fun ⟨j,h1,_⟩=>absurd h1 (Nat.not_lt_zero _)
 ·rw [ap _ _ e]
theorem wa {b:ac}{ks:List Ref}{i:Nat}(h:ah b)(hi:i<b.links.length):rO b ks i (b.links.getD i default).from_ (tabT b (b.links.getD i default).from_).rows.length=baseW b (iT ks) (freeG b (inL ks) (i+1)):=by
 refine baseW_rows h (fun _ _ _ _=>Iff.rfl) fun x hx r hr _=>?_
 by_cases e:x=(b.links.getD i default).from_
 ·subst e
  rw [az]
  obtain ⟨j,hj,rfl⟩:=List.getElem_of_mem hr
  exact if_pos ⟨j,hj,hj,by rw [ae hj]⟩
 ·rw [ap _ _ e]
  exact (dX hi (.inr fun hh=>e hh.1.symm)).symm
theorem tH {b:ac}{ks:List Ref}(hf:BIG≤fu)(h:am b){i:Nat}(hi:i<b.links.length):∀ (m k:Nat),k+m=(tabT b (b.links.getD i default).from_).rows.length→
     namingM b (b.links.getD i default) (fun x0 x1 s=>pL fu x0 x1 (b.links.getD i default) ks b.links s) ((tabT b (b.links.getD i default).from_).rows.drop k) (rO b ks i (b.links.getD i default).from_ k).tabs=some (baseW b (iT ks) (freeG b (inL ks) (i+1))).tabs:=by
 have hfit:=(h.ok.links i hi).fits
 have hs:=hfit.src
 have g:=h.tabT hs
 intro m
 induction m with
 | zero=>
  intro k hk
  have:k=(tabT b (b.links.getD i default).from_).rows.length:=by omega
  subst this
  rw [List.drop_length,namingM,wa h.ok hi]
 | succ m ih=>
  intro k hk
  have hkl:k < (tabT b (b.links.getD i default).from_).rows.length:=by omega
  have hmem:(tabT b (b.links.getD i default).from_).rows.getD k default∈(tabT b (b.links.getD i default).from_).rows:=getD_mem hkl
  have go:=ih (k+1) (by omega)
  have hway:=kL (G:=inL ks) (i:=i) (k:=k) h.ok hs
  have quiet:(inL ks (b.links.getD i default).from_ ((tabT b (b.links.getD i default).from_).rows.getD k default).id∨¬ Hit b (inL ks) (b.links.getD i default).from_ (b.links.getD i default) ((tabT b (b.links.getD i default).from_).rows.getD k default))→rO b ks i (b.links.getD i default).from_ k=rO b ks i (b.links.getD i default).from_ (k+1):=fun hq=>by
   refine baseW_rows h.ok (fun _ _ _ _=>Iff.rfl) fun x hx r hr _=>?_
   by_cases e:x=(b.links.getD i default).from_
   ·subst e
    rw [az,az,fI h.ok hs hkl hr]
    split
    ·rename_i e2
     have:r=(tabT b (b.links.getD i default).from_).rows.getD k default:=qh g.ok hr hmem e2
     subst this
     rw [gN h.ok hs hkl,dX hi hq]
    ·rfl
   ·rw [ap _ _ e,ap _ _ e]
  rw [lI (d:=default) hkl,namingM]
  by_cases hv:(e8 b (b.links.getD i default) ((tabT b (b.links.getD i default).from_).rows.getD k default)).kind=0
  ·rw [if_pos hv,quiet (.inr fun hh=>hh.2.2.1 hv)]
   exact go
  rw [if_neg hv,xc]
  by_cases hh:(b.links.getD i default).how=3∧inL ks (b.links.getD i default).to (e8 b (b.links.getD i default) ((tabT b (b.links.getD i default).from_).rows.getD k default)).n∧¬ inL ks (b.links.getD i default).from_ ((tabT b (b.links.getD i default).from_).rows.getD k default).id
  case neg=>
   rw [if_neg hh,bs,quiet ?_]
   ·exact go
   ·by_cases h3:inL ks (b.links.getD i default).from_ ((tabT b (b.links.getD i default).from_).rows.getD k default).id
    ·exact .inl h3
    ·exact .inr fun h4=>hh ⟨h4.2.1,h4.2.2.2,h3⟩
  have c1:=hh.2.2
  have c2:Hit b (inL ks) (b.links.getD i default).from_ (b.links.getD i default) ((tabT b (b.links.getD i default).from_).rows.getD k default):=⟨rfl,hh.1,hv,hh.2.1⟩
  rw [if_pos hh]
  have hmt:oV (tabW (tabT b (b.links.getD i default).from_) (iT ks (b.links.getD i default).from_) (ep b (inL ks) i (b.links.getD i default).from_ k)):=⟨mB g.ok hway,ko g.sm (nD g.ok g.sm hway)⟩
  have hset:=nO (p:=iT ks (b.links.getD i default).from_) g.ok hway (id:=((tabT b (b.links.getD i default).from_).rows.getD k default).id) (col:=(b.links.getD i default).col) hfit.col (hfit.need hh.1) ⟨_,hmem,c1,rfl⟩
  have hsx:SmX [(⟨(b.links.getD i default).col,nul⟩:Set)]:=⟨by simp,fun x hx=>by rw [List.mem_singleton.1 hx];exact hfit.col_sm g.rt.okLast,fun x hx=>by rw [List.mem_singleton.1 hx];exact nul_ok.sm⟩
  have e0:((rO b ks i (b.links.getD i default).from_ k).tabs.getD (tabN b (b.links.getD i default).from_) default).table=tabW (tabT b (b.links.getD i default).from_) (iT ks (b.links.getD i default).from_) (ep b (inL ks) i (b.links.getD i default).from_ k):=by
   unfold rO
   rw [kj hs,az]
  have e1:dI fu ((tabT b (b.links.getD i default).from_).rows.getD k default).id (b.links.getD i default) b.links (rO b ks i (b.links.getD i default).from_ k).tabs true=some (rO b ks i (b.links.getD i default).from_ (k+1)).tabs:=by
   have e2:(rO b ks i (b.links.getD i default).from_ k).tabs.length=b.tabs.length:=aG ..
   unfold dI
   rw [ct,show eL fu (⟨(rO b ks i (b.links.getD i default).from_ k).tabs,b.links⟩:ac) (b.links.getD i default).from_=some (tabN b (b.links.getD i default).from_:Int) from Aq hf h hs,bs,e2,inR hs,ct,tn,e0]
   show (f75 fu _ _ [(⟨(b.links.getD i default).col,nul⟩:Set)]).bind _=_
   rw [x8 hf hmt.ok hmt.sm hsx,hset,bs]
   show some (aV (rO b ks i (b.links.getD i default).from_ k) (tabN b (b.links.getD i default).from_) (tabW (tabT b (b.links.getD i default).from_) (iT ks (b.links.getD i default).from_) (updR (ep b (inL ks) i (b.links.getD i default).from_ k) ((tabT b (b.links.getD i default).from_).rows.getD k default).id (eX (tabT b (b.links.getD i default).from_) (cq b (b.links.getD i default)))))).tabs=_
   congr 2
   unfold rO
   rw [iE h.ok.place hs]
   refine baseW_rows h.ok (fun x hx r hr=>?_) fun x hx r hr _=>?_
   ·by_cases e:x=(b.links.getD i default).from_
    ·subst e;rw [az]
    ·rw [ap _ _ e]
   ·by_cases e:x=(b.links.getD i default).from_
    ·subst e
     rw [az,az,fI h.ok hs hkl hr]
     unfold updR
     by_cases e2:r.id=((tabT b (b.links.getD i default).from_).rows.getD k default).id
     ·rw [if_pos e2,if_pos e2]
      have:r=(tabT b (b.links.getD i default).from_).rows.getD k default:=qh g.ok hr hmem e2
      subst this
      rw [gN h.ok hs hkl,n7 hi c1 c2]
     ·rw [if_neg e2,if_neg e2]
    ·rw [ap _ _ e,ap _ _ e,ap _ _ e]
  rw [e1,bs]
  exact go
theorem pS {b:ac}{ks:List Ref}(hf:BIG≤fu)(h:am b):∀ (m n i:Nat),i+m=b.links.length→m<n→
     eM fu b ks b.links n (i:Int) (baseW b (iT ks) (freeG b (inL ks) i)).tabs=some ((⟨(baseW b (iT ks) (freeG b (inL ks) b.links.length)).tabs,b.links⟩:ac),0):=by
 intro m
 have h4:=h.ok.nlink
 induction m with
 | zero=>
  intro n i hi hn
  obtain ⟨n,rfl⟩:∃ z,n=z+1:=⟨n-1,by omega⟩
  have:i=b.links.length:=by omega
  subst this
  rw [eM,nlt];rfl
 | succ m ih=>
  intro n i hi hn
  obtain ⟨n,rfl⟩:∃ z,n=z+1:=⟨n-1,by omega⟩
  have hil:i<b.links.length:=by omega
  have hm:=cz hil
  have e:=tH (ks:=ks) hf h hil (tabT b (b.links.getD i default).from_).rows.length 0 (by omega)
  rw [List.drop_zero,tk h.ok] at e
  rw [eM,ltR hil,ct,ge0,Bool.and_self,ct,tn,j2 hf h.g (h.ok.link hm).1,e,bs,aU hil (by unfold BIG;omega)]
  exact ih n (i+1) (by omega) (by omega)
theorem xg {b:ac}{nm:List UInt8}{id:Int}(hf:BIG≤fu)(h:SmB b):uD fu b nm id=some (B (dq b nm id)):=by
 unfold uD j3
 rw [cJ hf h.ntab,bs,eb]
 by_cases hk:tabN b nm<b.tabs.length
 case neg=>rw [B_f hk,B_f fun hh=>hk hh.1];rfl
 have hN:(tabT b nm).rows.length≤1000:=(h.tabs _ hk).nrow
 rw [B_t hk,aF hk,ct,ltR hk,Bool.and_self,ct,tn,aR,qV hf hN,bs,o4]
 congr 1
 exact ai ⟨fun hh=>⟨hk,hh⟩,fun hh=>hh.2⟩
theorem wi {b:ac}{nm:List UInt8}{id:Int}(h:ah b)(h1:dq b nm id):∀ {x:List UInt8} {n:Int},f6 b nm id x n→dq b x n:=by
 intro x n hx
 cases hx with
 | self=>exact h1
 | next hl hr hw hv hg=>exact lX (h.link hl).1.src hr
theorem xp {b:ac}{nm:List UInt8}{id:Int}(hf:BIG≤fu)(h:SmB b):uP fu b nm id=some (nU b nm id):=by
 unfold uP nU
 rw [dK hf h,bs]
 by_cases hk:ah b
 case neg=>rw [B_f hk,if_neg hk];rfl
 rw [B_t hk,if_pos hk]
 simp only [Bool.not_true,cf]
 rw [bQ hf h,bs,xg hf h,bs]
 unfold yy
 by_cases h1:dq b nm id
 case neg=>rw [B_f h1,if_pos h1];rfl
 rw [B_t h1,if_neg (fun hh=>hh h1)]
 simp only [Bool.not_true,cf]
 have hg:am b:=⟨hk,h⟩
 obtain ⟨ks,e,hs,hn⟩:=xe (nm:=nm) (id:=id) hf hg
 have hG:inL ks=f6 b nm id:=by funext x n;exact propext (hs x n)
 rw [e,bs]
 have e1:=pU (q4:=b) (ks:=ks) hf hg b.links.length fu 0 false (by omega) (by have:=hk.nlink;unfold BIG at hf;omega)
 refine Eq.trans e1 ?_
 rw [Bool.false_or,ai stops_at.symm,hG]
 unfold kf
 by_cases h2:lr b (f6 b nm id)
 ·rw [B_t h2,if_pos h2];rfl
 rw [B_f h2,if_neg h2,cf,yx hf hg fun x n hx=>(wi hk h1 ((hs x n).1 hx)).1,bs]
 have e2:=pS (ks:=ks) hf hg b.links.length fu 0 (by omega) (by have:=hk.nlink;unfold BIG at hf;omega)
 rw [lY] at e2
 refine Eq.trans e2 ?_
 congr 2
 show baseW b (iT ks) (freeG b (inL ks) b.links.length)=offG b (f6 b nm id)
 rw [← hG]
 refine baseW_rows hk (fun _ _ _ _=>Iff.rfl) fun x hx r hr hp=>?_
 unfold freeG
 rw [if_neg (show ¬ inL ks x r.id from hp),List.take_length]
end Go.Proofs.YtganfdhmkdehlaaGreatDoor
