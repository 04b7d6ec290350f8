/- A row taken away with those that go with it: the program does as the model (the set of those that go). -/
import Derived.Test.YtganfdhmkdehlaaGreatDoorQ2004M32
import Derived.Test.YtganfdhmkdehlaaGreatDoorQ2004B11
set_option linter.all false
namespace Go.Proofs.YtganfdhmkdehlaaGreatDoor
open Go Go.HL
variable {fu:Nat}
theorem ot {q:Ref}{ks:List Ref}:memK q ks=B (inL ks q.name q.id):=by
 unfold memK
 rw [Bool.eq_iff_iff,iU,decide_eq_true_iff,du]
theorem zY {q:Ref}{ks:List Ref}:CE q ks=if q∈ks then ks else ks++[q]:=by
 unfold CE memK
 by_cases h:q∈ks<;>simp [h]
theorem xz {x0 x1:Int}{l:aj}{ks:List Ref}:p0 x0 x1 l ks=some (@ite _ (l.how=2∧inL ks l.to x1∧¬ inL ks l.from_ x0) (Classical.propDecidable _) (ks++[(⟨l.from_,x0⟩:Ref)]) ks):=by
 unfold p0 j9
 rw [ot]
 by_cases h1:l.how=2
 case neg=>rw [df h1,if_neg fun hh=>h1 hh.1];rfl
 rw [dt h1,ct]
 by_cases h2:inL ks l.to x1
 case neg=>rw [B_f h2,if_neg fun hh=>h2 hh.2.1];rfl
 rw [B_t h2,ct,zY]
 by_cases h3:inL ks l.from_ x0
 ·rw [if_pos (du.1 h3),if_neg fun hh=>hh.2.2 h3]
 ·rw [if_neg fun hh=>h3 (du.2 hh),if_pos ⟨h1,h2,h3⟩]
structure s8 (b:ac) (nm:List UInt8) (id:Int) (C:aj→Row→Prop) (s s':List Ref):Prop where
 grows:ge b nm id s'
 less:pJ b s'≤pJ b s
 same:s'.length=s.length→s' = s
 loud:s'≠s→pJ b s'<pJ b s∧s.length<s'.length
 quiet:s' = s→∀ l r,C l r→l.how=2→dE b (inL s) l r→inL s l.from_ r.id
theorem s8.refl {b:ac}{nm:List UInt8}{id:Int}{s:List Ref}(h:ge b nm id s):s8 b nm id (fun _ _=>False) s s:=⟨h,Nat.le_refl _,fun _=>rfl,fun hh=>absurd rfl hh,fun _ _ _ h=>h.elim⟩
theorem s8.trans {b:ac}{nm:List UInt8}{id:Int}{C D:aj→Row→Prop}{s s' s'':List Ref}(h:s8 b nm id C s s')(g:s8 b nm id D s' s''):s8 b nm id (fun l r=>C l r∨D l r) s s'':=by
 have hl:s.length≤s'.length:=by
  by_cases e:s' = s
  ·rw [e];exact Nat.le_refl _
  ·exact Nat.le_of_lt (h.loud e).2
 have gl:s'.length≤s''.length:=by
  by_cases e:s'' = s'
  ·rw [e];exact Nat.le_refl _
  ·exact Nat.le_of_lt (g.loud e).2
 refine ⟨g.grows,Nat.le_trans g.less h.less,fun e=>?_,fun e=>?_,fun e=>?_⟩
 ·rw [g.same (by omega),h.same (by omega)]
 ·by_cases e1:s' = s
  ·subst e1;exact g.loud e
  ·have h1:=h.loud e1
   exact ⟨Nat.lt_of_le_of_lt g.less h1.1,by omega⟩
 ·subst e
  have e1:s' = s'':=h.same (by omega)
  subst e1
  exact fun l r hc=>hc.elim (h.quiet rfl l r) (g.quiet rfl l r)
theorem s8.sub {b:ac}{nm:List UInt8}{id:Int}{C D:aj→Row→Prop}{s s':List Ref}(h:s8 b nm id C s s')(hs:∀ l r,D l r→C l r):s8 b nm id D s s':=
 ⟨h.grows,h.less,h.same,h.loud,fun e l r hd=>h.quiet e l r (hs l r hd)⟩
theorem tJ {b:ac}{nm:List UInt8}{id:Int}(h:av b){l:aj}(hl:l∈b.links):∀ (rows:List Row) (s:List Ref),(∀ r,r∈rows→r∈(tabT b l.from_).rows)→ge b nm id s→
     ∃ s',namingM b l (fun x0 x1 s=>p0 x0 x1 l s) rows s=some s'∧s8 b nm id (fun l' r=>l' = l∧r∈rows) s s':=by
 intro rows
 induction rows with
 | nil=>exact fun s _ hg=>⟨s,rfl,(s8.refl hg).sub fun l' r hh=>by cases hh.2⟩
 | cons r rs ih=>
  intro s hr hg
  have hrm:=hr r List.mem_cons_self
  have hrs:∀ q,q∈rs→q∈(tabT b l.from_).rows:=fun q hq=>hr q (List.mem_cons_of_mem _ hq)
  rw [namingM]
  by_cases hv:(fm b l r).kind=0
  ·rw [if_pos hv]
   obtain ⟨s',e,hp⟩:=ih s hrs hg
   refine ⟨s',e,⟨hp.grows,hp.less,hp.same,hp.loud,fun e2 l' q hc hw hn=>?_⟩⟩
   rcases List.mem_cons.1 hc.2 with e3|hq
   ·rw [hc.1,e3] at hn
    exact absurd hv hn.1
   ·exact hp.quiet e2 l' q ⟨hc.1,hq⟩ hw hn
  rw [if_neg hv,xz,bs]
  by_cases hh:l.how=2∧inL s l.to (fm b l r).n∧¬ inL s l.from_ r.id
  ·rw [if_pos hh]
   have hx:(⟨l.from_,r.id⟩:Ref)∈py b:=by
    have h1:=(h.ok.link hl).1.src
    have h2:=qI (getD_mem (d:=(default:Tab)) h1) (r:=r) hrm
    rwa [ce h1] at h2
   have hnot:(⟨l.from_,r.id⟩:Ref)∉s:=fun hm=>hh.2.2 (du.2 hm)
   have hlk:=ow hx hnot
   have hg1:ge b nm id (s++[(⟨l.from_,r.id⟩:Ref)]):=⟨fun x n hxn=>by
    rcases inL_snoc.1 hxn with h1|⟨h1,h2⟩
    ·exact hg.sound x n h1
    ·subst h1 h2
     exact .next hl hrm hh.1 hv (hg.sound _ _ hh.2.1),inL_snoc.2 (.inl hg.self),by
    have:=hg.len
    rw [List.length_append,s_];omega⟩
   obtain ⟨s',e,hp⟩:=ih _ hrs hg1
   have hlen:s.length<s'.length:=by
    by_cases e2:s' = s++[(⟨l.from_,r.id⟩:Ref)]
    ·rw [e2,List.length_append,s_];omega
    ·have:=(hp.loud e2).2
     rw [List.length_append,s_] at this
     omega
   refine ⟨s',e,⟨hp.grows,Nat.le_of_lt (Nat.lt_of_le_of_lt hp.less hlk),fun e2=>by omega,fun _=>⟨Nat.lt_of_le_of_lt hp.less hlk,hlen⟩,fun e2=>by rw [e2] at hlen;omega⟩⟩
  ·rw [if_neg hh]
   obtain ⟨s',e,hp⟩:=ih s hrs hg
   refine ⟨s',e,⟨hp.grows,hp.less,hp.same,hp.loud,fun e2 l' q hc hw hn=>?_⟩⟩
   rcases List.mem_cons.1 hc.2 with e3|hq
   ·rw [hc.1,e3] at hn ⊢
    rw [hc.1] at hw
    by_cases h3:inL s l.from_ r.id
    ·exact h3
    ·exact absurd ⟨hw,hn.2,h3⟩ hh
   ·exact hp.quiet e2 l' q ⟨hc.1,hq⟩ hw hn
theorem lC {b:ac}{nm:List UInt8}{id n0:Int}{rec1:Int→List Ref→Option (List Ref)}(hf:BIG≤fu)(h:av b):∀ (m n i:Nat) (s:List Ref),i+m=b.links.length→m<n→ge b nm id s→
     ∃ s',f3 fu b n0 rec1 n (i:Int) s=rec1 n0 s'∧s8 b nm id (fun l r=>(∃ j,i≤j∧j<b.links.length∧b.links.getD j default=l)∧r∈(tabT b l.from_).rows) s s':=by
 intro m
 have h4:=h.ok.nlink
 induction m with
 | zero=>
  intro n i s hi hn hg
  obtain ⟨n,rfl⟩:∃ z,n=z+1:=⟨n-1,by omega⟩
  have:i=b.links.length:=by omega
  subst this
  refine ⟨s,by rw [f3,nlt];rfl,(s8.refl hg).sub fun l r hh=>?_⟩
  obtain ⟨⟨j,h1,h2,_⟩,_⟩:=hh
  omega
 | succ m ih=>
  intro n i s hi hn hg
  obtain ⟨n,rfl⟩:∃ z,n=z+1:=⟨n-1,by omega⟩
  have hil:i<b.links.length:=by omega
  have hm:=cD hil
  obtain ⟨s1,e1,p1⟩:=tJ h hm (tabT b (b.links.getD i default).from_).rows s (fun _ hr=>hr) hg
  obtain ⟨s',e2,p2⟩:=ih n (i+1) s1 (by omega) (by omega) p1.grows
  refine ⟨s',?_,(p1.trans p2).sub fun l r hh=>?_⟩
  ·rw [f3,ltR hil,ct,ge0,b_,ct,tn,kf hf h.g (h.ok.link hm).1,e1,bs,bb hil (by unfold BIG;omega)]
   exact e2
  ·obtain ⟨⟨j,h1,h2,h3⟩,hr⟩:=hh
   by_cases e:j=i
   ·subst e;subst h3
    exact .inl ⟨rfl,hr⟩
   ·exact .inr ⟨⟨j,by omega,h2,h3⟩,hr⟩
def CG (b:ac)(s:List Ref):Prop:=∀ l r,l∈b.links→r∈(tabT b l.from_).rows→l.how=2→dE b (inL s) l r→inL s l.from_ r.id
theorem qe {b:ac}{nm:List UInt8}{id:Int}(hf:BIG≤fu)(h:av b):∀ (m n:Nat) (i1:Int) (s:List Ref),pJ b s≤m→m+2<n→ge b nm id s→(i1=(s.length:Int)→CG b s)→
     ∃ ks,bq fu b n i1 s=some ks∧ge b nm id ks∧CG b ks:=by
 intro m
 induction m with
 | zero=>
  intro n i1 s hm hn hg hc
  obtain ⟨n,rfl⟩:∃ z,n=z+2:=⟨n-2,by omega⟩
  by_cases e:i1=(s.length:Int)
  ·exact ⟨s,by rw [bq,dt e];rfl,hg,hc e⟩
  obtain ⟨s',e1,p⟩:=lC (n0:=(s.length:Int)) (rec1:=bq fu b (n+1)) hf h b.links.length fu 0 s (by omega) (by have:=h.ok.nlink;unfold BIG at hf;omega) hg
  by_cases es:s' = s
  ·subst es
   refine ⟨s',?_,hg,fun l r hl hr=>p.quiet rfl l r ⟨?_,hr⟩⟩
   ·rw [bq,df e]
    refine Eq.trans e1 ?_
    rw [bq,dt rfl];rfl
   ·obtain ⟨j,hj,rfl⟩:=g_ hl
    exact ⟨j,Nat.zero_le _,hj,ae hj⟩
  ·have:=(p.loud es).1
   omega
 | succ m ih=>
  intro n i1 s hm hn hg hc
  obtain ⟨n,rfl⟩:∃ z,n=z+2:=⟨n-2,by omega⟩
  by_cases e:i1=(s.length:Int)
  ·exact ⟨s,by rw [bq,dt e];rfl,hg,hc e⟩
  obtain ⟨s',e1,p⟩:=lC (n0:=(s.length:Int)) (rec1:=bq fu b (n+1)) hf h b.links.length fu 0 s (by omega) (by have:=h.ok.nlink;unfold BIG at hf;omega) hg
  by_cases es:s' = s
  ·subst es
   refine ⟨s',?_,hg,fun l r hl hr=>p.quiet rfl l r ⟨?_,hr⟩⟩
   ·rw [bq,df e]
    refine Eq.trans e1 ?_
    rw [bq,dt rfl];rfl
   ·obtain ⟨j,hj,rfl⟩:=g_ hl
    exact ⟨j,Nat.zero_le _,hj,ae hj⟩
  ·have h2:=p.loud es
   obtain ⟨ks,e3,hk⟩:=ih (n+1) (s.length:Int) s' (by omega) (by omega) p.grows fun e4=>by omega
   refine ⟨ks,?_,hk⟩
   rw [bq,df e]
   exact e1.trans e3
theorem wu {b:ac}{nm:List UInt8}{id:Int}{s:List Ref}(hg:ge b nm id s)(hc:CG b s):∀ x n,fi b nm id x n→inL s x n:=by
 intro x n hx
 induction hx with
 | self=>exact hg.self
 | @next lk r hl hr hw hv _ ih=>exact hc lk r hl hr hw ⟨hv,ih⟩
theorem xI {b:ac}{nm:List UInt8}{id:Int}(hf:BIG≤fu)(h:av b):∃ ks,xJ fu b nm id=some ks∧(∀ x n,inL ks x n↔fi b nm id x n)∧ks.length≤25:=by
 have hl:=t8 h.ok [(⟨nm,id⟩:Ref)]
 have h0:ge b nm id [(⟨nm,id⟩:Ref)]:=⟨fun x n hx=>by
  have:=du.1 hx
  rw [List.mem_singleton] at this
  cases this
  exact .self,⟨_,List.mem_singleton.2 rfl,rfl,rfl⟩,by rw [s_];omega⟩
 obtain ⟨ks,e,hg,hc⟩:=qe (nm:=nm) (id:=id) hf h 24 fu 0 [(⟨nm,id⟩:Ref)] hl (by unfold BIG at hf;omega) h0 fun hh=>by simp at hh
 exact ⟨ks,e,fun x n=>⟨hg.sound x n,wu hg hc x n⟩,by have:=hg.len;omega⟩
theorem xH {x0 x1:Int}{l:aj}{ks:List Ref}{s:Bool}:qd x0 x1 l ks s=some (s || B (l.how=1∧inL ks l.to x1∧¬ inL ks l.from_ x0)):=by
 unfold qd
 rw [ot,ot]
 cases s
 case true=>rfl
 by_cases h1:l.how=1
 case neg=>rw [df h1,show B (l.how=1∧inL ks l.to x1∧¬ inL ks l.from_ x0)=false from B_f fun hh=>h1 hh.1];rfl
 rw [dt h1]
 by_cases h2:inL ks l.to x1
 case neg=>rw [B_f h2,show B (l.how=1∧inL ks l.to x1∧¬ inL ks l.from_ x0)=false from B_f fun hh=>h2 hh.2.1];rfl
 rw [B_t h2]
 by_cases h3:inL ks l.from_ x0
 ·rw [B_t h3,show B (l.how=1∧inL ks l.to x1∧¬ inL ks l.from_ x0)=false from B_f fun hh=>hh.2.2 h3];rfl
 ·rw [B_f h3,B_t ⟨h1,h2,h3⟩];rfl
theorem tp {b:ac}{l:aj}{ks:List Ref}:∀ (rows:List Row) (s:Bool),namingM b l (fun x0 x1 s=>qd x0 x1 l ks s) rows s=some (s || B (l.how=1∧∃ r,r∈rows∧¬ inL ks l.from_ r.id∧dE b (inL ks) l r)):=by
 intro rows
 induction rows with
 | nil=>intro s;rw [namingM,B_f fun hh=>by obtain ⟨_,r,hr,_⟩:=hh;cases hr];cases s<;>rfl
 | cons r rs ih=>
  intro s
  rw [namingM]
  by_cases hv:(fm b l r).kind=0
  ·rw [if_pos hv,ih]
   congr 2
   refine ai (and_congr_right fun _=>⟨fun ⟨q,hq,hh⟩=>⟨q,List.mem_cons_of_mem _ hq,hh⟩,fun ⟨q,hq,hh⟩=>?_⟩)
   rcases List.mem_cons.1 hq with e|hq
   ·rw [e] at hh
    exact absurd hv hh.2.1
   ·exact ⟨q,hq,hh⟩
  rw [if_neg hv,xH,bs,ih,Bool.or_assoc]
  congr 2
  rw [Bool.eq_iff_iff,Bool.or_eq_true,iU,iU,iU]
  constructor
  ·rintro (⟨h1,h2,h3⟩ | ⟨h1,q,hq,hh⟩)
   ·exact ⟨h1,r,List.mem_cons_self,h3,hv,h2⟩
   ·exact ⟨h1,q,List.mem_cons_of_mem _ hq,hh⟩
  ·rintro ⟨h1,q,hq,hh⟩
   rcases List.mem_cons.1 hq with e|hq
   ·rw [e] at hh
    exact .inl ⟨h1,hh.2.2,hh.1⟩
   ·exact .inr ⟨h1,q,hq,hh⟩
def wa (b:ac)(G:aT)(i:Nat):Prop:=(b.links.getD i default).how=1∧∃ r,r∈(tabT b (b.links.getD i default).from_).rows∧¬ G (b.links.getD i default).from_ r.id∧dE b G (b.links.getD i default) r
theorem stops_at {b:ac}{G:aT}:iP b G↔∃ j,0≤j∧j<b.links.length∧wa b G j:=by
 constructor
 ·rintro ⟨l,hl,hw,hh⟩
  obtain ⟨i,hi,rfl⟩:=g_ hl
  exact ⟨i,Nat.zero_le _,hi,by unfold wa;rw [ae hi];exact ⟨hw,hh⟩⟩
 ·rintro ⟨i,_,hi,hw,hh⟩
  exact ⟨_,getD_mem hi,hw,hh⟩
theorem ql {b q4:ac}{ks:List Ref}(hf:BIG≤fu)(h:av b):∀ (m n i:Nat) (s:Bool),i+m=b.links.length→m<n→
     ga fu b q4 ks n (i:Int) s=ku fu b q4 ks (s || B (∃ j,i≤j∧j<b.links.length∧wa b (inL ks) j)):=by
 intro m
 have h4:=h.ok.nlink
 induction m with
 | zero=>
  intro n i s hi hn
  obtain ⟨n,rfl⟩:∃ z,n=z+1:=⟨n-1,by omega⟩
  have:i=b.links.length:=by omega
  subst this
  rw [ga,nlt,B_f fun hh=>by obtain ⟨j,h1,h2,_⟩:=hh;omega,Bool.or_false];rfl
 | succ m ih=>
  intro n i s hi hn
  obtain ⟨n,rfl⟩:∃ z,n=z+1:=⟨n-1,by omega⟩
  have hil:i<b.links.length:=by omega
  have hm:=cD hil
  rw [ga,ltR hil,ct,ge0,b_,ct,tn,kf hf h.g (h.ok.link hm).1,tp,bs,bb hil (by unfold BIG;omega),ih n (i+1) _ (by omega) (by omega),Bool.or_assoc]
  congr 2
  rw [Bool.eq_iff_iff,Bool.or_eq_true,iU,iU,iU]
  constructor
  ·rintro (h1 | ⟨j,h1,h2,h3⟩)
   ·exact ⟨i,Nat.le_refl _,hil,h1⟩
   ·exact ⟨j,by omega,h2,h3⟩
  ·rintro ⟨j,h1,h2,h3⟩
   by_cases e:j=i
   ·subst e;exact .inl h3
   ·exact .inr ⟨j,by omega,h2,h3⟩
theorem A9 {b:ac}{p:List UInt8→Row→Prop}{ψ:List UInt8→Row→Row}{nm:List UInt8}(hf:BIG≤fu)(h:av b)(hk:tabN b nm<b.tabs.length):eY fu (⟨(baseW b p ψ).tabs,b.links⟩:ac) nm=some (tabN b nm:Int):=by
 rw [cM hf (by show (baseW b p ψ).tabs.length≤1000;rw [aN];exact h.sm.ntab)]
 congr 1
 have e1:tabN (⟨(baseW b p ψ).tabs,b.links⟩:ac) nm=tabN b nm:=gc b p ψ _
 rw [aK (by rw [e1];show _ < (baseW b p ψ).tabs.length;rw [aN];exact hk),e1]
theorem wI {b:ac}{ψ:List UInt8→Row→Row}{list:List Ref}(hf:BIG≤fu)(h:av b)(hw:cC b ψ)(hr:∀ j,j<list.length→tabN b (list.getD j default).name<b.tabs.length) :
     ∀ (m j:Nat),j+m=list.length→gX (fx fu b.links) (list.drop j) (baseW b (bZ list j) ψ).tabs=some (baseW b (bZ list list.length) ψ).tabs:=by
 intro m
 induction m with
 | zero=>
  intro j hj
  have:j=list.length:=by omega
  subst this
  rw [List.drop_length,gX]
 | succ m ih=>
  intro j hj
  have hjl:j<list.length:=by omega
  have hs:=hr j hjl
  have go:=ih (j+1) (by omega)
  have gt:SmT (tabW (tabT b (list.getD j default).name) (bZ list j (list.getD j default).name) (ψ (list.getD j default).name)):=kD (h.tabT hs).sm (n6 (h.tabT hs).ok (h.tabT hs).sm (hw.at_ hs))
  rw [lZ (d:=default) hjl,gX]
  have e:fx fu b.links (list.getD j default) (baseW b (bZ list j) ψ).tabs=some (baseW b (bZ list (j+1)) ψ).tabs:=by
   unfold fx
   rw [A9 hf h hs,bs,aN,inR hs,ct,tn,kA hs,Bo hf gt,bs]
   show some (aQ (baseW b (bZ list j) ψ) (tabN b (list.getD j default).name) (sr (tabW (tabT b (list.getD j default).name) (bZ list j (list.getD j default).name) (ψ (list.getD j default).name)) (list.getD j default).id).1).tabs=_
   rw [qK h hw hjl hs]
  rw [e,bs]
  exact go
def jd (ks:List Ref)(nm:List UInt8)(r:Row):Prop:=¬ inL ks nm r.id
theorem qS {p ks:List Ref}(hp:p.Perm ks){nm:List UInt8}{id:Int}:inL p nm id↔inL ks nm id:=by rw [du,du];exact hp.mem_iff
theorem y8 {b:ac}{ks:List Ref}(hf:BIG≤fu)(h:av b)(hr:∀ x n,inL ks x n→tabN b x<b.tabs.length):Az (fx fu b.links) ks b.tabs=some (baseW b (jd ks) (fun _ r=>r)).tabs:=by
 refine zW fun p hp=>?_
 have hr':∀ j,j<p.length→tabN b (p.getD j default).name<b.tabs.length:=fun j hj=>hr _ (p.getD j default).id ((qS hp).1 ⟨_,getD_mem hj,rfl,rfl⟩)
 have:=wI (list:=p) hf h (cC.same h.ok) hr' p.length 0 (by omega)
 rw [List.drop_zero,ob] at this
 have e:baseW b l0 (fun _ r=>r)=b:=o9
 rw [e] at this
 rw [this]
 congr 2
 refine baseW_rows h.ok (fun x hx r hr=>?_) fun _ _ _ _ _=>rfl
 unfold bZ jd
 rw [List.take_length]
 exact not_congr (qS hp)
theorem xG {x0 x1:Int}{l:aj}{ks:List Ref}{links:List aj}{T:List Tab}:qc fu x0 x1 l ks links T=@ite _ (l.how=3∧inL ks l.to x1∧¬ inL ks l.from_ x0) (Classical.propDecidable _) (dV fu x0 l links T true) (some T):=by
 unfold qc
 rw [ot,ot]
 have e:dV fu x0 l links T false=some T:=rfl
 by_cases h1:l.how=3
 case neg=>rw [df h1,if_neg fun hh=>h1 hh.1];exact e
 rw [dt h1,ct]
 by_cases h2:inL ks l.to x1
 case neg=>rw [B_f h2,if_neg fun hh=>h2 hh.2.1];exact e
 rw [B_t h2,ct]
 by_cases h3:inL ks l.from_ x0
 ·rw [B_t h3,if_neg fun hh=>hh.2.2 h3];exact e
 ·rw [B_f h3,if_pos ⟨h1,h2,h3⟩];rfl
noncomputable def sw (b:ac) (ks:List Ref) (i:Nat) (nm:List UInt8) (k:Nat):ac:=baseW b (jd ks) (wl (freeG b (inL ks) i) nm (eL b (inL ks) i nm k))
theorem tQ {b:ac}{ks:List Ref}{i:Nat}{nm:List UInt8}(h:ah b):sw b ks i nm 0=baseW b (jd ks) (freeG b (inL ks) i):=by
 refine baseW_rows h (fun _ _ _ _=>Iff.rfl) fun x hx r hr _=>?_
 by_cases e:x=nm
 ·subst e
  rw [aB]
  exact if_neg fun ⟨j,h1,_⟩=>absurd h1 (Nat.not_lt_zero _)
 ·rw [ar _ _ e]
theorem wM {b:ac}{ks:List Ref}{i:Nat}(h:ah b)(hi:i<b.links.length):sw b ks i (b.links.getD i default).from_ (tabT b (b.links.getD i default).from_).rows.length=baseW b (jd ks) (freeG b (inL ks) (i+1)):=by
 refine baseW_rows h (fun _ _ _ _=>Iff.rfl) fun x hx r hr _=>?_
 by_cases e:x=(b.links.getD i default).from_
 ·subst e
  rw [aB]
  obtain ⟨j,hj,rfl⟩:=g_ hr
  exact if_pos ⟨j,hj,hj,by rw [ae hj]⟩
 ·rw [ar _ _ e]
  exact (eo hi (.inr fun hh=>e hh.1.symm)).symm
theorem ug {b:ac}{ks:List Ref}(hf:BIG≤fu)(h:av b){i:Nat}(hi:i<b.links.length):∀ (m k:Nat),k+m=(tabT b (b.links.getD i default).from_).rows.length→
     namingM b (b.links.getD i default) (fun x0 x1 s=>qc fu x0 x1 (b.links.getD i default) ks b.links s) ((tabT b (b.links.getD i default).from_).rows.drop k) (sw b ks i (b.links.getD i default).from_ k).tabs=some (baseW b (jd ks) (freeG b (inL ks) (i+1))).tabs:=by
 have hfit:=(h.ok.links i hi).fits
 have hs:=hfit.src
 have g:=h.tabT hs
 intro m
 induction m with
 | zero=>
  intro k hk
  have:k=(tabT b (b.links.getD i default).from_).rows.length:=by omega
  subst this
  rw [List.drop_length,namingM,wM h.ok hi]
 | succ m ih=>
  intro k hk
  have hkl:k < (tabT b (b.links.getD i default).from_).rows.length:=by omega
  have hmem:(tabT b (b.links.getD i default).from_).rows.getD k default∈(tabT b (b.links.getD i default).from_).rows:=getD_mem hkl
  have go:=ih (k+1) (by omega)
  have hway:=lc (G:=inL ks) (i:=i) (k:=k) h.ok hs
  have quiet:(inL ks (b.links.getD i default).from_ ((tabT b (b.links.getD i default).from_).rows.getD k default).id∨¬ Hit b (inL ks) (b.links.getD i default).from_ (b.links.getD i default) ((tabT b (b.links.getD i default).from_).rows.getD k default))→sw b ks i (b.links.getD i default).from_ k=sw b ks i (b.links.getD i default).from_ (k+1):=fun hq=>by
   refine baseW_rows h.ok (fun _ _ _ _=>Iff.rfl) fun x hx r hr _=>?_
   by_cases e:x=(b.links.getD i default).from_
   ·subst e
    rw [aB,aB,fU h.ok hs hkl hr]
    split
    ·rename_i e2
     have:r=(tabT b (b.links.getD i default).from_).rows.getD k default:=qG g.ok hr hmem e2
     subst this
     rw [gV h.ok hs hkl,eo hi hq]
    ·rfl
   ·rw [ar _ _ e,ar _ _ e]
  rw [lZ (d:=default) hkl,namingM]
  by_cases hv:(fm b (b.links.getD i default) ((tabT b (b.links.getD i default).from_).rows.getD k default)).kind=0
  ·rw [if_pos hv,quiet (.inr fun hh=>hh.2.2.1 hv)]
   exact go
  rw [if_neg hv,xG]
  by_cases hh:(b.links.getD i default).how=3∧inL ks (b.links.getD i default).to (fm b (b.links.getD i default) ((tabT b (b.links.getD i default).from_).rows.getD k default)).n∧¬ inL ks (b.links.getD i default).from_ ((tabT b (b.links.getD i default).from_).rows.getD k default).id
  case neg=>
   rw [if_neg hh,bs,quiet ?_]
   ·exact go
   ·by_cases h3:inL ks (b.links.getD i default).from_ ((tabT b (b.links.getD i default).from_).rows.getD k default).id
    ·exact .inl h3
    ·exact .inr fun h4=>hh ⟨h4.2.1,h4.2.2.2,h3⟩
  have c1:=hh.2.2
  have c2:Hit b (inL ks) (b.links.getD i default).from_ (b.links.getD i default) ((tabT b (b.links.getD i default).from_).rows.getD k default):=⟨rfl,hh.1,hv,hh.2.1⟩
  rw [if_pos hh]
  have hmt:nZ (tabW (tabT b (b.links.getD i default).from_) (jd ks (b.links.getD i default).from_) (eL b (inL ks) i (b.links.getD i default).from_ k)):=⟨mT g.ok hway,kD g.sm (n6 g.ok g.sm hway)⟩
  have hset:=oh (p:=jd ks (b.links.getD i default).from_) g.ok hway (id:=((tabT b (b.links.getD i default).from_).rows.getD k default).id) (col:=(b.links.getD i default).col) hfit.col (hfit.need hh.1) ⟨_,hmem,c1,rfl⟩
  have hsx:SmX [(⟨(b.links.getD i default).col,nul⟩:Set)]:=⟨by simp,fun x hx=>by rw [List.mem_singleton.1 hx];exact hfit.col_sm g.rt.okLast,fun x hx=>by rw [List.mem_singleton.1 hx];exact nul_ok.sm⟩
  have e0:((sw b ks i (b.links.getD i default).from_ k).tabs.getD (tabN b (b.links.getD i default).from_) default).table=tabW (tabT b (b.links.getD i default).from_) (jd ks (b.links.getD i default).from_) (eL b (inL ks) i (b.links.getD i default).from_ k):=by
   unfold sw
   rw [kA hs,aB]
  have e1:dV fu ((tabT b (b.links.getD i default).from_).rows.getD k default).id (b.links.getD i default) b.links (sw b ks i (b.links.getD i default).from_ k).tabs true=some (sw b ks i (b.links.getD i default).from_ (k+1)).tabs:=by
   have e2:(sw b ks i (b.links.getD i default).from_ k).tabs.length=b.tabs.length:=aN ..
   unfold dV
   rw [ct,show eY fu (⟨(sw b ks i (b.links.getD i default).from_ k).tabs,b.links⟩:ac) (b.links.getD i default).from_=some (tabN b (b.links.getD i default).from_:Int) from A9 hf h hs,bs,e2,inR hs,ct,tn,e0]
   show (f75 fu _ _ [(⟨(b.links.getD i default).col,nul⟩:Set)]).bind _=_
   rw [yN hf hmt.ok hmt.sm hsx,hset,bs]
   show some (aQ (sw b ks i (b.links.getD i default).from_ k) (tabN b (b.links.getD i default).from_) (tabW (tabT b (b.links.getD i default).from_) (jd ks (b.links.getD i default).from_) (updR (eL b (inL ks) i (b.links.getD i default).from_ k) ((tabT b (b.links.getD i default).from_).rows.getD k default).id (fg (tabT b (b.links.getD i default).from_) (cA b (b.links.getD i default)))))).tabs=_
   congr 2
   unfold sw
   rw [iN h.ok.place hs]
   refine baseW_rows h.ok (fun x hx r hr=>?_) fun x hx r hr _=>?_
   ·by_cases e:x=(b.links.getD i default).from_
    ·subst e;rw [aB]
    ·rw [ar _ _ e]
   ·by_cases e:x=(b.links.getD i default).from_
    ·subst e
     rw [aB,aB,fU h.ok hs hkl hr]
     unfold updR
     by_cases e2:r.id=((tabT b (b.links.getD i default).from_).rows.getD k default).id
     ·rw [if_pos e2,if_pos e2]
      have:r=(tabT b (b.links.getD i default).from_).rows.getD k default:=qG g.ok hr hmem e2
      subst this
      rw [gV h.ok hs hkl,oA hi c1 c2]
     ·rw [if_neg e2,if_neg e2]
    ·rw [ar _ _ e,ar _ _ e,ar _ _ e]
  rw [e1,bs]
  exact go
theorem qk {b:ac}{ks:List Ref}(hf:BIG≤fu)(h:av b):∀ (m n i:Nat),i+m=b.links.length→m<n→
     eZ fu b ks b.links n (i:Int) (baseW b (jd ks) (freeG b (inL ks) i)).tabs=some ((⟨(baseW b (jd ks) (freeG b (inL ks) b.links.length)).tabs,b.links⟩:ac),0):=by
 intro m
 have h4:=h.ok.nlink
 induction m with
 | zero=>
  intro n i hi hn
  obtain ⟨n,rfl⟩:∃ z,n=z+1:=⟨n-1,by omega⟩
  have:i=b.links.length:=by omega
  subst this
  rw [eZ,nlt];rfl
 | succ m ih=>
  intro n i hi hn
  obtain ⟨n,rfl⟩:∃ z,n=z+1:=⟨n-1,by omega⟩
  have hil:i<b.links.length:=by omega
  have hm:=cD hil
  have e:=ug (ks:=ks) hf h hil (tabT b (b.links.getD i default).from_).rows.length 0 (by omega)
  rw [List.drop_zero,tQ h.ok] at e
  rw [eZ,ltR hil,ct,ge0,b_,ct,tn,kf hf h.g (h.ok.link hm).1,e,bs,bb hil (by unfold BIG;omega)]
  exact ih n (i+1) (by omega) (by omega)
theorem xK {b:ac}{nm:List UInt8}{id:Int}(hf:BIG≤fu)(h:SmB b):vg fu b nm id=some (B (cx b nm id)):=by
 unfold vg kg
 rw [cM hf h.ntab,bs,eF]
 by_cases hk:tabN b nm<b.tabs.length
 case neg=>rw [B_f hk,B_f fun hh=>hk hh.1];rfl
 have hN:(tabT b nm).rows.length≤1000:=(h.tabs _ hk).nrow
 rw [B_t hk,aK hk,ct,ltR hk,b_,ct,tn,aV,ru hf hN,bs,px]
 congr 1
 exact ai ⟨fun hh=>⟨hk,hh⟩,fun hh=>hh.2⟩
theorem wU {b:ac}{nm:List UInt8}{id:Int}(h:ah b)(h1:cx b nm id):∀ {x:List UInt8} {n:Int},fi b nm id x n→cx b x n:=by
 intro x n hx
 cases hx with
 | self=>exact h1
 | next hl hr hw hv hg=>exact mh (h.link hl).1.src hr
theorem xX {b:ac}{nm:List UInt8}{id:Int}(hf:BIG≤fu)(h:SmB b):vw fu b nm id=some (kS b nm id):=by
 unfold vw kS
 rw [e8 hf h,bs]
 by_cases hk:ah b
 case neg=>rw [B_f hk,if_neg hk];rfl
 rw [B_t hk,if_pos hk]
 simp only [n_,cf]
 rw [bU hf h,bs,xK hf h,bs]
 unfold wJ
 by_cases h1:cx b nm id
 case neg=>rw [B_f h1,if_pos h1];rfl
 rw [B_t h1,if_neg (fun hh=>hh h1)]
 simp only [n_,cf]
 have hg:av b:=⟨hk,h⟩
 obtain ⟨ks,e,hs,hn⟩:=xI (nm:=nm) (id:=id) hf hg
 have hG:inL ks=fi b nm id:=by funext x n;exact propext (hs x n)
 rw [e,bs]
 have e1:=ql (q4:=b) (ks:=ks) hf hg b.links.length fu 0 false (by omega) (by have:=hk.nlink;unfold BIG at hf;omega)
 refine Eq.trans e1 ?_
 rw [Bool.false_or,ai stops_at.symm,hG]
 unfold ku
 by_cases h2:iP b (fi b nm id)
 ·rw [B_t h2,if_pos h2];rfl
 rw [B_f h2,if_neg h2,cf,y8 hf hg fun x n hx=>(wU hk h1 ((hs x n).1 hx)).1,bs]
 have e2:=qk (ks:=ks) hf hg b.links.length fu 0 (by omega) (by have:=hk.nlink;unfold BIG at hf;omega)
 rw [mi] at e2
 refine Eq.trans e2 ?_
 congr 2
 show baseW b (jd ks) (freeG b (inL ks) b.links.length)=offG b (fi b nm id)
 rw [← hG]
 refine baseW_rows hk (fun _ _ _ _=>Iff.rfl) fun x hx r hr hp=>?_
 unfold freeG
 rw [if_neg (show ¬ inL ks x r.id from hp),List.take_length]
theorem offBB_cases {b:ac}(h:ah b)(nm:List UInt8)(id:Int):(¬ cx b nm id∧kS b nm id=(b,5))∨(cx b nm id∧iP b (fi b nm id)∧kS b nm id=(b,6))∨(cx b nm id∧¬ iP b (fi b nm id)∧kS b nm id=(offG b (fi b nm id),0)):=by
 unfold kS wJ
 rw [if_pos h]
 by_cases h1:cx b nm id
 case neg=>rw [if_pos h1];exact .inl ⟨h1,rfl⟩
 rw [if_neg (fun hh=>hh h1)]
 by_cases h2:iP b (fi b nm id)
 ·rw [if_pos h2];exact .inr (.inl ⟨h1,h2,rfl⟩)
 ·rw [if_neg h2];exact .inr (.inr ⟨h1,h2,rfl⟩)
def cz (b:ac):Prop:=∀ x,x∈b.tabs.map (·.name)→x.length≤1
theorem cz.same {a b:ac}(h:cz b)(e:a.tabs.map (·.name)=b.tabs.map (·.name)):cz a:=fun x hx=>h x (e▸hx)
theorem kT:cz nilB:=fun _ h=>nomatch h
def GS (b:ac):Prop:=av b∧cz b
def SS (b:ac):Prop:=SmB b∧cz b
theorem pd {ts us:List Tab}{ls ms:List aj}(h:cz ⟨ts,ls⟩)(hu:∀ t,t∈us→t.name.length≤1):cz ⟨ts++us,ms⟩:=fun x hx=>by
 rw [show (⟨ts++us,ms⟩:ac).tabs=ts++us from rfl,List.map_append,List.mem_append] at hx
 rcases hx with hx|hx
 ·exact h x hx
 ·obtain ⟨t,ht,rfl⟩:=List.mem_map.1 hx
  exact hu t ht
theorem tj {b:ac}{x y:Tab}{ms:List aj}(h:cz b)(hx:x.name.length≤1)(hy:y.name.length≤1):cz ⟨b.tabs++[x,y],ms⟩:=pd (ls:=b.links) h fun t ht=>by
 simp only [List.mem_cons,List.not_mem_nil,or_false] at ht
 rcases ht with rfl|rfl
 ·exact hx
 ·exact hy
theorem setTab_short {b:ac}{k:Nat}{t:ab}(hk:k<b.tabs.length)(h:cz b):cz (aQ b k t):=h.same (bX hk)
theorem sv {b:ac}{k:Nat}{nm:List UInt8}(_:k<b.tabs.length)(h:cz b)(hn:nm.length≤1):cz ⟨b.tabs.set k { (b.tabs.getD k default) with name:=nm },b.links⟩:=fun x hx=>by
 obtain ⟨t,ht,rfl⟩:=List.mem_map.1 hx
 rcases List.mem_or_eq_of_mem_set ht with ht|rfl
 ·exact h _ (List.mem_map.2 ⟨t,ht,rfl⟩)
 ·exact hn
theorem js {b:ac}{k:Nat}{t:ab×Int}(hk:k<b.tabs.length)(h:cz b):cz (dp b k t).1:=by
 rcases writeB_cases b k t with ⟨e,-⟩|⟨-,e⟩<;>rw [e]
 ·exact h
 ·exact setTab_short hk h
theorem si {b:ac}{nm:List UInt8}{xs:List Set}(h:cz b):cz (wF b nm xs).1:=by
 unfold wF
 split
 case isTrue hk=>exact js hk h
 ·exact h
theorem sf {b:ac}{nm:List UInt8}{id:Int}{xs:List Set}(h:cz b):cz (ww b nm id xs).1:=by
 unfold ww
 split
 case isTrue hk=>exact js hk h
 ·exact h
theorem nT {b:ac}{nm:List UInt8}{c:aa}(h:cz b):cz (d9 b nm c).1:=by
 unfold d9
 split
 case isFalse=>exact h
 case isTrue hk=>
  split
  ·exact h
  split
  ·exact h
  split
  ·exact h
  ·exact setTab_short hk h
theorem sq {b:ac}{nm:List UInt8}{id:Int}(h:cz b):cz (wJ b nm id).1:=by
 unfold wJ
 split
 ·exact h
 split
 ·exact h
 ·exact h.same (gI ..)
theorem fy {b:ac}{l:aj}(h:cz b):cz (linkBB b l).1:=by
 by_cases hk:ah b
 ·rcases linkBB_cases hk l with ⟨e,-⟩|⟨-,-,-,-,e⟩<;>rw [e]<;>exact h
 ·rw [tZ hk];exact kT
theorem dc {b:ac}{nm:List UInt8}{s:List Col}(h:cz b)(hn:nm.length≤1):cz (tableBB b nm s).1:=by
 by_cases hk:ah b
 ·rcases tableBB_cases hk nm s with ⟨e,-⟩|⟨-,-,-,-,e⟩<;>rw [e]
  ·exact h
  ·exact pd (ls:=b.links) h fun t ht=>by
    rw [List.mem_singleton] at ht
    rw [ht];exact hn
 ·rw [sb hk];exact kT
theorem BK {r:Rd}{b:ac}{m:Nat}(hf:BIG≤fu)(h:cb r m)(hm:m≤500000)(hb:GS b):aJ (uW fu r b) GS (m+8060):=by
 obtain ⟨hb,hsh⟩:=hb
 unfold uW
 obtain ⟨x,hx,hx1,hx2⟩:=rG (n:=(List.length b.tabs:Int))
 rw [hx,bs]
 refine (d74 h (by omega)).bind fun k0 r1 hk0 hr1=>?_
 by_cases h0:b.tabs.length=0
 ·rw [dt (show (List.length b.tabs:Int)=0 by omega),ct]
  refine (Ax hf hr1 (by omega)).bind fun s r2 hs hr2=>?_
  rw [iJ hf hb.sm (by decide) hs.sm,bs]
  exact .pure ⟨cO hb,dc hsh (by decide)⟩ (hr2.mono (by omega))
 rw [df (show ¬ (List.length b.tabs:Int)=0 by omega),cf]
 have hxe:=hx2 (by omega)
 obtain ⟨k,rfl⟩:∃ k:Nat,k0=(k:Int):=⟨k0.toNat,by have:=hk0.1;omega⟩
 have hk:k<b.tabs.length:=by have:=hk0.2 hx1;omega
 have g:=hb.tab hk
 have hhi:=g.rt.okLast.hi
 have eT:((b.tabs.getD ((k:Int)).toNat default).table)=dm b k:=by rw [tn];rfl
 have eN:tabN b (b.tabs.getD ((k:Int)).toNat default).name=k:=by rw [tn];exact hb.ok.place k hk
 have hnm:(b.tabs.getD ((k:Int)).toNat default).name.length≤1000:=by rw [tn];exact hb.sm.names k hk
 simp only [inR hk,ct]
 obtain ⟨y,hy,-,-⟩:=rG (n:=IntKind.i64.wrap (((b.tabs.getD ((k:Int)).toNat default).table).next-1))
 rw [hy,bs]
 refine (d74 hr1 (by omega)).bind fun q9 r2 hq9 hr2=>?_
 have h3:∀ (b':ac) (r':Rd),GS b'→cb r' (m+8060)→aJ (dQ b' r') GS (m+8060):=fun b' r' hb' hr'=>.pure hb' hr'
 have h4:∀ (id:Int) (q14:Int×Rd) (bl:Bool),cb q14.2 (m+6)→aJ (ir fu b ((k:Int),r1) id q14 bl) GS (m+8060):=fun id q14 bl hr'=>by
  unfold ir
  simp only [inR hk,ct]
  cases bl with
  | true=>
   refine (x6 hf hr' (by omega) hb hk).bind fun xs r3 ⟨hx,_⟩ hr3=>?_
   rw [rL hf hb hx,bs]
   exact h3 _ _ ⟨og hb hx,sf hsh⟩ (hr3.mono (by omega))
  | false=>
   rw [cf]
   cases decide (q14.1=4) with
   | true=>
    rw [ct,eT,ew hf g.rt,bs]
    refine (d70 hf (by omega) g.rt.okLast.sm hr' (by omega)).bind fun c r3 hc hr3=>?_
    rw [rN hf hb hc,bs]
    exact h3 _ _ ⟨fL hb hc,nT hsh⟩ (hr3.mono (by omega))
   | false=>
    cases decide (q14.1=5) with
    | true=>
     refine (d96 hr' (by omega) (by decide)).bind fun nm r3 hnm hr3=>?_
     refine (Ax hf hr3 (by omega)).bind fun s r4 hs hr4=>?_
     rw [iJ hf hb.sm (sm_short (by rfl) nm hnm) hs.sm,bs]
     exact h3 _ _ ⟨cO hb,dc hsh (qE (by rfl) nm hnm)⟩ (hr4.mono (by omega))
    | false=>
     refine (x6 hf hr' (by omega) hb hk).bind fun xs r3 ⟨hx,_⟩ hr3=>?_
     rw [rK hf hb hx,bs]
     exact h3 _ _ ⟨om hb hx,si hsh⟩ (hr3.mono (by omega))
 have h2:∀ (id:Int) (r':Rd),cb r' (m+5)→aJ (iu fu b ((k:Int),r1) id r') GS (m+8060):=fun id r' hr'=>by
  unfold iu
  refine (d74 hr' (by omega)).bind fun q r3 hq hr3=>?_
  simp only [inR hk,ct]
  cases decide (q=0) with
  | true=>
   refine (zP hf hr3 (by omega) hb.g).bind fun l r4 _ hr4=>?_
   rw [kw hf hb.sm,bs]
   exact h3 _ _ ⟨eJ hb,fy hsh⟩ (hr4.mono (by omega))
  | false=>
   cases decide (q=1) with
   | true=>
    simp only [ct,cf]
    rw [rO hf hb,bs]
    exact h3 _ _ ⟨kR hb,sq hsh⟩ (hr3.mono (by omega))
   | false=>
    cases decide (q=2) with
    | true=>exact h4 id (q,r3) true hr3
    | false=>exact h4 id (q,r3) _ hr3
 simp only [eT]
 have h1:∀ (bl:Bool) (r':Rd),0 < (dm b k).rows.length∨bl=false→cb r' (m+4)→aJ (iv fu b ((k:Int),r1) (q9,r2) bl r') GS (m+8060):=fun bl r' hbl hr'=>by
  unfold iv
  cases bl with
  | false=>exact h2 _ _ (hr'.mono (by omega))
  | true=>
   have h0r:=hbl.resolve_right (by simp)
   simp only [ct,eT]
   refine (d74 hr' (by omega)).bind fun q r3 hq hr3=>?_
   have hi:=ue hq h0r
   simp only [hi.1,ct]
   exact h2 _ _ hr3
 by_cases h0r:0 < (dm b k).rows.length
 ·rw [dt (show (0:Int) < ((dm b k).rows.length:Int) by omega),ct]
  exact (d74 hr2 (by omega)).bind fun q r3 hq hr3=>h1 _ _ (.inl h0r) (hr3.mono (by omega))
 ·rw [df (show ¬ (0:Int) < ((dm b k).rows.length:Int) by omega),cf]
  exact h1 false _ (.inr rfl) (hr2.mono (by omega))
theorem AY (hf:BIG≤fu):∀ (j n m:Nat) (b:ac) (r:Rd),j<n→cb r m→m+8060*j≤400000→GS b→aJ (fZ fu n (j:Int) b r) GS (m+8060*j):=by
 intro j
 induction j with
 | zero=>
  intro n m b r hn hr hm hb
  obtain ⟨n,rfl⟩:∃ i,n=i+1:=⟨n-1,by omega⟩
  rw [fZ,show decide ((0:Int) < ((0:Nat):Int))=false from rfl,cf,bg hf hb.1.sm]
  exact .pure hb hr
 | succ j ih=>
  intro n m b r hn hr hm hb
  obtain ⟨n,rfl⟩:∃ i,n=i+1:=⟨n-1,by omega⟩
  rw [fZ,dt (show (0:Int) < ((j+1:Nat):Int) by omega),ct]
  refine (BK hf hr (by omega) hb).bind fun b' r' hb' hr'=>?_
  have e:IntKind.i64.wrap (((j+1:Nat):Int)-1)=(j:Int):=by rw [bu (by omega) (by omega)];omega
  simp only [e]
  exact (ih n (m+8060) b' r' (by omega) hr' (by omega) hb').mono (fun _ h=>h) (by omega)
theorem BL {r:Rd}{m:Nat}(hf:BIG≤fu)(h:cb r m)(hm:m≤100000):aJ (u6 fu r) GS (m+226000):=by
 unfold u6
 refine (x5 hf h (by omega)).bind fun s r1 ⟨hs,_⟩ hr1=>?_
 show aJ ((lY fu nilB _ _).bind _) _ _
 rw [iJ hf pD (by decide) hs,bs]
 have g1:GS (tableBB nilB ([116]:List UInt8) s).1:=⟨cO oq,dc kT (by decide)⟩
 generalize tableBB nilB ([116]:List UInt8) s=b1 at g1
 refine (x5 hf hr1 (by omega)).bind fun s2 r2 ⟨hs2,_⟩ hr2=>?_
 rw [iJ hf g1.1.sm (by decide) hs2,bs]
 have g2:GS (tableBB b1.1 ([117]:List UInt8) s2).1:=⟨cO g1.1,dc g1.2 (by decide)⟩
 generalize tableBB b1.1 ([117]:List UInt8) s2=b2 at g2
 refine (d96 hr2 (by omega) (by decide)).bind fun x r3 _ hr3=>?_
 refine (d74 hr3 (by omega)).bind fun q r4 _ hr4=>?_
 simp only
 rw [kw hf g2.1.sm,bs]
 have g3:GS (linkBB b2.1 (⟨([117]:List UInt8),([107]:List UInt8),x,IntKind.i64.wrap (1+q)⟩:aj)).1:=⟨eJ g2.1,fy g2.2⟩
 generalize linkBB b2.1 (⟨([117]:List UInt8),([107]:List UInt8),x,IntKind.i64.wrap (1+q)⟩:aj)=b3 at g3
 have h1:∀ (b:ac) (r':Rd),GS b→cb r' (m+66)→aJ (iy fu b r') GS (m+226000):=fun b r' hb hr'=>by
  unfold iy
  refine (d73 hr' (by omega) (by decide)).bind fun y r5 hy hr5=>?_
  have hx2:∃ j:Nat,y=(j:Int)∧j≤28:=by
   have:=List.all_eq_true.1 (show ([8,14,20,28,4,0]:List Int).all (fun n=>decide (0≤n)&&decide (n≤28))=true from rfl) y hy
   rw [Bool.and_eq_true,decide_eq_true_eq,decide_eq_true_eq] at this
   exact ⟨y.toNat,by omega,by omega⟩
  obtain ⟨j,rfl,hj⟩:=hx2
  exact (AY hf j fu (m+67) b r5 (by unfold BIG at hf;omega) hr5 (by omega) hb).mono (fun _ h=>h) (by omega)
 refine (d74 hr4 (by omega)).bind fun q2 r5 _ hr5=>?_
 simp only
 cases decide (q2=0) with
 | false=>exact h1 _ _ g3 (hr5.mono (by omega))
 | true=>
  refine (d96 hr5 (by omega) (by decide)).bind fun y r6 _ hr6=>?_
  refine (d74 hr6 (by omega)).bind fun q3 r7 _ hr7=>?_
  simp only
  rw [kw hf g3.1.sm,bs]
  exact h1 _ _ ⟨eJ g3.1,fy g3.2⟩ (hr7.mono (by omega))
theorem BM {r:Rd}{b:ac}{m:Nat}(hf:BIG≤fu)(h:cb r m)(hm:m≤400000)(hb:GS b):aJ (u7 fu r b) SS (m+200):=by
 obtain ⟨hb,hsh⟩:=hb
 have hs:=hb.sm
 have h3:=hb.ok.ntab
 have h4l:=hb.ok.nlink
 unfold u7 ke kd dh
 rw [bg hf hs,bs]
 refine (d74 h (by omega)).bind fun q r1 hq hr1=>?_
 have hend:aJ (some (b,r1)) SS (m+200):=.pure ⟨hs,hsh⟩ (hr1.mono (by omega))
 simp only
 cases decide (q=0) with
 | true=>
  rw [ct]
  by_cases h0:0<b.tabs.length
  case neg=>rw [df (show ¬ (0:Int) < (b.tabs.length:Int) by omega)];exact hend
  rw [dt (show (0:Int) < (b.tabs.length:Int) by omega),ct]
  refine (d74 hr1 (by omega)).bind fun k r2 hk hr2=>?_
  have hi:=ue hk h0
  simp only [hi.1,ct]
  have g0:=(hb.tab hi.2).bent
  refine (Cg hf hr2 (by omega) g0 (by omega)).bind fun t1 r3 g1 hr3=>?_
  refine (Cg hf hr3 (by omega) g1 (by omega)).bind fun t2 r4 g2 hr4=>?_
  refine (Cg hf hr4 (by omega) g2 (by omega)).bind fun t3 r5 g3 hr5=>?_
  refine (Cg hf hr5 (by omega) g3 (by omega)).bind fun t4 r6 g4 hr6=>?_
  exact .pure ⟨fv hs hi.2 g4.sm,setTab_short hi.2 hsh⟩ (hr6.mono (by omega))
 | false=>
 cases decide (q=1) with
 | true=>
  simp only [ct,cf]
  by_cases h0:0<b.tabs.length
  case neg=>rw [df (show ¬ (0:Int) < (b.tabs.length:Int) by omega)];exact hend
  rw [dt (show (0:Int) < (b.tabs.length:Int) by omega),ct]
  refine (d96 hr1 (by omega) (by decide)).bind fun x r2 hx hr2=>?_
  simp only [show decide ((0:Int)≤0)=true from rfl,b_,ct]
  exact .pure ⟨wt hs h0 (sm_short (by rfl) x hx),sv h0 hsh (qE (by rfl) x hx)⟩ (hr2.mono (by omega))
 | false=>
 cases decide (q=2) with
 | true=>
  simp only [ct,cf]
  refine (zP hf hr1 (by omega) hb.g).bind fun l r2 _ hr2=>?_
  simp only
  rw [cap (by rw [s_];omega),ct]
  exact .pure ⟨⟨hs.ntab,by show (b.links++[l]).length≤1000;rw [List.length_append,s_];omega,hs.names,hs.tabs⟩,hsh⟩ (hr2.mono (by omega))
 | false=>
 cases decide (q=3) with
 | true=>
  simp only [ct,cf]
  by_cases h0:0<b.links.length
  case neg=>rw [df (show ¬ (0:Int) < (b.links.length:Int) by omega)];exact hend
  rw [dt (show (0:Int) < (b.links.length:Int) by omega),ct]
  refine (d73 hr1 (by omega) (by decide)).bind fun x r2 hx hr2=>?_
  simp only [show decide ((0:Int)≤0)=true from rfl,b_,ct]
  exact .pure ⟨⟨hs.ntab,by show (List.set _ _ _).length≤1000;rw [List.length_set];exact hs.nlink,hs.names,hs.tabs⟩,hsh⟩ (hr2.mono (by omega))
 | false=>
 cases decide (q=4) with
 | true=>
  simp only [ct,cf]
  unfold kc dh
  by_cases h0:0<b.tabs.length
  case neg=>rw [df (show ¬ (0:Int) < (b.tabs.length:Int) by omega)];exact hend
  rw [dt (show (0:Int) < (b.tabs.length:Int) by omega)]
  simp only [show decide ((0:Int)≤0)=true from rfl,b_,ct,Int.toNat_zero]
  by_cases hr0:0 < (dm b 0).rows.length
  ·have e:decide ((0:Int) < (((b.tabs.getD 0 default).table.rows).length:Int))=true:=dt (show (0:Int) < (((dm b 0).rows).length:Int) by omega)
   rw [e]
   simp only [ct]
   have g:=hb.tab h0
   rw [CN]
   have e2:f41 fu (b.tabs.getD 0 default).table ((b.tabs.getD 0 default).table.rows.getD 0 default).id=some (sr (dm b 0) ((dm b 0).rows.getD 0 default).id):=yR hf g.sm.nrow
   rw [e2,bs]
   exact .pure ⟨fv hs h0 (AN g.sm),setTab_short h0 hsh⟩ (hr1.mono (by omega))
  ·have e:decide ((0:Int) < (((b.tabs.getD 0 default).table.rows).length:Int))=false:=df (show ¬ (0:Int) < (((dm b 0).rows).length:Int) by omega)
   rw [e];exact hend
 | false=>
 cases decide (q=5) with
 | false=>exact hend
 | true=>
  simp only [ct,cf]
  refine (Ax hf hr1 (by omega)).bind fun s r2 hs2 hr2=>?_
  simp only
  rw [nH hf hs2,bs]
  refine (Ax hf hr2 (by omega)).bind fun s2 r3 hs3 hr3=>?_
  simp only
  rw [nH hf hs3,bs,cap (by show b.tabs.length+2≤100000;omega),ct]
  exact .pure ⟨y5 hs (by omega) ⟨by show ([120]:List UInt8).length≤1000;decide,(gT hs2).sm⟩ ⟨by show ([121]:List UInt8).length≤1000;decide,(gT hs3).sm⟩,tj hsh (Nat.le_refl 1) (Nat.le_refl 1)⟩ (hr3.mono (by omega))
theorem BN {r:Rd}{m:Nat}(hf:BIG≤fu)(h:cb r m)(hm:m≤1000):aJ (vk fu r) SS (m+226200):=by
 unfold vk
 refine (BL hf h (by omega)).bind fun b r1 hb hr1=>?_
 exact (BM hf hr1 (by omega) hb).bind fun b' r2 hb' hr2=>.pure hb' (hr2.mono (by omega))
end Go.Proofs.YtganfdhmkdehlaaGreatDoor
