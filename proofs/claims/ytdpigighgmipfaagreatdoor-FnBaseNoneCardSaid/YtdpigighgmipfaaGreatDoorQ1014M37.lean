/- A row taken away with those that go with it: the program does as the model (the set of those that go). -/
import Derived.Test.YtdpigighgmipfaaGreatDoorQ1014M32
import Derived.Test.YtdpigighgmipfaaGreatDoorQ1014B11
set_option linter.all false
namespace Go.Proofs.YtdpigighgmipfaaGreatDoor
open Go Go.HL
variable {fu:Nat}
theorem memK_B {q:Ref}{ks:List Ref}:memK q ks=B (inL ks q.name q.id):=by
 unfold memK
 rw [Bool.eq_iff_iff,B_iff,decide_eq_true_iff,inL_iff]
theorem addK_is {q:Ref}{ks:List Ref}:addK q ks=if q∈ks then ks else ks++[q]:=by
 unfold addK memK
 by_cases h:q∈ks<;>simp [h]
theorem f1143_is {x0 x1:Int}{l:Link}{ks:List Ref}:f1143 x0 x1 l ks=some (@ite _ (l.how=2∧inL ks l.to x1∧¬ inL ks l.from_ x0) (Classical.propDecidable _) (ks++[(⟨l.from_,x0⟩:Ref)]) ks):=by
 unfold f1143 f1143_j1
 rw [memK_B]
 by_cases h1:l.how=2
 case neg=>rw [df h1,if_neg fun hh=>h1 hh.1];rfl
 rw [dt h1,ct]
 by_cases h2:inL ks l.to x1
 case neg=>rw [B_f h2,if_neg fun hh=>h2 hh.2.1];rfl
 rw [B_t h2,ct,addK_is]
 by_cases h3:inL ks l.from_ x0
 ·rw [if_pos (inL_iff.1 h3),if_neg fun hh=>hh.2.2 h3]
 ·rw [if_neg fun hh=>h3 (inL_iff.2 hh),if_pos ⟨h1,h2,h3⟩]
structure Pass (b:Base) (nm:List UInt8) (id:Int) (C:Link→Row→Prop) (s s':List Ref):Prop where
 grows:Grows b nm id s'
 less:lack b s'≤lack b s
 same:s'.length=s.length→s' = s
 loud:s'≠s→lack b s'<lack b s∧s.length<s'.length
 quiet:s' = s→∀ l r,C l r→l.how=2→Names b (inL s) l r→inL s l.from_ r.id
theorem Pass.refl {b:Base}{nm:List UInt8}{id:Int}{s:List Ref}(h:Grows b nm id s):Pass b nm id (fun _ _=>False) s s:=⟨h,Nat.le_refl _,fun _=>rfl,fun hh=>absurd rfl hh,fun _ _ _ h=>h.elim⟩
theorem Pass.trans {b:Base}{nm:List UInt8}{id:Int}{C D:Link→Row→Prop}{s s' s'':List Ref}(h:Pass b nm id C s s')(g:Pass b nm id D s' s''):Pass b nm id (fun l r=>C l r∨D l r) s s'':=by
 have hl:s.length≤s'.length:=by
  by_cases e:s' = s
  ·rw [e];exact Nat.le_refl _
  ·exact Nat.le_of_lt (h.loud e).2
 have gl:s'.length≤s''.length:=by
  by_cases e:s'' = s'
  ·rw [e];exact Nat.le_refl _
  ·exact Nat.le_of_lt (g.loud e).2
 refine ⟨g.grows,Nat.le_trans g.less h.less,fun e=>?_,fun e=>?_,fun e=>?_⟩
 ·rw [g.same (by omega),h.same (by omega)]
 ·by_cases e1:s' = s
  ·subst e1;exact g.loud e
  ·have h1:=h.loud e1
   exact ⟨Nat.lt_of_le_of_lt g.less h1.1,by omega⟩
 ·subst e
  have e1:s' = s'':=h.same (by omega)
  subst e1
  exact fun l r hc=>hc.elim (h.quiet rfl l r) (g.quiet rfl l r)
theorem Pass.sub {b:Base}{nm:List UInt8}{id:Int}{C D:Link→Row→Prop}{s s':List Ref}(h:Pass b nm id C s s')(hs:∀ l r,D l r→C l r):Pass b nm id D s s':=
 ⟨h.grows,h.less,h.same,h.loud,fun e l r hd=>h.quiet e l r (hs l r hd)⟩
theorem pass_rows {b:Base}{nm:List UInt8}{id:Int}(h:GoodB b){l:Link}(hl:l∈b.links):∀ (rows:List Row) (s:List Ref),(∀ r,r∈rows→r∈(tabT b l.from_).rows)→Grows b nm id s→
     ∃ s',namingM b l (fun x0 x1 s=>f1143 x0 x1 l s) rows s=some s'∧Pass b nm id (fun l' r=>l' = l∧r∈rows) s s':=by
 intro rows
 induction rows with
 | nil=>exact fun s _ hg=>⟨s,rfl,(Pass.refl hg).sub fun l' r hh=>by cases hh.2⟩
 | cons r rs ih=>
  intro s hr hg
  have hrm:=hr r List.mem_cons_self
  have hrs:∀ q,q∈rs→q∈(tabT b l.from_).rows:=fun q hq=>hr q (List.mem_cons_of_mem _ hq)
  rw [namingM]
  by_cases hv:(colV b l r).kind=0
  ·rw [if_pos hv]
   obtain ⟨s',e,hp⟩:=ih s hrs hg
   refine ⟨s',e,⟨hp.grows,hp.less,hp.same,hp.loud,fun e2 l' q hc hw hn=>?_⟩⟩
   rcases List.mem_cons.1 hc.2 with e3|hq
   ·rw [hc.1,e3] at hn
    exact absurd hv hn.1
   ·exact hp.quiet e2 l' q ⟨hc.1,hq⟩ hw hn
  rw [if_neg hv,f1143_is,bs]
  by_cases hh:l.how=2∧inL s l.to (colV b l r).n∧¬ inL s l.from_ r.id
  ·rw [if_pos hh]
   have hx:(⟨l.from_,r.id⟩:Ref)∈refsB b:=by
    have h1:=(h.ok.link hl).1.src
    have h2:=refs_mem (getD_mem (d:=(default:Tab)) h1) (r:=r) hrm
    rwa [tabN_name h1] at h2
   have hnot:(⟨l.from_,r.id⟩:Ref)∉s:=fun hm=>hh.2.2 (inL_iff.2 hm)
   have hlk:=lack_snoc hx hnot
   have hg1:Grows b nm id (s++[(⟨l.from_,r.id⟩:Ref)]):=⟨fun x n hxn=>by
    rcases inL_snoc.1 hxn with h1|⟨h1,h2⟩
    ·exact hg.sound x n h1
    ·subst h1 h2
     exact .next hl hrm hh.1 hv (hg.sound _ _ hh.2.1),inL_snoc.2 (.inl hg.self),by
    have:=hg.len
    rw [List.length_append,List.length_singleton];omega⟩
   obtain ⟨s',e,hp⟩:=ih _ hrs hg1
   have hlen:s.length<s'.length:=by
    by_cases e2:s' = s++[(⟨l.from_,r.id⟩:Ref)]
    ·rw [e2,List.length_append,List.length_singleton];omega
    ·have:=(hp.loud e2).2
     rw [List.length_append,List.length_singleton] at this
     omega
   refine ⟨s',e,⟨hp.grows,Nat.le_of_lt (Nat.lt_of_le_of_lt hp.less hlk),fun e2=>by omega,fun _=>⟨Nat.lt_of_le_of_lt hp.less hlk,hlen⟩,fun e2=>by rw [e2] at hlen;omega⟩⟩
  ·rw [if_neg hh]
   obtain ⟨s',e,hp⟩:=ih s hrs hg
   refine ⟨s',e,⟨hp.grows,hp.less,hp.same,hp.loud,fun e2 l' q hc hw hn=>?_⟩⟩
   rcases List.mem_cons.1 hc.2 with e3|hq
   ·rw [hc.1,e3] at hn ⊢
    rw [hc.1] at hw
    by_cases h3:inL s l.from_ r.id
    ·exact h3
    ·exact absurd ⟨hw,hn.2,h3⟩ hh
   ·exact hp.quiet e2 l' q ⟨hc.1,hq⟩ hw hn
theorem f1085_l2_is {b:Base}{nm:List UInt8}{id n0:Int}{rec1:Int→List Ref→Option (List Ref)}(hf:BIG≤fu)(h:GoodB b):∀ (m n i:Nat) (s:List Ref),i+m=b.links.length→m<n→Grows b nm id s→
     ∃ s',f1085_l2 fu b n0 rec1 n (i:Int) s=rec1 n0 s'∧Pass b nm id (fun l r=>(∃ j,i≤j∧j<b.links.length∧b.links.getD j default=l)∧r∈(tabT b l.from_).rows) s s':=by
 intro m
 have h4:=h.ok.nlink
 induction m with
 | zero=>
  intro n i s hi hn hg
  obtain ⟨n,rfl⟩:∃ z,n=z+1:=⟨n-1,by omega⟩
  have:i=b.links.length:=by omega
  subst this
  refine ⟨s,by rw [f1085_l2,nlt];rfl,(Pass.refl hg).sub fun l r hh=>?_⟩
  obtain ⟨⟨j,h1,h2,_⟩,_⟩:=hh
  omega
 | succ m ih=>
  intro n i s hi hn hg
  obtain ⟨n,rfl⟩:∃ z,n=z+1:=⟨n-1,by omega⟩
  have hil:i<b.links.length:=by omega
  have hm:=getD_mem_links hil
  obtain ⟨s1,e1,p1⟩:=pass_rows h hm (tabT b (b.links.getD i default).from_).rows s (fun _ hr=>hr) hg
  obtain ⟨s',e2,p2⟩:=ih n (i+1) s1 (by omega) (by omega) p1.grows
  refine ⟨s',?_,(p1.trans p2).sub fun l r hh=>?_⟩
  ·rw [f1085_l2,ltR hil,ct,ge0,Bool.and_self,ct,tn,f1086_is hf h.g (h.ok.link hm).1,e1,bs,succI hil (by unfold BIG;omega)]
   exact e2
  ·obtain ⟨⟨j,h1,h2,h3⟩,hr⟩:=hh
   by_cases e:j=i
   ·subst e;subst h3
    exact .inl ⟨rfl,hr⟩
   ·exact .inr ⟨⟨j,by omega,h2,h3⟩,hr⟩
def Shut (b:Base)(s:List Ref):Prop:=∀ l r,l∈b.links→r∈(tabT b l.from_).rows→l.how=2→Names b (inL s) l r→inL s l.from_ r.id
theorem f1085_l1_is {b:Base}{nm:List UInt8}{id:Int}(hf:BIG≤fu)(h:GoodB b):∀ (m n:Nat) (i1:Int) (s:List Ref),lack b s≤m→m+2<n→Grows b nm id s→(i1=(s.length:Int)→Shut b s)→
     ∃ ks,f1085_l1 fu b n i1 s=some ks∧Grows b nm id ks∧Shut b ks:=by
 intro m
 induction m with
 | zero=>
  intro n i1 s hm hn hg hc
  obtain ⟨n,rfl⟩:∃ z,n=z+2:=⟨n-2,by omega⟩
  by_cases e:i1=(s.length:Int)
  ·exact ⟨s,by rw [f1085_l1,dt e];rfl,hg,hc e⟩
  obtain ⟨s',e1,p⟩:=f1085_l2_is (n0:=(s.length:Int)) (rec1:=f1085_l1 fu b (n+1)) hf h b.links.length fu 0 s (by omega) (by have:=h.ok.nlink;unfold BIG at hf;omega) hg
  by_cases es:s' = s
  ·subst es
   refine ⟨s',?_,hg,fun l r hl hr=>p.quiet rfl l r ⟨?_,hr⟩⟩
   ·rw [f1085_l1,df e]
    refine Eq.trans e1 ?_
    rw [f1085_l1,dt rfl];rfl
   ·obtain ⟨j,hj,rfl⟩:=List.getElem_of_mem hl
    exact ⟨j,Nat.zero_le _,hj,getD_lt hj⟩
  ·have:=(p.loud es).1
   omega
 | succ m ih=>
  intro n i1 s hm hn hg hc
  obtain ⟨n,rfl⟩:∃ z,n=z+2:=⟨n-2,by omega⟩
  by_cases e:i1=(s.length:Int)
  ·exact ⟨s,by rw [f1085_l1,dt e];rfl,hg,hc e⟩
  obtain ⟨s',e1,p⟩:=f1085_l2_is (n0:=(s.length:Int)) (rec1:=f1085_l1 fu b (n+1)) hf h b.links.length fu 0 s (by omega) (by have:=h.ok.nlink;unfold BIG at hf;omega) hg
  by_cases es:s' = s
  ·subst es
   refine ⟨s',?_,hg,fun l r hl hr=>p.quiet rfl l r ⟨?_,hr⟩⟩
   ·rw [f1085_l1,df e]
    refine Eq.trans e1 ?_
    rw [f1085_l1,dt rfl];rfl
   ·obtain ⟨j,hj,rfl⟩:=List.getElem_of_mem hl
    exact ⟨j,Nat.zero_le _,hj,getD_lt hj⟩
  ·have h2:=p.loud es
   obtain ⟨ks,e3,hk⟩:=ih (n+1) (s.length:Int) s' (by omega) (by omega) p.grows fun e4=>by omega
   refine ⟨ks,?_,hk⟩
   rw [f1085_l1,df e]
   exact e1.trans e3
theorem shut_all {b:Base}{nm:List UInt8}{id:Int}{s:List Ref}(hg:Grows b nm id s)(hc:Shut b s):∀ x n,Gone b nm id x n→inL s x n:=by
 intro x n hx
 induction hx with
 | self=>exact hg.self
 | @next lk r hl hr hw hv _ ih=>exact hc lk r hl hr hw ⟨hv,ih⟩
theorem f1085_is {b:Base}{nm:List UInt8}{id:Int}(hf:BIG≤fu)(h:GoodB b):∃ ks,f1085 fu b nm id=some ks∧(∀ x n,inL ks x n↔Gone b nm id x n)∧ks.length≤25:=by
 have hl:=lack_le h.ok [(⟨nm,id⟩:Ref)]
 have h0:Grows b nm id [(⟨nm,id⟩:Ref)]:=⟨fun x n hx=>by
  have:=inL_iff.1 hx
  rw [List.mem_singleton] at this
  cases this
  exact .self,⟨_,List.mem_singleton.2 rfl,rfl,rfl⟩,by rw [List.length_singleton];omega⟩
 obtain ⟨ks,e,hg,hc⟩:=f1085_l1_is (nm:=nm) (id:=id) hf h 24 fu 0 [(⟨nm,id⟩:Ref)] hl (by unfold BIG at hf;omega) h0 fun hh=>by simp at hh
 exact ⟨ks,e,fun x n=>⟨hg.sound x n,shut_all hg hc x n⟩,by have:=hg.len;omega⟩
end Go.Proofs.YtdpigighgmipfaaGreatDoor
/- A row taken away with those that go with it: the program does as the model. -/
namespace Go.Proofs.YtdpigighgmipfaaGreatDoor
open Go Go.HL
variable {fu:Nat}
theorem f1087_is {x0 x1:Int}{l:Link}{ks:List Ref}{s:Bool}:f1087 x0 x1 l ks s=some (s || B (l.how=1∧inL ks l.to x1∧¬ inL ks l.from_ x0)):=by
 unfold f1087
 rw [memK_B,memK_B]
 cases s
 case true=>rfl
 by_cases h1:l.how=1
 case neg=>rw [df h1,show B (l.how=1∧inL ks l.to x1∧¬ inL ks l.from_ x0)=false from B_f fun hh=>h1 hh.1];rfl
 rw [dt h1]
 by_cases h2:inL ks l.to x1
 case neg=>rw [B_f h2,show B (l.how=1∧inL ks l.to x1∧¬ inL ks l.from_ x0)=false from B_f fun hh=>h2 hh.2.1];rfl
 rw [B_t h2]
 by_cases h3:inL ks l.from_ x0
 ·rw [B_t h3,show B (l.how=1∧inL ks l.to x1∧¬ inL ks l.from_ x0)=false from B_f fun hh=>hh.2.2 h3];rfl
 ·rw [B_f h3,B_t ⟨h1,h2,h3⟩];rfl
theorem stop_rows {b:Base}{l:Link}{ks:List Ref}:∀ (rows:List Row) (s:Bool),namingM b l (fun x0 x1 s=>f1087 x0 x1 l ks s) rows s=some (s || B (l.how=1∧∃ r,r∈rows∧¬ inL ks l.from_ r.id∧Names b (inL ks) l r)):=by
 intro rows
 induction rows with
 | nil=>intro s;rw [namingM,B_f fun hh=>by obtain ⟨_,r,hr,_⟩:=hh;cases hr];cases s<;>rfl
 | cons r rs ih=>
  intro s
  rw [namingM]
  by_cases hv:(colV b l r).kind=0
  ·rw [if_pos hv,ih]
   congr 2
   refine B_congr (and_congr_right fun _=>⟨fun ⟨q,hq,hh⟩=>⟨q,List.mem_cons_of_mem _ hq,hh⟩,fun ⟨q,hq,hh⟩=>?_⟩)
   rcases List.mem_cons.1 hq with e|hq
   ·rw [e] at hh
    exact absurd hv hh.2.1
   ·exact ⟨q,hq,hh⟩
  rw [if_neg hv,f1087_is,bs,ih,Bool.or_assoc]
  congr 2
  rw [Bool.eq_iff_iff,Bool.or_eq_true,B_iff,B_iff,B_iff]
  constructor
  ·rintro (⟨h1,h2,h3⟩ | ⟨h1,q,hq,hh⟩)
   ·exact ⟨h1,r,List.mem_cons_self,h3,hv,h2⟩
   ·exact ⟨h1,q,List.mem_cons_of_mem _ hq,hh⟩
  ·rintro ⟨h1,q,hq,hh⟩
   rcases List.mem_cons.1 hq with e|hq
   ·rw [e] at hh
    exact .inl ⟨h1,hh.2.2,hh.1⟩
   ·exact .inr ⟨h1,q,hq,hh⟩
def StopAt (b:Base)(G:Dooms)(i:Nat):Prop:=(b.links.getD i default).how=1∧∃ r,r∈(tabT b (b.links.getD i default).from_).rows∧¬ G (b.links.getD i default).from_ r.id∧Names b G (b.links.getD i default) r
theorem stops_at {b:Base}{G:Dooms}:Stops b G↔∃ j,0≤j∧j<b.links.length∧StopAt b G j:=by
 constructor
 ·rintro ⟨l,hl,hw,hh⟩
  obtain ⟨i,hi,rfl⟩:=List.getElem_of_mem hl
  exact ⟨i,Nat.zero_le _,hi,by unfold StopAt;rw [getD_lt hi];exact ⟨hw,hh⟩⟩
 ·rintro ⟨i,_,hi,hw,hh⟩
  exact ⟨_,getD_mem hi,hw,hh⟩
theorem f1028_l1_is {b q4:Base}{ks:List Ref}(hf:BIG≤fu)(h:GoodB b):∀ (m n i:Nat) (s:Bool),i+m=b.links.length→m<n→
     f1028_l1 fu b q4 ks n (i:Int) s=f1028_j1 fu b q4 ks (s || B (∃ j,i≤j∧j<b.links.length∧StopAt b (inL ks) j)):=by
 intro m
 have h4:=h.ok.nlink
 induction m with
 | zero=>
  intro n i s hi hn
  obtain ⟨n,rfl⟩:∃ z,n=z+1:=⟨n-1,by omega⟩
  have:i=b.links.length:=by omega
  subst this
  rw [f1028_l1,nlt,B_f fun hh=>by obtain ⟨j,h1,h2,_⟩:=hh;omega,Bool.or_false];rfl
 | succ m ih=>
  intro n i s hi hn
  obtain ⟨n,rfl⟩:∃ z,n=z+1:=⟨n-1,by omega⟩
  have hil:i<b.links.length:=by omega
  have hm:=getD_mem_links hil
  rw [f1028_l1,ltR hil,ct,ge0,Bool.and_self,ct,tn,f1086_is hf h.g (h.ok.link hm).1,stop_rows,bs,succI hil (by unfold BIG;omega),ih n (i+1) _ (by omega) (by omega),Bool.or_assoc]
  congr 2
  rw [Bool.eq_iff_iff,Bool.or_eq_true,B_iff,B_iff,B_iff]
  constructor
  ·rintro (h1 | ⟨j,h1,h2,h3⟩)
   ·exact ⟨i,Nat.le_refl _,hil,h1⟩
   ·exact ⟨j,by omega,h2,h3⟩
  ·rintro ⟨j,h1,h2,h3⟩
   by_cases e:j=i
   ·subst e;exact .inl h3
   ·exact .inr ⟨j,by omega,h2,h3⟩
theorem fT_at {b:Base}{p:List UInt8→Row→Prop}{ψ:List UInt8→Row→Row}{nm:List UInt8}(hf:BIG≤fu)(h:GoodB b)(hk:tabN b nm<b.tabs.length):f1056 fu (⟨(baseW b p ψ).tabs,b.links⟩:Base) nm=some (tabN b nm:Int):=by
 rw [f1056_is hf (by show (baseW b p ψ).tabs.length≤1000;rw [baseW_len];exact h.sm.ntab)]
 congr 1
 have e1:tabN (⟨(baseW b p ψ).tabs,b.links⟩:Base) nm=tabN b nm:=baseW_tabN b p ψ _
 rw [tabI_lt (by rw [e1];show _ < (baseW b p ψ).tabs.length;rw [baseW_len];exact hk),e1]
theorem off_fold {b:Base}{ψ:List UInt8→Row→Row}{list:List Ref}(hf:BIG≤fu)(h:GoodB b)(hw:BaseWay b ψ)(hr:∀ j,j<list.length→tabN b (list.getD j default).name<b.tabs.length) :
     ∀ (m j:Nat),j+m=list.length→foldK (offStep fu b.links) (list.drop j) (baseW b (stayP list j) ψ).tabs=some (baseW b (stayP list list.length) ψ).tabs:=by
 intro m
 induction m with
 | zero=>
  intro j hj
  have:j=list.length:=by omega
  subst this
  rw [List.drop_length,foldK]
 | succ m ih=>
  intro j hj
  have hjl:j<list.length:=by omega
  have hs:=hr j hjl
  have go:=ih (j+1) (by omega)
  have gt:SmT (tabW (tabT b (list.getD j default).name) (stayP list j (list.getD j default).name) (ψ (list.getD j default).name)):=tabW_sm (h.tabT hs).sm (way_sm (h.tabT hs).ok (h.tabT hs).sm (hw.at_ hs))
  rw [dropN (d:=default) hjl,foldK]
  have e:offStep fu b.links (list.getD j default) (baseW b (stayP list j) ψ).tabs=some (baseW b (stayP list (j+1)) ψ).tabs:=by
   unfold offStep
   rw [fT_at hf h hs,bs,baseW_len,inR hs,ct,tn,baseW_at hs,f40_is hf gt,bs]
   show some (setTab (baseW b (stayP list j) ψ) (tabN b (list.getD j default).name) (offT (tabW (tabT b (list.getD j default).name) (stayP list j (list.getD j default).name) (ψ (list.getD j default).name)) (list.getD j default).id).1).tabs=_
   rw [off_step h hw hjl hs]
  rw [e,bs]
  exact go
def keepP (ks:List Ref)(nm:List UInt8)(r:Row):Prop:=¬ inL ks nm r.id
theorem inL_perm {p ks:List Ref}(hp:p.Perm ks){nm:List UInt8}{id:Int}:inL p nm id↔inL ks nm id:=by rw [inL_iff,inL_iff];exact hp.mem_iff
theorem off_any {b:Base}{ks:List Ref}(hf:BIG≤fu)(h:GoodB b)(hr:∀ x n,inL ks x n→tabN b x<b.tabs.length):anyM (offStep fu b.links) ks b.tabs=some (baseW b (keepP ks) (fun _ r=>r)).tabs:=by
 refine anyM_of fun p hp=>?_
 have hr':∀ j,j<p.length→tabN b (p.getD j default).name<b.tabs.length:=fun j hj=>hr _ (p.getD j default).id ((inL_perm hp).1 ⟨_,getD_mem hj,rfl,rfl⟩)
 have:=off_fold (list:=p) hf h (BaseWay.same h.ok) hr' p.length 0 (by omega)
 rw [List.drop_zero,stay_zero] at this
 have e:baseW b allP (fun _ r=>r)=b:=baseW_all
 rw [e] at this
 rw [this]
 congr 2
 refine baseW_rows h.ok (fun x hx r hr=>?_) fun _ _ _ _ _=>rfl
 unfold stayP keepP
 rw [List.take_length]
 exact not_congr (inL_perm hp)
theorem f1089_is {x0 x1:Int}{l:Link}{ks:List Ref}{links:List Link}{T:List Tab}:f1089 fu x0 x1 l ks links T=@ite _ (l.how=3∧inL ks l.to x1∧¬ inL ks l.from_ x0) (Classical.propDecidable _) (f1089_j1 fu x0 l links T true) (some T):=by
 unfold f1089
 rw [memK_B,memK_B]
 have e:f1089_j1 fu x0 l links T false=some T:=rfl
 by_cases h1:l.how=3
 case neg=>rw [df h1,if_neg fun hh=>h1 hh.1];exact e
 rw [dt h1,ct]
 by_cases h2:inL ks l.to x1
 case neg=>rw [B_f h2,if_neg fun hh=>h2 hh.2.1];exact e
 rw [B_t h2,ct]
 by_cases h3:inL ks l.from_ x0
 ·rw [B_t h3,if_neg fun hh=>hh.2.2 h3];exact e
 ·rw [B_f h3,if_pos ⟨h1,h2,h3⟩];rfl
noncomputable def midP (b:Base) (ks:List Ref) (i:Nat) (nm:List UInt8) (k:Nat):Base:=baseW b (keepP ks) (updN (freeG b (inL ks) i) nm (freeK b (inL ks) i nm k))
theorem midP_zero {b:Base}{ks:List Ref}{i:Nat}{nm:List UInt8}(h:BaseOK b):midP b ks i nm 0=baseW b (keepP ks) (freeG b (inL ks) i):=by
 refine baseW_rows h (fun _ _ _ _=>Iff.rfl) fun x hx r hr _=>?_
 by_cases e:x=nm
 ·subst e
  rw [updN_self]
  exact if_neg fun ⟨j,h1,_⟩=>absurd h1 (Nat.not_lt_zero _)
 ·rw [updN_other _ _ e]
theorem midP_all {b:Base}{ks:List Ref}{i:Nat}(h:BaseOK b)(hi:i<b.links.length):midP b ks i (b.links.getD i default).from_ (tabT b (b.links.getD i default).from_).rows.length=baseW b (keepP ks) (freeG b (inL ks) (i+1)):=by
 refine baseW_rows h (fun _ _ _ _=>Iff.rfl) fun x hx r hr _=>?_
 by_cases e:x=(b.links.getD i default).from_
 ·subst e
  rw [updN_self]
  obtain ⟨j,hj,rfl⟩:=List.getElem_of_mem hr
  exact if_pos ⟨j,hj,hj,by rw [getD_lt hj]⟩
 ·rw [updN_other _ _ e]
  exact (freeG_same hi (.inr fun hh=>e hh.1.symm)).symm
theorem free_rows {b:Base}{ks:List Ref}(hf:BIG≤fu)(h:GoodB b){i:Nat}(hi:i<b.links.length):∀ (m k:Nat),k+m=(tabT b (b.links.getD i default).from_).rows.length→
     namingM b (b.links.getD i default) (fun x0 x1 s=>f1089 fu x0 x1 (b.links.getD i default) ks b.links s) ((tabT b (b.links.getD i default).from_).rows.drop k) (midP b ks i (b.links.getD i default).from_ k).tabs=some (baseW b (keepP ks) (freeG b (inL ks) (i+1))).tabs:=by
 have hfit:=(h.ok.links i hi).fits
 have hs:=hfit.src
 have g:=h.tabT hs
 intro m
 induction m with
 | zero=>
  intro k hk
  have:k=(tabT b (b.links.getD i default).from_).rows.length:=by omega
  subst this
  rw [List.drop_length,namingM,midP_all h.ok hi]
 | succ m ih=>
  intro k hk
  have hkl:k < (tabT b (b.links.getD i default).from_).rows.length:=by omega
  have hmem:(tabT b (b.links.getD i default).from_).rows.getD k default∈(tabT b (b.links.getD i default).from_).rows:=getD_mem hkl
  have go:=ih (k+1) (by omega)
  have hway:=freeK_way (G:=inL ks) (i:=i) (k:=k) h.ok hs
  have quiet:(inL ks (b.links.getD i default).from_ ((tabT b (b.links.getD i default).from_).rows.getD k default).id∨¬ Hit b (inL ks) (b.links.getD i default).from_ (b.links.getD i default) ((tabT b (b.links.getD i default).from_).rows.getD k default))→midP b ks i (b.links.getD i default).from_ k=midP b ks i (b.links.getD i default).from_ (k+1):=fun hq=>by
   refine baseW_rows h.ok (fun _ _ _ _=>Iff.rfl) fun x hx r hr _=>?_
   by_cases e:x=(b.links.getD i default).from_
   ·subst e
    rw [updN_self,updN_self,freeK_next h.ok hs hkl hr]
    split
    ·rename_i e2
     have:r=(tabT b (b.links.getD i default).from_).rows.getD k default:=row_eq g.ok hr hmem e2
     subst this
     rw [freeK_at h.ok hs hkl,freeG_same hi hq]
    ·rfl
   ·rw [updN_other _ _ e,updN_other _ _ e]
  rw [dropN (d:=default) hkl,namingM]
  by_cases hv:(colV b (b.links.getD i default) ((tabT b (b.links.getD i default).from_).rows.getD k default)).kind=0
  ·rw [if_pos hv,quiet (.inr fun hh=>hh.2.2.1 hv)]
   exact go
  rw [if_neg hv,f1089_is]
  by_cases hh:(b.links.getD i default).how=3∧inL ks (b.links.getD i default).to (colV b (b.links.getD i default) ((tabT b (b.links.getD i default).from_).rows.getD k default)).n∧¬ inL ks (b.links.getD i default).from_ ((tabT b (b.links.getD i default).from_).rows.getD k default).id
  case neg=>
   rw [if_neg hh,bs,quiet ?_]
   ·exact go
   ·by_cases h3:inL ks (b.links.getD i default).from_ ((tabT b (b.links.getD i default).from_).rows.getD k default).id
    ·exact .inl h3
    ·exact .inr fun h4=>hh ⟨h4.2.1,h4.2.2.2,h3⟩
  have c1:=hh.2.2
  have c2:Hit b (inL ks) (b.links.getD i default).from_ (b.links.getD i default) ((tabT b (b.links.getD i default).from_).rows.getD k default):=⟨rfl,hh.1,hv,hh.2.1⟩
  rw [if_pos hh]
  have hmt:Good (tabW (tabT b (b.links.getD i default).from_) (keepP ks (b.links.getD i default).from_) (freeK b (inL ks) i (b.links.getD i default).from_ k)):=⟨tabW_ok g.ok hway,tabW_sm g.sm (way_sm g.ok g.sm hway)⟩
  have hset:=setT_tabW (p:=keepP ks (b.links.getD i default).from_) g.ok hway (id:=((tabT b (b.links.getD i default).from_).rows.getD k default).id) (col:=(b.links.getD i default).col) hfit.col (hfit.need hh.1) ⟨_,hmem,c1,rfl⟩
  have hsx:SmX [(⟨(b.links.getD i default).col,nul⟩:Set)]:=⟨by simp,fun x hx=>by rw [List.mem_singleton.1 hx];exact nul_ok.sm⟩
  have e0:((midP b ks i (b.links.getD i default).from_ k).tabs.getD (tabN b (b.links.getD i default).from_) default).table=tabW (tabT b (b.links.getD i default).from_) (keepP ks (b.links.getD i default).from_) (freeK b (inL ks) i (b.links.getD i default).from_ k):=by
   unfold midP
   rw [baseW_at hs,updN_self]
  have e1:f1089_j1 fu ((tabT b (b.links.getD i default).from_).rows.getD k default).id (b.links.getD i default) b.links (midP b ks i (b.links.getD i default).from_ k).tabs true=some (midP b ks i (b.links.getD i default).from_ (k+1)).tabs:=by
   have e2:(midP b ks i (b.links.getD i default).from_ k).tabs.length=b.tabs.length:=baseW_len ..
   unfold f1089_j1
   rw [ct,show f1056 fu (⟨(midP b ks i (b.links.getD i default).from_ k).tabs,b.links⟩:Base) (b.links.getD i default).from_=some (tabN b (b.links.getD i default).from_:Int) from fT_at hf h hs,bs,e2,inR hs,ct,tn,e0]
   show (f75 fu _ _ [(⟨(b.links.getD i default).col,nul⟩:Set)]).bind _=_
   rw [f75_is hf hmt.ok hmt.sm hsx,hset,bs]
   show some (setTab (midP b ks i (b.links.getD i default).from_ k) (tabN b (b.links.getD i default).from_) (tabW (tabT b (b.links.getD i default).from_) (keepP ks (b.links.getD i default).from_) (updR (freeK b (inL ks) i (b.links.getD i default).from_ k) ((tabT b (b.links.getD i default).from_).rows.getD k default).id (clearR (tabT b (b.links.getD i default).from_) (colN b (b.links.getD i default)))))).tabs=_
   congr 2
   unfold midP
   rw [baseW_set h.ok.place hs]
   refine baseW_rows h.ok (fun x hx r hr=>?_) fun x hx r hr _=>?_
   ·by_cases e:x=(b.links.getD i default).from_
    ·subst e;rw [updN_self]
    ·rw [updN_other _ _ e]
   ·by_cases e:x=(b.links.getD i default).from_
    ·subst e
     rw [updN_self,updN_self,freeK_next h.ok hs hkl hr]
     unfold updR
     by_cases e2:r.id=((tabT b (b.links.getD i default).from_).rows.getD k default).id
     ·rw [if_pos e2,if_pos e2]
      have:r=(tabT b (b.links.getD i default).from_).rows.getD k default:=row_eq g.ok hr hmem e2
      subst this
      rw [freeK_at h.ok hs hkl,freeG_hit hi c1 c2]
     ·rw [if_neg e2,if_neg e2]
    ·rw [updN_other _ _ e,updN_other _ _ e,updN_other _ _ e]
  rw [e1,bs]
  exact go
theorem f1028_l2_is {b:Base}{ks:List Ref}(hf:BIG≤fu)(h:GoodB b):∀ (m n i:Nat),i+m=b.links.length→m<n→
     f1028_l2 fu b ks b.links n (i:Int) (baseW b (keepP ks) (freeG b (inL ks) i)).tabs=some ((⟨(baseW b (keepP ks) (freeG b (inL ks) b.links.length)).tabs,b.links⟩:Base),0):=by
 intro m
 have h4:=h.ok.nlink
 induction m with
 | zero=>
  intro n i hi hn
  obtain ⟨n,rfl⟩:∃ z,n=z+1:=⟨n-1,by omega⟩
  have:i=b.links.length:=by omega
  subst this
  rw [f1028_l2,nlt];rfl
 | succ m ih=>
  intro n i hi hn
  obtain ⟨n,rfl⟩:∃ z,n=z+1:=⟨n-1,by omega⟩
  have hil:i<b.links.length:=by omega
  have hm:=getD_mem_links hil
  have e:=free_rows (ks:=ks) hf h hil (tabT b (b.links.getD i default).from_).rows.length 0 (by omega)
  rw [List.drop_zero,midP_zero h.ok] at e
  rw [f1028_l2,ltR hil,ct,ge0,Bool.and_self,ct,tn,f1086_is hf h.g (h.ok.link hm).1,e,bs,succI hil (by unfold BIG;omega)]
  exact ih n (i+1) (by omega) (by omega)
theorem f1084_is {b:Base}{nm:List UInt8}{id:Int}(hf:BIG≤fu)(h:SmB b):f1084 fu b nm id=some (B (HasRow b nm id)):=by
 unfold f1084 f1084_j1
 rw [f1056_is hf h.ntab,bs,tabI_ge]
 by_cases hk:tabN b nm<b.tabs.length
 case neg=>rw [B_f hk,B_f fun hh=>hk hh.1];rfl
 have hN:(tabT b nm).rows.length≤1000:=(h.tabs _ hk).nrow
 rw [B_t hk,tabI_lt hk,ct,ltR hk,Bool.and_self,ct,tn,tabT_at,f48_is hf hN,bs,rowI_ge]
 congr 1
 exact B_congr ⟨fun hh=>⟨hk,hh⟩,fun hh=>hh.2⟩
theorem gone_has {b:Base}{nm:List UInt8}{id:Int}(h:BaseOK b)(h1:HasRow b nm id):∀ {x:List UInt8} {n:Int},Gone b nm id x n→HasRow b x n:=by
 intro x n hx
 cases hx with
 | self=>exact h1
 | next hl hr hw hv hg=>exact hasRow_mem (h.link hl).1.src hr
theorem f1028_is {b:Base}{nm:List UInt8}{id:Int}(hf:BIG≤fu)(h:SmB b):f1028 fu b nm id=some (offBB b nm id):=by
 unfold f1028 offBB
 rw [f1020_is hf h,bs]
 by_cases hk:BaseOK b
 case neg=>rw [B_f hk,if_neg hk];rfl
 rw [B_t hk,if_pos hk]
 simp only [Bool.not_true,cf]
 rw [f1054_is hf h,bs,f1084_is hf h,bs]
 unfold offX
 by_cases h1:HasRow b nm id
 case neg=>rw [B_f h1,if_pos h1];rfl
 rw [B_t h1,if_neg (fun hh=>hh h1)]
 simp only [Bool.not_true,cf]
 have hg:GoodB b:=⟨hk,h⟩
 obtain ⟨ks,e,hs,hn⟩:=f1085_is (nm:=nm) (id:=id) hf hg
 have hG:inL ks=Gone b nm id:=by funext x n;exact propext (hs x n)
 rw [e,bs]
 have e1:=f1028_l1_is (q4:=b) (ks:=ks) hf hg b.links.length fu 0 false (by omega) (by have:=hk.nlink;unfold BIG at hf;omega)
 refine Eq.trans e1 ?_
 rw [Bool.false_or,B_congr stops_at.symm,hG]
 unfold f1028_j1
 by_cases h2:Stops b (Gone b nm id)
 ·rw [B_t h2,if_pos h2];rfl
 rw [B_f h2,if_neg h2,cf,off_any hf hg fun x n hx=>(gone_has hk h1 ((hs x n).1 hx)).1,bs]
 have e2:=f1028_l2_is (ks:=ks) hf hg b.links.length fu 0 (by omega) (by have:=hk.nlink;unfold BIG at hf;omega)
 rw [freeG_zero] at e2
 refine Eq.trans e2 ?_
 congr 2
 show baseW b (keepP ks) (freeG b (inL ks) b.links.length)=offG b (Gone b nm id)
 rw [← hG]
 refine baseW_rows hk (fun _ _ _ _=>Iff.rfl) fun x hx r hr hp=>?_
 unfold freeG
 rw [if_neg (show ¬ inL ks x r.id from hp),List.take_length]
end Go.Proofs.YtdpigighgmipfaaGreatDoor
/- The rows that go, in the order of tables and rows: the program's list is the model's. -/
namespace Go.Proofs.YtdpigighgmipfaaGreatDoor
open Go Go.HL
variable {fu:Nat}
theorem f1095_l2_is {b:Base}{ks:List Ref}(h:GoodB b){i:Nat}(hi:i<b.tabs.length){rec1:Int→List Ref→Option (List Ref)}{pre:List Ref}(hp:pre.length≤1000) :
     ∀ (m n k:Nat),k+m=(b.tabs.getD i default).table.rows.length→m<n→f1095_l2 b ks (i:Int) rec1 n (k:Int) (pre++rowsGk (inL ks) (b.tabs.getD i default) k)=rec1 ((i+1:Nat):Int) (pre++rowsG (inL ks) (b.tabs.getD i default)):=by
 intro m
 have hlen:=(h.ok.tabs i hi).ok.nrow
 have h3:=h.ok.ntab
 unfold tabK at hlen
 have ei:=succI (show i<b.tabs.length from hi) (show b.tabs.length≤BIG by unfold BIG;omega)
 induction m with
 | zero=>
  intro n k hk hn
  obtain ⟨n,rfl⟩:∃ z,n=z+1:=⟨n-1,by omega⟩
  have:k=(b.tabs.getD i default).table.rows.length:=by omega
  subst this
  rw [f1095_l2,tn,nlt,cf,ei,rowsGk_all]
 | succ m ih=>
  intro n k hk hn
  obtain ⟨n,rfl⟩:∃ z,n=z+1:=⟨n-1,by omega⟩
  have hkl:k < (b.tabs.getD i default).table.rows.length:=by omega
  have ek:=succI hkl (show (b.tabs.getD i default).table.rows.length≤BIG by unfold BIG;omega)
  have go:=ih n (k+1) (by omega) (by omega)
  have hgl:=rowsGk_len (inL ks) (b.tabs.getD i default) k
  rw [f1095_l2,tn,tn,ltR hkl,ct,ge0,Bool.and_self,ct,memK_B]
  rw [rowsGk_succ hkl] at go
  by_cases c1:inL ks (b.tabs.getD i default).name ((b.tabs.getD i default).table.rows.getD k default).id
  ·rw [B_t c1] at go ⊢
   rw [ct,cap (by rw [List.length_singleton,List.length_append];omega),ct,ek]
   rw [if_pos rfl,← List.append_assoc] at go
   exact go
  ·rw [B_f c1] at go ⊢
   rw [cf,ek]
   rw [if_neg (by simp),List.append_nil] at go
   exact go
theorem f1095_l1_is {b:Base}{ks:List Ref}(hf:BIG≤fu)(h:GoodB b) :
     ∀ (m n i:Nat),i+m=b.tabs.length→m<n→f1095_l1 fu b ks n (i:Int) ((b.tabs.take i).flatMap (rowsG (inL ks)))=some (goneL b (inL ks)):=by
 intro m
 have h3:=h.ok.ntab
 induction m with
 | zero=>
  intro n i hi hn
  obtain ⟨n,rfl⟩:∃ z,n=z+1:=⟨n-1,by omega⟩
  have:i=b.tabs.length:=by omega
  subst this
  rw [f1095_l1,nlt,cf,List.take_length];rfl
 | succ m ih=>
  intro n i hi hn
  obtain ⟨n,rfl⟩:∃ z,n=z+1:=⟨n-1,by omega⟩
  have hil:i<b.tabs.length:=by omega
  have hlen:=goneK_len h.ok (inL ks) i
  have hrow:=(h.ok.tabs i hil).ok.nrow
  unfold tabK at hrow
  have go:=ih n (i+1) (by omega) (by omega)
  rw [takeN (d:=default) hil,List.flatMap_append,List.flatMap_cons,List.flatMap_nil,List.append_nil] at go
  have e:=f1095_l2_is (ks:=ks) (rec1:=f1095_l1 fu b ks n) h hil (pre:=(b.tabs.take i).flatMap (rowsG (inL ks))) (by omega) (b.tabs.getD i default).table.rows.length fu 0 (by omega) (by unfold BIG at hf;omega)
  have e0:rowsGk (inL ks) (b.tabs.getD i default) 0=[]:=by unfold rowsGk;simp
  rw [e0,List.append_nil] at e
  rw [f1095_l1,ltR hil,ct,ge0,Bool.and_self,ct]
  exact e.trans go
theorem f1095_is {b:Base}{ks:List Ref}(hf:BIG≤fu)(h:GoodB b):f1095 fu b ks=some (goneL b (inL ks)):=by
 unfold f1095
 exact f1095_l1_is hf h b.tabs.length fu 0 (by omega) (by have:=h.ok.ntab;unfold BIG at hf;omega)
open Classical in
noncomputable def goneBB (b:Base) (nm:List UInt8) (id:Int):List Ref:=if BaseOK b∧HasRow b nm id then goneL b (Gone b nm id) else []
theorem f1031_is {b:Base}{nm:List UInt8}{id:Int}(hf:BIG≤fu)(h:SmB b):f1031 fu b nm id=some (goneBB b nm id):=by
 unfold f1031 goneBB f1031_j1
 rw [f1020_is hf h,bs]
 by_cases hk:BaseOK b
 case neg=>rw [B_f hk,if_neg fun hh=>hk hh.1];rfl
 rw [B_t hk]
 simp only [Bool.not_true,cf]
 rw [f1084_is hf h,bs]
 by_cases h1:HasRow b nm id
 case neg=>rw [B_f h1,if_neg fun hh=>h1 hh.2];rfl
 rw [B_t h1,if_pos ⟨hk,h1⟩]
 simp only [Bool.not_true,cf]
 have hg:GoodB b:=⟨hk,h⟩
 obtain ⟨ks,e,hs,hn⟩:=f1085_is (nm:=nm) (id:=id) hf hg
 have hG:inL ks=Gone b nm id:=by funext x n;exact propext (hs x n)
 rw [e,bs,f1095_is hf hg,hG];rfl
end Go.Proofs.YtdpigighgmipfaaGreatDoor
/- What a row's going leaves. -/
namespace Go.Proofs.YtdpigighgmipfaaGreatDoor
open Go Go.HL
variable {fu:Nat}
theorem goneBB_no {b:Base}{nm:List UInt8}{id:Int}(h:¬ (BaseOK b∧HasRow b nm id)):goneBB b nm id=[]:=if_neg h
end Go.Proofs.YtdpigighgmipfaaGreatDoor
/- The tables that are drawn have names of one letter. -/
namespace Go.Proofs.YtdpigighgmipfaaGreatDoor
open Go Go.HL
variable {fu:Nat}
def Short (b:Base):Prop:=∀ x,x∈b.tabs.map (·.name)→x.length≤1
theorem Short.same {a b:Base}(h:Short b)(e:a.tabs.map (·.name)=b.tabs.map (·.name)):Short a:=fun x hx=>h x (e▸hx)
theorem nil_short:Short nilB:=fun _ h=>nomatch h
def GS (b:Base):Prop:=GoodB b∧Short b
def SS (b:Base):Prop:=SmB b∧Short b
theorem sm_one {l:List (List UInt8)}(hl:l.all (fun s=>decide (s.length≤1))=true):∀ s∈l,s.length≤1:=fun s hs=>by simpa using List.all_eq_true.1 hl s hs
theorem add_short {ts us:List Tab}{ls ms:List Link}(h:Short ⟨ts,ls⟩)(hu:∀ t,t∈us→t.name.length≤1):Short ⟨ts++us,ms⟩:=fun x hx=>by
 rw [show (⟨ts++us,ms⟩:Base).tabs=ts++us from rfl,List.map_append,List.mem_append] at hx
 rcases hx with hx|hx
 ·exact h x hx
 ·obtain ⟨t,ht,rfl⟩:=List.mem_map.1 hx
  exact hu t ht
theorem two_short {b:Base}{x y:Tab}{ms:List Link}(h:Short b)(hx:x.name.length≤1)(hy:y.name.length≤1):Short ⟨b.tabs++[x,y],ms⟩:=add_short (ls:=b.links) h fun t ht=>by
 simp only [List.mem_cons,List.not_mem_nil,or_false] at ht
 rcases ht with rfl|rfl
 ·exact hx
 ·exact hy
theorem setTab_short {b:Base}{k:Nat}{t:Table}(hk:k<b.tabs.length)(h:Short b):Short (setTab b k t):=h.same (setTab_names hk)
theorem name_short {b:Base}{k:Nat}{nm:List UInt8}(_:k<b.tabs.length)(h:Short b)(hn:nm.length≤1):Short ⟨b.tabs.set k { (b.tabs.getD k default) with name:=nm },b.links⟩:=fun x hx=>by
 obtain ⟨t,ht,rfl⟩:=List.mem_map.1 hx
 rcases List.mem_or_eq_of_mem_set ht with ht|rfl
 ·exact h _ (List.mem_map.2 ⟨t,ht,rfl⟩)
 ·exact hn
theorem writeB_short {b:Base}{k:Nat}{t:Table×Int}(hk:k<b.tabs.length)(h:Short b):Short (writeB b k t).1:=by
 rcases writeB_cases b k t with ⟨e,-⟩|⟨-,e⟩<;>rw [e]
 ·exact h
 ·exact setTab_short hk h
theorem putX_short {b:Base}{nm:List UInt8}{xs:List Set}(h:Short b):Short (putX b nm xs).1:=by
 unfold putX
 split
 case isTrue hk=>exact writeB_short hk h
 ·exact h
theorem setX_short {b:Base}{nm:List UInt8}{id:Int}{xs:List Set}(h:Short b):Short (setX b nm id xs).1:=by
 unfold setX
 split
 case isTrue hk=>exact writeB_short hk h
 ·exact h
theorem changeX_short {b:Base}{nm:List UInt8}{c:Change}(h:Short b):Short (changeX b nm c).1:=by
 unfold changeX
 split
 case isFalse=>exact h
 case isTrue hk=>
  split
  ·exact h
  split
  ·exact h
  split
  ·exact h
  ·exact setTab_short hk h
theorem offX_short {b:Base}{nm:List UInt8}{id:Int}(h:Short b):Short (offX b nm id).1:=by
 unfold offX
 split
 ·exact h
 split
 ·exact h
 ·exact h.same (baseW_names ..)
theorem linkBB_short {b:Base}{l:Link}(h:Short b):Short (linkBB b l).1:=by
 by_cases hk:BaseOK b
 ·rcases linkBB_cases hk l with ⟨e,-⟩|⟨-,-,-,-,e⟩<;>rw [e]<;>exact h
 ·rw [linkBB_no hk];exact nil_short
theorem tableBB_short {b:Base}{nm:List UInt8}{s:List Col}(h:Short b)(hn:nm.length≤1):Short (tableBB b nm s).1:=by
 by_cases hk:BaseOK b
 ·rcases tableBB_cases hk nm s with ⟨e,-⟩|⟨-,-,-,-,e⟩<;>rw [e]
  ·exact h
  ·exact add_short (ls:=b.links) h fun t ht=>by
    rw [List.mem_singleton] at ht
    rw [ht];exact hn
 ·rw [tableBB_no hk];exact nil_short
theorem d1171s {r:Rd}{b:Base}{m:Nat}(hf:BIG≤fu)(h:RdOK r m)(hm:m≤500000)(hb:GS b):Draws (f1171 fu r b) GS (m+8060):=by
 obtain ⟨hb,hsh⟩:=hb
 unfold f1171
 obtain ⟨x,hx,hx1,hx2⟩:=f142_one (n:=(List.length b.tabs:Int))
 rw [hx,bs]
 refine (d74 h (by omega)).bind fun k0 r1 hk0 hr1=>?_
 by_cases h0:b.tabs.length=0
 ·rw [dt (show (List.length b.tabs:Int)=0 by omega),ct]
  refine (d125 hf hr1 (by omega)).bind fun s r2 hs hr2=>?_
  rw [f1017_is hf hb.sm (by decide) hs.sm,bs]
  exact .pure ⟨tableBB_good hb,tableBB_short hsh (by decide)⟩ (hr2.mono (by omega))
 rw [df (show ¬ (List.length b.tabs:Int)=0 by omega),cf]
 have hxe:=hx2 (by omega)
 obtain ⟨k,rfl⟩:∃ k:Nat,k0=(k:Int):=⟨k0.toNat,by have:=hk0.1;omega⟩
 have hk:k<b.tabs.length:=by have:=hk0.2 hx1;omega
 have g:=hb.tab hk
 have hhi:=g.rt.okLast.hi
 have eT:((b.tabs.getD ((k:Int)).toNat default).table)=tabK b k:=by rw [tn];rfl
 have eN:tabN b (b.tabs.getD ((k:Int)).toNat default).name=k:=by rw [tn];exact hb.ok.place k hk
 have hnm:(b.tabs.getD ((k:Int)).toNat default).name.length≤1000:=by rw [tn];exact hb.sm.names k hk
 simp only [inR hk,ct]
 obtain ⟨y,hy,-,-⟩:=f142_one (n:=IntKind.i64.wrap (((b.tabs.getD ((k:Int)).toNat default).table).next-1))
 rw [hy,bs]
 refine (d74 hr1 (by omega)).bind fun q9 r2 hq9 hr2=>?_
 have h3:∀ (b':Base) (r':Rd),GS b'→RdOK r' (m+8060)→Draws (f1171_j3 b' r') GS (m+8060):=fun b' r' hb' hr'=>.pure hb' hr'
 have h4:∀ (id:Int) (q14:Int×Rd) (bl:Bool),RdOK q14.2 (m+6)→Draws (f1171_j4 fu b ((k:Int),r1) id q14 bl) GS (m+8060):=fun id q14 bl hr'=>by
  unfold f1171_j4
  simp only [inR hk,ct]
  cases bl with
  | true=>
   refine (d1102 hf hr' (by omega) hb hk).bind fun xs r3 hx hr3=>?_
   rw [f1105_is hf hb hx,bs]
   exact h3 _ _ ⟨setX_good hb hx,setX_short hsh⟩ (hr3.mono (by omega))
  | false=>
   rw [cf]
   cases decide (q14.1=4) with
   | true=>
    rw [ct,eT,f53_is hf g.rt,bs]
    refine (d70 hf (by omega) hr' (by omega)).bind fun c r3 hc hr3=>?_
    rw [f1100_is hf hb hc,bs]
    exact h3 _ _ ⟨changeX_good hb hc,changeX_short hsh⟩ (hr3.mono (by omega))
   | false=>
    cases decide (q14.1=5) with
    | true=>
     refine (d96 hr' (by omega) (by decide)).bind fun nm r3 hnm hr3=>?_
     refine (d125 hf hr3 (by omega)).bind fun s r4 hs hr4=>?_
     rw [f1017_is hf hb.sm (sm_short (by rfl) nm hnm) hs.sm,bs]
     exact h3 _ _ ⟨tableBB_good hb,tableBB_short hsh (sm_one (by rfl) nm hnm)⟩ (hr4.mono (by omega))
    | false=>
     refine (d1102 hf hr' (by omega) hb hk).bind fun xs r3 hx hr3=>?_
     rw [f1109_is hf hb hx,bs]
     exact h3 _ _ ⟨putX_good hb hx,putX_short hsh⟩ (hr3.mono (by omega))
 have h2:∀ (id:Int) (r':Rd),RdOK r' (m+5)→Draws (f1171_j2 fu b ((k:Int),r1) id r') GS (m+8060):=fun id r' hr'=>by
  unfold f1171_j2
  refine (d74 hr' (by omega)).bind fun q r3 hq hr3=>?_
  simp only [inR hk,ct]
  cases decide (q=0) with
  | true=>
   refine (d1081 hf hr3 (by omega) hb.g).bind fun l r4 _ hr4=>?_
   rw [f1025_is hf hb.sm,bs]
   exact h3 _ _ ⟨linkBB_good hb,linkBB_short hsh⟩ (hr4.mono (by omega))
  | false=>
   cases decide (q=1) with
   | true=>
    simp only [ct,cf]
    rw [f1091_is hf hb,bs]
    exact h3 _ _ ⟨offX_good hb,offX_short hsh⟩ (hr3.mono (by omega))
   | false=>
    cases decide (q=2) with
    | true=>exact h4 id (q,r3) true hr3
    | false=>exact h4 id (q,r3) _ hr3
 simp only [eT]
 have h1:∀ (bl:Bool) (r':Rd),0 < (tabK b k).rows.length∨bl=false→RdOK r' (m+4)→Draws (f1171_j1 fu b ((k:Int),r1) (q9,r2) bl r') GS (m+8060):=fun bl r' hbl hr'=>by
  unfold f1171_j1
  cases bl with
  | false=>exact h2 _ _ (hr'.mono (by omega))
  | true=>
   have h0r:=hbl.resolve_right (by simp)
   simp only [ct,eT]
   refine (d74 hr' (by omega)).bind fun q r3 hq hr3=>?_
   have hi:=idxR hq h0r
   simp only [hi.1,ct]
   exact h2 _ _ hr3
 by_cases h0r:0 < (tabK b k).rows.length
 ·rw [dt (show (0:Int) < ((tabK b k).rows.length:Int) by omega),ct]
  exact (d74 hr2 (by omega)).bind fun q r3 hq hr3=>h1 _ _ (.inl h0r) (hr3.mono (by omega))
 ·rw [df (show ¬ (0:Int) < ((tabK b k).rows.length:Int) by omega),cf]
  exact h1 false _ (.inr rfl) (hr2.mono (by omega))
theorem l1113s (hf:BIG≤fu):∀ (j n m:Nat) (b:Base) (r:Rd),j<n→RdOK r m→m+8060*j≤400000→GS b→Draws (f1113_l1 fu n (j:Int) b r) GS (m+8060*j):=by
 intro j
 induction j with
 | zero=>
  intro n m b r hn hr hm hb
  obtain ⟨n,rfl⟩:∃ i,n=i+1:=⟨n-1,by omega⟩
  rw [f1113_l1,show decide ((0:Int) < ((0:Nat):Int))=false from rfl,cf,f1059_is hf hb.1.sm]
  exact .pure hb hr
 | succ j ih=>
  intro n m b r hn hr hm hb
  obtain ⟨n,rfl⟩:∃ i,n=i+1:=⟨n-1,by omega⟩
  rw [f1113_l1,dt (show (0:Int) < ((j+1:Nat):Int) by omega),ct]
  refine (d1171s hf hr (by omega) hb).bind fun b' r' hb' hr'=>?_
  have e:IntKind.i64.wrap (((j+1:Nat):Int)-1)=(j:Int):=by rw [wrapI (by omega) (by omega)];omega
  simp only [e]
  exact (ih n (m+8060) b' r' (by omega) hr' (by omega) hb').mono (fun _ h=>h) (by omega)
theorem d1113s {r:Rd}{m:Nat}(hf:BIG≤fu)(h:RdOK r m)(hm:m≤100000):Draws (f1113 fu r) GS (m+226000):=by
 unfold f1113
 refine (d1170 hf h (by omega)).bind fun s r1 hs hr1=>?_
 show Draws ((f1017 fu nilB _ _).bind _) _ _
 rw [f1017_is hf nilB_sm (by decide) hs,bs]
 have g1:GS (tableBB nilB ([116]:List UInt8) s).1:=⟨tableBB_good nilB_good,tableBB_short nil_short (by decide)⟩
 generalize tableBB nilB ([116]:List UInt8) s=b1 at g1
 refine (d1170 hf hr1 (by omega)).bind fun s2 r2 hs2 hr2=>?_
 rw [f1017_is hf g1.1.sm (by decide) hs2,bs]
 have g2:GS (tableBB b1.1 ([117]:List UInt8) s2).1:=⟨tableBB_good g1.1,tableBB_short g1.2 (by decide)⟩
 generalize tableBB b1.1 ([117]:List UInt8) s2=b2 at g2
 refine (d96 hr2 (by omega) (by decide)).bind fun x r3 _ hr3=>?_
 refine (d74 hr3 (by omega)).bind fun q r4 _ hr4=>?_
 simp only
 rw [f1025_is hf g2.1.sm,bs]
 have g3:GS (linkBB b2.1 (⟨([117]:List UInt8),([107]:List UInt8),x,IntKind.i64.wrap (1+q)⟩:Link)).1:=⟨linkBB_good g2.1,linkBB_short g2.2⟩
 generalize linkBB b2.1 (⟨([117]:List UInt8),([107]:List UInt8),x,IntKind.i64.wrap (1+q)⟩:Link)=b3 at g3
 have h1:∀ (b:Base) (r':Rd),GS b→RdOK r' (m+66)→Draws (f1113_j1 fu b r') GS (m+226000):=fun b r' hb hr'=>by
  unfold f1113_j1
  refine (d73 hr' (by omega) (by decide)).bind fun y r5 hy hr5=>?_
  have hx2:∃ j:Nat,y=(j:Int)∧j≤28:=by
   have:=List.all_eq_true.1 (show ([8,14,20,28,4,0]:List Int).all (fun n=>decide (0≤n)&&decide (n≤28))=true from rfl) y hy
   rw [Bool.and_eq_true,decide_eq_true_eq,decide_eq_true_eq] at this
   exact ⟨y.toNat,by omega,by omega⟩
  obtain ⟨j,rfl,hj⟩:=hx2
  exact (l1113s hf j fu (m+67) b r5 (by unfold BIG at hf;omega) hr5 (by omega) hb).mono (fun _ h=>h) (by omega)
 refine (d74 hr4 (by omega)).bind fun q2 r5 _ hr5=>?_
 simp only
 cases decide (q2=0) with
 | false=>exact h1 _ _ g3 (hr5.mono (by omega))
 | true=>
  refine (d96 hr5 (by omega) (by decide)).bind fun y r6 _ hr6=>?_
  refine (d74 hr6 (by omega)).bind fun q3 r7 _ hr7=>?_
  simp only
  rw [f1025_is hf g3.1.sm,bs]
  exact h1 _ _ ⟨linkBB_good g3.1,linkBB_short g3.2⟩ (hr7.mono (by omega))
theorem d1112s {r:Rd}{b:Base}{m:Nat}(hf:BIG≤fu)(h:RdOK r m)(hm:m≤400000)(hb:GS b):Draws (f1112 fu r b) SS (m+200):=by
 obtain ⟨hb,hsh⟩:=hb
 have hs:=hb.sm
 have h3:=hb.ok.ntab
 have h4l:=hb.ok.nlink
 unfold f1112 f1112_j1 f1112_j2 f1112_j3
 rw [f1059_is hf hs,bs]
 refine (d74 h (by omega)).bind fun q r1 hq hr1=>?_
 have hend:Draws (some (b,r1)) SS (m+200):=.pure ⟨hs,hsh⟩ (hr1.mono (by omega))
 simp only
 cases decide (q=0) with
 | true=>
  rw [ct]
  by_cases h0:0<b.tabs.length
  case neg=>rw [df (show ¬ (0:Int) < (b.tabs.length:Int) by omega)];exact hend
  rw [dt (show (0:Int) < (b.tabs.length:Int) by omega),ct]
  refine (d74 hr1 (by omega)).bind fun k r2 hk hr2=>?_
  have hi:=idxR hk h0
  simp only [hi.1,ct]
  have g0:=(hb.tab hi.2).bent
  refine (d93b hf hr2 (by omega) g0 (by omega)).bind fun t1 r3 g1 hr3=>?_
  refine (d93b hf hr3 (by omega) g1 (by omega)).bind fun t2 r4 g2 hr4=>?_
  refine (d93b hf hr4 (by omega) g2 (by omega)).bind fun t3 r5 g3 hr5=>?_
  refine (d93b hf hr5 (by omega) g3 (by omega)).bind fun t4 r6 g4 hr6=>?_
  exact .pure ⟨setTab_sm hs hi.2 g4.sm,setTab_short hi.2 hsh⟩ (hr6.mono (by omega))
 | false=>
 cases decide (q=1) with
 | true=>
  simp only [ct,cf]
  by_cases h0:0<b.tabs.length
  case neg=>rw [df (show ¬ (0:Int) < (b.tabs.length:Int) by omega)];exact hend
  rw [dt (show (0:Int) < (b.tabs.length:Int) by omega),ct]
  refine (d96 hr1 (by omega) (by decide)).bind fun x r2 hx hr2=>?_
  simp only [show decide ((0:Int)≤0)=true from rfl,Bool.and_self,ct]
  exact .pure ⟨smb_name hs h0 (sm_short (by rfl) x hx),name_short h0 hsh (sm_one (by rfl) x hx)⟩ (hr2.mono (by omega))
 | false=>
 cases decide (q=2) with
 | true=>
  simp only [ct,cf]
  refine (d1081 hf hr1 (by omega) hb.g).bind fun l r2 _ hr2=>?_
  simp only
  rw [cap (by rw [List.length_singleton];omega),ct]
  exact .pure ⟨⟨hs.ntab,by show (b.links++[l]).length≤1000;rw [List.length_append,List.length_singleton];omega,hs.names,hs.tabs⟩,hsh⟩ (hr2.mono (by omega))
 | false=>
 cases decide (q=3) with
 | true=>
  simp only [ct,cf]
  by_cases h0:0<b.links.length
  case neg=>rw [df (show ¬ (0:Int) < (b.links.length:Int) by omega)];exact hend
  rw [dt (show (0:Int) < (b.links.length:Int) by omega),ct]
  refine (d73 hr1 (by omega) (by decide)).bind fun x r2 hx hr2=>?_
  simp only [show decide ((0:Int)≤0)=true from rfl,Bool.and_self,ct]
  exact .pure ⟨⟨hs.ntab,by show (List.set _ _ _).length≤1000;rw [List.length_set];exact hs.nlink,hs.names,hs.tabs⟩,hsh⟩ (hr2.mono (by omega))
 | false=>
 cases decide (q=4) with
 | true=>
  simp only [ct,cf]
  unfold f1112_j4 f1112_j3
  by_cases h0:0<b.tabs.length
  case neg=>rw [df (show ¬ (0:Int) < (b.tabs.length:Int) by omega)];exact hend
  rw [dt (show (0:Int) < (b.tabs.length:Int) by omega)]
  simp only [show decide ((0:Int)≤0)=true from rfl,Bool.and_self,ct,Int.toNat_zero]
  by_cases hr0:0 < (tabK b 0).rows.length
  ·have e:decide ((0:Int) < (((b.tabs.getD 0 default).table.rows).length:Int))=true:=dt (show (0:Int) < (((tabK b 0).rows).length:Int) by omega)
   rw [e]
   simp only [ct]
   have g:=hb.tab h0
   rw [o41a]
   have e2:f41 fu (b.tabs.getD 0 default).table ((b.tabs.getD 0 default).table.rows.getD 0 default).id=some (offT (tabK b 0) ((tabK b 0).rows.getD 0 default).id):=f41_is hf g.sm.nrow
   rw [e2,bs]
   exact .pure ⟨setTab_sm hs h0 (off_sm g.sm),setTab_short h0 hsh⟩ (hr1.mono (by omega))
  ·have e:decide ((0:Int) < (((b.tabs.getD 0 default).table.rows).length:Int))=false:=df (show ¬ (0:Int) < (((tabK b 0).rows).length:Int) by omega)
   rw [e];exact hend
 | false=>
 cases decide (q=5) with
 | false=>exact hend
 | true=>
  simp only [ct,cf]
  refine (d125 hf hr1 (by omega)).bind fun s r2 hs2 hr2=>?_
  simp only
  rw [f124_new hf hs2,bs]
  refine (d125 hf hr2 (by omega)).bind fun s2 r3 hs3 hr3=>?_
  simp only
  rw [f124_new hf hs3,bs,cap (by show b.tabs.length+2≤100000;omega),ct]
  exact .pure ⟨smb_two hs (by omega) ⟨by show ([120]:List UInt8).length≤1000;decide,(newT_good hs2).sm⟩ ⟨by show ([121]:List UInt8).length≤1000;decide,(newT_good hs3).sm⟩,two_short hsh (Nat.le_refl 1) (Nat.le_refl 1)⟩ (hr3.mono (by omega))
theorem d1050s {r:Rd}{m:Nat}(hf:BIG≤fu)(h:RdOK r m)(hm:m≤1000):Draws (f1050 fu r) SS (m+226200):=by
 unfold f1050
 refine (d1113s hf h (by omega)).bind fun b r1 hb hr1=>?_
 exact (d1112s hf hr1 (by omega) hb).bind fun b' r2 hb' hr2=>.pure hb' (hr2.mono (by omega))
theorem d1040s {a:List Int}(hf:BIG≤fu)(ha:∀ b,b∈a→0≤b∧b≤255):∃ b nm xs,f1040 fu a=some (b,nm,xs)∧SmB b∧SmX xs∧Short b:=by
 obtain ⟨r,e,hr⟩:=d60 (fu:=fu) ha
 obtain ⟨b,r1,e1,hb,hr1⟩:=d1050s (fu:=fu) hf hr (by omega)
 obtain ⟨x,r2,e2,hx,-⟩:=d1106 (fu:=fu) hf hr1 (by omega) hb.1
 unfold f1040
 rw [e,bs,e1,bs]
 simp only
 rw [e2]
 exact ⟨b,x.1,x.2,rfl,hb.1,hx.2,hb.2⟩
theorem zzz_no {b:Base}(h:Short b):¬ tabN b [122,122,122]<b.tabs.length:=fun hk=>by
 have:=h _ (List.mem_map.2 ⟨_,getD_mem (d:=(default:Tab)) hk,rfl⟩)
 rw [tabN_name hk] at this
 exact absurd this (by decide)
end Go.Proofs.YtdpigighgmipfaaGreatDoor
