/- A row taken away with those that go with it: the program does as the model (the set of those that go). -/
import Derived.Test.YtdpigighgmipfaaGreatDoorQ1005M31
import Derived.Test.YtdpigighgmipfaaGreatDoorQ1005B11
set_option linter.all false
namespace Go.Proofs.YtdpigighgmipfaaGreatDoor
open Go Go.HL
variable {fu:Nat}
theorem memK_B {q:Ref}{ks:List Ref}:memK q ks=B (inL ks q.name q.id):=by
 unfold memK
 rw [Bool.eq_iff_iff,B_iff,decide_eq_true_iff,inL_iff]
theorem addK_is {q:Ref}{ks:List Ref}:addK q ks=if q∈ks then ks else ks++[q]:=by
 unfold addK memK
 by_cases h:q∈ks<;>simp [h]
theorem f1143_is {x0 x1:Int}{l:Link}{ks:List Ref}:f1143 x0 x1 l ks=some (@ite _ (l.how=2∧inL ks l.to x1∧¬ inL ks l.from_ x0) (Classical.propDecidable _) (ks++[(⟨l.from_,x0⟩:Ref)]) ks):=by
 unfold f1143 f1143_j1
 rw [memK_B]
 by_cases h1:l.how=2
 case neg=>rw [df h1,if_neg fun hh=>h1 hh.1];rfl
 rw [dt h1,ct]
 by_cases h2:inL ks l.to x1
 case neg=>rw [B_f h2,if_neg fun hh=>h2 hh.2.1];rfl
 rw [B_t h2,ct,addK_is]
 by_cases h3:inL ks l.from_ x0
 ·rw [if_pos (inL_iff.1 h3),if_neg fun hh=>hh.2.2 h3]
 ·rw [if_neg fun hh=>h3 (inL_iff.2 hh),if_pos ⟨h1,h2,h3⟩]
structure Pass (b:Base) (nm:List UInt8) (id:Int) (C:Link→Row→Prop) (s s':List Ref):Prop where
 grows:Grows b nm id s'
 less:lack b s'≤lack b s
 same:s'.length=s.length→s' = s
 loud:s'≠s→lack b s'<lack b s∧s.length<s'.length
 quiet:s' = s→∀ l r,C l r→l.how=2→Names b (inL s) l r→inL s l.from_ r.id
theorem Pass.refl {b:Base}{nm:List UInt8}{id:Int}{s:List Ref}(h:Grows b nm id s):Pass b nm id (fun _ _=>False) s s:=⟨h,Nat.le_refl _,fun _=>rfl,fun hh=>absurd rfl hh,fun _ _ _ h=>h.elim⟩
theorem Pass.trans {b:Base}{nm:List UInt8}{id:Int}{C D:Link→Row→Prop}{s s' s'':List Ref}(h:Pass b nm id C s s')(g:Pass b nm id D s' s''):Pass b nm id (fun l r=>C l r∨D l r) s s'':=by
 have hl:s.length≤s'.length:=by
  by_cases e:s' = s
  ·rw [e];exact Nat.le_refl _
  ·exact Nat.le_of_lt (h.loud e).2
 have gl:s'.length≤s''.length:=by
  by_cases e:s'' = s'
  ·rw [e];exact Nat.le_refl _
  ·exact Nat.le_of_lt (g.loud e).2
 refine ⟨g.grows,Nat.le_trans g.less h.less,fun e=>?_,fun e=>?_,fun e=>?_⟩
 ·rw [g.same (by omega),h.same (by omega)]
 ·by_cases e1:s' = s
  ·subst e1;exact g.loud e
  ·have h1:=h.loud e1
   exact ⟨Nat.lt_of_le_of_lt g.less h1.1,by omega⟩
 ·subst e
  have e1:s' = s'':=h.same (by omega)
  subst e1
  exact fun l r hc=>hc.elim (h.quiet rfl l r) (g.quiet rfl l r)
theorem Pass.sub {b:Base}{nm:List UInt8}{id:Int}{C D:Link→Row→Prop}{s s':List Ref}(h:Pass b nm id C s s')(hs:∀ l r,D l r→C l r):Pass b nm id D s s':=
 ⟨h.grows,h.less,h.same,h.loud,fun e l r hd=>h.quiet e l r (hs l r hd)⟩
theorem pass_rows {b:Base}{nm:List UInt8}{id:Int}(h:GoodB b){l:Link}(hl:l∈b.links):∀ (rows:List Row) (s:List Ref),(∀ r,r∈rows→r∈(tabT b l.from_).rows)→Grows b nm id s→
     ∃ s',namingM b l (fun x0 x1 s=>f1143 x0 x1 l s) rows s=some s'∧Pass b nm id (fun l' r=>l' = l∧r∈rows) s s':=by
 intro rows
 induction rows with
 | nil=>exact fun s _ hg=>⟨s,rfl,(Pass.refl hg).sub fun l' r hh=>by cases hh.2⟩
 | cons r rs ih=>
  intro s hr hg
  have hrm:=hr r List.mem_cons_self
  have hrs:∀ q,q∈rs→q∈(tabT b l.from_).rows:=fun q hq=>hr q (List.mem_cons_of_mem _ hq)
  rw [namingM]
  by_cases hv:(colV b l r).kind=0
  ·rw [if_pos hv]
   obtain ⟨s',e,hp⟩:=ih s hrs hg
   refine ⟨s',e,⟨hp.grows,hp.less,hp.same,hp.loud,fun e2 l' q hc hw hn=>?_⟩⟩
   rcases List.mem_cons.1 hc.2 with e3|hq
   ·rw [hc.1,e3] at hn
    exact absurd hv hn.1
   ·exact hp.quiet e2 l' q ⟨hc.1,hq⟩ hw hn
  rw [if_neg hv,f1143_is,bs]
  by_cases hh:l.how=2∧inL s l.to (colV b l r).n∧¬ inL s l.from_ r.id
  ·rw [if_pos hh]
   have hx:(⟨l.from_,r.id⟩:Ref)∈refsB b:=by
    have h1:=(h.ok.link hl).1.src
    have h2:=refs_mem (getD_mem (d:=(default:Tab)) h1) (r:=r) hrm
    rwa [tabN_name h1] at h2
   have hnot:(⟨l.from_,r.id⟩:Ref)∉s:=fun hm=>hh.2.2 (inL_iff.2 hm)
   have hlk:=lack_snoc hx hnot
   have hg1:Grows b nm id (s++[(⟨l.from_,r.id⟩:Ref)]):=⟨fun x n hxn=>by
    rcases inL_snoc.1 hxn with h1|⟨h1,h2⟩
    ·exact hg.sound x n h1
    ·subst h1 h2
     exact .next hl hrm hh.1 hv (hg.sound _ _ hh.2.1),inL_snoc.2 (.inl hg.self),by
    have:=hg.len
    rw [List.length_append,List.length_singleton];omega⟩
   obtain ⟨s',e,hp⟩:=ih _ hrs hg1
   have hlen:s.length<s'.length:=by
    by_cases e2:s' = s++[(⟨l.from_,r.id⟩:Ref)]
    ·rw [e2,List.length_append,List.length_singleton];omega
    ·have:=(hp.loud e2).2
     rw [List.length_append,List.length_singleton] at this
     omega
   refine ⟨s',e,⟨hp.grows,Nat.le_of_lt (Nat.lt_of_le_of_lt hp.less hlk),fun e2=>by omega,fun _=>⟨Nat.lt_of_le_of_lt hp.less hlk,hlen⟩,fun e2=>by rw [e2] at hlen;omega⟩⟩
  ·rw [if_neg hh]
   obtain ⟨s',e,hp⟩:=ih s hrs hg
   refine ⟨s',e,⟨hp.grows,hp.less,hp.same,hp.loud,fun e2 l' q hc hw hn=>?_⟩⟩
   rcases List.mem_cons.1 hc.2 with e3|hq
   ·rw [hc.1,e3] at hn ⊢
    rw [hc.1] at hw
    by_cases h3:inL s l.from_ r.id
    ·exact h3
    ·exact absurd ⟨hw,hn.2,h3⟩ hh
   ·exact hp.quiet e2 l' q ⟨hc.1,hq⟩ hw hn
theorem f1085_l2_is {b:Base}{nm:List UInt8}{id n0:Int}{rec1:Int→List Ref→Option (List Ref)}(hf:BIG≤fu)(h:GoodB b):∀ (m n i:Nat) (s:List Ref),i+m=b.links.length→m<n→Grows b nm id s→
     ∃ s',f1085_l2 fu b n0 rec1 n (i:Int) s=rec1 n0 s'∧Pass b nm id (fun l r=>(∃ j,i≤j∧j<b.links.length∧b.links.getD j default=l)∧r∈(tabT b l.from_).rows) s s':=by
 intro m
 have h4:=h.ok.nlink
 induction m with
 | zero=>
  intro n i s hi hn hg
  obtain ⟨n,rfl⟩:∃ z,n=z+1:=⟨n-1,by omega⟩
  have:i=b.links.length:=by omega
  subst this
  refine ⟨s,by rw [f1085_l2,nlt];rfl,(Pass.refl hg).sub fun l r hh=>?_⟩
  obtain ⟨⟨j,h1,h2,_⟩,_⟩:=hh
  omega
 | succ m ih=>
  intro n i s hi hn hg
  obtain ⟨n,rfl⟩:∃ z,n=z+1:=⟨n-1,by omega⟩
  have hil:i<b.links.length:=by omega
  have hm:=getD_mem_links hil
  obtain ⟨s1,e1,p1⟩:=pass_rows h hm (tabT b (b.links.getD i default).from_).rows s (fun _ hr=>hr) hg
  obtain ⟨s',e2,p2⟩:=ih n (i+1) s1 (by omega) (by omega) p1.grows
  refine ⟨s',?_,(p1.trans p2).sub fun l r hh=>?_⟩
  ·rw [f1085_l2,ltR hil,ct,ge0,Bool.and_self,ct,tn,f1086_is hf h.g (h.ok.link hm).1,e1,bs,succI hil (by unfold BIG;omega)]
   exact e2
  ·obtain ⟨⟨j,h1,h2,h3⟩,hr⟩:=hh
   by_cases e:j=i
   ·subst e;subst h3
    exact .inl ⟨rfl,hr⟩
   ·exact .inr ⟨⟨j,by omega,h2,h3⟩,hr⟩
def Shut (b:Base)(s:List Ref):Prop:=∀ l r,l∈b.links→r∈(tabT b l.from_).rows→l.how=2→Names b (inL s) l r→inL s l.from_ r.id
theorem f1085_l1_is {b:Base}{nm:List UInt8}{id:Int}(hf:BIG≤fu)(h:GoodB b):∀ (m n:Nat) (i1:Int) (s:List Ref),lack b s≤m→m+2<n→Grows b nm id s→(i1=(s.length:Int)→Shut b s)→
     ∃ ks,f1085_l1 fu b n i1 s=some ks∧Grows b nm id ks∧Shut b ks:=by
 intro m
 induction m with
 | zero=>
  intro n i1 s hm hn hg hc
  obtain ⟨n,rfl⟩:∃ z,n=z+2:=⟨n-2,by omega⟩
  by_cases e:i1=(s.length:Int)
  ·exact ⟨s,by rw [f1085_l1,dt e];rfl,hg,hc e⟩
  obtain ⟨s',e1,p⟩:=f1085_l2_is (n0:=(s.length:Int)) (rec1:=f1085_l1 fu b (n+1)) hf h b.links.length fu 0 s (by omega) (by have:=h.ok.nlink;unfold BIG at hf;omega) hg
  by_cases es:s' = s
  ·subst es
   refine ⟨s',?_,hg,fun l r hl hr=>p.quiet rfl l r ⟨?_,hr⟩⟩
   ·rw [f1085_l1,df e]
    refine Eq.trans e1 ?_
    rw [f1085_l1,dt rfl];rfl
   ·obtain ⟨j,hj,rfl⟩:=List.getElem_of_mem hl
    exact ⟨j,Nat.zero_le _,hj,getD_lt hj⟩
  ·have:=(p.loud es).1
   omega
 | succ m ih=>
  intro n i1 s hm hn hg hc
  obtain ⟨n,rfl⟩:∃ z,n=z+2:=⟨n-2,by omega⟩
  by_cases e:i1=(s.length:Int)
  ·exact ⟨s,by rw [f1085_l1,dt e];rfl,hg,hc e⟩
  obtain ⟨s',e1,p⟩:=f1085_l2_is (n0:=(s.length:Int)) (rec1:=f1085_l1 fu b (n+1)) hf h b.links.length fu 0 s (by omega) (by have:=h.ok.nlink;unfold BIG at hf;omega) hg
  by_cases es:s' = s
  ·subst es
   refine ⟨s',?_,hg,fun l r hl hr=>p.quiet rfl l r ⟨?_,hr⟩⟩
   ·rw [f1085_l1,df e]
    refine Eq.trans e1 ?_
    rw [f1085_l1,dt rfl];rfl
   ·obtain ⟨j,hj,rfl⟩:=List.getElem_of_mem hl
    exact ⟨j,Nat.zero_le _,hj,getD_lt hj⟩
  ·have h2:=p.loud es
   obtain ⟨ks,e3,hk⟩:=ih (n+1) (s.length:Int) s' (by omega) (by omega) p.grows fun e4=>by omega
   refine ⟨ks,?_,hk⟩
   rw [f1085_l1,df e]
   exact e1.trans e3
theorem shut_all {b:Base}{nm:List UInt8}{id:Int}{s:List Ref}(hg:Grows b nm id s)(hc:Shut b s):∀ x n,Gone b nm id x n→inL s x n:=by
 intro x n hx
 induction hx with
 | self=>exact hg.self
 | @next lk r hl hr hw hv _ ih=>exact hc lk r hl hr hw ⟨hv,ih⟩
theorem f1085_is {b:Base}{nm:List UInt8}{id:Int}(hf:BIG≤fu)(h:GoodB b):∃ ks,f1085 fu b nm id=some ks∧(∀ x n,inL ks x n↔Gone b nm id x n)∧ks.length≤25:=by
 have hl:=lack_le h.ok [(⟨nm,id⟩:Ref)]
 have h0:Grows b nm id [(⟨nm,id⟩:Ref)]:=⟨fun x n hx=>by
  have:=inL_iff.1 hx
  rw [List.mem_singleton] at this
  cases this
  exact .self,⟨_,List.mem_singleton.2 rfl,rfl,rfl⟩,by rw [List.length_singleton];omega⟩
 obtain ⟨ks,e,hg,hc⟩:=f1085_l1_is (nm:=nm) (id:=id) hf h 24 fu 0 [(⟨nm,id⟩:Ref)] hl (by unfold BIG at hf;omega) h0 fun hh=>by simp at hh
 exact ⟨ks,e,fun x n=>⟨hg.sound x n,shut_all hg hc x n⟩,by have:=hg.len;omega⟩
end Go.Proofs.YtdpigighgmipfaaGreatDoor
/- A row taken away with those that go with it: the program does as the model. -/
namespace Go.Proofs.YtdpigighgmipfaaGreatDoor
open Go Go.HL
variable {fu:Nat}
theorem f1087_is {x0 x1:Int}{l:Link}{ks:List Ref}{s:Bool}:f1087 x0 x1 l ks s=some (s || B (l.how=1∧inL ks l.to x1∧¬ inL ks l.from_ x0)):=by
 unfold f1087
 rw [memK_B,memK_B]
 cases s
 case true=>rfl
 by_cases h1:l.how=1
 case neg=>rw [df h1,show B (l.how=1∧inL ks l.to x1∧¬ inL ks l.from_ x0)=false from B_f fun hh=>h1 hh.1];rfl
 rw [dt h1]
 by_cases h2:inL ks l.to x1
 case neg=>rw [B_f h2,show B (l.how=1∧inL ks l.to x1∧¬ inL ks l.from_ x0)=false from B_f fun hh=>h2 hh.2.1];rfl
 rw [B_t h2]
 by_cases h3:inL ks l.from_ x0
 ·rw [B_t h3,show B (l.how=1∧inL ks l.to x1∧¬ inL ks l.from_ x0)=false from B_f fun hh=>hh.2.2 h3];rfl
 ·rw [B_f h3,B_t ⟨h1,h2,h3⟩];rfl
theorem stop_rows {b:Base}{l:Link}{ks:List Ref}:∀ (rows:List Row) (s:Bool),namingM b l (fun x0 x1 s=>f1087 x0 x1 l ks s) rows s=some (s || B (l.how=1∧∃ r,r∈rows∧¬ inL ks l.from_ r.id∧Names b (inL ks) l r)):=by
 intro rows
 induction rows with
 | nil=>intro s;rw [namingM,B_f fun hh=>by obtain ⟨_,r,hr,_⟩:=hh;cases hr];cases s<;>rfl
 | cons r rs ih=>
  intro s
  rw [namingM]
  by_cases hv:(colV b l r).kind=0
  ·rw [if_pos hv,ih]
   congr 2
   refine B_congr (and_congr_right fun _=>⟨fun ⟨q,hq,hh⟩=>⟨q,List.mem_cons_of_mem _ hq,hh⟩,fun ⟨q,hq,hh⟩=>?_⟩)
   rcases List.mem_cons.1 hq with e|hq
   ·rw [e] at hh
    exact absurd hv hh.2.1
   ·exact ⟨q,hq,hh⟩
  rw [if_neg hv,f1087_is,bs,ih,Bool.or_assoc]
  congr 2
  rw [Bool.eq_iff_iff,Bool.or_eq_true,B_iff,B_iff,B_iff]
  constructor
  ·rintro (⟨h1,h2,h3⟩ | ⟨h1,q,hq,hh⟩)
   ·exact ⟨h1,r,List.mem_cons_self,h3,hv,h2⟩
   ·exact ⟨h1,q,List.mem_cons_of_mem _ hq,hh⟩
  ·rintro ⟨h1,q,hq,hh⟩
   rcases List.mem_cons.1 hq with e|hq
   ·rw [e] at hh
    exact .inl ⟨h1,hh.2.2,hh.1⟩
   ·exact .inr ⟨h1,q,hq,hh⟩
def StopAt (b:Base)(G:Dooms)(i:Nat):Prop:=(b.links.getD i default).how=1∧∃ r,r∈(tabT b (b.links.getD i default).from_).rows∧¬ G (b.links.getD i default).from_ r.id∧Names b G (b.links.getD i default) r
theorem stops_at {b:Base}{G:Dooms}:Stops b G↔∃ j,0≤j∧j<b.links.length∧StopAt b G j:=by
 constructor
 ·rintro ⟨l,hl,hw,hh⟩
  obtain ⟨i,hi,rfl⟩:=List.getElem_of_mem hl
  exact ⟨i,Nat.zero_le _,hi,by unfold StopAt;rw [getD_lt hi];exact ⟨hw,hh⟩⟩
 ·rintro ⟨i,_,hi,hw,hh⟩
  exact ⟨_,getD_mem hi,hw,hh⟩
theorem f1028_l1_is {b q4:Base}{ks:List Ref}(hf:BIG≤fu)(h:GoodB b):∀ (m n i:Nat) (s:Bool),i+m=b.links.length→m<n→
     f1028_l1 fu b q4 ks n (i:Int) s=f1028_j1 fu b q4 ks (s || B (∃ j,i≤j∧j<b.links.length∧StopAt b (inL ks) j)):=by
 intro m
 have h4:=h.ok.nlink
 induction m with
 | zero=>
  intro n i s hi hn
  obtain ⟨n,rfl⟩:∃ z,n=z+1:=⟨n-1,by omega⟩
  have:i=b.links.length:=by omega
  subst this
  rw [f1028_l1,nlt,B_f fun hh=>by obtain ⟨j,h1,h2,_⟩:=hh;omega,Bool.or_false];rfl
 | succ m ih=>
  intro n i s hi hn
  obtain ⟨n,rfl⟩:∃ z,n=z+1:=⟨n-1,by omega⟩
  have hil:i<b.links.length:=by omega
  have hm:=getD_mem_links hil
  rw [f1028_l1,ltR hil,ct,ge0,Bool.and_self,ct,tn,f1086_is hf h.g (h.ok.link hm).1,stop_rows,bs,succI hil (by unfold BIG;omega),ih n (i+1) _ (by omega) (by omega),Bool.or_assoc]
  congr 2
  rw [Bool.eq_iff_iff,Bool.or_eq_true,B_iff,B_iff,B_iff]
  constructor
  ·rintro (h1 | ⟨j,h1,h2,h3⟩)
   ·exact ⟨i,Nat.le_refl _,hil,h1⟩
   ·exact ⟨j,by omega,h2,h3⟩
  ·rintro ⟨j,h1,h2,h3⟩
   by_cases e:j=i
   ·subst e;exact .inl h3
   ·exact .inr ⟨j,by omega,h2,h3⟩
theorem fT_at {b:Base}{p:List UInt8→Row→Prop}{ψ:List UInt8→Row→Row}{nm:List UInt8}(hf:BIG≤fu)(h:GoodB b)(hk:tabN b nm<b.tabs.length):f1056 fu (⟨(baseW b p ψ).tabs,b.links⟩:Base) nm=some (tabN b nm:Int):=by
 rw [f1056_is hf (by show (baseW b p ψ).tabs.length≤1000;rw [baseW_len];exact h.sm.ntab)]
 congr 1
 have e1:tabN (⟨(baseW b p ψ).tabs,b.links⟩:Base) nm=tabN b nm:=baseW_tabN b p ψ _
 rw [tabI_lt (by rw [e1];show _ < (baseW b p ψ).tabs.length;rw [baseW_len];exact hk),e1]
theorem off_fold {b:Base}{ψ:List UInt8→Row→Row}{list:List Ref}(hf:BIG≤fu)(h:GoodB b)(hw:BaseWay b ψ)(hr:∀ j,j<list.length→tabN b (list.getD j default).name<b.tabs.length) :
     ∀ (m j:Nat),j+m=list.length→foldK (offStep fu b.links) (list.drop j) (baseW b (stayP list j) ψ).tabs=some (baseW b (stayP list list.length) ψ).tabs:=by
 intro m
 induction m with
 | zero=>
  intro j hj
  have:j=list.length:=by omega
  subst this
  rw [List.drop_length,foldK]
 | succ m ih=>
  intro j hj
  have hjl:j<list.length:=by omega
  have hs:=hr j hjl
  have go:=ih (j+1) (by omega)
  have gt:SmT (tabW (tabT b (list.getD j default).name) (stayP list j (list.getD j default).name) (ψ (list.getD j default).name)):=tabW_sm (h.tabT hs).sm (way_sm (h.tabT hs).ok (h.tabT hs).sm (hw.at_ hs))
  rw [dropN (d:=default) hjl,foldK]
  have e:offStep fu b.links (list.getD j default) (baseW b (stayP list j) ψ).tabs=some (baseW b (stayP list (j+1)) ψ).tabs:=by
   unfold offStep
   rw [fT_at hf h hs,bs,baseW_len,inR hs,ct,tn,baseW_at hs,f40_is hf gt,bs]
   show some (setTab (baseW b (stayP list j) ψ) (tabN b (list.getD j default).name) (offT (tabW (tabT b (list.getD j default).name) (stayP list j (list.getD j default).name) (ψ (list.getD j default).name)) (list.getD j default).id).1).tabs=_
   rw [off_step h hw hjl hs]
  rw [e,bs]
  exact go
def keepP (ks:List Ref)(nm:List UInt8)(r:Row):Prop:=¬ inL ks nm r.id
theorem inL_perm {p ks:List Ref}(hp:p.Perm ks){nm:List UInt8}{id:Int}:inL p nm id↔inL ks nm id:=by rw [inL_iff,inL_iff];exact hp.mem_iff
theorem off_any {b:Base}{ks:List Ref}(hf:BIG≤fu)(h:GoodB b)(hr:∀ x n,inL ks x n→tabN b x<b.tabs.length):anyM (offStep fu b.links) ks b.tabs=some (baseW b (keepP ks) (fun _ r=>r)).tabs:=by
 refine anyM_of fun p hp=>?_
 have hr':∀ j,j<p.length→tabN b (p.getD j default).name<b.tabs.length:=fun j hj=>hr _ (p.getD j default).id ((inL_perm hp).1 ⟨_,getD_mem hj,rfl,rfl⟩)
 have:=off_fold (list:=p) hf h (BaseWay.same h.ok) hr' p.length 0 (by omega)
 rw [List.drop_zero,stay_zero] at this
 have e:baseW b allP (fun _ r=>r)=b:=baseW_all
 rw [e] at this
 rw [this]
 congr 2
 refine baseW_rows h.ok (fun x hx r hr=>?_) fun _ _ _ _ _=>rfl
 unfold stayP keepP
 rw [List.take_length]
 exact not_congr (inL_perm hp)
theorem f1089_is {x0 x1:Int}{l:Link}{ks:List Ref}{links:List Link}{T:List Tab}:f1089 fu x0 x1 l ks links T=@ite _ (l.how=3∧inL ks l.to x1∧¬ inL ks l.from_ x0) (Classical.propDecidable _) (f1089_j1 fu x0 l links T true) (some T):=by
 unfold f1089
 rw [memK_B,memK_B]
 have e:f1089_j1 fu x0 l links T false=some T:=rfl
 by_cases h1:l.how=3
 case neg=>rw [df h1,if_neg fun hh=>h1 hh.1];exact e
 rw [dt h1,ct]
 by_cases h2:inL ks l.to x1
 case neg=>rw [B_f h2,if_neg fun hh=>h2 hh.2.1];exact e
 rw [B_t h2,ct]
 by_cases h3:inL ks l.from_ x0
 ·rw [B_t h3,if_neg fun hh=>hh.2.2 h3];exact e
 ·rw [B_f h3,if_pos ⟨h1,h2,h3⟩];rfl
noncomputable def midP (b:Base) (ks:List Ref) (i:Nat) (nm:List UInt8) (k:Nat):Base:=baseW b (keepP ks) (updN (freeG b (inL ks) i) nm (freeK b (inL ks) i nm k))
theorem midP_zero {b:Base}{ks:List Ref}{i:Nat}{nm:List UInt8}(h:BaseOK b):midP b ks i nm 0=baseW b (keepP ks) (freeG b (inL ks) i):=by
 refine baseW_rows h (fun _ _ _ _=>Iff.rfl) fun x hx r hr _=>?_
 by_cases e:x=nm
 ·subst e
  rw [updN_self]
  exact if_neg fun ⟨j,h1,_⟩=>absurd h1 (Nat.not_lt_zero _)
 ·rw [updN_other _ _ e]
theorem midP_all {b:Base}{ks:List Ref}{i:Nat}(h:BaseOK b)(hi:i<b.links.length):midP b ks i (b.links.getD i default).from_ (tabT b (b.links.getD i default).from_).rows.length=baseW b (keepP ks) (freeG b (inL ks) (i+1)):=by
 refine baseW_rows h (fun _ _ _ _=>Iff.rfl) fun x hx r hr _=>?_
 by_cases e:x=(b.links.getD i default).from_
 ·subst e
  rw [updN_self]
  obtain ⟨j,hj,rfl⟩:=List.getElem_of_mem hr
  exact if_pos ⟨j,hj,hj,by rw [getD_lt hj]⟩
 ·rw [updN_other _ _ e]
  exact (freeG_same hi (.inr fun hh=>e hh.1.symm)).symm
theorem free_rows {b:Base}{ks:List Ref}(hf:BIG≤fu)(h:GoodB b){i:Nat}(hi:i<b.links.length):∀ (m k:Nat),k+m=(tabT b (b.links.getD i default).from_).rows.length→
     namingM b (b.links.getD i default) (fun x0 x1 s=>f1089 fu x0 x1 (b.links.getD i default) ks b.links s) ((tabT b (b.links.getD i default).from_).rows.drop k) (midP b ks i (b.links.getD i default).from_ k).tabs=some (baseW b (keepP ks) (freeG b (inL ks) (i+1))).tabs:=by
 have hfit:=(h.ok.links i hi).fits
 have hs:=hfit.src
 have g:=h.tabT hs
 intro m
 induction m with
 | zero=>
  intro k hk
  have:k=(tabT b (b.links.getD i default).from_).rows.length:=by omega
  subst this
  rw [List.drop_length,namingM,midP_all h.ok hi]
 | succ m ih=>
  intro k hk
  have hkl:k < (tabT b (b.links.getD i default).from_).rows.length:=by omega
  have hmem:(tabT b (b.links.getD i default).from_).rows.getD k default∈(tabT b (b.links.getD i default).from_).rows:=getD_mem hkl
  have go:=ih (k+1) (by omega)
  have hway:=freeK_way (G:=inL ks) (i:=i) (k:=k) h.ok hs
  have quiet:(inL ks (b.links.getD i default).from_ ((tabT b (b.links.getD i default).from_).rows.getD k default).id∨¬ Hit b (inL ks) (b.links.getD i default).from_ (b.links.getD i default) ((tabT b (b.links.getD i default).from_).rows.getD k default))→midP b ks i (b.links.getD i default).from_ k=midP b ks i (b.links.getD i default).from_ (k+1):=fun hq=>by
   refine baseW_rows h.ok (fun _ _ _ _=>Iff.rfl) fun x hx r hr _=>?_
   by_cases e:x=(b.links.getD i default).from_
   ·subst e
    rw [updN_self,updN_self,freeK_next h.ok hs hkl hr]
    split
    ·rename_i e2
     have:r=(tabT b (b.links.getD i default).from_).rows.getD k default:=row_eq g.ok hr hmem e2
     subst this
     rw [freeK_at h.ok hs hkl,freeG_same hi hq]
    ·rfl
   ·rw [updN_other _ _ e,updN_other _ _ e]
  rw [dropN (d:=default) hkl,namingM]
  by_cases hv:(colV b (b.links.getD i default) ((tabT b (b.links.getD i default).from_).rows.getD k default)).kind=0
  ·rw [if_pos hv,quiet (.inr fun hh=>hh.2.2.1 hv)]
   exact go
  rw [if_neg hv,f1089_is]
  by_cases hh:(b.links.getD i default).how=3∧inL ks (b.links.getD i default).to (colV b (b.links.getD i default) ((tabT b (b.links.getD i default).from_).rows.getD k default)).n∧¬ inL ks (b.links.getD i default).from_ ((tabT b (b.links.getD i default).from_).rows.getD k default).id
  case neg=>
   rw [if_neg hh,bs,quiet ?_]
   ·exact go
   ·by_cases h3:inL ks (b.links.getD i default).from_ ((tabT b (b.links.getD i default).from_).rows.getD k default).id
    ·exact .inl h3
    ·exact .inr fun h4=>hh ⟨h4.2.1,h4.2.2.2,h3⟩
  have c1:=hh.2.2
  have c2:Hit b (inL ks) (b.links.getD i default).from_ (b.links.getD i default) ((tabT b (b.links.getD i default).from_).rows.getD k default):=⟨rfl,hh.1,hv,hh.2.1⟩
  rw [if_pos hh]
  have hmt:Good (tabW (tabT b (b.links.getD i default).from_) (keepP ks (b.links.getD i default).from_) (freeK b (inL ks) i (b.links.getD i default).from_ k)):=⟨tabW_ok g.ok hway,tabW_sm g.sm (way_sm g.ok g.sm hway)⟩
  have hset:=setT_tabW (p:=keepP ks (b.links.getD i default).from_) g.ok hway (id:=((tabT b (b.links.getD i default).from_).rows.getD k default).id) (col:=(b.links.getD i default).col) hfit.col (hfit.need hh.1) ⟨_,hmem,c1,rfl⟩
  have hsx:SmX [(⟨(b.links.getD i default).col,nul⟩:Set)]:=⟨by simp,fun x hx=>by rw [List.mem_singleton.1 hx];exact nul_ok.sm⟩
  have e0:((midP b ks i (b.links.getD i default).from_ k).tabs.getD (tabN b (b.links.getD i default).from_) default).table=tabW (tabT b (b.links.getD i default).from_) (keepP ks (b.links.getD i default).from_) (freeK b (inL ks) i (b.links.getD i default).from_ k):=by
   unfold midP
   rw [baseW_at hs,updN_self]
  have e1:f1089_j1 fu ((tabT b (b.links.getD i default).from_).rows.getD k default).id (b.links.getD i default) b.links (midP b ks i (b.links.getD i default).from_ k).tabs true=some (midP b ks i (b.links.getD i default).from_ (k+1)).tabs:=by
   have e2:(midP b ks i (b.links.getD i default).from_ k).tabs.length=b.tabs.length:=baseW_len ..
   unfold f1089_j1
   rw [ct,show f1056 fu (⟨(midP b ks i (b.links.getD i default).from_ k).tabs,b.links⟩:Base) (b.links.getD i default).from_=some (tabN b (b.links.getD i default).from_:Int) from fT_at hf h hs,bs,e2,inR hs,ct,tn,e0]
   show (f75 fu _ _ [(⟨(b.links.getD i default).col,nul⟩:Set)]).bind _=_
   rw [f75_is hf hmt.ok hmt.sm hsx,hset,bs]
   show some (setTab (midP b ks i (b.links.getD i default).from_ k) (tabN b (b.links.getD i default).from_) (tabW (tabT b (b.links.getD i default).from_) (keepP ks (b.links.getD i default).from_) (updR (freeK b (inL ks) i (b.links.getD i default).from_ k) ((tabT b (b.links.getD i default).from_).rows.getD k default).id (clearR (tabT b (b.links.getD i default).from_) (colN b (b.links.getD i default)))))).tabs=_
   congr 2
   unfold midP
   rw [baseW_set h.ok.place hs]
   refine baseW_rows h.ok (fun x hx r hr=>?_) fun x hx r hr _=>?_
   ·by_cases e:x=(b.links.getD i default).from_
    ·subst e;rw [updN_self]
    ·rw [updN_other _ _ e]
   ·by_cases e:x=(b.links.getD i default).from_
    ·subst e
     rw [updN_self,updN_self,freeK_next h.ok hs hkl hr]
     unfold updR
     by_cases e2:r.id=((tabT b (b.links.getD i default).from_).rows.getD k default).id
     ·rw [if_pos e2,if_pos e2]
      have:r=(tabT b (b.links.getD i default).from_).rows.getD k default:=row_eq g.ok hr hmem e2
      subst this
      rw [freeK_at h.ok hs hkl,freeG_hit hi c1 c2]
     ·rw [if_neg e2,if_neg e2]
    ·rw [updN_other _ _ e,updN_other _ _ e,updN_other _ _ e]
  rw [e1,bs]
  exact go
theorem f1028_l2_is {b:Base}{ks:List Ref}(hf:BIG≤fu)(h:GoodB b):∀ (m n i:Nat),i+m=b.links.length→m<n→
     f1028_l2 fu b ks b.links n (i:Int) (baseW b (keepP ks) (freeG b (inL ks) i)).tabs=some ((⟨(baseW b (keepP ks) (freeG b (inL ks) b.links.length)).tabs,b.links⟩:Base),0):=by
 intro m
 have h4:=h.ok.nlink
 induction m with
 | zero=>
  intro n i hi hn
  obtain ⟨n,rfl⟩:∃ z,n=z+1:=⟨n-1,by omega⟩
  have:i=b.links.length:=by omega
  subst this
  rw [f1028_l2,nlt];rfl
 | succ m ih=>
  intro n i hi hn
  obtain ⟨n,rfl⟩:∃ z,n=z+1:=⟨n-1,by omega⟩
  have hil:i<b.links.length:=by omega
  have hm:=getD_mem_links hil
  have e:=free_rows (ks:=ks) hf h hil (tabT b (b.links.getD i default).from_).rows.length 0 (by omega)
  rw [List.drop_zero,midP_zero h.ok] at e
  rw [f1028_l2,ltR hil,ct,ge0,Bool.and_self,ct,tn,f1086_is hf h.g (h.ok.link hm).1,e,bs,succI hil (by unfold BIG;omega)]
  exact ih n (i+1) (by omega) (by omega)
theorem f1084_is {b:Base}{nm:List UInt8}{id:Int}(hf:BIG≤fu)(h:SmB b):f1084 fu b nm id=some (B (HasRow b nm id)):=by
 unfold f1084 f1084_j1
 rw [f1056_is hf h.ntab,bs,tabI_ge]
 by_cases hk:tabN b nm<b.tabs.length
 case neg=>rw [B_f hk,B_f fun hh=>hk hh.1];rfl
 have hN:(tabT b nm).rows.length≤1000:=(h.tabs _ hk).nrow
 rw [B_t hk,tabI_lt hk,ct,ltR hk,Bool.and_self,ct,tn,tabT_at,f48_is hf hN,bs,rowI_ge]
 congr 1
 exact B_congr ⟨fun hh=>⟨hk,hh⟩,fun hh=>hh.2⟩
theorem gone_has {b:Base}{nm:List UInt8}{id:Int}(h:BaseOK b)(h1:HasRow b nm id):∀ {x:List UInt8} {n:Int},Gone b nm id x n→HasRow b x n:=by
 intro x n hx
 cases hx with
 | self=>exact h1
 | next hl hr hw hv hg=>exact hasRow_mem (h.link hl).1.src hr
theorem f1028_is {b:Base}{nm:List UInt8}{id:Int}(hf:BIG≤fu)(h:SmB b):f1028 fu b nm id=some (offBB b nm id):=by
 unfold f1028 offBB
 rw [f1020_is hf h,bs]
 by_cases hk:BaseOK b
 case neg=>rw [B_f hk,if_neg hk];rfl
 rw [B_t hk,if_pos hk]
 simp only [Bool.not_true,cf]
 rw [f1054_is hf h,bs,f1084_is hf h,bs]
 unfold offX
 by_cases h1:HasRow b nm id
 case neg=>rw [B_f h1,if_pos h1];rfl
 rw [B_t h1,if_neg (fun hh=>hh h1)]
 simp only [Bool.not_true,cf]
 have hg:GoodB b:=⟨hk,h⟩
 obtain ⟨ks,e,hs,hn⟩:=f1085_is (nm:=nm) (id:=id) hf hg
 have hG:inL ks=Gone b nm id:=by funext x n;exact propext (hs x n)
 rw [e,bs]
 have e1:=f1028_l1_is (q4:=b) (ks:=ks) hf hg b.links.length fu 0 false (by omega) (by have:=hk.nlink;unfold BIG at hf;omega)
 refine Eq.trans e1 ?_
 rw [Bool.false_or,B_congr stops_at.symm,hG]
 unfold f1028_j1
 by_cases h2:Stops b (Gone b nm id)
 ·rw [B_t h2,if_pos h2];rfl
 rw [B_f h2,if_neg h2,cf,off_any hf hg fun x n hx=>(gone_has hk h1 ((hs x n).1 hx)).1,bs]
 have e2:=f1028_l2_is (ks:=ks) hf hg b.links.length fu 0 (by omega) (by have:=hk.nlink;unfold BIG at hf;omega)
 rw [freeG_zero] at e2
 refine Eq.trans e2 ?_
 congr 2
 show baseW b (keepP ks) (freeG b (inL ks) b.links.length)=offG b (Gone b nm id)
 rw [← hG]
 refine baseW_rows hk (fun _ _ _ _=>Iff.rfl) fun x hx r hr hp=>?_
 unfold freeG
 rw [if_neg (show ¬ inL ks x r.id from hp),List.take_length]
end Go.Proofs.YtdpigighgmipfaaGreatDoor
/- The rows that go, in the order of tables and rows: the program's list is the model's. -/
namespace Go.Proofs.YtdpigighgmipfaaGreatDoor
open Go Go.HL
variable {fu:Nat}
theorem f1095_l2_is {b:Base}{ks:List Ref}(h:GoodB b){i:Nat}(hi:i<b.tabs.length){rec1:Int→List Ref→Option (List Ref)}{pre:List Ref}(hp:pre.length≤1000) :
     ∀ (m n k:Nat),k+m=(b.tabs.getD i default).table.rows.length→m<n→f1095_l2 b ks (i:Int) rec1 n (k:Int) (pre++rowsGk (inL ks) (b.tabs.getD i default) k)=rec1 ((i+1:Nat):Int) (pre++rowsG (inL ks) (b.tabs.getD i default)):=by
 intro m
 have hlen:=(h.ok.tabs i hi).ok.nrow
 have h3:=h.ok.ntab
 unfold tabK at hlen
 have ei:=succI (show i<b.tabs.length from hi) (show b.tabs.length≤BIG by unfold BIG;omega)
 induction m with
 | zero=>
  intro n k hk hn
  obtain ⟨n,rfl⟩:∃ z,n=z+1:=⟨n-1,by omega⟩
  have:k=(b.tabs.getD i default).table.rows.length:=by omega
  subst this
  rw [f1095_l2,tn,nlt,cf,ei,rowsGk_all]
 | succ m ih=>
  intro n k hk hn
  obtain ⟨n,rfl⟩:∃ z,n=z+1:=⟨n-1,by omega⟩
  have hkl:k < (b.tabs.getD i default).table.rows.length:=by omega
  have ek:=succI hkl (show (b.tabs.getD i default).table.rows.length≤BIG by unfold BIG;omega)
  have go:=ih n (k+1) (by omega) (by omega)
  have hgl:=rowsGk_len (inL ks) (b.tabs.getD i default) k
  rw [f1095_l2,tn,tn,ltR hkl,ct,ge0,Bool.and_self,ct,memK_B]
  rw [rowsGk_succ hkl] at go
  by_cases c1:inL ks (b.tabs.getD i default).name ((b.tabs.getD i default).table.rows.getD k default).id
  ·rw [B_t c1] at go ⊢
   rw [ct,cap (by rw [List.length_singleton,List.length_append];omega),ct,ek]
   rw [if_pos rfl,← List.append_assoc] at go
   exact go
  ·rw [B_f c1] at go ⊢
   rw [cf,ek]
   rw [if_neg (by simp),List.append_nil] at go
   exact go
theorem f1095_l1_is {b:Base}{ks:List Ref}(hf:BIG≤fu)(h:GoodB b) :
     ∀ (m n i:Nat),i+m=b.tabs.length→m<n→f1095_l1 fu b ks n (i:Int) ((b.tabs.take i).flatMap (rowsG (inL ks)))=some (goneL b (inL ks)):=by
 intro m
 have h3:=h.ok.ntab
 induction m with
 | zero=>
  intro n i hi hn
  obtain ⟨n,rfl⟩:∃ z,n=z+1:=⟨n-1,by omega⟩
  have:i=b.tabs.length:=by omega
  subst this
  rw [f1095_l1,nlt,cf,List.take_length];rfl
 | succ m ih=>
  intro n i hi hn
  obtain ⟨n,rfl⟩:∃ z,n=z+1:=⟨n-1,by omega⟩
  have hil:i<b.tabs.length:=by omega
  have hlen:=goneK_len h.ok (inL ks) i
  have hrow:=(h.ok.tabs i hil).ok.nrow
  unfold tabK at hrow
  have go:=ih n (i+1) (by omega) (by omega)
  rw [takeN (d:=default) hil,List.flatMap_append,List.flatMap_cons,List.flatMap_nil,List.append_nil] at go
  have e:=f1095_l2_is (ks:=ks) (rec1:=f1095_l1 fu b ks n) h hil (pre:=(b.tabs.take i).flatMap (rowsG (inL ks))) (by omega) (b.tabs.getD i default).table.rows.length fu 0 (by omega) (by unfold BIG at hf;omega)
  have e0:rowsGk (inL ks) (b.tabs.getD i default) 0=[]:=by unfold rowsGk;simp
  rw [e0,List.append_nil] at e
  rw [f1095_l1,ltR hil,ct,ge0,Bool.and_self,ct]
  exact e.trans go
theorem f1095_is {b:Base}{ks:List Ref}(hf:BIG≤fu)(h:GoodB b):f1095 fu b ks=some (goneL b (inL ks)):=by
 unfold f1095
 exact f1095_l1_is hf h b.tabs.length fu 0 (by omega) (by have:=h.ok.ntab;unfold BIG at hf;omega)
open Classical in
noncomputable def goneBB (b:Base) (nm:List UInt8) (id:Int):List Ref:=if BaseOK b∧HasRow b nm id then goneL b (Gone b nm id) else []
theorem f1031_is {b:Base}{nm:List UInt8}{id:Int}(hf:BIG≤fu)(h:SmB b):f1031 fu b nm id=some (goneBB b nm id):=by
 unfold f1031 goneBB f1031_j1
 rw [f1020_is hf h,bs]
 by_cases hk:BaseOK b
 case neg=>rw [B_f hk,if_neg fun hh=>hk hh.1];rfl
 rw [B_t hk]
 simp only [Bool.not_true,cf]
 rw [f1084_is hf h,bs]
 by_cases h1:HasRow b nm id
 case neg=>rw [B_f h1,if_neg fun hh=>h1 hh.2];rfl
 rw [B_t h1,if_pos ⟨hk,h1⟩]
 simp only [Bool.not_true,cf]
 have hg:GoodB b:=⟨hk,h⟩
 obtain ⟨ks,e,hs,hn⟩:=f1085_is (nm:=nm) (id:=id) hf hg
 have hG:inL ks=Gone b nm id:=by funext x n;exact propext (hs x n)
 rw [e,bs,f1095_is hf hg,hG];rfl
end Go.Proofs.YtdpigighgmipfaaGreatDoor
/- What a row's going leaves. -/
namespace Go.Proofs.YtdpigighgmipfaaGreatDoor
open Go Go.HL
variable {fu:Nat}
theorem offBB_cases {b:Base}(h:BaseOK b)(nm:List UInt8)(id:Int):(¬ HasRow b nm id∧offBB b nm id=(b,5))∨(HasRow b nm id∧Stops b (Gone b nm id)∧offBB b nm id=(b,6))∨(HasRow b nm id∧¬ Stops b (Gone b nm id)∧offBB b nm id=(offG b (Gone b nm id),0)):=by
 unfold offBB offX
 rw [if_pos h]
 by_cases h1:HasRow b nm id
 case neg=>rw [if_pos h1];exact .inl ⟨h1,rfl⟩
 rw [if_neg (fun hh=>hh h1)]
 by_cases h2:Stops b (Gone b nm id)
 ·rw [if_pos h2];exact .inr (.inl ⟨h1,h2,rfl⟩)
 ·rw [if_neg h2];exact .inr (.inr ⟨h1,h2,rfl⟩)
theorem goneBB_len (b:Base)(nm:List UInt8)(id:Int):(goneBB b nm id).length≤24:=by
 unfold goneBB
 split
 case isTrue h=>exact goneL_len h.1 _
 ·exact Nat.zero_le _
end Go.Proofs.YtdpigighgmipfaaGreatDoor
