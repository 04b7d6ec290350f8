/- The rows that go with one: the document's list. -/
import Derived.Test.YtdpigighgmipfaaGreatDoorQ1005M28
set_option linter.all false
namespace Go.Proofs.YtdpigighgmipfaaGreatDoor
open Go Go.HL
variable {fu:Nat}
def inL (list:List Ref):Dooms:=fun nm id=>∃ r,r∈list∧r.name=nm∧r.id=id
theorem inL_iff {list:List Ref}{nm:List UInt8}{id:Int}:inL list nm id↔(⟨nm,id⟩:Ref)∈list:=by
 constructor
 ·rintro ⟨r,hr,rfl,rfl⟩;exact hr
 ·exact fun h=>⟨_,h,rfl,rfl⟩
theorem inL_snoc {list:List Ref}{x:Ref}{nm:List UInt8}{id:Int}:inL (list++[x]) nm id↔inL list nm id∨(x.name=nm∧x.id=id):=by
 rw [inL_iff,inL_iff,List.mem_append,List.mem_singleton]
 refine or_congr Iff.rfl ⟨fun h=>by rw [← h];exact ⟨rfl,rfl⟩,fun h=>by cases x;cases h.1;cases h.2;rfl⟩
theorem f1182_is {list:List Ref}{nm:List UInt8}{id:Int}(hf:BIG≤fu)(h:list.length≤1000):f1182 fu list nm id=some (B (inL list nm id)):=by
 unfold f1182
 have step:∀ n (k:Nat),k<list.length→f1182_l1 list nm id (n+1) (k:Int)=f1182_j2 (k:Int) (f1182_l1 list nm id n) (B ((list.getD k default).name=nm∧(list.getD k default).id=id)):=fun n k hk=>by
  rw [f1182_l1,ltR hk,ct,ge0,Bool.and_self,ct,tn,ct,B_and,dec_B,dec_B]
  cases B ((list.getD k default).name=nm)<;>rfl
 have e:inL list nm id↔∃ k,k<list.length∧((list.getD k default).name=nm∧(list.getD k default).id=id):=by
  constructor
  ·rintro ⟨r,hr,h⟩
   obtain ⟨k,hk,rfl⟩:=List.getElem_of_mem hr
   exact ⟨k,hk,by rw [getD_lt hk];exact h⟩
  ·rintro ⟨k,hk,h⟩
   exact ⟨_,getD_mem hk,h⟩
 rw [B_congr e,← ite_B]
 refine loopE (L:=f1182_l1 list nm id) _ _ _ (by unfold BIG;omega) (fun n=>?_) (fun n k hk hp=>?_) (fun n k hk hp=>?_) (by unfold BIG at hf;omega)
 ·rw [f1182_l1,nlt];rfl
 ·rw [step n k hk,B_t hp];rfl
 ·rw [step n k hk,B_f hp];rfl
theorem f1184_is {b:Base}{l:Link}{k:Nat}{list:List Ref}(hf:BIG≤fu)(h:TabsG b)(hl:LinkFits b l)(hk:k < (tabT b l.from_).rows.length)(hn:list.length≤1000):f1184 fu b l (k:Int) list=some (B (Names b (inL list) l ((tabT b l.from_).rows.getD k default))):=by
 have g:=h.tab hl.src
 unfold f1184 f1184_j1
 rw [f1062_is hf h.sm.ntab,bs,tabI_lt hl.src,inR hl.src,ct,tn,tabT_at,f1130_is hf g hk hl.col,bs,colV_at]
 unfold Names
 by_cases hv:(colV b l ((tabT b l.from_).rows.getD k default)).kind=0
 ·rw [dt hv,B_f fun hh=>hh.1 hv];rfl
 ·rw [df hv,f1182_is hf hn,bs]
  simp only [Bool.not_false,ct]
  congr 1
  exact B_congr ⟨fun hh=>⟨hv,hh⟩,fun hh=>hh.2⟩
theorem f1184o_is {b:Base}{l:Link}{k:Nat}{list:List Ref}(hf:BIG≤fu)(h:TabsG b)(hl:LinkFits b l)(hk:k < (tabT b l.from_).rows.length)(hn:list.length≤1000):f1184o fu b l (k:Int) list=some (B (Names b (inL list) l ((tabT b l.from_).rows.getD k default))):=by
 have e:f1184o fu b l (k:Int) list=f1184 fu b l (k:Int) list:=by unfold f1184o f1184 f1184o_j1 f1184_j1;rw [o1062]
 rw [e];exact f1184_is hf h hl hk hn
def Goes (b:Base)(G:Dooms)(nm:List UInt8)(r:Row):Prop:=∃ l,l∈b.links∧l.from_=nm∧l.how=2∧Names b G l r
theorem f1183_is {b:Base}{nm:List UInt8}{k:Nat}{list:List Ref}(hf:BIG≤fu)(h:GoodB b)(hk:k < (tabT b nm).rows.length)(hn:list.length≤1000):f1183 fu b nm (k:Int) list=some (B (Goes b (inL list) nm ((tabT b nm).rows.getD k default))):=by
 have hL:=h.sm.nlink
 unfold f1183
 have step:∀ n (i:Nat),i<b.links.length→f1183_l1 fu b nm (k:Int) list (n+1) (i:Int)=f1183_j2 (i:Int) (f1183_l1 fu b nm (k:Int) list n) (B ((b.links.getD i default).from_=nm∧(b.links.getD i default).how=2∧Names b (inL list) (b.links.getD i default) ((tabT b nm).rows.getD k default))):=fun n i hi=>by
  rw [f1183_l1,ltR hi,ct,ge0,Bool.and_self,ct,tn]
  by_cases h1:(b.links.getD i default).from_=nm
  case neg=>rw [df h1,B_f fun hh=>h1 hh.1];rfl
  rw [dt h1,ct]
  by_cases h2:(b.links.getD i default).how=2
  case neg=>rw [df h2,B_f fun hh=>h2 hh.2.1];rfl
  have hfit:=(h.ok.links i hi).fits
  rw [dt h2,ct,f1184_is hf h.g hfit (by rw [h1];exact hk) hn,bs,h1]
  congr 1
  exact B_congr ⟨fun hh=>⟨rfl,h2,hh⟩,fun hh=>hh.2.2⟩
 have e:Goes b (inL list) nm ((tabT b nm).rows.getD k default)↔∃ i,i<b.links.length∧((b.links.getD i default).from_=nm∧(b.links.getD i default).how=2∧Names b (inL list) (b.links.getD i default) ((tabT b nm).rows.getD k default)):=by
  constructor
  ·rintro ⟨l,hl,hh⟩
   obtain ⟨i,hi,rfl⟩:=List.getElem_of_mem hl
   exact ⟨i,hi,by rw [getD_lt hi];exact hh⟩
  ·rintro ⟨i,hi,hh⟩
   exact ⟨_,getD_mem hi,hh⟩
 rw [B_congr e,← ite_B]
 refine loopE (L:=f1183_l1 fu b nm (k:Int) list) _ _ _ (by unfold BIG;omega) (fun n=>?_) (fun n i hi hp=>?_) (fun n i hi hp=>?_) (by unfold BIG at hf;omega)
 ·rw [f1183_l1,nlt];rfl
 ·rw [step n i hi,B_t hp];rfl
 ·rw [step n i hi,B_f hp];rfl
def refsT (t:Tab):List Ref:=t.table.rows.map fun r=>⟨t.name,r.id⟩
def refsB (b:Base):List Ref:=b.tabs.flatMap refsT
theorem refs_len {b:Base}(h:BaseOK b):(refsB b).length≤24:=by
 have key:∀ l:List Tab,(∀ t,t∈l→t.table.rows.length≤8)→(l.flatMap refsT).length≤8*l.length:=by
  intro l
  induction l with
  | nil=>intro _;simp
  | cons t l ih=>
   intro hl
   rw [List.flatMap_cons,List.length_append,List.length_cons]
   have h1:=hl t List.mem_cons_self
   have h2:=ih fun x hx=>hl x (List.mem_cons_of_mem _ hx)
   have h3:(refsT t).length=t.table.rows.length:=by unfold refsT;simp
   omega
 have h3:=h.ntab
 have:=key b.tabs fun t ht=>by
  obtain ⟨k,hk,rfl⟩:=List.getElem_of_mem ht
  have:=((h.tabs k hk).ok).nrow
  unfold tabK at this
  rwa [getD_lt hk] at this
 unfold refsB
 omega
theorem refs_mem {b:Base}{t:Tab}(ht:t∈b.tabs){r:Row}(hr:r∈t.table.rows):(⟨t.name,r.id⟩:Ref)∈refsB b:=List.mem_flatMap.2 ⟨t,ht,List.mem_map.2 ⟨r,hr,rfl⟩⟩
noncomputable def lack (b:Base) (list:List Ref):Nat:=((refsB b).filter fun r=>!decide (r∈list)).length
theorem filter_less {α:Type}{l:List α}{p q:α→Bool}{x:α}(hx:x∈l)(h1:p x=true)(h2:q x=false)(hpq:∀ y,q y=true→p y=true):(l.filter q).length < (l.filter p).length:=by
 induction l with
 | nil=>cases hx
 | cons y l ih=>
  have hle:(l.filter q).length≤(l.filter p).length:=by
   clear ih hx
   induction l with
   | nil=>simp
   | cons z l ih=>
    rw [List.filter_cons,List.filter_cons]
    cases hq:q z with
    | true=>rw [hpq z hq];simpa using ih
    | false=>cases p z<;>simp<;>omega
  rw [List.filter_cons,List.filter_cons]
  rcases List.mem_cons.1 hx with rfl|hx
  ·rw [h1,h2];simp;omega
  ·have:=ih hx
   cases hq:q y with
   | true=>rw [hpq y hq];simpa using this
   | false=>cases p y<;>simp<;>omega
theorem lack_snoc {b:Base}{list:List Ref}{x:Ref}(hx:x∈refsB b)(hn:x∉list):lack b (list++[x])<lack b list:=by
 unfold lack
 refine filter_less hx (by simp [hn]) (by simp) fun y hy=>?_
 simp only [Bool.not_eq_true',decide_eq_false_iff_not,List.mem_append,not_or] at hy ⊢
 exact hy.1
theorem lack_le {b:Base}(h:BaseOK b)(list:List Ref):lack b list≤24:=Nat.le_trans (List.length_filter_le ..) (refs_len h)
structure Grows (b:Base) (nm:List UInt8) (id:Int) (list:List Ref):Prop where
 sound:∀ x n,inL list x n→Gone b nm id x n
 self:inL list nm id
 len:list.length+lack b list≤25
structure Sweep (b:Base) (nm:List UInt8) (id:Int) (C:List UInt8→Row→Prop) (t:Bool) (l:List Ref) (t':Bool) (l':List Ref):Prop where
 grows:Grows b nm id l'
 less:lack b l'≤lack b l
 quiet:t' = false→t=false∧l' = l∧∀ x r,C x r→inL l x r.id∨¬ Goes b (inL l) x r
 loud:t' = true→t=true∨lack b l'<lack b l
theorem Sweep.refl {b:Base}{nm:List UInt8}{id:Int}{t:Bool}{l:List Ref}(h:Grows b nm id l):Sweep b nm id (fun _ _=>False) t l t l:=⟨h,Nat.le_refl _,fun e=>⟨e,rfl,fun _ _ h=>h.elim⟩,fun e=>.inl e⟩
theorem Sweep.trans {b:Base}{nm:List UInt8}{id:Int}{C D:List UInt8→Row→Prop}{t t' t'':Bool}{l l' l'':List Ref}(h:Sweep b nm id C t l t' l')(g:Sweep b nm id D t' l' t'' l''):Sweep b nm id (fun x r=>C x r∨D x r) t l t'' l'':=by
 refine ⟨g.grows,Nat.le_trans g.less h.less,fun e=>?_,fun e=>?_⟩
 ·obtain ⟨e1,e2,e3⟩:=g.quiet e
  obtain ⟨e4,e5,e6⟩:=h.quiet e1
  subst e5
  exact ⟨e4,e2,fun x r hc=>hc.elim (e6 x r) (e3 x r)⟩
 ·rcases g.loud e with e1|e1
  ·rcases h.loud e1 with e2|e2
   ·exact .inl e2
   ·exact .inr (Nat.lt_of_le_of_lt g.less e2)
  ·exact .inr (Nat.lt_of_lt_of_le e1 h.less)
theorem Sweep.sub {b:Base}{nm:List UInt8}{id:Int}{C D:List UInt8→Row→Prop}{t t':Bool}{l l':List Ref}(h:Sweep b nm id C t l t' l')(hs:∀ x r,D x r→C x r):Sweep b nm id D t l t' l':=
 ⟨h.grows,h.less,fun e=>⟨(h.quiet e).1,(h.quiet e).2.1,fun x r hd=>(h.quiet e).2.2 x r (hs x r hd)⟩,h.loud⟩
theorem Goes.gone {b:Base}{nm:List UInt8}{id:Int}{list:List Ref}(hs:∀ x n,inL list x n→Gone b nm id x n){x:List UInt8}{r:Row}(hr:r∈(tabT b x).rows)(h:Goes b (inL list) x r):Gone b nm id x r.id:=by
 obtain ⟨l,hl,rfl,hw,hv,hg⟩:=h
 exact .next hl hr hw hv (hs _ _ hg)
theorem tabs_at {b:Base}(h:BaseOK b){i:Nat}(hi:i<b.tabs.length):tabT b (b.tabs.getD i default).name=(b.tabs.getD i default).table∧tabN b (b.tabs.getD i default).name<b.tabs.length:=by
 have:=h.place i hi
 unfold tabT
 rw [this]
 exact ⟨rfl,hi⟩
theorem f1147_l3_is {b:Base}{nm:List UInt8}{id:Int}(hf:BIG≤fu)(h:GoodB b){i:Nat}(hi:i<b.tabs.length){rec1:Bool→List Ref→Option (List Ref)}{rec2:Bool→Int→List Ref→Option (List Ref)} :
     ∀ (m n k:Nat) (t:Bool) (l:List Ref),k+m=(b.tabs.getD i default).table.rows.length→m<n→Grows b nm id l→
      ∃ t' l',Sweep b nm id (fun x r=>x=(b.tabs.getD i default).name∧∃ j,k≤j∧j < (b.tabs.getD i default).table.rows.length∧(b.tabs.getD i default).table.rows.getD j default=r) t l t' l'∧f1147_l3 fu b (i:Int) rec1 rec2 n t (k:Int) l=rec2 t' ((i+1:Nat):Int) l':=by
 intro m
 have hlen:=(h.ok.tabs i hi).ok.nrow
 have h3:=h.ok.ntab
 unfold tabK at hlen
 have ei:=succI (show i<b.tabs.length from hi) (show b.tabs.length≤BIG by unfold BIG;omega)
 induction m with
 | zero=>
  intro n k t l hk hn hg
  obtain ⟨n,rfl⟩:∃ z,n=z+1:=⟨n-1,by omega⟩
  refine ⟨t,l,(Sweep.refl hg).sub fun x r hh=>by obtain ⟨-,j,h1,h2,-⟩:=hh;omega,?_⟩
  have:k=(b.tabs.getD i default).table.rows.length:=by omega
  subst this
  rw [f1147_l3,inR hi,ct,tn,nlt,cf,ei]
 | succ m ih=>
  intro n k t l hk hn hg
  obtain ⟨n,rfl⟩:∃ z,n=z+1:=⟨n-1,by omega⟩
  have hkl:k < (b.tabs.getD i default).table.rows.length:=by omega
  obtain ⟨eT,eN⟩:=tabs_at h.ok hi
  have hll:=hg.len
  have ek:=succI hkl (show (b.tabs.getD i default).table.rows.length≤BIG by unfold BIG;omega)
  have hgoes:f1183 fu b (b.tabs.getD i default).name (k:Int) l=some (B (Goes b (inL l) (b.tabs.getD i default).name ((b.tabs.getD i default).table.rows.getD k default))):=by
   have:=f1183_is (nm:=(b.tabs.getD i default).name) (k:=k) (list:=l) hf h (by rw [eT];exact hkl) (by omega)
   rwa [eT] at this
  rw [f1147_l3,inR hi,ct,ct,ct,tn,ltR hkl,ct,ge0,Bool.and_self,ct,tn,f1182_is hf (by omega),bs]
  simp only [hgoes,bs]
  have hrow:(b.tabs.getD i default).table.rows.getD k default∈(tabT b (b.tabs.getD i default).name).rows:=by rw [eT];exact getD_mem hkl
  have quiet:(inL l (b.tabs.getD i default).name ((b.tabs.getD i default).table.rows.getD k default).id∨¬ Goes b (inL l) (b.tabs.getD i default).name ((b.tabs.getD i default).table.rows.getD k default))→
   ∃ t' l',Sweep b nm id (fun x r=>x=(b.tabs.getD i default).name∧∃ j,k≤j∧j < (b.tabs.getD i default).table.rows.length∧(b.tabs.getD i default).table.rows.getD j default=r) t l t' l'∧f1147_l3 fu b (i:Int) rec1 rec2 n t ((k+1:Nat):Int) l=rec2 t' ((i+1:Nat):Int) l':=fun hq=>by
   obtain ⟨t',l',hs,e⟩:=ih n (k+1) t l (by omega) (by omega) hg
   refine ⟨t',l',?_,e⟩
   have h1:Sweep b nm id (fun x r=>x=(b.tabs.getD i default).name∧r=(b.tabs.getD i default).table.rows.getD k default) t l t l:=⟨hg,Nat.le_refl _,fun e=>⟨e,rfl,fun x r hh=>by rw [hh.1,hh.2];exact hq⟩,fun e=>.inl e⟩
   refine (h1.trans hs).sub fun x r hh=>?_
   obtain ⟨hx,j,hj1,hj2,hj3⟩:=hh
   by_cases hjk:j=k
   ·subst hjk;exact .inl ⟨hx,hj3.symm⟩
   ·exact .inr ⟨hx,j,by omega,hj2,hj3⟩
  by_cases c1:inL l (b.tabs.getD i default).name ((b.tabs.getD i default).table.rows.getD k default).id
  ·rw [B_t c1]
   simp only [Bool.not_true,cf]
   unfold f1147_j15 f1147_j16
   rw [cf,ek]
   exact quiet (.inl c1)
  rw [B_f c1]
  simp only [Bool.not_false,ct]
  unfold f1147_j15 f1147_j16
  by_cases c2:Goes b (inL l) (b.tabs.getD i default).name ((b.tabs.getD i default).table.rows.getD k default)
  case neg=>
   rw [B_f c2,cf,ek]
   exact quiet (.inr c2)
  rw [B_t c2,ct,cap (by rw [List.length_singleton];omega),ct,ek]
  have hmem:(⟨(b.tabs.getD i default).name,((b.tabs.getD i default).table.rows.getD k default).id⟩:Ref)∈refsB b:=refs_mem (getD_mem hi) (getD_mem hkl)
  have hnot:(⟨(b.tabs.getD i default).name,((b.tabs.getD i default).table.rows.getD k default).id⟩:Ref)∉l:=fun hh=>c1 (inL_iff.2 hh)
  have hless:=lack_snoc hmem hnot
  have hg':Grows b nm id (l++[(⟨(b.tabs.getD i default).name,((b.tabs.getD i default).table.rows.getD k default).id⟩:Ref)]):=by
   refine ⟨fun x n hx=>?_,inL_snoc.2 (.inl hg.self),by rw [List.length_append,List.length_singleton];omega⟩
   rcases inL_snoc.1 hx with hx|⟨e1,e2⟩
   ·exact hg.sound x n hx
   ·have e1':(b.tabs.getD i default).name=x:=e1
    have e2':((b.tabs.getD i default).table.rows.getD k default).id=n:=e2
    rw [← e1',← e2']
    exact Goes.gone hg.sound hrow c2
  obtain ⟨t',l',hs,e⟩:=ih n (k+1) true _ (by omega) (by omega) hg'
  refine ⟨t',l',?_,e⟩
  have h1:Sweep b nm id (fun x r=>x=(b.tabs.getD i default).name∧r=(b.tabs.getD i default).table.rows.getD k default) t l true (l++[(⟨(b.tabs.getD i default).name,((b.tabs.getD i default).table.rows.getD k default).id⟩:Ref)]):=⟨hg',by omega,fun e=>(by cases e),fun _=>.inr hless⟩
  refine (h1.trans hs).sub fun x r hh=>?_
  obtain ⟨hx,j,hj1,hj2,hj3⟩:=hh
  by_cases hjk:j=k
  ·subst hjk;exact .inl ⟨hx,hj3.symm⟩
  ·exact .inr ⟨hx,j,by omega,hj2,hj3⟩
theorem f1147_l2_is {b:Base}{nm:List UInt8}{id:Int}(hf:BIG≤fu)(h:GoodB b){rec1:Bool→List Ref→Option (List Ref)} :
     ∀ (m n i:Nat) (t:Bool) (l:List Ref),i+m=b.tabs.length→m<n→Grows b nm id l→
      ∃ t' l',Sweep b nm id (fun x r=>∃ j,i≤j∧j<b.tabs.length∧x=(b.tabs.getD j default).name∧r∈(b.tabs.getD j default).table.rows) t l t' l'∧f1147_l2 fu b rec1 n t (i:Int) l=rec1 t' l':=by
 intro m
 induction m with
 | zero=>
  intro n i t l hk hn hg
  obtain ⟨n,rfl⟩:∃ z,n=z+1:=⟨n-1,by omega⟩
  refine ⟨t,l,(Sweep.refl hg).sub fun x r hh=>by obtain ⟨j,h1,h2,-⟩:=hh;omega,?_⟩
  have:i=b.tabs.length:=by omega
  subst this
  rw [f1147_l2,nlt,cf]
 | succ m ih=>
  intro n i t l hk hn hg
  obtain ⟨n,rfl⟩:∃ z,n=z+1:=⟨n-1,by omega⟩
  have hi:i<b.tabs.length:=by omega
  have hlen:=(h.ok.tabs i hi).ok.nrow
  unfold tabK at hlen
  rw [f1147_l2,ltR hi,ct]
  obtain ⟨t1,l1,h1,e1⟩:=f1147_l3_is (nm:=nm) (id:=id) (rec1:=rec1) (rec2:=f1147_l2 fu b rec1 n) hf h hi (b.tabs.getD i default).table.rows.length fu 0 t l (by omega) (by unfold BIG at hf;omega) hg
  obtain ⟨t2,l2,h2,e2⟩:=ih n (i+1) t1 l1 (by omega) (by omega) h1.grows
  refine ⟨t2,l2,?_,e1.trans e2⟩
  refine (h1.trans h2).sub fun x r hh=>?_
  obtain ⟨j,hj1,hj2,hx,hr⟩:=hh
  by_cases hji:j=i
  ·subst hji
   obtain ⟨p,hp,rfl⟩:=List.getElem_of_mem hr
   exact .inl ⟨hx,p,Nat.zero_le _,hp,getD_lt hp⟩
  ·exact .inr ⟨j,by omega,hj2,hx,hr⟩
noncomputable def rowsG (G:Dooms) (t:Tab):List Ref:=(t.table.rows.filter fun r=>B (G t.name r.id)).map fun r=>⟨t.name,r.id⟩
noncomputable def goneL (b:Base) (G:Dooms):List Ref:=b.tabs.flatMap (rowsG G)
noncomputable def rowsGk (G:Dooms) (t:Tab) (k:Nat):List Ref:=((t.table.rows.take k).filter fun r=>B (G t.name r.id)).map fun r=>⟨t.name,r.id⟩
theorem rowsGk_all (G:Dooms)(t:Tab):rowsGk G t t.table.rows.length=rowsG G t:=by unfold rowsGk rowsG;rw [List.take_length]
theorem rowsGk_succ {G:Dooms}{t:Tab}{k:Nat}(hk:k<t.table.rows.length):rowsGk G t (k+1)=rowsGk G t k++(if B (G t.name (t.table.rows.getD k default).id) then [(⟨t.name,(t.table.rows.getD k default).id⟩:Ref)] else []):=by
 unfold rowsGk
 rw [takeN (d:=default) hk,List.filter_append,List.map_append]
 congr 1
 rw [List.filter_cons]
 split<;>rfl
theorem rowsGk_len (G:Dooms)(t:Tab)(k:Nat):(rowsGk G t k).length≤t.table.rows.length:=by
 unfold rowsGk
 rw [List.length_map]
 exact Nat.le_trans (List.length_filter_le ..) (by rw [List.length_take];omega)
theorem goneK_len {b:Base}(h:BaseOK b)(G:Dooms):∀ i,((b.tabs.take i).flatMap (rowsG G)).length≤8*i:=by
 intro i
 have key:∀ l:List Tab,(∀ t,t∈l→t.table.rows.length≤8)→(l.flatMap (rowsG G)).length≤8*l.length:=by
  intro l
  induction l with
  | nil=>intro _;simp
  | cons t l ih=>
   intro hl
   rw [List.flatMap_cons,List.length_append,List.length_cons]
   have h1:=hl t List.mem_cons_self
   have h2:=ih fun x hx=>hl x (List.mem_cons_of_mem _ hx)
   have h3:(rowsG G t).length≤t.table.rows.length:=by rw [← rowsGk_all];exact rowsGk_len ..
   omega
 have:=key (b.tabs.take i) fun t ht=>by
  obtain ⟨k,hk,rfl⟩:=List.getElem_of_mem (List.mem_of_mem_take ht)
  have:=((h.tabs k hk).ok).nrow
  unfold tabK at this
  rwa [getD_lt hk] at this
 have h2:(b.tabs.take i).length≤i:=by rw [List.length_take];omega
 omega
theorem f1147_l5_is {b:Base}{list:List Ref}(hf:BIG≤fu)(h:GoodB b)(hn:list.length≤1000){i:Nat}(hi:i<b.tabs.length){rec1:Bool→List Ref→Option (List Ref)}{rec4:Int→List Ref→Option (List Ref)}{pre:List Ref}(hp:pre.length≤1000) :
     ∀ (m n k:Nat),k+m=(b.tabs.getD i default).table.rows.length→m<n→f1147_l5 fu b list (i:Int) rec1 rec4 n (k:Int) (pre++rowsGk (inL list) (b.tabs.getD i default) k)=rec4 ((i+1:Nat):Int) (pre++rowsG (inL list) (b.tabs.getD i default)):=by
 intro m
 have hlen:=(h.ok.tabs i hi).ok.nrow
 have h3:=h.ok.ntab
 unfold tabK at hlen
 have ei:=succI (show i<b.tabs.length from hi) (show b.tabs.length≤BIG by unfold BIG;omega)
 induction m with
 | zero=>
  intro n k hk hn
  obtain ⟨n,rfl⟩:∃ z,n=z+1:=⟨n-1,by omega⟩
  have:k=(b.tabs.getD i default).table.rows.length:=by omega
  subst this
  rw [f1147_l5,inR hi,ct,tn,nlt,cf,ei,rowsGk_all]
 | succ m ih=>
  intro n k hk hn
  obtain ⟨n,rfl⟩:∃ z,n=z+1:=⟨n-1,by omega⟩
  have hkl:k < (b.tabs.getD i default).table.rows.length:=by omega
  have ek:=succI hkl (show (b.tabs.getD i default).table.rows.length≤BIG by unfold BIG;omega)
  have go:=ih n (k+1) (by omega) (by omega)
  have hgl:=rowsGk_len (inL list) (b.tabs.getD i default) k
  rw [f1147_l5,inR hi,ct,ct,ct,tn,ltR hkl,ct,ge0,Bool.and_self,ct,tn,f1182_is hf (by omega),bs]
  unfold f1147_j20
  rw [rowsGk_succ hkl] at go
  by_cases c1:inL list (b.tabs.getD i default).name ((b.tabs.getD i default).table.rows.getD k default).id
  ·rw [B_t c1] at go ⊢
   rw [ct,cap (by rw [List.length_singleton,List.length_append];omega),ct,ek]
   rw [if_pos rfl,← List.append_assoc] at go
   exact go
  ·rw [B_f c1] at go ⊢
   rw [cf,ek]
   rw [if_neg (by simp),List.append_nil] at go
   exact go
theorem f1147_l4_is {b:Base}{list:List Ref}(hf:BIG≤fu)(h:GoodB b)(hn:list.length≤1000){rec1:Bool→List Ref→Option (List Ref)} :
     ∀ (m n i:Nat),i+m=b.tabs.length→m<n→f1147_l4 fu b list rec1 n (i:Int) ((b.tabs.take i).flatMap (rowsG (inL list)))=some (goneL b (inL list)):=by
 intro m
 induction m with
 | zero=>
  intro n i hk hn
  obtain ⟨n,rfl⟩:∃ z,n=z+1:=⟨n-1,by omega⟩
  have:i=b.tabs.length:=by omega
  subst this
  rw [f1147_l4,nlt,cf,List.take_length];rfl
 | succ m ih=>
  intro n i hk hn2
  obtain ⟨n,rfl⟩:∃ z,n=z+1:=⟨n-1,by omega⟩
  have hi:i<b.tabs.length:=by omega
  have h3:=h.ok.ntab
  have hlen:=(h.ok.tabs i hi).ok.nrow
  unfold tabK at hlen
  rw [f1147_l4,ltR hi,ct]
  have hpl:=goneK_len h.ok (inL list) i
  have e1:=f1147_l5_is (rec1:=rec1) (rec4:=f1147_l4 fu b list rec1 n) (pre:=(b.tabs.take i).flatMap (rowsG (inL list))) hf h hn hi (by omega) (b.tabs.getD i default).table.rows.length fu 0 (by omega) (by unfold BIG at hf;omega)
  have e0:rowsGk (inL list) (b.tabs.getD i default) 0=[]:=rfl
  rw [e0,List.append_nil] at e1
  refine e1.trans ?_
  have:=ih n (i+1) (by omega) (by omega)
  rw [takeN (d:=default) hi,List.flatMap_append] at this
  simpa using this
theorem closed_all {b:Base}{nm:List UInt8}{id:Int}{l:List Ref}(h:BaseOK b)(hg:Grows b nm id l)(hc:∀ x r,(∃ j,0≤j∧j<b.tabs.length∧x=(b.tabs.getD j default).name∧r∈(b.tabs.getD j default).table.rows)→inL l x r.id∨¬ Goes b (inL l) x r):∀ x n,Gone b nm id x n→inL l x n:=by
 intro x n hx
 induction hx with
 | self=>exact hg.self
 | @next lk r hl hr hw hv _ ih=>
  have hf:=(h.link hl).1
  rcases hc lk.from_ r ⟨tabN b lk.from_,Nat.zero_le _,hf.src,(tabN_name hf.src).symm,hr⟩ with h1|h1
  ·exact h1
  ·exact absurd ⟨lk,hl,rfl,hw,hv,ih⟩ h1
theorem f1147_l1_is {b:Base}{nm:List UInt8}{id:Int}(hf:BIG≤fu)(h:GoodB b):∀ (m n:Nat) (l:List Ref),lack b l≤m→m+1<n→Grows b nm id l→f1147_l1 fu b n true l=some (goneL b (Gone b nm id)):=by
 intro m
 have h3:=h.ok.ntab
 induction m with
 | zero=>
  intro n l hm hn hg
  obtain ⟨n,rfl⟩:∃ z,n=z+2:=⟨n-2,by omega⟩
  rw [f1147_l1,ct]
  obtain ⟨t',l',hs,e⟩:=f1147_l2_is (rec1:=f1147_l1 fu b (n+1)) hf h b.tabs.length fu 0 false l (by omega) (by unfold BIG at hf;omega) hg
  refine e.trans ?_
  cases t' with
  | true=>
   rcases hs.loud rfl with e|e
   ·cases e
   ·omega
  | false=>
   obtain ⟨-,e2,hc⟩:=hs.quiet rfl
   subst e2
   have hll:=hg.len
   rw [f1147_l1,cf]
   have:=f1147_l4_is (list:=l') (rec1:=f1147_l1 fu b n) hf h (by omega) b.tabs.length fu 0 (by omega) (by unfold BIG at hf;omega)
   refine this.trans ?_
   congr 2
   funext x k
   exact propext ⟨hg.sound x k,closed_all h.ok hg hc x k⟩
 | succ m ih=>
  intro n l hm hn hg
  obtain ⟨n,rfl⟩:∃ z,n=z+2:=⟨n-2,by omega⟩
  rw [f1147_l1,ct]
  obtain ⟨t',l',hs,e⟩:=f1147_l2_is (rec1:=f1147_l1 fu b (n+1)) hf h b.tabs.length fu 0 false l (by omega) (by unfold BIG at hf;omega) hg
  refine e.trans ?_
  cases t' with
  | true=>
   rcases hs.loud rfl with e|e
   ·cases e
   ·exact ih (n+1) l' (by omega) (by omega) hs.grows
  | false=>
   obtain ⟨-,e2,hc⟩:=hs.quiet rfl
   subst e2
   have hll:=hg.len
   rw [f1147_l1,cf]
   have:=f1147_l4_is (list:=l') (rec1:=f1147_l1 fu b n) hf h (by omega) b.tabs.length fu 0 (by omega) (by unfold BIG at hf;omega)
   refine this.trans ?_
   congr 2
   funext x k
   exact propext ⟨hg.sound x k,closed_all h.ok hg hc x k⟩
theorem f1147_is {b:Base}{nm:List UInt8}{id:Int}(hf:BIG≤fu)(h:GoodB b):f1147 fu b nm id=some (goneL b (Gone b nm id)):=by
 unfold f1147
 have hl:=lack_le h.ok [(⟨nm,id⟩:Ref)]
 refine f1147_l1_is hf h 24 fu _ hl (by unfold BIG at hf;omega) ⟨fun x n hx=>?_,⟨_,List.mem_singleton.2 rfl,rfl,rfl⟩,by rw [List.length_singleton];omega⟩
 have:=inL_iff.1 hx
 rw [List.mem_singleton] at this
 cases this
 exact .self
theorem goneL_mem {b:Base}(h:BaseOK b){G:Dooms}{x:List UInt8}{n:Int}:inL (goneL b G) x n↔HasRow b x n∧G x n:=by
 constructor
 ·rintro ⟨r,hr,rfl,rfl⟩
  obtain ⟨t,ht,hr⟩:=List.mem_flatMap.1 hr
  obtain ⟨q,hq,rfl⟩:=List.mem_map.1 hr
  rw [List.mem_filter,B_iff] at hq
  obtain ⟨h1,h2⟩:=tab_name_mem h ht
  exact ⟨⟨h1,rowN_iff.2 ⟨q,by show q∈(tabT b t.name).rows;rw [h2];exact hq.1,rfl⟩⟩,hq.2⟩
 ·rintro ⟨⟨h1,h2⟩,hg⟩
  obtain ⟨q,hq,rfl⟩:=rowN_iff.1 h2
  refine ⟨⟨x,q.id⟩,List.mem_flatMap.2 ⟨_,getD_mem (d:=(default:Tab)) h1,?_⟩,rfl,rfl⟩
  have hn:=tabN_name h1
  refine List.mem_map.2 ⟨q,List.mem_filter.2 ⟨hq,?_⟩,by rw [hn]⟩
  rw [hn];exact B_t hg
theorem goneL_len {b:Base}(h:BaseOK b)(G:Dooms):(goneL b G).length≤24:=by
 have:=goneK_len h G b.tabs.length
 rw [List.take_length] at this
 have h3:=h.ntab
 unfold goneL
 omega
end Go.Proofs.YtdpigighgmipfaaGreatDoor
