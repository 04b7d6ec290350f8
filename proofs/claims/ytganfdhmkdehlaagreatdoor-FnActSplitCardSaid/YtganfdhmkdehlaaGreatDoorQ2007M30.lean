/- Plain laws. -/
import Derived.Test.YtganfdhmkdehlaaGreatDoorQ2007M28
set_option linter.all false
namespace Go.Proofs.YtganfdhmkdehlaaGreatDoor
open Go Go.HL
variable {fu:Nat}
def inL (list:List Ref):aT:=fun nm id=>∃ r,r∈list∧r.name=nm∧r.id=id
theorem dx {list:List Ref}{nm:List UInt8}{id:Int}:inL list nm id↔(⟨nm,id⟩:Ref)∈list:=by
 constructor
 ·rintro ⟨r,hr,rfl,rfl⟩;exact hr
 ·exact fun h=>⟨_,h,rfl,rfl⟩
theorem inL_snoc {list:List Ref}{x:Ref}{nm:List UInt8}{id:Int}:inL (list++[x]) nm id↔inL list nm id∨(x.name=nm∧x.id=id):=by
 rw [dx,dx,List.mem_append,List.mem_singleton]
 refine or_congr Iff.rfl ⟨fun h=>by rw [← h];exact ⟨rfl,rfl⟩,fun h=>by cases x;cases h.1;cases h.2;rfl⟩
theorem iF {list:List Ref}{nm:List UInt8}{id:Int}(hf:BIG≤fu)(h:list.length≤1000):mc fu list nm id=some (B (inL list nm id)):=by
 unfold mc
 have step:∀ n (k:Nat),k<list.length→cJ list nm id (n+1) (k:Int)=ko (k:Int) (cJ list nm id n) (B ((list.getD k default).name=nm∧(list.getD k default).id=id)):=fun n k hk=>by
  rw [cJ,ltR hk,ct,ge0,b_,ct,tn,ct,bY,bM,bM]
  cases B ((list.getD k default).name=nm)<;>rfl
 have e:inL list nm id↔∃ k,k<list.length∧((list.getD k default).name=nm∧(list.getD k default).id=id):=by
  constructor
  ·rintro ⟨r,hr,h⟩
   obtain ⟨k,hk,rfl⟩:=g_ hr
   exact ⟨k,hk,by rw [ae hk];exact h⟩
  ·rintro ⟨k,hk,h⟩
   exact ⟨_,getD_mem hk,h⟩
 rw [ai e,← xM]
 refine jn (L:=cJ list nm id) _ _ _ (by unfold BIG;omega) (fun n=>?_) (fun n k hk hp=>?_) (fun n k hk hp=>?_) (by unfold BIG at hf;omega)
 ·rw [cJ,nlt];rfl
 ·rw [step n k hk,B_t hp];rfl
 ·rw [step n k hk,B_f hp];rfl
theorem n5 {b:ac}{l:aj}{k:Nat}{list:List Ref}(hf:BIG≤fu)(h:fS b)(hl:ar b l)(hk:k < (tabT b l.from_).rows.length)(hn:list.length≤1000):pj fu b l (k:Int) list=some (B (dK b (inL list) l ((tabT b l.from_).rows.getD k default))):=by
 have g:=h.tab hl.src
 unfold pj iD
 rw [ba hf h.sm.ntab,bs,aK hl.src,inR hl.src,ct,tn,aW,sv hf g hk hl.col,bs,q0]
 unfold dK
 by_cases hv:(fw b l ((tabT b l.from_).rows.getD k default)).kind=0
 ·rw [dt hv,B_f fun hh=>hh.1 hv];rfl
 ·rw [df hv,iF hf hn,bs]
  simp only [m_,ct]
  congr 1
  exact ai ⟨fun hh=>⟨hv,hh⟩,fun hh=>hh.2⟩
theorem vJ {b:ac}{l:aj}{k:Nat}{list:List Ref}(hf:BIG≤fu)(h:fS b)(hl:ar b l)(hk:k < (tabT b l.from_).rows.length)(hn:list.length≤1000):jQ fu b l (k:Int) list=some (B (dK b (inL list) l ((tabT b l.from_).rows.getD k default))):=by
 have e:jQ fu b l (k:Int) list=pj fu b l (k:Int) list:=by unfold jQ pj iC iD;rw [B5]
 rw [e];exact n5 hf h hl hk hn
def wY (b:ac)(G:aT)(nm:List UInt8)(r:Row):Prop:=∃ l,l∈b.links∧l.from_=nm∧l.how=2∧dK b G l r
theorem yk {b:ac}{nm:List UInt8}{k:Nat}{list:List Ref}(hf:BIG≤fu)(h:am b)(hk:k < (tabT b nm).rows.length)(hn:list.length≤1000):tm fu b nm (k:Int) list=some (B (wY b (inL list) nm ((tabT b nm).rows.getD k default))):=by
 have hL:=h.sm.nlink
 unfold tm
 have step:∀ n (i:Nat),i<b.links.length→cn fu b nm (k:Int) list (n+1) (i:Int)=iE (i:Int) (cn fu b nm (k:Int) list n) (B ((b.links.getD i default).from_=nm∧(b.links.getD i default).how=2∧dK b (inL list) (b.links.getD i default) ((tabT b nm).rows.getD k default))):=fun n i hi=>by
  rw [cn,ltR hi,ct,ge0,b_,ct,tn]
  by_cases h1:(b.links.getD i default).from_=nm
  case neg=>rw [df h1,B_f fun hh=>h1 hh.1];rfl
  rw [dt h1,ct]
  by_cases h2:(b.links.getD i default).how=2
  case neg=>rw [df h2,B_f fun hh=>h2 hh.2.1];rfl
  have hfit:=(h.ok.links i hi).fits
  rw [dt h2,ct,n5 hf h.g hfit (by rw [h1];exact hk) hn,bs,h1]
  congr 1
  exact ai ⟨fun hh=>⟨rfl,h2,hh⟩,fun hh=>hh.2.2⟩
 have e:wY b (inL list) nm ((tabT b nm).rows.getD k default)↔∃ i,i<b.links.length∧((b.links.getD i default).from_=nm∧(b.links.getD i default).how=2∧dK b (inL list) (b.links.getD i default) ((tabT b nm).rows.getD k default)):=by
  constructor
  ·rintro ⟨l,hl,hh⟩
   obtain ⟨i,hi,rfl⟩:=g_ hl
   exact ⟨i,hi,by rw [ae hi];exact hh⟩
  ·rintro ⟨i,hi,hh⟩
   exact ⟨_,getD_mem hi,hh⟩
 rw [ai e,← xM]
 refine jn (L:=cn fu b nm (k:Int) list) _ _ _ (by unfold BIG;omega) (fun n=>?_) (fun n i hi hp=>?_) (fun n i hi hp=>?_) (by unfold BIG at hf;omega)
 ·rw [cn,nlt];rfl
 ·rw [step n i hi,B_t hp];rfl
 ·rw [step n i hi,B_f hp];rfl
def xt (t:Tab):List Ref:=t.table.rows.map fun r=>⟨t.name,r.id⟩
def qb (b:ac):List Ref:=b.tabs.flatMap xt
theorem xr {b:ac}(h:ah b):(qb b).length≤24:=by
 have key:∀ l:List Tab,(∀ t,t∈l→t.table.rows.length≤8)→(l.flatMap xt).length≤8*l.length:=by
  intro l
  induction l with
  | nil=>intro _;simp
  | cons t l ih=>
   intro hl
   rw [List.flatMap_cons,List.length_append,List.length_cons]
   have h1:=hl t List.mem_cons_self
   have h2:=ih fun x hx=>hl x (List.mem_cons_of_mem _ hx)
   have h3:(xt t).length=t.table.rows.length:=by unfold xt;simp
   omega
 have h3:=h.ntab
 have:=key b.tabs fun t ht=>by
  obtain ⟨k,hk,rfl⟩:=g_ ht
  have:=((h.tabs k hk).ok).nrow
  unfold dr at this
  rwa [ae hk] at this
 unfold qb
 omega
theorem ry {b:ac}{t:Tab}(ht:t∈b.tabs){r:Row}(hr:r∈t.table.rows):(⟨t.name,r.id⟩:Ref)∈qb b:=List.mem_flatMap.2 ⟨t,ht,List.mem_map.2 ⟨r,hr,rfl⟩⟩
noncomputable def qn (b:ac) (list:List Ref):Nat:=((qb b).filter fun r=>!decide (r∈list)).length
theorem qq {α:Type}{l:List α}{p q:α→Bool}{x:α}(hx:x∈l)(h1:p x=true)(h2:q x=false)(hpq:∀ y,q y=true→p y=true):(l.filter q).length < (l.filter p).length:=by
 induction l with
 | nil=>cases hx
 | cons y l ih=>
  have hle:(l.filter q).length≤(l.filter p).length:=by
   clear ih hx
   induction l with
   | nil=>simp
   | cons z l ih=>
    rw [List.filter_cons,List.filter_cons]
    cases hq:q z with
    | true=>rw [hpq z hq];simpa using ih
    | false=>cases p z<;>simp<;>omega
  rw [List.filter_cons,List.filter_cons]
  rcases List.mem_cons.1 hx with rfl|hx
  ·rw [h1,h2];simp;omega
  ·have:=ih hx
   cases hq:q y with
   | true=>rw [hpq y hq];simpa using this
   | false=>cases p y<;>simp<;>omega
theorem oS {b:ac}{list:List Ref}{x:Ref}(hx:x∈qb b)(hn:x∉list):qn b (list++[x])<qn b list:=by
 unfold qn
 refine qq hx (by simp [hn]) (by simp) fun y hy=>?_
 simp only [Bool.not_eq_true',decide_eq_false_iff_not,List.mem_append,not_or] at hy ⊢
 exact hy.1
theorem uL {b:ac}(h:ah b)(list:List Ref):qn b list≤24:=Nat.le_trans (List.length_filter_le ..) (xr h)
structure gw (b:ac) (nm:List UInt8) (id:Int) (list:List Ref):Prop where
 sound:∀ x n,inL list x n→gx b nm id x n
 self:inL list nm id
 len:list.length+qn b list≤25
structure Sweep (b:ac) (nm:List UInt8) (id:Int) (C:List UInt8→Row→Prop) (t:Bool) (l:List Ref) (t':Bool) (l':List Ref):Prop where
 grows:gw b nm id l'
 less:qn b l'≤qn b l
 quiet:t' = false→t=false∧l' = l∧∀ x r,C x r→inL l x r.id∨¬ wY b (inL l) x r
 loud:t' = true→t=true∨qn b l'<qn b l
theorem Sweep.refl {b:ac}{nm:List UInt8}{id:Int}{t:Bool}{l:List Ref}(h:gw b nm id l):Sweep b nm id (fun _ _=>False) t l t l:=⟨h,Nat.le_refl _,fun e=>⟨e,rfl,fun _ _ h=>h.elim⟩,fun e=>.inl e⟩
theorem Sweep.trans {b:ac}{nm:List UInt8}{id:Int}{C D:List UInt8→Row→Prop}{t t' t'':Bool}{l l' l'':List Ref}(h:Sweep b nm id C t l t' l')(g:Sweep b nm id D t' l' t'' l''):Sweep b nm id (fun x r=>C x r∨D x r) t l t'' l'':=by
 refine ⟨g.grows,Nat.le_trans g.less h.less,fun e=>?_,fun e=>?_⟩
 ·obtain ⟨e1,e2,e3⟩:=g.quiet e
  obtain ⟨e4,e5,e6⟩:=h.quiet e1
  subst e5
  exact ⟨e4,e2,fun x r hc=>hc.elim (e6 x r) (e3 x r)⟩
 ·rcases g.loud e with e1|e1
  ·rcases h.loud e1 with e2|e2
   ·exact .inl e2
   ·exact .inr (Nat.lt_of_le_of_lt g.less e2)
  ·exact .inr (Nat.lt_of_lt_of_le e1 h.less)
theorem Sweep.sub {b:ac}{nm:List UInt8}{id:Int}{C D:List UInt8→Row→Prop}{t t':Bool}{l l':List Ref}(h:Sweep b nm id C t l t' l')(hs:∀ x r,D x r→C x r):Sweep b nm id D t l t' l':=
 ⟨h.grows,h.less,fun e=>⟨(h.quiet e).1,(h.quiet e).2.1,fun x r hd=>(h.quiet e).2.2 x r (hs x r hd)⟩,h.loud⟩
theorem wY.gone {b:ac}{nm:List UInt8}{id:Int}{list:List Ref}(hs:∀ x n,inL list x n→gx b nm id x n){x:List UInt8}{r:Row}(hr:r∈(tabT b x).rows)(h:wY b (inL list) x r):gx b nm id x r.id:=by
 obtain ⟨l,hl,rfl,hw,hv,hg⟩:=h
 exact .next hl hr hw hv (hs _ _ hg)
theorem tabs_at {b:ac}(h:ah b){i:Nat}(hi:i<b.tabs.length):tabT b (b.tabs.getD i default).name=(b.tabs.getD i default).table∧tabN b (b.tabs.getD i default).name<b.tabs.length:=by
 have:=h.place i hi
 unfold tabT
 rw [this]
 exact ⟨rfl,hi⟩
theorem qE {b:ac}{nm:List UInt8}{id:Int}(hf:BIG≤fu)(h:am b){i:Nat}(hi:i<b.tabs.length){rec1:Bool→List Ref→Option (List Ref)}{rec2:Bool→Int→List Ref→Option (List Ref)} :
     ∀ (m n k:Nat) (t:Bool) (l:List Ref),k+m=(b.tabs.getD i default).table.rows.length→m<n→gw b nm id l→
      ∃ t' l',Sweep b nm id (fun x r=>x=(b.tabs.getD i default).name∧∃ j,k≤j∧j < (b.tabs.getD i default).table.rows.length∧(b.tabs.getD i default).table.rows.getD j default=r) t l t' l'∧cM fu b (i:Int) rec1 rec2 n t (k:Int) l=rec2 t' ((i+1:Nat):Int) l':=by
 intro m
 have hlen:=(h.ok.tabs i hi).ok.nrow
 have h3:=h.ok.ntab
 unfold dr at hlen
 have ei:=bb (show i<b.tabs.length from hi) (show b.tabs.length≤BIG by unfold BIG;omega)
 induction m with
 | zero=>
  intro n k t l hk hn hg
  obtain ⟨n,rfl⟩:∃ z,n=z+1:=⟨n-1,by omega⟩
  refine ⟨t,l,(Sweep.refl hg).sub fun x r hh=>by obtain ⟨-,j,h1,h2,-⟩:=hh;omega,?_⟩
  have:k=(b.tabs.getD i default).table.rows.length:=by omega
  subst this
  rw [cM,inR hi,ct,tn,nlt,cf,ei]
 | succ m ih=>
  intro n k t l hk hn hg
  obtain ⟨n,rfl⟩:∃ z,n=z+1:=⟨n-1,by omega⟩
  have hkl:k < (b.tabs.getD i default).table.rows.length:=by omega
  obtain ⟨eT,eN⟩:=tabs_at h.ok hi
  have hll:=hg.len
  have ek:=bb hkl (show (b.tabs.getD i default).table.rows.length≤BIG by unfold BIG;omega)
  have hgoes:tm fu b (b.tabs.getD i default).name (k:Int) l=some (B (wY b (inL l) (b.tabs.getD i default).name ((b.tabs.getD i default).table.rows.getD k default))):=by
   have:=yk (nm:=(b.tabs.getD i default).name) (k:=k) (list:=l) hf h (by rw [eT];exact hkl) (by omega)
   rwa [eT] at this
  rw [cM,inR hi,ct,ct,ct,tn,ltR hkl,ct,ge0,b_,ct,tn,iF hf (by omega),bs]
  simp only [hgoes,bs]
  have hrow:(b.tabs.getD i default).table.rows.getD k default∈(tabT b (b.tabs.getD i default).name).rows:=by rw [eT];exact getD_mem hkl
  have quiet:(inL l (b.tabs.getD i default).name ((b.tabs.getD i default).table.rows.getD k default).id∨¬ wY b (inL l) (b.tabs.getD i default).name ((b.tabs.getD i default).table.rows.getD k default))→
   ∃ t' l',Sweep b nm id (fun x r=>x=(b.tabs.getD i default).name∧∃ j,k≤j∧j < (b.tabs.getD i default).table.rows.length∧(b.tabs.getD i default).table.rows.getD j default=r) t l t' l'∧cM fu b (i:Int) rec1 rec2 n t ((k+1:Nat):Int) l=rec2 t' ((i+1:Nat):Int) l':=fun hq=>by
   obtain ⟨t',l',hs,e⟩:=ih n (k+1) t l (by omega) (by omega) hg
   refine ⟨t',l',?_,e⟩
   have h1:Sweep b nm id (fun x r=>x=(b.tabs.getD i default).name∧r=(b.tabs.getD i default).table.rows.getD k default) t l t l:=⟨hg,Nat.le_refl _,fun e=>⟨e,rfl,fun x r hh=>by rw [hh.1,hh.2];exact hq⟩,fun e=>.inl e⟩
   refine (h1.trans hs).sub fun x r hh=>?_
   obtain ⟨hx,j,hj1,hj2,hj3⟩:=hh
   by_cases hjk:j=k
   ·subst hjk;exact .inl ⟨hx,hj3.symm⟩
   ·exact .inr ⟨hx,j,by omega,hj2,hj3⟩
  by_cases c1:inL l (b.tabs.getD i default).name ((b.tabs.getD i default).table.rows.getD k default).id
  ·rw [B_t c1]
   simp only [n_,cf]
   unfold fK fJ
   rw [cf,ek]
   exact quiet (.inl c1)
  rw [B_f c1]
  simp only [m_,ct]
  unfold fK fJ
  by_cases c2:wY b (inL l) (b.tabs.getD i default).name ((b.tabs.getD i default).table.rows.getD k default)
  case neg=>
   rw [B_f c2,cf,ek]
   exact quiet (.inr c2)
  rw [B_t c2,ct,cap (by rw [s_];omega),ct,ek]
  have hmem:(⟨(b.tabs.getD i default).name,((b.tabs.getD i default).table.rows.getD k default).id⟩:Ref)∈qb b:=ry (getD_mem hi) (getD_mem hkl)
  have hnot:(⟨(b.tabs.getD i default).name,((b.tabs.getD i default).table.rows.getD k default).id⟩:Ref)∉l:=fun hh=>c1 (dx.2 hh)
  have hless:=oS hmem hnot
  have hg':gw b nm id (l++[(⟨(b.tabs.getD i default).name,((b.tabs.getD i default).table.rows.getD k default).id⟩:Ref)]):=by
   refine ⟨fun x n hx=>?_,inL_snoc.2 (.inl hg.self),by rw [List.length_append,s_];omega⟩
   rcases inL_snoc.1 hx with hx|⟨e1,e2⟩
   ·exact hg.sound x n hx
   ·have e1':(b.tabs.getD i default).name=x:=e1
    have e2':((b.tabs.getD i default).table.rows.getD k default).id=n:=e2
    rw [← e1',← e2']
    exact wY.gone hg.sound hrow c2
  obtain ⟨t',l',hs,e⟩:=ih n (k+1) true _ (by omega) (by omega) hg'
  refine ⟨t',l',?_,e⟩
  have h1:Sweep b nm id (fun x r=>x=(b.tabs.getD i default).name∧r=(b.tabs.getD i default).table.rows.getD k default) t l true (l++[(⟨(b.tabs.getD i default).name,((b.tabs.getD i default).table.rows.getD k default).id⟩:Ref)]):=⟨hg',by omega,fun e=>(by cases e),fun _=>.inr hless⟩
  refine (h1.trans hs).sub fun x r hh=>?_
  obtain ⟨hx,j,hj1,hj2,hj3⟩:=hh
  by_cases hjk:j=k
  ·subst hjk;exact .inl ⟨hx,hj3.symm⟩
  ·exact .inr ⟨hx,j,by omega,hj2,hj3⟩
theorem lO {b:ac}{nm:List UInt8}{id:Int}(hf:BIG≤fu)(h:am b){rec1:Bool→List Ref→Option (List Ref)} :
     ∀ (m n i:Nat) (t:Bool) (l:List Ref),i+m=b.tabs.length→m<n→gw b nm id l→
      ∃ t' l',Sweep b nm id (fun x r=>∃ j,i≤j∧j<b.tabs.length∧x=(b.tabs.getD j default).name∧r∈(b.tabs.getD j default).table.rows) t l t' l'∧bR fu b rec1 n t (i:Int) l=rec1 t' l':=by
 intro m
 induction m with
 | zero=>
  intro n i t l hk hn hg
  obtain ⟨n,rfl⟩:∃ z,n=z+1:=⟨n-1,by omega⟩
  refine ⟨t,l,(Sweep.refl hg).sub fun x r hh=>by obtain ⟨j,h1,h2,-⟩:=hh;omega,?_⟩
  have:i=b.tabs.length:=by omega
  subst this
  rw [bR,nlt,cf]
 | succ m ih=>
  intro n i t l hk hn hg
  obtain ⟨n,rfl⟩:∃ z,n=z+1:=⟨n-1,by omega⟩
  have hi:i<b.tabs.length:=by omega
  have hlen:=(h.ok.tabs i hi).ok.nrow
  unfold dr at hlen
  rw [bR,ltR hi,ct]
  obtain ⟨t1,l1,h1,e1⟩:=qE (nm:=nm) (id:=id) (rec1:=rec1) (rec2:=bR fu b rec1 n) hf h hi (b.tabs.getD i default).table.rows.length fu 0 t l (by omega) (by unfold BIG at hf;omega) hg
  obtain ⟨t2,l2,h2,e2⟩:=ih n (i+1) t1 l1 (by omega) (by omega) h1.grows
  refine ⟨t2,l2,?_,e1.trans e2⟩
  refine (h1.trans h2).sub fun x r hh=>?_
  obtain ⟨j,hj1,hj2,hx,hr⟩:=hh
  by_cases hji:j=i
  ·subst hji
   obtain ⟨p,hp,rfl⟩:=g_ hr
   exact .inl ⟨hx,p,Nat.zero_le _,hp,ae hp⟩
  ·exact .inr ⟨j,by omega,hj2,hx,hr⟩
noncomputable def nh (G:aT) (t:Tab):List Ref:=(t.table.rows.filter fun r=>B (G t.name r.id)).map fun r=>⟨t.name,r.id⟩
noncomputable def eQ (b:ac) (G:aT):List Ref:=b.tabs.flatMap (nh G)
noncomputable def gY (G:aT) (t:Tab) (k:Nat):List Ref:=((t.table.rows.take k).filter fun r=>B (G t.name r.id)).map fun r=>⟨t.name,r.id⟩
theorem mu (G:aT)(t:Tab):gY G t t.table.rows.length=nh G t:=by unfold gY nh;rw [List.take_length]
theorem p3 {G:aT}{t:Tab}{k:Nat}(hk:k<t.table.rows.length):gY G t (k+1)=gY G t k++(if B (G t.name (t.table.rows.getD k default).id) then [(⟨t.name,(t.table.rows.getD k default).id⟩:Ref)] else []):=by
 unfold gY
 rw [kU (d:=default) hk,List.filter_append,List.map_append]
 congr 1
 rw [List.filter_cons]
 split<;>rfl
theorem mt (G:aT)(t:Tab)(k:Nat):(gY G t k).length≤t.table.rows.length:=by
 unfold gY
 rw [List.length_map]
 exact Nat.le_trans (List.length_filter_le ..) (by rw [List.length_take];omega)
theorem oV {b:ac}(h:ah b)(G:aT):∀ i,((b.tabs.take i).flatMap (nh G)).length≤8*i:=by
 intro i
 have key:∀ l:List Tab,(∀ t,t∈l→t.table.rows.length≤8)→(l.flatMap (nh G)).length≤8*l.length:=by
  intro l
  induction l with
  | nil=>intro _;simp
  | cons t l ih=>
   intro hl
   rw [List.flatMap_cons,List.length_append,List.length_cons]
   have h1:=hl t List.mem_cons_self
   have h2:=ih fun x hx=>hl x (List.mem_cons_of_mem _ hx)
   have h3:(nh G t).length≤t.table.rows.length:=by rw [← mu];exact mt ..
   omega
 have:=key (b.tabs.take i) fun t ht=>by
  obtain ⟨k,hk,rfl⟩:=g_ (List.mem_of_mem_take ht)
  have:=((h.tabs k hk).ok).nrow
  unfold dr at this
  rwa [ae hk] at this
 have h2:(b.tabs.take i).length≤i:=by rw [List.length_take];omega
 omega
theorem qD {b:ac}{list:List Ref}(hf:BIG≤fu)(h:am b)(hn:list.length≤1000){i:Nat}(hi:i<b.tabs.length){rec1:Bool→List Ref→Option (List Ref)}{rec4:Int→List Ref→Option (List Ref)}{pre:List Ref}(hp:pre.length≤1000) :
     ∀ (m n k:Nat),k+m=(b.tabs.getD i default).table.rows.length→m<n→dW fu b list (i:Int) rec1 rec4 n (k:Int) (pre++gY (inL list) (b.tabs.getD i default) k)=rec4 ((i+1:Nat):Int) (pre++nh (inL list) (b.tabs.getD i default)):=by
 intro m
 have hlen:=(h.ok.tabs i hi).ok.nrow
 have h3:=h.ok.ntab
 unfold dr at hlen
 have ei:=bb (show i<b.tabs.length from hi) (show b.tabs.length≤BIG by unfold BIG;omega)
 induction m with
 | zero=>
  intro n k hk hn
  obtain ⟨n,rfl⟩:∃ z,n=z+1:=⟨n-1,by omega⟩
  have:k=(b.tabs.getD i default).table.rows.length:=by omega
  subst this
  rw [dW,inR hi,ct,tn,nlt,cf,ei,mu]
 | succ m ih=>
  intro n k hk hn
  obtain ⟨n,rfl⟩:∃ z,n=z+1:=⟨n-1,by omega⟩
  have hkl:k < (b.tabs.getD i default).table.rows.length:=by omega
  have ek:=bb hkl (show (b.tabs.getD i default).table.rows.length≤BIG by unfold BIG;omega)
  have go:=ih n (k+1) (by omega) (by omega)
  have hgl:=mt (inL list) (b.tabs.getD i default) k
  rw [dW,inR hi,ct,ct,ct,tn,ltR hkl,ct,ge0,b_,ct,tn,iF hf (by omega),bs]
  unfold iK
  rw [p3 hkl] at go
  by_cases c1:inL list (b.tabs.getD i default).name ((b.tabs.getD i default).table.rows.getD k default).id
  ·rw [B_t c1] at go ⊢
   rw [ct,cap (by rw [s_,List.length_append];omega),ct,ek]
   rw [if_pos rfl,← List.append_assoc] at go
   exact go
  ·rw [B_f c1] at go ⊢
   rw [cf,ek]
   rw [if_neg (by simp),List.append_nil] at go
   exact go
theorem lN {b:ac}{list:List Ref}(hf:BIG≤fu)(h:am b)(hn:list.length≤1000){rec1:Bool→List Ref→Option (List Ref)} :
     ∀ (m n i:Nat),i+m=b.tabs.length→m<n→cL fu b list rec1 n (i:Int) ((b.tabs.take i).flatMap (nh (inL list)))=some (eQ b (inL list)):=by
 intro m
 induction m with
 | zero=>
  intro n i hk hn
  obtain ⟨n,rfl⟩:∃ z,n=z+1:=⟨n-1,by omega⟩
  have:i=b.tabs.length:=by omega
  subst this
  rw [cL,nlt,cf,List.take_length];rfl
 | succ m ih=>
  intro n i hk hn2
  obtain ⟨n,rfl⟩:∃ z,n=z+1:=⟨n-1,by omega⟩
  have hi:i<b.tabs.length:=by omega
  have h3:=h.ok.ntab
  have hlen:=(h.ok.tabs i hi).ok.nrow
  unfold dr at hlen
  rw [cL,ltR hi,ct]
  have hpl:=oV h.ok (inL list) i
  have e1:=qD (rec1:=rec1) (rec4:=cL fu b list rec1 n) (pre:=(b.tabs.take i).flatMap (nh (inL list))) hf h hn hi (by omega) (b.tabs.getD i default).table.rows.length fu 0 (by omega) (by unfold BIG at hf;omega)
  have e0:gY (inL list) (b.tabs.getD i default) 0=[]:=rfl
  rw [e0,List.append_nil] at e1
  refine e1.trans ?_
  have:=ih n (i+1) (by omega) (by omega)
  rw [kU (d:=default) hi,List.flatMap_append] at this
  simpa using this
theorem m3 {b:ac}{nm:List UInt8}{id:Int}{l:List Ref}(h:ah b)(hg:gw b nm id l)(hc:∀ x r,(∃ j,0≤j∧j<b.tabs.length∧x=(b.tabs.getD j default).name∧r∈(b.tabs.getD j default).table.rows)→inL l x r.id∨¬ wY b (inL l) x r):∀ x n,gx b nm id x n→inL l x n:=by
 intro x n hx
 induction hx with
 | self=>exact hg.self
 | @next lk r hl hr hw hv _ ih=>
  have hf:=(h.link hl).1
  rcases hc lk.from_ r ⟨tabN b lk.from_,Nat.zero_le _,hf.src,(cg hf.src).symm,hr⟩ with h1|h1
  ·exact h1
  ·exact absurd ⟨lk,hl,rfl,hw,hv,ih⟩ h1
theorem qF {b:ac}{nm:List UInt8}{id:Int}(hf:BIG≤fu)(h:am b):∀ (m n:Nat) (l:List Ref),qn b l≤m→m+1<n→gw b nm id l→ax fu b n true l=some (eQ b (gx b nm id)):=by
 intro m
 have h3:=h.ok.ntab
 induction m with
 | zero=>
  intro n l hm hn hg
  obtain ⟨n,rfl⟩:∃ z,n=z+2:=⟨n-2,by omega⟩
  rw [ax,ct]
  obtain ⟨t',l',hs,e⟩:=lO (rec1:=ax fu b (n+1)) hf h b.tabs.length fu 0 false l (by omega) (by unfold BIG at hf;omega) hg
  refine e.trans ?_
  cases t' with
  | true=>
   rcases hs.loud rfl with e|e
   ·cases e
   ·omega
  | false=>
   obtain ⟨-,e2,hc⟩:=hs.quiet rfl
   subst e2
   have hll:=hg.len
   rw [ax,cf]
   have:=lN (list:=l') (rec1:=ax fu b n) hf h (by omega) b.tabs.length fu 0 (by omega) (by unfold BIG at hf;omega)
   refine this.trans ?_
   congr 2
   funext x k
   exact propext ⟨hg.sound x k,m3 h.ok hg hc x k⟩
 | succ m ih=>
  intro n l hm hn hg
  obtain ⟨n,rfl⟩:∃ z,n=z+2:=⟨n-2,by omega⟩
  rw [ax,ct]
  obtain ⟨t',l',hs,e⟩:=lO (rec1:=ax fu b (n+1)) hf h b.tabs.length fu 0 false l (by omega) (by unfold BIG at hf;omega) hg
  refine e.trans ?_
  cases t' with
  | true=>
   rcases hs.loud rfl with e|e
   ·cases e
   ·exact ih (n+1) l' (by omega) (by omega) hs.grows
  | false=>
   obtain ⟨-,e2,hc⟩:=hs.quiet rfl
   subst e2
   have hll:=hg.len
   rw [ax,cf]
   have:=lN (list:=l') (rec1:=ax fu b n) hf h (by omega) b.tabs.length fu 0 (by omega) (by unfold BIG at hf;omega)
   refine this.trans ?_
   congr 2
   funext x k
   exact propext ⟨hg.sound x k,m3 h.ok hg hc x k⟩
theorem yt {b:ac}{nm:List UInt8}{id:Int}(hf:BIG≤fu)(h:am b):vM fu b nm id=some (eQ b (gx b nm id)):=by
 unfold vM
 have hl:=uL h.ok [(⟨nm,id⟩:Ref)]
 refine qF hf h 24 fu _ hl (by unfold BIG at hf;omega) ⟨fun x n hx=>?_,⟨_,List.mem_singleton.2 rfl,rfl,rfl⟩,by rw [s_];omega⟩
 have:=dx.1 hx
 rw [List.mem_singleton] at this
 cases this
 exact .self
theorem oU {b:ac}(h:ah b){G:aT}{x:List UInt8}{n:Int}:inL (eQ b G) x n↔dF b x n∧G x n:=by
 constructor
 ·rintro ⟨r,hr,rfl,rfl⟩
  obtain ⟨t,ht,hr⟩:=List.mem_flatMap.1 hr
  obtain ⟨q,hq,rfl⟩:=List.mem_map.1 hr
  rw [List.mem_filter,jh] at hq
  obtain ⟨h1,h2⟩:=fy h ht
  exact ⟨⟨h1,fW.2 ⟨q,by show q∈(tabT b t.name).rows;rw [h2];exact hq.1,rfl⟩⟩,hq.2⟩
 ·rintro ⟨⟨h1,h2⟩,hg⟩
  obtain ⟨q,hq,rfl⟩:=fW.1 h2
  refine ⟨⟨x,q.id⟩,List.mem_flatMap.2 ⟨_,getD_mem (d:=(default:Tab)) h1,?_⟩,rfl,rfl⟩
  have hn:=cg h1
  refine List.mem_map.2 ⟨q,List.mem_filter.2 ⟨hq,?_⟩,by rw [hn]⟩
  rw [hn];exact B_t hg
theorem uR {b:ac}(h:ah b)(G:aT):(eQ b G).length≤24:=by
 have:=oV h G b.tabs.length
 rw [List.take_length] at this
 have h3:=h.ntab
 unfold eQ
 omega
theorem yu {b:ac}{nm:List UInt8}{id:Int}(hf:BIG≤fu)(h:SmB b):vN fu b nm id=some (B (dF b nm id)):=by
 unfold vN kr
 rw [ba hf h.ntab,bs,eJ]
 by_cases hk:tabN b nm<b.tabs.length
 case neg=>rw [B_f hk,B_f fun hh=>hk hh.1];rfl
 have hN:(tabT b nm).rows.length≤1000:=(h.tabs _ hk).nrow
 rw [B_t hk,aK hk,ct,ltR hk,b_,ct,tn,aW,rY hf hN,bs,qa]
 congr 1
 exact ai ⟨fun hh=>⟨hk,hh⟩,fun hh=>hh.2⟩
theorem yr {b:ac}{list:List Ref}(hf:BIG≤fu)(h:am b)(hn:list.length≤1000):vL fu b list=some (B (l3 b (inL list))):=by
 have hL:=h.sm.nlink
 have e:l3 b (inL list)↔∃ i,i<b.links.length∧((b.links.getD i default).how=1∧∃ k,k < (tabT b (b.links.getD i default).from_).rows.length∧¬ inL list (b.links.getD i default).from_ ((tabT b (b.links.getD i default).from_).rows.getD k default).id∧dK b (inL list) (b.links.getD i default) ((tabT b (b.links.getD i default).from_).rows.getD k default)):=by
  constructor
  ·rintro ⟨l,hl,hw,r,hr,hh⟩
   obtain ⟨i,hi,rfl⟩:=g_ hl
   obtain ⟨k,hk,rfl⟩:=g_ hr
   exact ⟨i,hi,by rw [ae hi];exact ⟨hw,k,hk,by rw [ae hk];exact hh⟩⟩
  ·rintro ⟨i,hi,hw,k,hk,hh⟩
   exact ⟨_,getD_mem hi,hw,_,getD_mem hk,hh⟩
 unfold vL
 rw [ai e,← xM]
 have step:∀ n (i:Nat),i<b.links.length→aV fu b list (n+1) (i:Int)=@ite _ ((b.links.getD i default).how=1∧∃ k,k < (tabT b (b.links.getD i default).from_).rows.length∧¬ inL list (b.links.getD i default).from_ ((tabT b (b.links.getD i default).from_).rows.getD k default).id∧dK b (inL list) (b.links.getD i default) ((tabT b (b.links.getD i default).from_).rows.getD k default)) (Classical.propDecidable _) (some true) (aV fu b list n (IntKind.i64.wrap ((i:Int)+1))):=fun n i hi=>by
  have hfit:=(h.ok.links i hi).fits
  have g:=h.tabT hfit.src
  have hN:=g.sm.nrow
  rw [aV,ltR hi,ct,ge0,b_,ct,tn,ba hf h.sm.ntab,bs,aK hfit.src,inR hfit.src,ct]
  by_cases hw:(b.links.getD i default).how=1
  case neg=>
   rw [if_neg (fun hh=>hw hh.1)]
   obtain ⟨fu',rfl⟩:∃ z,fu=z+1:=⟨fu-1,by unfold BIG at hf;omega⟩
   have e2:∀ rec2,iJ (fu' + 1) b list (i:Int) (tabN b (b.links.getD i default).from_:Int) 0 (aV (fu' + 1) b list n) rec2 false=aV (fu' + 1) b list n (IntKind.i64.wrap ((i:Int)+1)):=fun _=>rfl
   rw [bQ,tn,tn,df hw,e2]
   cases decide ((0:Int) < _)<;>rfl
  have hl:=jn (L:=bQ fu b list (i:Int) (tabN b (b.links.getD i default).from_:Int) (aV fu b list n)) (N:=(tabT b (b.links.getD i default).from_).rows.length) (fun k=>¬ inL list (b.links.getD i default).from_ ((tabT b (b.links.getD i default).from_).rows.getD k default).id∧dK b (inL list) (b.links.getD i default) ((tabT b (b.links.getD i default).from_).rows.getD k default)) (some true) (aV fu b list n (IntKind.i64.wrap ((i:Int)+1))) (by unfold BIG;omega) (fun m=>by rw [bQ,tn,aW,nlt];rfl)
  have st:∀ m (k:Nat),k < (tabT b (b.links.getD i default).from_).rows.length→bQ fu b list (i:Int) (tabN b (b.links.getD i default).from_:Int) (aV fu b list n) (m+1) (k:Int)=kq (k:Int) (aV fu b list n) (bQ fu b list (i:Int) (tabN b (b.links.getD i default).from_:Int) (aV fu b list n) m) (B (¬ inL list (b.links.getD i default).from_ ((tabT b (b.links.getD i default).from_).rows.getD k default).id∧dK b (inL list) (b.links.getD i default) ((tabT b (b.links.getD i default).from_).rows.getD k default))):=fun m k hk=>by
   rw [bQ,tn,tn,aW,ltR hk,ct,dt hw]
   unfold iJ
   rw [ct,tn,tn,tn,aW,inR hk,ct,iF hf hn,bs]
   by_cases c1:inL list (b.links.getD i default).from_ ((tabT b (b.links.getD i default).from_).rows.getD k default).id
   ·rw [B_t c1,B_f fun hh=>hh.1 c1];rfl
   ·rw [B_f c1,n5 hf h.g hfit hk hn,bs]
    simp only [m_,ct]
    congr 1
    exact ai ⟨fun hh=>⟨c1,hh⟩,fun hh=>hh.2⟩
  have hl2:=hl (fun m k hk hp=>by rw [st m k hk,B_t hp];rfl) (fun m k hk hp=>by rw [st m k hk,B_f hp];rfl) (fu:=fu) (by unfold BIG at hf;omega)
  rw [hl2]
  by_cases hex:∃ k,k < (tabT b (b.links.getD i default).from_).rows.length∧¬ inL list (b.links.getD i default).from_ ((tabT b (b.links.getD i default).from_).rows.getD k default).id∧dK b (inL list) (b.links.getD i default) ((tabT b (b.links.getD i default).from_).rows.getD k default)
  ·rw [if_pos hex,if_pos ⟨hw,hex⟩]
  ·rw [if_neg hex,if_neg (fun hh=>hex hh.2)]
 refine jn (L:=aV fu b list) _ _ _ (by unfold BIG;omega) (fun n=>?_) (fun n i hi hp=>?_) (fun n i hi hp=>?_) (by unfold BIG at hf;omega)
 ·rw [aV,nlt];rfl
 ·rw [step n i hi,if_pos hp]
 ·rw [step n i hi,if_neg hp]
theorem bz.ite {t:ab}{ψ φ:Row→Row}{P:Row→Prop}(h:bz t ψ)(g:bz t φ):bz t (fun r=>@ite _ (P r) (Classical.propDecidable _) (ψ r) (φ r)):=by
 refine ⟨fun r hr=>?_,fun r hr=>?_,fun r hr=>?_,fun r hr=>?_⟩<;>split
 ·exact h.id r hr
 ·exact g.id r hr
 ·exact h.ver r hr
 ·exact g.ver r hr
 ·exact h.was r hr
 ·exact g.was r hr
 ·exact h.now r hr
 ·exact g.now r hr
noncomputable def freeG (b:ac) (G:aT) (i:Nat) (nm:List UInt8) (r:Row):Row:=@ite _ (G nm r.id) (Classical.propDecidable _) r (dI b G nm (b.links.take i) r)
theorem ig {b:ac}{G:aT}{i:Nat}(h:ah b){nm:List UInt8}(hn:tabN b nm<b.tabs.length):bz (tabT b nm) (freeG b G i nm):=
 (bz.same (h.tabs _ hn).ok).ite (lv h hn _ fun _ hl=>List.mem_of_mem_take hl)
theorem mz (b:ac)(G:aT):freeG b G 0=fun _ r=>r:=by
 funext nm r
 unfold freeG
 rw [List.take_zero]
 split<;>rfl
theorem freeG_succ {b:ac}{G:aT}{i:Nat}(hi:i<b.links.length)(nm:List UInt8)(r:Row):freeG b G (i+1) nm r=@ite _ (G nm r.id) (Classical.propDecidable _) r (uT b G nm r (dI b G nm (b.links.take i) r) (b.links.getD i default)):=by
 unfold freeG
 rw [kU (d:=default) hi,freeR_snoc]
theorem ez {b:ac}{G:aT}{i:Nat}(hi:i<b.links.length){nm:List UInt8}{r:Row}(h:G nm r.id∨¬ Hit b G nm (b.links.getD i default) r):freeG b G (i+1) nm r=freeG b G i nm r:=by
 rw [freeG_succ hi]
 unfold freeG
 by_cases hg:G nm r.id
 ·rw [if_pos hg,if_pos hg]
 ·rw [if_neg hg,if_neg hg]
  exact if_neg (h.resolve_left hg)
theorem oW {b:ac}{G:aT}{i:Nat}(hi:i<b.links.length){nm:List UInt8}{r:Row}(h1:¬ G nm r.id)(h2:Hit b G nm (b.links.getD i default) r):freeG b G (i+1) nm r=fq (tabT b nm) (cB b (b.links.getD i default)) (freeG b G i nm r):=by
 rw [freeG_succ hi]
 unfold freeG
 rw [if_neg h1,if_neg h1]
 exact if_pos h2
noncomputable def eR (b:ac) (G:aT) (i:Nat) (nm:List UInt8) (k:Nat) (r:Row):Row:=@ite _ (∃ j,j<k∧j < (tabT b nm).rows.length∧((tabT b nm).rows.getD j default).id=r.id) (Classical.propDecidable _) (freeG b G (i+1) nm r) (freeG b G i nm r)
theorem lw {b:ac}{G:aT}{i k:Nat}(h:ah b){nm:List UInt8}(hn:tabN b nm<b.tabs.length):bz (tabT b nm) (eR b G i nm k):=(ig h hn).ite (ig h hn)
theorem kS {b:ac}{p:List UInt8→Row→Prop}{ψ:List UInt8→Row→Row}{nm:List UInt8}(hk:tabN b nm<b.tabs.length):((baseW b p ψ).tabs.getD (tabN b nm) default).table=tabW (tabT b nm) (p nm) (ψ nm):=by
 rw [cv hk,cg hk];rfl
theorem kW (t:ab)(ψ:Row→Row):(tabW t (fun _=>True) ψ).rows=t.rows.map ψ:=by
 show (t.rows.filter fun _=>B True).map ψ=_
 rw [List.filter_eq_self.2 fun _ _=>B_t trivial]
abbrev mh:List UInt8→Row→Prop:=fun _ _=>True
noncomputable def ka (b:ac) (G:aT) (i:Nat) (nm:List UInt8) (k:Nat):ac:=baseW b mh (xa (freeG b G i) nm (eR b G i nm k))
theorem rE {b:ac}{G:aT}{i k:Nat}{nm:List UInt8}(h:ah b)(hn:tabN b nm<b.tabs.length):cF b (xa (freeG b G i) nm (eR b G i nm k)):=⟨fun j hj=>by
 have hp:=h.place j hj
 have hj':tabN b (b.tabs.getD j default).name<b.tabs.length:=by rw [hp];exact hj
 have e:dr b j=tabT b (b.tabs.getD j default).name:=by unfold tabT;rw [hp];rfl
 rw [e]
 by_cases hx:(b.tabs.getD j default).name=nm
 ·rw [hx,aB];exact lw h hn
 ·rw [au _ _ hx];exact ig h hj'⟩
theorem Ci {b:ac}{G:aT}{i k:Nat}{nm:List UInt8}(h:am b)(hn:tabN b nm<b.tabs.length):fS (ka b G i nm k):=
 ⟨fun j hj=>(iZ h.ok (rE h.ok hn) j hj).ok,sH h (rE h.ok hn)⟩
theorem lh {b:ac}{G:aT}{i k:Nat}{nm:List UInt8}(hn:tabN b nm<b.tabs.length):tabT (ka b G i nm k) nm=tabW (tabT b nm) (fun _=>True) (eR b G i nm k):=by
 unfold ka
 rw [jC hn,aB]
theorem ql {b:ac}{G:aT}{i k:Nat}{nm:List UInt8}(hn:tabN b nm<b.tabs.length):((ka b G i nm k).tabs.getD (tabN b nm) default).table=tabW (tabT b nm) (fun _=>True) (eR b G i nm k):=by
 unfold ka
 rw [kS hn,aB]
theorem j9 (b:ac)(G:aT)(i:Nat)(nm:List UInt8)(k:Nat):(ka b G i nm k).tabs.length=b.tabs.length:=aN ..
theorem rF {b:ac}{G:aT}{i k:Nat}{nm:List UInt8}(hn:tabN b nm<b.tabs.length){j:Nat}(hj:j < (tabT b nm).rows.length):(((ka b G i nm k).tabs.getD (tabN b nm) default).table.rows).getD j default=eR b G i nm k ((tabT b nm).rows.getD j default):=by
 rw [ql hn,kW,ae (by simpa using hj),List.getElem_map,ae hj]
theorem li {b:ac}{G:aT}{i k:Nat}{nm:List UInt8}(hn:tabN b nm<b.tabs.length):(((ka b G i nm k).tabs.getD (tabN b nm) default).table.rows).length=(tabT b nm).rows.length:=by
 rw [ql hn,kW,List.length_map]
theorem ie {b:ac}{G:aT}{i k:Nat}{nm:List UInt8}(h:ah b)(hn:tabN b nm<b.tabs.length)(hk:k < (tabT b nm).rows.length):eR b G i nm k ((tabT b nm).rows.getD k default)=freeG b G i nm ((tabT b nm).rows.getD k default):=by
 refine if_neg ?_
 rintro ⟨j,h1,h2,h3⟩
 have ha:=(h.tabs _ hn).ok.asc
 have e1:=eu ha h2
 have e2:=eu ha hk
 have h3':((tabT b nm).rows.getD j default).id=((tabT b nm).rows.getD k default).id:=h3
 have e3:j=k:=by
  have e1':rowN (tabT b nm) ((tabT b nm).rows.getD j default).id=j:=e1
  have e2':rowN (tabT b nm) ((tabT b nm).rows.getD k default).id=k:=e2
  rw [← e1',← e2',h3']
 omega
theorem ru {t:ab}(h:aP t){r q:Row}(hr:r∈t.rows)(hq:q∈t.rows)(e:r.id=q.id):r=q:=by
 obtain ⟨i,hi,rfl⟩:=g_ hr
 obtain ⟨j,hj,rfl⟩:=g_ hq
 have e1:=eu h.asc hi
 have e2:=eu h.asc hj
 rw [ae hi] at e1
 rw [ae hj] at e2
 have:i=j:=by rw [← e1,← e2,e]
 subst this;rfl
theorem fZ {b:ac}{G:aT}{i k:Nat}{nm:List UInt8}(h:ah b)(hn:tabN b nm<b.tabs.length)(hk:k < (tabT b nm).rows.length){r:Row}(hr:r∈(tabT b nm).rows):eR b G i nm (k+1) r=if r.id=((tabT b nm).rows.getD k default).id then freeG b G (i+1) nm r else eR b G i nm k r:=by
 by_cases e:r.id=((tabT b nm).rows.getD k default).id
 ·rw [if_pos e]
  exact if_pos ⟨k,Nat.lt_succ_self _,hk,e.symm⟩
 ·rw [if_neg e]
  unfold eR
  by_cases hex:∃ j,j<k∧j < (tabT b nm).rows.length∧((tabT b nm).rows.getD j default).id=r.id
  ·rw [if_pos hex,if_pos]
   obtain ⟨j,h1,h2⟩:=hex
   exact ⟨j,by omega,h2⟩
  ·rw [if_neg hex,if_neg]
   rintro ⟨j,h1,h2,h3⟩
   by_cases hjk:j=k
   ·subst hjk;exact e h3.symm
   ·exact hex ⟨j,by omega,h2,h3⟩
theorem baseW_rows {b:ac}(h:ah b){p p':List UInt8→Row→Prop}{ψ ψ':List UInt8→Row→Row}(hp:∀ nm,tabN b nm<b.tabs.length→∀ r,r∈(tabT b nm).rows→(p nm r↔p' nm r))(hw:∀ nm,tabN b nm<b.tabs.length→∀ r,r∈(tabT b nm).rows→p nm r→ψ nm r=ψ' nm r):baseW b p ψ=baseW b p' ψ':=by
 refine rf (fun t ht r hr=>?_) fun t ht r hr=>?_
 ·obtain ⟨h1,h2⟩:=fy h ht
  exact hp _ h1 r (by rw [h2];exact hr)
 ·obtain ⟨h1,h2⟩:=fy h ht
  exact hw _ h1 r (by rw [h2];exact hr)
theorem uC {b:ac}{G:aT}{i:Nat}{nm:List UInt8}(h:ah b):ka b G i nm 0=baseW b mh (freeG b G i):=by
 refine baseW_rows h (fun _ _ _ _=>Iff.rfl) fun x hx r hr _=>?_
 by_cases e:x=nm
 ·subst e
  rw [aB]
  exact if_neg fun ⟨j,h1,_⟩=>absurd h1 (Nat.not_lt_zero _)
 ·rw [au _ _ e]
theorem xH {b:ac}{G:aT}{i:Nat}(h:ah b)(hi:i<b.links.length):ka b G i (b.links.getD i default).from_ (tabT b (b.links.getD i default).from_).rows.length=baseW b mh (freeG b G (i+1)):=by
 refine baseW_rows h (fun _ _ _ _=>Iff.rfl) fun x hx r hr _=>?_
 by_cases e:x=(b.links.getD i default).from_
 ·subst e
  rw [aB]
  obtain ⟨j,hj,rfl⟩:=g_ hr
  exact if_pos ⟨j,hj,hj,by rw [ae hj]⟩
 ·rw [au _ _ e]
  exact (ez hi (.inr fun hh=>e hh.1.symm)).symm
theorem uU {b:ac}{G:aT}{i:Nat}(h:ah b)(hi:i<b.links.length){r:Row}(hr:r∈(tabT b (b.links.getD i default).from_).rows):(nowR (tabT b (b.links.getD i default).from_) (freeG b G i (b.links.getD i default).from_ r)).getD (cB b (b.links.getD i default)) default=fw b (b.links.getD i default) r:=by
 have hfit:=(h.links i hi).fits
 have hrow:=((h.tabs _ hfit.src).ok.rg r hr).now
 have hrow':aO (lastS (tabT b (b.links.getD i default).from_)) (nowR (tabT b (b.links.getD i default).from_) r):=hrow
 unfold freeG
 split
 ·rfl
 ·rcases (freeR_get (G:=G) (nm:=(b.links.getD i default).from_) (r:=r) (c:=cB b (b.links.getD i default)) (by rw [hrow'.len];exact hfit.col) (b.links.take i)).2 with ⟨⟨l,hl,hhit,hc⟩,-⟩|⟨-,e⟩
  ·exfalso
   obtain ⟨j,hj,rfl⟩:=g_ hl
   have hji:j<i:=by simp at hj;omega
   rw [List.getElem_take] at hhit hc
   have hjl:j<b.links.length:=by omega
   have hfj:=(h.links j hjl).fits
   rw [ae hjl] at hfj
   refine (h.links i hi).apart j hji ?_
   rw [ae hjl]
   refine ⟨hhit.1,?_⟩
   have e1:=hfj.col
   have e2:=hfit.col
   unfold cB at hc e1 e2
   rw [hhit.1] at hc e1
   rw [← fg e1,hc,fg e2]
  ·exact e
theorem qB {b:ac}{list:List Ref}(hf:BIG≤fu)(h:am b)(hn:list.length≤1000){i:Nat}(hi:i<b.links.length)(hw:(b.links.getD i default).how=3){rec1:Int→List Tab→List aj→Option ac} :
     ∀ (m n k:Nat),k+m=(tabT b (b.links.getD i default).from_).rows.length→m<n→
      bP fu list (i:Int) b.links (tabN b (b.links.getD i default).from_:Int) rec1 n (k:Int) (ka b (inL list) i (b.links.getD i default).from_ k).tabs b.links=rec1 (IntKind.i64.wrap ((i:Int)+1)) (baseW b mh (freeG b (inL list) (i+1))).tabs b.links:=by
 have hfit:=(h.ok.links i hi).fits
 have hs:=hfit.src
 have g:=h.tabT hs
 have hN:=g.sm.nrow
 intro m
 induction m with
 | zero=>
  intro n k hk hn
  obtain ⟨n,rfl⟩:∃ z,n=z+1:=⟨n-1,by omega⟩
  have:k=(tabT b (b.links.getD i default).from_).rows.length:=by omega
  subst this
  rw [bP,j9,inR hs,ct,tn,li hs,nlt,cf]
  unfold eD
  rw [cf,xH h.ok hi]
 | succ m ih=>
  intro n k hk hn2
  obtain ⟨n,rfl⟩:∃ z,n=z+1:=⟨n-1,by omega⟩
  have hkl:k < (tabT b (b.links.getD i default).from_).rows.length:=by omega
  have hmem:(tabT b (b.links.getD i default).from_).rows.getD k default∈(tabT b (b.links.getD i default).from_).rows:=getD_mem hkl
  have ek:=bb hkl (show (tabT b (b.links.getD i default).from_).rows.length≤BIG by unfold BIG;omega)
  have go:=ih n (k+1) (by omega) (by omega)
  have hway:=lw (G:=inL list) (i:=i) (k:=k) h.ok hs
  have eid:(eR b (inL list) i (b.links.getD i default).from_ k ((tabT b (b.links.getD i default).from_).rows.getD k default)).id=((tabT b (b.links.getD i default).from_).rows.getD k default).id:=hway.id _ hmem
  rw [bP,j9,inR hs,ct,tn,tn,li hs,ltR hkl,ct,dt hw]
  unfold eD
  rw [ct,j9,inR hs,ct,tn,tn,tn,li hs,inR hkl,ct,rF hs hkl,eid,iF hf hn,bs]
  have quiet:(inL list (b.links.getD i default).from_ ((tabT b (b.links.getD i default).from_).rows.getD k default).id∨¬ Hit b (inL list) (b.links.getD i default).from_ (b.links.getD i default) ((tabT b (b.links.getD i default).from_).rows.getD k default))→ka b (inL list) i (b.links.getD i default).from_ k=ka b (inL list) i (b.links.getD i default).from_ (k+1):=fun hq=>by
   refine baseW_rows h.ok (fun _ _ _ _=>Iff.rfl) fun x hx r hr _=>?_
   by_cases e:x=(b.links.getD i default).from_
   ·subst e
    rw [aB,aB,fZ h.ok hs hkl hr]
    split
    ·rename_i e2
     have:r=(tabT b (b.links.getD i default).from_).rows.getD k default:=ru g.ok hr hmem e2
     subst this
     rw [ie h.ok hs hkl,ez hi hq]
    ·rfl
   ·rw [au _ _ e,au _ _ e]
  by_cases c1:inL list (b.links.getD i default).from_ ((tabT b (b.links.getD i default).from_).rows.getD k default).id
  ·rw [B_t c1]
   simp only [n_,cf]
   unfold fI fH
   rw [cf,ek,quiet (.inl c1)]
   exact go
  rw [B_f c1]
  simp only [m_,ct]
  have hmg:=Ci (G:=inL list) (i:=i) (k:=k) h hs
  have hmf:ar (ka b (inL list) i (b.links.getD i default).from_ k) (b.links.getD i default):=baseW_skel.fits hfit
  have eq:jQ fu (⟨(ka b (inL list) i (b.links.getD i default).from_ k).tabs,b.links⟩:ac) (b.links.getD i default) (k:Int) list=some (B (Hit b (inL list) (b.links.getD i default).from_ (b.links.getD i default) ((tabT b (b.links.getD i default).from_).rows.getD k default))):=by
   show jQ fu (ka b (inL list) i (b.links.getD i default).from_ k) _ _ _=_
   have e0:(tabT (ka b (inL list) i (b.links.getD i default).from_ k) (b.links.getD i default).from_).rows=(tabT b (b.links.getD i default).from_).rows.map (eR b (inL list) i (b.links.getD i default).from_ k):=by rw [lh hs,kW]
   rw [vJ hf hmg hmf (by rw [e0,List.length_map];exact hkl) hn]
   congr 1
   have e1:(tabT (ka b (inL list) i (b.links.getD i default).from_ k) (b.links.getD i default).from_).rows.getD k default=freeG b (inL list) i (b.links.getD i default).from_ ((tabT b (b.links.getD i default).from_).rows.getD k default):=by
    rw [e0,ae (by simpa using hkl),List.getElem_map,← ae (d:=default) hkl,ie h.ok hs hkl]
   have ecol:cB (ka b (inL list) i (b.links.getD i default).from_ k) (b.links.getD i default)=cB b (b.links.getD i default):=by unfold cB;rw [lh hs];rfl
   have e2:fw (ka b (inL list) i (b.links.getD i default).from_ k) (b.links.getD i default) (freeG b (inL list) i (b.links.getD i default).from_ ((tabT b (b.links.getD i default).from_).rows.getD k default))=fw b (b.links.getD i default) ((tabT b (b.links.getD i default).from_).rows.getD k default):=by
    rw [← uU (G:=inL list) h.ok hi hmem]
    unfold fw
    rw [ecol,lh hs];rfl
   rw [e1]
   unfold Hit dK
   rw [e2]
   exact ai ⟨fun hh=>⟨rfl,hw,hh⟩,fun hh=>hh.2.2⟩
  rw [eq,bs]
  unfold fI fH
  by_cases c2:Hit b (inL list) (b.links.getD i default).from_ (b.links.getD i default) ((tabT b (b.links.getD i default).from_).rows.getD k default)
  case neg=>
   rw [B_f c2,cf,ek,quiet (.inr c2)]
   exact go
  have hmt:ot (tabW (tabT b (b.links.getD i default).from_) (fun _=>True) (eR b (inL list) i (b.links.getD i default).from_ k)):=⟨m9 g.ok hway,kV g.sm (ox g.ok g.sm hway)⟩
  have hset:=oH (p:=fun _=>True) g.ok hway (id:=((tabT b (b.links.getD i default).from_).rows.getD k default).id) (col:=(b.links.getD i default).col) hfit.col (hfit.need hw) ⟨_,hmem,trivial,rfl⟩
  have hsx:SmX [(⟨(b.links.getD i default).col,nul⟩:Set)]:=⟨by simp,fun x hx=>by rw [List.mem_singleton.1 hx];exact hfit.col_sm g.rt.okLast,fun x hx=>by rw [List.mem_singleton.1 hx];exact nul_ok.sm⟩
  rw [B_t c2,ct,j9,inR hs,ct,tn,tn,tn,rF hs hkl,eid,ql hs,lH hf hmt.sm,bs]
  show (f76 fu _ _ [(⟨(b.links.getD i default).col,nul⟩:Set)]).bind _=_
  rw [zE hf hmt.ok hmt.sm hsx,hset,bs,ct,ek]
  show bP fu list (i:Int) b.links _ rec1 n ((k+1:Nat):Int) (aU (ka b (inL list) i (b.links.getD i default).from_ k) (tabN b (b.links.getD i default).from_) (tabW (tabT b (b.links.getD i default).from_) (fun _=>True) (updR (eR b (inL list) i (b.links.getD i default).from_ k) ((tabT b (b.links.getD i default).from_).rows.getD k default).id (fq (tabT b (b.links.getD i default).from_) (cB b (b.links.getD i default)))))).tabs b.links=_
  have e3:aU (ka b (inL list) i (b.links.getD i default).from_ k) (tabN b (b.links.getD i default).from_) (tabW (tabT b (b.links.getD i default).from_) (fun _=>True) (updR (eR b (inL list) i (b.links.getD i default).from_ k) ((tabT b (b.links.getD i default).from_).rows.getD k default).id (fq (tabT b (b.links.getD i default).from_) (cB b (b.links.getD i default)))))=ka b (inL list) i (b.links.getD i default).from_ (k+1):=by
   unfold ka
   rw [ja h.ok.place hs]
   refine baseW_rows h.ok (fun x hx r hr=>?_) fun x hx r hr _=>?_
   ·by_cases e:x=(b.links.getD i default).from_
    ·subst e;rw [aB]
    ·rw [au _ _ e]
   ·by_cases e:x=(b.links.getD i default).from_
    ·subst e
     rw [aB,aB,fZ h.ok hs hkl hr]
     unfold updR
     by_cases e2:r.id=((tabT b (b.links.getD i default).from_).rows.getD k default).id
     ·rw [if_pos e2,if_pos e2]
      have:r=(tabT b (b.links.getD i default).from_).rows.getD k default:=ru g.ok hr hmem e2
      subst this
      rw [ie h.ok hs hkl,oW hi c1 c2]
     ·rw [if_neg e2,if_neg e2]
    ·rw [au _ _ e,au _ _ e,au _ _ e]
  rw [e3]
  exact go
theorem qC {b:ac}{list:List Ref}(hf:BIG≤fu)(h:am b)(hn:list.length≤1000) :
     ∀ (m n i:Nat),i+m=b.links.length→m<n→bc fu list n (i:Int) (baseW b mh (freeG b (inL list) i)).tabs b.links=some (baseW b mh (freeG b (inL list) b.links.length)):=by
 have hL:=h.sm.nlink
 intro m
 induction m with
 | zero=>
  intro n i hk hn
  obtain ⟨n,rfl⟩:∃ z,n=z+1:=⟨n-1,by omega⟩
  have:i=b.links.length:=by omega
  subst this
  rw [bc,nlt,cf];rfl
 | succ m ih=>
  intro n i hk hn2
  obtain ⟨n,rfl⟩:∃ z,n=z+1:=⟨n-1,by omega⟩
  have hi:i<b.links.length:=by omega
  have hfit:=(h.ok.links i hi).fits
  have hN:=(h.tabT hfit.src).sm.nrow
  have ei:=bb hi (show b.links.length≤BIG by unfold BIG;omega)
  have go:=ih n (i+1) (by omega) (by omega)
  have e0:f1062o fu (⟨(baseW b mh (freeG b (inL list) i)).tabs,b.links⟩:ac) (b.links.getD i default).from_=some (tabN b (b.links.getD i default).from_:Int):=by
   rw [f1062o_is hf (by show (baseW b mh (freeG b (inL list) i)).tabs.length≤1000;rw [aN];exact h.sm.ntab)]
   congr 1
   have e1:tabN (⟨(baseW b mh (freeG b (inL list) i)).tabs,b.links⟩:ac) (b.links.getD i default).from_=tabN b (b.links.getD i default).from_:=gm b mh (freeG b (inL list) i) _
   rw [aK (by rw [e1];show _ < (baseW b mh (freeG b (inL list) i)).tabs.length;rw [aN];exact hfit.src),e1]
  rw [bc,ltR hi,ct,ge0,b_,ct,tn,e0,bs]
  by_cases hw:(b.links.getD i default).how=3
  ·have:=qB (rec1:=bc fu list n) hf h hn hi hw (tabT b (b.links.getD i default).from_).rows.length fu 0 (by omega) (by unfold BIG at hf;omega)
   rw [uC h.ok] at this
   refine this.trans ?_
   rw [ei];exact go
  ·obtain ⟨fu',rfl⟩:∃ z,fu=z+1:=⟨fu-1,by unfold BIG at hf;omega⟩
   have e2:∀ rec2,eD (fu' + 1) list (i:Int) b.links (tabN b (b.links.getD i default).from_:Int) 0 (baseW b mh (freeG b (inL list) i)).tabs b.links (bc (fu' + 1) list n) rec2 false=bc (fu' + 1) list n (IntKind.i64.wrap ((i:Int)+1)) (baseW b mh (freeG b (inL list) i)).tabs b.links:=fun _=>rfl
   have e3:baseW b mh (freeG b (inL list) i)=baseW b mh (freeG b (inL list) (i+1)):=baseW_rows h.ok (fun _ _ _ _=>Iff.rfl) fun x hx r hr _=>(ez hi (.inr fun hh=>hw hh.2.1)).symm
   rw [bP,aN,inR hfit.src,ct,tn,tn,df hw,e2,ei,e3]
   cases decide ((0:Int) < _)<;>exact go
theorem yp {b:ac}{list:List Ref}(hf:BIG≤fu)(h:am b)(hn:list.length≤1000):yq fu b list=some (baseW b mh (freeG b (inL list) b.links.length)):=by
 have:=qC hf h hn b.links.length fu 0 (by omega) (by have:=h.sm.nlink;unfold BIG at hf;omega)
 rw [mz] at this
 have e:baseW b mh (fun _ r=>r)=b:=pC
 rw [e] at this
 exact this
def cb (list:List Ref)(j:Nat)(nm:List UInt8)(r:Row):Prop:=¬ inL (list.take j) nm r.id
theorem GO:@f41a=@f41:=by
 funext fu t id
 unfold f41a f41
 rw [o82]
theorem stay_next {list:List Ref}{j:Nat}(hj:j<list.length)(nm:List UInt8)(r:Row):cb list (j+1) nm r↔cb list j nm r∧¬ ((list.getD j default).name=nm∧(list.getD j default).id=r.id):=by
 unfold cb
 rw [kU (d:=default) hj,inL_snoc,not_or]
theorem rA {b:ac}{ψ:List UInt8→Row→Row}{list:List Ref}(h:am b)(hw:cF b ψ){j:Nat}(hj:j<list.length)(hk:tabN b (list.getD j default).name<b.tabs.length) :
     aU (baseW b (cb list j) ψ) (tabN b (list.getD j default).name) (sX (tabW (tabT b (list.getD j default).name) (cb list j (list.getD j default).name) (ψ (list.getD j default).name)) (list.getD j default).id).1=baseW b (cb list (j+1)) ψ:=by
 have g:=h.tabT hk
 have hway:=hw.at_ hk
 by_cases hex:∃ r,r∈(tabT b (list.getD j default).name).rows∧cb list j (list.getD j default).name r∧r.id=(list.getD j default).id
 ·rw [uv g.ok hway hex,ja h.ok.place hk]
  refine baseW_rows h.ok (fun x hx r hr=>?_) fun x hx r hr _=>?_
  ·rw [stay_next hj]
   by_cases e:x=(list.getD j default).name
   ·subst e
    rw [aB]
    exact ⟨fun hh=>⟨hh.1,fun h2=>hh.2 h2.2.symm⟩,fun hh=>⟨hh.1,fun h2=>hh.2 ⟨rfl,h2.symm⟩⟩⟩
   ·rw [au _ _ e]
    exact ⟨fun hh=>⟨hh,fun h2=>e h2.1.symm⟩,fun hh=>hh.1⟩
  ·by_cases e:x=(list.getD j default).name
   ·subst e;rw [aB]
   ·rw [au _ _ e]
 ·have hno:¬ rowN (tabW (tabT b (list.getD j default).name) (cb list j (list.getD j default).name) (ψ (list.getD j default).name)) (list.getD j default).id < (tabW (tabT b (list.getD j default).name) (cb list j (list.getD j default).name) (ψ (list.getD j default).name)).rows.length:=fun hh=>hex ((fU hway.id).1 hh)
  unfold sX
  rw [if_neg hno,ja h.ok.place hk]
  refine baseW_rows h.ok (fun x hx r hr=>?_) fun x hx r hr _=>?_
  ·rw [stay_next hj]
   by_cases e:x=(list.getD j default).name
   ·subst e
    rw [aB]
    exact ⟨fun hh=>⟨hh,fun h2=>hex ⟨r,hr,hh,h2.2.symm⟩⟩,fun hh=>hh.1⟩
   ·rw [au _ _ e]
    exact ⟨fun hh=>⟨hh,fun h2=>e h2.1.symm⟩,fun hh=>hh.1⟩
  ·by_cases e:x=(list.getD j default).name
   ·subst e;rw [aB]
   ·rw [au _ _ e]
theorem qM {b:ac}{ψ:List UInt8→Row→Row}{list:List Ref}(hf:BIG≤fu)(h:am b)(hw:cF b ψ)(hn:list.length≤1000)(hr:∀ j,j<list.length→tabN b (list.getD j default).name<b.tabs.length){q8:ac}(hq:q8.links=b.links) :
     ∀ (m n j:Nat),j+m=list.length→m<n→fa fu list q8 n (j:Int) (baseW b (cb list j) ψ).tabs=some (baseW b (cb list list.length) ψ,0):=by
 intro m
 induction m with
 | zero=>
  intro n j hk hn
  obtain ⟨n,rfl⟩:∃ z,n=z+1:=⟨n-1,by omega⟩
  have:j=list.length:=by omega
  subst this
  rw [fa,nlt,cf,hq];rfl
 | succ m ih=>
  intro n j hk hn2
  obtain ⟨n,rfl⟩:∃ z,n=z+1:=⟨n-1,by omega⟩
  have hj:j<list.length:=by omega
  have hs:=hr j hj
  have ei:=bb hj (show list.length≤BIG by unfold BIG;omega)
  have go:=ih n (j+1) (by omega) (by omega)
  have e0:f1062o fu (⟨(baseW b (cb list j) ψ).tabs,q8.links⟩:ac) (list.getD j default).name=some (tabN b (list.getD j default).name:Int):=by
   rw [f1062o_is hf (by show (baseW b (cb list j) ψ).tabs.length≤1000;rw [aN];exact h.sm.ntab)]
   congr 1
   have e1:tabN (⟨(baseW b (cb list j) ψ).tabs,q8.links⟩:ac) (list.getD j default).name=tabN b (list.getD j default).name:=gm b (cb list j) ψ _
   rw [aK (by rw [e1];show _ < (baseW b (cb list j) ψ).tabs.length;rw [aN];exact hs),e1]
  have gt:SmT (tabW (tabT b (list.getD j default).name) (cb list j (list.getD j default).name) (ψ (list.getD j default).name)):=kV (h.tabT hs).sm (ox (h.tabT hs).ok (h.tabT hs).sm (hw.at_ hs))
  rw [fa,ltR hj,ct,ge0,b_,ct,tn,e0,bs,aN,inR hs,ct,ct,tn,kS hs,GO,zJ hf gt.nrow,bs,ct,ei]
  show fa fu list q8 n ((j+1:Nat):Int) (aU (baseW b (cb list j) ψ) (tabN b (list.getD j default).name) (sX (tabW (tabT b (list.getD j default).name) (cb list j (list.getD j default).name) (ψ (list.getD j default).name)) (list.getD j default).id).1).tabs=_
  rw [rA h hw hj hs]
  exact go
theorem td {b:ac}{G:aT}{i:Nat}(h:ah b):cF b (freeG b G i):=⟨fun j hj=>by
 have hp:=h.place j hj
 have e:dr b j=tabT b (b.tabs.getD j default).name:=by unfold tabT;rw [hp];rfl
 rw [e]
 exact ig h (by rw [hp];exact hj)⟩
theorem oC {list:List Ref}:cb list 0=mh:=by
 funext x r
 refine eq_true fun ⟨q,hq,_⟩=>?_
 rw [List.take_zero] at hq
 cases hq
theorem mv {b:ac}{G G':aT}(h:ah b)(hg:∀ x n,dF b x n→(G x n↔G' x n)){l:aj}(hl:l∈b.links){r:Row}(hr:r∈(tabT b l.from_).rows):dK b G l r↔dK b G' l r:=by
 obtain ⟨hf,hh⟩:=h.link hl
 refine and_congr_right fun hv=>hg _ _ ⟨hf.dst,hh.mem hr hv⟩
theorem sN {b:ac}{G G':aT}(h:ah b)(hg:∀ x n,dF b x n→(G x n↔G' x n)):l3 b G↔l3 b G':=by
 have key:∀ {G G':aT},(∀ x n,dF b x n→(G x n↔G' x n))→l3 b G→l3 b G':=by
  rintro G G' hg ⟨l,hl,hw,r,hr,h1,h2⟩
  exact ⟨l,hl,hw,r,hr,fun hh=>h1 ((hg _ _ ⟨(h.link hl).1.src,fW.2 ⟨r,hr,rfl⟩⟩).2 hh),(mv h hg hl hr).1 h2⟩
 exact ⟨key hg,key fun x n hx=>(hg x n hx).symm⟩
theorem tc {b:ac}{G G':aT}(h:ah b)(hg:∀ x n,dF b x n→(G x n↔G' x n)){nm:List UInt8}{r:Row}(hr:r∈(tabT b nm).rows):∀ ls:List aj,(∀ l,l∈ls→l∈b.links)→dI b G nm ls r=dI b G' nm ls r:=by
 intro ls
 induction ls using snocInd with
 | nil=>intro _;rfl
 | snoc ls l ih=>
  intro hm
  rw [freeR_snoc,freeR_snoc,ih fun x hx=>hm x (List.mem_append_left _ hx)]
  unfold uT
  have e:Hit b G nm l r↔Hit b G' nm l r:=by
   unfold Hit
   refine and_congr_right fun e=>and_congr_right fun _=>?_
   subst e
   exact mv h hg (hm l (by simp)) hr
  by_cases hh:Hit b G nm l r
  ·rw [if_pos hh,if_pos (e.1 hh)]
  ·rw [if_neg hh,if_neg fun h2=>hh (e.2 h2)]
theorem my {b:ac}{nm:List UInt8}(hn:tabN b nm<b.tabs.length){r:Row}(hr:r∈(tabT b nm).rows):dF b nm r.id:=⟨hn,fW.2 ⟨r,hr,rfl⟩⟩
theorem uw {b:ac}{G G':aT}(h:ah b)(hg:∀ x n,dF b x n→(G x n↔G' x n)):offG b G=offG b G':=by
 refine baseW_rows h (fun x hx r hr=>not_congr (hg _ _ (my hx hr))) fun x hx r hr _=>tc h hg hr _ fun _ hl=>hl
theorem ob {b:ac}{nm:List UInt8}{id:Int}(hf:BIG≤fu)(h:am b):qN fu b nm id=some (xy b nm id):=by
 have hgl:=uR h.ok (gx b nm id)
 have hsame:∀ x n,dF b x n→(inL (eQ b (gx b nm id)) x n↔gx b nm id x n):=fun x n hx=>(oU h.ok).trans ⟨fun hh=>hh.2,fun hh=>⟨hx,hh⟩⟩
 unfold qN xy
 rw [yu hf h.sm,bs]
 by_cases h1:dF b nm id
 case neg=>rw [B_f h1,if_pos h1];rfl
 rw [B_t h1,if_neg (fun hh=>hh h1)]
 simp only [n_,cf]
 rw [yt hf h,bs,yr hf h (by omega),bs,ai (sN h.ok hsame)]
 by_cases h2:l3 b (gx b nm id)
 ·rw [B_t h2,if_pos h2];rfl
 rw [B_f h2,if_neg h2,cf,a6 hf h.sm,bs,yp hf h (by omega),bs]
 have e0:(baseW b mh (freeG b (inL (eQ b (gx b nm id))) b.links.length))=baseW b (cb (eQ b (gx b nm id)) 0) (freeG b (inL (eQ b (gx b nm id))) b.links.length):=by rw [oC]
 have hr:∀ j,j < (eQ b (gx b nm id)).length→tabN b ((eQ b (gx b nm id)).getD j default).name<b.tabs.length:=fun j hj=>((oU h.ok).1 ⟨_,getD_mem hj,rfl,rfl⟩).1.1
 have:=qM (ψ:=freeG b (inL (eQ b (gx b nm id))) b.links.length) (list:=eQ b (gx b nm id)) (q8:=baseW b mh (freeG b (inL (eQ b (gx b nm id))) b.links.length)) hf h (td h.ok) (by omega) hr rfl (eQ b (gx b nm id)).length fu 0 (by omega) (by unfold BIG at hf;omega)
 rw [← e0] at this
 refine this.trans ?_
 congr 2
 refine Eq.trans ?_ (uw h.ok hsame)
 refine baseW_rows h.ok (fun x hx r hr=>?_) fun x hx r hr hp=>?_
 ·unfold cb
  rw [List.take_length]
 ·have hp':¬ inL (eQ b (gx b nm id)) x r.id:=by
   have hp2:¬ inL ((eQ b (gx b nm id)).take (eQ b (gx b nm id)).length) x r.id:=hp
   rwa [List.take_length] at hp2
  unfold freeG
  rw [if_neg hp',List.take_length]
theorem yS {b:ac}{nm:List UInt8}{id:Int}(hf:BIG≤fu)(h:SmB b):wi fu b nm id=some (oN b nm id):=by
 unfold wi oN
 rw [dq hf h,bs]
 by_cases hk:ah b
 case neg=>rw [B_f hk,if_neg hk];rfl
 rw [B_t hk,if_pos hk]
 simp only [n_,cf]
 rw [a6 hf h,bs,ob hf ⟨hk,h⟩,bs,a6 hf (ld ⟨hk,h⟩).sm];rfl
end Go.Proofs.YtganfdhmkdehlaaGreatDoor
