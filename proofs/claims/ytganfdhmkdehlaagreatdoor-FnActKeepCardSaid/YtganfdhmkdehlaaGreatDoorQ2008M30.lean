/- Plain laws. -/
import Derived.Test.YtganfdhmkdehlaaGreatDoorQ2008M28
set_option linter.all false
namespace Go.Proofs.YtganfdhmkdehlaaGreatDoor
open Go Go.HL
variable {fu:Nat}
def inL (list:List Ref):aU:=fun nm id=>∃ r,r∈list∧r.name=nm∧r.id=id
theorem dw {list:List Ref}{nm:List UInt8}{id:Int}:inL list nm id↔(⟨nm,id⟩:Ref)∈list:=by
 constructor
 ·rintro ⟨r,hr,rfl,rfl⟩;exact hr
 ·exact fun h=>⟨_,h,rfl,rfl⟩
theorem inL_snoc {list:List Ref}{x:Ref}{nm:List UInt8}{id:Int}:inL (list++[x]) nm id↔inL list nm id∨(x.name=nm∧x.id=id):=by
 rw [dw,dw,List.mem_append,List.mem_singleton]
 refine or_congr Iff.rfl ⟨fun h=>by rw [← h];exact ⟨rfl,rfl⟩,fun h=>by cases x;cases h.1;cases h.2;rfl⟩
theorem iJ {list:List Ref}{nm:List UInt8}{id:Int}(hf:BIG≤fu)(h:list.length≤1000):md fu list nm id=some (B (inL list nm id)):=by
 unfold md
 have step:∀ n (k:Nat),k<list.length→cH list nm id (n+1) (k:Int)=kq (k:Int) (cH list nm id n) (B ((list.getD k default).name=nm∧(list.getD k default).id=id)):=fun n k hk=>by
  rw [cH,ltR hk,ct,ge0,Bool.and_self,ct,tn,ct,cb,bN,bN]
  cases B ((list.getD k default).name=nm)<;>rfl
 have e:inL list nm id↔∃ k,k<list.length∧((list.getD k default).name=nm∧(list.getD k default).id=id):=by
  constructor
  ·rintro ⟨r,hr,h⟩
   obtain ⟨k,hk,rfl⟩:=List.getElem_of_mem hr
   exact ⟨k,hk,by rw [ae hk];exact h⟩
  ·rintro ⟨k,hk,h⟩
   exact ⟨_,getD_mem hk,h⟩
 rw [ak e,← xF]
 refine gv (L:=cH list nm id) _ _ _ (by unfold BIG;omega) (fun n=>?_) (fun n k hk hp=>?_) (fun n k hk hp=>?_) (by unfold BIG at hf;omega)
 ·rw [cH,nlt];rfl
 ·rw [step n k hk,B_t hp];rfl
 ·rw [step n k hk,B_f hp];rfl
theorem n5 {b:ac}{l:ai}{k:Nat}{list:List Ref}(hf:BIG≤fu)(h:fU b)(hl:ar b l)(hk:k < (tabT b l.from_).rows.length)(hn:list.length≤1000):pi fu b l (k:Int) list=some (B (dJ b (inL list) l ((tabT b l.from_).rows.getD k default))):=by
 have g:=h.tab hl.src
 unfold pi iH
 rw [a8 hf h.sm.ntab,bs,aG hl.src,inR hl.src,ct,tn,aP,sd hf g hk hl.col,bs,qQ]
 unfold dJ
 by_cases hv:(ft b l ((tabT b l.from_).rows.getD k default)).kind=0
 ·rw [dt hv,B_f fun hh=>hh.1 hv];rfl
 ·rw [df hv,iJ hf hn,bs]
  simp only [Bool.not_false,ct]
  congr 1
  exact ak ⟨fun hh=>⟨hv,hh⟩,fun hh=>hh.2⟩
theorem vD {b:ac}{l:ai}{k:Nat}{list:List Ref}(hf:BIG≤fu)(h:fU b)(hl:ar b l)(hk:k < (tabT b l.from_).rows.length)(hn:list.length≤1000):jR fu b l (k:Int) list=some (B (dJ b (inL list) l ((tabT b l.from_).rows.getD k default))):=by
 have e:jR fu b l (k:Int) list=pi fu b l (k:Int) list:=by unfold jR pi iG iH;rw [BT]
 rw [e];exact n5 hf h hl hk hn
def wR (b:ac)(G:aU)(nm:List UInt8)(r:Row):Prop:=∃ l,l∈b.links∧l.from_=nm∧l.how=2∧dJ b G l r
theorem yf {b:ac}{nm:List UInt8}{k:Nat}{list:List Ref}(hf:BIG≤fu)(h:al b)(hk:k < (tabT b nm).rows.length)(hn:list.length≤1000):s8 fu b nm (k:Int) list=some (B (wR b (inL list) nm ((tabT b nm).rows.getD k default))):=by
 have hL:=h.sm.nlink
 unfold s8
 have step:∀ n (i:Nat),i<b.links.length→cn fu b nm (k:Int) list (n+1) (i:Int)=iI (i:Int) (cn fu b nm (k:Int) list n) (B ((b.links.getD i default).from_=nm∧(b.links.getD i default).how=2∧dJ b (inL list) (b.links.getD i default) ((tabT b nm).rows.getD k default))):=fun n i hi=>by
  rw [cn,ltR hi,ct,ge0,Bool.and_self,ct,tn]
  by_cases h1:(b.links.getD i default).from_=nm
  case neg=>rw [df h1,B_f fun hh=>h1 hh.1];rfl
  rw [dt h1,ct]
  by_cases h2:(b.links.getD i default).how=2
  case neg=>rw [df h2,B_f fun hh=>h2 hh.2.1];rfl
  have hfit:=(h.ok.links i hi).fits
  rw [dt h2,ct,n5 hf h.g hfit (by rw [h1];exact hk) hn,bs,h1]
  congr 1
  exact ak ⟨fun hh=>⟨rfl,h2,hh⟩,fun hh=>hh.2.2⟩
 have e:wR b (inL list) nm ((tabT b nm).rows.getD k default)↔∃ i,i<b.links.length∧((b.links.getD i default).from_=nm∧(b.links.getD i default).how=2∧dJ b (inL list) (b.links.getD i default) ((tabT b nm).rows.getD k default)):=by
  constructor
  ·rintro ⟨l,hl,hh⟩
   obtain ⟨i,hi,rfl⟩:=List.getElem_of_mem hl
   exact ⟨i,hi,by rw [ae hi];exact hh⟩
  ·rintro ⟨i,hi,hh⟩
   exact ⟨_,getD_mem hi,hh⟩
 rw [ak e,← xF]
 refine gv (L:=cn fu b nm (k:Int) list) _ _ _ (by unfold BIG;omega) (fun n=>?_) (fun n i hi hp=>?_) (fun n i hi hp=>?_) (by unfold BIG at hf;omega)
 ·rw [cn,nlt];rfl
 ·rw [step n i hi,B_t hp];rfl
 ·rw [step n i hi,B_f hp];rfl
def xl (t:Tab):List Ref:=t.table.rows.map fun r=>⟨t.name,r.id⟩
def pX (b:ac):List Ref:=b.tabs.flatMap xl
theorem xk {b:ac}(h:ah b):(pX b).length≤24:=by
 have key:∀ l:List Tab,(∀ t,t∈l→t.table.rows.length≤8)→(l.flatMap xl).length≤8*l.length:=by
  intro l
  induction l with
  | nil=>intro _;simp
  | cons t l ih=>
   intro hl
   rw [List.flatMap_cons,List.length_append,List.length_cons]
   have h1:=hl t List.mem_cons_self
   have h2:=ih fun x hx=>hl x (List.mem_cons_of_mem _ hx)
   have h3:(xl t).length=t.table.rows.length:=by unfold xl;simp
   omega
 have h3:=h.ntab
 have:=key b.tabs fun t ht=>by
  obtain ⟨k,hk,rfl⟩:=List.getElem_of_mem ht
  have:=((h.tabs k hk).ok).nrow
  unfold cz at this
  rwa [ae hk] at this
 unfold pX
 omega
theorem rj {b:ac}{t:Tab}(ht:t∈b.tabs){r:Row}(hr:r∈t.table.rows):(⟨t.name,r.id⟩:Ref)∈pX b:=List.mem_flatMap.2 ⟨t,ht,List.mem_map.2 ⟨r,hr,rfl⟩⟩
noncomputable def qf (b:ac) (list:List Ref):Nat:=((pX b).filter fun r=>!decide (r∈list)).length
theorem qi {α:Type}{l:List α}{p q:α→Bool}{x:α}(hx:x∈l)(h1:p x=true)(h2:q x=false)(hpq:∀ y,q y=true→p y=true):(l.filter q).length < (l.filter p).length:=by
 induction l with
 | nil=>cases hx
 | cons y l ih=>
  have hle:(l.filter q).length≤(l.filter p).length:=by
   clear ih hx
   induction l with
   | nil=>simp
   | cons z l ih=>
    rw [List.filter_cons,List.filter_cons]
    cases hq:q z with
    | true=>rw [hpq z hq];simpa using ih
    | false=>cases p z<;>simp<;>omega
  rw [List.filter_cons,List.filter_cons]
  rcases List.mem_cons.1 hx with rfl|hx
  ·rw [h1,h2];simp;omega
  ·have:=ih hx
   cases hq:q y with
   | true=>rw [hpq y hq];simpa using this
   | false=>cases p y<;>simp<;>omega
theorem oT {b:ac}{list:List Ref}{x:Ref}(hx:x∈pX b)(hn:x∉list):qf b (list++[x])<qf b list:=by
 unfold qf
 refine qi hx (by simp [hn]) (by simp) fun y hy=>?_
 simp only [Bool.not_eq_true',decide_eq_false_iff_not,List.mem_append,not_or] at hy ⊢
 exact hy.1
theorem uB {b:ac}(h:ah b)(list:List Ref):qf b list≤24:=Nat.le_trans (List.length_filter_le ..) (xk h)
structure gy (b:ac) (nm:List UInt8) (id:Int) (list:List Ref):Prop where
 sound:∀ x n,inL list x n→gz b nm id x n
 self:inL list nm id
 len:list.length+qf b list≤25
structure Sweep (b:ac) (nm:List UInt8) (id:Int) (C:List UInt8→Row→Prop) (t:Bool) (l:List Ref) (t':Bool) (l':List Ref):Prop where
 grows:gy b nm id l'
 less:qf b l'≤qf b l
 quiet:t' = false→t=false∧l' = l∧∀ x r,C x r→inL l x r.id∨¬ wR b (inL l) x r
 loud:t' = true→t=true∨qf b l'<qf b l
theorem Sweep.refl {b:ac}{nm:List UInt8}{id:Int}{t:Bool}{l:List Ref}(h:gy b nm id l):Sweep b nm id (fun _ _=>False) t l t l:=⟨h,Nat.le_refl _,fun e=>⟨e,rfl,fun _ _ h=>h.elim⟩,fun e=>.inl e⟩
theorem Sweep.trans {b:ac}{nm:List UInt8}{id:Int}{C D:List UInt8→Row→Prop}{t t' t'':Bool}{l l' l'':List Ref}(h:Sweep b nm id C t l t' l')(g:Sweep b nm id D t' l' t'' l''):Sweep b nm id (fun x r=>C x r∨D x r) t l t'' l'':=by
 refine ⟨g.grows,Nat.le_trans g.less h.less,fun e=>?_,fun e=>?_⟩
 ·obtain ⟨e1,e2,e3⟩:=g.quiet e
  obtain ⟨e4,e5,e6⟩:=h.quiet e1
  subst e5
  exact ⟨e4,e2,fun x r hc=>hc.elim (e6 x r) (e3 x r)⟩
 ·rcases g.loud e with e1|e1
  ·rcases h.loud e1 with e2|e2
   ·exact .inl e2
   ·exact .inr (Nat.lt_of_le_of_lt g.less e2)
  ·exact .inr (Nat.lt_of_lt_of_le e1 h.less)
theorem Sweep.sub {b:ac}{nm:List UInt8}{id:Int}{C D:List UInt8→Row→Prop}{t t':Bool}{l l':List Ref}(h:Sweep b nm id C t l t' l')(hs:∀ x r,D x r→C x r):Sweep b nm id D t l t' l':=
 ⟨h.grows,h.less,fun e=>⟨(h.quiet e).1,(h.quiet e).2.1,fun x r hd=>(h.quiet e).2.2 x r (hs x r hd)⟩,h.loud⟩
theorem wR.gone {b:ac}{nm:List UInt8}{id:Int}{list:List Ref}(hs:∀ x n,inL list x n→gz b nm id x n){x:List UInt8}{r:Row}(hr:r∈(tabT b x).rows)(h:wR b (inL list) x r):gz b nm id x r.id:=by
 obtain ⟨l,hl,rfl,hw,hv,hg⟩:=h
 exact .next hl hr hw hv (hs _ _ hg)
theorem tabs_at {b:ac}(h:ah b){i:Nat}(hi:i<b.tabs.length):tabT b (b.tabs.getD i default).name=(b.tabs.getD i default).table∧tabN b (b.tabs.getD i default).name<b.tabs.length:=by
 have:=h.place i hi
 unfold tabT
 rw [this]
 exact ⟨rfl,hi⟩
theorem qv {b:ac}{nm:List UInt8}{id:Int}(hf:BIG≤fu)(h:al b){i:Nat}(hi:i<b.tabs.length){rec1:Bool→List Ref→Option (List Ref)}{rec2:Bool→Int→List Ref→Option (List Ref)} :
     ∀ (m n k:Nat) (t:Bool) (l:List Ref),k+m=(b.tabs.getD i default).table.rows.length→m<n→gy b nm id l→
      ∃ t' l',Sweep b nm id (fun x r=>x=(b.tabs.getD i default).name∧∃ j,k≤j∧j < (b.tabs.getD i default).table.rows.length∧(b.tabs.getD i default).table.rows.getD j default=r) t l t' l'∧cL fu b (i:Int) rec1 rec2 n t (k:Int) l=rec2 t' ((i+1:Nat):Int) l':=by
 intro m
 have hlen:=(h.ok.tabs i hi).ok.nrow
 have h3:=h.ok.ntab
 unfold cz at hlen
 have ei:=ba (show i<b.tabs.length from hi) (show b.tabs.length≤BIG by unfold BIG;omega)
 induction m with
 | zero=>
  intro n k t l hk hn hg
  obtain ⟨n,rfl⟩:∃ z,n=z+1:=⟨n-1,by omega⟩
  refine ⟨t,l,(Sweep.refl hg).sub fun x r hh=>by obtain ⟨-,j,h1,h2,-⟩:=hh;omega,?_⟩
  have:k=(b.tabs.getD i default).table.rows.length:=by omega
  subst this
  rw [cL,inR hi,ct,tn,nlt,cf,ei]
 | succ m ih=>
  intro n k t l hk hn hg
  obtain ⟨n,rfl⟩:∃ z,n=z+1:=⟨n-1,by omega⟩
  have hkl:k < (b.tabs.getD i default).table.rows.length:=by omega
  obtain ⟨eT,eN⟩:=tabs_at h.ok hi
  have hll:=hg.len
  have ek:=ba hkl (show (b.tabs.getD i default).table.rows.length≤BIG by unfold BIG;omega)
  have hgoes:s8 fu b (b.tabs.getD i default).name (k:Int) l=some (B (wR b (inL l) (b.tabs.getD i default).name ((b.tabs.getD i default).table.rows.getD k default))):=by
   have:=yf (nm:=(b.tabs.getD i default).name) (k:=k) (list:=l) hf h (by rw [eT];exact hkl) (by omega)
   rwa [eT] at this
  rw [cL,inR hi,ct,ct,ct,tn,ltR hkl,ct,ge0,Bool.and_self,ct,tn,iJ hf (by omega),bs]
  simp only [hgoes,bs]
  have hrow:(b.tabs.getD i default).table.rows.getD k default∈(tabT b (b.tabs.getD i default).name).rows:=by rw [eT];exact getD_mem hkl
  have quiet:(inL l (b.tabs.getD i default).name ((b.tabs.getD i default).table.rows.getD k default).id∨¬ wR b (inL l) (b.tabs.getD i default).name ((b.tabs.getD i default).table.rows.getD k default))→
   ∃ t' l',Sweep b nm id (fun x r=>x=(b.tabs.getD i default).name∧∃ j,k≤j∧j < (b.tabs.getD i default).table.rows.length∧(b.tabs.getD i default).table.rows.getD j default=r) t l t' l'∧cL fu b (i:Int) rec1 rec2 n t ((k+1:Nat):Int) l=rec2 t' ((i+1:Nat):Int) l':=fun hq=>by
   obtain ⟨t',l',hs,e⟩:=ih n (k+1) t l (by omega) (by omega) hg
   refine ⟨t',l',?_,e⟩
   have h1:Sweep b nm id (fun x r=>x=(b.tabs.getD i default).name∧r=(b.tabs.getD i default).table.rows.getD k default) t l t l:=⟨hg,Nat.le_refl _,fun e=>⟨e,rfl,fun x r hh=>by rw [hh.1,hh.2];exact hq⟩,fun e=>.inl e⟩
   refine (h1.trans hs).sub fun x r hh=>?_
   obtain ⟨hx,j,hj1,hj2,hj3⟩:=hh
   by_cases hjk:j=k
   ·subst hjk;exact .inl ⟨hx,hj3.symm⟩
   ·exact .inr ⟨hx,j,by omega,hj2,hj3⟩
  by_cases c1:inL l (b.tabs.getD i default).name ((b.tabs.getD i default).table.rows.getD k default).id
  ·rw [B_t c1]
   simp only [Bool.not_true,cf]
   unfold fL fK
   rw [cf,ek]
   exact quiet (.inl c1)
  rw [B_f c1]
  simp only [Bool.not_false,ct]
  unfold fL fK
  by_cases c2:wR b (inL l) (b.tabs.getD i default).name ((b.tabs.getD i default).table.rows.getD k default)
  case neg=>
   rw [B_f c2,cf,ek]
   exact quiet (.inr c2)
  rw [B_t c2,ct,cap (by rw [List.length_singleton];omega),ct,ek]
  have hmem:(⟨(b.tabs.getD i default).name,((b.tabs.getD i default).table.rows.getD k default).id⟩:Ref)∈pX b:=rj (getD_mem hi) (getD_mem hkl)
  have hnot:(⟨(b.tabs.getD i default).name,((b.tabs.getD i default).table.rows.getD k default).id⟩:Ref)∉l:=fun hh=>c1 (dw.2 hh)
  have hless:=oT hmem hnot
  have hg':gy b nm id (l++[(⟨(b.tabs.getD i default).name,((b.tabs.getD i default).table.rows.getD k default).id⟩:Ref)]):=by
   refine ⟨fun x n hx=>?_,inL_snoc.2 (.inl hg.self),by rw [List.length_append,List.length_singleton];omega⟩
   rcases inL_snoc.1 hx with hx|⟨e1,e2⟩
   ·exact hg.sound x n hx
   ·have e1':(b.tabs.getD i default).name=x:=e1
    have e2':((b.tabs.getD i default).table.rows.getD k default).id=n:=e2
    rw [← e1',← e2']
    exact wR.gone hg.sound hrow c2
  obtain ⟨t',l',hs,e⟩:=ih n (k+1) true _ (by omega) (by omega) hg'
  refine ⟨t',l',?_,e⟩
  have h1:Sweep b nm id (fun x r=>x=(b.tabs.getD i default).name∧r=(b.tabs.getD i default).table.rows.getD k default) t l true (l++[(⟨(b.tabs.getD i default).name,((b.tabs.getD i default).table.rows.getD k default).id⟩:Ref)]):=⟨hg',by omega,fun e=>(by cases e),fun _=>.inr hless⟩
  refine (h1.trans hs).sub fun x r hh=>?_
  obtain ⟨hx,j,hj1,hj2,hj3⟩:=hh
  by_cases hjk:j=k
  ·subst hjk;exact .inl ⟨hx,hj3.symm⟩
  ·exact .inr ⟨hx,j,by omega,hj2,hj3⟩
theorem lO {b:ac}{nm:List UInt8}{id:Int}(hf:BIG≤fu)(h:al b){rec1:Bool→List Ref→Option (List Ref)} :
     ∀ (m n i:Nat) (t:Bool) (l:List Ref),i+m=b.tabs.length→m<n→gy b nm id l→
      ∃ t' l',Sweep b nm id (fun x r=>∃ j,i≤j∧j<b.tabs.length∧x=(b.tabs.getD j default).name∧r∈(b.tabs.getD j default).table.rows) t l t' l'∧bR fu b rec1 n t (i:Int) l=rec1 t' l':=by
 intro m
 induction m with
 | zero=>
  intro n i t l hk hn hg
  obtain ⟨n,rfl⟩:∃ z,n=z+1:=⟨n-1,by omega⟩
  refine ⟨t,l,(Sweep.refl hg).sub fun x r hh=>by obtain ⟨j,h1,h2,-⟩:=hh;omega,?_⟩
  have:i=b.tabs.length:=by omega
  subst this
  rw [bR,nlt,cf]
 | succ m ih=>
  intro n i t l hk hn hg
  obtain ⟨n,rfl⟩:∃ z,n=z+1:=⟨n-1,by omega⟩
  have hi:i<b.tabs.length:=by omega
  have hlen:=(h.ok.tabs i hi).ok.nrow
  unfold cz at hlen
  rw [bR,ltR hi,ct]
  obtain ⟨t1,l1,h1,e1⟩:=qv (nm:=nm) (id:=id) (rec1:=rec1) (rec2:=bR fu b rec1 n) hf h hi (b.tabs.getD i default).table.rows.length fu 0 t l (by omega) (by unfold BIG at hf;omega) hg
  obtain ⟨t2,l2,h2,e2⟩:=ih n (i+1) t1 l1 (by omega) (by omega) h1.grows
  refine ⟨t2,l2,?_,e1.trans e2⟩
  refine (h1.trans h2).sub fun x r hh=>?_
  obtain ⟨j,hj1,hj2,hx,hr⟩:=hh
  by_cases hji:j=i
  ·subst hji
   obtain ⟨p,hp,rfl⟩:=List.getElem_of_mem hr
   exact .inl ⟨hx,p,Nat.zero_le _,hp,ae hp⟩
  ·exact .inr ⟨j,by omega,hj2,hx,hr⟩
noncomputable def ni (G:aU) (t:Tab):List Ref:=(t.table.rows.filter fun r=>B (G t.name r.id)).map fun r=>⟨t.name,r.id⟩
noncomputable def eR (b:ac) (G:aU):List Ref:=b.tabs.flatMap (ni G)
noncomputable def hZ (G:aU) (t:Tab) (k:Nat):List Ref:=((t.table.rows.take k).filter fun r=>B (G t.name r.id)).map fun r=>⟨t.name,r.id⟩
theorem mw (G:aU)(t:Tab):hZ G t t.table.rows.length=ni G t:=by unfold hZ ni;rw [List.take_length]
theorem pV {G:aU}{t:Tab}{k:Nat}(hk:k<t.table.rows.length):hZ G t (k+1)=hZ G t k++(if B (G t.name (t.table.rows.getD k default).id) then [(⟨t.name,(t.table.rows.getD k default).id⟩:Ref)] else []):=by
 unfold hZ
 rw [kT (d:=default) hk,List.filter_append,List.map_append]
 congr 1
 rw [List.filter_cons]
 split<;>rfl
theorem mv (G:aU)(t:Tab)(k:Nat):(hZ G t k).length≤t.table.rows.length:=by
 unfold hZ
 rw [List.length_map]
 exact Nat.le_trans (List.length_filter_le ..) (by rw [List.length_take];omega)
theorem oW {b:ac}(h:ah b)(G:aU):∀ i,((b.tabs.take i).flatMap (ni G)).length≤8*i:=by
 intro i
 have key:∀ l:List Tab,(∀ t,t∈l→t.table.rows.length≤8)→(l.flatMap (ni G)).length≤8*l.length:=by
  intro l
  induction l with
  | nil=>intro _;simp
  | cons t l ih=>
   intro hl
   rw [List.flatMap_cons,List.length_append,List.length_cons]
   have h1:=hl t List.mem_cons_self
   have h2:=ih fun x hx=>hl x (List.mem_cons_of_mem _ hx)
   have h3:(ni G t).length≤t.table.rows.length:=by rw [← mw];exact mv ..
   omega
 have:=key (b.tabs.take i) fun t ht=>by
  obtain ⟨k,hk,rfl⟩:=List.getElem_of_mem (List.mem_of_mem_take ht)
  have:=((h.tabs k hk).ok).nrow
  unfold cz at this
  rwa [ae hk] at this
 have h2:(b.tabs.take i).length≤i:=by rw [List.length_take];omega
 omega
theorem qu {b:ac}{list:List Ref}(hf:BIG≤fu)(h:al b)(hn:list.length≤1000){i:Nat}(hi:i<b.tabs.length){rec1:Bool→List Ref→Option (List Ref)}{rec4:Int→List Ref→Option (List Ref)}{pre:List Ref}(hp:pre.length≤1000) :
     ∀ (m n k:Nat),k+m=(b.tabs.getD i default).table.rows.length→m<n→dW fu b list (i:Int) rec1 rec4 n (k:Int) (pre++hZ (inL list) (b.tabs.getD i default) k)=rec4 ((i+1:Nat):Int) (pre++ni (inL list) (b.tabs.getD i default)):=by
 intro m
 have hlen:=(h.ok.tabs i hi).ok.nrow
 have h3:=h.ok.ntab
 unfold cz at hlen
 have ei:=ba (show i<b.tabs.length from hi) (show b.tabs.length≤BIG by unfold BIG;omega)
 induction m with
 | zero=>
  intro n k hk hn
  obtain ⟨n,rfl⟩:∃ z,n=z+1:=⟨n-1,by omega⟩
  have:k=(b.tabs.getD i default).table.rows.length:=by omega
  subst this
  rw [dW,inR hi,ct,tn,nlt,cf,ei,mw]
 | succ m ih=>
  intro n k hk hn
  obtain ⟨n,rfl⟩:∃ z,n=z+1:=⟨n-1,by omega⟩
  have hkl:k < (b.tabs.getD i default).table.rows.length:=by omega
  have ek:=ba hkl (show (b.tabs.getD i default).table.rows.length≤BIG by unfold BIG;omega)
  have go:=ih n (k+1) (by omega) (by omega)
  have hgl:=mv (inL list) (b.tabs.getD i default) k
  rw [dW,inR hi,ct,ct,ct,tn,ltR hkl,ct,ge0,Bool.and_self,ct,tn,iJ hf (by omega),bs]
  unfold iO
  rw [pV hkl] at go
  by_cases c1:inL list (b.tabs.getD i default).name ((b.tabs.getD i default).table.rows.getD k default).id
  ·rw [B_t c1] at go ⊢
   rw [ct,cap (by rw [List.length_singleton,List.length_append];omega),ct,ek]
   rw [if_pos rfl,← List.append_assoc] at go
   exact go
  ·rw [B_f c1] at go ⊢
   rw [cf,ek]
   rw [if_neg (by simp),List.append_nil] at go
   exact go
theorem lN {b:ac}{list:List Ref}(hf:BIG≤fu)(h:al b)(hn:list.length≤1000){rec1:Bool→List Ref→Option (List Ref)} :
     ∀ (m n i:Nat),i+m=b.tabs.length→m<n→cK fu b list rec1 n (i:Int) ((b.tabs.take i).flatMap (ni (inL list)))=some (eR b (inL list)):=by
 intro m
 induction m with
 | zero=>
  intro n i hk hn
  obtain ⟨n,rfl⟩:∃ z,n=z+1:=⟨n-1,by omega⟩
  have:i=b.tabs.length:=by omega
  subst this
  rw [cK,nlt,cf,List.take_length];rfl
 | succ m ih=>
  intro n i hk hn2
  obtain ⟨n,rfl⟩:∃ z,n=z+1:=⟨n-1,by omega⟩
  have hi:i<b.tabs.length:=by omega
  have h3:=h.ok.ntab
  have hlen:=(h.ok.tabs i hi).ok.nrow
  unfold cz at hlen
  rw [cK,ltR hi,ct]
  have hpl:=oW h.ok (inL list) i
  have e1:=qu (rec1:=rec1) (rec4:=cK fu b list rec1 n) (pre:=(b.tabs.take i).flatMap (ni (inL list))) hf h hn hi (by omega) (b.tabs.getD i default).table.rows.length fu 0 (by omega) (by unfold BIG at hf;omega)
  have e0:hZ (inL list) (b.tabs.getD i default) 0=[]:=rfl
  rw [e0,List.append_nil] at e1
  refine e1.trans ?_
  have:=ih n (i+1) (by omega) (by omega)
  rw [kT (d:=default) hi,List.flatMap_append] at this
  simpa using this
theorem m5 {b:ac}{nm:List UInt8}{id:Int}{l:List Ref}(h:ah b)(hg:gy b nm id l)(hc:∀ x r,(∃ j,0≤j∧j<b.tabs.length∧x=(b.tabs.getD j default).name∧r∈(b.tabs.getD j default).table.rows)→inL l x r.id∨¬ wR b (inL l) x r):∀ x n,gz b nm id x n→inL l x n:=by
 intro x n hx
 induction hx with
 | self=>exact hg.self
 | @next lk r hl hr hw hv _ ih=>
  have hf:=(h.link hl).1
  rcases hc lk.from_ r ⟨tabN b lk.from_,Nat.zero_le _,hf.src,(cg hf.src).symm,hr⟩ with h1|h1
  ·exact h1
  ·exact absurd ⟨lk,hl,rfl,hw,hv,ih⟩ h1
theorem qw {b:ac}{nm:List UInt8}{id:Int}(hf:BIG≤fu)(h:al b):∀ (m n:Nat) (l:List Ref),qf b l≤m→m+1<n→gy b nm id l→ax fu b n true l=some (eR b (gz b nm id)):=by
 intro m
 have h3:=h.ok.ntab
 induction m with
 | zero=>
  intro n l hm hn hg
  obtain ⟨n,rfl⟩:∃ z,n=z+2:=⟨n-2,by omega⟩
  rw [ax,ct]
  obtain ⟨t',l',hs,e⟩:=lO (rec1:=ax fu b (n+1)) hf h b.tabs.length fu 0 false l (by omega) (by unfold BIG at hf;omega) hg
  refine e.trans ?_
  cases t' with
  | true=>
   rcases hs.loud rfl with e|e
   ·cases e
   ·omega
  | false=>
   obtain ⟨-,e2,hc⟩:=hs.quiet rfl
   subst e2
   have hll:=hg.len
   rw [ax,cf]
   have:=lN (list:=l') (rec1:=ax fu b n) hf h (by omega) b.tabs.length fu 0 (by omega) (by unfold BIG at hf;omega)
   refine this.trans ?_
   congr 2
   funext x k
   exact propext ⟨hg.sound x k,m5 h.ok hg hc x k⟩
 | succ m ih=>
  intro n l hm hn hg
  obtain ⟨n,rfl⟩:∃ z,n=z+2:=⟨n-2,by omega⟩
  rw [ax,ct]
  obtain ⟨t',l',hs,e⟩:=lO (rec1:=ax fu b (n+1)) hf h b.tabs.length fu 0 false l (by omega) (by unfold BIG at hf;omega) hg
  refine e.trans ?_
  cases t' with
  | true=>
   rcases hs.loud rfl with e|e
   ·cases e
   ·exact ih (n+1) l' (by omega) (by omega) hs.grows
  | false=>
   obtain ⟨-,e2,hc⟩:=hs.quiet rfl
   subst e2
   have hll:=hg.len
   rw [ax,cf]
   have:=lN (list:=l') (rec1:=ax fu b n) hf h (by omega) b.tabs.length fu 0 (by omega) (by unfold BIG at hf;omega)
   refine this.trans ?_
   congr 2
   funext x k
   exact propext ⟨hg.sound x k,m5 h.ok hg hc x k⟩
theorem ym {b:ac}{nm:List UInt8}{id:Int}(hf:BIG≤fu)(h:al b):vG fu b nm id=some (eR b (gz b nm id)):=by
 unfold vG
 have hl:=uB h.ok [(⟨nm,id⟩:Ref)]
 refine qw hf h 24 fu _ hl (by unfold BIG at hf;omega) ⟨fun x n hx=>?_,⟨_,List.mem_singleton.2 rfl,rfl,rfl⟩,by rw [List.length_singleton];omega⟩
 have:=dw.1 hx
 rw [List.mem_singleton] at this
 cases this
 exact .self
theorem oV {b:ac}(h:ah b){G:aU}{x:List UInt8}{n:Int}:inL (eR b G) x n↔dE b x n∧G x n:=by
 constructor
 ·rintro ⟨r,hr,rfl,rfl⟩
  obtain ⟨t,ht,hr⟩:=List.mem_flatMap.1 hr
  obtain ⟨q,hq,rfl⟩:=List.mem_map.1 hr
  rw [List.mem_filter,jn] at hq
  obtain ⟨h1,h2⟩:=fz h ht
  exact ⟨⟨h1,fY.2 ⟨q,by show q∈(tabT b t.name).rows;rw [h2];exact hq.1,rfl⟩⟩,hq.2⟩
 ·rintro ⟨⟨h1,h2⟩,hg⟩
  obtain ⟨q,hq,rfl⟩:=fY.1 h2
  refine ⟨⟨x,q.id⟩,List.mem_flatMap.2 ⟨_,getD_mem (d:=(default:Tab)) h1,?_⟩,rfl,rfl⟩
  have hn:=cg h1
  refine List.mem_map.2 ⟨q,List.mem_filter.2 ⟨hq,?_⟩,by rw [hn]⟩
  rw [hn];exact B_t hg
theorem uH {b:ac}(h:ah b)(G:aU):(eR b G).length≤24:=by
 have:=oW h G b.tabs.length
 rw [List.take_length] at this
 have h3:=h.ntab
 unfold eR
 omega
theorem yn {b:ac}{nm:List UInt8}{id:Int}(hf:BIG≤fu)(h:SmB b):vH fu b nm id=some (B (dE b nm id)):=by
 unfold vH kv
 rw [a8 hf h.ntab,bs,eJ]
 by_cases hk:tabN b nm<b.tabs.length
 case neg=>rw [B_f hk,B_f fun hh=>hk hh.1];rfl
 have hN:(tabT b nm).rows.length≤1000:=(h.tabs _ hk).nrow
 rw [B_t hk,aG hk,ct,ltR hk,Bool.and_self,ct,tn,aP,rO hf hN,bs,pW]
 congr 1
 exact ak ⟨fun hh=>⟨hk,hh⟩,fun hh=>hh.2⟩
theorem yk {b:ac}{list:List Ref}(hf:BIG≤fu)(h:al b)(hn:list.length≤1000):vF fu b list=some (B (l0 b (inL list))):=by
 have hL:=h.sm.nlink
 have e:l0 b (inL list)↔∃ i,i<b.links.length∧((b.links.getD i default).how=1∧∃ k,k < (tabT b (b.links.getD i default).from_).rows.length∧¬ inL list (b.links.getD i default).from_ ((tabT b (b.links.getD i default).from_).rows.getD k default).id∧dJ b (inL list) (b.links.getD i default) ((tabT b (b.links.getD i default).from_).rows.getD k default)):=by
  constructor
  ·rintro ⟨l,hl,hw,r,hr,hh⟩
   obtain ⟨i,hi,rfl⟩:=List.getElem_of_mem hl
   obtain ⟨k,hk,rfl⟩:=List.getElem_of_mem hr
   exact ⟨i,hi,by rw [ae hi];exact ⟨hw,k,hk,by rw [ae hk];exact hh⟩⟩
  ·rintro ⟨i,hi,hw,k,hk,hh⟩
   exact ⟨_,getD_mem hi,hw,_,getD_mem hk,hh⟩
 unfold vF
 rw [ak e,← xF]
 have step:∀ n (i:Nat),i<b.links.length→aW fu b list (n+1) (i:Int)=@ite _ ((b.links.getD i default).how=1∧∃ k,k < (tabT b (b.links.getD i default).from_).rows.length∧¬ inL list (b.links.getD i default).from_ ((tabT b (b.links.getD i default).from_).rows.getD k default).id∧dJ b (inL list) (b.links.getD i default) ((tabT b (b.links.getD i default).from_).rows.getD k default)) (Classical.propDecidable _) (some true) (aW fu b list n (IntKind.i64.wrap ((i:Int)+1))):=fun n i hi=>by
  have hfit:=(h.ok.links i hi).fits
  have g:=h.tabT hfit.src
  have hN:=g.sm.nrow
  rw [aW,ltR hi,ct,ge0,Bool.and_self,ct,tn,a8 hf h.sm.ntab,bs,aG hfit.src,inR hfit.src,ct]
  by_cases hw:(b.links.getD i default).how=1
  case neg=>
   rw [if_neg (fun hh=>hw hh.1)]
   obtain ⟨fu',rfl⟩:∃ z,fu=z+1:=⟨fu-1,by unfold BIG at hf;omega⟩
   have e2:∀ rec2,iN (fu' + 1) b list (i:Int) (tabN b (b.links.getD i default).from_:Int) 0 (aW (fu' + 1) b list n) rec2 false=aW (fu' + 1) b list n (IntKind.i64.wrap ((i:Int)+1)):=fun _=>rfl
   rw [bQ,tn,tn,df hw,e2]
   cases decide ((0:Int) < _)<;>rfl
  have hl:=gv (L:=bQ fu b list (i:Int) (tabN b (b.links.getD i default).from_:Int) (aW fu b list n)) (N:=(tabT b (b.links.getD i default).from_).rows.length) (fun k=>¬ inL list (b.links.getD i default).from_ ((tabT b (b.links.getD i default).from_).rows.getD k default).id∧dJ b (inL list) (b.links.getD i default) ((tabT b (b.links.getD i default).from_).rows.getD k default)) (some true) (aW fu b list n (IntKind.i64.wrap ((i:Int)+1))) (by unfold BIG;omega) (fun m=>by rw [bQ,tn,aP,nlt];rfl)
  have st:∀ m (k:Nat),k < (tabT b (b.links.getD i default).from_).rows.length→bQ fu b list (i:Int) (tabN b (b.links.getD i default).from_:Int) (aW fu b list n) (m+1) (k:Int)=ku (k:Int) (aW fu b list n) (bQ fu b list (i:Int) (tabN b (b.links.getD i default).from_:Int) (aW fu b list n) m) (B (¬ inL list (b.links.getD i default).from_ ((tabT b (b.links.getD i default).from_).rows.getD k default).id∧dJ b (inL list) (b.links.getD i default) ((tabT b (b.links.getD i default).from_).rows.getD k default))):=fun m k hk=>by
   rw [bQ,tn,tn,aP,ltR hk,ct,dt hw]
   unfold iN
   rw [ct,tn,tn,tn,aP,inR hk,ct,iJ hf hn,bs]
   by_cases c1:inL list (b.links.getD i default).from_ ((tabT b (b.links.getD i default).from_).rows.getD k default).id
   ·rw [B_t c1,B_f fun hh=>hh.1 c1];rfl
   ·rw [B_f c1,n5 hf h.g hfit hk hn,bs]
    simp only [Bool.not_false,ct]
    congr 1
    exact ak ⟨fun hh=>⟨c1,hh⟩,fun hh=>hh.2⟩
  have hl2:=hl (fun m k hk hp=>by rw [st m k hk,B_t hp];rfl) (fun m k hk hp=>by rw [st m k hk,B_f hp];rfl) (fu:=fu) (by unfold BIG at hf;omega)
  rw [hl2]
  by_cases hex:∃ k,k < (tabT b (b.links.getD i default).from_).rows.length∧¬ inL list (b.links.getD i default).from_ ((tabT b (b.links.getD i default).from_).rows.getD k default).id∧dJ b (inL list) (b.links.getD i default) ((tabT b (b.links.getD i default).from_).rows.getD k default)
  ·rw [if_pos hex,if_pos ⟨hw,hex⟩]
  ·rw [if_neg hex,if_neg (fun hh=>hex hh.2)]
 refine gv (L:=aW fu b list) _ _ _ (by unfold BIG;omega) (fun n=>?_) (fun n i hi hp=>?_) (fun n i hi hp=>?_) (by unfold BIG at hf;omega)
 ·rw [aW,nlt];rfl
 ·rw [step n i hi,if_pos hp]
 ·rw [step n i hi,if_neg hp]
theorem bz.ite {t:ab}{ψ φ:Row→Row}{P:Row→Prop}(h:bz t ψ)(g:bz t φ):bz t (fun r=>@ite _ (P r) (Classical.propDecidable _) (ψ r) (φ r)):=by
 refine ⟨fun r hr=>?_,fun r hr=>?_,fun r hr=>?_,fun r hr=>?_⟩<;>split
 ·exact h.id r hr
 ·exact g.id r hr
 ·exact h.ver r hr
 ·exact g.ver r hr
 ·exact h.was r hr
 ·exact g.was r hr
 ·exact h.now r hr
 ·exact g.now r hr
noncomputable def freeG (b:ac) (G:aU) (i:Nat) (nm:List UInt8) (r:Row):Row:=@ite _ (G nm r.id) (Classical.propDecidable _) r (dH b G nm (b.links.take i) r)
theorem il {b:ac}{G:aU}{i:Nat}(h:ah b){nm:List UInt8}(hn:tabN b nm<b.tabs.length):bz (tabT b nm) (freeG b G i nm):=
 (bz.same (h.tabs _ hn).ok).ite (lu h hn _ fun _ hl=>List.mem_of_mem_take hl)
theorem mB (b:ac)(G:aU):freeG b G 0=fun _ r=>r:=by
 funext nm r
 unfold freeG
 rw [List.take_zero]
 split<;>rfl
theorem freeG_succ {b:ac}{G:aU}{i:Nat}(hi:i<b.links.length)(nm:List UInt8)(r:Row):freeG b G (i+1) nm r=@ite _ (G nm r.id) (Classical.propDecidable _) r (uJ b G nm r (dH b G nm (b.links.take i) r) (b.links.getD i default)):=by
 unfold freeG
 rw [kT (d:=default) hi,freeR_snoc]
theorem ew {b:ac}{G:aU}{i:Nat}(hi:i<b.links.length){nm:List UInt8}{r:Row}(h:G nm r.id∨¬ Hit b G nm (b.links.getD i default) r):freeG b G (i+1) nm r=freeG b G i nm r:=by
 rw [freeG_succ hi]
 unfold freeG
 by_cases hg:G nm r.id
 ·rw [if_pos hg,if_pos hg]
 ·rw [if_neg hg,if_neg hg]
  exact if_neg (h.resolve_left hg)
theorem oX {b:ac}{G:aU}{i:Nat}(hi:i<b.links.length){nm:List UInt8}{r:Row}(h1:¬ G nm r.id)(h2:Hit b G nm (b.links.getD i default) r):freeG b G (i+1) nm r=fv (tabT b nm) (ce b (b.links.getD i default)) (freeG b G i nm r):=by
 rw [freeG_succ hi]
 unfold freeG
 rw [if_neg h1,if_neg h1]
 exact if_pos h2
noncomputable def eS (b:ac) (G:aU) (i:Nat) (nm:List UInt8) (k:Nat) (r:Row):Row:=@ite _ (∃ j,j<k∧j < (tabT b nm).rows.length∧((tabT b nm).rows.getD j default).id=r.id) (Classical.propDecidable _) (freeG b G (i+1) nm r) (freeG b G i nm r)
theorem lv {b:ac}{G:aU}{i k:Nat}(h:ah b){nm:List UInt8}(hn:tabN b nm<b.tabs.length):bz (tabT b nm) (eS b G i nm k):=(il h hn).ite (il h hn)
theorem kR {b:ac}{p:List UInt8→Row→Prop}{ψ:List UInt8→Row→Row}{nm:List UInt8}(hk:tabN b nm<b.tabs.length):((baseW b p ψ).tabs.getD (tabN b nm) default).table=tabW (tabT b nm) (p nm) (ψ nm):=by
 rw [cv hk,cg hk];rfl
theorem kV (t:ab)(ψ:Row→Row):(tabW t (fun _=>True) ψ).rows=t.rows.map ψ:=by
 show (t.rows.filter fun _=>B True).map ψ=_
 rw [List.filter_eq_self.2 fun _ _=>B_t trivial]
abbrev mi:List UInt8→Row→Prop:=fun _ _=>True
noncomputable def ka (b:ac) (G:aU) (i:Nat) (nm:List UInt8) (k:Nat):ac:=baseW b mi (wT (freeG b G i) nm (eS b G i nm k))
theorem rp {b:ac}{G:aU}{i k:Nat}{nm:List UInt8}(h:ah b)(hn:tabN b nm<b.tabs.length):cE b (wT (freeG b G i) nm (eS b G i nm k)):=⟨fun j hj=>by
 have hp:=h.place j hj
 have hj':tabN b (b.tabs.getD j default).name<b.tabs.length:=by rw [hp];exact hj
 have e:cz b j=tabT b (b.tabs.getD j default).name:=by unfold tabT;rw [hp];rfl
 rw [e]
 by_cases hx:(b.tabs.getD j default).name=nm
 ·rw [hx,aB];exact lv h hn
 ·rw [au _ _ hx];exact il h hj'⟩
theorem B9 {b:ac}{G:aU}{i k:Nat}{nm:List UInt8}(h:al b)(hn:tabN b nm<b.tabs.length):fU (ka b G i nm k):=
 ⟨fun j hj=>(jf h.ok (rp h.ok hn) j hj).ok,ss h (rp h.ok hn)⟩
theorem lg {b:ac}{G:aU}{i k:Nat}{nm:List UInt8}(hn:tabN b nm<b.tabs.length):tabT (ka b G i nm k) nm=tabW (tabT b nm) (fun _=>True) (eS b G i nm k):=by
 unfold ka
 rw [jD hn,aB]
theorem qd {b:ac}{G:aU}{i k:Nat}{nm:List UInt8}(hn:tabN b nm<b.tabs.length):((ka b G i nm k).tabs.getD (tabN b nm) default).table=tabW (tabT b nm) (fun _=>True) (eS b G i nm k):=by
 unfold ka
 rw [kR hn,aB]
theorem j9 (b:ac)(G:aU)(i:Nat)(nm:List UInt8)(k:Nat):(ka b G i nm k).tabs.length=b.tabs.length:=aO ..
theorem rq {b:ac}{G:aU}{i k:Nat}{nm:List UInt8}(hn:tabN b nm<b.tabs.length){j:Nat}(hj:j < (tabT b nm).rows.length):(((ka b G i nm k).tabs.getD (tabN b nm) default).table.rows).getD j default=eS b G i nm k ((tabT b nm).rows.getD j default):=by
 rw [qd hn,kV,ae (by simpa using hj),List.getElem_map,ae hj]
theorem lh {b:ac}{G:aU}{i k:Nat}{nm:List UInt8}(hn:tabN b nm<b.tabs.length):(((ka b G i nm k).tabs.getD (tabN b nm) default).table.rows).length=(tabT b nm).rows.length:=by
 rw [qd hn,kV,List.length_map]
theorem ik {b:ac}{G:aU}{i k:Nat}{nm:List UInt8}(h:ah b)(hn:tabN b nm<b.tabs.length)(hk:k < (tabT b nm).rows.length):eS b G i nm k ((tabT b nm).rows.getD k default)=freeG b G i nm ((tabT b nm).rows.getD k default):=by
 refine if_neg ?_
 rintro ⟨j,h1,h2,h3⟩
 have ha:=(h.tabs _ hn).ok.asc
 have e1:=dv ha h2
 have e2:=dv ha hk
 have h3':((tabT b nm).rows.getD j default).id=((tabT b nm).rows.getD k default).id:=h3
 have e3:j=k:=by
  have e1':rowN (tabT b nm) ((tabT b nm).rows.getD j default).id=j:=e1
  have e2':rowN (tabT b nm) ((tabT b nm).rows.getD k default).id=k:=e2
  rw [← e1',← e2',h3']
 omega
theorem rf {t:ab}(h:aL t){r q:Row}(hr:r∈t.rows)(hq:q∈t.rows)(e:r.id=q.id):r=q:=by
 obtain ⟨i,hi,rfl⟩:=List.getElem_of_mem hr
 obtain ⟨j,hj,rfl⟩:=List.getElem_of_mem hq
 have e1:=dv h.asc hi
 have e2:=dv h.asc hj
 rw [ae hi] at e1
 rw [ae hj] at e2
 have:i=j:=by rw [← e1,← e2,e]
 subst this;rfl
theorem f3 {b:ac}{G:aU}{i k:Nat}{nm:List UInt8}(h:ah b)(hn:tabN b nm<b.tabs.length)(hk:k < (tabT b nm).rows.length){r:Row}(hr:r∈(tabT b nm).rows):eS b G i nm (k+1) r=if r.id=((tabT b nm).rows.getD k default).id then freeG b G (i+1) nm r else eS b G i nm k r:=by
 by_cases e:r.id=((tabT b nm).rows.getD k default).id
 ·rw [if_pos e]
  exact if_pos ⟨k,Nat.lt_succ_self _,hk,e.symm⟩
 ·rw [if_neg e]
  unfold eS
  by_cases hex:∃ j,j<k∧j < (tabT b nm).rows.length∧((tabT b nm).rows.getD j default).id=r.id
  ·rw [if_pos hex,if_pos]
   obtain ⟨j,h1,h2⟩:=hex
   exact ⟨j,by omega,h2⟩
  ·rw [if_neg hex,if_neg]
   rintro ⟨j,h1,h2,h3⟩
   by_cases hjk:j=k
   ·subst hjk;exact e h3.symm
   ·exact hex ⟨j,by omega,h2,h3⟩
theorem baseW_rows {b:ac}(h:ah b){p p':List UInt8→Row→Prop}{ψ ψ':List UInt8→Row→Row}(hp:∀ nm,tabN b nm<b.tabs.length→∀ r,r∈(tabT b nm).rows→(p nm r↔p' nm r))(hw:∀ nm,tabN b nm<b.tabs.length→∀ r,r∈(tabT b nm).rows→p nm r→ψ nm r=ψ' nm r):baseW b p ψ=baseW b p' ψ':=by
 refine qU (fun t ht r hr=>?_) fun t ht r hr=>?_
 ·obtain ⟨h1,h2⟩:=fz h ht
  exact hp _ h1 r (by rw [h2];exact hr)
 ·obtain ⟨h1,h2⟩:=fz h ht
  exact hw _ h1 r (by rw [h2];exact hr)
theorem ur {b:ac}{G:aU}{i:Nat}{nm:List UInt8}(h:ah b):ka b G i nm 0=baseW b mi (freeG b G i):=by
 refine baseW_rows h (fun _ _ _ _=>Iff.rfl) fun x hx r hr _=>?_
 by_cases e:x=nm
 ·subst e
  rw [aB]
  exact if_neg fun ⟨j,h1,_⟩=>absurd h1 (Nat.not_lt_zero _)
 ·rw [au _ _ e]
theorem xA {b:ac}{G:aU}{i:Nat}(h:ah b)(hi:i<b.links.length):ka b G i (b.links.getD i default).from_ (tabT b (b.links.getD i default).from_).rows.length=baseW b mi (freeG b G (i+1)):=by
 refine baseW_rows h (fun _ _ _ _=>Iff.rfl) fun x hx r hr _=>?_
 by_cases e:x=(b.links.getD i default).from_
 ·subst e
  rw [aB]
  obtain ⟨j,hj,rfl⟩:=List.getElem_of_mem hr
  exact if_pos ⟨j,hj,hj,by rw [ae hj]⟩
 ·rw [au _ _ e]
  exact (ew hi (.inr fun hh=>e hh.1.symm)).symm
theorem uK {b:ac}{G:aU}{i:Nat}(h:ah b)(hi:i<b.links.length){r:Row}(hr:r∈(tabT b (b.links.getD i default).from_).rows):(nowR (tabT b (b.links.getD i default).from_) (freeG b G i (b.links.getD i default).from_ r)).getD (ce b (b.links.getD i default)) default=ft b (b.links.getD i default) r:=by
 have hfit:=(h.links i hi).fits
 have hrow:=((h.tabs _ hfit.src).ok.rg r hr).now
 have hrow':aQ (lastS (tabT b (b.links.getD i default).from_)) (nowR (tabT b (b.links.getD i default).from_) r):=hrow
 unfold freeG
 split
 ·rfl
 ·rcases (freeR_get (G:=G) (nm:=(b.links.getD i default).from_) (r:=r) (c:=ce b (b.links.getD i default)) (by rw [hrow'.len];exact hfit.col) (b.links.take i)).2 with ⟨⟨l,hl,hhit,hc⟩,-⟩|⟨-,e⟩
  ·exfalso
   obtain ⟨j,hj,rfl⟩:=List.getElem_of_mem hl
   have hji:j<i:=by simp at hj;omega
   rw [List.getElem_take] at hhit hc
   have hjl:j<b.links.length:=by omega
   have hfj:=(h.links j hjl).fits
   rw [ae hjl] at hfj
   refine (h.links i hi).apart j hji ?_
   rw [ae hjl]
   refine ⟨hhit.1,?_⟩
   have e1:=hfj.col
   have e2:=hfit.col
   unfold ce at hc e1 e2
   rw [hhit.1] at hc e1
   rw [← fh e1,hc,fh e2]
  ·exact e
theorem qr {b:ac}{list:List Ref}(hf:BIG≤fu)(h:al b)(hn:list.length≤1000){i:Nat}(hi:i<b.links.length)(hw:(b.links.getD i default).how=3){rec1:Int→List Tab→List ai→Option ac} :
     ∀ (m n k:Nat),k+m=(tabT b (b.links.getD i default).from_).rows.length→m<n→
      bP fu list (i:Int) b.links (tabN b (b.links.getD i default).from_:Int) rec1 n (k:Int) (ka b (inL list) i (b.links.getD i default).from_ k).tabs b.links=rec1 (IntKind.i64.wrap ((i:Int)+1)) (baseW b mi (freeG b (inL list) (i+1))).tabs b.links:=by
 have hfit:=(h.ok.links i hi).fits
 have hs:=hfit.src
 have g:=h.tabT hs
 have hN:=g.sm.nrow
 intro m
 induction m with
 | zero=>
  intro n k hk hn
  obtain ⟨n,rfl⟩:∃ z,n=z+1:=⟨n-1,by omega⟩
  have:k=(tabT b (b.links.getD i default).from_).rows.length:=by omega
  subst this
  rw [bP,j9,inR hs,ct,tn,lh hs,nlt,cf]
  unfold eC
  rw [cf,xA h.ok hi]
 | succ m ih=>
  intro n k hk hn2
  obtain ⟨n,rfl⟩:∃ z,n=z+1:=⟨n-1,by omega⟩
  have hkl:k < (tabT b (b.links.getD i default).from_).rows.length:=by omega
  have hmem:(tabT b (b.links.getD i default).from_).rows.getD k default∈(tabT b (b.links.getD i default).from_).rows:=getD_mem hkl
  have ek:=ba hkl (show (tabT b (b.links.getD i default).from_).rows.length≤BIG by unfold BIG;omega)
  have go:=ih n (k+1) (by omega) (by omega)
  have hway:=lv (G:=inL list) (i:=i) (k:=k) h.ok hs
  have eid:(eS b (inL list) i (b.links.getD i default).from_ k ((tabT b (b.links.getD i default).from_).rows.getD k default)).id=((tabT b (b.links.getD i default).from_).rows.getD k default).id:=hway.id _ hmem
  rw [bP,j9,inR hs,ct,tn,tn,lh hs,ltR hkl,ct,dt hw]
  unfold eC
  rw [ct,j9,inR hs,ct,tn,tn,tn,lh hs,inR hkl,ct,rq hs hkl,eid,iJ hf hn,bs]
  have quiet:(inL list (b.links.getD i default).from_ ((tabT b (b.links.getD i default).from_).rows.getD k default).id∨¬ Hit b (inL list) (b.links.getD i default).from_ (b.links.getD i default) ((tabT b (b.links.getD i default).from_).rows.getD k default))→ka b (inL list) i (b.links.getD i default).from_ k=ka b (inL list) i (b.links.getD i default).from_ (k+1):=fun hq=>by
   refine baseW_rows h.ok (fun _ _ _ _=>Iff.rfl) fun x hx r hr _=>?_
   by_cases e:x=(b.links.getD i default).from_
   ·subst e
    rw [aB,aB,f3 h.ok hs hkl hr]
    split
    ·rename_i e2
     have:r=(tabT b (b.links.getD i default).from_).rows.getD k default:=rf g.ok hr hmem e2
     subst this
     rw [ik h.ok hs hkl,ew hi hq]
    ·rfl
   ·rw [au _ _ e,au _ _ e]
  by_cases c1:inL list (b.links.getD i default).from_ ((tabT b (b.links.getD i default).from_).rows.getD k default).id
  ·rw [B_t c1]
   simp only [Bool.not_true,cf]
   unfold fJ fI
   rw [cf,ek,quiet (.inl c1)]
   exact go
  rw [B_f c1]
  simp only [Bool.not_false,ct]
  have hmg:=B9 (G:=inL list) (i:=i) (k:=k) h hs
  have hmf:ar (ka b (inL list) i (b.links.getD i default).from_ k) (b.links.getD i default):=baseW_skel.fits hfit
  have eq:jR fu (⟨(ka b (inL list) i (b.links.getD i default).from_ k).tabs,b.links⟩:ac) (b.links.getD i default) (k:Int) list=some (B (Hit b (inL list) (b.links.getD i default).from_ (b.links.getD i default) ((tabT b (b.links.getD i default).from_).rows.getD k default))):=by
   show jR fu (ka b (inL list) i (b.links.getD i default).from_ k) _ _ _=_
   have e0:(tabT (ka b (inL list) i (b.links.getD i default).from_ k) (b.links.getD i default).from_).rows=(tabT b (b.links.getD i default).from_).rows.map (eS b (inL list) i (b.links.getD i default).from_ k):=by rw [lg hs,kV]
   rw [vD hf hmg hmf (by rw [e0,List.length_map];exact hkl) hn]
   congr 1
   have e1:(tabT (ka b (inL list) i (b.links.getD i default).from_ k) (b.links.getD i default).from_).rows.getD k default=freeG b (inL list) i (b.links.getD i default).from_ ((tabT b (b.links.getD i default).from_).rows.getD k default):=by
    rw [e0,ae (by simpa using hkl),List.getElem_map,← ae (d:=default) hkl,ik h.ok hs hkl]
   have ecol:ce (ka b (inL list) i (b.links.getD i default).from_ k) (b.links.getD i default)=ce b (b.links.getD i default):=by unfold ce;rw [lg hs];rfl
   have e2:ft (ka b (inL list) i (b.links.getD i default).from_ k) (b.links.getD i default) (freeG b (inL list) i (b.links.getD i default).from_ ((tabT b (b.links.getD i default).from_).rows.getD k default))=ft b (b.links.getD i default) ((tabT b (b.links.getD i default).from_).rows.getD k default):=by
    rw [← uK (G:=inL list) h.ok hi hmem]
    unfold ft
    rw [ecol,lg hs];rfl
   rw [e1]
   unfold Hit dJ
   rw [e2]
   exact ak ⟨fun hh=>⟨rfl,hw,hh⟩,fun hh=>hh.2.2⟩
  rw [eq,bs]
  unfold fJ fI
  by_cases c2:Hit b (inL list) (b.links.getD i default).from_ (b.links.getD i default) ((tabT b (b.links.getD i default).from_).rows.getD k default)
  case neg=>
   rw [B_f c2,cf,ek,quiet (.inr c2)]
   exact go
  have hmt:or (tabW (tabT b (b.links.getD i default).from_) (fun _=>True) (eS b (inL list) i (b.links.getD i default).from_ k)):=⟨nb g.ok hway,kU g.sm (ow g.ok g.sm hway)⟩
  have hset:=oH (p:=fun _=>True) g.ok hway (id:=((tabT b (b.links.getD i default).from_).rows.getD k default).id) (col:=(b.links.getD i default).col) hfit.col (hfit.need hw) ⟨_,hmem,trivial,rfl⟩
  have hsx:SmX [(⟨(b.links.getD i default).col,nul⟩:Set)]:=⟨by simp,fun x hx=>by rw [List.mem_singleton.1 hx];exact hfit.col_sm g.rt.okLast,fun x hx=>by rw [List.mem_singleton.1 hx];exact nul_ok.sm⟩
  rw [B_t c2,ct,j9,inR hs,ct,tn,tn,tn,rq hs hkl,eid,qd hs,lH hf hmt.sm,bs]
  show (f76 fu _ _ [(⟨(b.links.getD i default).col,nul⟩:Set)]).bind _=_
  rw [zt hf hmt.ok hmt.sm hsx,hset,bs,ct,ek]
  show bP fu list (i:Int) b.links _ rec1 n ((k+1:Nat):Int) (aV (ka b (inL list) i (b.links.getD i default).from_ k) (tabN b (b.links.getD i default).from_) (tabW (tabT b (b.links.getD i default).from_) (fun _=>True) (updR (eS b (inL list) i (b.links.getD i default).from_ k) ((tabT b (b.links.getD i default).from_).rows.getD k default).id (fv (tabT b (b.links.getD i default).from_) (ce b (b.links.getD i default)))))).tabs b.links=_
  have e3:aV (ka b (inL list) i (b.links.getD i default).from_ k) (tabN b (b.links.getD i default).from_) (tabW (tabT b (b.links.getD i default).from_) (fun _=>True) (updR (eS b (inL list) i (b.links.getD i default).from_ k) ((tabT b (b.links.getD i default).from_).rows.getD k default).id (fv (tabT b (b.links.getD i default).from_) (ce b (b.links.getD i default)))))=ka b (inL list) i (b.links.getD i default).from_ (k+1):=by
   unfold ka
   rw [jg h.ok.place hs]
   refine baseW_rows h.ok (fun x hx r hr=>?_) fun x hx r hr _=>?_
   ·by_cases e:x=(b.links.getD i default).from_
    ·subst e;rw [aB]
    ·rw [au _ _ e]
   ·by_cases e:x=(b.links.getD i default).from_
    ·subst e
     rw [aB,aB,f3 h.ok hs hkl hr]
     unfold updR
     by_cases e2:r.id=((tabT b (b.links.getD i default).from_).rows.getD k default).id
     ·rw [if_pos e2,if_pos e2]
      have:r=(tabT b (b.links.getD i default).from_).rows.getD k default:=rf g.ok hr hmem e2
      subst this
      rw [ik h.ok hs hkl,oX hi c1 c2]
     ·rw [if_neg e2,if_neg e2]
    ·rw [au _ _ e,au _ _ e,au _ _ e]
  rw [e3]
  exact go
theorem qt {b:ac}{list:List Ref}(hf:BIG≤fu)(h:al b)(hn:list.length≤1000) :
     ∀ (m n i:Nat),i+m=b.links.length→m<n→bc fu list n (i:Int) (baseW b mi (freeG b (inL list) i)).tabs b.links=some (baseW b mi (freeG b (inL list) b.links.length)):=by
 have hL:=h.sm.nlink
 intro m
 induction m with
 | zero=>
  intro n i hk hn
  obtain ⟨n,rfl⟩:∃ z,n=z+1:=⟨n-1,by omega⟩
  have:i=b.links.length:=by omega
  subst this
  rw [bc,nlt,cf];rfl
 | succ m ih=>
  intro n i hk hn2
  obtain ⟨n,rfl⟩:∃ z,n=z+1:=⟨n-1,by omega⟩
  have hi:i<b.links.length:=by omega
  have hfit:=(h.ok.links i hi).fits
  have hN:=(h.tabT hfit.src).sm.nrow
  have ei:=ba hi (show b.links.length≤BIG by unfold BIG;omega)
  have go:=ih n (i+1) (by omega) (by omega)
  have e0:f1062o fu (⟨(baseW b mi (freeG b (inL list) i)).tabs,b.links⟩:ac) (b.links.getD i default).from_=some (tabN b (b.links.getD i default).from_:Int):=by
   rw [f1062o_is hf (by show (baseW b mi (freeG b (inL list) i)).tabs.length≤1000;rw [aO];exact h.sm.ntab)]
   congr 1
   have e1:tabN (⟨(baseW b mi (freeG b (inL list) i)).tabs,b.links⟩:ac) (b.links.getD i default).from_=tabN b (b.links.getD i default).from_:=gp b mi (freeG b (inL list) i) _
   rw [aG (by rw [e1];show _ < (baseW b mi (freeG b (inL list) i)).tabs.length;rw [aO];exact hfit.src),e1]
  rw [bc,ltR hi,ct,ge0,Bool.and_self,ct,tn,e0,bs]
  by_cases hw:(b.links.getD i default).how=3
  ·have:=qr (rec1:=bc fu list n) hf h hn hi hw (tabT b (b.links.getD i default).from_).rows.length fu 0 (by omega) (by unfold BIG at hf;omega)
   rw [ur h.ok] at this
   refine this.trans ?_
   rw [ei];exact go
  ·obtain ⟨fu',rfl⟩:∃ z,fu=z+1:=⟨fu-1,by unfold BIG at hf;omega⟩
   have e2:∀ rec2,eC (fu' + 1) list (i:Int) b.links (tabN b (b.links.getD i default).from_:Int) 0 (baseW b mi (freeG b (inL list) i)).tabs b.links (bc (fu' + 1) list n) rec2 false=bc (fu' + 1) list n (IntKind.i64.wrap ((i:Int)+1)) (baseW b mi (freeG b (inL list) i)).tabs b.links:=fun _=>rfl
   have e3:baseW b mi (freeG b (inL list) i)=baseW b mi (freeG b (inL list) (i+1)):=baseW_rows h.ok (fun _ _ _ _=>Iff.rfl) fun x hx r hr _=>(ew hi (.inr fun hh=>hw hh.2.1)).symm
   rw [bP,aO,inR hfit.src,ct,tn,tn,df hw,e2,ei,e3]
   cases decide ((0:Int) < _)<;>exact go
theorem yi {b:ac}{list:List Ref}(hf:BIG≤fu)(h:al b)(hn:list.length≤1000):yj fu b list=some (baseW b mi (freeG b (inL list) b.links.length)):=by
 have:=qt hf h hn b.links.length fu 0 (by omega) (by have:=h.sm.nlink;unfold BIG at hf;omega)
 rw [mB] at this
 have e:baseW b mi (fun _ r=>r)=b:=py
 rw [e] at this
 exact this
def ca (list:List Ref)(j:Nat)(nm:List UInt8)(r:Row):Prop:=¬ inL (list.take j) nm r.id
theorem GB:@f41a=@f41:=by
 funext fu t id
 unfold f41a f41
 rw [o82]
theorem stay_next {list:List Ref}{j:Nat}(hj:j<list.length)(nm:List UInt8)(r:Row):ca list (j+1) nm r↔ca list j nm r∧¬ ((list.getD j default).name=nm∧(list.getD j default).id=r.id):=by
 unfold ca
 rw [kT (d:=default) hj,inL_snoc,not_or]
theorem rl {b:ac}{ψ:List UInt8→Row→Row}{list:List Ref}(h:al b)(hw:cE b ψ){j:Nat}(hj:j<list.length)(hk:tabN b (list.getD j default).name<b.tabs.length) :
     aV (baseW b (ca list j) ψ) (tabN b (list.getD j default).name) (sL (tabW (tabT b (list.getD j default).name) (ca list j (list.getD j default).name) (ψ (list.getD j default).name)) (list.getD j default).id).1=baseW b (ca list (j+1)) ψ:=by
 have g:=h.tabT hk
 have hway:=hw.at_ hk
 by_cases hex:∃ r,r∈(tabT b (list.getD j default).name).rows∧ca list j (list.getD j default).name r∧r.id=(list.getD j default).id
 ·rw [uh g.ok hway hex,jg h.ok.place hk]
  refine baseW_rows h.ok (fun x hx r hr=>?_) fun x hx r hr _=>?_
  ·rw [stay_next hj]
   by_cases e:x=(list.getD j default).name
   ·subst e
    rw [aB]
    exact ⟨fun hh=>⟨hh.1,fun h2=>hh.2 h2.2.symm⟩,fun hh=>⟨hh.1,fun h2=>hh.2 ⟨rfl,h2.symm⟩⟩⟩
   ·rw [au _ _ e]
    exact ⟨fun hh=>⟨hh,fun h2=>e h2.1.symm⟩,fun hh=>hh.1⟩
  ·by_cases e:x=(list.getD j default).name
   ·subst e;rw [aB]
   ·rw [au _ _ e]
 ·have hno:¬ rowN (tabW (tabT b (list.getD j default).name) (ca list j (list.getD j default).name) (ψ (list.getD j default).name)) (list.getD j default).id < (tabW (tabT b (list.getD j default).name) (ca list j (list.getD j default).name) (ψ (list.getD j default).name)).rows.length:=fun hh=>hex ((fW hway.id).1 hh)
  unfold sL
  rw [if_neg hno,jg h.ok.place hk]
  refine baseW_rows h.ok (fun x hx r hr=>?_) fun x hx r hr _=>?_
  ·rw [stay_next hj]
   by_cases e:x=(list.getD j default).name
   ·subst e
    rw [aB]
    exact ⟨fun hh=>⟨hh,fun h2=>hex ⟨r,hr,hh,h2.2.symm⟩⟩,fun hh=>hh.1⟩
   ·rw [au _ _ e]
    exact ⟨fun hh=>⟨hh,fun h2=>e h2.1.symm⟩,fun hh=>hh.1⟩
  ·by_cases e:x=(list.getD j default).name
   ·subst e;rw [aB]
   ·rw [au _ _ e]
theorem qD {b:ac}{ψ:List UInt8→Row→Row}{list:List Ref}(hf:BIG≤fu)(h:al b)(hw:cE b ψ)(hn:list.length≤1000)(hr:∀ j,j<list.length→tabN b (list.getD j default).name<b.tabs.length){q8:ac}(hq:q8.links=b.links) :
     ∀ (m n j:Nat),j+m=list.length→m<n→fb fu list q8 n (j:Int) (baseW b (ca list j) ψ).tabs=some (baseW b (ca list list.length) ψ,0):=by
 intro m
 induction m with
 | zero=>
  intro n j hk hn
  obtain ⟨n,rfl⟩:∃ z,n=z+1:=⟨n-1,by omega⟩
  have:j=list.length:=by omega
  subst this
  rw [fb,nlt,cf,hq];rfl
 | succ m ih=>
  intro n j hk hn2
  obtain ⟨n,rfl⟩:∃ z,n=z+1:=⟨n-1,by omega⟩
  have hj:j<list.length:=by omega
  have hs:=hr j hj
  have ei:=ba hj (show list.length≤BIG by unfold BIG;omega)
  have go:=ih n (j+1) (by omega) (by omega)
  have e0:f1062o fu (⟨(baseW b (ca list j) ψ).tabs,q8.links⟩:ac) (list.getD j default).name=some (tabN b (list.getD j default).name:Int):=by
   rw [f1062o_is hf (by show (baseW b (ca list j) ψ).tabs.length≤1000;rw [aO];exact h.sm.ntab)]
   congr 1
   have e1:tabN (⟨(baseW b (ca list j) ψ).tabs,q8.links⟩:ac) (list.getD j default).name=tabN b (list.getD j default).name:=gp b (ca list j) ψ _
   rw [aG (by rw [e1];show _ < (baseW b (ca list j) ψ).tabs.length;rw [aO];exact hs),e1]
  have gt:SmT (tabW (tabT b (list.getD j default).name) (ca list j (list.getD j default).name) (ψ (list.getD j default).name)):=kU (h.tabT hs).sm (ow (h.tabT hs).ok (h.tabT hs).sm (hw.at_ hs))
  rw [fb,ltR hj,ct,ge0,Bool.and_self,ct,tn,e0,bs,aO,inR hs,ct,ct,tn,kR hs,GB,zx hf gt.nrow,bs,ct,ei]
  show fb fu list q8 n ((j+1:Nat):Int) (aV (baseW b (ca list j) ψ) (tabN b (list.getD j default).name) (sL (tabW (tabT b (list.getD j default).name) (ca list j (list.getD j default).name) (ψ (list.getD j default).name)) (list.getD j default).id).1).tabs=_
  rw [rl h hw hj hs]
  exact go
theorem sW {b:ac}{G:aU}{i:Nat}(h:ah b):cE b (freeG b G i):=⟨fun j hj=>by
 have hp:=h.place j hj
 have e:cz b j=tabT b (b.tabs.getD j default).name:=by unfold tabT;rw [hp];rfl
 rw [e]
 exact il h (by rw [hp];exact hj)⟩
theorem oB {list:List Ref}:ca list 0=mi:=by
 funext x r
 refine eq_true fun ⟨q,hq,_⟩=>?_
 rw [List.take_zero] at hq
 cases hq
theorem my {b:ac}{G G':aU}(h:ah b)(hg:∀ x n,dE b x n→(G x n↔G' x n)){l:ai}(hl:l∈b.links){r:Row}(hr:r∈(tabT b l.from_).rows):dJ b G l r↔dJ b G' l r:=by
 obtain ⟨hf,hh⟩:=h.link hl
 refine and_congr_right fun hv=>hg _ _ ⟨hf.dst,hh.mem hr hv⟩
theorem sB {b:ac}{G G':aU}(h:ah b)(hg:∀ x n,dE b x n→(G x n↔G' x n)):l0 b G↔l0 b G':=by
 have key:∀ {G G':aU},(∀ x n,dE b x n→(G x n↔G' x n))→l0 b G→l0 b G':=by
  rintro G G' hg ⟨l,hl,hw,r,hr,h1,h2⟩
  exact ⟨l,hl,hw,r,hr,fun hh=>h1 ((hg _ _ ⟨(h.link hl).1.src,fY.2 ⟨r,hr,rfl⟩⟩).2 hh),(my h hg hl hr).1 h2⟩
 exact ⟨key hg,key fun x n hx=>(hg x n hx).symm⟩
theorem sV {b:ac}{G G':aU}(h:ah b)(hg:∀ x n,dE b x n→(G x n↔G' x n)){nm:List UInt8}{r:Row}(hr:r∈(tabT b nm).rows):∀ ls:List ai,(∀ l,l∈ls→l∈b.links)→dH b G nm ls r=dH b G' nm ls r:=by
 intro ls
 induction ls using snocInd with
 | nil=>intro _;rfl
 | snoc ls l ih=>
  intro hm
  rw [freeR_snoc,freeR_snoc,ih fun x hx=>hm x (List.mem_append_left _ hx)]
  unfold uJ
  have e:Hit b G nm l r↔Hit b G' nm l r:=by
   unfold Hit
   refine and_congr_right fun e=>and_congr_right fun _=>?_
   subst e
   exact my h hg (hm l (by simp)) hr
  by_cases hh:Hit b G nm l r
  ·rw [if_pos hh,if_pos (e.1 hh)]
  ·rw [if_neg hh,if_neg fun h2=>hh (e.2 h2)]
theorem mA {b:ac}{nm:List UInt8}(hn:tabN b nm<b.tabs.length){r:Row}(hr:r∈(tabT b nm).rows):dE b nm r.id:=⟨hn,fY.2 ⟨r,hr,rfl⟩⟩
theorem ui {b:ac}{G G':aU}(h:ah b)(hg:∀ x n,dE b x n→(G x n↔G' x n)):offG b G=offG b G':=by
 refine baseW_rows h (fun x hx r hr=>not_congr (hg _ _ (mA hx hr))) fun x hx r hr _=>sV h hg hr _ fun _ hl=>hl
theorem ob {b:ac}{nm:List UInt8}{id:Int}(hf:BIG≤fu)(h:al b):qE fu b nm id=some (xq b nm id):=by
 have hgl:=uH h.ok (gz b nm id)
 have hsame:∀ x n,dE b x n→(inL (eR b (gz b nm id)) x n↔gz b nm id x n):=fun x n hx=>(oV h.ok).trans ⟨fun hh=>hh.2,fun hh=>⟨hx,hh⟩⟩
 unfold qE xq
 rw [yn hf h.sm,bs]
 by_cases h1:dE b nm id
 case neg=>rw [B_f h1,if_pos h1];rfl
 rw [B_t h1,if_neg (fun hh=>hh h1)]
 simp only [Bool.not_true,cf]
 rw [ym hf h,bs,yk hf h (by omega),bs,ak (sB h.ok hsame)]
 by_cases h2:l0 b (gz b nm id)
 ·rw [B_t h2,if_pos h2];rfl
 rw [B_f h2,if_neg h2,cf,aZ hf h.sm,bs,yi hf h (by omega),bs]
 have e0:(baseW b mi (freeG b (inL (eR b (gz b nm id))) b.links.length))=baseW b (ca (eR b (gz b nm id)) 0) (freeG b (inL (eR b (gz b nm id))) b.links.length):=by rw [oB]
 have hr:∀ j,j < (eR b (gz b nm id)).length→tabN b ((eR b (gz b nm id)).getD j default).name<b.tabs.length:=fun j hj=>((oV h.ok).1 ⟨_,getD_mem hj,rfl,rfl⟩).1.1
 have:=qD (ψ:=freeG b (inL (eR b (gz b nm id))) b.links.length) (list:=eR b (gz b nm id)) (q8:=baseW b mi (freeG b (inL (eR b (gz b nm id))) b.links.length)) hf h (sW h.ok) (by omega) hr rfl (eR b (gz b nm id)).length fu 0 (by omega) (by unfold BIG at hf;omega)
 rw [← e0] at this
 refine this.trans ?_
 congr 2
 refine Eq.trans ?_ (ui h.ok hsame)
 refine baseW_rows h.ok (fun x hx r hr=>?_) fun x hx r hr hp=>?_
 ·unfold ca
  rw [List.take_length]
 ·have hp':¬ inL (eR b (gz b nm id)) x r.id:=by
   have hp2:¬ inL ((eR b (gz b nm id)).take (eR b (gz b nm id)).length) x r.id:=hp
   rwa [List.take_length] at hp2
  unfold freeG
  rw [if_neg hp',List.take_length]
theorem yJ {b:ac}{nm:List UInt8}{id:Int}(hf:BIG≤fu)(h:SmB b):wa fu b nm id=some (oN b nm id):=by
 unfold wa oN
 rw [cQ hf h,bs]
 by_cases hk:ah b
 case neg=>rw [B_f hk,if_neg hk];rfl
 rw [B_t hk,if_pos hk]
 simp only [Bool.not_true,cf]
 rw [aZ hf h,bs,ob hf ⟨hk,h⟩,bs,aZ hf (lc ⟨hk,h⟩).sm];rfl
end Go.Proofs.YtganfdhmkdehlaaGreatDoor
