/- Tables: copies, sameness, a row's place and values, a row away. -/
import Derived.Test.YtganfdhmkdehlaaGreatDoorQ2004M9
set_option linter.all false
namespace Go.Proofs.YtganfdhmkdehlaaGreatDoor
open Go Go.HL
variable {fu:Nat}
theorem k7 {α:Type}[Inhabited α]{a b:List α}(hl:a.length=b.length):a=b↔((∀ k,k<a.length→a.getD k default=b.getD k default)∧True):=by
 constructor
 ·rintro rfl;exact ⟨fun _ _=>rfl,trivial⟩
 ·rintro ⟨h,-⟩
  refine List.ext_getElem hl fun k h1 h2=>?_
  have:=h k h1
  rwa [ae h1,ae h2] at this
theorem tA {α:Type}[Inhabited α][DecidableEq α]{L:List α→List α→Nat→Int→Option Bool}(hL:∀ a b n i,L a b (n+1) i=cond (decide (i < (List.length a:Int))) (cond (decide (0≤i)&&decide (i < (List.length a:Int))) (cond (decide (0≤i)&&decide (i < (List.length b:Int))) (cond (!decide ((a.getD i.toNat default)=(b.getD i.toNat default))) (some false) ((L a b n) (IntKind.i64.wrap (i+1)))) none) none) (some true))
     {a b:List α} (hl:a.length=b.length) (hB:a.length≤BIG) (hf:a.length<fu):L a b fu 0=some (B (a=b)):=by
 rw [ai (k7 hl)]
 refine dZ (L:=L a b) _ _ hB (fun n h=>?_) (fun n h=>absurd trivial h) (fun n k hk hp=>?_) (fun n k hk hp=>?_) hf
 ·rw [hL,nlt];rfl
 ·rw [hL,ltR hk,ct,ge0,b_,ct,ltR (show k<b.length by omega),b_,ct,tn,dt hp];rfl
 ·rw [hL,ltR hk,ct,ge0,b_,ct,ltR (show k<b.length by omega),b_,ct,tn,df hp];rfl
theorem jL {α:Type}[Inhabited α][DecidableEq α]{L:List α→List α→Nat→Int→Option Bool}(hL:∀ a b n i,L a b (n+1) i=cond (decide (i < (List.length a:Int))) (cond (decide (0≤i)&&decide (i < (List.length a:Int))) (cond (decide (0≤i)&&decide (i < (List.length b:Int))) (cond (!decide ((a.getD i.toNat default)=(b.getD i.toNat default))) (some false) ((L a b n) (IntKind.i64.wrap (i+1)))) none) none) (some true))
     (hf:BIG≤fu) {a b:List α} (ha:a.length≤1000):cond (!decide ((List.length a:Int)=(List.length b:Int))) (some false) (L a b fu 0)=some (B (a=b)):=by
 by_cases hl:a.length=b.length
 ·rw [dt (show (a.length:Int)=(b.length:Int) by omega),tA hL hl (by unfold BIG;omega) (by unfold BIG at hf;omega)];rfl
 ·rw [df (show ¬ (a.length:Int)=(b.length:Int) by omega),B_f fun e=>hl (by rw [e])];rfl
theorem Bn {a b:List Col}(hf:BIG≤fu)(ha:a.length≤1000):f43 fu a b=some (B (a=b)):=jL (L:=rz) (fun _ _ _ _=>rfl) hf ha
theorem Bm {a b:List aa}(hf:BIG≤fu)(ha:a.length≤1000):f44 fu a b=some (B (a=b)):=jL (L:=ry) (fun _ _ _ _=>rfl) hf ha
theorem Bk {a b:List Val}(hf:BIG≤fu)(ha:a.length≤1000):f47 fu a b=some (B (a=b)):=jL (L:=rx) (fun _ _ _ _=>rfl) hf ha
theorem yQ {r q:Row}(hf:BIG≤fu)(hr:SmR r.vals):f46 fu r q=some (B (r=q)):=by
 unfold f46 oP
 rw [Bk hf hr.len]
 obtain ⟨a,b,c⟩:=r
 obtain ⟨a',b',c'⟩:=q
 by_cases h1:a=a'
 case neg=>rw [df h1,B_f (p:=(⟨a,b,c⟩:Row)=_) fun e=>h1 (by injection e)];rfl
 by_cases h2:b=b'
 case neg=>rw [dt h1,df h2,B_f (p:=(⟨a,b,c⟩:Row)=_) fun e=>h2 (by injection e)];rfl
 rw [dt h1,dt h2]
 show some (B (c=c'))=_
 subst h1;subst h2
 rw [ai (show (⟨a,b,c⟩:Row)=⟨a,b,c'⟩↔c=c' from ⟨fun e=>by injection e,fun e=>by rw [e]⟩)]
theorem SmT.row {t:ab}(h:SmT t){r:Row}(hr:r∈t.rows):SmR r.vals:=by
 obtain ⟨k,hk,rfl⟩:=g_ hr
 have:=h.rows k hk
 rwa [ae hk] at this
theorem Bl {a b:List Row}(hf:BIG≤fu)(ha:a.length≤1000)(hr:∀ k,k<a.length→SmR (a.getD k default).vals):f45 fu a b (fun x0 x1=>f46 fu x0 x1)=some (B (a=b)):=by
 unfold f45
 by_cases hl:a.length=b.length
 ·rw [dt (show (a.length:Int)=(b.length:Int) by omega),ai (k7 hl)]
  refine dZ (L:=lq a b fun x0 x1=>f46 fu x0 x1) _ _ (by unfold BIG;omega) (fun n h=>?_) (fun n h=>absurd trivial h) (fun n k hk hp=>?_) (fun n k hk hp=>?_) (by unfold BIG at hf;omega)
  ·rw [lq,nlt];rfl
  ·rw [lq,ltR hk,ct,ge0,b_,ct,ltR (show k<b.length by omega),b_,ct,tn,yQ hf (hr k hk),B_t hp];rfl
  ·rw [lq,ltR hk,ct,ge0,b_,ct,ltR (show k<b.length by omega),b_,ct,tn,yQ hf (hr k hk),B_f hp];rfl
 ·rw [df (show ¬ (a.length:Int)=(b.length:Int) by omega),B_f fun e=>hl (by rw [e])];rfl
theorem Bs {a b:ab}(hf:BIG≤fu)(ha:SmT a):f15 fu a b=some (B (a=b)):=by
 unfold f15 mF
 rw [Bn hf ha.first.len,Bm hf ha.cs.len,Bl hf ha.nrow ha.rows]
 obtain ⟨p,q,r,s⟩:=a
 obtain ⟨p',q',r',s'⟩:=b
 simp only [bs]
 by_cases h1:p=p'
 case neg=>rw [B_f h1,B_f (p:=(⟨p,q,r,s⟩:ab)=_) fun e=>h1 (by injection e)];rfl
 by_cases h2:q=q'
 case neg=>rw [B_t h1,B_f h2,B_f (p:=(⟨p,q,r,s⟩:ab)=_) fun e=>h2 (by injection e)];rfl
 by_cases h3:s=s'
 case neg=>rw [B_t h1,B_t h2,df h3,B_f (p:=(⟨p,q,r,s⟩:ab)=_) fun e=>h3 (by injection e)];rfl
 rw [B_t h1,B_t h2,dt h3]
 show some (B (r=r'))=_
 subst h1;subst h2;subst h3
 rw [ai (show (⟨p,q,r,s⟩:ab)=⟨p,q,r',s⟩↔r=r' from ⟨fun e=>by injection e,fun e=>by rw [e]⟩)]
theorem uz {s:List Row}(hl:s.length≤1000):f77 s=some s:=by
 unfold f77 Ce Cd
 rw [cap (by simp;omega)];rfl
theorem ve {s:List aa}(hl:s.length≤1001):Aq s=some s:=by
 unfold Aq f129 Ca
 rw [cap (by simp;omega)];rfl
theorem mY {α:Type}{l:List α}{d:α}{k:Nat}(hk:k<l.length):l.set k (l.getD k d)=l:=by
 rw [ae hk];exact List.set_getElem_self ..
theorem cT {t:ab}(hf:BIG≤fu)(h:SmT t):f80 fu t=some t:=by
 have hN:=h.nrow
 have key:∀ (m n k:Nat),k+m=t.rows.length→m<n→mr t t n (k:Int) t.rows=some t:=by
  intro m
  induction m with
  | zero=>
   intro n k hk hn
   obtain ⟨n,rfl⟩:∃ i,n=i+1:=⟨n-1,by omega⟩
   have:k=t.rows.length:=by omega
   subst this
   rw [mr,nlt];rfl
  | succ m ih=>
   intro n k hk hn
   obtain ⟨n,rfl⟩:∃ i,n=i+1:=⟨n-1,by omega⟩
   have hkl:k<t.rows.length:=by omega
   rw [mr,ltR hkl,ct,ge0,b_,ct,tn,gE (by have:=(h.rows k hkl).len;omega),bs,bb hkl (by unfold BIG;omega)]
   have e:t.rows.set k { (t.rows.getD k default) with vals:=(t.rows.getD k default).vals } = t.rows:=mY hkl
   rw [e]
   exact ih n (k+1) (by omega) (by omega)
 unfold f80 ux
 rw [mo h.first.len,bs,ve (by have:=h.cs.len;omega),bs,uz h.nrow,bs]
 exact key t.rows.length fu 0 (by omega) (by unfold BIG at hf;omega)
theorem lr {t:ab}(hf:BIG≤fu)(h:SmT t):f42 fu t=some t:=by
 have hN:=h.nrow
 have key:∀ (m n k:Nat),k+m=t.rows.length→m<n→ia t n (k:Int) { t with rows:=t.rows.take k } = some t:=by
  intro m
  induction m with
  | zero=>
   intro n k hk hn
   obtain ⟨n,rfl⟩:∃ i,n=i+1:=⟨n-1,by omega⟩
   have:k=t.rows.length:=by omega
   subst this
   rw [ia,nlt,List.take_length];rfl
  | succ m ih=>
   intro n k hk hn
   obtain ⟨n,rfl⟩:∃ i,n=i+1:=⟨n-1,by omega⟩
   have hkl:k<t.rows.length:=by omega
   have hv:=(h.rows k hkl).len
   rw [ia,ltR hkl,ct,ge0,b_,ct,tn,cap (by rw [List.length_nil];omega),ct,cap (by rw [List.length_take,s_];omega),ct,bb hkl (by unfold BIG;omega)]
   have e:(⟨t.first,t.changes,t.rows.take k++[(⟨(t.rows.getD k default).id,(t.rows.getD k default).ver,([]:List Val)++(t.rows.getD k default).vals⟩:Row)],t.next⟩:ab) = { t with rows:=t.rows.take (k+1) }:=by
    rw [kC (d:=default) hkl,List.nil_append]
   rw [e]
   exact ih n (k+1) (by omega) (by omega)
 have h1:=h.first.len
 have h2:=h.cs.len
 unfold f42 f42_j1
 rw [cap (by simp;omega),ct,cap (by simp;omega),ct]
 exact key t.rows.length fu 0 (by omega) (by unfold BIG at hf;omega)
theorem rj {t:ab}{id:Int}(hf:BIG≤fu)(h:t.rows.length≤1000):f82 fu t id=some (wA t id):=by
 unfold f82 wA rowN
 refine lS (L:=hH t id) t.rows (fun r=>decide (r.id=id)) (by unfold BIG;omega) (fun n=>?_) (fun n k hk hp=>?_) (fun n k hk hp=>?_) (by unfold BIG at hf;omega)
 ·rw [hH,nlt];rfl
 ·rw [hH,ltR hk,ct,ge0,b_,ct,tn,ae hk,hp];rfl
 ·rw [hH,ltR hk,ct,ge0,b_,ct,tn,ae hk,hp];rfl
theorem ru {t:ab}{id:Int}(hf:BIG≤fu)(h:t.rows.length≤1000):f48 fu t id=some (wA t id):=by
 unfold f48 f83
 have:jx t.rows (fun x0=>f84 x0 id) fu 0=some (wA t id):=by
  unfold wA rowN
  refine lS (L:=jx t.rows fun x0=>f84 x0 id) t.rows (fun r=>decide (r.id=id)) (by unfold BIG;omega) (fun n=>?_) (fun n k hk hp=>?_) (fun n k hk hp=>?_) (by unfold BIG at hf;omega)
  ·rw [jx,nlt];rfl
  ·rw [jx,ltR hk,ct,ge0,b_,ct,tn,ae hk];unfold f84;rw [hp];rfl
  ·rw [jx,ltR hk,ct,ge0,b_,ct,tn,ae hk];unfold f84;rw [hp];rfl
 rw [this];rfl
theorem iW {t:ab}{id:Int}(h:rowN t id<t.rows.length):wA t id=(rowN t id:Int):=if_pos h
theorem iV {t:ab}{id:Int}(h:¬ rowN t id<t.rows.length):wA t id=-1:=if_neg h
theorem yR {t:ab}{id:Int}(hf:BIG≤fu)(h:t.rows.length≤1000):f41 fu t id=some (sr t id):=by
 unfold f41 sr
 rw [o82,rj hf h,bs]
 by_cases h2:rowN t id<t.rows.length
 case neg=>rw [if_neg h2,iV h2];rfl
 rw [if_pos h2,iW h2,df (show ¬ (rowN t id:Int)<0 by omega)]
 have e1:IntKind.i64.wrap ((rowN t id:Int)+1)=((rowN t id+1:Nat):Int):=bb h2 (by unfold BIG;omega)
 have h3:decide ((rowN t id:Int)≤(t.rows.length:Int))=true:=by rw [decide_eq_true_iff];omega
 have h4:decide (((rowN t id+1:Nat):Int)≤(t.rows.length:Int))=true:=by rw [decide_eq_true_iff];omega
 rw [e1,h3,h4,ge0,ge0]
 simp only [tn,Int.toNat_zero,Bool.true_and,Bool.and_true,ct,cf,decide_true,Int.le_refl,List.drop_zero,List.nil_append,List.take_length]
 rw [cap (by simp;omega),ct,cap (by simp;omega),ct,mJ]
theorem Bo {t:ab}{id:Int}(hf:BIG≤fu)(h:SmT t):f40 fu t id=some (sr t id):=by
 have hN:=h.nrow
 unfold f40 sr
 rw [cT hf h,bs,ru hf h.nrow,bs]
 by_cases h2:rowN t id<t.rows.length
 case neg=>rw [if_neg h2,iV h2];rfl
 have h3:=Cw h2 hN
 rw [if_pos h2,iW h2,df (show ¬ (rowN t id:Int)<0 by omega),cf]
 unfold f81
 rw [h3.1,h3.2,ct,tn,mJ,bs,uz (by have:=List.length_eraseIdx_le t.rows (rowN t id);omega)];rfl
theorem AN {t:ab}{id:Int}(h:SmT t):SmT (sr t id).1:=by
 unfold sr
 split
 ·have hs:(t.rows.eraseIdx (rowN t id)).Sublist t.rows:=List.eraseIdx_sublist ..
  refine ⟨h.first,h.cs,Nat.le_trans hs.length_le h.nrow,fun k hk=>?_⟩
  rw [ae hk]
  exact h.row (hs.subset (List.getElem_mem hk))
 ·exact h
structure SmX (xs:List Set):Prop where
 len:xs.length≤1000
 nm:∀ x,x∈xs→x.name.length≤1000
 all:∀ x,x∈xs→SmV x.val
theorem SmX.get {xs:List Set}(h:SmX xs){k:Nat}(hk:k<xs.length):SmV (xs.getD k default).val:=by
 rw [ae hk];exact h.all _ (List.getElem_mem hk)
structure Ci (s:List Col) (met:List (List UInt8)) (x:Set):Prop where
 there:atN s x.name<s.length
 fresh:x.name∉met
 ok:ValOK x.val
 fits:BW x.val (s.getD (atN s x.name) default).kind
open Classical in
noncomputable def tell (s:List Col):List (List UInt8)→List Val→List Set→Option (List Val)
 | _,row,[]=>some row
 | met,row,x::xs=>if Ci s met x then tell s (met++[x.name]) (row.set (atN s x.name) x.val) xs else none
theorem tell_cons {s:List Col}{met:List (List UInt8)}{row:List Val}{x:Set}{xs:List Set}:tell s met row (x::xs)=@ite _ (Ci s met x) (Classical.propDecidable _) (tell s (met++[x.name]) (row.set (atN s x.name) x.val) xs) none:=by rw [tell]
theorem mS {s:List Col}:∀ {xs:List Set} {met:List (List UInt8)} {row r:List Val},tell s met row xs=some r→r.length=row.length
 | [],_,_,_,h=>by rw [tell] at h;injection h with h;rw [h]
 | x::xs,met,row,r,h=>by
  rw [tell_cons] at h
  split at h
  ·rw [mS h];simp
  ·cases h
theorem tell_sm {s:List Col}:∀ {xs:List Set} {met:List (List UInt8)} {row r:List Val},(∀ x,x∈xs→SmV x.val)→SmR row→tell s met row xs=some r→SmR r
 | [],_,_,_,_,hr,h=>by rw [tell] at h;injection h with h;rw [← h];exact hr
 | x::xs,met,row,r,hx,hr,h=>by
  rw [tell_cons] at h
  split at h
  ·refine tell_sm (fun y hy=>hx y (List.mem_cons_of_mem _ hy)) ⟨by have:=hr.len;simpa using this,fun v hv=>?_⟩ h
   rcases List.mem_or_eq_of_mem_set hv with hv|hv
   ·exact hr.all v hv
   ·subst hv;exact hx x List.mem_cons_self
  ·cases h
def okT (r:List Val):Option (List Val)→Bool×List Val | some x=>(true,x) | none=>(false,r)
def okF (r:List Val):Option (List Val)→List Val×Bool | some x=>(x,true) | none=>(r,false)
theorem AR {κ:Type}[DecidableEq κ]{q:κ}{ks:List κ}(h:q∈ks):memK q ks=true:=by unfold memK;exact decide_eq_true_iff.2 h
theorem AS {κ:Type}[DecidableEq κ]{q:κ}{ks:List κ}(h:q∉ks):memK q ks=false:=by unfold memK;exact decide_eq_false_iff_not.2 h
theorem l99 {s:List Col}{xs:List Set}(hf:BIG≤fu)(hs:s.length≤1000)(hx:SmX xs):∀ (m n k:Nat) (met:List (List UInt8)) (row:List Val),k+m=xs.length→m<n→row.length=s.length→
     ∃ r,f99_l1 fu s xs n (k:Int) met row=some (okT r (tell s met row (xs.drop k))):=by
 have hN:=hx.len
 intro m
 induction m with
 | zero=>
  intro n k met row hk hn hl
  obtain ⟨n,rfl⟩:∃ i,n=i+1:=⟨n-1,by omega⟩
  have:k=xs.length:=by omega
  subst this
  refine ⟨row,?_⟩
  rw [f99_l1,nlt,List.drop_length];rfl
 | succ m ih=>
  intro n k met row hk hn hl
  obtain ⟨n,rfl⟩:∃ i,n=i+1:=⟨n-1,by omega⟩
  have hkl:k<xs.length:=by omega
  rw [f99_l1,ltR hkl,ct,ge0,b_,ct,tn,mz hf hs,bs,lZ (d:=default) hkl,tell_cons]
  by_cases h1:atN s (xs.getD k default).name<s.length
  case neg=>exact ⟨row,by rw [gu h1,if_neg fun h=>h1 h.there];rfl⟩
  rw [cV h1,df (show ¬ (atN s (xs.getD k default).name:Int)<0 by omega),cf]
  by_cases h2:(xs.getD k default).name∈met
  ·have hm:memK (xs.getD k default).name met=true:=AR h2
   exact ⟨row,by rw [hm,if_neg fun h=>h.fresh h2];rfl⟩
  have hm:memK (xs.getD k default).name met=false:=AS h2
  rw [hm,cf,lu hf (hx.get hkl),bs]
  by_cases h3:ValOK (xs.getD k default).val
  case neg=>exact ⟨row,by rw [B_f h3,if_neg fun h=>h3 h.ok];rfl⟩
  rw [B_t h3]
  simp only [n_,cf]
  rw [inR h1,ct,tn,rd,bs]
  by_cases h4:BW (xs.getD k default).val (s.getD (atN s (xs.getD k default).name) default).kind
  case neg=>
   have h4':¬ ((xs.getD k default).val.kind=0∨(xs.getD k default).val.kind=(s.getD (atN s (xs.getD k default).name) default).kind):=h4
   exact ⟨row,by rw [B_f h4',if_neg fun h=>h4 h.fits];rfl⟩
  have h4':(xs.getD k default).val.kind=0∨(xs.getD k default).val.kind=(s.getD (atN s (xs.getD k default).name) default).kind:=h4
  rw [B_t h4',if_pos ⟨h1,h2,h3,h4⟩]
  unfold mn
  simp only [n_,cf]
  rw [inR (show atN s (xs.getD k default).name<row.length by omega),ct,tn,tn,hm,cf,bb hkl (by unfold BIG;omega)]
  exact ih n (k+1) _ _ (by omega) (by omega) (by simpa using hl)
theorem yL {s:List Col}{xs:List Set}{row:List Val}(hf:BIG≤fu)(hs:s.length≤1000)(hx:SmX xs)(hl:row.length=s.length):∃ r,f99 fu s row xs=some (okT r (tell s [] row xs)):=by
 have:=l99 (fu:=fu) (s:=s) (xs:=xs) hf hs hx xs.length fu 0 [] row (by omega) (by have:=hx.len;unfold BIG at hf;omega) hl
 exact this
theorem Df {s:List Col}{xs:List Set}(hf:BIG≤fu)(hs:s.length≤1000)(hx:SmX xs):∀ (m n k:Nat) (row:List Val),k+m=xs.length→m<n→row.length=s.length→
     ∃ r,bK fu s xs n (k:Int) row=some (okF r (tell s ((xs.take k).map (·.name)) row (xs.drop k))):=by
 have hN:=hx.len
 intro m
 induction m with
 | zero=>
  intro n k row hk hn hl
  obtain ⟨n,rfl⟩:∃ i,n=i+1:=⟨n-1,by omega⟩
  have:k=xs.length:=by omega
  subst this
  refine ⟨row,?_⟩
  rw [bK,nlt,List.drop_length];rfl
 | succ m ih=>
  intro n k row hk hn hl
  obtain ⟨n,rfl⟩:∃ i,n=i+1:=⟨n-1,by omega⟩
  have hkl:k<xs.length:=by omega
  have hmem:(xs.getD k default).name∈(xs.take k).map (·.name)↔∃ j,j<k∧(xs.getD j default).name=(xs.getD k default).name:=by
   rw [List.mem_map]
   constructor
   ·rintro ⟨x,hx,e⟩
    obtain ⟨j,hj,rfl⟩:=g_ hx
    have hj':j<k:=by simp at hj;omega
    refine ⟨j,hj',?_⟩
    rw [List.getElem_take] at e
    rw [ae (show j<xs.length by omega)];exact e
   ·rintro ⟨j,hj,e⟩
    refine ⟨xs.getD j default,?_,e⟩
    rw [ae (show j<xs.length by omega)]
    exact List.mem_take_iff_getElem.2 ⟨j,by omega,rfl⟩
  rw [bK,ltR hkl,ct,ge0,b_,ct,tn,fG hf hs,bs,lZ (d:=default) hkl,tell_cons]
  by_cases h1:atN s (xs.getD k default).name<s.length
  case neg=>exact ⟨row,by rw [gu h1,if_neg fun h=>h1 h.there];rfl⟩
  rw [cV h1,df (show ¬ (atN s (xs.getD k default).name:Int)<0 by omega),cf,ct,jk hf (hx.get hkl),bs]
  by_cases h3:ValOK (xs.getD k default).val
  case neg=>exact ⟨row,by rw [B_f h3,if_neg fun h=>h3 h.ok];rfl⟩
  rw [B_t h3]
  simp only [n_,cf,ct]
  have hj:f100_j2 fu xs (k:Int) row (atN s (xs.getD k default).name:Int) (bK fu s xs n) false=@ite _ ((xs.getD k default).name∈(xs.take k).map (·.name)) (Classical.propDecidable _) (some (row,false)) (bK fu s xs n (IntKind.i64.wrap ((k:Int)+1)) (row.set (atN s (xs.getD k default).name) (xs.getD k default).val)):=by
   unfold f100_j2
   rw [cf,ja (L:=gG xs (k:Int) row (atN s (xs.getD k default).name:Int) (bK fu s xs n)) (N:=k) (fun j=>(xs.getD j default).name=(xs.getD k default).name) (some (row,false)) (bK fu s xs n (IntKind.i64.wrap ((k:Int)+1)) (row.set (atN s (xs.getD k default).name) (xs.getD k default).val)) (by unfold BIG;omega) (fun q=>?_) (fun q j hjk hq=>?_) (fun q j hjk hq=>?_) (fu:=fu) (by unfold BIG at hf;omega)]
   ·by_cases h:(xs.getD k default).name∈(xs.take k).map (·.name)
    ·rw [if_pos h,if_pos (hmem.1 h)]
    ·rw [if_neg h,if_neg fun h'=>h (hmem.2 h')]
   ·rw [gG,nlt,cf,inR hkl,ct,inR (show atN s (xs.getD k default).name<row.length by omega),ct,tn,tn]
   ·rw [gG,ltR hjk,ct,inR (show j<xs.length by omega),ct,inR hkl,ct,tn,tn,dt hq];rfl
   ·rw [gG,ltR hjk,ct,inR (show j<xs.length by omega),ct,inR hkl,ct,tn,tn,df hq];rfl
  have hfin:BW (xs.getD k default).val (s.getD (atN s (xs.getD k default).name) default).kind→∃ r,f100_j2 fu xs (k:Int) row (atN s (xs.getD k default).name:Int) (bK fu s xs n) false=some (okF r (@ite _ (Ci s ((xs.take k).map (·.name)) (xs.getD k default)) (Classical.propDecidable _) (tell s ((xs.take k).map (·.name)++[(xs.getD k default).name]) (row.set (atN s (xs.getD k default).name) (xs.getD k default).val) (xs.drop (k+1))) none)):=fun h4=>by
   rw [hj]
   by_cases h2:(xs.getD k default).name∈(xs.take k).map (·.name)
   ·exact ⟨row,by rw [if_pos h2,if_neg fun h=>h.fresh h2];rfl⟩
   ·rw [if_neg h2,if_pos ⟨h1,h2,h3,h4⟩,bb hkl (by unfold BIG;omega)]
    have e:(xs.take k).map (·.name)++[(xs.getD k default).name]=(xs.take (k+1)).map (·.name):=by rw [kC (d:=default) hkl,List.map_append];rfl
    rw [e]
    exact ih n (k+1) _ (by omega) (by omega) (by simpa using hl)
  by_cases h5:(xs.getD k default).val.kind=0
  ·rw [dt h5]
   exact hfin (.inl h5)
  ·rw [df h5]
   simp only [m_,ct]
   rw [inR h1,ct,tn]
   by_cases h6:(xs.getD k default).val.kind=(s.getD (atN s (xs.getD k default).name) default).kind
   ·rw [dt h6]
    exact hfin (.inr h6)
   ·rw [df h6]
    exact ⟨row,by rw [if_neg fun h=>h.fits.elim h5 h6];rfl⟩
theorem vB {s:List Col}{xs:List Set}{row:List Val}(hf:BIG≤fu)(hs:s.length≤1000)(hx:SmX xs)(hl:row.length=s.length):∃ r,At fu s row xs=some (okF r (tell s [] row xs)):=by
 have:=Df (fu:=fu) (s:=s) (xs:=xs) hf hs hx xs.length fu 0 row (by omega) (by have:=hx.len;unfold BIG at hf;omega) hl
 unfold At
 rw [cap (by rw [List.length_nil];omega)]
 exact this
def po (s:List Col):List Val:=s.map (·.def_)
theorem dX (s:List Col):(po s).length=s.length:=by simp [po]
theorem rU {s:List Col}{k:Nat}(hk:k<s.length):(po s).getD k default=(s.getD k default).def_:=by
 unfold po
 rw [ae (by simpa using hk),ae hk];simp
theorem zL {s:List Col}(hf:BIG≤fu)(hs:s.length≤1000):BC fu s=some (po s):=by
 have key:∀ (m n k:Nat),k+m=s.length→m<n→jl s n (k:Int) ((po s).take k)=some (po s):=by
  intro m
  induction m with
  | zero=>
   intro n k hk hn
   obtain ⟨n,rfl⟩:∃ i,n=i+1:=⟨n-1,by omega⟩
   have:k=s.length:=by omega
   subst this
   rw [jl,nlt,← dX,List.take_length];rfl
  | succ m ih=>
   intro n k hk hn
   obtain ⟨n,rfl⟩:∃ i,n=i+1:=⟨n-1,by omega⟩
   have hkl:k<s.length:=by omega
   rw [jl,ltR hkl,ct,ge0,b_,ct,tn,cap (by rw [List.length_take,s_,dX];omega),ct,← rU hkl,← kC (by rw [dX];exact hkl),bb hkl (by unfold BIG;omega)]
   exact ih n (k+1) (by omega) (by omega)
 unfold BC
 exact key s.length fu 0 (by omega) (by unfold BIG at hf;omega)
theorem defs_sm {s:List Col}(h:ak s):SmR (po s):=⟨by rw [dX];have:=h.hi;omega,fun v hv=>by
 obtain ⟨c,hc,rfl⟩:=List.mem_map.1 hv
 exact (h.sm.all c hc).def_⟩
open Classical in
noncomputable def o7 (s:List Col) (row:List Val) (rows:List (List Val)):Int:=if ¬ aO s row then 2 else if ¬ NoTwice s rows then 3 else 0
theorem vu {t:ab}{r:Row}(hf:BIG≤fu)(h:Rows t)(h9:t.rows.length≤500)(hr:SmR r.vals):f102 fu t r=some (o7 (lastS t) r.vals (r.vals::(t.rows.filter fun q=>!decide (q.id=r.id)).map (nowR t))):=by
 have hN:=h.len
 have key:∀ (m n k:Nat),k+m=t.rows.length→m<n→fI fu t r (lastS t) n (k:Int) (r.vals::((t.rows.take k).filter fun q=>!decide (q.id=r.id)).map (nowR t))=some (o7 (lastS t) r.vals (r.vals::(t.rows.filter fun q=>!decide (q.id=r.id)).map (nowR t))):=by
  intro m
  induction m with
  | zero=>
   intro n k hk hn
   obtain ⟨n,rfl⟩:∃ i,n=i+1:=⟨n-1,by omega⟩
   have:k=t.rows.length:=by omega
   subst this
   rw [fI,nlt,cf,rf hf h.rt.okLast hr,bs,List.take_length]
   unfold o7
   by_cases h1:aO (lastS t) r.vals
   case neg=>rw [B_f h1,if_pos h1];rfl
   have hhi:=h.rt.okLast.hi
   have hfl:(t.rows.filter fun q=>!decide (q.id=r.id)).length≤t.rows.length:=List.length_filter_le ..
   rw [B_t h1,if_neg (fun h=>h h1)]
   simp only [n_,cf]
   rw [yP hf (by omega) (by rw [List.length_cons,List.length_map];omega) (fun x hx=>?_),bs]
   ·by_cases h2:NoTwice (lastS t) (r.vals::(t.rows.filter fun q=>!decide (q.id=r.id)).map (nowR t))
    ·rw [B_f (fun h=>h h2),if_neg (fun h=>h h2)];rfl
    ·rw [B_t h2,if_pos h2];rfl
   ·rcases List.mem_cons.1 hx with rfl|hx
    ·exact h1.len
    ·obtain ⟨q,hq,rfl⟩:=List.mem_map.1 hx
     exact h.lens _ (List.mem_map.2 ⟨q,(List.mem_filter.1 hq).1,rfl⟩)
  | succ m ih=>
   intro n k hk hn
   obtain ⟨n,rfl⟩:∃ i,n=i+1:=⟨n-1,by omega⟩
   have hkl:k<t.rows.length:=by omega
   have e:(t.rows.take (k+1)).filter (fun q=>!decide (q.id=r.id))=(t.rows.take k).filter (fun q=>!decide (q.id=r.id))++(if (t.rows.getD k default).id=r.id then [] else [t.rows.getD k default]):=by
    rw [kC (d:=default) hkl,List.filter_append]
    congr 1
    rw [List.filter_cons,List.filter_nil]
    by_cases hd:(t.rows.getD k default).id=r.id
    ·rw [if_pos hd,dt hd];rfl
    ·rw [if_neg hd,df hd];rfl
   have hih:=ih n (k+1) (by omega) (by omega)
   rw [e,List.map_append] at hih
   have hfl:((t.rows.take k).filter fun q=>!decide (q.id=r.id)).length≤k:=Nat.le_trans (List.length_filter_le ..) (by simp;omega)
   rw [fI,ltR hkl,ct,ge0,b_,ct,tn]
   by_cases hd:(t.rows.getD k default).id=r.id
   ·rw [if_pos hd] at hih
    rw [dt hd]
    unfold lD
    simp only [n_,cf]
    rw [bb hkl (by unfold BIG;omega)]
    simpa using hih
   ·rw [if_neg hd] at hih
    rw [df hd]
    simp only [m_,ct]
    rw [mp hf h.rt (h.all k hkl),bs,cap (by rw [List.length_cons,List.length_map,s_];omega),ct]
    unfold lD
    rw [bb hkl (by unfold BIG;omega)]
    exact hih
 unfold f102
 rw [ew hf h.rt,bs]
 exact key t.rows.length fu 0 (by omega) (by unfold BIG at hf;omega)
end Go.Proofs.YtganfdhmkdehlaaGreatDoor
