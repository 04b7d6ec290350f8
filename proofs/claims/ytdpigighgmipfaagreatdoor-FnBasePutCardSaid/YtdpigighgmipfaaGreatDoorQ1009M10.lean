/- Tables: copies, sameness, a row's place and values, a row away. -/
import Derived.Test.YtdpigighgmipfaaGreatDoorQ1009M9
set_option linter.all false
namespace Go.Proofs.YtdpigighgmipfaaGreatDoor
open Go Go.HL
variable {fu:Nat}
theorem list_same {α:Type}[Inhabited α]{a b:List α}(hl:a.length=b.length):a=b↔((∀ k,k<a.length→a.getD k default=b.getD k default)∧True):=by
 constructor
 ·rintro rfl;exact ⟨fun _ _=>rfl,trivial⟩
 ·rintro ⟨h,-⟩
  refine List.ext_getElem hl fun k h1 h2=>?_
  have:=h k h1
  rwa [getD_lt h1,getD_lt h2] at this
theorem same_loop {α:Type}[Inhabited α][DecidableEq α]{L:List α→List α→Nat→Int→Option Bool}(hL:∀ a b n i,L a b (n+1) i=cond (decide (i < (List.length a:Int))) (cond (decide (0≤i)&&decide (i < (List.length a:Int))) (cond (decide (0≤i)&&decide (i < (List.length b:Int))) (cond (!decide ((a.getD i.toNat default)=(b.getD i.toNat default))) (some false) ((L a b n) (IntKind.i64.wrap (i+1)))) none) none) (some true))
     {a b:List α} (hl:a.length=b.length) (hB:a.length≤BIG) (hf:a.length<fu):L a b fu 0=some (B (a=b)):=by
 rw [B_congr (list_same hl)]
 refine loopB (L:=L a b) _ _ hB (fun n h=>?_) (fun n h=>absurd trivial h) (fun n k hk hp=>?_) (fun n k hk hp=>?_) hf
 ·rw [hL,nlt];rfl
 ·rw [hL,ltR hk,ct,ge0,Bool.and_self,ct,ltR (show k<b.length by omega),Bool.and_self,ct,tn,dt hp];rfl
 ·rw [hL,ltR hk,ct,ge0,Bool.and_self,ct,ltR (show k<b.length by omega),Bool.and_self,ct,tn,df hp];rfl
theorem same_all {α:Type}[Inhabited α][DecidableEq α]{L:List α→List α→Nat→Int→Option Bool}(hL:∀ a b n i,L a b (n+1) i=cond (decide (i < (List.length a:Int))) (cond (decide (0≤i)&&decide (i < (List.length a:Int))) (cond (decide (0≤i)&&decide (i < (List.length b:Int))) (cond (!decide ((a.getD i.toNat default)=(b.getD i.toNat default))) (some false) ((L a b n) (IntKind.i64.wrap (i+1)))) none) none) (some true))
     (hf:BIG≤fu) {a b:List α} (ha:a.length≤1000):cond (!decide ((List.length a:Int)=(List.length b:Int))) (some false) (L a b fu 0)=some (B (a=b)):=by
 by_cases hl:a.length=b.length
 ·rw [dt (show (a.length:Int)=(b.length:Int) by omega),same_loop hL hl (by unfold BIG;omega) (by unfold BIG at hf;omega)];rfl
 ·rw [df (show ¬ (a.length:Int)=(b.length:Int) by omega),B_f fun e=>hl (by rw [e])];rfl
theorem f43_is {a b:List Col}(hf:BIG≤fu)(ha:a.length≤1000):f43 fu a b=some (B (a=b)):=same_all (L:=f43_l1) (fun _ _ _ _=>rfl) hf ha
theorem f44_is {a b:List Change}(hf:BIG≤fu)(ha:a.length≤1000):f44 fu a b=some (B (a=b)):=same_all (L:=f44_l1) (fun _ _ _ _=>rfl) hf ha
theorem f47_is {a b:List Val}(hf:BIG≤fu)(ha:a.length≤1000):f47 fu a b=some (B (a=b)):=same_all (L:=f47_l1) (fun _ _ _ _=>rfl) hf ha
theorem f46_is {r q:Row}(hf:BIG≤fu)(hr:SmR r.vals):f46 fu r q=some (B (r=q)):=by
 unfold f46 f46_j1
 rw [f47_is hf hr.len]
 obtain ⟨a,b,c⟩:=r
 obtain ⟨a',b',c'⟩:=q
 by_cases h1:a=a'
 case neg=>rw [df h1,B_f (p:=(⟨a,b,c⟩:Row)=_) fun e=>h1 (by injection e)];rfl
 by_cases h2:b=b'
 case neg=>rw [dt h1,df h2,B_f (p:=(⟨a,b,c⟩:Row)=_) fun e=>h2 (by injection e)];rfl
 rw [dt h1,dt h2]
 show some (B (c=c'))=_
 subst h1;subst h2
 rw [B_congr (show (⟨a,b,c⟩:Row)=⟨a,b,c'⟩↔c=c' from ⟨fun e=>by injection e,fun e=>by rw [e]⟩)]
theorem SmT.row {t:Table}(h:SmT t){r:Row}(hr:r∈t.rows):SmR r.vals:=by
 obtain ⟨k,hk,rfl⟩:=List.getElem_of_mem hr
 have:=h.rows k hk
 rwa [getD_lt hk] at this
theorem f45_is {a b:List Row}(hf:BIG≤fu)(ha:a.length≤1000)(hr:∀ k,k<a.length→SmR (a.getD k default).vals):f45 fu a b (fun x0 x1=>f46 fu x0 x1)=some (B (a=b)):=by
 unfold f45
 by_cases hl:a.length=b.length
 ·rw [dt (show (a.length:Int)=(b.length:Int) by omega),B_congr (list_same hl)]
  refine loopB (L:=f45_l1 a b fun x0 x1=>f46 fu x0 x1) _ _ (by unfold BIG;omega) (fun n h=>?_) (fun n h=>absurd trivial h) (fun n k hk hp=>?_) (fun n k hk hp=>?_) (by unfold BIG at hf;omega)
  ·rw [f45_l1,nlt];rfl
  ·rw [f45_l1,ltR hk,ct,ge0,Bool.and_self,ct,ltR (show k<b.length by omega),Bool.and_self,ct,tn,f46_is hf (hr k hk),B_t hp];rfl
  ·rw [f45_l1,ltR hk,ct,ge0,Bool.and_self,ct,ltR (show k<b.length by omega),Bool.and_self,ct,tn,f46_is hf (hr k hk),B_f hp];rfl
 ·rw [df (show ¬ (a.length:Int)=(b.length:Int) by omega),B_f fun e=>hl (by rw [e])];rfl
theorem f15_is {a b:Table}(hf:BIG≤fu)(ha:SmT a):f15 fu a b=some (B (a=b)):=by
 unfold f15 f15_j1
 rw [f43_is hf ha.first.len,f44_is hf ha.cs.len,f45_is hf ha.nrow ha.rows]
 obtain ⟨p,q,r,s⟩:=a
 obtain ⟨p',q',r',s'⟩:=b
 simp only [bs]
 by_cases h1:p=p'
 case neg=>rw [B_f h1,B_f (p:=(⟨p,q,r,s⟩:Table)=_) fun e=>h1 (by injection e)];rfl
 by_cases h2:q=q'
 case neg=>rw [B_t h1,B_f h2,B_f (p:=(⟨p,q,r,s⟩:Table)=_) fun e=>h2 (by injection e)];rfl
 by_cases h3:s=s'
 case neg=>rw [B_t h1,B_t h2,df h3,B_f (p:=(⟨p,q,r,s⟩:Table)=_) fun e=>h3 (by injection e)];rfl
 rw [B_t h1,B_t h2,dt h3]
 show some (B (r=r'))=_
 subst h1;subst h2;subst h3
 rw [B_congr (show (⟨p,q,r,s⟩:Table)=⟨p,q,r',s⟩↔r=r' from ⟨fun e=>by injection e,fun e=>by rw [e]⟩)]
theorem f77_is {s:List Row}(hl:s.length≤1000):f77 s=some s:=by
 unfold f77 f110 f111
 rw [cap (by simp;omega)];rfl
theorem f109_is {s:List Change}(hl:s.length≤1001):f109 s=some s:=by
 unfold f109 f129 f130
 rw [cap (by simp;omega)];rfl
theorem set_self {α:Type}{l:List α}{d:α}{k:Nat}(hk:k<l.length):l.set k (l.getD k d)=l:=by
 rw [getD_lt hk];exact List.set_getElem_self ..
theorem f80_is {t:Table}(hf:BIG≤fu)(h:SmT t):f80 fu t=some t:=by
 have hN:=h.nrow
 have key:∀ (m n k:Nat),k+m=t.rows.length→m<n→f80_l1 t t n (k:Int) t.rows=some t:=by
  intro m
  induction m with
  | zero=>
   intro n k hk hn
   obtain ⟨n,rfl⟩:∃ i,n=i+1:=⟨n-1,by omega⟩
   have:k=t.rows.length:=by omega
   subst this
   rw [f80_l1,nlt];rfl
  | succ m ih=>
   intro n k hk hn
   obtain ⟨n,rfl⟩:∃ i,n=i+1:=⟨n-1,by omega⟩
   have hkl:k<t.rows.length:=by omega
   rw [f80_l1,ltR hkl,ct,ge0,Bool.and_self,ct,tn,f115_is (by have:=(h.rows k hkl).len;omega),bs,succI hkl (by unfold BIG;omega)]
   have e:t.rows.set k { (t.rows.getD k default) with vals:=(t.rows.getD k default).vals } = t.rows:=set_self hkl
   rw [e]
   exact ih n (k+1) (by omega) (by omega)
 unfold f80 f80_j1
 rw [f91_is h.first.len,bs,f109_is (by have:=h.cs.len;omega),bs,f77_is h.nrow,bs]
 exact key t.rows.length fu 0 (by omega) (by unfold BIG at hf;omega)
theorem f42_is {t:Table}(hf:BIG≤fu)(h:SmT t):f42 fu t=some t:=by
 have hN:=h.nrow
 have key:∀ (m n k:Nat),k+m=t.rows.length→m<n→f42_l1 t n (k:Int) { t with rows:=t.rows.take k } = some t:=by
  intro m
  induction m with
  | zero=>
   intro n k hk hn
   obtain ⟨n,rfl⟩:∃ i,n=i+1:=⟨n-1,by omega⟩
   have:k=t.rows.length:=by omega
   subst this
   rw [f42_l1,nlt,List.take_length];rfl
  | succ m ih=>
   intro n k hk hn
   obtain ⟨n,rfl⟩:∃ i,n=i+1:=⟨n-1,by omega⟩
   have hkl:k<t.rows.length:=by omega
   have hv:=(h.rows k hkl).len
   rw [f42_l1,ltR hkl,ct,ge0,Bool.and_self,ct,tn,cap (by rw [List.length_nil];omega),ct,cap (by rw [List.length_take,List.length_singleton];omega),ct,succI hkl (by unfold BIG;omega)]
   have e:(⟨t.first,t.changes,t.rows.take k++[(⟨(t.rows.getD k default).id,(t.rows.getD k default).ver,([]:List Val)++(t.rows.getD k default).vals⟩:Row)],t.next⟩:Table) = { t with rows:=t.rows.take (k+1) }:=by
    rw [takeN (d:=default) hkl,List.nil_append]
   rw [e]
   exact ih n (k+1) (by omega) (by omega)
 have h1:=h.first.len
 have h2:=h.cs.len
 unfold f42 f42_j1
 rw [cap (by simp;omega),ct,cap (by simp;omega),ct]
 exact key t.rows.length fu 0 (by omega) (by unfold BIG at hf;omega)
theorem f82_is {t:Table}{id:Int}(hf:BIG≤fu)(h:t.rows.length≤1000):f82 fu t id=some (rowI t id):=by
 unfold f82 rowI rowN
 refine loopI (L:=f82_l1 t id) t.rows (fun r=>decide (r.id=id)) (by unfold BIG;omega) (fun n=>?_) (fun n k hk hp=>?_) (fun n k hk hp=>?_) (by unfold BIG at hf;omega)
 ·rw [f82_l1,nlt];rfl
 ·rw [f82_l1,ltR hk,ct,ge0,Bool.and_self,ct,tn,getD_lt hk,hp];rfl
 ·rw [f82_l1,ltR hk,ct,ge0,Bool.and_self,ct,tn,getD_lt hk,hp];rfl
theorem f48_is {t:Table}{id:Int}(hf:BIG≤fu)(h:t.rows.length≤1000):f48 fu t id=some (rowI t id):=by
 unfold f48 f83
 have:f83_l1 t.rows (fun x0=>f84 x0 id) fu 0=some (rowI t id):=by
  unfold rowI rowN
  refine loopI (L:=f83_l1 t.rows fun x0=>f84 x0 id) t.rows (fun r=>decide (r.id=id)) (by unfold BIG;omega) (fun n=>?_) (fun n k hk hp=>?_) (fun n k hk hp=>?_) (by unfold BIG at hf;omega)
  ·rw [f83_l1,nlt];rfl
  ·rw [f83_l1,ltR hk,ct,ge0,Bool.and_self,ct,tn,getD_lt hk];unfold f84;rw [hp];rfl
  ·rw [f83_l1,ltR hk,ct,ge0,Bool.and_self,ct,tn,getD_lt hk];unfold f84;rw [hp];rfl
 rw [this];rfl
theorem rowI_lt {t:Table}{id:Int}(h:rowN t id<t.rows.length):rowI t id=(rowN t id:Int):=if_pos h
theorem rowI_no {t:Table}{id:Int}(h:¬ rowN t id<t.rows.length):rowI t id=-1:=if_neg h
open Classical in
noncomputable def rowT (t:Table) (id:Int):List Val×Bool:=if TabOK t∧rowN t id<t.rows.length then (nowR t (t.rows.getD (rowN t id) default),true) else ([],false)
theorem f16_is {t:Table}{id:Int}(hf:BIG≤fu)(h:SmT t):f16 fu t id=some (rowT t id):=by
 unfold f16 f16_j1 rowT
 rw [f48_is hf h.nrow,bs,f19_is hf h,bs]
 by_cases h1:TabOK t
 case neg=>rw [B_f h1,if_neg fun h=>h1 h.1];rfl
 rw [B_t h1]
 by_cases h2:rowN t id<t.rows.length
 ·rw [if_pos ⟨h1,h2⟩,rowI_lt h2,inR h2,df (show ¬ (rowN t id:Int)<0 by omega),tn,f49_is hf (h1.rt h) ((h1.rws h).all _ h2)];rfl
 ·rw [if_neg fun h=>h2 h.2,rowI_no h2];rfl
abbrev nilT:Table:=⟨[],[],[],0⟩
theorem d27:(⟨d0_27.first,d0_27.changes,d0_27.rows,d0_27.next⟩:Table)=nilT:=rfl
theorem f41_is {t:Table}{id:Int}(hf:BIG≤fu)(h:t.rows.length≤1000):f41 fu t id=some (offT t id):=by
 unfold f41 offT
 rw [o82,f82_is hf h,bs]
 by_cases h2:rowN t id<t.rows.length
 case neg=>rw [if_neg h2,rowI_no h2];rfl
 rw [if_pos h2,rowI_lt h2,df (show ¬ (rowN t id:Int)<0 by omega)]
 have e1:IntKind.i64.wrap ((rowN t id:Int)+1)=((rowN t id+1:Nat):Int):=succI h2 (by unfold BIG;omega)
 have h3:decide ((rowN t id:Int)≤(t.rows.length:Int))=true:=by rw [decide_eq_true_iff];omega
 have h4:decide (((rowN t id+1:Nat):Int)≤(t.rows.length:Int))=true:=by rw [decide_eq_true_iff];omega
 rw [e1,h3,h4,ge0,ge0]
 simp only [tn,Int.toNat_zero,Bool.true_and,Bool.and_true,ct,cf,decide_true,Int.le_refl,List.drop_zero,List.nil_append,List.take_length]
 rw [cap (by simp;omega),ct,cap (by simp;omega),ct,cut_is]
theorem off_sm {t:Table}{id:Int}(h:SmT t):SmT (offT t id).1:=by
 unfold offT
 split
 ·have hs:(t.rows.eraseIdx (rowN t id)).Sublist t.rows:=List.eraseIdx_sublist ..
  refine ⟨h.first,h.cs,Nat.le_trans hs.length_le h.nrow,fun k hk=>?_⟩
  rw [getD_lt hk]
  exact h.row (hs.subset (List.getElem_mem hk))
 ·exact h
end Go.Proofs.YtdpigighgmipfaaGreatDoor
