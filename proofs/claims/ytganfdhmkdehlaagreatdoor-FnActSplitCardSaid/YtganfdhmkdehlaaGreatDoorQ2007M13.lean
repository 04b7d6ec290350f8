/- Plain laws. -/
import Derived.Test.YtganfdhmkdehlaaGreatDoorQ2007M11
set_option linter.all false
namespace Go.Proofs.YtganfdhmkdehlaaGreatDoor
open Go Go.HL
variable {fu:Nat}
open Classical in
noncomputable def qe (t:ab) (xs:List Set):ab×Int:=
 match tell (lastS t) [] (pP (lastS t)) xs with
 | none=>(t,1)
 | some row=>if ¬ aO (lastS t) row then (t,2) else if ¬ NoTwice (lastS t) (nows t++[row]) then (t,3) else if t.rows.length=8∨t.next=60 then (t,4)
  else ({ t with rows:=t.rows++[⟨t.next,(t.changes.length:Int),row⟩],next:=t.next+1 },0)
open Classical in
noncomputable def or (t:ab) (id:Int) (xs:List Set):ab×Int:=
 if rowN t id<t.rows.length then match tell (lastS t) [] (nowR t (t.rows.getD (rowN t id) default)) xs with
  | none=>(t,1)
  | some row=>if ¬ aO (lastS t) row then (t,2) else if ¬ NoTwice (lastS t) ((nows t).set (rowN t id) row) then (t,3) else ({ t with rows:=t.rows.set (rowN t id) ⟨id,(t.changes.length:Int),row⟩ },0)
 else (t,5)
open Classical in
noncomputable def eF (t:ab) (c:aa):ab×Int:=
 if ¬ Can (lastS t) c then (t,1) else if ∃ k,k<t.rows.length∧¬ aO (chg (lastS t) c) (aE (lastS t) c (nowR t (t.rows.getD k default))) then (t,2)
 else if t.changes.length=8 then (t,4) else ({ t with changes:=t.changes++[c] },0)
theorem uo {t:ab}(h:Rows t)(h9:t.rows.length≤500){row:List Val}(hl:row.length=(lastS t).length)(hr:SmR row){id n:Int}:Rows { t with rows:=t.rows++[⟨id,(t.changes.length:Int),row⟩],next:=n }:=by
 refine ⟨⟨h.rt.first,h.rt.run,h.rt.cs⟩,by simp;omega,fun k hk=>?_⟩
 rw [ae hk]
 have hm:=List.getElem_mem hk
 generalize (t.rows++[(⟨id,(t.changes.length:Int),row⟩:Row)])[k]=r at hm
 rcases p_ hm with hm|hm
 ·obtain ⟨j,hj,rfl⟩:=g_ hm
  have:=h.all j hj
  rw [ae hj] at this
  exact ⟨⟨this.ver.lo,this.ver.hi⟩,this.len,this.sm⟩
 ·simp only [List.mem_singleton] at hm
  subst hm
  refine ⟨⟨by show (0:Int)≤(t.changes.length:Int);omega,Int.le_refl _⟩,?_,hr⟩
  show row.length=(aZ t ((t.changes.length:Int).toNat)).length
  rw [tn,cT];exact hl
theorem xl {t:ab}(h:Rows t){k:Nat}{row:List Val}(hl:row.length=(lastS t).length)(hr:SmR row){id:Int}:Rows { t with rows:=t.rows.set k ⟨id,(t.changes.length:Int),row⟩ }:=by
 refine ⟨⟨h.rt.first,h.rt.run,h.rt.cs⟩,by have:=h.len;simpa using this,fun j hj=>?_⟩
 rw [ae hj]
 have hm:=List.getElem_mem hj
 generalize (t.rows.set k (⟨id,(t.changes.length:Int),row⟩:Row))[j]=r at hm
 rcases List.mem_or_eq_of_mem_set hm with hm|hm
 ·obtain ⟨i,hi,rfl⟩:=g_ hm
  have:=h.all i hi
  rw [ae hi] at this
  exact ⟨⟨this.ver.lo,this.ver.hi⟩,this.len,this.sm⟩
 ·subst hm
  refine ⟨⟨by show (0:Int)≤(t.changes.length:Int);omega,Int.le_refl _⟩,?_,hr⟩
  show row.length=(aZ t ((t.changes.length:Int).toNat)).length
  rw [tn,cT];exact hl
theorem ux (t:ab){row:List Val}{id n:Int}:nows { t with rows:=t.rows++[⟨id,(t.changes.length:Int),row⟩],next:=n } = nows t++[row]:=by
 show (t.rows++[_]).map (nowR t)=_
 rw [List.map_append]
 show nows t++[nowR t _]=_
 rw [nowR_new]
theorem rD (t:ab){k:Nat}{row:List Val}{id:Int}:nows { t with rows:=t.rows.set k ⟨id,(t.changes.length:Int),row⟩ } = (nows t).set k row:=by
 show (t.rows.set k _).map (nowR t)=_
 rw [List.map_set]
 show (nows t).set k (nowR t _)=_
 rw [nowR_new]
theorem mY {s:List Col}{row:List Val}{rows:List (List Val)}(h:¬ aO s row):pz s row rows=2:=if_pos h
theorem mX {s:List Col}{row:List Val}{rows:List (List Val)}(h:aO s row)(h2:¬ NoTwice s rows):pz s row rows=3:=by unfold pz;rw [if_neg (fun h'=>h' h),if_pos h2]
theorem mZ {s:List Col}{row:List Val}{rows:List (List Val)}(h:aO s row)(h2:NoTwice s rows):pz s row rows=0:=by unfold pz;rw [if_neg (fun h'=>h' h),if_neg (fun h'=>h' h2)]
theorem l64 {t q4:ab}{xs:List Set}{s:List Col}(hs:s.length≤1000):∀ (m n k:Nat) (row:List Val),k+m=s.length→m<n→row.length=s.length→(∀ j,j<k→row.getD j default=(s.getD j default).def_)→
     ∃ n',gF fu t xs s q4 n (k:Int) row=gF fu t xs s q4 (n' + 1) (s.length:Int) (pP s):=by
 intro m
 induction m with
 | zero=>
  intro n k row hk hn hl hrow
  obtain ⟨n,rfl⟩:∃ i,n=i+1:=⟨n-1,by omega⟩
  have:k=s.length:=by omega
  subst this
  refine ⟨n,?_⟩
  have e:row=pP s:=List.ext_getElem (by rw [hl,d5]) fun j h1 h2=>by
   have h3:=hrow j (by omega)
   rw [← sD (by omega),ae h1,ae h2] at h3
   exact h3
  rw [e]
 | succ m ih=>
  intro n k row hk hn hl hrow
  obtain ⟨n,rfl⟩:∃ i,n=i+1:=⟨n-1,by omega⟩
  have hkl:k<s.length:=by omega
  obtain ⟨n',h⟩:=ih n (k+1) (row.set k (s.getD k default).def_) (by omega) (by omega) (by simpa using hl) (fun j hj=>by
   rw [getD_set (by omega)]
   by_cases hjk:j=k
   ·rw [if_pos hjk,hjk]
   ·rw [if_neg hjk];exact hrow j (by omega))
  refine ⟨n',?_⟩
  rw [← h]
  rw [gF,ltR hkl,ct,ge0,b_,ct,ltR (show k<row.length by omega),b_,ct,tn,bb hkl (by unfold BIG;omega)]
theorem Ay {t:ab}(hf:BIG≤fu)(h:Rows t)(h9:t.rows.length≤500){row:List Val}(hl:row.length=(lastS t).length)(hr:SmR row){id n:Int}:f59 fu (⟨t.first,t.changes,t.rows++[(⟨id,(t.changes.length:Int),row⟩:Row)],n⟩:ab)=some (B (NoTwice (lastS t) (nows t++[row]))):=by
 have:=vj hf (uo h h9 hl hr (id:=id) (n:=n))
 rw [ux] at this
 exact this
theorem CE {t:ab}{xs:List Set}(hf:BIG≤fu)(h:aP t)(hs:SmT t)(hx:SmX xs):f64 fu t xs=some (qe t xs):=by
 have hrt:=h.rt hs
 have hok:=hrt.okLast
 have hhi:=hok.hi
 have h8:=h.nrow;have hlo:=h.lo;have hnx:=h.hi
 unfold f64 qe
 rw [mO hf hrt,bs,cW hf hs,bs]
 have hc:(decide (0≤((lastS t).length:Int))&&decide (((lastS t).length:Int)≤(CAP:Int)))=true:=by
  rw [CAP_eq];simp;omega
 rw [hc,ct,tn]
 obtain ⟨n',e⟩:=l64 (fu:=fu) (t:=t) (q4:=t) (xs:=xs) (s:=lastS t) (by omega) (lastS t).length fu 0 (List.replicate (lastS t).length d0_47) (by omega) (by unfold BIG at hf;omega) (by simp) (fun j hj=>by omega)
 rw [show ((0:Nat):Int)=0 from rfl] at e
 rw [e,gF,nlt,cf]
 obtain ⟨r,e2⟩:=zD (s:=lastS t) (row:=pP (lastS t)) hf (by omega) hx (d5 _)
 rw [e2,bs]
 cases ht:tell (lastS t) [] (pP (lastS t)) xs with
 | none=>
  simp only [okT,m_,ct]
  first | rfl | (rw [cW hf hs];rfl)
 | some row=>
  have hl:=m8 ht
  rw [d5] at hl
  have hr:=tell_sm hx.all (defs_sm hok) ht
  simp only [okT,n_,cf]
  rw [cap (by rw [s_];omega),ct,vh (by rw [List.length_append,s_];omega),bs,pc hf hr,bs]
  by_cases h1:aO (lastS t) row
  case neg=>
   rw [B_f h1,if_pos h1]
   simp only [m_,ct]
   first | rfl | (rw [cW hf hs];rfl)
  rw [B_t h1,if_neg (fun h=>h h1)]
  simp only [n_,cf]
  rw [Ay hf (h.rws hs) (by omega) hl hr,bs]
  by_cases h2:NoTwice (lastS t) (nows t++[row])
  case neg=>
   rw [B_f h2,if_pos h2]
   simp only [m_,ct]
   first | rfl | (rw [cW hf hs];rfl)
  rw [B_t h2,if_neg (fun h=>h h2)]
  simp only [n_,cf,sb]
  rw [bj (x:=t.next+1) (by omega) (by omega)]
  by_cases h3:t.rows.length=8
  ·rw [dt (show (t.rows.length:Int)=8 by omega),if_pos (.inl h3),ct,ct];first | rfl | (rw [cW hf hs];rfl)
  rw [df (show ¬ (t.rows.length:Int)=8 by omega),cf]
  by_cases h4:t.next=60
  ·rw [dt h4,if_pos (.inr h4),ct];first | rfl | (rw [cW hf hs];rfl)
  ·rw [df h4,if_neg (fun h=>h.elim h3 h4)];rfl
theorem th {t:ab}(h:aP t):(t.rows.filter fun q=>!decide (q.id=t.next))=t.rows:=by
 refine List.filter_eq_self.2 fun r hr=>?_
 have:=(h.rg r hr).hi
 simp;omega
theorem CD {t:ab}{xs:List Set}(hf:BIG≤fu)(h:aP t)(hs:SmT t)(hx:SmX xs):f65 fu t xs=some (qe t xs):=by
 have hrt:=h.rt hs
 have hok:=hrt.okLast
 have hhi:=hok.hi
 have h8:=h.nrow;have hlo:=h.lo;have hnx:=h.hi
 unfold f65 qe
 rw [o53,o102,eC hf hrt,bs,AU hf (by omega),bs]
 obtain ⟨r,e2⟩:=wo (s:=lastS t) (row:=pP (lastS t)) hf (by omega) hx (d5 _)
 rw [e2,bs]
 cases ht:tell (lastS t) [] (pP (lastS t)) xs with
 | none=>rfl
 | some row=>
  have hr:=tell_sm hx.all (defs_sm hok) ht
  simp only [okF,n_,cf]
  rw [wh hf (h.rws hs) (by omega) hr,bs]
  simp only
  rw [th h]
  have hperm:NoTwice (lastS t) (row::t.rows.map (nowR t))↔NoTwice (lastS t) (nows t++[row]):=NoTwice.perm (uf _ _)
  by_cases h1:aO (lastS t) row
  case neg=>rw [mY h1,if_pos h1];rfl
  rw [if_neg (fun h=>h h1)]
  by_cases h2:NoTwice (lastS t) (nows t++[row])
  case neg=>rw [mX h1 (fun h=>h2 (hperm.1 h)),if_pos h2];rfl
  rw [mZ h1 (hperm.2 h2),if_neg (fun h=>h h2)]
  simp only [decide_true,ct,o8,sa]
  rw [bj (x:=t.next+1) (by omega) (by omega)]
  by_cases h3:t.rows.length=8
  ·rw [dt (show (8:Int)≤(t.rows.length:Int) by omega),if_pos (.inl h3)];rfl
  rw [df (show ¬ (8:Int)≤(t.rows.length:Int) by omega),cf]
  by_cases h4:t.next=60
  ·rw [dt (show (60:Int)≤t.next by omega),if_pos (.inr h4)];rfl
  ·rw [df (show ¬ (60:Int)≤t.next by omega),if_neg (fun h=>h.elim h3 h4),cf,cap (by rw [s_];omega)];rfl
theorem Ax {t:ab}(hf:BIG≤fu)(h:Rows t){k:Nat}{row:List Val}(hl:row.length=(lastS t).length)(hr:SmR row){id:Int}:f59 fu (⟨t.first,t.changes,t.rows.set k (⟨id,(t.changes.length:Int),row⟩:Row),t.next⟩:ab)=some (B (NoTwice (lastS t) ((nows t).set k row))):=by
 have:=vj hf (xl h hl hr (k:=k) (id:=id))
 rw [rD] at this
 exact this
theorem zF {t:ab}{id:Int}{xs:List Set}(hf:BIG≤fu)(h:aP t)(hs:SmT t)(hx:SmX xs):f75 fu t id xs=some (or t id xs):=by
 have hrt:=h.rt hs
 have hok:=hrt.okLast
 have hhi:=hok.hi
 unfold f75 or
 rw [se hf hs.nrow,bs]
 by_cases h0:rowN t id<t.rows.length
 case neg=>rw [ji h0,if_neg h0];first | rfl | (rw [cW hf hs];rfl)
 have hin:=(h.rws hs).all _ h0
 have hnl:=hY hrt hin
 rw [jj h0,if_pos h0,df (show ¬ (rowN t id:Int)<0 by omega),cf,mO hf hrt,bs,cW hf hs,bs,inR h0,ct,tn,pd hf hrt hin,bs]
 obtain ⟨r,e2⟩:=zD (s:=lastS t) (row:=nowR t (t.rows.getD (rowN t id) default)) hf (by omega) hx hnl
 rw [e2,bs]
 cases ht:tell (lastS t) [] (nowR t (t.rows.getD (rowN t id) default)) xs with
 | none=>
  simp only [okT,m_,ct]
  first | rfl | (rw [cW hf hs];rfl)
 | some row=>
  have hl:=m8 ht
  rw [hnl] at hl
  have hr:=tell_sm hx.all (nowR_sm hrt hin) ht
  simp only [okT,n_,cf,ct]
  rw [pc hf hr,bs]
  by_cases h1:aO (lastS t) row
  case neg=>
   rw [B_f h1,if_pos h1]
   simp only [m_,ct]
   first | rfl | (rw [cW hf hs];rfl)
  rw [B_t h1,if_neg (fun h=>h h1)]
  simp only [n_,cf]
  rw [Ax hf (h.rws hs) hl hr,bs]
  by_cases h2:NoTwice (lastS t) ((nows t).set (rowN t id) row)
  case neg=>
   rw [B_f h2,if_pos h2]
   simp only [m_,ct]
   first | rfl | (rw [cW hf hs];rfl)
  rw [B_t h2,if_neg (fun h=>h h2)];rfl
theorem tg {t:ab}(h:aP t){id:Int}(h0:rowN t id<t.rows.length):(t.rows.filter fun q=>!decide (q.id=id))=t.rows.eraseIdx (rowN t id):=by
 have e:=ni h0
 rw [ae h0] at e
 have:=jI h.asc h0
 rw [e] at this
 exact this
theorem zE {t:ab}{id:Int}{xs:List Set}(hf:BIG≤fu)(h:aP t)(hs:SmT t)(hx:SmX xs):f76 fu t id xs=some (or t id xs):=by
 have hrt:=h.rt hs
 have hok:=hrt.okLast
 have hhi:=hok.hi
 have h8:=h.nrow
 unfold f76 or
 rw [o82,o53,o90,o102,rY hf hs.nrow,bs]
 by_cases h0:rowN t id<t.rows.length
 case neg=>rw [ji h0,if_neg h0];rfl
 have hin:=(h.rws hs).all _ h0
 have hnl:=hY hrt hin
 rw [jj h0,if_pos h0,df (show ¬ (rowN t id:Int)<0 by omega),cf,eC hf hrt,bs,inR h0,ct,tn,mF hf hrt hin,bs]
 obtain ⟨r,e2⟩:=wo (s:=lastS t) (row:=nowR t (t.rows.getD (rowN t id) default)) hf (by omega) hx hnl
 rw [e2,bs]
 cases ht:tell (lastS t) [] (nowR t (t.rows.getD (rowN t id) default)) xs with
 | none=>rfl
 | some row=>
  have hr:=tell_sm hx.all (nowR_sm hrt hin) ht
  simp only [okF,n_,cf]
  rw [wh hf (h.rws hs) (by omega) hr,bs]
  simp only
  rw [tg h h0]
  have hperm:NoTwice (lastS t) (row::(t.rows.eraseIdx (rowN t id)).map (nowR t))↔NoTwice (lastS t) ((nows t).set (rowN t id) row):=by
   rw [show (t.rows.eraseIdx (rowN t id)).map (nowR t)=(t.rows.map (nowR t)).eraseIdx (rowN t id) by rw [List.eraseIdx_eq_take_drop_succ,List.eraseIdx_eq_take_drop_succ,List.map_append,List.map_take,List.map_drop]]
   exact NoTwice.perm (xj (by rw [List.length_map];exact h0) _)
  by_cases h1:aO (lastS t) row
  case neg=>rw [mY h1,if_pos h1];rfl
  rw [if_neg (fun h=>h h1)]
  by_cases h2:NoTwice (lastS t) ((nows t).set (rowN t id) row)
  case neg=>rw [mX h1 (fun h=>h2 (hperm.1 h)),if_pos h2];rfl
  rw [mZ h1 (hperm.2 h2),if_neg (fun h=>h h2)]
  rfl
theorem un {t:ab}(h:Rt t){c:aa}(hc:Can (lastS t) c)(hl:t.changes.length≤500)(hsm:jd c):Rt { t with changes:=t.changes++[c] }:=
 ⟨h.first,⟨_,run_snoc h.last hc⟩,⟨by simp;omega,fun x hx=>by
  rcases p_ hx with hx|hx
  ·exact h.cs.all x hx
  ·simp only [List.mem_singleton] at hx;subst hx;exact hsm⟩⟩
theorem rowIn_snoc {t:ab}{r:Row}(h:l5 t r){c:aa}:l5 { t with changes:=t.changes++[c] } r:=by
 have hv1:r.ver.toNat≤t.changes.length:=by have:=h.ver.hi;have:=h.ver.lo;omega
 refine ⟨⟨h.ver.lo,by have:=h.ver.hi;show r.ver≤((t.changes++[c]).length:Int);simp;omega⟩,?_,h.sm⟩
 rw [fz hv1];exact h.len
theorem pA {t:ab}{r:Row}(hrt:Rt t)(hin:l5 t r){c:aa}(hsm:jd c):SmR (aE (lastS t) c (nowR t r)):=
 gW (nowR_sm hrt hin) (by have:=hY hrt hin;have:=hrt.okLast.hi;omega) hsm
theorem CC {t:ab}{c:aa}(hf:BIG≤fu)(h:aP t)(hs:SmT t)(hc:jd c):f71 fu t c=some (eF t c):=by
 have hrt:=h.rt hs
 have hok:=hrt.okLast
 have h8:=h.nch
 have hN:=hs.nrow
 unfold f71 eF
 rw [mO hf hrt,bs,vg hf hok hc,bs]
 unfold doC
 by_cases h1:Can (lastS t) c
 case neg=>
  rw [if_neg h1,if_pos h1]
  simp only [m_,ct]
  first | rfl | (rw [cW hf hs];rfl)
 rw [if_pos h1,if_neg (fun h=>h h1)]
 simp only [n_,cf]
 rw [cW hf hs,bs,cap (by rw [s_];omega),ct,vT (by rw [List.length_append,s_];omega),bs]
 rw [jn (L:=mL fu t (chg (lastS t) c,true) t (t.changes++[c])) (N:=t.rows.length) (fun k=>¬ aO (chg (lastS t) c) (aE (lastS t) c (nowR t (t.rows.getD k default)))) (some (t,2)) (some (if t.changes.length=8 then (t,4) else ({ t with changes:=t.changes++[c] },0))) (by unfold BIG;omega) (fun n=>?_) (fun n k hk hp=>?_) (fun n k hk hp=>?_) (by unfold BIG at hf;omega)]
 ·by_cases hE:∃ k,k<t.rows.length∧¬ aO (chg (lastS t) c) (aE (lastS t) c (nowR t (t.rows.getD k default)))
  ·rw [if_pos hE,if_pos hE]
  ·rw [if_neg hE,if_neg hE]
 ·rw [mL,nlt,cf]
  by_cases h2:t.changes.length=8
  ·rw [dt (show (t.changes.length:Int)=8 by omega),if_pos h2,ct];first | rfl | (rw [cW hf hs];rfl)
  ·rw [df (show ¬ (t.changes.length:Int)=8 by omega),if_neg h2];rfl
 all_goals
  have hin:=(h.rws hs).all k hk
  have e:f49 fu (⟨t.first,t.changes++[c],t.rows,t.next⟩:ab) (t.rows.getD k default)=some (aE (lastS t) c (nowR t (t.rows.getD k default))):=by
   rw [← hH hrt hin.ver]
   exact pd hf (un hrt h1 (by omega) hc) (rowIn_snoc hin)
  rw [mL,ltR hk,ct,ge0,b_,ct,tn,e,bs,pc hf (pA hrt hin hc),bs]
 ·rw [B_f hp]
  simp only [m_,ct]
  first | rfl | (rw [cW hf hs];rfl)
 ·rw [B_t (Classical.not_not.1 hp)];rfl
theorem CB {t:ab}{c:aa}(hf:BIG≤fu)(h:aP t)(hs:SmT t)(hc:jd c):f72 fu t c=some (eF t c):=by
 have hrt:=h.rt hs
 have hok:=hrt.okLast
 have h8:=h.nch
 have hN:=hs.nrow
 unfold f72 eF
 rw [o53,o42,eC hf hrt,bs,ve hf hok hc,bs]
 unfold doC
 by_cases h1:Can (lastS t) c
 case neg=>rw [if_neg h1,if_pos h1];rfl
 have hrt':=un hrt h1 (by omega) hc
 rw [if_pos h1,if_neg (fun h=>h h1)]
 simp only [n_,cf]
 have e53:f53 fu (⟨t.first,t.changes++[c],t.rows,t.next⟩:ab)=some (chg (lastS t) c):=by
  rw [← jp hrt.last h1]
  exact eC hf hrt'
 rw [lH hf hs,bs,cap (by rw [s_];omega),ct,e53,bs]
 rw [jn (L:=mK fu t c t (chg (lastS t) c)) (N:=t.rows.length) (fun k=>¬ aO (chg (lastS t) c) (aE (lastS t) c (nowR t (t.rows.getD k default)))) (some (t,2)) (some (if t.changes.length=8 then (t,4) else ({ t with changes:=t.changes++[c] },0))) (by unfold BIG;omega) (fun n=>?_) (fun n k hk hp=>?_) (fun n k hk hp=>?_) (by unfold BIG at hf;omega)]
 ·by_cases hE:∃ k,k<t.rows.length∧¬ aO (chg (lastS t) c) (aE (lastS t) c (nowR t (t.rows.getD k default)))
  ·rw [if_pos hE,if_pos hE]
  ·rw [if_neg hE,if_neg hE]
 ·rw [mK,nlt,cf]
  by_cases h2:t.changes.length=8
  ·rw [dt (show (8:Int)≤(t.changes.length:Int) by omega),if_pos h2];rfl
  ·rw [df (show ¬ (8:Int)≤(t.changes.length:Int) by omega),if_neg h2];rfl
 all_goals
  have hin:=(h.rws hs).all k hk
  have e:f90 fu (⟨t.first,t.changes++[c],t.rows,t.next⟩:ab) (t.rows.getD k default)=some (aE (lastS t) c (nowR t (t.rows.getD k default))):=by
   rw [← hH hrt hin.ver]
   exact mF hf hrt' (rowIn_snoc hin)
  rw [mK,ltR hk,ct,ge0,b_,ct,tn,o90,e,bs,rV hf h1.ok (pA hrt hin hc),bs]
 ·rw [B_f hp];rfl
 ·rw [B_t (Classical.not_not.1 hp)];rfl
theorem qd {t:ab}{xs:List Set}(h:aP t):aP (qe t xs).1:=by
 unfold qe
 split
 ·exact h
 ·rename_i row ht
  by_cases h1:aO (lastS t) row
  case neg=>rw [if_pos h1];exact h
  rw [if_neg (fun h=>h h1)]
  by_cases h2:NoTwice (lastS t) (nows t++[row])
  case neg=>rw [if_pos h2];exact h
  rw [if_neg (fun h=>h h2)]
  by_cases h3:t.rows.length=8∨t.next=60
  ·rw [if_pos h3];exact h
  ·rw [if_neg h3];exact B3 h h1 h2 (fun e=>h3 (.inl e)) (fun e=>h3 (.inr e))
theorem pY {t:ab}{id:Int}{xs:List Set}(h:aP t):aP (or t id xs).1:=by
 unfold or
 by_cases h0:rowN t id<t.rows.length
 case neg=>rw [if_neg h0];exact h
 rw [if_pos h0]
 split
 ·exact h
 ·rename_i row ht
  by_cases h1:aO (lastS t) row
  case neg=>rw [if_pos h1];exact h
  rw [if_neg (fun h=>h h1)]
  by_cases h2:NoTwice (lastS t) ((nows t).set (rowN t id) row)
  case neg=>rw [if_pos h2];exact h
  rw [if_neg (fun h=>h h2)]
  have:=B1 h h0 h1 h2
  rw [ni h0] at this
  exact this
theorem A4 {t:ab}{c:aa}(h:aP t)(hs:SmT t):aP (eF t c).1:=by
 unfold eF
 by_cases h1:Can (lastS t) c
 case neg=>rw [if_pos h1];exact h
 rw [if_neg (fun h=>h h1)]
 by_cases h2:∃ k,k<t.rows.length∧¬ aO (chg (lastS t) c) (aE (lastS t) c (nowR t (t.rows.getD k default)))
 ·rw [if_pos h2];exact h
 rw [if_neg h2]
 by_cases h3:t.changes.length=8
 ·rw [if_pos h3];exact h
 rw [if_neg h3]
 refine Dc h hs.cs h1 (fun r hr=>?_) h3
 obtain ⟨k,hk,rfl⟩:=g_ hr
 refine c_ fun hn=>h2 ⟨k,hk,?_⟩
 rw [ae hk];exact hn
theorem qc {t:ab}{xs:List Set}(h:aP t)(hs:SmT t)(hx:SmX xs):SmT (qe t xs).1:=by
 unfold qe
 split
 ·exact hs
 ·rename_i row ht
  by_cases h1:aO (lastS t) row
  case neg=>rw [if_pos h1];exact hs
  rw [if_neg (fun h=>h h1)]
  by_cases h2:NoTwice (lastS t) (nows t++[row])
  case neg=>rw [if_pos h2];exact hs
  rw [if_neg (fun h=>h h2)]
  by_cases h3:t.rows.length=8∨t.next=60
  ·rw [if_pos h3];exact hs
  ·rw [if_neg h3]
   refine ⟨hs.first,hs.cs,by have:=h.nrow;simp;omega,fun k hk=>?_⟩
   rw [ae hk]
   rcases p_ (List.getElem_mem hk) with hm|hm
   ·exact hs.row hm
   ·simp only [List.mem_singleton] at hm
    rw [hm]
    exact tell_sm hx.all (defs_sm (h.rt hs).okLast) ht
theorem setT_sm {t:ab}{id:Int}{xs:List Set}(h:aP t)(hs:SmT t)(hx:SmX xs):SmT (or t id xs).1:=by
 unfold or
 by_cases h0:rowN t id<t.rows.length
 case neg=>rw [if_neg h0];exact hs
 rw [if_pos h0]
 split
 ·exact hs
 ·rename_i row ht
  by_cases h1:aO (lastS t) row
  case neg=>rw [if_pos h1];exact hs
  rw [if_neg (fun h=>h h1)]
  by_cases h2:NoTwice (lastS t) ((nows t).set (rowN t id) row)
  case neg=>rw [if_pos h2];exact hs
  rw [if_neg (fun h=>h h2)]
  refine ⟨hs.first,hs.cs,by have:=hs.nrow;simpa using this,fun k hk=>?_⟩
  rw [ae hk]
  rcases List.mem_or_eq_of_mem_set (List.getElem_mem hk) with hm|hm
  ·exact hs.row hm
  ·rw [hm]
   exact tell_sm hx.all (nowR_sm (h.rt hs) ((h.rws hs).all _ h0)) ht
theorem chgT_sm {t:ab}{c:aa}(h:aP t)(hs:SmT t)(hc:jd c):SmT (eF t c).1:=by
 unfold eF
 by_cases h1:Can (lastS t) c
 case neg=>rw [if_pos h1];exact hs
 rw [if_neg (fun h=>h h1)]
 by_cases h2:∃ k,k<t.rows.length∧¬ aO (chg (lastS t) c) (aE (lastS t) c (nowR t (t.rows.getD k default)))
 ·rw [if_pos h2];exact hs
 rw [if_neg h2]
 by_cases h3:t.changes.length=8
 ·rw [if_pos h3];exact hs
 rw [if_neg h3]
 exact ⟨hs.first,⟨by have:=h.nch;simp;omega,fun x hx=>by
  rcases p_ hx with hx|hx
  ·exact hs.cs.all x hx
  ·simp only [List.mem_singleton] at hx;subst hx;exact hc⟩,hs.nrow,hs.rows⟩
end Go.Proofs.YtganfdhmkdehlaaGreatDoor
