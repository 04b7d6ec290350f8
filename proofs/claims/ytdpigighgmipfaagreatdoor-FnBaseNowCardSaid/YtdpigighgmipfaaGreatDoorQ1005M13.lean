/- A row put, values set, columns changed: the program and the document do the same, and right tables stay right. -/
import Derived.Test.YtdpigighgmipfaaGreatDoorQ1005M11
set_option linter.all false
namespace Go.Proofs.YtdpigighgmipfaaGreatDoor
open Go Go.HL
variable {fu:Nat}
open Classical in
noncomputable def putT (t:Table) (xs:List Set):Table×Int:=
 match tell (lastS t) [] (defs (lastS t)) xs with
 | none=>(t,1)
 | some row=>if ¬ RowOK (lastS t) row then (t,2) else if ¬ NoTwice (lastS t) (nows t++[row]) then (t,3) else if t.rows.length=8∨t.next=60 then (t,4)
  else ({ t with rows:=t.rows++[⟨t.next,(t.changes.length:Int),row⟩],next:=t.next+1 },0)
open Classical in
noncomputable def setT (t:Table) (id:Int) (xs:List Set):Table×Int:=
 if rowN t id<t.rows.length then match tell (lastS t) [] (nowR t (t.rows.getD (rowN t id) default)) xs with
  | none=>(t,1)
  | some row=>if ¬ RowOK (lastS t) row then (t,2) else if ¬ NoTwice (lastS t) ((nows t).set (rowN t id) row) then (t,3) else ({ t with rows:=t.rows.set (rowN t id) ⟨id,(t.changes.length:Int),row⟩ },0)
 else (t,5)
open Classical in
noncomputable def chgT (t:Table) (c:Change):Table×Int:=
 if ¬ Can (lastS t) c then (t,1) else if ∃ k,k<t.rows.length∧¬ RowOK (chg (lastS t) c) (chgRow (lastS t) c (nowR t (t.rows.getD k default))) then (t,2)
 else if t.changes.length=8 then (t,4) else ({ t with changes:=t.changes++[c] },0)
theorem rows_set {t:Table}(h:Rows t){k:Nat}{row:List Val}(hl:row.length=(lastS t).length)(hr:SmR row){id:Int}:Rows { t with rows:=t.rows.set k ⟨id,(t.changes.length:Int),row⟩ }:=by
 refine ⟨⟨h.rt.first,h.rt.run,h.rt.cs⟩,by have:=h.len;simpa using this,fun j hj=>?_⟩
 rw [getD_lt hj]
 have hm:=List.getElem_mem hj
 generalize (t.rows.set k (⟨id,(t.changes.length:Int),row⟩:Row))[j]=r at hm
 rcases List.mem_or_eq_of_mem_set hm with hm|hm
 ·obtain ⟨i,hi,rfl⟩:=List.getElem_of_mem hm
  have:=h.all i hi
  rw [getD_lt hi] at this
  exact ⟨⟨this.ver.lo,this.ver.hi⟩,this.len,this.sm⟩
 ·subst hm
  refine ⟨⟨by show (0:Int)≤(t.changes.length:Int);omega,Int.le_refl _⟩,?_,hr⟩
  show row.length=(shapeAt t ((t.changes.length:Int).toNat)).length
  rw [tn,shapeAt_last];exact hl
theorem nows_set (t:Table){k:Nat}{row:List Val}{id:Int}:nows { t with rows:=t.rows.set k ⟨id,(t.changes.length:Int),row⟩ } = (nows t).set k row:=by
 show (t.rows.set k _).map (nowR t)=_
 rw [List.map_set]
 show (nows t).set k (nowR t _)=_
 rw [nowR_new]
theorem codeN_need {s:List Col}{row:List Val}{rows:List (List Val)}(h:¬ RowOK s row):codeN s row rows=2:=if_pos h
theorem codeN_once {s:List Col}{row:List Val}{rows:List (List Val)}(h:RowOK s row)(h2:¬ NoTwice s rows):codeN s row rows=3:=by unfold codeN;rw [if_neg (fun h'=>h' h),if_pos h2]
theorem codeN_fine {s:List Col}{row:List Val}{rows:List (List Val)}(h:RowOK s row)(h2:NoTwice s rows):codeN s row rows=0:=by unfold codeN;rw [if_neg (fun h'=>h' h),if_neg (fun h'=>h' h2)]
theorem filter_new {t:Table}(h:TabOK t):(t.rows.filter fun q=>!decide (q.id=t.next))=t.rows:=by
 refine List.filter_eq_self.2 fun r hr=>?_
 have:=(h.rg r hr).hi
 simp;omega
theorem f65_is {t:Table}{xs:List Set}(hf:BIG≤fu)(h:TabOK t)(hs:SmT t)(hx:SmX xs):f65 fu t xs=some (putT t xs):=by
 have hrt:=h.rt hs
 have hok:=hrt.okLast
 have hhi:=hok.hi
 have h8:=h.nrow;have hlo:=h.lo;have hnx:=h.hi
 unfold f65 putT
 rw [o53,o102,f53_is hf hrt,bs,f101_is hf (by omega),bs]
 obtain ⟨r,e2⟩:=f100_is (s:=lastS t) (row:=defs (lastS t)) hf (by omega) hx (defs_len _)
 rw [e2,bs]
 cases ht:tell (lastS t) [] (defs (lastS t)) xs with
 | none=>rfl
 | some row=>
  have hr:=tell_sm hx.all (defs_sm hok) ht
  simp only [okF,Bool.not_true,cf]
  rw [f102_is hf (h.rws hs) (by omega) hr,bs]
  simp only
  rw [filter_new h]
  have hperm:NoTwice (lastS t) (row::t.rows.map (nowR t))↔NoTwice (lastS t) (nows t++[row]):=NoTwice.perm (snoc_perm _ _)
  by_cases h1:RowOK (lastS t) row
  case neg=>rw [codeN_need h1,if_pos h1];rfl
  rw [if_neg (fun h=>h h1)]
  by_cases h2:NoTwice (lastS t) (nows t++[row])
  case neg=>rw [codeN_once h1 (fun h=>h2 (hperm.1 h)),if_pos h2];rfl
  rw [codeN_fine h1 (hperm.2 h2),if_neg (fun h=>h h2)]
  simp only [decide_true,ct,f65_j1,f65_j2]
  rw [wrapI (x:=t.next+1) (by omega) (by omega)]
  by_cases h3:t.rows.length=8
  ·rw [dt (show (8:Int)≤(t.rows.length:Int) by omega),if_pos (.inl h3)];rfl
  rw [df (show ¬ (8:Int)≤(t.rows.length:Int) by omega),cf]
  by_cases h4:t.next=60
  ·rw [dt (show (60:Int)≤t.next by omega),if_pos (.inr h4)];rfl
  ·rw [df (show ¬ (60:Int)≤t.next by omega),if_neg (fun h=>h.elim h3 h4),cf,cap (by rw [List.length_singleton];omega)];rfl
theorem f59_set {t:Table}(hf:BIG≤fu)(h:Rows t){k:Nat}{row:List Val}(hl:row.length=(lastS t).length)(hr:SmR row){id:Int}:f59 fu (⟨t.first,t.changes,t.rows.set k (⟨id,(t.changes.length:Int),row⟩:Row),t.next⟩:Table)=some (B (NoTwice (lastS t) ((nows t).set k row))):=by
 have:=f59_is hf (rows_set h hl hr (k:=k) (id:=id))
 rw [nows_set] at this
 exact this
theorem f75_is {t:Table}{id:Int}{xs:List Set}(hf:BIG≤fu)(h:TabOK t)(hs:SmT t)(hx:SmX xs):f75 fu t id xs=some (setT t id xs):=by
 have hrt:=h.rt hs
 have hok:=hrt.okLast
 have hhi:=hok.hi
 unfold f75 setT
 rw [f48_is hf hs.nrow,bs]
 by_cases h0:rowN t id<t.rows.length
 case neg=>rw [rowI_no h0,if_neg h0];first | rfl | (rw [f80_is hf hs];rfl)
 have hin:=(h.rws hs).all _ h0
 have hnl:=nowR_len hrt hin
 rw [rowI_lt h0,if_pos h0,df (show ¬ (rowN t id:Int)<0 by omega),cf,f66_is hf hrt,bs,f80_is hf hs,bs,inR h0,ct,tn,f49_is hf hrt hin,bs]
 obtain ⟨r,e2⟩:=f99_is (s:=lastS t) (row:=nowR t (t.rows.getD (rowN t id) default)) hf (by omega) hx hnl
 rw [e2,bs]
 cases ht:tell (lastS t) [] (nowR t (t.rows.getD (rowN t id) default)) xs with
 | none=>
  simp only [okT,Bool.not_false,ct]
  first | rfl | (rw [f80_is hf hs];rfl)
 | some row=>
  have hl:=tell_len ht
  rw [hnl] at hl
  have hr:=tell_sm hx.all (nowR_sm hrt hin) ht
  simp only [okT,Bool.not_true,cf,ct]
  rw [f58_is hf hr,bs]
  by_cases h1:RowOK (lastS t) row
  case neg=>
   rw [B_f h1,if_pos h1]
   simp only [Bool.not_false,ct]
   first | rfl | (rw [f80_is hf hs];rfl)
  rw [B_t h1,if_neg (fun h=>h h1)]
  simp only [Bool.not_true,cf]
  rw [f59_set hf (h.rws hs) hl hr,bs]
  by_cases h2:NoTwice (lastS t) ((nows t).set (rowN t id) row)
  case neg=>
   rw [B_f h2,if_pos h2]
   simp only [Bool.not_false,ct]
   first | rfl | (rw [f80_is hf hs];rfl)
  rw [B_t h2,if_neg (fun h=>h h2)];rfl
theorem filter_set {t:Table}(h:TabOK t){id:Int}(h0:rowN t id<t.rows.length):(t.rows.filter fun q=>!decide (q.id=id))=t.rows.eraseIdx (rowN t id):=by
 have e:=rowN_id h0
 rw [getD_lt h0] at e
 have:=filter_erase h.asc h0
 rw [e] at this
 exact this
theorem f76_is {t:Table}{id:Int}{xs:List Set}(hf:BIG≤fu)(h:TabOK t)(hs:SmT t)(hx:SmX xs):f76 fu t id xs=some (setT t id xs):=by
 have hrt:=h.rt hs
 have hok:=hrt.okLast
 have hhi:=hok.hi
 have h8:=h.nrow
 unfold f76 setT
 rw [o82,o53,o90,o102,f82_is hf hs.nrow,bs]
 by_cases h0:rowN t id<t.rows.length
 case neg=>rw [rowI_no h0,if_neg h0];rfl
 have hin:=(h.rws hs).all _ h0
 have hnl:=nowR_len hrt hin
 rw [rowI_lt h0,if_pos h0,df (show ¬ (rowN t id:Int)<0 by omega),cf,f53_is hf hrt,bs,inR h0,ct,tn,f90_is hf hrt hin,bs]
 obtain ⟨r,e2⟩:=f100_is (s:=lastS t) (row:=nowR t (t.rows.getD (rowN t id) default)) hf (by omega) hx hnl
 rw [e2,bs]
 cases ht:tell (lastS t) [] (nowR t (t.rows.getD (rowN t id) default)) xs with
 | none=>rfl
 | some row=>
  have hr:=tell_sm hx.all (nowR_sm hrt hin) ht
  simp only [okF,Bool.not_true,cf]
  rw [f102_is hf (h.rws hs) (by omega) hr,bs]
  simp only
  rw [filter_set h h0]
  have hperm:NoTwice (lastS t) (row::(t.rows.eraseIdx (rowN t id)).map (nowR t))↔NoTwice (lastS t) ((nows t).set (rowN t id) row):=by
   rw [show (t.rows.eraseIdx (rowN t id)).map (nowR t)=(t.rows.map (nowR t)).eraseIdx (rowN t id) by rw [List.eraseIdx_eq_take_drop_succ,List.eraseIdx_eq_take_drop_succ,List.map_append,List.map_take,List.map_drop]]
   exact NoTwice.perm (set_perm (by rw [List.length_map];exact h0) _)
  by_cases h1:RowOK (lastS t) row
  case neg=>rw [codeN_need h1,if_pos h1];rfl
  rw [if_neg (fun h=>h h1)]
  by_cases h2:NoTwice (lastS t) ((nows t).set (rowN t id) row)
  case neg=>rw [codeN_once h1 (fun h=>h2 (hperm.1 h)),if_pos h2];rfl
  rw [codeN_fine h1 (hperm.2 h2),if_neg (fun h=>h h2)]
  rfl
theorem rt_snoc {t:Table}(h:Rt t){c:Change}(hc:Can (lastS t) c)(hl:t.changes.length≤500)(hsm:SmCh c):Rt { t with changes:=t.changes++[c] }:=
 ⟨h.first,⟨_,run_snoc h.last hc⟩,⟨by simp;omega,fun x hx=>by
  rcases List.mem_append.1 hx with hx|hx
  ·exact h.cs.all x hx
  ·simp only [List.mem_singleton] at hx;subst hx;exact hsm⟩⟩
theorem rowIn_snoc {t:Table}{r:Row}(h:RowIn t r){c:Change}:RowIn { t with changes:=t.changes++[c] } r:=by
 have hv1:r.ver.toNat≤t.changes.length:=by have:=h.ver.hi;have:=h.ver.lo;omega
 refine ⟨⟨h.ver.lo,by have:=h.ver.hi;show r.ver≤((t.changes++[c]).length:Int);simp;omega⟩,?_,h.sm⟩
 rw [shapeAt_snoc hv1];exact h.len
theorem chgRow_sm {t:Table}{r:Row}(hrt:Rt t)(hin:RowIn t r){c:Change}(hsm:SmCh c):SmR (chgRow (lastS t) c (nowR t r)):=
 sm_chgRow (nowR_sm hrt hin) (by have:=nowR_len hrt hin;have:=hrt.okLast.hi;omega) hsm
theorem f72_is {t:Table}{c:Change}(hf:BIG≤fu)(h:TabOK t)(hs:SmT t)(hc:SmCh c):f72 fu t c=some (chgT t c):=by
 have hrt:=h.rt hs
 have hok:=hrt.okLast
 have h8:=h.nch
 have hN:=hs.nrow
 unfold f72 chgT
 rw [o53,o42,f53_is hf hrt,bs,f87_is hf hok hc,bs]
 unfold doC
 by_cases h1:Can (lastS t) c
 case neg=>rw [if_neg h1,if_pos h1];rfl
 have hrt':=rt_snoc hrt h1 (by omega) hc
 rw [if_pos h1,if_neg (fun h=>h h1)]
 simp only [Bool.not_true,cf]
 have e53:f53 fu (⟨t.first,t.changes++[c],t.rows,t.next⟩:Table)=some (chg (lastS t) c):=by
  rw [← lastS_snoc hrt.last h1]
  exact f53_is hf hrt'
 rw [f42_is hf hs,bs,cap (by rw [List.length_singleton];omega),ct,e53,bs]
 rw [loopE (L:=f72_l1 fu t c t (chg (lastS t) c)) (N:=t.rows.length) (fun k=>¬ RowOK (chg (lastS t) c) (chgRow (lastS t) c (nowR t (t.rows.getD k default)))) (some (t,2)) (some (if t.changes.length=8 then (t,4) else ({ t with changes:=t.changes++[c] },0))) (by unfold BIG;omega) (fun n=>?_) (fun n k hk hp=>?_) (fun n k hk hp=>?_) (by unfold BIG at hf;omega)]
 ·by_cases hE:∃ k,k<t.rows.length∧¬ RowOK (chg (lastS t) c) (chgRow (lastS t) c (nowR t (t.rows.getD k default)))
  ·rw [if_pos hE,if_pos hE]
  ·rw [if_neg hE,if_neg hE]
 ·rw [f72_l1,nlt,cf]
  by_cases h2:t.changes.length=8
  ·rw [dt (show (8:Int)≤(t.changes.length:Int) by omega),if_pos h2];rfl
  ·rw [df (show ¬ (8:Int)≤(t.changes.length:Int) by omega),if_neg h2];rfl
 all_goals
  have hin:=(h.rws hs).all k hk
  have e:f90 fu (⟨t.first,t.changes++[c],t.rows,t.next⟩:Table) (t.rows.getD k default)=some (chgRow (lastS t) c (nowR t (t.rows.getD k default))):=by
   rw [← nowR_snoc hrt hin.ver]
   exact f90_is hf hrt' (rowIn_snoc hin)
  rw [f72_l1,ltR hk,ct,ge0,Bool.and_self,ct,tn,o90,e,bs,f88_is hf h1.ok (chgRow_sm hrt hin hc),bs]
 ·rw [B_f hp];rfl
 ·rw [B_t (Classical.not_not.1 hp)];rfl
end Go.Proofs.YtdpigighgmipfaaGreatDoor
/- What is done to a right table leaves a right one. -/
namespace Go.Proofs.YtdpigighgmipfaaGreatDoor
open Go Go.HL
variable {fu:Nat}
theorem putT_ok {t:Table}{xs:List Set}(h:TabOK t):TabOK (putT t xs).1:=by
 unfold putT
 split
 ·exact h
 ·rename_i row ht
  by_cases h1:RowOK (lastS t) row
  case neg=>rw [if_pos h1];exact h
  rw [if_neg (fun h=>h h1)]
  by_cases h2:NoTwice (lastS t) (nows t++[row])
  case neg=>rw [if_pos h2];exact h
  rw [if_neg (fun h=>h h2)]
  by_cases h3:t.rows.length=8∨t.next=60
  ·rw [if_pos h3];exact h
  ·rw [if_neg h3];exact put_ok h h1 h2 (fun e=>h3 (.inl e)) (fun e=>h3 (.inr e))
theorem setT_ok {t:Table}{id:Int}{xs:List Set}(h:TabOK t):TabOK (setT t id xs).1:=by
 unfold setT
 by_cases h0:rowN t id<t.rows.length
 case neg=>rw [if_neg h0];exact h
 rw [if_pos h0]
 split
 ·exact h
 ·rename_i row ht
  by_cases h1:RowOK (lastS t) row
  case neg=>rw [if_pos h1];exact h
  rw [if_neg (fun h=>h h1)]
  by_cases h2:NoTwice (lastS t) ((nows t).set (rowN t id) row)
  case neg=>rw [if_pos h2];exact h
  rw [if_neg (fun h=>h h2)]
  have:=set_ok h h0 h1 h2
  rw [rowN_id h0] at this
  exact this
theorem chgT_ok {t:Table}{c:Change}(h:TabOK t)(hs:SmT t):TabOK (chgT t c).1:=by
 unfold chgT
 by_cases h1:Can (lastS t) c
 case neg=>rw [if_pos h1];exact h
 rw [if_neg (fun h=>h h1)]
 by_cases h2:∃ k,k<t.rows.length∧¬ RowOK (chg (lastS t) c) (chgRow (lastS t) c (nowR t (t.rows.getD k default)))
 ·rw [if_pos h2];exact h
 rw [if_neg h2]
 by_cases h3:t.changes.length=8
 ·rw [if_pos h3];exact h
 rw [if_neg h3]
 refine chg_ok h hs.cs h1 (fun r hr=>?_) h3
 obtain ⟨k,hk,rfl⟩:=List.getElem_of_mem hr
 refine Classical.byContradiction fun hn=>h2 ⟨k,hk,?_⟩
 rw [getD_lt hk];exact hn
theorem putT_sm {t:Table}{xs:List Set}(h:TabOK t)(hs:SmT t)(hx:SmX xs):SmT (putT t xs).1:=by
 unfold putT
 split
 ·exact hs
 ·rename_i row ht
  by_cases h1:RowOK (lastS t) row
  case neg=>rw [if_pos h1];exact hs
  rw [if_neg (fun h=>h h1)]
  by_cases h2:NoTwice (lastS t) (nows t++[row])
  case neg=>rw [if_pos h2];exact hs
  rw [if_neg (fun h=>h h2)]
  by_cases h3:t.rows.length=8∨t.next=60
  ·rw [if_pos h3];exact hs
  ·rw [if_neg h3]
   refine ⟨hs.first,hs.cs,by have:=h.nrow;simp;omega,fun k hk=>?_⟩
   rw [getD_lt hk]
   rcases List.mem_append.1 (List.getElem_mem hk) with hm|hm
   ·exact hs.row hm
   ·simp only [List.mem_singleton] at hm
    rw [hm]
    exact tell_sm hx.all (defs_sm (h.rt hs).okLast) ht
theorem setT_sm {t:Table}{id:Int}{xs:List Set}(h:TabOK t)(hs:SmT t)(hx:SmX xs):SmT (setT t id xs).1:=by
 unfold setT
 by_cases h0:rowN t id<t.rows.length
 case neg=>rw [if_neg h0];exact hs
 rw [if_pos h0]
 split
 ·exact hs
 ·rename_i row ht
  by_cases h1:RowOK (lastS t) row
  case neg=>rw [if_pos h1];exact hs
  rw [if_neg (fun h=>h h1)]
  by_cases h2:NoTwice (lastS t) ((nows t).set (rowN t id) row)
  case neg=>rw [if_pos h2];exact hs
  rw [if_neg (fun h=>h h2)]
  refine ⟨hs.first,hs.cs,by have:=hs.nrow;simpa using this,fun k hk=>?_⟩
  rw [getD_lt hk]
  rcases List.mem_or_eq_of_mem_set (List.getElem_mem hk) with hm|hm
  ·exact hs.row hm
  ·rw [hm]
   exact tell_sm hx.all (nowR_sm (h.rt hs) ((h.rws hs).all _ h0)) ht
theorem chgT_sm {t:Table}{c:Change}(h:TabOK t)(hs:SmT t)(hc:SmCh c):SmT (chgT t c).1:=by
 unfold chgT
 by_cases h1:Can (lastS t) c
 case neg=>rw [if_pos h1];exact hs
 rw [if_neg (fun h=>h h1)]
 by_cases h2:∃ k,k<t.rows.length∧¬ RowOK (chg (lastS t) c) (chgRow (lastS t) c (nowR t (t.rows.getD k default)))
 ·rw [if_pos h2];exact hs
 rw [if_neg h2]
 by_cases h3:t.changes.length=8
 ·rw [if_pos h3];exact hs
 rw [if_neg h3]
 exact ⟨hs.first,⟨by have:=h.nch;simp;omega,fun x hx=>by
  rcases List.mem_append.1 hx with hx|hx
  ·exact hs.cs.all x hx
  ·simp only [List.mem_singleton] at hx;subst hx;exact hc⟩,hs.nrow,hs.rows⟩
end Go.Proofs.YtdpigighgmipfaaGreatDoor
