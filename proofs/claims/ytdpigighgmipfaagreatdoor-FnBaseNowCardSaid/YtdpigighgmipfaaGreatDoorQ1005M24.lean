/- Rows taken away and rows freed: tables and bases some rows of which stay, each as a function says. -/
import Derived.Test.YtdpigighgmipfaaGreatDoorQ1005M23
set_option linter.all false
namespace Go.Proofs.YtdpigighgmipfaaGreatDoor
open Go Go.HL
variable {fu:Nat}
theorem rowN_iff {t:Table}{id:Int}:rowN t id<t.rows.length↔∃ r,r∈t.rows∧r.id=id:=
 ⟨fun h=>⟨_,getD_mem h,rowN_id h⟩,rowN_yes⟩
noncomputable def tabW (t:Table) (p:Row→Prop) (ψ:Row→Row):Table:=⟨t.first,t.changes,(t.rows.filter fun r=>B (p r)).map ψ,t.next⟩
structure Weak (s:List Col) (a b:List Val):Prop where
 len:a.length=b.length
 all:∀ c,c<a.length→a.getD c default=b.getD c default∨(a.getD c default=nul∧(s.getD c default).need=false)
theorem Weak.refl (s:List Col)(a:List Val):Weak s a a:=⟨rfl,fun _ _=>.inl rfl⟩
theorem Weak.vok {s:List Col}{a b:List Val}(h:Weak s a b)(hb:RowOK s b):RowOK s a:=by
 refine ⟨by rw [h.len];exact hb.len,fun k hk=>?_⟩
 rcases h.all k hk with e|⟨e,hn⟩
 ·rw [e];exact hb.all k (by rw [← h.len];exact hk)
 ·rw [e];exact ⟨nul_ok,.inl rfl,fun hh=>by rw [hn] at hh;cases hh⟩
theorem Weak.trans {s:List Col}{a b c:List Val}(h:Weak s a b)(g:Weak s b c):Weak s a c:=by
 refine ⟨h.len.trans g.len,fun k hk=>?_⟩
 rcases h.all k hk with e|e
 ·rw [e];exact g.all k (by rw [← h.len];exact hk)
 ·exact .inr e
theorem Weak.clash {s:List Col}{a a' b b':List Val}(h:Weak s a b)(h':Weak s a' b')(hl:a.length=s.length)(hl':a'.length=s.length)(hc:Clash s a a'):Clash s b b':=by
 obtain ⟨c,h1,h2,h3,h4⟩:=hc
 have e1:a.getD c default=b.getD c default:=by
  rcases h.all c (by omega) with e|⟨e,-⟩
  ·exact e
  ·rw [e] at h3;exact absurd rfl h3
 have e2:a'.getD c default=b'.getD c default:=by
  rcases h'.all c (by omega) with e|⟨e,-⟩
  ·exact e
  ·rw [h4,e] at h3;exact absurd rfl h3
 exact ⟨c,h1,h2,by rw [← e1];exact h3,by rw [← e1,← e2];exact h4⟩
theorem noTwice_weak {s:List Col}{A:List Row}{f g:Row→List Val}(h:NoTwice s (A.map g))(hw:∀ r,r∈A→Weak s (f r) (g r))(hl:∀ r,r∈A→(g r).length=s.length):NoTwice s (A.map f):=by
 unfold NoTwice at *
 rw [List.pairwise_map] at h ⊢
 refine h.imp_of_mem fun {a b} ha hb hab hcl=>hab ?_
 exact Weak.clash (hw a ha) (hw b hb) (by rw [(hw a ha).len];exact hl a ha) (by rw [(hw b hb).len];exact hl b hb) hcl
structure RowWay (t:Table) (ψ:Row→Row):Prop where
 id:∀ r,r∈t.rows→(ψ r).id=r.id
 ver:∀ r,r∈t.rows→VerOK t (ψ r).ver
 was:∀ r,r∈t.rows→RowOK (shapeAt t (ψ r).ver.toNat) (ψ r).vals
 now:∀ r,r∈t.rows→Weak (lastS t) (nowR t (ψ r)) (nowR t r)
theorem RowWay.same {t:Table}(h:TabOK t):RowWay t (fun r=>r):=⟨fun _ _=>rfl,fun r hr=>(h.rg r hr).ver,fun r hr=>(h.rg r hr).was,fun _ _=>.refl _ _⟩
theorem mem_keep {p:Row→Prop}{rows:List Row}{r:Row}:r∈rows.filter (fun r=>B (p r))↔r∈rows∧p r:=by
 rw [List.mem_filter,B_iff]
theorem tabW_last (t:Table)(p:Row→Prop)(ψ:Row→Row):lastS (tabW t p ψ)=lastS t:=rfl
theorem tabW_now (t:Table)(p:Row→Prop)(ψ:Row→Row)(r:Row):nowR (tabW t p ψ) r=nowR t r:=rfl
theorem tabW_nows (t:Table)(p:Row→Prop)(ψ:Row→Row):nows (tabW t p ψ)=(t.rows.filter fun r=>B (p r)).map fun r=>nowR t (ψ r):=by
 show ((t.rows.filter _).map ψ).map (nowR t)=_
 rw [List.map_map];rfl
theorem tabW_asc {t:Table}{p:Row→Prop}{ψ:Row→Row}(h:TabOK t)(hw:RowWay t ψ):(tabW t p ψ).rows.Pairwise fun a b=>a.id<b.id:=by
 show ((t.rows.filter fun r=>B (p r)).map ψ).Pairwise _
 rw [List.pairwise_map]
 refine (h.asc.sublist List.filter_sublist).imp_of_mem fun {a b} ha hb hab=>?_
 rw [hw.id a (mem_keep.1 ha).1,hw.id b (mem_keep.1 hb).1];exact hab
theorem tabW_ok {t:Table}{p:Row→Prop}{ψ:Row→Row}(h:TabOK t)(hw:RowWay t ψ):TabOK (tabW t p ψ):=by
 refine tabOK_of h.first h.run h.nch (Nat.le_trans (by show ((t.rows.filter _).map ψ).length≤t.rows.length;rw [List.length_map];exact List.length_filter_le ..) h.nrow) h.lo h.hi (fun r hr=>?_) (tabW_asc h hw) ?_
 ·obtain ⟨q,hq,rfl⟩:=List.mem_map.1 hr
  have hq':=(mem_keep.1 hq).1
  have g:=h.rg q hq'
  exact ⟨⟨(hw.ver q hq').lo,(hw.ver q hq').hi⟩,by rw [hw.id q hq'];exact g.lo,by rw [hw.id q hq'];exact g.hi,hw.was q hq',(hw.now q hq').vok g.now⟩
 ·rw [tabW_nows,tabW_last]
  refine noTwice_weak (g:=nowR t) (h.once.sublist (List.filter_sublist.map _)) (fun r hr=>hw.now r (mem_keep.1 hr).1) fun r hr=>(h.rg r (mem_keep.1 hr).1).now.len
theorem tabW_sm {t:Table}{p:Row→Prop}{ψ:Row→Row}(h:SmT t)(hw:∀ r,r∈t.rows→SmR (ψ r).vals):SmT (tabW t p ψ):=by
 refine ⟨h.first,h.cs,Nat.le_trans (by show ((t.rows.filter _).map ψ).length≤t.rows.length;rw [List.length_map];exact List.length_filter_le ..) h.nrow,fun k hk=>?_⟩
 obtain ⟨q,hq,e⟩:=List.mem_map.1 (getD_mem (d:=default) hk)
 have e':ψ q=(tabW t p ψ).rows.getD k default:=e
 rw [← e'];exact hw q (mem_keep.1 hq).1
theorem tabW_congr {t:Table}{p p':Row→Prop}{ψ ψ':Row→Row}(hp:∀ r,r∈t.rows→(p r↔p' r))(hw:∀ r,r∈t.rows→p r→ψ r=ψ' r):tabW t p ψ=tabW t p' ψ':=by
 unfold tabW
 congr 1
 have e:(t.rows.filter fun r=>B (p r))=t.rows.filter fun r=>B (p' r):=List.filter_congr fun r hr=>B_congr (hp r hr)
 rw [← e]
 exact List.map_congr_left fun r hr=>hw r (mem_keep.1 hr).1 (mem_keep.1 hr).2
theorem tabW_all {t:Table}:tabW t (fun _=>True) (fun r=>r)=t:=by
 unfold tabW
 have:(t.rows.filter fun _=>B True)=t.rows:=List.filter_eq_self.2 fun _ _=>B_t trivial
 rw [this,List.map_id']
theorem tabW_there {t:Table}{p:Row→Prop}{ψ:Row→Row}(hid:∀ r,r∈t.rows→(ψ r).id=r.id){id:Int}:rowN (tabW t p ψ) id < (tabW t p ψ).rows.length↔∃ r,r∈t.rows∧p r∧r.id=id:=by
 rw [rowN_iff]
 constructor
 ·rintro ⟨r,hr,e⟩
  obtain ⟨q,hq,rfl⟩:=List.mem_map.1 hr
  have:=mem_keep.1 hq
  exact ⟨q,this.1,this.2,by rw [← hid q this.1];exact e⟩
 ·rintro ⟨r,hr,hp,e⟩
  exact ⟨ψ r,List.mem_map.2 ⟨r,mem_keep.2 ⟨hr,hp⟩,rfl⟩,by rw [hid r hr];exact e⟩
theorem erase_filter {rows:List Row}(ha:rows.Pairwise fun a b=>a.id<b.id){id:Int}:rows.eraseIdx (rows.findIdx fun r=>decide (r.id=id))=rows.filter fun r=>!decide (r.id=id):=by
 by_cases hk:(rows.findIdx fun r=>decide (r.id=id))<rows.length
 ·have e:(rows[(rows.findIdx fun r=>decide (r.id=id))]'hk).id=id:=of_decide_eq_true (List.findIdx_getElem (w:=hk))
  have:=filter_erase ha hk
  rw [e] at this
  exact this.symm
 ·rw [List.eraseIdx_of_length_le (by omega)]
  refine (List.filter_eq_self.2 fun r hr=>?_).symm
  have:¬ r.id=id:=fun h=>hk (List.findIdx_lt_length_of_exists ⟨r,hr,by simpa using h⟩)
  simp [this]
theorem set_map {rows:List Row}(ha:rows.Pairwise fun a b=>a.id<b.id){id:Int}{x:Row}:rows.set (rows.findIdx fun r=>decide (r.id=id)) x=rows.map fun r=>@ite _ (r.id=id) _ x r:=by
 refine List.ext_getElem (by simp) fun i h1 h2=>?_
 have hi:i<rows.length:=by simpa using h1
 rw [List.getElem_set,List.getElem_map]
 by_cases e:rows[i].id=id
 ·have:(rows.findIdx fun r=>decide (r.id=id))=i:=by
   refine (List.findIdx_eq hi).2 ⟨by simp [e],fun j hj=>?_⟩
   have:=List.pairwise_iff_getElem.1 ha j i (by omega) hi hj
   simp;omega
  rw [if_pos this,if_pos e]
 ·rw [if_neg e,if_neg fun h=>?_]
  subst h
  exact e (of_decide_eq_true (List.findIdx_getElem (w:=hi)))
theorem offT_tabW {t:Table}{p:Row→Prop}{ψ:Row→Row}(h:TabOK t)(hw:RowWay t ψ){id:Int}(hr:∃ r,r∈t.rows∧p r∧r.id=id):offT (tabW t p ψ) id=(tabW t (fun r=>p r∧r.id≠id) ψ,0):=by
 have h1:=(tabW_there hw.id).2 hr
 unfold offT
 rw [if_pos h1]
 congr 1
 show (⟨t.first,t.changes,(tabW t p ψ).rows.eraseIdx (rowN (tabW t p ψ) id),t.next⟩:Table)=_
 unfold rowN
 rw [erase_filter (tabW_asc h hw)]
 show (⟨t.first,t.changes,((t.rows.filter fun r=>B (p r)).map ψ).filter _,t.next⟩:Table)=⟨t.first,t.changes,(t.rows.filter fun r=>B (p r∧r.id≠id)).map ψ,t.next⟩
 congr 1
 rw [List.filter_map,List.filter_filter]
 congr 1
 refine List.filter_congr fun r hr=>?_
 show (!decide ((ψ r).id=id)&&B (p r))=_
 rw [hw.id r hr,B_and,B_not,dec_B,Bool.and_comm]
noncomputable def clearR (t:Table) (c:Nat) (r:Row):Row:=⟨r.id,(t.changes.length:Int),(nowR t r).set c nul⟩
noncomputable def updR (ψ:Row→Row) (id:Int) (x:Row→Row) (r:Row):Row:=@ite _ (r.id=id) (Classical.propDecidable _) (x (ψ r)) (ψ r)
theorem weak_set {s:List Col}{row:List Val}{c:Nat}(hl:row.length=s.length)(hn:(s.getD c default).need=false):Weak s (row.set c nul) row:=by
 refine ⟨by simp,fun k hk=>?_⟩
 have hk':k<row.length:=by simpa using hk
 by_cases hc:c<row.length
 ·rw [getD_set hc]
  by_cases e:k=c
  ·rw [if_pos e];exact .inr ⟨rfl,by rw [e];exact hn⟩
  ·rw [if_neg e];exact .inl rfl
 ·rw [List.set_eq_of_length_le (by omega)];exact .inl rfl
theorem clearR_now (t:Table)(c:Nat)(r:Row):nowR t (clearR t c r)=(nowR t r).set c nul:=nowR_new t r.id _
theorem RowWay.cond {t:Table}{ψ:Row→Row}(h:TabOK t)(hw:RowWay t ψ){P:Row→Prop}{c:Nat}(hn:(∃ r,r∈t.rows∧P r)→((lastS t).getD c default).need=false):RowWay t (fun r=>@ite _ (P r) (Classical.propDecidable _) (clearR t c (ψ r)) (ψ r)):=by
 have hrow:∀ r,r∈t.rows→RowOK (lastS t) (nowR t (ψ r)):=fun r hr=>(hw.now r hr).vok (h.rg r hr).now
 refine ⟨fun r hr=>?_,fun r hr=>?_,fun r hr=>?_,fun r hr=>?_⟩<;>split
 ·exact hw.id r hr
 ·exact hw.id r hr
 ·exact ⟨by show (0:Int)≤(t.changes.length:Int);omega,Int.le_refl _⟩
 ·exact hw.ver r hr
 ·rename_i hP
  show RowOK (shapeAt t ((t.changes.length:Int).toNat)) ((nowR t (ψ r)).set c nul)
  rw [tn,shapeAt_last]
  exact (weak_set (hrow r hr).len (hn ⟨r,hr,hP⟩)).vok (hrow r hr)
 ·exact hw.was r hr
 ·rename_i hP
  rw [clearR_now]
  exact (weak_set (hrow r hr).len (hn ⟨r,hr,hP⟩)).trans (hw.now r hr)
 ·exact hw.now r hr
theorem RowWay.upd {t:Table}{ψ:Row→Row}(h:TabOK t)(hw:RowWay t ψ){id:Int}{c:Nat}(hn:((lastS t).getD c default).need=false):RowWay t (updR ψ id (clearR t c)):=hw.cond h (P:=fun r=>r.id=id) fun _=>hn
theorem setT_tabW {t:Table}{p:Row→Prop}{ψ:Row→Row}(h:TabOK t)(hw:RowWay t ψ){id:Int}{col:List UInt8}(hc:atN (lastS t) col < (lastS t).length)(hn:((lastS t).getD (atN (lastS t) col) default).need=false)
     (hr:∃ r,r∈t.rows∧p r∧r.id=id):setT (tabW t p ψ) id [⟨col,nul⟩]=(tabW t p (updR ψ id (clearR t (atN (lastS t) col))),0):=by
 have h1:=(tabW_there (p:=p) hw.id).2 hr
 have hw':=hw.upd h (id:=id) hn
 have hasc:=tabW_asc (p:=p) h hw
 have hrow:=rowN_id h1
 have hmem:=getD_mem (d:=(default:Row)) h1
 obtain ⟨q,hq,eq⟩:=List.mem_map.1 hmem
 have hq':=(mem_keep.1 hq).1
 have hqid:q.id=id:=by rw [← hw.id q hq',eq];exact hrow
 have htell:tell (lastS (tabW t p ψ)) [] (nowR (tabW t p ψ) ((tabW t p ψ).rows.getD (rowN (tabW t p ψ) id) default)) [⟨col,nul⟩]=some ((nowR t (ψ q)).set (atN (lastS t) col) nul):=by
  rw [← eq,tabW_last,tabW_now,tell_cons,if_pos (⟨hc,by simp,nul_ok,Or.inl rfl⟩:Told (lastS t) [] (⟨col,nul⟩:Set)),tell]
 have hrowok:RowOK (lastS t) (nowR t (ψ q)):=(hw.now q hq').vok (h.rg q hq').now
 have hsetrows:(tabW t p ψ).rows.set (rowN (tabW t p ψ) id) (⟨id,(t.changes.length:Int),(nowR t (ψ q)).set (atN (lastS t) col) nul⟩:Row)=(tabW t p (updR ψ id (clearR t (atN (lastS t) col)))).rows:=by
  unfold rowN
  rw [set_map hasc]
  show ((t.rows.filter fun r=>B (p r)).map ψ).map _=(t.rows.filter fun r=>B (p r)).map _
  rw [List.map_map]
  refine List.map_congr_left fun r hr2=>?_
  have hr3:=(mem_keep.1 hr2).1
  show (if (ψ r).id=id then _ else ψ r)=updR ψ id _ r
  unfold updR
  rw [hw.id r hr3]
  by_cases e:r.id=id
  ·rw [if_pos e,if_pos e]
   have:r=q:=by
    have e1:=rowN_uniq h.asc (k:=(t.rows.idxOf r)) (List.idxOf_lt_length_of_mem hr3)
    have e2:=rowN_uniq h.asc (k:=(t.rows.idxOf q)) (List.idxOf_lt_length_of_mem hq')
    rw [getD_lt (List.idxOf_lt_length_of_mem hr3),List.getElem_idxOf] at e1
    rw [getD_lt (List.idxOf_lt_length_of_mem hq'),List.getElem_idxOf] at e2
    have e3:t.rows.idxOf r=t.rows.idxOf q:=by rw [← e1,← e2,e,hqid]
    have e4:=List.getElem_idxOf (List.idxOf_lt_length_of_mem hr3)
    have e5:=List.getElem_idxOf (List.idxOf_lt_length_of_mem hq')
    rw [← e4,← e5]
    congr 1
   subst this
   show (⟨id,_,_⟩:Row)=⟨(ψ r).id,_,_⟩
   rw [hw.id r hr3,e]
  ·rw [if_neg e,if_neg e]
 have hfine:SetFine (tabW t p ψ) id [⟨col,nul⟩] ((nowR t (ψ q)).set (atN (lastS t) col) nul):=by
  refine ⟨h1,htell,(weak_set hrowok.len hn).vok hrowok,?_⟩
  have hk:=(tabW_ok (p:=p) h hw').once
  have e2:(nows (tabW t p ψ)).set (rowN (tabW t p ψ) id) ((nowR t (ψ q)).set (atN (lastS t) col) nul)=nows (tabW t p (updR ψ id (clearR t (atN (lastS t) col)))):=by
   have e3:=nows_set (tabW t p ψ) (k:=rowN (tabW t p ψ) id) (row:=(nowR t (ψ q)).set (atN (lastS t) col) nul) (id:=id)
   rw [← e3]
   show List.map _ ((tabW t p ψ).rows.set _ (⟨id,(t.changes.length:Int),_⟩:Row))=_
   rw [hsetrows];rfl
  rw [e2];exact hk
 rw [setT_fine hfine]
 congr 1
 show (⟨t.first,t.changes,(tabW t p ψ).rows.set (rowN (tabW t p ψ) id) (⟨id,(t.changes.length:Int),_⟩:Row),t.next⟩:Table)=_
 rw [hsetrows];rfl
noncomputable def baseW (b:Base) (p:List UInt8→Row→Prop) (ψ:List UInt8→Row→Row):Base:=⟨b.tabs.map fun t=>⟨t.name,tabW t.table (p t.name) (ψ t.name)⟩,b.links⟩
theorem baseW_len (b:Base)(p:List UInt8→Row→Prop)(ψ:List UInt8→Row→Row):(baseW b p ψ).tabs.length=b.tabs.length:=by show (b.tabs.map _).length=_;simp
theorem baseW_names (b:Base)(p:List UInt8→Row→Prop)(ψ:List UInt8→Row→Row):(baseW b p ψ).tabs.map (·.name)=b.tabs.map (·.name):=by
 show (b.tabs.map _).map _=_
 rw [List.map_map];rfl
theorem baseW_tabN (b:Base)(p:List UInt8→Row→Prop)(ψ:List UInt8→Row→Row)(nm:List UInt8):tabN (baseW b p ψ) nm=tabN b nm:=tabN_names (baseW_names b p ψ) nm
theorem baseW_get {b:Base}{p:List UInt8→Row→Prop}{ψ:List UInt8→Row→Row}{k:Nat}(hk:k<b.tabs.length):(baseW b p ψ).tabs.getD k default=⟨(b.tabs.getD k default).name,tabW (tabK b k) (p (b.tabs.getD k default).name) (ψ (b.tabs.getD k default).name)⟩:=by
 show (b.tabs.map _).getD k default=_
 unfold tabK
 rw [getD_lt (by simpa using hk),List.getElem_map,getD_lt hk]
theorem baseW_tabT {b:Base}{p:List UInt8→Row→Prop}{ψ:List UInt8→Row→Row}{nm:List UInt8}(hk:tabN b nm<b.tabs.length):tabT (baseW b p ψ) nm=tabW (tabT b nm) (p nm) (ψ nm):=by
 unfold tabT
 rw [baseW_tabN,baseW_get hk,tabN_name hk];rfl
theorem baseW_congr {b:Base}{p p':List UInt8→Row→Prop}{ψ ψ':List UInt8→Row→Row}(hp:∀ t,t∈b.tabs→∀ r,r∈t.table.rows→(p t.name r↔p' t.name r))(hw:∀ t,t∈b.tabs→∀ r,r∈t.table.rows→p t.name r→ψ t.name r=ψ' t.name r):baseW b p ψ=baseW b p' ψ':=by
 unfold baseW
 congr 1
 exact List.map_congr_left fun t ht=>by rw [tabW_congr (hp t ht) (hw t ht)]
theorem baseW_all {b:Base}:baseW b (fun _ _=>True) (fun _ r=>r)=b:=by
 unfold baseW
 have:(b.tabs.map fun t=>(⟨t.name,tabW t.table (fun _=>True) (fun r=>r)⟩:Tab))=b.tabs:=by
  have:∀ t:Tab,(⟨t.name,tabW t.table (fun _=>True) (fun r=>r)⟩:Tab)=t:=fun t=>by rw [tabW_all]
  simp only [this,List.map_id']
 rw [this]
noncomputable def updN {α:Type} (f:List UInt8→α) (nm:List UInt8) (x:α) (y:List UInt8):α:=@ite _ (y=nm) (Classical.propDecidable _) x (f y)
theorem updN_self {α:Type}(f:List UInt8→α)(nm:List UInt8)(x:α):updN f nm x nm=x:=if_pos rfl
theorem updN_other {α:Type}(f:List UInt8→α){nm y:List UInt8}(x:α)(h:y≠nm):updN f nm x y=f y:=if_neg h
theorem baseW_set {b:Base}{p:List UInt8→Row→Prop}{ψ:List UInt8→Row→Row}{nm:List UInt8}{p':Row→Prop}{ψ':Row→Row}(h:∀ k,k<b.tabs.length→tabN b (b.tabs.getD k default).name=k)(hk:tabN b nm<b.tabs.length) :
     setTab (baseW b p ψ) (tabN b nm) (tabW (tabT b nm) p' ψ')=baseW b (updN p nm p') (updN ψ nm ψ'):=by
 unfold setTab
 have e:(baseW b p ψ).tabs.set (tabN b nm) ⟨((baseW b p ψ).tabs.getD (tabN b nm) default).name,tabW (tabT b nm) p' ψ'⟩=(baseW b (updN p nm p') (updN ψ nm ψ')).tabs:=by
  refine List.ext_getElem (by rw [List.length_set,baseW_len,baseW_len]) fun i h1 h2=>?_
  have hi:i<b.tabs.length:=by rw [baseW_len] at h2;exact h2
  rw [List.getElem_set,← getD_lt (d:=default) h2,baseW_get hi]
  by_cases e:tabN b nm=i
  ·rw [if_pos e,baseW_get hk,← e,tabN_name hk,updN_self,updN_self];rfl
  ·have hne:(b.tabs.getD i default).name≠nm:=fun hh=>e (by rw [← hh];exact h i hi)
   rw [if_neg e,updN_other _ _ hne,updN_other _ _ hne,← getD_lt (d:=default) (by rw [baseW_len];exact hi),baseW_get hi]
 rw [e];rfl
theorem BaseOK.place {b:Base}(h:BaseOK b):∀ k,k<b.tabs.length→tabN b (b.tabs.getD k default).name=k:=fun k hk=>(h.tabs k hk).place
structure BaseWay (b:Base) (ψ:List UInt8→Row→Row):Prop where
 way:∀ k,k<b.tabs.length→RowWay (tabK b k) (ψ (b.tabs.getD k default).name)
theorem BaseWay.at_ {b:Base}{ψ:List UInt8→Row→Row}(h:BaseWay b ψ){nm:List UInt8}(hk:tabN b nm<b.tabs.length):RowWay (tabT b nm) (ψ nm):=by
 have:=h.way _ hk
 rwa [tabN_name hk] at this
theorem BaseWay.same {b:Base}(h:BaseOK b):BaseWay b (fun _ r=>r):=⟨fun k hk=>.same (h.tabs k hk).ok⟩
theorem baseW_skel {b:Base}{p:List UInt8→Row→Prop}{ψ:List UInt8→Row→Row}:Skel (baseW b p ψ) b:=⟨baseW_names b p ψ,fun k hk=>by unfold tabK;rw [baseW_get hk];rfl⟩
theorem tab_name_mem {b:Base}(h:BaseOK b){t:Tab}(ht:t∈b.tabs):tabN b t.name<b.tabs.length∧tabT b t.name=t.table:=by
 obtain ⟨k,hk,rfl⟩:=List.getElem_of_mem ht
 have:=h.place k hk
 rw [getD_lt hk] at this
 unfold tabT
 rw [this,getD_lt hk]
 exact ⟨hk,rfl⟩
end Go.Proofs.YtdpigighgmipfaaGreatDoor
