/- Plain laws. -/
import Derived.Test.YtganfdhmkdehlaaGreatDoorQ2007M23
set_option linter.all false
namespace Go.Proofs.YtganfdhmkdehlaaGreatDoor
open Go Go.HL
variable {fu:Nat}
theorem fW {t:ab}{id:Int}:rowN t id<t.rows.length↔∃ r,r∈t.rows∧r.id=id:=
 ⟨fun h=>⟨_,getD_mem h,ni h⟩,xm⟩
noncomputable def tabW (t:ab) (p:Row→Prop) (ψ:Row→Row):ab:=⟨t.first,t.changes,(t.rows.filter fun r=>B (p r)).map ψ,t.next⟩
structure Weak (s:List Col) (a b:List Val):Prop where
 len:a.length=b.length
 all:∀ c,c<a.length→a.getD c default=b.getD c default∨(a.getD c default=nul∧(s.getD c default).need=false)
theorem Weak.refl (s:List Col)(a:List Val):Weak s a a:=⟨rfl,fun _ _=>.inl rfl⟩
theorem Weak.vok {s:List Col}{a b:List Val}(h:Weak s a b)(hb:aO s b):aO s a:=by
 refine ⟨by rw [h.len];exact hb.len,fun k hk=>?_⟩
 rcases h.all k hk with e|⟨e,hn⟩
 ·rw [e];exact hb.all k (by rw [← h.len];exact hk)
 ·rw [e];exact ⟨nul_ok,.inl rfl,fun hh=>by rw [hn] at hh;cases hh⟩
theorem Weak.trans {s:List Col}{a b c:List Val}(h:Weak s a b)(g:Weak s b c):Weak s a c:=by
 refine ⟨h.len.trans g.len,fun k hk=>?_⟩
 rcases h.all k hk with e|e
 ·rw [e];exact g.all k (by rw [← h.len];exact hk)
 ·exact .inr e
theorem Weak.clash {s:List Col}{a a' b b':List Val}(h:Weak s a b)(h':Weak s a' b')(hl:a.length=s.length)(hl':a'.length=s.length)(hc:mi s a a'):mi s b b':=by
 obtain ⟨c,h1,h2,h3,h4⟩:=hc
 have e1:a.getD c default=b.getD c default:=by
  rcases h.all c (by omega) with e|⟨e,-⟩
  ·exact e
  ·rw [e] at h3;exact absurd rfl h3
 have e2:a'.getD c default=b'.getD c default:=by
  rcases h'.all c (by omega) with e|⟨e,-⟩
  ·exact e
  ·rw [h4,e] at h3;exact absurd rfl h3
 exact ⟨c,h1,h2,by rw [← e1];exact h3,by rw [← e1,← e2];exact h4⟩
theorem oO {s:List Col}{A:List Row}{f g:Row→List Val}(h:NoTwice s (A.map g))(hw:∀ r,r∈A→Weak s (f r) (g r))(hl:∀ r,r∈A→(g r).length=s.length):NoTwice s (A.map f):=by
 unfold NoTwice at *
 rw [List.pairwise_map] at h ⊢
 refine h.imp_of_mem fun {a b} ha hb hab hcl=>hab ?_
 exact Weak.clash (hw a ha) (hw b hb) (by rw [(hw a ha).len];exact hl a ha) (by rw [(hw b hb).len];exact hl b hb) hcl
structure bz (t:ab) (ψ:Row→Row):Prop where
 id:∀ r,r∈t.rows→(ψ r).id=r.id
 ver:∀ r,r∈t.rows→j2 t (ψ r).ver
 was:∀ r,r∈t.rows→aO (aZ t (ψ r).ver.toNat) (ψ r).vals
 now:∀ r,r∈t.rows→Weak (lastS t) (nowR t (ψ r)) (nowR t r)
theorem bz.same {t:ab}(h:aP t):bz t (fun r=>r):=⟨fun _ _=>rfl,fun r hr=>(h.rg r hr).ver,fun r hr=>(h.rg r hr).was,fun _ _=>.refl _ _⟩
theorem bD {p:Row→Prop}{rows:List Row}{r:Row}:r∈rows.filter (fun r=>B (p r))↔r∈rows∧p r:=by
 rw [List.mem_filter,jh]
theorem oB (t:ab)(p:Row→Prop)(ψ:Row→Row):lastS (tabW t p ψ)=lastS t:=rfl
theorem xc (t:ab)(p:Row→Prop)(ψ:Row→Row)(r:Row):nowR (tabW t p ψ) r=nowR t r:=rfl
theorem ua (t:ab)(p:Row→Prop)(ψ:Row→Row):nows (tabW t p ψ)=(t.rows.filter fun r=>B (p r)).map fun r=>nowR t (ψ r):=by
 show ((t.rows.filter _).map ψ).map (nowR t)=_
 rw [List.map_map];rfl
theorem na {t:ab}{p:Row→Prop}{ψ:Row→Row}(h:aP t)(hw:bz t ψ):(tabW t p ψ).rows.Pairwise fun a b=>a.id<b.id:=by
 show ((t.rows.filter fun r=>B (p r)).map ψ).Pairwise _
 rw [List.pairwise_map]
 refine (h.asc.sublist List.filter_sublist).imp_of_mem fun {a b} ha hb hab=>?_
 rw [hw.id a (bD.1 ha).1,hw.id b (bD.1 hb).1];exact hab
theorem m9 {t:ab}{p:Row→Prop}{ψ:Row→Row}(h:aP t)(hw:bz t ψ):aP (tabW t p ψ):=by
 refine gV h.first h.run h.nch (Nat.le_trans (by show ((t.rows.filter _).map ψ).length≤t.rows.length;rw [List.length_map];exact List.length_filter_le ..) h.nrow) h.lo h.hi (fun r hr=>?_) (na h hw) ?_
 ·obtain ⟨q,hq,rfl⟩:=List.mem_map.1 hr
  have hq':=(bD.1 hq).1
  have g:=h.rg q hq'
  exact ⟨⟨(hw.ver q hq').lo,(hw.ver q hq').hi⟩,by rw [hw.id q hq'];exact g.lo,by rw [hw.id q hq'];exact g.hi,hw.was q hq',(hw.now q hq').vok g.now⟩
 ·rw [ua,oB]
  refine oO (g:=nowR t) (h.once.sublist (List.filter_sublist.map _)) (fun r hr=>hw.now r (bD.1 hr).1) fun r hr=>(h.rg r (bD.1 hr).1).now.len
theorem kV {t:ab}{p:Row→Prop}{ψ:Row→Row}(h:SmT t)(hw:∀ r,r∈t.rows→SmR (ψ r).vals):SmT (tabW t p ψ):=by
 refine ⟨h.first,h.cs,Nat.le_trans (by show ((t.rows.filter _).map ψ).length≤t.rows.length;rw [List.length_map];exact List.length_filter_le ..) h.nrow,fun k hk=>?_⟩
 obtain ⟨q,hq,e⟩:=List.mem_map.1 (getD_mem (d:=default) hk)
 have e':ψ q=(tabW t p ψ).rows.getD k default:=e
 rw [← e'];exact hw q (bD.1 hq).1
theorem sM {t:ab}{p p':Row→Prop}{ψ ψ':Row→Row}(hp:∀ r,r∈t.rows→(p r↔p' r))(hw:∀ r,r∈t.rows→p r→ψ r=ψ' r):tabW t p ψ=tabW t p' ψ':=by
 unfold tabW
 congr 1
 have e:(t.rows.filter fun r=>B (p r))=t.rows.filter fun r=>B (p' r):=List.filter_congr fun r hr=>ai (hp r hr)
 rw [← e]
 exact List.map_congr_left fun r hr=>hw r (bD.1 hr).1 (bD.1 hr).2
theorem xd {t:ab}:tabW t (fun _=>True) (fun r=>r)=t:=by
 unfold tabW
 have:(t.rows.filter fun _=>B True)=t.rows:=List.filter_eq_self.2 fun _ _=>B_t trivial
 rw [this,List.map_id']
theorem fU {t:ab}{p:Row→Prop}{ψ:Row→Row}(hid:∀ r,r∈t.rows→(ψ r).id=r.id){id:Int}:rowN (tabW t p ψ) id < (tabW t p ψ).rows.length↔∃ r,r∈t.rows∧p r∧r.id=id:=by
 rw [fW]
 constructor
 ·rintro ⟨r,hr,e⟩
  obtain ⟨q,hq,rfl⟩:=List.mem_map.1 hr
  have:=bD.1 hq
  exact ⟨q,this.1,this.2,by rw [← hid q this.1];exact e⟩
 ·rintro ⟨r,hr,hp,e⟩
  exact ⟨ψ r,List.mem_map.2 ⟨r,bD.2 ⟨hr,hp⟩,rfl⟩,by rw [hid r hr];exact e⟩
theorem pq {rows:List Row}(ha:rows.Pairwise fun a b=>a.id<b.id){id:Int}:rows.eraseIdx (rows.findIdx fun r=>decide (r.id=id))=rows.filter fun r=>!decide (r.id=id):=by
 by_cases hk:(rows.findIdx fun r=>decide (r.id=id))<rows.length
 ·have e:(rows[(rows.findIdx fun r=>decide (r.id=id))]'hk).id=id:=of_decide_eq_true (List.findIdx_getElem (w:=hk))
  have:=jI ha hk
  rw [e] at this
  exact this.symm
 ·rw [List.eraseIdx_of_length_le (by omega)]
  refine (List.filter_eq_self.2 fun r hr=>?_).symm
  have:¬ r.id=id:=fun h=>hk (List.findIdx_lt_length_of_exists ⟨r,hr,by simpa using h⟩)
  simp [this]
theorem zY {rows:List Row}(ha:rows.Pairwise fun a b=>a.id<b.id){id:Int}{x:Row}:rows.set (rows.findIdx fun r=>decide (r.id=id)) x=rows.map fun r=>@ite _ (r.id=id) _ x r:=by
 refine List.ext_getElem (by simp) fun i h1 h2=>?_
 have hi:i<rows.length:=by simpa using h1
 rw [List.getElem_set,List.getElem_map]
 by_cases e:rows[i].id=id
 ·have:(rows.findIdx fun r=>decide (r.id=id))=i:=by
   refine (List.findIdx_eq hi).2 ⟨by simp [e],fun j hj=>?_⟩
   have:=List.pairwise_iff_getElem.1 ha j i (by omega) hi hj
   simp;omega
  rw [if_pos this,if_pos e]
 ·rw [if_neg e,if_neg fun h=>?_]
  subst h
  exact e (of_decide_eq_true (List.findIdx_getElem (w:=hi)))
theorem uv {t:ab}{p:Row→Prop}{ψ:Row→Row}(h:aP t)(hw:bz t ψ){id:Int}(hr:∃ r,r∈t.rows∧p r∧r.id=id):sX (tabW t p ψ) id=(tabW t (fun r=>p r∧r.id≠id) ψ,0):=by
 have h1:=(fU hw.id).2 hr
 unfold sX
 rw [if_pos h1]
 congr 1
 show (⟨t.first,t.changes,(tabW t p ψ).rows.eraseIdx (rowN (tabW t p ψ) id),t.next⟩:ab)=_
 unfold rowN
 rw [pq (na h hw)]
 show (⟨t.first,t.changes,((t.rows.filter fun r=>B (p r)).map ψ).filter _,t.next⟩:ab)=⟨t.first,t.changes,(t.rows.filter fun r=>B (p r∧r.id≠id)).map ψ,t.next⟩
 congr 1
 rw [List.filter_map,List.filter_filter]
 congr 1
 refine List.filter_congr fun r hr=>?_
 show (!decide ((ψ r).id=id)&&B (p r))=_
 rw [hw.id r hr,bY,l7,bM,Bool.and_comm]
noncomputable def fq (t:ab) (c:Nat) (r:Row):Row:=⟨r.id,(t.changes.length:Int),(nowR t r).set c nul⟩
noncomputable def updR (ψ:Row→Row) (id:Int) (x:Row→Row) (r:Row):Row:=@ite _ (r.id=id) (Classical.propDecidable _) (x (ψ r)) (ψ r)
theorem m7 {s:List Col}{row:List Val}{c:Nat}(hl:row.length=s.length)(hn:(s.getD c default).need=false):Weak s (row.set c nul) row:=by
 refine ⟨by simp,fun k hk=>?_⟩
 have hk':k<row.length:=by simpa using hk
 by_cases hc:c<row.length
 ·rw [getD_set hc]
  by_cases e:k=c
  ·rw [if_pos e];exact .inr ⟨rfl,by rw [e];exact hn⟩
  ·rw [if_neg e];exact .inl rfl
 ·rw [List.set_eq_of_length_le (by omega)];exact .inl rfl
theorem m4 (t:ab)(c:Nat)(r:Row):nowR t (fq t c r)=(nowR t r).set c nul:=nowR_new t r.id _
theorem bz.cond {t:ab}{ψ:Row→Row}(h:aP t)(hw:bz t ψ){P:Row→Prop}{c:Nat}(hn:(∃ r,r∈t.rows∧P r)→((lastS t).getD c default).need=false):bz t (fun r=>@ite _ (P r) (Classical.propDecidable _) (fq t c (ψ r)) (ψ r)):=by
 have hrow:∀ r,r∈t.rows→aO (lastS t) (nowR t (ψ r)):=fun r hr=>(hw.now r hr).vok (h.rg r hr).now
 refine ⟨fun r hr=>?_,fun r hr=>?_,fun r hr=>?_,fun r hr=>?_⟩<;>split
 ·exact hw.id r hr
 ·exact hw.id r hr
 ·exact ⟨by show (0:Int)≤(t.changes.length:Int);omega,Int.le_refl _⟩
 ·exact hw.ver r hr
 ·rename_i hP
  show aO (aZ t ((t.changes.length:Int).toNat)) ((nowR t (ψ r)).set c nul)
  rw [tn,cT]
  exact (m7 (hrow r hr).len (hn ⟨r,hr,hP⟩)).vok (hrow r hr)
 ·exact hw.was r hr
 ·rename_i hP
  rw [m4]
  exact (m7 (hrow r hr).len (hn ⟨r,hr,hP⟩)).trans (hw.now r hr)
 ·exact hw.now r hr
theorem bz.upd {t:ab}{ψ:Row→Row}(h:aP t)(hw:bz t ψ){id:Int}{c:Nat}(hn:((lastS t).getD c default).need=false):bz t (updR ψ id (fq t c)):=hw.cond h (P:=fun r=>r.id=id) fun _=>hn
theorem oH {t:ab}{p:Row→Prop}{ψ:Row→Row}(h:aP t)(hw:bz t ψ){id:Int}{col:List UInt8}(hc:atN (lastS t) col < (lastS t).length)(hn:((lastS t).getD (atN (lastS t) col) default).need=false)
     (hr:∃ r,r∈t.rows∧p r∧r.id=id):or (tabW t p ψ) id [⟨col,nul⟩]=(tabW t p (updR ψ id (fq t (atN (lastS t) col))),0):=by
 have h1:=(fU (p:=p) hw.id).2 hr
 have hw':=hw.upd h (id:=id) hn
 have hasc:=na (p:=p) h hw
 have hrow:=ni h1
 have hmem:=getD_mem (d:=(default:Row)) h1
 obtain ⟨q,hq,eq⟩:=List.mem_map.1 hmem
 have hq':=(bD.1 hq).1
 have hqid:q.id=id:=by rw [← hw.id q hq',eq];exact hrow
 have htell:tell (lastS (tabW t p ψ)) [] (nowR (tabW t p ψ) ((tabW t p ψ).rows.getD (rowN (tabW t p ψ) id) default)) [⟨col,nul⟩]=some ((nowR t (ψ q)).set (atN (lastS t) col) nul):=by
  rw [← eq,oB,xc,tell_cons,if_pos (⟨hc,by simp,nul_ok,Or.inl rfl⟩:DY (lastS t) [] (⟨col,nul⟩:Set)),tell]
 have hrowok:aO (lastS t) (nowR t (ψ q)):=(hw.now q hq').vok (h.rg q hq').now
 have hsetrows:(tabW t p ψ).rows.set (rowN (tabW t p ψ) id) (⟨id,(t.changes.length:Int),(nowR t (ψ q)).set (atN (lastS t) col) nul⟩:Row)=(tabW t p (updR ψ id (fq t (atN (lastS t) col)))).rows:=by
  unfold rowN
  rw [zY hasc]
  show ((t.rows.filter fun r=>B (p r)).map ψ).map _=(t.rows.filter fun r=>B (p r)).map _
  rw [List.map_map]
  refine List.map_congr_left fun r hr2=>?_
  have hr3:=(bD.1 hr2).1
  show (if (ψ r).id=id then _ else ψ r)=updR ψ id _ r
  unfold updR
  rw [hw.id r hr3]
  by_cases e:r.id=id
  ·rw [if_pos e,if_pos e]
   have:r=q:=by
    have e1:=eu h.asc (k:=(t.rows.idxOf r)) (List.idxOf_lt_length_of_mem hr3)
    have e2:=eu h.asc (k:=(t.rows.idxOf q)) (List.idxOf_lt_length_of_mem hq')
    rw [ae (List.idxOf_lt_length_of_mem hr3),List.getElem_idxOf] at e1
    rw [ae (List.idxOf_lt_length_of_mem hq'),List.getElem_idxOf] at e2
    have e3:t.rows.idxOf r=t.rows.idxOf q:=by rw [← e1,← e2,e,hqid]
    have e4:=List.getElem_idxOf (List.idxOf_lt_length_of_mem hr3)
    have e5:=List.getElem_idxOf (List.idxOf_lt_length_of_mem hq')
    rw [← e4,← e5]
    congr 1
   subst this
   show (⟨id,_,_⟩:Row)=⟨(ψ r).id,_,_⟩
   rw [hw.id r hr3,e]
  ·rw [if_neg e,if_neg e]
 have hfine:ri (tabW t p ψ) id [⟨col,nul⟩] ((nowR t (ψ q)).set (atN (lastS t) col) nul):=by
  refine ⟨h1,htell,(m7 hrowok.len hn).vok hrowok,?_⟩
  have hk:=(m9 (p:=p) h hw').once
  have e2:(nows (tabW t p ψ)).set (rowN (tabW t p ψ) id) ((nowR t (ψ q)).set (atN (lastS t) col) nul)=nows (tabW t p (updR ψ id (fq t (atN (lastS t) col)))):=by
   have e3:=rD (tabW t p ψ) (k:=rowN (tabW t p ψ) id) (row:=(nowR t (ψ q)).set (atN (lastS t) col) nul) (id:=id)
   rw [← e3]
   show List.map _ ((tabW t p ψ).rows.set _ (⟨id,(t.changes.length:Int),_⟩:Row))=_
   rw [hsetrows];rfl
  rw [e2];exact hk
 rw [uk hfine]
 congr 1
 show (⟨t.first,t.changes,(tabW t p ψ).rows.set (rowN (tabW t p ψ) id) (⟨id,(t.changes.length:Int),_⟩:Row),t.next⟩:ab)=_
 rw [hsetrows];rfl
noncomputable def baseW (b:ac) (p:List UInt8→Row→Prop) (ψ:List UInt8→Row→Row):ac:=⟨b.tabs.map fun t=>⟨t.name,tabW t.table (p t.name) (ψ t.name)⟩,b.links⟩
theorem aN (b:ac)(p:List UInt8→Row→Prop)(ψ:List UInt8→Row→Row):(baseW b p ψ).tabs.length=b.tabs.length:=by show (b.tabs.map _).length=_;simp
theorem gT (b:ac)(p:List UInt8→Row→Prop)(ψ:List UInt8→Row→Row):(baseW b p ψ).tabs.map (·.name)=b.tabs.map (·.name):=by
 show (b.tabs.map _).map _=_
 rw [List.map_map];rfl
theorem gm (b:ac)(p:List UInt8→Row→Prop)(ψ:List UInt8→Row→Row)(nm:List UInt8):tabN (baseW b p ψ) nm=tabN b nm:=fV (gT b p ψ) nm
theorem cv {b:ac}{p:List UInt8→Row→Prop}{ψ:List UInt8→Row→Row}{k:Nat}(hk:k<b.tabs.length):(baseW b p ψ).tabs.getD k default=⟨(b.tabs.getD k default).name,tabW (dr b k) (p (b.tabs.getD k default).name) (ψ (b.tabs.getD k default).name)⟩:=by
 show (b.tabs.map _).getD k default=_
 unfold dr
 rw [ae (by simpa using hk),List.getElem_map,ae hk]
theorem jC {b:ac}{p:List UInt8→Row→Prop}{ψ:List UInt8→Row→Row}{nm:List UInt8}(hk:tabN b nm<b.tabs.length):tabT (baseW b p ψ) nm=tabW (tabT b nm) (p nm) (ψ nm):=by
 unfold tabT
 rw [gm,cv hk,cg hk];rfl
theorem rf {b:ac}{p p':List UInt8→Row→Prop}{ψ ψ':List UInt8→Row→Row}(hp:∀ t,t∈b.tabs→∀ r,r∈t.table.rows→(p t.name r↔p' t.name r))(hw:∀ t,t∈b.tabs→∀ r,r∈t.table.rows→p t.name r→ψ t.name r=ψ' t.name r):baseW b p ψ=baseW b p' ψ':=by
 unfold baseW
 congr 1
 exact List.map_congr_left fun t ht=>by rw [sM (hp t ht) (hw t ht)]
theorem pC {b:ac}:baseW b (fun _ _=>True) (fun _ r=>r)=b:=by
 unfold baseW
 have:(b.tabs.map fun t=>(⟨t.name,tabW t.table (fun _=>True) (fun r=>r)⟩:Tab))=b.tabs:=by
  have:∀ t:Tab,(⟨t.name,tabW t.table (fun _=>True) (fun r=>r)⟩:Tab)=t:=fun t=>by rw [xd]
  simp only [this,List.map_id']
 rw [this]
noncomputable def xa {α:Type} (f:List UInt8→α) (nm:List UInt8) (x:α) (y:List UInt8):α:=@ite _ (y=nm) (Classical.propDecidable _) x (f y)
theorem aB {α:Type}(f:List UInt8→α)(nm:List UInt8)(x:α):xa f nm x nm=x:=if_pos rfl
theorem au {α:Type}(f:List UInt8→α){nm y:List UInt8}(x:α)(h:y≠nm):xa f nm x y=f y:=if_neg h
theorem ja {b:ac}{p:List UInt8→Row→Prop}{ψ:List UInt8→Row→Row}{nm:List UInt8}{p':Row→Prop}{ψ':Row→Row}(h:∀ k,k<b.tabs.length→tabN b (b.tabs.getD k default).name=k)(hk:tabN b nm<b.tabs.length) :
     aU (baseW b p ψ) (tabN b nm) (tabW (tabT b nm) p' ψ')=baseW b (xa p nm p') (xa ψ nm ψ'):=by
 unfold aU
 have e:(baseW b p ψ).tabs.set (tabN b nm) ⟨((baseW b p ψ).tabs.getD (tabN b nm) default).name,tabW (tabT b nm) p' ψ'⟩=(baseW b (xa p nm p') (xa ψ nm ψ')).tabs:=by
  refine List.ext_getElem (by rw [List.length_set,aN,aN]) fun i h1 h2=>?_
  have hi:i<b.tabs.length:=by rw [aN] at h2;exact h2
  rw [List.getElem_set,← ae (d:=default) h2,cv hi]
  by_cases e:tabN b nm=i
  ·rw [if_pos e,cv hk,← e,cg hk,aB,aB];rfl
  ·have hne:(b.tabs.getD i default).name≠nm:=fun hh=>e (by rw [← hh];exact h i hi)
   rw [if_neg e,au _ _ hne,au _ _ hne,← ae (d:=default) (by rw [aN];exact hi),cv hi]
 rw [e];rfl
theorem ah.place {b:ac}(h:ah b):∀ k,k<b.tabs.length→tabN b (b.tabs.getD k default).name=k:=fun k hk=>(h.tabs k hk).place
structure cF (b:ac) (ψ:List UInt8→Row→Row):Prop where
 way:∀ k,k<b.tabs.length→bz (dr b k) (ψ (b.tabs.getD k default).name)
theorem cF.at_ {b:ac}{ψ:List UInt8→Row→Row}(h:cF b ψ){nm:List UInt8}(hk:tabN b nm<b.tabs.length):bz (tabT b nm) (ψ nm):=by
 have:=h.way _ hk
 rwa [cg hk] at this
theorem cF.same {b:ac}(h:ah b):cF b (fun _ r=>r):=⟨fun k hk=>.same (h.tabs k hk).ok⟩
theorem baseW_skel {b:ac}{p:List UInt8→Row→Prop}{ψ:List UInt8→Row→Row}:tX (baseW b p ψ) b:=⟨gT b p ψ,fun k hk=>by unfold dr;rw [cv hk];rfl⟩
theorem fy {b:ac}(h:ah b){t:Tab}(ht:t∈b.tabs):tabN b t.name<b.tabs.length∧tabT b t.name=t.table:=by
 obtain ⟨k,hk,rfl⟩:=g_ ht
 have:=h.place k hk
 rw [ae hk] at this
 unfold tabT
 rw [this,ae hk]
 exact ⟨hk,rfl⟩
theorem snocInd {α:Type}{p:List α→Prop}(nil:p [])(snoc:∀ ls l,p ls→p (ls++[l])):∀ ls,p ls:=by
 have:∀ n (ls:List α),ls.length=n→p ls:=by
  intro n
  induction n with
  | zero=>intro ls h;rw [List.eq_nil_of_length_eq_zero h];exact nil
  | succ n ih=>
   intro ls h
   have hne:ls≠[]:=fun e=>by rw [e] at h;cases h
   rw [← List.dropLast_concat_getLast hne]
   exact snoc _ _ (ih _ (by rw [List.length_dropLast];omega))
 exact fun ls=>this ls.length ls rfl
abbrev aT:=List UInt8→Int→Prop
def dK (b:ac)(G:aT)(l:aj)(r:Row):Prop:=(fw b l r).kind≠0∧G l.to (fw b l r).n
inductive gx (b:ac) (nm:List UInt8) (id:Int):aT where
 | self:gx b nm id nm id
 | next {l:aj} {r:Row} (hl:l∈b.links) (hr:r∈(tabT b l.from_).rows) (hw:l.how=2) (hv:(fw b l r).kind≠0) (hg:gx b nm id l.to (fw b l r).n):gx b nm id l.from_ r.id
def l3 (b:ac)(G:aT):Prop:=∃ l,l∈b.links∧l.how=1∧∃ r,r∈(tabT b l.from_).rows∧¬ G l.from_ r.id∧dK b G l r
def Hit (b:ac)(G:aT)(nm:List UInt8)(l:aj)(r:Row):Prop:=l.from_=nm∧l.how=3∧dK b G l r
noncomputable def uT (b:ac) (G:aT) (nm:List UInt8) (r q:Row) (l:aj):Row:=@ite _ (Hit b G nm l r) (Classical.propDecidable _) (fq (tabT b nm) (cB b l) q) q
noncomputable def dI (b:ac) (G:aT) (nm:List UInt8) (ls:List aj) (r:Row):Row:=ls.foldl (uT b G nm r) r
theorem freeR_snoc (b:ac)(G:aT)(nm:List UInt8)(ls:List aj)(l:aj)(r:Row):dI b G nm (ls++[l]) r=uT b G nm r (dI b G nm ls r) l:=by
 unfold dI
 rw [List.foldl_append];rfl
theorem cG {b:ac}{i:Nat}(hi:i<b.links.length):b.links.getD i default∈b.links:=getD_mem hi
theorem ah.link {b:ac}(h:ah b){l:aj}(hl:l∈b.links):ar b l∧ap b l:=by
 obtain ⟨i,hi,rfl⟩:=g_ hl
 have:=h.links i hi
 rw [← ae (d:=default) hi]
 exact ⟨this.fits,this.holds⟩
theorem ap.mem {b:ac}{l:aj}(h:ap b l){r:Row}(hr:r∈(tabT b l.from_).rows):bd b l r:=by
 obtain ⟨k,hk,rfl⟩:=g_ hr
 have:=h k hk
 rwa [ae hk] at this
theorem lv {b:ac}{G:aT}{nm:List UInt8}(h:ah b)(hn:tabN b nm<b.tabs.length):∀ (ls:List aj),(∀ l,l∈ls→l∈b.links)→bz (tabT b nm) (dI b G nm ls):=by
 intro ls
 have ht:aP (tabT b nm):=(h.tabs _ hn).ok
 induction ls using snocInd with
 | nil=>exact fun _=>.same ht
 | snoc ls l ih=>
  intro hm
  have e:dI b G nm (ls++[l])=fun r=>@ite _ (Hit b G nm l r) (Classical.propDecidable _) (fq (tabT b nm) (cB b l) (dI b G nm ls r)) (dI b G nm ls r):=funext fun r=>freeR_snoc b G nm ls l r
  rw [e]
  refine (ih fun x hx=>hm x (List.mem_append_left _ hx)).cond ht fun ⟨r,_,hP⟩=>?_
  have hf:=(h.link (hm l (by simp))).1
  have:=hf.need hP.2.1
  rwa [hP.1] at this
theorem freeR_get {b:ac}{G:aT}{nm:List UInt8}{r:Row}{c:Nat}(hc:c < (nowR (tabT b nm) r).length):∀ ls:List aj,
     (nowR (tabT b nm) (dI b G nm ls r)).length=(nowR (tabT b nm) r).length∧
     (((∃ l,l∈ls∧Hit b G nm l r∧cB b l=c)∧(nowR (tabT b nm) (dI b G nm ls r)).getD c default=nul)∨((¬ ∃ l,l∈ls∧Hit b G nm l r∧cB b l=c)∧(nowR (tabT b nm) (dI b G nm ls r)).getD c default=(nowR (tabT b nm) r).getD c default)):=by
 intro ls
 induction ls using snocInd with
 | nil=>exact ⟨rfl,.inr ⟨by simp,rfl⟩⟩
 | snoc ls l ih=>
  obtain ⟨hl,ih⟩:=ih
  rw [freeR_snoc]
  unfold uT
  by_cases hh:Hit b G nm l r
  ·rw [if_pos hh,m4]
   refine ⟨by rw [List.length_set];exact hl,?_⟩
   by_cases hcol:cB b l < (nowR (tabT b nm) (dI b G nm ls r)).length
   ·rw [getD_set hcol]
    by_cases e:c=cB b l
    ·rw [if_pos e]
     exact .inl ⟨⟨l,by simp,hh,e.symm⟩,rfl⟩
    ·rw [if_neg e]
     rcases ih with ⟨⟨x,hx,h2⟩,h3⟩|⟨h2,h3⟩
     ·exact .inl ⟨⟨x,List.mem_append_left _ hx,h2⟩,h3⟩
     ·refine .inr ⟨fun ⟨x,hx,h4,h5⟩=>?_,h3⟩
      rcases p_ hx with hx|hx
      ·exact h2 ⟨x,hx,h4,h5⟩
      ·simp only [List.mem_singleton] at hx
       subst hx;exact e h5.symm
   ·rw [List.set_eq_of_length_le (by omega)]
    rcases ih with ⟨⟨x,hx,h2⟩,h3⟩|⟨h2,h3⟩
    ·exact .inl ⟨⟨x,List.mem_append_left _ hx,h2⟩,h3⟩
    ·refine .inr ⟨fun ⟨x,hx,h4,h5⟩=>?_,h3⟩
     rcases p_ hx with hx|hx
     ·exact h2 ⟨x,hx,h4,h5⟩
     ·simp only [List.mem_singleton] at hx
      subst hx;omega
  ·rw [if_neg hh]
   refine ⟨hl,?_⟩
   rcases ih with ⟨⟨x,hx,h2⟩,h3⟩|⟨h2,h3⟩
   ·exact .inl ⟨⟨x,List.mem_append_left _ hx,h2⟩,h3⟩
   ·refine .inr ⟨fun ⟨x,hx,h4,h5⟩=>?_,h3⟩
    rcases p_ hx with hx|hx
    ·exact h2 ⟨x,hx,h4,h5⟩
    ·simp only [List.mem_singleton] at hx
     subst hx;exact hh h4
noncomputable def offG (b:ac) (G:aT):ac:=baseW b (fun nm r=>¬ G nm r.id) (fun nm r=>dI b G nm b.links r)
theorem rB {b:ac}{G:aT}(h:ah b):cF b (fun nm r=>dI b G nm b.links r):=⟨fun k hk=>by
 have hp:=h.place k hk
 have:=lv (G:=G) (nm:=(b.tabs.getD k default).name) h (by rw [hp];exact hk) b.links fun _ hl=>hl
 unfold tabT at this
 rw [hp] at this
 exact this⟩
theorem iZ {b:ac}{p:List UInt8→Row→Prop}{ψ:List UInt8→Row→Row}(h:ah b)(hw:cF b ψ):∀ k,k < (baseW b p ψ).tabs.length→cx (baseW b p ψ) k:=by
 intro k hk
 have hk':k<b.tabs.length:=by rwa [aN] at hk
 refine baseW_skel.place hk (h.tabs k hk') ?_
 unfold dr
 rw [cv hk']
 exact m9 (h.tabs k hk').ok (hw.way k hk')
theorem ox {t:ab}{ψ:Row→Row}(h:aP t)(hs:SmT t)(hw:bz t ψ):∀ r,r∈t.rows→SmR (ψ r).vals:=fun r hr=>
 (hw.was r hr).sm (by have:=((h.rt hs).okAt (ψ r).ver.toNat).hi;omega)
theorem sH {b:ac}{p:List UInt8→Row→Prop}{ψ:List UInt8→Row→Row}(h:am b)(hw:cF b ψ):SmB (baseW b p ψ):=by
 refine ⟨by rw [aN];exact h.sm.ntab,h.sm.nlink,fun k hk=>?_,fun k hk=>?_⟩
 ·have hk':k<b.tabs.length:=by rwa [aN] at hk
  rw [cv hk'];exact h.sm.names k hk'
 ·have hk':k<b.tabs.length:=by rwa [aN] at hk
  unfold dr
  rw [cv hk']
  exact kV (h.sm.tabs k hk') (ox (h.tab hk').ok (h.tab hk').sm (hw.way k hk'))
theorem z6 {b:ac}{G:aT}(h:ah b)(hs:¬ l3 b G)(hc:∀ l,l∈b.links→l.how=2→∀ r,r∈(tabT b l.from_).rows→dK b G l r→G l.from_ r.id):ah (offG b G):=by
 have hway:=rB (G:=G) h
 refine ⟨iZ h hway,by show (baseW b _ _).tabs.length≤3;rw [aN];exact h.ntab,h.nlink,fun i hi=>?_⟩
 have hi':i<b.links.length:=hi
 have g:=h.links i hi'
 have hl:=cG hi'
 refine ⟨baseW_skel.fits g.fits,g.apart,?_⟩
 show ap (offG b G) (b.links.getD i default)
 have f:=g.fits
 have gh:=g.holds
 clear g
 generalize b.links.getD i default=l at *
 have eT:tabT (offG b G) l.from_=tabW (tabT b l.from_) (fun r=>¬ G l.from_ r.id) (dI b G l.from_ b.links):=jC f.src
 have eT2:tabT (offG b G) l.to=tabW (tabT b l.to) (fun r=>¬ G l.to r.id) (dI b G l.to b.links):=jC f.dst
 intro k hk
 have hm:=getD_mem (d:=(default:Row)) hk
 generalize (tabT (offG b G) l.from_).rows.getD k default=r' at hm
 rw [eT] at hm
 obtain ⟨r,hr,rfl⟩:=List.mem_map.1 hm
 obtain ⟨hr,hstay⟩:=bD.1 hr
 intro hv
 have hrow:aO (lastS (tabT b l.from_)) (nowR (tabT b l.from_) r):=((h.tabs _ f.src).ok.rg r hr).now
 have ecol:cB (offG b G) l=cB b l:=by unfold cB;rw [eT];rfl
 have eV:fw (offG b G) l (dI b G l.from_ b.links r)=(nowR (tabT b l.from_) (dI b G l.from_ b.links r)).getD (cB b l) default:=by
  unfold fw
  rw [ecol,eT];rfl
 rcases (freeR_get (G:=G) (r:=r) (c:=cB b l) (by rw [hrow.len];exact f.col) b.links).2 with ⟨-,e⟩|⟨hno,e⟩
 ·rw [eV,e] at hv;exact absurd rfl hv
 have eV2:fw (offG b G) l (dI b G l.from_ b.links r)=fw b l r:=by rw [eV,e];rfl
 rw [eV2] at hv ⊢
 have hng:¬ G l.to (fw b l r).n:=fun hg=>by
  have hlo:=f.lo
  have hhi:=f.hi
  have hnm:dK b G l r:=⟨hv,hg⟩
  by_cases w1:l.how=1
  ·exact hs ⟨l,hl,w1,r,hr,hstay,hnm⟩
  by_cases w2:l.how=2
  ·exact hstay (hc l hl w2 r hr hnm)
  ·exact hno ⟨l,hl,⟨rfl,by omega,hnm⟩,rfl⟩
 obtain ⟨q,hq,hqid⟩:=fW.1 (gh.mem hr hv)
 rw [eT2]
 refine (fU (lv h f.dst b.links fun _ hh=>hh).id).2 ⟨q,hq,?_,hqid⟩
 rw [hqid];exact hng
def dF (b:ac)(nm:List UInt8)(id:Int):Prop:=tabN b nm<b.tabs.length∧rowN (tabT b nm) id < (tabT b nm).rows.length
open Classical in
noncomputable def xy (b:ac) (nm:List UInt8) (id:Int):ac×Int:=
 if ¬ dF b nm id then (b,5) else if l3 b (gx b nm id) then (b,6) else (offG b (gx b nm id),0)
open Classical in
noncomputable def oN (b:ac) (nm:List UInt8) (id:Int):ac×Int:=if ah b then xy b nm id else (nilB,1)
theorem ld {b:ac}{nm:List UInt8}{id:Int}(h:am b):am (xy b nm id).1:=by
 unfold xy
 split
 ·exact h
 split
 ·exact h
 rename_i hs
 exact ⟨z6 h.ok hs fun l hl hw r hr hn=>.next hl hr hw hn.1 hn.2,by show SmB (offG b _);exact sH h (rB h.ok)⟩
end Go.Proofs.YtganfdhmkdehlaaGreatDoor
