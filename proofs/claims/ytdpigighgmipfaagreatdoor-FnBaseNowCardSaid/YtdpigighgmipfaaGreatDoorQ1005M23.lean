/- Columns of a table of a base changed: links go with theirs. -/
import Derived.Test.YtdpigighgmipfaaGreatDoorQ1005M22
set_option linter.all false
namespace Go.Proofs.YtdpigighgmipfaaGreatDoor
open Go Go.HL
variable {fu:Nat}
def reCol (c:Change)(col:List UInt8):List UInt8:=if c.kind=3∧col=c.name then c.new else col
structure ColKept (s:List Col) (c:Change) (col:List UInt8) (i:Nat):Prop where
 at_:atN (chg s c) (reCol c col)=i
 lt:i < (chg s c).length
 kind:((chg s c).getD i default).kind=(s.getD (atN s col) default).kind
 need:((chg s c).getD i default).need=(s.getD (atN s col) default).need
 row:∀ row:List Val,row.length=s.length→(chgRow s c row).getD i default=row.getD (atN s col) default
theorem colKept {s:List Col}{c:Change}{col:List UInt8}(hc:Can s c)(hi:atN s col<s.length)(hne:c.kind=2∨c.kind=4→col≠c.name):∃ i,ColKept s c col i:=by
 have hnm:=atN_name hi
 have key:∀ i,i < (chg s c).length→((chg s c).getD i default).name=reCol c col→atN (chg s c) (reCol c col)=i:=fun i h1 h2=>by rw [← h2];exact atN_at hc.ok h1
 by_cases k1:c.kind=1
 ·have e:chg s c=s++[c.col]:=by unfold chg;rw [if_pos k1]
  have ea:∀ r,chgRow s c r=r++[c.col.def_]:=fun r=>by unfold chgRow;rw [if_pos k1]
  have er:reCol c col=col:=by unfold reCol;rw [if_neg (fun h=>by omega)]
  have eg:(chg s c).getD (atN s col) default=s.getD (atN s col) default:=by rw [e,List.getD_eq_getElem?_getD,List.getElem?_append_left hi,List.getD_eq_getElem?_getD]
  have hl:atN s col < (chg s c).length:=by rw [e];simp;omega
  refine ⟨atN s col,key _ hl (by rw [eg,er,hnm]),hl,by rw [eg],by rw [eg],fun row hrow=>?_⟩
  rw [ea,List.getD_eq_getElem?_getD,List.getElem?_append_left (by omega),List.getD_eq_getElem?_getD]
 have hat:=hc.may.there k1
 have hjn:=atN_name hat
 by_cases k2:c.kind=2
 ·have e:chg s c=s.eraseIdx (atN s c.name):=by unfold chg;rw [if_neg k1,if_pos k2]
  have ea:∀ r,chgRow s c r=r.eraseIdx (atN s c.name):=fun r=>by unfold chgRow;rw [if_neg k1,if_pos k2]
  have er:reCol c col=col:=by unfold reCol;rw [if_neg (fun h=>by omega)]
  have hij:atN s col≠atN s c.name:=fun h=>hne (.inl k2) (by rw [← hnm,h,hjn])
  have hl:(chg s c).length=s.length-1:=by rw [e,List.length_eraseIdx,if_pos hat]
  by_cases hlt:atN s col<atN s c.name
  ·have eg:(chg s c).getD (atN s col) default=s.getD (atN s col) default:=by rw [e,getD_eraseIdx,if_pos hlt]
   refine ⟨atN s col,key _ (by omega) (by rw [eg,er,hnm]),by omega,by rw [eg],by rw [eg],fun row hrow=>?_⟩
   rw [ea,getD_eraseIdx,if_pos hlt]
  ·have h1:¬ atN s col-1<atN s c.name:=by omega
   have h2:atN s col-1+1=atN s col:=by omega
   have eg:(chg s c).getD (atN s col-1) default=s.getD (atN s col) default:=by rw [e,getD_eraseIdx,if_neg h1,h2]
   refine ⟨atN s col-1,key _ (by omega) (by rw [eg,er,hnm]),by omega,by rw [eg],by rw [eg],fun row hrow=>?_⟩
   rw [ea,getD_eraseIdx,if_neg h1,h2]
 by_cases k3:c.kind=3
 ·have e:chg s c=s.set (atN s c.name) { s.getD (atN s c.name) default with name:=c.new }:=by unfold chg;rw [if_neg k1,if_neg k2,if_pos k3]
  have ea:∀ r,chgRow s c r=r:=fun r=>by unfold chgRow;rw [if_neg k1,if_neg k2,if_neg (by omega)]
  have hl:(chg s c).length=s.length:=by rw [e];simp
  by_cases hij:atN s col=atN s c.name
  ·have hcol:col=c.name:=by rw [← hnm,hij,hjn]
   have er:reCol c col=c.new:=if_pos ⟨k3,hcol⟩
   have eg:(chg s c).getD (atN s col) default = { s.getD (atN s c.name) default with name:=c.new }:=by rw [e,getD_set hat,if_pos hij]
   exact ⟨atN s col,key _ (by omega) (by rw [eg,er]),by omega,by rw [eg,hij],by rw [eg,hij],fun row _=>by rw [ea]⟩
  ·have hcol:col≠c.name:=fun h=>hij (by rw [h])
   have er:reCol c col=col:=if_neg fun h=>hcol h.2
   have eg:(chg s c).getD (atN s col) default=s.getD (atN s col) default:=by rw [e,getD_set hat,if_neg hij]
   exact ⟨atN s col,key _ (by omega) (by rw [eg,er,hnm]),by omega,by rw [eg],by rw [eg],fun row _=>by rw [ea]⟩
 have k4:c.kind=4:=by have:=hc.may.named.kinds;omega
 have e:chg s c=s.set (atN s c.name) { s.getD (atN s c.name) default with kind:=c.col.kind,def_:=valAs (s.getD (atN s c.name) default).def_ c.col.kind }:=by unfold chg;rw [if_neg k1,if_neg k2,if_neg k3]
 have ea:∀ r,chgRow s c r=r.set (atN s c.name) (valAs (r.getD (atN s c.name) default) c.col.kind):=fun r=>by unfold chgRow;rw [if_neg k1,if_neg k2,if_pos k4]
 have er:reCol c col=col:=by unfold reCol;rw [if_neg (fun h=>by omega)]
 have hij:atN s col≠atN s c.name:=fun h=>hne (.inr k4) (by rw [← hnm,h,hjn])
 have hl:(chg s c).length=s.length:=by rw [e];simp
 have eg:(chg s c).getD (atN s col) default=s.getD (atN s col) default:=by rw [e,getD_set hat,if_neg hij]
 refine ⟨atN s col,key _ (by omega) (by rw [eg,er,hnm]),by omega,by rw [eg],by rw [eg],fun row hrow=>?_⟩
 rw [ea,getD_set (by omega),if_neg hij]
theorem reCol_inj {s:List Col}{c:Change}{x y:List UInt8}(hc:Can s c)(hx:atN s x<s.length)(hy:atN s y<s.length)(nx:c.kind=2∨c.kind=4→x≠c.name)(ny:c.kind=2∨c.kind=4→y≠c.name)(h:reCol c x=reCol c y):x=y:=by
 obtain ⟨p,hp⟩:=colKept hc hx nx
 obtain ⟨q,hq⟩:=colKept hc hy ny
 have hpq:p=q:=by rw [← hp.at_,← hq.at_,h]
 have u1:=hp.row ((List.range s.length).map fun z:Nat=>(⟨(z:Int),0,[]⟩:Val)) (by simp)
 have u2:=hq.row ((List.range s.length).map fun z:Nat=>(⟨(z:Int),0,[]⟩:Val)) (by simp)
 rw [hpq,u2,getD_lt (by simpa using hy),getD_lt (by simpa using hx)] at u1
 simp only [List.getElem_map,List.getElem_range,Val.mk.injEq,and_self,and_true] at u1
 have u3:atN s y=atN s x:=by omega
 rw [← atN_name hx,← u3,atN_name hy]
def reLink (nm:List UInt8)(c:Change)(l:Link):Link:=if c.kind=3∧l.from_=nm∧l.col=c.name then { l with col:=c.new } else l
theorem reLink_from (nm:List UInt8)(c:Change)(l:Link):(reLink nm c l).from_=l.from_:=by unfold reLink;split<;>rfl
theorem reLink_to (nm:List UInt8)(c:Change)(l:Link):(reLink nm c l).to=l.to:=by unfold reLink;split<;>rfl
theorem reLink_how (nm:List UInt8)(c:Change)(l:Link):(reLink nm c l).how=l.how:=by unfold reLink;split<;>rfl
theorem reLink_col {nm:List UInt8}{c:Change}{l:Link}(h:l.from_=nm):(reLink nm c l).col=reCol c l.col:=by
 unfold reLink reCol
 by_cases h1:c.kind=3∧l.col=c.name
 ·rw [if_pos ⟨h1.1,h,h1.2⟩,if_pos h1]
 ·rw [if_neg (fun hh=>h1 ⟨hh.1,hh.2.2⟩),if_neg h1]
theorem reLink_other {nm:List UInt8}{c:Change}{l:Link}(h:l.from_≠nm):reLink nm c l=l:=if_neg fun hh=>h hh.2.1
def chgBase (b:Base)(k:Nat)(t:Table)(nm:List UInt8)(c:Change):Base:=⟨(setTab b k t).tabs,b.links.map (reLink nm c)⟩
theorem chgBase_get {b:Base}{k:Nat}{t:Table}{nm:List UInt8}{c:Change}{i:Nat}(hi:i<b.links.length):(chgBase b k t nm c).links.getD i default=reLink nm c (b.links.getD i default):=by
 show (b.links.map _).getD i default=_
 rw [getD_lt (by simpa using hi),List.getElem_map,getD_lt hi]
theorem chgBase_llen (b:Base)(k:Nat)(t:Table)(nm:List UInt8)(c:Change):(chgBase b k t nm c).links.length=b.links.length:=by show (b.links.map _).length=_;simp
open Classical in
noncomputable def changeX (b:Base) (nm:List UInt8) (c:Change):Base×Int:=
 if tabN b nm<b.tabs.length then
  if (chgT (tabT b nm) c).2=1 then (b,1)
  else if (c.kind=2∨c.kind=4)∧Linked b nm c.name then (b,8)
  else if (chgT (tabT b nm) c).2≠0 then (b,(chgT (tabT b nm) c).2)
  else (chgBase b (tabN b nm) (chgT (tabT b nm) c).1 nm c,0)
 else (b,5)
theorem chgT_zero {t:Table}{c:Change}(h:(chgT t c).2=0):ChgFine t c∧t.changes.length≠8∧chgT t c=(chgR t c,0):=by
 rcases chgT_cases t c with ⟨h1,h2⟩|⟨h1,h2⟩|h1|⟨h1,h2⟩
 ·exact ⟨h1,h2,chgT_fine h1 h2⟩
 ·rw [chgT_full h1 h2] at h;exact absurd (show (4:Int)=0 from h) (by decide)
 ·rw [chgT_form h1] at h;exact absurd (show (1:Int)=0 from h) (by decide)
 ·rw [chgT_need h1 h2] at h;exact absurd (show (2:Int)=0 from h) (by decide)
theorem chgBase_ok {b:Base}{nm:List UInt8}{c:Change}(h:GoodB b)(hk:tabN b nm<b.tabs.length)(hu:¬ ((c.kind=2∨c.kind=4)∧Linked b nm c.name))(hz:(chgT (tabT b nm) c).2=0) :
     BaseOK (chgBase b (tabN b nm) (chgT (tabT b nm) c).1 nm c):=by
 obtain ⟨hf,h8,e⟩:=chgT_zero hz
 have g:=h.tabT hk
 have hrt:=g.ok.rt g.sm
 have hs:=hrt.okLast
 have hok:TabOK (chgR (tabT b nm) c):=by have:=chgT_ok (c:=c) g.ok g.sm;rwa [e] at this
 have hl:lastS (chgR (tabT b nm) c)=chg (lastS (tabT b nm)) c:=lastS_snoc hrt.last hf.can
 have hnow:∀ k,k < (tabT b nm).rows.length→nowR (chgR (tabT b nm) c) ((tabT b nm).rows.getD k default)=chgRow (lastS (tabT b nm)) c (nowR (tabT b nm) ((tabT b nm).rows.getD k default)):=fun k hk=>nowR_snoc hrt (g.ok.rows k hk).ver
 rw [e]
 show BaseOK (chgBase b (tabN b nm) (chgR (tabT b nm) c) nm c)
 have hN:∀ x,tabN (chgBase b (tabN b nm) (chgR (tabT b nm) c) nm c) x=tabN b x:=fun x=>tabN_names (setTab_names hk) x
 have hT:∀ x,tabT (chgBase b (tabN b nm) (chgR (tabT b nm) c) nm c) x=if tabN b x=tabN b nm then chgR (tabT b nm) c else tabT b x:=fun x=>setTab_tabT hk x
 have hlen:(chgBase b (tabN b nm) (chgR (tabT b nm) c) nm c).tabs.length=b.tabs.length:=setTab_len _ _ _
 have hrows:∀ x,(tabT (chgBase b (tabN b nm) (chgR (tabT b nm) c) nm c) x).rows=(tabT b x).rows:=fun x=>by
  rw [hT]
  split
  ·rename_i ex
   unfold tabT
   rw [ex];rfl
  ·rfl
 refine ⟨fun i hi=>?_,by rw [hlen];exact h.ok.ntab,by rw [chgBase_llen];exact h.ok.nlink,fun i hi=>?_⟩
 ·rw [hlen] at hi
  have e1:=name_at (setTab_names (t:=chgR (tabT b nm) c) hk) (k:=i) (by rw [setTab_len];exact hi)
  have gg:=h.ok.tabs i hi
  refine ⟨?_,?_,?_⟩
  ·show NameOK ((setTab b _ _).tabs.getD i default).name
   rw [e1];exact gg.name
  ·rw [hN]
   show tabN b ((setTab b _ _).tabs.getD i default).name=i
   rw [e1];exact gg.place
  ·show TabOK (tabK (setTab b _ _) i)
   rw [setTab_tabK hk]
   split
   ·exact hok
   ·exact gg.ok
 ·rw [chgBase_llen] at hi
  have gl:=h.ok.links i hi
  have hapart:LinkApart (chgBase b (tabN b nm) (chgR (tabT b nm) c) nm c) i:=fun k hki=>by
   rw [chgBase_get hi,chgBase_get (show k<b.links.length by omega)]
   rintro ⟨h1,h2⟩
   rw [reLink_from,reLink_from] at h1
   refine gl.apart k hki ⟨h1,?_⟩
   by_cases hn:(b.links.getD i default).from_=nm
   case neg=>rwa [reLink_other hn,reLink_other (by rw [h1];exact hn)] at h2
   have hn':(b.links.getD k default).from_=nm:=by rw [h1];exact hn
   rw [reLink_col hn,reLink_col hn'] at h2
   have f1:=gl.fits
   have f2:=(h.ok.links k (by omega)).fits
   have c1:atN (lastS (tabT b nm)) (b.links.getD i default).col < (lastS (tabT b nm)).length:=by have:=f1.col;unfold colN at this;rwa [hn] at this
   have c2:atN (lastS (tabT b nm)) (b.links.getD k default).col < (lastS (tabT b nm)).length:=by have:=f2.col;unfold colN at this;rwa [hn'] at this
   have n1:c.kind=2∨c.kind=4→(b.links.getD i default).col≠c.name:=fun q ee=>hu ⟨q,i,hi,hn,ee⟩
   have n2:c.kind=2∨c.kind=4→(b.links.getD k default).col≠c.name:=fun q ee=>hu ⟨q,k,by omega,hn',ee⟩
   exact reCol_inj hf.can c2 c1 n2 n1 h2
  have hL:=chgBase_get (b:=b) (k:=tabN b nm) (t:=chgR (tabT b nm) c) (nm:=nm) (c:=c) hi
  have f:=gl.fits
  have gh:=gl.holds
  clear gl
  generalize hll:b.links.getD i default=l at *
  by_cases hn:l.from_=nm
  case neg=>
   have hnN:tabN b l.from_≠tabN b nm:=fun ee=>hn (tabN_inj f.src ee)
   have e1:tabT (chgBase b (tabN b nm) (chgR (tabT b nm) c) nm c) l.from_=tabT b l.from_:=by rw [hT,if_neg hnN]
   rw [reLink_other hn] at hL
   refine ⟨by rw [hL];exact f.same (by rw [hlen];exact Nat.le_refl _) (hN _) (hN _) (by rw [e1]),hapart,?_⟩
   rw [hL]
   intro k hk2
   rw [e1] at hk2 ⊢
   intro hv
   have e2:colV (chgBase b (tabN b nm) (chgR (tabT b nm) c) nm c) l ((tabT b l.from_).rows.getD k default)=colV b l ((tabT b l.from_).rows.getD k default):=by unfold colV colN;rw [e1]
   rw [e2] at hv ⊢
   have:=gh k hk2 hv
   unfold rowN at this ⊢
   rw [hrows];exact this
  have e1:tabT (chgBase b (tabN b nm) (chgR (tabT b nm) c) nm c) l.from_=chgR (tabT b nm) c:=by rw [hT,hn,if_pos rfl]
  have c1:atN (lastS (tabT b nm)) l.col < (lastS (tabT b nm)).length:=by have:=f.col;unfold colN at this;rwa [hn] at this
  obtain ⟨p,hp⟩:=colKept hf.can c1 (fun q ee=>hu ⟨q,i,hi,by rw [hll];exact hn,by rw [hll];exact ee⟩)
  have ecol:colN (chgBase b (tabN b nm) (chgR (tabT b nm) c) nm c) (reLink nm c l)=p:=by
   unfold colN
   rw [reLink_from,e1,hl,reLink_col hn];exact hp.at_
  have hkind:=f.kind
  have hneed:=f.need
  unfold colN at hkind hneed
  rw [hn] at hkind hneed
  refine ⟨?_,hapart,?_⟩
  ·rw [hL]
   refine ⟨by rw [reLink_from,hN,hlen];exact f.src,by rw [reLink_to,hN,hlen];exact f.dst,by rw [reLink_how];exact f.lo,by rw [reLink_how];exact f.hi,?_,?_,fun hw=>?_⟩
   ·rw [ecol,reLink_from,e1,hl];exact hp.lt
   ·rw [ecol,reLink_from,e1,hl,hp.kind];exact hkind
   ·rw [reLink_how] at hw
    rw [ecol,reLink_from,e1,hl,hp.need];exact hneed hw
  ·rw [hL]
   intro k hk2
   rw [reLink_from] at hk2 ⊢
   rw [hrows] at hk2 ⊢
   have hk3:k < (tabT b nm).rows.length:=by rwa [hn] at hk2
   have ev:colV (chgBase b (tabN b nm) (chgR (tabT b nm) c) nm c) (reLink nm c l) ((tabT b l.from_).rows.getD k default)=colV b l ((tabT b l.from_).rows.getD k default):=by
    unfold colV
    rw [ecol,reLink_from,e1,hn,hnow k hk3,hp.row _ (by have:=(g.now hk3).len;omega)]
    unfold colN
    rw [hn]
   intro hv
   rw [ev] at hv ⊢
   have:=gh k hk2 hv
   rw [reLink_to]
   unfold rowN at this ⊢
   rw [hrows];exact this
theorem chgBase_sm {b:Base}{k:Nat}{t:Table}{nm:List UInt8}{c:Change}(h:SmB b)(hk:k<b.tabs.length)(ht:SmT t):SmB (chgBase b k t nm c):=by
 have:=setTab_sm h hk ht
 exact ⟨this.ntab,by rw [chgBase_llen];exact h.nlink,this.names,this.tabs⟩
theorem changeX_good {b:Base}{nm:List UInt8}{c:Change}(h:GoodB b)(hc:SmCh c):GoodB (changeX b nm c).1:=by
 unfold changeX
 split
 case isFalse=>exact h
 rename_i hk
 split
 ·exact h
 split
 ·exact h
 rename_i hu
 split
 ·exact h
 rename_i hz
 have hz0:=Classical.byContradiction hz
 have g:=h.tabT hk
 exact ⟨chgBase_ok h hk hu hz0,chgBase_sm h.sm hk (chgT_sm g.ok g.sm hc)⟩
end Go.Proofs.YtdpigighgmipfaaGreatDoor
