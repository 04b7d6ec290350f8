/- A row taken away, with those that go with it. -/
import Derived.Test.YtdpigighgmipfaaGreatDoorQ1005M24
set_option linter.all false
namespace Go.Proofs.YtdpigighgmipfaaGreatDoor
open Go Go.HL
variable {fu:Nat}
theorem snocInd {α:Type}{p:List α→Prop}(nil:p [])(snoc:∀ ls l,p ls→p (ls++[l])):∀ ls,p ls:=by
 have:∀ n (ls:List α),ls.length=n→p ls:=by
  intro n
  induction n with
  | zero=>intro ls h;rw [List.eq_nil_of_length_eq_zero h];exact nil
  | succ n ih=>
   intro ls h
   have hne:ls≠[]:=fun e=>by rw [e] at h;cases h
   rw [← List.dropLast_concat_getLast hne]
   exact snoc _ _ (ih _ (by rw [List.length_dropLast];omega))
 exact fun ls=>this ls.length ls rfl
abbrev Dooms:=List UInt8→Int→Prop
def Names (b:Base)(G:Dooms)(l:Link)(r:Row):Prop:=(colV b l r).kind≠0∧G l.to (colV b l r).n
inductive Gone (b:Base) (nm:List UInt8) (id:Int):Dooms where
 | self:Gone b nm id nm id
 | next {l:Link} {r:Row} (hl:l∈b.links) (hr:r∈(tabT b l.from_).rows) (hw:l.how=2) (hv:(colV b l r).kind≠0) (hg:Gone b nm id l.to (colV b l r).n):Gone b nm id l.from_ r.id
def Stops (b:Base)(G:Dooms):Prop:=∃ l,l∈b.links∧l.how=1∧∃ r,r∈(tabT b l.from_).rows∧¬ G l.from_ r.id∧Names b G l r
def Hit (b:Base)(G:Dooms)(nm:List UInt8)(l:Link)(r:Row):Prop:=l.from_=nm∧l.how=3∧Names b G l r
noncomputable def freeS (b:Base) (G:Dooms) (nm:List UInt8) (r q:Row) (l:Link):Row:=@ite _ (Hit b G nm l r) (Classical.propDecidable _) (clearR (tabT b nm) (colN b l) q) q
noncomputable def freeR (b:Base) (G:Dooms) (nm:List UInt8) (ls:List Link) (r:Row):Row:=ls.foldl (freeS b G nm r) r
theorem freeR_snoc (b:Base)(G:Dooms)(nm:List UInt8)(ls:List Link)(l:Link)(r:Row):freeR b G nm (ls++[l]) r=freeS b G nm r (freeR b G nm ls r) l:=by
 unfold freeR
 rw [List.foldl_append];rfl
theorem getD_mem_links {b:Base}{i:Nat}(hi:i<b.links.length):b.links.getD i default∈b.links:=getD_mem hi
theorem BaseOK.link {b:Base}(h:BaseOK b){l:Link}(hl:l∈b.links):LinkFits b l∧LinkHolds b l:=by
 obtain ⟨i,hi,rfl⟩:=List.getElem_of_mem hl
 have:=h.links i hi
 rw [← getD_lt (d:=default) hi]
 exact ⟨this.fits,this.holds⟩
theorem LinkHolds.mem {b:Base}{l:Link}(h:LinkHolds b l){r:Row}(hr:r∈(tabT b l.from_).rows):RowHolds b l r:=by
 obtain ⟨k,hk,rfl⟩:=List.getElem_of_mem hr
 have:=h k hk
 rwa [getD_lt hk] at this
theorem freeR_way {b:Base}{G:Dooms}{nm:List UInt8}(h:BaseOK b)(hn:tabN b nm<b.tabs.length):∀ (ls:List Link),(∀ l,l∈ls→l∈b.links)→RowWay (tabT b nm) (freeR b G nm ls):=by
 intro ls
 have ht:TabOK (tabT b nm):=(h.tabs _ hn).ok
 induction ls using snocInd with
 | nil=>exact fun _=>.same ht
 | snoc ls l ih=>
  intro hm
  have e:freeR b G nm (ls++[l])=fun r=>@ite _ (Hit b G nm l r) (Classical.propDecidable _) (clearR (tabT b nm) (colN b l) (freeR b G nm ls r)) (freeR b G nm ls r):=funext fun r=>freeR_snoc b G nm ls l r
  rw [e]
  refine (ih fun x hx=>hm x (List.mem_append_left _ hx)).cond ht fun ⟨r,_,hP⟩=>?_
  have hf:=(h.link (hm l (by simp))).1
  have:=hf.need hP.2.1
  rwa [hP.1] at this
theorem freeR_get {b:Base}{G:Dooms}{nm:List UInt8}{r:Row}{c:Nat}(hc:c < (nowR (tabT b nm) r).length):∀ ls:List Link,
     (nowR (tabT b nm) (freeR b G nm ls r)).length=(nowR (tabT b nm) r).length∧
     (((∃ l,l∈ls∧Hit b G nm l r∧colN b l=c)∧(nowR (tabT b nm) (freeR b G nm ls r)).getD c default=nul)∨((¬ ∃ l,l∈ls∧Hit b G nm l r∧colN b l=c)∧(nowR (tabT b nm) (freeR b G nm ls r)).getD c default=(nowR (tabT b nm) r).getD c default)):=by
 intro ls
 induction ls using snocInd with
 | nil=>exact ⟨rfl,.inr ⟨by simp,rfl⟩⟩
 | snoc ls l ih=>
  obtain ⟨hl,ih⟩:=ih
  rw [freeR_snoc]
  unfold freeS
  by_cases hh:Hit b G nm l r
  ·rw [if_pos hh,clearR_now]
   refine ⟨by rw [List.length_set];exact hl,?_⟩
   by_cases hcol:colN b l < (nowR (tabT b nm) (freeR b G nm ls r)).length
   ·rw [getD_set hcol]
    by_cases e:c=colN b l
    ·rw [if_pos e]
     exact .inl ⟨⟨l,by simp,hh,e.symm⟩,rfl⟩
    ·rw [if_neg e]
     rcases ih with ⟨⟨x,hx,h2⟩,h3⟩|⟨h2,h3⟩
     ·exact .inl ⟨⟨x,List.mem_append_left _ hx,h2⟩,h3⟩
     ·refine .inr ⟨fun ⟨x,hx,h4,h5⟩=>?_,h3⟩
      rcases List.mem_append.1 hx with hx|hx
      ·exact h2 ⟨x,hx,h4,h5⟩
      ·simp only [List.mem_singleton] at hx
       subst hx;exact e h5.symm
   ·rw [List.set_eq_of_length_le (by omega)]
    rcases ih with ⟨⟨x,hx,h2⟩,h3⟩|⟨h2,h3⟩
    ·exact .inl ⟨⟨x,List.mem_append_left _ hx,h2⟩,h3⟩
    ·refine .inr ⟨fun ⟨x,hx,h4,h5⟩=>?_,h3⟩
     rcases List.mem_append.1 hx with hx|hx
     ·exact h2 ⟨x,hx,h4,h5⟩
     ·simp only [List.mem_singleton] at hx
      subst hx;omega
  ·rw [if_neg hh]
   refine ⟨hl,?_⟩
   rcases ih with ⟨⟨x,hx,h2⟩,h3⟩|⟨h2,h3⟩
   ·exact .inl ⟨⟨x,List.mem_append_left _ hx,h2⟩,h3⟩
   ·refine .inr ⟨fun ⟨x,hx,h4,h5⟩=>?_,h3⟩
    rcases List.mem_append.1 hx with hx|hx
    ·exact h2 ⟨x,hx,h4,h5⟩
    ·simp only [List.mem_singleton] at hx
     subst hx;exact hh h4
noncomputable def offG (b:Base) (G:Dooms):Base:=baseW b (fun nm r=>¬ G nm r.id) (fun nm r=>freeR b G nm b.links r)
theorem offG_way {b:Base}{G:Dooms}(h:BaseOK b):BaseWay b (fun nm r=>freeR b G nm b.links r):=⟨fun k hk=>by
 have hp:=h.place k hk
 have:=freeR_way (G:=G) (nm:=(b.tabs.getD k default).name) h (by rw [hp];exact hk) b.links fun _ hl=>hl
 unfold tabT at this
 rw [hp] at this
 exact this⟩
theorem baseW_tabs_ok {b:Base}{p:List UInt8→Row→Prop}{ψ:List UInt8→Row→Row}(h:BaseOK b)(hw:BaseWay b ψ):∀ k,k < (baseW b p ψ).tabs.length→TabGood (baseW b p ψ) k:=by
 intro k hk
 have hk':k<b.tabs.length:=by rwa [baseW_len] at hk
 refine baseW_skel.place hk (h.tabs k hk') ?_
 unfold tabK
 rw [baseW_get hk']
 exact tabW_ok (h.tabs k hk').ok (hw.way k hk')
theorem way_sm {t:Table}{ψ:Row→Row}(h:TabOK t)(hs:SmT t)(hw:RowWay t ψ):∀ r,r∈t.rows→SmR (ψ r).vals:=fun r hr=>
 (hw.was r hr).sm (by have:=((h.rt hs).okAt (ψ r).ver.toNat).hi;omega)
theorem baseW_sm {b:Base}{p:List UInt8→Row→Prop}{ψ:List UInt8→Row→Row}(h:GoodB b)(hw:BaseWay b ψ):SmB (baseW b p ψ):=by
 refine ⟨by rw [baseW_len];exact h.sm.ntab,h.sm.nlink,fun k hk=>?_,fun k hk=>?_⟩
 ·have hk':k<b.tabs.length:=by rwa [baseW_len] at hk
  rw [baseW_get hk'];exact h.sm.names k hk'
 ·have hk':k<b.tabs.length:=by rwa [baseW_len] at hk
  unfold tabK
  rw [baseW_get hk']
  exact tabW_sm (h.sm.tabs k hk') (way_sm (h.tab hk').ok (h.tab hk').sm (hw.way k hk'))
theorem offG_ok {b:Base}{G:Dooms}(h:BaseOK b)(hs:¬ Stops b G)(hc:∀ l,l∈b.links→l.how=2→∀ r,r∈(tabT b l.from_).rows→Names b G l r→G l.from_ r.id):BaseOK (offG b G):=by
 have hway:=offG_way (G:=G) h
 refine ⟨baseW_tabs_ok h hway,by show (baseW b _ _).tabs.length≤3;rw [baseW_len];exact h.ntab,h.nlink,fun i hi=>?_⟩
 have hi':i<b.links.length:=hi
 have g:=h.links i hi'
 have hl:=getD_mem_links hi'
 refine ⟨baseW_skel.fits g.fits,g.apart,?_⟩
 show LinkHolds (offG b G) (b.links.getD i default)
 have f:=g.fits
 have gh:=g.holds
 clear g
 generalize b.links.getD i default=l at *
 have eT:tabT (offG b G) l.from_=tabW (tabT b l.from_) (fun r=>¬ G l.from_ r.id) (freeR b G l.from_ b.links):=baseW_tabT f.src
 have eT2:tabT (offG b G) l.to=tabW (tabT b l.to) (fun r=>¬ G l.to r.id) (freeR b G l.to b.links):=baseW_tabT f.dst
 intro k hk
 have hm:=getD_mem (d:=(default:Row)) hk
 generalize (tabT (offG b G) l.from_).rows.getD k default=r' at hm
 rw [eT] at hm
 obtain ⟨r,hr,rfl⟩:=List.mem_map.1 hm
 obtain ⟨hr,hstay⟩:=mem_keep.1 hr
 intro hv
 have hrow:RowOK (lastS (tabT b l.from_)) (nowR (tabT b l.from_) r):=((h.tabs _ f.src).ok.rg r hr).now
 have ecol:colN (offG b G) l=colN b l:=by unfold colN;rw [eT];rfl
 have eV:colV (offG b G) l (freeR b G l.from_ b.links r)=(nowR (tabT b l.from_) (freeR b G l.from_ b.links r)).getD (colN b l) default:=by
  unfold colV
  rw [ecol,eT];rfl
 rcases (freeR_get (G:=G) (r:=r) (c:=colN b l) (by rw [hrow.len];exact f.col) b.links).2 with ⟨-,e⟩|⟨hno,e⟩
 ·rw [eV,e] at hv;exact absurd rfl hv
 have eV2:colV (offG b G) l (freeR b G l.from_ b.links r)=colV b l r:=by rw [eV,e];rfl
 rw [eV2] at hv ⊢
 have hng:¬ G l.to (colV b l r).n:=fun hg=>by
  have hlo:=f.lo
  have hhi:=f.hi
  have hnm:Names b G l r:=⟨hv,hg⟩
  by_cases w1:l.how=1
  ·exact hs ⟨l,hl,w1,r,hr,hstay,hnm⟩
  by_cases w2:l.how=2
  ·exact hstay (hc l hl w2 r hr hnm)
  ·exact hno ⟨l,hl,⟨rfl,by omega,hnm⟩,rfl⟩
 obtain ⟨q,hq,hqid⟩:=rowN_iff.1 (gh.mem hr hv)
 rw [eT2]
 refine (tabW_there (freeR_way h f.dst b.links fun _ hh=>hh).id).2 ⟨q,hq,?_,hqid⟩
 rw [hqid];exact hng
def HasRow (b:Base)(nm:List UInt8)(id:Int):Prop:=tabN b nm<b.tabs.length∧rowN (tabT b nm) id < (tabT b nm).rows.length
open Classical in
noncomputable def offX (b:Base) (nm:List UInt8) (id:Int):Base×Int:=
 if ¬ HasRow b nm id then (b,5) else if Stops b (Gone b nm id) then (b,6) else (offG b (Gone b nm id),0)
open Classical in
noncomputable def offBB (b:Base) (nm:List UInt8) (id:Int):Base×Int:=if BaseOK b then offX b nm id else (nilB,1)
theorem offX_good {b:Base}{nm:List UInt8}{id:Int}(h:GoodB b):GoodB (offX b nm id).1:=by
 unfold offX
 split
 ·exact h
 split
 ·exact h
 rename_i hs
 exact ⟨offG_ok h.ok hs fun l hl hw r hr hn=>.next hl hr hw hn.1 hn.2,by show SmB (offG b _);exact baseW_sm h (offG_way h.ok)⟩
end Go.Proofs.YtdpigighgmipfaaGreatDoor
