/- Bases: where a table is, which links fit and hold, when a base is right. -/
import Derived.Test.YtdpigighgmipfaaGreatDoorQ1005M18
import Derived.Test.YtdpigighgmipfaaGreatDoorQ1005B8
import Derived.Test.YtdpigighgmipfaaGreatDoorQ1005AU
import Derived.KernelRfl
set_option linter.all false
namespace Go.Proofs.YtdpigighgmipfaaGreatDoor
open Go Go.HL
variable {fu:Nat}
def tabN (b:Base)(nm:List UInt8):Nat:=b.tabs.findIdx fun t=>decide (t.name=nm)
def tabI (b:Base)(nm:List UInt8):Int:=if tabN b nm<b.tabs.length then (tabN b nm:Int) else -1
def tabT (b:Base)(nm:List UInt8):Table:=(b.tabs.getD (tabN b nm) default).table
def tabK (b:Base)(k:Nat):Table:=(b.tabs.getD k default).table
noncomputable def colN (b:Base) (l:Link):Nat:=atN (lastS (tabT b l.from_)) l.col
noncomputable def colV (b:Base) (l:Link) (r:Row):Val:=(nowR (tabT b l.from_) r).getD (colN b l) default
structure LinkFits (b:Base) (l:Link):Prop where
 src:tabN b l.from_<b.tabs.length
 dst:tabN b l.to<b.tabs.length
 lo:1≤l.how
 hi:l.how≤3
 col:colN b l < (lastS (tabT b l.from_)).length
 kind:((lastS (tabT b l.from_)).getD (colN b l) default).kind=1
 need:l.how=3→((lastS (tabT b l.from_)).getD (colN b l) default).need=false
def RowHolds (b:Base)(l:Link)(r:Row):Prop:=(colV b l r).kind≠0→rowN (tabT b l.to) (colV b l r).n < (tabT b l.to).rows.length
def LinkHolds (b:Base)(l:Link):Prop:=∀ k,k < (tabT b l.from_).rows.length→RowHolds b l ((tabT b l.from_).rows.getD k default)
def LinkAlike (l m:Link):Prop:=l.from_=m.from_∧l.col=m.col
def LinkApart (b:Base)(i:Nat):Prop:=∀ k,k<i→¬ LinkAlike (b.links.getD k default) (b.links.getD i default)
structure TabGood (b:Base) (k:Nat):Prop where
 name:NameOK (b.tabs.getD k default).name
 place:tabN b (b.tabs.getD k default).name=k
 ok:TabOK (tabK b k)
structure LinkGood (b:Base) (i:Nat):Prop where
 fits:LinkFits b (b.links.getD i default)
 apart:LinkApart b i
 holds:LinkHolds b (b.links.getD i default)
structure BaseOK (b:Base):Prop where
 tabs:∀ k,k<b.tabs.length→TabGood b k
 ntab:b.tabs.length≤3
 nlink:b.links.length≤4
 links:∀ i,i<b.links.length→LinkGood b i
structure SmB (b:Base):Prop where
 ntab:b.tabs.length≤1000
 nlink:b.links.length≤1000
 names:∀ k,k<b.tabs.length→(b.tabs.getD k default).name.length≤1000
 tabs:∀ k,k<b.tabs.length→SmT (tabK b k)
structure GoodB (b:Base):Prop where
 ok:BaseOK b
 sm:SmB b
theorem tabN_name {b:Base}{nm:List UInt8}(h:tabN b nm<b.tabs.length):(b.tabs.getD (tabN b nm) default).name=nm:=by
 rw [getD_lt h]
 exact of_decide_eq_true (List.findIdx_getElem (w:=h))
theorem tabI_lt {b:Base}{nm:List UInt8}(h:tabN b nm<b.tabs.length):tabI b nm=(tabN b nm:Int):=if_pos h
theorem tabI_no {b:Base}{nm:List UInt8}(h:¬ tabN b nm<b.tabs.length):tabI b nm=-1:=if_neg h
theorem GoodB.tab {b:Base}(h:GoodB b){k:Nat}(hk:k<b.tabs.length):Good (tabK b k):=⟨(h.ok.tabs k hk).ok,h.sm.tabs k hk⟩
theorem GoodB.tabT {b:Base}(h:GoodB b){nm:List UInt8}(hk:tabN b nm<b.tabs.length):Good (tabT b nm):=h.tab hk
theorem tabN_inj {b:Base}{x y:List UInt8}(hx:tabN b x<b.tabs.length)(h:tabN b x=tabN b y):x=y:=by
 have e1:=tabN_name hx
 have e2:=tabN_name (b:=b) (nm:=y) (h▸hx)
 rw [← e1,← e2,h]
theorem tabN_names {a b:Base}(h:a.tabs.map (·.name)=b.tabs.map (·.name))(nm:List UInt8):tabN a nm=tabN b nm:=by
 have f:∀ l:List Tab,l.findIdx (fun t=>decide (t.name=nm))=(l.map (·.name)).findIdx fun i=>decide (i=nm):=fun l=>by rw [List.findIdx_map];rfl
 unfold tabN
 rw [f,f,h]
theorem tabs_len {a b:Base}(h:a.tabs.map (·.name)=b.tabs.map (·.name)):a.tabs.length=b.tabs.length:=by
 have:=congrArg List.length h
 simpa using this
theorem name_at {a b:Base}(h:a.tabs.map (·.name)=b.tabs.map (·.name)){k:Nat}(hk:k<a.tabs.length):(a.tabs.getD k default).name=(b.tabs.getD k default).name:=by
 have hb:k<b.tabs.length:=by rw [← tabs_len h];exact hk
 have:=congrArg (fun l=>l.getD k ([]:List UInt8)) h
 simp only at this
 rw [getD_lt (by simpa using hk),getD_lt (by simpa using hb),List.getElem_map,List.getElem_map] at this
 rw [getD_lt hk,getD_lt hb];exact this
structure Skel (a b:Base):Prop where
 names:a.tabs.map (·.name)=b.tabs.map (·.name)
 cols:∀ k,k<b.tabs.length→lastS (tabK a k)=lastS (tabK b k)
theorem Skel.tabN {a b:Base}(h:Skel a b)(nm:List UInt8):tabN a nm=tabN b nm:=tabN_names h.names nm
theorem Skel.len {a b:Base}(h:Skel a b):a.tabs.length=b.tabs.length:=tabs_len h.names
theorem Skel.last {a b:Base}(h:Skel a b){nm:List UInt8}(hn:Go.Proofs.YtdpigighgmipfaaGreatDoor.tabN b nm<b.tabs.length):lastS (tabT a nm)=lastS (tabT b nm):=by
 have:=h.cols _ hn
 unfold tabT
 rw [h.tabN];exact this
theorem Skel.fits {a b:Base}(h:Skel a b){l:Link}(hl:LinkFits b l):LinkFits a l:=by
 have e:=h.last hl.src
 have ec:colN a l=colN b l:=by unfold colN;rw [e]
 exact ⟨by rw [h.tabN,h.len];exact hl.src,by rw [h.tabN,h.len];exact hl.dst,hl.lo,hl.hi,by rw [ec,e];exact hl.col,by rw [ec,e];exact hl.kind,by rw [ec,e];exact hl.need⟩
theorem Skel.place {a b:Base}(h:Skel a b){k:Nat}(hk:k<a.tabs.length)(hb:TabGood b k)(ht:TabOK (tabK a k)):TabGood a k:=by
 have e:=name_at h.names hk
 exact ⟨by rw [e];exact hb.name,by rw [e,h.tabN];exact hb.place,ht⟩
def setTab (b:Base)(k:Nat)(t:Table):Base:=⟨b.tabs.set k ⟨(b.tabs.getD k default).name,t⟩,b.links⟩
theorem setTab_len (b:Base)(k:Nat)(t:Table):(setTab b k t).tabs.length=b.tabs.length:=by show (b.tabs.set _ _).length=_;simp
theorem setTab_get {b:Base}{k:Nat}{t:Table}(hk:k<b.tabs.length)(i:Nat):(setTab b k t).tabs.getD i default=if i=k then ⟨(b.tabs.getD k default).name,t⟩ else b.tabs.getD i default:=getD_set hk
theorem setTab_tabK {b:Base}{k:Nat}{t:Table}(hk:k<b.tabs.length)(i:Nat):tabK (setTab b k t) i=if i=k then t else tabK b i:=by
 unfold tabK
 rw [setTab_get hk]
 split<;>rfl
theorem setTab_names {b:Base}{k:Nat}{t:Table}(hk:k<b.tabs.length):(setTab b k t).tabs.map (·.name)=b.tabs.map (·.name):=by
 show (b.tabs.set k _).map _=_
 rw [List.map_set]
 refine List.ext_getElem (by simp) fun i h1 h2=>?_
 rw [List.getElem_set]
 split
 ·rename_i e
  subst e
  simp only [List.getElem_map]
  rw [getD_lt hk]
 ·rfl
theorem setTab_tabT {b:Base}{k:Nat}{t:Table}(hk:k<b.tabs.length)(nm:List UInt8):tabT (setTab b k t) nm=if tabN b nm=k then t else tabT b nm:=by
 have:=setTab_tabK (t:=t) hk (tabN b nm)
 unfold tabT
 rw [tabN_names (setTab_names hk)]
 exact this
theorem setTab_skel {b:Base}{k:Nat}{t:Table}(hk:k<b.tabs.length)(h:lastS t=lastS (tabK b k)):Skel (setTab b k t) b:=by
 refine ⟨setTab_names hk,fun i hi=>?_⟩
 rw [setTab_tabK hk]
 split
 ·rename_i e;rw [e];exact h
 ·rfl
def Held (b:Base):Prop:=∀ i,i<b.links.length→LinkHolds b (b.links.getD i default)
theorem setTab_ok {b:Base}{k:Nat}{t:Table}(h:BaseOK b)(hk:k<b.tabs.length)(ht:TabOK t)(hs:lastS t=lastS (tabK b k))(hh:Held (setTab b k t)):BaseOK (setTab b k t):=by
 have sk:=setTab_skel hk hs
 refine ⟨fun i hi=>?_,by rw [setTab_len];exact h.ntab,h.nlink,fun i hi=>⟨sk.fits (h.links i hi).fits,(h.links i hi).apart,hh i hi⟩⟩
 rw [setTab_len] at hi
 refine sk.place (by rw [setTab_len];exact hi) (h.tabs i hi) ?_
 rw [setTab_tabK hk]
 split
 ·exact ht
 ·exact (h.tabs i hi).ok
theorem setTab_sm {b:Base}{k:Nat}{t:Table}(h:SmB b)(hk:k<b.tabs.length)(ht:SmT t):SmB (setTab b k t):=by
 refine ⟨by rw [setTab_len];exact h.ntab,h.nlink,fun i hi=>?_,fun i hi=>?_⟩
 ·rw [name_at (setTab_names hk) hi]
  rw [setTab_len] at hi
  exact h.names i hi
 ·rw [setTab_len] at hi
  rw [setTab_tabK hk]
  split
  ·exact ht
  ·exact h.tabs i hi
open Classical in
noncomputable def writeB (b:Base) (k:Nat) (t:Table×Int):Base×Int:=
 if t.2≠0 then (b,t.2) else if Held (setTab b k t.1) then (setTab b k t.1,0) else (b,7)
abbrev nilB:Base:=⟨[],[]⟩
noncomputable def putX (b:Base) (nm:List UInt8) (xs:List Set):Base×Int:=if tabN b nm<b.tabs.length then writeB b (tabN b nm) (putT (tabT b nm) xs) else (b,5)
noncomputable def setX (b:Base) (nm:List UInt8) (id:Int) (xs:List Set):Base×Int:=if tabN b nm<b.tabs.length then writeB b (tabN b nm) (setT (tabT b nm) id xs) else (b,5)
theorem writeB_ok {b:Base}{k:Nat}{t:Table×Int}(h:BaseOK b)(hk:k<b.tabs.length)(ht:TabOK t.1)(hs:lastS t.1=lastS (tabK b k)):BaseOK (writeB b k t).1:=by
 unfold writeB
 split
 ·exact h
 split
 ·rename_i hh;exact setTab_ok h hk ht hs hh
 ·exact h
theorem writeB_sm {b:Base}{k:Nat}{t:Table×Int}(h:SmB b)(hk:k<b.tabs.length)(ht:SmT t.1):SmB (writeB b k t).1:=by
 unfold writeB
 split
 ·exact h
 split
 ·exact setTab_sm h hk ht
 ·exact h
theorem putT_last (t:Table)(xs:List Set):lastS (putT t xs).1=lastS t:=by
 rcases putT_cases t xs with ⟨row,_,e⟩|⟨e,_⟩
 ·rw [e];rfl
 ·rw [e]
theorem setT_last (t:Table)(id:Int)(xs:List Set):lastS (setT t id xs).1=lastS t:=by
 rcases setT_cases t id xs with ⟨row,_,e⟩|⟨e,_⟩
 ·rw [e];rfl
 ·rw [e]
theorem putX_good {b:Base}{nm:List UInt8}{xs:List Set}(h:GoodB b)(hx:SmX xs):GoodB (putX b nm xs).1:=by
 unfold putX
 split
 ·rename_i hk
  have g:=h.tabT hk
  exact ⟨writeB_ok h.ok hk (putT_ok g.ok) (putT_last _ _),writeB_sm h.sm hk (putT_sm g.ok g.sm hx)⟩
 ·exact h
theorem setX_good {b:Base}{nm:List UInt8}{id:Int}{xs:List Set}(h:GoodB b)(hx:SmX xs):GoodB (setX b nm id xs).1:=by
 unfold setX
 split
 ·rename_i hk
  have g:=h.tabT hk
  exact ⟨writeB_ok h.ok hk (setT_ok g.ok) (setT_last _ _ _),writeB_sm h.sm hk (setT_sm g.ok g.sm hx)⟩
 ·exact h
abbrev newT (s:List Col):Table:=⟨s,[],[],1⟩
def addTab (b:Base)(nm:List UInt8)(s:List Col):Base:=⟨b.tabs++[⟨nm,newT s⟩],b.links⟩
open Classical in
noncomputable def tableX (b:Base) (nm:List UInt8) (s:List Col):Base×Int:=
 if ¬ NameOK nm∨tabN b nm<b.tabs.length∨¬ ShapeOK s then (b,1) else if b.tabs.length=3 then (b,4) else (addTab b nm s,0)
open Classical in
noncomputable def tableBB (b:Base) (nm:List UInt8) (s:List Col):Base×Int:=if BaseOK b then tableX b nm s else (nilB,1)
theorem newT_good {s:List Col}(h:ShapeOK s):Good (newT s):=
 ⟨tabOK_of h ⟨s,rfl⟩ (by simp) (by simp) (Int.le_refl _) (show (1:Int)≤60 by decide) (fun _ h=>by cases h) .nil .nil,⟨h.sm,⟨by simp,fun _ h=>by cases h⟩,by simp,fun k hk=>by simp at hk⟩⟩
theorem addTab_len (b:Base)(nm:List UInt8)(s:List Col):(addTab b nm s).tabs.length=b.tabs.length+1:=by show (b.tabs++[_]).length=_;simp
theorem addTab_get {b:Base}{nm:List UInt8}{s:List Col}{i:Nat}(hi:i<b.tabs.length):(addTab b nm s).tabs.getD i default=b.tabs.getD i default:=by
 show (b.tabs++[_]).getD i default=_
 rw [List.getD_eq_getElem?_getD,List.getElem?_append_left hi,List.getD_eq_getElem?_getD]
theorem addTab_new {b:Base}{nm:List UInt8}{s:List Col}:(addTab b nm s).tabs.getD b.tabs.length default=⟨nm,newT s⟩:=by
 show (b.tabs++[_]).getD _ default=_
 simp [List.getD_eq_getElem?_getD]
theorem addTab_tabN {b:Base}{nm:List UInt8}{s:List Col}{x:List UInt8}(hx:tabN b x<b.tabs.length):tabN (addTab b nm s) x=tabN b x:=by
 show (b.tabs++[_]).findIdx _=_
 unfold tabN at hx
 rw [List.findIdx_append,if_pos hx];rfl
theorem addTab_tabN_new {b:Base}{nm:List UInt8}{s:List Col}(hx:¬ tabN b nm<b.tabs.length):tabN (addTab b nm s) nm=b.tabs.length:=by
 show (b.tabs++[_]).findIdx _=_
 unfold tabN at hx
 rw [List.findIdx_append,if_neg hx]
 simp [List.findIdx_cons]
theorem addTab_tabT {b:Base}{nm:List UInt8}{s:List Col}{x:List UInt8}(hx:tabN b x<b.tabs.length):tabT (addTab b nm s) x=tabT b x:=by
 unfold tabT
 rw [addTab_tabN hx,addTab_get hx]
theorem LinkFits.same {a b:Base}{l:Link}(h:LinkFits b l)(hl:b.tabs.length≤a.tabs.length)(h1:tabN a l.from_=tabN b l.from_)(h2:tabN a l.to=tabN b l.to)(h3:lastS (tabT a l.from_)=lastS (tabT b l.from_)):LinkFits a l:=by
 have ec:colN a l=colN b l:=by unfold colN;rw [h3]
 exact ⟨by rw [h1];exact Nat.lt_of_lt_of_le h.src hl,by rw [h2];exact Nat.lt_of_lt_of_le h.dst hl,h.lo,h.hi,by rw [ec,h3];exact h.col,by rw [ec,h3];exact h.kind,by rw [ec,h3];exact h.need⟩
theorem LinkHolds.same {a b:Base}{l:Link}(h:LinkHolds b l)(h1:tabT a l.from_=tabT b l.from_)(h2:tabT a l.to=tabT b l.to):LinkHolds a l:=by
 unfold LinkHolds RowHolds colV colN at *
 rw [h1,h2];exact h
theorem addTab_ok {b:Base}{nm:List UInt8}{s:List Col}(h:BaseOK b)(h1:NameOK nm)(h2:¬ tabN b nm<b.tabs.length)(h3:ShapeOK s)(h4:b.tabs.length≠3):BaseOK (addTab b nm s):=by
 have hn:=h.ntab
 refine ⟨fun k hk=>?_,by rw [addTab_len];omega,h.nlink,fun i hi=>?_⟩
 ·rw [addTab_len] at hk
  by_cases hkl:k<b.tabs.length
  ·have g:=h.tabs k hkl
   have e:=addTab_get (nm:=nm) (s:=s) hkl
   refine ⟨by rw [e];exact g.name,?_,?_⟩
   ·rw [e,addTab_tabN (by rw [g.place];exact hkl)];exact g.place
   ·unfold tabK;rw [e];exact g.ok
  ·have:k=b.tabs.length:=by omega
   subst this
   refine ⟨by rw [addTab_new];exact h1,by rw [addTab_new];exact addTab_tabN_new h2,?_⟩
   unfold tabK;rw [addTab_new];exact (newT_good h3).ok
 ·have g:=h.links i hi
  have e1:=addTab_tabT (nm:=nm) (s:=s) g.fits.src
  have e2:=addTab_tabT (nm:=nm) (s:=s) g.fits.dst
  exact ⟨g.fits.same (by rw [addTab_len];omega) (addTab_tabN g.fits.src) (addTab_tabN g.fits.dst) (by rw [show tabT (addTab b nm s) (b.links.getD i default).from_=_ from e1]),g.apart,g.holds.same e1 e2⟩
theorem NameOK.sm {s:List UInt8}(h:NameOK s):s.length≤1000:=by have:=h.2.2;omega
theorem addTab_sm {b:Base}{nm:List UInt8}{s:List Col}(h:SmB b)(h1:NameOK nm)(h3:ShapeOK s)(h4:b.tabs.length≤500):SmB (addTab b nm s):=by
 refine ⟨by rw [addTab_len];omega,h.nlink,fun k hk=>?_,fun k hk=>?_⟩<;>rw [addTab_len] at hk
 ·by_cases hkl:k<b.tabs.length
  ·rw [addTab_get hkl];exact h.names k hkl
  ·have:k=b.tabs.length:=by omega
   subst this
   rw [addTab_new];exact h1.sm
 ·unfold tabK
  by_cases hkl:k<b.tabs.length
  ·rw [addTab_get hkl];exact h.tabs k hkl
  ·have:k=b.tabs.length:=by omega
   subst this
   rw [addTab_new];exact (newT_good h3).sm
theorem tableX_good {b:Base}{nm:List UInt8}{s:List Col}(h:GoodB b):GoodB (tableX b nm s).1:=by
 unfold tableX
 split
 ·exact h
 rename_i h1
 split
 ·exact h
 rename_i h3
 have g1:NameOK nm:=Classical.byContradiction fun hh=>h1 (.inl hh)
 have g2:¬ tabN b nm<b.tabs.length:=fun hh=>h1 (.inr (.inl hh))
 have g3:ShapeOK s:=Classical.byContradiction fun hh=>h1 (.inr (.inr hh))
 exact ⟨addTab_ok h.ok g1 g2 g3 h3,addTab_sm h.sm g1 g3 (by have:=h.ok.ntab;omega)⟩
theorem nilB_ok:BaseOK nilB:=⟨fun _ h=>absurd h (Nat.not_lt_zero _),by simp,by simp,fun _ h=>absurd h (Nat.not_lt_zero _)⟩
theorem nilB_sm:SmB nilB:=⟨by simp,by simp,fun _ h=>absurd h (Nat.not_lt_zero _),fun _ h=>absurd h (Nat.not_lt_zero _)⟩
theorem nilB_good:GoodB nilB:=⟨nilB_ok,nilB_sm⟩
def addLink (b:Base)(l:Link):Base:=⟨b.tabs,b.links++[l]⟩
def Linked (b:Base)(nm col:List UInt8):Prop:=∃ k,k<b.links.length∧(b.links.getD k default).from_=nm∧(b.links.getD k default).col=col
open Classical in
noncomputable def linkX (b:Base) (l:Link):Base×Int:=
 if ¬ LinkFits b l∨Linked b l.from_ l.col then (b,1) else if ¬ LinkHolds b l then (b,7) else if b.links.length=4 then (b,4) else (addLink b l,0)
open Classical in
noncomputable def linkBB (b:Base) (l:Link):Base×Int:=if BaseOK b then linkX b l else (nilB,1)
theorem addLink_get {b:Base}{l:Link}{i:Nat}(hi:i<b.links.length):(addLink b l).links.getD i default=b.links.getD i default:=by
 show (b.links++[_]).getD i default=_
 rw [List.getD_eq_getElem?_getD,List.getElem?_append_left hi,List.getD_eq_getElem?_getD]
theorem addLink_new {b:Base}{l:Link}:(addLink b l).links.getD b.links.length default=l:=by
 show (b.links++[_]).getD _ default=_
 simp [List.getD_eq_getElem?_getD]
theorem addLink_len (b:Base)(l:Link):(addLink b l).links.length=b.links.length+1:=by show (b.links++[_]).length=_;simp
theorem addLink_ok {b:Base}{l:Link}(h:BaseOK b)(h1:LinkFits b l)(h2:¬ Linked b l.from_ l.col)(h3:LinkHolds b l)(h4:b.links.length≠4):BaseOK (addLink b l):=by
 have hn:=h.nlink
 have fit:∀ {x:Link},LinkFits b x→LinkFits (addLink b l) x:=fun g=>⟨g.src,g.dst,g.lo,g.hi,g.col,g.kind,g.need⟩
 have hld:∀ {x:Link},LinkHolds b x→LinkHolds (addLink b l) x:=fun g=>g
 refine ⟨fun k hk=>have g:=h.tabs k hk;⟨g.name,g.place,g.ok⟩,h.ntab,by rw [addLink_len];omega,fun i hi=>?_⟩
 rw [addLink_len] at hi
 by_cases hil:i<b.links.length
 ·have g:=h.links i hil
  have e:=addLink_get (l:=l) hil
  refine ⟨by rw [e];exact fit g.fits,fun k hk=>?_,by rw [e];exact hld g.holds⟩
  rw [e,addLink_get (show k<b.links.length by omega)];exact g.apart k hk
 ·have:i=b.links.length:=by omega
  subst this
  refine ⟨by rw [addLink_new];exact fit h1,fun k hk=>?_,by rw [addLink_new];exact hld h3⟩
  rw [addLink_new,addLink_get hk]
  exact fun hh=>h2 ⟨k,hk,hh.1,hh.2⟩
theorem addLink_sm {b:Base}{l:Link}(h:SmB b)(h4:b.links.length≤500):SmB (addLink b l):=⟨h.ntab,by rw [addLink_len];omega,h.names,h.tabs⟩
theorem linkX_good {b:Base}{l:Link}(h:GoodB b):GoodB (linkX b l).1:=by
 unfold linkX
 split
 ·exact h
 rename_i h1
 split
 ·exact h
 rename_i h2
 split
 ·exact h
 rename_i h3
 exact ⟨addLink_ok h.ok (Classical.byContradiction fun hh=>h1 (.inl hh)) (fun hh=>h1 (.inr hh)) (Classical.byContradiction h2) h3,addLink_sm h.sm (by have:=h.ok.nlink;omega)⟩
end Go.Proofs.YtdpigighgmipfaaGreatDoor
