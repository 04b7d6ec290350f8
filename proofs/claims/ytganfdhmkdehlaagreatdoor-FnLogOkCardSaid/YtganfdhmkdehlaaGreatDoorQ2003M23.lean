/- Bases: where a table is, which links fit and hold, when a base is right. -/
import Derived.Test.YtganfdhmkdehlaaGreatDoorQ2003M17
import Derived.Test.YtganfdhmkdehlaaGreatDoorQ2003B10
set_option linter.all false
namespace Go.Proofs.YtganfdhmkdehlaaGreatDoor
open Go Go.HL
variable {fu:Nat}
def tabN (b:ac)(nm:List UInt8):Nat:=b.tabs.findIdx fun t=>decide (t.name=nm)
def mD (b:ac)(nm:List UInt8):Int:=if tabN b nm<b.tabs.length then (tabN b nm:Int) else -1
def tabT (b:ac)(nm:List UInt8):ab:=(b.tabs.getD (tabN b nm) default).table
def eR (b:ac)(k:Nat):ab:=(b.tabs.getD k default).table
noncomputable def cq (b:ac) (l:aj):Nat:=atN (lastS (tabT b l.from_)) l.col
noncomputable def e8 (b:ac) (l:aj) (r:Row):Val:=(nowR (tabT b l.from_) r).getD (cq b l) default
structure av (b:ac) (l:aj):Prop where
 src:tabN b l.from_<b.tabs.length
 dst:tabN b l.to<b.tabs.length
 lo:1≤l.how
 hi:l.how≤3
 col:cq b l < (lastS (tabT b l.from_)).length
 kind:((lastS (tabT b l.from_)).getD (cq b l) default).kind=1
 need:l.how=3→((lastS (tabT b l.from_)).getD (cq b l) default).need=false
theorem av.col_sm {b:ac}{l:aj}(h:av b l)(g:ak (lastS (tabT b l.from_))):l.col.length≤1000:=by
 have h1:=h.col
 unfold cq at h1
 have h2:=(g.sm.get h1).name
 rw [eO h1] at h2
 exact h2
def ba (b:ac)(l:aj)(r:Row):Prop:=(e8 b l r).kind≠0→rowN (tabT b l.to) (e8 b l r).n < (tabT b l.to).rows.length
def aq (b:ac)(l:aj):Prop:=∀ k,k < (tabT b l.from_).rows.length→ba b l ((tabT b l.from_).rows.getD k default)
def iJ (l m:aj):Prop:=l.from_=m.from_∧l.col=m.col
def cS (b:ac)(i:Nat):Prop:=∀ k,k<i→¬ iJ (b.links.getD k default) (b.links.getD i default)
structure ck (b:ac) (k:Nat):Prop where
 name:ao (b.tabs.getD k default).name
 place:tabN b (b.tabs.getD k default).name=k
 ok:aJ (eR b k)
structure iI (b:ac) (i:Nat):Prop where
 fits:av b (b.links.getD i default)
 apart:cS b i
 holds:aq b (b.links.getD i default)
structure ah (b:ac):Prop where
 tabs:∀ k,k<b.tabs.length→ck b k
 ntab:b.tabs.length≤3
 nlink:b.links.length≤4
 links:∀ i,i<b.links.length→iI b i
structure SmB (b:ac):Prop where
 ntab:b.tabs.length≤1000
 nlink:b.links.length≤1000
 names:∀ k,k<b.tabs.length→(b.tabs.getD k default).name.length≤1000
 tabs:∀ k,k<b.tabs.length→SmT (eR b k)
structure am (b:ac):Prop where
 ok:ah b
 sm:SmB b
theorem bV {b:ac}{nm:List UInt8}(h:tabN b nm<b.tabs.length):(b.tabs.getD (tabN b nm) default).name=nm:=by
 rw [ae h]
 exact of_decide_eq_true (List.findIdx_getElem (w:=h))
theorem aF {b:ac}{nm:List UInt8}(h:tabN b nm<b.tabs.length):mD b nm=(tabN b nm:Int):=if_pos h
theorem dN {b:ac}{nm:List UInt8}(h:¬ tabN b nm<b.tabs.length):mD b nm=-1:=if_neg h
theorem am.tab {b:ac}(h:am b){k:Nat}(hk:k<b.tabs.length):oV (eR b k):=⟨(h.ok.tabs k hk).ok,h.sm.tabs k hk⟩
theorem am.tabT {b:ac}(h:am b){nm:List UInt8}(hk:tabN b nm<b.tabs.length):oV (tabT b nm):=h.tab hk
theorem vJ {b:ac}{x y:List UInt8}(hx:tabN b x<b.tabs.length)(h:tabN b x=tabN b y):x=y:=by
 have e1:=bV hx
 have e2:=bV (b:=b) (nm:=y) (h▸hx)
 rw [← e1,← e2,h]
theorem fE {a b:ac}(h:a.tabs.map (·.name)=b.tabs.map (·.name))(nm:List UInt8):tabN a nm=tabN b nm:=by
 have f:∀ l:List Tab,l.findIdx (fun t=>decide (t.name=nm))=(l.map (·.name)).findIdx fun i=>decide (i=nm):=fun l=>by rw [List.findIdx_map];rfl
 unfold tabN
 rw [f,f,h]
theorem qf {a b:ac}(h:a.tabs.map (·.name)=b.tabs.map (·.name)):a.tabs.length=b.tabs.length:=by
 have:=congrArg List.length h
 simpa using this
theorem pf {a b:ac}(h:a.tabs.map (·.name)=b.tabs.map (·.name)){k:Nat}(hk:k<a.tabs.length):(a.tabs.getD k default).name=(b.tabs.getD k default).name:=by
 have hb:k<b.tabs.length:=by rw [← qf h];exact hk
 have:=congrArg (fun l=>l.getD k ([]:List UInt8)) h
 simp only at this
 rw [ae (by simpa using hk),ae (by simpa using hb),List.getElem_map,List.getElem_map] at this
 rw [ae hk,ae hb];exact this
structure sF (a b:ac):Prop where
 names:a.tabs.map (·.name)=b.tabs.map (·.name)
 cols:∀ k,k<b.tabs.length→lastS (eR a k)=lastS (eR b k)
theorem sF.tabN {a b:ac}(h:sF a b)(nm:List UInt8):tabN a nm=tabN b nm:=fE h.names nm
theorem sF.len {a b:ac}(h:sF a b):a.tabs.length=b.tabs.length:=qf h.names
theorem sF.last {a b:ac}(h:sF a b){nm:List UInt8}(hn:Go.Proofs.YtganfdhmkdehlaaGreatDoor.tabN b nm<b.tabs.length):lastS (tabT a nm)=lastS (tabT b nm):=by
 have:=h.cols _ hn
 unfold tabT
 rw [h.tabN];exact this
theorem sF.fits {a b:ac}(h:sF a b){l:aj}(hl:av b l):av a l:=by
 have e:=h.last hl.src
 have ec:cq a l=cq b l:=by unfold cq;rw [e]
 exact ⟨by rw [h.tabN,h.len];exact hl.src,by rw [h.tabN,h.len];exact hl.dst,hl.lo,hl.hi,by rw [ec,e];exact hl.col,by rw [ec,e];exact hl.kind,by rw [ec,e];exact hl.need⟩
theorem sF.place {a b:ac}(h:sF a b){k:Nat}(hk:k<a.tabs.length)(hb:ck b k)(ht:aJ (eR a k)):ck a k:=by
 have e:=pf h.names hk
 exact ⟨by rw [e];exact hb.name,by rw [e,h.tabN];exact hb.place,ht⟩
def aV (b:ac)(k:Nat)(t:ab):ac:=⟨b.tabs.set k ⟨(b.tabs.getD k default).name,t⟩,b.links⟩
theorem bv (b:ac)(k:Nat)(t:ab):(aV b k t).tabs.length=b.tabs.length:=by show (b.tabs.set _ _).length=_;simp
theorem rH {b:ac}{k:Nat}{t:ab}(hk:k<b.tabs.length)(i:Nat):(aV b k t).tabs.getD i default=if i=k then ⟨(b.tabs.getD k default).name,t⟩ else b.tabs.getD i default:=getD_set hk
theorem setTab_tabK {b:ac}{k:Nat}{t:ab}(hk:k<b.tabs.length)(i:Nat):eR (aV b k t) i=if i=k then t else eR b i:=by
 unfold eR
 rw [rH hk]
 split<;>rfl
theorem cL {b:ac}{k:Nat}{t:ab}(hk:k<b.tabs.length):(aV b k t).tabs.map (·.name)=b.tabs.map (·.name):=by
 show (b.tabs.set k _).map _=_
 rw [List.map_set]
 refine List.ext_getElem (by simp) fun i h1 h2=>?_
 rw [List.getElem_set]
 split
 ·rename_i e
  subst e
  simp only [List.getElem_map]
  rw [ae hk]
 ·rfl
theorem oZ {b:ac}{k:Nat}{t:ab}(hk:k<b.tabs.length)(nm:List UInt8):tabT (aV b k t) nm=if tabN b nm=k then t else tabT b nm:=by
 have:=setTab_tabK (t:=t) hk (tabN b nm)
 unfold tabT
 rw [fE (cL hk)]
 exact this
theorem kr {b:ac}{k:Nat}{t:ab}(hk:k<b.tabs.length)(h:lastS t=lastS (eR b k)):sF (aV b k t) b:=by
 refine ⟨cL hk,fun i hi=>?_⟩
 rw [setTab_tabK hk]
 split
 ·rename_i e;rw [e];exact h
 ·rfl
def yj (b:ac):Prop:=∀ i,i<b.links.length→aq b (b.links.getD i default)
theorem sX {b:ac}{k:Nat}{t:ab}(h:ah b)(hk:k<b.tabs.length)(ht:aJ t)(hs:lastS t=lastS (eR b k))(hh:yj (aV b k t)):ah (aV b k t):=by
 have sk:=kr hk hs
 refine ⟨fun i hi=>?_,by rw [bv];exact h.ntab,h.nlink,fun i hi=>⟨sk.fits (h.links i hi).fits,(h.links i hi).apart,hh i hi⟩⟩
 rw [bv] at hi
 refine sk.place (by rw [bv];exact hi) (h.tabs i hi) ?_
 rw [setTab_tabK hk]
 split
 ·exact ht
 ·exact (h.tabs i hi).ok
theorem kq {b:ac}{k:Nat}{t:ab}(h:SmB b)(hk:k<b.tabs.length)(ht:SmT t):SmB (aV b k t):=by
 refine ⟨by rw [bv];exact h.ntab,h.nlink,fun i hi=>?_,fun i hi=>?_⟩
 ·rw [pf (cL hk) hi]
  rw [bv] at hi
  exact h.names i hi
 ·rw [bv] at hi
  rw [setTab_tabK hk]
  split
  ·exact ht
  ·exact h.tabs i hi
open Classical in
noncomputable def f8 (b:ac) (k:Nat) (t:ab×Int):ac×Int:=
 if t.2≠0 then (b,t.2) else if yj (aV b k t.1) then (aV b k t.1,0) else (b,7)
abbrev ly:ac:=⟨[],[]⟩
noncomputable def yv (b:ac) (nm:List UInt8) (xs:List Set):ac×Int:=if tabN b nm<b.tabs.length then f8 b (tabN b nm) (o9 (tabT b nm) xs) else (b,5)
noncomputable def yt (b:ac) (nm:List UInt8) (id:Int) (xs:List Set):ac×Int:=if tabN b nm<b.tabs.length then f8 b (tabN b nm) (nA (tabT b nm) id xs) else (b,5)
open Classical in
noncomputable def nS (b:ac) (nm:List UInt8) (xs:List Set):ac×Int:=if ah b then yv b nm xs else (ly,1)
open Classical in
noncomputable def nP (b:ac) (nm:List UInt8) (id:Int) (xs:List Set):ac×Int:=if ah b then yt b nm id xs else (ly,1)
theorem nC {b:ac}{k:Nat}{t:ab×Int}(h:ah b)(hk:k<b.tabs.length)(ht:aJ t.1)(hs:lastS t.1=lastS (eR b k)):ah (f8 b k t).1:=by
 unfold f8
 split
 ·exact h
 split
 ·rename_i hh;exact sX h hk ht hs hh
 ·exact h
theorem nB {b:ac}{k:Nat}{t:ab×Int}(h:SmB b)(hk:k<b.tabs.length)(ht:SmT t.1):SmB (f8 b k t).1:=by
 unfold f8
 split
 ·exact h
 split
 ·exact kq h hk ht
 ·exact h
theorem kx (t:ab)(xs:List Set):lastS (o9 t xs).1=lastS t:=by
 rcases putT_cases t xs with ⟨row,_,e⟩|⟨e,_⟩
 ·rw [e];rfl
 ·rw [e]
theorem kv (t:ab)(id:Int)(xs:List Set):lastS (nA t id xs).1=lastS t:=by
 rcases setT_cases t id xs with ⟨row,_,e⟩|⟨e,_⟩
 ·rw [e];rfl
 ·rw [e]
theorem tb {b:ac}{nm:List UInt8}{xs:List Set}(h:am b)(hx:SmX xs):am (yv b nm xs).1:=by
 unfold yv
 split
 ·rename_i hk
  have g:=h.tabT hk
  exact ⟨nC h.ok hk (o8 g.ok) (kx _ _),nB h.sm hk (o7 g.ok g.sm hx)⟩
 ·exact h
theorem sW {b:ac}{nm:List UInt8}{id:Int}{xs:List Set}(h:am b)(hx:SmX xs):am (yt b nm id xs).1:=by
 unfold yt
 split
 ·rename_i hk
  have g:=h.tabT hk
  exact ⟨nC h.ok hk (o0 g.ok) (kv _ _ _),nB h.sm hk (setT_sm g.ok g.sm hx)⟩
 ·exact h
abbrev Ae (s:List Col):ab:=⟨s,[],[],1⟩
def gf (b:ac)(nm:List UInt8)(s:List Col):ac:=⟨b.tabs++[⟨nm,Ae s⟩],b.links⟩
open Classical in
noncomputable def nH (b:ac) (nm:List UInt8) (s:List Col):ac×Int:=
 if ¬ ao nm∨tabN b nm<b.tabs.length∨¬ ak s then (b,1) else if b.tabs.length=3 then (b,4) else (gf b nm s,0)
open Classical in
noncomputable def gi (b:ac) (nm:List UInt8) (s:List Col):ac×Int:=if ah b then nH b nm s else (ly,1)
theorem nW {s:List Col}(h:ak s):oV (Ae s):=
 ⟨gC h ⟨s,rfl⟩ (by simp) (by simp) (Int.le_refl _) (show (1:Int)≤60 by decide) (fun _ h=>by cases h) .nil .nil,⟨h.sm,⟨by simp,fun _ h=>by cases h⟩,by simp,fun k hk=>by simp at hk⟩⟩
theorem d7 (b:ac)(nm:List UInt8)(s:List Col):(gf b nm s).tabs.length=b.tabs.length+1:=by show (b.tabs++[_]).length=_;simp
theorem f4 {b:ac}{nm:List UInt8}{s:List Col}{i:Nat}(hi:i<b.tabs.length):(gf b nm s).tabs.getD i default=b.tabs.getD i default:=by
 show (b.tabs++[_]).getD i default=_
 rw [List.getD_eq_getElem?_getD,List.getElem?_append_left hi,List.getD_eq_getElem?_getD]
theorem d6 {b:ac}{nm:List UInt8}{s:List Col}:(gf b nm s).tabs.getD b.tabs.length default=⟨nm,Ae s⟩:=by
 show (b.tabs++[_]).getD _ default=_
 simp [List.getD_eq_getElem?_getD]
theorem eP {b:ac}{nm:List UInt8}{s:List Col}{x:List UInt8}(hx:tabN b x<b.tabs.length):tabN (gf b nm s) x=tabN b x:=by
 show (b.tabs++[_]).findIdx _=_
 unfold tabN at hx
 rw [List.findIdx_append,if_pos hx];rfl
theorem ln {b:ac}{nm:List UInt8}{s:List Col}(hx:¬ tabN b nm<b.tabs.length):tabN (gf b nm s) nm=b.tabs.length:=by
 show (b.tabs++[_]).findIdx _=_
 unfold tabN at hx
 rw [List.findIdx_append,if_neg hx]
 simp [List.findIdx_cons]
theorem lm {b:ac}{nm:List UInt8}{s:List Col}{x:List UInt8}(hx:tabN b x<b.tabs.length):tabT (gf b nm s) x=tabT b x:=by
 unfold tabT
 rw [eP hx,f4 hx]
theorem av.same {a b:ac}{l:aj}(h:av b l)(hl:b.tabs.length≤a.tabs.length)(h1:tabN a l.from_=tabN b l.from_)(h2:tabN a l.to=tabN b l.to)(h3:lastS (tabT a l.from_)=lastS (tabT b l.from_)):av a l:=by
 have ec:cq a l=cq b l:=by unfold cq;rw [h3]
 exact ⟨by rw [h1];exact Nat.lt_of_lt_of_le h.src hl,by rw [h2];exact Nat.lt_of_lt_of_le h.dst hl,h.lo,h.hi,by rw [ec,h3];exact h.col,by rw [ec,h3];exact h.kind,by rw [ec,h3];exact h.need⟩
theorem aq.same {a b:ac}{l:aj}(h:aq b l)(h1:tabT a l.from_=tabT b l.from_)(h2:tabT a l.to=tabT b l.to):aq a l:=by
 unfold aq ba e8 cq at *
 rw [h1,h2];exact h
theorem vo {b:ac}{nm:List UInt8}{s:List Col}(h:ah b)(h1:ao nm)(h2:¬ tabN b nm<b.tabs.length)(h3:ak s)(h4:b.tabs.length≠3):ah (gf b nm s):=by
 have hn:=h.ntab
 refine ⟨fun k hk=>?_,by rw [d7];omega,h.nlink,fun i hi=>?_⟩
 ·rw [d7] at hk
  by_cases hkl:k<b.tabs.length
  ·have g:=h.tabs k hkl
   have e:=f4 (nm:=nm) (s:=s) hkl
   refine ⟨by rw [e];exact g.name,?_,?_⟩
   ·rw [e,eP (by rw [g.place];exact hkl)];exact g.place
   ·unfold eR;rw [e];exact g.ok
  ·have:k=b.tabs.length:=by omega
   subst this
   refine ⟨by rw [d6];exact h1,by rw [d6];exact ln h2,?_⟩
   unfold eR;rw [d6];exact (nW h3).ok
 ·have g:=h.links i hi
  have e1:=lm (nm:=nm) (s:=s) g.fits.src
  have e2:=lm (nm:=nm) (s:=s) g.fits.dst
  exact ⟨g.fits.same (by rw [d7];omega) (eP g.fits.src) (eP g.fits.dst) (by rw [show tabT (gf b nm s) (b.links.getD i default).from_=_ from e1]),g.apart,g.holds.same e1 e2⟩
theorem ao.sm {s:List UInt8}(h:ao s):s.length≤1000:=by have:=h.2.2;omega
theorem vn {b:ac}{nm:List UInt8}{s:List Col}(h:SmB b)(h1:ao nm)(h3:ak s)(h4:b.tabs.length≤500):SmB (gf b nm s):=by
 refine ⟨by rw [d7];omega,h.nlink,fun k hk=>?_,fun k hk=>?_⟩<;>rw [d7] at hk
 ·by_cases hkl:k<b.tabs.length
  ·rw [f4 hkl];exact h.names k hkl
  ·have:k=b.tabs.length:=by omega
   subst this
   rw [d6];exact h1.sm
 ·unfold eR
  by_cases hkl:k<b.tabs.length
  ·rw [f4 hkl];exact h.tabs k hkl
  ·have:k=b.tabs.length:=by omega
   subst this
   rw [d6];exact (nW h3).sm
theorem oW {b:ac}{nm:List UInt8}{s:List Col}(h:am b):am (nH b nm s).1:=by
 unfold nH
 split
 ·exact h
 rename_i h1
 split
 ·exact h
 rename_i h3
 have g1:ao nm:=Classical.byContradiction fun hh=>h1 (.inl hh)
 have g2:¬ tabN b nm<b.tabs.length:=fun hh=>h1 (.inr (.inl hh))
 have g3:ak s:=Classical.byContradiction fun hh=>h1 (.inr (.inr hh))
 exact ⟨vo h.ok g1 g2 g3 h3,vn h.sm g1 g3 (by have:=h.ok.ntab;omega)⟩
theorem yB:ah ly:=⟨fun _ h=>absurd h (Nat.not_lt_zero _),by simp,by simp,fun _ h=>absurd h (Nat.not_lt_zero _)⟩
theorem yA:SmB ly:=⟨by simp,by simp,fun _ h=>absurd h (Nat.not_lt_zero _),fun _ h=>absurd h (Nat.not_lt_zero _)⟩
theorem gL:am ly:=⟨yB,yA⟩
def dU (b:ac)(l:aj):ac:=⟨b.tabs,b.links++[l]⟩
def bJ (b:ac)(nm col:List UInt8):Prop:=∃ k,k<b.links.length∧(b.links.getD k default).from_=nm∧(b.links.getD k default).col=col
open Classical in
noncomputable def tv (b:ac) (l:aj):ac×Int:=
 if ¬ av b l∨bJ b l.from_ l.col then (b,1) else if ¬ aq b l then (b,7) else if b.links.length=4 then (b,4) else (dU b l,0)
open Classical in
noncomputable def kH (b:ac) (l:aj):ac×Int:=if ah b then tv b l else (ly,1)
theorem dp {b:ac}{l:aj}{i:Nat}(hi:i<b.links.length):(dU b l).links.getD i default=b.links.getD i default:=by
 show (b.links++[_]).getD i default=_
 rw [List.getD_eq_getElem?_getD,List.getElem?_append_left hi,List.getD_eq_getElem?_getD]
theorem addLink_new {b:ac}{l:aj}:(dU b l).links.getD b.links.length default=l:=by
 show (b.links++[_]).getD _ default=_
 simp [List.getD_eq_getElem?_getD]
theorem addLink_len (b:ac)(l:aj):(dU b l).links.length=b.links.length+1:=by show (b.links++[_]).length=_;simp
theorem sx {b:ac}{l:aj}(h:ah b)(h1:av b l)(h2:¬ bJ b l.from_ l.col)(h3:aq b l)(h4:b.links.length≠4):ah (dU b l):=by
 have hn:=h.nlink
 have fit:∀ {x:aj},av b x→av (dU b l) x:=fun g=>⟨g.src,g.dst,g.lo,g.hi,g.col,g.kind,g.need⟩
 have hld:∀ {x:aj},aq b x→aq (dU b l) x:=fun g=>g
 refine ⟨fun k hk=>have g:=h.tabs k hk;⟨g.name,g.place,g.ok⟩,h.ntab,by rw [addLink_len];omega,fun i hi=>?_⟩
 rw [addLink_len] at hi
 by_cases hil:i<b.links.length
 ·have g:=h.links i hil
  have e:=dp (l:=l) hil
  refine ⟨by rw [e];exact fit g.fits,fun k hk=>?_,by rw [e];exact hld g.holds⟩
  rw [e,dp (show k<b.links.length by omega)];exact g.apart k hk
 ·have:i=b.links.length:=by omega
  subst this
  refine ⟨by rw [addLink_new];exact fit h1,fun k hk=>?_,by rw [addLink_new];exact hld h3⟩
  rw [addLink_new,dp hk]
  exact fun hh=>h2 ⟨k,hk,hh.1,hh.2⟩
theorem sw {b:ac}{l:aj}(h:SmB b)(h4:b.links.length≤500):SmB (dU b l):=⟨h.ntab,by rw [addLink_len];omega,h.names,h.tabs⟩
theorem rP {b:ac}{l:aj}(h:am b):am (tv b l).1:=by
 unfold tv
 split
 ·exact h
 rename_i h1
 split
 ·exact h
 rename_i h2
 split
 ·exact h
 rename_i h3
 exact ⟨sx h.ok (Classical.byContradiction fun hh=>h1 (.inl hh)) (fun hh=>h1 (.inr hh)) (Classical.byContradiction h2) h3,sw h.sm (by have:=h.ok.nlink;omega)⟩
end Go.Proofs.YtganfdhmkdehlaaGreatDoor
/- Columns of a table of a base changed: links go with theirs. -/
namespace Go.Proofs.YtganfdhmkdehlaaGreatDoor
open Go Go.HL
variable {fu:Nat}
def gj (c:aa)(col:List UInt8):List UInt8:=if c.kind=3∧col=c.name then c.new else col
structure zA (s:List Col) (c:aa) (col:List UInt8) (i:Nat):Prop where
 at_:atN (chg s c) (gj c col)=i
 lt:i < (chg s c).length
 kind:((chg s c).getD i default).kind=(s.getD (atN s col) default).kind
 need:((chg s c).getD i default).need=(s.getD (atN s col) default).need
 row:∀ row:List Val,row.length=s.length→(aB s c row).getD i default=row.getD (atN s col) default
theorem pX {s:List Col}{c:aa}{col:List UInt8}(hc:Can s c)(hi:atN s col<s.length)(hne:c.kind=2∨c.kind=4→col≠c.name):∃ i,zA s c col i:=by
 have hnm:=eO hi
 have key:∀ i,i < (chg s c).length→((chg s c).getD i default).name=gj c col→atN (chg s c) (gj c col)=i:=fun i h1 h2=>by rw [← h2];exact Bc hc.ok h1
 by_cases k1:c.kind=1
 ·have e:chg s c=s++[c.col]:=by unfold chg;rw [if_pos k1]
  have ea:∀ r,aB s c r=r++[c.col.def_]:=fun r=>by unfold aB;rw [if_pos k1]
  have er:gj c col=col:=by unfold gj;rw [if_neg (fun h=>by omega)]
  have eg:(chg s c).getD (atN s col) default=s.getD (atN s col) default:=by rw [e,List.getD_eq_getElem?_getD,List.getElem?_append_left hi,List.getD_eq_getElem?_getD]
  have hl:atN s col < (chg s c).length:=by rw [e];simp;omega
  refine ⟨atN s col,key _ hl (by rw [eg,er,hnm]),hl,by rw [eg],by rw [eg],fun row hrow=>?_⟩
  rw [ea,List.getD_eq_getElem?_getD,List.getElem?_append_left (by omega),List.getD_eq_getElem?_getD]
 have hat:=hc.may.there k1
 have hjn:=eO hat
 by_cases k2:c.kind=2
 ·have e:chg s c=s.eraseIdx (atN s c.name):=by unfold chg;rw [if_neg k1,if_pos k2]
  have ea:∀ r,aB s c r=r.eraseIdx (atN s c.name):=fun r=>by unfold aB;rw [if_neg k1,if_pos k2]
  have er:gj c col=col:=by unfold gj;rw [if_neg (fun h=>by omega)]
  have hij:atN s col≠atN s c.name:=fun h=>hne (.inl k2) (by rw [← hnm,h,hjn])
  have hl:(chg s c).length=s.length-1:=by rw [e,List.length_eraseIdx,if_pos hat]
  by_cases hlt:atN s col<atN s c.name
  ·have eg:(chg s c).getD (atN s col) default=s.getD (atN s col) default:=by rw [e,bx,if_pos hlt]
   refine ⟨atN s col,key _ (by omega) (by rw [eg,er,hnm]),by omega,by rw [eg],by rw [eg],fun row hrow=>?_⟩
   rw [ea,bx,if_pos hlt]
  ·have h1:¬ atN s col-1<atN s c.name:=by omega
   have h2:atN s col-1+1=atN s col:=by omega
   have eg:(chg s c).getD (atN s col-1) default=s.getD (atN s col) default:=by rw [e,bx,if_neg h1,h2]
   refine ⟨atN s col-1,key _ (by omega) (by rw [eg,er,hnm]),by omega,by rw [eg],by rw [eg],fun row hrow=>?_⟩
   rw [ea,bx,if_neg h1,h2]
 by_cases k3:c.kind=3
 ·have e:chg s c=s.set (atN s c.name) { s.getD (atN s c.name) default with name:=c.new }:=by unfold chg;rw [if_neg k1,if_neg k2,if_pos k3]
  have ea:∀ r,aB s c r=r:=fun r=>by unfold aB;rw [if_neg k1,if_neg k2,if_neg (by omega)]
  have hl:(chg s c).length=s.length:=by rw [e];simp
  by_cases hij:atN s col=atN s c.name
  ·have hcol:col=c.name:=by rw [← hnm,hij,hjn]
   have er:gj c col=c.new:=if_pos ⟨k3,hcol⟩
   have eg:(chg s c).getD (atN s col) default = { s.getD (atN s c.name) default with name:=c.new }:=by rw [e,getD_set hat,if_pos hij]
   exact ⟨atN s col,key _ (by omega) (by rw [eg,er]),by omega,by rw [eg,hij],by rw [eg,hij],fun row _=>by rw [ea]⟩
  ·have hcol:col≠c.name:=fun h=>hij (by rw [h])
   have er:gj c col=col:=if_neg fun h=>hcol h.2
   have eg:(chg s c).getD (atN s col) default=s.getD (atN s col) default:=by rw [e,getD_set hat,if_neg hij]
   exact ⟨atN s col,key _ (by omega) (by rw [eg,er,hnm]),by omega,by rw [eg],by rw [eg],fun row _=>by rw [ea]⟩
 have k4:c.kind=4:=by have:=hc.may.named.kinds;omega
 have e:chg s c=s.set (atN s c.name) { s.getD (atN s c.name) default with kind:=c.col.kind,def_:=valAs (s.getD (atN s c.name) default).def_ c.col.kind }:=by unfold chg;rw [if_neg k1,if_neg k2,if_neg k3]
 have ea:∀ r,aB s c r=r.set (atN s c.name) (valAs (r.getD (atN s c.name) default) c.col.kind):=fun r=>by unfold aB;rw [if_neg k1,if_neg k2,if_pos k4]
 have er:gj c col=col:=by unfold gj;rw [if_neg (fun h=>by omega)]
 have hij:atN s col≠atN s c.name:=fun h=>hne (.inr k4) (by rw [← hnm,h,hjn])
 have hl:(chg s c).length=s.length:=by rw [e];simp
 have eg:(chg s c).getD (atN s col) default=s.getD (atN s col) default:=by rw [e,getD_set hat,if_neg hij]
 refine ⟨atN s col,key _ (by omega) (by rw [eg,er,hnm]),by omega,by rw [eg],by rw [eg],fun row hrow=>?_⟩
 rw [ea,getD_set (by omega),if_neg hij]
theorem ta {s:List Col}{c:aa}{x y:List UInt8}(hc:Can s c)(hx:atN s x<s.length)(hy:atN s y<s.length)(nx:c.kind=2∨c.kind=4→x≠c.name)(ny:c.kind=2∨c.kind=4→y≠c.name)(h:gj c x=gj c y):x=y:=by
 obtain ⟨p,hp⟩:=pX hc hx nx
 obtain ⟨q,hq⟩:=pX hc hy ny
 have hpq:p=q:=by rw [← hp.at_,← hq.at_,h]
 have u1:=hp.row ((List.range s.length).map fun z:Nat=>(⟨(z:Int),0,[]⟩:Val)) (by simp)
 have u2:=hq.row ((List.range s.length).map fun z:Nat=>(⟨(z:Int),0,[]⟩:Val)) (by simp)
 rw [hpq,u2,ae (by simpa using hy),ae (by simpa using hx)] at u1
 simp only [List.getElem_map,List.getElem_range,Val.mk.injEq,and_self,and_true] at u1
 have u3:atN s y=atN s x:=by omega
 rw [← eO hx,← u3,eO hy]
def bj (nm:List UInt8)(c:aa)(l:aj):aj:=if c.kind=3∧l.from_=nm∧l.col=c.name then { l with col:=c.new } else l
theorem reLink_from (nm:List UInt8)(c:aa)(l:aj):(bj nm c l).from_=l.from_:=by unfold bj;split<;>rfl
theorem nR (nm:List UInt8)(c:aa)(l:aj):(bj nm c l).to=l.to:=by unfold bj;split<;>rfl
theorem iM (nm:List UInt8)(c:aa)(l:aj):(bj nm c l).how=l.how:=by unfold bj;split<;>rfl
theorem iN {nm:List UInt8}{c:aa}{l:aj}(h:l.from_=nm):(bj nm c l).col=gj c l.col:=by
 unfold bj gj
 by_cases h1:c.kind=3∧l.col=c.name
 ·rw [if_pos ⟨h1.1,h,h1.2⟩,if_pos h1]
 ·rw [if_neg (fun hh=>h1 ⟨hh.1,hh.2.2⟩),if_neg h1]
theorem fc {nm:List UInt8}{c:aa}{l:aj}(h:l.from_≠nm):bj nm c l=l:=if_neg fun hh=>h hh.2.1
def bc (b:ac)(k:Nat)(t:ab)(nm:List UInt8)(c:aa):ac:=⟨(aV b k t).tabs,b.links.map (bj nm c)⟩
theorem gw {b:ac}{k:Nat}{t:ab}{nm:List UInt8}{c:aa}{i:Nat}(hi:i<b.links.length):(bc b k t nm c).links.getD i default=bj nm c (b.links.getD i default):=by
 show (b.links.map _).getD i default=_
 rw [ae (by simpa using hi),List.getElem_map,ae hi]
theorem fz (b:ac)(k:Nat)(t:ab)(nm:List UInt8)(c:aa):(bc b k t nm c).links.length=b.links.length:=by show (b.links.map _).length=_;simp
open Classical in
noncomputable def gx (b:ac) (nm:List UInt8) (c:aa):ac×Int:=
 if tabN b nm<b.tabs.length then
  if (d5 (tabT b nm) c).2=1 then (b,1)
  else if (c.kind=2∨c.kind=4)∧bJ b nm c.name then (b,8)
  else if (d5 (tabT b nm) c).2≠0 then (b,(d5 (tabT b nm) c).2)
  else (bc b (tabN b nm) (d5 (tabT b nm) c).1 nm c,0)
 else (b,5)
open Classical in
noncomputable def dM (b:ac) (nm:List UInt8) (c:aa):ac×Int:=if ah b then gx b nm c else (ly,1)
theorem uZ {t:ab}{c:aa}(h:(d5 t c).2=0):je t c∧t.changes.length≠8∧d5 t c=(mw t c,0):=by
 rcases chgT_cases t c with ⟨h1,h2⟩|⟨h1,h2⟩|h1|⟨h1,h2⟩
 ·exact ⟨h1,h2,vc h1 h2⟩
 ·rw [u6 h1 h2] at h;exact absurd (show (4:Int)=0 from h) (by decide)
 ·rw [u7 h1] at h;exact absurd (show (1:Int)=0 from h) (by decide)
 ·rw [u0 h1 h2] at h;exact absurd (show (2:Int)=0 from h) (by decide)
theorem sv {b:ac}{nm:List UInt8}{c:aa}(h:am b)(hk:tabN b nm<b.tabs.length)(hu:¬ ((c.kind=2∨c.kind=4)∧bJ b nm c.name))(hz:(d5 (tabT b nm) c).2=0) :
     ah (bc b (tabN b nm) (d5 (tabT b nm) c).1 nm c):=by
 obtain ⟨hf,h8,e⟩:=uZ hz
 have g:=h.tabT hk
 have hrt:=g.ok.rt g.sm
 have hs:=hrt.okLast
 have hok:aJ (mw (tabT b nm) c):=by have:=zi (c:=c) g.ok g.sm;rwa [e] at this
 have hl:lastS (mw (tabT b nm) c)=chg (lastS (tabT b nm)) c:=iS hrt.last hf.can
 have hnow:∀ k,k < (tabT b nm).rows.length→nowR (mw (tabT b nm) c) ((tabT b nm).rows.getD k default)=aB (lastS (tabT b nm)) c (nowR (tabT b nm) ((tabT b nm).rows.getD k default)):=fun k hk=>gH hrt (g.ok.rows k hk).ver
 rw [e]
 show ah (bc b (tabN b nm) (mw (tabT b nm) c) nm c)
 have hN:∀ x,tabN (bc b (tabN b nm) (mw (tabT b nm) c) nm c) x=tabN b x:=fun x=>fE (cL hk) x
 have hT:∀ x,tabT (bc b (tabN b nm) (mw (tabT b nm) c) nm c) x=if tabN b x=tabN b nm then mw (tabT b nm) c else tabT b x:=fun x=>oZ hk x
 have hlen:(bc b (tabN b nm) (mw (tabT b nm) c) nm c).tabs.length=b.tabs.length:=bv _ _ _
 have hrows:∀ x,(tabT (bc b (tabN b nm) (mw (tabT b nm) c) nm c) x).rows=(tabT b x).rows:=fun x=>by
  rw [hT]
  split
  ·rename_i ex
   unfold tabT
   rw [ex];rfl
  ·rfl
 refine ⟨fun i hi=>?_,by rw [hlen];exact h.ok.ntab,by rw [fz];exact h.ok.nlink,fun i hi=>?_⟩
 ·rw [hlen] at hi
  have e1:=pf (cL (t:=mw (tabT b nm) c) hk) (k:=i) (by rw [bv];exact hi)
  have gg:=h.ok.tabs i hi
  refine ⟨?_,?_,?_⟩
  ·show ao ((aV b _ _).tabs.getD i default).name
   rw [e1];exact gg.name
  ·rw [hN]
   show tabN b ((aV b _ _).tabs.getD i default).name=i
   rw [e1];exact gg.place
  ·show aJ (eR (aV b _ _) i)
   rw [setTab_tabK hk]
   split
   ·exact hok
   ·exact gg.ok
 ·rw [fz] at hi
  have gl:=h.ok.links i hi
  have hapart:cS (bc b (tabN b nm) (mw (tabT b nm) c) nm c) i:=fun k hki=>by
   rw [gw hi,gw (show k<b.links.length by omega)]
   rintro ⟨h1,h2⟩
   rw [reLink_from,reLink_from] at h1
   refine gl.apart k hki ⟨h1,?_⟩
   by_cases hn:(b.links.getD i default).from_=nm
   case neg=>rwa [fc hn,fc (by rw [h1];exact hn)] at h2
   have hn':(b.links.getD k default).from_=nm:=by rw [h1];exact hn
   rw [iN hn,iN hn'] at h2
   have f1:=gl.fits
   have f2:=(h.ok.links k (by omega)).fits
   have c1:atN (lastS (tabT b nm)) (b.links.getD i default).col < (lastS (tabT b nm)).length:=by have:=f1.col;unfold cq at this;rwa [hn] at this
   have c2:atN (lastS (tabT b nm)) (b.links.getD k default).col < (lastS (tabT b nm)).length:=by have:=f2.col;unfold cq at this;rwa [hn'] at this
   have n1:c.kind=2∨c.kind=4→(b.links.getD i default).col≠c.name:=fun q ee=>hu ⟨q,i,hi,hn,ee⟩
   have n2:c.kind=2∨c.kind=4→(b.links.getD k default).col≠c.name:=fun q ee=>hu ⟨q,k,by omega,hn',ee⟩
   exact ta hf.can c2 c1 n2 n1 h2
  have hL:=gw (b:=b) (k:=tabN b nm) (t:=mw (tabT b nm) c) (nm:=nm) (c:=c) hi
  have f:=gl.fits
  have gh:=gl.holds
  clear gl
  generalize hll:b.links.getD i default=l at *
  by_cases hn:l.from_=nm
  case neg=>
   have hnN:tabN b l.from_≠tabN b nm:=fun ee=>hn (vJ f.src ee)
   have e1:tabT (bc b (tabN b nm) (mw (tabT b nm) c) nm c) l.from_=tabT b l.from_:=by rw [hT,if_neg hnN]
   rw [fc hn] at hL
   refine ⟨by rw [hL];exact f.same (by rw [hlen];exact Nat.le_refl _) (hN _) (hN _) (by rw [e1]),hapart,?_⟩
   rw [hL]
   intro k hk2
   rw [e1] at hk2 ⊢
   intro hv
   have e2:e8 (bc b (tabN b nm) (mw (tabT b nm) c) nm c) l ((tabT b l.from_).rows.getD k default)=e8 b l ((tabT b l.from_).rows.getD k default):=by unfold e8 cq;rw [e1]
   rw [e2] at hv ⊢
   have:=gh k hk2 hv
   unfold rowN at this ⊢
   rw [hrows];exact this
  have e1:tabT (bc b (tabN b nm) (mw (tabT b nm) c) nm c) l.from_=mw (tabT b nm) c:=by rw [hT,hn,if_pos rfl]
  have c1:atN (lastS (tabT b nm)) l.col < (lastS (tabT b nm)).length:=by have:=f.col;unfold cq at this;rwa [hn] at this
  obtain ⟨p,hp⟩:=pX hf.can c1 (fun q ee=>hu ⟨q,i,hi,by rw [hll];exact hn,by rw [hll];exact ee⟩)
  have ecol:cq (bc b (tabN b nm) (mw (tabT b nm) c) nm c) (bj nm c l)=p:=by
   unfold cq
   rw [reLink_from,e1,hl,iN hn];exact hp.at_
  have hkind:=f.kind
  have hneed:=f.need
  unfold cq at hkind hneed
  rw [hn] at hkind hneed
  refine ⟨?_,hapart,?_⟩
  ·rw [hL]
   refine ⟨by rw [reLink_from,hN,hlen];exact f.src,by rw [nR,hN,hlen];exact f.dst,by rw [iM];exact f.lo,by rw [iM];exact f.hi,?_,?_,fun hw=>?_⟩
   ·rw [ecol,reLink_from,e1,hl];exact hp.lt
   ·rw [ecol,reLink_from,e1,hl,hp.kind];exact hkind
   ·rw [iM] at hw
    rw [ecol,reLink_from,e1,hl,hp.need];exact hneed hw
  ·rw [hL]
   intro k hk2
   rw [reLink_from] at hk2 ⊢
   rw [hrows] at hk2 ⊢
   have hk3:k < (tabT b nm).rows.length:=by rwa [hn] at hk2
   have ev:e8 (bc b (tabN b nm) (mw (tabT b nm) c) nm c) (bj nm c l) ((tabT b l.from_).rows.getD k default)=e8 b l ((tabT b l.from_).rows.getD k default):=by
    unfold e8
    rw [ecol,reLink_from,e1,hn,hnow k hk3,hp.row _ (by have:=(g.now hk3).len;omega)]
    unfold cq
    rw [hn]
   intro hv
   rw [ev] at hv ⊢
   have:=gh k hk2 hv
   rw [nR]
   unfold rowN at this ⊢
   rw [hrows];exact this
theorem su {b:ac}{k:Nat}{t:ab}{nm:List UInt8}{c:aa}(h:SmB b)(hk:k<b.tabs.length)(ht:SmT t):SmB (bc b k t nm c):=by
 have:=kq h hk ht
 exact ⟨this.ntab,by rw [fz];exact h.nlink,this.names,this.tabs⟩
theorem jv {b:ac}{nm:List UInt8}{c:aa}(h:am b)(hc:iG c):am (gx b nm c).1:=by
 unfold gx
 split
 case isFalse=>exact h
 rename_i hk
 split
 ·exact h
 split
 ·exact h
 rename_i hu
 split
 ·exact h
 rename_i hz
 have hz0:=Classical.byContradiction hz
 have g:=h.tabT hk
 exact ⟨sv h hk hu hz0,su h.sm hk (chgT_sm g.ok g.sm hc)⟩
end Go.Proofs.YtganfdhmkdehlaaGreatDoor
