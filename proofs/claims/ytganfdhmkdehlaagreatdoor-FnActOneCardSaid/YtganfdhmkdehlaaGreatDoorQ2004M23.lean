/- Bases: where a table is, which links fit and hold, when a base is right. -/
import Derived.Test.YtganfdhmkdehlaaGreatDoorQ2004M17
import Derived.Test.YtganfdhmkdehlaaGreatDoorQ2004B10
set_option linter.all false
namespace Go.Proofs.YtganfdhmkdehlaaGreatDoor
open Go Go.HL
variable {fu:Nat}
def tabN (b:ac)(nm:List UInt8):Nat:=b.tabs.findIdx fun t=>decide (t.name=nm)
def mV (b:ac)(nm:List UInt8):Int:=if tabN b nm<b.tabs.length then (tabN b nm:Int) else -1
def tabT (b:ac)(nm:List UInt8):ab:=(b.tabs.getD (tabN b nm) default).table
def dm (b:ac)(k:Nat):ab:=(b.tabs.getD k default).table
noncomputable def cA (b:ac) (l:aj):Nat:=atN (lastS (tabT b l.from_)) l.col
noncomputable def fm (b:ac) (l:aj) (r:Row):Val:=(nowR (tabT b l.from_) r).getD (cA b l) default
structure aq (b:ac) (l:aj):Prop where
 src:tabN b l.from_<b.tabs.length
 dst:tabN b l.to<b.tabs.length
 lo:1≤l.how
 hi:l.how≤3
 col:cA b l < (lastS (tabT b l.from_)).length
 kind:((lastS (tabT b l.from_)).getD (cA b l) default).kind=1
 need:l.how=3→((lastS (tabT b l.from_)).getD (cA b l) default).need=false
theorem aq.col_sm {b:ac}{l:aj}(h:aq b l)(g:ak (lastS (tabT b l.from_))):l.col.length≤1000:=by
 have h1:=h.col
 unfold cA at h1
 have h2:=(g.sm.get h1).name
 rw [e9 h1] at h2
 exact h2
def a8 (b:ac)(l:aj)(r:Row):Prop:=(fm b l r).kind≠0→rowN (tabT b l.to) (fm b l r).n < (tabT b l.to).rows.length
def ao (b:ac)(l:aj):Prop:=∀ k,k < (tabT b l.from_).rows.length→a8 b l ((tabT b l.from_).rows.getD k default)
def iT (l m:aj):Prop:=l.from_=m.from_∧l.col=m.col
def cX (b:ac)(i:Nat):Prop:=∀ k,k<i→¬ iT (b.links.getD k default) (b.links.getD i default)
structure cw (b:ac) (k:Nat):Prop where
 name:am (b.tabs.getD k default).name
 place:tabN b (b.tabs.getD k default).name=k
 ok:aP (dm b k)
structure iS (b:ac) (i:Nat):Prop where
 fits:aq b (b.links.getD i default)
 apart:cX b i
 holds:ao b (b.links.getD i default)
structure ah (b:ac):Prop where
 tabs:∀ k,k<b.tabs.length→cw b k
 ntab:b.tabs.length≤3
 nlink:b.links.length≤4
 links:∀ i,i<b.links.length→iS b i
structure SmB (b:ac):Prop where
 ntab:b.tabs.length≤1000
 nlink:b.links.length≤1000
 names:∀ k,k<b.tabs.length→(b.tabs.getD k default).name.length≤1000
 tabs:∀ k,k<b.tabs.length→SmT (dm b k)
structure av (b:ac):Prop where
 ok:ah b
 sm:SmB b
theorem ce {b:ac}{nm:List UInt8}(h:tabN b nm<b.tabs.length):(b.tabs.getD (tabN b nm) default).name=nm:=by
 rw [ae h]
 exact of_decide_eq_true (List.findIdx_getElem (w:=h))
theorem aK {b:ac}{nm:List UInt8}(h:tabN b nm<b.tabs.length):mV b nm=(tabN b nm:Int):=if_pos h
theorem dY {b:ac}{nm:List UInt8}(h:¬ tabN b nm<b.tabs.length):mV b nm=-1:=if_neg h
theorem av.tab {b:ac}(h:av b){k:Nat}(hk:k<b.tabs.length):nZ (dm b k):=⟨(h.ok.tabs k hk).ok,h.sm.tabs k hk⟩
theorem av.tabT {b:ac}(h:av b){nm:List UInt8}(hk:tabN b nm<b.tabs.length):nZ (tabT b nm):=h.tab hk
theorem wq {b:ac}{x y:List UInt8}(hx:tabN b x<b.tabs.length)(h:tabN b x=tabN b y):x=y:=by
 have e1:=ce hx
 have e2:=ce (b:=b) (nm:=y) (h▸hx)
 rw [← e1,← e2,h]
theorem fQ {a b:ac}(h:a.tabs.map (·.name)=b.tabs.map (·.name))(nm:List UInt8):tabN a nm=tabN b nm:=by
 have f:∀ l:List Tab,l.findIdx (fun t=>decide (t.name=nm))=(l.map (·.name)).findIdx fun i=>decide (i=nm):=fun l=>by rw [List.findIdx_map];rfl
 unfold tabN
 rw [f,f,h]
theorem qC {a b:ac}(h:a.tabs.map (·.name)=b.tabs.map (·.name)):a.tabs.length=b.tabs.length:=by
 have:=congrArg List.length h
 simpa using this
theorem pE {a b:ac}(h:a.tabs.map (·.name)=b.tabs.map (·.name)){k:Nat}(hk:k<a.tabs.length):(a.tabs.getD k default).name=(b.tabs.getD k default).name:=by
 have hb:k<b.tabs.length:=by rw [← qC h];exact hk
 have:=congrArg (fun l=>l.getD k ([]:List UInt8)) h
 simp only at this
 rw [ae (by simpa using hk),ae (by simpa using hb),List.getElem_map,List.getElem_map] at this
 rw [ae hk,ae hb];exact this
structure td (a b:ac):Prop where
 names:a.tabs.map (·.name)=b.tabs.map (·.name)
 cols:∀ k,k<b.tabs.length→lastS (dm a k)=lastS (dm b k)
theorem td.tabN {a b:ac}(h:td a b)(nm:List UInt8):tabN a nm=tabN b nm:=fQ h.names nm
theorem td.len {a b:ac}(h:td a b):a.tabs.length=b.tabs.length:=qC h.names
theorem td.last {a b:ac}(h:td a b){nm:List UInt8}(hn:Go.Proofs.YtganfdhmkdehlaaGreatDoor.tabN b nm<b.tabs.length):lastS (tabT a nm)=lastS (tabT b nm):=by
 have:=h.cols _ hn
 unfold tabT
 rw [h.tabN];exact this
theorem td.fits {a b:ac}(h:td a b){l:aj}(hl:aq b l):aq a l:=by
 have e:=h.last hl.src
 have ec:cA a l=cA b l:=by unfold cA;rw [e]
 exact ⟨by rw [h.tabN,h.len];exact hl.src,by rw [h.tabN,h.len];exact hl.dst,hl.lo,hl.hi,by rw [ec,e];exact hl.col,by rw [ec,e];exact hl.kind,by rw [ec,e];exact hl.need⟩
theorem td.place {a b:ac}(h:td a b){k:Nat}(hk:k<a.tabs.length)(hb:cw b k)(ht:aP (dm a k)):cw a k:=by
 have e:=pE h.names hk
 exact ⟨by rw [e];exact hb.name,by rw [e,h.tabN];exact hb.place,ht⟩
def aQ (b:ac)(k:Nat)(t:ab):ac:=⟨b.tabs.set k ⟨(b.tabs.getD k default).name,t⟩,b.links⟩
theorem bB (b:ac)(k:Nat)(t:ab):(aQ b k t).tabs.length=b.tabs.length:=by show (b.tabs.set _ _).length=_;simp
theorem sg {b:ac}{k:Nat}{t:ab}(hk:k<b.tabs.length)(i:Nat):(aQ b k t).tabs.getD i default=if i=k then ⟨(b.tabs.getD k default).name,t⟩ else b.tabs.getD i default:=getD_set hk
theorem setTab_tabK {b:ac}{k:Nat}{t:ab}(hk:k<b.tabs.length)(i:Nat):dm (aQ b k t) i=if i=k then t else dm b i:=by
 unfold dm
 rw [sg hk]
 split<;>rfl
theorem bX {b:ac}{k:Nat}{t:ab}(hk:k<b.tabs.length):(aQ b k t).tabs.map (·.name)=b.tabs.map (·.name):=by
 show (b.tabs.set k _).map _=_
 rw [List.map_set]
 refine List.ext_getElem (by simp) fun i h1 h2=>?_
 rw [List.getElem_set]
 split
 ·rename_i e
  subst e
  simp only [List.getElem_map]
  rw [ae hk]
 ·rfl
theorem pt {b:ac}{k:Nat}{t:ab}(hk:k<b.tabs.length)(nm:List UInt8):tabT (aQ b k t) nm=if tabN b nm=k then t else tabT b nm:=by
 have:=setTab_tabK (t:=t) hk (tabN b nm)
 unfold tabT
 rw [fQ (bX hk)]
 exact this
theorem kF {b:ac}{k:Nat}{t:ab}(hk:k<b.tabs.length)(h:lastS t=lastS (dm b k)):td (aQ b k t) b:=by
 refine ⟨bX hk,fun i hi=>?_⟩
 rw [setTab_tabK hk]
 split
 ·rename_i e;rw [e];exact h
 ·rfl
def yn (b:ac):Prop:=∀ i,i<b.links.length→ao b (b.links.getD i default)
theorem tx {b:ac}{k:Nat}{t:ab}(h:ah b)(hk:k<b.tabs.length)(ht:aP t)(hs:lastS t=lastS (dm b k))(hh:yn (aQ b k t)):ah (aQ b k t):=by
 have sk:=kF hk hs
 refine ⟨fun i hi=>?_,by rw [bB];exact h.ntab,h.nlink,fun i hi=>⟨sk.fits (h.links i hi).fits,(h.links i hi).apart,hh i hi⟩⟩
 rw [bB] at hi
 refine sk.place (by rw [bB];exact hi) (h.tabs i hi) ?_
 rw [setTab_tabK hk]
 split
 ·exact ht
 ·exact (h.tabs i hi).ok
theorem fv {b:ac}{k:Nat}{t:ab}(h:SmB b)(hk:k<b.tabs.length)(ht:SmT t):SmB (aQ b k t):=by
 refine ⟨by rw [bB];exact h.ntab,h.nlink,fun i hi=>?_,fun i hi=>?_⟩
 ·rw [pE (bX hk) hi]
  rw [bB] at hi
  exact h.names i hi
 ·rw [bB] at hi
  rw [setTab_tabK hk]
  split
  ·exact ht
  ·exact h.tabs i hi
open Classical in
noncomputable def dp (b:ac) (k:Nat) (t:ab×Int):ac×Int:=
 if t.2≠0 then (b,t.2) else if yn (aQ b k t.1) then (aQ b k t.1,0) else (b,7)
abbrev nilB:ac:=⟨[],[]⟩
noncomputable def wF (b:ac) (nm:List UInt8) (xs:List Set):ac×Int:=if tabN b nm<b.tabs.length then dp b (tabN b nm) (putT (tabT b nm) xs) else (b,5)
noncomputable def ww (b:ac) (nm:List UInt8) (id:Int) (xs:List Set):ac×Int:=if tabN b nm<b.tabs.length then dp b (tabN b nm) (setT (tabT b nm) id xs) else (b,5)
open Classical in
noncomputable def kL (b:ac) (nm:List UInt8) (xs:List Set):ac×Int:=if ah b then wF b nm xs else (nilB,1)
open Classical in
noncomputable def kI (b:ac) (nm:List UInt8) (id:Int) (xs:List Set):ac×Int:=if ah b then ww b nm id xs else (nilB,1)
theorem n5 {b:ac}{k:Nat}{t:ab×Int}(h:ah b)(hk:k<b.tabs.length)(ht:aP t.1)(hs:lastS t.1=lastS (dm b k)):ah (dp b k t).1:=by
 unfold dp
 split
 ·exact h
 split
 ·rename_i hh;exact tx h hk ht hs hh
 ·exact h
theorem n4 {b:ac}{k:Nat}{t:ab×Int}(h:SmB b)(hk:k<b.tabs.length)(ht:SmT t.1):SmB (dp b k t).1:=by
 unfold dp
 split
 ·exact h
 split
 ·exact fv h hk ht
 ·exact h
theorem kK (t:ab)(xs:List Set):lastS (putT t xs).1=lastS t:=by
 rcases putT_cases t xs with ⟨row,_,e⟩|⟨e,_⟩
 ·rw [e];rfl
 ·rw [e]
theorem kH (t:ab)(id:Int)(xs:List Set):lastS (setT t id xs).1=lastS t:=by
 rcases setT_cases t id xs with ⟨row,_,e⟩|⟨e,_⟩
 ·rw [e];rfl
 ·rw [e]
theorem om {b:ac}{nm:List UInt8}{xs:List Set}(h:av b)(hx:SmX xs):av (wF b nm xs).1:=by
 unfold wF
 split
 ·rename_i hk
  have g:=h.tabT hk
  exact ⟨n5 h.ok hk (pA g.ok) (kK _ _),n4 h.sm hk (pz g.ok g.sm hx)⟩
 ·exact h
theorem og {b:ac}{nm:List UInt8}{id:Int}{xs:List Set}(h:av b)(hx:SmX xs):av (ww b nm id xs).1:=by
 unfold ww
 split
 ·rename_i hk
  have g:=h.tabT hk
  exact ⟨n5 h.ok hk (pu g.ok) (kH _ _ _),n4 h.sm hk (setT_sm g.ok g.sm hx)⟩
 ·exact h
abbrev AP (s:List Col):ab:=⟨s,[],[],1⟩
def fM (b:ac)(nm:List UInt8)(s:List Col):ac:=⟨b.tabs++[⟨nm,AP s⟩],b.links⟩
open Classical in
noncomputable def l8 (b:ac) (nm:List UInt8) (s:List Col):ac×Int:=
 if ¬ am nm∨tabN b nm<b.tabs.length∨¬ ak s then (b,1) else if b.tabs.length=3 then (b,4) else (fM b nm s,0)
open Classical in
noncomputable def tableBB (b:ac) (nm:List UInt8) (s:List Col):ac×Int:=if ah b then l8 b nm s else (nilB,1)
theorem gT {s:List Col}(h:ak s):nZ (AP s):=
 ⟨gK h ⟨s,rfl⟩ (by simp) (by simp) (Int.le_refl _) (show (1:Int)≤60 by decide) (fun _ h=>by cases h) .nil .nil,⟨h.sm,⟨by simp,fun _ h=>by cases h⟩,by simp,fun k hk=>by simp at hk⟩⟩
theorem eC (b:ac)(nm:List UInt8)(s:List Col):(fM b nm s).tabs.length=b.tabs.length+1:=by show (b.tabs++[_]).length=_;simp
theorem gd {b:ac}{nm:List UInt8}{s:List Col}{i:Nat}(hi:i<b.tabs.length):(fM b nm s).tabs.getD i default=b.tabs.getD i default:=by
 show (b.tabs++[_]).getD i default=_
 rw [List.getD_eq_getElem?_getD,List.getElem?_append_left hi,List.getD_eq_getElem?_getD]
theorem eB {b:ac}{nm:List UInt8}{s:List Col}:(fM b nm s).tabs.getD b.tabs.length default=⟨nm,AP s⟩:=by
 show (b.tabs++[_]).getD _ default=_
 simp [List.getD_eq_getElem?_getD]
theorem fa {b:ac}{nm:List UInt8}{s:List Col}{x:List UInt8}(hx:tabN b x<b.tabs.length):tabN (fM b nm s) x=tabN b x:=by
 show (b.tabs++[_]).findIdx _=_
 unfold tabN at hx
 rw [List.findIdx_append,if_pos hx];rfl
theorem lL {b:ac}{nm:List UInt8}{s:List Col}(hx:¬ tabN b nm<b.tabs.length):tabN (fM b nm s) nm=b.tabs.length:=by
 show (b.tabs++[_]).findIdx _=_
 unfold tabN at hx
 rw [List.findIdx_append,if_neg hx]
 simp [List.findIdx_cons]
theorem lK {b:ac}{nm:List UInt8}{s:List Col}{x:List UInt8}(hx:tabN b x<b.tabs.length):tabT (fM b nm s) x=tabT b x:=by
 unfold tabT
 rw [fa hx,gd hx]
theorem aq.same {a b:ac}{l:aj}(h:aq b l)(hl:b.tabs.length≤a.tabs.length)(h1:tabN a l.from_=tabN b l.from_)(h2:tabN a l.to=tabN b l.to)(h3:lastS (tabT a l.from_)=lastS (tabT b l.from_)):aq a l:=by
 have ec:cA a l=cA b l:=by unfold cA;rw [h3]
 exact ⟨by rw [h1];exact Nat.lt_of_lt_of_le h.src hl,by rw [h2];exact Nat.lt_of_lt_of_le h.dst hl,h.lo,h.hi,by rw [ec,h3];exact h.col,by rw [ec,h3];exact h.kind,by rw [ec,h3];exact h.need⟩
theorem ao.same {a b:ac}{l:aj}(h:ao b l)(h1:tabT a l.from_=tabT b l.from_)(h2:tabT a l.to=tabT b l.to):ao a l:=by
 unfold ao a8 fm cA at *
 rw [h1,h2];exact h
theorem vU {b:ac}{nm:List UInt8}{s:List Col}(h:ah b)(h1:am nm)(h2:¬ tabN b nm<b.tabs.length)(h3:ak s)(h4:b.tabs.length≠3):ah (fM b nm s):=by
 have hn:=h.ntab
 refine ⟨fun k hk=>?_,by rw [eC];omega,h.nlink,fun i hi=>?_⟩
 ·rw [eC] at hk
  by_cases hkl:k<b.tabs.length
  ·have g:=h.tabs k hkl
   have e:=gd (nm:=nm) (s:=s) hkl
   refine ⟨by rw [e];exact g.name,?_,?_⟩
   ·rw [e,fa (by rw [g.place];exact hkl)];exact g.place
   ·unfold dm;rw [e];exact g.ok
  ·have:k=b.tabs.length:=by omega
   subst this
   refine ⟨by rw [eB];exact h1,by rw [eB];exact lL h2,?_⟩
   unfold dm;rw [eB];exact (gT h3).ok
 ·have g:=h.links i hi
  have e1:=lK (nm:=nm) (s:=s) g.fits.src
  have e2:=lK (nm:=nm) (s:=s) g.fits.dst
  exact ⟨g.fits.same (by rw [eC];omega) (fa g.fits.src) (fa g.fits.dst) (by rw [show tabT (fM b nm s) (b.links.getD i default).from_=_ from e1]),g.apart,g.holds.same e1 e2⟩
theorem am.sm {s:List UInt8}(h:am s):s.length≤1000:=by have:=h.2.2;omega
theorem vT {b:ac}{nm:List UInt8}{s:List Col}(h:SmB b)(h1:am nm)(h3:ak s)(h4:b.tabs.length≤500):SmB (fM b nm s):=by
 refine ⟨by rw [eC];omega,h.nlink,fun k hk=>?_,fun k hk=>?_⟩<;>rw [eC] at hk
 ·by_cases hkl:k<b.tabs.length
  ·rw [gd hkl];exact h.names k hkl
  ·have:k=b.tabs.length:=by omega
   subst this
   rw [eB];exact h1.sm
 ·unfold dm
  by_cases hkl:k<b.tabs.length
  ·rw [gd hkl];exact h.tabs k hkl
  ·have:k=b.tabs.length:=by omega
   subst this
   rw [eB];exact (gT h3).sm
theorem pr {b:ac}{nm:List UInt8}{s:List Col}(h:av b):av (l8 b nm s).1:=by
 unfold l8
 split
 ·exact h
 rename_i h1
 split
 ·exact h
 rename_i h3
 have g1:am nm:=c_ fun hh=>h1 (.inl hh)
 have g2:¬ tabN b nm<b.tabs.length:=fun hh=>h1 (.inr (.inl hh))
 have g3:ak s:=c_ fun hh=>h1 (.inr (.inr hh))
 exact ⟨vU h.ok g1 g2 g3 h3,vT h.sm g1 g3 (by have:=h.ok.ntab;omega)⟩
theorem za:ah nilB:=⟨fun _ h=>absurd h (Nat.not_lt_zero _),by simp,by simp,fun _ h=>absurd h (Nat.not_lt_zero _)⟩
theorem pD:SmB nilB:=⟨by simp,by simp,fun _ h=>absurd h (Nat.not_lt_zero _),fun _ h=>absurd h (Nat.not_lt_zero _)⟩
theorem oq:av nilB:=⟨za,pD⟩
def dB (b:ac)(l:aj):ac:=⟨b.tabs,b.links++[l]⟩
def bz (b:ac)(nm col:List UInt8):Prop:=∃ k,k<b.links.length∧(b.links.getD k default).from_=nm∧(b.links.getD k default).col=col
open Classical in
noncomputable def sy (b:ac) (l:aj):ac×Int:=
 if ¬ aq b l∨bz b l.from_ l.col then (b,1) else if ¬ ao b l then (b,7) else if b.links.length=4 then (b,4) else (dB b l,0)
open Classical in
noncomputable def linkBB (b:ac) (l:aj):ac×Int:=if ah b then sy b l else (nilB,1)
theorem dz {b:ac}{l:aj}{i:Nat}(hi:i<b.links.length):(dB b l).links.getD i default=b.links.getD i default:=by
 show (b.links++[_]).getD i default=_
 rw [List.getD_eq_getElem?_getD,List.getElem?_append_left hi,List.getD_eq_getElem?_getD]
theorem addLink_new {b:ac}{l:aj}:(dB b l).links.getD b.links.length default=l:=by
 show (b.links++[_]).getD _ default=_
 simp [List.getD_eq_getElem?_getD]
theorem addLink_len (b:ac)(l:aj):(dB b l).links.length=b.links.length+1:=by show (b.links++[_]).length=_;simp
theorem s5 {b:ac}{l:aj}(h:ah b)(h1:aq b l)(h2:¬ bz b l.from_ l.col)(h3:ao b l)(h4:b.links.length≠4):ah (dB b l):=by
 have hn:=h.nlink
 have fit:∀ {x:aj},aq b x→aq (dB b l) x:=fun g=>⟨g.src,g.dst,g.lo,g.hi,g.col,g.kind,g.need⟩
 have hld:∀ {x:aj},ao b x→ao (dB b l) x:=fun g=>g
 refine ⟨fun k hk=>have g:=h.tabs k hk;⟨g.name,g.place,g.ok⟩,h.ntab,by rw [addLink_len];omega,fun i hi=>?_⟩
 rw [addLink_len] at hi
 by_cases hil:i<b.links.length
 ·have g:=h.links i hil
  have e:=dz (l:=l) hil
  refine ⟨by rw [e];exact fit g.fits,fun k hk=>?_,by rw [e];exact hld g.holds⟩
  rw [e,dz (show k<b.links.length by omega)];exact g.apart k hk
 ·have:i=b.links.length:=by omega
  subst this
  refine ⟨by rw [addLink_new];exact fit h1,fun k hk=>?_,by rw [addLink_new];exact hld h3⟩
  rw [addLink_new,dz hk]
  exact fun hh=>h2 ⟨k,hk,hh.1,hh.2⟩
theorem s0 {b:ac}{l:aj}(h:SmB b)(h4:b.links.length≤500):SmB (dB b l):=⟨h.ntab,by rw [addLink_len];omega,h.names,h.tabs⟩
theorem sx {b:ac}{l:aj}(h:av b):av (sy b l).1:=by
 unfold sy
 split
 ·exact h
 rename_i h1
 split
 ·exact h
 rename_i h2
 split
 ·exact h
 rename_i h3
 exact ⟨s5 h.ok (c_ fun hh=>h1 (.inl hh)) (fun hh=>h1 (.inr hh)) (c_ h2) h3,s0 h.sm (by have:=h.ok.nlink;omega)⟩
def gx (c:aa)(col:List UInt8):List UInt8:=if c.kind=3∧col=c.name then c.new else col
structure Ae (s:List Col) (c:aa) (col:List UInt8) (i:Nat):Prop where
 at_:atN (chg s c) (gx c col)=i
 lt:i < (chg s c).length
 kind:((chg s c).getD i default).kind=(s.getD (atN s col) default).kind
 need:((chg s c).getD i default).need=(s.getD (atN s col) default).need
 row:∀ row:List Val,row.length=s.length→(aE s c row).getD i default=row.getD (atN s col) default
theorem qp {s:List Col}{c:aa}{col:List UInt8}(hc:Can s c)(hi:atN s col<s.length)(hne:c.kind=2∨c.kind=4→col≠c.name):∃ i,Ae s c col i:=by
 have hnm:=e9 hi
 have key:∀ i,i < (chg s c).length→((chg s c).getD i default).name=gx c col→atN (chg s c) (gx c col)=i:=fun i h1 h2=>by rw [← h2];exact BS hc.ok h1
 by_cases k1:c.kind=1
 ·have e:chg s c=s++[c.col]:=by unfold chg;rw [if_pos k1]
  have ea:∀ r,aE s c r=r++[c.col.def_]:=fun r=>by unfold aE;rw [if_pos k1]
  have er:gx c col=col:=by unfold gx;rw [if_neg (fun h=>by omega)]
  have eg:(chg s c).getD (atN s col) default=s.getD (atN s col) default:=by rw [e,List.getD_eq_getElem?_getD,List.getElem?_append_left hi,List.getD_eq_getElem?_getD]
  have hl:atN s col < (chg s c).length:=by rw [e];simp;omega
  refine ⟨atN s col,key _ hl (by rw [eg,er,hnm]),hl,by rw [eg],by rw [eg],fun row hrow=>?_⟩
  rw [ea,List.getD_eq_getElem?_getD,List.getElem?_append_left (by omega),List.getD_eq_getElem?_getD]
 have hat:=hc.may.there k1
 have hjn:=e9 hat
 by_cases k2:c.kind=2
 ·have e:chg s c=s.eraseIdx (atN s c.name):=by unfold chg;rw [if_neg k1,if_pos k2]
  have ea:∀ r,aE s c r=r.eraseIdx (atN s c.name):=fun r=>by unfold aE;rw [if_neg k1,if_pos k2]
  have er:gx c col=col:=by unfold gx;rw [if_neg (fun h=>by omega)]
  have hij:atN s col≠atN s c.name:=fun h=>hne (.inl k2) (by rw [← hnm,h,hjn])
  have hl:(chg s c).length=s.length-1:=by rw [e,List.length_eraseIdx,if_pos hat]
  by_cases hlt:atN s col<atN s c.name
  ·have eg:(chg s c).getD (atN s col) default=s.getD (atN s col) default:=by rw [e,bD,if_pos hlt]
   refine ⟨atN s col,key _ (by omega) (by rw [eg,er,hnm]),by omega,by rw [eg],by rw [eg],fun row hrow=>?_⟩
   rw [ea,bD,if_pos hlt]
  ·have h1:¬ atN s col-1<atN s c.name:=by omega
   have h2:atN s col-1+1=atN s col:=by omega
   have eg:(chg s c).getD (atN s col-1) default=s.getD (atN s col) default:=by rw [e,bD,if_neg h1,h2]
   refine ⟨atN s col-1,key _ (by omega) (by rw [eg,er,hnm]),by omega,by rw [eg],by rw [eg],fun row hrow=>?_⟩
   rw [ea,bD,if_neg h1,h2]
 by_cases k3:c.kind=3
 ·have e:chg s c=s.set (atN s c.name) { s.getD (atN s c.name) default with name:=c.new }:=by unfold chg;rw [if_neg k1,if_neg k2,if_pos k3]
  have ea:∀ r,aE s c r=r:=fun r=>by unfold aE;rw [if_neg k1,if_neg k2,if_neg (by omega)]
  have hl:(chg s c).length=s.length:=by rw [e];simp
  by_cases hij:atN s col=atN s c.name
  ·have hcol:col=c.name:=by rw [← hnm,hij,hjn]
   have er:gx c col=c.new:=if_pos ⟨k3,hcol⟩
   have eg:(chg s c).getD (atN s col) default = { s.getD (atN s c.name) default with name:=c.new }:=by rw [e,getD_set hat,if_pos hij]
   exact ⟨atN s col,key _ (by omega) (by rw [eg,er]),by omega,by rw [eg,hij],by rw [eg,hij],fun row _=>by rw [ea]⟩
  ·have hcol:col≠c.name:=fun h=>hij (by rw [h])
   have er:gx c col=col:=if_neg fun h=>hcol h.2
   have eg:(chg s c).getD (atN s col) default=s.getD (atN s col) default:=by rw [e,getD_set hat,if_neg hij]
   exact ⟨atN s col,key _ (by omega) (by rw [eg,er,hnm]),by omega,by rw [eg],by rw [eg],fun row _=>by rw [ea]⟩
 have k4:c.kind=4:=by have:=hc.may.named.kinds;omega
 have e:chg s c=s.set (atN s c.name) { s.getD (atN s c.name) default with kind:=c.col.kind,def_:=valAs (s.getD (atN s c.name) default).def_ c.col.kind }:=by unfold chg;rw [if_neg k1,if_neg k2,if_neg k3]
 have ea:∀ r,aE s c r=r.set (atN s c.name) (valAs (r.getD (atN s c.name) default) c.col.kind):=fun r=>by unfold aE;rw [if_neg k1,if_neg k2,if_pos k4]
 have er:gx c col=col:=by unfold gx;rw [if_neg (fun h=>by omega)]
 have hij:atN s col≠atN s c.name:=fun h=>hne (.inr k4) (by rw [← hnm,h,hjn])
 have hl:(chg s c).length=s.length:=by rw [e];simp
 have eg:(chg s c).getD (atN s col) default=s.getD (atN s col) default:=by rw [e,getD_set hat,if_neg hij]
 refine ⟨atN s col,key _ (by omega) (by rw [eg,er,hnm]),by omega,by rw [eg],by rw [eg],fun row hrow=>?_⟩
 rw [ea,getD_set (by omega),if_neg hij]
theorem tG {s:List Col}{c:aa}{x y:List UInt8}(hc:Can s c)(hx:atN s x<s.length)(hy:atN s y<s.length)(nx:c.kind=2∨c.kind=4→x≠c.name)(ny:c.kind=2∨c.kind=4→y≠c.name)(h:gx c x=gx c y):x=y:=by
 obtain ⟨p,hp⟩:=qp hc hx nx
 obtain ⟨q,hq⟩:=qp hc hy ny
 have hpq:p=q:=by rw [← hp.at_,← hq.at_,h]
 have u1:=hp.row ((List.range s.length).map fun z:Nat=>(⟨(z:Int),0,[]⟩:Val)) (by simp)
 have u2:=hq.row ((List.range s.length).map fun z:Nat=>(⟨(z:Int),0,[]⟩:Val)) (by simp)
 rw [hpq,u2,ae (by simpa using hy),ae (by simpa using hx)] at u1
 simp only [List.getElem_map,List.getElem_range,Val.mk.injEq,and_self,and_true] at u1
 have u3:atN s y=atN s x:=by omega
 rw [← e9 hx,← u3,e9 hy]
def bk (nm:List UInt8)(c:aa)(l:aj):aj:=if c.kind=3∧l.from_=nm∧l.col=c.name then { l with col:=c.new } else l
theorem reLink_from (nm:List UInt8)(c:aa)(l:aj):(bk nm c l).from_=l.from_:=by unfold bk;split<;>rfl
theorem ol (nm:List UInt8)(c:aa)(l:aj):(bk nm c l).to=l.to:=by unfold bk;split<;>rfl
theorem iX (nm:List UInt8)(c:aa)(l:aj):(bk nm c l).how=l.how:=by unfold bk;split<;>rfl
theorem iY {nm:List UInt8}{c:aa}{l:aj}(h:l.from_=nm):(bk nm c l).col=gx c l.col:=by
 unfold bk gx
 by_cases h1:c.kind=3∧l.col=c.name
 ·rw [if_pos ⟨h1.1,h,h1.2⟩,if_pos h1]
 ·rw [if_neg (fun hh=>h1 ⟨hh.1,hh.2.2⟩),if_neg h1]
theorem fw {nm:List UInt8}{c:aa}{l:aj}(h:l.from_≠nm):bk nm c l=l:=if_neg fun hh=>h hh.2.1
def bf (b:ac)(k:Nat)(t:ab)(nm:List UInt8)(c:aa):ac:=⟨(aQ b k t).tabs,b.links.map (bk nm c)⟩
theorem gH {b:ac}{k:Nat}{t:ab}{nm:List UInt8}{c:aa}{i:Nat}(hi:i<b.links.length):(bf b k t nm c).links.getD i default=bk nm c (b.links.getD i default):=by
 show (b.links.map _).getD i default=_
 rw [ae (by simpa using hi),List.getElem_map,ae hi]
theorem fK (b:ac)(k:Nat)(t:ab)(nm:List UInt8)(c:aa):(bf b k t nm c).links.length=b.links.length:=by show (b.links.map _).length=_;simp
open Classical in
noncomputable def d9 (b:ac) (nm:List UInt8) (c:aa):ac×Int:=
 if tabN b nm<b.tabs.length then
  if (eA (tabT b nm) c).2=1 then (b,1)
  else if (c.kind=2∨c.kind=4)∧bz b nm c.name then (b,8)
  else if (eA (tabT b nm) c).2≠0 then (b,(eA (tabT b nm) c).2)
  else (bf b (tabN b nm) (eA (tabT b nm) c).1 nm c,0)
 else (b,5)
open Classical in
noncomputable def cN (b:ac) (nm:List UInt8) (c:aa):ac×Int:=if ah b then d9 b nm c else (nilB,1)
theorem vF {t:ab}{c:aa}(h:(eA t c).2=0):jr t c∧t.changes.length≠8∧eA t c=(mP t c,0):=by
 rcases chgT_cases t c with ⟨h1,h2⟩|⟨h1,h2⟩|h1|⟨h1,h2⟩
 ·exact ⟨h1,h2,vJ h1 h2⟩
 ·rw [vH h1 h2] at h;exact absurd (show (4:Int)=0 from h) (by decide)
 ·rw [vI h1] at h;exact absurd (show (1:Int)=0 from h) (by decide)
 ·rw [vG h1 h2] at h;exact absurd (show (2:Int)=0 from h) (by decide)
theorem sZ {b:ac}{nm:List UInt8}{c:aa}(h:av b)(hk:tabN b nm<b.tabs.length)(hu:¬ ((c.kind=2∨c.kind=4)∧bz b nm c.name))(hz:(eA (tabT b nm) c).2=0) :
     ah (bf b (tabN b nm) (eA (tabT b nm) c).1 nm c):=by
 obtain ⟨hf,h8,e⟩:=vF hz
 have g:=h.tabT hk
 have hrt:=g.ok.rt g.sm
 have hs:=hrt.okLast
 have hok:aP (mP (tabT b nm) c):=by have:=zT (c:=c) g.ok g.sm;rwa [e] at this
 have hl:lastS (mP (tabT b nm) c)=chg (lastS (tabT b nm)) c:=jc hrt.last hf.can
 have hnow:∀ k,k < (tabT b nm).rows.length→nowR (mP (tabT b nm) c) ((tabT b nm).rows.getD k default)=aE (lastS (tabT b nm)) c (nowR (tabT b nm) ((tabT b nm).rows.getD k default)):=fun k hk=>gP hrt (g.ok.rows k hk).ver
 rw [e]
 show ah (bf b (tabN b nm) (mP (tabT b nm) c) nm c)
 have hN:∀ x,tabN (bf b (tabN b nm) (mP (tabT b nm) c) nm c) x=tabN b x:=fun x=>fQ (bX hk) x
 have hT:∀ x,tabT (bf b (tabN b nm) (mP (tabT b nm) c) nm c) x=if tabN b x=tabN b nm then mP (tabT b nm) c else tabT b x:=fun x=>pt hk x
 have hlen:(bf b (tabN b nm) (mP (tabT b nm) c) nm c).tabs.length=b.tabs.length:=bB _ _ _
 have hrows:∀ x,(tabT (bf b (tabN b nm) (mP (tabT b nm) c) nm c) x).rows=(tabT b x).rows:=fun x=>by
  rw [hT]
  split
  ·rename_i ex
   unfold tabT
   rw [ex];rfl
  ·rfl
 refine ⟨fun i hi=>?_,by rw [hlen];exact h.ok.ntab,by rw [fK];exact h.ok.nlink,fun i hi=>?_⟩
 ·rw [hlen] at hi
  have e1:=pE (bX (t:=mP (tabT b nm) c) hk) (k:=i) (by rw [bB];exact hi)
  have gg:=h.ok.tabs i hi
  refine ⟨?_,?_,?_⟩
  ·show am ((aQ b _ _).tabs.getD i default).name
   rw [e1];exact gg.name
  ·rw [hN]
   show tabN b ((aQ b _ _).tabs.getD i default).name=i
   rw [e1];exact gg.place
  ·show aP (dm (aQ b _ _) i)
   rw [setTab_tabK hk]
   split
   ·exact hok
   ·exact gg.ok
 ·rw [fK] at hi
  have gl:=h.ok.links i hi
  have hapart:cX (bf b (tabN b nm) (mP (tabT b nm) c) nm c) i:=fun k hki=>by
   rw [gH hi,gH (show k<b.links.length by omega)]
   rintro ⟨h1,h2⟩
   rw [reLink_from,reLink_from] at h1
   refine gl.apart k hki ⟨h1,?_⟩
   by_cases hn:(b.links.getD i default).from_=nm
   case neg=>rwa [fw hn,fw (by rw [h1];exact hn)] at h2
   have hn':(b.links.getD k default).from_=nm:=by rw [h1];exact hn
   rw [iY hn,iY hn'] at h2
   have f1:=gl.fits
   have f2:=(h.ok.links k (by omega)).fits
   have c1:atN (lastS (tabT b nm)) (b.links.getD i default).col < (lastS (tabT b nm)).length:=by have:=f1.col;unfold cA at this;rwa [hn] at this
   have c2:atN (lastS (tabT b nm)) (b.links.getD k default).col < (lastS (tabT b nm)).length:=by have:=f2.col;unfold cA at this;rwa [hn'] at this
   have n1:c.kind=2∨c.kind=4→(b.links.getD i default).col≠c.name:=fun q ee=>hu ⟨q,i,hi,hn,ee⟩
   have n2:c.kind=2∨c.kind=4→(b.links.getD k default).col≠c.name:=fun q ee=>hu ⟨q,k,by omega,hn',ee⟩
   exact tG hf.can c2 c1 n2 n1 h2
  have hL:=gH (b:=b) (k:=tabN b nm) (t:=mP (tabT b nm) c) (nm:=nm) (c:=c) hi
  have f:=gl.fits
  have gh:=gl.holds
  clear gl
  generalize hll:b.links.getD i default=l at *
  by_cases hn:l.from_=nm
  case neg=>
   have hnN:tabN b l.from_≠tabN b nm:=fun ee=>hn (wq f.src ee)
   have e1:tabT (bf b (tabN b nm) (mP (tabT b nm) c) nm c) l.from_=tabT b l.from_:=by rw [hT,if_neg hnN]
   rw [fw hn] at hL
   refine ⟨by rw [hL];exact f.same (by rw [hlen];exact Nat.le_refl _) (hN _) (hN _) (by rw [e1]),hapart,?_⟩
   rw [hL]
   intro k hk2
   rw [e1] at hk2 ⊢
   intro hv
   have e2:fm (bf b (tabN b nm) (mP (tabT b nm) c) nm c) l ((tabT b l.from_).rows.getD k default)=fm b l ((tabT b l.from_).rows.getD k default):=by unfold fm cA;rw [e1]
   rw [e2] at hv ⊢
   have:=gh k hk2 hv
   unfold rowN at this ⊢
   rw [hrows];exact this
  have e1:tabT (bf b (tabN b nm) (mP (tabT b nm) c) nm c) l.from_=mP (tabT b nm) c:=by rw [hT,hn,if_pos rfl]
  have c1:atN (lastS (tabT b nm)) l.col < (lastS (tabT b nm)).length:=by have:=f.col;unfold cA at this;rwa [hn] at this
  obtain ⟨p,hp⟩:=qp hf.can c1 (fun q ee=>hu ⟨q,i,hi,by rw [hll];exact hn,by rw [hll];exact ee⟩)
  have ecol:cA (bf b (tabN b nm) (mP (tabT b nm) c) nm c) (bk nm c l)=p:=by
   unfold cA
   rw [reLink_from,e1,hl,iY hn];exact hp.at_
  have hkind:=f.kind
  have hneed:=f.need
  unfold cA at hkind hneed
  rw [hn] at hkind hneed
  refine ⟨?_,hapart,?_⟩
  ·rw [hL]
   refine ⟨by rw [reLink_from,hN,hlen];exact f.src,by rw [ol,hN,hlen];exact f.dst,by rw [iX];exact f.lo,by rw [iX];exact f.hi,?_,?_,fun hw=>?_⟩
   ·rw [ecol,reLink_from,e1,hl];exact hp.lt
   ·rw [ecol,reLink_from,e1,hl,hp.kind];exact hkind
   ·rw [iX] at hw
    rw [ecol,reLink_from,e1,hl,hp.need];exact hneed hw
  ·rw [hL]
   intro k hk2
   rw [reLink_from] at hk2 ⊢
   rw [hrows] at hk2 ⊢
   have hk3:k < (tabT b nm).rows.length:=by rwa [hn] at hk2
   have ev:fm (bf b (tabN b nm) (mP (tabT b nm) c) nm c) (bk nm c l) ((tabT b l.from_).rows.getD k default)=fm b l ((tabT b l.from_).rows.getD k default):=by
    unfold fm
    rw [ecol,reLink_from,e1,hn,hnow k hk3,hp.row _ (by have:=(g.now hk3).len;omega)]
    unfold cA
    rw [hn]
   intro hv
   rw [ev] at hv ⊢
   have:=gh k hk2 hv
   rw [ol]
   unfold rowN at this ⊢
   rw [hrows];exact this
theorem sY {b:ac}{k:Nat}{t:ab}{nm:List UInt8}{c:aa}(h:SmB b)(hk:k<b.tabs.length)(ht:SmT t):SmB (bf b k t nm c):=by
 have:=fv h hk ht
 exact ⟨this.ntab,by rw [fK];exact h.nlink,this.names,this.tabs⟩
theorem fL {b:ac}{nm:List UInt8}{c:aa}(h:av b)(hc:iQ c):av (d9 b nm c).1:=by
 unfold d9
 split
 case isFalse=>exact h
 rename_i hk
 split
 ·exact h
 split
 ·exact h
 rename_i hu
 split
 ·exact h
 rename_i hz
 have hz0:=c_ hz
 have g:=h.tabT hk
 exact ⟨sZ h hk hu hz0,sY h.sm hk (chgT_sm g.ok g.sm hc)⟩
end Go.Proofs.YtganfdhmkdehlaaGreatDoor
