/- Plain laws. -/
import Derived.Test.YtganfdhmkdehlaaGreatDoorQ2007M17
import Derived.Test.YtganfdhmkdehlaaGreatDoorQ2007B10
set_option linter.all false
namespace Go.Proofs.YtganfdhmkdehlaaGreatDoor
open Go Go.HL
variable {fu:Nat}
def tabN (b:ac)(nm:List UInt8):Nat:=b.tabs.findIdx fun t=>decide (t.name=nm)
def nb (b:ac)(nm:List UInt8):Int:=if tabN b nm<b.tabs.length then (tabN b nm:Int) else -1
def tabT (b:ac)(nm:List UInt8):ab:=(b.tabs.getD (tabN b nm) default).table
def dr (b:ac)(k:Nat):ab:=(b.tabs.getD k default).table
noncomputable def cB (b:ac) (l:aj):Nat:=atN (lastS (tabT b l.from_)) l.col
noncomputable def fw (b:ac) (l:aj) (r:Row):Val:=(nowR (tabT b l.from_) r).getD (cB b l) default
structure ar (b:ac) (l:aj):Prop where
 src:tabN b l.from_<b.tabs.length
 dst:tabN b l.to<b.tabs.length
 lo:1≤l.how
 hi:l.how≤3
 col:cB b l < (lastS (tabT b l.from_)).length
 kind:((lastS (tabT b l.from_)).getD (cB b l) default).kind=1
 need:l.how=3→((lastS (tabT b l.from_)).getD (cB b l) default).need=false
theorem ar.col_sm {b:ac}{l:aj}(h:ar b l)(g:ak (lastS (tabT b l.from_))):l.col.length≤1000:=by
 have h1:=h.col
 unfold cB at h1
 have h2:=(g.sm.get h1).name
 rw [fg h1] at h2
 exact h2
def bd (b:ac)(l:aj)(r:Row):Prop:=(fw b l r).kind≠0→rowN (tabT b l.to) (fw b l r).n < (tabT b l.to).rows.length
def ap (b:ac)(l:aj):Prop:=∀ k,k < (tabT b l.from_).rows.length→bd b l ((tabT b l.from_).rows.getD k default)
def jg (l m:aj):Prop:=l.from_=m.from_∧l.col=m.col
def c6 (b:ac)(i:Nat):Prop:=∀ k,k<i→¬ jg (b.links.getD k default) (b.links.getD i default)
structure cx (b:ac) (k:Nat):Prop where
 name:al (b.tabs.getD k default).name
 place:tabN b (b.tabs.getD k default).name=k
 ok:aP (dr b k)
structure jf (b:ac) (i:Nat):Prop where
 fits:ar b (b.links.getD i default)
 apart:c6 b i
 holds:ap b (b.links.getD i default)
structure ah (b:ac):Prop where
 tabs:∀ k,k<b.tabs.length→cx b k
 ntab:b.tabs.length≤3
 nlink:b.links.length≤4
 links:∀ i,i<b.links.length→jf b i
structure SmB (b:ac):Prop where
 ntab:b.tabs.length≤1000
 nlink:b.links.length≤1000
 names:∀ k,k<b.tabs.length→(b.tabs.getD k default).name.length≤1000
 tabs:∀ k,k<b.tabs.length→SmT (dr b k)
structure am (b:ac):Prop where
 ok:ah b
 sm:SmB b
theorem cg {b:ac}{nm:List UInt8}(h:tabN b nm<b.tabs.length):(b.tabs.getD (tabN b nm) default).name=nm:=by
 rw [ae h]
 exact of_decide_eq_true (List.findIdx_getElem (w:=h))
theorem aK {b:ac}{nm:List UInt8}(h:tabN b nm<b.tabs.length):nb b nm=(tabN b nm:Int):=if_pos h
theorem d7 {b:ac}{nm:List UInt8}(h:¬ tabN b nm<b.tabs.length):nb b nm=-1:=if_neg h
theorem am.tab {b:ac}(h:am b){k:Nat}(hk:k<b.tabs.length):ot (dr b k):=⟨(h.ok.tabs k hk).ok,h.sm.tabs k hk⟩
theorem am.tabT {b:ac}(h:am b){nm:List UInt8}(hk:tabN b nm<b.tabs.length):ot (tabT b nm):=h.tab hk
theorem xe {b:ac}{x y:List UInt8}(hx:tabN b x<b.tabs.length)(h:tabN b x=tabN b y):x=y:=by
 have e1:=cg hx
 have e2:=cg (b:=b) (nm:=y) (h▸hx)
 rw [← e1,← e2,h]
theorem fV {a b:ac}(h:a.tabs.map (·.name)=b.tabs.map (·.name))(nm:List UInt8):tabN a nm=tabN b nm:=by
 have f:∀ l:List Tab,l.findIdx (fun t=>decide (t.name=nm))=(l.map (·.name)).findIdx fun i=>decide (i=nm):=fun l=>by rw [List.findIdx_map];rfl
 unfold tabN
 rw [f,f,h]
theorem rn {a b:ac}(h:a.tabs.map (·.name)=b.tabs.map (·.name)):a.tabs.length=b.tabs.length:=by
 have:=congrArg List.length h
 simpa using this
theorem qi {a b:ac}(h:a.tabs.map (·.name)=b.tabs.map (·.name)){k:Nat}(hk:k<a.tabs.length):(a.tabs.getD k default).name=(b.tabs.getD k default).name:=by
 have hb:k<b.tabs.length:=by rw [← rn h];exact hk
 have:=congrArg (fun l=>l.getD k ([]:List UInt8)) h
 simp only at this
 rw [ae (by simpa using hk),ae (by simpa using hb),List.getElem_map,List.getElem_map] at this
 rw [ae hk,ae hb];exact this
structure tX (a b:ac):Prop where
 names:a.tabs.map (·.name)=b.tabs.map (·.name)
 cols:∀ k,k<b.tabs.length→lastS (dr a k)=lastS (dr b k)
theorem tX.tabN {a b:ac}(h:tX a b)(nm:List UInt8):tabN a nm=tabN b nm:=fV h.names nm
theorem tX.len {a b:ac}(h:tX a b):a.tabs.length=b.tabs.length:=rn h.names
theorem tX.last {a b:ac}(h:tX a b){nm:List UInt8}(hn:Go.Proofs.YtganfdhmkdehlaaGreatDoor.tabN b nm<b.tabs.length):lastS (tabT a nm)=lastS (tabT b nm):=by
 have:=h.cols _ hn
 unfold tabT
 rw [h.tabN];exact this
theorem tX.fits {a b:ac}(h:tX a b){l:aj}(hl:ar b l):ar a l:=by
 have e:=h.last hl.src
 have ec:cB a l=cB b l:=by unfold cB;rw [e]
 exact ⟨by rw [h.tabN,h.len];exact hl.src,by rw [h.tabN,h.len];exact hl.dst,hl.lo,hl.hi,by rw [ec,e];exact hl.col,by rw [ec,e];exact hl.kind,by rw [ec,e];exact hl.need⟩
theorem tX.place {a b:ac}(h:tX a b){k:Nat}(hk:k<a.tabs.length)(hb:cx b k)(ht:aP (dr a k)):cx a k:=by
 have e:=qi h.names hk
 exact ⟨by rw [e];exact hb.name,by rw [e,h.tabN];exact hb.place,ht⟩
def aU (b:ac)(k:Nat)(t:ab):ac:=⟨b.tabs.set k ⟨(b.tabs.getD k default).name,t⟩,b.links⟩
theorem bC (b:ac)(k:Nat)(t:ab):(aU b k t).tabs.length=b.tabs.length:=by show (b.tabs.set _ _).length=_;simp
theorem sQ {b:ac}{k:Nat}{t:ab}(hk:k<b.tabs.length)(i:Nat):(aU b k t).tabs.getD i default=if i=k then ⟨(b.tabs.getD k default).name,t⟩ else b.tabs.getD i default:=getD_set hk
theorem setTab_tabK {b:ac}{k:Nat}{t:ab}(hk:k<b.tabs.length)(i:Nat):dr (aU b k t) i=if i=k then t else dr b i:=by
 unfold dr
 rw [sQ hk]
 split<;>rfl
theorem bZ {b:ac}{k:Nat}{t:ab}(hk:k<b.tabs.length):(aU b k t).tabs.map (·.name)=b.tabs.map (·.name):=by
 show (b.tabs.set k _).map _=_
 rw [List.map_set]
 refine List.ext_getElem (by simp) fun i h1 h2=>?_
 rw [List.getElem_set]
 split
 ·rename_i e
  subst e
  simp only [List.getElem_map]
  rw [ae hk]
 ·rfl
theorem pX {b:ac}{k:Nat}{t:ab}(hk:k<b.tabs.length)(nm:List UInt8):tabT (aU b k t) nm=if tabN b nm=k then t else tabT b nm:=by
 have:=setTab_tabK (t:=t) hk (tabN b nm)
 unfold tabT
 rw [fV (bZ hk)]
 exact this
theorem kX {b:ac}{k:Nat}{t:ab}(hk:k<b.tabs.length)(h:lastS t=lastS (dr b k)):tX (aU b k t) b:=by
 refine ⟨bZ hk,fun i hi=>?_⟩
 rw [setTab_tabK hk]
 split
 ·rename_i e;rw [e];exact h
 ·rfl
def ze (b:ac):Prop:=∀ i,i<b.links.length→ap b (b.links.getD i default)
theorem uj {b:ac}{k:Nat}{t:ab}(h:ah b)(hk:k<b.tabs.length)(ht:aP t)(hs:lastS t=lastS (dr b k))(hh:ze (aU b k t)):ah (aU b k t):=by
 have sk:=kX hk hs
 refine ⟨fun i hi=>?_,by rw [bC];exact h.ntab,h.nlink,fun i hi=>⟨sk.fits (h.links i hi).fits,(h.links i hi).apart,hh i hi⟩⟩
 rw [bC] at hi
 refine sk.place (by rw [bC];exact hi) (h.tabs i hi) ?_
 rw [setTab_tabK hk]
 split
 ·exact ht
 ·exact (h.tabs i hi).ok
theorem fA {b:ac}{k:Nat}{t:ab}(h:SmB b)(hk:k<b.tabs.length)(ht:SmT t):SmB (aU b k t):=by
 refine ⟨by rw [bC];exact h.ntab,h.nlink,fun i hi=>?_,fun i hi=>?_⟩
 ·rw [qi (bZ hk) hi]
  rw [bC] at hi
  exact h.names i hi
 ·rw [bC] at hi
  rw [setTab_tabK hk]
  split
  ·exact ht
  ·exact h.tabs i hi
open Classical in
noncomputable def du (b:ac) (k:Nat) (t:ab×Int):ac×Int:=
 if t.2≠0 then (b,t.2) else if ze (aU b k t.1) then (aU b k t.1,0) else (b,7)
abbrev nilB:ac:=⟨[],[]⟩
noncomputable def xu (b:ac) (nm:List UInt8) (xs:List Set):ac×Int:=if tabN b nm<b.tabs.length then du b (tabN b nm) (qe (tabT b nm) xs) else (b,5)
noncomputable def xk (b:ac) (nm:List UInt8) (id:Int) (xs:List Set):ac×Int:=if tabN b nm<b.tabs.length then du b (tabN b nm) (or (tabT b nm) id xs) else (b,5)
open Classical in
noncomputable def oM (b:ac) (nm:List UInt8) (xs:List Set):ac×Int:=if ah b then xu b nm xs else (nilB,1)
open Classical in
noncomputable def oI (b:ac) (nm:List UInt8) (id:Int) (xs:List Set):ac×Int:=if ah b then xk b nm id xs else (nilB,1)
theorem ow {b:ac}{k:Nat}{t:ab×Int}(h:ah b)(hk:k<b.tabs.length)(ht:aP t.1)(hs:lastS t.1=lastS (dr b k)):ah (du b k t).1:=by
 unfold du
 split
 ·exact h
 split
 ·rename_i hh;exact uj h hk ht hs hh
 ·exact h
theorem ou {b:ac}{k:Nat}{t:ab×Int}(h:SmB b)(hk:k<b.tabs.length)(ht:SmT t.1):SmB (du b k t).1:=by
 unfold du
 split
 ·exact h
 split
 ·exact fA h hk ht
 ·exact h
theorem k8 (t:ab)(xs:List Set):lastS (qe t xs).1=lastS t:=by
 rcases putT_cases t xs with ⟨row,_,e⟩|⟨e,_⟩
 ·rw [e];rfl
 ·rw [e]
theorem kZ (t:ab)(id:Int)(xs:List Set):lastS (or t id xs).1=lastS t:=by
 rcases setT_cases t id xs with ⟨row,_,e⟩|⟨e,_⟩
 ·rw [e];rfl
 ·rw [e]
theorem oL {b:ac}{nm:List UInt8}{xs:List Set}(h:am b)(hx:SmX xs):am (xu b nm xs).1:=by
 unfold xu
 split
 ·rename_i hk
  have g:=h.tabT hk
  exact ⟨ow h.ok hk (qd g.ok) (k8 _ _),ou h.sm hk (qc g.ok g.sm hx)⟩
 ·exact h
theorem oG {b:ac}{nm:List UInt8}{id:Int}{xs:List Set}(h:am b)(hx:SmX xs):am (xk b nm id xs).1:=by
 unfold xk
 split
 ·rename_i hk
  have g:=h.tabT hk
  exact ⟨ow h.ok hk (pY g.ok) (kZ _ _ _),ou h.sm hk (setT_sm g.ok g.sm hx)⟩
 ·exact h
abbrev B6 (s:List Col):ab:=⟨s,[],[],1⟩
def fR (b:ac)(nm:List UInt8)(s:List Col):ac:=⟨b.tabs++[⟨nm,B6 s⟩],b.links⟩
open Classical in
noncomputable def mn (b:ac) (nm:List UInt8) (s:List Col):ac×Int:=
 if ¬ al nm∨tabN b nm<b.tabs.length∨¬ ak s then (b,1) else if b.tabs.length=3 then (b,4) else (fR b nm s,0)
open Classical in
noncomputable def tableBB (b:ac) (nm:List UInt8) (s:List Col):ac×Int:=if ah b then mn b nm s else (nilB,1)
theorem ib {s:List Col}(h:ak s):ot (B6 s):=
 ⟨gV h ⟨s,rfl⟩ (by simp) (by simp) (Int.le_refl _) (show (1:Int)≤60 by decide) (fun _ h=>by cases h) .nil .nil,⟨h.sm,⟨by simp,fun _ h=>by cases h⟩,by simp,fun k hk=>by simp at hk⟩⟩
theorem eH (b:ac)(nm:List UInt8)(s:List Col):(fR b nm s).tabs.length=b.tabs.length+1:=by show (b.tabs++[_]).length=_;simp
theorem gp {b:ac}{nm:List UInt8}{s:List Col}{i:Nat}(hi:i<b.tabs.length):(fR b nm s).tabs.getD i default=b.tabs.getD i default:=by
 show (b.tabs++[_]).getD i default=_
 rw [List.getD_eq_getElem?_getD,List.getElem?_append_left hi,List.getD_eq_getElem?_getD]
theorem eG {b:ac}{nm:List UInt8}{s:List Col}:(fR b nm s).tabs.getD b.tabs.length default=⟨nm,B6 s⟩:=by
 show (b.tabs++[_]).getD _ default=_
 simp [List.getD_eq_getElem?_getD]
theorem fh {b:ac}{nm:List UInt8}{s:List Col}{x:List UInt8}(hx:tabN b x<b.tabs.length):tabN (fR b nm s) x=tabN b x:=by
 show (b.tabs++[_]).findIdx _=_
 unfold tabN at hx
 rw [List.findIdx_append,if_pos hx];rfl
theorem lZ {b:ac}{nm:List UInt8}{s:List Col}(hx:¬ tabN b nm<b.tabs.length):tabN (fR b nm s) nm=b.tabs.length:=by
 show (b.tabs++[_]).findIdx _=_
 unfold tabN at hx
 rw [List.findIdx_append,if_neg hx]
 simp [List.findIdx_cons]
theorem lY {b:ac}{nm:List UInt8}{s:List Col}{x:List UInt8}(hx:tabN b x<b.tabs.length):tabT (fR b nm s) x=tabT b x:=by
 unfold tabT
 rw [fh hx,gp hx]
theorem ar.same {a b:ac}{l:aj}(h:ar b l)(hl:b.tabs.length≤a.tabs.length)(h1:tabN a l.from_=tabN b l.from_)(h2:tabN a l.to=tabN b l.to)(h3:lastS (tabT a l.from_)=lastS (tabT b l.from_)):ar a l:=by
 have ec:cB a l=cB b l:=by unfold cB;rw [h3]
 exact ⟨by rw [h1];exact Nat.lt_of_lt_of_le h.src hl,by rw [h2];exact Nat.lt_of_lt_of_le h.dst hl,h.lo,h.hi,by rw [ec,h3];exact h.col,by rw [ec,h3];exact h.kind,by rw [ec,h3];exact h.need⟩
theorem ap.same {a b:ac}{l:aj}(h:ap b l)(h1:tabT a l.from_=tabT b l.from_)(h2:tabT a l.to=tabT b l.to):ap a l:=by
 unfold ap bd fw cB at *
 rw [h1,h2];exact h
theorem wL {b:ac}{nm:List UInt8}{s:List Col}(h:ah b)(h1:al nm)(h2:¬ tabN b nm<b.tabs.length)(h3:ak s)(h4:b.tabs.length≠3):ah (fR b nm s):=by
 have hn:=h.ntab
 refine ⟨fun k hk=>?_,by rw [eH];omega,h.nlink,fun i hi=>?_⟩
 ·rw [eH] at hk
  by_cases hkl:k<b.tabs.length
  ·have g:=h.tabs k hkl
   have e:=gp (nm:=nm) (s:=s) hkl
   refine ⟨by rw [e];exact g.name,?_,?_⟩
   ·rw [e,fh (by rw [g.place];exact hkl)];exact g.place
   ·unfold dr;rw [e];exact g.ok
  ·have:k=b.tabs.length:=by omega
   subst this
   refine ⟨by rw [eG];exact h1,by rw [eG];exact lZ h2,?_⟩
   unfold dr;rw [eG];exact (ib h3).ok
 ·have g:=h.links i hi
  have e1:=lY (nm:=nm) (s:=s) g.fits.src
  have e2:=lY (nm:=nm) (s:=s) g.fits.dst
  exact ⟨g.fits.same (by rw [eH];omega) (fh g.fits.src) (fh g.fits.dst) (by rw [show tabT (fR b nm s) (b.links.getD i default).from_=_ from e1]),g.apart,g.holds.same e1 e2⟩
theorem al.sm {s:List UInt8}(h:al s):s.length≤1000:=by have:=h.2.2;omega
theorem wK {b:ac}{nm:List UInt8}{s:List Col}(h:SmB b)(h1:al nm)(h3:ak s)(h4:b.tabs.length≤500):SmB (fR b nm s):=by
 refine ⟨by rw [eH];omega,h.nlink,fun k hk=>?_,fun k hk=>?_⟩<;>rw [eH] at hk
 ·by_cases hkl:k<b.tabs.length
  ·rw [gp hkl];exact h.names k hkl
  ·have:k=b.tabs.length:=by omega
   subst this
   rw [eG];exact h1.sm
 ·unfold dr
  by_cases hkl:k<b.tabs.length
  ·rw [gp hkl];exact h.tabs k hkl
  ·have:k=b.tabs.length:=by omega
   subst this
   rw [eG];exact (ib h3).sm
theorem pV {b:ac}{nm:List UInt8}{s:List Col}(h:am b):am (mn b nm s).1:=by
 unfold mn
 split
 ·exact h
 rename_i h1
 split
 ·exact h
 rename_i h3
 have g1:al nm:=c_ fun hh=>h1 (.inl hh)
 have g2:¬ tabN b nm<b.tabs.length:=fun hh=>h1 (.inr (.inl hh))
 have g3:ak s:=c_ fun hh=>h1 (.inr (.inr hh))
 exact ⟨wL h.ok g1 g2 g3 h3,wK h.sm g1 g3 (by have:=h.ok.ntab;omega)⟩
theorem z7:ah nilB:=⟨fun _ h=>absurd h (Nat.not_lt_zero _),by simp,by simp,fun _ h=>absurd h (Nat.not_lt_zero _)⟩
theorem qh:SmB nilB:=⟨by simp,by simp,fun _ h=>absurd h (Nat.not_lt_zero _),fun _ h=>absurd h (Nat.not_lt_zero _)⟩
theorem oP:am nilB:=⟨z7,qh⟩
def dE (b:ac)(l:aj):ac:=⟨b.tabs,b.links++[l]⟩
def bA (b:ac)(nm col:List UInt8):Prop:=∃ k,k<b.links.length∧(b.links.getD k default).from_=nm∧(b.links.getD k default).col=col
open Classical in
noncomputable def s8 (b:ac) (l:aj):ac×Int:=
 if ¬ ar b l∨bA b l.from_ l.col then (b,1) else if ¬ ap b l then (b,7) else if b.links.length=4 then (b,4) else (dE b l,0)
open Classical in
noncomputable def linkBB (b:ac) (l:aj):ac×Int:=if ah b then s8 b l else (nilB,1)
theorem dD {b:ac}{l:aj}{i:Nat}(hi:i<b.links.length):(dE b l).links.getD i default=b.links.getD i default:=by
 show (b.links++[_]).getD i default=_
 rw [List.getD_eq_getElem?_getD,List.getElem?_append_left hi,List.getD_eq_getElem?_getD]
theorem addLink_new {b:ac}{l:aj}:(dE b l).links.getD b.links.length default=l:=by
 show (b.links++[_]).getD _ default=_
 simp [List.getD_eq_getElem?_getD]
theorem addLink_len (b:ac)(l:aj):(dE b l).links.length=b.links.length+1:=by show (b.links++[_]).length=_;simp
theorem tK {b:ac}{l:aj}(h:ah b)(h1:ar b l)(h2:¬ bA b l.from_ l.col)(h3:ap b l)(h4:b.links.length≠4):ah (dE b l):=by
 have hn:=h.nlink
 have fit:∀ {x:aj},ar b x→ar (dE b l) x:=fun g=>⟨g.src,g.dst,g.lo,g.hi,g.col,g.kind,g.need⟩
 have hld:∀ {x:aj},ap b x→ap (dE b l) x:=fun g=>g
 refine ⟨fun k hk=>have g:=h.tabs k hk;⟨g.name,g.place,g.ok⟩,h.ntab,by rw [addLink_len];omega,fun i hi=>?_⟩
 rw [addLink_len] at hi
 by_cases hil:i<b.links.length
 ·have g:=h.links i hil
  have e:=dD (l:=l) hil
  refine ⟨by rw [e];exact fit g.fits,fun k hk=>?_,by rw [e];exact hld g.holds⟩
  rw [e,dD (show k<b.links.length by omega)];exact g.apart k hk
 ·have:i=b.links.length:=by omega
  subst this
  refine ⟨by rw [addLink_new];exact fit h1,fun k hk=>?_,by rw [addLink_new];exact hld h3⟩
  rw [addLink_new,dD hk]
  exact fun hh=>h2 ⟨k,hk,hh.1,hh.2⟩
theorem tJ {b:ac}{l:aj}(h:SmB b)(h4:b.links.length≤500):SmB (dE b l):=⟨h.ntab,by rw [addLink_len];omega,h.names,h.tabs⟩
theorem s7 {b:ac}{l:aj}(h:am b):am (s8 b l).1:=by
 unfold s8
 split
 ·exact h
 rename_i h1
 split
 ·exact h
 rename_i h2
 split
 ·exact h
 rename_i h3
 exact ⟨tK h.ok (c_ fun hh=>h1 (.inl hh)) (fun hh=>h1 (.inr hh)) (c_ h2) h3,tJ h.sm (by have:=h.ok.nlink;omega)⟩
def gJ (c:aa)(col:List UInt8):List UInt8:=if c.kind=3∧col=c.name then c.new else col
structure Bs (s:List Col) (c:aa) (col:List UInt8) (i:Nat):Prop where
 at_:atN (chg s c) (gJ c col)=i
 lt:i < (chg s c).length
 kind:((chg s c).getD i default).kind=(s.getD (atN s col) default).kind
 need:((chg s c).getD i default).need=(s.getD (atN s col) default).need
 row:∀ row:List Val,row.length=s.length→(aE s c row).getD i default=row.getD (atN s col) default
theorem rb {s:List Col}{c:aa}{col:List UInt8}(hc:Can s c)(hi:atN s col<s.length)(hne:c.kind=2∨c.kind=4→col≠c.name):∃ i,Bs s c col i:=by
 have hnm:=fg hi
 have key:∀ i,i < (chg s c).length→((chg s c).getD i default).name=gJ c col→atN (chg s c) (gJ c col)=i:=fun i h1 h2=>by rw [← h2];exact Dv hc.ok h1
 by_cases k1:c.kind=1
 ·have e:chg s c=s++[c.col]:=by unfold chg;rw [if_pos k1]
  have ea:∀ r,aE s c r=r++[c.col.def_]:=fun r=>by unfold aE;rw [if_pos k1]
  have er:gJ c col=col:=by unfold gJ;rw [if_neg (fun h=>by omega)]
  have eg:(chg s c).getD (atN s col) default=s.getD (atN s col) default:=by rw [e,List.getD_eq_getElem?_getD,List.getElem?_append_left hi,List.getD_eq_getElem?_getD]
  have hl:atN s col < (chg s c).length:=by rw [e];simp;omega
  refine ⟨atN s col,key _ hl (by rw [eg,er,hnm]),hl,by rw [eg],by rw [eg],fun row hrow=>?_⟩
  rw [ea,List.getD_eq_getElem?_getD,List.getElem?_append_left (by omega),List.getD_eq_getElem?_getD]
 have hat:=hc.may.there k1
 have hjn:=fg hat
 by_cases k2:c.kind=2
 ·have e:chg s c=s.eraseIdx (atN s c.name):=by unfold chg;rw [if_neg k1,if_pos k2]
  have ea:∀ r,aE s c r=r.eraseIdx (atN s c.name):=fun r=>by unfold aE;rw [if_neg k1,if_pos k2]
  have er:gJ c col=col:=by unfold gJ;rw [if_neg (fun h=>by omega)]
  have hij:atN s col≠atN s c.name:=fun h=>hne (.inl k2) (by rw [← hnm,h,hjn])
  have hl:(chg s c).length=s.length-1:=by rw [e,List.length_eraseIdx,if_pos hat]
  by_cases hlt:atN s col<atN s c.name
  ·have eg:(chg s c).getD (atN s col) default=s.getD (atN s col) default:=by rw [e,bE,if_pos hlt]
   refine ⟨atN s col,key _ (by omega) (by rw [eg,er,hnm]),by omega,by rw [eg],by rw [eg],fun row hrow=>?_⟩
   rw [ea,bE,if_pos hlt]
  ·have h1:¬ atN s col-1<atN s c.name:=by omega
   have h2:atN s col-1+1=atN s col:=by omega
   have eg:(chg s c).getD (atN s col-1) default=s.getD (atN s col) default:=by rw [e,bE,if_neg h1,h2]
   refine ⟨atN s col-1,key _ (by omega) (by rw [eg,er,hnm]),by omega,by rw [eg],by rw [eg],fun row hrow=>?_⟩
   rw [ea,bE,if_neg h1,h2]
 by_cases k3:c.kind=3
 ·have e:chg s c=s.set (atN s c.name) { s.getD (atN s c.name) default with name:=c.new }:=by unfold chg;rw [if_neg k1,if_neg k2,if_pos k3]
  have ea:∀ r,aE s c r=r:=fun r=>by unfold aE;rw [if_neg k1,if_neg k2,if_neg (by omega)]
  have hl:(chg s c).length=s.length:=by rw [e];simp
  by_cases hij:atN s col=atN s c.name
  ·have hcol:col=c.name:=by rw [← hnm,hij,hjn]
   have er:gJ c col=c.new:=if_pos ⟨k3,hcol⟩
   have eg:(chg s c).getD (atN s col) default = { s.getD (atN s c.name) default with name:=c.new }:=by rw [e,getD_set hat,if_pos hij]
   exact ⟨atN s col,key _ (by omega) (by rw [eg,er]),by omega,by rw [eg,hij],by rw [eg,hij],fun row _=>by rw [ea]⟩
  ·have hcol:col≠c.name:=fun h=>hij (by rw [h])
   have er:gJ c col=col:=if_neg fun h=>hcol h.2
   have eg:(chg s c).getD (atN s col) default=s.getD (atN s col) default:=by rw [e,getD_set hat,if_neg hij]
   exact ⟨atN s col,key _ (by omega) (by rw [eg,er,hnm]),by omega,by rw [eg],by rw [eg],fun row _=>by rw [ea]⟩
 have k4:c.kind=4:=by have:=hc.may.named.kinds;omega
 have e:chg s c=s.set (atN s c.name) { s.getD (atN s c.name) default with kind:=c.col.kind,def_:=valAs (s.getD (atN s c.name) default).def_ c.col.kind }:=by unfold chg;rw [if_neg k1,if_neg k2,if_neg k3]
 have ea:∀ r,aE s c r=r.set (atN s c.name) (valAs (r.getD (atN s c.name) default) c.col.kind):=fun r=>by unfold aE;rw [if_neg k1,if_neg k2,if_pos k4]
 have er:gJ c col=col:=by unfold gJ;rw [if_neg (fun h=>by omega)]
 have hij:atN s col≠atN s c.name:=fun h=>hne (.inr k4) (by rw [← hnm,h,hjn])
 have hl:(chg s c).length=s.length:=by rw [e];simp
 have eg:(chg s c).getD (atN s col) default=s.getD (atN s col) default:=by rw [e,getD_set hat,if_neg hij]
 refine ⟨atN s col,key _ (by omega) (by rw [eg,er,hnm]),by omega,by rw [eg],by rw [eg],fun row hrow=>?_⟩
 rw [ea,getD_set (by omega),if_neg hij]
theorem ur {s:List Col}{c:aa}{x y:List UInt8}(hc:Can s c)(hx:atN s x<s.length)(hy:atN s y<s.length)(nx:c.kind=2∨c.kind=4→x≠c.name)(ny:c.kind=2∨c.kind=4→y≠c.name)(h:gJ c x=gJ c y):x=y:=by
 obtain ⟨p,hp⟩:=rb hc hx nx
 obtain ⟨q,hq⟩:=rb hc hy ny
 have hpq:p=q:=by rw [← hp.at_,← hq.at_,h]
 have u1:=hp.row ((List.range s.length).map fun z:Nat=>(⟨(z:Int),0,[]⟩:Val)) (by simp)
 have u2:=hq.row ((List.range s.length).map fun z:Nat=>(⟨(z:Int),0,[]⟩:Val)) (by simp)
 rw [hpq,u2,ae (by simpa using hy),ae (by simpa using hx)] at u1
 simp only [List.getElem_map,List.getElem_range,Val.mk.injEq,and_self,and_true] at u1
 have u3:atN s y=atN s x:=by omega
 rw [← fg hx,← u3,fg hy]
def bn (nm:List UInt8)(c:aa)(l:aj):aj:=if c.kind=3∧l.from_=nm∧l.col=c.name then { l with col:=c.new } else l
theorem reLink_from (nm:List UInt8)(c:aa)(l:aj):(bn nm c l).from_=l.from_:=by unfold bn;split<;>rfl
theorem oK (nm:List UInt8)(c:aa)(l:aj):(bn nm c l).to=l.to:=by unfold bn;split<;>rfl
theorem jk (nm:List UInt8)(c:aa)(l:aj):(bn nm c l).how=l.how:=by unfold bn;split<;>rfl
theorem jl {nm:List UInt8}{c:aa}{l:aj}(h:l.from_=nm):(bn nm c l).col=gJ c l.col:=by
 unfold bn gJ
 by_cases h1:c.kind=3∧l.col=c.name
 ·rw [if_pos ⟨h1.1,h,h1.2⟩,if_pos h1]
 ·rw [if_neg (fun hh=>h1 ⟨hh.1,hh.2.2⟩),if_neg h1]
theorem fB {nm:List UInt8}{c:aa}{l:aj}(h:l.from_≠nm):bn nm c l=l:=if_neg fun hh=>h hh.2.1
def bi (b:ac)(k:Nat)(t:ab)(nm:List UInt8)(c:aa):ac:=⟨(aU b k t).tabs,b.links.map (bn nm c)⟩
theorem gS {b:ac}{k:Nat}{t:ab}{nm:List UInt8}{c:aa}{i:Nat}(hi:i<b.links.length):(bi b k t nm c).links.getD i default=bn nm c (b.links.getD i default):=by
 show (b.links.map _).getD i default=_
 rw [ae (by simpa using hi),List.getElem_map,ae hi]
theorem fP (b:ac)(k:Nat)(t:ab)(nm:List UInt8)(c:aa):(bi b k t nm c).links.length=b.links.length:=by show (b.links.map _).length=_;simp
open Classical in
noncomputable def ff (b:ac) (nm:List UInt8) (c:aa):ac×Int:=
 if tabN b nm<b.tabs.length then
  if (eF (tabT b nm) c).2=1 then (b,1)
  else if (c.kind=2∨c.kind=4)∧bA b nm c.name then (b,8)
  else if (eF (tabT b nm) c).2≠0 then (b,(eF (tabT b nm) c).2)
  else (bi b (tabN b nm) (eF (tabT b nm) c).1 nm c,0)
 else (b,5)
open Classical in
noncomputable def d6 (b:ac) (nm:List UInt8) (c:aa):ac×Int:=if ah b then ff b nm c else (nilB,1)
theorem wt {t:ab}{c:aa}(h:(eF t c).2=0):jF t c∧t.changes.length≠8∧eF t c=(m5 t c,0):=by
 rcases chgT_cases t c with ⟨h1,h2⟩|⟨h1,h2⟩|h1|⟨h1,h2⟩
 ·exact ⟨h1,h2,wx h1 h2⟩
 ·rw [wv h1 h2] at h;exact absurd (show (4:Int)=0 from h) (by decide)
 ·rw [ww h1] at h;exact absurd (show (1:Int)=0 from h) (by decide)
 ·rw [wu h1 h2] at h;exact absurd (show (2:Int)=0 from h) (by decide)
theorem tF {b:ac}{nm:List UInt8}{c:aa}(h:am b)(hk:tabN b nm<b.tabs.length)(hu:¬ ((c.kind=2∨c.kind=4)∧bA b nm c.name))(hz:(eF (tabT b nm) c).2=0) :
     ah (bi b (tabN b nm) (eF (tabT b nm) c).1 nm c):=by
 obtain ⟨hf,h8,e⟩:=wt hz
 have g:=h.tabT hk
 have hrt:=g.ok.rt g.sm
 have hs:=hrt.okLast
 have hok:aP (m5 (tabT b nm) c):=by have:=A4 (c:=c) g.ok g.sm;rwa [e] at this
 have hl:lastS (m5 (tabT b nm) c)=chg (lastS (tabT b nm)) c:=jp hrt.last hf.can
 have hnow:∀ k,k < (tabT b nm).rows.length→nowR (m5 (tabT b nm) c) ((tabT b nm).rows.getD k default)=aE (lastS (tabT b nm)) c (nowR (tabT b nm) ((tabT b nm).rows.getD k default)):=fun k hk=>hH hrt (g.ok.rows k hk).ver
 rw [e]
 show ah (bi b (tabN b nm) (m5 (tabT b nm) c) nm c)
 have hN:∀ x,tabN (bi b (tabN b nm) (m5 (tabT b nm) c) nm c) x=tabN b x:=fun x=>fV (bZ hk) x
 have hT:∀ x,tabT (bi b (tabN b nm) (m5 (tabT b nm) c) nm c) x=if tabN b x=tabN b nm then m5 (tabT b nm) c else tabT b x:=fun x=>pX hk x
 have hlen:(bi b (tabN b nm) (m5 (tabT b nm) c) nm c).tabs.length=b.tabs.length:=bC _ _ _
 have hrows:∀ x,(tabT (bi b (tabN b nm) (m5 (tabT b nm) c) nm c) x).rows=(tabT b x).rows:=fun x=>by
  rw [hT]
  split
  ·rename_i ex
   unfold tabT
   rw [ex];rfl
  ·rfl
 refine ⟨fun i hi=>?_,by rw [hlen];exact h.ok.ntab,by rw [fP];exact h.ok.nlink,fun i hi=>?_⟩
 ·rw [hlen] at hi
  have e1:=qi (bZ (t:=m5 (tabT b nm) c) hk) (k:=i) (by rw [bC];exact hi)
  have gg:=h.ok.tabs i hi
  refine ⟨?_,?_,?_⟩
  ·show al ((aU b _ _).tabs.getD i default).name
   rw [e1];exact gg.name
  ·rw [hN]
   show tabN b ((aU b _ _).tabs.getD i default).name=i
   rw [e1];exact gg.place
  ·show aP (dr (aU b _ _) i)
   rw [setTab_tabK hk]
   split
   ·exact hok
   ·exact gg.ok
 ·rw [fP] at hi
  have gl:=h.ok.links i hi
  have hapart:c6 (bi b (tabN b nm) (m5 (tabT b nm) c) nm c) i:=fun k hki=>by
   rw [gS hi,gS (show k<b.links.length by omega)]
   rintro ⟨h1,h2⟩
   rw [reLink_from,reLink_from] at h1
   refine gl.apart k hki ⟨h1,?_⟩
   by_cases hn:(b.links.getD i default).from_=nm
   case neg=>rwa [fB hn,fB (by rw [h1];exact hn)] at h2
   have hn':(b.links.getD k default).from_=nm:=by rw [h1];exact hn
   rw [jl hn,jl hn'] at h2
   have f1:=gl.fits
   have f2:=(h.ok.links k (by omega)).fits
   have c1:atN (lastS (tabT b nm)) (b.links.getD i default).col < (lastS (tabT b nm)).length:=by have:=f1.col;unfold cB at this;rwa [hn] at this
   have c2:atN (lastS (tabT b nm)) (b.links.getD k default).col < (lastS (tabT b nm)).length:=by have:=f2.col;unfold cB at this;rwa [hn'] at this
   have n1:c.kind=2∨c.kind=4→(b.links.getD i default).col≠c.name:=fun q ee=>hu ⟨q,i,hi,hn,ee⟩
   have n2:c.kind=2∨c.kind=4→(b.links.getD k default).col≠c.name:=fun q ee=>hu ⟨q,k,by omega,hn',ee⟩
   exact ur hf.can c2 c1 n2 n1 h2
  have hL:=gS (b:=b) (k:=tabN b nm) (t:=m5 (tabT b nm) c) (nm:=nm) (c:=c) hi
  have f:=gl.fits
  have gh:=gl.holds
  clear gl
  generalize hll:b.links.getD i default=l at *
  by_cases hn:l.from_=nm
  case neg=>
   have hnN:tabN b l.from_≠tabN b nm:=fun ee=>hn (xe f.src ee)
   have e1:tabT (bi b (tabN b nm) (m5 (tabT b nm) c) nm c) l.from_=tabT b l.from_:=by rw [hT,if_neg hnN]
   rw [fB hn] at hL
   refine ⟨by rw [hL];exact f.same (by rw [hlen];exact Nat.le_refl _) (hN _) (hN _) (by rw [e1]),hapart,?_⟩
   rw [hL]
   intro k hk2
   rw [e1] at hk2 ⊢
   intro hv
   have e2:fw (bi b (tabN b nm) (m5 (tabT b nm) c) nm c) l ((tabT b l.from_).rows.getD k default)=fw b l ((tabT b l.from_).rows.getD k default):=by unfold fw cB;rw [e1]
   rw [e2] at hv ⊢
   have:=gh k hk2 hv
   unfold rowN at this ⊢
   rw [hrows];exact this
  have e1:tabT (bi b (tabN b nm) (m5 (tabT b nm) c) nm c) l.from_=m5 (tabT b nm) c:=by rw [hT,hn,if_pos rfl]
  have c1:atN (lastS (tabT b nm)) l.col < (lastS (tabT b nm)).length:=by have:=f.col;unfold cB at this;rwa [hn] at this
  obtain ⟨p,hp⟩:=rb hf.can c1 (fun q ee=>hu ⟨q,i,hi,by rw [hll];exact hn,by rw [hll];exact ee⟩)
  have ecol:cB (bi b (tabN b nm) (m5 (tabT b nm) c) nm c) (bn nm c l)=p:=by
   unfold cB
   rw [reLink_from,e1,hl,jl hn];exact hp.at_
  have hkind:=f.kind
  have hneed:=f.need
  unfold cB at hkind hneed
  rw [hn] at hkind hneed
  refine ⟨?_,hapart,?_⟩
  ·rw [hL]
   refine ⟨by rw [reLink_from,hN,hlen];exact f.src,by rw [oK,hN,hlen];exact f.dst,by rw [jk];exact f.lo,by rw [jk];exact f.hi,?_,?_,fun hw=>?_⟩
   ·rw [ecol,reLink_from,e1,hl];exact hp.lt
   ·rw [ecol,reLink_from,e1,hl,hp.kind];exact hkind
   ·rw [jk] at hw
    rw [ecol,reLink_from,e1,hl,hp.need];exact hneed hw
  ·rw [hL]
   intro k hk2
   rw [reLink_from] at hk2 ⊢
   rw [hrows] at hk2 ⊢
   have hk3:k < (tabT b nm).rows.length:=by rwa [hn] at hk2
   have ev:fw (bi b (tabN b nm) (m5 (tabT b nm) c) nm c) (bn nm c l) ((tabT b l.from_).rows.getD k default)=fw b l ((tabT b l.from_).rows.getD k default):=by
    unfold fw
    rw [ecol,reLink_from,e1,hn,hnow k hk3,hp.row _ (by have:=(g.now hk3).len;omega)]
    unfold cB
    rw [hn]
   intro hv
   rw [ev] at hv ⊢
   have:=gh k hk2 hv
   rw [oK]
   unfold rowN at this ⊢
   rw [hrows];exact this
theorem tE {b:ac}{k:Nat}{t:ab}{nm:List UInt8}{c:aa}(h:SmB b)(hk:k<b.tabs.length)(ht:SmT t):SmB (bi b k t nm c):=by
 have:=fA h hk ht
 exact ⟨this.ntab,by rw [fP];exact h.nlink,this.names,this.tabs⟩
theorem fQ {b:ac}{nm:List UInt8}{c:aa}(h:am b)(hc:jd c):am (ff b nm c).1:=by
 unfold ff
 split
 case isFalse=>exact h
 rename_i hk
 split
 ·exact h
 split
 ·exact h
 rename_i hu
 split
 ·exact h
 rename_i hz
 have hz0:=c_ hz
 have g:=h.tabT hk
 exact ⟨tF h hk hu hz0,tE h.sm hk (chgT_sm g.ok g.sm hc)⟩
end Go.Proofs.YtganfdhmkdehlaaGreatDoor
