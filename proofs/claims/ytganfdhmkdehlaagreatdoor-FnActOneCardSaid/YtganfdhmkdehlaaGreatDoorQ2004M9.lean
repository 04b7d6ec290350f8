/- What is done to a table that is right: rows away, rows put, rows set, columns changed. -/
import Derived.Test.YtganfdhmkdehlaaGreatDoorQ2004M7
set_option linter.all false
namespace Go.Proofs.YtganfdhmkdehlaaGreatDoor
open Go Go.HL
structure RG (t:ab) (r:Row):Prop where
 ver:jK t r.ver
 lo:1≤r.id
 hi:r.id<t.next
 was:aO (aX t r.ver.toNat) r.vals
 now:aO (lastS t) (nowR t r)
theorem aP.rg {t:ab}(h:aP t):∀ r,r∈t.rows→RG t r:=fun r hr=>by
 obtain ⟨k,hk,rfl⟩:=g_ hr
 have h1:=h.rows k hk
 have e:t.rows.getD k default=t.rows[k]:=ae hk
 exact ⟨e▸h1.ver,e▸h1.lo,e▸h1.hi,e▸h1.was,e▸h1.now⟩
theorem aP.asc {t:ab}(h:aP t):t.rows.Pairwise fun a b=>a.id<b.id:=by
 rw [List.pairwise_iff_getElem]
 have key:∀ (m i:Nat) (hj:i+1+m<t.rows.length),t.rows[i].id<t.rows[i+1+m].id:=by
  intro m
  induction m with
  | zero=>
   intro i hj
   have h2:=(h.rows (i+1) hj).up (by omega)
   rw [ae hj] at h2
   simp only [Nat.add_sub_cancel] at h2
   rw [ae (show i<t.rows.length by omega)] at h2
   exact h2
  | succ m ih=>
   intro i hj
   have h1:=ih i (by omega)
   have h2:=(h.rows (i+1+(m+1)) hj).up (by omega)
   rw [ae hj] at h2
   have e:i+1+(m+1)-1=i+1+m:=by omega
   rw [e,ae (show i+1+m<t.rows.length by omega)] at h2
   exact Int.lt_trans h1 h2
 intro i j hi hj hij
 obtain ⟨m,rfl⟩:∃ m,j=i+1+m:=⟨j - (i+1),by omega⟩
 exact key m i hj
theorem gK {t:ab}(h1:ak t.first)(h2:∃ x,run t.first t.changes=some x)(h3:t.changes.length≤8)(h4:t.rows.length≤8)(h5:1≤t.next)(h6:t.next≤60)
     (h7:∀ r,r∈t.rows→RG t r) (h8:t.rows.Pairwise fun a b=>a.id<b.id) (h9:NoTwice (lastS t) (nows t)):aP t:=
 ⟨h1,h2,h3,h4,h5,h6,fun k hk=>by
  have e:t.rows.getD k default=t.rows[k]:=ae hk
  have g:=h7 _ (List.getElem_mem hk)
  refine ⟨e▸g.ver,e▸g.lo,e▸g.hi,fun h0=>?_,e▸g.was,e▸g.now⟩
  rw [e,ae (show k-1<t.rows.length by omega)]
  exact List.pairwise_iff_getElem.1 h8 (k-1) k (by omega) hk (by omega),h9⟩
def rowN (t:ab)(id:Int):Nat:=t.rows.findIdx fun r=>decide (r.id=id)
def wA (t:ab)(id:Int):Int:=if rowN t id<t.rows.length then (rowN t id:Int) else -1
theorem m5 {t:ab}{id:Int}(h:rowN t id<t.rows.length):(t.rows.getD (rowN t id) default).id=id:=by
 rw [ae h]
 exact of_decide_eq_true (List.findIdx_getElem (w:=h))
theorem ef {t:ab}(ha:t.rows.Pairwise fun a b=>a.id<b.id){k:Nat}(hk:k<t.rows.length):rowN t (t.rows.getD k default).id=k:=by
 unfold rowN
 rw [ae hk]
 refine (List.findIdx_eq hk).2 ⟨by simp,fun j hj=>?_⟩
 have:=List.pairwise_iff_getElem.1 ha j k (by omega) hk hj
 simp;omega
theorem wy {t:ab}{id:Int}(h:∃ r,r∈t.rows∧r.id=id):rowN t id<t.rows.length:=by
 obtain ⟨r,hr,e⟩:=h
 exact List.findIdx_lt_length_of_exists ⟨r,hr,by simpa using e⟩
def sr (t:ab)(id:Int):ab×Int:=if rowN t id<t.rows.length then ({ t with rows:=t.rows.eraseIdx (rowN t id) },0) else (t,5)
theorem RG.mono {t:ab}{r:Row}(h:RG t r){rs:List Row}{n:Int}(hn:t.next≤n):RG { t with rows:=rs,next:=n } r:=
 ⟨⟨h.ver.lo,h.ver.hi⟩,h.lo,by have:=h.hi;show r.id<n;omega,h.was,h.now⟩
theorem nowR_new (t:ab)(id:Int)(row:List Val):nowR t ⟨id,(t.changes.length:Int),row⟩=row:=by
 unfold nowR
 show dr _ (t.changes.drop ((t.changes.length:Int).toNat)) row=row
 rw [tn,List.drop_length];rfl
theorem RG_new {t:ab}{id:Int}{row:List Val}(h1:1≤id)(h2:id<t.next)(h:aO (lastS t) row):RG t ⟨id,(t.changes.length:Int),row⟩:=
 ⟨⟨by show (0:Int)≤(t.changes.length:Int);omega,Int.le_refl _⟩,h1,h2,by
  show aO (aX t ((t.changes.length:Int).toNat)) row
  rw [tn,cQ];exact h,by rw [nowR_new];exact h⟩
theorem AM {t:ab}(h:aP t){row:List Val}(h1:aO (lastS t) row)(h2:NoTwice (lastS t) (nows t++[row]))(h3:t.rows.length≠8)(h4:t.next≠60) :
     aP { t with rows:=t.rows++[⟨t.next,(t.changes.length:Int),row⟩],next:=t.next+1 }:=by
 have:=h.nrow;have:=h.lo;have:=h.hi
 refine gK h.first h.run h.nch (by simp;omega) (by show 1≤t.next+1;omega) (by show t.next+1≤60;omega) (fun r hr=>?_) ?_ ?_
 ·rcases p_ hr with hr|hr
  ·exact (h.rg r hr).mono (by omega)
  ·simp only [List.mem_singleton] at hr
   subst hr
   exact RG_new (t:={ t with rows:=t.rows++[⟨t.next,(t.changes.length:Int),row⟩],next:=t.next+1 }) h.lo (by show t.next<t.next+1;omega) h1
 ·refine List.pairwise_append.2 ⟨h.asc,List.pairwise_singleton ..,fun a ha b hb=>?_⟩
  simp only [List.mem_singleton] at hb
  subst hb
  exact (h.rg a ha).hi
 ·show NoTwice (lastS t) ((t.rows++[_]).map (nowR t))
  rw [List.map_append]
  show NoTwice (lastS t) (nows t++[nowR t _])
  rw [nowR_new];exact h2
theorem AL {t:ab}(h:aP t){k:Nat}(hk:k<t.rows.length){row:List Val}(h1:aO (lastS t) row)(h2:NoTwice (lastS t) ((nows t).set k row)) :
     aP { t with rows:=t.rows.set k ⟨(t.rows.getD k default).id,(t.changes.length:Int),row⟩ }:=by
 have hg:=h.rg _ (List.getElem_mem hk)
 rw [ae hk]
 refine gK h.first h.run h.nch (by have:=h.nrow;simpa using this) h.lo h.hi (fun r hr=>?_) ?_ ?_
 ·rcases List.mem_or_eq_of_mem_set hr with hr|hr
  ·exact (h.rg r hr).mono (Int.le_refl _)
  ·subst hr
   exact RG_new (t:={ t with rows:=t.rows.set k ⟨t.rows[k].id,(t.changes.length:Int),row⟩ }) hg.lo hg.hi h1
 ·have ha:=List.pairwise_iff_getElem.1 h.asc
  refine List.pairwise_iff_getElem.2 fun i j hi hj hij=>?_
  simp only [List.length_set] at hi hj
  have e:∀ i (hi:i<t.rows.length),((t.rows.set k ⟨t.rows[k].id,(t.changes.length:Int),row⟩)[i]'(by simpa using hi)).id=t.rows[i].id:=fun i hi=>by
   rw [List.getElem_set]
   by_cases hik:k=i
   ·subst hik;rw [if_pos rfl]
   ·rw [if_neg hik]
  rw [e i hi,e j hj]
  exact ha i j hi hj hij
 ·show NoTwice (lastS t) ((t.rows.set k _).map (nowR t))
  rw [List.map_set]
  show NoTwice (lastS t) ((nows t).set k (nowR t _))
  rw [nowR_new];exact h2
theorem run_snoc {s x:List Col}{cs:List aa}{c:aa}(h:run s cs=some x)(hc:Can x c):run s (cs++[c])=some (chg x c):=by
 rw [mc,h]
 show run x [c]=_
 rw [run,if_pos hc];rfl
theorem ft {t:ab}{c:aa}{v:Nat}(hv:v≤t.changes.length):aX { t with changes:=t.changes++[c] } v=aX t v:=by
 unfold aX
 show (run t.first ((t.changes++[c]).take v)).getD []=_
 rw [List.take_append_of_le_length hv]
theorem jc {t:ab}{c:aa}(h:run t.first t.changes=some (lastS t))(hc:Can (lastS t) c):lastS { t with changes:=t.changes++[c] } = chg (lastS t) c:=by
 unfold lastS
 show (run t.first (t.changes++[c])).getD []=_
 rw [run_snoc h hc];rfl
theorem pv {s x:List Col}{cs:List aa}{c:aa}{row:List Val}(h:run s cs=some x):dr s (cs++[c]) row=aE x c (dr s cs row):=by
 rw [m3 h];rfl
theorem gP {t:ab}{c:aa}{r:Row}(h:Rt t)(hv:jK t r.ver):nowR { t with changes:=t.changes++[c] } r=aE (lastS t) c (nowR t r):=by
 have hv1:r.ver.toNat≤t.changes.length:=by have:=hv.hi;have:=hv.lo;omega
 unfold nowR
 rw [ft hv1]
 show dr (aX t r.ver.toNat) ((t.changes++[c]).drop r.ver.toNat) r.vals=_
 rw [List.drop_append_of_le_length hv1,pv (h.at _).2]
theorem th {v u:Val}{k:Int}(hv:ValOK v)(hu:ValOK u)(hk:v.kind=u.kind)(hne:(valAs v k).kind≠0)(h:valAs v k=valAs u k):v=u:=by
 have hc:ValOK v∧v.kind≠0∧(k=1∨k=2):=c_ fun hn=>hne (by unfold valAs;rw [if_neg hn])
 have hcu:ValOK u∧u.kind≠0∧(k=1∨k=2):=⟨hu,hk▸hc.2.1,hc.2.2⟩
 unfold valAs at h hne
 rw [if_pos hc] at h hne
 rw [if_pos hcu] at h
 by_cases h1:v.kind=k
 ·rw [if_pos h1,if_pos (hk▸h1)] at h;exact h
 have h1':¬ u.kind=k:=fun e=>h1 (hk.trans e)
 rw [if_neg h1] at h hne
 rw [if_neg h1'] at h
 have hkinds:=hv.kinds
 by_cases h2:k=2
 ·rw [if_pos h2,if_pos h2] at h
  have hv1:=hv.num (by omega)
  have hu1:=hu.num (by omega)
  have h3:Lib.itoa v.n=Lib.itoa u.n:=by injection h
  have h4:=wR hv1.lo hv1.hi hu1.lo hu1.hi h3
  obtain ⟨a,b,c⟩:=v
  obtain ⟨a',b',c'⟩:=u
  have e1:=hv1.text
  have e2:=hu1.text
  simp only at hk h4 e1 e2
  subst hk;subst h4;subst e1;subst e2;rfl
 ·rw [if_neg h2] at h hne
  rw [if_neg h2] at h
  unfold numOf at h hne
  by_cases g:(-999≤(bc v.text).1∧(bc v.text).1≤999∧(bc v.text).2=true)
  case neg=>rw [if_neg g] at hne;exact absurd rfl hne
  rw [if_pos g] at h
  by_cases g':(-999≤(bc u.text).1∧(bc u.text).1≤999∧(bc u.text).2=true)
  case neg=>rw [if_neg g'] at h;injection h with h;cases h
  rw [if_pos g'] at h
  have h3:(bc v.text).1=(bc u.text).1:=by injection h
  have e1:Lib.itoa (bc v.text).1=v.text:=m7 (by rw [← g.2.2])
  have e2:Lib.itoa (bc u.text).1=u.text:=m7 (by rw [← g'.2.2])
  have h4:v.text=u.text:=by rw [← e1,← e2,h3]
  have hv1:=hv.text (by omega)
  have hu1:=hu.text (by omega)
  obtain ⟨a,b,c⟩:=v
  obtain ⟨a',b',c'⟩:=u
  simp only at hk h4 hv1 hu1
  have e3:=hv1.1
  have e4:=hu1.1
  subst hk;subst h4;subst e3;subst e4;rfl
theorem bD {α:Type}{l:List α}{d:α}{k i:Nat}:(l.eraseIdx k).getD i d=if i<k then l.getD i d else l.getD (i+1) d:=by
 rw [List.getD_eq_getElem?_getD,List.getElem?_eraseIdx]
 split<;>rw [List.getD_eq_getElem?_getD]
theorem getD_set {α:Type}{l:List α}{d x:α}{k i:Nat}(hk:k<l.length):(l.set k x).getD i d=if i=k then x else l.getD i d:=by
 rw [List.getD_eq_getElem?_getD,List.getElem?_set]
 by_cases h:k=i
 ·subst h;simp [hk]
 ·rw [if_neg h,if_neg (Ne.symm h),List.getD_eq_getElem?_getD]
theorem l3.back {s:List Col}{c:aa}{a b:List Val}(hs:ak s)(hc:Can s c)(ha:aO s a)(hb:aO s b)(h:l3 (chg s c) (aE s c a) (aE s c b)):l3 s a b:=by
 obtain ⟨i,h1,h2,h3,h4⟩:=h
 have hla:=ha.len
 have hlb:=hb.len
 by_cases k1:c.kind=1
 ·have e:chg s c=s++[c.col]:=by unfold chg;rw [if_pos k1]
  have ea:∀ r,aE s c r=r++[c.col.def_]:=fun r=>by unfold aE;rw [if_pos k1]
  rw [e] at h1 h2
  rw [ea] at h3 h4
  rw [ea] at h4
  by_cases hi:i<s.length
  ·refine ⟨i,hi,?_,?_,?_⟩
   ·simpa [List.getD_eq_getElem?_getD,List.getElem?_append_left hi] using h2
   ·simpa [List.getD_eq_getElem?_getD,List.getElem?_append_left (show i<a.length by omega)] using h3
   ·simpa [List.getD_eq_getElem?_getD,List.getElem?_append_left (show i<a.length by omega),List.getElem?_append_left (show i<b.length by omega)] using h4
  ·have hi':i=s.length:=by simp at h1;omega
   subst hi'
   have g:=hc.ok.all s.length (by rw [e];simp)
   rw [e] at g
   have g1:=g.1.once
   rw [h2] at g1
   have g2:=g1 rfl
   exfalso
   apply h3
   have e5:(s++[c.col]).getD s.length default=c.col:=by simp [List.getD_eq_getElem?_getD]
   have e6:(a++[c.col.def_]).getD s.length default=c.col.def_:=by rw [← hla];simp [List.getD_eq_getElem?_getD]
   rw [e5] at g2
   rw [e6];exact g2
 have hat:=hc.may.there k1
 by_cases k2:c.kind=2
 ·have e:chg s c=s.eraseIdx (atN s c.name):=by unfold chg;rw [if_neg k1,if_pos k2]
  have ea:∀ r,aE s c r=r.eraseIdx (atN s c.name):=fun r=>by unfold aE;rw [if_neg k1,if_pos k2]
  rw [e] at h1 h2
  rw [ea] at h3 h4
  rw [ea] at h4
  rw [bD] at h2 h3 h4
  rw [bD] at h4
  rw [List.length_eraseIdx,if_pos hat] at h1
  by_cases hi:i<atN s c.name
  ·simp only [if_pos hi] at h2 h3 h4
   exact ⟨i,by omega,h2,h3,h4⟩
  ·simp only [if_neg hi] at h2 h3 h4
   exact ⟨i+1,by omega,h2,h3,h4⟩
 by_cases k3:c.kind=3
 ·have e:chg s c=s.set (atN s c.name) { s.getD (atN s c.name) default with name:=c.new }:=by unfold chg;rw [if_neg k1,if_neg k2,if_pos k3]
  have ea:∀ r,aE s c r=r:=fun r=>by unfold aE;rw [if_neg k1,if_neg k2,if_neg (by omega)]
  rw [e] at h1 h2
  rw [ea] at h3 h4
  rw [ea] at h4
  rw [getD_set hat] at h2
  simp only [List.length_set] at h1
  by_cases hi:i=atN s c.name
  ·rw [if_pos hi] at h2;exact ⟨i,h1,by rw [hi];exact h2,h3,h4⟩
  ·rw [if_neg hi] at h2;exact ⟨i,h1,h2,h3,h4⟩
 have hkk:=hc.may.named.kinds
 have k4:c.kind=4:=by omega
 have e:chg s c=s.set (atN s c.name) { s.getD (atN s c.name) default with kind:=c.col.kind,def_:=valAs (s.getD (atN s c.name) default).def_ c.col.kind }:=by unfold chg;rw [if_neg k1,if_neg k2,if_neg k3]
 have ea:∀ r,aE s c r=r.set (atN s c.name) (valAs (r.getD (atN s c.name) default) c.col.kind):=fun r=>by unfold aE;rw [if_neg k1,if_neg k2,if_pos k4]
 rw [e] at h1 h2
 rw [ea] at h3 h4
 rw [ea] at h4
 rw [getD_set hat] at h2
 rw [getD_set (show atN s c.name<a.length by omega)] at h3 h4
 rw [getD_set (show atN s c.name<b.length by omega)] at h4
 simp only [List.length_set] at h1
 by_cases hi:i=atN s c.name
 ·simp only [if_pos hi] at h2 h3 h4
  have va:=ha.all i (by omega)
  have vb:=hb.all i (by omega)
  rw [← hi] at h2 h3 h4
  have hav:(a.getD i default).kind≠0:=fun h0=>h3 (by unfold valAs;rw [if_neg (fun hh=>hh.2.1 h0)])
  have hbv:(b.getD i default).kind≠0:=fun h0=>h3 (by rw [h4];unfold valAs;rw [if_neg (fun hh=>hh.2.1 h0)])
  have hkd:(a.getD i default).kind=(b.getD i default).kind:=by
   rcases va.fits with f1|f1
   ·exact absurd f1 hav
   ·rcases vb.fits with f2|f2
    ·exact absurd f2 hbv
    ·rw [f1,f2]
  exact ⟨i,h1,h2,hav,th va.ok vb.ok hkd h3 h4⟩
 ·simp only [if_neg hi] at h2 h3 h4
  exact ⟨i,h1,h2,h3,h4⟩
theorem BO {t:ab}(h:aP t)(hs:pp t.changes){c:aa}(hc:Can (lastS t) c)(h1:∀ r,r∈t.rows→aO (chg (lastS t) c) (aE (lastS t) c (nowR t r)))(h2:t.changes.length≠8) :
     aP { t with changes:=t.changes++[c] }:=by
 have hrt:Rt t:=⟨h.first,h.run,hs⟩
 have hl:=jc hrt.last hc
 have hn:∀ r,r∈t.rows→nowR { t with changes:=t.changes++[c] } r=aE (lastS t) c (nowR t r):=fun r hr=>gP hrt (h.rg r hr).ver
 refine gK h.first ⟨_,run_snoc hrt.last hc⟩ (by have:=h.nch;simp;omega) h.nrow h.lo h.hi (fun r hr=>?_) h.asc ?_
 ·have g:=h.rg r hr
  have hv1:r.ver.toNat≤t.changes.length:=by have:=g.ver.hi;have:=g.ver.lo;omega
  refine ⟨⟨g.ver.lo,by have:=g.ver.hi;show r.ver≤((t.changes++[c]).length:Int);simp;omega⟩,g.lo,g.hi,?_,?_⟩
  ·rw [ft hv1];exact g.was
  ·rw [hl,hn r hr];exact h1 r hr
 ·rw [hl]
  unfold nows NoTwice
  show (t.rows.map (nowR { t with changes:=t.changes++[c] })).Pairwise _
  have ho:=h.once
  unfold nows NoTwice at ho
  rw [List.pairwise_map] at ho ⊢
  refine ho.imp_of_mem fun {a b} ha hb hab hcl=>hab ?_
  rw [hn a ha,hn b hb] at hcl
  exact l3.back hrt.okLast hc (h.rg a ha).now (h.rg b hb).now hcl
theorem NoTwice.perm {s:List Col}{a b:List (List Val)}(h:a.Perm b):NoTwice s a↔NoTwice s b:=by
 unfold NoTwice
 exact h.pairwise_iff fun hxy hyx=>hxy hyx.symm
theorem jv {rows:List Row}(ha:rows.Pairwise fun a b=>a.id<b.id){k:Nat}(hk:k<rows.length):rows.filter (fun r=>!decide (r.id=rows[k].id))=rows.eraseIdx k:=by
 have h1:=List.pairwise_iff_getElem.1 ha
 obtain ⟨x,hx⟩:∃ x,rows[k].id=x:=⟨_,rfl⟩
 rw [hx,List.eraseIdx_eq_take_drop_succ]
 conv=>lhs;rw [← List.take_append_drop k rows,List.drop_eq_getElem_cons hk]
 rw [List.filter_append,List.filter_cons,if_neg (by simp [hx])]
 subst hx
 congr 1
 ·refine List.filter_eq_self.2 fun r hr=>?_
  obtain ⟨i,hi,rfl⟩:=g_ hr
  rw [List.getElem_take]
  have hi':i<k:=by simp at hi;omega
  have:=h1 i k (by omega) hk hi'
  simp;omega
 ·refine List.filter_eq_self.2 fun r hr=>?_
  obtain ⟨i,hi,rfl⟩:=g_ hr
  rw [List.getElem_drop]
  have hi':k+1+i<rows.length:=by simp at hi;omega
  have:=h1 k (k+1+i) hk hi' (by omega)
  simp;omega
theorem wv {α:Type}{l:List α}{k:Nat}(hk:k<l.length)(x:α):(x::l.eraseIdx k).Perm (l.set k x):=by
 rw [List.eraseIdx_eq_take_drop_succ,List.set_eq_take_append_cons_drop,if_pos hk]
 exact List.perm_middle.symm
theorem tr {α:Type}(l:List α)(x:α):(x::l).Perm (l++[x]):=by
 have:=(List.perm_append_comm (l₁:=[x]) (l₂:=l))
 simpa using this
end Go.Proofs.YtganfdhmkdehlaaGreatDoor
