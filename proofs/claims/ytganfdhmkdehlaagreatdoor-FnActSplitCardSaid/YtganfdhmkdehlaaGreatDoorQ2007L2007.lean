/- Plain laws. -/
import Derived.Test.YtganfdhmkdehlaaGreatDoorQ2007M37
import Derived.Test.YtganfdhmkdehlaaGreatDoorQ2007B21
set_option linter.all false
namespace Go.Proofs.YtganfdhmkdehlaaGreatDoor
open Go Go.HL
variable {fu:Nat}
def ia:aa:=⟨0,[],[],nilCol⟩
def lg:aj:=⟨[],[],[],0⟩
structure SmA (a:aQ):Prop where
 name:a.name.length≤1000
 sets:SmX a.sets
 cols:SmS a.cols
 ch:jd a.change
 link:SmL a.link
noncomputable def wT (b:ac) (a:aQ):ac×Int:=
 if a.kind=1 then tableBB b a.name a.cols else if a.kind=2 then linkBB b a.link else if a.kind=3 then oM b a.name a.sets
 else if a.kind=4 then oI b a.name a.id a.sets else if a.kind=5 then oN b a.name a.id else d6 b a.name a.change
theorem wM {b:ac}{a:aQ}(h:am b)(ha:SmA a):am (wT b a).1:=by
 unfold wT
 split
 ·exact cR h
 split
 ·exact eP h
 split
 ·exact sT h ha.sets
 split
 ·exact sR h ha.sets
 split
 ·exact sY h
 ·exact oi h ha.ch
section
variable (ok:aQ→Prop)
open Classical in
noncomputable def pR (b:ac) (a:aQ):ac×Int:=if ok a then wT b a else (b,1)
open Classical in
noncomputable def oq (b:ac) (a:aQ):ac×Int:=if ah b then pR ok b a else (nilB,1)
noncomputable def aX (b0:ac):List aQ→ac→Nat→ac×Int×Int
 | [],x,n=>(x,0,(n:Int))
 | a::l,x,n=>if (pR ok x a).2=0 then aX b0 l (pR ok x a).1 (n+1) else (b0,(pR ok x a).2,(n:Int))
open Classical in
noncomputable def dc (b:ac) (acts:List aQ):ac×Int×Int:=if ah b then (if 6<acts.length then (b,4,0) else aX ok b acts b 0) else (nilB,1,0)
end
section
variable {ok:aQ→Prop}{b0 x:ac}{l l':List aQ}{n:Nat}
theorem jc {b:ac}{a:aQ}(h:am b)(ha:SmA a):am (pR ok b a).1:=by
 unfold pR
 split
 ·exact wM h ha
 ·exact h
theorem jB (h0:am b0)(hx:am x)(hl:∀ a,a∈l→SmA a):am (aX ok b0 l x n).1:=by
 induction l generalizing x n with
 | nil=>exact hx
 | cons a l ih=>
  rw [aX]
  split
  ·exact ih (jc hx (hl a List.mem_cons_self)) fun y hy=>hl y (List.mem_cons_of_mem _ hy)
  ·exact h0
theorem pu:((aX ok b0 l x n).2.1=0∧(aX ok b0 l x n).2.2=((n+l.length:Nat):Int))∨((aX ok b0 l x n).2.1≠0∧(aX ok b0 l x n).1=b0∧(n:Int)≤(aX ok b0 l x n).2.2∧(aX ok b0 l x n).2.2 < ((n+l.length:Nat):Int)):=by
 induction l generalizing x n with
 | nil=>exact .inl ⟨rfl,rfl⟩
 | cons a l ih=>
  rw [aX]
  split
  ·rcases ih (x:=(pR ok x a).1) (n:=n+1) with ⟨h1,h2⟩|⟨h1,h2,h3,h4⟩
   ·exact .inl ⟨h1,by rw [h2,List.length_cons];omega⟩
   ·exact .inr ⟨h1,h2,by omega,by rw [List.length_cons];omega⟩
  ·rename_i h
   exact .inr ⟨h,rfl,Int.le_refl _,by show (n:Int) < _;rw [List.length_cons];omega⟩
theorem pv:aX ok b0 (l++l') x n=if (aX ok b0 l x n).2.1=0 then aX ok b0 l' (aX ok b0 l x n).1 (n+l.length) else aX ok b0 l x n:=by
 induction l generalizing x n with
 | nil=>rfl
 | cons a l ih=>
  rw [List.cons_append,aX,aX]
  by_cases h:(pR ok x a).2=0
  ·rw [if_pos h,if_pos h,ih,show n+1+l.length=n+(a::l).length by rw [List.length_cons];omega]
  ·rw [if_neg h,if_neg h,if_neg h]
theorem tD {b1:ac}{m:Nat}(h:(aX ok b0 l x n).2.1=0):(aX ok b1 l x m).1=(aX ok b0 l x n).1∧(aX ok b1 l x m).2.1=0:=by
 induction l generalizing x n m with
 | nil=>exact ⟨rfl,rfl⟩
 | cons a l ih=>
  rw [aX] at h ⊢
  by_cases h1:(pR ok x a).2=0
  ·rw [if_pos h1] at h
   rw [if_pos h1,aX,if_pos h1]
   exact ih h
  ·rw [if_neg h1] at h
   exact absurd h h1
theorem qZ (h:(aX ok b0 (l++l') x n).2.1=0):(aX ok b0 l x n).2.1=0∧(aX ok (aX ok b0 l x n).1 l' (aX ok b0 l x n).1 0).2.1=0∧(aX ok (aX ok b0 l x n).1 l' (aX ok b0 l x n).1 0).1=(aX ok b0 (l++l') x n).1:=by
 rw [pv] at h ⊢
 by_cases h1:(aX ok b0 l x n).2.1=0
 ·rw [if_pos h1] at h ⊢
  have:=tD (b1:=(aX ok b0 l x n).1) (m:=0) h
  exact ⟨h1,this.2,this.1⟩
 ·rw [if_neg h1] at h
  exact absurd h h1
end
def fT (xs:List Set):Prop:=xs.length≤5∧∀ x,x∈xs→al x.name∧ValOK x.val
def ChD (c:aa):Prop:=
 (c.kind=1∧dG c.col∧c.name=[]∧c.new=[])∨(c.kind=2∧al c.name∧c.new=[]∧c.col=nilCol)∨(c.kind=3∧al c.name∧al c.new∧c.col=nilCol)
 ∨(c.kind=4∧al c.name∧c.new=[]∧(c.col = { nilCol with kind:=1 }∨c.col = { nilCol with kind:=2 }))
def ChP (c:aa):Prop:=
 Named c∧(c.kind=1→dG c.col)∧(c.kind=2→al c.name)∧(c.kind=3→al c.name∧al c.new)∧(c.kind≠1→c.kind≠2→c.kind≠3→al c.name∧(c.col.kind=1∨c.col.kind=2))
theorem wy {c:aa}:ChP c↔ChD c:=by
 constructor
 ·rintro ⟨h | h | h | h,h1,h2,h3,h4⟩
  ·exact .inl ⟨h.1,h1 h.1,h.2.1,h.2.2⟩
  ·exact .inr (.inl ⟨h.1,h2 h.1,h.2.1,h.2.2⟩)
  ·exact .inr (.inr (.inl ⟨h.1,(h3 h.1).1,(h3 h.1).2,h.2⟩))
  ·have h5:=h4 (by omega) (by omega) (by omega)
   refine .inr (.inr (.inr ⟨h.1,h5.1,h.2.1,?_⟩))
   rcases h5.2 with e|e
   ·left;rw [h.2.2,e]
   ·right;rw [h.2.2,e]
 ·rintro (h | h | h | h)
  ·exact ⟨.inl ⟨h.1,h.2.2.1,h.2.2.2⟩,fun _=>h.2.1,fun e=>by omega,fun e=>by omega,fun e=>by omega⟩
  ·exact ⟨.inr (.inl ⟨h.1,h.2.2.1,h.2.2.2⟩),fun e=>by omega,fun _=>h.2.1,fun e=>by omega,fun _ e=>by omega⟩
  ·exact ⟨.inr (.inr (.inl ⟨h.1,h.2.2.2⟩)),fun e=>by omega,fun e=>by omega,fun _=>⟨h.2.1,h.2.2.1⟩,fun _ _ e=>by omega⟩
  ·refine ⟨.inr (.inr (.inr ⟨h.1,h.2.2.1,?_⟩)),fun e=>by omega,fun e=>by omega,fun e=>by omega,fun _ _ _=>⟨h.2.1,?_⟩⟩
   ·rcases h.2.2.2 with e|e<;>rw [e]
   ·rcases h.2.2.2 with e|e<;>rw [e]
    ·exact .inl rfl
    ·exact .inr rfl
def LinkD (l:aj):Prop:=al l.from_∧al l.col∧al l.to∧1≤l.how∧l.how≤3
def rk (cs:List Col):Prop:=1≤cs.length∧cs.length≤5∧∀ c,c∈cs→dG c
structure jU (a:aQ):Prop where
 link:a.kind≠2→a.link=lg
 noname:a.kind=2→a.name=[]
 change:a.kind≠6→a.change=ia
 cols:a.kind≠1→a.cols=[]
 sets:a.kind≠3→a.kind≠4→a.sets=[]
 id0:a.kind≠4→a.kind≠5→a.id=0
 name:a.kind≠2→al a.name
 lo:0≤a.id
 hi:a.id≤60
 kind:(a.kind=1∧rk a.cols)∨(a.kind=2∧LinkD a.link)∨((a.kind=3∨a.kind=4)∧fT a.sets)∨a.kind=5∨(a.kind=6∧ChD a.change)
def GI (a:aQ):Prop:=
 (a.kind=1∧a.id=0∧a.sets=[]∧a.change=ia∧a.link=lg∧al a.name∧rk a.cols)
 ∨(a.kind=2∧a.id=0∧a.sets=[]∧a.cols=[]∧a.change=ia∧a.name=[]∧LinkD a.link)
 ∨(a.kind=3∧a.id=0∧a.cols=[]∧a.change=ia∧a.link=lg∧al a.name∧fT a.sets)
 ∨(a.kind=4∧a.cols=[]∧a.change=ia∧a.link=lg∧al a.name∧fT a.sets∧0≤a.id∧a.id≤60)
 ∨(a.kind=5∧a.sets=[]∧a.cols=[]∧a.change=ia∧a.link=lg∧al a.name∧0≤a.id∧a.id≤60)
 ∨(a.kind=6∧a.id=0∧a.sets=[]∧a.cols=[]∧a.link=lg∧al a.name∧ChP a.change)
theorem y6 {a:aQ}:GI a↔jU a:=by
 constructor
 ·rintro (h | h | h | h | h | h)
  ·obtain ⟨k,h1,h2,h3,h4,h5,h6⟩:=h
   exact ⟨fun _=>h4,fun e=>by omega,fun _=>h3,fun e=>absurd k e,fun _ _=>h2,fun _ _=>h1,fun _=>h5,by omega,by omega,.inl ⟨k,h6⟩⟩
  ·obtain ⟨k,h1,h2,h3,h4,h5,h6⟩:=h
   exact ⟨fun e=>absurd k e,fun _=>h5,fun _=>h4,fun _=>h3,fun _ _=>h2,fun _ _=>h1,fun e=>absurd k e,by omega,by omega,.inr (.inl ⟨k,h6⟩)⟩
  ·obtain ⟨k,h1,h2,h3,h4,h5,h6⟩:=h
   exact ⟨fun _=>h4,fun e=>by omega,fun _=>h3,fun _=>h2,fun e=>absurd k e,fun _ _=>h1,fun _=>h5,by omega,by omega,.inr (.inr (.inl ⟨.inl k,h6⟩))⟩
  ·obtain ⟨k,h1,h2,h3,h4,h5,h6,h7⟩:=h
   exact ⟨fun _=>h3,fun e=>by omega,fun _=>h2,fun _=>h1,fun _ e=>absurd k e,fun e=>absurd k e,fun _=>h4,h6,h7,.inr (.inr (.inl ⟨.inr k,h5⟩))⟩
  ·obtain ⟨k,h1,h2,h3,h4,h5,h6,h7⟩:=h
   exact ⟨fun _=>h4,fun e=>by omega,fun _=>h3,fun _=>h2,fun _ _=>h1,fun _ e=>absurd k e,fun _=>h5,h6,h7,.inr (.inr (.inr (.inl k)))⟩
  ·obtain ⟨k,h1,h2,h3,h4,h5,h6⟩:=h
   exact ⟨fun _=>h4,fun e=>by omega,fun e=>absurd k e,fun _=>h3,fun _ _=>h2,fun _ _=>h1,fun _=>h5,by omega,by omega,.inr (.inr (.inr (.inr ⟨k,wy.1 h6⟩)))⟩
 ·intro h
  rcases h.kind with ⟨k,g⟩|⟨k,g⟩|⟨k|k,g⟩|k|⟨k,g⟩
  ·exact .inl ⟨k,h.id0 (by omega) (by omega),h.sets (by omega) (by omega),h.change (by omega),h.link (by omega),h.name (by omega),g⟩
  ·exact .inr (.inl ⟨k,h.id0 (by omega) (by omega),h.sets (by omega) (by omega),h.cols (by omega),h.change (by omega),h.noname k,g⟩)
  ·exact .inr (.inr (.inl ⟨k,h.id0 (by omega) (by omega),h.cols (by omega),h.change (by omega),h.link (by omega),h.name (by omega),g⟩))
  ·exact .inr (.inr (.inr (.inl ⟨k,h.cols (by omega),h.change (by omega),h.link (by omega),h.name (by omega),g,h.lo,h.hi⟩)))
  ·exact .inr (.inr (.inr (.inr (.inl ⟨k,h.sets (by omega) (by omega),h.cols (by omega),h.change (by omega),h.link (by omega),h.name (by omega),h.lo,h.hi⟩))))
  ·exact .inr (.inr (.inr (.inr (.inr ⟨k,h.id0 (by omega) (by omega),h.sets (by omega) (by omega),h.cols (by omega),h.link (by omega),h.name (by omega),wy.2 g⟩))))
section
variable {ok:aQ→Prop}{b:ac}{a:aQ}
theorem wG {l:List aQ}{k:Nat}(h:ah b)(h0:(dc ok b l).2.1=0)(hb:∀ b',(b' = (aX ok b (l.take k) b 0).1)→ah b') :
     dc ok b (l.take k)=((dc ok b (l.take k)).1,0,((l.take k).length:Int))∧(dc ok (dc ok b (l.take k)).1 (l.drop k)).2=(0,((l.drop k).length:Int))∧(dc ok (dc ok b (l.take k)).1 (l.drop k)).1=(dc ok b l).1:=by
 have hlen:¬ 6<l.length:=fun hh=>by
  have e:dc ok b l=(b,4,0):=(if_pos h).trans (if_pos hh)
  rw [e] at h0;exact absurd (show (4:Int)=0 from h0) (by decide)
 have e1:dc ok b l=aX ok b l b 0:=(if_pos h).trans (if_neg hlen)
 have e2:dc ok b (l.take k)=aX ok b (l.take k) b 0:=(if_pos h).trans (if_neg (by rw [List.length_take];omega))
 rw [e1] at h0 ⊢
 have h0':(aX ok b (l.take k++l.drop k) b 0).2.1=0:=by rw [List.take_append_drop];exact h0
 obtain ⟨s1,s2,s3⟩:=qZ h0'
 rw [List.take_append_drop] at s3
 have e3:dc ok (aX ok b (l.take k) b 0).1 (l.drop k)=aX ok (aX ok b (l.take k) b 0).1 (l.drop k) (aX ok b (l.take k) b 0).1 0:=(if_pos (hb _ rfl)).trans (if_neg (by rw [List.length_drop];omega))
 rw [e2,e3]
 have t1:=(pu (ok:=ok) (b0:=b) (l:=l.take k) (x:=b) (n:=0)).resolve_right fun hh=>hh.1 s1
 have t2:=(pu (ok:=ok) (b0:=(aX ok b (l.take k) b 0).1) (l:=l.drop k) (x:=(aX ok b (l.take k) b 0).1) (n:=0)).resolve_right fun hh=>hh.1 s2
 rw [Nat.zero_add] at t1 t2
 exact ⟨Prod.ext rfl (Prod.ext t1.1 t1.2),Prod.ext t2.1 t2.2,s3⟩
end
theorem DX {b c:Bool}:cond b (some c) (some false)=some (b&&c):=by cases b<;>rfl
theorem orS {b c:Bool}:cond b (some true) (some c)=some (b || c):=by cases b<;>rfl
theorem Hv {b c:Bool}:cond (!b) (some false) (some c)=some (b&&c):=by cases b<;>rfl
theorem A3 {p q r:Prop}:cond (B p) (some (B q)) (some (B r))=some (B ((p∧q)∨(¬ p∧r))):=by
 rw [zS,bY,bY,l7]
 cases B p<;>simp
theorem HR {α:Type}{l:List α}:((l.length:Int)=0)=(l=[]):=propext ⟨fun h=>List.length_eq_zero_iff.1 (by omega),fun h=>by subst h;rfl⟩
theorem G1 {α:Type}{l:List α}:(0 < (l.length:Int))=(l≠[]):=propext ⟨fun h e=>by subst e;simp at h,fun h=>by have:=List.length_pos_iff.2 h;omega⟩
theorem Dd:(⟨d0_56.kind,d0_56.name,d0_56.new,d0_56.col⟩:aa)=ia:=rfl
theorem Cl:(⟨d0_1044.from_,d0_1044.col,d0_1044.to,d0_1044.how⟩:aj)=lg:=rfl
theorem Fq:(⟨d0_52.name,d0_52.kind,d0_52.need,d0_52.once,d0_52.def_⟩:Col)=nilCol:=rfl
theorem cl1:(⟨d0_52.name,1,d0_52.need,d0_52.once,d0_52.def_⟩:Col) = { nilCol with kind:=1 }:=rfl
theorem cl2:(⟨d0_52.name,2,d0_52.need,d0_52.once,d0_52.def_⟩:Col) = { nilCol with kind:=2 }:=rfl
theorem sI {α:Type}[Inhabited α]{l:List α}{p:α→Prop}:(∀ k,k<l.length→p (l.getD k default))↔∀ x,x∈l→p x:=
 ⟨fun h x hx=>by
  obtain ⟨k,hk,rfl⟩:=g_ hx
  have:=h k hk
  rwa [ae hk] at this,fun h k hk=>h _ (getD_mem hk)⟩
theorem xY {s:List Col}(hf:BIG≤fu)(hs:SmS s):vt fu s=some (B (rk s)):=by
 have hl:=hs.len
 unfold vt rk
 have:=d8 (L:=f2116_l1 fu s) (N:=s.length) (fun k=>dG (s.getD k default)) (1≤s.length∧s.length≤5) (by unfold BIG;omega) (fun n hq=>by
  rw [f2116_l1,nlt,cf,dt (show (1:Int)≤(s.length:Int) by omega),ct,dt (show (s.length:Int)≤5 by omega)];rfl) (fun n hq=>by
  rw [f2116_l1,nlt,cf]
  by_cases h1:(1:Int)≤(s.length:Int)
  ·rw [dt h1,ct,df (show ¬ (s.length:Int)≤5 by omega)];rfl
  ·rw [df h1,cf];rfl) (fun n k hk hp=>by
  rw [f2116_l1,ltR hk,ct,ge0,b_,ct,tn,lL hf (hs.get hk),B_t hp];rfl) (fun n k hk hp=>by
  rw [f2116_l1,ltR hk,ct,ge0,b_,ct,tn,lL hf (hs.get hk),B_f hp];rfl) (fu:=fu) (by unfold BIG at hf;omega)
 rw [this]
 exact congrArg some (ai ⟨fun h=>⟨h.2.1,h.2.2,sI.1 h.1⟩,fun h=>⟨sI.2 h.2.2,h.1,h.2.1⟩⟩)
theorem xX {l:aj}(hf:BIG≤fu)(h:SmL l):vq fu l=some (B (LinkD l)):=by
 unfold vq LinkD eU
 rw [d9 hf h.src,d9 hf h.col,d9 hf h.dst]
 simp only [bs,DX,bM,← bY]
theorem SmX.gn {xs:List Set}(h:SmX xs){k:Nat}(hk:k<xs.length):(xs.getD k default).name.length≤1000:=h.nm _ (getD_mem hk)
theorem xW {xs:List Set}(hf:BIG≤fu)(h:SmX xs):vp fu xs=some (B (fT xs)):=by
 have hl:=h.len
 unfold vp fT
 have step:∀ n (k:Nat),k<xs.length→ck fu xs (n+1) (k:Int)=cond (B (al (xs.getD k default).name∧ValOK (xs.getD k default).val)) (ck fu xs n (IntKind.i64.wrap ((k:Int)+1))) (some false):=fun n k hk=>by
  rw [ck,ltR hk,ct,ge0,b_,ct,tn,d9 hf (h.gn hk),bs,jx hf (h.get hk),bs,bY]
  unfold kg
  cases B (al (xs.getD k default).name)<;>cases B (ValOK (xs.getD k default).val)<;>rfl
 have:=d8 (L:=ck fu xs) (N:=xs.length) (fun k=>al (xs.getD k default).name∧ValOK (xs.getD k default).val) (xs.length≤5) (by unfold BIG;omega) (fun n hq=>by
  rw [ck,nlt,cf,dt (show (xs.length:Int)≤5 by omega)]) (fun n hq=>by
  rw [ck,nlt,cf,df (show ¬ (xs.length:Int)≤5 by omega)]) (fun n k hk hp=>by rw [step n k hk,B_t hp];rfl) (fun n k hk hp=>by rw [step n k hk,B_f hp];rfl) (fu:=fu) (by unfold BIG at hf;omega)
 rw [this]
 exact congrArg some (ai ⟨fun hh=>⟨hh.2,(sI (p:=fun x:Set=>al x.name∧ValOK x.val)).1 hh.1⟩,fun hh=>⟨(sI (p:=fun x:Set=>al x.name∧ValOK x.val)).2 hh.2,hh.1⟩⟩)
theorem xV {c:aa}(hf:BIG≤fu)(h:jd c):vo fu c=some (B (ChD c)):=by
 unfold vo iv iu ir f0
 rw [Fq,cl1,cl2,lL hf h.col,d9 hf h.name,d9 hf h.new]
 simp only [bs,DX,orS,bM,← bY,← zS]
 simp only [A3]
 refine congrArg some (ai ?_)
 unfold ChD
 constructor
 ·rintro (⟨k,hh⟩ | ⟨k1,⟨k,hh⟩ | ⟨k2,⟨k,hh⟩ | ⟨k3,⟨k,hh⟩⟩⟩⟩)
  ·exact .inl ⟨k,hh⟩
  ·exact .inr (.inl ⟨k,hh⟩)
  ·exact .inr (.inr (.inl ⟨k,hh⟩))
  ·exact .inr (.inr (.inr ⟨k,hh⟩))
 ·rintro (⟨k,hh⟩ | ⟨k,hh⟩ | ⟨k,hh⟩ | ⟨k,hh⟩)
  ·exact .inl ⟨k,hh⟩
  ·exact .inr ⟨by omega,.inl ⟨k,hh⟩⟩
  ·exact .inr ⟨by omega,.inr ⟨by omega,.inl ⟨k,hh⟩⟩⟩
  ·exact .inr ⟨by omega,.inr ⟨by omega,.inr ⟨by omega,k,hh⟩⟩⟩
def za (a:aQ):Prop:=
 ((a.kind≠2→a.link=lg)∧(a.kind=2→a.name=[]))∧((a.kind≠6→a.change=ia)∧(a.kind≠1→a.cols=[]))∧(a.kind≠3→a.kind≠4→a.sets=[])∧(a.kind≠4→a.kind≠5→a.id=0)
theorem xZ {a:aQ}:vu fu a=some (B (za a)):=by
 unfold vu
 rw [Cl]
 have e3:∀ i,f3 a i=some (!i&&B (a.kind≠4→a.kind≠5→a.id=0)):=fun i=>by
  unfold f3 iw
  simp only [bM,rl,ne_eq,l7]
  cases i<;>cases B (a.kind=4)<;>cases B (a.kind=5)<;>simp
 have e2:∀ i,dP a i=some (!i&&(B (a.kind≠3→a.kind≠4→a.sets=[])&&B (a.kind≠4→a.kind≠5→a.id=0))):=fun i=>by
  unfold dP
  simp only [e3,G1,bM]
  generalize B (a.kind≠4→a.kind≠5→a.id=0)=z
  simp only [bM,rl,ne_eq,l7]
  cases i<;>cases B (a.kind=3)<;>cases B (a.kind=4)<;>cases B (a.sets=[])<;>simp
 have e1:∀ i,dQ a i=some (!i&&((B (a.kind≠6→a.change=ia)&&B (a.kind≠1→a.cols=[]))&&(B (a.kind≠3→a.kind≠4→a.sets=[])&&B (a.kind≠4→a.kind≠5→a.id=0)))):=fun i=>by
  unfold dQ
  rw [Dd]
  simp only [e2,G1,bM]
  generalize (B (a.kind≠3→a.kind≠4→a.sets=[])&&B (a.kind≠4→a.kind≠5→a.id=0))=z
  simp only [bM,rl,ne_eq,l7]
  cases i<;>cases B (a.kind=6)<;>cases B (a.change=ia)<;>cases B (a.kind=1)<;>cases B (a.cols=[])<;>simp
 simp only [e1]
 unfold za
 rw [bY,bY (p:=(a.kind≠6→a.change=ia)∧(a.kind≠1→a.cols=[])),bY (p:=a.kind≠6→a.change=ia),bY (p:=a.kind≠3→a.kind≠4→a.sets=[]),bY (p:=a.kind≠2→a.link=lg)]
 generalize ((B (a.kind≠6→a.change=ia)&&B (a.kind≠1→a.cols=[]))&&(B (a.kind≠3→a.kind≠4→a.sets=[])&&B (a.kind≠4→a.kind≠5→a.id=0)))=z
 simp only [bM,rl,ne_eq,l7]
 cases B (a.kind=2)<;>cases B (a.link=lg)<;>cases B (a.name=[])<;>simp
def zd (a:aQ):Prop:=(a.kind=1∧rk a.cols)∨(a.kind=2∧LinkD a.link)∨((a.kind=3∨a.kind=4)∧fT a.sets)∨a.kind=5∨(a.kind=6∧ChD a.change)
theorem sn {a:aQ}(hf:BIG≤fu)(h:SmA a):tk fu a=some (B (jU a)):=by
 have e2:∀ i,iy fu a i=cond i (some (B (fT a.sets))) (some (B (a.kind=5∨(a.kind=6∧ChD a.change)))):=fun i=>by
  unfold iy
  rw [xW hf h.sets,xV hf h.ch]
  simp only [bs,bM]
  rw [zS,bY]
  cases i<;>cases B (a.kind=5)<;>cases B (a.kind=6)<;>cases B (ChD a.change)<;>rfl
 have e1:∀ i,dk fu a i=some (!i&&B (zd a)):=fun i=>by
  unfold dk zd
  rw [xY hf h.cols,xX hf h.link]
  simp only [bs,e2,bM,zS,bY]
  by_cases k1:a.kind=1
  ·rw [B_t k1,B_f (p:=a.kind=2) (by omega),B_f (p:=a.kind=3) (by omega),B_f (p:=a.kind=4) (by omega),B_f (p:=a.kind=5) (by omega),B_f (p:=a.kind=6) (by omega)]
   cases i<;>cases B (rk a.cols)<;>rfl
  rw [B_f k1]
  by_cases k2:a.kind=2
  ·rw [B_t k2,B_f (p:=a.kind=3) (by omega),B_f (p:=a.kind=4) (by omega),B_f (p:=a.kind=5) (by omega),B_f (p:=a.kind=6) (by omega)]
   cases i<;>cases B (LinkD a.link)<;>rfl
  rw [B_f k2]
  by_cases k3:a.kind=3
  ·rw [B_t k3,B_f (p:=a.kind=4) (by omega),B_f (p:=a.kind=5) (by omega),B_f (p:=a.kind=6) (by omega)]
   cases i<;>cases B (fT a.sets)<;>rfl
  rw [B_f k3]
  by_cases k4:a.kind=4
  ·rw [B_t k4,B_f (p:=a.kind=5) (by omega),B_f (p:=a.kind=6) (by omega)]
   cases i<;>cases B (fT a.sets)<;>rfl
  rw [B_f k4]
  cases i<;>cases B (a.kind=5)<;>cases B (a.kind=6)<;>cases B (ChD a.change)<;>rfl
 unfold tk
 rw [xZ,bs,d9 hf h.name,bs]
 simp only [e1]
 have:B (jU a)=(B (za a)&&(B (a.kind≠2→al a.name)&&((!B (a.id<0))&&((!B (60<a.id))&&B (zd a))))):=by
  rw [← l7,← l7,← bY,← bY,← bY,← bY]
  refine ai ⟨fun g=>⟨⟨⟨g.link,g.noname⟩,⟨g.change,g.cols⟩,g.sets,g.id0⟩,g.name,by have:=g.lo;omega,by have:=g.hi;omega,g.kind⟩,?_⟩
  rintro ⟨⟨⟨g1,g2⟩,⟨g3,g4⟩,g5,g6⟩,g7,g8,g9,g10⟩
  exact ⟨g1,g2,g3,g4,g5,g6,g7,by omega,by omega,g10⟩
 rw [this,rl]
 simp only [bM,ne_eq,l7]
 cases B (za a)<;>cases B (a.kind=2)<;>cases B (al a.name)<;>cases B (a.id<0)<;>cases B (60<a.id)<;>cases B (zd a)<;>rfl
theorem x6 {s:List Col}(hf:BIG≤fu)(hs:SmS s):vw fu s (fun x0=>ph fu x0)=some (!B (∀ c,c∈s→dG c)):=by
 have hl:=hs.len
 have hx:∀ k,k<s.length→ph fu (s.getD k default)=some (!B (dG (s.getD k default))):=fun k hk=>by
  unfold ph
  rw [og hf (hs.get hk)];rfl
 have:=l9 (L:=eo s (fun x0=>ph fu x0)) s (fun c=>!B (dG c)) (by unfold BIG;omega) (fun n=>by
  rw [eo,nlt,cf]) (fun n k hk hp=>by
  rw [eo,ltR hk,ct,ge0,b_,ct,tn,hx k hk,bs,ae hk,hp,ct]) (fun n k hk hp=>by
  rw [eo,ltR hk,ct,ge0,b_,ct,tn,hx k hk,bs,ae hk,hp,cf]) (fu:=fu) (by unfold BIG at hf;omega)
 unfold vw BG
 rw [this,bs]
 have e:decide ((0:Int)≤(if s.findIdx (fun c=>!B (dG c))<s.length then (s.findIdx (fun c=>!B (dG c)):Int) else -1)) = !B (∀ c,c∈s→dG c):=by
  by_cases h:∀ c,c∈s→dG c
  ·rw [B_t h,if_neg fun hh=>?_]
   ·rfl
   ·obtain ⟨x,h1,h2⟩:=List.findIdx_lt_length.1 hh
    rw [B_t (h x h1)] at h2;cases h2
  ·rw [B_f h,if_pos (List.findIdx_lt_length.2 ?_)]
   ·simp
   ·refine c_ fun hh=>h fun c hc=>c_ fun hn=>hh ⟨c,hc,by rw [B_f hn];rfl⟩
 rw [e]
theorem xS {x:Set}(hf:BIG≤fu)(h1:x.name.length≤1000)(h2:SmV x.val):pg fu x=some (!B (al x.name∧ValOK x.val)):=by
 unfold pg kf
 rw [ef hf h1,bs,lI hf h2,bs,bY]
 cases B (al x.name)<;>cases B (ValOK x.val)<;>rfl
theorem x5 {xs:List Set}(hf:BIG≤fu)(hs:SmX xs):ti fu xs=some (B (fT xs)):=by
 have hl:=hs.len
 have hx:∀ k,k<xs.length→pg fu (xs.getD k default)=some (!B (al (xs.getD k default).name∧ValOK (xs.getD k default).val)):=fun k hk=>xS hf (hs.gn hk) (hs.get hk)
 have:=l9 (L:=eS xs (fun x0=>pg fu x0)) xs (fun x=>!B (al x.name∧ValOK x.val)) (by unfold BIG;omega) (fun n=>by
  rw [eS,nlt,cf]) (fun n k hk hp=>by
  rw [eS,ltR hk,ct,ge0,b_,ct,tn,hx k hk,bs,ae hk,hp,ct]) (fun n k hk hp=>by
  rw [eS,ltR hk,ct,ge0,b_,ct,tn,hx k hk,bs,ae hk,hp,cf]) (fu:=fu) (by unfold BIG at hf;omega)
 unfold ti kj xT xR
 rw [this,bs]
 have e:decide ((0:Int)≤(if xs.findIdx (fun x=>!B (al x.name∧ValOK x.val))<xs.length then (xs.findIdx (fun x=>!B (al x.name∧ValOK x.val)):Int) else -1)) = !B (∀ x,x∈xs→al x.name∧ValOK x.val):=by
  by_cases h:∀ x,x∈xs→al x.name∧ValOK x.val
  ·rw [B_t h,if_neg fun hh=>?_]
   ·rfl
   ·obtain ⟨x,h1,h2⟩:=List.findIdx_lt_length.1 hh
    rw [B_t (h x h1)] at h2;cases h2
  ·rw [B_f h,if_pos (List.findIdx_lt_length.2 ?_)]
   ·simp
   ·refine c_ fun hh=>h fun c hc=>c_ fun hn=>hh ⟨c,hc,by rw [B_f hn];rfl⟩
 rw [e,bs,Bool.not_not]
 unfold fT
 rw [bY,bM,ai (show (xs.length:Int)≤5↔xs.length≤5 by omega)]
 cases B (xs.length≤5)<;>rfl
theorem x4 {c:aa}(hf:BIG≤fu)(h:jd c):vv fu c=some (B (ChP c)):=by
 unfold vv ki kh
 rw [vO,og hf h.col,ef hf h.name,ef hf h.new,jN,ai (show (1≤c.col.kind∧c.col.kind≤2)↔(c.col.kind=1∨c.col.kind=2) by omega)]
 simp only [bs,DX,bM,← bY,A3]
 rw [Hv,← bY]
 refine congrArg some (ai ?_)
 unfold ChP
 by_cases k1:c.kind=1
 ·simp [k1]
 by_cases k2:c.kind=2
 ·simp [k2]
 by_cases k3:c.kind=3
 ·simp [k3]
 simp [k1,k2,k3]
theorem x8 {a:aQ}(hf:BIG≤fu)(h:SmA a):vz fu a=some (B (GI a)):=by
 unfold vz dl cm dU dT dS dR
 rw [Dd,Cl,ef hf h.name,ef hf h.link.src,ef hf h.link.col,ef hf h.link.dst,x6 hf h.cols,x5 hf h.sets,x4 hf h.ch]
 simp only [jN,bs,Bool.not_not,DX,bM,HR,← bY,A3]
 refine congrArg some (ai ?_)
 have hc:((1:Int)≤(a.cols.length:Int)∧(a.cols.length:Int)≤5)↔(1≤a.cols.length∧a.cols.length≤5):=by omega
 unfold GI rk LinkD
 by_cases k1:a.kind=1
 ·simp [k1];grind
 by_cases k2:a.kind=2
 ·simp [k2]
 by_cases k3:a.kind=3
 ·simp [k3]
 by_cases k4:a.kind=4
 ·simp [k4]
 by_cases k5:a.kind=5
 ·simp [k5]
 by_cases k6:a.kind=6
 ·simp [k6]
 simp [k1,k2,k3,k4,k5,k6]
theorem sl {b:ac}{a:aQ}(hf:BIG≤fu)(h:SmB b)(ha:SmA a):tj fu b a=some (wT b a):=by
 unfold tj wT
 rw [iW hf h ha.name ha.cols,kN hf h,yM hf h ha.sets,yO hf h ha.sets,yS hf h,yQ hf h ha.ch]
 simp only [bs]
 by_cases k1:a.kind=1
 ·rw [dt k1,if_pos k1];rfl
 rw [df k1,if_neg k1,cf]
 by_cases k2:a.kind=2
 ·rw [dt k2,if_pos k2];rfl
 rw [df k2,if_neg k2,cf]
 by_cases k3:a.kind=3
 ·rw [dt k3,if_pos k3];rfl
 rw [df k3,if_neg k3,cf]
 by_cases k4:a.kind=4
 ·rw [dt k4,if_pos k4];rfl
 rw [df k4,if_neg k4,cf]
 by_cases k5:a.kind=5
 ·rw [dt k5,if_pos k5];rfl
 rw [df k5,if_neg k5,cf]
theorem yf {b:ac}{a:aQ}(hf:BIG≤fu)(h:SmB b)(ha:SmA a):vF fu b a=some (oq jU b a):=by
 unfold vF oq pR
 rw [dq hf h,bs,sn hf ha,bs,a6 hf h,bs,sl hf h ha,bs]
 by_cases h1:ah b
 case neg=>rw [B_f h1,if_neg h1];rfl
 rw [B_t h1,if_pos h1]
 by_cases h2:jU a
 ·rw [B_t h2,if_pos h2];rfl
 ·rw [B_f h2,if_neg h2];rfl
theorem yg {b:ac}{a:aQ}(hf:BIG≤fu)(h:SmB b)(ha:SmA a):vG fu b a=some (oq jU b a):=by
 unfold vG oq pR
 rw [fe hf h,bs,x8 hf ha,ai y6,bs,bV hf h,bs,yW hf h ha.name ha.cols,yU hf h,yN hf h ha.sets,yP hf h ha.sets,yT hf h,yR hf h ha.ch]
 by_cases h1:ah b
 case neg=>rw [B_f h1,if_neg h1];rfl
 rw [B_t h1,if_pos h1]
 by_cases h2:jU a
 case neg=>rw [B_f h2,if_neg h2];rfl
 rw [B_t h2,if_pos h2]
 simp only [bs,n_,cf]
 unfold wT
 by_cases k1:a.kind=1
 ·rw [dt k1,if_pos k1];rfl
 rw [df k1,if_neg k1,cf]
 by_cases k2:a.kind=2
 ·rw [dt k2,if_pos k2];rfl
 rw [df k2,if_neg k2,cf]
 by_cases k3:a.kind=3
 ·rw [dt k3,if_pos k3];rfl
 rw [df k3,if_neg k3,cf]
 by_cases k4:a.kind=4
 ·rw [dt k4,if_pos k4];rfl
 rw [df k4,if_neg k4,cf]
 by_cases k5:a.kind=5
 ·rw [dt k5,if_pos k5];rfl
 rw [df k5,if_neg k5,cf]
theorem xU {b:ac}{a:aQ}(hf:BIG≤fu)(h:am b)(ha:SmA a):vn fu b a=some (pR jU b a):=by
 unfold vn pR
 rw [sn hf ha,bs,n7 hf h ha.sets,n8 hf h ha.sets,ob hf h,oa hf h ha.ch,sl hf h.sm ha]
 by_cases h2:jU a
 case neg=>rw [B_f h2,if_neg h2];rfl
 rw [B_t h2,if_pos h2]
 have e3:oM b a.name a.sets=xu b a.name a.sets:=if_pos h.ok
 have e4:oI b a.name a.id a.sets=xk b a.name a.id a.sets:=if_pos h.ok
 have e5:oN b a.name a.id=xy b a.name a.id:=if_pos h.ok
 have e6:d6 b a.name a.change=ff b a.name a.change:=if_pos h.ok
 simp only [bs,n_,cf]
 by_cases k3:a.kind=3
 ·rw [dt k3,ct,wT,if_neg (by omega),if_neg (by omega),if_pos k3,e3]
 rw [df k3,cf]
 by_cases k4:a.kind=4
 ·rw [dt k4,ct,wT,if_neg (by omega),if_neg (by omega),if_neg (by omega),if_pos k4,e4]
 rw [df k4,cf]
 by_cases k5:a.kind=5
 ·rw [dt k5,ct,wT,if_neg (by omega),if_neg (by omega),if_neg (by omega),if_neg (by omega),if_pos k5,e5]
 rw [df k5,cf]
 by_cases k6:a.kind=6
 ·rw [dt k6,ct,wT,if_neg (by omega),if_neg (by omega),if_neg (by omega),if_neg (by omega),if_neg (by omega),e6]
 rw [df k6,cf]
def wW (l:List aQ):Prop:=∀ a,a∈l→SmA a
theorem ws {α:Type}[Inhabited α]{l:List α}{i:Nat}(h:i<l.length):l.drop i=l.getD i default::l.drop (i+1):=by
 rw [ae h];exact List.drop_eq_getElem_cons h
theorem qw {b:ac}{acts:List aQ}(hf:BIG≤fu)(hb:SmB b)(hl:acts.length≤1000)(ha:wW acts):∀ (m n i:Nat) (x:ac),i+m=acts.length→m<n→am x→f4 fu b acts n (i:Int) x=some (aX jU b (acts.drop i) x i):=by
 intro m
 induction m with
 | zero=>
  intro n i x hi hn hx
  obtain ⟨n,rfl⟩:∃ z,n=z+1:=⟨n-1,by omega⟩
  have:i=acts.length:=by omega
  subst this
  rw [f4,nlt,cf,a6 hf hx.sm,bs,List.drop_length,aX]
 | succ m ih=>
  intro n i x hi hn hx
  obtain ⟨n,rfl⟩:∃ z,n=z+1:=⟨n-1,by omega⟩
  have hil:i<acts.length:=by omega
  have hsa:=ha _ (getD_mem (d:=default) hil)
  rw [f4,ltR hil,ct,a6 hf hx.sm,bs,ge0,b_,ct,tn,xU hf hx hsa,bs,ws hil,aX]
  by_cases hz:(pR jU x (acts.getD i default)).2=0
  ·rw [dt hz,if_pos hz,n_,cf,bb hil (by unfold BIG;omega)]
   exact ih n (i+1) _ (by omega) (by omega) (jc hx hsa)
  ·rw [df hz,if_neg hz,m_,ct,a6 hf hb];rfl
theorem x7 {b:ac}{acts:List aQ}(hf:BIG≤fu)(h:am b)(hl:acts.length≤1000)(ha:wW acts):vx fu b acts=some (dc jU b acts):=by
 unfold vx dc
 rw [a6 hf h.sm,bs,bs,if_pos h.ok]
 by_cases h6:6<acts.length
 ·rw [dt (show (6:Int) < (acts.length:Int) by omega),if_pos h6];rfl
 ·rw [df (show ¬ (6:Int) < (acts.length:Int) by omega),if_neg h6,cf]
  exact qw hf h.sm hl ha acts.length fu 0 b (by omega) (by unfold BIG at hf;omega) h
theorem ye {b:ac}{acts:List aQ}(hf:BIG≤fu)(h:SmB b)(hl:acts.length≤1000)(ha:wW acts):vD fu b acts=some (dc jU b acts):=by
 unfold vD
 rw [dq hf h,bs]
 by_cases h1:ah b
 ·rw [B_t h1,n_,cf,x7 hf ⟨h1,h⟩ hl ha];rfl
 ·unfold dc
  rw [B_f h1,if_neg h1];rfl
theorem qx {b:ac}{acts:List aQ}(hf:BIG≤fu)(hb:SmB b)(hl:acts.length≤1000)(ha:wW acts):∀ (m n i:Nat) (x:ac),i+m=acts.length→m<n→am x→f6 fu b acts n (i:Int) x=some (aX jU b (acts.drop i) x i):=by
 intro m
 induction m with
 | zero=>
  intro n i x hi hn hx
  obtain ⟨n,rfl⟩:∃ z,n=z+1:=⟨n-1,by omega⟩
  have:i=acts.length:=by omega
  subst this
  rw [f6,nlt,cf,List.drop_length,aX]
 | succ m ih=>
  intro n i x hi hn hx
  obtain ⟨n,rfl⟩:∃ z,n=z+1:=⟨n-1,by omega⟩
  have hil:i<acts.length:=by omega
  have hsa:=ha _ (getD_mem (d:=default) hil)
  have e:oq jU x (acts.getD i default)=pR jU x (acts.getD i default):=if_pos hx.ok
  rw [f6,ltR hil,ct,ge0,b_,ct,tn,yg hf hx.sm hsa,bs,e,ws hil,aX]
  by_cases hz:(pR jU x (acts.getD i default)).2=0
  ·rw [dt hz,if_pos hz,n_,cf,bb hil (by unfold BIG;omega)]
   exact ih n (i+1) _ (by omega) (by omega) (jc hx hsa)
  ·rw [df hz,if_neg hz,m_,ct,bV hf hb];rfl
theorem nN {b:ac}{acts:List aQ}(hf:BIG≤fu)(h:SmB b)(hl:acts.length≤1000)(ha:wW acts):qy fu b acts=some (dc jU b acts):=by
 unfold qy
 rw [fe hf h,bs,bV hf h,bs,bs]
 by_cases h1:ah b
 ·unfold dc
  rw [B_t h1,if_pos h1,n_,cf]
  by_cases h6:6<acts.length
  ·rw [dt (show (6:Int) < (acts.length:Int) by omega),if_pos h6];rfl
  ·rw [df (show ¬ (6:Int) < (acts.length:Int) by omega),if_neg h6,cf]
   exact qx hf h hl ha acts.length fu 0 b (by omega) (by unfold BIG at hf;omega) ⟨h1,h⟩
 ·unfold dc
  rw [B_f h1,if_neg h1];rfl
theorem y5 {b:ac}{acts:List aQ}(h:SmB b)(ha:wW acts):SmB (dc jU b acts).1:=by
 unfold dc
 split
 ·rename_i h1
  split
  ·exact h
  ·exact (jB ⟨h1,h⟩ ⟨h1,h⟩ ha).sm
 ·exact qh
theorem tH {b:ac}{acts:List aQ}(h:am b)(ha:wW acts):am (dc jU b acts).1:=by
 unfold dc
 rw [if_pos h.ok]
 split
 ·exact h
 ·exact jB h h ha
structure DA (n:Nat) (a:aQ):Prop where
 sm:SmA a
 sets:a.sets.length≤n
 cols:a.cols.length≤n
 one:al a.name→a.name.length≤1
theorem zU:SmX []:=⟨by simp,fun _ h=>(nomatch h),fun _ h=>nomatch h⟩
theorem zW:SmS []:=⟨by simp,fun _ h=>nomatch h⟩
theorem eK:jd ia:=⟨by decide,by decide,by decide,by decide⟩
theorem gI:SmL lg:=⟨by decide,by decide,by decide⟩
theorem pw {n:Nat}{k id:Int}{nm:List UInt8}{xs:List Set}{cs:List Col}{c:aa}{l:aj}(hn:nm.length≤1)(hx:SmX9 xs)(hs:SmS cs∧cs.length≤900)(hc:jd c)(hl:SmL l)(h9:900≤n):DA n ⟨k,nm,id,xs,cs,c,l⟩:=
 ⟨⟨by show nm.length≤1000;omega,hx.1,hs.1,hc,hl⟩,Nat.le_trans hx.2 h9,Nat.le_trans hs.2 h9,fun _=>hn⟩
theorem x9:SmX9 []:=⟨zU,by simp⟩
theorem s9:SmS []∧([]:List Col).length≤900:=⟨zW,by simp⟩
theorem Hp {s:List Col}(h:ak s):SmS s∧s.length≤900:=⟨h.sm,by have:=h.hi;omega⟩
theorem Fl {r:Rd}{b:ac}{m:Nat}(hf:BIG≤fu)(h:bX r m)(hm:m≤500000)(hb:am b):aG (vB fu r b) (DA 900) (m+8060):=by
 unfold vB
 by_cases h0:b.tabs.length=0
 ·rw [dt (show (List.length b.tabs:Int)=0 by omega),ct]
  exact (yY hf h (by omega)).bind fun s r2 hs hr2=>.pure (pw (by decide) x9 hs eK gI (Nat.le_refl _)) (hr2.mono (by omega))
 rw [df (show ¬ (List.length b.tabs:Int)=0 by omega),cf]
 refine (Fo hf h (by omega) hb.sm).bind fun q4 r1 hq4 hr1=>?_
 simp only
 rw [ba hf hb.sm.ntab,bs]
 refine (d74 hr1 (by omega)).bind fun q6 r2 _ hr2=>?_
 simp only
 have e1:aG (f5 fu b (q4,r1) (nb b q4.1) (q6,r2)) (DA 900) (m+8060):=by
  unfold f5
  rw [eJ]
  by_cases hk:tabN b q4.1<b.tabs.length
  ·rw [B_t hk,ct,aK hk]
   exact (yZ hf hr2 (by omega) hb hk).bind fun xs r3 hx hr3=>.pure (pw hq4 hx s9 eK gI (Nat.le_refl _)) (hr3.mono (by omega))
  ·rw [B_f hk,cf]
   exact (yY hf hr2 (by omega)).bind fun s r3 hs hr3=>.pure (pw hq4 x9 hs eK gI (Nat.le_refl _)) (hr3.mono (by omega))
 have e3:∀ bl,aG (iz fu b (q4,r1) (nb b q4.1) (q6,r2) bl) (DA 900) (m+8060):=fun bl=>by
  unfold iz
  cases bl with
  | false=>exact e1
  | true=>
   rw [ct,eJ]
   by_cases hk:tabN b q4.1<b.tabs.length
   ·have g:=hb.tabT hk
    have hhi:=g.rt.okLast.hi
    rw [B_t hk,ct,aK hk,ltR hk,b_,ct,tn,aW,eC hf g.rt,bs]
    exact (d70 hf (by omega) g.rt.okLast.sm hr2 (by omega)).bind fun c r3 hc hr3=>.pure (pw hq4 x9 s9 hc gI (Nat.le_refl _)) (hr3.mono (by omega))
   ·rw [B_f hk,cf];exact e1
 have e2:∀ bl,aG (iA fu b (q4,r1) (nb b q4.1) (q6,r2) bl) (DA 900) (m+8060):=fun bl=>by
  unfold iA
  cases bl with
  | true=>
   rw [ct,eJ]
   by_cases hk:tabN b q4.1<b.tabs.length
   ·rw [B_t hk,ct,aK hk]
    exact (yZ hf hr2 (by omega) hb hk).bind fun xs r3 hx hr3=>.pure (pw hq4 hx s9 eK gI (Nat.le_refl _)) (hr3.mono (by omega))
   ·rw [B_f hk,cf];exact e1
  | false=>
   rw [cf]
   cases decide (q6=5) with
   | true=>rw [ct];exact e3 _
   | false=>rw [cf];exact e3 _
 cases decide (q6=0) with
 | true=>
  rw [ct]
  refine (d96 hr2 (by omega) (by decide)).bind fun nm r3 hnm hr3=>?_
  exact (BL hf hr3 (by omega)).bind fun s r4 hs hr4=>.pure (pw (rp (by rfl) nm hnm) x9 (Hp hs) eK gI (Nat.le_refl _)) (hr4.mono (by omega))
 | false=>
  rw [cf]
  cases decide (q6=1) with
  | true=>exact (AX hf hr2 (by omega) hb.g).bind fun l r3 hl hr3=>.pure (pw (by decide) x9 s9 eK hl (Nat.le_refl _)) (hr3.mono (by omega))
  | false=>
   rw [cf]
   cases decide (q6=2) with
   | true=>exact .pure (pw hq4 x9 s9 eK gI (Nat.le_refl _)) (hr2.mono (by omega))
   | false=>
    rw [cf]
    cases decide (q6=3) with
    | true=>rw [ct];exact e2 _
    | false=>rw [cf];exact e2 _
theorem Fm {r:Rd}{a:aQ}{n m:Nat}(h:bX r m)(hm:m≤900000)(ha:DA n a)(hn:n≤990):aG (vC fu r a) (DA (n+1)) (m+2):=by
 have hu:DA (n+1) a:=⟨ha.sm,by have:=ha.sets;omega,by have:=ha.cols;omega,ha.one⟩
 have hs1:=ha.sets
 have hs2:=ha.cols
 unfold vC
 refine (d74 h (by omega)).bind fun q r1 _ hr1=>?_
 simp only
 cases decide (q=0) with
 | true=>exact (d73 hr1 (by omega) (by decide)).bind fun x r2 _ hr2=>.pure ⟨⟨hu.sm.name,hu.sm.sets,hu.sm.cols,hu.sm.ch,hu.sm.link⟩,hu.sets,hu.cols,hu.one⟩ hr2
 | false=>
  rw [cf]
  cases decide (q=1) with
  | true=>
   refine (d96 hr1 (by omega) (by decide)).bind fun x r2 hx hr2=>.pure ⟨⟨sm_short (by rfl) x hx,hu.sm.sets,hu.sm.cols,hu.sm.ch,hu.sm.link⟩,hu.sets,hu.cols,fun hh=>?_⟩ hr2
   have h3:x.length≤3:=hh.2.2
   simp only [List.mem_cons,List.not_mem_nil,or_false] at hx
   rcases hx with rfl|rfl|rfl
   ·exact Nat.zero_le _
   ·exact Nat.le_refl _
   ·exact absurd h3 (by decide)
  | false=>
   rw [cf]
   cases decide (q=2) with
   | true=>exact (d73 hr1 (by omega) (by decide)).bind fun x r2 _ hr2=>.pure ⟨⟨hu.sm.name,hu.sm.sets,hu.sm.cols,hu.sm.ch,hu.sm.link⟩,hu.sets,hu.cols,hu.one⟩ hr2
   | false=>
    rw [cf]
    cases decide (q=3) with
    | true=>
     rw [ct,cap (by simp;omega),ct,cap (by simp;omega),ct]
     have hx:SmX (([]:List Set)++a.sets++[⟨[65],d0_49.val⟩]):=uh (by rw [List.nil_append];exact ha.sm.sets) (by rw [List.nil_append];omega) nul_ok.sm (by decide)
     exact .pure ⟨⟨hu.sm.name,hx,hu.sm.cols,hu.sm.ch,hu.sm.link⟩,by simp;omega,hu.cols,hu.one⟩ (hr1.mono (by omega))
    | false=>
     rw [cf]
     cases decide (q=4) with
     | true=>
      rw [ct,cap (by simp;omega),ct,cap (by simp;omega),ct]
      have hx:SmS (([]:List Col)++a.cols++[⟨[113],d0_52.kind,d0_52.need,d0_52.once,d0_52.def_⟩]):=⟨by simp;omega,fun c hc=>by
       rw [List.nil_append] at hc
       rcases p_ hc with hc|hc
       ·exact ha.sm.cols.all c hc
       ·rw [List.mem_singleton] at hc
        rw [hc]
        exact ⟨by decide,nul_ok.sm⟩⟩
      exact .pure ⟨⟨hu.sm.name,hu.sm.sets,hx,hu.sm.ch,hu.sm.link⟩,hu.sets,by simp;omega,hu.one⟩ (hr1.mono (by omega))
     | false=>
      rw [cf]
      cases decide (q=5) with
      | true=>exact .pure ⟨⟨hu.sm.name,hu.sm.sets,hu.sm.cols,⟨hu.sm.ch.name,show ([113]:List UInt8).length≤1000 by decide,hu.sm.ch.col⟩,hu.sm.link⟩,hu.sets,hu.cols,hu.one⟩ (hr1.mono (by omega))
      | false=>exact .pure hu (hr1.mono (by omega))
theorem yd {b:ac}(hf:BIG≤fu)(h:SmB b):∃ b',vA fu b=some b'∧am b':=by
 unfold vA
 rw [dq hf h,bs]
 by_cases h1:ah b
 ·rw [B_t h1];exact ⟨_,rfl,h1,h⟩
 ·rw [B_f h1];exact ⟨_,rfl,oP⟩
def DAs (l:List aQ):Prop:=∀ a,a∈l→DA 901 a
theorem DAs.sm {l:List aQ}(h:DAs l):wW l:=fun a ha=>(h a ha).sm
theorem yX {l:List aQ}{a:aQ}(h:DAs l)(ha:DA 901 a):DAs (l++[a]):=fun x hx=>by
 rcases p_ hx with hx|hx
 ·exact h x hx
 ·rw [List.mem_singleton] at hx;rw [hx];exact ha
theorem actBB_good {b:ac}{a:aQ}(h:am b)(ha:SmA a):am (oq jU b a).1:=by
 unfold oq
 rw [if_pos h.ok]
 exact jc h ha
theorem t1 {m k:Nat}(h:m+k≤400000):m+8060≤900000:=by omega
theorem t2:900≤990:=by omega
theorem t3 {m:Nat}:m+8060+2≤m+8070:=Nat.add_le_add_left (n:=8062) (m:=8070) (by decide) m
theorem t4 {m k:Nat}(h:m+k≤400000):m+8060+2≤100000000:=by omega
theorem t5 {m:Nat}:m+8060+2+1≤m+8070:=Nat.add_le_add_left (n:=8063) (m:=8070) (by decide) m
theorem Fe (hf:BIG≤fu):∀ (j n m:Nat) (l:List aQ) (b:ac) (r:Rd),j<n→l.length+j≤7→bX r m→m+8070*j≤400000→am b→DAs l→aG (cH fu n (j:Int) l b r) (fun l'=>l'.length≤7∧DAs l') (m+8070*j):=by
 intro j
 induction j with
 | zero=>
  intro n m l b r hn hlj hr hm hb hl
  obtain ⟨n,rfl⟩:∃ z,n=z+1:=⟨n-1,by omega⟩
  rw [cH]
  exact .pure ⟨by omega,hl⟩ (hr.mono (by omega))
 | succ j ih=>
  intro n m l b r hn hlj hr hm hb hl
  obtain ⟨n,rfl⟩:∃ z,n=z+1:=⟨n-1,by omega⟩
  rw [cH,dt (show (0:Int) < ((j+1:Nat):Int) by omega),ct]
  refine (Fl hf hr (by omega) hb).bind fun x r1 hx hr1=>?_
  refine (Fm hr1 (t1 hm) hx t2).bind fun y r2 hy hr2=>?_
  simp only
  rw [yf hf hb.sm hy.sm,bs]
  have ej:IntKind.i64.wrap (((j+1:Nat):Int)-1)=(j:Int):=by rw [bj]<;>omega
  have h3:∀ (bl:Bool) (r':Rd),bX r' (m+8070)→aG (ix ((j+1:Nat):Int) l b (y,r2) (oq jU b y) (cH fu n) bl r') (fun l'=>l'.length≤7∧DAs l') (m+8070 * (j+1)):=fun bl r' hr'=>by
   unfold ix kl
   rw [ej]
   cases bl with
   | true=>
    rw [ct,cap (by rw [s_];omega),ct]
    exact (ih n (m+8070) _ _ r' (by omega) (by rw [List.length_append,s_];omega) hr' (by omega) (actBB_good hb hy.sm) (yX hl hy)).mono (fun _ h=>h) (by omega)
   | false=>exact (ih n (m+8070) _ _ r' (by omega) (by omega) hr' (by omega) hb hl).mono (fun _ h=>h) (by omega)
  cases decide ((oq jU b y).2=0) with
  | true=>exact h3 true _ (hr2.mono t3)
  | false=>
   rw [cf]
   exact (d74 hr2 (t4 hm)).bind fun q r3 _ hr3=>h3 _ _ (hr3.mono t5)
theorem Fk {r:Rd}{b:ac}{m:Nat}(hf:BIG≤fu)(h:bX r m)(hm:m≤300000)(hb:am b):aG (vy fu r b) (fun l=>l.length≤7∧DAs l) (m+57000):=by
 unfold vy
 refine (d74 h (by omega)).bind fun q r1 hq hr1=>?_
 refine (d73 hr1 (by omega) (by simp)).bind fun c r2 hc hr2=>?_
 simp only
 have hq2:=hq.2 (by decide)
 have hw:IntKind.i64.wrap (6+q)=6+q:=bj (by have:=hq.1;omega) (by omega)
 have hcc:0≤c∧c≤7:=by
  have:=hq.1
  rw [hw] at hc
  simp only [List.mem_cons,List.not_mem_nil,or_false] at hc
  omega
 obtain ⟨j,rfl⟩:∃ j:Nat,c=(j:Int):=⟨c.toNat,by omega⟩
 exact (Fe hf j fu (m+2) [] b r2 (by unfold BIG at hf;omega) (by rw [List.length_nil];omega) hr2 (by omega) hb (fun _ h=>nomatch h)).mono (fun _ h=>h) (by omega)
theorem Fn {a:List Int}(hf:BIG≤fu)(ha:∀ b,b∈a→0≤b∧b≤255):∃ b l,vE fu a=some (b,l)∧SS b∧l.length≤7∧DAs l:=by
 obtain ⟨r,e,hr⟩:=d60 (fu:=fu) ha
 obtain ⟨b,r1,e1,hb,hr1⟩:=Db (fu:=fu) hf hr (by omega)
 obtain ⟨b',e2,hb'⟩:=yd (fu:=fu) hf hb.1
 obtain ⟨l,r2,e3,hl,-⟩:=Fk (fu:=fu) hf hr1 (by omega) hb'
 unfold vE
 rw [e,bs,e1,bs]
 simp only
 rw [e2,bs,e3]
 exact ⟨b,l,rfl,hb,hl.1,hl.2⟩
theorem An (hf:BIG≤fu)(a c:List Int)(ha:∀ b,b∈a→0≤b∧b≤255)(_:∀ b,b∈c→0≤b∧b≤255):yh fu a c=some true:=by
 have e1:∀ bl,iB fu a c bl=some true:=fun bl=>by
  unfold iB
  cases bl with
  | true=>rfl
  | false=>
   obtain ⟨b,l,e,⟨hb,-⟩,hl,hd⟩:=Fn (fu:=fu) hf ha
   have hs:=hd.sm
   have h7:l.length≤1000:=by omega
   rw [cf,e,bs]
   simp only
   rw [nN hf hb h7 hs,bs,ye hf hb h7 hs,bs,dt rfl,n_,cf]
   unfold km
   by_cases hz:(dc jU b l).2.1=0
   case neg=>rw [df hz,m_,ct,dt rfl]
   rw [dt hz,n_,cf]
   have hok:ah b:=c_ fun hn=>by
    have:dc jU b l=(nilB,1,0):=if_neg hn
    rw [this] at hz;exact absurd hz (by decide)
   have ew:IntKind.i64.wrap ((l.length:Int)+1)=((l.length+1:Nat):Int):=by rw [bj]<;>omega
   have ek:(c.length:Int).tmod ((l.length+1:Nat):Int)=((c.length % (l.length+1):Nat):Int):=rfl
   have hk:c.length % (l.length+1)≤l.length:=by have:=Nat.mod_lt c.length (show 0<l.length+1 by omega);omega
   simp only [ew,ek]
   generalize c.length % (l.length+1)=k at hk
   have ei:IntKind.i64.wrap ((l.length:Int) - (k:Int))=((l.length-k:Nat):Int):=by rw [bj]<;>omega
   have hst:wW (l.take k):=fun y hy=>hs y (List.mem_of_mem_take hy)
   have hsd:wW (l.drop k):=fun y hy=>hs y (List.mem_of_mem_drop hy)
   obtain ⟨s1,s2,s3⟩:=wG (ok:=jU) (l:=l) (k:=k) hok hz fun b' hb'=>by rw [hb'];exact (jB ⟨hok,hb⟩ ⟨hok,hb⟩ hst).ok
   have hg:=tH ⟨hok,hb⟩ hst
   rw [df (show ¬ ((l.length+1:Nat):Int)=0 by omega),cf,dt (show (0:Int)≤0 by omega),dt (show (0:Int)≤(k:Int) by omega),dt (show (k:Int)≤(l.length:Int) by omega),dt (show (l.length:Int)≤(l.length:Int) by omega)]
   simp only [b_,ct,tn,Int.toNat_zero,List.drop_zero,List.take_length]
   rw [nN hf hb (by rw [List.length_take];omega) hst,bs,s1]
   simp only
   rw [nN hf hg.sm (by rw [List.length_drop];omega) hsd,bs,s2,s3,ei]
   simp only [List.length_take,List.length_drop,Nat.min_eq_left hk,decide_true,ct]
   rw [tA hf (y5 hb hs)];rfl
 unfold yh
 cases decide (1048576 < (a.length:Int)) with
 | true=>exact e1 true
 | false=>exact e1 _
end Go.Proofs.YtganfdhmkdehlaaGreatDoor
