/- Plain laws. -/
import Derived.Test.YtganfdhmkdehlaaGreatDoorQ2006M37
import Derived.Test.YtganfdhmkdehlaaGreatDoorQ2006B20
import Derived.KernelRfl
set_option linter.all false
namespace Go.Proofs.YtganfdhmkdehlaaGreatDoor
open Go Go.HL
variable {fu:Nat}
def gI:aa:=⟨0,[],[],nilCol⟩
def jT:aj:=⟨[],[],[],0⟩
structure SmA (a:aO):Prop where
 name:a.name.length≤1000
 sets:SmX a.sets
 cols:SmS a.cols
 ch:jb a.change
 link:SmL a.link
noncomputable def wL (b:ac) (a:aO):ac×Int:=
 if a.kind=1 then tableBB b a.name a.cols else if a.kind=2 then linkBB b a.link else if a.kind=3 then l5 b a.name a.sets
 else if a.kind=4 then l4 b a.name a.id a.sets else if a.kind=5 then jS b a.name a.id else cP b a.name a.change
theorem wK {b:ac}{a:aO}(h:am b)(ha:SmA a):am (wL b a).1:=by
 unfold wL
 split
 ·exact cQ h
 split
 ·exact eO h
 split
 ·exact sN h ha.sets
 split
 ·exact sM h ha.sets
 split
 ·exact sR h
 ·exact ol h ha.ch
section
variable (ok:aO→Prop)
open Classical in
noncomputable def mg (b:ac) (a:aO):ac×Int:=if ok a then wL b a else (b,1)
open Classical in
noncomputable def or (b:ac) (a:aO):ac×Int:=if ah b then mg ok b a else (nilB,1)
noncomputable def doAll (b0:ac):List aO→ac→Nat→ac×Int×Int
 | [],x,n=>(x,0,(n:Int))
 | a::l,x,n=>if (mg ok x a).2=0 then doAll b0 l (mg ok x a).1 (n+1) else (b0,(mg ok x a).2,(n:Int))
open Classical in
noncomputable def ep (b:ac) (acts:List aO):ac×Int×Int:=if ah b then (if 6<acts.length then (b,4,0) else doAll ok b acts b 0) else (nilB,1,0)
end
section
variable {ok:aO→Prop}{b0 x:ac}{l l':List aO}{n:Nat}
theorem ja {b:ac}{a:aO}(h:am b)(ha:SmA a):am (mg ok b a).1:=by
 unfold mg
 split
 ·exact wK h ha
 ·exact h
theorem tu (h0:am b0)(hx:am x)(hl:∀ a,a∈l→SmA a):am (doAll ok b0 l x n).1:=by
 induction l generalizing x n with
 | nil=>exact hx
 | cons a l ih=>
  rw [doAll]
  split
  ·exact ih (ja hx (hl a List.mem_cons_self)) fun y hy=>hl y (List.mem_cons_of_mem _ hy)
  ·exact h0
theorem pr:doAll ok b0 (l++l') x n=if (doAll ok b0 l x n).2.1=0 then doAll ok b0 l' (doAll ok b0 l x n).1 (n+l.length) else doAll ok b0 l x n:=by
 induction l generalizing x n with
 | nil=>rfl
 | cons a l ih=>
  rw [List.cons_append,doAll,doAll]
  by_cases h:(mg ok x a).2=0
  ·rw [if_pos h,if_pos h,ih,show n+1+l.length=n+(a::l).length by rw [List.length_cons];omega]
  ·rw [if_neg h,if_neg h,if_neg h]
end
def fS (xs:List Set):Prop:=xs.length≤5∧∀ x,x∈xs→al x.name∧ValOK x.val
def ChD (c:aa):Prop:=
 (c.kind=1∧dE c.col∧c.name=[]∧c.new=[])∨(c.kind=2∧al c.name∧c.new=[]∧c.col=nilCol)∨(c.kind=3∧al c.name∧al c.new∧c.col=nilCol)
 ∨(c.kind=4∧al c.name∧c.new=[]∧(c.col = { nilCol with kind:=1 }∨c.col = { nilCol with kind:=2 }))
def ChP (c:aa):Prop:=
 Named c∧(c.kind=1→dE c.col)∧(c.kind=2→al c.name)∧(c.kind=3→al c.name∧al c.new)∧(c.kind≠1→c.kind≠2→c.kind≠3→al c.name∧(c.col.kind=1∨c.col.kind=2))
theorem ww {c:aa}:ChP c↔ChD c:=by
 constructor
 ·rintro ⟨h | h | h | h,h1,h2,h3,h4⟩
  ·exact .inl ⟨h.1,h1 h.1,h.2.1,h.2.2⟩
  ·exact .inr (.inl ⟨h.1,h2 h.1,h.2.1,h.2.2⟩)
  ·exact .inr (.inr (.inl ⟨h.1,(h3 h.1).1,(h3 h.1).2,h.2⟩))
  ·have h5:=h4 (by omega) (by omega) (by omega)
   refine .inr (.inr (.inr ⟨h.1,h5.1,h.2.1,?_⟩))
   rcases h5.2 with e|e
   ·left;rw [h.2.2,e]
   ·right;rw [h.2.2,e]
 ·rintro (h | h | h | h)
  ·exact ⟨.inl ⟨h.1,h.2.2.1,h.2.2.2⟩,fun _=>h.2.1,fun e=>by omega,fun e=>by omega,fun e=>by omega⟩
  ·exact ⟨.inr (.inl ⟨h.1,h.2.2.1,h.2.2.2⟩),fun e=>by omega,fun _=>h.2.1,fun e=>by omega,fun _ e=>by omega⟩
  ·exact ⟨.inr (.inr (.inl ⟨h.1,h.2.2.2⟩)),fun e=>by omega,fun e=>by omega,fun _=>⟨h.2.1,h.2.2.1⟩,fun _ _ e=>by omega⟩
  ·refine ⟨.inr (.inr (.inr ⟨h.1,h.2.2.1,?_⟩)),fun e=>by omega,fun e=>by omega,fun e=>by omega,fun _ _ _=>⟨h.2.1,?_⟩⟩
   ·rcases h.2.2.2 with e|e<;>rw [e]
   ·rcases h.2.2.2 with e|e<;>rw [e]
    ·exact .inl rfl
    ·exact .inr rfl
def LinkD (l:aj):Prop:=al l.from_∧al l.col∧al l.to∧1≤l.how∧l.how≤3
def re (cs:List Col):Prop:=1≤cs.length∧cs.length≤5∧∀ c,c∈cs→dE c
structure fT (a:aO):Prop where
 link:a.kind≠2→a.link=jT
 noname:a.kind=2→a.name=[]
 change:a.kind≠6→a.change=gI
 cols:a.kind≠1→a.cols=[]
 sets:a.kind≠3→a.kind≠4→a.sets=[]
 id0:a.kind≠4→a.kind≠5→a.id=0
 name:a.kind≠2→al a.name
 lo:0≤a.id
 hi:a.id≤60
 kind:(a.kind=1∧re a.cols)∨(a.kind=2∧LinkD a.link)∨((a.kind=3∨a.kind=4)∧fS a.sets)∨a.kind=5∨(a.kind=6∧ChD a.change)
def GI (a:aO):Prop:=
 (a.kind=1∧a.id=0∧a.sets=[]∧a.change=gI∧a.link=jT∧al a.name∧re a.cols)
 ∨(a.kind=2∧a.id=0∧a.sets=[]∧a.cols=[]∧a.change=gI∧a.name=[]∧LinkD a.link)
 ∨(a.kind=3∧a.id=0∧a.cols=[]∧a.change=gI∧a.link=jT∧al a.name∧fS a.sets)
 ∨(a.kind=4∧a.cols=[]∧a.change=gI∧a.link=jT∧al a.name∧fS a.sets∧0≤a.id∧a.id≤60)
 ∨(a.kind=5∧a.sets=[]∧a.cols=[]∧a.change=gI∧a.link=jT∧al a.name∧0≤a.id∧a.id≤60)
 ∨(a.kind=6∧a.id=0∧a.sets=[]∧a.cols=[]∧a.link=jT∧al a.name∧ChP a.change)
theorem y2 {a:aO}:GI a↔fT a:=by
 constructor
 ·rintro (h | h | h | h | h | h)
  ·obtain ⟨k,h1,h2,h3,h4,h5,h6⟩:=h
   exact ⟨fun _=>h4,fun e=>by omega,fun _=>h3,fun e=>absurd k e,fun _ _=>h2,fun _ _=>h1,fun _=>h5,by omega,by omega,.inl ⟨k,h6⟩⟩
  ·obtain ⟨k,h1,h2,h3,h4,h5,h6⟩:=h
   exact ⟨fun e=>absurd k e,fun _=>h5,fun _=>h4,fun _=>h3,fun _ _=>h2,fun _ _=>h1,fun e=>absurd k e,by omega,by omega,.inr (.inl ⟨k,h6⟩)⟩
  ·obtain ⟨k,h1,h2,h3,h4,h5,h6⟩:=h
   exact ⟨fun _=>h4,fun e=>by omega,fun _=>h3,fun _=>h2,fun e=>absurd k e,fun _ _=>h1,fun _=>h5,by omega,by omega,.inr (.inr (.inl ⟨.inl k,h6⟩))⟩
  ·obtain ⟨k,h1,h2,h3,h4,h5,h6,h7⟩:=h
   exact ⟨fun _=>h3,fun e=>by omega,fun _=>h2,fun _=>h1,fun _ e=>absurd k e,fun e=>absurd k e,fun _=>h4,h6,h7,.inr (.inr (.inl ⟨.inr k,h5⟩))⟩
  ·obtain ⟨k,h1,h2,h3,h4,h5,h6,h7⟩:=h
   exact ⟨fun _=>h4,fun e=>by omega,fun _=>h3,fun _=>h2,fun _ _=>h1,fun _ e=>absurd k e,fun _=>h5,h6,h7,.inr (.inr (.inr (.inl k)))⟩
  ·obtain ⟨k,h1,h2,h3,h4,h5,h6⟩:=h
   exact ⟨fun _=>h4,fun e=>by omega,fun e=>absurd k e,fun _=>h3,fun _ _=>h2,fun _ _=>h1,fun _=>h5,by omega,by omega,.inr (.inr (.inr (.inr ⟨k,ww.1 h6⟩)))⟩
 ·intro h
  rcases h.kind with ⟨k,g⟩|⟨k,g⟩|⟨k|k,g⟩|k|⟨k,g⟩
  ·exact .inl ⟨k,h.id0 (by omega) (by omega),h.sets (by omega) (by omega),h.change (by omega),h.link (by omega),h.name (by omega),g⟩
  ·exact .inr (.inl ⟨k,h.id0 (by omega) (by omega),h.sets (by omega) (by omega),h.cols (by omega),h.change (by omega),h.noname k,g⟩)
  ·exact .inr (.inr (.inl ⟨k,h.id0 (by omega) (by omega),h.cols (by omega),h.change (by omega),h.link (by omega),h.name (by omega),g⟩))
  ·exact .inr (.inr (.inr (.inl ⟨k,h.cols (by omega),h.change (by omega),h.link (by omega),h.name (by omega),g,h.lo,h.hi⟩)))
  ·exact .inr (.inr (.inr (.inr (.inl ⟨k,h.sets (by omega) (by omega),h.cols (by omega),h.change (by omega),h.link (by omega),h.name (by omega),h.lo,h.hi⟩))))
  ·exact .inr (.inr (.inr (.inr (.inr ⟨k,h.id0 (by omega) (by omega),h.sets (by omega) (by omega),h.cols (by omega),h.link (by omega),h.name (by omega),ww.2 g⟩))))
section
variable {ok:aO→Prop}{b:ac}{a:aO}
theorem Bc {l:List aO}(h:ah b)(hl:l.length<6)(h0:(ep ok b l).2.1=0)(hbad:(mg ok (ep ok b l).1 a).2≠0):ep ok b (l++[a])=(b,(mg ok (ep ok b l).1 a).2,(l.length:Int)):=by
 have e1:ep ok b l=doAll ok b l b 0:=(if_pos h).trans (if_neg (by omega))
 have e2:ep ok b (l++[a])=doAll ok b (l++[a]) b 0:=(if_pos h).trans (if_neg (by rw [List.length_append,List.length_singleton];omega))
 rw [e1] at h0 hbad ⊢
 rw [e2,pr,if_pos h0,doAll,if_neg hbad,Nat.zero_add]
end
theorem DX {b c:Bool}:cond b (some c) (some false)=some (b&&c):=by cases b<;>rfl
theorem orS {b c:Bool}:cond b (some true) (some c)=some (b || c):=by cases b<;>rfl
theorem Hv {b c:Bool}:cond (!b) (some false) (some c)=some (b&&c):=by cases b<;>rfl
theorem AV {p q r:Prop}:cond (B p) (some (B q)) (some (B r))=some (B ((p∧q)∨(¬ p∧r))):=by
 rw [zQ,bY,bY,l0]
 cases B p<;>simp
theorem HR {α:Type}{l:List α}:((l.length:Int)=0)=(l=[]):=propext ⟨fun h=>List.length_eq_zero_iff.1 (by omega),fun h=>by subst h;rfl⟩
theorem G1 {α:Type}{l:List α}:(0 < (l.length:Int))=(l≠[]):=propext ⟨fun h e=>by subst e;simp at h,fun h=>by have:=List.length_pos_iff.2 h;omega⟩
theorem Da:(⟨d0_56.kind,d0_56.name,d0_56.new,d0_56.col⟩:aa)=gI:=rfl
theorem Ci:(⟨d0_1044.from_,d0_1044.col,d0_1044.to,d0_1044.how⟩:aj)=jT:=rfl
theorem Fq:(⟨d0_52.name,d0_52.kind,d0_52.need,d0_52.once,d0_52.def_⟩:Col)=nilCol:=rfl
theorem cl1:(⟨d0_52.name,1,d0_52.need,d0_52.once,d0_52.def_⟩:Col) = { nilCol with kind:=1 }:=rfl
theorem cl2:(⟨d0_52.name,2,d0_52.need,d0_52.once,d0_52.def_⟩:Col) = { nilCol with kind:=2 }:=rfl
theorem sE {α:Type}[Inhabited α]{l:List α}{p:α→Prop}:(∀ k,k<l.length→p (l.getD k default))↔∀ x,x∈l→p x:=
 ⟨fun h x hx=>by
  obtain ⟨k,hk,rfl⟩:=List.getElem_of_mem hx
  have:=h k hk
  rwa [ae hk] at this,fun h k hk=>h _ (getD_mem hk)⟩
theorem xV {s:List Col}(hf:BIG≤fu)(hs:SmS s):vo fu s=some (B (re s)):=by
 have hl:=hs.len
 unfold vo re
 have:=d7 (L:=f2116_l1 fu s) (N:=s.length) (fun k=>dE (s.getD k default)) (1≤s.length∧s.length≤5) (by unfold BIG;omega) (fun n hq=>by
  rw [f2116_l1,nlt,cf,dt (show (1:Int)≤(s.length:Int) by omega),ct,dt (show (s.length:Int)≤5 by omega)];rfl) (fun n hq=>by
  rw [f2116_l1,nlt,cf]
  by_cases h1:(1:Int)≤(s.length:Int)
  ·rw [dt h1,ct,df (show ¬ (s.length:Int)≤5 by omega)];rfl
  ·rw [df h1,cf];rfl) (fun n k hk hp=>by
  rw [f2116_l1,ltR hk,ct,ge0,Bool.and_self,ct,tn,lG hf (hs.get hk),B_t hp];rfl) (fun n k hk hp=>by
  rw [f2116_l1,ltR hk,ct,ge0,Bool.and_self,ct,tn,lG hf (hs.get hk),B_f hp];rfl) (fu:=fu) (by unfold BIG at hf;omega)
 rw [this]
 exact congrArg some (ai ⟨fun h=>⟨h.2.1,h.2.2,sE.1 h.1⟩,fun h=>⟨sE.2 h.2.2,h.1,h.2.1⟩⟩)
theorem xU {l:aj}(hf:BIG≤fu)(h:SmL l):vn fu l=some (B (LinkD l)):=by
 unfold vn LinkD eS
 rw [d8 hf h.src,d8 hf h.col,d8 hf h.dst]
 simp only [bs,DX,bL,← bY]
theorem SmX.gn {xs:List Set}(h:SmX xs){k:Nat}(hk:k<xs.length):(xs.getD k default).name.length≤1000:=h.nm _ (getD_mem hk)
theorem xT {xs:List Set}(hf:BIG≤fu)(h:SmX xs):vl fu xs=some (B (fS xs)):=by
 have hl:=h.len
 unfold vl fS
 have step:∀ n (k:Nat),k<xs.length→ck fu xs (n+1) (k:Int)=cond (B (al (xs.getD k default).name∧ValOK (xs.getD k default).val)) (ck fu xs n (IntKind.i64.wrap ((k:Int)+1))) (some false):=fun n k hk=>by
  rw [ck,ltR hk,ct,ge0,Bool.and_self,ct,tn,d8 hf (h.gn hk),bs,jv hf (h.get hk),bs,bY]
  unfold ke
  cases B (al (xs.getD k default).name)<;>cases B (ValOK (xs.getD k default).val)<;>rfl
 have:=d7 (L:=ck fu xs) (N:=xs.length) (fun k=>al (xs.getD k default).name∧ValOK (xs.getD k default).val) (xs.length≤5) (by unfold BIG;omega) (fun n hq=>by
  rw [ck,nlt,cf,dt (show (xs.length:Int)≤5 by omega)]) (fun n hq=>by
  rw [ck,nlt,cf,df (show ¬ (xs.length:Int)≤5 by omega)]) (fun n k hk hp=>by rw [step n k hk,B_t hp];rfl) (fun n k hk hp=>by rw [step n k hk,B_f hp];rfl) (fu:=fu) (by unfold BIG at hf;omega)
 rw [this]
 exact congrArg some (ai ⟨fun hh=>⟨hh.2,(sE (p:=fun x:Set=>al x.name∧ValOK x.val)).1 hh.1⟩,fun hh=>⟨(sE (p:=fun x:Set=>al x.name∧ValOK x.val)).2 hh.2,hh.1⟩⟩)
theorem xS {c:aa}(hf:BIG≤fu)(h:jb c):vk fu c=some (B (ChD c)):=by
 unfold vk ir iq ip f0
 rw [Fq,cl1,cl2,lG hf h.col,d8 hf h.name,d8 hf h.new]
 simp only [bs,DX,orS,bL,← bY,← zQ]
 simp only [AV]
 refine congrArg some (ai ?_)
 unfold ChD
 constructor
 ·rintro (⟨k,hh⟩ | ⟨k1,⟨k,hh⟩ | ⟨k2,⟨k,hh⟩ | ⟨k3,⟨k,hh⟩⟩⟩⟩)
  ·exact .inl ⟨k,hh⟩
  ·exact .inr (.inl ⟨k,hh⟩)
  ·exact .inr (.inr (.inl ⟨k,hh⟩))
  ·exact .inr (.inr (.inr ⟨k,hh⟩))
 ·rintro (⟨k,hh⟩ | ⟨k,hh⟩ | ⟨k,hh⟩ | ⟨k,hh⟩)
  ·exact .inl ⟨k,hh⟩
  ·exact .inr ⟨by omega,.inl ⟨k,hh⟩⟩
  ·exact .inr ⟨by omega,.inr ⟨by omega,.inl ⟨k,hh⟩⟩⟩
  ·exact .inr ⟨by omega,.inr ⟨by omega,.inr ⟨by omega,k,hh⟩⟩⟩
def y6 (a:aO):Prop:=
 ((a.kind≠2→a.link=jT)∧(a.kind=2→a.name=[]))∧((a.kind≠6→a.change=gI)∧(a.kind≠1→a.cols=[]))∧(a.kind≠3→a.kind≠4→a.sets=[])∧(a.kind≠4→a.kind≠5→a.id=0)
theorem xW {a:aO}:vp fu a=some (B (y6 a)):=by
 unfold vp
 rw [Ci]
 have e3:∀ i,f3 a i=some (!i&&B (a.kind≠4→a.kind≠5→a.id=0)):=fun i=>by
  unfold f3 iu
  simp only [bL,rf,ne_eq,l0]
  cases i<;>cases B (a.kind=4)<;>cases B (a.kind=5)<;>simp
 have e2:∀ i,dP a i=some (!i&&(B (a.kind≠3→a.kind≠4→a.sets=[])&&B (a.kind≠4→a.kind≠5→a.id=0))):=fun i=>by
  unfold dP
  simp only [e3,G1,bL]
  generalize B (a.kind≠4→a.kind≠5→a.id=0)=z
  simp only [bL,rf,ne_eq,l0]
  cases i<;>cases B (a.kind=3)<;>cases B (a.kind=4)<;>cases B (a.sets=[])<;>simp
 have e1:∀ i,dQ a i=some (!i&&((B (a.kind≠6→a.change=gI)&&B (a.kind≠1→a.cols=[]))&&(B (a.kind≠3→a.kind≠4→a.sets=[])&&B (a.kind≠4→a.kind≠5→a.id=0)))):=fun i=>by
  unfold dQ
  rw [Da]
  simp only [e2,G1,bL]
  generalize (B (a.kind≠3→a.kind≠4→a.sets=[])&&B (a.kind≠4→a.kind≠5→a.id=0))=z
  simp only [bL,rf,ne_eq,l0]
  cases i<;>cases B (a.kind=6)<;>cases B (a.change=gI)<;>cases B (a.kind=1)<;>cases B (a.cols=[])<;>simp
 simp only [e1]
 unfold y6
 rw [bY,bY (p:=(a.kind≠6→a.change=gI)∧(a.kind≠1→a.cols=[])),bY (p:=a.kind≠6→a.change=gI),bY (p:=a.kind≠3→a.kind≠4→a.sets=[]),bY (p:=a.kind≠2→a.link=jT)]
 generalize ((B (a.kind≠6→a.change=gI)&&B (a.kind≠1→a.cols=[]))&&(B (a.kind≠3→a.kind≠4→a.sets=[])&&B (a.kind≠4→a.kind≠5→a.id=0)))=z
 simp only [bL,rf,ne_eq,l0]
 cases B (a.kind=2)<;>cases B (a.link=jT)<;>cases B (a.name=[])<;>simp
def y8 (a:aO):Prop:=(a.kind=1∧re a.cols)∨(a.kind=2∧LinkD a.link)∨((a.kind=3∨a.kind=4)∧fS a.sets)∨a.kind=5∨(a.kind=6∧ChD a.change)
theorem sg {a:aO}(hf:BIG≤fu)(h:SmA a):tc fu a=some (B (fT a)):=by
 have e2:∀ i,iw fu a i=cond i (some (B (fS a.sets))) (some (B (a.kind=5∨(a.kind=6∧ChD a.change)))):=fun i=>by
  unfold iw
  rw [xT hf h.sets,xS hf h.ch]
  simp only [bs,bL]
  rw [zQ,bY]
  cases i<;>cases B (a.kind=5)<;>cases B (a.kind=6)<;>cases B (ChD a.change)<;>rfl
 have e1:∀ i,dg fu a i=some (!i&&B (y8 a)):=fun i=>by
  unfold dg y8
  rw [xV hf h.cols,xU hf h.link]
  simp only [bs,e2,bL,zQ,bY]
  by_cases k1:a.kind=1
  ·rw [B_t k1,B_f (p:=a.kind=2) (by omega),B_f (p:=a.kind=3) (by omega),B_f (p:=a.kind=4) (by omega),B_f (p:=a.kind=5) (by omega),B_f (p:=a.kind=6) (by omega)]
   cases i<;>cases B (re a.cols)<;>rfl
  rw [B_f k1]
  by_cases k2:a.kind=2
  ·rw [B_t k2,B_f (p:=a.kind=3) (by omega),B_f (p:=a.kind=4) (by omega),B_f (p:=a.kind=5) (by omega),B_f (p:=a.kind=6) (by omega)]
   cases i<;>cases B (LinkD a.link)<;>rfl
  rw [B_f k2]
  by_cases k3:a.kind=3
  ·rw [B_t k3,B_f (p:=a.kind=4) (by omega),B_f (p:=a.kind=5) (by omega),B_f (p:=a.kind=6) (by omega)]
   cases i<;>cases B (fS a.sets)<;>rfl
  rw [B_f k3]
  by_cases k4:a.kind=4
  ·rw [B_t k4,B_f (p:=a.kind=5) (by omega),B_f (p:=a.kind=6) (by omega)]
   cases i<;>cases B (fS a.sets)<;>rfl
  rw [B_f k4]
  cases i<;>cases B (a.kind=5)<;>cases B (a.kind=6)<;>cases B (ChD a.change)<;>rfl
 unfold tc
 rw [xW,bs,d8 hf h.name,bs]
 simp only [e1]
 have:B (fT a)=(B (y6 a)&&(B (a.kind≠2→al a.name)&&((!B (a.id<0))&&((!B (60<a.id))&&B (y8 a))))):=by
  rw [← l0,← l0,← bY,← bY,← bY,← bY]
  refine ai ⟨fun g=>⟨⟨⟨g.link,g.noname⟩,⟨g.change,g.cols⟩,g.sets,g.id0⟩,g.name,by have:=g.lo;omega,by have:=g.hi;omega,g.kind⟩,?_⟩
  rintro ⟨⟨⟨g1,g2⟩,⟨g3,g4⟩,g5,g6⟩,g7,g8,g9,g10⟩
  exact ⟨g1,g2,g3,g4,g5,g6,g7,by omega,by omega,g10⟩
 rw [this,rf]
 simp only [bL,ne_eq,l0]
 cases B (y6 a)<;>cases B (a.kind=2)<;>cases B (al a.name)<;>cases B (a.id<0)<;>cases B (60<a.id)<;>cases B (y8 a)<;>rfl
theorem xZ {s:List Col}(hf:BIG≤fu)(hs:SmS s):vt fu s (fun x0=>pf fu x0)=some (!B (∀ c,c∈s→dE c)):=by
 have hl:=hs.len
 have hx:∀ k,k<s.length→pf fu (s.getD k default)=some (!B (dE (s.getD k default))):=fun k hk=>by
  unfold pf
  rw [oi hf (hs.get hk)];rfl
 have:=l6 (L:=eh s (fun x0=>pf fu x0)) s (fun c=>!B (dE c)) (by unfold BIG;omega) (fun n=>by
  rw [eh,nlt,cf]) (fun n k hk hp=>by
  rw [eh,ltR hk,ct,ge0,Bool.and_self,ct,tn,hx k hk,bs,ae hk,hp,ct]) (fun n k hk hp=>by
  rw [eh,ltR hk,ct,ge0,Bool.and_self,ct,tn,hx k hk,bs,ae hk,hp,cf]) (fu:=fu) (by unfold BIG at hf;omega)
 unfold vt BB
 rw [this,bs]
 have e:decide ((0:Int)≤(if s.findIdx (fun c=>!B (dE c))<s.length then (s.findIdx (fun c=>!B (dE c)):Int) else -1)) = !B (∀ c,c∈s→dE c):=by
  by_cases h:∀ c,c∈s→dE c
  ·rw [B_t h,if_neg fun hh=>?_]
   ·rfl
   ·obtain ⟨x,h1,h2⟩:=List.findIdx_lt_length.1 hh
    rw [B_t (h x h1)] at h2;cases h2
  ·rw [B_f h,if_pos (List.findIdx_lt_length.2 ?_)]
   ·simp
   ·refine Classical.byContradiction fun hh=>h fun c hc=>Classical.byContradiction fun hn=>hh ⟨c,hc,by rw [B_f hn];rfl⟩
 rw [e]
theorem xP {x:Set}(hf:BIG≤fu)(h1:x.name.length≤1000)(h2:SmV x.val):pd fu x=some (!B (al x.name∧ValOK x.val)):=by
 unfold pd kd
 rw [eb hf h1,bs,lD hf h2,bs,bY]
 cases B (al x.name)<;>cases B (ValOK x.val)<;>rfl
theorem xY {xs:List Set}(hf:BIG≤fu)(hs:SmX xs):ta fu xs=some (B (fS xs)):=by
 have hl:=hs.len
 have hx:∀ k,k<xs.length→pd fu (xs.getD k default)=some (!B (al (xs.getD k default).name∧ValOK (xs.getD k default).val)):=fun k hk=>xP hf (hs.gn hk) (hs.get hk)
 have:=l6 (L:=eR xs (fun x0=>pd fu x0)) xs (fun x=>!B (al x.name∧ValOK x.val)) (by unfold BIG;omega) (fun n=>by
  rw [eR,nlt,cf]) (fun n k hk hp=>by
  rw [eR,ltR hk,ct,ge0,Bool.and_self,ct,tn,hx k hk,bs,ae hk,hp,ct]) (fun n k hk hp=>by
  rw [eR,ltR hk,ct,ge0,Bool.and_self,ct,tn,hx k hk,bs,ae hk,hp,cf]) (fu:=fu) (by unfold BIG at hf;omega)
 unfold ta kh xQ xO
 rw [this,bs]
 have e:decide ((0:Int)≤(if xs.findIdx (fun x=>!B (al x.name∧ValOK x.val))<xs.length then (xs.findIdx (fun x=>!B (al x.name∧ValOK x.val)):Int) else -1)) = !B (∀ x,x∈xs→al x.name∧ValOK x.val):=by
  by_cases h:∀ x,x∈xs→al x.name∧ValOK x.val
  ·rw [B_t h,if_neg fun hh=>?_]
   ·rfl
   ·obtain ⟨x,h1,h2⟩:=List.findIdx_lt_length.1 hh
    rw [B_t (h x h1)] at h2;cases h2
  ·rw [B_f h,if_pos (List.findIdx_lt_length.2 ?_)]
   ·simp
   ·refine Classical.byContradiction fun hh=>h fun c hc=>Classical.byContradiction fun hn=>hh ⟨c,hc,by rw [B_f hn];rfl⟩
 rw [e,bs,Bool.not_not]
 unfold fS
 rw [bY,bL,ai (show (xs.length:Int)≤5↔xs.length≤5 by omega)]
 cases B (xs.length≤5)<;>rfl
theorem xX {c:aa}(hf:BIG≤fu)(h:jb c):vq fu c=some (B (ChP c)):=by
 unfold vq kg kf
 rw [vL,oi hf h.col,eb hf h.name,eb hf h.new,jK,ai (show (1≤c.col.kind∧c.col.kind≤2)↔(c.col.kind=1∨c.col.kind=2) by omega)]
 simp only [bs,DX,bL,← bY,AV]
 rw [Hv,← bY]
 refine congrArg some (ai ?_)
 unfold ChP
 by_cases k1:c.kind=1
 ·simp [k1]
 by_cases k2:c.kind=2
 ·simp [k2]
 by_cases k3:c.kind=3
 ·simp [k3]
 simp [k1,k2,k3]
theorem x5 {a:aO}(hf:BIG≤fu)(h:SmA a):vw fu a=some (B (GI a)):=by
 unfold vw dh cm dU dT dS dR
 rw [Da,Ci,eb hf h.name,eb hf h.link.src,eb hf h.link.col,eb hf h.link.dst,xZ hf h.cols,xY hf h.sets,xX hf h.ch]
 simp only [jK,bs,Bool.not_not,DX,bL,HR,← bY,AV]
 refine congrArg some (ai ?_)
 have hc:((1:Int)≤(a.cols.length:Int)∧(a.cols.length:Int)≤5)↔(1≤a.cols.length∧a.cols.length≤5):=by omega
 unfold GI re LinkD
 by_cases k1:a.kind=1
 ·simp [k1];grind
 by_cases k2:a.kind=2
 ·simp [k2]
 by_cases k3:a.kind=3
 ·simp [k3]
 by_cases k4:a.kind=4
 ·simp [k4]
 by_cases k5:a.kind=5
 ·simp [k5]
 by_cases k6:a.kind=6
 ·simp [k6]
 simp [k1,k2,k3,k4,k5,k6]
theorem sf {b:ac}{a:aO}(hf:BIG≤fu)(h:SmB b)(ha:SmA a):tb fu b a=some (wL b a):=by
 unfold tb wL
 rw [iT hf h ha.name ha.cols,kK hf h,yJ hf h ha.sets,yL hf h ha.sets,yP hf h,yN hf h ha.ch]
 simp only [bs]
 by_cases k1:a.kind=1
 ·rw [dt k1,if_pos k1];rfl
 rw [df k1,if_neg k1,cf]
 by_cases k2:a.kind=2
 ·rw [dt k2,if_pos k2];rfl
 rw [df k2,if_neg k2,cf]
 by_cases k3:a.kind=3
 ·rw [dt k3,if_pos k3];rfl
 rw [df k3,if_neg k3,cf]
 by_cases k4:a.kind=4
 ·rw [dt k4,if_pos k4];rfl
 rw [df k4,if_neg k4,cf]
 by_cases k5:a.kind=5
 ·rw [dt k5,if_pos k5];rfl
 rw [df k5,if_neg k5,cf]
theorem x8 {b:ac}{a:aO}(hf:BIG≤fu)(h:SmB b)(ha:SmA a):vC fu b a=some (or fT b a):=by
 unfold vC or mg
 rw [dm hf h,bs,sg hf ha,bs,aZ hf h,bs,sf hf h ha,bs]
 by_cases h1:ah b
 case neg=>rw [B_f h1,if_neg h1];rfl
 rw [B_t h1,if_pos h1]
 by_cases h2:fT a
 ·rw [B_t h2,if_pos h2];rfl
 ·rw [B_f h2,if_neg h2];rfl
theorem yd {b:ac}{a:aO}(hf:BIG≤fu)(h:SmB b)(ha:SmA a):vD fu b a=some (or fT b a):=by
 unfold vD or mg
 rw [fc hf h,bs,x5 hf ha,ai y2,bs,bV hf h,bs,yT hf h ha.name ha.cols,yR hf h,yK hf h ha.sets,yM hf h ha.sets,yQ hf h,yO hf h ha.ch]
 by_cases h1:ah b
 case neg=>rw [B_f h1,if_neg h1];rfl
 rw [B_t h1,if_pos h1]
 by_cases h2:fT a
 case neg=>rw [B_f h2,if_neg h2];rfl
 rw [B_t h2,if_pos h2]
 simp only [bs,Bool.not_true,cf]
 unfold wL
 by_cases k1:a.kind=1
 ·rw [dt k1,if_pos k1];rfl
 rw [df k1,if_neg k1,cf]
 by_cases k2:a.kind=2
 ·rw [dt k2,if_pos k2];rfl
 rw [df k2,if_neg k2,cf]
 by_cases k3:a.kind=3
 ·rw [dt k3,if_pos k3];rfl
 rw [df k3,if_neg k3,cf]
 by_cases k4:a.kind=4
 ·rw [dt k4,if_pos k4];rfl
 rw [df k4,if_neg k4,cf]
 by_cases k5:a.kind=5
 ·rw [dt k5,if_pos k5];rfl
 rw [df k5,if_neg k5,cf]
theorem xR {b:ac}{a:aO}(hf:BIG≤fu)(h:am b)(ha:SmA a):vj fu b a=some (mg fT b a):=by
 unfold vj mg
 rw [sg hf ha,bs,n9 hf h ha.sets,oa hf h ha.sets,od hf h,oc hf h ha.ch,sf hf h.sm ha]
 by_cases h2:fT a
 case neg=>rw [B_f h2,if_neg h2];rfl
 rw [B_t h2,if_pos h2]
 have e3:l5 b a.name a.sets=xr b a.name a.sets:=if_pos h.ok
 have e4:l4 b a.name a.id a.sets=xi b a.name a.id a.sets:=if_pos h.ok
 have e5:jS b a.name a.id=xw b a.name a.id:=if_pos h.ok
 have e6:cP b a.name a.change=fe b a.name a.change:=if_pos h.ok
 simp only [bs,Bool.not_true,cf]
 by_cases k3:a.kind=3
 ·rw [dt k3,ct,wL,if_neg (by omega),if_neg (by omega),if_pos k3,e3]
 rw [df k3,cf]
 by_cases k4:a.kind=4
 ·rw [dt k4,ct,wL,if_neg (by omega),if_neg (by omega),if_neg (by omega),if_pos k4,e4]
 rw [df k4,cf]
 by_cases k5:a.kind=5
 ·rw [dt k5,ct,wL,if_neg (by omega),if_neg (by omega),if_neg (by omega),if_neg (by omega),if_pos k5,e5]
 rw [df k5,cf]
 by_cases k6:a.kind=6
 ·rw [dt k6,ct,wL,if_neg (by omega),if_neg (by omega),if_neg (by omega),if_neg (by omega),if_neg (by omega),e6]
 rw [df k6,cf]
def zN (l:List aO):Prop:=∀ a,a∈l→SmA a
theorem wo {α:Type}[Inhabited α]{l:List α}{i:Nat}(h:i<l.length):l.drop i=l.getD i default::l.drop (i+1):=by
 rw [ae h];exact List.drop_eq_getElem_cons h
theorem qq {b:ac}{acts:List aO}(hf:BIG≤fu)(hb:SmB b)(hl:acts.length≤1000)(ha:zN acts):∀ (m n i:Nat) (x:ac),i+m=acts.length→m<n→am x→f4 fu b acts n (i:Int) x=some (doAll fT b (acts.drop i) x i):=by
 intro m
 induction m with
 | zero=>
  intro n i x hi hn hx
  obtain ⟨n,rfl⟩:∃ z,n=z+1:=⟨n-1,by omega⟩
  have:i=acts.length:=by omega
  subst this
  rw [f4,nlt,cf,aZ hf hx.sm,bs,List.drop_length,doAll]
 | succ m ih=>
  intro n i x hi hn hx
  obtain ⟨n,rfl⟩:∃ z,n=z+1:=⟨n-1,by omega⟩
  have hil:i<acts.length:=by omega
  have hsa:=ha _ (getD_mem (d:=default) hil)
  rw [f4,ltR hil,ct,aZ hf hx.sm,bs,ge0,Bool.and_self,ct,tn,xR hf hx hsa,bs,wo hil,doAll]
  by_cases hz:(mg fT x (acts.getD i default)).2=0
  ·rw [dt hz,if_pos hz,Bool.not_true,cf,bb hil (by unfold BIG;omega)]
   exact ih n (i+1) _ (by omega) (by omega) (ja hx hsa)
  ·rw [df hz,if_neg hz,Bool.not_false,ct,aZ hf hb];rfl
theorem x4 {b:ac}{acts:List aO}(hf:BIG≤fu)(h:am b)(hl:acts.length≤1000)(ha:zN acts):vu fu b acts=some (ep fT b acts):=by
 unfold vu ep
 rw [aZ hf h.sm,bs,bs,if_pos h.ok]
 by_cases h6:6<acts.length
 ·rw [dt (show (6:Int) < (acts.length:Int) by omega),if_pos h6];rfl
 ·rw [df (show ¬ (6:Int) < (acts.length:Int) by omega),if_neg h6,cf]
  exact qq hf h.sm hl ha acts.length fu 0 b (by omega) (by unfold BIG at hf;omega) h
theorem x7 {b:ac}{acts:List aO}(hf:BIG≤fu)(h:SmB b)(hl:acts.length≤1000)(ha:zN acts):vA fu b acts=some (ep fT b acts):=by
 unfold vA
 rw [dm hf h,bs]
 by_cases h1:ah b
 ·rw [B_t h1,Bool.not_true,cf,x4 hf ⟨h1,h⟩ hl ha];rfl
 ·unfold ep
  rw [B_f h1,if_neg h1];rfl
theorem qr {b:ac}{acts:List aO}(hf:BIG≤fu)(hb:SmB b)(hl:acts.length≤1000)(ha:zN acts):∀ (m n i:Nat) (x:ac),i+m=acts.length→m<n→am x→f7 fu b acts n (i:Int) x=some (doAll fT b (acts.drop i) x i):=by
 intro m
 induction m with
 | zero=>
  intro n i x hi hn hx
  obtain ⟨n,rfl⟩:∃ z,n=z+1:=⟨n-1,by omega⟩
  have:i=acts.length:=by omega
  subst this
  rw [f7,nlt,cf,List.drop_length,doAll]
 | succ m ih=>
  intro n i x hi hn hx
  obtain ⟨n,rfl⟩:∃ z,n=z+1:=⟨n-1,by omega⟩
  have hil:i<acts.length:=by omega
  have hsa:=ha _ (getD_mem (d:=default) hil)
  have e:or fT x (acts.getD i default)=mg fT x (acts.getD i default):=if_pos hx.ok
  rw [f7,ltR hil,ct,ge0,Bool.and_self,ct,tn,yd hf hx.sm hsa,bs,e,wo hil,doAll]
  by_cases hz:(mg fT x (acts.getD i default)).2=0
  ·rw [dt hz,if_pos hz,Bool.not_true,cf,bb hil (by unfold BIG;omega)]
   exact ih n (i+1) _ (by omega) (by omega) (ja hx hsa)
  ·rw [df hz,if_neg hz,Bool.not_false,ct,bV hf hb];rfl
theorem sh {b:ac}{acts:List aO}(hf:BIG≤fu)(h:SmB b)(hl:acts.length≤1000)(ha:zN acts):qt fu b acts=some (ep fT b acts):=by
 unfold qt
 rw [fc hf h,bs,bV hf h,bs,bs]
 by_cases h1:ah b
 ·unfold ep
  rw [B_t h1,if_pos h1,Bool.not_true,cf]
  by_cases h6:6<acts.length
  ·rw [dt (show (6:Int) < (acts.length:Int) by omega),if_pos h6];rfl
  ·rw [df (show ¬ (6:Int) < (acts.length:Int) by omega),if_neg h6,cf]
   exact qr hf h hl ha acts.length fu 0 b (by omega) (by unfold BIG at hf;omega) ⟨h1,h⟩
 ·unfold ep
  rw [B_f h1,if_neg h1];rfl
theorem tz {b:ac}{acts:List aO}(h:am b)(ha:zN acts):am (ep fT b acts).1:=by
 unfold ep
 rw [if_pos h.ok]
 split
 ·exact h
 ·exact tu h h ha
structure DA (n:Nat) (a:aO):Prop where
 sm:SmA a
 sets:a.sets.length≤n
 cols:a.cols.length≤n
 one:al a.name→a.name.length≤1
theorem ub:SmX []:=⟨by simp,fun _ h=>(nomatch h),fun _ h=>nomatch h⟩
theorem uc:SmS []:=⟨by simp,fun _ h=>nomatch h⟩
theorem dK:jb gI:=⟨by decide,by decide,by decide,by decide⟩
theorem fy:SmL jT:=⟨by decide,by decide,by decide⟩
theorem ps {n:Nat}{k id:Int}{nm:List UInt8}{xs:List Set}{cs:List Col}{c:aa}{l:aj}(hn:nm.length≤1)(hx:SmX9 xs)(hs:SmS cs∧cs.length≤900)(hc:jb c)(hl:SmL l)(h9:900≤n):DA n ⟨k,nm,id,xs,cs,c,l⟩:=
 ⟨⟨by show nm.length≤1000;omega,hx.1,hs.1,hc,hl⟩,Nat.le_trans hx.2 h9,Nat.le_trans hs.2 h9,fun _=>hn⟩
theorem x9:SmX9 []:=⟨ub,by simp⟩
theorem s9:SmS []∧([]:List Col).length≤900:=⟨uc,by simp⟩
theorem Hp {s:List Col}(h:ak s):SmS s∧s.length≤900:=⟨h.sm,by have:=h.hi;omega⟩
theorem Fl {r:Rd}{b:ac}{m:Nat}(hf:BIG≤fu)(h:bX r m)(hm:m≤500000)(hb:am b):aG (vy fu r b) (DA 900) (m+8060):=by
 unfold vy
 by_cases h0:b.tabs.length=0
 ·rw [dt (show (List.length b.tabs:Int)=0 by omega),ct]
  exact (yV hf h (by omega)).bind fun s r2 hs hr2=>.pure (ps (by decide) x9 hs dK fy (Nat.le_refl _)) (hr2.mono (by omega))
 rw [df (show ¬ (List.length b.tabs:Int)=0 by omega),cf]
 refine (Fo hf h (by omega) hb.sm).bind fun q4 r1 hq4 hr1=>?_
 simp only
 rw [a8 hf hb.sm.ntab,bs]
 refine (d74 hr1 (by omega)).bind fun q6 r2 _ hr2=>?_
 simp only
 have e1:aG (f5 fu b (q4,r1) (ne b q4.1) (q6,r2)) (DA 900) (m+8060):=by
  unfold f5
  rw [eJ]
  by_cases hk:tabN b q4.1<b.tabs.length
  ·rw [B_t hk,ct,aK hk]
   exact (yW hf hr2 (by omega) hb hk).bind fun xs r3 hx hr3=>.pure (ps hq4 hx s9 dK fy (Nat.le_refl _)) (hr3.mono (by omega))
  ·rw [B_f hk,cf]
   exact (yV hf hr2 (by omega)).bind fun s r3 hs hr3=>.pure (ps hq4 x9 hs dK fy (Nat.le_refl _)) (hr3.mono (by omega))
 have e3:∀ bl,aG (ix fu b (q4,r1) (ne b q4.1) (q6,r2) bl) (DA 900) (m+8060):=fun bl=>by
  unfold ix
  cases bl with
  | false=>exact e1
  | true=>
   rw [ct,eJ]
   by_cases hk:tabN b q4.1<b.tabs.length
   ·have g:=hb.tabT hk
    have hhi:=g.rt.okLast.hi
    rw [B_t hk,ct,aK hk,ltR hk,Bool.and_self,ct,tn,aW,eB hf g.rt,bs]
    exact (d70 hf (by omega) g.rt.okLast.sm hr2 (by omega)).bind fun c r3 hc hr3=>.pure (ps hq4 x9 s9 hc fy (Nat.le_refl _)) (hr3.mono (by omega))
   ·rw [B_f hk,cf];exact e1
 have e2:∀ bl,aG (iy fu b (q4,r1) (ne b q4.1) (q6,r2) bl) (DA 900) (m+8060):=fun bl=>by
  unfold iy
  cases bl with
  | true=>
   rw [ct,eJ]
   by_cases hk:tabN b q4.1<b.tabs.length
   ·rw [B_t hk,ct,aK hk]
    exact (yW hf hr2 (by omega) hb hk).bind fun xs r3 hx hr3=>.pure (ps hq4 hx s9 dK fy (Nat.le_refl _)) (hr3.mono (by omega))
   ·rw [B_f hk,cf];exact e1
  | false=>
   rw [cf]
   cases decide (q6=5) with
   | true=>rw [ct];exact e3 _
   | false=>rw [cf];exact e3 _
 cases decide (q6=0) with
 | true=>
  rw [ct]
  refine (d96 hr2 (by omega) (by decide)).bind fun nm r3 hnm hr3=>?_
  exact (BG hf hr3 (by omega)).bind fun s r4 hs hr4=>.pure (ps (rk (by rfl) nm hnm) x9 (Hp hs) dK fy (Nat.le_refl _)) (hr4.mono (by omega))
 | false=>
  rw [cf]
  cases decide (q6=1) with
  | true=>exact (AS hf hr2 (by omega) hb.g).bind fun l r3 hl hr3=>.pure (ps (by decide) x9 s9 dK hl (Nat.le_refl _)) (hr3.mono (by omega))
  | false=>
   rw [cf]
   cases decide (q6=2) with
   | true=>exact .pure (ps hq4 x9 s9 dK fy (Nat.le_refl _)) (hr2.mono (by omega))
   | false=>
    rw [cf]
    cases decide (q6=3) with
    | true=>rw [ct];exact e2 _
    | false=>rw [cf];exact e2 _
theorem Fm {r:Rd}{a:aO}{n m:Nat}(h:bX r m)(hm:m≤900000)(ha:DA n a)(hn:n≤990):aG (vz fu r a) (DA (n+1)) (m+2):=by
 have hu:DA (n+1) a:=⟨ha.sm,by have:=ha.sets;omega,by have:=ha.cols;omega,ha.one⟩
 have hs1:=ha.sets
 have hs2:=ha.cols
 unfold vz
 refine (d74 h (by omega)).bind fun q r1 _ hr1=>?_
 simp only
 cases decide (q=0) with
 | true=>exact (d73 hr1 (by omega) (by decide)).bind fun x r2 _ hr2=>.pure ⟨⟨hu.sm.name,hu.sm.sets,hu.sm.cols,hu.sm.ch,hu.sm.link⟩,hu.sets,hu.cols,hu.one⟩ hr2
 | false=>
  rw [cf]
  cases decide (q=1) with
  | true=>
   refine (d96 hr1 (by omega) (by decide)).bind fun x r2 hx hr2=>.pure ⟨⟨sm_short (by rfl) x hx,hu.sm.sets,hu.sm.cols,hu.sm.ch,hu.sm.link⟩,hu.sets,hu.cols,fun hh=>?_⟩ hr2
   have h3:x.length≤3:=hh.2.2
   simp only [List.mem_cons,List.not_mem_nil,or_false] at hx
   rcases hx with rfl|rfl|rfl
   ·exact Nat.zero_le _
   ·exact Nat.le_refl _
   ·exact absurd h3 (by decide)
  | false=>
   rw [cf]
   cases decide (q=2) with
   | true=>exact (d73 hr1 (by omega) (by decide)).bind fun x r2 _ hr2=>.pure ⟨⟨hu.sm.name,hu.sm.sets,hu.sm.cols,hu.sm.ch,hu.sm.link⟩,hu.sets,hu.cols,hu.one⟩ hr2
   | false=>
    rw [cf]
    cases decide (q=3) with
    | true=>
     rw [ct,cap (by simp;omega),ct,cap (by simp;omega),ct]
     have hx:SmX (([]:List Set)++a.sets++[⟨[65],d0_49.val⟩]):=ud (by rw [List.nil_append];exact ha.sm.sets) (by rw [List.nil_append];omega) nul_ok.sm (by decide)
     exact .pure ⟨⟨hu.sm.name,hx,hu.sm.cols,hu.sm.ch,hu.sm.link⟩,by simp;omega,hu.cols,hu.one⟩ (hr1.mono (by omega))
    | false=>
     rw [cf]
     cases decide (q=4) with
     | true=>
      rw [ct,cap (by simp;omega),ct,cap (by simp;omega),ct]
      have hx:SmS (([]:List Col)++a.cols++[⟨[113],d0_52.kind,d0_52.need,d0_52.once,d0_52.def_⟩]):=⟨by simp;omega,fun c hc=>by
       rw [List.nil_append] at hc
       rcases List.mem_append.1 hc with hc|hc
       ·exact ha.sm.cols.all c hc
       ·rw [List.mem_singleton] at hc
        rw [hc]
        exact ⟨by decide,nul_ok.sm⟩⟩
      exact .pure ⟨⟨hu.sm.name,hu.sm.sets,hx,hu.sm.ch,hu.sm.link⟩,hu.sets,by simp;omega,hu.one⟩ (hr1.mono (by omega))
     | false=>
      rw [cf]
      cases decide (q=5) with
      | true=>exact .pure ⟨⟨hu.sm.name,hu.sm.sets,hu.sm.cols,⟨hu.sm.ch.name,show ([113]:List UInt8).length≤1000 by decide,hu.sm.ch.col⟩,hu.sm.link⟩,hu.sets,hu.cols,hu.one⟩ (hr1.mono (by omega))
      | false=>exact .pure hu (hr1.mono (by omega))
theorem x6 {b:ac}(hf:BIG≤fu)(h:SmB b):∃ b',vx fu b=some b'∧am b':=by
 unfold vx
 rw [dm hf h,bs]
 by_cases h1:ah b
 ·rw [B_t h1];exact ⟨_,rfl,h1,h⟩
 ·rw [B_f h1];exact ⟨_,rfl,oN⟩
def DAs (l:List aO):Prop:=∀ a,a∈l→DA 901 a
theorem DAs.sm {l:List aO}(h:DAs l):zN l:=fun a ha=>(h a ha).sm
theorem yU {l:List aO}{a:aO}(h:DAs l)(ha:DA 901 a):DAs (l++[a]):=fun x hx=>by
 rcases List.mem_append.1 hx with hx|hx
 ·exact h x hx
 ·rw [List.mem_singleton] at hx;rw [hx];exact ha
theorem actBB_good {b:ac}{a:aO}(h:am b)(ha:SmA a):am (or fT b a).1:=by
 unfold or
 rw [if_pos h.ok]
 exact ja h ha
theorem t1 {m k:Nat}(h:m+k≤400000):m+8060≤900000:=by omega
theorem t2:900≤990:=by omega
theorem t3 {m:Nat}:m+8060+2≤m+8070:=Nat.add_le_add_left (n:=8062) (m:=8070) (by decide) m
theorem t4 {m k:Nat}(h:m+k≤400000):m+8060+2≤100000000:=by omega
theorem t5 {m:Nat}:m+8060+2+1≤m+8070:=Nat.add_le_add_left (n:=8063) (m:=8070) (by decide) m
theorem Fe (hf:BIG≤fu):∀ (j n m:Nat) (l:List aO) (b:ac) (r:Rd),j<n→l.length+j≤7→bX r m→m+8070*j≤400000→am b→DAs l→aG (cF fu n (j:Int) l b r) (fun l'=>l'.length≤7∧DAs l') (m+8070*j):=by
 intro j
 induction j with
 | zero=>
  intro n m l b r hn hlj hr hm hb hl
  obtain ⟨n,rfl⟩:∃ z,n=z+1:=⟨n-1,by omega⟩
  rw [cF]
  exact .pure ⟨by omega,hl⟩ (hr.mono (by omega))
 | succ j ih=>
  intro n m l b r hn hlj hr hm hb hl
  obtain ⟨n,rfl⟩:∃ z,n=z+1:=⟨n-1,by omega⟩
  rw [cF,dt (show (0:Int) < ((j+1:Nat):Int) by omega),ct]
  refine (Fl hf hr (by omega) hb).bind fun x r1 hx hr1=>?_
  refine (Fm hr1 (t1 hm) hx t2).bind fun y r2 hy hr2=>?_
  simp only
  rw [x8 hf hb.sm hy.sm,bs]
  have ej:IntKind.i64.wrap (((j+1:Nat):Int)-1)=(j:Int):=by rw [bk]<;>omega
  have h3:∀ (bl:Bool) (r':Rd),bX r' (m+8070)→aG (iv ((j+1:Nat):Int) l b (y,r2) (or fT b y) (cF fu n) bl r') (fun l'=>l'.length≤7∧DAs l') (m+8070 * (j+1)):=fun bl r' hr'=>by
   unfold iv ki
   rw [ej]
   cases bl with
   | true=>
    rw [ct,cap (by rw [List.length_singleton];omega),ct]
    exact (ih n (m+8070) _ _ r' (by omega) (by rw [List.length_append,List.length_singleton];omega) hr' (by omega) (actBB_good hb hy.sm) (yU hl hy)).mono (fun _ h=>h) (by omega)
   | false=>exact (ih n (m+8070) _ _ r' (by omega) (by omega) hr' (by omega) hb hl).mono (fun _ h=>h) (by omega)
  cases decide ((or fT b y).2=0) with
  | true=>exact h3 true _ (hr2.mono t3)
  | false=>
   rw [cf]
   exact (d74 hr2 (t4 hm)).bind fun q r3 _ hr3=>h3 _ _ (hr3.mono t5)
theorem Fk {r:Rd}{b:ac}{m:Nat}(hf:BIG≤fu)(h:bX r m)(hm:m≤300000)(hb:am b):aG (vv fu r b) (fun l=>l.length≤7∧DAs l) (m+57000):=by
 unfold vv
 refine (d74 h (by omega)).bind fun q r1 hq hr1=>?_
 refine (d73 hr1 (by omega) (by simp)).bind fun c r2 hc hr2=>?_
 simp only
 have hq2:=hq.2 (by decide)
 have hw:IntKind.i64.wrap (6+q)=6+q:=bk (by have:=hq.1;omega) (by omega)
 have hcc:0≤c∧c≤7:=by
  have:=hq.1
  rw [hw] at hc
  simp only [List.mem_cons,List.not_mem_nil,or_false] at hc
  omega
 obtain ⟨j,rfl⟩:∃ j:Nat,c=(j:Int):=⟨c.toNat,by omega⟩
 exact (Fe hf j fu (m+2) [] b r2 (by unfold BIG at hf;omega) (by rw [List.length_nil];omega) hr2 (by omega) hb (fun _ h=>nomatch h)).mono (fun _ h=>h) (by omega)
theorem Fn {a:List Int}(hf:BIG≤fu)(ha:∀ b,b∈a→0≤b∧b≤255):∃ b l,vB fu a=some (b,l)∧SS b∧l.length≤7∧DAs l:=by
 obtain ⟨r,e,hr⟩:=d60 (fu:=fu) ha
 obtain ⟨b,r1,e1,hb,hr1⟩:=C8 (fu:=fu) hf hr (by omega)
 obtain ⟨b',e2,hb'⟩:=x6 (fu:=fu) hf hb.1
 obtain ⟨l,r2,e3,hl,-⟩:=Fk (fu:=fu) hf hr1 (by omega) hb'
 unfold vB
 rw [e,bs,e1,bs]
 simp only
 rw [e2,bs,e3]
 exact ⟨b,l,rfl,hb,hl.1,hl.2⟩
theorem p3 {b:ac}{nm:List UInt8}{xs:List Set}(h:ba b):ba (l5 b nm xs).1:=by
 unfold l5
 split
 ·exact mv h
 ·exact du
theorem pS {b:ac}{nm:List UInt8}{id:Int}{xs:List Set}(h:ba b):ba (l4 b nm id xs).1:=by
 unfold l4
 split
 ·exact mq h
 ·exact du
theorem me {b:ac}{nm:List UInt8}{c:aa}(h:ba b):ba (cP b nm c).1:=by
 unfold cP
 split
 ·exact iW h
 ·exact du
theorem qc {b:ac}{nm:List UInt8}{id:Int}(h:ba b):ba (jS b nm id).1:=by
 unfold jS
 split
 ·exact mw h
 ·exact du
theorem actR_short {b:ac}{a:aO}(h:ba b)(ha:al a.name→a.name.length≤1):ba (mg fT b a).1:=by
 unfold mg
 split
 case isFalse=>exact h
 rename_i hd
 unfold wL
 split
 ·rename_i k
  exact cg h (ha (hd.name (by omega)))
 split
 ·exact dL h
 split
 ·exact p3 h
 split
 ·exact pS h
 split
 ·exact qc h
 ·exact me h
theorem qU {b0:ac}:∀ {l:List aO} {x:ac} {n:Nat},ba b0→ba x→(∀ a,a∈l→al a.name→a.name.length≤1)→ba (doAll fT b0 l x n).1:=by
 intro l
 induction l with
 | nil=>intro x n _ h _;exact h
 | cons a l ih=>
  intro x n h0 h hl
  rw [doAll]
  split
  ·exact ih h0 (actR_short h (hl a List.mem_cons_self)) fun y hy=>hl y (List.mem_cons_of_mem _ hy)
  ·exact h0
def zK:aO:=⟨5,[122,122,122],1,[],[],gI,jT⟩
theorem wW:al [122,122,122]:=⟨fun k hk=>by
 have hk:k<3:=hk
 match k,hk with
 | 0,_=>unfold tM;decide
 | 1,_=>unfold tM;decide
 | 2,_=>unfold tM;decide,by decide,by decide⟩
theorem Ds:fT zK:=⟨fun _=>rfl,fun h=>absurd h (by decide),fun _=>rfl,fun _=>rfl,fun _ _=>rfl,fun _ h=>absurd rfl h,fun _=>wW,by decide,by decide,.inr (.inr (.inr (.inl rfl)))⟩
theorem Dt {b:ac}(hok:ah b)(h:ba b):(mg fT b zK).2=5:=by
 have hoff:jS b [122,122,122] 1=(b,5):=(if_pos hok).trans (if_pos fun hh=>BN h hh.1)
 have e:mg fT b zK=jS b [122,122,122] 1:=if_pos Ds
 rw [e,hoff]
theorem bad_sm:SmA zK:=⟨by decide,ub,uc,dK,fy⟩
theorem Ai (hf:BIG≤fu)(a:List Int)(ha:∀ b,b∈a→0≤b∧b≤255):ye fu a=some true:=by
 unfold ye
 refine wq ?_
 obtain ⟨b,l,e,⟨hb,hsh⟩,hl,hd⟩:=Fn (fu:=fu) hf ha
 have hs:=hd.sm
 have h7:l.length≤1000:=by omega
 rw [e,bs]
 simp only
 rw [sh hf hb h7 hs,bs,x7 hf hb h7 hs,bs,dt rfl,Bool.not_true,cf]
 have e1:f2006_j1 fu (b,l) (ep fT b l) (ep fT b l) true=some true:=by
  unfold f2006_j1
  rw [ct,dt rfl]
 by_cases hz:(ep fT b l).2.1=0
 case neg=>rw [df hz,Bool.not_false,ct];exact e1
 rw [dt hz,Bool.not_true,cf]
 by_cases h6:6≤l.length
 ·rw [dt (show (6:Int)≤(l.length:Int) by omega)];exact e1
 rw [df (show ¬ (6:Int)≤(l.length:Int) by omega)]
 have hok:ah b:=Classical.byContradiction fun hn=>by
  have:ep fT b l=(nilB,1,0):=if_neg hn
  rw [this] at hz;exact absurd hz (by decide)
 have e2:ep fT b l=doAll fT b l b 0:=(if_pos hok).trans (if_neg (by omega))
 have hg:=tz ⟨hok,hb⟩ hs
 have hx:(mg fT (ep fT b l).1 zK).2=5:=Dt hg.ok (by rw [e2];exact qU hsh hsh fun x hx=>(hd x hx).one)
 have hb2:=Bc (a:=zK) hok (show l.length<6 by omega) hz (by rw [hx];decide)
 have hsm:zN (l++[zK]):=fun y hy=>by
  rcases List.mem_append.1 hy with hy|hy
  ·exact hs y hy
  ·rw [List.mem_singleton] at hy;rw [hy];exact bad_sm
 unfold f2006_j1 f2006_j2
 rw [cf,cap (by simp;omega),ct,cap (by simp;omega),ct,List.nil_append]
 show (qt fu b (l++[zK])).bind _=_
 rw [sh hf hb (by simp;omega) hsm,bs,hb2,hx]
 simp only [decide_true,ct]
 rw [tq hf hb];rfl
end Go.Proofs.YtganfdhmkdehlaaGreatDoor
