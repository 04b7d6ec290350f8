/- Plain laws. -/
import Derived.Test.YtganfdhmkdehlaaGreatDoorQ2005M37
import Derived.Test.YtganfdhmkdehlaaGreatDoorQ2005B20
import Derived.KernelRfl
set_option linter.all false
namespace Go.Proofs.YtganfdhmkdehlaaGreatDoor
open Go Go.HL
variable {fu:Nat}
def hZ:aa:=⟨0,[],[],nilCol⟩
def li:aj:=⟨[],[],[],0⟩
structure SmA (a:aQ):Prop where
 name:a.name.length≤1000
 sets:SmX a.sets
 cols:SmS a.cols
 ch:je a.change
 link:SmL a.link
noncomputable def wS (b:ac) (a:aQ):ac×Int:=
 if a.kind=1 then tableBB b a.name a.cols else if a.kind=2 then linkBB b a.link else if a.kind=3 then oP b a.name a.sets
 else if a.kind=4 then oL b a.name a.id a.sets else if a.kind=5 then oQ b a.name a.id else d4 b a.name a.change
theorem wL {b:ac}{a:aQ}(h:am b)(ha:SmA a):am (wS b a).1:=by
 unfold wS
 split
 ·exact cQ h
 split
 ·exact eO h
 split
 ·exact sQ h ha.sets
 split
 ·exact sO h ha.sets
 split
 ·exact sV h
 ·exact oq h ha.ch
section
variable (ok:aQ→Prop)
open Classical in
noncomputable def rb (b:ac) (a:aQ):ac×Int:=if ok a then wS b a else (b,1)
open Classical in
noncomputable def mn (b:ac) (a:aQ):ac×Int:=if ah b then rb ok b a else (nilB,1)
noncomputable def iZ (b0:ac):List aQ→ac→Nat→ac×Int×Int
 | [],x,n=>(x,0,(n:Int))
 | a::l,x,n=>if (rb ok x a).2=0 then iZ b0 l (rb ok x a).1 (n+1) else (b0,(rb ok x a).2,(n:Int))
open Classical in
noncomputable def jZ (b:ac) (acts:List aQ):ac×Int×Int:=if ah b then (if 6<acts.length then (b,4,0) else iZ ok b acts b 0) else (nilB,1,0)
end
section
variable {ok:aQ→Prop}{b0 x:ac}{l l':List aQ}{n:Nat}
theorem fQ {b:ac}{a:aQ}(h:am b)(ha:SmA a):am (rb ok b a).1:=by
 unfold rb
 split
 ·exact wL h ha
 ·exact h
theorem tx (h0:am b0)(hx:am x)(hl:∀ a,a∈l→SmA a):am (iZ ok b0 l x n).1:=by
 induction l generalizing x n with
 | nil=>exact hx
 | cons a l ih=>
  rw [iZ]
  split
  ·exact ih (fQ hx (hl a List.mem_cons_self)) fun y hy=>hl y (List.mem_cons_of_mem _ hy)
  ·exact h0
end
def fS (xs:List Set):Prop:=xs.length≤5∧∀ x,x∈xs→al x.name∧ValOK x.val
def ChD (c:aa):Prop:=
 (c.kind=1∧dD c.col∧c.name=[]∧c.new=[])∨(c.kind=2∧al c.name∧c.new=[]∧c.col=nilCol)∨(c.kind=3∧al c.name∧al c.new∧c.col=nilCol)
 ∨(c.kind=4∧al c.name∧c.new=[]∧(c.col = { nilCol with kind:=1 }∨c.col = { nilCol with kind:=2 }))
def ChP (c:aa):Prop:=
 Named c∧(c.kind=1→dD c.col)∧(c.kind=2→al c.name)∧(c.kind=3→al c.name∧al c.new)∧(c.kind≠1→c.kind≠2→c.kind≠3→al c.name∧(c.col.kind=1∨c.col.kind=2))
theorem ww {c:aa}:ChP c↔ChD c:=by
 constructor
 ·rintro ⟨h | h | h | h,h1,h2,h3,h4⟩
  ·exact .inl ⟨h.1,h1 h.1,h.2.1,h.2.2⟩
  ·exact .inr (.inl ⟨h.1,h2 h.1,h.2.1,h.2.2⟩)
  ·exact .inr (.inr (.inl ⟨h.1,(h3 h.1).1,(h3 h.1).2,h.2⟩))
  ·have h5:=h4 (by omega) (by omega) (by omega)
   refine .inr (.inr (.inr ⟨h.1,h5.1,h.2.1,?_⟩))
   rcases h5.2 with e|e
   ·left;rw [h.2.2,e]
   ·right;rw [h.2.2,e]
 ·rintro (h | h | h | h)
  ·exact ⟨.inl ⟨h.1,h.2.2.1,h.2.2.2⟩,fun _=>h.2.1,fun e=>by omega,fun e=>by omega,fun e=>by omega⟩
  ·exact ⟨.inr (.inl ⟨h.1,h.2.2.1,h.2.2.2⟩),fun e=>by omega,fun _=>h.2.1,fun e=>by omega,fun _ e=>by omega⟩
  ·exact ⟨.inr (.inr (.inl ⟨h.1,h.2.2.2⟩)),fun e=>by omega,fun e=>by omega,fun _=>⟨h.2.1,h.2.2.1⟩,fun _ _ e=>by omega⟩
  ·refine ⟨.inr (.inr (.inr ⟨h.1,h.2.2.1,?_⟩)),fun e=>by omega,fun e=>by omega,fun e=>by omega,fun _ _ _=>⟨h.2.1,?_⟩⟩
   ·rcases h.2.2.2 with e|e<;>rw [e]
   ·rcases h.2.2.2 with e|e<;>rw [e]
    ·exact .inl rfl
    ·exact .inr rfl
def LinkD (l:aj):Prop:=al l.from_∧al l.col∧al l.to∧1≤l.how∧l.how≤3
def rf (cs:List Col):Prop:=1≤cs.length∧cs.length≤5∧∀ c,c∈cs→dD c
structure gT (a:aQ):Prop where
 link:a.kind≠2→a.link=li
 noname:a.kind=2→a.name=[]
 change:a.kind≠6→a.change=hZ
 cols:a.kind≠1→a.cols=[]
 sets:a.kind≠3→a.kind≠4→a.sets=[]
 id0:a.kind≠4→a.kind≠5→a.id=0
 name:a.kind≠2→al a.name
 lo:0≤a.id
 hi:a.id≤60
 kind:(a.kind=1∧rf a.cols)∨(a.kind=2∧LinkD a.link)∨((a.kind=3∨a.kind=4)∧fS a.sets)∨a.kind=5∨(a.kind=6∧ChD a.change)
def GG (a:aQ):Prop:=
 (a.kind=1∧a.id=0∧a.sets=[]∧a.change=hZ∧a.link=li∧al a.name∧rf a.cols)
 ∨(a.kind=2∧a.id=0∧a.sets=[]∧a.cols=[]∧a.change=hZ∧a.name=[]∧LinkD a.link)
 ∨(a.kind=3∧a.id=0∧a.cols=[]∧a.change=hZ∧a.link=li∧al a.name∧fS a.sets)
 ∨(a.kind=4∧a.cols=[]∧a.change=hZ∧a.link=li∧al a.name∧fS a.sets∧0≤a.id∧a.id≤60)
 ∨(a.kind=5∧a.sets=[]∧a.cols=[]∧a.change=hZ∧a.link=li∧al a.name∧0≤a.id∧a.id≤60)
 ∨(a.kind=6∧a.id=0∧a.sets=[]∧a.cols=[]∧a.link=li∧al a.name∧ChP a.change)
theorem y4 {a:aQ}:GG a↔gT a:=by
 constructor
 ·rintro (h | h | h | h | h | h)
  ·obtain ⟨k,h1,h2,h3,h4,h5,h6⟩:=h
   exact ⟨fun _=>h4,fun e=>by omega,fun _=>h3,fun e=>absurd k e,fun _ _=>h2,fun _ _=>h1,fun _=>h5,by omega,by omega,.inl ⟨k,h6⟩⟩
  ·obtain ⟨k,h1,h2,h3,h4,h5,h6⟩:=h
   exact ⟨fun e=>absurd k e,fun _=>h5,fun _=>h4,fun _=>h3,fun _ _=>h2,fun _ _=>h1,fun e=>absurd k e,by omega,by omega,.inr (.inl ⟨k,h6⟩)⟩
  ·obtain ⟨k,h1,h2,h3,h4,h5,h6⟩:=h
   exact ⟨fun _=>h4,fun e=>by omega,fun _=>h3,fun _=>h2,fun e=>absurd k e,fun _ _=>h1,fun _=>h5,by omega,by omega,.inr (.inr (.inl ⟨.inl k,h6⟩))⟩
  ·obtain ⟨k,h1,h2,h3,h4,h5,h6,h7⟩:=h
   exact ⟨fun _=>h3,fun e=>by omega,fun _=>h2,fun _=>h1,fun _ e=>absurd k e,fun e=>absurd k e,fun _=>h4,h6,h7,.inr (.inr (.inl ⟨.inr k,h5⟩))⟩
  ·obtain ⟨k,h1,h2,h3,h4,h5,h6,h7⟩:=h
   exact ⟨fun _=>h4,fun e=>by omega,fun _=>h3,fun _=>h2,fun _ _=>h1,fun _ e=>absurd k e,fun _=>h5,h6,h7,.inr (.inr (.inr (.inl k)))⟩
  ·obtain ⟨k,h1,h2,h3,h4,h5,h6⟩:=h
   exact ⟨fun _=>h4,fun e=>by omega,fun e=>absurd k e,fun _=>h3,fun _ _=>h2,fun _ _=>h1,fun _=>h5,by omega,by omega,.inr (.inr (.inr (.inr ⟨k,ww.1 h6⟩)))⟩
 ·intro h
  rcases h.kind with ⟨k,g⟩|⟨k,g⟩|⟨k|k,g⟩|k|⟨k,g⟩
  ·exact .inl ⟨k,h.id0 (by omega) (by omega),h.sets (by omega) (by omega),h.change (by omega),h.link (by omega),h.name (by omega),g⟩
  ·exact .inr (.inl ⟨k,h.id0 (by omega) (by omega),h.sets (by omega) (by omega),h.cols (by omega),h.change (by omega),h.noname k,g⟩)
  ·exact .inr (.inr (.inl ⟨k,h.id0 (by omega) (by omega),h.cols (by omega),h.change (by omega),h.link (by omega),h.name (by omega),g⟩))
  ·exact .inr (.inr (.inr (.inl ⟨k,h.cols (by omega),h.change (by omega),h.link (by omega),h.name (by omega),g,h.lo,h.hi⟩)))
  ·exact .inr (.inr (.inr (.inr (.inl ⟨k,h.sets (by omega) (by omega),h.cols (by omega),h.change (by omega),h.link (by omega),h.name (by omega),h.lo,h.hi⟩))))
  ·exact .inr (.inr (.inr (.inr (.inr ⟨k,h.id0 (by omega) (by omega),h.sets (by omega) (by omega),h.cols (by omega),h.link (by omega),h.name (by omega),ww.2 g⟩))))
theorem DW {b c:Bool}:cond b (some c) (some false)=some (b&&c):=by cases b<;>rfl
theorem orS {b c:Bool}:cond b (some true) (some c)=some (b || c):=by cases b<;>rfl
theorem Ht {b c:Bool}:cond (!b) (some false) (some c)=some (b&&c):=by cases b<;>rfl
theorem AY {p q r:Prop}:cond (B p) (some (B q)) (some (B r))=some (B ((p∧q)∨(¬ p∧r))):=by
 rw [zR,bX,bX,l8]
 cases B p<;>simp
theorem HP {α:Type}{l:List α}:((l.length:Int)=0)=(l=[]):=propext ⟨fun h=>List.length_eq_zero_iff.1 (by omega),fun h=>by subst h;rfl⟩
theorem GZ {α:Type}{l:List α}:(0 < (l.length:Int))=(l≠[]):=propext ⟨fun h e=>by subst e;simp at h,fun h=>by have:=List.length_pos_iff.2 h;omega⟩
theorem Db:(⟨d0_56.kind,d0_56.name,d0_56.new,d0_56.col⟩:aa)=hZ:=rfl
theorem Cj:(⟨d0_1044.from_,d0_1044.col,d0_1044.to,d0_1044.how⟩:aj)=li:=rfl
theorem Fp:(⟨d0_52.name,d0_52.kind,d0_52.need,d0_52.once,d0_52.def_⟩:Col)=nilCol:=rfl
theorem cl1:(⟨d0_52.name,1,d0_52.need,d0_52.once,d0_52.def_⟩:Col) = { nilCol with kind:=1 }:=rfl
theorem cl2:(⟨d0_52.name,2,d0_52.need,d0_52.once,d0_52.def_⟩:Col) = { nilCol with kind:=2 }:=rfl
theorem sF {α:Type}[Inhabited α]{l:List α}{p:α→Prop}:(∀ k,k<l.length→p (l.getD k default))↔∀ x,x∈l→p x:=
 ⟨fun h x hx=>by
  obtain ⟨k,hk,rfl⟩:=List.getElem_of_mem hx
  have:=h k hk
  rwa [ae hk] at this,fun h k hk=>h _ (getD_mem hk)⟩
theorem xW {s:List Col}(hf:BIG≤fu)(hs:SmS s):vn fu s=some (B (rf s)):=by
 have hl:=hs.len
 unfold vn rf
 have:=d6 (L:=f2116_l1 fu s) (N:=s.length) (fun k=>dD (s.getD k default)) (1≤s.length∧s.length≤5) (by unfold BIG;omega) (fun n hq=>by
  rw [f2116_l1,nlt,cf,dt (show (1:Int)≤(s.length:Int) by omega),ct,dt (show (s.length:Int)≤5 by omega)];rfl) (fun n hq=>by
  rw [f2116_l1,nlt,cf]
  by_cases h1:(1:Int)≤(s.length:Int)
  ·rw [dt h1,ct,df (show ¬ (s.length:Int)≤5 by omega)];rfl
  ·rw [df h1,cf];rfl) (fun n k hk hp=>by
  rw [f2116_l1,ltR hk,ct,ge0,Bool.and_self,ct,tn,lN hf (hs.get hk),B_t hp];rfl) (fun n k hk hp=>by
  rw [f2116_l1,ltR hk,ct,ge0,Bool.and_self,ct,tn,lN hf (hs.get hk),B_f hp];rfl) (fu:=fu) (by unfold BIG at hf;omega)
 rw [this]
 exact congrArg some (ai ⟨fun h=>⟨h.2.1,h.2.2,sF.1 h.1⟩,fun h=>⟨sF.2 h.2.2,h.1,h.2.1⟩⟩)
theorem xV {l:aj}(hf:BIG≤fu)(h:SmL l):vl fu l=some (B (LinkD l)):=by
 unfold vl LinkD eS
 rw [d7 hf h.src,d7 hf h.col,d7 hf h.dst]
 simp only [bs,DW,bL,← bX]
theorem SmX.gn {xs:List Set}(h:SmX xs){k:Nat}(hk:k<xs.length):(xs.getD k default).name.length≤1000:=h.nm _ (getD_mem hk)
theorem xU {xs:List Set}(hf:BIG≤fu)(h:SmX xs):vk fu xs=some (B (fS xs)):=by
 have hl:=h.len
 unfold vk fS
 have step:∀ n (k:Nat),k<xs.length→ci fu xs (n+1) (k:Int)=cond (B (al (xs.getD k default).name∧ValOK (xs.getD k default).val)) (ci fu xs n (IntKind.i64.wrap ((k:Int)+1))) (some false):=fun n k hk=>by
  rw [ci,ltR hk,ct,ge0,Bool.and_self,ct,tn,d7 hf (h.gn hk),bs,jy hf (h.get hk),bs,bX]
  unfold kg
  cases B (al (xs.getD k default).name)<;>cases B (ValOK (xs.getD k default).val)<;>rfl
 have:=d6 (L:=ci fu xs) (N:=xs.length) (fun k=>al (xs.getD k default).name∧ValOK (xs.getD k default).val) (xs.length≤5) (by unfold BIG;omega) (fun n hq=>by
  rw [ci,nlt,cf,dt (show (xs.length:Int)≤5 by omega)]) (fun n hq=>by
  rw [ci,nlt,cf,df (show ¬ (xs.length:Int)≤5 by omega)]) (fun n k hk hp=>by rw [step n k hk,B_t hp];rfl) (fun n k hk hp=>by rw [step n k hk,B_f hp];rfl) (fu:=fu) (by unfold BIG at hf;omega)
 rw [this]
 exact congrArg some (ai ⟨fun hh=>⟨hh.2,(sF (p:=fun x:Set=>al x.name∧ValOK x.val)).1 hh.1⟩,fun hh=>⟨(sF (p:=fun x:Set=>al x.name∧ValOK x.val)).2 hh.2,hh.1⟩⟩)
theorem xT {c:aa}(hf:BIG≤fu)(h:je c):vj fu c=some (B (ChD c)):=by
 unfold vj iu ir iq fZ
 rw [Fp,cl1,cl2,lN hf h.col,d7 hf h.name,d7 hf h.new]
 simp only [bs,DW,orS,bL,← bX,← zR]
 simp only [AY]
 refine congrArg some (ai ?_)
 unfold ChD
 constructor
 ·rintro (⟨k,hh⟩ | ⟨k1,⟨k,hh⟩ | ⟨k2,⟨k,hh⟩ | ⟨k3,⟨k,hh⟩⟩⟩⟩)
  ·exact .inl ⟨k,hh⟩
  ·exact .inr (.inl ⟨k,hh⟩)
  ·exact .inr (.inr (.inl ⟨k,hh⟩))
  ·exact .inr (.inr (.inr ⟨k,hh⟩))
 ·rintro (⟨k,hh⟩ | ⟨k,hh⟩ | ⟨k,hh⟩ | ⟨k,hh⟩)
  ·exact .inl ⟨k,hh⟩
  ·exact .inr ⟨by omega,.inl ⟨k,hh⟩⟩
  ·exact .inr ⟨by omega,.inr ⟨by omega,.inl ⟨k,hh⟩⟩⟩
  ·exact .inr ⟨by omega,.inr ⟨by omega,.inr ⟨by omega,k,hh⟩⟩⟩
def y8 (a:aQ):Prop:=
 ((a.kind≠2→a.link=li)∧(a.kind=2→a.name=[]))∧((a.kind≠6→a.change=hZ)∧(a.kind≠1→a.cols=[]))∧(a.kind≠3→a.kind≠4→a.sets=[])∧(a.kind≠4→a.kind≠5→a.id=0)
theorem xX {a:aQ}:vo fu a=some (B (y8 a)):=by
 unfold vo
 rw [Cj]
 have e3:∀ i,f0 a i=some (!i&&B (a.kind≠4→a.kind≠5→a.id=0)):=fun i=>by
  unfold f0 iv
  simp only [bL,rh,ne_eq,l8]
  cases i<;>cases B (a.kind=4)<;>cases B (a.kind=5)<;>simp
 have e2:∀ i,dM a i=some (!i&&(B (a.kind≠3→a.kind≠4→a.sets=[])&&B (a.kind≠4→a.kind≠5→a.id=0))):=fun i=>by
  unfold dM
  simp only [e3,GZ,bL]
  generalize B (a.kind≠4→a.kind≠5→a.id=0)=z
  simp only [bL,rh,ne_eq,l8]
  cases i<;>cases B (a.kind=3)<;>cases B (a.kind=4)<;>cases B (a.sets=[])<;>simp
 have e1:∀ i,dN a i=some (!i&&((B (a.kind≠6→a.change=hZ)&&B (a.kind≠1→a.cols=[]))&&(B (a.kind≠3→a.kind≠4→a.sets=[])&&B (a.kind≠4→a.kind≠5→a.id=0)))):=fun i=>by
  unfold dN
  rw [Db]
  simp only [e2,GZ,bL]
  generalize (B (a.kind≠3→a.kind≠4→a.sets=[])&&B (a.kind≠4→a.kind≠5→a.id=0))=z
  simp only [bL,rh,ne_eq,l8]
  cases i<;>cases B (a.kind=6)<;>cases B (a.change=hZ)<;>cases B (a.kind=1)<;>cases B (a.cols=[])<;>simp
 simp only [e1]
 unfold y8
 rw [bX,bX (p:=(a.kind≠6→a.change=hZ)∧(a.kind≠1→a.cols=[])),bX (p:=a.kind≠6→a.change=hZ),bX (p:=a.kind≠3→a.kind≠4→a.sets=[]),bX (p:=a.kind≠2→a.link=li)]
 generalize ((B (a.kind≠6→a.change=hZ)&&B (a.kind≠1→a.cols=[]))&&(B (a.kind≠3→a.kind≠4→a.sets=[])&&B (a.kind≠4→a.kind≠5→a.id=0)))=z
 simp only [bL,rh,ne_eq,l8]
 cases B (a.kind=2)<;>cases B (a.link=li)<;>cases B (a.name=[])<;>simp
def za (a:aQ):Prop:=(a.kind=1∧rf a.cols)∨(a.kind=2∧LinkD a.link)∨((a.kind=3∨a.kind=4)∧fS a.sets)∨a.kind=5∨(a.kind=6∧ChD a.change)
theorem sh {a:aQ}(hf:BIG≤fu)(h:SmA a):th fu a=some (B (gT a)):=by
 have e2:∀ i,ix fu a i=cond i (some (B (fS a.sets))) (some (B (a.kind=5∨(a.kind=6∧ChD a.change)))):=fun i=>by
  unfold ix
  rw [xU hf h.sets,xT hf h.ch]
  simp only [bs,bL]
  rw [zR,bX]
  cases i<;>cases B (a.kind=5)<;>cases B (a.kind=6)<;>cases B (ChD a.change)<;>rfl
 have e1:∀ i,dh fu a i=some (!i&&B (za a)):=fun i=>by
  unfold dh za
  rw [xW hf h.cols,xV hf h.link]
  simp only [bs,e2,bL,zR,bX]
  by_cases k1:a.kind=1
  ·rw [B_t k1,B_f (p:=a.kind=2) (by omega),B_f (p:=a.kind=3) (by omega),B_f (p:=a.kind=4) (by omega),B_f (p:=a.kind=5) (by omega),B_f (p:=a.kind=6) (by omega)]
   cases i<;>cases B (rf a.cols)<;>rfl
  rw [B_f k1]
  by_cases k2:a.kind=2
  ·rw [B_t k2,B_f (p:=a.kind=3) (by omega),B_f (p:=a.kind=4) (by omega),B_f (p:=a.kind=5) (by omega),B_f (p:=a.kind=6) (by omega)]
   cases i<;>cases B (LinkD a.link)<;>rfl
  rw [B_f k2]
  by_cases k3:a.kind=3
  ·rw [B_t k3,B_f (p:=a.kind=4) (by omega),B_f (p:=a.kind=5) (by omega),B_f (p:=a.kind=6) (by omega)]
   cases i<;>cases B (fS a.sets)<;>rfl
  rw [B_f k3]
  by_cases k4:a.kind=4
  ·rw [B_t k4,B_f (p:=a.kind=5) (by omega),B_f (p:=a.kind=6) (by omega)]
   cases i<;>cases B (fS a.sets)<;>rfl
  rw [B_f k4]
  cases i<;>cases B (a.kind=5)<;>cases B (a.kind=6)<;>cases B (ChD a.change)<;>rfl
 unfold th
 rw [xX,bs,d7 hf h.name,bs]
 simp only [e1]
 have:B (gT a)=(B (y8 a)&&(B (a.kind≠2→al a.name)&&((!B (a.id<0))&&((!B (60<a.id))&&B (za a))))):=by
  rw [← l8,← l8,← bX,← bX,← bX,← bX]
  refine ai ⟨fun g=>⟨⟨⟨g.link,g.noname⟩,⟨g.change,g.cols⟩,g.sets,g.id0⟩,g.name,by have:=g.lo;omega,by have:=g.hi;omega,g.kind⟩,?_⟩
  rintro ⟨⟨⟨g1,g2⟩,⟨g3,g4⟩,g5,g6⟩,g7,g8,g9,g10⟩
  exact ⟨g1,g2,g3,g4,g5,g6,g7,by omega,by omega,g10⟩
 rw [this,rh]
 simp only [bL,ne_eq,l8]
 cases B (y8 a)<;>cases B (a.kind=2)<;>cases B (al a.name)<;>cases B (a.id<0)<;>cases B (60<a.id)<;>cases B (za a)<;>rfl
theorem x4 {s:List Col}(hf:BIG≤fu)(hs:SmS s):vq fu s (fun x0=>pm fu x0)=some (!B (∀ c,c∈s→dD c)):=by
 have hl:=hs.len
 have hx:∀ k,k<s.length→pm fu (s.getD k default)=some (!B (dD (s.getD k default))):=fun k hk=>by
  unfold pm
  rw [om hf (hs.get hk)];rfl
 have:=mb (L:=ef s (fun x0=>pm fu x0)) s (fun c=>!B (dD c)) (by unfold BIG;omega) (fun n=>by
  rw [ef,nlt,cf]) (fun n k hk hp=>by
  rw [ef,ltR hk,ct,ge0,Bool.and_self,ct,tn,hx k hk,bs,ae hk,hp,ct]) (fun n k hk hp=>by
  rw [ef,ltR hk,ct,ge0,Bool.and_self,ct,tn,hx k hk,bs,ae hk,hp,cf]) (fu:=fu) (by unfold BIG at hf;omega)
 unfold vq BD
 rw [this,bs]
 have e:decide ((0:Int)≤(if s.findIdx (fun c=>!B (dD c))<s.length then (s.findIdx (fun c=>!B (dD c)):Int) else -1)) = !B (∀ c,c∈s→dD c):=by
  by_cases h:∀ c,c∈s→dD c
  ·rw [B_t h,if_neg fun hh=>?_]
   ·rfl
   ·obtain ⟨x,h1,h2⟩:=List.findIdx_lt_length.1 hh
    rw [B_t (h x h1)] at h2;cases h2
  ·rw [B_f h,if_pos (List.findIdx_lt_length.2 ?_)]
   ·simp
   ·refine Classical.byContradiction fun hh=>h fun c hc=>Classical.byContradiction fun hn=>hh ⟨c,hc,by rw [B_f hn];rfl⟩
 rw [e]
theorem xQ {x:Set}(hf:BIG≤fu)(h1:x.name.length≤1000)(h2:SmV x.val):pk fu x=some (!B (al x.name∧ValOK x.val)):=by
 unfold pk kf
 rw [d9 hf h1,bs,lK hf h2,bs,bX]
 cases B (al x.name)<;>cases B (ValOK x.val)<;>rfl
theorem xZ {xs:List Set}(hf:BIG≤fu)(hs:SmX xs):tf fu xs=some (B (fS xs)):=by
 have hl:=hs.len
 have hx:∀ k,k<xs.length→pk fu (xs.getD k default)=some (!B (al (xs.getD k default).name∧ValOK (xs.getD k default).val)):=fun k hk=>xQ hf (hs.gn hk) (hs.get hk)
 have:=mb (L:=eR xs (fun x0=>pk fu x0)) xs (fun x=>!B (al x.name∧ValOK x.val)) (by unfold BIG;omega) (fun n=>by
  rw [eR,nlt,cf]) (fun n k hk hp=>by
  rw [eR,ltR hk,ct,ge0,Bool.and_self,ct,tn,hx k hk,bs,ae hk,hp,ct]) (fun n k hk hp=>by
  rw [eR,ltR hk,ct,ge0,Bool.and_self,ct,tn,hx k hk,bs,ae hk,hp,cf]) (fu:=fu) (by unfold BIG at hf;omega)
 unfold tf kj xR xP
 rw [this,bs]
 have e:decide ((0:Int)≤(if xs.findIdx (fun x=>!B (al x.name∧ValOK x.val))<xs.length then (xs.findIdx (fun x=>!B (al x.name∧ValOK x.val)):Int) else -1)) = !B (∀ x,x∈xs→al x.name∧ValOK x.val):=by
  by_cases h:∀ x,x∈xs→al x.name∧ValOK x.val
  ·rw [B_t h,if_neg fun hh=>?_]
   ·rfl
   ·obtain ⟨x,h1,h2⟩:=List.findIdx_lt_length.1 hh
    rw [B_t (h x h1)] at h2;cases h2
  ·rw [B_f h,if_pos (List.findIdx_lt_length.2 ?_)]
   ·simp
   ·refine Classical.byContradiction fun hh=>h fun c hc=>Classical.byContradiction fun hn=>hh ⟨c,hc,by rw [B_f hn];rfl⟩
 rw [e,bs,Bool.not_not]
 unfold fS
 rw [bX,bL,ai (show (xs.length:Int)≤5↔xs.length≤5 by omega)]
 cases B (xs.length≤5)<;>rfl
theorem xY {c:aa}(hf:BIG≤fu)(h:je c):vp fu c=some (B (ChP c)):=by
 unfold vp ki kh
 rw [vK,om hf h.col,d9 hf h.name,d9 hf h.new,jM,ai (show (1≤c.col.kind∧c.col.kind≤2)↔(c.col.kind=1∨c.col.kind=2) by omega)]
 simp only [bs,DW,bL,← bX,AY]
 rw [Ht,← bX]
 refine congrArg some (ai ?_)
 unfold ChP
 by_cases k1:c.kind=1
 ·simp [k1]
 by_cases k2:c.kind=2
 ·simp [k2]
 by_cases k3:c.kind=3
 ·simp [k3]
 simp [k1,k2,k3]
theorem x6 {a:aQ}(hf:BIG≤fu)(h:SmA a):vv fu a=some (B (GG a)):=by
 unfold vv di ck dR dQ dP dO
 rw [Db,Cj,d9 hf h.name,d9 hf h.link.src,d9 hf h.link.col,d9 hf h.link.dst,x4 hf h.cols,xZ hf h.sets,xY hf h.ch]
 simp only [jM,bs,Bool.not_not,DW,bL,HP,← bX,AY]
 refine congrArg some (ai ?_)
 have hc:((1:Int)≤(a.cols.length:Int)∧(a.cols.length:Int)≤5)↔(1≤a.cols.length∧a.cols.length≤5):=by omega
 unfold GG rf LinkD
 by_cases k1:a.kind=1
 ·simp [k1];grind
 by_cases k2:a.kind=2
 ·simp [k2]
 by_cases k3:a.kind=3
 ·simp [k3]
 by_cases k4:a.kind=4
 ·simp [k4]
 by_cases k5:a.kind=5
 ·simp [k5]
 by_cases k6:a.kind=6
 ·simp [k6]
 simp [k1,k2,k3,k4,k5,k6]
theorem sg {b:ac}{a:aQ}(hf:BIG≤fu)(h:SmB b)(ha:SmA a):tg fu b a=some (wS b a):=by
 unfold tg wS
 rw [iX hf h ha.name ha.cols,kQ hf h,yK hf h ha.sets,yM hf h ha.sets,yQ hf h,yO hf h ha.ch]
 simp only [bs]
 by_cases k1:a.kind=1
 ·rw [dt k1,if_pos k1];rfl
 rw [df k1,if_neg k1,cf]
 by_cases k2:a.kind=2
 ·rw [dt k2,if_pos k2];rfl
 rw [df k2,if_neg k2,cf]
 by_cases k3:a.kind=3
 ·rw [dt k3,if_pos k3];rfl
 rw [df k3,if_neg k3,cf]
 by_cases k4:a.kind=4
 ·rw [dt k4,if_pos k4];rfl
 rw [df k4,if_neg k4,cf]
 by_cases k5:a.kind=5
 ·rw [dt k5,if_pos k5];rfl
 rw [df k5,if_neg k5,cf]
theorem yd {b:ac}{a:aQ}(hf:BIG≤fu)(h:SmB b)(ha:SmA a):vB fu b a=some (mn gT b a):=by
 unfold vB mn rb
 rw [cP hf h,bs,sh hf ha,bs,aZ hf h,bs,sg hf h ha,bs]
 by_cases h1:ah b
 case neg=>rw [B_f h1,if_neg h1];rfl
 rw [B_t h1,if_pos h1]
 by_cases h2:gT a
 ·rw [B_t h2,if_pos h2];rfl
 ·rw [B_f h2,if_neg h2];rfl
theorem si {b:ac}{a:aQ}(hf:BIG≤fu)(h:SmB b)(ha:SmA a):ti fu b a=some (mn gT b a):=by
 unfold ti mn rb
 rw [dZ hf h,bs,x6 hf ha,ai y4,bs,bU hf h,bs,yU hf h ha.name ha.cols,yS hf h,yL hf h ha.sets,yN hf h ha.sets,yR hf h,yP hf h ha.ch]
 by_cases h1:ah b
 case neg=>rw [B_f h1,if_neg h1];rfl
 rw [B_t h1,if_pos h1]
 by_cases h2:gT a
 case neg=>rw [B_f h2,if_neg h2];rfl
 rw [B_t h2,if_pos h2]
 simp only [bs,Bool.not_true,cf]
 unfold wS
 by_cases k1:a.kind=1
 ·rw [dt k1,if_pos k1];rfl
 rw [df k1,if_neg k1,cf]
 by_cases k2:a.kind=2
 ·rw [dt k2,if_pos k2];rfl
 rw [df k2,if_neg k2,cf]
 by_cases k3:a.kind=3
 ·rw [dt k3,if_pos k3];rfl
 rw [df k3,if_neg k3,cf]
 by_cases k4:a.kind=4
 ·rw [dt k4,if_pos k4];rfl
 rw [df k4,if_neg k4,cf]
 by_cases k5:a.kind=5
 ·rw [dt k5,if_pos k5];rfl
 rw [df k5,if_neg k5,cf]
theorem xS {b:ac}{a:aQ}(hf:BIG≤fu)(h:am b)(ha:SmA a):vi fu b a=some (rb gT b a):=by
 unfold vi rb
 rw [sh hf ha,bs,ob hf h ha.sets,oc hf h ha.sets,og hf h,oe hf h ha.ch,sg hf h.sm ha]
 by_cases h2:gT a
 case neg=>rw [B_f h2,if_neg h2];rfl
 rw [B_t h2,if_pos h2]
 have e3:oP b a.name a.sets=xr b a.name a.sets:=if_pos h.ok
 have e4:oL b a.name a.id a.sets=xi b a.name a.id a.sets:=if_pos h.ok
 have e5:oQ b a.name a.id=xw b a.name a.id:=if_pos h.ok
 have e6:d4 b a.name a.change=fc b a.name a.change:=if_pos h.ok
 simp only [bs,Bool.not_true,cf]
 by_cases k3:a.kind=3
 ·rw [dt k3,ct,wS,if_neg (by omega),if_neg (by omega),if_pos k3,e3]
 rw [df k3,cf]
 by_cases k4:a.kind=4
 ·rw [dt k4,ct,wS,if_neg (by omega),if_neg (by omega),if_neg (by omega),if_pos k4,e4]
 rw [df k4,cf]
 by_cases k5:a.kind=5
 ·rw [dt k5,ct,wS,if_neg (by omega),if_neg (by omega),if_neg (by omega),if_neg (by omega),if_pos k5,e5]
 rw [df k5,cf]
 by_cases k6:a.kind=6
 ·rw [dt k6,ct,wS,if_neg (by omega),if_neg (by omega),if_neg (by omega),if_neg (by omega),if_neg (by omega),e6]
 rw [df k6,cf]
def zO (l:List aQ):Prop:=∀ a,a∈l→SmA a
theorem qV {α:Type}[Inhabited α]{l:List α}{i:Nat}(h:i<l.length):l.drop i=l.getD i default::l.drop (i+1):=by
 rw [ae h];exact List.drop_eq_getElem_cons h
theorem qt {b:ac}{acts:List aQ}(hf:BIG≤fu)(hb:SmB b)(hl:acts.length≤1000)(ha:zO acts):∀ (m n i:Nat) (x:ac),i+m=acts.length→m<n→am x→f3 fu b acts n (i:Int) x=some (iZ gT b (acts.drop i) x i):=by
 intro m
 induction m with
 | zero=>
  intro n i x hi hn hx
  obtain ⟨n,rfl⟩:∃ z,n=z+1:=⟨n-1,by omega⟩
  have:i=acts.length:=by omega
  subst this
  rw [f3,nlt,cf,aZ hf hx.sm,bs,List.drop_length,iZ]
 | succ m ih=>
  intro n i x hi hn hx
  obtain ⟨n,rfl⟩:∃ z,n=z+1:=⟨n-1,by omega⟩
  have hil:i<acts.length:=by omega
  have hsa:=ha _ (getD_mem (d:=default) hil)
  rw [f3,ltR hil,ct,aZ hf hx.sm,bs,ge0,Bool.and_self,ct,tn,xS hf hx hsa,bs,qV hil,iZ]
  by_cases hz:(rb gT x (acts.getD i default)).2=0
  ·rw [dt hz,if_pos hz,Bool.not_true,cf,ba hil (by unfold BIG;omega)]
   exact ih n (i+1) _ (by omega) (by omega) (fQ hx hsa)
  ·rw [df hz,if_neg hz,Bool.not_false,ct,aZ hf hb];rfl
theorem x5 {b:ac}{acts:List aQ}(hf:BIG≤fu)(h:am b)(hl:acts.length≤1000)(ha:zO acts):vt fu b acts=some (jZ gT b acts):=by
 unfold vt jZ
 rw [aZ hf h.sm,bs,bs,if_pos h.ok]
 by_cases h6:6<acts.length
 ·rw [dt (show (6:Int) < (acts.length:Int) by omega),if_pos h6];rfl
 ·rw [df (show ¬ (6:Int) < (acts.length:Int) by omega),if_neg h6,cf]
  exact qt hf h.sm hl ha acts.length fu 0 b (by omega) (by unfold BIG at hf;omega) h
theorem x8 {b:ac}{acts:List aQ}(hf:BIG≤fu)(h:SmB b)(hl:acts.length≤1000)(ha:zO acts):vz fu b acts=some (jZ gT b acts):=by
 unfold vz
 rw [cP hf h,bs]
 by_cases h1:ah b
 ·rw [B_t h1,Bool.not_true,cf,x5 hf ⟨h1,h⟩ hl ha];rfl
 ·unfold jZ
  rw [B_f h1,if_neg h1];rfl
theorem qu {b:ac}{acts:List aQ}(hf:BIG≤fu)(hb:SmB b)(hl:acts.length≤1000)(ha:zO acts):∀ (m n i:Nat) (x:ac),i+m=acts.length→m<n→am x→f6 fu b acts n (i:Int) x=some (iZ gT b (acts.drop i) x i):=by
 intro m
 induction m with
 | zero=>
  intro n i x hi hn hx
  obtain ⟨n,rfl⟩:∃ z,n=z+1:=⟨n-1,by omega⟩
  have:i=acts.length:=by omega
  subst this
  rw [f6,nlt,cf,List.drop_length,iZ]
 | succ m ih=>
  intro n i x hi hn hx
  obtain ⟨n,rfl⟩:∃ z,n=z+1:=⟨n-1,by omega⟩
  have hil:i<acts.length:=by omega
  have hsa:=ha _ (getD_mem (d:=default) hil)
  have e:mn gT x (acts.getD i default)=rb gT x (acts.getD i default):=if_pos hx.ok
  rw [f6,ltR hil,ct,ge0,Bool.and_self,ct,tn,si hf hx.sm hsa,bs,e,qV hil,iZ]
  by_cases hz:(rb gT x (acts.getD i default)).2=0
  ·rw [dt hz,if_pos hz,Bool.not_true,cf,ba hil (by unfold BIG;omega)]
   exact ih n (i+1) _ (by omega) (by omega) (fQ hx hsa)
  ·rw [df hz,if_neg hz,Bool.not_false,ct,bU hf hb];rfl
theorem ye {b:ac}{acts:List aQ}(hf:BIG≤fu)(h:SmB b)(hl:acts.length≤1000)(ha:zO acts):vC fu b acts=some (jZ gT b acts):=by
 unfold vC
 rw [dZ hf h,bs,bU hf h,bs,bs]
 by_cases h1:ah b
 ·unfold jZ
  rw [B_t h1,if_pos h1,Bool.not_true,cf]
  by_cases h6:6<acts.length
  ·rw [dt (show (6:Int) < (acts.length:Int) by omega),if_pos h6];rfl
  ·rw [df (show ¬ (6:Int) < (acts.length:Int) by omega),if_neg h6,cf]
   exact qu hf h hl ha acts.length fu 0 b (by omega) (by unfold BIG at hf;omega) ⟨h1,h⟩
 ·unfold jZ
  rw [B_f h1,if_neg h1];rfl
theorem y3 {b:ac}{acts:List aQ}(h:SmB b)(ha:zO acts):SmB (jZ gT b acts).1:=by
 unfold jZ
 split
 ·rename_i h1
  split
  ·exact h
  ·exact (tx ⟨h1,h⟩ ⟨h1,h⟩ ha).sm
 ·exact nu
structure DA (n:Nat) (a:aQ):Prop where
 sm:SmA a
 sets:a.sets.length≤n
 cols:a.cols.length≤n
 one:al a.name→a.name.length≤1
theorem zT:SmX []:=⟨by simp,fun _ h=>(nomatch h),fun _ h=>nomatch h⟩
theorem zV:SmS []:=⟨by simp,fun _ h=>nomatch h⟩
theorem eJ:je hZ:=⟨by decide,by decide,by decide,by decide⟩
theorem gG:SmL li:=⟨by decide,by decide,by decide⟩
theorem px {n:Nat}{k id:Int}{nm:List UInt8}{xs:List Set}{cs:List Col}{c:aa}{l:aj}(hn:nm.length≤1)(hx:SmX9 xs)(hs:SmS cs∧cs.length≤900)(hc:je c)(hl:SmL l)(h9:900≤n):DA n ⟨k,nm,id,xs,cs,c,l⟩:=
 ⟨⟨by show nm.length≤1000;omega,hx.1,hs.1,hc,hl⟩,Nat.le_trans hx.2 h9,Nat.le_trans hs.2 h9,fun _=>hn⟩
theorem x9:SmX9 []:=⟨zT,by simp⟩
theorem s9:SmS []∧([]:List Col).length≤900:=⟨zV,by simp⟩
theorem Hn {s:List Col}(h:ak s):SmS s∧s.length≤900:=⟨h.sm,by have:=h.hi;omega⟩
theorem Fk {r:Rd}{b:ac}{m:Nat}(hf:BIG≤fu)(h:bW r m)(hm:m≤500000)(hb:am b):aG (vx fu r b) (DA 900) (m+8060):=by
 unfold vx
 by_cases h0:b.tabs.length=0
 ·rw [dt (show (List.length b.tabs:Int)=0 by omega),ct]
  exact (yW hf h (by omega)).bind fun s r2 hs hr2=>.pure (px (by decide) x9 hs eJ gG (Nat.le_refl _)) (hr2.mono (by omega))
 rw [df (show ¬ (List.length b.tabs:Int)=0 by omega),cf]
 refine (Fn hf h (by omega) hb.sm).bind fun q4 r1 hq4 hr1=>?_
 simp only
 rw [a8 hf hb.sm.ntab,bs]
 refine (d74 hr1 (by omega)).bind fun q6 r2 _ hr2=>?_
 simp only
 have e1:aG (f4 fu b (q4,r1) (ng b q4.1) (q6,r2)) (DA 900) (m+8060):=by
  unfold f4
  rw [eI]
  by_cases hk:tabN b q4.1<b.tabs.length
  ·rw [B_t hk,ct,aK hk]
   exact (yX hf hr2 (by omega) hb hk).bind fun xs r3 hx hr3=>.pure (px hq4 hx s9 eJ gG (Nat.le_refl _)) (hr3.mono (by omega))
  ·rw [B_f hk,cf]
   exact (yW hf hr2 (by omega)).bind fun s r3 hs hr3=>.pure (px hq4 x9 hs eJ gG (Nat.le_refl _)) (hr3.mono (by omega))
 have e3:∀ bl,aG (iy fu b (q4,r1) (ng b q4.1) (q6,r2) bl) (DA 900) (m+8060):=fun bl=>by
  unfold iy
  cases bl with
  | false=>exact e1
  | true=>
   rw [ct,eI]
   by_cases hk:tabN b q4.1<b.tabs.length
   ·have g:=hb.tabT hk
    have hhi:=g.rt.okLast.hi
    rw [B_t hk,ct,aK hk,ltR hk,Bool.and_self,ct,tn,aW,ez hf g.rt,bs]
    exact (d70 hf (by omega) g.rt.okLast.sm hr2 (by omega)).bind fun c r3 hc hr3=>.pure (px hq4 x9 s9 hc gG (Nat.le_refl _)) (hr3.mono (by omega))
   ·rw [B_f hk,cf];exact e1
 have e2:∀ bl,aG (iz fu b (q4,r1) (ng b q4.1) (q6,r2) bl) (DA 900) (m+8060):=fun bl=>by
  unfold iz
  cases bl with
  | true=>
   rw [ct,eI]
   by_cases hk:tabN b q4.1<b.tabs.length
   ·rw [B_t hk,ct,aK hk]
    exact (yX hf hr2 (by omega) hb hk).bind fun xs r3 hx hr3=>.pure (px hq4 hx s9 eJ gG (Nat.le_refl _)) (hr3.mono (by omega))
   ·rw [B_f hk,cf];exact e1
  | false=>
   rw [cf]
   cases decide (q6=5) with
   | true=>rw [ct];exact e3 _
   | false=>rw [cf];exact e3 _
 cases decide (q6=0) with
 | true=>
  rw [ct]
  refine (d96 hr2 (by omega) (by decide)).bind fun nm r3 hnm hr3=>?_
  exact (BI hf hr3 (by omega)).bind fun s r4 hs hr4=>.pure (px (rl (by rfl) nm hnm) x9 (Hn hs) eJ gG (Nat.le_refl _)) (hr4.mono (by omega))
 | false=>
  rw [cf]
  cases decide (q6=1) with
  | true=>exact (AV hf hr2 (by omega) hb.g).bind fun l r3 hl hr3=>.pure (px (by decide) x9 s9 eJ hl (Nat.le_refl _)) (hr3.mono (by omega))
  | false=>
   rw [cf]
   cases decide (q6=2) with
   | true=>exact .pure (px hq4 x9 s9 eJ gG (Nat.le_refl _)) (hr2.mono (by omega))
   | false=>
    rw [cf]
    cases decide (q6=3) with
    | true=>rw [ct];exact e2 _
    | false=>rw [cf];exact e2 _
theorem Fl {r:Rd}{a:aQ}{n m:Nat}(h:bW r m)(hm:m≤900000)(ha:DA n a)(hn:n≤990):aG (vy fu r a) (DA (n+1)) (m+2):=by
 have hu:DA (n+1) a:=⟨ha.sm,by have:=ha.sets;omega,by have:=ha.cols;omega,ha.one⟩
 have hs1:=ha.sets
 have hs2:=ha.cols
 unfold vy
 refine (d74 h (by omega)).bind fun q r1 _ hr1=>?_
 simp only
 cases decide (q=0) with
 | true=>exact (d73 hr1 (by omega) (by decide)).bind fun x r2 _ hr2=>.pure ⟨⟨hu.sm.name,hu.sm.sets,hu.sm.cols,hu.sm.ch,hu.sm.link⟩,hu.sets,hu.cols,hu.one⟩ hr2
 | false=>
  rw [cf]
  cases decide (q=1) with
  | true=>
   refine (d96 hr1 (by omega) (by decide)).bind fun x r2 hx hr2=>.pure ⟨⟨sm_short (by rfl) x hx,hu.sm.sets,hu.sm.cols,hu.sm.ch,hu.sm.link⟩,hu.sets,hu.cols,fun hh=>?_⟩ hr2
   have h3:x.length≤3:=hh.2.2
   simp only [List.mem_cons,List.not_mem_nil,or_false] at hx
   rcases hx with rfl|rfl|rfl
   ·exact Nat.zero_le _
   ·exact Nat.le_refl _
   ·exact absurd h3 (by decide)
  | false=>
   rw [cf]
   cases decide (q=2) with
   | true=>exact (d73 hr1 (by omega) (by decide)).bind fun x r2 _ hr2=>.pure ⟨⟨hu.sm.name,hu.sm.sets,hu.sm.cols,hu.sm.ch,hu.sm.link⟩,hu.sets,hu.cols,hu.one⟩ hr2
   | false=>
    rw [cf]
    cases decide (q=3) with
    | true=>
     rw [ct,cap (by simp;omega),ct,cap (by simp;omega),ct]
     have hx:SmX (([]:List Set)++a.sets++[⟨[65],d0_49.val⟩]):=uc (by rw [List.nil_append];exact ha.sm.sets) (by rw [List.nil_append];omega) nul_ok.sm (by decide)
     exact .pure ⟨⟨hu.sm.name,hx,hu.sm.cols,hu.sm.ch,hu.sm.link⟩,by simp;omega,hu.cols,hu.one⟩ (hr1.mono (by omega))
    | false=>
     rw [cf]
     cases decide (q=4) with
     | true=>
      rw [ct,cap (by simp;omega),ct,cap (by simp;omega),ct]
      have hx:SmS (([]:List Col)++a.cols++[⟨[113],d0_52.kind,d0_52.need,d0_52.once,d0_52.def_⟩]):=⟨by simp;omega,fun c hc=>by
       rw [List.nil_append] at hc
       rcases List.mem_append.1 hc with hc|hc
       ·exact ha.sm.cols.all c hc
       ·rw [List.mem_singleton] at hc
        rw [hc]
        exact ⟨by decide,nul_ok.sm⟩⟩
      exact .pure ⟨⟨hu.sm.name,hu.sm.sets,hx,hu.sm.ch,hu.sm.link⟩,hu.sets,by simp;omega,hu.one⟩ (hr1.mono (by omega))
     | false=>
      rw [cf]
      cases decide (q=5) with
      | true=>exact .pure ⟨⟨hu.sm.name,hu.sm.sets,hu.sm.cols,⟨hu.sm.ch.name,show ([113]:List UInt8).length≤1000 by decide,hu.sm.ch.col⟩,hu.sm.link⟩,hu.sets,hu.cols,hu.one⟩ (hr1.mono (by omega))
      | false=>exact .pure hu (hr1.mono (by omega))
theorem x7 {b:ac}(hf:BIG≤fu)(h:SmB b):∃ b',vw fu b=some b'∧am b':=by
 unfold vw
 rw [cP hf h,bs]
 by_cases h1:ah b
 ·rw [B_t h1];exact ⟨_,rfl,h1,h⟩
 ·rw [B_f h1];exact ⟨_,rfl,oS⟩
def DAs (l:List aQ):Prop:=∀ a,a∈l→DA 901 a
theorem DAs.sm {l:List aQ}(h:DAs l):zO l:=fun a ha=>(h a ha).sm
theorem yV {l:List aQ}{a:aQ}(h:DAs l)(ha:DA 901 a):DAs (l++[a]):=fun x hx=>by
 rcases List.mem_append.1 hx with hx|hx
 ·exact h x hx
 ·rw [List.mem_singleton] at hx;rw [hx];exact ha
theorem actBB_good {b:ac}{a:aQ}(h:am b)(ha:SmA a):am (mn gT b a).1:=by
 unfold mn
 rw [if_pos h.ok]
 exact fQ h ha
theorem t1 {m k:Nat}(h:m+k≤400000):m+8060≤900000:=by omega
theorem t2:900≤990:=by omega
theorem t3 {m:Nat}:m+8060+2≤m+8070:=Nat.add_le_add_left (n:=8062) (m:=8070) (by decide) m
theorem t4 {m k:Nat}(h:m+k≤400000):m+8060+2≤100000000:=by omega
theorem t5 {m:Nat}:m+8060+2+1≤m+8070:=Nat.add_le_add_left (n:=8063) (m:=8070) (by decide) m
theorem Fc (hf:BIG≤fu):∀ (j n m:Nat) (l:List aQ) (b:ac) (r:Rd),j<n→l.length+j≤7→bW r m→m+8070*j≤400000→am b→DAs l→aG (cF fu n (j:Int) l b r) (fun l'=>l'.length≤7∧DAs l') (m+8070*j):=by
 intro j
 induction j with
 | zero=>
  intro n m l b r hn hlj hr hm hb hl
  obtain ⟨n,rfl⟩:∃ z,n=z+1:=⟨n-1,by omega⟩
  rw [cF]
  exact .pure ⟨by omega,hl⟩ (hr.mono (by omega))
 | succ j ih=>
  intro n m l b r hn hlj hr hm hb hl
  obtain ⟨n,rfl⟩:∃ z,n=z+1:=⟨n-1,by omega⟩
  rw [cF,dt (show (0:Int) < ((j+1:Nat):Int) by omega),ct]
  refine (Fk hf hr (by omega) hb).bind fun x r1 hx hr1=>?_
  refine (Fl hr1 (t1 hm) hx t2).bind fun y r2 hy hr2=>?_
  simp only
  rw [yd hf hb.sm hy.sm,bs]
  have ej:IntKind.i64.wrap (((j+1:Nat):Int)-1)=(j:Int):=by rw [bk]<;>omega
  have h3:∀ (bl:Bool) (r':Rd),bW r' (m+8070)→aG (iw ((j+1:Nat):Int) l b (y,r2) (mn gT b y) (cF fu n) bl r') (fun l'=>l'.length≤7∧DAs l') (m+8070 * (j+1)):=fun bl r' hr'=>by
   unfold iw kl
   rw [ej]
   cases bl with
   | true=>
    rw [ct,cap (by rw [List.length_singleton];omega),ct]
    exact (ih n (m+8070) _ _ r' (by omega) (by rw [List.length_append,List.length_singleton];omega) hr' (by omega) (actBB_good hb hy.sm) (yV hl hy)).mono (fun _ h=>h) (by omega)
   | false=>exact (ih n (m+8070) _ _ r' (by omega) (by omega) hr' (by omega) hb hl).mono (fun _ h=>h) (by omega)
  cases decide ((mn gT b y).2=0) with
  | true=>exact h3 true _ (hr2.mono t3)
  | false=>
   rw [cf]
   exact (d74 hr2 (t4 hm)).bind fun q r3 _ hr3=>h3 _ _ (hr3.mono t5)
theorem Fj {r:Rd}{b:ac}{m:Nat}(hf:BIG≤fu)(h:bW r m)(hm:m≤300000)(hb:am b):aG (vu fu r b) (fun l=>l.length≤7∧DAs l) (m+57000):=by
 unfold vu
 refine (d74 h (by omega)).bind fun q r1 hq hr1=>?_
 refine (d73 hr1 (by omega) (by simp)).bind fun c r2 hc hr2=>?_
 simp only
 have hq2:=hq.2 (by decide)
 have hw:IntKind.i64.wrap (6+q)=6+q:=bk (by have:=hq.1;omega) (by omega)
 have hcc:0≤c∧c≤7:=by
  have:=hq.1
  rw [hw] at hc
  simp only [List.mem_cons,List.not_mem_nil,or_false] at hc
  omega
 obtain ⟨j,rfl⟩:∃ j:Nat,c=(j:Int):=⟨c.toNat,by omega⟩
 exact (Fc hf j fu (m+2) [] b r2 (by unfold BIG at hf;omega) (by rw [List.length_nil];omega) hr2 (by omega) hb (fun _ h=>nomatch h)).mono (fun _ h=>h) (by omega)
theorem Fm {a:List Int}(hf:BIG≤fu)(ha:∀ b,b∈a→0≤b∧b≤255):∃ b l,vA fu a=some (b,l)∧SS b∧l.length≤7∧DAs l:=by
 obtain ⟨r,e,hr⟩:=d60 (fu:=fu) ha
 obtain ⟨b,r1,e1,hb,hr1⟩:=C9 (fu:=fu) hf hr (by omega)
 obtain ⟨b',e2,hb'⟩:=x7 (fu:=fu) hf hb.1
 obtain ⟨l,r2,e3,hl,-⟩:=Fj (fu:=fu) hf hr1 (by omega) hb'
 unfold vA
 rw [e,bs,e1,bs]
 simp only
 rw [e2,bs,e3]
 exact ⟨b,l,rfl,hb,hl.1,hl.2⟩
theorem Fd {b:ac}{acts:List aQ}{q:ac×Int×Int}(hf:BIG≤fu)(hb:SmB b)(hl:acts.length≤1000)(ha:zO acts):∀ (m n i:Nat) (x:ac),i+m=acts.length→m<n→am x→q=iZ gT b (acts.drop i) x i→bh fu (b,acts) q n (i:Int) x=some true:=by
 intro m
 induction m with
 | zero=>
  intro n i x hi hn hx hq
  obtain ⟨n,rfl⟩:∃ z,n=z+1:=⟨n-1,by omega⟩
  have:i=acts.length:=by omega
  subst this
  rw [List.drop_length,iZ] at hq
  subst hq
  rw [bh,nlt,cf,dt rfl,ct,dt rfl,ct,eC hf hx.sm,bs,ct,dZ hf hx.sm,B_t hx.ok];rfl
 | succ m ih=>
  intro n i x hi hn hx hq
  obtain ⟨n,rfl⟩:∃ z,n=z+1:=⟨n-1,by omega⟩
  have hil:i<acts.length:=by omega
  have hsa:=ha _ (getD_mem (d:=default) hil)
  have e:mn gT x (acts.getD i default)=rb gT x (acts.getD i default):=if_pos hx.ok
  rw [qV hil,iZ] at hq
  rw [bh,ltR hil,ct,ge0,Bool.and_self,ct,tn,si hf hx.sm hsa,bs,e]
  by_cases hz:(rb gT x (acts.getD i default)).2=0
  ·rw [if_pos hz] at hq
   rw [dt hz,Bool.not_true,cf,ba hil (by unfold BIG;omega)]
   exact ih n (i+1) _ (by omega) (by omega) (fQ hx hsa) hq
  ·rw [if_neg hz] at hq
   subst hq
   rw [df hz,Bool.not_false,ct,dt rfl,ct,dt rfl,ct,eC hf hb];rfl
theorem Al (hf:BIG≤fu)(a:List Int)(ha:∀ b,b∈a→0≤b∧b≤255):yf fu a=some true:=by
 unfold yf
 refine wq ?_
 obtain ⟨b,l,e,⟨hb,-⟩,hl,hd⟩:=Fm (fu:=fu) hf ha
 have hs:=hd.sm
 have h7:l.length≤1000:=by omega
 rw [e,bs]
 simp only
 rw [ye hf hb h7 hs,bs,x8 hf hb h7 hs,bs,dt rfl,dt rfl,Bool.not_true,cf,cf,eC hf (y3 hb hs),bs,Bool.not_true]
 unfold iB
 rw [cf,cP hf hb,bs]
 by_cases hok:ah b
 case neg=>
  have e1:jZ gT b l=(nilB,1,0):=if_neg hok
  rw [B_f hok,Bool.not_false,ct,e1,wo,eC hf nu];rfl
 rw [B_t hok,Bool.not_true,cf]
 by_cases h6:6<l.length
 ·have e1:jZ gT b l=(b,4,0):=(if_pos hok).trans (if_pos h6)
  rw [dt (show (6:Int) < (l.length:Int) by omega),ct,e1,eC hf hb];rfl
 ·have e1:jZ gT b l=iZ gT b l b 0:=(if_pos hok).trans (if_neg h6)
  rw [df (show ¬ (6:Int) < (l.length:Int) by omega),cf,e1]
  exact Fd hf hb h7 hs l.length fu 0 b (by omega) (by unfold BIG at hf;omega) ⟨hok,hb⟩ rfl
end Go.Proofs.YtganfdhmkdehlaaGreatDoor
