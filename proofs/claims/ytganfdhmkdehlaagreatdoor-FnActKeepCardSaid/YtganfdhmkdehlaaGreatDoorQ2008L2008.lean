/- Plain laws. -/
import Derived.Test.YtganfdhmkdehlaaGreatDoorQ2008M37
import Derived.Test.YtganfdhmkdehlaaGreatDoorQ2008B21
set_option linter.all false
namespace Go.Proofs.YtganfdhmkdehlaaGreatDoor
open Go Go.HL
variable {fu:Nat}
def ig:aa:=⟨0,[],[],nilCol⟩
def lf:ai:=⟨[],[],[],0⟩
structure SmA (a:aR):Prop where
 name:a.name.length≤1000
 sets:SmX a.sets
 cols:SmS a.cols
 ch:jj a.change
 link:SmL a.link
noncomputable def wN (b:ac) (a:aR):ac×Int:=
 if a.kind=1 then tableBB b a.name a.cols else if a.kind=2 then linkBB b a.link else if a.kind=3 then oM b a.name a.sets
 else if a.kind=4 then oI b a.name a.id a.sets else if a.kind=5 then oN b a.name a.id else d7 b a.name a.change
theorem wH {b:ac}{a:aR}(h:al b)(ha:SmA a):al (wN b a).1:=by
 unfold wN
 split
 ·exact cS h
 split
 ·exact eQ h
 split
 ·exact sH h ha.sets
 split
 ·exact sF h ha.sets
 split
 ·exact sM h
 ·exact oi h ha.ch
section
variable (ok:aR→Prop)
open Classical in
noncomputable def sv (b:ac) (a:aR):ac×Int:=if ok a then wN b a else (b,1)
open Classical in
noncomputable def oo (b:ac) (a:aR):ac×Int:=if ah b then sv ok b a else (nilB,1)
noncomputable def fP (b0:ac):List aR→ac→Nat→ac×Int×Int
 | [],x,n=>(x,0,(n:Int))
 | a::l,x,n=>if (sv ok x a).2=0 then fP b0 l (sv ok x a).1 (n+1) else (b0,(sv ok x a).2,(n:Int))
open Classical in
noncomputable def mj (b:ac) (acts:List aR):ac×Int×Int:=if ah b then (if 6<acts.length then (b,4,0) else fP ok b acts b 0) else (nilB,1,0)
end
section
variable {ok:aR→Prop}{b0 x:ac}{l l':List aR}{n:Nat}
theorem ji {b:ac}{a:aR}(h:al b)(ha:SmA a):al (sv ok b a).1:=by
 unfold sv
 split
 ·exact wH h ha
 ·exact h
theorem tk (h0:al b0)(hx:al x)(hl:∀ a,a∈l→SmA a):al (fP ok b0 l x n).1:=by
 induction l generalizing x n with
 | nil=>exact hx
 | cons a l ih=>
  rw [fP]
  split
  ·exact ih (ji hx (hl a List.mem_cons_self)) fun y hy=>hl y (List.mem_cons_of_mem _ hy)
  ·exact h0
theorem doAll_two:((fP ok b0 l x n).2.1=0∧(fP ok b0 l x n).2.2=((n+l.length:Nat):Int))∨((fP ok b0 l x n).2.1≠0∧(fP ok b0 l x n).1=b0∧(n:Int)≤(fP ok b0 l x n).2.2∧(fP ok b0 l x n).2.2 < ((n+l.length:Nat):Int)):=by
 induction l generalizing x n with
 | nil=>exact .inl ⟨rfl,rfl⟩
 | cons a l ih=>
  rw [fP]
  split
  ·rcases ih (x:=(sv ok x a).1) (n:=n+1) with ⟨h1,h2⟩|⟨h1,h2,h3,h4⟩
   ·exact .inl ⟨h1,by rw [h2,List.length_cons];omega⟩
   ·exact .inr ⟨h1,h2,by omega,by rw [List.length_cons];omega⟩
  ·rename_i h
   exact .inr ⟨h,rfl,Int.le_refl _,by show (n:Int) < _;rw [List.length_cons];omega⟩
end
def fV (xs:List Set):Prop:=xs.length≤5∧∀ x,x∈xs→am x.name∧ValOK x.val
def ChD (c:aa):Prop:=
 (c.kind=1∧dF c.col∧c.name=[]∧c.new=[])∨(c.kind=2∧am c.name∧c.new=[]∧c.col=nilCol)∨(c.kind=3∧am c.name∧am c.new∧c.col=nilCol)
 ∨(c.kind=4∧am c.name∧c.new=[]∧(c.col = { nilCol with kind:=1 }∨c.col = { nilCol with kind:=2 }))
def ChP (c:aa):Prop:=
 Named c∧(c.kind=1→dF c.col)∧(c.kind=2→am c.name)∧(c.kind=3→am c.name∧am c.new)∧(c.kind≠1→c.kind≠2→c.kind≠3→am c.name∧(c.col.kind=1∨c.col.kind=2))
theorem wt {c:aa}:ChP c↔ChD c:=by
 constructor
 ·rintro ⟨h | h | h | h,h1,h2,h3,h4⟩
  ·exact .inl ⟨h.1,h1 h.1,h.2.1,h.2.2⟩
  ·exact .inr (.inl ⟨h.1,h2 h.1,h.2.1,h.2.2⟩)
  ·exact .inr (.inr (.inl ⟨h.1,(h3 h.1).1,(h3 h.1).2,h.2⟩))
  ·have h5:=h4 (by omega) (by omega) (by omega)
   refine .inr (.inr (.inr ⟨h.1,h5.1,h.2.1,?_⟩))
   rcases h5.2 with e|e
   ·left;rw [h.2.2,e]
   ·right;rw [h.2.2,e]
 ·rintro (h | h | h | h)
  ·exact ⟨.inl ⟨h.1,h.2.2.1,h.2.2.2⟩,fun _=>h.2.1,fun e=>by omega,fun e=>by omega,fun e=>by omega⟩
  ·exact ⟨.inr (.inl ⟨h.1,h.2.2.1,h.2.2.2⟩),fun e=>by omega,fun _=>h.2.1,fun e=>by omega,fun _ e=>by omega⟩
  ·exact ⟨.inr (.inr (.inl ⟨h.1,h.2.2.2⟩)),fun e=>by omega,fun e=>by omega,fun _=>⟨h.2.1,h.2.2.1⟩,fun _ _ e=>by omega⟩
  ·refine ⟨.inr (.inr (.inr ⟨h.1,h.2.2.1,?_⟩)),fun e=>by omega,fun e=>by omega,fun e=>by omega,fun _ _ _=>⟨h.2.1,?_⟩⟩
   ·rcases h.2.2.2 with e|e<;>rw [e]
   ·rcases h.2.2.2 with e|e<;>rw [e]
    ·exact .inl rfl
    ·exact .inr rfl
def LinkD (l:ai):Prop:=am l.from_∧am l.col∧am l.to∧1≤l.how∧l.how≤3
def qY (cs:List Col):Prop:=1≤cs.length∧cs.length≤5∧∀ c,c∈cs→dF c
structure l7 (a:aR):Prop where
 link:a.kind≠2→a.link=lf
 noname:a.kind=2→a.name=[]
 change:a.kind≠6→a.change=ig
 cols:a.kind≠1→a.cols=[]
 sets:a.kind≠3→a.kind≠4→a.sets=[]
 id0:a.kind≠4→a.kind≠5→a.id=0
 name:a.kind≠2→am a.name
 lo:0≤a.id
 hi:a.id≤60
 kind:(a.kind=1∧qY a.cols)∨(a.kind=2∧LinkD a.link)∨((a.kind=3∨a.kind=4)∧fV a.sets)∨a.kind=5∨(a.kind=6∧ChD a.change)
def Gv (a:aR):Prop:=
 (a.kind=1∧a.id=0∧a.sets=[]∧a.change=ig∧a.link=lf∧am a.name∧qY a.cols)
 ∨(a.kind=2∧a.id=0∧a.sets=[]∧a.cols=[]∧a.change=ig∧a.name=[]∧LinkD a.link)
 ∨(a.kind=3∧a.id=0∧a.cols=[]∧a.change=ig∧a.link=lf∧am a.name∧fV a.sets)
 ∨(a.kind=4∧a.cols=[]∧a.change=ig∧a.link=lf∧am a.name∧fV a.sets∧0≤a.id∧a.id≤60)
 ∨(a.kind=5∧a.sets=[]∧a.cols=[]∧a.change=ig∧a.link=lf∧am a.name∧0≤a.id∧a.id≤60)
 ∨(a.kind=6∧a.id=0∧a.sets=[]∧a.cols=[]∧a.link=lf∧am a.name∧ChP a.change)
theorem yW {a:aR}:Gv a↔l7 a:=by
 constructor
 ·rintro (h | h | h | h | h | h)
  ·obtain ⟨k,h1,h2,h3,h4,h5,h6⟩:=h
   exact ⟨fun _=>h4,fun e=>by omega,fun _=>h3,fun e=>absurd k e,fun _ _=>h2,fun _ _=>h1,fun _=>h5,by omega,by omega,.inl ⟨k,h6⟩⟩
  ·obtain ⟨k,h1,h2,h3,h4,h5,h6⟩:=h
   exact ⟨fun e=>absurd k e,fun _=>h5,fun _=>h4,fun _=>h3,fun _ _=>h2,fun _ _=>h1,fun e=>absurd k e,by omega,by omega,.inr (.inl ⟨k,h6⟩)⟩
  ·obtain ⟨k,h1,h2,h3,h4,h5,h6⟩:=h
   exact ⟨fun _=>h4,fun e=>by omega,fun _=>h3,fun _=>h2,fun e=>absurd k e,fun _ _=>h1,fun _=>h5,by omega,by omega,.inr (.inr (.inl ⟨.inl k,h6⟩))⟩
  ·obtain ⟨k,h1,h2,h3,h4,h5,h6,h7⟩:=h
   exact ⟨fun _=>h3,fun e=>by omega,fun _=>h2,fun _=>h1,fun _ e=>absurd k e,fun e=>absurd k e,fun _=>h4,h6,h7,.inr (.inr (.inl ⟨.inr k,h5⟩))⟩
  ·obtain ⟨k,h1,h2,h3,h4,h5,h6,h7⟩:=h
   exact ⟨fun _=>h4,fun e=>by omega,fun _=>h3,fun _=>h2,fun _ _=>h1,fun _ e=>absurd k e,fun _=>h5,h6,h7,.inr (.inr (.inr (.inl k)))⟩
  ·obtain ⟨k,h1,h2,h3,h4,h5,h6⟩:=h
   exact ⟨fun _=>h4,fun e=>by omega,fun e=>absurd k e,fun _=>h3,fun _ _=>h2,fun _ _=>h1,fun _=>h5,by omega,by omega,.inr (.inr (.inr (.inr ⟨k,wt.1 h6⟩)))⟩
 ·intro h
  rcases h.kind with ⟨k,g⟩|⟨k,g⟩|⟨k|k,g⟩|k|⟨k,g⟩
  ·exact .inl ⟨k,h.id0 (by omega) (by omega),h.sets (by omega) (by omega),h.change (by omega),h.link (by omega),h.name (by omega),g⟩
  ·exact .inr (.inl ⟨k,h.id0 (by omega) (by omega),h.sets (by omega) (by omega),h.cols (by omega),h.change (by omega),h.noname k,g⟩)
  ·exact .inr (.inr (.inl ⟨k,h.id0 (by omega) (by omega),h.cols (by omega),h.change (by omega),h.link (by omega),h.name (by omega),g⟩))
  ·exact .inr (.inr (.inr (.inl ⟨k,h.cols (by omega),h.change (by omega),h.link (by omega),h.name (by omega),g,h.lo,h.hi⟩)))
  ·exact .inr (.inr (.inr (.inr (.inl ⟨k,h.sets (by omega) (by omega),h.cols (by omega),h.change (by omega),h.link (by omega),h.name (by omega),h.lo,h.hi⟩))))
  ·exact .inr (.inr (.inr (.inr (.inr ⟨k,h.id0 (by omega) (by omega),h.sets (by omega) (by omega),h.cols (by omega),h.link (by omega),h.name (by omega),wt.2 g⟩))))
theorem DK {b c:Bool}:cond b (some c) (some false)=some (b&&c):=by cases b<;>rfl
theorem orS {b c:Bool}:cond b (some true) (some c)=some (b || c):=by cases b<;>rfl
theorem Hi {b c:Bool}:cond (!b) (some false) (some c)=some (b&&c):=by cases b<;>rfl
theorem AQ {p q r:Prop}:cond (B p) (some (B q)) (some (B r))=some (B ((p∧q)∨(¬ p∧r))):=by
 rw [zJ,cb,cb,l6]
 cases B p<;>simp
theorem HD {α:Type}{l:List α}:((l.length:Int)=0)=(l=[]):=propext ⟨fun h=>List.length_eq_zero_iff.1 (by omega),fun h=>by subst h;rfl⟩
theorem GN {α:Type}{l:List α}:(0 < (l.length:Int))=(l≠[]):=propext ⟨fun h e=>by subst e;simp at h,fun h=>by have:=List.length_pos_iff.2 h;omega⟩
theorem C0:(⟨d0_56.kind,d0_56.name,d0_56.new,d0_56.col⟩:aa)=ig:=rfl
theorem Cc:(⟨d0_1044.from_,d0_1044.col,d0_1044.to,d0_1044.how⟩:ai)=lf:=rfl
theorem Fe:(⟨d0_52.name,d0_52.kind,d0_52.need,d0_52.once,d0_52.def_⟩:Col)=nilCol:=rfl
theorem cl1:(⟨d0_52.name,1,d0_52.need,d0_52.once,d0_52.def_⟩:Col) = { nilCol with kind:=1 }:=rfl
theorem cl2:(⟨d0_52.name,2,d0_52.need,d0_52.once,d0_52.def_⟩:Col) = { nilCol with kind:=2 }:=rfl
theorem su {α:Type}[Inhabited α]{l:List α}{p:α→Prop}:(∀ k,k<l.length→p (l.getD k default))↔∀ x,x∈l→p x:=
 ⟨fun h x hx=>by
  obtain ⟨k,hk,rfl⟩:=List.getElem_of_mem hx
  have:=h k hk
  rwa [ae hk] at this,fun h k hk=>h _ (getD_mem hk)⟩
theorem xR {s:List Col}(hf:BIG≤fu)(hs:SmS s):vg fu s=some (B (qY s)):=by
 have hl:=hs.len
 unfold vg qY
 have:=eP (L:=f2116_l1 fu s) (N:=s.length) (fun k=>dF (s.getD k default)) (1≤s.length∧s.length≤5) (by unfold BIG;omega) (fun n hq=>by
  rw [f2116_l1,nlt,cf,dt (show (1:Int)≤(s.length:Int) by omega),ct,dt (show (s.length:Int)≤5 by omega)];rfl) (fun n hq=>by
  rw [f2116_l1,nlt,cf]
  by_cases h1:(1:Int)≤(s.length:Int)
  ·rw [dt h1,ct,df (show ¬ (s.length:Int)≤5 by omega)];rfl
  ·rw [df h1,cf];rfl) (fun n k hk hp=>by
  rw [f2116_l1,ltR hk,ct,ge0,Bool.and_self,ct,tn,lL hf (hs.get hk),B_t hp];rfl) (fun n k hk hp=>by
  rw [f2116_l1,ltR hk,ct,ge0,Bool.and_self,ct,tn,lL hf (hs.get hk),B_f hp];rfl) (fu:=fu) (by unfold BIG at hf;omega)
 rw [this]
 exact congrArg some (ak ⟨fun h=>⟨h.2.1,h.2.2,su.1 h.1⟩,fun h=>⟨su.2 h.2.2,h.1,h.2.1⟩⟩)
theorem xQ {l:ai}(hf:BIG≤fu)(h:SmL l):vf fu l=some (B (LinkD l)):=by
 unfold vf LinkD eW
 rw [d9 hf h.src,d9 hf h.col,d9 hf h.dst]
 simp only [bs,DK,bN,← cb]
theorem SmX.gn {xs:List Set}(h:SmX xs){k:Nat}(hk:k<xs.length):(xs.getD k default).name.length≤1000:=h.nm _ (getD_mem hk)
theorem xP {xs:List Set}(hf:BIG≤fu)(h:SmX xs):ve fu xs=some (B (fV xs)):=by
 have hl:=h.len
 unfold ve fV
 have step:∀ n (k:Nat),k<xs.length→ck fu xs (n+1) (k:Int)=cond (B (am (xs.getD k default).name∧ValOK (xs.getD k default).val)) (ck fu xs n (IntKind.i64.wrap ((k:Int)+1))) (some false):=fun n k hk=>by
  rw [ck,ltR hk,ct,ge0,Bool.and_self,ct,tn,d9 hf (h.gn hk),bs,jA hf (h.get hk),bs,cb]
  unfold kg
  cases B (am (xs.getD k default).name)<;>cases B (ValOK (xs.getD k default).val)<;>rfl
 have:=eP (L:=ck fu xs) (N:=xs.length) (fun k=>am (xs.getD k default).name∧ValOK (xs.getD k default).val) (xs.length≤5) (by unfold BIG;omega) (fun n hq=>by
  rw [ck,nlt,cf,dt (show (xs.length:Int)≤5 by omega)]) (fun n hq=>by
  rw [ck,nlt,cf,df (show ¬ (xs.length:Int)≤5 by omega)]) (fun n k hk hp=>by rw [step n k hk,B_t hp];rfl) (fun n k hk hp=>by rw [step n k hk,B_f hp];rfl) (fu:=fu) (by unfold BIG at hf;omega)
 rw [this]
 exact congrArg some (ak ⟨fun hh=>⟨hh.2,(su (p:=fun x:Set=>am x.name∧ValOK x.val)).1 hh.1⟩,fun hh=>⟨(su (p:=fun x:Set=>am x.name∧ValOK x.val)).2 hh.2,hh.1⟩⟩)
theorem xO {c:aa}(hf:BIG≤fu)(h:jj c):vd fu c=some (B (ChD c)):=by
 unfold vd iz iy ix f4
 rw [Fe,cl1,cl2,lL hf h.col,d9 hf h.name,d9 hf h.new]
 simp only [bs,DK,orS,bN,← cb,← zJ]
 simp only [AQ]
 refine congrArg some (ak ?_)
 unfold ChD
 constructor
 ·rintro (⟨k,hh⟩ | ⟨k1,⟨k,hh⟩ | ⟨k2,⟨k,hh⟩ | ⟨k3,⟨k,hh⟩⟩⟩⟩)
  ·exact .inl ⟨k,hh⟩
  ·exact .inr (.inl ⟨k,hh⟩)
  ·exact .inr (.inr (.inl ⟨k,hh⟩))
  ·exact .inr (.inr (.inr ⟨k,hh⟩))
 ·rintro (⟨k,hh⟩ | ⟨k,hh⟩ | ⟨k,hh⟩ | ⟨k,hh⟩)
  ·exact .inl ⟨k,hh⟩
  ·exact .inr ⟨by omega,.inl ⟨k,hh⟩⟩
  ·exact .inr ⟨by omega,.inr ⟨by omega,.inl ⟨k,hh⟩⟩⟩
  ·exact .inr ⟨by omega,.inr ⟨by omega,.inr ⟨by omega,k,hh⟩⟩⟩
def y0 (a:aR):Prop:=
 ((a.kind≠2→a.link=lf)∧(a.kind=2→a.name=[]))∧((a.kind≠6→a.change=ig)∧(a.kind≠1→a.cols=[]))∧(a.kind≠3→a.kind≠4→a.sets=[])∧(a.kind≠4→a.kind≠5→a.id=0)
theorem xS {a:aR}:vh fu a=some (B (y0 a)):=by
 unfold vh
 rw [Cc]
 have e3:∀ i,f5 a i=some (!i&&B (a.kind≠4→a.kind≠5→a.id=0)):=fun i=>by
  unfold f5 iA
  simp only [bN,qZ,ne_eq,l6]
  cases i<;>cases B (a.kind=4)<;>cases B (a.kind=5)<;>simp
 have e2:∀ i,dO a i=some (!i&&(B (a.kind≠3→a.kind≠4→a.sets=[])&&B (a.kind≠4→a.kind≠5→a.id=0))):=fun i=>by
  unfold dO
  simp only [e3,GN,bN]
  generalize B (a.kind≠4→a.kind≠5→a.id=0)=z
  simp only [bN,qZ,ne_eq,l6]
  cases i<;>cases B (a.kind=3)<;>cases B (a.kind=4)<;>cases B (a.sets=[])<;>simp
 have e1:∀ i,dP a i=some (!i&&((B (a.kind≠6→a.change=ig)&&B (a.kind≠1→a.cols=[]))&&(B (a.kind≠3→a.kind≠4→a.sets=[])&&B (a.kind≠4→a.kind≠5→a.id=0)))):=fun i=>by
  unfold dP
  rw [C0]
  simp only [e2,GN,bN]
  generalize (B (a.kind≠3→a.kind≠4→a.sets=[])&&B (a.kind≠4→a.kind≠5→a.id=0))=z
  simp only [bN,qZ,ne_eq,l6]
  cases i<;>cases B (a.kind=6)<;>cases B (a.change=ig)<;>cases B (a.kind=1)<;>cases B (a.cols=[])<;>simp
 simp only [e1]
 unfold y0
 rw [cb,cb (p:=(a.kind≠6→a.change=ig)∧(a.kind≠1→a.cols=[])),cb (p:=a.kind≠6→a.change=ig),cb (p:=a.kind≠3→a.kind≠4→a.sets=[]),cb (p:=a.kind≠2→a.link=lf)]
 generalize ((B (a.kind≠6→a.change=ig)&&B (a.kind≠1→a.cols=[]))&&(B (a.kind≠3→a.kind≠4→a.sets=[])&&B (a.kind≠4→a.kind≠5→a.id=0)))=z
 simp only [bN,qZ,ne_eq,l6]
 cases B (a.kind=2)<;>cases B (a.link=lf)<;>cases B (a.name=[])<;>simp
def y2 (a:aR):Prop:=(a.kind=1∧qY a.cols)∨(a.kind=2∧LinkD a.link)∨((a.kind=3∨a.kind=4)∧fV a.sets)∨a.kind=5∨(a.kind=6∧ChD a.change)
theorem rY {a:aR}(hf:BIG≤fu)(h:SmA a):s6 fu a=some (B (l7 a)):=by
 have e2:∀ i,iC fu a i=cond i (some (B (fV a.sets))) (some (B (a.kind=5∨(a.kind=6∧ChD a.change)))):=fun i=>by
  unfold iC
  rw [xP hf h.sets,xO hf h.ch]
  simp only [bs,bN]
  rw [zJ,cb]
  cases i<;>cases B (a.kind=5)<;>cases B (a.kind=6)<;>cases B (ChD a.change)<;>rfl
 have e1:∀ i,dk fu a i=some (!i&&B (y2 a)):=fun i=>by
  unfold dk y2
  rw [xR hf h.cols,xQ hf h.link]
  simp only [bs,e2,bN,zJ,cb]
  by_cases k1:a.kind=1
  ·rw [B_t k1,B_f (p:=a.kind=2) (by omega),B_f (p:=a.kind=3) (by omega),B_f (p:=a.kind=4) (by omega),B_f (p:=a.kind=5) (by omega),B_f (p:=a.kind=6) (by omega)]
   cases i<;>cases B (qY a.cols)<;>rfl
  rw [B_f k1]
  by_cases k2:a.kind=2
  ·rw [B_t k2,B_f (p:=a.kind=3) (by omega),B_f (p:=a.kind=4) (by omega),B_f (p:=a.kind=5) (by omega),B_f (p:=a.kind=6) (by omega)]
   cases i<;>cases B (LinkD a.link)<;>rfl
  rw [B_f k2]
  by_cases k3:a.kind=3
  ·rw [B_t k3,B_f (p:=a.kind=4) (by omega),B_f (p:=a.kind=5) (by omega),B_f (p:=a.kind=6) (by omega)]
   cases i<;>cases B (fV a.sets)<;>rfl
  rw [B_f k3]
  by_cases k4:a.kind=4
  ·rw [B_t k4,B_f (p:=a.kind=5) (by omega),B_f (p:=a.kind=6) (by omega)]
   cases i<;>cases B (fV a.sets)<;>rfl
  rw [B_f k4]
  cases i<;>cases B (a.kind=5)<;>cases B (a.kind=6)<;>cases B (ChD a.change)<;>rfl
 unfold s6
 rw [xS,bs,d9 hf h.name,bs]
 simp only [e1]
 have:B (l7 a)=(B (y0 a)&&(B (a.kind≠2→am a.name)&&((!B (a.id<0))&&((!B (60<a.id))&&B (y2 a))))):=by
  rw [← l6,← l6,← cb,← cb,← cb,← cb]
  refine ak ⟨fun g=>⟨⟨⟨g.link,g.noname⟩,⟨g.change,g.cols⟩,g.sets,g.id0⟩,g.name,by have:=g.lo;omega,by have:=g.hi;omega,g.kind⟩,?_⟩
  rintro ⟨⟨⟨g1,g2⟩,⟨g3,g4⟩,g5,g6⟩,g7,g8,g9,g10⟩
  exact ⟨g1,g2,g3,g4,g5,g6,g7,by omega,by omega,g10⟩
 rw [this,qZ]
 simp only [bN,ne_eq,l6]
 cases B (y0 a)<;>cases B (a.kind=2)<;>cases B (am a.name)<;>cases B (a.id<0)<;>cases B (60<a.id)<;>cases B (y2 a)<;>rfl
theorem xV {s:List Col}(hf:BIG≤fu)(hs:SmS s):vj fu s (fun x0=>pg fu x0)=some (!B (∀ c,c∈s→dF c)):=by
 have hl:=hs.len
 have hx:∀ k,k<s.length→pg fu (s.getD k default)=some (!B (dF (s.getD k default))):=fun k hk=>by
  unfold pg
  rw [og hf (hs.get hk)];rfl
 have:=ll (L:=eo s (fun x0=>pg fu x0)) s (fun c=>!B (dF c)) (by unfold BIG;omega) (fun n=>by
  rw [eo,nlt,cf]) (fun n k hk hp=>by
  rw [eo,ltR hk,ct,ge0,Bool.and_self,ct,tn,hx k hk,bs,ae hk,hp,ct]) (fun n k hk hp=>by
  rw [eo,ltR hk,ct,ge0,Bool.and_self,ct,tn,hx k hk,bs,ae hk,hp,cf]) (fu:=fu) (by unfold BIG at hf;omega)
 unfold vj Bw
 rw [this,bs]
 have e:decide ((0:Int)≤(if s.findIdx (fun c=>!B (dF c))<s.length then (s.findIdx (fun c=>!B (dF c)):Int) else -1)) = !B (∀ c,c∈s→dF c):=by
  by_cases h:∀ c,c∈s→dF c
  ·rw [B_t h,if_neg fun hh=>?_]
   ·rfl
   ·obtain ⟨x,h1,h2⟩:=List.findIdx_lt_length.1 hh
    rw [B_t (h x h1)] at h2;cases h2
  ·rw [B_f h,if_pos (List.findIdx_lt_length.2 ?_)]
   ·simp
   ·refine Classical.byContradiction fun hh=>h fun c hc=>Classical.byContradiction fun hn=>hh ⟨c,hc,by rw [B_f hn];rfl⟩
 rw [e]
theorem xL {x:Set}(hf:BIG≤fu)(h1:x.name.length≤1000)(h2:SmV x.val):pf fu x=some (!B (am x.name∧ValOK x.val)):=by
 unfold pf kf
 rw [ef hf h1,bs,lI hf h2,bs,cb]
 cases B (am x.name)<;>cases B (ValOK x.val)<;>rfl
theorem xU {xs:List Set}(hf:BIG≤fu)(hs:SmX xs):s0 fu xs=some (B (fV xs)):=by
 have hl:=hs.len
 have hx:∀ k,k<xs.length→pf fu (xs.getD k default)=some (!B (am (xs.getD k default).name∧ValOK (xs.getD k default).val)):=fun k hk=>xL hf (hs.gn hk) (hs.get hk)
 have:=ll (L:=eU xs (fun x0=>pf fu x0)) xs (fun x=>!B (am x.name∧ValOK x.val)) (by unfold BIG;omega) (fun n=>by
  rw [eU,nlt,cf]) (fun n k hk hp=>by
  rw [eU,ltR hk,ct,ge0,Bool.and_self,ct,tn,hx k hk,bs,ae hk,hp,ct]) (fun n k hk hp=>by
  rw [eU,ltR hk,ct,ge0,Bool.and_self,ct,tn,hx k hk,bs,ae hk,hp,cf]) (fu:=fu) (by unfold BIG at hf;omega)
 unfold s0 kj xM xK
 rw [this,bs]
 have e:decide ((0:Int)≤(if xs.findIdx (fun x=>!B (am x.name∧ValOK x.val))<xs.length then (xs.findIdx (fun x=>!B (am x.name∧ValOK x.val)):Int) else -1)) = !B (∀ x,x∈xs→am x.name∧ValOK x.val):=by
  by_cases h:∀ x,x∈xs→am x.name∧ValOK x.val
  ·rw [B_t h,if_neg fun hh=>?_]
   ·rfl
   ·obtain ⟨x,h1,h2⟩:=List.findIdx_lt_length.1 hh
    rw [B_t (h x h1)] at h2;cases h2
  ·rw [B_f h,if_pos (List.findIdx_lt_length.2 ?_)]
   ·simp
   ·refine Classical.byContradiction fun hh=>h fun c hc=>Classical.byContradiction fun hn=>hh ⟨c,hc,by rw [B_f hn];rfl⟩
 rw [e,bs,Bool.not_not]
 unfold fV
 rw [cb,bN,ak (show (xs.length:Int)≤5↔xs.length≤5 by omega)]
 cases B (xs.length≤5)<;>rfl
theorem xT {c:aa}(hf:BIG≤fu)(h:jj c):vi fu c=some (B (ChP c)):=by
 unfold vi ki kh
 rw [vI,og hf h.col,ef hf h.name,ef hf h.new,jO,ak (show (1≤c.col.kind∧c.col.kind≤2)↔(c.col.kind=1∨c.col.kind=2) by omega)]
 simp only [bs,DK,bN,← cb,AQ]
 rw [Hi,← cb]
 refine congrArg some (ak ?_)
 unfold ChP
 by_cases k1:c.kind=1
 ·simp [k1]
 by_cases k2:c.kind=2
 ·simp [k2]
 by_cases k3:c.kind=3
 ·simp [k3]
 simp [k1,k2,k3]
theorem xX {a:aR}(hf:BIG≤fu)(h:SmA a):vn fu a=some (B (Gv a)):=by
 unfold vn dl cm dT dS dR dQ
 rw [C0,Cc,ef hf h.name,ef hf h.link.src,ef hf h.link.col,ef hf h.link.dst,xV hf h.cols,xU hf h.sets,xT hf h.ch]
 simp only [jO,bs,Bool.not_not,DK,bN,HD,← cb,AQ]
 refine congrArg some (ak ?_)
 have hc:((1:Int)≤(a.cols.length:Int)∧(a.cols.length:Int)≤5)↔(1≤a.cols.length∧a.cols.length≤5):=by omega
 unfold Gv qY LinkD
 by_cases k1:a.kind=1
 ·simp [k1];grind
 by_cases k2:a.kind=2
 ·simp [k2]
 by_cases k3:a.kind=3
 ·simp [k3]
 by_cases k4:a.kind=4
 ·simp [k4]
 by_cases k5:a.kind=5
 ·simp [k5]
 by_cases k6:a.kind=6
 ·simp [k6]
 simp [k1,k2,k3,k4,k5,k6]
theorem rX {b:ac}{a:aR}(hf:BIG≤fu)(h:SmB b)(ha:SmA a):s5 fu b a=some (wN b a):=by
 unfold s5 wN
 rw [jc hf h ha.name ha.cols,kN hf h,yD hf h ha.sets,yF hf h ha.sets,yJ hf h,yH hf h ha.ch]
 simp only [bs]
 by_cases k1:a.kind=1
 ·rw [dt k1,if_pos k1];rfl
 rw [df k1,if_neg k1,cf]
 by_cases k2:a.kind=2
 ·rw [dt k2,if_pos k2];rfl
 rw [df k2,if_neg k2,cf]
 by_cases k3:a.kind=3
 ·rw [dt k3,if_pos k3];rfl
 rw [df k3,if_neg k3,cf]
 by_cases k4:a.kind=4
 ·rw [dt k4,if_pos k4];rfl
 rw [df k4,if_neg k4,cf]
 by_cases k5:a.kind=5
 ·rw [dt k5,if_pos k5];rfl
 rw [df k5,if_neg k5,cf]
theorem x5 {b:ac}{a:aR}(hf:BIG≤fu)(h:SmB b)(ha:SmA a):vw fu b a=some (oo l7 b a):=by
 unfold vw oo sv
 rw [cQ hf h,bs,rY hf ha,bs,aZ hf h,bs,rX hf h ha,bs]
 by_cases h1:ah b
 case neg=>rw [B_f h1,if_neg h1];rfl
 rw [B_t h1,if_pos h1]
 by_cases h2:l7 a
 ·rw [B_t h2,if_pos h2];rfl
 ·rw [B_f h2,if_neg h2];rfl
theorem x6 {b:ac}{a:aR}(hf:BIG≤fu)(h:SmB b)(ha:SmA a):vx fu b a=some (oo l7 b a):=by
 unfold vx oo sv
 rw [d5 hf h,bs,xX hf ha,ak yW,bs,bV hf h,bs,yN hf h ha.name ha.cols,yM hf h,yE hf h ha.sets,yG hf h ha.sets,yK hf h,yI hf h ha.ch]
 by_cases h1:ah b
 case neg=>rw [B_f h1,if_neg h1];rfl
 rw [B_t h1,if_pos h1]
 by_cases h2:l7 a
 case neg=>rw [B_f h2,if_neg h2];rfl
 rw [B_t h2,if_pos h2]
 simp only [bs,Bool.not_true,cf]
 unfold wN
 by_cases k1:a.kind=1
 ·rw [dt k1,if_pos k1];rfl
 rw [df k1,if_neg k1,cf]
 by_cases k2:a.kind=2
 ·rw [dt k2,if_pos k2];rfl
 rw [df k2,if_neg k2,cf]
 by_cases k3:a.kind=3
 ·rw [dt k3,if_pos k3];rfl
 rw [df k3,if_neg k3,cf]
 by_cases k4:a.kind=4
 ·rw [dt k4,if_pos k4];rfl
 rw [df k4,if_neg k4,cf]
 by_cases k5:a.kind=5
 ·rw [dt k5,if_pos k5];rfl
 rw [df k5,if_neg k5,cf]
theorem xN {b:ac}{a:aR}(hf:BIG≤fu)(h:al b)(ha:SmA a):vc fu b a=some (sv l7 b a):=by
 unfold vc sv
 rw [rY hf ha,bs,n7 hf h ha.sets,n8 hf h ha.sets,ob hf h,oa hf h ha.ch,rX hf h.sm ha]
 by_cases h2:l7 a
 case neg=>rw [B_f h2,if_neg h2];rfl
 rw [B_t h2,if_pos h2]
 have e3:oM b a.name a.sets=xm b a.name a.sets:=if_pos h.ok
 have e4:oI b a.name a.id a.sets=xd b a.name a.id a.sets:=if_pos h.ok
 have e5:oN b a.name a.id=xq b a.name a.id:=if_pos h.ok
 have e6:d7 b a.name a.change=fg b a.name a.change:=if_pos h.ok
 simp only [bs,Bool.not_true,cf]
 by_cases k3:a.kind=3
 ·rw [dt k3,ct,wN,if_neg (by omega),if_neg (by omega),if_pos k3,e3]
 rw [df k3,cf]
 by_cases k4:a.kind=4
 ·rw [dt k4,ct,wN,if_neg (by omega),if_neg (by omega),if_neg (by omega),if_pos k4,e4]
 rw [df k4,cf]
 by_cases k5:a.kind=5
 ·rw [dt k5,ct,wN,if_neg (by omega),if_neg (by omega),if_neg (by omega),if_neg (by omega),if_pos k5,e5]
 rw [df k5,cf]
 by_cases k6:a.kind=6
 ·rw [dt k6,ct,wN,if_neg (by omega),if_neg (by omega),if_neg (by omega),if_neg (by omega),if_neg (by omega),e6]
 rw [df k6,cf]
def Bc (l:List aR):Prop:=∀ a,a∈l→SmA a
theorem wl {α:Type}[Inhabited α]{l:List α}{i:Nat}(h:i<l.length):l.drop i=l.getD i default::l.drop (i+1):=by
 rw [ae h];exact List.drop_eq_getElem_cons h
theorem qn {b:ac}{acts:List aR}(hf:BIG≤fu)(hb:SmB b)(hl:acts.length≤1000)(ha:Bc acts):∀ (m n i:Nat) (x:ac),i+m=acts.length→m<n→al x→f6 fu b acts n (i:Int) x=some (fP l7 b (acts.drop i) x i):=by
 intro m
 induction m with
 | zero=>
  intro n i x hi hn hx
  obtain ⟨n,rfl⟩:∃ z,n=z+1:=⟨n-1,by omega⟩
  have:i=acts.length:=by omega
  subst this
  rw [f6,nlt,cf,aZ hf hx.sm,bs,List.drop_length,fP]
 | succ m ih=>
  intro n i x hi hn hx
  obtain ⟨n,rfl⟩:∃ z,n=z+1:=⟨n-1,by omega⟩
  have hil:i<acts.length:=by omega
  have hsa:=ha _ (getD_mem (d:=default) hil)
  rw [f6,ltR hil,ct,aZ hf hx.sm,bs,ge0,Bool.and_self,ct,tn,xN hf hx hsa,bs,wl hil,fP]
  by_cases hz:(sv l7 x (acts.getD i default)).2=0
  ·rw [dt hz,if_pos hz,Bool.not_true,cf,ba hil (by unfold BIG;omega)]
   exact ih n (i+1) _ (by omega) (by omega) (ji hx hsa)
  ·rw [df hz,if_neg hz,Bool.not_false,ct,aZ hf hb];rfl
theorem xW {b:ac}{acts:List aR}(hf:BIG≤fu)(h:al b)(hl:acts.length≤1000)(ha:Bc acts):vk fu b acts=some (mj l7 b acts):=by
 unfold vk mj
 rw [aZ hf h.sm,bs,bs,if_pos h.ok]
 by_cases h6:6<acts.length
 ·rw [dt (show (6:Int) < (acts.length:Int) by omega),if_pos h6];rfl
 ·rw [df (show ¬ (6:Int) < (acts.length:Int) by omega),if_neg h6,cf]
  exact qn hf h.sm hl ha acts.length fu 0 b (by omega) (by unfold BIG at hf;omega) h
theorem x4 {b:ac}{acts:List aR}(hf:BIG≤fu)(h:SmB b)(hl:acts.length≤1000)(ha:Bc acts):vu fu b acts=some (mj l7 b acts):=by
 unfold vu
 rw [cQ hf h,bs]
 by_cases h1:ah b
 ·rw [B_t h1,Bool.not_true,cf,xW hf ⟨h1,h⟩ hl ha];rfl
 ·unfold mj
  rw [B_f h1,if_neg h1];rfl
theorem qo {b:ac}{acts:List aR}(hf:BIG≤fu)(hb:SmB b)(hl:acts.length≤1000)(ha:Bc acts):∀ (m n i:Nat) (x:ac),i+m=acts.length→m<n→al x→f9 fu b acts n (i:Int) x=some (fP l7 b (acts.drop i) x i):=by
 intro m
 induction m with
 | zero=>
  intro n i x hi hn hx
  obtain ⟨n,rfl⟩:∃ z,n=z+1:=⟨n-1,by omega⟩
  have:i=acts.length:=by omega
  subst this
  rw [f9,nlt,cf,List.drop_length,fP]
 | succ m ih=>
  intro n i x hi hn hx
  obtain ⟨n,rfl⟩:∃ z,n=z+1:=⟨n-1,by omega⟩
  have hil:i<acts.length:=by omega
  have hsa:=ha _ (getD_mem (d:=default) hil)
  have e:oo l7 x (acts.getD i default)=sv l7 x (acts.getD i default):=if_pos hx.ok
  rw [f9,ltR hil,ct,ge0,Bool.and_self,ct,tn,x6 hf hx.sm hsa,bs,e,wl hil,fP]
  by_cases hz:(sv l7 x (acts.getD i default)).2=0
  ·rw [dt hz,if_pos hz,Bool.not_true,cf,ba hil (by unfold BIG;omega)]
   exact ih n (i+1) _ (by omega) (by omega) (ji hx hsa)
  ·rw [df hz,if_neg hz,Bool.not_false,ct,bV hf hb];rfl
theorem x7 {b:ac}{acts:List aR}(hf:BIG≤fu)(h:SmB b)(hl:acts.length≤1000)(ha:Bc acts):vy fu b acts=some (mj l7 b acts):=by
 unfold vy
 rw [d5 hf h,bs,bV hf h,bs,bs]
 by_cases h1:ah b
 ·unfold mj
  rw [B_t h1,if_pos h1,Bool.not_true,cf]
  by_cases h6:6<acts.length
  ·rw [dt (show (6:Int) < (acts.length:Int) by omega),if_pos h6];rfl
  ·rw [df (show ¬ (6:Int) < (acts.length:Int) by omega),if_neg h6,cf]
   exact qo hf h hl ha acts.length fu 0 b (by omega) (by unfold BIG at hf;omega) ⟨h1,h⟩
 ·unfold mj
  rw [B_f h1,if_neg h1];rfl
theorem tq {b:ac}{acts:List aR}(h:al b)(ha:Bc acts):al (mj l7 b acts).1:=by
 unfold mj
 rw [if_pos h.ok]
 split
 ·exact h
 ·exact tk h h ha
structure DA (n:Nat) (a:aR):Prop where
 sm:SmA a
 sets:a.sets.length≤n
 cols:a.cols.length≤n
 one:am a.name→a.name.length≤1
theorem zL:SmX []:=⟨by simp,fun _ h=>(nomatch h),fun _ h=>nomatch h⟩
theorem zN:SmS []:=⟨by simp,fun _ h=>nomatch h⟩
theorem eK:jj ig:=⟨by decide,by decide,by decide,by decide⟩
theorem gK:SmL lf:=⟨by decide,by decide,by decide⟩
theorem ps {n:Nat}{k id:Int}{nm:List UInt8}{xs:List Set}{cs:List Col}{c:aa}{l:ai}(hn:nm.length≤1)(hx:SmX9 xs)(hs:SmS cs∧cs.length≤900)(hc:jj c)(hl:SmL l)(h9:900≤n):DA n ⟨k,nm,id,xs,cs,c,l⟩:=
 ⟨⟨by show nm.length≤1000;omega,hx.1,hs.1,hc,hl⟩,Nat.le_trans hx.2 h9,Nat.le_trans hs.2 h9,fun _=>hn⟩
theorem x9:SmX9 []:=⟨zL,by simp⟩
theorem s9:SmS []∧([]:List Col).length≤900:=⟨zN,by simp⟩
theorem Hc {s:List Col}(h:aj s):SmS s∧s.length≤900:=⟨h.sm,by have:=h.hi;omega⟩
theorem E9 {r:Rd}{b:ac}{m:Nat}(hf:BIG≤fu)(h:bX r m)(hm:m≤500000)(hb:al b):aH (vp fu r b) (DA 900) (m+8060):=by
 unfold vp
 by_cases h0:b.tabs.length=0
 ·rw [dt (show (List.length b.tabs:Int)=0 by omega),ct]
  exact (yP hf h (by omega)).bind fun s r2 hs hr2=>.pure (ps (by decide) x9 hs eK gK (Nat.le_refl _)) (hr2.mono (by omega))
 rw [df (show ¬ (List.length b.tabs:Int)=0 by omega),cf]
 refine (Fc hf h (by omega) hb.sm).bind fun q4 r1 hq4 hr1=>?_
 simp only
 rw [a8 hf hb.sm.ntab,bs]
 refine (d74 hr1 (by omega)).bind fun q6 r2 _ hr2=>?_
 simp only
 have e1:aH (f7 fu b (q4,r1) (l9 b q4.1) (q6,r2)) (DA 900) (m+8060):=by
  unfold f7
  rw [eJ]
  by_cases hk:tabN b q4.1<b.tabs.length
  ·rw [B_t hk,ct,aG hk]
   exact (yQ hf hr2 (by omega) hb hk).bind fun xs r3 hx hr3=>.pure (ps hq4 hx s9 eK gK (Nat.le_refl _)) (hr3.mono (by omega))
  ·rw [B_f hk,cf]
   exact (yP hf hr2 (by omega)).bind fun s r3 hs hr3=>.pure (ps hq4 x9 hs eK gK (Nat.le_refl _)) (hr3.mono (by omega))
 have e3:∀ bl,aH (iD fu b (q4,r1) (l9 b q4.1) (q6,r2) bl) (DA 900) (m+8060):=fun bl=>by
  unfold iD
  cases bl with
  | false=>exact e1
  | true=>
   rw [ct,eJ]
   by_cases hk:tabN b q4.1<b.tabs.length
   ·have g:=hb.tabT hk
    have hhi:=g.rt.okLast.hi
    rw [B_t hk,ct,aG hk,ltR hk,Bool.and_self,ct,tn,aP,eB hf g.rt,bs]
    exact (d70 hf (by omega) g.rt.okLast.sm hr2 (by omega)).bind fun c r3 hc hr3=>.pure (ps hq4 x9 s9 hc gK (Nat.le_refl _)) (hr3.mono (by omega))
   ·rw [B_f hk,cf];exact e1
 have e2:∀ bl,aH (iE fu b (q4,r1) (l9 b q4.1) (q6,r2) bl) (DA 900) (m+8060):=fun bl=>by
  unfold iE
  cases bl with
  | true=>
   rw [ct,eJ]
   by_cases hk:tabN b q4.1<b.tabs.length
   ·rw [B_t hk,ct,aG hk]
    exact (yQ hf hr2 (by omega) hb hk).bind fun xs r3 hx hr3=>.pure (ps hq4 hx s9 eK gK (Nat.le_refl _)) (hr3.mono (by omega))
   ·rw [B_f hk,cf];exact e1
  | false=>
   rw [cf]
   cases decide (q6=5) with
   | true=>rw [ct];exact e3 _
   | false=>rw [cf];exact e3 _
 cases decide (q6=0) with
 | true=>
  rw [ct]
  refine (d96 hr2 (by omega) (by decide)).bind fun nm r3 hnm hr3=>?_
  exact (BA hf hr3 (by omega)).bind fun s r4 hs hr4=>.pure (ps (rd (by rfl) nm hnm) x9 (Hc hs) eK gK (Nat.le_refl _)) (hr4.mono (by omega))
 | false=>
  rw [cf]
  cases decide (q6=1) with
  | true=>exact (AN hf hr2 (by omega) hb.g).bind fun l r3 hl hr3=>.pure (ps (by decide) x9 s9 eK hl (Nat.le_refl _)) (hr3.mono (by omega))
  | false=>
   rw [cf]
   cases decide (q6=2) with
   | true=>exact .pure (ps hq4 x9 s9 eK gK (Nat.le_refl _)) (hr2.mono (by omega))
   | false=>
    rw [cf]
    cases decide (q6=3) with
    | true=>rw [ct];exact e2 _
    | false=>rw [cf];exact e2 _
theorem Fa {r:Rd}{a:aR}{n m:Nat}(h:bX r m)(hm:m≤900000)(ha:DA n a)(hn:n≤990):aH (vq fu r a) (DA (n+1)) (m+2):=by
 have hu:DA (n+1) a:=⟨ha.sm,by have:=ha.sets;omega,by have:=ha.cols;omega,ha.one⟩
 have hs1:=ha.sets
 have hs2:=ha.cols
 unfold vq
 refine (d74 h (by omega)).bind fun q r1 _ hr1=>?_
 simp only
 cases decide (q=0) with
 | true=>exact (d73 hr1 (by omega) (by decide)).bind fun x r2 _ hr2=>.pure ⟨⟨hu.sm.name,hu.sm.sets,hu.sm.cols,hu.sm.ch,hu.sm.link⟩,hu.sets,hu.cols,hu.one⟩ hr2
 | false=>
  rw [cf]
  cases decide (q=1) with
  | true=>
   refine (d96 hr1 (by omega) (by decide)).bind fun x r2 hx hr2=>.pure ⟨⟨sm_short (by rfl) x hx,hu.sm.sets,hu.sm.cols,hu.sm.ch,hu.sm.link⟩,hu.sets,hu.cols,fun hh=>?_⟩ hr2
   have h3:x.length≤3:=hh.2.2
   simp only [List.mem_cons,List.not_mem_nil,or_false] at hx
   rcases hx with rfl|rfl|rfl
   ·exact Nat.zero_le _
   ·exact Nat.le_refl _
   ·exact absurd h3 (by decide)
  | false=>
   rw [cf]
   cases decide (q=2) with
   | true=>exact (d73 hr1 (by omega) (by decide)).bind fun x r2 _ hr2=>.pure ⟨⟨hu.sm.name,hu.sm.sets,hu.sm.cols,hu.sm.ch,hu.sm.link⟩,hu.sets,hu.cols,hu.one⟩ hr2
   | false=>
    rw [cf]
    cases decide (q=3) with
    | true=>
     rw [ct,cap (by simp;omega),ct,cap (by simp;omega),ct]
     have hx:SmX (([]:List Set)++a.sets++[⟨[65],d0_49.val⟩]):=tX (by rw [List.nil_append];exact ha.sm.sets) (by rw [List.nil_append];omega) nul_ok.sm (by decide)
     exact .pure ⟨⟨hu.sm.name,hx,hu.sm.cols,hu.sm.ch,hu.sm.link⟩,by simp;omega,hu.cols,hu.one⟩ (hr1.mono (by omega))
    | false=>
     rw [cf]
     cases decide (q=4) with
     | true=>
      rw [ct,cap (by simp;omega),ct,cap (by simp;omega),ct]
      have hx:SmS (([]:List Col)++a.cols++[⟨[113],d0_52.kind,d0_52.need,d0_52.once,d0_52.def_⟩]):=⟨by simp;omega,fun c hc=>by
       rw [List.nil_append] at hc
       rcases List.mem_append.1 hc with hc|hc
       ·exact ha.sm.cols.all c hc
       ·rw [List.mem_singleton] at hc
        rw [hc]
        exact ⟨by decide,nul_ok.sm⟩⟩
      exact .pure ⟨⟨hu.sm.name,hu.sm.sets,hx,hu.sm.ch,hu.sm.link⟩,hu.sets,by simp;omega,hu.one⟩ (hr1.mono (by omega))
     | false=>
      rw [cf]
      cases decide (q=5) with
      | true=>exact .pure ⟨⟨hu.sm.name,hu.sm.sets,hu.sm.cols,⟨hu.sm.ch.name,show ([113]:List UInt8).length≤1000 by decide,hu.sm.ch.col⟩,hu.sm.link⟩,hu.sets,hu.cols,hu.one⟩ (hr1.mono (by omega))
      | false=>exact .pure hu (hr1.mono (by omega))
theorem xY {b:ac}(hf:BIG≤fu)(h:SmB b):∃ b',vo fu b=some b'∧al b':=by
 unfold vo
 rw [cQ hf h,bs]
 by_cases h1:ah b
 ·rw [B_t h1];exact ⟨_,rfl,h1,h⟩
 ·rw [B_f h1];exact ⟨_,rfl,oP⟩
def DAs (l:List aR):Prop:=∀ a,a∈l→DA 901 a
theorem DAs.sm {l:List aR}(h:DAs l):Bc l:=fun a ha=>(h a ha).sm
theorem yO {l:List aR}{a:aR}(h:DAs l)(ha:DA 901 a):DAs (l++[a]):=fun x hx=>by
 rcases List.mem_append.1 hx with hx|hx
 ·exact h x hx
 ·rw [List.mem_singleton] at hx;rw [hx];exact ha
theorem actBB_good {b:ac}{a:aR}(h:al b)(ha:SmA a):al (oo l7 b a).1:=by
 unfold oo
 rw [if_pos h.ok]
 exact ji h ha
theorem t1 {m k:Nat}(h:m+k≤400000):m+8060≤900000:=by omega
theorem t2:900≤990:=by omega
theorem t3 {m:Nat}:m+8060+2≤m+8070:=Nat.add_le_add_left (n:=8062) (m:=8070) (by decide) m
theorem t4 {m k:Nat}(h:m+k≤400000):m+8060+2≤100000000:=by omega
theorem t5 {m:Nat}:m+8060+2+1≤m+8070:=Nat.add_le_add_left (n:=8063) (m:=8070) (by decide) m
theorem E0 (hf:BIG≤fu):∀ (j n m:Nat) (l:List aR) (b:ac) (r:Rd),j<n→l.length+j≤7→bX r m→m+8070*j≤400000→al b→DAs l→aH (cG fu n (j:Int) l b r) (fun l'=>l'.length≤7∧DAs l') (m+8070*j):=by
 intro j
 induction j with
 | zero=>
  intro n m l b r hn hlj hr hm hb hl
  obtain ⟨n,rfl⟩:∃ z,n=z+1:=⟨n-1,by omega⟩
  rw [cG]
  exact .pure ⟨by omega,hl⟩ (hr.mono (by omega))
 | succ j ih=>
  intro n m l b r hn hlj hr hm hb hl
  obtain ⟨n,rfl⟩:∃ z,n=z+1:=⟨n-1,by omega⟩
  rw [cG,dt (show (0:Int) < ((j+1:Nat):Int) by omega),ct]
  refine (E9 hf hr (by omega) hb).bind fun x r1 hx hr1=>?_
  refine (Fa hr1 (t1 hm) hx t2).bind fun y r2 hy hr2=>?_
  simp only
  rw [x5 hf hb.sm hy.sm,bs]
  have ej:IntKind.i64.wrap (((j+1:Nat):Int)-1)=(j:Int):=by rw [bm]<;>omega
  have h3:∀ (bl:Bool) (r':Rd),bX r' (m+8070)→aH (iB ((j+1:Nat):Int) l b (y,r2) (oo l7 b y) (cG fu n) bl r') (fun l'=>l'.length≤7∧DAs l') (m+8070 * (j+1)):=fun bl r' hr'=>by
   unfold iB kl
   rw [ej]
   cases bl with
   | true=>
    rw [ct,cap (by rw [List.length_singleton];omega),ct]
    exact (ih n (m+8070) _ _ r' (by omega) (by rw [List.length_append,List.length_singleton];omega) hr' (by omega) (actBB_good hb hy.sm) (yO hl hy)).mono (fun _ h=>h) (by omega)
   | false=>exact (ih n (m+8070) _ _ r' (by omega) (by omega) hr' (by omega) hb hl).mono (fun _ h=>h) (by omega)
  cases decide ((oo l7 b y).2=0) with
  | true=>exact h3 true _ (hr2.mono t3)
  | false=>
   rw [cf]
   exact (d74 hr2 (t4 hm)).bind fun q r3 _ hr3=>h3 _ _ (hr3.mono t5)
theorem E8 {r:Rd}{b:ac}{m:Nat}(hf:BIG≤fu)(h:bX r m)(hm:m≤300000)(hb:al b):aH (vl fu r b) (fun l=>l.length≤7∧DAs l) (m+57000):=by
 unfold vl
 refine (d74 h (by omega)).bind fun q r1 hq hr1=>?_
 refine (d73 hr1 (by omega) (by simp)).bind fun c r2 hc hr2=>?_
 simp only
 have hq2:=hq.2 (by decide)
 have hw:IntKind.i64.wrap (6+q)=6+q:=bm (by have:=hq.1;omega) (by omega)
 have hcc:0≤c∧c≤7:=by
  have:=hq.1
  rw [hw] at hc
  simp only [List.mem_cons,List.not_mem_nil,or_false] at hc
  omega
 obtain ⟨j,rfl⟩:∃ j:Nat,c=(j:Int):=⟨c.toNat,by omega⟩
 exact (E0 hf j fu (m+2) [] b r2 (by unfold BIG at hf;omega) (by rw [List.length_nil];omega) hr2 (by omega) hb (fun _ h=>nomatch h)).mono (fun _ h=>h) (by omega)
theorem Fb {a:List Int}(hf:BIG≤fu)(ha:∀ b,b∈a→0≤b∧b≤255):∃ b l,vv fu a=some (b,l)∧SS b∧l.length≤7∧DAs l:=by
 obtain ⟨r,e,hr⟩:=d60 (fu:=fu) ha
 obtain ⟨b,r1,e1,hb,hr1⟩:=CY (fu:=fu) hf hr (by omega)
 obtain ⟨b',e2,hb'⟩:=xY (fu:=fu) hf hb.1
 obtain ⟨l,r2,e3,hl,-⟩:=E8 (fu:=fu) hf hr1 (by omega) hb'
 unfold vv
 rw [e,bs,e1,bs]
 simp only
 rw [e2,bs,e3]
 exact ⟨b,l,rfl,hb,hl.1,hl.2⟩
theorem xZ {s:List Col}{row:List Val}(hf:BIG≤fu)(hs:SmS s)(hr:SmR row):vt fu s row=some (B (aj s∧aQ s row)):=by
 unfold vt km
 rw [mP hf hs,bs,mQ hf hr,bs,cb]
 cases B (aj s)<;>cases B (aQ s row)<;>rfl
theorem E1 {q1:ac×List aR}{q3:ac×Int×Int}(hf:BIG≤fu)(h:al q3.1)(hl:q3.2.2≤(q1.2.length:Int)):bb fu q1 q3 fu 0=some true:=by
 have hT:=h.sm.ntab
 have:=gv (L:=bb fu q1 q3) (N:=q3.1.tabs.length) (fun _=>False) none (some true) (by unfold BIG;omega) (fun n=>by
  rw [bb,nlt,cf,d5 hf h.sm,B_t h.ok,bs,ct,yL hf h,bs,ct,dt hl];rfl) (fun _ _ _ hh=>hh.elim) (fun n i hi _=>by
  have g:=h.tab hi
  have hN:=g.sm.nrow
  have hw:=gv (L:=dU fu q3 (i:Int) (lastS (cz q3.1 i)) (bb fu q1 q3 n)) (N:=(cz q3.1 i).rows.length) (fun _=>False) none (bb fu q1 q3 n (IntKind.i64.wrap ((i:Int)+1))) (by unfold BIG;omega) (fun m=>by
   rw [dU,inR hi,ct]
   show cond (decide (((cz q3.1 i).rows.length:Int) < ((cz q3.1 i).rows.length:Int))) _ _=_
   rw [nlt,cf]) (fun _ _ _ hh=>hh.elim) (fun m k hk _=>by
   have hrow:=g.now hk
   have hhi:=g.rt.okLast.hi
   rw [dU,inR hi,ct]
   show cond (decide ((k:Int) < ((cz q3.1 i).rows.length:Int))) (cond true (cond true (cond (decide (0≤(k:Int))&&decide ((k:Int) < ((cz q3.1 i).rows.length:Int))) ((f16 fu (cz q3.1 i) ((cz q3.1 i).rows.getD (k:Int).toNat default).id).bind _) none) none) none) _=_
   rw [ltR hk,ct,ct,ct,ge0,Bool.and_self,ct,tn,vA hf g.sm,bs,uc g.ok hk]
   simp only [Bool.not_true,cf]
   rw [xZ hf g.rt.okLast.sm (hrow.sm (by omega)),B_t ⟨g.rt.okLast,hrow⟩];rfl) (fu:=fu) (by unfold BIG at hf;omega)
  rw [if_neg (fun ⟨_,_,hh⟩=>hh)] at hw
  rw [bb,ltR hi,ct,ge0,Bool.and_self,ct,tn]
  show (f23 fu (cz q3.1 i)).bind _=_
  rw [zy hf g.sm,oF g.ok,bs]
  exact hw) (fu:=fu) (by unfold BIG at hf;omega)
 rw [if_neg (fun ⟨_,_,hh⟩=>hh)] at this
 exact this
theorem Ad (hf:BIG≤fu)(a:List Int)(ha:∀ b,b∈a→0≤b∧b≤255):x8 fu a=some true:=by
 unfold x8
 refine wm ?_
 obtain ⟨b,l,e,⟨hb,-⟩,hl,hd⟩:=Fb (fu:=fu) hf ha
 have hs:=hd.sm
 have h7:l.length≤1000:=by omega
 rw [e,bs]
 simp only
 rw [x7 hf hb h7 hs,bs,x4 hf hb h7 hs,bs,dt rfl,dt rfl,Bool.not_true,cf,cf,cQ hf hb,bs]
 unfold iF
 by_cases hok:ah b
 case neg=>
  rw [B_f hok]
  simp only [Bool.not_false,ct,decide_true,kp]
 rw [B_t hok,Bool.not_true,cf]
 refine E1 hf (tq ⟨hok,hb⟩ hs) ?_
 unfold mj
 rw [if_pos hok]
 split
 ·show (0:Int)≤_;omega
 ·rcases doAll_two (ok:=l7) (b0:=b) (l:=l) (x:=b) (n:=0) with ⟨-,h2⟩|⟨-,-,-,h4⟩
  ·rw [h2,Nat.zero_add];exact Int.le_refl _
  ·rw [Nat.zero_add] at h4;exact Int.le_of_lt h4
end Go.Proofs.YtganfdhmkdehlaaGreatDoor
