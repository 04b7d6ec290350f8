/- What is done to a base, and several things at once: the model. -/
import Derived.Test.YtganfdhmkdehlaaGreatDoorQ2003M34
import Derived.KernelRfl
import Derived.Test.YtganfdhmkdehlaaGreatDoorQ2003B22
set_option linter.all false
namespace Go.Proofs.YtganfdhmkdehlaaGreatDoor
open Go Go.HL
variable {fu:Nat}
def gK:aa:=⟨0,[],[],nilCol⟩
def kA:aj:=⟨[],[],[],0⟩
structure SmA (a:al):Prop where
 name:a.name.length≤1000
 sets:SmX a.sets
 cols:SmS a.cols
 ch:iG a.change
 link:SmL a.link
noncomputable def sD (b:ac) (a:al):ac×Int:=
 if a.kind=1 then gi b a.name a.cols else if a.kind=2 then kH b a.link else if a.kind=3 then nS b a.name a.sets
 else if a.kind=4 then nP b a.name a.id a.sets else if a.kind=5 then nU b a.name a.id else dM b a.name a.change
theorem oK {b:ac}{a:al}(h:am b)(ha:SmA a):am (sD b a).1:=by
 unfold sD
 split
 ·exact nI h
 split
 ·exact pj h
 split
 ·exact rJ h ha.sets
 split
 ·exact rI h ha.sets
 split
 ·exact rM h
 ·exact nu h ha.ch
section
variable (ok:al→Prop)
open Classical in
noncomputable def sE (b:ac) (a:al):ac×Int:=if ok a then sD b a else (b,1)
open Classical in
noncomputable def zn (b:ac) (a:al):ac×Int:=if ah b then sE ok b a else (ly,1)
noncomputable def lJ (b0:ac):List al→ac→Nat→ac×Int×Int
 | [],x,n=>(x,0,(n:Int))
 | a::l,x,n=>if (sE ok x a).2=0 then lJ b0 l (sE ok x a).1 (n+1) else (b0,(sE ok x a).2,(n:Int))
open Classical in
noncomputable def jB (b:ac) (acts:List al):ac×Int×Int:=if ah b then (if 6<acts.length then (b,4,0) else lJ ok b acts b 0) else (ly,1,0)
end
section
variable {ok:al→Prop}{b0 x:ac}{l l':List al}{n:Nat}
theorem lq {b:ac}{a:al}(h:am b)(ha:SmA a):am (sE ok b a).1:=by
 unfold sE
 split
 ·exact oK h ha
 ·exact h
theorem ss (h0:am b0)(hx:am x)(hl:∀ a,a∈l→SmA a):am (lJ ok b0 l x n).1:=by
 induction l generalizing x n with
 | nil=>exact hx
 | cons a l ih=>
  rw [lJ]
  split
  ·exact ih (lq hx (hl a List.mem_cons_self)) fun y hy=>hl y (List.mem_cons_of_mem _ hy)
  ·exact h0
end
end Go.Proofs.YtganfdhmkdehlaaGreatDoor
/- Which acts can be read: the document's words and the program's are the same. -/
namespace Go.Proofs.YtganfdhmkdehlaaGreatDoor
open Go Go.HL
def fB (xs:List Set):Prop:=xs.length≤5∧∀ x,x∈xs→ao x.name∧ValOK x.val
def ChD (c:aa):Prop:=
 (c.kind=1∧dr c.col∧c.name=[]∧c.new=[])∨(c.kind=2∧ao c.name∧c.new=[]∧c.col=nilCol)∨(c.kind=3∧ao c.name∧ao c.new∧c.col=nilCol)
 ∨(c.kind=4∧ao c.name∧c.new=[]∧(c.col = { nilCol with kind:=1 }∨c.col = { nilCol with kind:=2 }))
def ChP (c:aa):Prop:=
 Named c∧(c.kind=1→dr c.col)∧(c.kind=2→ao c.name)∧(c.kind=3→ao c.name∧ao c.new)∧(c.kind≠1→c.kind≠2→c.kind≠3→ao c.name∧(c.col.kind=1∨c.col.kind=2))
theorem vd {c:aa}:ChP c↔ChD c:=by
 constructor
 ·rintro ⟨h | h | h | h,h1,h2,h3,h4⟩
  ·exact .inl ⟨h.1,h1 h.1,h.2.1,h.2.2⟩
  ·exact .inr (.inl ⟨h.1,h2 h.1,h.2.1,h.2.2⟩)
  ·exact .inr (.inr (.inl ⟨h.1,(h3 h.1).1,(h3 h.1).2,h.2⟩))
  ·have h5:=h4 (by omega) (by omega) (by omega)
   refine .inr (.inr (.inr ⟨h.1,h5.1,h.2.1,?_⟩))
   rcases h5.2 with e|e
   ·left;rw [h.2.2,e]
   ·right;rw [h.2.2,e]
 ·rintro (h | h | h | h)
  ·exact ⟨.inl ⟨h.1,h.2.2.1,h.2.2.2⟩,fun _=>h.2.1,fun e=>by omega,fun e=>by omega,fun e=>by omega⟩
  ·exact ⟨.inr (.inl ⟨h.1,h.2.2.1,h.2.2.2⟩),fun e=>by omega,fun _=>h.2.1,fun e=>by omega,fun _ e=>by omega⟩
  ·exact ⟨.inr (.inr (.inl ⟨h.1,h.2.2.2⟩)),fun e=>by omega,fun e=>by omega,fun _=>⟨h.2.1,h.2.2.1⟩,fun _ _ e=>by omega⟩
  ·refine ⟨.inr (.inr (.inr ⟨h.1,h.2.2.1,?_⟩)),fun e=>by omega,fun e=>by omega,fun e=>by omega,fun _ _ _=>⟨h.2.1,?_⟩⟩
   ·rcases h.2.2.2 with e|e<;>rw [e]
   ·rcases h.2.2.2 with e|e<;>rw [e]
    ·exact .inl rfl
    ·exact .inr rfl
def LinkD (l:aj):Prop:=ao l.from_∧ao l.col∧ao l.to∧1≤l.how∧l.how≤3
def qd (cs:List Col):Prop:=1≤cs.length∧cs.length≤5∧∀ c,c∈cs→dr c
structure lM (a:al):Prop where
 link:a.kind≠2→a.link=kA
 noname:a.kind=2→a.name=[]
 change:a.kind≠6→a.change=gK
 cols:a.kind≠1→a.cols=[]
 sets:a.kind≠3→a.kind≠4→a.sets=[]
 id0:a.kind≠4→a.kind≠5→a.id=0
 name:a.kind≠2→ao a.name
 lo:0≤a.id
 hi:a.id≤60
 kind:(a.kind=1∧qd a.cols)∨(a.kind=2∧LinkD a.link)∨((a.kind=3∨a.kind=4)∧fB a.sets)∨a.kind=5∨(a.kind=6∧ChD a.change)
def B5 (a:al):Prop:=
 (a.kind=1∧a.id=0∧a.sets=[]∧a.change=gK∧a.link=kA∧ao a.name∧qd a.cols)
 ∨(a.kind=2∧a.id=0∧a.sets=[]∧a.cols=[]∧a.change=gK∧a.name=[]∧LinkD a.link)
 ∨(a.kind=3∧a.id=0∧a.cols=[]∧a.change=gK∧a.link=kA∧ao a.name∧fB a.sets)
 ∨(a.kind=4∧a.cols=[]∧a.change=gK∧a.link=kA∧ao a.name∧fB a.sets∧0≤a.id∧a.id≤60)
 ∨(a.kind=5∧a.sets=[]∧a.cols=[]∧a.change=gK∧a.link=kA∧ao a.name∧0≤a.id∧a.id≤60)
 ∨(a.kind=6∧a.id=0∧a.sets=[]∧a.cols=[]∧a.link=kA∧ao a.name∧ChP a.change)
theorem xx {a:al}:B5 a↔lM a:=by
 constructor
 ·rintro (h | h | h | h | h | h)
  ·obtain ⟨k,h1,h2,h3,h4,h5,h6⟩:=h
   exact ⟨fun _=>h4,fun e=>by omega,fun _=>h3,fun e=>absurd k e,fun _ _=>h2,fun _ _=>h1,fun _=>h5,by omega,by omega,.inl ⟨k,h6⟩⟩
  ·obtain ⟨k,h1,h2,h3,h4,h5,h6⟩:=h
   exact ⟨fun e=>absurd k e,fun _=>h5,fun _=>h4,fun _=>h3,fun _ _=>h2,fun _ _=>h1,fun e=>absurd k e,by omega,by omega,.inr (.inl ⟨k,h6⟩)⟩
  ·obtain ⟨k,h1,h2,h3,h4,h5,h6⟩:=h
   exact ⟨fun _=>h4,fun e=>by omega,fun _=>h3,fun _=>h2,fun e=>absurd k e,fun _ _=>h1,fun _=>h5,by omega,by omega,.inr (.inr (.inl ⟨.inl k,h6⟩))⟩
  ·obtain ⟨k,h1,h2,h3,h4,h5,h6,h7⟩:=h
   exact ⟨fun _=>h3,fun e=>by omega,fun _=>h2,fun _=>h1,fun _ e=>absurd k e,fun e=>absurd k e,fun _=>h4,h6,h7,.inr (.inr (.inl ⟨.inr k,h5⟩))⟩
  ·obtain ⟨k,h1,h2,h3,h4,h5,h6,h7⟩:=h
   exact ⟨fun _=>h4,fun e=>by omega,fun _=>h3,fun _=>h2,fun _ _=>h1,fun _ e=>absurd k e,fun _=>h5,h6,h7,.inr (.inr (.inr (.inl k)))⟩
  ·obtain ⟨k,h1,h2,h3,h4,h5,h6⟩:=h
   exact ⟨fun _=>h4,fun e=>by omega,fun e=>absurd k e,fun _=>h3,fun _ _=>h2,fun _ _=>h1,fun _=>h5,by omega,by omega,.inr (.inr (.inr (.inr ⟨k,vd.1 h6⟩)))⟩
 ·intro h
  rcases h.kind with ⟨k,g⟩|⟨k,g⟩|⟨k|k,g⟩|k|⟨k,g⟩
  ·exact .inl ⟨k,h.id0 (by omega) (by omega),h.sets (by omega) (by omega),h.change (by omega),h.link (by omega),h.name (by omega),g⟩
  ·exact .inr (.inl ⟨k,h.id0 (by omega) (by omega),h.sets (by omega) (by omega),h.cols (by omega),h.change (by omega),h.noname k,g⟩)
  ·exact .inr (.inr (.inl ⟨k,h.id0 (by omega) (by omega),h.cols (by omega),h.change (by omega),h.link (by omega),h.name (by omega),g⟩))
  ·exact .inr (.inr (.inr (.inl ⟨k,h.cols (by omega),h.change (by omega),h.link (by omega),h.name (by omega),g,h.lo,h.hi⟩)))
  ·exact .inr (.inr (.inr (.inr (.inl ⟨k,h.sets (by omega) (by omega),h.cols (by omega),h.change (by omega),h.link (by omega),h.name (by omega),h.lo,h.hi⟩))))
  ·exact .inr (.inr (.inr (.inr (.inr ⟨k,h.id0 (by omega) (by omega),h.sets (by omega) (by omega),h.cols (by omega),h.link (by omega),h.name (by omega),vd.2 g⟩))))
end Go.Proofs.YtganfdhmkdehlaaGreatDoor
/- Which acts can be read: what the program's and the document's functions answer. -/
namespace Go.Proofs.YtganfdhmkdehlaaGreatDoor
open Go Go.HL
variable {fu:Nat}
theorem By {b c:Bool}:cond b (some c) (some false)=some (b&&c):=by cases b<;>rfl
theorem orS {b c:Bool}:cond b (some true) (some c)=some (b || c):=by cases b<;>rfl
theorem Ct {b c:Bool}:cond (!b) (some false) (some c)=some (b&&c):=by cases b<;>rfl
theorem zh {p q r:Prop}:cond (B p) (some (B q)) (some (B r))=some (B ((p∧q)∨(¬ p∧r))):=by
 rw [ym,cn,cn,lx]
 cases B p<;>simp
theorem BI {α:Type}{l:List α}:((l.length:Int)=0)=(l=[]):=propext ⟨fun h=>List.length_eq_zero_iff.1 (by omega),fun h=>by subst h;rfl⟩
theorem BH {α:Type}{l:List α}:(0 < (l.length:Int))=(l≠[]):=propext ⟨fun h e=>by subst e;simp at h,fun h=>by have:=List.length_pos_iff.2 h;omega⟩
theorem A9:(⟨d0_56.kind,d0_56.name,d0_56.new,d0_56.col⟩:aa)=gK:=rfl
theorem Ai:(⟨d0_1044.from_,d0_1044.col,d0_1044.to,d0_1044.how⟩:aj)=kA:=rfl
theorem BW:(⟨d0_52.name,d0_52.kind,d0_52.need,d0_52.once,d0_52.def_⟩:Col)=nilCol:=rfl
theorem cl1:(⟨d0_52.name,1,d0_52.need,d0_52.once,d0_52.def_⟩:Col) = { nilCol with kind:=1 }:=rfl
theorem cl2:(⟨d0_52.name,2,d0_52.need,d0_52.once,d0_52.def_⟩:Col) = { nilCol with kind:=2 }:=rfl
theorem rB {α:Type}[Inhabited α]{l:List α}{p:α→Prop}:(∀ k,k<l.length→p (l.getD k default))↔∀ x,x∈l→p x:=
 ⟨fun h x hx=>by
  obtain ⟨k,hk,rfl⟩:=List.getElem_of_mem hx
  have:=h k hk
  rwa [ae hk] at this,fun h k hk=>h _ (getD_mem hk)⟩
theorem wu {s:List Col}(hf:BIG≤fu)(hs:SmS s):ue fu s=some (B (qd s)):=by
 have hl:=hs.len
 unfold ue qd
 have:=eZ (L:=f2116_l1 fu s) (N:=s.length) (fun k=>dr (s.getD k default)) (1≤s.length∧s.length≤5) (by unfold BIG;omega) (fun n hq=>by
  rw [f2116_l1,nlt,cf,dt (show (1:Int)≤(s.length:Int) by omega),ct,dt (show (s.length:Int)≤5 by omega)];rfl) (fun n hq=>by
  rw [f2116_l1,nlt,cf]
  by_cases h1:(1:Int)≤(s.length:Int)
  ·rw [dt h1,ct,df (show ¬ (s.length:Int)≤5 by omega)];rfl
  ·rw [df h1,cf];rfl) (fun n k hk hp=>by
  rw [f2116_l1,ltR hk,ct,ge0,Bool.and_self,ct,tn,kZ hf (hs.get hk),B_t hp];rfl) (fun n k hk hp=>by
  rw [f2116_l1,ltR hk,ct,ge0,Bool.and_self,ct,tn,kZ hf (hs.get hk),B_f hp];rfl) (fu:=fu) (by unfold BIG at hf;omega)
 rw [this]
 exact congrArg some (ai ⟨fun h=>⟨h.2.1,h.2.2,rB.1 h.1⟩,fun h=>⟨rB.2 h.2.2,h.1,h.2.1⟩⟩)
theorem wt {l:aj}(hf:BIG≤fu)(h:SmL l):ud fu l=some (B (LinkD l)):=by
 unfold ud LinkD eC
 rw [dO hf h.src,dO hf h.col,dO hf h.dst]
 simp only [bs,By,bt,← cn]
theorem SmX.gn {xs:List Set}(h:SmX xs){k:Nat}(hk:k<xs.length):(xs.getD k default).name.length≤1000:=h.nm _ (getD_mem hk)
theorem ws {xs:List Set}(hf:BIG≤fu)(h:SmX xs):uc fu xs=some (B (fB xs)):=by
 have hl:=h.len
 unfold uc fB
 have step:∀ n (k:Nat),k<xs.length→bY fu xs (n+1) (k:Int)=cond (B (ao (xs.getD k default).name∧ValOK (xs.getD k default).val)) (bY fu xs n (IntKind.i64.wrap ((k:Int)+1))) (some false):=fun n k hk=>by
  rw [bY,ltR hk,ct,ge0,Bool.and_self,ct,tn,dO hf (h.gn hk),bs,iY hf (h.get hk),bs,cn]
  unfold jM
  cases B (ao (xs.getD k default).name)<;>cases B (ValOK (xs.getD k default).val)<;>rfl
 have:=eZ (L:=bY fu xs) (N:=xs.length) (fun k=>ao (xs.getD k default).name∧ValOK (xs.getD k default).val) (xs.length≤5) (by unfold BIG;omega) (fun n hq=>by
  rw [bY,nlt,cf,dt (show (xs.length:Int)≤5 by omega)]) (fun n hq=>by
  rw [bY,nlt,cf,df (show ¬ (xs.length:Int)≤5 by omega)]) (fun n k hk hp=>by rw [step n k hk,B_t hp];rfl) (fun n k hk hp=>by rw [step n k hk,B_f hp];rfl) (fu:=fu) (by unfold BIG at hf;omega)
 rw [this]
 exact congrArg some (ai ⟨fun hh=>⟨hh.2,(rB (p:=fun x:Set=>ao x.name∧ValOK x.val)).1 hh.1⟩,fun hh=>⟨(rB (p:=fun x:Set=>ao x.name∧ValOK x.val)).2 hh.2,hh.1⟩⟩)
theorem wr {c:aa}(hf:BIG≤fu)(h:iG c):ub fu c=some (B (ChD c)):=by
 unfold ub hK hH gZ fK
 rw [BW,cl1,cl2,kZ hf h.col,dO hf h.name,dO hf h.new]
 simp only [bs,By,orS,bt,← cn,← ym]
 simp only [zh]
 refine congrArg some (ai ?_)
 unfold ChD
 constructor
 ·rintro (⟨k,hh⟩ | ⟨k1,⟨k,hh⟩ | ⟨k2,⟨k,hh⟩ | ⟨k3,⟨k,hh⟩⟩⟩⟩)
  ·exact .inl ⟨k,hh⟩
  ·exact .inr (.inl ⟨k,hh⟩)
  ·exact .inr (.inr (.inl ⟨k,hh⟩))
  ·exact .inr (.inr (.inr ⟨k,hh⟩))
 ·rintro (⟨k,hh⟩ | ⟨k,hh⟩ | ⟨k,hh⟩ | ⟨k,hh⟩)
  ·exact .inl ⟨k,hh⟩
  ·exact .inr ⟨by omega,.inl ⟨k,hh⟩⟩
  ·exact .inr ⟨by omega,.inr ⟨by omega,.inl ⟨k,hh⟩⟩⟩
  ·exact .inr ⟨by omega,.inr ⟨by omega,.inr ⟨by omega,k,hh⟩⟩⟩
def xA (a:al):Prop:=
 ((a.kind≠2→a.link=kA)∧(a.kind=2→a.name=[]))∧((a.kind≠6→a.change=gK)∧(a.kind≠1→a.cols=[]))∧(a.kind≠3→a.kind≠4→a.sets=[])∧(a.kind≠4→a.kind≠5→a.id=0)
theorem wv {a:al}:uf fu a=some (B (xA a)):=by
 unfold uf
 rw [Ai]
 have e3:∀ i,fL a i=some (!i&&B (a.kind≠4→a.kind≠5→a.id=0)):=fun i=>by
  unfold fL hY
  simp only [bt,qe,ne_eq,lx]
  cases i<;>cases B (a.kind=4)<;>cases B (a.kind=5)<;>simp
 have e2:∀ i,dx a i=some (!i&&(B (a.kind≠3→a.kind≠4→a.sets=[])&&B (a.kind≠4→a.kind≠5→a.id=0))):=fun i=>by
  unfold dx
  simp only [e3,BH,bt]
  generalize B (a.kind≠4→a.kind≠5→a.id=0)=z
  simp only [bt,qe,ne_eq,lx]
  cases i<;>cases B (a.kind=3)<;>cases B (a.kind=4)<;>cases B (a.sets=[])<;>simp
 have e1:∀ i,dy a i=some (!i&&((B (a.kind≠6→a.change=gK)&&B (a.kind≠1→a.cols=[]))&&(B (a.kind≠3→a.kind≠4→a.sets=[])&&B (a.kind≠4→a.kind≠5→a.id=0)))):=fun i=>by
  unfold dy
  rw [A9]
  simp only [e2,BH,bt]
  generalize (B (a.kind≠3→a.kind≠4→a.sets=[])&&B (a.kind≠4→a.kind≠5→a.id=0))=z
  simp only [bt,qe,ne_eq,lx]
  cases i<;>cases B (a.kind=6)<;>cases B (a.change=gK)<;>cases B (a.kind=1)<;>cases B (a.cols=[])<;>simp
 simp only [e1]
 unfold xA
 rw [cn,cn (p:=(a.kind≠6→a.change=gK)∧(a.kind≠1→a.cols=[])),cn (p:=a.kind≠6→a.change=gK),cn (p:=a.kind≠3→a.kind≠4→a.sets=[]),cn (p:=a.kind≠2→a.link=kA)]
 generalize ((B (a.kind≠6→a.change=gK)&&B (a.kind≠1→a.cols=[]))&&(B (a.kind≠3→a.kind≠4→a.sets=[])&&B (a.kind≠4→a.kind≠5→a.id=0)))=z
 simp only [bt,qe,ne_eq,lx]
 cases B (a.kind=2)<;>cases B (a.link=kA)<;>cases B (a.name=[])<;>simp
def xC (a:al):Prop:=(a.kind=1∧qd a.cols)∨(a.kind=2∧LinkD a.link)∨((a.kind=3∨a.kind=4)∧fB a.sets)∨a.kind=5∨(a.kind=6∧ChD a.change)
theorem qZ {a:al}(hf:BIG≤fu)(h:SmA a):rY fu a=some (B (lM a)):=by
 have e2:∀ i,hZ fu a i=cond i (some (B (fB a.sets))) (some (B (a.kind=5∨(a.kind=6∧ChD a.change)))):=fun i=>by
  unfold hZ
  rw [ws hf h.sets,wr hf h.ch]
  simp only [bs,bt]
  rw [ym,cn]
  cases i<;>cases B (a.kind=5)<;>cases B (a.kind=6)<;>cases B (ChD a.change)<;>rfl
 have e1:∀ i,da fu a i=some (!i&&B (xC a)):=fun i=>by
  unfold da xC
  rw [wu hf h.cols,wt hf h.link]
  simp only [bs,e2,bt,ym,cn]
  by_cases k1:a.kind=1
  ·rw [B_t k1,B_f (p:=a.kind=2) (by omega),B_f (p:=a.kind=3) (by omega),B_f (p:=a.kind=4) (by omega),B_f (p:=a.kind=5) (by omega),B_f (p:=a.kind=6) (by omega)]
   cases i<;>cases B (qd a.cols)<;>rfl
  rw [B_f k1]
  by_cases k2:a.kind=2
  ·rw [B_t k2,B_f (p:=a.kind=3) (by omega),B_f (p:=a.kind=4) (by omega),B_f (p:=a.kind=5) (by omega),B_f (p:=a.kind=6) (by omega)]
   cases i<;>cases B (LinkD a.link)<;>rfl
  rw [B_f k2]
  by_cases k3:a.kind=3
  ·rw [B_t k3,B_f (p:=a.kind=4) (by omega),B_f (p:=a.kind=5) (by omega),B_f (p:=a.kind=6) (by omega)]
   cases i<;>cases B (fB a.sets)<;>rfl
  rw [B_f k3]
  by_cases k4:a.kind=4
  ·rw [B_t k4,B_f (p:=a.kind=5) (by omega),B_f (p:=a.kind=6) (by omega)]
   cases i<;>cases B (fB a.sets)<;>rfl
  rw [B_f k4]
  cases i<;>cases B (a.kind=5)<;>cases B (a.kind=6)<;>cases B (ChD a.change)<;>rfl
 unfold rY
 rw [wv,bs,dO hf h.name,bs]
 simp only [e1]
 have:B (lM a)=(B (xA a)&&(B (a.kind≠2→ao a.name)&&((!B (a.id<0))&&((!B (60<a.id))&&B (xC a))))):=by
  rw [← lx,← lx,← cn,← cn,← cn,← cn]
  refine ai ⟨fun g=>⟨⟨⟨g.link,g.noname⟩,⟨g.change,g.cols⟩,g.sets,g.id0⟩,g.name,by have:=g.lo;omega,by have:=g.hi;omega,g.kind⟩,?_⟩
  rintro ⟨⟨⟨g1,g2⟩,⟨g3,g4⟩,g5,g6⟩,g7,g8,g9,g10⟩
  exact ⟨g1,g2,g3,g4,g5,g6,g7,by omega,by omega,g10⟩
 rw [this,qe]
 simp only [bt,ne_eq,lx]
 cases B (xA a)<;>cases B (a.kind=2)<;>cases B (ao a.name)<;>cases B (a.id<0)<;>cases B (60<a.id)<;>cases B (xC a)<;>rfl
end Go.Proofs.YtganfdhmkdehlaaGreatDoor
/- Which acts can be read: what the program's functions answer. -/
namespace Go.Proofs.YtganfdhmkdehlaaGreatDoor
open Go Go.HL
variable {fu:Nat}
theorem wy {s:List Col}(hf:BIG≤fu)(hs:SmS s):uh fu s (fun x0=>ot fu x0)=some (!B (∀ c,c∈s→dr c)):=by
 have hl:=hs.len
 have hx:∀ k,k<s.length→ot fu (s.getD k default)=some (!B (dr (s.getD k default))):=fun k hk=>by
  unfold ot
  rw [nt hf (hs.get hk)];rfl
 have:=lA (L:=dS s (fun x0=>ot fu x0)) s (fun c=>!B (dr c)) (by unfold BIG;omega) (fun n=>by
  rw [dS,nlt,cf]) (fun n k hk hp=>by
  rw [dS,ltR hk,ct,ge0,Bool.and_self,ct,tn,hx k hk,bs,ae hk,hp,ct]) (fun n k hk hp=>by
  rw [dS,ltR hk,ct,ge0,Bool.and_self,ct,tn,hx k hk,bs,ae hk,hp,cf]) (fu:=fu) (by unfold BIG at hf;omega)
 unfold uh zO
 rw [this,bs]
 have e:decide ((0:Int)≤(if s.findIdx (fun c=>!B (dr c))<s.length then (s.findIdx (fun c=>!B (dr c)):Int) else -1)) = !B (∀ c,c∈s→dr c):=by
  by_cases h:∀ c,c∈s→dr c
  ·rw [B_t h,if_neg fun hh=>?_]
   ·rfl
   ·obtain ⟨x,h1,h2⟩:=List.findIdx_lt_length.1 hh
    rw [B_t (h x h1)] at h2;cases h2
  ·rw [B_f h,if_pos (List.findIdx_lt_length.2 ?_)]
   ·simp
   ·refine Classical.byContradiction fun hh=>h fun c hc=>Classical.byContradiction fun hn=>hh ⟨c,hc,by rw [B_f hn];rfl⟩
 rw [e]
theorem wl {x:Set}(hf:BIG≤fu)(h1:x.name.length≤1000)(h2:SmV x.val):oq fu x=some (!B (ao x.name∧ValOK x.val)):=by
 unfold oq jL
 rw [dQ hf h1,bs,kW hf h2,bs,cn]
 cases B (ao x.name)<;>cases B (ValOK x.val)<;>rfl
theorem wx {xs:List Set}(hf:BIG≤fu)(hs:SmX xs):rW fu xs=some (B (fB xs)):=by
 have hl:=hs.len
 have hx:∀ k,k<xs.length→oq fu (xs.getD k default)=some (!B (ao (xs.getD k default).name∧ValOK (xs.getD k default).val)):=fun k hk=>wl hf (hs.gn hk) (hs.get hk)
 have:=lA (L:=eB xs (fun x0=>oq fu x0)) xs (fun x=>!B (ao x.name∧ValOK x.val)) (by unfold BIG;omega) (fun n=>by
  rw [eB,nlt,cf]) (fun n k hk hp=>by
  rw [eB,ltR hk,ct,ge0,Bool.and_self,ct,tn,hx k hk,bs,ae hk,hp,ct]) (fun n k hk hp=>by
  rw [eB,ltR hk,ct,ge0,Bool.and_self,ct,tn,hx k hk,bs,ae hk,hp,cf]) (fu:=fu) (by unfold BIG at hf;omega)
 unfold rW jP wm wk
 rw [this,bs]
 have e:decide ((0:Int)≤(if xs.findIdx (fun x=>!B (ao x.name∧ValOK x.val))<xs.length then (xs.findIdx (fun x=>!B (ao x.name∧ValOK x.val)):Int) else -1)) = !B (∀ x,x∈xs→ao x.name∧ValOK x.val):=by
  by_cases h:∀ x,x∈xs→ao x.name∧ValOK x.val
  ·rw [B_t h,if_neg fun hh=>?_]
   ·rfl
   ·obtain ⟨x,h1,h2⟩:=List.findIdx_lt_length.1 hh
    rw [B_t (h x h1)] at h2;cases h2
  ·rw [B_f h,if_pos (List.findIdx_lt_length.2 ?_)]
   ·simp
   ·refine Classical.byContradiction fun hh=>h fun c hc=>Classical.byContradiction fun hn=>hh ⟨c,hc,by rw [B_f hn];rfl⟩
 rw [e,bs,Bool.not_not]
 unfold fB
 rw [cn,bt,ai (show (xs.length:Int)≤5↔xs.length≤5 by omega)]
 cases B (xs.length≤5)<;>rfl
theorem ww {c:aa}(hf:BIG≤fu)(h:iG c):ug fu c=some (B (ChP c)):=by
 unfold ug jO jN
 rw [uy,nt hf h.col,dQ hf h.name,dQ hf h.new,jn,ai (show (1≤c.col.kind∧c.col.kind≤2)↔(c.col.kind=1∨c.col.kind=2) by omega)]
 simp only [bs,By,bt,← cn,zh]
 rw [Ct,← cn]
 refine congrArg some (ai ?_)
 unfold ChP
 by_cases k1:c.kind=1
 ·simp [k1]
 by_cases k2:c.kind=2
 ·simp [k2]
 by_cases k3:c.kind=3
 ·simp [k3]
 simp [k1,k2,k3]
theorem wC {a:al}(hf:BIG≤fu)(h:SmA a):uj fu a=some (B (B5 a)):=by
 unfold uj db bZ dD dC dB dz
 rw [A9,Ai,dQ hf h.name,dQ hf h.link.src,dQ hf h.link.col,dQ hf h.link.dst,wy hf h.cols,wx hf h.sets,ww hf h.ch]
 simp only [jn,bs,Bool.not_not,By,bt,BI,← cn,zh]
 refine congrArg some (ai ?_)
 have hc:((1:Int)≤(a.cols.length:Int)∧(a.cols.length:Int)≤5)↔(1≤a.cols.length∧a.cols.length≤5):=by omega
 unfold B5 qd LinkD
 by_cases k1:a.kind=1
 ·simp [k1];grind
 by_cases k2:a.kind=2
 ·simp [k2]
 by_cases k3:a.kind=3
 ·simp [k3]
 by_cases k4:a.kind=4
 ·simp [k4]
 by_cases k5:a.kind=5
 ·simp [k5]
 by_cases k6:a.kind=6
 ·simp [k6]
 simp [k1,k2,k3,k4,k5,k6]
end Go.Proofs.YtganfdhmkdehlaaGreatDoor
/- Acts one by one and at once: what the program's and the document's functions answer. -/
namespace Go.Proofs.YtganfdhmkdehlaaGreatDoor
open Go Go.HL
variable {fu:Nat}
theorem qY {b:ac}{a:al}(hf:BIG≤fu)(h:SmB b)(ha:SmA a):rX fu b a=some (sD b a):=by
 unfold rX sD
 rw [xt hf h ha.name ha.cols,xq hf h,xi hf h ha.sets,xk hf h ha.sets,xo hf h,xm hf h ha.ch]
 simp only [bs]
 by_cases k1:a.kind=1
 ·rw [dt k1,if_pos k1];rfl
 rw [df k1,if_neg k1,cf]
 by_cases k2:a.kind=2
 ·rw [dt k2,if_pos k2];rfl
 rw [df k2,if_neg k2,cf]
 by_cases k3:a.kind=3
 ·rw [dt k3,if_pos k3];rfl
 rw [df k3,if_neg k3,cf]
 by_cases k4:a.kind=4
 ·rw [dt k4,if_pos k4];rfl
 rw [df k4,if_neg k4,cf]
 by_cases k5:a.kind=5
 ·rw [dt k5,if_pos k5];rfl
 rw [df k5,if_neg k5,cf]
theorem wF {b:ac}{a:al}(hf:BIG≤fu)(h:SmB b)(ha:SmA a):um fu b a=some (zn lM b a):=by
 unfold um zn sE
 rw [dK hf h,bs,wC hf ha,ai xx,bs,bQ hf h,bs,xu hf h ha.name ha.cols,xr hf h,xj hf h ha.sets,xl hf h ha.sets,xp hf h,xn hf h ha.ch]
 by_cases h1:ah b
 case neg=>rw [B_f h1,if_neg h1];rfl
 rw [B_t h1,if_pos h1]
 by_cases h2:lM a
 case neg=>rw [B_f h2,if_neg h2];rfl
 rw [B_t h2,if_pos h2]
 simp only [bs,Bool.not_true,cf]
 unfold sD
 by_cases k1:a.kind=1
 ·rw [dt k1,if_pos k1];rfl
 rw [df k1,if_neg k1,cf]
 by_cases k2:a.kind=2
 ·rw [dt k2,if_pos k2];rfl
 rw [df k2,if_neg k2,cf]
 by_cases k3:a.kind=3
 ·rw [dt k3,if_pos k3];rfl
 rw [df k3,if_neg k3,cf]
 by_cases k4:a.kind=4
 ·rw [dt k4,if_pos k4];rfl
 rw [df k4,if_neg k4,cf]
 by_cases k5:a.kind=5
 ·rw [dt k5,if_pos k5];rfl
 rw [df k5,if_neg k5,cf]
theorem wq {b:ac}{a:al}(hf:BIG≤fu)(h:am b)(ha:SmA a):ua fu b a=some (sE lM b a):=by
 unfold ua sE
 rw [qZ hf ha,bs,rh hf h ha.sets,ri hf h ha.sets,rl hf h,rk hf h ha.ch,qY hf h.sm ha]
 by_cases h2:lM a
 case neg=>rw [B_f h2,if_neg h2];rfl
 rw [B_t h2,if_pos h2]
 have e3:nS b a.name a.sets=yv b a.name a.sets:=if_pos h.ok
 have e4:nP b a.name a.id a.sets=yt b a.name a.id a.sets:=if_pos h.ok
 have e5:nU b a.name a.id=yy b a.name a.id:=if_pos h.ok
 have e6:dM b a.name a.change=gx b a.name a.change:=if_pos h.ok
 simp only [bs,Bool.not_true,cf]
 by_cases k3:a.kind=3
 ·rw [dt k3,ct,sD,if_neg (by omega),if_neg (by omega),if_pos k3,e3]
 rw [df k3,cf]
 by_cases k4:a.kind=4
 ·rw [dt k4,ct,sD,if_neg (by omega),if_neg (by omega),if_neg (by omega),if_pos k4,e4]
 rw [df k4,cf]
 by_cases k5:a.kind=5
 ·rw [dt k5,ct,sD,if_neg (by omega),if_neg (by omega),if_neg (by omega),if_neg (by omega),if_pos k5,e5]
 rw [df k5,cf]
 by_cases k6:a.kind=6
 ·rw [dt k6,ct,sD,if_neg (by omega),if_neg (by omega),if_neg (by omega),if_neg (by omega),if_neg (by omega),e6]
 rw [df k6,cf]
def zU (l:List al):Prop:=∀ a,a∈l→SmA a
theorem ld {α:Type}[Inhabited α]{l:List α}{i:Nat}(h:i<l.length):l.drop i=l.getD i default::l.drop (i+1):=by
 rw [ae h];exact List.drop_eq_getElem_cons h
theorem pv {b:ac}{acts:List al}(hf:BIG≤fu)(hb:SmB b)(hl:acts.length≤1000)(ha:zU acts):∀ (m n i:Nat) (x:ac),i+m=acts.length→m<n→am x→fM fu b acts n (i:Int) x=some (lJ lM b (acts.drop i) x i):=by
 intro m
 induction m with
 | zero=>
  intro n i x hi hn hx
  obtain ⟨n,rfl⟩:∃ z,n=z+1:=⟨n-1,by omega⟩
  have:i=acts.length:=by omega
  subst this
  rw [fM,nlt,cf,a8 hf hx.sm,bs,List.drop_length,lJ]
 | succ m ih=>
  intro n i x hi hn hx
  obtain ⟨n,rfl⟩:∃ z,n=z+1:=⟨n-1,by omega⟩
  have hil:i<acts.length:=by omega
  have hsa:=ha _ (getD_mem (d:=default) hil)
  rw [fM,ltR hil,ct,a8 hf hx.sm,bs,ge0,Bool.and_self,ct,tn,wq hf hx hsa,bs,ld hil,lJ]
  by_cases hz:(sE lM x (acts.getD i default)).2=0
  ·rw [dt hz,if_pos hz,Bool.not_true,cf,aU hil (by unfold BIG;omega)]
   exact ih n (i+1) _ (by omega) (by omega) (lq hx hsa)
  ·rw [df hz,if_neg hz,Bool.not_false,ct,a8 hf hb];rfl
theorem wB {b:ac}{acts:List al}(hf:BIG≤fu)(h:am b)(hl:acts.length≤1000)(ha:zU acts):ui fu b acts=some (jB lM b acts):=by
 unfold ui jB
 rw [a8 hf h.sm,bs,bs,if_pos h.ok]
 by_cases h6:6<acts.length
 ·rw [dt (show (6:Int) < (acts.length:Int) by omega),if_pos h6];rfl
 ·rw [df (show ¬ (6:Int) < (acts.length:Int) by omega),if_neg h6,cf]
  exact pv hf h.sm hl ha acts.length fu 0 b (by omega) (by unfold BIG at hf;omega) h
theorem py {b:ac}{acts:List al}(hf:BIG≤fu)(hb:SmB b)(hl:acts.length≤1000)(ha:zU acts):∀ (m n i:Nat) (x:ac),i+m=acts.length→m<n→am x→fO fu b acts n (i:Int) x=some (lJ lM b (acts.drop i) x i):=by
 intro m
 induction m with
 | zero=>
  intro n i x hi hn hx
  obtain ⟨n,rfl⟩:∃ z,n=z+1:=⟨n-1,by omega⟩
  have:i=acts.length:=by omega
  subst this
  rw [fO,nlt,cf,List.drop_length,lJ]
 | succ m ih=>
  intro n i x hi hn hx
  obtain ⟨n,rfl⟩:∃ z,n=z+1:=⟨n-1,by omega⟩
  have hil:i<acts.length:=by omega
  have hsa:=ha _ (getD_mem (d:=default) hil)
  have e:zn lM x (acts.getD i default)=sE lM x (acts.getD i default):=if_pos hx.ok
  rw [fO,ltR hil,ct,ge0,Bool.and_self,ct,tn,wF hf hx.sm hsa,bs,e,ld hil,lJ]
  by_cases hz:(sE lM x (acts.getD i default)).2=0
  ·rw [dt hz,if_pos hz,Bool.not_true,cf,aU hil (by unfold BIG;omega)]
   exact ih n (i+1) _ (by omega) (by omega) (lq hx hsa)
  ·rw [df hz,if_neg hz,Bool.not_false,ct,bQ hf hb];rfl
theorem q0 {b:ac}{acts:List al}(hf:BIG≤fu)(h:SmB b)(hl:acts.length≤1000)(ha:zU acts):r7 fu b acts=some (jB lM b acts):=by
 unfold r7
 rw [dK hf h,bs,bQ hf h,bs,bs]
 by_cases h1:ah b
 ·unfold jB
  rw [B_t h1,if_pos h1,Bool.not_true,cf]
  by_cases h6:6<acts.length
  ·rw [dt (show (6:Int) < (acts.length:Int) by omega),if_pos h6];rfl
  ·rw [df (show ¬ (6:Int) < (acts.length:Int) by omega),if_neg h6,cf]
   exact py hf h hl ha acts.length fu 0 b (by omega) (by unfold BIG at hf;omega) ⟨h1,h⟩
 ·unfold jB
  rw [B_f h1,if_neg h1];rfl
theorem jc {b:ac}{acts:List al}(h:am b)(ha:zU acts):am (jB lM b acts).1:=by
 unfold jB
 rw [if_pos h.ok]
 split
 ·exact h
 ·exact ss h h ha
end Go.Proofs.YtganfdhmkdehlaaGreatDoor
/- What is drawn: acts. Nothing fails, and all is small. -/
namespace Go.Proofs.YtganfdhmkdehlaaGreatDoor
open Go Go.HL
variable {fu:Nat}
structure DA (n:Nat) (a:al):Prop where
 sm:SmA a
 sets:a.sets.length≤n
 cols:a.cols.length≤n
 one:ao a.name→a.name.length≤1
theorem sS:SmX []:=⟨by simp,fun _ h=>(nomatch h),fun _ h=>nomatch h⟩
theorem sT:SmS []:=⟨by simp,fun _ h=>nomatch h⟩
theorem dw:iG gK:=⟨by decide,by decide,by decide,by decide⟩
theorem fa:SmL kA:=⟨by decide,by decide,by decide⟩
theorem oD {n:Nat}{k id:Int}{nm:List UInt8}{xs:List Set}{cs:List Col}{c:aa}{l:aj}(hn:nm.length≤1)(hx:SmX9 xs)(hs:SmS cs∧cs.length≤900)(hc:iG c)(hl:SmL l)(h9:900≤n):DA n ⟨k,nm,id,xs,cs,c,l⟩:=
 ⟨⟨by show nm.length≤1000;omega,hx.1,hs.1,hc,hl⟩,Nat.le_trans hx.2 h9,Nat.le_trans hs.2 h9,fun _=>hn⟩
theorem x9:SmX9 []:=⟨sS,by simp⟩
theorem s9:SmS []∧([]:List Col).length≤900:=⟨sT,by simp⟩
theorem Co {s:List Col}(h:ak s):SmS s∧s.length≤900:=⟨h.sm,by have:=h.hi;omega⟩
theorem BQ {r:Rd}{b:ac}{m:Nat}(hf:BIG≤fu)(h:cx r m)(hm:m≤500000)(hb:am b):aI (uk fu r b) (DA 900) (m+8060):=by
 unfold uk
 by_cases h0:b.tabs.length=0
 ·rw [dt (show (List.length b.tabs:Int)=0 by omega),ct]
  exact (d1170 hf h (by omega)).bind fun s r2 hs hr2=>.pure (oD (by decide) x9 hs dw fa (Nat.le_refl _)) (hr2.mono (by omega))
 rw [df (show ¬ (List.length b.tabs:Int)=0 by omega),cf]
 refine (BT hf h (by omega) hb.sm).bind fun q4 r1 hq4 hr1=>?_
 simp only
 rw [aZ hf hb.sm.ntab,bs]
 refine (d74 hr1 (by omega)).bind fun q6 r2 _ hr2=>?_
 simp only
 have e1:aI (fN fu b (q4,r1) (mD b q4.1) (q6,r2)) (DA 900) (m+8060):=by
  unfold fN
  rw [eb]
  by_cases hk:tabN b q4.1<b.tabs.length
  ·rw [B_t hk,ct,aF hk]
   exact (A7 hf hr2 (by omega) hb hk).bind fun xs r3 hx hr3=>.pure (oD hq4 hx s9 dw fa (Nat.le_refl _)) (hr3.mono (by omega))
  ·rw [B_f hk,cf]
   exact (d1170 hf hr2 (by omega)).bind fun s r3 hs hr3=>.pure (oD hq4 x9 hs dw fa (Nat.le_refl _)) (hr3.mono (by omega))
 have e3:∀ bl,aI (ia fu b (q4,r1) (mD b q4.1) (q6,r2) bl) (DA 900) (m+8060):=fun bl=>by
  unfold ia
  cases bl with
  | false=>exact e1
  | true=>
   rw [ct,eb]
   by_cases hk:tabN b q4.1<b.tabs.length
   ·have g:=hb.tabT hk
    have hhi:=g.rt.okLast.hi
    rw [B_t hk,ct,aF hk,ltR hk,Bool.and_self,ct,tn,aR,eW hf g.rt,bs]
    exact (d70 hf (by omega) g.rt.okLast.sm hr2 (by omega)).bind fun c r3 hc hr3=>.pure (oD hq4 x9 s9 hc fa (Nat.le_refl _)) (hr3.mono (by omega))
   ·rw [B_f hk,cf];exact e1
 have e2:∀ bl,aI (ib fu b (q4,r1) (mD b q4.1) (q6,r2) bl) (DA 900) (m+8060):=fun bl=>by
  unfold ib
  cases bl with
  | true=>
   rw [ct,eb]
   by_cases hk:tabN b q4.1<b.tabs.length
   ·rw [B_t hk,ct,aF hk]
    exact (A7 hf hr2 (by omega) hb hk).bind fun xs r3 hx hr3=>.pure (oD hq4 hx s9 dw fa (Nat.le_refl _)) (hr3.mono (by omega))
   ·rw [B_f hk,cf];exact e1
  | false=>
   rw [cf]
   cases decide (q6=5) with
   | true=>rw [ct];exact e3 _
   | false=>rw [cf];exact e3 _
 cases decide (q6=0) with
 | true=>
  rw [ct]
  refine (d96 hr2 (by omega) (by decide)).bind fun nm r3 hnm hr3=>?_
  exact (Cd hf hr3 (by omega)).bind fun s r4 hs hr4=>.pure (oD (xM (by rfl) nm hnm) x9 (Co hs) dw fa (Nat.le_refl _)) (hr4.mono (by omega))
 | false=>
  rw [cf]
  cases decide (q6=1) with
  | true=>exact (BU hf hr2 (by omega) hb.g).bind fun l r3 hl hr3=>.pure (oD (by decide) x9 s9 dw hl (Nat.le_refl _)) (hr3.mono (by omega))
  | false=>
   rw [cf]
   cases decide (q6=2) with
   | true=>exact .pure (oD hq4 x9 s9 dw fa (Nat.le_refl _)) (hr2.mono (by omega))
   | false=>
    rw [cf]
    cases decide (q6=3) with
    | true=>rw [ct];exact e2 _
    | false=>rw [cf];exact e2 _
theorem xv {r:Rd}{a:al}{n m:Nat}(h:cx r m)(hm:m≤900000)(ha:DA n a)(hn:n≤990):aI (ou fu r a) (DA (n+1)) (m+2):=by
 have hu:DA (n+1) a:=⟨ha.sm,by have:=ha.sets;omega,by have:=ha.cols;omega,ha.one⟩
 have hs1:=ha.sets
 have hs2:=ha.cols
 unfold ou
 refine (d74 h (by omega)).bind fun q r1 _ hr1=>?_
 simp only
 cases decide (q=0) with
 | true=>exact (d73 hr1 (by omega) (by decide)).bind fun x r2 _ hr2=>.pure ⟨⟨hu.sm.name,hu.sm.sets,hu.sm.cols,hu.sm.ch,hu.sm.link⟩,hu.sets,hu.cols,hu.one⟩ hr2
 | false=>
  rw [cf]
  cases decide (q=1) with
  | true=>
   refine (d96 hr1 (by omega) (by decide)).bind fun x r2 hx hr2=>.pure ⟨⟨sm_short (by rfl) x hx,hu.sm.sets,hu.sm.cols,hu.sm.ch,hu.sm.link⟩,hu.sets,hu.cols,fun hh=>?_⟩ hr2
   have h3:x.length≤3:=hh.2.2
   simp only [List.mem_cons,List.not_mem_nil,or_false] at hx
   rcases hx with rfl|rfl|rfl
   ·exact Nat.zero_le _
   ·exact Nat.le_refl _
   ·exact absurd h3 (by decide)
  | false=>
   rw [cf]
   cases decide (q=2) with
   | true=>exact (d73 hr1 (by omega) (by decide)).bind fun x r2 _ hr2=>.pure ⟨⟨hu.sm.name,hu.sm.sets,hu.sm.cols,hu.sm.ch,hu.sm.link⟩,hu.sets,hu.cols,hu.one⟩ hr2
   | false=>
    rw [cf]
    cases decide (q=3) with
    | true=>
     rw [ct,cap (by simp;omega),ct,cap (by simp;omega),ct]
     have hx:SmX (([]:List Set)++a.sets++[⟨[65],d0_49.val⟩]):=sU (by rw [List.nil_append];exact ha.sm.sets) (by rw [List.nil_append];omega) nul_ok.sm (by decide)
     exact .pure ⟨⟨hu.sm.name,hx,hu.sm.cols,hu.sm.ch,hu.sm.link⟩,by simp;omega,hu.cols,hu.one⟩ (hr1.mono (by omega))
    | false=>
     rw [cf]
     cases decide (q=4) with
     | true=>
      rw [ct,cap (by simp;omega),ct,cap (by simp;omega),ct]
      have hx:SmS (([]:List Col)++a.cols++[⟨[113],d0_52.kind,d0_52.need,d0_52.once,d0_52.def_⟩]):=⟨by simp;omega,fun c hc=>by
       rw [List.nil_append] at hc
       rcases List.mem_append.1 hc with hc|hc
       ·exact ha.sm.cols.all c hc
       ·rw [List.mem_singleton] at hc
        rw [hc]
        exact ⟨by decide,nul_ok.sm⟩⟩
      exact .pure ⟨⟨hu.sm.name,hu.sm.sets,hx,hu.sm.ch,hu.sm.link⟩,hu.sets,by simp;omega,hu.one⟩ (hr1.mono (by omega))
     | false=>
      rw [cf]
      cases decide (q=5) with
      | true=>exact .pure ⟨⟨hu.sm.name,hu.sm.sets,hu.sm.cols,⟨hu.sm.ch.name,show ([113]:List UInt8).length≤1000 by decide,hu.sm.ch.col⟩,hu.sm.link⟩,hu.sets,hu.cols,hu.one⟩ (hr1.mono (by omega))
      | false=>exact .pure hu (hr1.mono (by omega))
end Go.Proofs.YtganfdhmkdehlaaGreatDoor
/- Logs: what they play, and what is drawn. -/
namespace Go.Proofs.YtganfdhmkdehlaaGreatDoor
open Go Go.HL
variable {fu:Nat}
noncomputable def iO:List (List al)→ac→ac×Bool
 | [],b=>(b,true)
 | t::l,b=>@ite _ ((jB lM b t).2.1=0∧t≠[]) (Classical.propDecidable _) (iO l (jB lM b t).1) (ly,false)
structure fC (L n:Nat) (log:List (List al)):Prop where
 len:log.length≤L
 all:∀ t,t∈log→t.length≤3∧∀ a,a∈t→DA n a
theorem fC.get {L n:Nat}{log:List (List al)}(h:fC L n log){k:Nat}(hk:k<log.length):(log.getD k default).length≤1000∧zU (log.getD k default):=
 have g:=h.all _ (getD_mem (d:=default) hk)
 ⟨by omega,fun a ha=>(g.2 a ha).sm⟩
theorem pw {log:List (List al)}{L n:Nat}(hf:BIG≤fu)(hL:L≤1000)(h:fC L n log):∀ (m j i:Nat) (x:ac),i+m=log.length→m<j→am x→dc fu log j (i:Int) x=some (iO (log.drop i) x):=by
 have hl:=h.len
 intro m
 induction m with
 | zero=>
  intro j i x hi hn hx
  obtain ⟨j,rfl⟩:∃ z,j=z+1:=⟨j-1,by omega⟩
  have:i=log.length:=by omega
  subst this
  rw [dc,nlt,cf,List.drop_length,iO]
 | succ m ih=>
  intro j i x hi hn hx
  obtain ⟨j,rfl⟩:∃ z,j=z+1:=⟨j-1,by omega⟩
  have hil:i<log.length:=by omega
  obtain ⟨g1,g2⟩:=h.get hil
  rw [dc,ltR hil,ct,ge0,Bool.and_self,ct,tn,wB hf hx g1 g2,bs,ct,ld hil,iO]
  unfold jQ
  rw [aU hil (by unfold BIG;omega)]
  simp only [bt,BI]
  by_cases hz:(jB lM x (log.getD i default)).2.1=0
  ·by_cases he:log.getD i default=[]
   ·rw [B_t hz,B_t he,if_neg (fun hh=>hh.2 he)];rfl
   ·rw [B_t hz,B_f he,if_pos ⟨hz,he⟩,Bool.not_true,cf,cf]
    exact ih j (i+1) _ (by omega) (by omega) (jc hx g2)
  ·rw [B_f hz,if_neg (fun hh=>hz hh.1)];rfl
theorem px {log:List (List al)}{L n:Nat}(hf:BIG≤fu)(hL:L≤1000)(h:fC L n log):∀ (m j i:Nat) (x:ac),i+m=log.length→m<j→am x→de fu log j (i:Int) x=some (cond (iO (log.drop i) x).2 ((iO (log.drop i) x).1,B (log.length≤15)) (ly,false)):=by
 have hl:=h.len
 intro m
 induction m with
 | zero=>
  intro j i x hi hn hx
  obtain ⟨j,rfl⟩:∃ z,j=z+1:=⟨j-1,by omega⟩
  have:i=log.length:=by omega
  subst this
  rw [de,nlt,cf,List.drop_length,iO,bt,ai (show (log.length:Int)≤15↔log.length≤15 by omega)];rfl
 | succ m ih=>
  intro j i x hi hn hx
  obtain ⟨j,rfl⟩:∃ z,j=z+1:=⟨j-1,by omega⟩
  have hil:i<log.length:=by omega
  obtain ⟨g1,g2⟩:=h.get hil
  rw [de,ltR hil,ct,ge0,Bool.and_self,ct,tn,q0 hf hx.sm g1 g2,bs,ld hil,iO]
  unfold jR
  rw [aU hil (by unfold BIG;omega)]
  simp only [bt,BI]
  by_cases he:log.getD i default=[]
  ·rw [B_t he,if_neg (fun hh=>hh.2 he)];rfl
  ·by_cases hz:(jB lM x (log.getD i default)).2.1=0
   ·rw [B_t hz,B_f he,if_pos ⟨hz,he⟩,Bool.not_true,cf,cf]
    exact ih j (i+1) _ (by omega) (by omega) (jc hx g2)
   ·rw [B_f hz,B_f he,if_neg (fun hh=>hz hh.1)];rfl
noncomputable def zE (log:List (List al)):Bool:=(iO log ly).2&&B (log.length≤15)
theorem wH {log:List (List al)}{L n:Nat}(hf:BIG≤fu)(hL:L≤1000)(h:fC L n log):uo fu log=some (zE log):=by
 have hl:=h.len
 have e:=px hf hL h log.length fu 0 ly (by omega) (by unfold BIG at hf;omega) gL
 unfold uo wE zE
 show ((de fu log fu ((0:Nat):Int) ly).bind _)=_
 rw [e,bs,List.drop_zero]
 cases (iO log ly).2<;>rfl
theorem wG {log:List (List al)}{L n:Nat}(hf:BIG≤fu)(hL:L≤1000)(h:fC L n log):un fu log=some (zE log):=by
 have hl:=h.len
 have e:=pw hf hL h log.length fu 0 ly (by omega) (by unfold BIG at hf;omega) gL
 unfold un wD zE
 show cond _ _ ((dc fu log fu ((0:Nat):Int) ly).bind _)=_
 rw [e,bs,List.drop_zero]
 by_cases h15:log.length≤15
 ·rw [B_t h15,df (show ¬ (15:Int) < (log.length:Int) by omega),cf,Bool.and_true]
 ·rw [B_f h15,dt (show (15:Int) < (log.length:Int) by omega),ct,Bool.and_false]
theorem wn {l:List al}{n:Nat}(hf:BIG≤fu)(hl:l.length≤1000)(h:∀ a,a∈l→DA n a)(hn:n≤1000):wo fu l=some l:=by
 have key:∀ (m j i:Nat),i+m=l.length→m<j→fJ l j (i:Int) (l.take i)=some l:=by
  intro m
  induction m with
  | zero=>
   intro j i hi hj
   obtain ⟨j,rfl⟩:∃ z,j=z+1:=⟨j-1,by omega⟩
   have:i=l.length:=by omega
   subst this
   rw [fJ,nlt,cf,List.take_length]
  | succ m ih=>
   intro j i hi hj
   obtain ⟨j,rfl⟩:∃ z,j=z+1:=⟨j-1,by omega⟩
   have hil:i<l.length:=by omega
   have g:=h _ (getD_mem (d:=default) hil)
   have g1:=g.sets
   have g2:=g.cols
   rw [fJ,ltR hil,ct,ge0,Bool.and_self,ct,ct,ct,tn,cap (by rw [List.length_nil];omega),ct,cap (by rw [List.length_nil];omega),ct,cap (by rw [List.length_take,List.length_singleton];omega),ct,aU hil (by unfold BIG;omega)]
   have e:l.take i++[({ ({ l.getD i default with sets:=([]:List Set)++(l.getD i default).sets }:al) with cols:=([]:List Col)++(l.getD i default).cols }:al)]=l.take (i+1):=by
    rw [ae hil,List.take_succ_eq_append_getElem hil];rfl
   rw [e]
   exact ih j (i+1) (by omega) (by omega)
 exact key l.length fu 0 (by omega) (by unfold BIG at hf;omega)
theorem wz {log:List (List al)}{L n:Nat}(hf:BIG≤fu)(hL:L≤1000)(hn:n≤1000)(h:fC L n log):wA fu log=some log:=by
 have hl:=h.len
 have key:∀ (m j i:Nat),i+m=log.length→m<j→eD fu log j (i:Int) (log.take i)=some log:=by
  intro m
  induction m with
  | zero=>
   intro j i hi hj
   obtain ⟨j,rfl⟩:∃ z,j=z+1:=⟨j-1,by omega⟩
   have:i=log.length:=by omega
   subst this
   rw [eD,nlt,cf,List.take_length]
  | succ m ih=>
   intro j i hi hj
   obtain ⟨j,rfl⟩:∃ z,j=z+1:=⟨j-1,by omega⟩
   have hil:i<log.length:=by omega
   have g:=h.all _ (getD_mem (d:=default) hil)
   rw [eD,ltR hil,ct,ge0,Bool.and_self,ct,tn,wn hf (by omega) g.2 hn,bs,cap (by rw [List.length_take,List.length_singleton];omega),ct,aU hil (by unfold BIG;omega)]
   have e:log.take i++[log.getD i default]=log.take (i+1):=by rw [ae hil,List.take_succ_eq_append_getElem hil]
   rw [e]
   exact ih j (i+1) (by omega) (by omega)
 exact key log.length fu 0 (by omega) (by unfold BIG at hf;omega)
theorem fC.snoc {L n:Nat}{log:List (List al)}{t:List al}(h:fC L n log)(h3:t.length≤3)(ht:∀ a,a∈t→DA n a):fC (L+1) n (log++[t]):=⟨by have:=h.len;simp;omega,fun x hx=>by
 rcases List.mem_append.1 hx with hx|hx
 ·exact h.all x hx
 ·rw [List.mem_singleton] at hx;rw [hx];exact ⟨h3,ht⟩⟩
theorem DA.mono {n m:Nat}{a:al}(h:DA n a)(hm:n≤m):DA m a:=⟨h.sm,Nat.le_trans h.sets hm,Nat.le_trans h.cols hm,h.one⟩
theorem fC.mono {L n L' n':Nat}{log:List (List al)}(h:fC L n log)(hL:L≤L')(hn:n≤n'):fC L' n' log:=⟨Nat.le_trans h.len hL,fun t ht=>⟨(h.all t ht).1,fun a ha=>((h.all t ht).2 a ha).mono hn⟩⟩
theorem p3 {m j:Nat}(h:m+24200 * (j+1)≤400000):m+24200≤450000:=by
 rw [Nat.mul_succ] at h
 generalize 24200*j=z at h
 exact Nat.le_trans (Nat.add_le_add_left (Nat.le_add_left 24200 z) m) (Nat.le_trans h (Nat.le_of_ble_eq_true rfl))
theorem yF (hf:BIG≤fu){i4:Int}{out:List (List al)}{L M:Nat}{rec1:Int→List (List al)→ac→Rd→Option (List (List al)×Rd)}(hL:L≤900)(hout:fC L 900 out)(hM:M≤450000)
     (hrec:∀ out' b r,fC (L+1) 900 out'→am b→cx r M→aI (rec1 (IntKind.i64.wrap (i4-1)) out' b r) (fC 15 900) 450000) :
     ∀ (j n m:Nat) (acts:List al) (b:ac) (r:Rd),j<n→acts.length+j≤3→(∀ a,a∈acts→DA 900 a)→cx r m→m+8060*j≤M→am b→aI (bA fu i4 out rec1 n (j:Int) acts b r) (fC 15 900) 450000:=by
 intro j
 induction j with
 | zero=>
  intro n m acts b r hn hlj ha hr hm hb
  obtain ⟨n,rfl⟩:∃ z,n=z+1:=⟨n-1,by omega⟩
  have hlen:=hout.len
  rw [bA]
  show aI (cond (decide (0 < (List.length acts:Int))) _ _) _ _
  unfold ic
  have hr':cx r M:=hr.mono (by omega)
  cases decide (0 < (List.length acts:Int)) with
  | true=>
   rw [ct,cap (by rw [List.length_singleton];omega),ct]
   exact hrec _ _ _ (hout.snoc (by omega) ha) hb hr'
  | false=>exact hrec _ _ _ (hout.mono (Nat.le_succ _) (Nat.le_refl _)) hb hr'
 | succ j ih=>
  intro n m acts b r hn hlj ha hr hm hb
  obtain ⟨n,rfl⟩:∃ z,n=z+1:=⟨n-1,by omega⟩
  rw [bA,dt (show (0:Int) < ((j+1:Nat):Int) by omega),ct]
  have hm5:m≤500000:=by omega
  refine (BQ hf hr hm5 hb).bind fun x r1 hx hr1=>?_
  simp only
  rw [qY hf hb.sm hx.sm,bs]
  have ej:IntKind.i64.wrap (((j+1:Nat):Int)-1)=(j:Int):=by rw [bi]<;>omega
  have h10:∀ bl:Bool,aI (fh ((j+1:Nat):Int) acts b (x,r1) (sD b x) rec1 (bA fu i4 out rec1 n) bl) (fC 15 900) 450000:=fun bl=>by
   unfold fh ie
   rw [ej]
   cases bl with
   | true=>
    rw [ct,cap (by rw [List.length_singleton];omega),ct]
    refine ih n (m+8060) _ _ _ (by omega) (by rw [List.length_append,List.length_singleton];omega) (fun a h=>?_) hr1 (by omega) (oK hb hx.sm)
    rcases List.mem_append.1 h with h|h
    ·exact ha a h
    ·rw [List.mem_singleton] at h;rw [h];exact hx
   | false=>exact ih n (m+8060) _ _ _ (by omega) (by omega) ha hr1 (by omega) hb
  cases decide ((sD b x).2=0) with
  | true=>rw [ct,qZ hf hx.sm,bs];exact h10 _
  | false=>rw [cf];exact h10 _
theorem yG (hf:BIG≤fu):∀ (j n L m:Nat) (out:List (List al)) (b:ac) (r:Rd),j<n→L+j≤15→fC L 900 out→cx r m→m+24200*j≤400000→am b→aI (bB fu n (j:Int) out b r) (fC 15 900) 450000:=by
 intro j
 induction j with
 | zero=>
  intro n L m out b r hn hLj ho hr hm hb
  obtain ⟨n,rfl⟩:∃ z,n=z+1:=⟨n-1,by omega⟩
  rw [bB]
  exact .pure (ho.mono (by omega) (Nat.le_refl _)) (hr.mono (by omega))
 | succ j ih=>
  intro n L m out b r hn hLj ho hr hm hb
  obtain ⟨n,rfl⟩:∃ z,n=z+1:=⟨n-1,by omega⟩
  rw [bB,dt (show (0:Int) < ((j+1:Nat):Int) by omega),ct]
  have hm5:m≤100000000:=by omega
  refine (d74 hr hm5).bind fun q r1 hq hr1=>?_
  simp only
  have hq2:=hq.2 (by decide)
  have hq1:=hq.1
  have ew:IntKind.i64.wrap (1+q)=((1+q.toNat:Nat):Int):=by rw [bi]<;>omega
  have ej:IntKind.i64.wrap (((j+1:Nat):Int)-1)=(j:Int):=by rw [bi]<;>omega
  have h3:1+q.toNat≤3:=by omega
  rw [ew]
  have hM:m+24200≤450000:=p3 hm
  refine yF hf (L:=L) (M:=m+24200) (by omega) ho hM (fun out' b' r' ho' hb' hr'=>?_) (1+q.toNat) fu (m+1) [] b r1 (by unfold BIG at hf;omega) (by rw [List.length_nil];omega) (fun _ h=>nomatch h) hr1 (by omega) hb
  rw [ej]
  exact ih n (L+1) (m+24200) out' b' r' (by omega) (by omega) ho' hr' (by omega) hb'
theorem BR {r:Rd}(hf:BIG≤fu)(h:cx r 0):aI (ul fu r) (fC 15 900) 450000:=by
 unfold ul
 refine (d73 h (by omega) (by decide)).bind fun c r1 hc hr1=>?_
 have hcc:0≤c∧c≤15:=by
  simp only [List.mem_cons,List.not_mem_nil,or_false] at hc
  omega
 obtain ⟨j,rfl⟩:∃ j:Nat,c=(j:Int):=⟨c.toNat,by omega⟩
 exact yG hf j fu 0 1 [] ly r1 (by unfold BIG at hf;omega) (by omega) ⟨by simp,fun _ h=>nomatch h⟩ hr1 (by omega) gL
end Go.Proofs.YtganfdhmkdehlaaGreatDoor
/- Logs that are drawn, bent. -/
namespace Go.Proofs.YtganfdhmkdehlaaGreatDoor
open Go Go.HL
variable {fu:Nat}
theorem fC.set {L n:Nat}{log:List (List al)}{k:Nat}{t:List al}(h:fC L n log)(h3:t.length≤3)(ht:∀ a,a∈t→DA n a):fC L n (log.set k t):=⟨by rw [List.length_set];exact h.len,fun x hx=>by
 rcases List.mem_or_eq_of_mem_set hx with hx|hx
 ·exact h.all x hx
 ·rw [hx];exact ⟨h3,ht⟩⟩
theorem yp {α:Type}{l:List α}(h:0<l.length):(decide (0≤(0:Int))&&decide ((0:Int) < (l.length:Int)))=true:=by simp;omega
theorem A5 {log:List (List al)}{L n k m:Nat}{r:Rd}(h:fC L n log)(hn:n≤950)(hk:k<log.length)(hx:0 < (log.getD k default).length)(hr:cx r m)(hm:m≤500000):aI (m7 fu log (k:Int) r) (fC L (n+4)) (m+8):=by
 have g:=h.all _ (getD_mem (d:=default) hk)
 unfold m7
 rw [tn,yp hx,ct]
 have ha:DA n ((log.getD k default).getD (0:Int).toNat default):=g.2 _ (getD_mem (d:=default) (k:=0) hx)
 have q1:m≤900000:=by omega
 have q2:m+2≤900000:=by omega
 have q3:m+2+2≤900000:=by omega
 have q4:m+2+2+2≤900000:=by omega
 have n1:n≤990:=by omega
 have n2:n+1≤990:=by omega
 have n3:n+1+1≤990:=by omega
 have n4:n+1+1+1≤990:=by omega
 refine (xv hr q1 ha n1).bind fun a1 r1 h1 hr1=>?_
 refine (xv hr1 q2 h1 n2).bind fun a2 r2 h2 hr2=>?_
 refine (xv hr2 q3 h2 n3).bind fun a3 r3 h3 hr3=>?_
 refine (xv hr3 q4 h3 n4).bind fun a4 r4 h4 hr4=>?_
 refine .pure ?_ hr4
 have hh:fC L (n+4) log:=h.mono (Nat.le_refl _) (Nat.le_add_right _ _)
 refine hh.set (by rw [List.length_set];exact g.1) fun a ha=>?_
 rcases List.mem_or_eq_of_mem_set ha with ha|ha
 ·exact (g.2 a ha).mono (Nat.le_add_right _ _)
 ·rw [ha];exact h4
theorem da_off {n:Nat}:DA n ⟨5,[116],50,d0_2046.sets,d0_2046.cols,d0_2046.change,d0_2046.link⟩:=⟨⟨by decide,sS,sT,dw,fa⟩,Nat.zero_le _,Nat.zero_le _,fun _=>Nat.le_refl _⟩
theorem A6 {log:List (List al)}{L n m:Nat}{r:Rd}(hf:BIG≤fu)(h:fC L n log)(hL:L≤900)(hn:n≤950)(hr:cx r m)(hm:m≤460000):aI (rZ fu r log) (fC (L+1) (n+4)) (m+20):=by
 have hl:=h.len
 have hh:fC (L+1) (n+4) log:=h.mono (Nat.le_succ _) (Nat.le_add_right _ _)
 have s1:m≤100000000:=by omega
 have s2:m+1≤100000000:=by omega
 have s3:m+1+1≤500000:=by omega
 have s4:m+1+1+8≤m+20:=by omega
 have s5:m+1≤m+20:=by omega
 have s6:m+1+1≤m+20:=by omega
 unfold rZ
 rw [wz hf (by omega) (by omega) h,bs]
 refine (d74 hr s1).bind fun q r1 _ hr1=>?_
 simp only
 have stay:aI (some (log,r1)) (fC (L+1) (n+4)) (m+20):=.pure hh (hr1.mono s5)
 have snoc:∀ t:List al,t.length≤3→(∀ a,a∈t→DA n a)→aI (some (log++[t],r1)) (fC (L+1) (n+4)) (m+20):=fun t h1 h2=>.pure ((h.snoc h1 h2).mono (Nat.le_refl _) (Nat.le_add_right _ _)) (hr1.mono s5)
 have hcap:∀ t:List al,decide (List.length log+List.length [t]≤CAP)=true:=fun t=>cap (by rw [List.length_singleton];omega)
 have cut:∀ x,aI (cond (decide (0≤(1:Int))&&decide ((1:Int)≤(List.length log:Int))&&decide ((List.length log:Int)≤(List.length log:Int))) (some ((log.take (List.length log:Int).toNat).drop (1:Int).toNat,r1)) x) (fC (L+1) (n+4)) (m+20)∨log.length=0:=fun x=>by
  by_cases h0:log.length=0
  ·exact .inr h0
  ·rw [dt (show (0:Int)≤1 by decide),dt (show (1:Int)≤(log.length:Int) by omega),dt (show (log.length:Int)≤(log.length:Int) from Int.le_refl _)]
   refine .inl (.pure ?_ (hr1.mono s5))
   rw [tn,List.take_length]
   exact ⟨by rw [List.length_drop];omega,fun t ht=>hh.all t (List.mem_of_mem_drop ht)⟩
 cases decide (q=0) with
 | true=>
  rw [ct]
  rcases cut none with hc|h0
  ·cases decide (0 < (List.length log:Int)) with
   | true=>exact hc
   | false=>exact stay
  ·rw [df (show ¬ 0 < (List.length log:Int) by omega)];exact stay
 | false=>
  rw [cf]
  cases decide (q=1) with
  | true=>
   rw [ct]
   obtain ⟨x,hx,hx1,hx2⟩:=wJ (n:=(List.length log:Int))
   rw [hx,bs]
   refine (d74 hr1 s2).bind fun k0 r2 hk0 hr2=>?_
   simp only
   by_cases h0:0<log.length
   ·rw [dt (show 0 < (List.length log:Int) by omega),ct]
    have hxe:=hx2 (by omega)
    obtain ⟨k,rfl⟩:∃ k:Nat,k0=(k:Int):=⟨k0.toNat,by have:=hk0.1;omega⟩
    have hk:k<log.length:=by have:=hk0.2 hx1;omega
    rw [inR hk,ct,tn]
    by_cases h1:0 < (log.getD k default).length
    ·rw [dt (show 0 < (List.length (log.getD k default):Int) by omega),ct]
     exact (A5 h hn hk h1 hr2 s3).mono (fun _ hd=>hd.mono (Nat.le_succ _) (Nat.le_refl _)) s4
    ·rw [df (show ¬ 0 < (List.length (log.getD k default):Int) by omega),cf]
     exact .pure hh (hr2.mono s6)
   ·rw [df (show ¬ 0 < (List.length log:Int) by omega),cf]
    exact .pure hh (hr2.mono s6)
  | false=>
   rw [cf]
   cases decide (q=2) with
   | true=>rw [ct,hcap,ct];exact snoc [] (by decide) fun _ h=>nomatch h
   | false=>
    rw [cf]
    cases decide (q=3) with
    | true=>
     rw [ct]
     by_cases h0:0<log.length
     ·rw [dt (show 0 < (List.length log:Int) by omega),ct,dt (show (0:Int)≤0 by decide),Bool.and_self,ct,hcap,ct]
      have g:=h.all _ (getD_mem (d:=default) (k:=0) h0)
      exact snoc _ g.1 g.2
     ·rw [df (show ¬ 0 < (List.length log:Int) by omega),cf]
      exact stay
    | false=>
     rw [cf]
     cases decide (q=4) with
     | true=>
      rw [ct,hcap,ct]
      exact snoc [_] (by rw [List.length_singleton];omega) fun a ha=>by rw [List.mem_singleton] at ha;rw [ha];exact da_off
     | false=>exact stay
theorem BS {a:List Int}(hf:BIG≤fu)(ha:∀ b,b∈a→0≤b∧b≤255):∃ log,uq fu a=some log∧fC 17 908 log:=by
 obtain ⟨r,e,hr⟩:=d60 (fu:=fu) ha
 obtain ⟨l1,r1,e1,h1,hr1⟩:=BR (fu:=fu) hf hr
 obtain ⟨l2,r2,e2,h2,hr2⟩:=A6 (fu:=fu) hf h1 (by decide) (by decide) hr1 (by decide)
 obtain ⟨l3,r3,e3,h3,-⟩:=A6 (fu:=fu) hf h2 (by decide) (by decide) hr2 (by decide)
 unfold uq
 rw [e,bs,e1,bs]
 simp only
 rw [e2,bs]
 simp only
 rw [e3]
 exact ⟨l3,rfl,h3⟩
end Go.Proofs.YtganfdhmkdehlaaGreatDoor
/- The law: a log is right just if each time of it could be done behind those ahead of it. -/
namespace Go.Proofs.YtganfdhmkdehlaaGreatDoor
open Go Go.HL
variable {fu:Nat}
theorem BJ {log:List (List al)}{q2:Bool}(hf:BIG≤fu)(h:fC 17 908 log):∀ (m j i:Nat) (R:Bool) (x:ac),i+m=log.length→m<j→(R=true→am x∧q2=(iO (log.drop i) x).2)→(R=false→q2=false)→cA fu log q2 j R (i:Int) x=some true:=by
 have hl:=h.len
 have stop:∀ (i:Int) (x:ac) (rec1:Bool→Int→ac→Option Bool),fP fu log false false i x rec1 false=some true:=fun i x rec1=>rfl
 intro m
 induction m with
 | zero=>
  intro j i R x hi hj h1 h2
  obtain ⟨j,rfl⟩:∃ z,j=z+1:=⟨j-1,by omega⟩
  have:i=log.length:=by omega
  subst this
  rw [cA,nlt,cf]
  cases R with
  | false=>rw [h2 rfl];exact stop _ _ _
  | true=>
   obtain ⟨hg,e⟩:=h1 rfl
   rw [List.drop_length,iO] at e
   rw [e]
   unfold fP ig
   rw [cf,dK hf hg.sm,B_t hg.ok];rfl
 | succ m ih=>
  intro j i R x hi hj h1 h2
  obtain ⟨j,rfl⟩:∃ z,j=z+1:=⟨j-1,by omega⟩
  have hil:i<log.length:=by omega
  rw [cA,ltR hil,ct]
  cases R with
  | false=>rw [h2 rfl];exact stop _ _ _
  | true=>
   obtain ⟨hg,e⟩:=h1 rfl
   obtain ⟨g1,g2⟩:=h.get hil
   unfold fP jS
   rw [ct,ge0,ltR hil,Bool.and_self,ct,tn,q0 hf hg.sm g1 g2,bs,aU hil (by unfold BIG;omega),ct]
   rw [ld hil,iO] at e
   simp only [bt,BH]
   by_cases hz:(jB lM x (log.getD i default)).2.1=0
   ·rw [B_t hz,ct]
    by_cases he:log.getD i default=[]
    ·rw [if_neg (fun hh=>hh.2 he)] at e
     exact ih j (i+1) _ _ (by omega) (by omega) (fun hh=>absurd (gy.1 hh) (fun hn=>hn he)) fun _=>e
    ·rw [if_pos ⟨hz,he⟩] at e
     exact ih j (i+1) _ _ (by omega) (by omega) (fun _=>⟨jc hg g2,e⟩) fun hh=>absurd (B4.1 hh) (fun hn=>hn he)
   ·rw [B_f hz,cf]
    rw [if_neg (fun hh=>hz hh.1)] at e
    exact ih j (i+1) false _ (by omega) (by omega) (fun hh=>nomatch hh) fun _=>e
theorem yE (hf:BIG≤fu)(a:List Int)(ha:∀ b,b∈a→0≤b∧b≤255):wI fu a=some true:=by
 unfold wI
 refine uY ?_
 obtain ⟨log,e,h⟩:=BS (fu:=fu) hf ha
 have hl:=h.len
 rw [e,bs,wH hf (by decide) h,bs,wG hf (by decide) h,bs,beq_self_eq_true,Bool.not_true,cf]
 refine BJ hf h log.length fu 0 _ ly (by omega) (by unfold BIG at hf;omega) (fun hh=>⟨gL,?_⟩) fun hh=>?_
 ·have:log.length≤15:=by have:=of_decide_eq_true hh;omega
  unfold zE
  rw [List.drop_zero,B_t this,Bool.and_true]
 ·have:¬ log.length≤15:=by have:=of_decide_eq_false hh;omega
  unfold zE
  rw [B_f this,Bool.and_false]
end Go.Proofs.YtganfdhmkdehlaaGreatDoor
