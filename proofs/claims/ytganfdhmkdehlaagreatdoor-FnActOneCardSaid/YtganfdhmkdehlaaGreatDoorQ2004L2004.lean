/- What is done to a base, and several things at once: the model. -/
import Derived.Test.YtganfdhmkdehlaaGreatDoorQ2004M37
import Derived.Test.YtganfdhmkdehlaaGreatDoorQ2004B20
import Derived.KernelRfl
set_option linter.all false
namespace Go.Proofs.YtganfdhmkdehlaaGreatDoor
open Go Go.HL
variable {fu:Nat}
def gS:aa:=⟨0,[],[],nilCol⟩
def kU:aj:=⟨[],[],[],0⟩
structure SmA (a:bj):Prop where
 name:a.name.length≤1000
 sets:SmX a.sets
 cols:SmS a.cols
 ch:iQ a.change
 link:SmL a.link
noncomputable def ye (b:ac) (a:bj):ac×Int:=
 if a.kind=1 then tableBB b a.name a.cols else if a.kind=2 then linkBB b a.link else if a.kind=3 then kL b a.name a.sets
 else if a.kind=4 then kI b a.name a.id a.sets else if a.kind=5 then kS b a.name a.id else cN b a.name a.change
theorem vW {b:ac}{a:bj}(h:av b)(ha:SmA a):av (ye b a).1:=by
 unfold ye
 split
 ·exact cO h
 split
 ·exact eJ h
 split
 ·exact sj h ha.sets
 split
 ·exact sh h ha.sets
 split
 ·exact ss h
 ·exact nV h ha.ch
section
variable (ok:bj→Prop)
open Classical in
noncomputable def r8 (b:ac) (a:bj):ac×Int:=if ok a then ye b a else (b,1)
open Classical in
noncomputable def jJ (b:ac) (a:bj):ac×Int:=if ah b then r8 ok b a else (nilB,1)
noncomputable def o3 (b0:ac):List bj→ac→Nat→ac×Int×Int
 | [],x,n=>(x,0,(n:Int))
 | a::l,x,n=>if (r8 ok x a).2=0 then o3 b0 l (r8 ok x a).1 (n+1) else (b0,(r8 ok x a).2,(n:Int))
open Classical in
noncomputable def nY (b:ac) (acts:List bj):ac×Int×Int:=if ah b then (if 6<acts.length then (b,4,0) else o3 ok b acts b 0) else (nilB,1,0)
end
section
variable {ok:bj→Prop}{b0 x:ac}{l l':List bj}{n:Nat}
theorem pf {b:ac}{a:bj}(h:av b)(ha:SmA a):av (r8 ok b a).1:=by
 unfold r8
 split
 ·exact vW h ha
 ·exact h
end
def fO (xs:List Set):Prop:=xs.length≤5∧∀ x,x∈xs→am x.name∧ValOK x.val
def ChD (c:aa):Prop:=
 (c.kind=1∧dC c.col∧c.name=[]∧c.new=[])∨(c.kind=2∧am c.name∧c.new=[]∧c.col=nilCol)∨(c.kind=3∧am c.name∧am c.new∧c.col=nilCol)
 ∨(c.kind=4∧am c.name∧c.new=[]∧(c.col = { nilCol with kind:=1 }∨c.col = { nilCol with kind:=2 }))
def ChP (c:aa):Prop:=
 Named c∧(c.kind=1→dC c.col)∧(c.kind=2→am c.name)∧(c.kind=3→am c.name∧am c.new)∧(c.kind≠1→c.kind≠2→c.kind≠3→am c.name∧(c.col.kind=1∨c.col.kind=2))
theorem vK {c:aa}:ChP c↔ChD c:=by
 constructor
 ·rintro ⟨h | h | h | h,h1,h2,h3,h4⟩
  ·exact .inl ⟨h.1,h1 h.1,h.2.1,h.2.2⟩
  ·exact .inr (.inl ⟨h.1,h2 h.1,h.2.1,h.2.2⟩)
  ·exact .inr (.inr (.inl ⟨h.1,(h3 h.1).1,(h3 h.1).2,h.2⟩))
  ·have h5:=h4 (by omega) (by omega) (by omega)
   refine .inr (.inr (.inr ⟨h.1,h5.1,h.2.1,?_⟩))
   rcases h5.2 with e|e
   ·left;rw [h.2.2,e]
   ·right;rw [h.2.2,e]
 ·rintro (h | h | h | h)
  ·exact ⟨.inl ⟨h.1,h.2.2.1,h.2.2.2⟩,fun _=>h.2.1,fun e=>by omega,fun e=>by omega,fun e=>by omega⟩
  ·exact ⟨.inr (.inl ⟨h.1,h.2.2.1,h.2.2.2⟩),fun e=>by omega,fun _=>h.2.1,fun e=>by omega,fun _ e=>by omega⟩
  ·exact ⟨.inr (.inr (.inl ⟨h.1,h.2.2.2⟩)),fun e=>by omega,fun e=>by omega,fun _=>⟨h.2.1,h.2.2.1⟩,fun _ _ e=>by omega⟩
  ·refine ⟨.inr (.inr (.inr ⟨h.1,h.2.2.1,?_⟩)),fun e=>by omega,fun e=>by omega,fun e=>by omega,fun _ _ _=>⟨h.2.1,?_⟩⟩
   ·rcases h.2.2.2 with e|e<;>rw [e]
   ·rcases h.2.2.2 with e|e<;>rw [e]
    ·exact .inl rfl
    ·exact .inr rfl
def LinkD (l:aj):Prop:=am l.from_∧am l.col∧am l.to∧1≤l.how∧l.how≤3
def qy (cs:List Col):Prop:=1≤cs.length∧cs.length≤5∧∀ c,c∈cs→dC c
structure qA (a:bj):Prop where
 link:a.kind≠2→a.link=kU
 noname:a.kind=2→a.name=[]
 change:a.kind≠6→a.change=gS
 cols:a.kind≠1→a.cols=[]
 sets:a.kind≠3→a.kind≠4→a.sets=[]
 id0:a.kind≠4→a.kind≠5→a.id=0
 name:a.kind≠2→am a.name
 lo:0≤a.id
 hi:a.id≤60
 kind:(a.kind=1∧qy a.cols)∨(a.kind=2∧LinkD a.link)∨((a.kind=3∨a.kind=4)∧fO a.sets)∨a.kind=5∨(a.kind=6∧ChD a.change)
def CH (a:bj):Prop:=
 (a.kind=1∧a.id=0∧a.sets=[]∧a.change=gS∧a.link=kU∧am a.name∧qy a.cols)
 ∨(a.kind=2∧a.id=0∧a.sets=[]∧a.cols=[]∧a.change=gS∧a.name=[]∧LinkD a.link)
 ∨(a.kind=3∧a.id=0∧a.cols=[]∧a.change=gS∧a.link=kU∧am a.name∧fO a.sets)
 ∨(a.kind=4∧a.cols=[]∧a.change=gS∧a.link=kU∧am a.name∧fO a.sets∧0≤a.id∧a.id≤60)
 ∨(a.kind=5∧a.sets=[]∧a.cols=[]∧a.change=gS∧a.link=kU∧am a.name∧0≤a.id∧a.id≤60)
 ∨(a.kind=6∧a.id=0∧a.sets=[]∧a.cols=[]∧a.link=kU∧am a.name∧ChP a.change)
theorem yd {a:bj}:CH a↔qA a:=by
 constructor
 ·rintro (h | h | h | h | h | h)
  ·obtain ⟨k,h1,h2,h3,h4,h5,h6⟩:=h
   exact ⟨fun _=>h4,fun e=>by omega,fun _=>h3,fun e=>absurd k e,fun _ _=>h2,fun _ _=>h1,fun _=>h5,by omega,by omega,.inl ⟨k,h6⟩⟩
  ·obtain ⟨k,h1,h2,h3,h4,h5,h6⟩:=h
   exact ⟨fun e=>absurd k e,fun _=>h5,fun _=>h4,fun _=>h3,fun _ _=>h2,fun _ _=>h1,fun e=>absurd k e,by omega,by omega,.inr (.inl ⟨k,h6⟩)⟩
  ·obtain ⟨k,h1,h2,h3,h4,h5,h6⟩:=h
   exact ⟨fun _=>h4,fun e=>by omega,fun _=>h3,fun _=>h2,fun e=>absurd k e,fun _ _=>h1,fun _=>h5,by omega,by omega,.inr (.inr (.inl ⟨.inl k,h6⟩))⟩
  ·obtain ⟨k,h1,h2,h3,h4,h5,h6,h7⟩:=h
   exact ⟨fun _=>h3,fun e=>by omega,fun _=>h2,fun _=>h1,fun _ e=>absurd k e,fun e=>absurd k e,fun _=>h4,h6,h7,.inr (.inr (.inl ⟨.inr k,h5⟩))⟩
  ·obtain ⟨k,h1,h2,h3,h4,h5,h6,h7⟩:=h
   exact ⟨fun _=>h4,fun e=>by omega,fun _=>h3,fun _=>h2,fun _ _=>h1,fun _ e=>absurd k e,fun _=>h5,h6,h7,.inr (.inr (.inr (.inl k)))⟩
  ·obtain ⟨k,h1,h2,h3,h4,h5,h6⟩:=h
   exact ⟨fun _=>h4,fun e=>by omega,fun e=>absurd k e,fun _=>h3,fun _ _=>h2,fun _ _=>h1,fun _=>h5,by omega,by omega,.inr (.inr (.inr (.inr ⟨k,vK.1 h6⟩)))⟩
 ·intro h
  rcases h.kind with ⟨k,g⟩|⟨k,g⟩|⟨k|k,g⟩|k|⟨k,g⟩
  ·exact .inl ⟨k,h.id0 (by omega) (by omega),h.sets (by omega) (by omega),h.change (by omega),h.link (by omega),h.name (by omega),g⟩
  ·exact .inr (.inl ⟨k,h.id0 (by omega) (by omega),h.sets (by omega) (by omega),h.cols (by omega),h.change (by omega),h.noname k,g⟩)
  ·exact .inr (.inr (.inl ⟨k,h.id0 (by omega) (by omega),h.cols (by omega),h.change (by omega),h.link (by omega),h.name (by omega),g⟩))
  ·exact .inr (.inr (.inr (.inl ⟨k,h.cols (by omega),h.change (by omega),h.link (by omega),h.name (by omega),g,h.lo,h.hi⟩)))
  ·exact .inr (.inr (.inr (.inr (.inl ⟨k,h.sets (by omega) (by omega),h.cols (by omega),h.change (by omega),h.link (by omega),h.name (by omega),h.lo,h.hi⟩))))
  ·exact .inr (.inr (.inr (.inr (.inr ⟨k,h.id0 (by omega) (by omega),h.sets (by omega) (by omega),h.cols (by omega),h.link (by omega),h.name (by omega),vK.2 g⟩))))
theorem nU {b:ac}(h:ah b){nm:List UInt8}{c:aa}(hz:(cN b nm c).2≠0):(cN b nm c).1=b:=by
 have e:cN b nm c=d9 b nm c:=if_pos h
 rw [e] at hz ⊢
 unfold d9 at hz ⊢
 split
 case isFalse=>rfl
 case isTrue hk=>
  rw [if_pos hk] at hz
  split
  ·rfl
  ·rename_i h1
   rw [if_neg h1] at hz
   split
   ·rfl
   ·rename_i h2
    rw [if_neg h2] at hz
    split
    ·rfl
    ·rename_i h3
     rw [if_neg h3] at hz
     exact absurd rfl hz
theorem vV {b:ac}(h:ah b){a:bj}(hz:(ye b a).2≠0):(ye b a).1=b:=by
 unfold ye at hz ⊢
 split
 ·rename_i h1
  rw [if_pos h1] at hz
  rcases tableBB_cases h a.name a.cols with ⟨e,-⟩|⟨-,-,-,-,e⟩
  ·exact e
  ·rw [e] at hz;exact absurd rfl hz
 rename_i h1;rw [if_neg h1] at hz
 split
 ·rename_i h1
  rw [if_pos h1] at hz
  rcases linkBB_cases h a.link with ⟨e,-⟩|⟨-,-,-,-,e⟩
  ·exact e
  ·rw [e] at hz;exact absurd rfl hz
 rename_i h1;rw [if_neg h1] at hz
 split
 ·rename_i h1
  rw [if_pos h1] at hz
  rcases putBB_cases h a.name a.sets with ⟨e,-⟩|⟨-,-,e⟩
  ·exact e
  ·rw [e] at hz;exact absurd rfl hz
 rename_i h1;rw [if_neg h1] at hz
 split
 ·rename_i h1
  rw [if_pos h1] at hz
  rcases setBB_cases h a.name a.id a.sets with ⟨e,-⟩|⟨-,-,e⟩
  ·exact e
  ·rw [e] at hz;exact absurd rfl hz
 rename_i h1;rw [if_neg h1] at hz
 split
 ·rename_i h1
  rw [if_pos h1] at hz
  rcases offBB_cases h a.name a.id with ⟨-,e⟩|⟨-,-,e⟩|⟨-,-,e⟩
  ·rw [e]
  ·rw [e]
  ·rw [e] at hz;exact absurd rfl hz
 rename_i h1;rw [if_neg h1] at hz
 exact nU h hz
section
variable {ok:bj→Prop}{b:ac}{a:bj}
theorem vX (h:ah b)(hz:(r8 ok b a).2≠0):(r8 ok b a).1=b:=by
 unfold r8 at hz ⊢
 split
 ·rename_i h1
  rw [if_pos h1] at hz
  exact vV h hz
 ·rfl
theorem zX (h:ah b):(nY ok b [a]).1=(jJ ok b a).1∧(nY ok b [a]).2.1=(jJ ok b a).2∧((nY ok b [a]).2.2=1↔(jJ ok b a).2=0):=by
 unfold nY jJ
 rw [if_pos h,if_pos h,if_neg (by simp),o3]
 by_cases hz:(r8 ok b a).2=0
 ·rw [if_pos hz,o3];exact ⟨rfl,hz.symm,fun _=>hz,fun _=>rfl⟩
 ·rw [if_neg hz]
  exact ⟨(vX h hz).symm,rfl,fun e=>absurd (show ((0:Nat):Int)=1 from e) (by decide),fun e=>absurd e hz⟩
theorem x8 (h:ah b):nY ok b []=(b,0,0):=by
 unfold nY
 rw [if_pos h,if_neg (by simp),o3];rfl
end
theorem Ch {b c:Bool}:cond b (some c) (some false)=some (b&&c):=by cases b<;>rfl
theorem orS {b c:Bool}:cond b (some true) (some c)=some (b || c):=by cases b<;>rfl
theorem C8 {b c:Bool}:cond (!b) (some false) (some c)=some (b&&c):=by cases b<;>rfl
theorem zS {p q r:Prop}:cond (B p) (some (B q)) (some (B r))=some (B ((p∧q)∨(¬ p∧r))):=by
 rw [y0,bW,bW,lQ]
 cases B p<;>simp
theorem Da {α:Type}{l:List α}:((l.length:Int)=0)=(l=[]):=propext ⟨fun h=>List.length_eq_zero_iff.1 (by omega),fun h=>by subst h;rfl⟩
theorem CO {α:Type}{l:List α}:(0 < (l.length:Int))=(l≠[]):=propext ⟨fun h e=>by subst e;simp at h,fun h=>by have:=List.length_pos_iff.2 h;omega⟩
theorem BP:(⟨d0_56.kind,d0_56.name,d0_56.new,d0_56.col⟩:aa)=gS:=rfl
theorem AU:(⟨d0_1044.from_,d0_1044.col,d0_1044.to,d0_1044.how⟩:aj)=kU:=rfl
theorem CC:(⟨d0_52.name,d0_52.kind,d0_52.need,d0_52.once,d0_52.def_⟩:Col)=nilCol:=rfl
theorem cl1:(⟨d0_52.name,1,d0_52.need,d0_52.once,d0_52.def_⟩:Col) = { nilCol with kind:=1 }:=rfl
theorem cl2:(⟨d0_52.name,2,d0_52.need,d0_52.once,d0_52.def_⟩:Col) = { nilCol with kind:=2 }:=rfl
theorem rZ {α:Type}[Inhabited α]{l:List α}{p:α→Prop}:(∀ k,k<l.length→p (l.getD k default))↔∀ x,x∈l→p x:=
 ⟨fun h x hx=>by
  obtain ⟨k,hk,rfl⟩:=g_ hx
  have:=h k hk
  rwa [ae hk] at this,fun h k hk=>h _ (getD_mem hk)⟩
theorem xd {s:List Col}(hf:BIG≤fu)(hs:SmS s):uH fu s=some (B (qy s)):=by
 have hl:=hs.len
 unfold uH qy
 have:=dZ (L:=f2116_l1 fu s) (N:=s.length) (fun k=>dC (s.getD k default)) (1≤s.length∧s.length≤5) (by unfold BIG;omega) (fun n hq=>by
  rw [f2116_l1,nlt,cf,dt (show (1:Int)≤(s.length:Int) by omega),ct,dt (show (s.length:Int)≤5 by omega)];rfl) (fun n hq=>by
  rw [f2116_l1,nlt,cf]
  by_cases h1:(1:Int)≤(s.length:Int)
  ·rw [dt h1,ct,df (show ¬ (s.length:Int)≤5 by omega)];rfl
  ·rw [df h1,cf];rfl) (fun n k hk hp=>by
  rw [f2116_l1,ltR hk,ct,ge0,b_,ct,tn,lx hf (hs.get hk),B_t hp];rfl) (fun n k hk hp=>by
  rw [f2116_l1,ltR hk,ct,ge0,b_,ct,tn,lx hf (hs.get hk),B_f hp];rfl) (fu:=fu) (by unfold BIG at hf;omega)
 rw [this]
 exact congrArg some (ai ⟨fun h=>⟨h.2.1,h.2.2,rZ.1 h.1⟩,fun h=>⟨rZ.2 h.2.2,h.1,h.2.1⟩⟩)
theorem xc {l:aj}(hf:BIG≤fu)(h:SmL l):uG fu l=some (B (LinkD l)):=by
 unfold uG LinkD eO
 rw [d3 hf h.src,d3 hf h.col,d3 hf h.dst]
 simp only [bs,Ch,bL,← bW]
theorem SmX.gn {xs:List Set}(h:SmX xs){k:Nat}(hk:k<xs.length):(xs.getD k default).name.length≤1000:=h.nm _ (getD_mem hk)
theorem xb {xs:List Set}(hf:BIG≤fu)(h:SmX xs):uF fu xs=some (B (fO xs)):=by
 have hl:=h.len
 unfold uF fO
 have step:∀ n (k:Nat),k<xs.length→ci fu xs (n+1) (k:Int)=cond (B (am (xs.getD k default).name∧ValOK (xs.getD k default).val)) (ci fu xs n (IntKind.i64.wrap ((k:Int)+1))) (some false):=fun n k hk=>by
  rw [ci,ltR hk,ct,ge0,b_,ct,tn,d3 hf (h.gn hk),bs,jk hf (h.get hk),bs,bW]
  unfold jV
  cases B (am (xs.getD k default).name)<;>cases B (ValOK (xs.getD k default).val)<;>rfl
 have:=dZ (L:=ci fu xs) (N:=xs.length) (fun k=>am (xs.getD k default).name∧ValOK (xs.getD k default).val) (xs.length≤5) (by unfold BIG;omega) (fun n hq=>by
  rw [ci,nlt,cf,dt (show (xs.length:Int)≤5 by omega)]) (fun n hq=>by
  rw [ci,nlt,cf,df (show ¬ (xs.length:Int)≤5 by omega)]) (fun n k hk hp=>by rw [step n k hk,B_t hp];rfl) (fun n k hk hp=>by rw [step n k hk,B_f hp];rfl) (fu:=fu) (by unfold BIG at hf;omega)
 rw [this]
 exact congrArg some (ai ⟨fun hh=>⟨hh.2,(rZ (p:=fun x:Set=>am x.name∧ValOK x.val)).1 hh.1⟩,fun hh=>⟨(rZ (p:=fun x:Set=>am x.name∧ValOK x.val)).2 hh.2,hh.1⟩⟩)
theorem xa {c:aa}(hf:BIG≤fu)(h:iQ c):uE fu c=some (B (ChD c)):=by
 unfold uE ig ie ic fV
 rw [CC,cl1,cl2,lx hf h.col,d3 hf h.name,d3 hf h.new]
 simp only [bs,Ch,orS,bL,← bW,← y0]
 simp only [zS]
 refine congrArg some (ai ?_)
 unfold ChD
 constructor
 ·rintro (⟨k,hh⟩ | ⟨k1,⟨k,hh⟩ | ⟨k2,⟨k,hh⟩ | ⟨k3,⟨k,hh⟩⟩⟩⟩)
  ·exact .inl ⟨k,hh⟩
  ·exact .inr (.inl ⟨k,hh⟩)
  ·exact .inr (.inr (.inl ⟨k,hh⟩))
  ·exact .inr (.inr (.inr ⟨k,hh⟩))
 ·rintro (⟨k,hh⟩ | ⟨k,hh⟩ | ⟨k,hh⟩ | ⟨k,hh⟩)
  ·exact .inl ⟨k,hh⟩
  ·exact .inr ⟨by omega,.inl ⟨k,hh⟩⟩
  ·exact .inr ⟨by omega,.inr ⟨by omega,.inl ⟨k,hh⟩⟩⟩
  ·exact .inr ⟨by omega,.inr ⟨by omega,.inr ⟨by omega,k,hh⟩⟩⟩
def yj (a:bj):Prop:=
 ((a.kind≠2→a.link=kU)∧(a.kind=2→a.name=[]))∧((a.kind≠6→a.change=gS)∧(a.kind≠1→a.cols=[]))∧(a.kind≠3→a.kind≠4→a.sets=[])∧(a.kind≠4→a.kind≠5→a.id=0)
theorem xe {a:bj}:uI fu a=some (B (yj a)):=by
 unfold uI
 rw [AU]
 have e3:∀ i,fW a i=some (!i&&B (a.kind≠4→a.kind≠5→a.id=0)):=fun i=>by
  unfold fW ii
  simp only [bL,qz,ne_eq,lQ]
  cases i<;>cases B (a.kind=4)<;>cases B (a.kind=5)<;>simp
 have e2:∀ i,dJ a i=some (!i&&(B (a.kind≠3→a.kind≠4→a.sets=[])&&B (a.kind≠4→a.kind≠5→a.id=0))):=fun i=>by
  unfold dJ
  simp only [e3,CO,bL]
  generalize B (a.kind≠4→a.kind≠5→a.id=0)=z
  simp only [bL,qz,ne_eq,lQ]
  cases i<;>cases B (a.kind=3)<;>cases B (a.kind=4)<;>cases B (a.sets=[])<;>simp
 have e1:∀ i,dK a i=some (!i&&((B (a.kind≠6→a.change=gS)&&B (a.kind≠1→a.cols=[]))&&(B (a.kind≠3→a.kind≠4→a.sets=[])&&B (a.kind≠4→a.kind≠5→a.id=0)))):=fun i=>by
  unfold dK
  rw [BP]
  simp only [e2,CO,bL]
  generalize (B (a.kind≠3→a.kind≠4→a.sets=[])&&B (a.kind≠4→a.kind≠5→a.id=0))=z
  simp only [bL,qz,ne_eq,lQ]
  cases i<;>cases B (a.kind=6)<;>cases B (a.change=gS)<;>cases B (a.kind=1)<;>cases B (a.cols=[])<;>simp
 simp only [e1]
 unfold yj
 rw [bW,bW (p:=(a.kind≠6→a.change=gS)∧(a.kind≠1→a.cols=[])),bW (p:=a.kind≠6→a.change=gS),bW (p:=a.kind≠3→a.kind≠4→a.sets=[]),bW (p:=a.kind≠2→a.link=kU)]
 generalize ((B (a.kind≠6→a.change=gS)&&B (a.kind≠1→a.cols=[]))&&(B (a.kind≠3→a.kind≠4→a.sets=[])&&B (a.kind≠4→a.kind≠5→a.id=0)))=z
 simp only [bL,qz,ne_eq,lQ]
 cases B (a.kind=2)<;>cases B (a.link=kU)<;>cases B (a.name=[])<;>simp
def ym (a:bj):Prop:=(a.kind=1∧qy a.cols)∨(a.kind=2∧LinkD a.link)∨((a.kind=3∨a.kind=4)∧fO a.sets)∨a.kind=5∨(a.kind=6∧ChD a.change)
theorem xj {a:bj}(hf:BIG≤fu)(h:SmA a):uM fu a=some (B (qA a)):=by
 have e2:∀ i,ij fu a i=cond i (some (B (fO a.sets))) (some (B (a.kind=5∨(a.kind=6∧ChD a.change)))):=fun i=>by
  unfold ij
  rw [xb hf h.sets,xa hf h.ch]
  simp only [bs,bL]
  rw [y0,bW]
  cases i<;>cases B (a.kind=5)<;>cases B (a.kind=6)<;>cases B (ChD a.change)<;>rfl
 have e1:∀ i,de fu a i=some (!i&&B (ym a)):=fun i=>by
  unfold de ym
  rw [xd hf h.cols,xc hf h.link]
  simp only [bs,e2,bL,y0,bW]
  by_cases k1:a.kind=1
  ·rw [B_t k1,B_f (p:=a.kind=2) (by omega),B_f (p:=a.kind=3) (by omega),B_f (p:=a.kind=4) (by omega),B_f (p:=a.kind=5) (by omega),B_f (p:=a.kind=6) (by omega)]
   cases i<;>cases B (qy a.cols)<;>rfl
  rw [B_f k1]
  by_cases k2:a.kind=2
  ·rw [B_t k2,B_f (p:=a.kind=3) (by omega),B_f (p:=a.kind=4) (by omega),B_f (p:=a.kind=5) (by omega),B_f (p:=a.kind=6) (by omega)]
   cases i<;>cases B (LinkD a.link)<;>rfl
  rw [B_f k2]
  by_cases k3:a.kind=3
  ·rw [B_t k3,B_f (p:=a.kind=4) (by omega),B_f (p:=a.kind=5) (by omega),B_f (p:=a.kind=6) (by omega)]
   cases i<;>cases B (fO a.sets)<;>rfl
  rw [B_f k3]
  by_cases k4:a.kind=4
  ·rw [B_t k4,B_f (p:=a.kind=5) (by omega),B_f (p:=a.kind=6) (by omega)]
   cases i<;>cases B (fO a.sets)<;>rfl
  rw [B_f k4]
  cases i<;>cases B (a.kind=5)<;>cases B (a.kind=6)<;>cases B (ChD a.change)<;>rfl
 unfold uM
 rw [xe,bs,d3 hf h.name,bs]
 simp only [e1]
 have:B (qA a)=(B (yj a)&&(B (a.kind≠2→am a.name)&&((!B (a.id<0))&&((!B (60<a.id))&&B (ym a))))):=by
  rw [← lQ,← lQ,← bW,← bW,← bW,← bW]
  refine ai ⟨fun g=>⟨⟨⟨g.link,g.noname⟩,⟨g.change,g.cols⟩,g.sets,g.id0⟩,g.name,by have:=g.lo;omega,by have:=g.hi;omega,g.kind⟩,?_⟩
  rintro ⟨⟨⟨g1,g2⟩,⟨g3,g4⟩,g5,g6⟩,g7,g8,g9,g10⟩
  exact ⟨g1,g2,g3,g4,g5,g6,g7,by omega,by omega,g10⟩
 rw [this,qz]
 simp only [bL,ne_eq,lQ]
 cases B (yj a)<;>cases B (a.kind=2)<;>cases B (am a.name)<;>cases B (a.id<0)<;>cases B (60<a.id)<;>cases B (ym a)<;>rfl
theorem xh {s:List Col}(hf:BIG≤fu)(hs:SmS s):uK fu s (fun x0=>oR fu x0)=some (!B (∀ c,c∈s→dC c)):=by
 have hl:=hs.len
 have hx:∀ k,k<s.length→oR fu (s.getD k default)=some (!B (dC (s.getD k default))):=fun k hk=>by
  unfold oR
  rw [nS hf (hs.get hk)];rfl
 have:=lS (L:=d8 s (fun x0=>oR fu x0)) s (fun c=>!B (dC c)) (by unfold BIG;omega) (fun n=>by
  rw [d8,nlt,cf]) (fun n k hk hp=>by
  rw [d8,ltR hk,ct,ge0,b_,ct,tn,hx k hk,bs,ae hk,hp,ct]) (fun n k hk hp=>by
  rw [d8,ltR hk,ct,ge0,b_,ct,tn,hx k hk,bs,ae hk,hp,cf]) (fu:=fu) (by unfold BIG at hf;omega)
 unfold uK As
 rw [this,bs]
 have e:decide ((0:Int)≤(if s.findIdx (fun c=>!B (dC c))<s.length then (s.findIdx (fun c=>!B (dC c)):Int) else -1)) = !B (∀ c,c∈s→dC c):=by
  by_cases h:∀ c,c∈s→dC c
  ·rw [B_t h,if_neg fun hh=>?_]
   ·rfl
   ·obtain ⟨x,h1,h2⟩:=List.findIdx_lt_length.1 hh
    rw [B_t (h x h1)] at h2;cases h2
  ·rw [B_f h,if_pos (List.findIdx_lt_length.2 ?_)]
   ·simp
   ·refine c_ fun hh=>h fun c hc=>c_ fun hn=>hh ⟨c,hc,by rw [B_f hn];rfl⟩
 rw [e]
theorem wY {x:Set}(hf:BIG≤fu)(h1:x.name.length≤1000)(h2:SmV x.val):oQ fu x=some (!B (am x.name∧ValOK x.val)):=by
 unfold oQ jU
 rw [d5 hf h1,bs,lu hf h2,bs,bW]
 cases B (am x.name)<;>cases B (ValOK x.val)<;>rfl
theorem xg {xs:List Set}(hf:BIG≤fu)(hs:SmX xs):sH fu xs=some (B (fO xs)):=by
 have hl:=hs.len
 have hx:∀ k,k<xs.length→oQ fu (xs.getD k default)=some (!B (am (xs.getD k default).name∧ValOK (xs.getD k default).val)):=fun k hk=>wY hf (hs.gn hk) (hs.get hk)
 have:=lS (L:=eM xs (fun x0=>oQ fu x0)) xs (fun x=>!B (am x.name∧ValOK x.val)) (by unfold BIG;omega) (fun n=>by
  rw [eM,nlt,cf]) (fun n k hk hp=>by
  rw [eM,ltR hk,ct,ge0,b_,ct,tn,hx k hk,bs,ae hk,hp,ct]) (fun n k hk hp=>by
  rw [eM,ltR hk,ct,ge0,b_,ct,tn,hx k hk,bs,ae hk,hp,cf]) (fu:=fu) (by unfold BIG at hf;omega)
 unfold sH jY wZ wX
 rw [this,bs]
 have e:decide ((0:Int)≤(if xs.findIdx (fun x=>!B (am x.name∧ValOK x.val))<xs.length then (xs.findIdx (fun x=>!B (am x.name∧ValOK x.val)):Int) else -1)) = !B (∀ x,x∈xs→am x.name∧ValOK x.val):=by
  by_cases h:∀ x,x∈xs→am x.name∧ValOK x.val
  ·rw [B_t h,if_neg fun hh=>?_]
   ·rfl
   ·obtain ⟨x,h1,h2⟩:=List.findIdx_lt_length.1 hh
    rw [B_t (h x h1)] at h2;cases h2
  ·rw [B_f h,if_pos (List.findIdx_lt_length.2 ?_)]
   ·simp
   ·refine c_ fun hh=>h fun c hc=>c_ fun hn=>hh ⟨c,hc,by rw [B_f hn];rfl⟩
 rw [e,bs,Bool.not_not]
 unfold fO
 rw [bW,bL,ai (show (xs.length:Int)≤5↔xs.length≤5 by omega)]
 cases B (xs.length≤5)<;>rfl
theorem xf {c:aa}(hf:BIG≤fu)(h:iQ c):uJ fu c=some (B (ChP c)):=by
 unfold uJ jX jW
 rw [u0,nS hf h.col,d5 hf h.name,d5 hf h.new,jA,ai (show (1≤c.col.kind∧c.col.kind≤2)↔(c.col.kind=1∨c.col.kind=2) by omega)]
 simp only [bs,Ch,bL,← bW,zS]
 rw [C8,← bW]
 refine congrArg some (ai ?_)
 unfold ChP
 by_cases k1:c.kind=1
 ·simp [k1]
 by_cases k2:c.kind=2
 ·simp [k2]
 by_cases k3:c.kind=3
 ·simp [k3]
 simp [k1,k2,k3]
theorem xk {a:bj}(hf:BIG≤fu)(h:SmA a):uN fu a=some (B (CH a)):=by
 unfold uN dg ck dO dN dM dL
 rw [BP,AU,d5 hf h.name,d5 hf h.link.src,d5 hf h.link.col,d5 hf h.link.dst,xh hf h.cols,xg hf h.sets,xf hf h.ch]
 simp only [jA,bs,Bool.not_not,Ch,bL,Da,← bW,zS]
 refine congrArg some (ai ?_)
 have hc:((1:Int)≤(a.cols.length:Int)∧(a.cols.length:Int)≤5)↔(1≤a.cols.length∧a.cols.length≤5):=by omega
 unfold CH qy LinkD
 by_cases k1:a.kind=1
 ·simp [k1];grind
 by_cases k2:a.kind=2
 ·simp [k2]
 by_cases k3:a.kind=3
 ·simp [k3]
 by_cases k4:a.kind=4
 ·simp [k4]
 by_cases k5:a.kind=5
 ·simp [k5]
 by_cases k6:a.kind=6
 ·simp [k6]
 simp [k1,k2,k3,k4,k5,k6]
theorem xi {b:ac}{a:bj}(hf:BIG≤fu)(h:SmB b)(ha:SmA a):uL fu b a=some (ye b a):=by
 unfold uL ye
 rw [iJ hf h ha.name ha.cols,kw hf h,xQ hf h ha.sets,xS hf h ha.sets,xW hf h,xU hf h ha.ch]
 simp only [bs]
 by_cases k1:a.kind=1
 ·rw [dt k1,if_pos k1];rfl
 rw [df k1,if_neg k1,cf]
 by_cases k2:a.kind=2
 ·rw [dt k2,if_pos k2];rfl
 rw [df k2,if_neg k2,cf]
 by_cases k3:a.kind=3
 ·rw [dt k3,if_pos k3];rfl
 rw [df k3,if_neg k3,cf]
 by_cases k4:a.kind=4
 ·rw [dt k4,if_pos k4];rfl
 rw [df k4,if_neg k4,cf]
 by_cases k5:a.kind=5
 ·rw [dt k5,if_pos k5];rfl
 rw [df k5,if_neg k5,cf]
theorem xm {b:ac}{a:bj}(hf:BIG≤fu)(h:SmB b)(ha:SmA a):uR fu b a=some (jJ qA b a):=by
 unfold uR jJ r8
 rw [dl hf h,bs,xj hf ha,bs,bg hf h,bs,xi hf h ha,bs]
 by_cases h1:ah b
 case neg=>rw [B_f h1,if_neg h1];rfl
 rw [B_t h1,if_pos h1]
 by_cases h2:qA a
 ·rw [B_t h2,if_pos h2];rfl
 ·rw [B_f h2,if_neg h2];rfl
theorem rC {b:ac}{a:bj}(hf:BIG≤fu)(h:SmB b)(ha:SmA a):sI fu b a=some (jJ qA b a):=by
 unfold sI jJ r8
 rw [e8 hf h,bs,xk hf ha,ai yd,bs,bU hf h,bs,x4 hf h ha.name ha.cols,xY hf h,xR hf h ha.sets,xT hf h ha.sets,xX hf h,xV hf h ha.ch]
 by_cases h1:ah b
 case neg=>rw [B_f h1,if_neg h1];rfl
 rw [B_t h1,if_pos h1]
 by_cases h2:qA a
 case neg=>rw [B_f h2,if_neg h2];rfl
 rw [B_t h2,if_pos h2]
 simp only [bs,n_,cf]
 unfold ye
 by_cases k1:a.kind=1
 ·rw [dt k1,if_pos k1];rfl
 rw [df k1,if_neg k1,cf]
 by_cases k2:a.kind=2
 ·rw [dt k2,if_pos k2];rfl
 rw [df k2,if_neg k2,cf]
 by_cases k3:a.kind=3
 ·rw [dt k3,if_pos k3];rfl
 rw [df k3,if_neg k3,cf]
 by_cases k4:a.kind=4
 ·rw [dt k4,if_pos k4];rfl
 rw [df k4,if_neg k4,cf]
 by_cases k5:a.kind=5
 ·rw [dt k5,if_pos k5];rfl
 rw [df k5,if_neg k5,cf]
def Cj (l:List bj):Prop:=∀ a,a∈l→SmA a
theorem zO {α:Type}[Inhabited α]{l:List α}{i:Nat}(h:i<l.length):l.drop i=l.getD i default::l.drop (i+1):=by
 rw [ae h];exact List.drop_eq_getElem_cons h
theorem pR {b:ac}{acts:List bj}(hf:BIG≤fu)(hb:SmB b)(hl:acts.length≤1000)(ha:Cj acts):∀ (m n i:Nat) (x:ac),i+m=acts.length→m<n→av x→fY fu b acts n (i:Int) x=some (o3 qA b (acts.drop i) x i):=by
 intro m
 induction m with
 | zero=>
  intro n i x hi hn hx
  obtain ⟨n,rfl⟩:∃ z,n=z+1:=⟨n-1,by omega⟩
  have:i=acts.length:=by omega
  subst this
  rw [fY,nlt,cf,List.drop_length,o3]
 | succ m ih=>
  intro n i x hi hn hx
  obtain ⟨n,rfl⟩:∃ z,n=z+1:=⟨n-1,by omega⟩
  have hil:i<acts.length:=by omega
  have hsa:=ha _ (getD_mem (d:=default) hil)
  have e:jJ qA x (acts.getD i default)=r8 qA x (acts.getD i default):=if_pos hx.ok
  rw [fY,ltR hil,ct,ge0,b_,ct,tn,rC hf hx.sm hsa,bs,e,zO hil,o3]
  by_cases hz:(r8 qA x (acts.getD i default)).2=0
  ·rw [dt hz,if_pos hz,n_,cf,bb hil (by unfold BIG;omega)]
   exact ih n (i+1) _ (by omega) (by omega) (pf hx hsa)
  ·rw [df hz,if_neg hz,m_,ct,bU hf hb];rfl
theorem rD {b:ac}{acts:List bj}(hf:BIG≤fu)(h:SmB b)(hl:acts.length≤1000)(ha:Cj acts):sJ fu b acts=some (nY qA b acts):=by
 unfold sJ
 rw [e8 hf h,bs,bU hf h,bs,bs]
 by_cases h1:ah b
 ·unfold nY
  rw [B_t h1,if_pos h1,n_,cf]
  by_cases h6:6<acts.length
  ·rw [dt (show (6:Int) < (acts.length:Int) by omega),if_pos h6];rfl
  ·rw [df (show ¬ (6:Int) < (acts.length:Int) by omega),if_neg h6,cf]
   exact pR hf h hl ha acts.length fu 0 b (by omega) (by unfold BIG at hf;omega) ⟨h1,h⟩
 ·unfold nY
  rw [B_f h1,if_neg h1];rfl
theorem yf {b:ac}{a:bj}(h:SmB b)(ha:SmA a):SmB (jJ qA b a).1:=by
 unfold jJ
 split
 ·rename_i h1
  exact (pf ⟨h1,h⟩ ha).sm
 ·exact pD
structure DA (n:Nat) (a:bj):Prop where
 sm:SmA a
 sets:a.sets.length≤n
 cols:a.cols.length≤n
 one:am a.name→a.name.length≤1
theorem y2:SmX []:=⟨by simp,fun _ h=>(nomatch h),fun _ h=>nomatch h⟩
theorem y4:SmS []:=⟨by simp,fun _ h=>nomatch h⟩
theorem eG:iQ gS:=⟨by decide,by decide,by decide,by decide⟩
theorem gw:SmL kU:=⟨by decide,by decide,by decide⟩
theorem o4 {n:Nat}{k id:Int}{nm:List UInt8}{xs:List Set}{cs:List Col}{c:aa}{l:aj}(hn:nm.length≤1)(hx:SmX9 xs)(hs:SmS cs∧cs.length≤900)(hc:iQ c)(hl:SmL l)(h9:900≤n):DA n ⟨k,nm,id,xs,cs,c,l⟩:=
 ⟨⟨by show nm.length≤1000;omega,hx.1,hs.1,hc,hl⟩,Nat.le_trans hx.2 h9,Nat.le_trans hs.2 h9,fun _=>hn⟩
theorem x9:SmX9 []:=⟨y2,by simp⟩
theorem s9:SmS []∧([]:List Col).length≤900:=⟨y4,by simp⟩
theorem C2 {s:List Col}(h:ak s):SmS s∧s.length≤900:=⟨h.sm,by have:=h.hi;omega⟩
theorem Cx {r:Rd}{b:ac}{m:Nat}(hf:BIG≤fu)(h:cb r m)(hm:m≤500000)(hb:av b):aJ (uP fu r b) (DA 900) (m+8060):=by
 unfold uP
 by_cases h0:b.tabs.length=0
 ·rw [dt (show (List.length b.tabs:Int)=0 by omega),ct]
  exact (x5 hf h (by omega)).bind fun s r2 hs hr2=>.pure (o4 (by decide) x9 hs eG gw (Nat.le_refl _)) (hr2.mono (by omega))
 rw [df (show ¬ (List.length b.tabs:Int)=0 by omega),cf]
 refine (CA hf h (by omega) hb.sm).bind fun q4 r1 hq4 hr1=>?_
 simp only
 rw [a6 hf hb.sm.ntab,bs]
 refine (d74 hr1 (by omega)).bind fun q6 r2 _ hr2=>?_
 simp only
 have e1:aJ (fX fu b (q4,r1) (mV b q4.1) (q6,r2)) (DA 900) (m+8060):=by
  unfold fX
  rw [eF]
  by_cases hk:tabN b q4.1<b.tabs.length
  ·rw [B_t hk,ct,aK hk]
   exact (x6 hf hr2 (by omega) hb hk).bind fun xs r3 hx hr3=>.pure (o4 hq4 hx s9 eG gw (Nat.le_refl _)) (hr3.mono (by omega))
  ·rw [B_f hk,cf]
   exact (x5 hf hr2 (by omega)).bind fun s r3 hs hr3=>.pure (o4 hq4 x9 hs eG gw (Nat.le_refl _)) (hr3.mono (by omega))
 have e3:∀ bl,aJ (ik fu b (q4,r1) (mV b q4.1) (q6,r2) bl) (DA 900) (m+8060):=fun bl=>by
  unfold ik
  cases bl with
  | false=>exact e1
  | true=>
   rw [ct,eF]
   by_cases hk:tabN b q4.1<b.tabs.length
   ·have g:=hb.tabT hk
    have hhi:=g.rt.okLast.hi
    rw [B_t hk,ct,aK hk,ltR hk,b_,ct,tn,aV,ew hf g.rt,bs]
    exact (d70 hf (by omega) g.rt.okLast.sm hr2 (by omega)).bind fun c r3 hc hr3=>.pure (o4 hq4 x9 s9 hc gw (Nat.le_refl _)) (hr3.mono (by omega))
   ·rw [B_f hk,cf];exact e1
 have e2:∀ bl,aJ (il fu b (q4,r1) (mV b q4.1) (q6,r2) bl) (DA 900) (m+8060):=fun bl=>by
  unfold il
  cases bl with
  | true=>
   rw [ct,eF]
   by_cases hk:tabN b q4.1<b.tabs.length
   ·rw [B_t hk,ct,aK hk]
    exact (x6 hf hr2 (by omega) hb hk).bind fun xs r3 hx hr3=>.pure (o4 hq4 hx s9 eG gw (Nat.le_refl _)) (hr3.mono (by omega))
   ·rw [B_f hk,cf];exact e1
  | false=>
   rw [cf]
   cases decide (q6=5) with
   | true=>rw [ct];exact e3 _
   | false=>rw [cf];exact e3 _
 cases decide (q6=0) with
 | true=>
  rw [ct]
  refine (d96 hr2 (by omega) (by decide)).bind fun nm r3 hnm hr3=>?_
  exact (Ax hf hr3 (by omega)).bind fun s r4 hs hr4=>.pure (o4 (qE (by rfl) nm hnm) x9 (C2 hs) eG gw (Nat.le_refl _)) (hr4.mono (by omega))
 | false=>
  rw [cf]
  cases decide (q6=1) with
  | true=>exact (zP hf hr2 (by omega) hb.g).bind fun l r3 hl hr3=>.pure (o4 (by decide) x9 s9 eG hl (Nat.le_refl _)) (hr3.mono (by omega))
  | false=>
   rw [cf]
   cases decide (q6=2) with
   | true=>exact .pure (o4 hq4 x9 s9 eG gw (Nat.le_refl _)) (hr2.mono (by omega))
   | false=>
    rw [cf]
    cases decide (q6=3) with
    | true=>rw [ct];exact e2 _
    | false=>rw [cf];exact e2 _
theorem Cy {r:Rd}{a:bj}{n m:Nat}(h:cb r m)(hm:m≤900000)(ha:DA n a)(hn:n≤990):aJ (uQ fu r a) (DA (n+1)) (m+2):=by
 have hu:DA (n+1) a:=⟨ha.sm,by have:=ha.sets;omega,by have:=ha.cols;omega,ha.one⟩
 have hs1:=ha.sets
 have hs2:=ha.cols
 unfold uQ
 refine (d74 h (by omega)).bind fun q r1 _ hr1=>?_
 simp only
 cases decide (q=0) with
 | true=>exact (d73 hr1 (by omega) (by decide)).bind fun x r2 _ hr2=>.pure ⟨⟨hu.sm.name,hu.sm.sets,hu.sm.cols,hu.sm.ch,hu.sm.link⟩,hu.sets,hu.cols,hu.one⟩ hr2
 | false=>
  rw [cf]
  cases decide (q=1) with
  | true=>
   refine (d96 hr1 (by omega) (by decide)).bind fun x r2 hx hr2=>.pure ⟨⟨sm_short (by rfl) x hx,hu.sm.sets,hu.sm.cols,hu.sm.ch,hu.sm.link⟩,hu.sets,hu.cols,fun hh=>?_⟩ hr2
   have h3:x.length≤3:=hh.2.2
   simp only [List.mem_cons,List.not_mem_nil,or_false] at hx
   rcases hx with rfl|rfl|rfl
   ·exact Nat.zero_le _
   ·exact Nat.le_refl _
   ·exact absurd h3 (by decide)
  | false=>
   rw [cf]
   cases decide (q=2) with
   | true=>exact (d73 hr1 (by omega) (by decide)).bind fun x r2 _ hr2=>.pure ⟨⟨hu.sm.name,hu.sm.sets,hu.sm.cols,hu.sm.ch,hu.sm.link⟩,hu.sets,hu.cols,hu.one⟩ hr2
   | false=>
    rw [cf]
    cases decide (q=3) with
    | true=>
     rw [ct,cap (by simp;omega),ct,cap (by simp;omega),ct]
     have hx:SmX (([]:List Set)++a.sets++[⟨[65],d0_49.val⟩]):=tv (by rw [List.nil_append];exact ha.sm.sets) (by rw [List.nil_append];omega) nul_ok.sm (by decide)
     exact .pure ⟨⟨hu.sm.name,hx,hu.sm.cols,hu.sm.ch,hu.sm.link⟩,by simp;omega,hu.cols,hu.one⟩ (hr1.mono (by omega))
    | false=>
     rw [cf]
     cases decide (q=4) with
     | true=>
      rw [ct,cap (by simp;omega),ct,cap (by simp;omega),ct]
      have hx:SmS (([]:List Col)++a.cols++[⟨[113],d0_52.kind,d0_52.need,d0_52.once,d0_52.def_⟩]):=⟨by simp;omega,fun c hc=>by
       rw [List.nil_append] at hc
       rcases p_ hc with hc|hc
       ·exact ha.sm.cols.all c hc
       ·rw [List.mem_singleton] at hc
        rw [hc]
        exact ⟨by decide,nul_ok.sm⟩⟩
      exact .pure ⟨⟨hu.sm.name,hu.sm.sets,hx,hu.sm.ch,hu.sm.link⟩,hu.sets,by simp;omega,hu.one⟩ (hr1.mono (by omega))
     | false=>
      rw [cf]
      cases decide (q=5) with
      | true=>exact .pure ⟨⟨hu.sm.name,hu.sm.sets,hu.sm.cols,⟨hu.sm.ch.name,show ([113]:List UInt8).length≤1000 by decide,hu.sm.ch.col⟩,hu.sm.link⟩,hu.sets,hu.cols,hu.one⟩ (hr1.mono (by omega))
      | false=>exact .pure hu (hr1.mono (by omega))
theorem xl {b:ac}(hf:BIG≤fu)(h:SmB b):∃ b',uO fu b=some b'∧av b':=by
 unfold uO
 rw [dl hf h,bs]
 by_cases h1:ah b
 ·rw [B_t h1];exact ⟨_,rfl,h1,h⟩
 ·rw [B_f h1];exact ⟨_,rfl,oq⟩
theorem Cz {a:List Int}(hf:BIG≤fu)(ha:∀ b,b∈a→0≤b∧b≤255):∃ b x,uS fu a=some (b,x)∧SmB b∧SmA x:=by
 obtain ⟨r,e,hr⟩:=d60 (fu:=fu) ha
 obtain ⟨b,r1,e1,hb,hr1⟩:=BN (fu:=fu) hf hr (by omega)
 obtain ⟨b',e2,hb'⟩:=xl (fu:=fu) hf hb.1
 obtain ⟨x,r2,e3,hx,hr2⟩:=Cx (fu:=fu) hf hr1 (by omega) hb'
 obtain ⟨y,r3,e4,hy,-⟩:=Cy (fu:=fu) hr2 (by omega) hx (by omega)
 unfold uS
 rw [e,bs,e1,bs]
 simp only
 rw [e2,bs,e3,bs,e4]
 exact ⟨b,y,rfl,hb.1,hy.sm⟩
theorem ze (hf:BIG≤fu)(a:List Int)(ha:∀ b,b∈a→0≤b∧b≤255):xn fu a=some true:=by
 unfold xn
 refine vE ?_
 obtain ⟨b,x,e,hb,hx⟩:=Cz (fu:=fu) hf ha
 rw [e,bs]
 simp only
 rw [rC hf hb hx,bs,xm hf hb hx,bs,dt rfl,n_,cf,dl hf hb,bs]
 unfold jZ dP
 by_cases hok:ah b
 case neg=>
  rw [B_f hok]
  simp only [m_,ct,decide_true]
 have h1:Cj [x]:=fun y hy=>by rw [List.mem_singleton] at hy;rw [hy];exact hx
 have h0:Cj []:=fun y hy=>nomatch hy
 obtain ⟨e1,e2,e3⟩:=zX (ok:=qA) (a:=x) hok
 rw [B_t hok]
 simp only [n_,cf]
 rw [rD hf hb (by simp) h1,bs,rD hf hb (by simp) h0,bs,x8 hok,e1,e2,dt rfl,mG hf (yf hb hx),bs,mG hf hb,ct,ct]
 by_cases hz:(jJ qA b x).2=0
 ·rw [dt hz,dt (e3.2 hz)];rfl
 ·rw [df hz,df (fun hh=>hz (e3.1 hh))];rfl
end Go.Proofs.YtganfdhmkdehlaaGreatDoor
