/- Plain laws. -/
import Derived.Test.YtganfdhmkdehlaaGreatDoorQ2007M2
set_option linter.all false
namespace Go.Proofs.YtganfdhmkdehlaaGreatDoor
open Go Go.HL
variable {fu:Nat}
abbrev nul:Val:=⟨0,0,[]⟩
abbrev nilCol:Col:=⟨[],0,false,false,nul⟩
open Classical in
noncomputable def valAs (v:Val) (k:Int):Val:=
 if ValOK v∧v.kind≠0∧(k=1∨k=2) then (if v.kind=k then v else if k=2 then ⟨2,0,Lib.itoa v.n⟩ else numOf v.text) else nul
theorem ValOK.num {v:Val}(h:ValOK v)(hk:v.kind=1):zQ v:=by
 rcases h with h|h|h
 ·omega
 ·exact h.2
 ·omega
theorem ValOK.text {v:Val}(h:ValOK v)(hk:v.kind=2):v.n=0∧eI v.text:=by
 rcases h with h|h|h
 ·omega
 ·omega
 ·exact h.2
theorem ValOK.kinds {v:Val}(h:ValOK v):v.kind=0∨v.kind=1∨v.kind=2:=by
 rcases h with h|h|h<;>simp [h.1]
theorem f114_is {v:Val}{k:Int}(hf:BIG≤fu)(hv:SmV v):BD fu v k=some (valAs v k):=by
 unfold BD
 rw [lI hf hv,jN]
 simp only [lM]
 unfold valAs
 by_cases h1:ValOK v
 case neg=>rw [B_f h1,if_neg fun h=>h1 h.1];rfl
 rw [B_t h1]
 by_cases h2:v.kind=0
 ·rw [if_neg fun h=>h.2.1 h2];simp [h2]
 by_cases h3:k=1∨k=2
 case neg=>rw [if_neg fun h=>h3 h.2.2,B_f (by omega)];simp
 rw [if_pos ⟨h1,h2,h3⟩,B_t (by omega)]
 by_cases h4:v.kind=k
 ·simp [h4];grind
 ·have hk:=h1.kinds
  rcases h3 with rfl|rfl
  ·rw [f132_is hf hv];simp [h2,h4]
  ·have hn:=h1.num (by omega)
   have hh:(decide (-9223372036854775808≤v.n)&&decide (v.n≤9223372036854775807))=true:=by
    have:=hn.lo;have:=hn.hi;simp;omega
   simp [h2,h4,AH,hh]
theorem vH {v:Val}{k:Int}(hf:BIG≤fu)(hv:SmV v):BA fu v k=some (valAs v k):=by
 unfold BA
 rw [AC hf hv,jx hf hv]
 simp only [ju,nR,Bz,lJ]
 unfold valAs
 by_cases h1:ValOK v
 case neg=>rw [B_f h1,if_neg fun h=>h1 h.1];rfl
 rw [B_t h1]
 by_cases h2:v.kind=0
 ·rw [if_neg fun h=>h.2.1 h2];simp [h2];try grind
 by_cases h3:k=1∨k=2
 case neg=>rw [if_neg fun h=>h3 h.2.2];simp [h2];try grind
 rw [if_pos ⟨h1,h2,h3⟩]
 by_cases h4:v.kind=k
 ·simp [h4];grind
 ·have hk:=h1.kinds
  rcases h3 with rfl|rfl
  ·unfold numOf
   by_cases h5:(-999≤(bg v.text).1∧(bg v.text).1≤999∧(bg v.text).2=true)
   ·rw [if_pos h5];simp [h2,h4,h5]
   ·rw [if_neg h5];simp [h2,h4];try grind
  ·have hn:=h1.num (by omega)
   rw [Az hf hn.lo hn.hi]
   simp [h2,h4]
theorem xK {n:Int}(h1:-999≤n)(h2:n≤999):(Lib.itoa n).length≤4:=by
 rcases Int.lt_or_le n 0 with hn|hn
 ·obtain ⟨m,rfl⟩:∃ m:Nat,n=-(m:Int):=⟨n.natAbs,by omega⟩
  rw [Lib.itoa_neg m (by omega)]
  have:=lr m (by omega)
  simp;omega
 ·obtain ⟨m,rfl⟩:∃ m:Nat,n=(m:Int):=⟨n.toNat,by omega⟩
  rw [Lib.itoa_nonneg]
  have:=lr m (by omega)
  omega
theorem uN {n:Int}(h1:-999≤n)(h2:n≤999):eI (Lib.itoa n):=by
 have hd:∀ m:Nat,∀ c∈Lib.decDigits m,l8 c:=by
  intro m
  induction m using Nat.strongRecOn with
  | ind m ih=>
   intro c hc
   have hb:∀ d:Nat,d<10→l8 (UInt8.ofNat (48+d)):=fun d hd=>.inr (.inl (by rw [u8n hd];omega))
   rcases decD_cases m with ⟨h1,h⟩|⟨a,d,e,_,hd,h⟩
   ·rw [h] at hc;simp only [List.mem_singleton] at hc;subst hc;exact hb m h1
   ·rw [h] at hc
    rcases p_ hc with hc|hc
    ·exact ih a (by omega) c hc
    ·simp only [List.mem_singleton] at hc;subst hc;exact hb d hd
 refine ⟨fun k hk=>?_,xK h1 h2⟩
 rw [ae hk]
 have hm:(Lib.itoa n)[k]∈Lib.itoa n:=List.getElem_mem hk
 generalize (Lib.itoa n)[k]=c at hm
 unfold Lib.itoa at hm
 split at hm
 ·rcases List.mem_cons.1 hm with rfl|hm
  ·exact .inr (.inr rfl)
  ·exact hd _ _ hm
 ·exact hd _ _ hm
theorem numOf_ok (t:List UInt8):ValOK (numOf t)∧(numOf t).text=[]∧((numOf t).kind=0∨(numOf t).kind=1):=by
 unfold numOf
 split
 ·rename_i h
  exact ⟨.inr (.inl ⟨rfl,h.1,h.2.1,rfl⟩),rfl,.inr rfl⟩
 ·exact ⟨.inl ⟨rfl,rfl⟩,rfl,.inl rfl⟩
theorem nul_ok:ValOK nul:=.inl ⟨rfl,rfl⟩
theorem valAs_ok (v:Val)(k:Int):ValOK (valAs v k)∧((valAs v k).kind=0∨(valAs v k).kind=k):=by
 unfold valAs
 split
 case isFalse=>exact ⟨nul_ok,.inl rfl⟩
 case isTrue h=>
  split
  ·rename_i h2;exact ⟨h.1,.inr h2⟩
  ·split
   ·rename_i h2 h3
    have hk:=h.1.kinds
    have hn:=h.1.num (by omega)
    exact ⟨.inr (.inr ⟨rfl,rfl,uN hn.lo hn.hi⟩),.inr h3.symm⟩
   ·have:=numOf_ok v.text
    refine ⟨this.1,?_⟩
    rcases this.2.2 with e|e
    ·exact .inl e
    ·right;omega
theorem ValOK.sm {v:Val}(h:ValOK v):SmV v:=by
 rcases h with h|h|h
 ·rw [h.2];show ([]:List UInt8).length≤1000;simp
 ·rw [SmV,h.2.text];simp
 ·have:=h.2.2.2;unfold SmV;omega
theorem dG.sm {c:Col}(h:dG c):SmC c:=⟨by have:=h.name.2.2;omega,h.def_.sm⟩
theorem ak.sm {s:List Col}(h:ak s):SmS s:=⟨by have:=h.hi;omega,fun c hc=>by
 obtain ⟨k,hk,rfl⟩:=g_ hc
 have:=(h.all k hk).1
 rw [ae hk] at this
 exact this.sm⟩
structure jd (c:aa):Prop where
 name:c.name.length≤1000
 new:c.new.length≤1000
 col:SmC c.col
def Named (c:aa):Prop:=
 (c.kind=1∧c.name=[]∧c.new=[])∨(c.kind=2∧c.new=[]∧c.col=nilCol)∨(c.kind=3∧c.col=nilCol)∨(c.kind=4∧c.new=[]∧c.col = { nilCol with kind:=c.col.kind })
theorem vO {c:aa}:BE fu c=some (B (Named c)):=by
 obtain ⟨kind,name,new,col⟩:=c
 by_cases h1:kind=1
 ·subst h1
  refine Eq.trans (b:=some (decide ((⟨1,[],[],col⟩:aa)=⟨1,name,new,col⟩))) rfl ?_
  rw [bM];congr 1;refine ai ?_;simp [Named];try grind
 by_cases h2:kind=2
 ·subst h2
  refine Eq.trans (b:=some (decide ((⟨2,name,[],nilCol⟩:aa)=⟨2,name,new,col⟩))) rfl ?_
  rw [bM];congr 1;refine ai ?_;simp [Named];try grind
 by_cases h3:kind=3
 ·subst h3
  refine Eq.trans (b:=some (decide ((⟨3,name,new,nilCol⟩:aa)=⟨3,name,new,col⟩))) rfl ?_
  rw [bM];congr 1;refine ai ?_;simp [Named];try grind
 by_cases h4:kind=4
 ·subst h4
  refine Eq.trans (b:=some (decide ((⟨4,name,[],{ nilCol with kind:=col.kind }⟩:aa)=⟨4,name,new,col⟩))) rfl ?_
  rw [bM];congr 1;refine ai ?_;simp [Named];try grind
 rw [B_f (by simp [Named,h1,h2,h3,h4])]
 simp [BE,h1,h2,h3,h4]
open Classical in
noncomputable def chg (s:List Col) (c:aa):List Col:=
 if c.kind=1 then s++[c.col]
 else if c.kind=2 then s.eraseIdx (atN s c.name)
 else if c.kind=3 then s.set (atN s c.name) { s.getD (atN s c.name) default with name:=c.new }
 else s.set (atN s c.name) { s.getD (atN s c.name) default with kind:=c.col.kind,def_:=valAs (s.getD (atN s c.name) default).def_ c.col.kind }
structure May (s:List Col) (c:aa):Prop where
 named:Named c
 there:c.kind≠1→atN s c.name<s.length
 need:c.kind=1→c.col.need=true→c.col.def_.kind≠0
 other:c.kind=4→c.col.kind≠(s.getD (atN s c.name) default).kind
structure Can (s:List Col) (c:aa):Prop where
 may:May s c
 ok:ak (chg s c)
theorem cZ {s:List Col}{nm:List UInt8}(h:atN s nm<s.length):atI s nm=(atN s nm:Int):=if_pos h
theorem gH {s:List Col}{nm:List UInt8}(h:¬ atN s nm<s.length):atI s nm=-1:=if_neg h
theorem cap {a b:Nat}(h:a+b≤100000):decide (a+b≤CAP)=true:=by rw [CAP_eq,decide_eq_true_iff];omega
theorem zm {s:List Col}{c:aa}(hs:SmS s)(hl:s.length≤500)(hc:jd c):SmS (chg s c):=by
 have hd:SmC (s.getD (atN s c.name) default):=by
  by_cases h:atN s c.name<s.length
  ·exact hs.get h
  ·rw [List.getD_eq_getElem?_getD,List.getElem?_eq_none (by omega)];exact ⟨by decide,by decide⟩
 unfold chg
 split
 ·exact ⟨by simp;omega,fun x hx=>by
   rcases p_ hx with h|h
   ·exact hs.all x h
   ·simp only [List.mem_singleton] at h;subst h;exact hc.col⟩
 ·split
  ·exact ⟨by have:=List.length_eraseIdx_le s (atN s c.name);omega,fun x hx=>hs.all x (List.mem_of_mem_eraseIdx hx)⟩
  ·split
   ·exact ⟨by simp;omega,fun x hx=>by
     rcases List.mem_or_eq_of_mem_set hx with h|h
     ·exact hs.all x h
     ·subst h;exact ⟨hc.new,hd.def_⟩⟩
   ·exact ⟨by simp;omega,fun x hx=>by
     rcases List.mem_or_eq_of_mem_set hx with h|h
     ·exact hs.all x h
     ·subst h;exact ⟨hd.name,(valAs_ok _ _).1.sm⟩⟩
theorem H2 {a:Nat}(h:a≤100000):a≤CAP:=by rw [CAP_eq];omega
theorem AF {c:aa}:BB c=some (if c.kind=4 then { nilCol with kind:=c.col.kind } else nilCol):=by
 unfold BB
 by_cases h:c.kind=4<;>simp [h]
theorem mW {α:Type}{l:List α}{k:Nat}:l.take k++l.drop (k+1)=l.eraseIdx k:=(List.eraseIdx_eq_take_drop_succ l k).symm
theorem AE {s:List Col}{k:Nat}(hs:s.length≤1000)(hk:k<s.length):CV s (k:Int)=some (s.eraseIdx k):=by
 have e1:IntKind.i64.wrap ((k:Int)+1)=((k+1:Nat):Int):=bb hk (by unfold BIG;omega)
 unfold CV
 rw [e1,← mW]
 have t1:List.length ([]:List Col)+List.length ((s.take k).drop 0)≤100000:=by simp;omega
 have t2:List.length (([]:List Col)++((s.take k).drop 0))+List.length ((s.take s.length).drop (k+1))≤100000:=by simp;omega
 simp only [tn,Int.toNat_zero,cap t1,cap t2,ge0,Bool.true_and,Bool.and_true,ct,decide_true,Int.le_refl]
 have h1:decide ((k:Int)≤(s.length:Int))=true:=by simp;omega
 have h2:decide (((k+1:Nat):Int)≤(s.length:Int))=true:=by simp;omega
 rw [h1,h2]
 simp
theorem Named.k1 {c:aa}(h:Named c)(k:c.kind=1):c.name=[]∧c.new=[]:=by
 rcases h with h|h|h|h
 ·exact h.2
 all_goals omega
theorem Named.k2 {c:aa}(h:Named c)(k:c.kind=2):c.new=[]∧c.col=nilCol:=by
 rcases h with h|h|h|h
 ·omega
 ·exact h.2
 all_goals omega
theorem Named.k3 {c:aa}(h:Named c)(k:c.kind=3):c.col=nilCol:=by
 rcases h with h|h|h|h
 ·omega
 ·omega
 ·exact h.2
 ·omega
theorem Named.k4 {c:aa}(h:Named c)(k:c.kind=4):c.new=[]∧c.col = { nilCol with kind:=c.col.kind }:=by
 rcases h with h|h|h|h
 ·omega
 ·omega
 ·omega
 ·exact h.2
theorem Named.kinds {c:aa}(h:Named c):c.kind=1∨c.kind=2∨c.kind=3∨c.kind=4:=by
 rcases h with h|h|h|h<;>omega
theorem May1 {s:List Col}{c:aa}(k:c.kind=1):May s c↔(c.name=[]∧c.new=[]∧(c.col.need=true→c.col.def_.kind≠0)):=
 ⟨fun h=>⟨(h.named.k1 k).1,(h.named.k1 k).2,h.need k⟩,fun h=>⟨.inl ⟨k,h.1,h.2.1⟩,fun h=>absurd k h,fun _=>h.2.2,fun h=>by omega⟩⟩
theorem Hj {s:List Col}{c:aa}(k:c.kind=2):May s c↔(c.new=[]∧c.col=nilCol∧atN s c.name<s.length):=
 ⟨fun h=>⟨(h.named.k2 k).1,(h.named.k2 k).2,h.there (by omega)⟩,fun h=>⟨.inr (.inl ⟨k,h.1,h.2.1⟩),fun _=>h.2.2,fun _=>by omega,fun h=>by omega⟩⟩
theorem Hi {s:List Col}{c:aa}(k:c.kind=3):May s c↔(c.col=nilCol∧atN s c.name<s.length):=
 ⟨fun h=>⟨h.named.k3 k,h.there (by omega)⟩,fun h=>⟨.inr (.inr (.inl ⟨k,h.1⟩)),fun _=>h.2,fun _=>by omega,fun h=>by omega⟩⟩
theorem BR {s:List Col}{c:aa}(k:c.kind=4):May s c↔(c.new=[]∧c.col = { nilCol with kind:=c.col.kind }∧atN s c.name<s.length∧c.col.kind≠(s.getD (atN s c.name) default).kind):=
 ⟨fun h=>⟨(h.named.k4 k).1,(h.named.k4 k).2,h.there (by omega),h.other k⟩,fun h=>⟨.inr (.inr (.inr ⟨k,h.1,h.2.1⟩)),fun _=>h.2.2.1,fun _=>by omega,fun _=>h.2.2.2⟩⟩
theorem Ip {s:List Col}{c:aa}(k:c.kind≠1∧c.kind≠2∧c.kind≠3∧c.kind≠4):¬ May s c:=fun h=>by
 have:=h.named.kinds
 omega
theorem AM {s:List Col}{c:aa}(hf:BIG≤fu)(hs:SmS s)(hl:s.length≤500) :
     CY fu s c=some (@ite _ (May s c) (Classical.propDecidable _) (chg s c) []):=by
 have t0:List.length ([]:List Col)+List.length s≤100000:=by simp;omega
 have t1:List.length (([]:List Col)++s)+List.length ([c.col]:List Col)≤100000:=by simp;omega
 unfold CY
 rw [fL hf (by omega),bs,cap t0,ct]
 by_cases k1:c.kind=1
 ·have hc:chg s c=s++[c.col]:=by unfold chg;rw [if_pos k1]
  rw [hc]
  have t2:=H2 (show s.length+1≤100000 by omega)
  simp only [eZ,fG,k1,decide_true,ct,List.nil_append]
  by_cases h1:c.name=[]<;>by_cases h2:c.new=[]<;>cases h3:c.col.need<;>by_cases h4:c.col.def_.kind=0<;>simp [h1,h2,h3,h4,May1 k1,t2]
 by_cases hat:atN s c.name<s.length
 case neg=>
  have hn:¬ May s c:=fun h=>hat (h.there k1)
  rw [if_neg hn,gH hat]
  simp [eZ,fG,k1]
 rw [cZ hat]
 have hr:(BB c).bind (fun q12=>fG fu s c (atN s c.name:Int) (!decide (c.col=q12)))=some (@ite _ (May s c) (Classical.propDecidable _) (chg s c) []):=by
  rw [AF,bs]
  simp only [fG,n4,lK]
  have hin:=inR hat
  have hd:=hs.get hat
  by_cases k2:c.kind=2
  ·have hc:chg s c=s.eraseIdx (atN s c.name):=by unfold chg;rw [if_neg k1,if_pos k2]
   rw [hc,AE (by omega) hat]
   by_cases h1:c.new=[]<;>by_cases h2:c.col=nilCol<;>simp [k2,h1,h2,hat,Hj k2]
  by_cases k3:c.kind=3
  ·have hc:chg s c=s.set (atN s c.name) { s.getD (atN s c.name) default with name:=c.new }:=by unfold chg;rw [if_neg k1,if_neg k2,if_pos k3]
   rw [hc]
   by_cases h2:c.col=nilCol<;>simp [k3,h2,hat,Hi k3]
  by_cases k4:c.kind=4
  ·have hc:chg s c=s.set (atN s c.name) { s.getD (atN s c.name) default with kind:=c.col.kind,def_:=valAs (s.getD (atN s c.name) default).def_ c.col.kind }:=by unfold chg;rw [if_neg k1,if_neg k2,if_neg k3]
   rw [hc,tn,vH hf hd.def_]
   rw [if_pos k4]
   by_cases h2:c.col = { nilCol with kind:=c.col.kind }
   case neg=>rw [df h2,if_neg fun h=>h2 ((BR k4).1 h).2.1];rfl
   rw [dt h2]
   have e2:decide (c.kind=2)=false:=df k2
   have e3:decide (c.kind=3)=false:=df k3
   have e4:decide (c.kind=4)=true:=dt k4
   simp only [e2,e3,e4,n_,cf,ct,List.nil_append,hin]
   by_cases h1:c.new=[]
   case neg=>rw [df h1,if_neg fun h=>h1 ((BR k4).1 h).1];rfl
   rw [dt h1]
   by_cases h3:c.col.kind=(s.getD (atN s c.name) default).kind
   ·rw [dt h3,if_neg fun h=>((BR k4).1 h).2.2.2 h3];rfl
   ·rw [df h3,if_pos ((BR k4).2 ⟨h1,h2,hat,h3⟩)]
    simp [hat]
  ·rw [if_neg (Ip ⟨k1,k2,k3,k4⟩)]
   simp [k2,k3,k4]
 have e1:decide (c.kind=1)=false:=df k1
 have e2:decide ((atN s c.name:Int)<0)=false:=by simp
 simp only [eZ,e1,e2,cf]
 exact hr
theorem sZ:¬ ak []:=fun h=>by have:=h.lo;simp at this
open Classical in
noncomputable def doC (s:List Col) (c:aa):List Col×Bool:=if Can s c then (chg s c,true) else (s,false)
theorem ve {s:List Col}{c:aa}(hf:BIG≤fu)(hs:ak s)(hc:jd c):f87 fu s c=some (doC s c):=by
 have hl:=hs.hi
 have t0:List.length ([]:List Col)+List.length s≤100000:=by simp;omega
 unfold f87 doC
 rw [lB hf hs.sm,B_t hs,bs,AM hf hs.sm (by omega),bs]
 by_cases hm:May s c
 ·rw [if_pos hm]
  rw [lB hf (zm hs.sm (by omega) hc),bs,cap t0]
  by_cases ho:ak (chg s c)
  ·rw [if_pos ⟨hm,ho⟩,B_t ho];rfl
  ·rw [if_neg fun h=>ho h.ok,B_f ho];rfl
 ·rw [if_neg hm,if_neg fun h=>hm h.may,lB hf ⟨by simp,fun c h=>by simp at h⟩,B_f sZ,cap t0];rfl
theorem mE {s:List Col}(hl:s.length≤1000):f91 s=some s:=by
 unfold f91 DQ DP
 rw [cap (by simp;omega)];rfl
theorem Fj {α:Type}{l:List α}{k:Nat}(hk:k<l.length)(hl:l.length≤1000) :
     (decide (0≤(k:Int))&&decide ((k:Int)≤IntKind.i64.wrap ((k:Int)+1))&&decide (IntKind.i64.wrap ((k:Int)+1)≤(l.length:Int)))=true∧(IntKind.i64.wrap ((k:Int)+1)).toNat=k+1:=by
 have e1:IntKind.i64.wrap ((k:Int)+1)=((k+1:Nat):Int):=bb hk (by unfold BIG;omega)
 rw [e1]
 simp;omega
theorem AP {s:List Col}{k:Nat}(hl:s.length≤1000)(hk:k<s.length):C0 s (k:Int) (IntKind.i64.wrap ((k:Int)+1))=some (s.eraseIdx k):=by
 have h:=Fj hk hl
 unfold C0
 rw [h.1,h.2,ct,tn,mW]
theorem vg {s:List Col}{c:aa}(hf:BIG≤fu)(hs:ak s)(hc:jd c):f78 fu s c=some (doC s c):=by
 have hl:=hs.hi
 have hsm:=hs.sm
 have end_:∀ x,x=chg s c→May s c→jL fu s x=some (doC s c):=fun x hx hm=>by
  subst hx
  unfold jL doC
  have h2:=zm hsm (by omega) hc
  rw [r9 hf h2,bs,mE (by omega),mE h2.len]
  by_cases ho:ak (chg s c)
  ·rw [if_pos ⟨hm,ho⟩,B_t ho];rfl
  ·rw [if_neg fun h=>ho h.ok,B_f ho];rfl
 have no:¬ May s c→some (s,false)=some (doC s c):=fun hm=>by unfold doC;rw [if_neg fun h=>hm h.may]
 unfold f78
 rw [mE (by omega),bs,mN hf (by omega),bs,vO,bs]
 by_cases hn:Named c
 case neg=>rw [B_f hn];exact no fun h=>hn h.named
 rw [B_t hn]
 simp only [n_,cf]
 by_cases k1:c.kind=1
 ·have hch:chg s c=s++[c.col]:=by unfold chg;rw [if_pos k1]
  have e1:decide (c.kind=1)=true:=dt k1
  simp only [e1,n_,cf,mI,ct,rZ,cap (show List.length s+List.length ([c.col]:List Col)≤100000 by simp;omega)]
  have hnm:=hn.k1 k1
  cases h3:c.col.need with
  | false=>simp only [cf];exact end_ _ hch.symm ((May1 k1).2 ⟨hnm.1,hnm.2,fun h=>by rw [h3] at h;cases h⟩)
  | true=>
   by_cases h4:c.col.def_.kind=0
   ·rw [dt h4];exact no fun h=>((May1 k1).1 h).2.2 h3 h4
   ·rw [df h4];exact end_ _ hch.symm ((May1 k1).2 ⟨hnm.1,hnm.2,fun _=>h4⟩)
 have e1:decide (c.kind=1)=false:=df k1
 simp only [e1,m_,ct]
 by_cases hat:atN s c.name<s.length
 case neg=>
  rw [gH hat]
  exact no fun h=>hat (h.there k1)
 rw [cZ hat]
 have e0:decide ((atN s c.name:Int)<0)=false:=by simp
 have hin:=inR hat
 simp only [e0,mI,e1,cf,hin,tn]
 by_cases k2:c.kind=2
 ·have hch:chg s c=s.eraseIdx (atN s c.name):=by unfold chg;rw [if_neg k1,if_pos k2]
  rw [dt k2,ct,AP (by omega) hat,bs]
  exact end_ _ hch.symm ((Hj k2).2 ⟨(hn.k2 k2).1,(hn.k2 k2).2,hat⟩)
 by_cases k3:c.kind=3
 ·have hch:chg s c=s.set (atN s c.name) { s.getD (atN s c.name) default with name:=c.new }:=by unfold chg;rw [if_neg k1,if_neg k2,if_pos k3]
  rw [df k2,dt k3]
  exact end_ _ hch.symm ((Hi k3).2 ⟨hn.k3 k3,hat⟩)
 by_cases k4:c.kind=4
 ·have hch:chg s c=s.set (atN s c.name) { s.getD (atN s c.name) default with kind:=c.col.kind,def_:=valAs (s.getD (atN s c.name) default).def_ c.col.kind }:=by unfold chg;rw [if_neg k1,if_neg k2,if_neg k3]
  rw [df k2,df k3,dt k4]
  simp only [ct,cf]
  by_cases h3:c.col.kind=(s.getD (atN s c.name) default).kind
  ·rw [dt h3];exact no fun h=>((BR k4).1 h).2.2.2 h3
  ·rw [df h3,f114_is hf (hsm.get hat).def_]
   simp only [cf,bs,List.length_set,hin,ct]
   refine end_ _ ?_ ((BR k4).2 ⟨(hn.k4 k4).1,(hn.k4 k4).2,hat,h3⟩)
   rw [hch]
   simp [hat]
 ·exact absurd hn.kinds (by omega)
end Go.Proofs.YtganfdhmkdehlaaGreatDoor
