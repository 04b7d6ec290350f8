/- Plain laws. -/
import Derived.Test.YtganfdhmkdehlaaGreatDoorQ2007M4
set_option linter.all false
namespace Go.Proofs.YtganfdhmkdehlaaGreatDoor
open Go Go.HL
variable {fu:Nat}
structure SmR (row:List Val):Prop where
 len:row.length≤1000
 all:∀ v,v∈row→SmV v
theorem SmR.get {row:List Val}(h:SmR row){k:Nat}(hk:k<row.length):SmV (row.getD k default):=by
 rw [ae hk];exact h.all _ (List.getElem_mem hk)
noncomputable def aE (s:List Col) (c:aa) (row:List Val):List Val:=
 if c.kind=1 then row++[c.col.def_]
 else if c.kind=2 then row.eraseIdx (atN s c.name)
 else if c.kind=4 then row.set (atN s c.name) (valAs (row.getD (atN s c.name) default) c.col.kind)
 else row
theorem chgRow_len {s:List Col}{c:aa}{row:List Val}(hm:May s c)(hl:row.length=s.length):(aE s c row).length=(chg s c).length:=by
 unfold aE chg
 by_cases k1:c.kind=1
 ·rw [if_pos k1,if_pos k1];simp [hl]
 have hat:=hm.there k1
 rw [if_neg k1,if_neg k1]
 by_cases k2:c.kind=2
 ·rw [if_pos k2,if_pos k2,List.length_eraseIdx,List.length_eraseIdx,hl]
 rw [if_neg k2,if_neg k2]
 by_cases k3:c.kind=3
 ·rw [if_pos k3,if_neg (by omega)];simp [hl]
 rw [if_neg k3]
 by_cases k4:c.kind=4
 ·rw [if_pos k4];simp [hl]
 ·rw [if_neg k4];simp [hl]
theorem gW {s:List Col}{c:aa}{row:List Val}(hr:SmR row)(hl:row.length≤500)(hc:jd c):SmR (aE s c row):=by
 unfold aE
 split
 ·exact ⟨by simp;omega,fun x hx=>by
   rcases p_ hx with h|h
   ·exact hr.all x h
   ·simp only [List.mem_singleton] at h;subst h;exact hc.col.def_⟩
 ·split
  ·exact ⟨by have:=List.length_eraseIdx_le row (atN s c.name);omega,fun x hx=>hr.all x (List.mem_of_mem_eraseIdx hx)⟩
  ·split
   ·exact ⟨by simp;omega,fun x hx=>by
     rcases List.mem_or_eq_of_mem_set hx with h|h
     ·exact hr.all x h
     ·subst h;exact (valAs_ok _ _).1.sm⟩
   ·exact hr
theorem f141_is {s:List Col}{c:aa}{row:List Val}(hf:BIG≤fu)(hs:s.length≤500)(hm:May s c)(hl:row.length=s.length)(hr:SmR row) :
     CT fu s c row=some (aE s c row):=by
 have t0:List.length ([]:List Val)+List.length row≤100000:=by simp;omega
 have t1:List.length (([]:List Val)++row)+List.length ([c.col.def_]:List Val)≤100000:=by simp;omega
 unfold CT aE
 rw [fL hf (by omega),bs,cap t0,ct]
 by_cases k1:c.kind=1
 ·rw [if_pos k1,dt k1,ct,cap t1];rfl
 have hat:=hm.there k1
 have hat':atN s c.name<row.length:=by omega
 rw [if_neg k1,df k1,cf,cZ hat]
 by_cases k2:c.kind=2
 ·rw [if_pos k2,dt k2,ct]
  have e1:IntKind.i64.wrap ((atN s c.name:Int)+1)=((atN s c.name+1:Nat):Int):=bb hat (by unfold BIG;omega)
  rw [e1,← mW]
  have t1:List.length ([]:List Val)+List.length ((row.take (atN s c.name)).drop 0)≤100000:=by simp;omega
  have t2:List.length (([]:List Val)++((row.take (atN s c.name)).drop 0))+List.length ((row.take row.length).drop (atN s c.name+1))≤100000:=by simp;omega
  simp only [tn,Int.toNat_zero,cap t1,cap t2,ge0,Bool.true_and,Bool.and_true,ct,decide_true,Int.le_refl]
  have h1:decide ((atN s c.name:Int)≤(row.length:Int))=true:=by simp;omega
  have h2:decide (((atN s c.name+1:Nat):Int)≤(row.length:Int))=true:=by simp;omega
  rw [h1,h2]
  simp
 rw [if_neg k2,df k2,cf]
 by_cases k4:c.kind=4
 ·have hin:=inR hat'
  rw [if_pos k4,dt k4,ct,hin,ct,tn,vH hf (hr.get hat'),bs]
  simp [hin,f141_j1,hat']
 ·rw [if_neg k4,df k4];rfl
theorem gP {row:List Val}(hl:row.length≤1001):zL row=some row:=by
 unfold zL DN DM
 rw [cap (by simp;omega)];rfl
theorem AO {s:List Val}{k:Nat}(hl:s.length≤1000)(hk:k<s.length):CZ s (k:Int) (IntKind.i64.wrap ((k:Int)+1))=some (s.eraseIdx k):=by
 have h:=Fj hk hl
 unfold CZ
 rw [h.1,h.2,ct,tn,mW]
theorem Cz {s:List Col}{c:aa}{row:List Val}(hf:BIG≤fu)(hs:s.length≤500)(hm:May s c)(hl:row.length=s.length)(hr:SmR row) :
     f79 fu s c row=some (aE s c row):=by
 have t1:List.length row+List.length ([c.col.def_]:List Val)≤100000:=by simp;omega
 unfold f79 aE
 rw [gP (by omega),bs,mN hf (by omega),bs]
 simp only [f79_j1]
 by_cases k1:c.kind=1
 ·rw [if_pos k1,dt k1,ct,cap t1,ct,gP (by simp;omega)];rfl
 have hat:=hm.there k1
 have hat':atN s c.name<row.length:=by omega
 rw [if_neg k1,df k1,cf,cZ hat]
 by_cases k2:c.kind=2
 ·rw [if_pos k2,dt k2,ct,AO (by omega) hat',bs,gP (by have:=List.length_eraseIdx_le row (atN s c.name);omega)];rfl
 rw [if_neg k2,df k2,cf]
 by_cases k4:c.kind=4
 ·have hin:=inR hat'
  rw [if_pos k4,dt k4,ct,hin,ct,tn,f114_is hf (hr.get hat'),bs,ct,gP (by simp;omega)];rfl
 ·rw [if_neg k4,df k4,cf,gP (by omega)];rfl
open Classical in
noncomputable def run (s:List Col):List aa→Option (List Col)
 | []=>some s
 | c::cs=>if Can s c then run (chg s c) cs else none
noncomputable def dw (s:List Col):List aa→List Val→List Val
 | [],row=>row
 | c::cs,row=>dw (chg s c) cs (aE s c row)
theorem run_cons {s:List Col}{c:aa}{cs:List aa}{x:List Col}(h:run s (c::cs)=some x):Can s c∧run (chg s c) cs=some x:=by
 unfold run at h
 split at h
 ·exact ⟨by assumption,h⟩
 ·cases h
theorem zn {cs:List aa}:∀ {s x:List Col},ak s→run s cs=some x→ak x:=by
 induction cs with
 | nil=>intro s x hs h;unfold run at h;injection h with h;rw [← h];exact hs
 | cons c cs ih=>intro s x hs h;have:=run_cons h;exact ih this.1.ok this.2
theorem mr {a:List aa}:∀ {s:List Col} {b:List aa},run s (a++b)=(run s a).bind fun x=>run x b:=by
 induction a with
 | nil=>intro s b;rfl
 | cons c a ih=>
  intro s b
  have e:∀ l,run s (c::l)=@ite _ (Can s c) (Classical.propDecidable _) (run (chg s c) l) none:=fun l=>by rw [run]
  rw [List.cons_append,e,e]
  by_cases h:Can s c
  ·rw [if_pos h,if_pos h];exact ih
  ·rw [if_neg h,if_neg h];rfl
theorem ng {a:List aa}:∀ {s x:List Col} {b:List aa} {row:List Val},run s a=some x→dw s (a++b) row=dw x b (dw s a row):=by
 induction a with
 | nil=>intro s x b row h;unfold run at h;injection h with h;subst h;rfl
 | cons c a ih=>intro s x b row h;exact ih (run_cons h).2
theorem runRow_len {cs:List aa}:∀ {s x:List Col} {row:List Val},run s cs=some x→row.length=s.length→(dw s cs row).length=x.length:=by
 induction cs with
 | nil=>intro s x row h hl;unfold run at h;injection h with h;subst h;exact hl
 | cons c cs ih=>
  intro s x row h hl
  have:=run_cons h
  exact ih this.2 (chgRow_len this.1.may hl)
theorem ui {cs:List aa}(hc:∀ c,c∈cs→jd c):∀ {s x:List Col} {row:List Val},ak s→run s cs=some x→row.length=s.length→SmR row→SmR (dw s cs row):=by
 induction cs with
 | nil=>intro s x row _ h hl hr;exact hr
 | cons c cs ih=>
  intro s x row hs h hl hr
  have h':=run_cons h
  have:=hs.hi
  exact ih (fun c hc'=>hc c (List.mem_cons_of_mem _ hc')) h'.1.ok h'.2 (chgRow_len h'.1.may hl) (gW hr (by omega) (hc c List.mem_cons_self))
noncomputable def pN (s:List Col) (cs:List aa):List Col×Bool:=match run s cs with | some x=>(x,true) | none=>([],false)
structure pS (cs:List aa):Prop where
 len:cs.length≤1000
 all:∀ c,c∈cs→jd c
theorem pS.get {cs:List aa}(h:pS cs){k:Nat}(hk:k<cs.length):jd (cs.getD k default):=by
 rw [ae hk];exact h.all _ (List.getElem_mem hk)
theorem oJ {s:List Col}{c:aa}{cs:List aa}:pN s (c::cs)=@ite _ (Can s c) (Classical.propDecidable _) (pN (chg s c) cs) ([],false):=by
 by_cases h:Can s c
 ·rw [if_pos h]
  unfold pN
  have:run s (c::cs)=run (chg s c) cs:=by rw [run,if_pos h]
  rw [this]
 ·rw [if_neg h]
  unfold pN
  have:run s (c::cs)=none:=by rw [run,if_neg h]
  rw [this]
theorem mg {α:Type}{l:List α}{d:α}{k:Nat}(hk:k<l.length):l.drop k=l.getD k d::l.drop (k+1):=by
 rw [ae hk];exact List.drop_eq_getElem_cons hk
theorem l57 {cs:List aa}(hf:BIG≤fu)(hc:pS cs):∀ (m n k:Nat) (s:List Col),k+m=cs.length→m<n→ak s→mP fu cs n s (k:Int)=some (pN s (cs.drop k)):=by
 intro m
 induction m with
 | zero=>
  intro n k s hk hn hs
  obtain ⟨n,rfl⟩:∃ i,n=i+1:=⟨n-1,by omega⟩
  have:k=cs.length:=by omega
  subst this
  rw [mP,nlt,List.drop_length];rfl
 | succ m ih=>
  intro n k s hk hn hs
  obtain ⟨n,rfl⟩:∃ i,n=i+1:=⟨n-1,by omega⟩
  have hkl:k<cs.length:=by omega
  have hlen:=hc.len
  rw [mP,ltR hkl,ct,ge0,b_,ct,tn,vg hf hs (hc.get hkl),bs,mg (d:=default) hkl,oJ]
  unfold doC
  by_cases h:Can s (cs.getD k default)
  ·rw [if_pos h,if_pos h]
   simp only [n_,cf]
   rw [bb hkl (by unfold BIG;omega)]
   exact ih n (k+1) _ (by omega) (by omega) h.ok
  ·rw [if_neg h,if_neg h];rfl
theorem sd {s:List Col}{cs:List aa}(hf:BIG≤fu)(hs:ak s)(hc:pS cs):f57 fu s cs=some (pN s cs):=by
 have:=hs.hi
 have:=hc.len
 unfold f57
 rw [mE (by omega),bs]
 exact l57 hf hc cs.length fu 0 s (by omega) (by unfold BIG at hf;omega) hs
theorem l50 {cs:List aa}(hf:BIG≤fu)(hc:pS cs):∀ (m n k:Nat) (s:List Col),k+m=cs.length→m<n→ak s→mR fu cs n s (k:Int)=some (pN s (cs.drop k)):=by
 intro m
 induction m with
 | zero=>
  intro n k s hk hn hs
  obtain ⟨n,rfl⟩:∃ i,n=i+1:=⟨n-1,by omega⟩
  have:k=cs.length:=by omega
  subst this
  rw [mR,nlt,List.drop_length];rfl
 | succ m ih=>
  intro n k s hk hn hs
  obtain ⟨n,rfl⟩:∃ i,n=i+1:=⟨n-1,by omega⟩
  have hkl:k<cs.length:=by omega
  have hlen:=hc.len
  rw [mR,ltR hkl,ct,ge0,b_,ct,tn,ve hf hs (hc.get hkl),bs,mg (d:=default) hkl,oJ]
  unfold doC
  by_cases h:Can s (cs.getD k default)
  ·rw [if_pos h,if_pos h]
   simp only [n_,cf]
   rw [bb hkl (by unfold BIG;omega)]
   exact ih n (k+1) _ (by omega) (by omega) h.ok
  ·rw [if_neg h,if_neg h];rfl
open Classical in
noncomputable def wJ (s:List Col) (cs:List aa):List Col×Bool:=if ak s then pN s cs else ([],false)
theorem vl {s:List Col}{cs:List aa}(hf:BIG≤fu)(hs:SmS s)(hc:pS cs):f50 fu s cs=some (wJ s cs):=by
 have hl:=hs.len
 have:=hc.len
 unfold f50 wJ
 rw [lB hf hs,bs]
 by_cases h:ak s
 ·rw [if_pos h,B_t h,cap (by simp;omega)]
  exact l50 hf hc cs.length fu 0 s (by omega) (by unfold BIG at hf;omega) h
 ·rw [if_neg h,B_f h];rfl
theorem CF {s:List Col}{cs:List aa}(hf:BIG≤fu)(hs:SmS s)(hc:pS cs):f55 fu s cs=some (wJ s cs):=by
 unfold f55 wJ
 rw [r9 hf hs,bs]
 by_cases h:ak s
 ·rw [if_pos h,B_t h,sd hf h hc];rfl
 ·rw [if_neg h,B_f h];rfl
theorem HV {cs:List aa}(hf:BIG≤fu)(hc:pS cs):∀ (m n k:Nat) (s x:List Col) (row:List Val),k+m=cs.length→m<n→ak s→run s (cs.drop k)=some x→row.length=s.length→SmR row→
     jw fu cs n s row (k:Int)=some (dw s (cs.drop k) row):=by
 intro m
 induction m with
 | zero=>
  intro n k s x row hk hn hs hx hl hr
  obtain ⟨n,rfl⟩:∃ i,n=i+1:=⟨n-1,by omega⟩
  have:k=cs.length:=by omega
  subst this
  rw [jw,nlt,List.drop_length];rfl
 | succ m ih=>
  intro n k s x row hk hn hs hx hl hr
  obtain ⟨n,rfl⟩:∃ i,n=i+1:=⟨n-1,by omega⟩
  have hkl:k<cs.length:=by omega
  have hlen:=hc.len
  have hhi:=hs.hi
  have hck:=hc.get hkl
  rw [mg (d:=default) hkl] at hx ⊢
  have h:=run_cons hx
  rw [jw,ltR hkl,ct,ge0,b_,ct,tn,f141_is hf (by omega) h.1.may hl hr,bs,ct,ve hf hs hck,bs]
  unfold doC
  rw [if_pos h.1,bb hkl (by unfold BIG;omega)]
  exact ih n (k+1) _ x _ (by omega) (by omega) h.1.ok h.2 (chgRow_len h.1.may hl) (gW hr (by omega) hck)
theorem AK {s x:List Col}{cs:List aa}{row:List Val}(hf:BIG≤fu)(hs:ak s)(hc:pS cs)(hx:run s cs=some x)(hl:row.length=s.length)(hr:SmR row):BC fu s cs row=some (dw s cs row):=by
 have h1:=hr.len
 have h2:=hc.len
 unfold BC nX
 rw [vl hf hs.sm hc,bs]
 have:wJ s cs=(x,true):=by unfold wJ pN;rw [if_pos hs,hx]
 rw [this,dt (show (row.length:Int)=(s.length:Int) by omega),cap (by simp;omega)]
 exact HV hf hc cs.length fu 0 s x row (by omega) (by unfold BIG at hf;omega) hs hx hl hr
theorem l85 {cs:List aa}(hf:BIG≤fu)(hc:pS cs):∀ (m n k:Nat) (s x:List Col) (row:List Val),k+m=cs.length→m<n→ak s→run s (cs.drop k)=some x→row.length=s.length→SmR row→
     mG fu cs n s (k:Int) row=some (dw s (cs.drop k) row):=by
 intro m
 induction m with
 | zero=>
  intro n k s x row hk hn hs hx hl hr
  obtain ⟨n,rfl⟩:∃ i,n=i+1:=⟨n-1,by omega⟩
  have:k=cs.length:=by omega
  subst this
  rw [mG,nlt,List.drop_length];rfl
 | succ m ih=>
  intro n k s x row hk hn hs hx hl hr
  obtain ⟨n,rfl⟩:∃ i,n=i+1:=⟨n-1,by omega⟩
  have hkl:k<cs.length:=by omega
  have hlen:=hc.len
  have hhi:=hs.hi
  have hck:=hc.get hkl
  rw [mg (d:=default) hkl] at hx ⊢
  have h:=run_cons hx
  rw [mG,ltR hkl,ct,ge0,b_,ct,tn,Cz hf (by omega) h.1.may hl hr,bs,vg hf hs hck,bs]
  unfold doC
  rw [if_pos h.1,bb hkl (by unfold BIG;omega)]
  exact ih n (k+1) _ x _ (by omega) (by omega) h.1.ok h.2 (chgRow_len h.1.may hl) (gW hr (by omega) hck)
theorem Cy {s x:List Col}{cs:List aa}{row:List Val}(hf:BIG≤fu)(hs:ak s)(hc:pS cs)(hx:run s cs=some x)(hl:row.length=s.length)(hr:SmR row):f85 fu s cs row=some (dw s cs row):=by
 have h1:=hr.len
 have h2:=hc.len
 unfold f85
 rw [gP (by omega),bs]
 exact l85 hf hc cs.length fu 0 s x row (by omega) (by unfold BIG at hf;omega) hs hx hl hr
structure VOK (c:Col) (v:Val):Prop where
 ok:ValOK v
 fits:Dz v c.kind
 need:c.need=true→v.kind≠0
structure aO (s:List Col) (row:List Val):Prop where
 len:row.length=s.length
 all:∀ k,k<row.length→VOK (s.getD k default) (row.getD k default)
theorem y8 {c:Col}{v:Val}:B (VOK c v)=(B (ValOK v)&&(B (v.kind=0) || B (v.kind=c.kind))&&(!c.need || !B (v.kind=0))):=by
 rw [ai (show VOK c v↔((ValOK v∧(v.kind=0∨v.kind=c.kind))∧(c.need=true→¬ v.kind=0)) from ⟨fun h=>⟨⟨h.1,h.2⟩,h.3⟩,fun h=>⟨h.1.1,h.1.2,h.2⟩⟩),bY,bY,zS,rl,l7,zT]
theorem pJ {s:List Col}{row:List Val}(hl:row.length=s.length):aO s row↔((∀ k,k<row.length→VOK (s.getD k default) (row.getD k default))∧True):=⟨fun h=>⟨h.2,trivial⟩,fun h=>⟨hl,h.1⟩⟩
theorem pc {s:List Col}{row:List Val}(hf:BIG≤fu)(hr:SmR row):f58 fu s row=some (B (aO s row)):=by
 have h1:=hr.len
 unfold f58
 by_cases hl:row.length=s.length
 case neg=>rw [df (show ¬ (row.length:Int)=(s.length:Int) by omega),B_f fun h=>hl h.len];rfl
 rw [dt (show (row.length:Int)=(s.length:Int) by omega),ai (pJ hl)]
 refine d8 (L:=fE fu s row) _ _ (by unfold BIG;omega) (fun n h=>?_) (fun n h=>absurd trivial h) (fun n k hk hp=>?_) (fun n k hk hp=>?_) (by unfold BIG at hf;omega)
 ·rw [fE,nlt];rfl
 ·have hb:=B_t hp
  rw [y8] at hb
  rw [fE,ltR hk,ct,ge0,b_,ct,tn,lI hf (hr.get hk),bs,ltR (show k<s.length by omega),b_,ct,rT,bs,ct,zS]
  simp only [lE,bM]
  revert hb
  cases B (ValOK (row.getD k default))<;>cases B ((row.getD k default).kind=0)<;>cases B ((row.getD k default).kind=(s.getD k default).kind)<;>cases (s.getD k default).need<;>simp
 ·have hb:=B_f hp
  rw [y8] at hb
  rw [fE,ltR hk,ct,ge0,b_,ct,tn,lI hf (hr.get hk),bs,ltR (show k<s.length by omega),b_,ct,rT,bs,ct,zS]
  simp only [lE,bM]
  revert hb
  cases B (ValOK (row.getD k default))<;>cases B ((row.getD k default).kind=0)<;>cases B ((row.getD k default).kind=(s.getD k default).kind)<;>cases (s.getD k default).need<;>simp
theorem rV {s:List Col}{row:List Val}(hf:BIG≤fu)(hs:ak s)(hr:SmR row):f88 fu s row=some (B (aO s row)):=by
 have h1:=hr.len
 unfold f88
 rw [lB hf hs.sm,B_t hs,bs]
 simp only [n_,cf,rU]
 by_cases hl:row.length=s.length
 case neg=>rw [df (show ¬ (row.length:Int)=(s.length:Int) by omega),B_f fun h=>hl h.len];rfl
 rw [dt (show (row.length:Int)=(s.length:Int) by omega),ai (pJ hl)]
 refine d8 (L:=eB fu s row) _ _ (by unfold BIG;omega) (fun n h=>?_) (fun n h=>absurd trivial h) (fun n k hk hp=>?_) (fun n k hk hp=>?_) (by unfold BIG at hf;omega)
 ·rw [eB,nlt];rfl
 ·have hb:=B_t hp
  rw [y8] at hb
  rw [eB,ltR hk,ct,ge0,b_,ct,tn,jx hf (hr.get hk),bs,ltR (show k<s.length by omega),b_,ct]
  simp only [ik,bM,ct]
  revert hb
  cases B (ValOK (row.getD k default))<;>cases B ((row.getD k default).kind=0)<;>cases B ((row.getD k default).kind=(s.getD k default).kind)<;>cases (s.getD k default).need<;>simp
 ·have hb:=B_f hp
  rw [y8] at hb
  rw [eB,ltR hk,ct,ge0,b_,ct,tn,jx hf (hr.get hk),bs,ltR (show k<s.length by omega),b_,ct]
  simp only [ik,bM,ct]
  revert hb
  cases B (ValOK (row.getD k default))<;>cases B ((row.getD k default).kind=0)<;>cases B ((row.getD k default).kind=(s.getD k default).kind)<;>cases (s.getD k default).need<;>simp
theorem aO.sm {s:List Col}{row:List Val}(h:aO s row)(hl:s.length≤1000):SmR row:=⟨by have:=h.len;omega,fun v hv=>by
 obtain ⟨k,hk,rfl⟩:=g_ hv
 have:=(h.all k hk).ok
 rw [ae hk] at this
 exact this.sm⟩
theorem o53:@zG=@f53:=rfl
theorem o90:@Bx=@f90:=rfl
theorem o82:@f82o=@f82:=by
 have h:∀ t id n i,f82o_l1 t id n i=il t id n i:=fun t id n=>by
  induction n with
  | zero=>intro i;rfl
  | succ n ih=>intro i;rw [f82o_l1,il,ih]
 funext fu t id
 unfold f82o f82
 rw [h]
theorem o42:@f42o=@f42:=by
 have h:∀ t n i x,f42o_l1 t n i x=ip t n i x:=fun t n=>by
  induction n with
  | zero=>intro i x;rfl
  | succ n ih=>intro i x;rw [f42o_l1,ip,ih]
 funext fu t
 unfold f42o f42 f42o_j1 f42_j1
 rw [h]
theorem o102:@f102o=@f102:=by
 have h:∀ fu t r s n i x,f102o_l1 fu t r s n i x=fN fu t r s n i x:=fun fu t r s n=>by
  induction n with
  | zero=>intro i x;rfl
  | succ n ih=>intro i x;rw [f102o_l1,fN,o90];simp only [kK,lR,ih]
 funext fu t r
 unfold f102o f102
 simp only [o53,h]
theorem jn {ρ:Type}{L:Nat→Int→Option ρ}{N:Nat}(p:Nat→Prop)(y z:Option ρ)(hN:N≤BIG)
     (hend:∀ n,L (n+1) (N:Int)=z)
     (hyes:∀ n (k:Nat),k < N→p k→L (n+1) (k:Int)=y)
     (hno:∀ n (k:Nat),k < N→¬ p k→L (n+1) (k:Int)=L n (IntKind.i64.wrap ((k:Int)+1))) {fu:Nat} (hf:N<fu):L fu 0=@ite _ (∃ k,k < N∧p k) (Classical.propDecidable _) y z:=by
 have key:∀ c fu k,k+c=N→c<fu→L fu (k:Int)=@ite _ (∃ i,k≤i∧i < N∧p i) (Classical.propDecidable _) y z:=by
  intro c
  induction c with
  | zero=>
   intro fu k hk hc
   obtain ⟨n,rfl⟩:∃ n,fu=n+1:=⟨fu-1,by omega⟩
   have:k=N:=by omega
   subst this
   rw [hend,if_neg]
   rintro ⟨i,h1,h2,_⟩
   omega
  | succ c ih=>
   intro fu k hk hc
   obtain ⟨n,rfl⟩:∃ n,fu=n+1:=⟨fu-1,by omega⟩
   by_cases hp:p k
   ·rw [hyes n k (by omega) hp,if_pos ⟨k,Nat.le_refl _,by omega,hp⟩]
   ·rw [hno n k (by omega) hp,bb (show k < N by omega) hN,ih n (k+1) (by omega) (by omega)]
    by_cases h:∃ i,k+1≤i∧i < N∧p i
    ·rw [if_pos h,if_pos]
     obtain ⟨i,h1,h2⟩:=h
     exact ⟨i,by omega,h2⟩
    ·rw [if_neg h,if_neg]
     rintro ⟨i,h1,h2,h3⟩
     by_cases hi:i=k
     ·subst hi;exact hp h3
     ·exact h ⟨i,by omega,h2,h3⟩
 have h:=key N fu 0 (by omega) hf
 rw [show ((0:Nat):Int)=0 from rfl] at h
 rw [h]
 by_cases h:∃ k,k < N∧p k
 ·rw [if_pos h,if_pos]
  obtain ⟨i,h1,h2⟩:=h
  exact ⟨i,Nat.zero_le _,h1,h2⟩
 ·rw [if_neg h,if_neg]
  rintro ⟨i,h1,h2,h3⟩
  exact h ⟨i,h2,h3⟩
noncomputable def aZ (t:ab) (v:Nat):List Col:=(run t.first (t.changes.take v)).getD []
noncomputable def lastS (t:ab):List Col:=(run t.first t.changes).getD []
noncomputable def nowR (t:ab) (r:Row):List Val:=dw (aZ t r.ver.toNat) (t.changes.drop r.ver.toNat) r.vals
structure Rt (t:ab):Prop where
 first:ak t.first
 run:∃ x,run t.first t.changes=some x
 cs:pS t.changes
theorem Rt.last {t:ab}(h:Rt t):Go.Proofs.YtganfdhmkdehlaaGreatDoor.run t.first t.changes=some (lastS t):=by
 obtain ⟨x,hx⟩:=h.run
 unfold lastS
 rw [hx];rfl
theorem Rt.at {t:ab}(h:Rt t)(v:Nat):Go.Proofs.YtganfdhmkdehlaaGreatDoor.run t.first (t.changes.take v)=some (aZ t v)∧Go.Proofs.YtganfdhmkdehlaaGreatDoor.run (aZ t v) (t.changes.drop v)=some (lastS t):=by
 have hl:=h.last
 rw [← List.take_append_drop v t.changes,mr] at hl
 unfold aZ
 cases hr:Go.Proofs.YtganfdhmkdehlaaGreatDoor.run t.first (t.changes.take v) with
 | none=>rw [hr] at hl;cases hl
 | some x=>rw [hr] at hl;exact ⟨rfl,hl⟩
theorem Rt.okAt {t:ab}(h:Rt t)(v:Nat):ak (aZ t v):=zn h.first (h.at v).1
theorem Rt.okLast {t:ab}(h:Rt t):ak (lastS t):=zn h.first h.last
theorem Rt.csTake {t:ab}(h:Rt t)(v:Nat):pS (t.changes.take v):=⟨by have:=h.cs.len;simp;omega,fun c hc=>h.cs.all c (List.mem_of_mem_take hc)⟩
theorem Rt.csDrop {t:ab}(h:Rt t)(v:Nat):pS (t.changes.drop v):=⟨by have:=h.cs.len;simp;omega,fun c hc=>h.cs.all c (List.mem_of_mem_drop hc)⟩
theorem cT (t:ab):aZ t t.changes.length=lastS t:=by unfold aZ lastS;rw [List.take_length]
structure j2 (t:ab) (v:Int):Prop where
 lo:0≤v
 hi:v≤(t.changes.length:Int)
theorem j2.c1 {t:ab}{v:Int}(h:j2 t v):(decide (0≤(0:Int))&&decide ((0:Int)≤v)&&decide (v≤(List.length t.changes:Int)))=true:=by
 have:=h.lo;have:=h.hi;simp;omega
theorem j2.c2 {t:ab}{v:Int}(h:j2 t v):(decide (0≤v)&&decide (v≤(List.length t.changes:Int))&&decide ((List.length t.changes:Int)≤(List.length t.changes:Int)))=true:=by
 have:=h.lo;have:=h.hi;simp;omega
structure l5 (t:ab) (r:Row):Prop where
 ver:j2 t r.ver
 len:r.vals.length=(aZ t r.ver.toNat).length
 sm:SmR r.vals
theorem vd {t:ab}{v:Int}(hf:BIG≤fu)(h:Rt t)(hv:j2 t v):f89 fu t v=some (aZ t v.toNat):=by
 unfold f89
 rw [hv.c1,ct,Int.toNat_zero,List.drop_zero,vl hf h.first.sm (h.csTake _),bs]
 unfold wJ pN
 rw [if_pos h.first,(h.at _).1]
theorem eC {t:ab}(hf:BIG≤fu)(h:Rt t):f53 fu t=some (lastS t):=by
 unfold f53
 rw [vd hf h ⟨by omega,by omega⟩,bs,tn,cT]
theorem hY {t:ab}{r:Row}(h:Rt t)(hr:l5 t r):(nowR t r).length=(lastS t).length:=runRow_len (h.at _).2 hr.len
theorem nowR_sm {t:ab}{r:Row}(h:Rt t)(hr:l5 t r):SmR (nowR t r):=ui (h.csDrop _).all (h.okAt _) (h.at _).2 hr.len hr.sm
theorem mF {t:ab}{r:Row}(hf:BIG≤fu)(h:Rt t)(hr:l5 t r):f90 fu t r=some (nowR t r):=by
 unfold f90
 rw [vd hf h hr.ver,bs,hr.ver.c2,ct,tn,List.take_length,AK hf (h.okAt _) (h.csDrop _) (h.at _).2 hr.len hr.sm];rfl
theorem pd {t:ab}{r:Row}(hf:BIG≤fu)(h:Rt t)(hr:l5 t r):f49 fu t r=some (nowR t r):=by
 unfold f49
 rw [hr.ver.c1,ct,Int.toNat_zero,List.drop_zero,sd hf h.first (h.csTake _),bs,hr.ver.c2,ct,tn,List.take_length]
 unfold pN
 rw [(h.at _).1]
 show (f85 fu (aZ t r.ver.toNat) _ _).bind _=_
 rw [Cy hf (h.okAt _) (h.csDrop _) (h.at _).2 hr.len hr.sm];rfl
theorem mO {t:ab}(hf:BIG≤fu)(h:Rt t):f66 fu t=some (lastS t):=by
 unfold f66
 rw [sd hf h.first h.cs,bs]
 unfold pN
 rw [h.last]
def mi (s:List Col)(a b:List Val):Prop:=∃ c,c<s.length∧(s.getD c default).once=true∧(a.getD c default).kind≠0∧a.getD c default=b.getD c default
theorem mi.symm {s:List Col}{a b:List Val}(h:mi s a b):mi s b a:=by
 obtain ⟨c,h1,h2,h3,h4⟩:=h
 exact ⟨c,h1,h2,by rw [← h4];exact h3,h4.symm⟩
def NoTwice (s:List Col)(rows:List (List Val)):Prop:=rows.Pairwise fun a b=>¬ mi s a b
def cy (rows:List (List Val))(c:Nat):Prop:=∃ i,i<rows.length∧∃ k,k<i∧((rows.getD i default).getD c default).kind≠0∧(rows.getD i default).getD c default=(rows.getD k default).getD c default
theorem fi {s:List Col}{rows:List (List Val)}:NoTwice s rows↔¬ ∃ c,c<s.length∧(s.getD c default).once=true∧cy rows c:=by
 unfold NoTwice
 rw [List.pairwise_iff_getElem]
 constructor
 ·rintro h ⟨c,h1,h2,i,hi,k,hk,h3,h4⟩
  rw [ae hi] at h3 h4
  rw [ae (show k<rows.length by omega)] at h4
  exact h k i (by omega) hi hk ⟨c,h1,h2,by rw [← h4];exact h3,h4.symm⟩
 ·rintro h i j hi hj hij ⟨c,h1,h2,h3,h4⟩
  exact h ⟨c,h1,h2,j,hj,i,hij,by rw [ae hj,← h4];exact h3,by rw [ae hi,ae hj,h4]⟩
theorem zH {s:List Col}{rows:List (List Val)}(hf:BIG≤fu)(hs:s.length≤1000)(hr:rows.length≤1000)(hl:∀ r,r∈rows→r.length=s.length):f52 fu s rows=some (B (¬ NoTwice s rows)):=by
 have hlen:∀ i,i<rows.length→(rows.getD i default).length=s.length:=fun i hi=>by rw [ae hi];exact hl _ (List.getElem_mem hi)
 have hBF:1000<fu:=by unfold BIG at hf;omega
 unfold f52
 have h1:=jn (L:=bI fu s rows) (N:=s.length) (fun c=>(s.getD c default).once=true∧cy rows c) (some true) (some false) (by unfold BIG;omega) (fun n=>?_) (fun n c hc hp=>?_) (fun n c hc hp=>?_) (fu:=fu) (by omega)
 ·rw [h1]
  by_cases h:∃ c,c<s.length∧(s.getD c default).once=true∧cy rows c
  ·rw [if_pos h,B_t fun h2=>fi.1 h2 h]
  ·rw [if_neg h,B_f fun h2=>h2 (fi.2 h)]
 ·rw [bI,nlt];rfl
 all_goals
  rw [bI,ltR hc,ct]
  have h2:dB fu s rows (c:Int) (bI fu s rows n) fu 0=@ite _ ((s.getD c default).once=true∧cy rows c) (Classical.propDecidable _) (some true) (bI fu s rows n (IntKind.i64.wrap ((c:Int)+1))):=by
   cases ho:(s.getD c default).once with
   | false=>
    rw [if_neg fun h=>by cases h.1]
    obtain ⟨m,rfl⟩:∃ m,fu=m+1:=⟨fu-1,by omega⟩
    rw [dB]
    cases hN:decide ((0:Int) < (rows.length:Int)) with
    | true=>rw [ct,inR hc,ct,tn,ho];rfl
    | false=>rfl
   | true=>
    rw [jn (L:=dB fu s rows (c:Int) (bI fu s rows n)) (N:=rows.length) (fun i=>∃ k,k<i∧((rows.getD i default).getD c default).kind≠0∧(rows.getD i default).getD c default=(rows.getD k default).getD c default) (some true) (bI fu s rows n (IntKind.i64.wrap ((c:Int)+1))) (by unfold BIG;omega) (fun m=>?_) (fun m i hi hp=>?_) (fun m i hi hp=>?_) (fu:=fu) (by omega)]
    ·by_cases h:cy rows c
     ·rw [if_pos (show ∃ k,_ from h),if_pos ⟨rfl,h⟩]
     ·rw [if_neg (show ¬ ∃ k,_ from h),if_neg fun h'=>h h'.2]
    ·rw [dB,nlt];rfl
    all_goals
     rw [dB,ltR hi,ct,inR hc,ct,tn,ho]
     simp only [nK,ct]
     have hci:c < (rows.getD i default).length:=by rw [hlen i hi];exact hc
     rw [jn (L:=jO rows (c:Int) (i:Int) (bI fu s rows n) (dB fu s rows (c:Int) (bI fu s rows n) m)) (N:=i) (fun k=>((rows.getD i default).getD c default).kind≠0∧(rows.getD i default).getD c default=(rows.getD k default).getD c default) (some true) (dB fu s rows (c:Int) (bI fu s rows n) m (IntKind.i64.wrap ((i:Int)+1))) (by unfold BIG;omega) (fun q=>?_) (fun q k hk hq=>?_) (fun q k hk hq=>?_) (fu:=fu) (by omega)]
     ·first
       | rw [if_pos hp]
       | rw [if_neg hp]
     ·rw [jO,nlt];rfl
     all_goals
      have hck:c < (rows.getD k default).length:=by rw [hlen k (by omega)];exact hc
      rw [jO,ltR hk,ct,inR hi,ct,tn,tn,inR hci,ct]
      simp only [ct,tn,inR (show k<rows.length by omega),inR hck,nJ]
      by_cases hk0:((rows.getD i default).getD c default).kind=0
      ·rw [dt hk0]
       first
        | exact absurd hk0 hq.1
        | rfl
      ·rw [df hk0]
       by_cases hk1:(rows.getD i default).getD c default=(rows.getD k default).getD c default
       ·rw [dt hk1]
        first
         | exact absurd ⟨hk0,hk1⟩ hq
         | rfl
       ·rw [df hk1]
        first
         | exact absurd hq.2 hk1
         | rfl
  rw [h2]
  first
   | rw [if_pos hp]
   | rw [if_neg hp]
structure Rows (t:ab):Prop where
 rt:Rt t
 len:t.rows.length≤1000
 all:∀ k,k<t.rows.length→l5 t (t.rows.getD k default)
noncomputable def nows (t:ab):List (List Val):=t.rows.map (nowR t)
theorem j7 {t:ab}{k:Nat}(hk:k<t.rows.length):(nows t).getD k default=nowR t (t.rows.getD k default):=by
 unfold nows
 simp [List.getD_eq_getElem?_getD,hk]
theorem fX (t:ab):(nows t).length=t.rows.length:=by unfold nows;simp
theorem Rows.lens {t:ab}(h:Rows t):∀ r,r∈nows t→r.length=(lastS t).length:=fun r hr=>by
 obtain ⟨k,hk,rfl⟩:=g_ hr
 have hk':k<t.rows.length:=by rw [fX] at hk;exact hk
 have:=j7 hk'
 rw [ae hk] at this
 rw [this]
 exact hY h.rt (h.all k hk')
theorem l59 {t:ab}(hf:BIG≤fu)(h:Rows t){c:Nat}(hc:c < (lastS t).length){rec1:Int→Option Bool}:∀ (m n k:Nat) (keys:List Val),k+m=t.rows.length→m<n→
     (∀ v,v∈keys↔∃ j,j<k∧v=((nows t).getD j default).getD c default)→
     fm fu t (lastS t) (c:Int) rec1 n (k:Int) keys=@ite _ (((lastS t).getD c default).once=true∧∃ i,k≤i∧i<t.rows.length∧∃ j,j<i∧(((nows t).getD i default).getD c default).kind≠0∧((nows t).getD i default).getD c default=((nows t).getD j default).getD c default) (Classical.propDecidable _) (some false) (rec1 (IntKind.i64.wrap ((c:Int)+1))):=by
 have hN:=h.len
 intro m
 induction m with
 | zero=>
  intro n k keys hk hn hkeys
  obtain ⟨n,rfl⟩:∃ i,n=i+1:=⟨n-1,by omega⟩
  have:k=t.rows.length:=by omega
  subst this
  rw [fm,nlt,if_neg];rfl
  rintro ⟨_,i,h1,h2,_⟩
  omega
 | succ m ih=>
  intro n k keys hk hn hkeys
  obtain ⟨n,rfl⟩:∃ i,n=i+1:=⟨n-1,by omega⟩
  have hkl:k<t.rows.length:=by omega
  have hl:c < ((nows t).getD k default).length:=by rw [j7 hkl,hY h.rt (h.all k hkl)];exact hc
  rw [fm,ltR hkl,ct,ge0,b_,ct,tn,pd hf h.rt (h.all k hkl),bs,← j7 hkl,inR hl,ct]
  simp only [tn,o9,bb hkl (by unfold BIG;omega:t.rows.length≤BIG)]
  obtain ⟨v,hv⟩:∃ v,((nows t).getD k default).getD c default=v:=⟨_,rfl⟩
  simp only [hv]
  have hnext:=ih n (k+1) (cond (memK v keys) keys (keys++[v])) (by omega) (by omega) (fun x=>by
   have e:x∈cond (memK v keys) keys (keys++[v])↔(x∈keys∨x=v):=by
    unfold memK
    by_cases hm:v∈keys
    ·rw [dt hm]
     exact ⟨.inl,fun h=>h.elim id fun e=>e▸hm⟩
    ·rw [df hm];simp
   rw [e,hkeys]
   constructor
   ·rintro (⟨j,h1,h2⟩ | h1)
    ·exact ⟨j,by omega,h2⟩
    ·exact ⟨k,by omega,by rw [hv];exact h1⟩
   ·rintro ⟨j,h1,h2⟩
    by_cases hj:j=k
    ·subst hj;right;rw [h2,hv]
    ·exact .inl ⟨j,by omega,h2⟩)
  have hmem:memK v keys=B (∃ j,j<k∧v=((nows t).getD j default).getD c default):=by
   unfold memK;rw [bM];exact ai (hkeys v)
  -- the rest of the loop,and this row
  have split:∀ P:Nat→Prop,(∃ i,k≤i∧i<t.rows.length∧P i)↔(P k∨∃ i,k+1≤i∧i<t.rows.length∧P i):=fun P=>by
   constructor
   ·rintro ⟨i,h1,h2,h3⟩
    by_cases hi:i=k
    ·subst hi;exact .inl h3
    ·exact .inr ⟨i,by omega,h2,h3⟩
   ·rintro (h1 | ⟨i,h1,h2,h3⟩)
    ·exact ⟨k,Nat.le_refl _,hkl,h1⟩
    ·exact ⟨i,by omega,h2,h3⟩
  have hs:=split fun i=>∃ j,j<i∧(((nows t).getD i default).getD c default).kind≠0∧((nows t).getD i default).getD c default=((nows t).getD j default).getD c default
  rw [hv] at hs
  cases ho:((lastS t).getD c default).once with
  | false=>
   rw [ho] at hnext
   rw [if_neg fun h=>by cases h.1]
   rw [if_neg fun h=>by cases h.1] at hnext
   exact hnext
  | true=>
   rw [ho] at hnext
   rw [ct]
   by_cases hnow:∃ j,j<k∧v.kind≠0∧v=((nows t).getD j default).getD c default
   ·rw [if_pos ⟨rfl,hs.2 (.inl hnow)⟩]
    obtain ⟨j,h1,h2,h3⟩:=hnow
    rw [df h2,hmem,B_t ⟨j,h1,h3⟩];rfl
   ·have e:(bif !decide (v.kind=0) then bif memK v keys then some false else fm fu t (lastS t) (c:Int) rec1 n ((k+1:Nat):Int) (cond (memK v keys) keys (keys++[v])) else bif false then some false else fm fu t (lastS t) (c:Int) rec1 n ((k+1:Nat):Int) (cond (memK v keys) keys (keys++[v])))=fm fu t (lastS t) (c:Int) rec1 n ((k+1:Nat):Int) (cond (memK v keys) keys (keys++[v])):=by
     by_cases hv0:v.kind=0
     ·rw [dt hv0];rfl
     ·rw [df hv0]
      have:memK v keys=false:=by rw [hmem];exact B_f fun ⟨j,h1,h2⟩=>hnow ⟨j,h1,hv0,h2⟩
      rw [this];rfl
    refine Eq.trans e ?_
    rw [hnext]
    by_cases hr:∃ i,k+1≤i∧i<t.rows.length∧∃ j,j<i∧(((nows t).getD i default).getD c default).kind≠0∧((nows t).getD i default).getD c default=((nows t).getD j default).getD c default
    ·rw [if_pos ⟨rfl,hr⟩,if_pos ⟨rfl,hs.2 (.inr hr)⟩]
    ·rw [if_neg fun h=>hr h.2,if_neg fun h=>(hs.1 h.2).elim hnow hr]
theorem vj {t:ab}(hf:BIG≤fu)(h:Rows t):f59 fu t=some (B (NoTwice (lastS t) (nows t))):=by
 have hN:=h.len
 have hS:=h.rt.okLast.hi
 have hBF:1000<fu:=by unfold BIG at hf;omega
 have hcol:∀ c,(((lastS t).getD c default).once=true∧∃ i,0≤i∧i<t.rows.length∧∃ j,j<i∧(((nows t).getD i default).getD c default).kind≠0∧((nows t).getD i default).getD c default=((nows t).getD j default).getD c default)↔(((lastS t).getD c default).once=true∧cy (nows t) c):=fun c=>by
  unfold cy
  rw [fX]
  constructor
  ·rintro ⟨h1,i,_,h2,h3⟩;exact ⟨h1,i,h2,h3⟩
  ·rintro ⟨h1,i,h2,h3⟩;exact ⟨h1,i,Nat.zero_le _,h2,h3⟩
 have hrow:∀ (n c:Nat),c < (lastS t).length→fo fu t (lastS t) (n+1) (c:Int)=@ite _ (((lastS t).getD c default).once=true∧cy (nows t) c) (Classical.propDecidable _) (some false) (fo fu t (lastS t) n (IntKind.i64.wrap ((c:Int)+1))):=fun n c hc=>by
  rw [fo,ltR hc,ct,ge0,b_,ct]
  have:=l59 hf h hc (rec1:=fo fu t (lastS t) n) t.rows.length fu 0 [] (by omega) (by omega) (fun v=>by simp)
  rw [show ((0:Nat):Int)=0 from rfl] at this
  rw [this]
  by_cases h2:((lastS t).getD c default).once=true∧cy (nows t) c
  ·rw [if_pos h2,if_pos ((hcol c).2 h2)]
  ·rw [if_neg h2,if_neg fun h3=>h2 ((hcol c).1 h3)]
 unfold f59
 rw [mO hf h.rt,bs]
 have h1:=jn (L:=fo fu t (lastS t)) (N:=(lastS t).length) (fun c=>((lastS t).getD c default).once=true∧cy (nows t) c) (some false) (some true) (by unfold BIG;omega) (fun n=>?_) (fun n c hc hp=>?_) (fun n c hc hp=>?_) (fu:=fu) (by omega)
 ·rw [h1]
  by_cases h:∃ c,c < (lastS t).length∧((lastS t).getD c default).once=true∧cy (nows t) c
  ·rw [if_pos h,B_f fun h2=>fi.1 h2 h]
  ·rw [if_neg h,B_t (fi.2 h)]
 ·rw [fo,nlt];rfl
 ·rw [hrow n c hc,if_pos hp]
 ·rw [hrow n c hc,if_neg hp]
theorem kU {α:Type}{l:List α}{d:α}{k:Nat}(hk:k<l.length):l.take (k+1)=l.take k++[l.getD k d]:=by
 rw [ae hk,List.take_succ_eq_append_getElem hk]
theorem CG {t:ab}(hf:BIG≤fu)(h:Rows t):f54 fu t=some (nows t):=by
 have hN:=h.len
 have key:∀ (m n k:Nat),k+m=t.rows.length→m<n→mQ fu t n (k:Int) ((nows t).take k)=some (nows t):=by
  intro m
  induction m with
  | zero=>
   intro n k hk hn
   obtain ⟨n,rfl⟩:∃ i,n=i+1:=⟨n-1,by omega⟩
   have:k=t.rows.length:=by omega
   subst this
   rw [mQ,nlt,← fX,List.take_length];rfl
  | succ m ih=>
   intro n k hk hn
   obtain ⟨n,rfl⟩:∃ i,n=i+1:=⟨n-1,by omega⟩
   have hkl:k<t.rows.length:=by omega
   have t1:List.length ((nows t).take k)+List.length ([nowR t (t.rows.getD k default)]:List (List Val))≤100000:=by
    have:=fX t
    simp;omega
   rw [mQ,ltR hkl,ct,ge0,b_,ct,tn,mF hf h.rt (h.all k hkl),bs,cap t1,ct,← j7 hkl,← kU (by rw [fX];exact hkl),bb hkl (by unfold BIG;omega)]
   exact ih n (k+1) (by omega) (by omega)
 unfold f54
 exact key t.rows.length fu 0 (by omega) (by unfold BIG at hf;omega)
structure bm (t:ab) (k:Nat):Prop where
 ver:j2 t (t.rows.getD k default).ver
 lo:1≤(t.rows.getD k default).id
 hi:(t.rows.getD k default).id<t.next
 up:0<k→(t.rows.getD (k-1) default).id < (t.rows.getD k default).id
 was:aO (aZ t (t.rows.getD k default).ver.toNat) (t.rows.getD k default).vals
 now:aO (lastS t) (nowR t (t.rows.getD k default))
structure aP (t:ab):Prop where
 first:ak t.first
 run:∃ x,run t.first t.changes=some x
 nch:t.changes.length≤8
 nrow:t.rows.length≤8
 lo:1≤t.next
 hi:t.next≤60
 rows:∀ k,k<t.rows.length→bm t k
 once:NoTwice (lastS t) (nows t)
structure SmT (t:ab):Prop where
 first:SmS t.first
 cs:pS t.changes
 nrow:t.rows.length≤1000
 rows:∀ k,k<t.rows.length→SmR (t.rows.getD k default).vals
theorem aP.rt {t:ab}(h:aP t)(hs:SmT t):Rt t:=⟨h.first,h.run,hs.cs⟩
theorem bm.rowIn {t:ab}{k:Nat}(hr:bm t k)(hs:SmR (t.rows.getD k default).vals):l5 t (t.rows.getD k default):=⟨hr.ver,hr.was.len,hs⟩
theorem aP.rws {t:ab}(h:aP t)(hs:SmT t):Rows t:=⟨h.rt hs,hs.nrow,fun k hk=>(h.rows k hk).rowIn (hs.rows k hk)⟩
theorem s51 {t:ab}(hf:BIG≤fu)(h:Rt t)(hs:SmT t){n k:Nat}(hk:k<t.rows.length) :
     cX fu t (lastS t) (n+1) (k:Int)=cond (B (bm t k)) (cX fu t (lastS t) n (IntKind.i64.wrap ((k:Int)+1))) (some false):=by
 have hN:=hs.nrow
 have hsm:=hs.rows k hk
 rw [cX,ltR hk,ct,ge0,b_,ct,tn]
 by_cases h1:(t.rows.getD k default).ver<0
 ·rw [dt h1,B_f fun g=>by have:=g.ver.lo;omega];rfl
 rw [df h1,cf]
 by_cases h2:(t.changes.length:Int) < (t.rows.getD k default).ver
 ·rw [dt h2,B_f fun g=>by have:=g.ver.hi;omega];rfl
 rw [df h2,cf]
 by_cases h3:(t.rows.getD k default).id<1
 ·rw [dt h3,B_f fun g=>by have:=g.lo;omega];rfl
 rw [df h3,cf]
 by_cases h4:t.next≤(t.rows.getD k default).id
 ·rw [dt h4,B_f fun g=>by have:=g.hi;omega];rfl
 rw [df h4,cf]
 have hv:j2 t (t.rows.getD k default).ver:=⟨by omega,by omega⟩
 have rest:∀ hup:(0<k→(t.rows.getD (k-1) default).id < (t.rows.getD k default).id),io fu t (lastS t) (k:Int) (cX fu t (lastS t) n) false=cond (B (bm t k)) (cX fu t (lastS t) n (IntKind.i64.wrap ((k:Int)+1))) (some false):=fun hup=>by
  unfold io
  rw [cf,tn,vd hf h hv,bs,rV hf (h.okAt _) hsm,bs]
  by_cases g1:aO (aZ t (t.rows.getD k default).ver.toNat) (t.rows.getD k default).vals
  case neg=>rw [B_f g1,B_f fun g=>g1 g.was];rfl
  have hin:l5 t (t.rows.getD k default):=⟨hv,g1.len,hsm⟩
  rw [B_t g1,mF hf h hin]
  simp only [n_,cf,bs]
  rw [rV hf h.okLast (nowR_sm h hin),bs]
  by_cases g2:aO (lastS t) (nowR t (t.rows.getD k default))
  ·rw [B_t g2,B_t ⟨hv,by omega,by omega,hup,g1,g2⟩];rfl
  ·rw [B_f g2,B_f (p:=bm t k) fun g=>g2 g.now];rfl
 by_cases h5:0<k
 ·have e:IntKind.i64.wrap ((k:Int)-1)=((k-1:Nat):Int):=by rw [bj (by omega) (by omega)];omega
  rw [dt (show (0:Int) < (k:Int) by omega),ct,e,inR (show k-1<t.rows.length by omega),ct,tn]
  by_cases h6:(t.rows.getD k default).id≤(t.rows.getD (k-1) default).id
  ·rw [dt h6,B_f fun g=>by have:=g.up h5;omega];rfl
  ·rw [df h6];exact rest fun _=>by omega
 ·rw [df (show ¬ (0:Int) < (k:Int) by omega),cf];exact rest fun h=>absurd h h5
theorem CH {t:ab}(hf:BIG≤fu)(h:Rt t)(hs:SmT t):f51 fu t=some (B (∀ k,k<t.rows.length→bm t k)):=by
 have hN:=hs.nrow
 unfold f51
 rw [eC hf h,bs,ai (show (∀ k,k<t.rows.length→bm t k)↔((∀ k,k<t.rows.length→bm t k)∧True) from ⟨fun h=>⟨h,trivial⟩,fun h=>h.1⟩)]
 refine d8 (L:=cX fu t (lastS t)) _ _ (by unfold BIG;omega) (fun n h=>?_) (fun n h=>absurd trivial h) (fun n k hk hp=>?_) (fun n k hk hp=>?_) (by unfold BIG at hf;omega)
 ·rw [cX,nlt];rfl
 ·rw [s51 hf h hs hk,B_t hp];rfl
 ·rw [s51 hf h hs hk,B_f hp];rfl
theorem pG {t:ab}:aP t↔(ak t.first∧∃ x,run t.first t.changes=some x)∧t.changes.length≤8∧t.rows.length≤8∧1≤t.next∧t.next≤60∧(∀ k,k<t.rows.length→bm t k)∧NoTwice (lastS t) (nows t):=
 ⟨fun h=>⟨⟨h.1,h.2⟩,h.3,h.4,h.5,h.6,h.7,h.8⟩,fun h=>⟨h.1.1,h.1.2,h.2.1,h.2.2.1,h.2.2.2.1,h.2.2.2.2.1,h.2.2.2.2.2.1,h.2.2.2.2.2.2⟩⟩
theorem wH {t:ab}(h:ak t.first∧∃ x,run t.first t.changes=some x):wJ t.first t.changes=(lastS t,true):=by
 obtain ⟨h1,x,hx⟩:=h
 unfold wJ pN lastS
 rw [if_pos h1,hx];rfl
theorem wI {t:ab}(h:¬ (ak t.first∧∃ x,run t.first t.changes=some x)):wJ t.first t.changes=([],false):=by
 unfold wJ pN
 by_cases h1:ak t.first
 ·rw [if_pos h1]
  cases hr:run t.first t.changes with
  | none=>rfl
  | some x=>exact absurd ⟨h1,x,hr⟩ h
 ·rw [if_neg h1]
theorem CP {t:ab}(hf:BIG≤fu)(hs:SmT t):f17 fu t=some (B (aP t)):=by
 unfold f17
 rw [vl hf hs.first hs.cs,bs,ai pG]
 simp only [jP]
 by_cases h0:ak t.first∧∃ x,run t.first t.changes=some x
 case neg=>rw [wI h0,B_f fun h=>h0 h.1];rfl
 rw [wH h0]
 have hrt:Rt t:=⟨h0.1,h0.2,hs.cs⟩
 simp only [n_,cf]
 by_cases h1:8<t.changes.length
 ·rw [dt (show (8:Int) < (t.changes.length:Int) by omega),B_f fun h=>by omega];rfl
 rw [df (show ¬ (8:Int) < (t.changes.length:Int) by omega),cf]
 by_cases h2:8<t.rows.length
 ·rw [dt (show (8:Int) < (t.rows.length:Int) by omega),B_f fun h=>by omega];rfl
 rw [df (show ¬ (8:Int) < (t.rows.length:Int) by omega),cf]
 by_cases h3:t.next<1
 ·rw [dt h3,B_f fun h=>by omega];rfl
 rw [df h3,cf]
 by_cases h4:60<t.next
 ·rw [dt h4,B_f fun h=>by omega];rfl
 rw [df h4,cf,CH hf hrt hs,bs]
 by_cases h5:∀ k,k<t.rows.length→bm t k
 case neg=>rw [B_f h5,B_f fun h=>h5 h.2.2.2.2.2.1];rfl
 have hr:Rows t:=⟨hrt,hs.nrow,fun k hk=>(h5 k hk).rowIn (hs.rows k hk)⟩
 have hl:=hrt.okLast.hi
 rw [B_t h5,eC hf hrt,CG hf hr]
 simp only [n_,cf,bs]
 rw [zH hf (by omega) (by rw [fX];omega) hr.lens,bs,l7,Bool.not_not]
 congr 1
 exact ai ⟨fun h=>⟨h0,by omega,by omega,by omega,by omega,h5,h⟩,fun h=>h.2.2.2.2.2.2⟩
theorem s19 {t:ab}(hf:BIG≤fu)(h:Rt t)(hs:SmT t)(h1:1≤t.next)(h2:t.next≤60){n k:Nat}{i4:Int}(hk:k<t.rows.length)(hi0:0≤i4)(hi1:i4≤60)
     (hi:i4+1≤(t.rows.getD k default).id↔(1≤(t.rows.getD k default).id∧(0<k→(t.rows.getD (k-1) default).id < (t.rows.getD k default).id))) :
     fF fu t (lastS t,true) (n+1) i4 (k:Int)=cond (B (bm t k)) (fF fu t (lastS t,true) n (t.rows.getD k default).id (IntKind.i64.wrap ((k:Int)+1))) (some false):=by
 have hsm:=hs.rows k hk
 rw [fF,ltR hk,ct,ge0,b_,ct,tn,jN,bs,jN,bj (x:=i4+1) (by omega) (by omega),bj (x:=t.next-1) (by omega) (by omega)]
 by_cases g1:i4+1≤(t.rows.getD k default).id∧(t.rows.getD k default).id≤t.next-1
 case neg=>
  rw [B_f g1,B_f (p:=bm t k) fun g=>g1 ⟨hi.2 ⟨g.lo,g.up⟩,by have:=g.hi;omega⟩];rfl
 rw [B_t g1]
 simp only [n_,cf,bs]
 by_cases g2:0≤(t.rows.getD k default).ver∧(t.rows.getD k default).ver≤(t.changes.length:Int)
 case neg=>rw [B_f g2,B_f (p:=bm t k) fun g=>g2 ⟨g.ver.lo,g.ver.hi⟩];rfl
 rw [B_t g2]
 have hv:j2 t (t.rows.getD k default).ver:=⟨g2.1,g2.2⟩
 simp only [sq,n_,cf,tn]
 rw [hv.c1,ct,Int.toNat_zero,List.drop_zero,sd hf h.first (h.csTake _),bs]
 have e:(pN t.first (List.take (t.rows.getD k default).ver.toNat t.changes)).1=aZ t (t.rows.getD k default).ver.toNat:=by
  unfold pN;rw [(h.at _).1]
 rw [e,pc hf hsm,bs]
 by_cases g3:aO (aZ t (t.rows.getD k default).ver.toNat) (t.rows.getD k default).vals
 case neg=>rw [B_f g3,B_f (p:=bm t k) fun g=>g3 g.was];rfl
 have hin:l5 t (t.rows.getD k default):=⟨hv,g3.len,hsm⟩
 rw [B_t g3,pd hf h hin]
 simp only [n_,cf,bs,so,tn]
 rw [pc hf (nowR_sm h hin),bs]
 by_cases g4:aO (lastS t) (nowR t (t.rows.getD k default))
 ·rw [B_t g4,B_t ⟨hv,(hi.1 g1.1).1,by omega,(hi.1 g1.1).2,g3,g4⟩];rfl
 ·rw [B_f g4,B_f (p:=bm t k) fun g=>g4 g.now];rfl
theorem CO {t:ab}(hf:BIG≤fu)(hs:SmT t):f19 fu t=some (B (aP t)):=by
 unfold f19
 rw [CF hf hs.first hs.cs,bs,ai pG]
 simp only [mS]
 by_cases h0:ak t.first∧∃ x,run t.first t.changes=some x
 case neg=>rw [wI h0,B_f fun h=>h0 h.1];rfl
 rw [wH h0]
 have hrt:Rt t:=⟨h0.1,h0.2,hs.cs⟩
 simp only [n_,cf]
 by_cases h1:8<t.changes.length
 ·rw [dt (show (8:Int) < (t.changes.length:Int) by omega),B_f fun h=>by omega];rfl
 rw [df (show ¬ (8:Int) < (t.changes.length:Int) by omega),cf]
 by_cases h2:8<t.rows.length
 ·rw [dt (show (8:Int) < (t.rows.length:Int) by omega),B_f fun h=>by omega];rfl
 rw [df (show ¬ (8:Int) < (t.rows.length:Int) by omega),cf,jN,bs]
 by_cases h3:1≤t.next∧t.next≤60
 case neg=>rw [B_f h3,B_f fun h=>h3 ⟨h.2.2.2.1,h.2.2.2.2.1⟩];rfl
 rw [B_t h3]
 simp only [n_,cf]
 have key:∀ (m n k:Nat) (i4:Int),k+m=t.rows.length→m<n→(∀ j,j<k→bm t j)→(k=0→i4=0)→(0<k→i4=(t.rows.getD (k-1) default).id)→
  fF fu t (lastS t,true) n i4 (k:Int)=some (B ((∀ j,j<t.rows.length→bm t j)∧NoTwice (lastS t) (nows t))):=by
  intro m
  induction m with
  | zero=>
   intro n k i4 hk hn hg _ _
   obtain ⟨n,rfl⟩:∃ i,n=i+1:=⟨n-1,by omega⟩
   have:k=t.rows.length:=by omega
   subst this
   have hr:Rows t:=⟨hrt,hs.nrow,fun k hk=>(hg k hk).rowIn (hs.rows k hk)⟩
   rw [fF,nlt,cf,vj hf hr,bs]
   congr 1
   exact ai ⟨fun h=>⟨hg,h⟩,fun h=>h.2⟩
  | succ m ih=>
   intro n k i4 hk hn hg h0 hpos
   obtain ⟨n,rfl⟩:∃ i,n=i+1:=⟨n-1,by omega⟩
   have hkl:k<t.rows.length:=by omega
   have hb:0≤i4∧i4≤60:=by
    rcases Nat.eq_zero_or_pos k with h|h
    ·have:=h0 h;omega
    ·have g:=hg (k-1) (by omega)
     have:=g.lo;have:=g.hi;have:=hpos h;omega
   have hi:i4+1≤(t.rows.getD k default).id↔(1≤(t.rows.getD k default).id∧(0<k→(t.rows.getD (k-1) default).id < (t.rows.getD k default).id)):=by
    rcases Nat.eq_zero_or_pos k with h|h
    ·have:=h0 h
     exact ⟨fun _=>⟨by omega,fun _=>by omega⟩,fun _=>by omega⟩
    ·have:=hpos h
     have g:=(hg (k-1) (by omega)).lo
     exact ⟨fun _=>⟨by omega,fun _=>by omega⟩,fun h'=>by have:=h'.2 h;omega⟩
   rw [s19 hf hrt hs h3.1 h3.2 hkl hb.1 hb.2 hi]
   by_cases hgk:bm t k
   ·rw [B_t hgk,ct,bb hkl (by unfold BIG;omega)]
    refine ih n (k+1) _ (by omega) (by omega) (fun j hj=>?_) (fun h=>by omega) (fun _=>by rw [Nat.add_sub_cancel])
    by_cases hj':j=k
    ·subst hj';exact hgk
    ·exact hg j (by omega)
   ·rw [B_f hgk,B_f fun h=>hgk (h.1 k hkl)];rfl
 have:=key t.rows.length fu 0 0 (by omega) (by unfold BIG at hf;omega) (fun j hj=>by omega) (fun _=>rfl) (fun h=>by omega)
 rw [show ((0:Nat):Int)=0 from rfl] at this
 rw [this]
 congr 1
 exact ai ⟨fun h=>⟨h0,by omega,by omega,by omega,by omega,h.1,h.2⟩,fun h=>⟨h.2.2.2.2.2.1,h.2.2.2.2.2.2⟩⟩
end Go.Proofs.YtganfdhmkdehlaaGreatDoor
