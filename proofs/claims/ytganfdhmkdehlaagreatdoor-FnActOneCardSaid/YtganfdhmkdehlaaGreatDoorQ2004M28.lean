/- Bases copied, compared, written: program and document do as the model. -/
import Derived.Test.YtganfdhmkdehlaaGreatDoorQ2004M26
set_option linter.all false
namespace Go.Proofs.YtganfdhmkdehlaaGreatDoor
open Go Go.HL
variable {fu:Nat}
theorem bg {b:ac}(hf:BIG≤fu)(h:SmB b):d7 fu b=some b:=by
 have hN:=h.ntab
 have hL:=h.nlink
 have key:∀ (m n k:Nat),k+m=b.tabs.length→m<n→f8 fu b n (k:Int) ⟨b.tabs.take k,b.links⟩=some b:=by
  intro m
  induction m with
  | zero=>
   intro n k hk hn
   obtain ⟨n,rfl⟩:∃ i,n=i+1:=⟨n-1,by omega⟩
   have:k=b.tabs.length:=by omega
   subst this
   rw [f8,nlt,List.take_length];rfl
  | succ m ih=>
   intro n k hk hn
   obtain ⟨n,rfl⟩:∃ i,n=i+1:=⟨n-1,by omega⟩
   have hkl:k<b.tabs.length:=by omega
   have e1:f42 fu (b.tabs.getD k default).table=some (b.tabs.getD k default).table:=lr hf (h.tabs k hkl)
   rw [f8,inR hkl,ltR hkl,ct,ct,ct,tn,e1,bs,cap (by rw [List.length_take,s_];omega),ct,bb hkl (by unfold BIG;omega)]
   have e:(⟨b.tabs.take k++[(⟨(b.tabs.getD k default).name,(b.tabs.getD k default).table⟩:Tab)],b.links⟩:ac)=⟨b.tabs.take (k+1),b.links⟩:=by
    rw [kC (d:=default) hkl]
   rw [e]
   exact ih n (k+1) (by omega) (by omega)
 unfold d7
 rw [cap (by rw [List.length_nil];omega),ct]
 exact key b.tabs.length fu 0 (by omega) (by unfold BIG at hf;omega)
theorem rT {l:List Tab}(h:l.length≤5000):sX l=some l:=by
 unfold sX xD xE
 rw [cap (by rw [List.length_nil];omega)];rfl
theorem rP {l:List aj}(h:l.length≤5000):sU l=some l:=by
 unfold sU xA xB
 rw [cap (by rw [List.length_nil];omega)];rfl
theorem bU {b:ac}(hf:BIG≤fu)(h:SmB b):ez fu b=some b:=by
 have hN:=h.ntab
 have hL:=h.nlink
 have key:∀ (m n k:Nat),k+m=b.tabs.length→m<n→f9 fu b b.links n (k:Int) b.tabs=some b:=by
  intro m
  induction m with
  | zero=>
   intro n k hk hn
   obtain ⟨n,rfl⟩:∃ i,n=i+1:=⟨n-1,by omega⟩
   have:k=b.tabs.length:=by omega
   subst this
   rw [f9,nlt];rfl
  | succ m ih=>
   intro n k hk hn
   obtain ⟨n,rfl⟩:∃ i,n=i+1:=⟨n-1,by omega⟩
   have hkl:k<b.tabs.length:=by omega
   have e1:f80 fu (b.tabs.getD k default).table=some (b.tabs.getD k default).table:=cT hf (h.tabs k hkl)
   rw [f9,inR hkl,ltR hkl,ct,ct,tn,e1,bs,ct,bb hkl (by unfold BIG;omega)]
   have e:b.tabs.set k { (b.tabs.getD k default) with table:=(b.tabs.getD k default).table } = b.tabs:=mY hkl
   rw [e]
   exact ih n (k+1) (by omega) (by omega)
 unfold ez nR
 rw [rT (by omega),bs,rP (by omega),bs]
 exact key b.tabs.length fu 0 (by omega) (by unfold BIG at hf;omega)
theorem xM {r q:Tab}(hf:BIG≤fu)(hr:SmT r.table):lX fu r q=some (B (r=q)):=by
 unfold lX km
 rw [Bs hf hr,bs,bL]
 have e:B (r=q)=(B (r.name=q.name)&&B (r.table=q.table)):=by
  rw [← bW]
  exact ai ⟨fun h=>by rw [h];exact ⟨rfl,rfl⟩,fun h=>by cases r;cases q;cases h.1;cases h.2;rfl⟩
 rw [e]
 cases B (r.name=q.name)<;>rfl
theorem xN {a b:List Tab}(hf:BIG≤fu)(ha:a.length≤1000)(hr:∀ k,k<a.length→SmT (a.getD k default).table):vi fu a b (fun x0 x1=>lX fu x0 x1)=some (B (a=b)):=by
 unfold vi
 by_cases hl:a.length=b.length
 case neg=>rw [df (show ¬ (a.length:Int)=(b.length:Int) by omega),B_f fun e=>hl (by rw [e])];rfl
 rw [dt (show (a.length:Int)=(b.length:Int) by omega),ai (k7 hl)]
 show di a b _ fu 0=_
 have step:∀ n (k:Nat),k<a.length→di a b (fun x0 x1=>lX fu x0 x1) (n+1) (k:Int)=cond (!B (a.getD k default=b.getD k default)) (some false) (di a b (fun x0 x1=>lX fu x0 x1) n (IntKind.i64.wrap ((k:Int)+1))):=fun n k hk=>by
  rw [di,ltR hk,ct,ge0,b_,ct,ltR (show k<b.length by omega),b_,ct,tn,xM hf (hr k hk),bs]
 refine dZ (L:=di a b fun x0 x1=>lX fu x0 x1) _ _ (by unfold BIG;omega) (fun n _=>?_) (fun n h=>absurd trivial h) (fun n k hk hp=>?_) (fun n k hk hp=>?_) (by unfold BIG at hf;omega)
 ·rw [di,nlt];rfl
 ·rw [step n k hk,B_t hp];rfl
 ·rw [step n k hk,B_f hp];rfl
theorem xO {a b:List aj}(hf:BIG≤fu)(ha:a.length≤1000):xP fu a b=some (B (a=b)):=jL (L:=ko) (fun _ _ _ _=>rfl) hf ha
theorem xZ {a b:ac}(hf:BIG≤fu)(ha:SmB a):qm fu a b=some (B (a=b)):=by
 unfold qm kz
 rw [xO hf ha.nlink,bs]
 have e:B (a=b)=(B (a.links=b.links)&&B (a.tabs=b.tabs)):=by
  rw [← bW]
  exact ai ⟨fun h=>by rw [h];exact ⟨rfl,rfl⟩,fun h=>by cases a;cases b;cases h.1;cases h.2;rfl⟩
 rw [e]
 cases B (a.links=b.links) with
 | false=>rfl
 | true=>
  rw [ct,xN hf ha.ntab fun k hk=>ha.tabs k hk];rfl
theorem mG {a:ac}(hf:BIG≤fu)(ha:SmB a):qm fu a a=some true:=by rw [xZ hf ha,B_t rfl]
theorem xo {b:ac}(hf:BIG≤fu)(h:fN b)(hl:∀ i,i<b.links.length→aq b (b.links.getD i default)):sK fu b=some (B (yn b)):=by
 have hN:=h.sm.nlink
 unfold sK
 have hp:yn b↔((∀ i,i<b.links.length→ao b (b.links.getD i default))∧True):=⟨fun h=>⟨h,trivial⟩,fun h=>h.1⟩
 rw [ai hp]
 refine dZ (L:=eR fu b) _ _ (by unfold BIG;omega) (fun n _=>?_) (fun n h=>absurd trivial h) (fun n k hk hp=>?_) (fun n k hk hp=>?_) (by unfold BIG at hf;omega)
 ·rw [eR,nlt];rfl
 ·rw [eR,ltR hk,ct,ge0,b_,ct,tn,kj hf h (hl k hk),bs,B_t hp];rfl
 ·rw [eR,ltR hk,ct,ge0,b_,ct,tn,kj hf h (hl k hk),bs,B_f hp];rfl
theorem xr {b:ac}(hf:BIG≤fu)(h:fN b)(hl:∀ i,i<b.links.length→aq b (b.links.getD i default)):sN fu b=some (B (yn b)):=by
 have hN:=h.sm.nlink
 unfold sN xp sO
 have e0:∀ k,k<b.links.length→pS fu (b.links.getD k default) b=some (!B (ao b (b.links.getD k default))):=fun k hk=>by
  unfold pS
  rw [nQ hf h (hl k hk)];rfl
 have e1:=lS (L:=bR b.links fun x0=>pS fu x0 b) b.links (fun l=>!B (ao b l)) (by unfold BIG;omega) (fun n=>by rw [bR,nlt];rfl)
  (fun n k hk hp=>by rw [bR,ltR hk,ct,ge0,b_,ct,tn,e0 k hk,ae hk,hp];rfl)
  (fun n k hk hp=>by rw [bR,ltR hk,ct,ge0,b_,ct,tn,e0 k hk,ae hk,hp];rfl) (fu:=fu) (by unfold BIG at hf;omega)
 rw [e1,bs,bs]
 congr 1
 by_cases hh:yn b
 ·have:¬ (b.links.findIdx fun l=>!B (ao b l))<b.links.length:=fun hlt=>by
   have:=List.findIdx_getElem (w:=hlt)
   have g:=hh _ hlt
   rw [ae hlt] at g
   rw [B_t g] at this
   cases this
  rw [if_neg this,B_t hh];rfl
 ·have:(b.links.findIdx fun l=>!B (ao b l))<b.links.length:=by
   obtain ⟨i,hi⟩:=Classical.not_forall.1 hh
   obtain ⟨hi,hn⟩:=Classical.not_imp.1 hi
   exact List.findIdx_lt_length_of_exists ⟨_,getD_mem (d:=(default:aj)) hi,by rw [B_f hn];rfl⟩
  rw [if_pos this,ge0,B_f hh];rfl
theorem qF {b:ac}{k:Nat}{t:ab}(h:av b)(hk:k<b.tabs.length)(ht:nZ t):fN (aQ b k t):=
 ⟨fun i hi=>by
  rw [bB] at hi
  rw [setTab_tabK hk]
  split
  ·exact ht.ok
  ·exact (h.ok.tabs i hi).ok,fv h.sm hk ht.sm⟩
theorem kG {b:ac}{k:Nat}{t:ab}(h:av b)(hk:k<b.tabs.length)(hs:lastS t=lastS (dm b k)):∀ i,i < (aQ b k t).links.length→aq (aQ b k t) ((aQ b k t).links.getD i default):=fun i hi=>
 (kF hk hs).fits (h.ok.links i hi).fits
theorem rH {b:ac}{k:Nat}{t:ab}{c:Int}(hf:BIG≤fu)(h:av b)(hk:k<b.tabs.length)(ht:nZ t)(hs:lastS t=lastS (dm b k)):sM fu b (k:Int) t c=some (dp b k (t,c)):=by
 unfold sM dp
 by_cases hc:c=0
 case neg=>rw [df hc,if_pos hc];rfl
 rw [dt hc,if_neg (fun hh=>hh hc)]
 simp only [n_,cf]
 rw [bg hf h.sm,bs,inR hk,ct,tn]
 show (sK fu (aQ b k t)).bind _=_
 rw [xo hf (qF h hk ht) (kG h hk hs),bs]
 by_cases hh:yn (aQ b k t)
 ·rw [B_t hh,if_pos hh,hc];rfl
 ·rw [B_f hh,if_neg hh];rfl
theorem rK {b:ac}{nm:List UInt8}{xs:List Set}(hf:BIG≤fu)(h:av b)(hx:SmX xs):sP fu b nm xs=some (wF b nm xs):=by
 unfold sP wF
 rw [a6 hf h.sm.ntab,bs]
 by_cases hk:tabN b nm<b.tabs.length
 case neg=>rw [dY hk,if_neg hk];rfl
 have g:=h.tabT hk
 rw [aK hk,wd,cf,inR hk,ct,tn,aV,lr hf g.sm,bs,Bf hf g.ok g.sm hx,bs,rH hf h hk ⟨pA g.ok,pz g.ok g.sm hx⟩ (kK _ _),if_pos hk];rfl
theorem rL {b:ac}{nm:List UInt8}{id:Int}{xs:List Set}(hf:BIG≤fu)(h:av b)(hx:SmX xs):sQ fu b nm id xs=some (ww b nm id xs):=by
 unfold sQ ww
 rw [a6 hf h.sm.ntab,bs]
 by_cases hk:tabN b nm<b.tabs.length
 case neg=>rw [dY hk,if_neg hk];rfl
 have g:=h.tabT hk
 rw [aK hk,wd,cf,inR hk,ct,tn,aV,lr hf g.sm,bs,yM hf g.ok g.sm hx,bs,rH hf h hk ⟨pu g.ok,setT_sm g.ok g.sm hx⟩ (kH _ _ _),if_pos hk];rfl
theorem xQ {b:ac}{nm:List UInt8}{xs:List Set}(hf:BIG≤fu)(h:SmB b)(hx:SmX xs):vl fu b nm xs=some (kL b nm xs):=by
 unfold vl kL
 rw [dl hf h,bs]
 by_cases hk:ah b
 case neg=>rw [B_f hk,if_neg hk];rfl
 rw [B_t hk,if_pos hk]
 simp only [n_,cf]
 rw [bg hf h,bs,rK hf ⟨hk,h⟩ hx];rfl
theorem xS {b:ac}{nm:List UInt8}{id:Int}{xs:List Set}(hf:BIG≤fu)(h:SmB b)(hx:SmX xs):vo fu b nm id xs=some (kI b nm id xs):=by
 unfold vo kI
 rw [dl hf h,bs]
 by_cases hk:ah b
 case neg=>rw [B_f hk,if_neg hk];rfl
 rw [B_t hk,if_pos hk]
 simp only [n_,cf]
 rw [bg hf h,bs,rL hf ⟨hk,h⟩ hx];rfl
theorem rM {b:ac}{nm:List UInt8}{f:ab→Option (ab×Int)}{g:ab→ab×Int}(hf:BIG≤fu)(h:SmB b)(hg:∀ t,nZ t→f t=some (g t))(hok:∀ t,nZ t→nZ (g t).1)(hl:∀ t,lastS (g t).1=lastS t) :
     sR fu b nm f=some (@ite _ (ah b) (Classical.propDecidable _) (if tabN b nm<b.tabs.length then dp b (tabN b nm) (g (tabT b nm)) else (b,5)) (nilB,1)):=by
 unfold sR
 rw [e8 hf h,bs]
 by_cases hb:ah b
 case neg=>rw [B_f hb,if_neg hb];rfl
 have hB:av b:=⟨hb,h⟩
 rw [B_t hb,if_pos hb]
 simp only [n_,cf]
 rw [cM hf h.ntab,bs]
 by_cases hk:tabN b nm<b.tabs.length
 case neg=>rw [dY hk,if_neg hk,bU hf h];rfl
 have gt:=hB.tabT hk
 rw [aK hk,wd,cf,inR hk,ct,tn,aV,hg _ gt,bs,bU hf h,if_pos hk]
 unfold dp
 by_cases hc:(g (tabT b nm)).2=0
 case neg=>rw [df hc,if_pos hc];rfl
 rw [dt hc,if_neg (fun hh=>hh hc)]
 simp only [n_,cf,bs]
 rw [inR hk,ct]
 show (sN fu (aQ b (tabN b nm) (g (tabT b nm)).1)).bind _=_
 rw [xr hf (qF hB hk (hok _ gt)) (kG hB hk (hl _)),bs]
 by_cases hh:yn (aQ b (tabN b nm) (g (tabT b nm)).1)
 ·rw [B_t hh,if_pos hh];rfl
 ·rw [B_f hh,if_neg hh];rfl
theorem xR {b:ac}{nm:List UInt8}{xs:List Set}(hf:BIG≤fu)(h:SmB b)(hx:SmX xs):vn fu b nm xs=some (kL b nm xs):=by
 unfold vn kL wF
 rw [rM hf h (g:=fun t=>putT t xs) (fun t ht=>by unfold vc;rw [Bg hf ht.ok ht.sm hx];rfl) (fun t ht=>⟨pA ht.ok,pz ht.ok ht.sm hx⟩) (fun t=>kK _ _)];rfl
theorem xT {b:ac}{nm:List UInt8}{id:Int}{xs:List Set}(hf:BIG≤fu)(h:SmB b)(hx:SmX xs):vp fu b nm id xs=some (kI b nm id xs):=by
 unfold vp kI ww
 rw [rM hf h (g:=fun t=>setT t id xs) (fun t ht=>by unfold vd;rw [yN hf ht.ok ht.sm hx];rfl) (fun t ht=>⟨pu ht.ok,setT_sm ht.ok ht.sm hx⟩) (fun t=>kH _ _ _)];rfl
theorem nH {s:List Col}(hf:BIG≤fu)(h:ak s):zA fu s=some (AP s):=by
 have hhi:=h.hi
 unfold zA
 rw [li hf h.sm,B_t h,bs]
 simp only [n_,cf]
 rw [cap (by rw [List.length_nil];omega)];rfl
theorem vy {s:List Col}(hf:BIG≤fu)(h:ak s):vz fu s=some (AP s):=by
 have hhi:=h.hi
 unfold vz
 rw [rm hf h.sm,B_t h,bs]
 simp only [n_,cf]
 rw [mo (by omega)];rfl
theorem eF {b:ac}{nm:List UInt8}:decide (0≤mV b nm)=B (tabN b nm<b.tabs.length):=by
 by_cases h:tabN b nm<b.tabs.length
 ·rw [aK h,ge0,B_t h]
 ·rw [dY h,B_f h];rfl
theorem iJ {b:ac}{nm:List UInt8}{s:List Col}(hf:BIG≤fu)(h:SmB b)(hn:nm.length≤1000)(hs:SmS s):lY fu b nm s=some (tableBB b nm s):=by
 have hN:=h.ntab
 unfold lY tableBB l8
 rw [dl hf h,bs]
 by_cases hb:ah b
 case neg=>rw [B_f hb,if_neg hb];rfl
 have h3:=hb.ntab
 rw [B_t hb,if_pos hb]
 simp only [n_,cf]
 rw [bg hf h,bs,d3 hf hn,bs]
 unfold iI
 by_cases h1:am nm
 case neg=>rw [B_f h1,if_pos (.inl h1)];rfl
 rw [B_t h1]
 simp only [n_,cf]
 rw [li hf hs,bs]
 by_cases h2:ak s
 case neg=>rw [B_f h2,if_pos (.inr (.inr h2))];rfl
 rw [B_t h2]
 simp only [n_,cf]
 rw [a6 hf hN,bs,eF]
 by_cases hk:tabN b nm<b.tabs.length
 ·rw [B_t hk,if_pos (.inr (.inl hk))];rfl
 rw [B_f hk,if_neg (fun hh=>hh.elim (fun g=>g h1) fun hh=>hh.elim hk fun g=>g h2),cf]
 by_cases hl:b.tabs.length=3
 ·rw [dt (show (3:Int)≤(b.tabs.length:Int) by omega),if_pos hl];rfl
 ·rw [df (show ¬ (3:Int)≤(b.tabs.length:Int) by omega),if_neg hl,cf,nH hf h2,bs,cap (by rw [s_];omega)];rfl
theorem x4 {b:ac}{nm:List UInt8}{s:List Col}(hf:BIG≤fu)(h:SmB b)(hn:nm.length≤1000)(hs:SmS s):vA fu b nm s=some (tableBB b nm s):=by
 have hN:=h.ntab
 unfold vA tableBB l8
 rw [e8 hf h,bs]
 by_cases hb:ah b
 case neg=>rw [B_f hb,if_neg hb];rfl
 have h3:=hb.ntab
 rw [B_t hb,if_pos hb]
 simp only [n_,cf]
 rw [bU hf h,bs,d5 hf hn,bs]
 unfold iK
 by_cases h1:am nm
 case neg=>rw [B_f h1,if_pos (.inl h1)];rfl
 rw [B_t h1]
 simp only [n_,cf]
 rw [cM hf hN,bs,eF]
 by_cases hk:tabN b nm<b.tabs.length
 ·rw [B_t hk,if_pos (.inr (.inl hk))];rfl
 rw [B_f hk,cf,rm hf hs,bs]
 by_cases h2:ak s
 case neg=>rw [B_f h2,if_pos (.inr (.inr h2))];rfl
 rw [B_t h2,if_neg (fun hh=>hh.elim (fun g=>g h1) fun hh=>hh.elim hk fun g=>g h2)]
 simp only [n_,cf]
 by_cases hl:b.tabs.length=3
 ·rw [dt (show (b.tabs.length:Int)=3 by omega),if_pos hl];rfl
 ·rw [df (show ¬ (b.tabs.length:Int)=3 by omega),if_neg hl,cf,vy hf h2,bs,cap (by rw [s_];omega),ct,rT (by simp;omega)];rfl
theorem kw {b:ac}{l:aj}(hf:BIG≤fu)(h:SmB b):oY fu b l=some (linkBB b l):=by
 have hN:=h.ntab
 have hL:=h.nlink
 unfold oY linkBB sy
 rw [dl hf h,bs]
 by_cases hb:ah b
 case neg=>rw [B_f hb,if_neg hb];rfl
 have hB:av b:=⟨hb,h⟩
 rw [B_t hb,if_pos hb]
 simp only [n_,cf]
 rw [bg hf h,bs,cap (by rw [s_];omega),ct,rS hf hB.g,bs]
 unfold kv
 rw [bg hf h]
 by_cases h1:aq b l
 case neg=>rw [B_f h1,if_pos (.inl h1)];rfl
 rw [B_t h1]
 simp only [n_,cf]
 have e1:IntKind.i64.wrap ((List.length ((⟨b.tabs,b.links++([l]:List aj)⟩:ac).links):Int)-1)=(b.links.length:Int):=by
  have:List.length ((⟨b.tabs,b.links++([l]:List aj)⟩:ac).links)=b.links.length+1:=by simp
  rw [this,bu (by omega) (by omega)];omega
 rw [e1]
 show (qj fu (dB b l) (b.links.length:Int)).bind _=_
 rw [rR hf (by rw [addLink_len];have:=hb.nlink;omega) (by rw [addLink_len];omega),bs]
 have e2:cX (dB b l) b.links.length↔¬ bz b l.from_ l.col:=by
  constructor
  ·rintro g ⟨k,hk,h1,h2⟩
   have:=g k hk
   rw [addLink_new,dz hk] at this
   exact this ⟨h1,h2⟩
  ·intro g k hk
   rw [addLink_new,dz hk]
   exact fun hh=>g ⟨k,hk,hh.1,hh.2⟩
 rw [ai e2]
 by_cases h2:bz b l.from_ l.col
 ·rw [B_f (show ¬ ¬ bz b l.from_ l.col from fun hh=>hh h2),if_pos (.inr h2)];rfl
 rw [B_t h2,if_neg (fun hh=>hh.elim (fun g=>g h1) h2)]
 simp only [n_,cf]
 rw [kj hf hB.g h1,bs]
 by_cases h3:ao b l
 case neg=>rw [B_f h3,if_pos h3];rfl
 rw [B_t h3,if_neg (fun hh=>hh h3)]
 simp only [n_,cf]
 have h4:=hb.nlink
 by_cases hl:b.links.length=4
 ·rw [dt (show (4:Int)≤(b.links.length:Int) by omega),if_pos hl];rfl
 ·rw [df (show ¬ (4:Int)≤(b.links.length:Int) by omega),if_neg hl];rfl
theorem xY {b:ac}{l:aj}(hf:BIG≤fu)(h:SmB b):vx fu b l=some (linkBB b l):=by
 have hN:=h.ntab
 have hL:=h.nlink
 unfold vx linkBB sy
 rw [e8 hf h,bs]
 by_cases hb:ah b
 case neg=>rw [B_f hb,if_neg hb];rfl
 have hB:av b:=⟨hb,h⟩
 rw [B_t hb,if_pos hb]
 simp only [n_,cf]
 rw [bU hf h,bs,rQ hf hB.g,bs]
 unfold kx
 by_cases h1:aq b l
 case neg=>rw [B_f h1,if_pos (.inl h1)];rfl
 rw [B_t h1]
 simp only [n_,cf]
 rw [nP hf hL,bs,m9]
 by_cases h2:bz b l.from_ l.col
 ·rw [B_t h2,if_pos (.inr h2)];rfl
 rw [B_f h2,if_neg (fun hh=>hh.elim (fun g=>g h1) h2),cf,nQ hf hB.g h1,bs]
 by_cases h3:ao b l
 case neg=>rw [B_f h3,if_pos h3];rfl
 rw [B_t h3,if_neg (fun hh=>hh h3)]
 simp only [n_,cf]
 have h4:=hb.nlink
 by_cases hl:b.links.length=4
 ·rw [dt (show (b.links.length:Int)=4 by omega),if_pos hl];rfl
 ·rw [df (show ¬ (b.links.length:Int)=4 by omega),if_neg hl,cf,cap (by rw [s_];omega),ct,rP (by simp;omega)];rfl
theorem wS {p:Prop}:@ite _ p (Classical.propDecidable _) (some true) (some false)=some (B p):=by
 by_cases h:p
 ·rw [if_pos h,B_t h]
 ·rw [if_neg h,B_f h]
theorem xt {b:ac}{nm col:List UInt8}(hf:BIG≤fu)(h:b.links.length≤1000):pU fu b nm col=some (B (bz b nm col)):=by
 unfold pU
 have step:∀ n (k:Nat),k<b.links.length→cF b nm col (n+1) (k:Int)=j3 (k:Int) (cF b nm col n) (B ((b.links.getD k default).from_=nm∧(b.links.getD k default).col=col)):=fun n k hk=>by
  rw [cF,ltR hk,ct,ge0,b_,ct,tn,ct,bW,bL,bL]
  cases B ((b.links.getD k default).from_=nm)<;>rfl
 rw [← wS]
 refine ja (L:=cF b nm col) (fun k=>(b.links.getD k default).from_=nm∧(b.links.getD k default).col=col) _ _ (by unfold BIG;omega) (fun n=>?_) (fun n k hk hp=>?_) (fun n k hk hp=>?_) (by unfold BIG at hf;omega)
 ·rw [cF,nlt];rfl
 ·rw [step n k hk,B_t hp];rfl
 ·rw [step n k hk,B_f hp];rfl
def mid {α:Type}(f:α→α)(l:List α)(k:Nat):List α:=(l.take k).map f++l.drop k
theorem wK {α:Type}(f:α→α)(l:List α):mid f l 0=l:=rfl
theorem zb {α:Type}(f:α→α)(l:List α):mid f l l.length=l.map f:=by
 unfold mid
 rw [List.take_length,List.drop_length,List.append_nil]
theorem pG {α:Type}(f:α→α)(l:List α){k:Nat}(hk:k≤l.length):(mid f l k).length=l.length:=by unfold mid;simp;omega
theorem tP {α:Type}{f:α→α}{l:List α}{d:α}{k:Nat}(hk:k<l.length):(mid f l k).getD k d=l.getD k d:=by
 unfold mid
 rw [List.getD_eq_getElem?_getD,List.getElem?_append_right (by simp;omega),List.getD_eq_getElem?_getD]
 have:k - ((l.take k).map f).length=0:=by simp;omega
 rw [this,List.getElem?_drop,Nat.add_zero]
theorem tO {α:Type}{f:α→α}{l:List α}{d:α}{k:Nat}(hk:k<l.length):(mid f l k).set k (f (l.getD k d))=mid f l (k+1):=by
 unfold mid
 rw [List.set_append_right _ _ (by simp;omega)]
 have:k - ((l.take k).map f).length=0:=by simp;omega
 rw [this,kC (d:=d) hk,List.map_append,lZ (d:=d) hk,List.append_assoc];rfl
theorem wL {α:Type}{f:α→α}{l:List α}{d:α}{k:Nat}(hk:k<l.length)(h:f (l.getD k d)=l.getD k d):mid f l k=mid f l (k+1):=by
 rw [← tO (d:=d) hk,h,← tP (f:=f) (d:=d) hk,mY (by rw [pG f l (by omega)];exact hk)]
theorem zH {T:List Tab}{nm:List UInt8}{c:aa}{z:Int}{ls:List aj}(hl:ls.length≤1000):∀ (m n k:Nat),k+m=ls.length→m<n→bS nm c z n (k:Int) T (mid (bk nm c) ls k)=some (⟨T,ls.map (bk nm c)⟩,z):=by
 intro m
 induction m with
 | zero=>
  intro n k hk hn
  obtain ⟨n,rfl⟩:∃ i,n=i+1:=⟨n-1,by omega⟩
  have:k=ls.length:=by omega
  subst this
  rw [bS,pG _ _ (Nat.le_refl _),nlt,cf,zb]
 | succ m ih=>
  intro n k hk hn
  obtain ⟨n,rfl⟩:∃ i,n=i+1:=⟨n-1,by omega⟩
  have hkl:k<ls.length:=by omega
  have hml:=pG (bk nm c) ls (show k≤ls.length by omega)
  have hg:=tP (f:=bk nm c) (d:=(default:aj)) hkl
  have hs:=bb hkl (show ls.length≤BIG by unfold BIG;omega)
  have go:=ih n (k+1) (by omega) (by omega)
  have hyes:c.kind=3∧(ls.getD k default).from_=nm∧(ls.getD k default).col=c.name→dT c (k:Int) T (mid (bk nm c) ls k) (bS nm c z n) true=some (⟨T,ls.map (bk nm c)⟩,z):=fun hh=>by
   unfold dT iz
   rw [ct,hml,inR hkl,ct,tn,hg]
   simp only [hs]
   have e:({ (ls.getD k default) with col:=c.new }:aj)=bk nm c (ls.getD k default):=(if_pos hh).symm
   rw [e,tO hkl];exact go
  have hno:¬ (c.kind=3∧(ls.getD k default).from_=nm∧(ls.getD k default).col=c.name)→dT c (k:Int) T (mid (bk nm c) ls k) (bS nm c z n) false=some (⟨T,ls.map (bk nm c)⟩,z):=fun hh=>by
   unfold dT iz
   rw [cf]
   simp only [hs]
   have e:bk nm c (ls.getD k default)=ls.getD k default:=if_neg hh
   rw [wL (d:=(default:aj)) hkl e];exact go
  rw [bS,hml,ltR hkl,ct,ge0,b_,ct,tn,hg]
  by_cases h1:c.kind=3
  case neg=>rw [df h1,cf];exact hno fun hh=>h1 hh.1
  rw [dt h1,ct]
  by_cases h2:(ls.getD k default).from_=nm
  case neg=>rw [df h2,cf];exact hno fun hh=>h2 hh.2.1
  rw [dt h2,ct]
  by_cases h3:(ls.getD k default).col=c.name
  ·rw [dt h3];exact hyes ⟨h1,h2,h3⟩
  ·rw [df h3];exact hno fun hh=>h3 hh.2.2
theorem rN {b:ac}{nm:List UInt8}{c:aa}(hf:BIG≤fu)(h:av b)(hc:iQ c):sS fu b nm c=some (d9 b nm c):=by
 unfold sS d9
 rw [a6 hf h.sm.ntab,bs]
 by_cases hk:tabN b nm<b.tabs.length
 case neg=>rw [dY hk,if_neg hk];rfl
 have g:=h.tabT hk
 rw [aK hk,wd,cf,inR hk,ct,tn,aV,lr hf g.sm,bs,Bd hf g.ok g.sm hc,bs,if_pos hk]
 unfold nO
 have j2t:dU fu b nm c (tabN b nm:Int) (eA (tabT b nm) c).2 (eA (tabT b nm) c).1 true=some (b,8):=rfl
 have j2f:dU fu b nm c (tabN b nm:Int) (eA (tabT b nm) c).2 (eA (tabT b nm) c).1 false=some (if (eA (tabT b nm) c).2≠0 then (b,(eA (tabT b nm) c).2) else (bf b (tabN b nm) (eA (tabT b nm) c).1 nm c,0)):=by
  unfold dU
  rw [cf]
  by_cases hz:(eA (tabT b nm) c).2=0
  case neg=>rw [df hz,if_pos hz];rfl
  rw [dt hz,if_neg (fun hh=>hh hz),bg hf h.sm,bs,inR hk,tn]
  simp only [n_,cf,ct]
  have:=zH (T:=b.tabs.set (tabN b nm) ({ (b.tabs.getD (tabN b nm) default) with table:=(eA (tabT b nm) c).1 }:Tab)) (nm:=nm) (c:=c) (z:=(eA (tabT b nm) c).2) (ls:=b.links) h.sm.nlink b.links.length fu 0 (by omega) (by have:=h.sm.nlink;unfold BIG at hf;omega)
  rw [wK] at this
  refine this.trans ?_
  rw [hz];rfl
 by_cases h1:(eA (tabT b nm) c).2=1
 ·rw [dt h1,if_pos h1]
  simp only [n_,cf]
  rw [j2f,if_pos (by rw [h1];decide),h1]
 rw [df h1,if_neg h1]
 simp only [m_,ct]
 have hu:pU fu b nm c.name=some (B (bz b nm c.name)):=xt hf h.sm.nlink
 rw [hu,bs]
 have hcase:∀ q:Prop,q→(q∧bz b nm c.name↔bz b nm c.name):=fun q hq=>⟨fun hh=>hh.2,fun hh=>⟨hq,hh⟩⟩
 by_cases k2:c.kind=2
 ·rw [dt k2,ct]
  by_cases hl:bz b nm c.name
  ·rw [B_t hl,if_pos ⟨.inl k2,hl⟩];rfl
  ·rw [B_f hl,if_neg (fun hh=>hl hh.2)];exact j2f
 rw [df k2,cf]
 by_cases k4:c.kind=4
 ·rw [dt k4,ct]
  by_cases hl:bz b nm c.name
  ·rw [B_t hl,if_pos ⟨.inr k4,hl⟩];rfl
  ·rw [B_f hl,if_neg (fun hh=>hl hh.2)];exact j2f
 rw [df k4,cf,if_neg (fun hh=>hh.1.elim k2 k4)]
 exact j2f
theorem xU {b:ac}{nm:List UInt8}{c:aa}(hf:BIG≤fu)(h:SmB b)(hc:iQ c):vq fu b nm c=some (cN b nm c):=by
 unfold vq cN
 rw [dl hf h,bs]
 by_cases hk:ah b
 case neg=>rw [B_f hk,if_neg hk];rfl
 rw [B_t hk,if_pos hk]
 simp only [n_,cf]
 rw [bg hf h,bs,rN hf ⟨hk,h⟩ hc,bs,bg hf (fL ⟨hk,h⟩ hc).sm];rfl
theorem se {b:ac}{nm:List UInt8}{c:aa}(h:ah b)(k3:c.kind=3)(hl:linkN b nm c.name<b.links.length):b.links.set (linkN b nm c.name) ({ (b.links.getD (linkN b nm c.name) default) with col:=c.new }:aj)=b.links.map (bk nm c):=by
 have hp:=List.findIdx_getElem (w:=hl)
 simp only [Bool.and_eq_true,decide_eq_true_eq] at hp
 have hp':b.links[linkN b nm c.name].from_=nm∧b.links[linkN b nm c.name].col=c.name:=hp
 refine List.ext_getElem (by simp) fun i h1 h2=>?_
 have hi:i<b.links.length:=by simpa using h1
 rw [List.getElem_set,List.getElem_map]
 by_cases e:linkN b nm c.name=i
 ·subst e
  rw [if_pos rfl,ae hl]
  exact (if_pos ⟨k3,hp'⟩).symm
 ·rw [if_neg e]
  refine (if_neg fun hh=>?_).symm
  have hle:linkN b nm c.name≤i:=by
   refine c_ fun hn=>?_
   have:=List.not_of_lt_findIdx (show i<linkN b nm c.name by omega)
   rw [dt hh.2.1,dt hh.2.2] at this
   cases this
  refine (h.links i hi).apart (linkN b nm c.name) (by omega) ?_
  rw [ae hl,ae hi]
  exact ⟨hp'.1.trans hh.2.1.symm,hp'.2.trans hh.2.2.symm⟩
theorem gU {b:ac}{nm:List UInt8}{c:aa}(h:¬ (c.kind=3∧bz b nm c.name)):b.links.map (bk nm c)=b.links:=by
 refine List.ext_getElem (by simp) fun i h1 h2=>?_
 rw [List.getElem_map]
 exact if_neg fun hh=>h ⟨hh.1,i,h2,by rw [ae h2];exact hh.2⟩
theorem xV {b:ac}{nm:List UInt8}{c:aa}(hf:BIG≤fu)(h:SmB b)(hc:iQ c):vt fu b nm c=some (cN b nm c):=by
 unfold vt cN d9
 rw [e8 hf h,bs]
 by_cases hb:ah b
 case neg=>rw [B_f hb,if_neg hb];rfl
 have hB:av b:=⟨hb,h⟩
 rw [B_t hb,if_pos hb]
 simp only [n_,cf]
 rw [cM hf h.ntab,bs]
 by_cases hk:tabN b nm<b.tabs.length
 case neg=>rw [dY hk,if_neg hk,bU hf h];rfl
 have g:=hB.tabT hk
 rw [aK hk,wd,cf,inR hk,ct,tn,aV,Be hf g.ok g.sm hc,bs,nP hf h.nlink,bs,bU hf h,if_pos hk]
 by_cases h1:(eA (tabT b nm) c).2=1
 ·rw [dt h1,if_pos h1];rfl
 rw [df h1,if_neg h1,cf,m9]
 have j1t:dW fu b c (tabN b nm:Int) (eA (tabT b nm) c) (lT b nm c.name) true=some (b,8):=by
  unfold dW
  rw [bU hf h];rfl
 have j1f:dW fu b c (tabN b nm:Int) (eA (tabT b nm) c) (lT b nm c.name) false=some (if (eA (tabT b nm) c).2≠0 then (b,(eA (tabT b nm) c).2) else (bf b (tabN b nm) (eA (tabT b nm) c).1 nm c,0)):=by
  unfold dW
  rw [cf,bU hf h]
  by_cases hz:(eA (tabT b nm) c).2=0
  case neg=>rw [df hz,if_pos hz];rfl
  rw [dt hz,if_neg (fun hh=>hh hz),bs,bs,inR hk]
  simp only [n_,cf,ct]
  unfold kq kp
  rw [m9]
  by_cases k3:c.kind=3
  case neg=>
   rw [df k3,cf,cf]
   unfold bf
   rw [gU fun hh=>k3 hh.1];rfl
  rw [dt k3,ct]
  by_cases hl:bz b nm c.name
  case neg=>
   rw [B_f hl,cf]
   unfold bf
   rw [gU fun hh=>hl hh.2];rfl
  have hlt:=k8.2 hl
  have e:lT b nm c.name=(linkN b nm c.name:Int):=if_pos hlt
  rw [B_t hl,ct,e,ltR hlt,b_,ct,tn,tn,se hb k3 hlt];rfl
 by_cases k2:c.kind=2
 ·rw [dt k2,ct]
  by_cases hl:bz b nm c.name
  ·rw [B_t hl,if_pos ⟨.inl k2,hl⟩];exact j1t
  ·rw [B_f hl,if_neg (fun hh=>hl hh.2)];exact j1f
 rw [df k2,cf]
 by_cases k4:c.kind=4
 ·rw [dt k4,ct]
  by_cases hl:bz b nm c.name
  ·rw [B_t hl,if_pos ⟨.inr k4,hl⟩];exact j1t
  ·rw [B_f hl,if_neg (fun hh=>hl hh.2)];exact j1f
 rw [df k4,cf,if_neg (fun hh=>hh.1.elim k2 k4)]
 exact j1f
end Go.Proofs.YtganfdhmkdehlaaGreatDoor
