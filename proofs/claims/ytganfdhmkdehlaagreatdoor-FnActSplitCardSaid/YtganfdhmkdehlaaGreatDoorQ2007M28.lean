/- Plain laws. -/
import Derived.Test.YtganfdhmkdehlaaGreatDoorQ2007M26
set_option linter.all false
namespace Go.Proofs.YtganfdhmkdehlaaGreatDoor
open Go Go.HL
variable {fu:Nat}
theorem a6 {b:ac}(hf:BIG≤fu)(h:SmB b):cY fu b=some b:=by
 have hN:=h.ntab
 have hL:=h.nlink
 have key:∀ (m n k:Nat),k+m=b.tabs.length→m<n→gf fu b n (k:Int) ⟨b.tabs.take k,b.links⟩=some b:=by
  intro m
  induction m with
  | zero=>
   intro n k hk hn
   obtain ⟨n,rfl⟩:∃ i,n=i+1:=⟨n-1,by omega⟩
   have:k=b.tabs.length:=by omega
   subst this
   rw [gf,nlt,List.take_length];rfl
  | succ m ih=>
   intro n k hk hn
   obtain ⟨n,rfl⟩:∃ i,n=i+1:=⟨n-1,by omega⟩
   have hkl:k<b.tabs.length:=by omega
   have e1:f42 fu (b.tabs.getD k default).table=some (b.tabs.getD k default).table:=lH hf (h.tabs k hkl)
   rw [gf,inR hkl,ltR hkl,ct,ct,ct,tn,e1,bs,cap (by rw [List.length_take,s_];omega),ct,bb hkl (by unfold BIG;omega)]
   have e:(⟨b.tabs.take k++[(⟨(b.tabs.getD k default).name,(b.tabs.getD k default).table⟩:Tab)],b.links⟩:ac)=⟨b.tabs.take (k+1),b.links⟩:=by
    rw [kU (d:=default) hkl]
   rw [e]
   exact ih n (k+1) (by omega) (by omega)
 unfold cY
 rw [cap (by rw [List.length_nil];omega),ct]
 exact key b.tabs.length fu 0 (by omega) (by unfold BIG at hf;omega)
theorem sC {l:List Tab}(h:l.length≤5000):tz l=some l:=by
 unfold tz yz yA
 rw [cap (by rw [List.length_nil];omega)];rfl
theorem sx {l:List aj}(h:l.length≤5000):tv l=some l:=by
 unfold tv yw yx
 rw [cap (by rw [List.length_nil];omega)];rfl
theorem bV {b:ac}(hf:BIG≤fu)(h:SmB b):eE fu b=some b:=by
 have hN:=h.ntab
 have hL:=h.nlink
 have key:∀ (m n k:Nat),k+m=b.tabs.length→m<n→gi fu b b.links n (k:Int) b.tabs=some b:=by
  intro m
  induction m with
  | zero=>
   intro n k hk hn
   obtain ⟨n,rfl⟩:∃ i,n=i+1:=⟨n-1,by omega⟩
   have:k=b.tabs.length:=by omega
   subst this
   rw [gi,nlt];rfl
  | succ m ih=>
   intro n k hk hn
   obtain ⟨n,rfl⟩:∃ i,n=i+1:=⟨n-1,by omega⟩
   have hkl:k<b.tabs.length:=by omega
   have e1:f80 fu (b.tabs.getD k default).table=some (b.tabs.getD k default).table:=cW hf (h.tabs k hkl)
   rw [gi,inR hkl,ltR hkl,ct,ct,tn,e1,bs,ct,bb hkl (by unfold BIG;omega)]
   have e:b.tabs.set k { (b.tabs.getD k default) with table:=(b.tabs.getD k default).table } = b.tabs:=ne hkl
   rw [e]
   exact ih n (k+1) (by omega) (by omega)
 unfold eE oe
 rw [sC (by omega),bs,sx (by omega),bs]
 exact key b.tabs.length fu 0 (by omega) (by unfold BIG at hf;omega)
theorem yI {r q:Tab}(hf:BIG≤fu)(hr:SmT r.table):me fu r q=some (B (r=q)):=by
 unfold me kG
 rw [CQ hf hr,bs,bM]
 have e:B (r=q)=(B (r.name=q.name)&&B (r.table=q.table)):=by
  rw [← bY]
  exact ai ⟨fun h=>by rw [h];exact ⟨rfl,rfl⟩,fun h=>by cases r;cases q;cases h.1;cases h.2;rfl⟩
 rw [e]
 cases B (r.name=q.name)<;>rfl
theorem yJ {a b:List Tab}(hf:BIG≤fu)(ha:a.length≤1000)(hr:∀ k,k<a.length→SmT (a.getD k default).table):vX fu a b (fun x0 x1=>me fu x0 x1)=some (B (a=b)):=by
 unfold vX
 by_cases hl:a.length=b.length
 case neg=>rw [df (show ¬ (a.length:Int)=(b.length:Int) by omega),B_f fun e=>hl (by rw [e])];rfl
 rw [dt (show (a.length:Int)=(b.length:Int) by omega),ai (ln hl)]
 show dn a b _ fu 0=_
 have step:∀ n (k:Nat),k<a.length→dn a b (fun x0 x1=>me fu x0 x1) (n+1) (k:Int)=cond (!B (a.getD k default=b.getD k default)) (some false) (dn a b (fun x0 x1=>me fu x0 x1) n (IntKind.i64.wrap ((k:Int)+1))):=fun n k hk=>by
  rw [dn,ltR hk,ct,ge0,b_,ct,ltR (show k<b.length by omega),b_,ct,tn,yI hf (hr k hk),bs]
 refine d8 (L:=dn a b fun x0 x1=>me fu x0 x1) _ _ (by unfold BIG;omega) (fun n _=>?_) (fun n h=>absurd trivial h) (fun n k hk hp=>?_) (fun n k hk hp=>?_) (by unfold BIG at hf;omega)
 ·rw [dn,nlt];rfl
 ·rw [step n k hk,B_t hp];rfl
 ·rw [step n k hk,B_f hp];rfl
theorem yK {a b:List aj}(hf:BIG≤fu)(ha:a.length≤1000):yL fu a b=some (B (a=b)):=j3 (L:=kH) (fun _ _ _ _=>rfl) hf ha
theorem yV {a b:ac}(hf:BIG≤fu)(ha:SmB a):tC fu a b=some (B (a=b)):=by
 unfold tC kR
 rw [yK hf ha.nlink,bs]
 have e:B (a=b)=(B (a.links=b.links)&&B (a.tabs=b.tabs)):=by
  rw [← bY]
  exact ai ⟨fun h=>by rw [h];exact ⟨rfl,rfl⟩,fun h=>by cases a;cases b;cases h.1;cases h.2;rfl⟩
 rw [e]
 cases B (a.links=b.links) with
 | false=>rfl
 | true=>
  rw [ct,yJ hf ha.ntab fun k hk=>ha.tabs k hk];rfl
theorem tA {a:ac}(hf:BIG≤fu)(ha:SmB a):tC fu a a=some true:=by rw [yV hf ha,B_t rfl]
theorem yi {b:ac}(hf:BIG≤fu)(h:fS b)(hl:∀ i,i<b.links.length→ar b (b.links.getD i default)):tl fu b=some (B (ze b)):=by
 have hN:=h.sm.nlink
 unfold tl
 have hp:ze b↔((∀ i,i<b.links.length→ap b (b.links.getD i default))∧True):=⟨fun h=>⟨h,trivial⟩,fun h=>h.1⟩
 rw [ai hp]
 refine d8 (L:=eY fu b) _ _ (by unfold BIG;omega) (fun n _=>?_) (fun n h=>absurd trivial h) (fun n k hk hp=>?_) (fun n k hk hp=>?_) (by unfold BIG at hf;omega)
 ·rw [eY,nlt];rfl
 ·rw [eY,ltR hk,ct,ge0,b_,ct,tn,kE hf h (hl k hk),bs,B_t hp];rfl
 ·rw [eY,ltR hk,ct,ge0,b_,ct,tn,kE hf h (hl k hk),bs,B_f hp];rfl
theorem ym {b:ac}(hf:BIG≤fu)(h:fS b)(hl:∀ i,i<b.links.length→ar b (b.links.getD i default)):tq fu b=some (B (ze b)):=by
 have hN:=h.sm.nlink
 unfold tq yj tr
 have e0:∀ k,k<b.links.length→qz fu (b.links.getD k default) b=some (!B (ap b (b.links.getD k default))):=fun k hk=>by
  unfold qz
  rw [od hf h (hl k hk)];rfl
 have e1:=l9 (L:=bS b.links fun x0=>qz fu x0 b) b.links (fun l=>!B (ap b l)) (by unfold BIG;omega) (fun n=>by rw [bS,nlt];rfl)
  (fun n k hk hp=>by rw [bS,ltR hk,ct,ge0,b_,ct,tn,e0 k hk,ae hk,hp];rfl)
  (fun n k hk hp=>by rw [bS,ltR hk,ct,ge0,b_,ct,tn,e0 k hk,ae hk,hp];rfl) (fu:=fu) (by unfold BIG at hf;omega)
 rw [e1,bs,bs]
 congr 1
 by_cases hh:ze b
 ·have:¬ (b.links.findIdx fun l=>!B (ap b l))<b.links.length:=fun hlt=>by
   have:=List.findIdx_getElem (w:=hlt)
   have g:=hh _ hlt
   rw [ae hlt] at g
   rw [B_t g] at this
   cases this
  rw [if_neg this,B_t hh];rfl
 ·have:(b.links.findIdx fun l=>!B (ap b l))<b.links.length:=by
   obtain ⟨i,hi⟩:=Classical.not_forall.1 hh
   obtain ⟨hi,hn⟩:=Classical.not_imp.1 hi
   exact List.findIdx_lt_length_of_exists ⟨_,getD_mem (d:=(default:aj)) hi,by rw [B_f hn];rfl⟩
  rw [if_pos this,ge0,B_f hh];rfl
theorem rq {b:ac}{k:Nat}{t:ab}(h:am b)(hk:k<b.tabs.length)(ht:ot t):fS (aU b k t):=
 ⟨fun i hi=>by
  rw [bC] at hi
  rw [setTab_tabK hk]
  split
  ·exact ht.ok
  ·exact (h.ok.tabs i hi).ok,fA h.sm hk ht.sm⟩
theorem kY {b:ac}{k:Nat}{t:ab}(h:am b)(hk:k<b.tabs.length)(hs:lastS t=lastS (dr b k)):∀ i,i < (aU b k t).links.length→ar (aU b k t) ((aU b k t).links.getD i default):=fun i hi=>
 (kX hk hs).fits (h.ok.links i hi).fits
theorem ss {b:ac}{k:Nat}{t:ab}{c:Int}(hf:BIG≤fu)(h:am b)(hk:k<b.tabs.length)(ht:ot t)(hs:lastS t=lastS (dr b k)):tp fu b (k:Int) t c=some (du b k (t,c)):=by
 unfold tp du
 by_cases hc:c=0
 case neg=>rw [df hc,if_pos hc];rfl
 rw [dt hc,if_neg (fun hh=>hh hc)]
 simp only [n_,cf]
 rw [a6 hf h.sm,bs,inR hk,ct,tn]
 show (tl fu (aU b k t)).bind _=_
 rw [yi hf (rq h hk ht) (kY h hk hs),bs]
 by_cases hh:ze (aU b k t)
 ·rw [B_t hh,if_pos hh,hc];rfl
 ·rw [B_f hh,if_neg hh];rfl
theorem n7 {b:ac}{nm:List UInt8}{xs:List Set}(hf:BIG≤fu)(h:am b)(hx:SmX xs):qJ fu b nm xs=some (xu b nm xs):=by
 unfold qJ xu
 rw [ba hf h.sm.ntab,bs]
 by_cases hk:tabN b nm<b.tabs.length
 case neg=>rw [d7 hk,if_neg hk];rfl
 have g:=h.tabT hk
 rw [aK hk,wR,cf,inR hk,ct,tn,aW,lH hf g.sm,bs,CD hf g.ok g.sm hx,bs,ss hf h hk ⟨qd g.ok,qc g.ok g.sm hx⟩ (k8 _ _),if_pos hk];rfl
theorem n8 {b:ac}{nm:List UInt8}{id:Int}{xs:List Set}(hf:BIG≤fu)(h:am b)(hx:SmX xs):qK fu b nm id xs=some (xk b nm id xs):=by
 unfold qK xk
 rw [ba hf h.sm.ntab,bs]
 by_cases hk:tabN b nm<b.tabs.length
 case neg=>rw [d7 hk,if_neg hk];rfl
 have g:=h.tabT hk
 rw [aK hk,wR,cf,inR hk,ct,tn,aW,lH hf g.sm,bs,zE hf g.ok g.sm hx,bs,ss hf h hk ⟨pY g.ok,setT_sm g.ok g.sm hx⟩ (kZ _ _ _),if_pos hk];rfl
theorem yM {b:ac}{nm:List UInt8}{xs:List Set}(hf:BIG≤fu)(h:SmB b)(hx:SmX xs):wa fu b nm xs=some (oM b nm xs):=by
 unfold wa oM
 rw [dq hf h,bs]
 by_cases hk:ah b
 case neg=>rw [B_f hk,if_neg hk];rfl
 rw [B_t hk,if_pos hk]
 simp only [n_,cf]
 rw [a6 hf h,bs,n7 hf ⟨hk,h⟩ hx];rfl
theorem yO {b:ac}{nm:List UInt8}{id:Int}{xs:List Set}(hf:BIG≤fu)(h:SmB b)(hx:SmX xs):wc fu b nm id xs=some (oI b nm id xs):=by
 unfold wc oI
 rw [dq hf h,bs]
 by_cases hk:ah b
 case neg=>rw [B_f hk,if_neg hk];rfl
 rw [B_t hk,if_pos hk]
 simp only [n_,cf]
 rw [a6 hf h,bs,n8 hf ⟨hk,h⟩ hx];rfl
theorem sw {b:ac}{nm:List UInt8}{f:ab→Option (ab×Int)}{g:ab→ab×Int}(hf:BIG≤fu)(h:SmB b)(hg:∀ t,ot t→f t=some (g t))(hok:∀ t,ot t→ot (g t).1)(hl:∀ t,lastS (g t).1=lastS t) :
     tu fu b nm f=some (@ite _ (ah b) (Classical.propDecidable _) (if tabN b nm<b.tabs.length then du b (tabN b nm) (g (tabT b nm)) else (b,5)) (nilB,1)):=by
 unfold tu
 rw [fe hf h,bs]
 by_cases hb:ah b
 case neg=>rw [B_f hb,if_neg hb];rfl
 have hB:am b:=⟨hb,h⟩
 rw [B_t hb,if_pos hb]
 simp only [n_,cf]
 rw [cQ hf h.ntab,bs]
 by_cases hk:tabN b nm<b.tabs.length
 case neg=>rw [d7 hk,if_neg hk,bV hf h];rfl
 have gt:=hB.tabT hk
 rw [aK hk,wR,cf,inR hk,ct,tn,aW,hg _ gt,bs,bV hf h,if_pos hk]
 unfold du
 by_cases hc:(g (tabT b nm)).2=0
 case neg=>rw [df hc,if_pos hc];rfl
 rw [dt hc,if_neg (fun hh=>hh hc)]
 simp only [n_,cf,bs]
 rw [inR hk,ct]
 show (tq fu (aU b (tabN b nm) (g (tabT b nm)).1)).bind _=_
 rw [ym hf (rq hB hk (hok _ gt)) (kY hB hk (hl _)),bs]
 by_cases hh:ze (aU b (tabN b nm) (g (tabT b nm)).1)
 ·rw [B_t hh,if_pos hh];rfl
 ·rw [B_f hh,if_neg hh];rfl
theorem yN {b:ac}{nm:List UInt8}{xs:List Set}(hf:BIG≤fu)(h:SmB b)(hx:SmX xs):wb fu b nm xs=some (oM b nm xs):=by
 unfold wb oM xu
 rw [sw hf h (g:=fun t=>qe t xs) (fun t ht=>by unfold vR;rw [CE hf ht.ok ht.sm hx];rfl) (fun t ht=>⟨qd ht.ok,qc ht.ok ht.sm hx⟩) (fun t=>k8 _ _)];rfl
theorem yP {b:ac}{nm:List UInt8}{id:Int}{xs:List Set}(hf:BIG≤fu)(h:SmB b)(hx:SmX xs):wd fu b nm id xs=some (oI b nm id xs):=by
 unfold wd oI xk
 rw [sw hf h (g:=fun t=>or t id xs) (fun t ht=>by unfold vS;rw [zF hf ht.ok ht.sm hx];rfl) (fun t ht=>⟨pY ht.ok,setT_sm ht.ok ht.sm hx⟩) (fun t=>kZ _ _ _)];rfl
theorem nW {s:List Col}(hf:BIG≤fu)(h:ak s):AJ fu s=some (B6 s):=by
 have hhi:=h.hi
 unfold AJ
 rw [lB hf h.sm,B_t h,bs]
 simp only [n_,cf]
 rw [cap (by rw [List.length_nil];omega)];rfl
theorem wl {s:List Col}(hf:BIG≤fu)(h:ak s):wm fu s=some (B6 s):=by
 have hhi:=h.hi
 unfold wm
 rw [r9 hf h.sm,B_t h,bs]
 simp only [n_,cf]
 rw [mE (by omega)];rfl
theorem eJ {b:ac}{nm:List UInt8}:decide (0≤nb b nm)=B (tabN b nm<b.tabs.length):=by
 by_cases h:tabN b nm<b.tabs.length
 ·rw [aK h,ge0,B_t h]
 ·rw [d7 h,B_f h];rfl
theorem iW {b:ac}{nm:List UInt8}{s:List Col}(hf:BIG≤fu)(h:SmB b)(hn:nm.length≤1000)(hs:SmS s):mf fu b nm s=some (tableBB b nm s):=by
 have hN:=h.ntab
 unfold mf tableBB mn
 rw [dq hf h,bs]
 by_cases hb:ah b
 case neg=>rw [B_f hb,if_neg hb];rfl
 have h3:=hb.ntab
 rw [B_t hb,if_pos hb]
 simp only [n_,cf]
 rw [a6 hf h,bs,d9 hf hn,bs]
 unfold iV
 by_cases h1:al nm
 case neg=>rw [B_f h1,if_pos (.inl h1)];rfl
 rw [B_t h1]
 simp only [n_,cf]
 rw [lB hf hs,bs]
 by_cases h2:ak s
 case neg=>rw [B_f h2,if_pos (.inr (.inr h2))];rfl
 rw [B_t h2]
 simp only [n_,cf]
 rw [ba hf hN,bs,eJ]
 by_cases hk:tabN b nm<b.tabs.length
 ·rw [B_t hk,if_pos (.inr (.inl hk))];rfl
 rw [B_f hk,if_neg (fun hh=>hh.elim (fun g=>g h1) fun hh=>hh.elim hk fun g=>g h2),cf]
 by_cases hl:b.tabs.length=3
 ·rw [dt (show (3:Int)≤(b.tabs.length:Int) by omega),if_pos hl];rfl
 ·rw [df (show ¬ (3:Int)≤(b.tabs.length:Int) by omega),if_neg hl,cf,nW hf h2,bs,cap (by rw [s_];omega)];rfl
theorem yW {b:ac}{nm:List UInt8}{s:List Col}(hf:BIG≤fu)(h:SmB b)(hn:nm.length≤1000)(hs:SmS s):wn fu b nm s=some (tableBB b nm s):=by
 have hN:=h.ntab
 unfold wn tableBB mn
 rw [fe hf h,bs]
 by_cases hb:ah b
 case neg=>rw [B_f hb,if_neg hb];rfl
 have h3:=hb.ntab
 rw [B_t hb,if_pos hb]
 simp only [n_,cf]
 rw [bV hf h,bs,ef hf hn,bs]
 unfold iX
 by_cases h1:al nm
 case neg=>rw [B_f h1,if_pos (.inl h1)];rfl
 rw [B_t h1]
 simp only [n_,cf]
 rw [cQ hf hN,bs,eJ]
 by_cases hk:tabN b nm<b.tabs.length
 ·rw [B_t hk,if_pos (.inr (.inl hk))];rfl
 rw [B_f hk,cf,r9 hf hs,bs]
 by_cases h2:ak s
 case neg=>rw [B_f h2,if_pos (.inr (.inr h2))];rfl
 rw [B_t h2,if_neg (fun hh=>hh.elim (fun g=>g h1) fun hh=>hh.elim hk fun g=>g h2)]
 simp only [n_,cf]
 by_cases hl:b.tabs.length=3
 ·rw [dt (show (b.tabs.length:Int)=3 by omega),if_pos hl];rfl
 ·rw [df (show ¬ (b.tabs.length:Int)=3 by omega),if_neg hl,cf,wl hf h2,bs,cap (by rw [s_];omega),ct,sC (by simp;omega)];rfl
theorem kN {b:ac}{l:aj}(hf:BIG≤fu)(h:SmB b):pp fu b l=some (linkBB b l):=by
 have hN:=h.ntab
 have hL:=h.nlink
 unfold pp linkBB s8
 rw [dq hf h,bs]
 by_cases hb:ah b
 case neg=>rw [B_f hb,if_neg hb];rfl
 have hB:am b:=⟨hb,h⟩
 rw [B_t hb,if_pos hb]
 simp only [n_,cf]
 rw [a6 hf h,bs,cap (by rw [s_];omega),ct,sB hf hB.g,bs]
 unfold kM
 rw [a6 hf h]
 by_cases h1:ar b l
 case neg=>rw [B_f h1,if_pos (.inl h1)];rfl
 rw [B_t h1]
 simp only [n_,cf]
 have e1:IntKind.i64.wrap ((List.length ((⟨b.tabs,b.links++([l]:List aj)⟩:ac).links):Int)-1)=(b.links.length:Int):=by
  have:List.length ((⟨b.tabs,b.links++([l]:List aj)⟩:ac).links)=b.links.length+1:=by simp
  rw [this,bj (by omega) (by omega)];omega
 rw [e1]
 show (qV fu (dE b l) (b.links.length:Int)).bind _=_
 rw [sA hf (by rw [addLink_len];have:=hb.nlink;omega) (by rw [addLink_len];omega),bs]
 have e2:c6 (dE b l) b.links.length↔¬ bA b l.from_ l.col:=by
  constructor
  ·rintro g ⟨k,hk,h1,h2⟩
   have:=g k hk
   rw [addLink_new,dD hk] at this
   exact this ⟨h1,h2⟩
  ·intro g k hk
   rw [addLink_new,dD hk]
   exact fun hh=>g ⟨k,hk,hh.1,hh.2⟩
 rw [ai e2]
 by_cases h2:bA b l.from_ l.col
 ·rw [B_f (show ¬ ¬ bA b l.from_ l.col from fun hh=>hh h2),if_pos (.inr h2)];rfl
 rw [B_t h2,if_neg (fun hh=>hh.elim (fun g=>g h1) h2)]
 simp only [n_,cf]
 rw [kE hf hB.g h1,bs]
 by_cases h3:ap b l
 case neg=>rw [B_f h3,if_pos h3];rfl
 rw [B_t h3,if_neg (fun hh=>hh h3)]
 simp only [n_,cf]
 have h4:=hb.nlink
 by_cases hl:b.links.length=4
 ·rw [dt (show (4:Int)≤(b.links.length:Int) by omega),if_pos hl];rfl
 ·rw [df (show ¬ (4:Int)≤(b.links.length:Int) by omega),if_neg hl];rfl
theorem yU {b:ac}{l:aj}(hf:BIG≤fu)(h:SmB b):wk fu b l=some (linkBB b l):=by
 have hN:=h.ntab
 have hL:=h.nlink
 unfold wk linkBB s8
 rw [fe hf h,bs]
 by_cases hb:ah b
 case neg=>rw [B_f hb,if_neg hb];rfl
 have hB:am b:=⟨hb,h⟩
 rw [B_t hb,if_pos hb]
 simp only [n_,cf]
 rw [bV hf h,bs,sy hf hB.g,bs]
 unfold kP
 by_cases h1:ar b l
 case neg=>rw [B_f h1,if_pos (.inl h1)];rfl
 rw [B_t h1]
 simp only [n_,cf]
 rw [oc hf hL,bs,np]
 by_cases h2:bA b l.from_ l.col
 ·rw [B_t h2,if_pos (.inr h2)];rfl
 rw [B_f h2,if_neg (fun hh=>hh.elim (fun g=>g h1) h2),cf,od hf hB.g h1,bs]
 by_cases h3:ap b l
 case neg=>rw [B_f h3,if_pos h3];rfl
 rw [B_t h3,if_neg (fun hh=>hh h3)]
 simp only [n_,cf]
 have h4:=hb.nlink
 by_cases hl:b.links.length=4
 ·rw [dt (show (b.links.length:Int)=4 by omega),if_pos hl];rfl
 ·rw [df (show ¬ (b.links.length:Int)=4 by omega),if_neg hl,cf,cap (by rw [s_];omega),ct,sx (by simp;omega)];rfl
theorem xM {p:Prop}:@ite _ p (Classical.propDecidable _) (some true) (some false)=some (B p):=by
 by_cases h:p
 ·rw [if_pos h,B_t h]
 ·rw [if_neg h,B_f h]
theorem yn {b:ac}{nm col:List UInt8}(hf:BIG≤fu)(h:b.links.length≤1000):qA fu b nm col=some (B (bA b nm col)):=by
 unfold qA
 have step:∀ n (k:Nat),k<b.links.length→cK b nm col (n+1) (k:Int)=kp (k:Int) (cK b nm col n) (B ((b.links.getD k default).from_=nm∧(b.links.getD k default).col=col)):=fun n k hk=>by
  rw [cK,ltR hk,ct,ge0,b_,ct,tn,ct,bY,bM,bM]
  cases B ((b.links.getD k default).from_=nm)<;>rfl
 rw [← xM]
 refine jn (L:=cK b nm col) (fun k=>(b.links.getD k default).from_=nm∧(b.links.getD k default).col=col) _ _ (by unfold BIG;omega) (fun n=>?_) (fun n k hk hp=>?_) (fun n k hk hp=>?_) (by unfold BIG at hf;omega)
 ·rw [cK,nlt];rfl
 ·rw [step n k hk,B_t hp];rfl
 ·rw [step n k hk,B_f hp];rfl
def mid {α:Type}(f:α→α)(l:List α)(k:Nat):List α:=(l.take k).map f++l.drop k
theorem xE {α:Type}(f:α→α)(l:List α):mid f l 0=l:=rfl
theorem Al {α:Type}(f:α→α)(l:List α):mid f l l.length=l.map f:=by
 unfold mid
 rw [List.take_length,List.drop_length,List.append_nil]
theorem qk {α:Type}(f:α→α)(l:List α){k:Nat}(hk:k≤l.length):(mid f l k).length=l.length:=by unfold mid;simp;omega
theorem uA {α:Type}{f:α→α}{l:List α}{d:α}{k:Nat}(hk:k<l.length):(mid f l k).getD k d=l.getD k d:=by
 unfold mid
 rw [List.getD_eq_getElem?_getD,List.getElem?_append_right (by simp;omega),List.getD_eq_getElem?_getD]
 have:k - ((l.take k).map f).length=0:=by simp;omega
 rw [this,List.getElem?_drop,Nat.add_zero]
theorem uz {α:Type}{f:α→α}{l:List α}{d:α}{k:Nat}(hk:k<l.length):(mid f l k).set k (f (l.getD k d))=mid f l (k+1):=by
 unfold mid
 rw [List.set_append_right _ _ (by simp;omega)]
 have:k - ((l.take k).map f).length=0:=by simp;omega
 rw [this,kU (d:=d) hk,List.map_append,mg (d:=d) hk,List.append_assoc];rfl
theorem xF {α:Type}{f:α→α}{l:List α}{d:α}{k:Nat}(hk:k<l.length)(h:f (l.getD k d)=l.getD k d):mid f l k=mid f l (k+1):=by
 rw [← uz (d:=d) hk,h,← uA (f:=f) (d:=d) hk,ne (by rw [qk f l (by omega)];exact hk)]
theorem AQ {T:List Tab}{nm:List UInt8}{c:aa}{z:Int}{ls:List aj}(hl:ls.length≤1000):∀ (m n k:Nat),k+m=ls.length→m<n→bT nm c z n (k:Int) T (mid (bn nm c) ls k)=some (⟨T,ls.map (bn nm c)⟩,z):=by
 intro m
 induction m with
 | zero=>
  intro n k hk hn
  obtain ⟨n,rfl⟩:∃ i,n=i+1:=⟨n-1,by omega⟩
  have:k=ls.length:=by omega
  subst this
  rw [bT,qk _ _ (Nat.le_refl _),nlt,cf,Al]
 | succ m ih=>
  intro n k hk hn
  obtain ⟨n,rfl⟩:∃ i,n=i+1:=⟨n-1,by omega⟩
  have hkl:k<ls.length:=by omega
  have hml:=qk (bn nm c) ls (show k≤ls.length by omega)
  have hg:=uA (f:=bn nm c) (d:=(default:aj)) hkl
  have hs:=bb hkl (show ls.length≤BIG by unfold BIG;omega)
  have go:=ih n (k+1) (by omega) (by omega)
  have hyes:c.kind=3∧(ls.getD k default).from_=nm∧(ls.getD k default).col=c.name→dY c (k:Int) T (mid (bn nm c) ls k) (bT nm c z n) true=some (⟨T,ls.map (bn nm c)⟩,z):=fun hh=>by
   unfold dY iM
   rw [ct,hml,inR hkl,ct,tn,hg]
   simp only [hs]
   have e:({ (ls.getD k default) with col:=c.new }:aj)=bn nm c (ls.getD k default):=(if_pos hh).symm
   rw [e,uz hkl];exact go
  have hno:¬ (c.kind=3∧(ls.getD k default).from_=nm∧(ls.getD k default).col=c.name)→dY c (k:Int) T (mid (bn nm c) ls k) (bT nm c z n) false=some (⟨T,ls.map (bn nm c)⟩,z):=fun hh=>by
   unfold dY iM
   rw [cf]
   simp only [hs]
   have e:bn nm c (ls.getD k default)=ls.getD k default:=if_neg hh
   rw [xF (d:=(default:aj)) hkl e];exact go
  rw [bT,hml,ltR hkl,ct,ge0,b_,ct,tn,hg]
  by_cases h1:c.kind=3
  case neg=>rw [df h1,cf];exact hno fun hh=>h1 hh.1
  rw [dt h1,ct]
  by_cases h2:(ls.getD k default).from_=nm
  case neg=>rw [df h2,cf];exact hno fun hh=>h2 hh.2.1
  rw [dt h2,ct]
  by_cases h3:(ls.getD k default).col=c.name
  ·rw [dt h3];exact hyes ⟨h1,h2,h3⟩
  ·rw [df h3];exact hno fun hh=>h3 hh.2.2
theorem oa {b:ac}{nm:List UInt8}{c:aa}(hf:BIG≤fu)(h:am b)(hc:jd c):qL fu b nm c=some (ff b nm c):=by
 unfold qL ff
 rw [ba hf h.sm.ntab,bs]
 by_cases hk:tabN b nm<b.tabs.length
 case neg=>rw [d7 hk,if_neg hk];rfl
 have g:=h.tabT hk
 rw [aK hk,wR,cf,inR hk,ct,tn,aW,lH hf g.sm,bs,CB hf g.ok g.sm hc,bs,if_pos hk]
 unfold n9
 have j2t:dZ fu b nm c (tabN b nm:Int) (eF (tabT b nm) c).2 (eF (tabT b nm) c).1 true=some (b,8):=rfl
 have j2f:dZ fu b nm c (tabN b nm:Int) (eF (tabT b nm) c).2 (eF (tabT b nm) c).1 false=some (if (eF (tabT b nm) c).2≠0 then (b,(eF (tabT b nm) c).2) else (bi b (tabN b nm) (eF (tabT b nm) c).1 nm c,0)):=by
  unfold dZ
  rw [cf]
  by_cases hz:(eF (tabT b nm) c).2=0
  case neg=>rw [df hz,if_pos hz];rfl
  rw [dt hz,if_neg (fun hh=>hh hz),a6 hf h.sm,bs,inR hk,tn]
  simp only [n_,cf,ct]
  have:=AQ (T:=b.tabs.set (tabN b nm) ({ (b.tabs.getD (tabN b nm) default) with table:=(eF (tabT b nm) c).1 }:Tab)) (nm:=nm) (c:=c) (z:=(eF (tabT b nm) c).2) (ls:=b.links) h.sm.nlink b.links.length fu 0 (by omega) (by have:=h.sm.nlink;unfold BIG at hf;omega)
  rw [xE] at this
  refine this.trans ?_
  rw [hz];rfl
 by_cases h1:(eF (tabT b nm) c).2=1
 ·rw [dt h1,if_pos h1]
  simp only [n_,cf]
  rw [j2f,if_pos (by rw [h1];decide),h1]
 rw [df h1,if_neg h1]
 simp only [m_,ct]
 have hu:qA fu b nm c.name=some (B (bA b nm c.name)):=yn hf h.sm.nlink
 rw [hu,bs]
 have hcase:∀ q:Prop,q→(q∧bA b nm c.name↔bA b nm c.name):=fun q hq=>⟨fun hh=>hh.2,fun hh=>⟨hq,hh⟩⟩
 by_cases k2:c.kind=2
 ·rw [dt k2,ct]
  by_cases hl:bA b nm c.name
  ·rw [B_t hl,if_pos ⟨.inl k2,hl⟩];rfl
  ·rw [B_f hl,if_neg (fun hh=>hl hh.2)];exact j2f
 rw [df k2,cf]
 by_cases k4:c.kind=4
 ·rw [dt k4,ct]
  by_cases hl:bA b nm c.name
  ·rw [B_t hl,if_pos ⟨.inr k4,hl⟩];rfl
  ·rw [B_f hl,if_neg (fun hh=>hl hh.2)];exact j2f
 rw [df k4,cf,if_neg (fun hh=>hh.1.elim k2 k4)]
 exact j2f
theorem yQ {b:ac}{nm:List UInt8}{c:aa}(hf:BIG≤fu)(h:SmB b)(hc:jd c):we fu b nm c=some (d6 b nm c):=by
 unfold we d6
 rw [dq hf h,bs]
 by_cases hk:ah b
 case neg=>rw [B_f hk,if_neg hk];rfl
 rw [B_t hk,if_pos hk]
 simp only [n_,cf]
 rw [a6 hf h,bs,oa hf ⟨hk,h⟩ hc,bs,a6 hf (fQ ⟨hk,h⟩ hc).sm];rfl
theorem sO {b:ac}{nm:List UInt8}{c:aa}(h:ah b)(k3:c.kind=3)(hl:linkN b nm c.name<b.links.length):b.links.set (linkN b nm c.name) ({ (b.links.getD (linkN b nm c.name) default) with col:=c.new }:aj)=b.links.map (bn nm c):=by
 have hp:=List.findIdx_getElem (w:=hl)
 simp only [Bool.and_eq_true,decide_eq_true_eq] at hp
 have hp':b.links[linkN b nm c.name].from_=nm∧b.links[linkN b nm c.name].col=c.name:=hp
 refine List.ext_getElem (by simp) fun i h1 h2=>?_
 have hi:i<b.links.length:=by simpa using h1
 rw [List.getElem_set,List.getElem_map]
 by_cases e:linkN b nm c.name=i
 ·subst e
  rw [if_pos rfl,ae hl]
  exact (if_pos ⟨k3,hp'⟩).symm
 ·rw [if_neg e]
  refine (if_neg fun hh=>?_).symm
  have hle:linkN b nm c.name≤i:=by
   refine c_ fun hn=>?_
   have:=List.not_of_lt_findIdx (show i<linkN b nm c.name by omega)
   rw [dt hh.2.1,dt hh.2.2] at this
   cases this
  refine (h.links i hi).apart (linkN b nm c.name) (by omega) ?_
  rw [ae hl,ae hi]
  exact ⟨hp'.1.trans hh.2.1.symm,hp'.2.trans hh.2.2.symm⟩
theorem ic {b:ac}{nm:List UInt8}{c:aa}(h:¬ (c.kind=3∧bA b nm c.name)):b.links.map (bn nm c)=b.links:=by
 refine List.ext_getElem (by simp) fun i h1 h2=>?_
 rw [List.getElem_map]
 exact if_neg fun hh=>h ⟨hh.1,i,h2,by rw [ae h2];exact hh.2⟩
theorem yR {b:ac}{nm:List UInt8}{c:aa}(hf:BIG≤fu)(h:SmB b)(hc:jd c):wg fu b nm c=some (d6 b nm c):=by
 unfold wg d6 ff
 rw [fe hf h,bs]
 by_cases hb:ah b
 case neg=>rw [B_f hb,if_neg hb];rfl
 have hB:am b:=⟨hb,h⟩
 rw [B_t hb,if_pos hb]
 simp only [n_,cf]
 rw [cQ hf h.ntab,bs]
 by_cases hk:tabN b nm<b.tabs.length
 case neg=>rw [d7 hk,if_neg hk,bV hf h];rfl
 have g:=hB.tabT hk
 rw [aK hk,wR,cf,inR hk,ct,tn,aW,CC hf g.ok g.sm hc,bs,oc hf h.nlink,bs,bV hf h,if_pos hk]
 by_cases h1:(eF (tabT b nm) c).2=1
 ·rw [dt h1,if_pos h1];rfl
 rw [df h1,if_neg h1,cf,np]
 have j1t:d4 fu b c (tabN b nm:Int) (eF (tabT b nm) c) (ma b nm c.name) true=some (b,8):=by
  unfold d4
  rw [bV hf h];rfl
 have j1f:d4 fu b c (tabN b nm:Int) (eF (tabT b nm) c) (ma b nm c.name) false=some (if (eF (tabT b nm) c).2≠0 then (b,(eF (tabT b nm) c).2) else (bi b (tabN b nm) (eF (tabT b nm) c).1 nm c,0)):=by
  unfold d4
  rw [cf,bV hf h]
  by_cases hz:(eF (tabT b nm) c).2=0
  case neg=>rw [df hz,if_pos hz];rfl
  rw [dt hz,if_neg (fun hh=>hh hz),bs,bs,inR hk]
  simp only [n_,cf,ct]
  unfold kJ kI
  rw [np]
  by_cases k3:c.kind=3
  case neg=>
   rw [df k3,cf,cf]
   unfold bi
   rw [ic fun hh=>k3 hh.1];rfl
  rw [dt k3,ct]
  by_cases hl:bA b nm c.name
  case neg=>
   rw [B_f hl,cf]
   unfold bi
   rw [ic fun hh=>hl hh.2];rfl
  have hlt:=lq.2 hl
  have e:ma b nm c.name=(linkN b nm c.name:Int):=if_pos hlt
  rw [B_t hl,ct,e,ltR hlt,b_,ct,tn,tn,sO hb k3 hlt];rfl
 by_cases k2:c.kind=2
 ·rw [dt k2,ct]
  by_cases hl:bA b nm c.name
  ·rw [B_t hl,if_pos ⟨.inl k2,hl⟩];exact j1t
  ·rw [B_f hl,if_neg (fun hh=>hl hh.2)];exact j1f
 rw [df k2,cf]
 by_cases k4:c.kind=4
 ·rw [dt k4,ct]
  by_cases hl:bA b nm c.name
  ·rw [B_t hl,if_pos ⟨.inr k4,hl⟩];exact j1t
  ·rw [B_f hl,if_neg (fun hh=>hl hh.2)];exact j1f
 rw [df k4,cf,if_neg (fun hh=>hh.1.elim k2 k4)]
 exact j1f
end Go.Proofs.YtganfdhmkdehlaaGreatDoor
