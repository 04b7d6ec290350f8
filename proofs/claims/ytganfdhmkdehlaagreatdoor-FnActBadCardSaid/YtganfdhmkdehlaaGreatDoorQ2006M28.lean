/- Plain laws. -/
import Derived.Test.YtganfdhmkdehlaaGreatDoorQ2006M26
set_option linter.all false
namespace Go.Proofs.YtganfdhmkdehlaaGreatDoor
open Go Go.HL
variable {fu:Nat}
theorem aZ {b:ac}(hf:BIG≤fu)(h:SmB b):cX fu b=some b:=by
 have hN:=h.ntab
 have hL:=h.nlink
 have key:∀ (m n k:Nat),k+m=b.tabs.length→m<n→ge fu b n (k:Int) ⟨b.tabs.take k,b.links⟩=some b:=by
  intro m
  induction m with
  | zero=>
   intro n k hk hn
   obtain ⟨n,rfl⟩:∃ i,n=i+1:=⟨n-1,by omega⟩
   have:k=b.tabs.length:=by omega
   subst this
   rw [ge,nlt,List.take_length];rfl
  | succ m ih=>
   intro n k hk hn
   obtain ⟨n,rfl⟩:∃ i,n=i+1:=⟨n-1,by omega⟩
   have hkl:k<b.tabs.length:=by omega
   have e1:f42 fu (b.tabs.getD k default).table=some (b.tabs.getD k default).table:=lC hf (h.tabs k hkl)
   rw [ge,inR hkl,ltR hkl,ct,ct,ct,tn,e1,bs,cap (by rw [List.length_take,List.length_singleton];omega),ct,bb hkl (by unfold BIG;omega)]
   have e:(⟨b.tabs.take k++[(⟨(b.tabs.getD k default).name,(b.tabs.getD k default).table⟩:Tab)],b.links⟩:ac)=⟨b.tabs.take (k+1),b.links⟩:=by
    rw [kR (d:=default) hkl]
   rw [e]
   exact ih n (k+1) (by omega) (by omega)
 unfold cX
 rw [cap (by rw [List.length_nil];omega),ct]
 exact key b.tabs.length fu 0 (by omega) (by unfold BIG at hf;omega)
theorem sx {l:List Tab}(h:l.length≤5000):tp l=some l:=by
 unfold tp yw yx
 rw [cap (by rw [List.length_nil];omega)];rfl
theorem ss {l:List aj}(h:l.length≤5000):tk l=some l:=by
 unfold tk yt yu
 rw [cap (by rw [List.length_nil];omega)];rfl
theorem bV {b:ac}(hf:BIG≤fu)(h:SmB b):eD fu b=some b:=by
 have hN:=h.ntab
 have hL:=h.nlink
 have key:∀ (m n k:Nat),k+m=b.tabs.length→m<n→gf fu b b.links n (k:Int) b.tabs=some b:=by
  intro m
  induction m with
  | zero=>
   intro n k hk hn
   obtain ⟨n,rfl⟩:∃ i,n=i+1:=⟨n-1,by omega⟩
   have:k=b.tabs.length:=by omega
   subst this
   rw [gf,nlt];rfl
  | succ m ih=>
   intro n k hk hn
   obtain ⟨n,rfl⟩:∃ i,n=i+1:=⟨n-1,by omega⟩
   have hkl:k<b.tabs.length:=by omega
   have e1:f80 fu (b.tabs.getD k default).table=some (b.tabs.getD k default).table:=cV hf (h.tabs k hkl)
   rw [gf,inR hkl,ltR hkl,ct,ct,tn,e1,bs,ct,bb hkl (by unfold BIG;omega)]
   have e:b.tabs.set k { (b.tabs.getD k default) with table:=(b.tabs.getD k default).table } = b.tabs:=nh hkl
   rw [e]
   exact ih n (k+1) (by omega) (by omega)
 unfold eD oh
 rw [sx (by omega),bs,ss (by omega),bs]
 exact key b.tabs.length fu 0 (by omega) (by unfold BIG at hf;omega)
theorem yF {r q:Tab}(hf:BIG≤fu)(hr:SmT r.table):mb fu r q=some (B (r=q)):=by
 unfold mb kD
 rw [CN hf hr,bs,bL]
 have e:B (r=q)=(B (r.name=q.name)&&B (r.table=q.table)):=by
  rw [← bY]
  exact ai ⟨fun h=>by rw [h];exact ⟨rfl,rfl⟩,fun h=>by cases r;cases q;cases h.1;cases h.2;rfl⟩
 rw [e]
 cases B (r.name=q.name)<;>rfl
theorem yG {a b:List Tab}(hf:BIG≤fu)(ha:a.length≤1000)(hr:∀ k,k<a.length→SmT (a.getD k default).table):vU fu a b (fun x0 x1=>mb fu x0 x1)=some (B (a=b)):=by
 unfold vU
 by_cases hl:a.length=b.length
 case neg=>rw [df (show ¬ (a.length:Int)=(b.length:Int) by omega),B_f fun e=>hl (by rw [e])];rfl
 rw [dt (show (a.length:Int)=(b.length:Int) by omega),ai (lh hl)]
 show dk a b _ fu 0=_
 have step:∀ n (k:Nat),k<a.length→dk a b (fun x0 x1=>mb fu x0 x1) (n+1) (k:Int)=cond (!B (a.getD k default=b.getD k default)) (some false) (dk a b (fun x0 x1=>mb fu x0 x1) n (IntKind.i64.wrap ((k:Int)+1))):=fun n k hk=>by
  rw [dk,ltR hk,ct,ge0,Bool.and_self,ct,ltR (show k<b.length by omega),Bool.and_self,ct,tn,yF hf (hr k hk),bs]
 refine d7 (L:=dk a b fun x0 x1=>mb fu x0 x1) _ _ (by unfold BIG;omega) (fun n _=>?_) (fun n h=>absurd trivial h) (fun n k hk hp=>?_) (fun n k hk hp=>?_) (by unfold BIG at hf;omega)
 ·rw [dk,nlt];rfl
 ·rw [step n k hk,B_t hp];rfl
 ·rw [step n k hk,B_f hp];rfl
theorem yH {a b:List aj}(hf:BIG≤fu)(ha:a.length≤1000):yI fu a b=some (B (a=b)):=jZ (L:=kE) (fun _ _ _ _=>rfl) hf ha
theorem yS {a b:ac}(hf:BIG≤fu)(ha:SmB a):tr fu a b=some (B (a=b)):=by
 unfold tr kN
 rw [yH hf ha.nlink,bs]
 have e:B (a=b)=(B (a.links=b.links)&&B (a.tabs=b.tabs)):=by
  rw [← bY]
  exact ai ⟨fun h=>by rw [h];exact ⟨rfl,rfl⟩,fun h=>by cases a;cases b;cases h.1;cases h.2;rfl⟩
 rw [e]
 cases B (a.links=b.links) with
 | false=>rfl
 | true=>
  rw [ct,yG hf ha.ntab fun k hk=>ha.tabs k hk];rfl
theorem tq {a:ac}(hf:BIG≤fu)(ha:SmB a):tr fu a a=some true:=by rw [yS hf ha,B_t rfl]
theorem yf {b:ac}(hf:BIG≤fu)(h:fR b)(hl:∀ i,i<b.links.length→ar b (b.links.getD i default)):td fu b=some (B (y9 b)):=by
 have hN:=h.sm.nlink
 unfold td
 have hp:y9 b↔((∀ i,i<b.links.length→ao b (b.links.getD i default))∧True):=⟨fun h=>⟨h,trivial⟩,fun h=>h.1⟩
 rw [ai hp]
 refine d7 (L:=eX fu b) _ _ (by unfold BIG;omega) (fun n _=>?_) (fun n h=>absurd trivial h) (fun n k hk hp=>?_) (fun n k hk hp=>?_) (by unfold BIG at hf;omega)
 ·rw [eX,nlt];rfl
 ·rw [eX,ltR hk,ct,ge0,Bool.and_self,ct,tn,kB hf h (hl k hk),bs,B_t hp];rfl
 ·rw [eX,ltR hk,ct,ge0,Bool.and_self,ct,tn,kB hf h (hl k hk),bs,B_f hp];rfl
theorem yi {b:ac}(hf:BIG≤fu)(h:fR b)(hl:∀ i,i<b.links.length→ar b (b.links.getD i default)):th fu b=some (B (y9 b)):=by
 have hN:=h.sm.nlink
 unfold th yg ti
 have e0:∀ k,k<b.links.length→qu fu (b.links.getD k default) b=some (!B (ao b (b.links.getD k default))):=fun k hk=>by
  unfold qu
  rw [og hf h (hl k hk)];rfl
 have e1:=l6 (L:=bS b.links fun x0=>qu fu x0 b) b.links (fun l=>!B (ao b l)) (by unfold BIG;omega) (fun n=>by rw [bS,nlt];rfl)
  (fun n k hk hp=>by rw [bS,ltR hk,ct,ge0,Bool.and_self,ct,tn,e0 k hk,ae hk,hp];rfl)
  (fun n k hk hp=>by rw [bS,ltR hk,ct,ge0,Bool.and_self,ct,tn,e0 k hk,ae hk,hp];rfl) (fu:=fu) (by unfold BIG at hf;omega)
 rw [e1,bs,bs]
 congr 1
 by_cases hh:y9 b
 ·have:¬ (b.links.findIdx fun l=>!B (ao b l))<b.links.length:=fun hlt=>by
   have:=List.findIdx_getElem (w:=hlt)
   have g:=hh _ hlt
   rw [ae hlt] at g
   rw [B_t g] at this
   cases this
  rw [if_neg this,B_t hh];rfl
 ·have:(b.links.findIdx fun l=>!B (ao b l))<b.links.length:=by
   obtain ⟨i,hi⟩:=Classical.not_forall.1 hh
   obtain ⟨hi,hn⟩:=Classical.not_imp.1 hi
   exact List.findIdx_lt_length_of_exists ⟨_,getD_mem (d:=(default:aj)) hi,by rw [B_f hn];rfl⟩
  rw [if_pos this,ge0,B_f hh];rfl
theorem rl {b:ac}{k:Nat}{t:ab}(h:am b)(hk:k<b.tabs.length)(ht:ou t):fR (aU b k t):=
 ⟨fun i hi=>by
  rw [bB] at hi
  rw [setTab_tabK hk]
  split
  ·exact ht.ok
  ·exact (h.ok.tabs i hi).ok,fA h.sm hk ht.sm⟩
theorem kV {b:ac}{k:Nat}{t:ab}(h:am b)(hk:k<b.tabs.length)(hs:lastS t=lastS (dn b k)):∀ i,i < (aU b k t).links.length→ar (aU b k t) ((aU b k t).links.getD i default):=fun i hi=>
 (kU hk hs).fits (h.ok.links i hi).fits
theorem sn {b:ac}{k:Nat}{t:ab}{c:Int}(hf:BIG≤fu)(h:am b)(hk:k<b.tabs.length)(ht:ou t)(hs:lastS t=lastS (dn b k)):tg fu b (k:Int) t c=some (dp b k (t,c)):=by
 unfold tg dp
 by_cases hc:c=0
 case neg=>rw [df hc,if_pos hc];rfl
 rw [dt hc,if_neg (fun hh=>hh hc)]
 simp only [Bool.not_true,cf]
 rw [aZ hf h.sm,bs,inR hk,ct,tn]
 show (td fu (aU b k t)).bind _=_
 rw [yf hf (rl h hk ht) (kV h hk hs),bs]
 by_cases hh:y9 (aU b k t)
 ·rw [B_t hh,if_pos hh,hc];rfl
 ·rw [B_f hh,if_neg hh];rfl
theorem n9 {b:ac}{nm:List UInt8}{xs:List Set}(hf:BIG≤fu)(h:am b)(hx:SmX xs):qE fu b nm xs=some (xr b nm xs):=by
 unfold qE xr
 rw [a8 hf h.sm.ntab,bs]
 by_cases hk:tabN b nm<b.tabs.length
 case neg=>rw [d6 hk,if_neg hk];rfl
 have g:=h.tabT hk
 rw [aK hk,wQ,cf,inR hk,ct,tn,aW,lC hf g.sm,bs,CA hf g.ok g.sm hx,bs,sn hf h hk ⟨pZ g.ok,pY g.ok g.sm hx⟩ (kY _ _),if_pos hk];rfl
theorem oa {b:ac}{nm:List UInt8}{id:Int}{xs:List Set}(hf:BIG≤fu)(h:am b)(hx:SmX xs):qF fu b nm id xs=some (xi b nm id xs):=by
 unfold qF xi
 rw [a8 hf h.sm.ntab,bs]
 by_cases hk:tabN b nm<b.tabs.length
 case neg=>rw [d6 hk,if_neg hk];rfl
 have g:=h.tabT hk
 rw [aK hk,wQ,cf,inR hk,ct,tn,aW,lC hf g.sm,bs,zA hf g.ok g.sm hx,bs,sn hf h hk ⟨pR g.ok,setT_sm g.ok g.sm hx⟩ (kW _ _ _),if_pos hk];rfl
theorem yJ {b:ac}{nm:List UInt8}{xs:List Set}(hf:BIG≤fu)(h:SmB b)(hx:SmX xs):vX fu b nm xs=some (l5 b nm xs):=by
 unfold vX l5
 rw [dm hf h,bs]
 by_cases hk:ah b
 case neg=>rw [B_f hk,if_neg hk];rfl
 rw [B_t hk,if_pos hk]
 simp only [Bool.not_true,cf]
 rw [aZ hf h,bs,n9 hf ⟨hk,h⟩ hx];rfl
theorem yL {b:ac}{nm:List UInt8}{id:Int}{xs:List Set}(hf:BIG≤fu)(h:SmB b)(hx:SmX xs):vZ fu b nm id xs=some (l4 b nm id xs):=by
 unfold vZ l4
 rw [dm hf h,bs]
 by_cases hk:ah b
 case neg=>rw [B_f hk,if_neg hk];rfl
 rw [B_t hk,if_pos hk]
 simp only [Bool.not_true,cf]
 rw [aZ hf h,bs,oa hf ⟨hk,h⟩ hx];rfl
theorem sr {b:ac}{nm:List UInt8}{f:ab→Option (ab×Int)}{g:ab→ab×Int}(hf:BIG≤fu)(h:SmB b)(hg:∀ t,ou t→f t=some (g t))(hok:∀ t,ou t→ou (g t).1)(hl:∀ t,lastS (g t).1=lastS t) :
     tj fu b nm f=some (@ite _ (ah b) (Classical.propDecidable _) (if tabN b nm<b.tabs.length then dp b (tabN b nm) (g (tabT b nm)) else (b,5)) (nilB,1)):=by
 unfold tj
 rw [fc hf h,bs]
 by_cases hb:ah b
 case neg=>rw [B_f hb,if_neg hb];rfl
 have hB:am b:=⟨hb,h⟩
 rw [B_t hb,if_pos hb]
 simp only [Bool.not_true,cf]
 rw [cO hf h.ntab,bs]
 by_cases hk:tabN b nm<b.tabs.length
 case neg=>rw [d6 hk,if_neg hk,bV hf h];rfl
 have gt:=hB.tabT hk
 rw [aK hk,wQ,cf,inR hk,ct,tn,aW,hg _ gt,bs,bV hf h,if_pos hk]
 unfold dp
 by_cases hc:(g (tabT b nm)).2=0
 case neg=>rw [df hc,if_pos hc];rfl
 rw [dt hc,if_neg (fun hh=>hh hc)]
 simp only [Bool.not_true,cf,bs]
 rw [inR hk,ct]
 show (th fu (aU b (tabN b nm) (g (tabT b nm)).1)).bind _=_
 rw [yi hf (rl hB hk (hok _ gt)) (kV hB hk (hl _)),bs]
 by_cases hh:y9 (aU b (tabN b nm) (g (tabT b nm)).1)
 ·rw [B_t hh,if_pos hh];rfl
 ·rw [B_f hh,if_neg hh];rfl
theorem yK {b:ac}{nm:List UInt8}{xs:List Set}(hf:BIG≤fu)(h:SmB b)(hx:SmX xs):vY fu b nm xs=some (l5 b nm xs):=by
 unfold vY l5 xr
 rw [sr hf h (g:=fun t=>p0 t xs) (fun t ht=>by unfold vO;rw [CB hf ht.ok ht.sm hx];rfl) (fun t ht=>⟨pZ ht.ok,pY ht.ok ht.sm hx⟩) (fun t=>kY _ _)];rfl
theorem yM {b:ac}{nm:List UInt8}{id:Int}{xs:List Set}(hf:BIG≤fu)(h:SmB b)(hx:SmX xs):wa fu b nm id xs=some (l4 b nm id xs):=by
 unfold wa l4 xi
 rw [sr hf h (g:=fun t=>ot t id xs) (fun t ht=>by unfold vP;rw [zB hf ht.ok ht.sm hx];rfl) (fun t ht=>⟨pR ht.ok,setT_sm ht.ok ht.sm hx⟩) (fun t=>kW _ _ _)];rfl
theorem nY {s:List Col}(hf:BIG≤fu)(h:ak s):AE fu s=some (B1 s):=by
 have hhi:=h.hi
 unfold AE
 rw [lw hf h.sm,B_t h,bs]
 simp only [Bool.not_true,cf]
 rw [cap (by rw [List.length_nil];omega)];rfl
theorem wi {s:List Col}(hf:BIG≤fu)(h:ak s):wj fu s=some (B1 s):=by
 have hhi:=h.hi
 unfold wj
 rw [rW hf h.sm,B_t h,bs]
 simp only [Bool.not_true,cf]
 rw [mG (by omega)];rfl
theorem eJ {b:ac}{nm:List UInt8}:decide (0≤ne b nm)=B (tabN b nm<b.tabs.length):=by
 by_cases h:tabN b nm<b.tabs.length
 ·rw [aK h,ge0,B_t h]
 ·rw [d6 h,B_f h];rfl
theorem iT {b:ac}{nm:List UInt8}{s:List Col}(hf:BIG≤fu)(h:SmB b)(hn:nm.length≤1000)(hs:SmS s):mc fu b nm s=some (tableBB b nm s):=by
 have hN:=h.ntab
 unfold mc tableBB mm
 rw [dm hf h,bs]
 by_cases hb:ah b
 case neg=>rw [B_f hb,if_neg hb];rfl
 have h3:=hb.ntab
 rw [B_t hb,if_pos hb]
 simp only [Bool.not_true,cf]
 rw [aZ hf h,bs,d8 hf hn,bs]
 unfold iS
 by_cases h1:al nm
 case neg=>rw [B_f h1,if_pos (.inl h1)];rfl
 rw [B_t h1]
 simp only [Bool.not_true,cf]
 rw [lw hf hs,bs]
 by_cases h2:ak s
 case neg=>rw [B_f h2,if_pos (.inr (.inr h2))];rfl
 rw [B_t h2]
 simp only [Bool.not_true,cf]
 rw [a8 hf hN,bs,eJ]
 by_cases hk:tabN b nm<b.tabs.length
 ·rw [B_t hk,if_pos (.inr (.inl hk))];rfl
 rw [B_f hk,if_neg (fun hh=>hh.elim (fun g=>g h1) fun hh=>hh.elim hk fun g=>g h2),cf]
 by_cases hl:b.tabs.length=3
 ·rw [dt (show (3:Int)≤(b.tabs.length:Int) by omega),if_pos hl];rfl
 ·rw [df (show ¬ (3:Int)≤(b.tabs.length:Int) by omega),if_neg hl,cf,nY hf h2,bs,cap (by rw [List.length_singleton];omega)];rfl
theorem yT {b:ac}{nm:List UInt8}{s:List Col}(hf:BIG≤fu)(h:SmB b)(hn:nm.length≤1000)(hs:SmS s):wk fu b nm s=some (tableBB b nm s):=by
 have hN:=h.ntab
 unfold wk tableBB mm
 rw [fc hf h,bs]
 by_cases hb:ah b
 case neg=>rw [B_f hb,if_neg hb];rfl
 have h3:=hb.ntab
 rw [B_t hb,if_pos hb]
 simp only [Bool.not_true,cf]
 rw [bV hf h,bs,eb hf hn,bs]
 unfold iU
 by_cases h1:al nm
 case neg=>rw [B_f h1,if_pos (.inl h1)];rfl
 rw [B_t h1]
 simp only [Bool.not_true,cf]
 rw [cO hf hN,bs,eJ]
 by_cases hk:tabN b nm<b.tabs.length
 ·rw [B_t hk,if_pos (.inr (.inl hk))];rfl
 rw [B_f hk,cf,rW hf hs,bs]
 by_cases h2:ak s
 case neg=>rw [B_f h2,if_pos (.inr (.inr h2))];rfl
 rw [B_t h2,if_neg (fun hh=>hh.elim (fun g=>g h1) fun hh=>hh.elim hk fun g=>g h2)]
 simp only [Bool.not_true,cf]
 by_cases hl:b.tabs.length=3
 ·rw [dt (show (b.tabs.length:Int)=3 by omega),if_pos hl];rfl
 ·rw [df (show ¬ (b.tabs.length:Int)=3 by omega),if_neg hl,cf,wi hf h2,bs,cap (by rw [List.length_singleton];omega),ct,sx (by simp;omega)];rfl
theorem kK {b:ac}{l:aj}(hf:BIG≤fu)(h:SmB b):pn fu b l=some (linkBB b l):=by
 have hN:=h.ntab
 have hL:=h.nlink
 unfold pn linkBB sX
 rw [dm hf h,bs]
 by_cases hb:ah b
 case neg=>rw [B_f hb,if_neg hb];rfl
 have hB:am b:=⟨hb,h⟩
 rw [B_t hb,if_pos hb]
 simp only [Bool.not_true,cf]
 rw [aZ hf h,bs,cap (by rw [List.length_singleton];omega),ct,sw hf hB.g,bs]
 unfold kJ
 rw [aZ hf h]
 by_cases h1:ar b l
 case neg=>rw [B_f h1,if_pos (.inl h1)];rfl
 rw [B_t h1]
 simp only [Bool.not_true,cf]
 have e1:IntKind.i64.wrap ((List.length ((⟨b.tabs,b.links++([l]:List aj)⟩:ac).links):Int)-1)=(b.links.length:Int):=by
  have:List.length ((⟨b.tabs,b.links++([l]:List aj)⟩:ac).links)=b.links.length+1:=by simp
  rw [this,bk (by omega) (by omega)];omega
 rw [e1]
 show (qQ fu (dC b l) (b.links.length:Int)).bind _=_
 rw [sv hf (by rw [addLink_len];have:=hb.nlink;omega) (by rw [addLink_len];omega),bs]
 have e2:cZ (dC b l) b.links.length↔¬ bz b l.from_ l.col:=by
  constructor
  ·rintro g ⟨k,hk,h1,h2⟩
   have:=g k hk
   rw [addLink_new,dB hk] at this
   exact this ⟨h1,h2⟩
  ·intro g k hk
   rw [addLink_new,dB hk]
   exact fun hh=>g ⟨k,hk,hh.1,hh.2⟩
 rw [ai e2]
 by_cases h2:bz b l.from_ l.col
 ·rw [B_f (show ¬ ¬ bz b l.from_ l.col from fun hh=>hh h2),if_pos (.inr h2)];rfl
 rw [B_t h2,if_neg (fun hh=>hh.elim (fun g=>g h1) h2)]
 simp only [Bool.not_true,cf]
 rw [kB hf hB.g h1,bs]
 by_cases h3:ao b l
 case neg=>rw [B_f h3,if_pos h3];rfl
 rw [B_t h3,if_neg (fun hh=>hh h3)]
 simp only [Bool.not_true,cf]
 have h4:=hb.nlink
 by_cases hl:b.links.length=4
 ·rw [dt (show (4:Int)≤(b.links.length:Int) by omega),if_pos hl];rfl
 ·rw [df (show ¬ (4:Int)≤(b.links.length:Int) by omega),if_neg hl];rfl
theorem yR {b:ac}{l:aj}(hf:BIG≤fu)(h:SmB b):wh fu b l=some (linkBB b l):=by
 have hN:=h.ntab
 have hL:=h.nlink
 unfold wh linkBB sX
 rw [fc hf h,bs]
 by_cases hb:ah b
 case neg=>rw [B_f hb,if_neg hb];rfl
 have hB:am b:=⟨hb,h⟩
 rw [B_t hb,if_pos hb]
 simp only [Bool.not_true,cf]
 rw [bV hf h,bs,su hf hB.g,bs]
 unfold kL
 by_cases h1:ar b l
 case neg=>rw [B_f h1,if_pos (.inl h1)];rfl
 rw [B_t h1]
 simp only [Bool.not_true,cf]
 rw [oe hf hL,bs,nt]
 by_cases h2:bz b l.from_ l.col
 ·rw [B_t h2,if_pos (.inr h2)];rfl
 rw [B_f h2,if_neg (fun hh=>hh.elim (fun g=>g h1) h2),cf,og hf hB.g h1,bs]
 by_cases h3:ao b l
 case neg=>rw [B_f h3,if_pos h3];rfl
 rw [B_t h3,if_neg (fun hh=>hh h3)]
 simp only [Bool.not_true,cf]
 have h4:=hb.nlink
 by_cases hl:b.links.length=4
 ·rw [dt (show (b.links.length:Int)=4 by omega),if_pos hl];rfl
 ·rw [df (show ¬ (b.links.length:Int)=4 by omega),if_neg hl,cf,cap (by rw [List.length_singleton];omega),ct,ss (by simp;omega)];rfl
theorem xJ {p:Prop}:@ite _ p (Classical.propDecidable _) (some true) (some false)=some (B p):=by
 by_cases h:p
 ·rw [if_pos h,B_t h]
 ·rw [if_neg h,B_f h]
theorem yj {b:ac}{nm col:List UInt8}(hf:BIG≤fu)(h:b.links.length≤1000):qv fu b nm col=some (B (bz b nm col)):=by
 unfold qv
 have step:∀ n (k:Nat),k<b.links.length→cH b nm col (n+1) (k:Int)=kl (k:Int) (cH b nm col n) (B ((b.links.getD k default).from_=nm∧(b.links.getD k default).col=col)):=fun n k hk=>by
  rw [cH,ltR hk,ct,ge0,Bool.and_self,ct,tn,ct,bY,bL,bL]
  cases B ((b.links.getD k default).from_=nm)<;>rfl
 rw [← xJ]
 refine jl (L:=cH b nm col) (fun k=>(b.links.getD k default).from_=nm∧(b.links.getD k default).col=col) _ _ (by unfold BIG;omega) (fun n=>?_) (fun n k hk hp=>?_) (fun n k hk hp=>?_) (by unfold BIG at hf;omega)
 ·rw [cH,nlt];rfl
 ·rw [step n k hk,B_t hp];rfl
 ·rw [step n k hk,B_f hp];rfl
def mid {α:Type}(f:α→α)(l:List α)(k:Nat):List α:=(l.take k).map f++l.drop k
theorem xC {α:Type}(f:α→α)(l:List α):mid f l 0=l:=rfl
theorem Ag {α:Type}(f:α→α)(l:List α):mid f l l.length=l.map f:=by
 unfold mid
 rw [List.take_length,List.drop_length,List.append_nil]
theorem qf {α:Type}(f:α→α)(l:List α){k:Nat}(hk:k≤l.length):(mid f l k).length=l.length:=by unfold mid;simp;omega
theorem ux {α:Type}{f:α→α}{l:List α}{d:α}{k:Nat}(hk:k<l.length):(mid f l k).getD k d=l.getD k d:=by
 unfold mid
 rw [List.getD_eq_getElem?_getD,List.getElem?_append_right (by simp;omega),List.getD_eq_getElem?_getD]
 have:k - ((l.take k).map f).length=0:=by simp;omega
 rw [this,List.getElem?_drop,Nat.add_zero]
theorem uw {α:Type}{f:α→α}{l:List α}{d:α}{k:Nat}(hk:k<l.length):(mid f l k).set k (f (l.getD k d))=mid f l (k+1):=by
 unfold mid
 rw [List.set_append_right _ _ (by simp;omega)]
 have:k - ((l.take k).map f).length=0:=by simp;omega
 rw [this,kR (d:=d) hk,List.map_append,md (d:=d) hk,List.append_assoc];rfl
theorem xD {α:Type}{f:α→α}{l:List α}{d:α}{k:Nat}(hk:k<l.length)(h:f (l.getD k d)=l.getD k d):mid f l k=mid f l (k+1):=by
 rw [← uw (d:=d) hk,h,← ux (f:=f) (d:=d) hk,nh (by rw [qf f l (by omega)];exact hk)]
theorem AL {T:List Tab}{nm:List UInt8}{c:aa}{z:Int}{ls:List aj}(hl:ls.length≤1000):∀ (m n k:Nat),k+m=ls.length→m<n→bT nm c z n (k:Int) T (mid (bm nm c) ls k)=some (⟨T,ls.map (bm nm c)⟩,z):=by
 intro m
 induction m with
 | zero=>
  intro n k hk hn
  obtain ⟨n,rfl⟩:∃ i,n=i+1:=⟨n-1,by omega⟩
  have:k=ls.length:=by omega
  subst this
  rw [bT,qf _ _ (Nat.le_refl _),nlt,cf,Ag]
 | succ m ih=>
  intro n k hk hn
  obtain ⟨n,rfl⟩:∃ i,n=i+1:=⟨n-1,by omega⟩
  have hkl:k<ls.length:=by omega
  have hml:=qf (bm nm c) ls (show k≤ls.length by omega)
  have hg:=ux (f:=bm nm c) (d:=(default:aj)) hkl
  have hs:=bb hkl (show ls.length≤BIG by unfold BIG;omega)
  have go:=ih n (k+1) (by omega) (by omega)
  have hyes:c.kind=3∧(ls.getD k default).from_=nm∧(ls.getD k default).col=c.name→dY c (k:Int) T (mid (bm nm c) ls k) (bT nm c z n) true=some (⟨T,ls.map (bm nm c)⟩,z):=fun hh=>by
   unfold dY iJ
   rw [ct,hml,inR hkl,ct,tn,hg]
   simp only [hs]
   have e:({ (ls.getD k default) with col:=c.new }:aj)=bm nm c (ls.getD k default):=(if_pos hh).symm
   rw [e,uw hkl];exact go
  have hno:¬ (c.kind=3∧(ls.getD k default).from_=nm∧(ls.getD k default).col=c.name)→dY c (k:Int) T (mid (bm nm c) ls k) (bT nm c z n) false=some (⟨T,ls.map (bm nm c)⟩,z):=fun hh=>by
   unfold dY iJ
   rw [cf]
   simp only [hs]
   have e:bm nm c (ls.getD k default)=ls.getD k default:=if_neg hh
   rw [xD (d:=(default:aj)) hkl e];exact go
  rw [bT,hml,ltR hkl,ct,ge0,Bool.and_self,ct,tn,hg]
  by_cases h1:c.kind=3
  case neg=>rw [df h1,cf];exact hno fun hh=>h1 hh.1
  rw [dt h1,ct]
  by_cases h2:(ls.getD k default).from_=nm
  case neg=>rw [df h2,cf];exact hno fun hh=>h2 hh.2.1
  rw [dt h2,ct]
  by_cases h3:(ls.getD k default).col=c.name
  ·rw [dt h3];exact hyes ⟨h1,h2,h3⟩
  ·rw [df h3];exact hno fun hh=>h3 hh.2.2
theorem oc {b:ac}{nm:List UInt8}{c:aa}(hf:BIG≤fu)(h:am b)(hc:jb c):qG fu b nm c=some (fe b nm c):=by
 unfold qG fe
 rw [a8 hf h.sm.ntab,bs]
 by_cases hk:tabN b nm<b.tabs.length
 case neg=>rw [d6 hk,if_neg hk];rfl
 have g:=h.tabT hk
 rw [aK hk,wQ,cf,inR hk,ct,tn,aW,lC hf g.sm,bs,Cy hf g.ok g.sm hc,bs,if_pos hk]
 unfold ob
 have j2t:dZ fu b nm c (tabN b nm:Int) (eE (tabT b nm) c).2 (eE (tabT b nm) c).1 true=some (b,8):=rfl
 have j2f:dZ fu b nm c (tabN b nm:Int) (eE (tabT b nm) c).2 (eE (tabT b nm) c).1 false=some (if (eE (tabT b nm) c).2≠0 then (b,(eE (tabT b nm) c).2) else (bh b (tabN b nm) (eE (tabT b nm) c).1 nm c,0)):=by
  unfold dZ
  rw [cf]
  by_cases hz:(eE (tabT b nm) c).2=0
  case neg=>rw [df hz,if_pos hz];rfl
  rw [dt hz,if_neg (fun hh=>hh hz),aZ hf h.sm,bs,inR hk,tn]
  simp only [Bool.not_true,cf,ct]
  have:=AL (T:=b.tabs.set (tabN b nm) ({ (b.tabs.getD (tabN b nm) default) with table:=(eE (tabT b nm) c).1 }:Tab)) (nm:=nm) (c:=c) (z:=(eE (tabT b nm) c).2) (ls:=b.links) h.sm.nlink b.links.length fu 0 (by omega) (by have:=h.sm.nlink;unfold BIG at hf;omega)
  rw [xC] at this
  refine this.trans ?_
  rw [hz];rfl
 by_cases h1:(eE (tabT b nm) c).2=1
 ·rw [dt h1,if_pos h1]
  simp only [Bool.not_true,cf]
  rw [j2f,if_pos (by rw [h1];decide),h1]
 rw [df h1,if_neg h1]
 simp only [Bool.not_false,ct]
 have hu:qv fu b nm c.name=some (B (bz b nm c.name)):=yj hf h.sm.nlink
 rw [hu,bs]
 have hcase:∀ q:Prop,q→(q∧bz b nm c.name↔bz b nm c.name):=fun q hq=>⟨fun hh=>hh.2,fun hh=>⟨hq,hh⟩⟩
 by_cases k2:c.kind=2
 ·rw [dt k2,ct]
  by_cases hl:bz b nm c.name
  ·rw [B_t hl,if_pos ⟨.inl k2,hl⟩];rfl
  ·rw [B_f hl,if_neg (fun hh=>hl hh.2)];exact j2f
 rw [df k2,cf]
 by_cases k4:c.kind=4
 ·rw [dt k4,ct]
  by_cases hl:bz b nm c.name
  ·rw [B_t hl,if_pos ⟨.inr k4,hl⟩];rfl
  ·rw [B_f hl,if_neg (fun hh=>hl hh.2)];exact j2f
 rw [df k4,cf,if_neg (fun hh=>hh.1.elim k2 k4)]
 exact j2f
theorem yN {b:ac}{nm:List UInt8}{c:aa}(hf:BIG≤fu)(h:SmB b)(hc:jb c):wb fu b nm c=some (cP b nm c):=by
 unfold wb cP
 rw [dm hf h,bs]
 by_cases hk:ah b
 case neg=>rw [B_f hk,if_neg hk];rfl
 rw [B_t hk,if_pos hk]
 simp only [Bool.not_true,cf]
 rw [aZ hf h,bs,oc hf ⟨hk,h⟩ hc,bs,aZ hf (fP ⟨hk,h⟩ hc).sm];rfl
theorem sK {b:ac}{nm:List UInt8}{c:aa}(h:ah b)(k3:c.kind=3)(hl:linkN b nm c.name<b.links.length):b.links.set (linkN b nm c.name) ({ (b.links.getD (linkN b nm c.name) default) with col:=c.new }:aj)=b.links.map (bm nm c):=by
 have hp:=List.findIdx_getElem (w:=hl)
 simp only [Bool.and_eq_true,decide_eq_true_eq] at hp
 have hp':b.links[linkN b nm c.name].from_=nm∧b.links[linkN b nm c.name].col=c.name:=hp
 refine List.ext_getElem (by simp) fun i h1 h2=>?_
 have hi:i<b.links.length:=by simpa using h1
 rw [List.getElem_set,List.getElem_map]
 by_cases e:linkN b nm c.name=i
 ·subst e
  rw [if_pos rfl,ae hl]
  exact (if_pos ⟨k3,hp'⟩).symm
 ·rw [if_neg e]
  refine (if_neg fun hh=>?_).symm
  have hle:linkN b nm c.name≤i:=by
   refine Classical.byContradiction fun hn=>?_
   have:=List.not_of_lt_findIdx (show i<linkN b nm c.name by omega)
   rw [dt hh.2.1,dt hh.2.2] at this
   cases this
  refine (h.links i hi).apart (linkN b nm c.name) (by omega) ?_
  rw [ae hl,ae hi]
  exact ⟨hp'.1.trans hh.2.1.symm,hp'.2.trans hh.2.2.symm⟩
theorem ia {b:ac}{nm:List UInt8}{c:aa}(h:¬ (c.kind=3∧bz b nm c.name)):b.links.map (bm nm c)=b.links:=by
 refine List.ext_getElem (by simp) fun i h1 h2=>?_
 rw [List.getElem_map]
 exact if_neg fun hh=>h ⟨hh.1,i,h2,by rw [ae h2];exact hh.2⟩
theorem yO {b:ac}{nm:List UInt8}{c:aa}(hf:BIG≤fu)(h:SmB b)(hc:jb c):wc fu b nm c=some (cP b nm c):=by
 unfold wc cP fe
 rw [fc hf h,bs]
 by_cases hb:ah b
 case neg=>rw [B_f hb,if_neg hb];rfl
 have hB:am b:=⟨hb,h⟩
 rw [B_t hb,if_pos hb]
 simp only [Bool.not_true,cf]
 rw [cO hf h.ntab,bs]
 by_cases hk:tabN b nm<b.tabs.length
 case neg=>rw [d6 hk,if_neg hk,bV hf h];rfl
 have g:=hB.tabT hk
 rw [aK hk,wQ,cf,inR hk,ct,tn,aW,Cz hf g.ok g.sm hc,bs,oe hf h.nlink,bs,bV hf h,if_pos hk]
 by_cases h1:(eE (tabT b nm) c).2=1
 ·rw [dt h1,if_pos h1];rfl
 rw [df h1,if_neg h1,cf,nt]
 have j1t:d4 fu b c (tabN b nm:Int) (eE (tabT b nm) c) (l7 b nm c.name) true=some (b,8):=by
  unfold d4
  rw [bV hf h];rfl
 have j1f:d4 fu b c (tabN b nm:Int) (eE (tabT b nm) c) (l7 b nm c.name) false=some (if (eE (tabT b nm) c).2≠0 then (b,(eE (tabT b nm) c).2) else (bh b (tabN b nm) (eE (tabT b nm) c).1 nm c,0)):=by
  unfold d4
  rw [cf,bV hf h]
  by_cases hz:(eE (tabT b nm) c).2=0
  case neg=>rw [df hz,if_pos hz];rfl
  rw [dt hz,if_neg (fun hh=>hh hz),bs,bs,inR hk]
  simp only [Bool.not_true,cf,ct]
  unfold kG kF
  rw [nt]
  by_cases k3:c.kind=3
  case neg=>
   rw [df k3,cf,cf]
   unfold bh
   rw [ia fun hh=>k3 hh.1];rfl
  rw [dt k3,ct]
  by_cases hl:bz b nm c.name
  case neg=>
   rw [B_f hl,cf]
   unfold bh
   rw [ia fun hh=>hl hh.2];rfl
  have hlt:=li.2 hl
  have e:l7 b nm c.name=(linkN b nm c.name:Int):=if_pos hlt
  rw [B_t hl,ct,e,ltR hlt,Bool.and_self,ct,tn,tn,sK hb k3 hlt];rfl
 by_cases k2:c.kind=2
 ·rw [dt k2,ct]
  by_cases hl:bz b nm c.name
  ·rw [B_t hl,if_pos ⟨.inl k2,hl⟩];exact j1t
  ·rw [B_f hl,if_neg (fun hh=>hl hh.2)];exact j1f
 rw [df k2,cf]
 by_cases k4:c.kind=4
 ·rw [dt k4,ct]
  by_cases hl:bz b nm c.name
  ·rw [B_t hl,if_pos ⟨.inr k4,hl⟩];exact j1t
  ·rw [B_f hl,if_neg (fun hh=>hl hh.2)];exact j1f
 rw [df k4,cf,if_neg (fun hh=>hh.1.elim k2 k4)]
 exact j1f
end Go.Proofs.YtganfdhmkdehlaaGreatDoor
