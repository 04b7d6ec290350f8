/- Bases copied, compared, written: program and document do as the model. -/
import Derived.Test.YtganfdhmkdehlaaGreatDoorQ2003M26
set_option linter.all false
namespace Go.Proofs.YtganfdhmkdehlaaGreatDoor
open Go Go.HL
variable {fu:Nat}
theorem a8 {b:ac}(hf:BIG≤fu)(h:SmB b):dn fu b=some b:=by
 have hN:=h.ntab
 have hL:=h.nlink
 have key:∀ (m n k:Nat),k+m=b.tabs.length→m<n→fV fu b n (k:Int) ⟨b.tabs.take k,b.links⟩=some b:=by
  intro m
  induction m with
  | zero=>
   intro n k hk hn
   obtain ⟨n,rfl⟩:∃ i,n=i+1:=⟨n-1,by omega⟩
   have:k=b.tabs.length:=by omega
   subst this
   rw [fV,nlt,List.take_length];rfl
  | succ m ih=>
   intro n k hk hn
   obtain ⟨n,rfl⟩:∃ i,n=i+1:=⟨n-1,by omega⟩
   have hkl:k<b.tabs.length:=by omega
   have e1:f42 fu (b.tabs.getD k default).table=some (b.tabs.getD k default).table:=ml hf (h.tabs k hkl)
   rw [fV,inR hkl,ltR hkl,ct,ct,ct,tn,e1,bs,cap (by rw [List.length_take,List.length_singleton];omega),ct,aU hkl (by unfold BIG;omega)]
   have e:(⟨b.tabs.take k++[(⟨(b.tabs.getD k default).name,(b.tabs.getD k default).table⟩:Tab)],b.links⟩:ac)=⟨b.tabs.take (k+1),b.links⟩:=by
    rw [km (d:=default) hkl]
   rw [e]
   exact ih n (k+1) (by omega) (by omega)
 unfold dn
 rw [cap (by rw [List.length_nil];omega),ct]
 exact key b.tabs.length fu 0 (by omega) (by unfold BIG at hf;omega)
theorem rq {l:List Tab}(h:l.length≤5000):sr l=some l:=by
 unfold sr wZ xa
 rw [cap (by rw [List.length_nil];omega)];rfl
theorem rm {l:List aj}(h:l.length≤5000):sl l=some l:=by
 unfold sl wW wX
 rw [cap (by rw [List.length_nil];omega)];rfl
theorem bQ {b:ac}(hf:BIG≤fu)(h:SmB b):d3 fu b=some b:=by
 have hN:=h.ntab
 have hL:=h.nlink
 have key:∀ (m n k:Nat),k+m=b.tabs.length→m<n→fW fu b b.links n (k:Int) b.tabs=some b:=by
  intro m
  induction m with
  | zero=>
   intro n k hk hn
   obtain ⟨n,rfl⟩:∃ i,n=i+1:=⟨n-1,by omega⟩
   have:k=b.tabs.length:=by omega
   subst this
   rw [fW,nlt];rfl
  | succ m ih=>
   intro n k hk hn
   obtain ⟨n,rfl⟩:∃ i,n=i+1:=⟨n-1,by omega⟩
   have hkl:k<b.tabs.length:=by omega
   have e1:f80 fu (b.tabs.getD k default).table=some (b.tabs.getD k default).table:=cP hf (h.tabs k hkl)
   rw [fW,inR hkl,ltR hkl,ct,ct,tn,e1,bs,ct,aU hkl (by unfold BIG;omega)]
   have e:b.tabs.set k { (b.tabs.getD k default) with table:=(b.tabs.getD k default).table } = b.tabs:=mE hkl
   rw [e]
   exact ih n (k+1) (by omega) (by omega)
 unfold d3 nr
 rw [rq (by omega),bs,rm (by omega),bs]
 exact key b.tabs.length fu 0 (by omega) (by unfold BIG at hf;omega)
theorem wL {b:ac}(hf:BIG≤fu)(h:fA b)(hl:∀ i,i<b.links.length→av b (b.links.getD i default)):r8 fu b=some (B (yj b)):=by
 have hN:=h.sm.nlink
 unfold r8
 have hp:yj b↔((∀ i,i<b.links.length→aq b (b.links.getD i default))∧True):=⟨fun h=>⟨h,trivial⟩,fun h=>h.1⟩
 rw [ai hp]
 refine eZ (L:=eG fu b) _ _ (by unfold BIG;omega) (fun n _=>?_) (fun n h=>absurd trivial h) (fun n k hk hp=>?_) (fun n k hk hp=>?_) (by unfold BIG at hf;omega)
 ·rw [eG,nlt];rfl
 ·rw [eG,ltR hk,ct,ge0,Bool.and_self,ct,tn,ka hf h (hl k hk),bs,B_t hp];rfl
 ·rw [eG,ltR hk,ct,ge0,Bool.and_self,ct,tn,ka hf h (hl k hk),bs,B_f hp];rfl
theorem wO {b:ac}(hf:BIG≤fu)(h:fA b)(hl:∀ i,i<b.links.length→av b (b.links.getD i default)):sc fu b=some (B (yj b)):=by
 have hN:=h.sm.nlink
 unfold sc wM sd
 have e0:∀ k,k<b.links.length→pz fu (b.links.getD k default) b=some (!B (aq b (b.links.getD k default))):=fun k hk=>by
  unfold pz
  rw [nq hf h (hl k hk)];rfl
 have e1:=lA (L:=bN b.links fun x0=>pz fu x0 b) b.links (fun l=>!B (aq b l)) (by unfold BIG;omega) (fun n=>by rw [bN,nlt];rfl)
  (fun n k hk hp=>by rw [bN,ltR hk,ct,ge0,Bool.and_self,ct,tn,e0 k hk,ae hk,hp];rfl)
  (fun n k hk hp=>by rw [bN,ltR hk,ct,ge0,Bool.and_self,ct,tn,e0 k hk,ae hk,hp];rfl) (fu:=fu) (by unfold BIG at hf;omega)
 rw [e1,bs,bs]
 congr 1
 by_cases hh:yj b
 ·have:¬ (b.links.findIdx fun l=>!B (aq b l))<b.links.length:=fun hlt=>by
   have:=List.findIdx_getElem (w:=hlt)
   have g:=hh _ hlt
   rw [ae hlt] at g
   rw [B_t g] at this
   cases this
  rw [if_neg this,B_t hh];rfl
 ·have:(b.links.findIdx fun l=>!B (aq b l))<b.links.length:=by
   obtain ⟨i,hi⟩:=Classical.not_forall.1 hh
   obtain ⟨hi,hn⟩:=Classical.not_imp.1 hi
   exact List.findIdx_lt_length_of_exists ⟨_,getD_mem (d:=(default:aj)) hi,by rw [B_f hn];rfl⟩
  rw [if_pos this,ge0,B_f hh];rfl
theorem qg {b:ac}{k:Nat}{t:ab}(h:am b)(hk:k<b.tabs.length)(ht:oV t):fA (aV b k t):=
 ⟨fun i hi=>by
  rw [bv] at hi
  rw [setTab_tabK hk]
  split
  ·exact ht.ok
  ·exact (h.ok.tabs i hi).ok,kq h.sm hk ht.sm⟩
theorem ku {b:ac}{k:Nat}{t:ab}(h:am b)(hk:k<b.tabs.length)(hs:lastS t=lastS (eR b k)):∀ i,i < (aV b k t).links.length→av (aV b k t) ((aV b k t).links.getD i default):=fun i hi=>
 (kr hk hs).fits (h.ok.links i hi).fits
theorem rc {b:ac}{k:Nat}{t:ab}{c:Int}(hf:BIG≤fu)(h:am b)(hk:k<b.tabs.length)(ht:oV t)(hs:lastS t=lastS (eR b k)):sb fu b (k:Int) t c=some (f8 b k (t,c)):=by
 unfold sb f8
 by_cases hc:c=0
 case neg=>rw [df hc,if_pos hc];rfl
 rw [dt hc,if_neg (fun hh=>hh hc)]
 simp only [Bool.not_true,cf]
 rw [a8 hf h.sm,bs,inR hk,ct,tn]
 show (r8 fu (aV b k t)).bind _=_
 rw [wL hf (qg h hk ht) (ku h hk hs),bs]
 by_cases hh:yj (aV b k t)
 ·rw [B_t hh,if_pos hh,hc];rfl
 ·rw [B_f hh,if_neg hh];rfl
theorem rh {b:ac}{nm:List UInt8}{xs:List Set}(hf:BIG≤fu)(h:am b)(hx:SmX xs):se fu b nm xs=some (yv b nm xs):=by
 unfold se yv
 rw [aZ hf h.sm.ntab,bs]
 by_cases hk:tabN b nm<b.tabs.length
 case neg=>rw [dN hk,if_neg hk];rfl
 have g:=h.tabT hk
 rw [aF hk,vw,cf,inR hk,ct,tn,aR,ml hf g.sm,bs,Ax hf g.ok g.sm hx,bs,rc hf h hk ⟨o8 g.ok,o7 g.ok g.sm hx⟩ (kx _ _),if_pos hk];rfl
theorem ri {b:ac}{nm:List UInt8}{id:Int}{xs:List Set}(hf:BIG≤fu)(h:am b)(hx:SmX xs):sf fu b nm id xs=some (yt b nm id xs):=by
 unfold sf yt
 rw [aZ hf h.sm.ntab,bs]
 by_cases hk:tabN b nm<b.tabs.length
 case neg=>rw [dN hk,if_neg hk];rfl
 have g:=h.tabT hk
 rw [aF hk,vw,cf,inR hk,ct,tn,aR,ml hf g.sm,bs,x7 hf g.ok g.sm hx,bs,rc hf h hk ⟨o0 g.ok,setT_sm g.ok g.sm hx⟩ (kv _ _ _),if_pos hk];rfl
theorem xi {b:ac}{nm:List UInt8}{xs:List Set}(hf:BIG≤fu)(h:SmB b)(hx:SmX xs):uH fu b nm xs=some (nS b nm xs):=by
 unfold uH nS
 rw [fY hf h,bs]
 by_cases hk:ah b
 case neg=>rw [B_f hk,if_neg hk];rfl
 rw [B_t hk,if_pos hk]
 simp only [Bool.not_true,cf]
 rw [a8 hf h,bs,rh hf ⟨hk,h⟩ hx];rfl
theorem xk {b:ac}{nm:List UInt8}{id:Int}{xs:List Set}(hf:BIG≤fu)(h:SmB b)(hx:SmX xs):uJ fu b nm id xs=some (nP b nm id xs):=by
 unfold uJ nP
 rw [fY hf h,bs]
 by_cases hk:ah b
 case neg=>rw [B_f hk,if_neg hk];rfl
 rw [B_t hk,if_pos hk]
 simp only [Bool.not_true,cf]
 rw [a8 hf h,bs,ri hf ⟨hk,h⟩ hx];rfl
theorem rj {b:ac}{nm:List UInt8}{f:ab→Option (ab×Int)}{g:ab→ab×Int}(hf:BIG≤fu)(h:SmB b)(hg:∀ t,oV t→f t=some (g t))(hok:∀ t,oV t→oV (g t).1)(hl:∀ t,lastS (g t).1=lastS t) :
     sg fu b nm f=some (@ite _ (ah b) (Classical.propDecidable _) (if tabN b nm<b.tabs.length then f8 b (tabN b nm) (g (tabT b nm)) else (b,5)) (ly,1)):=by
 unfold sg
 rw [dK hf h,bs]
 by_cases hb:ah b
 case neg=>rw [B_f hb,if_neg hb];rfl
 have hB:am b:=⟨hb,h⟩
 rw [B_t hb,if_pos hb]
 simp only [Bool.not_true,cf]
 rw [cJ hf h.ntab,bs]
 by_cases hk:tabN b nm<b.tabs.length
 case neg=>rw [dN hk,if_neg hk,bQ hf h];rfl
 have gt:=hB.tabT hk
 rw [aF hk,vw,cf,inR hk,ct,tn,aR,hg _ gt,bs,bQ hf h,if_pos hk]
 unfold f8
 by_cases hc:(g (tabT b nm)).2=0
 case neg=>rw [df hc,if_pos hc];rfl
 rw [dt hc,if_neg (fun hh=>hh hc)]
 simp only [Bool.not_true,cf,bs]
 rw [inR hk,ct]
 show (sc fu (aV b (tabN b nm) (g (tabT b nm)).1)).bind _=_
 rw [wO hf (qg hB hk (hok _ gt)) (ku hB hk (hl _)),bs]
 by_cases hh:yj (aV b (tabN b nm) (g (tabT b nm)).1)
 ·rw [B_t hh,if_pos hh];rfl
 ·rw [B_f hh,if_neg hh];rfl
theorem xj {b:ac}{nm:List UInt8}{xs:List Set}(hf:BIG≤fu)(h:SmB b)(hx:SmX xs):uI fu b nm xs=some (nS b nm xs):=by
 unfold uI nS yv
 rw [rj hf h (g:=fun t=>o9 t xs) (fun t ht=>by unfold uz;rw [Ay hf ht.ok ht.sm hx];rfl) (fun t ht=>⟨o8 ht.ok,o7 ht.ok ht.sm hx⟩) (fun t=>kx _ _)];rfl
theorem xl {b:ac}{nm:List UInt8}{id:Int}{xs:List Set}(hf:BIG≤fu)(h:SmB b)(hx:SmX xs):uK fu b nm id xs=some (nP b nm id xs):=by
 unfold uK nP yt
 rw [rj hf h (g:=fun t=>nA t id xs) (fun t ht=>by unfold uA;rw [x8 hf ht.ok ht.sm hx];rfl) (fun t ht=>⟨o0 ht.ok,setT_sm ht.ok ht.sm hx⟩) (fun t=>kv _ _ _)];rfl
theorem wK {s:List Col}(hf:BIG≤fu)(h:ak s):AP fu s=some (Ae s):=by
 have hhi:=h.hi
 unfold AP
 rw [kR hf h.sm,B_t h,bs]
 simp only [Bool.not_true,cf]
 rw [cap (by rw [List.length_nil];omega)];rfl
theorem uS {s:List Col}(hf:BIG≤fu)(h:ak s):uT fu s=some (Ae s):=by
 have hhi:=h.hi
 unfold uT
 rw [qQ hf h.sm,B_t h,bs]
 simp only [Bool.not_true,cf]
 rw [l6 (by omega)];rfl
theorem eb {b:ac}{nm:List UInt8}:decide (0≤mD b nm)=B (tabN b nm<b.tabs.length):=by
 by_cases h:tabN b nm<b.tabs.length
 ·rw [aF h,ge0,B_t h]
 ·rw [dN h,B_f h];rfl
theorem xt {b:ac}{nm:List UInt8}{s:List Col}(hf:BIG≤fu)(h:SmB b)(hn:nm.length≤1000)(hs:SmS s):uU fu b nm s=some (gi b nm s):=by
 have hN:=h.ntab
 unfold uU gi nH
 rw [fY hf h,bs]
 by_cases hb:ah b
 case neg=>rw [B_f hb,if_neg hb];rfl
 have h3:=hb.ntab
 rw [B_t hb,if_pos hb]
 simp only [Bool.not_true,cf]
 rw [a8 hf h,bs,dO hf hn,bs]
 unfold iA
 by_cases h1:ao nm
 case neg=>rw [B_f h1,if_pos (.inl h1)];rfl
 rw [B_t h1]
 simp only [Bool.not_true,cf]
 rw [kR hf hs,bs]
 by_cases h2:ak s
 case neg=>rw [B_f h2,if_pos (.inr (.inr h2))];rfl
 rw [B_t h2]
 simp only [Bool.not_true,cf]
 rw [aZ hf hN,bs,eb]
 by_cases hk:tabN b nm<b.tabs.length
 ·rw [B_t hk,if_pos (.inr (.inl hk))];rfl
 rw [B_f hk,if_neg (fun hh=>hh.elim (fun g=>g h1) fun hh=>hh.elim hk fun g=>g h2),cf]
 by_cases hl:b.tabs.length=3
 ·rw [dt (show (3:Int)≤(b.tabs.length:Int) by omega),if_pos hl];rfl
 ·rw [df (show ¬ (3:Int)≤(b.tabs.length:Int) by omega),if_neg hl,cf,wK hf h2,bs,cap (by rw [List.length_singleton];omega)];rfl
theorem xu {b:ac}{nm:List UInt8}{s:List Col}(hf:BIG≤fu)(h:SmB b)(hn:nm.length≤1000)(hs:SmS s):uV fu b nm s=some (gi b nm s):=by
 have hN:=h.ntab
 unfold uV gi nH
 rw [dK hf h,bs]
 by_cases hb:ah b
 case neg=>rw [B_f hb,if_neg hb];rfl
 have h3:=hb.ntab
 rw [B_t hb,if_pos hb]
 simp only [Bool.not_true,cf]
 rw [bQ hf h,bs,dQ hf hn,bs]
 unfold iB
 by_cases h1:ao nm
 case neg=>rw [B_f h1,if_pos (.inl h1)];rfl
 rw [B_t h1]
 simp only [Bool.not_true,cf]
 rw [cJ hf hN,bs,eb]
 by_cases hk:tabN b nm<b.tabs.length
 ·rw [B_t hk,if_pos (.inr (.inl hk))];rfl
 rw [B_f hk,cf,qQ hf hs,bs]
 by_cases h2:ak s
 case neg=>rw [B_f h2,if_pos (.inr (.inr h2))];rfl
 rw [B_t h2,if_neg (fun hh=>hh.elim (fun g=>g h1) fun hh=>hh.elim hk fun g=>g h2)]
 simp only [Bool.not_true,cf]
 by_cases hl:b.tabs.length=3
 ·rw [dt (show (b.tabs.length:Int)=3 by omega),if_pos hl];rfl
 ·rw [df (show ¬ (b.tabs.length:Int)=3 by omega),if_neg hl,cf,uS hf h2,bs,cap (by rw [List.length_singleton];omega),ct,rq (by simp;omega)];rfl
theorem xq {b:ac}{l:aj}(hf:BIG≤fu)(h:SmB b):uQ fu b l=some (kH b l):=by
 have hN:=h.ntab
 have hL:=h.nlink
 unfold uQ kH tv
 rw [fY hf h,bs]
 by_cases hb:ah b
 case neg=>rw [B_f hb,if_neg hb];rfl
 have hB:am b:=⟨hb,h⟩
 rw [B_t hb,if_pos hb]
 simp only [Bool.not_true,cf]
 rw [a8 hf h,bs,cap (by rw [List.length_singleton];omega),ct,rp hf hB.g,bs]
 unfold kg
 rw [a8 hf h]
 by_cases h1:av b l
 case neg=>rw [B_f h1,if_pos (.inl h1)];rfl
 rw [B_t h1]
 simp only [Bool.not_true,cf]
 have e1:IntKind.i64.wrap ((List.length ((⟨b.tabs,b.links++([l]:List aj)⟩:ac).links):Int)-1)=(b.links.length:Int):=by
  have:List.length ((⟨b.tabs,b.links++([l]:List aj)⟩:ac).links)=b.links.length+1:=by simp
  rw [this,bi (by omega) (by omega)];omega
 rw [e1]
 show (pR fu (dU b l) (b.links.length:Int)).bind _=_
 rw [ro hf (by rw [addLink_len];have:=hb.nlink;omega) (by rw [addLink_len];omega),bs]
 have e2:cS (dU b l) b.links.length↔¬ bJ b l.from_ l.col:=by
  constructor
  ·rintro g ⟨k,hk,h1,h2⟩
   have:=g k hk
   rw [addLink_new,dp hk] at this
   exact this ⟨h1,h2⟩
  ·intro g k hk
   rw [addLink_new,dp hk]
   exact fun hh=>g ⟨k,hk,hh.1,hh.2⟩
 rw [ai e2]
 by_cases h2:bJ b l.from_ l.col
 ·rw [B_f (show ¬ ¬ bJ b l.from_ l.col from fun hh=>hh h2),if_pos (.inr h2)];rfl
 rw [B_t h2,if_neg (fun hh=>hh.elim (fun g=>g h1) h2)]
 simp only [Bool.not_true,cf]
 rw [ka hf hB.g h1,bs]
 by_cases h3:aq b l
 case neg=>rw [B_f h3,if_pos h3];rfl
 rw [B_t h3,if_neg (fun hh=>hh h3)]
 simp only [Bool.not_true,cf]
 have h4:=hb.nlink
 by_cases hl:b.links.length=4
 ·rw [dt (show (4:Int)≤(b.links.length:Int) by omega),if_pos hl];rfl
 ·rw [df (show ¬ (4:Int)≤(b.links.length:Int) by omega),if_neg hl];rfl
theorem xr {b:ac}{l:aj}(hf:BIG≤fu)(h:SmB b):uR fu b l=some (kH b l):=by
 have hN:=h.ntab
 have hL:=h.nlink
 unfold uR kH tv
 rw [dK hf h,bs]
 by_cases hb:ah b
 case neg=>rw [B_f hb,if_neg hb];rfl
 have hB:am b:=⟨hb,h⟩
 rw [B_t hb,if_pos hb]
 simp only [Bool.not_true,cf]
 rw [bQ hf h,bs,rn hf hB.g,bs]
 unfold kh
 by_cases h1:av b l
 case neg=>rw [B_f h1,if_pos (.inl h1)];rfl
 rw [B_t h1]
 simp only [Bool.not_true,cf]
 rw [np hf hL,bs,mM]
 by_cases h2:bJ b l.from_ l.col
 ·rw [B_t h2,if_pos (.inr h2)];rfl
 rw [B_f h2,if_neg (fun hh=>hh.elim (fun g=>g h1) h2),cf,nq hf hB.g h1,bs]
 by_cases h3:aq b l
 case neg=>rw [B_f h3,if_pos h3];rfl
 rw [B_t h3,if_neg (fun hh=>hh h3)]
 simp only [Bool.not_true,cf]
 have h4:=hb.nlink
 by_cases hl:b.links.length=4
 ·rw [dt (show (b.links.length:Int)=4 by omega),if_pos hl];rfl
 ·rw [df (show ¬ (b.links.length:Int)=4 by omega),if_neg hl,cf,cap (by rw [List.length_singleton];omega),ct,rm (by simp;omega)];rfl
end Go.Proofs.YtganfdhmkdehlaaGreatDoor
/- Columns of a table of a base changed: program and document do as the model. -/
namespace Go.Proofs.YtganfdhmkdehlaaGreatDoor
open Go Go.HL
variable {fu:Nat}
theorem wg {p:Prop}:@ite _ p (Classical.propDecidable _) (some true) (some false)=some (B p):=by
 by_cases h:p
 ·rw [if_pos h,B_t h]
 ·rw [if_neg h,B_f h]
theorem wP {b:ac}{nm col:List UInt8}(hf:BIG≤fu)(h:b.links.length≤1000):pA fu b nm col=some (B (bJ b nm col)):=by
 unfold pA
 have step:∀ n (k:Nat),k<b.links.length→cC b nm col (n+1) (k:Int)=jU (k:Int) (cC b nm col n) (B ((b.links.getD k default).from_=nm∧(b.links.getD k default).col=col)):=fun n k hk=>by
  rw [cC,ltR hk,ct,ge0,Bool.and_self,ct,tn,ct,cn,bt,bt]
  cases B ((b.links.getD k default).from_=nm)<;>rfl
 rw [← wg]
 refine iQ (L:=cC b nm col) (fun k=>(b.links.getD k default).from_=nm∧(b.links.getD k default).col=col) _ _ (by unfold BIG;omega) (fun n=>?_) (fun n k hk hp=>?_) (fun n k hk hp=>?_) (by unfold BIG at hf;omega)
 ·rw [cC,nlt];rfl
 ·rw [step n k hk,B_t hp];rfl
 ·rw [step n k hk,B_f hp];rfl
def mid {α:Type}(f:α→α)(l:List α)(k:Nat):List α:=(l.take k).map f++l.drop k
theorem vY {α:Type}(f:α→α)(l:List α):mid f l 0=l:=rfl
theorem yC {α:Type}(f:α→α)(l:List α):mid f l l.length=l.map f:=by
 unfold mid
 rw [List.take_length,List.drop_length,List.append_nil]
theorem pg {α:Type}(f:α→α)(l:List α){k:Nat}(hk:k≤l.length):(mid f l k).length=l.length:=by unfold mid;simp;omega
theorem tj {α:Type}{f:α→α}{l:List α}{d:α}{k:Nat}(hk:k<l.length):(mid f l k).getD k d=l.getD k d:=by
 unfold mid
 rw [List.getD_eq_getElem?_getD,List.getElem?_append_right (by simp;omega),List.getD_eq_getElem?_getD]
 have:k - ((l.take k).map f).length=0:=by simp;omega
 rw [this,List.getElem?_drop,Nat.add_zero]
theorem ti {α:Type}{f:α→α}{l:List α}{d:α}{k:Nat}(hk:k<l.length):(mid f l k).set k (f (l.getD k d))=mid f l (k+1):=by
 unfold mid
 rw [List.set_append_right _ _ (by simp;omega)]
 have:k - ((l.take k).map f).length=0:=by simp;omega
 rw [this,km (d:=d) hk,List.map_append,lI (d:=d) hk,List.append_assoc];rfl
theorem vZ {α:Type}{f:α→α}{l:List α}{d:α}{k:Nat}(hk:k<l.length)(h:f (l.getD k d)=l.getD k d):mid f l k=mid f l (k+1):=by
 rw [← ti (d:=d) hk,h,← tj (f:=f) (d:=d) hk,mE (by rw [pg f l (by omega)];exact hk)]
theorem y7 {T:List Tab}{nm:List UInt8}{c:aa}{z:Int}{ls:List aj}(hl:ls.length≤1000):∀ (m n k:Nat),k+m=ls.length→m<n→bO nm c z n (k:Int) T (mid (bj nm c) ls k)=some (⟨T,ls.map (bj nm c)⟩,z):=by
 intro m
 induction m with
 | zero=>
  intro n k hk hn
  obtain ⟨n,rfl⟩:∃ i,n=i+1:=⟨n-1,by omega⟩
  have:k=ls.length:=by omega
  subst this
  rw [bO,pg _ _ (Nat.le_refl _),nlt,cf,yC]
 | succ m ih=>
  intro n k hk hn
  obtain ⟨n,rfl⟩:∃ i,n=i+1:=⟨n-1,by omega⟩
  have hkl:k<ls.length:=by omega
  have hml:=pg (bj nm c) ls (show k≤ls.length by omega)
  have hg:=tj (f:=bj nm c) (d:=(default:aj)) hkl
  have hs:=aU hkl (show ls.length≤BIG by unfold BIG;omega)
  have go:=ih n (k+1) (by omega) (by omega)
  have hyes:c.kind=3∧(ls.getD k default).from_=nm∧(ls.getD k default).col=c.name→dG c (k:Int) T (mid (bj nm c) ls k) (bO nm c z n) true=some (⟨T,ls.map (bj nm c)⟩,z):=fun hh=>by
   unfold dG ip
   rw [ct,hml,inR hkl,ct,tn,hg]
   simp only [hs]
   have e:({ (ls.getD k default) with col:=c.new }:aj)=bj nm c (ls.getD k default):=(if_pos hh).symm
   rw [e,ti hkl];exact go
  have hno:¬ (c.kind=3∧(ls.getD k default).from_=nm∧(ls.getD k default).col=c.name)→dG c (k:Int) T (mid (bj nm c) ls k) (bO nm c z n) false=some (⟨T,ls.map (bj nm c)⟩,z):=fun hh=>by
   unfold dG ip
   rw [cf]
   simp only [hs]
   have e:bj nm c (ls.getD k default)=ls.getD k default:=if_neg hh
   rw [vZ (d:=(default:aj)) hkl e];exact go
  rw [bO,hml,ltR hkl,ct,ge0,Bool.and_self,ct,tn,hg]
  by_cases h1:c.kind=3
  case neg=>rw [df h1,cf];exact hno fun hh=>h1 hh.1
  rw [dt h1,ct]
  by_cases h2:(ls.getD k default).from_=nm
  case neg=>rw [df h2,cf];exact hno fun hh=>h2 hh.2.1
  rw [dt h2,ct]
  by_cases h3:(ls.getD k default).col=c.name
  ·rw [dt h3];exact hyes ⟨h1,h2,h3⟩
  ·rw [df h3];exact hno fun hh=>h3 hh.2.2
theorem rk {b:ac}{nm:List UInt8}{c:aa}(hf:BIG≤fu)(h:am b)(hc:iG c):si fu b nm c=some (gx b nm c):=by
 unfold si gx
 rw [aZ hf h.sm.ntab,bs]
 by_cases hk:tabN b nm<b.tabs.length
 case neg=>rw [dN hk,if_neg hk];rfl
 have g:=h.tabT hk
 rw [aF hk,vw,cf,inR hk,ct,tn,aR,ml hf g.sm,bs,Av hf g.ok g.sm hc,bs,if_pos hk]
 unfold nn
 have j2t:dH fu b nm c (tabN b nm:Int) (d5 (tabT b nm) c).2 (d5 (tabT b nm) c).1 true=some (b,8):=rfl
 have j2f:dH fu b nm c (tabN b nm:Int) (d5 (tabT b nm) c).2 (d5 (tabT b nm) c).1 false=some (if (d5 (tabT b nm) c).2≠0 then (b,(d5 (tabT b nm) c).2) else (bc b (tabN b nm) (d5 (tabT b nm) c).1 nm c,0)):=by
  unfold dH
  rw [cf]
  by_cases hz:(d5 (tabT b nm) c).2=0
  case neg=>rw [df hz,if_pos hz];rfl
  rw [dt hz,if_neg (fun hh=>hh hz),a8 hf h.sm,bs,inR hk,tn]
  simp only [Bool.not_true,cf,ct]
  have:=y7 (T:=b.tabs.set (tabN b nm) ({ (b.tabs.getD (tabN b nm) default) with table:=(d5 (tabT b nm) c).1 }:Tab)) (nm:=nm) (c:=c) (z:=(d5 (tabT b nm) c).2) (ls:=b.links) h.sm.nlink b.links.length fu 0 (by omega) (by have:=h.sm.nlink;unfold BIG at hf;omega)
  rw [vY] at this
  refine this.trans ?_
  rw [hz];rfl
 by_cases h1:(d5 (tabT b nm) c).2=1
 ·rw [dt h1,if_pos h1]
  simp only [Bool.not_true,cf]
  rw [j2f,if_pos (by rw [h1];decide),h1]
 rw [df h1,if_neg h1]
 simp only [Bool.not_false,ct]
 have hu:pA fu b nm c.name=some (B (bJ b nm c.name)):=wP hf h.sm.nlink
 rw [hu,bs]
 have hcase:∀ q:Prop,q→(q∧bJ b nm c.name↔bJ b nm c.name):=fun q hq=>⟨fun hh=>hh.2,fun hh=>⟨hq,hh⟩⟩
 by_cases k2:c.kind=2
 ·rw [dt k2,ct]
  by_cases hl:bJ b nm c.name
  ·rw [B_t hl,if_pos ⟨.inl k2,hl⟩];rfl
  ·rw [B_f hl,if_neg (fun hh=>hl hh.2)];exact j2f
 rw [df k2,cf]
 by_cases k4:c.kind=4
 ·rw [dt k4,ct]
  by_cases hl:bJ b nm c.name
  ·rw [B_t hl,if_pos ⟨.inr k4,hl⟩];rfl
  ·rw [B_f hl,if_neg (fun hh=>hl hh.2)];exact j2f
 rw [df k4,cf,if_neg (fun hh=>hh.1.elim k2 k4)]
 exact j2f
theorem xm {b:ac}{nm:List UInt8}{c:aa}(hf:BIG≤fu)(h:SmB b)(hc:iG c):uL fu b nm c=some (dM b nm c):=by
 unfold uL dM
 rw [fY hf h,bs]
 by_cases hk:ah b
 case neg=>rw [B_f hk,if_neg hk];rfl
 rw [B_t hk,if_pos hk]
 simp only [Bool.not_true,cf]
 rw [a8 hf h,bs,rk hf ⟨hk,h⟩ hc,bs,a8 hf (jv ⟨hk,h⟩ hc).sm];rfl
theorem rG {b:ac}{nm:List UInt8}{c:aa}(h:ah b)(k3:c.kind=3)(hl:linkN b nm c.name<b.links.length):b.links.set (linkN b nm c.name) ({ (b.links.getD (linkN b nm c.name) default) with col:=c.new }:aj)=b.links.map (bj nm c):=by
 have hp:=List.findIdx_getElem (w:=hl)
 simp only [Bool.and_eq_true,decide_eq_true_eq] at hp
 have hp':b.links[linkN b nm c.name].from_=nm∧b.links[linkN b nm c.name].col=c.name:=hp
 refine List.ext_getElem (by simp) fun i h1 h2=>?_
 have hi:i<b.links.length:=by simpa using h1
 rw [List.getElem_set,List.getElem_map]
 by_cases e:linkN b nm c.name=i
 ·subst e
  rw [if_pos rfl,ae hl]
  exact (if_pos ⟨k3,hp'⟩).symm
 ·rw [if_neg e]
  refine (if_neg fun hh=>?_).symm
  have hle:linkN b nm c.name≤i:=by
   refine Classical.byContradiction fun hn=>?_
   have:=List.not_of_lt_findIdx (show i<linkN b nm c.name by omega)
   rw [dt hh.2.1,dt hh.2.2] at this
   cases this
  refine (h.links i hi).apart (linkN b nm c.name) (by omega) ?_
  rw [ae hl,ae hi]
  exact ⟨hp'.1.trans hh.2.1.symm,hp'.2.trans hh.2.2.symm⟩
theorem gM {b:ac}{nm:List UInt8}{c:aa}(h:¬ (c.kind=3∧bJ b nm c.name)):b.links.map (bj nm c)=b.links:=by
 refine List.ext_getElem (by simp) fun i h1 h2=>?_
 rw [List.getElem_map]
 exact if_neg fun hh=>h ⟨hh.1,i,h2,by rw [ae h2];exact hh.2⟩
theorem xn {b:ac}{nm:List UInt8}{c:aa}(hf:BIG≤fu)(h:SmB b)(hc:iG c):uM fu b nm c=some (dM b nm c):=by
 unfold uM dM gx
 rw [dK hf h,bs]
 by_cases hb:ah b
 case neg=>rw [B_f hb,if_neg hb];rfl
 have hB:am b:=⟨hb,h⟩
 rw [B_t hb,if_pos hb]
 simp only [Bool.not_true,cf]
 rw [cJ hf h.ntab,bs]
 by_cases hk:tabN b nm<b.tabs.length
 case neg=>rw [dN hk,if_neg hk,bQ hf h];rfl
 have g:=hB.tabT hk
 rw [aF hk,vw,cf,inR hk,ct,tn,aR,Aw hf g.ok g.sm hc,bs,np hf h.nlink,bs,bQ hf h,if_pos hk]
 by_cases h1:(d5 (tabT b nm) c).2=1
 ·rw [dt h1,if_pos h1];rfl
 rw [df h1,if_neg h1,cf,mM]
 have j1t:dJ fu b c (tabN b nm:Int) (d5 (tabT b nm) c) (lB b nm c.name) true=some (b,8):=by
  unfold dJ
  rw [bQ hf h];rfl
 have j1f:dJ fu b c (tabN b nm:Int) (d5 (tabT b nm) c) (lB b nm c.name) false=some (if (d5 (tabT b nm) c).2≠0 then (b,(d5 (tabT b nm) c).2) else (bc b (tabN b nm) (d5 (tabT b nm) c).1 nm c,0)):=by
  unfold dJ
  rw [cf,bQ hf h]
  by_cases hz:(d5 (tabT b nm) c).2=0
  case neg=>rw [df hz,if_pos hz];rfl
  rw [dt hz,if_neg (fun hh=>hh hz),bs,bs,inR hk]
  simp only [Bool.not_true,cf,ct]
  unfold kd kc
  rw [mM]
  by_cases k3:c.kind=3
  case neg=>
   rw [df k3,cf,cf]
   unfold bc
   rw [gM fun hh=>k3 hh.1];rfl
  rw [dt k3,ct]
  by_cases hl:bJ b nm c.name
  case neg=>
   rw [B_f hl,cf]
   unfold bc
   rw [gM fun hh=>hl hh.2];rfl
  have hlt:=kG.2 hl
  have e:lB b nm c.name=(linkN b nm c.name:Int):=if_pos hlt
  rw [B_t hl,ct,e,ltR hlt,Bool.and_self,ct,tn,tn,rG hb k3 hlt];rfl
 by_cases k2:c.kind=2
 ·rw [dt k2,ct]
  by_cases hl:bJ b nm c.name
  ·rw [B_t hl,if_pos ⟨.inl k2,hl⟩];exact j1t
  ·rw [B_f hl,if_neg (fun hh=>hl hh.2)];exact j1f
 rw [df k2,cf]
 by_cases k4:c.kind=4
 ·rw [dt k4,ct]
  by_cases hl:bJ b nm c.name
  ·rw [B_t hl,if_pos ⟨.inr k4,hl⟩];exact j1t
  ·rw [B_f hl,if_neg (fun hh=>hl hh.2)];exact j1f
 rw [df k4,cf,if_neg (fun hh=>hh.1.elim k2 k4)]
 exact j1f
end Go.Proofs.YtganfdhmkdehlaaGreatDoor
