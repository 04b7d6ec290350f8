/- Plain laws. -/
import Derived.Test.YtganfdhmkdehlaaGreatDoorQ2005M26
set_option linter.all false
namespace Go.Proofs.YtganfdhmkdehlaaGreatDoor
open Go Go.HL
variable {fu:Nat}
theorem aZ {b:ac}(hf:BIG≤fu)(h:SmB b):cX fu b=some b:=by
 have hN:=h.ntab
 have hL:=h.nlink
 have key:∀ (m n k:Nat),k+m=b.tabs.length→m<n→gd fu b n (k:Int) ⟨b.tabs.take k,b.links⟩=some b:=by
  intro m
  induction m with
  | zero=>
   intro n k hk hn
   obtain ⟨n,rfl⟩:∃ i,n=i+1:=⟨n-1,by omega⟩
   have:k=b.tabs.length:=by omega
   subst this
   rw [gd,nlt,List.take_length];rfl
  | succ m ih=>
   intro n k hk hn
   obtain ⟨n,rfl⟩:∃ i,n=i+1:=⟨n-1,by omega⟩
   have hkl:k<b.tabs.length:=by omega
   have e1:f42 fu (b.tabs.getD k default).table=some (b.tabs.getD k default).table:=lJ hf (h.tabs k hkl)
   rw [gd,inR hkl,ltR hkl,ct,ct,ct,tn,e1,bs,cap (by rw [List.length_take,List.length_singleton];omega),ct,ba hkl (by unfold BIG;omega)]
   have e:(⟨b.tabs.take k++[(⟨(b.tabs.getD k default).name,(b.tabs.getD k default).table⟩:Tab)],b.links⟩:ac)=⟨b.tabs.take (k+1),b.links⟩:=by
    rw [kW (d:=default) hkl]
   rw [e]
   exact ih n (k+1) (by omega) (by omega)
 unfold cX
 rw [cap (by rw [List.length_nil];omega),ct]
 exact key b.tabs.length fu 0 (by omega) (by unfold BIG at hf;omega)
theorem sy {l:List Tab}(h:l.length≤5000):tw l=some l:=by
 unfold tw yx yy
 rw [cap (by rw [List.length_nil];omega)];rfl
theorem su {l:List aj}(h:l.length≤5000):tr l=some l:=by
 unfold tr yu yv
 rw [cap (by rw [List.length_nil];omega)];rfl
theorem bU {b:ac}(hf:BIG≤fu)(h:SmB b):eB fu b=some b:=by
 have hN:=h.ntab
 have hL:=h.nlink
 have key:∀ (m n k:Nat),k+m=b.tabs.length→m<n→ge fu b b.links n (k:Int) b.tabs=some b:=by
  intro m
  induction m with
  | zero=>
   intro n k hk hn
   obtain ⟨n,rfl⟩:∃ i,n=i+1:=⟨n-1,by omega⟩
   have:k=b.tabs.length:=by omega
   subst this
   rw [ge,nlt];rfl
  | succ m ih=>
   intro n k hk hn
   obtain ⟨n,rfl⟩:∃ i,n=i+1:=⟨n-1,by omega⟩
   have hkl:k<b.tabs.length:=by omega
   have e1:f80 fu (b.tabs.getD k default).table=some (b.tabs.getD k default).table:=cV hf (h.tabs k hkl)
   rw [ge,inR hkl,ltR hkl,ct,ct,tn,e1,bs,ct,ba hkl (by unfold BIG;omega)]
   have e:b.tabs.set k { (b.tabs.getD k default) with table:=(b.tabs.getD k default).table } = b.tabs:=nj hkl
   rw [e]
   exact ih n (k+1) (by omega) (by omega)
 unfold eB ol
 rw [sy (by omega),bs,su (by omega),bs]
 exact key b.tabs.length fu 0 (by omega) (by unfold BIG at hf;omega)
theorem yG {r q:Tab}(hf:BIG≤fu)(hr:SmT r.table):mg fu r q=some (B (r=q)):=by
 unfold mg kI
 rw [CO hf hr,bs,bL]
 have e:B (r=q)=(B (r.name=q.name)&&B (r.table=q.table)):=by
  rw [← bX]
  exact ai ⟨fun h=>by rw [h];exact ⟨rfl,rfl⟩,fun h=>by cases r;cases q;cases h.1;cases h.2;rfl⟩
 rw [e]
 cases B (r.name=q.name)<;>rfl
theorem yH {a b:List Tab}(hf:BIG≤fu)(ha:a.length≤1000)(hr:∀ k,k<a.length→SmT (a.getD k default).table):vT fu a b (fun x0 x1=>mg fu x0 x1)=some (B (a=b)):=by
 unfold vT
 by_cases hl:a.length=b.length
 case neg=>rw [df (show ¬ (a.length:Int)=(b.length:Int) by omega),B_f fun e=>hl (by rw [e])];rfl
 rw [dt (show (a.length:Int)=(b.length:Int) by omega),ai (lr hl)]
 show dl a b _ fu 0=_
 have step:∀ n (k:Nat),k<a.length→dl a b (fun x0 x1=>mg fu x0 x1) (n+1) (k:Int)=cond (!B (a.getD k default=b.getD k default)) (some false) (dl a b (fun x0 x1=>mg fu x0 x1) n (IntKind.i64.wrap ((k:Int)+1))):=fun n k hk=>by
  rw [dl,ltR hk,ct,ge0,Bool.and_self,ct,ltR (show k<b.length by omega),Bool.and_self,ct,tn,yG hf (hr k hk),bs]
 refine d6 (L:=dl a b fun x0 x1=>mg fu x0 x1) _ _ (by unfold BIG;omega) (fun n _=>?_) (fun n h=>absurd trivial h) (fun n k hk hp=>?_) (fun n k hk hp=>?_) (by unfold BIG at hf;omega)
 ·rw [dl,nlt];rfl
 ·rw [step n k hk,B_t hp];rfl
 ·rw [step n k hk,B_f hp];rfl
theorem yI {a b:List aj}(hf:BIG≤fu)(ha:a.length≤1000):yJ fu a b=some (B (a=b)):=j3 (L:=kJ) (fun _ _ _ _=>rfl) hf ha
theorem yT {a b:ac}(hf:BIG≤fu)(ha:SmB a):mh fu a b=some (B (a=b)):=by
 unfold mh kT
 rw [yI hf ha.nlink,bs]
 have e:B (a=b)=(B (a.links=b.links)&&B (a.tabs=b.tabs)):=by
  rw [← bX]
  exact ai ⟨fun h=>by rw [h];exact ⟨rfl,rfl⟩,fun h=>by cases a;cases b;cases h.1;cases h.2;rfl⟩
 rw [e]
 cases B (a.links=b.links) with
 | false=>rfl
 | true=>
  rw [ct,yH hf ha.ntab fun k hk=>ha.tabs k hk];rfl
theorem eC {a:ac}(hf:BIG≤fu)(ha:SmB a):mh fu a a=some true:=by rw [yT hf ha,B_t rfl]
theorem yg {b:ac}(hf:BIG≤fu)(h:fR b)(hl:∀ i,i<b.links.length→ar b (b.links.getD i default)):tj fu b=some (B (zb b)):=by
 have hN:=h.sm.nlink
 unfold tj
 have hp:zb b↔((∀ i,i<b.links.length→ao b (b.links.getD i default))∧True):=⟨fun h=>⟨h,trivial⟩,fun h=>h.1⟩
 rw [ai hp]
 refine d6 (L:=eX fu b) _ _ (by unfold BIG;omega) (fun n _=>?_) (fun n h=>absurd trivial h) (fun n k hk hp=>?_) (fun n k hk hp=>?_) (by unfold BIG at hf;omega)
 ·rw [eX,nlt];rfl
 ·rw [eX,ltR hk,ct,ge0,Bool.and_self,ct,tn,kG hf h (hl k hk),bs,B_t hp];rfl
 ·rw [eX,ltR hk,ct,ge0,Bool.and_self,ct,tn,kG hf h (hl k hk),bs,B_f hp];rfl
theorem yj {b:ac}(hf:BIG≤fu)(h:fR b)(hl:∀ i,i<b.links.length→ar b (b.links.getD i default)):tm fu b=some (B (zb b)):=by
 have hN:=h.sm.nlink
 unfold tm yh tp
 have e0:∀ k,k<b.links.length→qv fu (b.links.getD k default) b=some (!B (ao b (b.links.getD k default))):=fun k hk=>by
  unfold qv
  rw [oi hf h (hl k hk)];rfl
 have e1:=mb (L:=bR b.links fun x0=>qv fu x0 b) b.links (fun l=>!B (ao b l)) (by unfold BIG;omega) (fun n=>by rw [bR,nlt];rfl)
  (fun n k hk hp=>by rw [bR,ltR hk,ct,ge0,Bool.and_self,ct,tn,e0 k hk,ae hk,hp];rfl)
  (fun n k hk hp=>by rw [bR,ltR hk,ct,ge0,Bool.and_self,ct,tn,e0 k hk,ae hk,hp];rfl) (fu:=fu) (by unfold BIG at hf;omega)
 rw [e1,bs,bs]
 congr 1
 by_cases hh:zb b
 ·have:¬ (b.links.findIdx fun l=>!B (ao b l))<b.links.length:=fun hlt=>by
   have:=List.findIdx_getElem (w:=hlt)
   have g:=hh _ hlt
   rw [ae hlt] at g
   rw [B_t g] at this
   cases this
  rw [if_neg this,B_t hh];rfl
 ·have:(b.links.findIdx fun l=>!B (ao b l))<b.links.length:=by
   obtain ⟨i,hi⟩:=Classical.not_forall.1 hh
   obtain ⟨hi,hn⟩:=Classical.not_imp.1 hi
   exact List.findIdx_lt_length_of_exists ⟨_,getD_mem (d:=(default:aj)) hi,by rw [B_f hn];rfl⟩
  rw [if_pos this,ge0,B_f hh];rfl
theorem rm {b:ac}{k:Nat}{t:ab}(h:am b)(hk:k<b.tabs.length)(ht:ox t):fR (aU b k t):=
 ⟨fun i hi=>by
  rw [bB] at hi
  rw [setTab_tabK hk]
  split
  ·exact ht.ok
  ·exact (h.ok.tabs i hi).ok,fy h.sm hk ht.sm⟩
theorem k7 {b:ac}{k:Nat}{t:ab}(h:am b)(hk:k<b.tabs.length)(hs:lastS t=lastS (dn b k)):∀ i,i < (aU b k t).links.length→ar (aU b k t) ((aU b k t).links.getD i default):=fun i hi=>
 (kZ hk hs).fits (h.ok.links i hi).fits
theorem so {b:ac}{k:Nat}{t:ab}{c:Int}(hf:BIG≤fu)(h:am b)(hk:k<b.tabs.length)(ht:ox t)(hs:lastS t=lastS (dn b k)):tl fu b (k:Int) t c=some (dp b k (t,c)):=by
 unfold tl dp
 by_cases hc:c=0
 case neg=>rw [df hc,if_pos hc];rfl
 rw [dt hc,if_neg (fun hh=>hh hc)]
 simp only [Bool.not_true,cf]
 rw [aZ hf h.sm,bs,inR hk,ct,tn]
 show (tj fu (aU b k t)).bind _=_
 rw [yg hf (rm h hk ht) (k7 h hk hs),bs]
 by_cases hh:zb (aU b k t)
 ·rw [B_t hh,if_pos hh,hc];rfl
 ·rw [B_f hh,if_neg hh];rfl
theorem ob {b:ac}{nm:List UInt8}{xs:List Set}(hf:BIG≤fu)(h:am b)(hx:SmX xs):qF fu b nm xs=some (xr b nm xs):=by
 unfold qF xr
 rw [a8 hf h.sm.ntab,bs]
 by_cases hk:tabN b nm<b.tabs.length
 case neg=>rw [d5 hk,if_neg hk];rfl
 have g:=h.tabT hk
 rw [aK hk,wQ,cf,inR hk,ct,tn,aW,lJ hf g.sm,bs,CB hf g.ok g.sm hx,bs,so hf h hk ⟨qc g.ok,qb g.ok g.sm hx⟩ (la _ _),if_pos hk];rfl
theorem oc {b:ac}{nm:List UInt8}{id:Int}{xs:List Set}(hf:BIG≤fu)(h:am b)(hx:SmX xs):qG fu b nm id xs=some (xi b nm id xs):=by
 unfold qG xi
 rw [a8 hf h.sm.ntab,bs]
 by_cases hk:tabN b nm<b.tabs.length
 case neg=>rw [d5 hk,if_neg hk];rfl
 have g:=h.tabT hk
 rw [aK hk,wQ,cf,inR hk,ct,tn,aW,lJ hf g.sm,bs,zC hf g.ok g.sm hx,bs,so hf h hk ⟨pY g.ok,setT_sm g.ok g.sm hx⟩ (k8 _ _ _),if_pos hk];rfl
theorem yK {b:ac}{nm:List UInt8}{xs:List Set}(hf:BIG≤fu)(h:SmB b)(hx:SmX xs):vW fu b nm xs=some (oP b nm xs):=by
 unfold vW oP
 rw [cP hf h,bs]
 by_cases hk:ah b
 case neg=>rw [B_f hk,if_neg hk];rfl
 rw [B_t hk,if_pos hk]
 simp only [Bool.not_true,cf]
 rw [aZ hf h,bs,ob hf ⟨hk,h⟩ hx];rfl
theorem yM {b:ac}{nm:List UInt8}{id:Int}{xs:List Set}(hf:BIG≤fu)(h:SmB b)(hx:SmX xs):vY fu b nm id xs=some (oL b nm id xs):=by
 unfold vY oL
 rw [cP hf h,bs]
 by_cases hk:ah b
 case neg=>rw [B_f hk,if_neg hk];rfl
 rw [B_t hk,if_pos hk]
 simp only [Bool.not_true,cf]
 rw [aZ hf h,bs,oc hf ⟨hk,h⟩ hx];rfl
theorem ss {b:ac}{nm:List UInt8}{f:ab→Option (ab×Int)}{g:ab→ab×Int}(hf:BIG≤fu)(h:SmB b)(hg:∀ t,ox t→f t=some (g t))(hok:∀ t,ox t→ox (g t).1)(hl:∀ t,lastS (g t).1=lastS t) :
     tq fu b nm f=some (@ite _ (ah b) (Classical.propDecidable _) (if tabN b nm<b.tabs.length then dp b (tabN b nm) (g (tabT b nm)) else (b,5)) (nilB,1)):=by
 unfold tq
 rw [dZ hf h,bs]
 by_cases hb:ah b
 case neg=>rw [B_f hb,if_neg hb];rfl
 have hB:am b:=⟨hb,h⟩
 rw [B_t hb,if_pos hb]
 simp only [Bool.not_true,cf]
 rw [cO hf h.ntab,bs]
 by_cases hk:tabN b nm<b.tabs.length
 case neg=>rw [d5 hk,if_neg hk,bU hf h];rfl
 have gt:=hB.tabT hk
 rw [aK hk,wQ,cf,inR hk,ct,tn,aW,hg _ gt,bs,bU hf h,if_pos hk]
 unfold dp
 by_cases hc:(g (tabT b nm)).2=0
 case neg=>rw [df hc,if_pos hc];rfl
 rw [dt hc,if_neg (fun hh=>hh hc)]
 simp only [Bool.not_true,cf,bs]
 rw [inR hk,ct]
 show (tm fu (aU b (tabN b nm) (g (tabT b nm)).1)).bind _=_
 rw [yj hf (rm hB hk (hok _ gt)) (k7 hB hk (hl _)),bs]
 by_cases hh:zb (aU b (tabN b nm) (g (tabT b nm)).1)
 ·rw [B_t hh,if_pos hh];rfl
 ·rw [B_f hh,if_neg hh];rfl
theorem yL {b:ac}{nm:List UInt8}{xs:List Set}(hf:BIG≤fu)(h:SmB b)(hx:SmX xs):vX fu b nm xs=some (oP b nm xs):=by
 unfold vX oP xr
 rw [ss hf h (g:=fun t=>qd t xs) (fun t ht=>by unfold vN;rw [CC hf ht.ok ht.sm hx];rfl) (fun t ht=>⟨qc ht.ok,qb ht.ok ht.sm hx⟩) (fun t=>la _ _)];rfl
theorem yN {b:ac}{nm:List UInt8}{id:Int}{xs:List Set}(hf:BIG≤fu)(h:SmB b)(hx:SmX xs):vZ fu b nm id xs=some (oL b nm id xs):=by
 unfold vZ oL xi
 rw [ss hf h (g:=fun t=>ow t id xs) (fun t ht=>by unfold vO;rw [zD hf ht.ok ht.sm hx];rfl) (fun t ht=>⟨pY ht.ok,setT_sm ht.ok ht.sm hx⟩) (fun t=>k8 _ _ _)];rfl
theorem n4 {s:List Col}(hf:BIG≤fu)(h:ak s):AH fu s=some (B3 s):=by
 have hhi:=h.hi
 unfold AH
 rw [lD hf h.sm,B_t h,bs]
 simp only [Bool.not_true,cf]
 rw [cap (by rw [List.length_nil];omega)];rfl
theorem wh {s:List Col}(hf:BIG≤fu)(h:ak s):wi fu s=some (B3 s):=by
 have hhi:=h.hi
 unfold wi
 rw [rX hf h.sm,B_t h,bs]
 simp only [Bool.not_true,cf]
 rw [mJ (by omega)];rfl
theorem eI {b:ac}{nm:List UInt8}:decide (0≤ng b nm)=B (tabN b nm<b.tabs.length):=by
 by_cases h:tabN b nm<b.tabs.length
 ·rw [aK h,ge0,B_t h]
 ·rw [d5 h,B_f h];rfl
theorem iX {b:ac}{nm:List UInt8}{s:List Col}(hf:BIG≤fu)(h:SmB b)(hn:nm.length≤1000)(hs:SmS s):mi fu b nm s=some (tableBB b nm s):=by
 have hN:=h.ntab
 unfold mi tableBB mt
 rw [cP hf h,bs]
 by_cases hb:ah b
 case neg=>rw [B_f hb,if_neg hb];rfl
 have h3:=hb.ntab
 rw [B_t hb,if_pos hb]
 simp only [Bool.not_true,cf]
 rw [aZ hf h,bs,d7 hf hn,bs]
 unfold iW
 by_cases h1:al nm
 case neg=>rw [B_f h1,if_pos (.inl h1)];rfl
 rw [B_t h1]
 simp only [Bool.not_true,cf]
 rw [lD hf hs,bs]
 by_cases h2:ak s
 case neg=>rw [B_f h2,if_pos (.inr (.inr h2))];rfl
 rw [B_t h2]
 simp only [Bool.not_true,cf]
 rw [a8 hf hN,bs,eI]
 by_cases hk:tabN b nm<b.tabs.length
 ·rw [B_t hk,if_pos (.inr (.inl hk))];rfl
 rw [B_f hk,if_neg (fun hh=>hh.elim (fun g=>g h1) fun hh=>hh.elim hk fun g=>g h2),cf]
 by_cases hl:b.tabs.length=3
 ·rw [dt (show (3:Int)≤(b.tabs.length:Int) by omega),if_pos hl];rfl
 ·rw [df (show ¬ (3:Int)≤(b.tabs.length:Int) by omega),if_neg hl,cf,n4 hf h2,bs,cap (by rw [List.length_singleton];omega)];rfl
theorem yU {b:ac}{nm:List UInt8}{s:List Col}(hf:BIG≤fu)(h:SmB b)(hn:nm.length≤1000)(hs:SmS s):wj fu b nm s=some (tableBB b nm s):=by
 have hN:=h.ntab
 unfold wj tableBB mt
 rw [dZ hf h,bs]
 by_cases hb:ah b
 case neg=>rw [B_f hb,if_neg hb];rfl
 have h3:=hb.ntab
 rw [B_t hb,if_pos hb]
 simp only [Bool.not_true,cf]
 rw [bU hf h,bs,d9 hf hn,bs]
 unfold iY
 by_cases h1:al nm
 case neg=>rw [B_f h1,if_pos (.inl h1)];rfl
 rw [B_t h1]
 simp only [Bool.not_true,cf]
 rw [cO hf hN,bs,eI]
 by_cases hk:tabN b nm<b.tabs.length
 ·rw [B_t hk,if_pos (.inr (.inl hk))];rfl
 rw [B_f hk,cf,rX hf hs,bs]
 by_cases h2:ak s
 case neg=>rw [B_f h2,if_pos (.inr (.inr h2))];rfl
 rw [B_t h2,if_neg (fun hh=>hh.elim (fun g=>g h1) fun hh=>hh.elim hk fun g=>g h2)]
 simp only [Bool.not_true,cf]
 by_cases hl:b.tabs.length=3
 ·rw [dt (show (b.tabs.length:Int)=3 by omega),if_pos hl];rfl
 ·rw [df (show ¬ (b.tabs.length:Int)=3 by omega),if_neg hl,cf,wh hf h2,bs,cap (by rw [List.length_singleton];omega),ct,sy (by simp;omega)];rfl
theorem kQ {b:ac}{l:aj}(hf:BIG≤fu)(h:SmB b):pt fu b l=some (linkBB b l):=by
 have hN:=h.ntab
 have hL:=h.nlink
 unfold pt linkBB s5
 rw [cP hf h,bs]
 by_cases hb:ah b
 case neg=>rw [B_f hb,if_neg hb];rfl
 have hB:am b:=⟨hb,h⟩
 rw [B_t hb,if_pos hb]
 simp only [Bool.not_true,cf]
 rw [aZ hf h,bs,cap (by rw [List.length_singleton];omega),ct,sx hf hB.g,bs]
 unfold kP
 rw [aZ hf h]
 by_cases h1:ar b l
 case neg=>rw [B_f h1,if_pos (.inl h1)];rfl
 rw [B_t h1]
 simp only [Bool.not_true,cf]
 have e1:IntKind.i64.wrap ((List.length ((⟨b.tabs,b.links++([l]:List aj)⟩:ac).links):Int)-1)=(b.links.length:Int):=by
  have:List.length ((⟨b.tabs,b.links++([l]:List aj)⟩:ac).links)=b.links.length+1:=by simp
  rw [this,bk (by omega) (by omega)];omega
 rw [e1]
 show (qR fu (dB b l) (b.links.length:Int)).bind _=_
 rw [sw hf (by rw [addLink_len];have:=hb.nlink;omega) (by rw [addLink_len];omega),bs]
 have e2:cZ (dB b l) b.links.length↔¬ bz b l.from_ l.col:=by
  constructor
  ·rintro g ⟨k,hk,h1,h2⟩
   have:=g k hk
   rw [addLink_new,dz hk] at this
   exact this ⟨h1,h2⟩
  ·intro g k hk
   rw [addLink_new,dz hk]
   exact fun hh=>g ⟨k,hk,hh.1,hh.2⟩
 rw [ai e2]
 by_cases h2:bz b l.from_ l.col
 ·rw [B_f (show ¬ ¬ bz b l.from_ l.col from fun hh=>hh h2),if_pos (.inr h2)];rfl
 rw [B_t h2,if_neg (fun hh=>hh.elim (fun g=>g h1) h2)]
 simp only [Bool.not_true,cf]
 rw [kG hf hB.g h1,bs]
 by_cases h3:ao b l
 case neg=>rw [B_f h3,if_pos h3];rfl
 rw [B_t h3,if_neg (fun hh=>hh h3)]
 simp only [Bool.not_true,cf]
 have h4:=hb.nlink
 by_cases hl:b.links.length=4
 ·rw [dt (show (4:Int)≤(b.links.length:Int) by omega),if_pos hl];rfl
 ·rw [df (show ¬ (4:Int)≤(b.links.length:Int) by omega),if_neg hl];rfl
theorem yS {b:ac}{l:aj}(hf:BIG≤fu)(h:SmB b):wg fu b l=some (linkBB b l):=by
 have hN:=h.ntab
 have hL:=h.nlink
 unfold wg linkBB s5
 rw [dZ hf h,bs]
 by_cases hb:ah b
 case neg=>rw [B_f hb,if_neg hb];rfl
 have hB:am b:=⟨hb,h⟩
 rw [B_t hb,if_pos hb]
 simp only [Bool.not_true,cf]
 rw [bU hf h,bs,sv hf hB.g,bs]
 unfold kR
 by_cases h1:ar b l
 case neg=>rw [B_f h1,if_pos (.inl h1)];rfl
 rw [B_t h1]
 simp only [Bool.not_true,cf]
 rw [oh hf hL,bs,nv]
 by_cases h2:bz b l.from_ l.col
 ·rw [B_t h2,if_pos (.inr h2)];rfl
 rw [B_f h2,if_neg (fun hh=>hh.elim (fun g=>g h1) h2),cf,oi hf hB.g h1,bs]
 by_cases h3:ao b l
 case neg=>rw [B_f h3,if_pos h3];rfl
 rw [B_t h3,if_neg (fun hh=>hh h3)]
 simp only [Bool.not_true,cf]
 have h4:=hb.nlink
 by_cases hl:b.links.length=4
 ·rw [dt (show (b.links.length:Int)=4 by omega),if_pos hl];rfl
 ·rw [df (show ¬ (b.links.length:Int)=4 by omega),if_neg hl,cf,cap (by rw [List.length_singleton];omega),ct,su (by simp;omega)];rfl
theorem xK {p:Prop}:@ite _ p (Classical.propDecidable _) (some true) (some false)=some (B p):=by
 by_cases h:p
 ·rw [if_pos h,B_t h]
 ·rw [if_neg h,B_f h]
theorem yk {b:ac}{nm col:List UInt8}(hf:BIG≤fu)(h:b.links.length≤1000):qw fu b nm col=some (B (bz b nm col)):=by
 unfold qw
 have step:∀ n (k:Nat),k<b.links.length→cH b nm col (n+1) (k:Int)=kr (k:Int) (cH b nm col n) (B ((b.links.getD k default).from_=nm∧(b.links.getD k default).col=col)):=fun n k hk=>by
  rw [cH,ltR hk,ct,ge0,Bool.and_self,ct,tn,ct,bX,bL,bL]
  cases B ((b.links.getD k default).from_=nm)<;>rfl
 rw [← xK]
 refine jo (L:=cH b nm col) (fun k=>(b.links.getD k default).from_=nm∧(b.links.getD k default).col=col) _ _ (by unfold BIG;omega) (fun n=>?_) (fun n k hk hp=>?_) (fun n k hk hp=>?_) (by unfold BIG at hf;omega)
 ·rw [cH,nlt];rfl
 ·rw [step n k hk,B_t hp];rfl
 ·rw [step n k hk,B_f hp];rfl
def mid {α:Type}(f:α→α)(l:List α)(k:Nat):List α:=(l.take k).map f++l.drop k
theorem xC {α:Type}(f:α→α)(l:List α):mid f l 0=l:=rfl
theorem Aj {α:Type}(f:α→α)(l:List α):mid f l l.length=l.map f:=by
 unfold mid
 rw [List.take_length,List.drop_length,List.append_nil]
theorem qh {α:Type}(f:α→α)(l:List α){k:Nat}(hk:k≤l.length):(mid f l k).length=l.length:=by unfold mid;simp;omega
theorem uw {α:Type}{f:α→α}{l:List α}{d:α}{k:Nat}(hk:k<l.length):(mid f l k).getD k d=l.getD k d:=by
 unfold mid
 rw [List.getD_eq_getElem?_getD,List.getElem?_append_right (by simp;omega),List.getD_eq_getElem?_getD]
 have:k - ((l.take k).map f).length=0:=by simp;omega
 rw [this,List.getElem?_drop,Nat.add_zero]
theorem uv {α:Type}{f:α→α}{l:List α}{d:α}{k:Nat}(hk:k<l.length):(mid f l k).set k (f (l.getD k d))=mid f l (k+1):=by
 unfold mid
 rw [List.set_append_right _ _ (by simp;omega)]
 have:k - ((l.take k).map f).length=0:=by simp;omega
 rw [this,kW (d:=d) hk,List.map_append,mj (d:=d) hk,List.append_assoc];rfl
theorem xD {α:Type}{f:α→α}{l:List α}{d:α}{k:Nat}(hk:k<l.length)(h:f (l.getD k d)=l.getD k d):mid f l k=mid f l (k+1):=by
 rw [← uv (d:=d) hk,h,← uw (f:=f) (d:=d) hk,nj (by rw [qh f l (by omega)];exact hk)]
theorem AO {T:List Tab}{nm:List UInt8}{c:aa}{z:Int}{ls:List aj}(hl:ls.length≤1000):∀ (m n k:Nat),k+m=ls.length→m<n→bS nm c z n (k:Int) T (mid (bm nm c) ls k)=some (⟨T,ls.map (bm nm c)⟩,z):=by
 intro m
 induction m with
 | zero=>
  intro n k hk hn
  obtain ⟨n,rfl⟩:∃ i,n=i+1:=⟨n-1,by omega⟩
  have:k=ls.length:=by omega
  subst this
  rw [bS,qh _ _ (Nat.le_refl _),nlt,cf,Aj]
 | succ m ih=>
  intro n k hk hn
  obtain ⟨n,rfl⟩:∃ i,n=i+1:=⟨n-1,by omega⟩
  have hkl:k<ls.length:=by omega
  have hml:=qh (bm nm c) ls (show k≤ls.length by omega)
  have hg:=uw (f:=bm nm c) (d:=(default:aj)) hkl
  have hs:=ba hkl (show ls.length≤BIG by unfold BIG;omega)
  have go:=ih n (k+1) (by omega) (by omega)
  have hyes:c.kind=3∧(ls.getD k default).from_=nm∧(ls.getD k default).col=c.name→dV c (k:Int) T (mid (bm nm c) ls k) (bS nm c z n) true=some (⟨T,ls.map (bm nm c)⟩,z):=fun hh=>by
   unfold dV iM
   rw [ct,hml,inR hkl,ct,tn,hg]
   simp only [hs]
   have e:({ (ls.getD k default) with col:=c.new }:aj)=bm nm c (ls.getD k default):=(if_pos hh).symm
   rw [e,uv hkl];exact go
  have hno:¬ (c.kind=3∧(ls.getD k default).from_=nm∧(ls.getD k default).col=c.name)→dV c (k:Int) T (mid (bm nm c) ls k) (bS nm c z n) false=some (⟨T,ls.map (bm nm c)⟩,z):=fun hh=>by
   unfold dV iM
   rw [cf]
   simp only [hs]
   have e:bm nm c (ls.getD k default)=ls.getD k default:=if_neg hh
   rw [xD (d:=(default:aj)) hkl e];exact go
  rw [bS,hml,ltR hkl,ct,ge0,Bool.and_self,ct,tn,hg]
  by_cases h1:c.kind=3
  case neg=>rw [df h1,cf];exact hno fun hh=>h1 hh.1
  rw [dt h1,ct]
  by_cases h2:(ls.getD k default).from_=nm
  case neg=>rw [df h2,cf];exact hno fun hh=>h2 hh.2.1
  rw [dt h2,ct]
  by_cases h3:(ls.getD k default).col=c.name
  ·rw [dt h3];exact hyes ⟨h1,h2,h3⟩
  ·rw [df h3];exact hno fun hh=>h3 hh.2.2
theorem oe {b:ac}{nm:List UInt8}{c:aa}(hf:BIG≤fu)(h:am b)(hc:je c):qH fu b nm c=some (fc b nm c):=by
 unfold qH fc
 rw [a8 hf h.sm.ntab,bs]
 by_cases hk:tabN b nm<b.tabs.length
 case neg=>rw [d5 hk,if_neg hk];rfl
 have g:=h.tabT hk
 rw [aK hk,wQ,cf,inR hk,ct,tn,aW,lJ hf g.sm,bs,Cz hf g.ok g.sm hc,bs,if_pos hk]
 unfold od
 have j2t:dW fu b nm c (tabN b nm:Int) (eD (tabT b nm) c).2 (eD (tabT b nm) c).1 true=some (b,8):=rfl
 have j2f:dW fu b nm c (tabN b nm:Int) (eD (tabT b nm) c).2 (eD (tabT b nm) c).1 false=some (if (eD (tabT b nm) c).2≠0 then (b,(eD (tabT b nm) c).2) else (bg b (tabN b nm) (eD (tabT b nm) c).1 nm c,0)):=by
  unfold dW
  rw [cf]
  by_cases hz:(eD (tabT b nm) c).2=0
  case neg=>rw [df hz,if_pos hz];rfl
  rw [dt hz,if_neg (fun hh=>hh hz),aZ hf h.sm,bs,inR hk,tn]
  simp only [Bool.not_true,cf,ct]
  have:=AO (T:=b.tabs.set (tabN b nm) ({ (b.tabs.getD (tabN b nm) default) with table:=(eD (tabT b nm) c).1 }:Tab)) (nm:=nm) (c:=c) (z:=(eD (tabT b nm) c).2) (ls:=b.links) h.sm.nlink b.links.length fu 0 (by omega) (by have:=h.sm.nlink;unfold BIG at hf;omega)
  rw [xC] at this
  refine this.trans ?_
  rw [hz];rfl
 by_cases h1:(eD (tabT b nm) c).2=1
 ·rw [dt h1,if_pos h1]
  simp only [Bool.not_true,cf]
  rw [j2f,if_pos (by rw [h1];decide),h1]
 rw [df h1,if_neg h1]
 simp only [Bool.not_false,ct]
 have hu:qw fu b nm c.name=some (B (bz b nm c.name)):=yk hf h.sm.nlink
 rw [hu,bs]
 have hcase:∀ q:Prop,q→(q∧bz b nm c.name↔bz b nm c.name):=fun q hq=>⟨fun hh=>hh.2,fun hh=>⟨hq,hh⟩⟩
 by_cases k2:c.kind=2
 ·rw [dt k2,ct]
  by_cases hl:bz b nm c.name
  ·rw [B_t hl,if_pos ⟨.inl k2,hl⟩];rfl
  ·rw [B_f hl,if_neg (fun hh=>hl hh.2)];exact j2f
 rw [df k2,cf]
 by_cases k4:c.kind=4
 ·rw [dt k4,ct]
  by_cases hl:bz b nm c.name
  ·rw [B_t hl,if_pos ⟨.inr k4,hl⟩];rfl
  ·rw [B_f hl,if_neg (fun hh=>hl hh.2)];exact j2f
 rw [df k4,cf,if_neg (fun hh=>hh.1.elim k2 k4)]
 exact j2f
theorem yO {b:ac}{nm:List UInt8}{c:aa}(hf:BIG≤fu)(h:SmB b)(hc:je c):wa fu b nm c=some (d4 b nm c):=by
 unfold wa d4
 rw [cP hf h,bs]
 by_cases hk:ah b
 case neg=>rw [B_f hk,if_neg hk];rfl
 rw [B_t hk,if_pos hk]
 simp only [Bool.not_true,cf]
 rw [aZ hf h,bs,oe hf ⟨hk,h⟩ hc,bs,aZ hf (fO ⟨hk,h⟩ hc).sm];rfl
theorem sL {b:ac}{nm:List UInt8}{c:aa}(h:ah b)(k3:c.kind=3)(hl:linkN b nm c.name<b.links.length):b.links.set (linkN b nm c.name) ({ (b.links.getD (linkN b nm c.name) default) with col:=c.new }:aj)=b.links.map (bm nm c):=by
 have hp:=List.findIdx_getElem (w:=hl)
 simp only [Bool.and_eq_true,decide_eq_true_eq] at hp
 have hp':b.links[linkN b nm c.name].from_=nm∧b.links[linkN b nm c.name].col=c.name:=hp
 refine List.ext_getElem (by simp) fun i h1 h2=>?_
 have hi:i<b.links.length:=by simpa using h1
 rw [List.getElem_set,List.getElem_map]
 by_cases e:linkN b nm c.name=i
 ·subst e
  rw [if_pos rfl,ae hl]
  exact (if_pos ⟨k3,hp'⟩).symm
 ·rw [if_neg e]
  refine (if_neg fun hh=>?_).symm
  have hle:linkN b nm c.name≤i:=by
   refine Classical.byContradiction fun hn=>?_
   have:=List.not_of_lt_findIdx (show i<linkN b nm c.name by omega)
   rw [dt hh.2.1,dt hh.2.2] at this
   cases this
  refine (h.links i hi).apart (linkN b nm c.name) (by omega) ?_
  rw [ae hl,ae hi]
  exact ⟨hp'.1.trans hh.2.1.symm,hp'.2.trans hh.2.2.symm⟩
theorem ib {b:ac}{nm:List UInt8}{c:aa}(h:¬ (c.kind=3∧bz b nm c.name)):b.links.map (bm nm c)=b.links:=by
 refine List.ext_getElem (by simp) fun i h1 h2=>?_
 rw [List.getElem_map]
 exact if_neg fun hh=>h ⟨hh.1,i,h2,by rw [ae h2];exact hh.2⟩
theorem yP {b:ac}{nm:List UInt8}{c:aa}(hf:BIG≤fu)(h:SmB b)(hc:je c):wb fu b nm c=some (d4 b nm c):=by
 unfold wb d4 fc
 rw [dZ hf h,bs]
 by_cases hb:ah b
 case neg=>rw [B_f hb,if_neg hb];rfl
 have hB:am b:=⟨hb,h⟩
 rw [B_t hb,if_pos hb]
 simp only [Bool.not_true,cf]
 rw [cO hf h.ntab,bs]
 by_cases hk:tabN b nm<b.tabs.length
 case neg=>rw [d5 hk,if_neg hk,bU hf h];rfl
 have g:=hB.tabT hk
 rw [aK hk,wQ,cf,inR hk,ct,tn,aW,CA hf g.ok g.sm hc,bs,oh hf h.nlink,bs,bU hf h,if_pos hk]
 by_cases h1:(eD (tabT b nm) c).2=1
 ·rw [dt h1,if_pos h1];rfl
 rw [df h1,if_neg h1,cf,nv]
 have j1t:dY fu b c (tabN b nm:Int) (eD (tabT b nm) c) (mc b nm c.name) true=some (b,8):=by
  unfold dY
  rw [bU hf h];rfl
 have j1f:dY fu b c (tabN b nm:Int) (eD (tabT b nm) c) (mc b nm c.name) false=some (if (eD (tabT b nm) c).2≠0 then (b,(eD (tabT b nm) c).2) else (bg b (tabN b nm) (eD (tabT b nm) c).1 nm c,0)):=by
  unfold dY
  rw [cf,bU hf h]
  by_cases hz:(eD (tabT b nm) c).2=0
  case neg=>rw [df hz,if_pos hz];rfl
  rw [dt hz,if_neg (fun hh=>hh hz),bs,bs,inR hk]
  simp only [Bool.not_true,cf,ct]
  unfold kL kK
  rw [nv]
  by_cases k3:c.kind=3
  case neg=>
   rw [df k3,cf,cf]
   unfold bg
   rw [ib fun hh=>k3 hh.1];rfl
  rw [dt k3,ct]
  by_cases hl:bz b nm c.name
  case neg=>
   rw [B_f hl,cf]
   unfold bg
   rw [ib fun hh=>hl hh.2];rfl
  have hlt:=lu.2 hl
  have e:mc b nm c.name=(linkN b nm c.name:Int):=if_pos hlt
  rw [B_t hl,ct,e,ltR hlt,Bool.and_self,ct,tn,tn,sL hb k3 hlt];rfl
 by_cases k2:c.kind=2
 ·rw [dt k2,ct]
  by_cases hl:bz b nm c.name
  ·rw [B_t hl,if_pos ⟨.inl k2,hl⟩];exact j1t
  ·rw [B_f hl,if_neg (fun hh=>hl hh.2)];exact j1f
 rw [df k2,cf]
 by_cases k4:c.kind=4
 ·rw [dt k4,ct]
  by_cases hl:bz b nm c.name
  ·rw [B_t hl,if_pos ⟨.inr k4,hl⟩];exact j1t
  ·rw [B_f hl,if_neg (fun hh=>hl hh.2)];exact j1f
 rw [df k4,cf,if_neg (fun hh=>hh.1.elim k2 k4)]
 exact j1f
end Go.Proofs.YtganfdhmkdehlaaGreatDoor
