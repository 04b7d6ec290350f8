/- Plain laws. -/
import Derived.Test.YtganfdhmkdehlaaGreatDoorQ2008M26
set_option linter.all false
namespace Go.Proofs.YtganfdhmkdehlaaGreatDoor
open Go Go.HL
variable {fu:Nat}
theorem aZ {b:ac}(hf:BIG≤fu)(h:SmB b):c6 fu b=some b:=by
 have hN:=h.ntab
 have hL:=h.nlink
 have key:∀ (m n k:Nat),k+m=b.tabs.length→m<n→gi fu b n (k:Int) ⟨b.tabs.take k,b.links⟩=some b:=by
  intro m
  induction m with
  | zero=>
   intro n k hk hn
   obtain ⟨n,rfl⟩:∃ i,n=i+1:=⟨n-1,by omega⟩
   have:k=b.tabs.length:=by omega
   subst this
   rw [gi,nlt,List.take_length];rfl
  | succ m ih=>
   intro n k hk hn
   obtain ⟨n,rfl⟩:∃ i,n=i+1:=⟨n-1,by omega⟩
   have hkl:k<b.tabs.length:=by omega
   have e1:f42 fu (b.tabs.getD k default).table=some (b.tabs.getD k default).table:=lH hf (h.tabs k hkl)
   rw [gi,inR hkl,ltR hkl,ct,ct,ct,tn,e1,bs,cap (by rw [List.length_take,List.length_singleton];omega),ct,ba hkl (by unfold BIG;omega)]
   have e:(⟨b.tabs.take k++[(⟨(b.tabs.getD k default).name,(b.tabs.getD k default).table⟩:Tab)],b.links⟩:ac)=⟨b.tabs.take (k+1),b.links⟩:=by
    rw [kT (d:=default) hkl]
   rw [e]
   exact ih n (k+1) (by omega) (by omega)
 unfold c6
 rw [cap (by rw [List.length_nil];omega),ct]
 exact key b.tabs.length fu 0 (by omega) (by unfold BIG at hf;omega)
theorem sj {l:List Tab}(h:l.length≤5000):ti l=some l:=by
 unfold ti yu yv
 rw [cap (by rw [List.length_nil];omega)];rfl
theorem sf {l:List ai}(h:l.length≤5000):tf l=some l:=by
 unfold tf yq yr
 rw [cap (by rw [List.length_nil];omega)];rfl
theorem bV {b:ac}(hf:BIG≤fu)(h:SmB b):eD fu b=some b:=by
 have hN:=h.ntab
 have hL:=h.nlink
 have key:∀ (m n k:Nat),k+m=b.tabs.length→m<n→gj fu b b.links n (k:Int) b.tabs=some b:=by
  intro m
  induction m with
  | zero=>
   intro n k hk hn
   obtain ⟨n,rfl⟩:∃ i,n=i+1:=⟨n-1,by omega⟩
   have:k=b.tabs.length:=by omega
   subst this
   rw [gj,nlt];rfl
  | succ m ih=>
   intro n k hk hn
   obtain ⟨n,rfl⟩:∃ i,n=i+1:=⟨n-1,by omega⟩
   have hkl:k<b.tabs.length:=by omega
   have e1:f80 fu (b.tabs.getD k default).table=some (b.tabs.getD k default).table:=cY hf (h.tabs k hkl)
   rw [gj,inR hkl,ltR hkl,ct,ct,tn,e1,bs,ct,ba hkl (by unfold BIG;omega)]
   have e:b.tabs.set k { (b.tabs.getD k default) with table:=(b.tabs.getD k default).table } = b.tabs:=nf hkl
   rw [e]
   exact ih n (k+1) (by omega) (by omega)
 unfold eD oe
 rw [sj (by omega),bs,sf (by omega),bs]
 exact key b.tabs.length fu 0 (by omega) (by unfold BIG at hf;omega)
theorem yd {b:ac}(hf:BIG≤fu)(h:fU b)(hl:∀ i,i<b.links.length→ar b (b.links.getD i default)):s7 fu b=some (B (y3 b)):=by
 have hN:=h.sm.nlink
 unfold s7
 have hp:y3 b↔((∀ i,i<b.links.length→ao b (b.links.getD i default))∧True):=⟨fun h=>⟨h,trivial⟩,fun h=>h.1⟩
 rw [ak hp]
 refine eP (L:=eZ fu b) _ _ (by unfold BIG;omega) (fun n _=>?_) (fun n h=>absurd trivial h) (fun n k hk hp=>?_) (fun n k hk hp=>?_) (by unfold BIG at hf;omega)
 ·rw [eZ,nlt];rfl
 ·rw [eZ,ltR hk,ct,ge0,Bool.and_self,ct,tn,kG hf h (hl k hk),bs,B_t hp];rfl
 ·rw [eZ,ltR hk,ct,ge0,Bool.and_self,ct,tn,kG hf h (hl k hk),bs,B_f hp];rfl
theorem yg {b:ac}(hf:BIG≤fu)(h:fU b)(hl:∀ i,i<b.links.length→ar b (b.links.getD i default)):tb fu b=some (B (y3 b)):=by
 have hN:=h.sm.nlink
 unfold tb ye tc
 have e0:∀ k,k<b.links.length→qp fu (b.links.getD k default) b=some (!B (ao b (b.links.getD k default))):=fun k hk=>by
  unfold qp
  rw [od hf h (hl k hk)];rfl
 have e1:=ll (L:=bS b.links fun x0=>qp fu x0 b) b.links (fun l=>!B (ao b l)) (by unfold BIG;omega) (fun n=>by rw [bS,nlt];rfl)
  (fun n k hk hp=>by rw [bS,ltR hk,ct,ge0,Bool.and_self,ct,tn,e0 k hk,ae hk,hp];rfl)
  (fun n k hk hp=>by rw [bS,ltR hk,ct,ge0,Bool.and_self,ct,tn,e0 k hk,ae hk,hp];rfl) (fu:=fu) (by unfold BIG at hf;omega)
 rw [e1,bs,bs]
 congr 1
 by_cases hh:y3 b
 ·have:¬ (b.links.findIdx fun l=>!B (ao b l))<b.links.length:=fun hlt=>by
   have:=List.findIdx_getElem (w:=hlt)
   have g:=hh _ hlt
   rw [ae hlt] at g
   rw [B_t g] at this
   cases this
  rw [if_neg this,B_t hh];rfl
 ·have:(b.links.findIdx fun l=>!B (ao b l))<b.links.length:=by
   obtain ⟨i,hi⟩:=Classical.not_forall.1 hh
   obtain ⟨hi,hn⟩:=Classical.not_imp.1 hi
   exact List.findIdx_lt_length_of_exists ⟨_,getD_mem (d:=(default:ai)) hi,by rw [B_f hn];rfl⟩
  rw [if_pos this,ge0,B_f hh];rfl
theorem re {b:ac}{k:Nat}{t:ab}(h:al b)(hk:k<b.tabs.length)(ht:or t):fU (aV b k t):=
 ⟨fun i hi=>by
  rw [bC] at hi
  rw [setTab_tabK hk]
  split
  ·exact ht.ok
  ·exact (h.ok.tabs i hi).ok,fB h.sm hk ht.sm⟩
theorem kX {b:ac}{k:Nat}{t:ab}(h:al b)(hk:k<b.tabs.length)(hs:lastS t=lastS (cz b k)):∀ i,i < (aV b k t).links.length→ar (aV b k t) ((aV b k t).links.getD i default):=fun i hi=>
 (kW hk hs).fits (h.ok.links i hi).fits
theorem sb {b:ac}{k:Nat}{t:ab}{c:Int}(hf:BIG≤fu)(h:al b)(hk:k<b.tabs.length)(ht:or t)(hs:lastS t=lastS (cz b k)):ta fu b (k:Int) t c=some (dq b k (t,c)):=by
 unfold ta dq
 by_cases hc:c=0
 case neg=>rw [df hc,if_pos hc];rfl
 rw [dt hc,if_neg (fun hh=>hh hc)]
 simp only [Bool.not_true,cf]
 rw [aZ hf h.sm,bs,inR hk,ct,tn]
 show (s7 fu (aV b k t)).bind _=_
 rw [yd hf (re h hk ht) (kX h hk hs),bs]
 by_cases hh:y3 (aV b k t)
 ·rw [B_t hh,if_pos hh,hc];rfl
 ·rw [B_f hh,if_neg hh];rfl
theorem n7 {b:ac}{nm:List UInt8}{xs:List Set}(hf:BIG≤fu)(h:al b)(hx:SmX xs):qA fu b nm xs=some (xm b nm xs):=by
 unfold qA xm
 rw [a8 hf h.sm.ntab,bs]
 by_cases hk:tabN b nm<b.tabs.length
 case neg=>rw [d8 hk,if_neg hk];rfl
 have g:=h.tabT hk
 rw [aG hk,ul,cf,inR hk,ct,tn,aP,lH hf g.sm,bs,Cu hf g.ok g.sm hx,bs,sb hf h hk ⟨pZ g.ok,pY g.ok g.sm hx⟩ (k7 _ _),if_pos hk];rfl
theorem n8 {b:ac}{nm:List UInt8}{id:Int}{xs:List Set}(hf:BIG≤fu)(h:al b)(hx:SmX xs):qB fu b nm id xs=some (xd b nm id xs):=by
 unfold qB xd
 rw [a8 hf h.sm.ntab,bs]
 by_cases hk:tabN b nm<b.tabs.length
 case neg=>rw [d8 hk,if_neg hk];rfl
 have g:=h.tabT hk
 rw [aG hk,ul,cf,inR hk,ct,tn,aP,lH hf g.sm,bs,zt hf g.ok g.sm hx,bs,sb hf h hk ⟨pS g.ok,setT_sm g.ok g.sm hx⟩ (kY _ _ _),if_pos hk];rfl
theorem yD {b:ac}{nm:List UInt8}{xs:List Set}(hf:BIG≤fu)(h:SmB b)(hx:SmX xs):vT fu b nm xs=some (oM b nm xs):=by
 unfold vT oM
 rw [cQ hf h,bs]
 by_cases hk:ah b
 case neg=>rw [B_f hk,if_neg hk];rfl
 rw [B_t hk,if_pos hk]
 simp only [Bool.not_true,cf]
 rw [aZ hf h,bs,n7 hf ⟨hk,h⟩ hx];rfl
theorem yF {b:ac}{nm:List UInt8}{id:Int}{xs:List Set}(hf:BIG≤fu)(h:SmB b)(hx:SmX xs):vV fu b nm id xs=some (oI b nm id xs):=by
 unfold vV oI
 rw [cQ hf h,bs]
 by_cases hk:ah b
 case neg=>rw [B_f hk,if_neg hk];rfl
 rw [B_t hk,if_pos hk]
 simp only [Bool.not_true,cf]
 rw [aZ hf h,bs,n8 hf ⟨hk,h⟩ hx];rfl
theorem se {b:ac}{nm:List UInt8}{f:ab→Option (ab×Int)}{g:ab→ab×Int}(hf:BIG≤fu)(h:SmB b)(hg:∀ t,or t→f t=some (g t))(hok:∀ t,or t→or (g t).1)(hl:∀ t,lastS (g t).1=lastS t) :
     td fu b nm f=some (@ite _ (ah b) (Classical.propDecidable _) (if tabN b nm<b.tabs.length then dq b (tabN b nm) (g (tabT b nm)) else (b,5)) (nilB,1)):=by
 unfold td
 rw [d5 hf h,bs]
 by_cases hb:ah b
 case neg=>rw [B_f hb,if_neg hb];rfl
 have hB:al b:=⟨hb,h⟩
 rw [B_t hb,if_pos hb]
 simp only [Bool.not_true,cf]
 rw [cP hf h.ntab,bs]
 by_cases hk:tabN b nm<b.tabs.length
 case neg=>rw [d8 hk,if_neg hk,bV hf h];rfl
 have gt:=hB.tabT hk
 rw [aG hk,ul,cf,inR hk,ct,tn,aP,hg _ gt,bs,bV hf h,if_pos hk]
 unfold dq
 by_cases hc:(g (tabT b nm)).2=0
 case neg=>rw [df hc,if_pos hc];rfl
 rw [dt hc,if_neg (fun hh=>hh hc)]
 simp only [Bool.not_true,cf,bs]
 rw [inR hk,ct]
 show (tb fu (aV b (tabN b nm) (g (tabT b nm)).1)).bind _=_
 rw [yg hf (re hB hk (hok _ gt)) (kX hB hk (hl _)),bs]
 by_cases hh:y3 (aV b (tabN b nm) (g (tabT b nm)).1)
 ·rw [B_t hh,if_pos hh];rfl
 ·rw [B_f hh,if_neg hh];rfl
theorem yE {b:ac}{nm:List UInt8}{xs:List Set}(hf:BIG≤fu)(h:SmB b)(hx:SmX xs):vU fu b nm xs=some (oM b nm xs):=by
 unfold vU oM xm
 rw [se hf h (g:=fun t=>p0 t xs) (fun t ht=>by unfold vL;rw [Cv hf ht.ok ht.sm hx];rfl) (fun t ht=>⟨pZ ht.ok,pY ht.ok ht.sm hx⟩) (fun t=>k7 _ _)];rfl
theorem yG {b:ac}{nm:List UInt8}{id:Int}{xs:List Set}(hf:BIG≤fu)(h:SmB b)(hx:SmX xs):vW fu b nm id xs=some (oI b nm id xs):=by
 unfold vW oI xd
 rw [se hf h (g:=fun t=>oq t id xs) (fun t ht=>by unfold vM;rw [zu hf ht.ok ht.sm hx];rfl) (fun t ht=>⟨pS ht.ok,setT_sm ht.ok ht.sm hx⟩) (fun t=>kY _ _ _)];rfl
theorem nW {s:List Col}(hf:BIG≤fu)(h:aj s):Ay fu s=some (BU s):=by
 have hhi:=h.hi
 unfold Ay
 rw [lA hf h.sm,B_t h,bs]
 simp only [Bool.not_true,cf]
 rw [cap (by rw [List.length_nil];omega)];rfl
theorem we {s:List Col}(hf:BIG≤fu)(h:aj s):wg fu s=some (BU s):=by
 have hhi:=h.hi
 unfold wg
 rw [mP hf h.sm,B_t h,bs]
 simp only [Bool.not_true,cf]
 rw [mG (by omega)];rfl
theorem eJ {b:ac}{nm:List UInt8}:decide (0≤l9 b nm)=B (tabN b nm<b.tabs.length):=by
 by_cases h:tabN b nm<b.tabs.length
 ·rw [aG h,ge0,B_t h]
 ·rw [d8 h,B_f h];rfl
theorem jc {b:ac}{nm:List UInt8}{s:List Col}(hf:BIG≤fu)(h:SmB b)(hn:nm.length≤1000)(hs:SmS s):mf fu b nm s=some (tableBB b nm s):=by
 have hN:=h.ntab
 unfold mf tableBB mp
 rw [cQ hf h,bs]
 by_cases hb:ah b
 case neg=>rw [B_f hb,if_neg hb];rfl
 have h3:=hb.ntab
 rw [B_t hb,if_pos hb]
 simp only [Bool.not_true,cf]
 rw [aZ hf h,bs,d9 hf hn,bs]
 unfold jb
 by_cases h1:am nm
 case neg=>rw [B_f h1,if_pos (.inl h1)];rfl
 rw [B_t h1]
 simp only [Bool.not_true,cf]
 rw [lA hf hs,bs]
 by_cases h2:aj s
 case neg=>rw [B_f h2,if_pos (.inr (.inr h2))];rfl
 rw [B_t h2]
 simp only [Bool.not_true,cf]
 rw [a8 hf hN,bs,eJ]
 by_cases hk:tabN b nm<b.tabs.length
 ·rw [B_t hk,if_pos (.inr (.inl hk))];rfl
 rw [B_f hk,if_neg (fun hh=>hh.elim (fun g=>g h1) fun hh=>hh.elim hk fun g=>g h2),cf]
 by_cases hl:b.tabs.length=3
 ·rw [dt (show (3:Int)≤(b.tabs.length:Int) by omega),if_pos hl];rfl
 ·rw [df (show ¬ (3:Int)≤(b.tabs.length:Int) by omega),if_neg hl,cf,nW hf h2,bs,cap (by rw [List.length_singleton];omega)];rfl
theorem yN {b:ac}{nm:List UInt8}{s:List Col}(hf:BIG≤fu)(h:SmB b)(hn:nm.length≤1000)(hs:SmS s):wh fu b nm s=some (tableBB b nm s):=by
 have hN:=h.ntab
 unfold wh tableBB mp
 rw [d5 hf h,bs]
 by_cases hb:ah b
 case neg=>rw [B_f hb,if_neg hb];rfl
 have h3:=hb.ntab
 rw [B_t hb,if_pos hb]
 simp only [Bool.not_true,cf]
 rw [bV hf h,bs,ef hf hn,bs]
 unfold jd
 by_cases h1:am nm
 case neg=>rw [B_f h1,if_pos (.inl h1)];rfl
 rw [B_t h1]
 simp only [Bool.not_true,cf]
 rw [cP hf hN,bs,eJ]
 by_cases hk:tabN b nm<b.tabs.length
 ·rw [B_t hk,if_pos (.inr (.inl hk))];rfl
 rw [B_f hk,cf,mP hf hs,bs]
 by_cases h2:aj s
 case neg=>rw [B_f h2,if_pos (.inr (.inr h2))];rfl
 rw [B_t h2,if_neg (fun hh=>hh.elim (fun g=>g h1) fun hh=>hh.elim hk fun g=>g h2)]
 simp only [Bool.not_true,cf]
 by_cases hl:b.tabs.length=3
 ·rw [dt (show (b.tabs.length:Int)=3 by omega),if_pos hl];rfl
 ·rw [df (show ¬ (b.tabs.length:Int)=3 by omega),if_neg hl,cf,we hf h2,bs,cap (by rw [List.length_singleton];omega),ct,sj (by simp;omega)];rfl
theorem kN {b:ac}{l:ai}(hf:BIG≤fu)(h:SmB b):po fu b l=some (linkBB b l):=by
 have hN:=h.ntab
 have hL:=h.nlink
 unfold po linkBB sS
 rw [cQ hf h,bs]
 by_cases hb:ah b
 case neg=>rw [B_f hb,if_neg hb];rfl
 have hB:al b:=⟨hb,h⟩
 rw [B_t hb,if_pos hb]
 simp only [Bool.not_true,cf]
 rw [aZ hf h,bs,cap (by rw [List.length_singleton];omega),ct,si hf hB.g,bs]
 unfold kM
 rw [aZ hf h]
 by_cases h1:ar b l
 case neg=>rw [B_f h1,if_pos (.inl h1)];rfl
 rw [B_t h1]
 simp only [Bool.not_true,cf]
 have e1:IntKind.i64.wrap ((List.length ((⟨b.tabs,b.links++([l]:List ai)⟩:ac).links):Int)-1)=(b.links.length:Int):=by
  have:List.length ((⟨b.tabs,b.links++([l]:List ai)⟩:ac).links)=b.links.length+1:=by simp
  rw [this,bm (by omega) (by omega)];omega
 rw [e1]
 show (qM fu (dD b l) (b.links.length:Int)).bind _=_
 rw [sh hf (by rw [addLink_len];have:=hb.nlink;omega) (by rw [addLink_len];omega),bs]
 have e2:c7 (dD b l) b.links.length↔¬ bA b l.from_ l.col:=by
  constructor
  ·rintro g ⟨k,hk,h1,h2⟩
   have:=g k hk
   rw [addLink_new,dC hk] at this
   exact this ⟨h1,h2⟩
  ·intro g k hk
   rw [addLink_new,dC hk]
   exact fun hh=>g ⟨k,hk,hh.1,hh.2⟩
 rw [ak e2]
 by_cases h2:bA b l.from_ l.col
 ·rw [B_f (show ¬ ¬ bA b l.from_ l.col from fun hh=>hh h2),if_pos (.inr h2)];rfl
 rw [B_t h2,if_neg (fun hh=>hh.elim (fun g=>g h1) h2)]
 simp only [Bool.not_true,cf]
 rw [kG hf hB.g h1,bs]
 by_cases h3:ao b l
 case neg=>rw [B_f h3,if_pos h3];rfl
 rw [B_t h3,if_neg (fun hh=>hh h3)]
 simp only [Bool.not_true,cf]
 have h4:=hb.nlink
 by_cases hl:b.links.length=4
 ·rw [dt (show (4:Int)≤(b.links.length:Int) by omega),if_pos hl];rfl
 ·rw [df (show ¬ (4:Int)≤(b.links.length:Int) by omega),if_neg hl];rfl
theorem yM {b:ac}{l:ai}(hf:BIG≤fu)(h:SmB b):wd fu b l=some (linkBB b l):=by
 have hN:=h.ntab
 have hL:=h.nlink
 unfold wd linkBB sS
 rw [d5 hf h,bs]
 by_cases hb:ah b
 case neg=>rw [B_f hb,if_neg hb];rfl
 have hB:al b:=⟨hb,h⟩
 rw [B_t hb,if_pos hb]
 simp only [Bool.not_true,cf]
 rw [bV hf h,bs,sg hf hB.g,bs]
 unfold kP
 by_cases h1:ar b l
 case neg=>rw [B_f h1,if_pos (.inl h1)];rfl
 rw [B_t h1]
 simp only [Bool.not_true,cf]
 rw [oc hf hL,bs,np]
 by_cases h2:bA b l.from_ l.col
 ·rw [B_t h2,if_pos (.inr h2)];rfl
 rw [B_f h2,if_neg (fun hh=>hh.elim (fun g=>g h1) h2),cf,od hf hB.g h1,bs]
 by_cases h3:ao b l
 case neg=>rw [B_f h3,if_pos h3];rfl
 rw [B_t h3,if_neg (fun hh=>hh h3)]
 simp only [Bool.not_true,cf]
 have h4:=hb.nlink
 by_cases hl:b.links.length=4
 ·rw [dt (show (b.links.length:Int)=4 by omega),if_pos hl];rfl
 ·rw [df (show ¬ (b.links.length:Int)=4 by omega),if_neg hl,cf,cap (by rw [List.length_singleton];omega),ct,sf (by simp;omega)];rfl
theorem xF {p:Prop}:@ite _ p (Classical.propDecidable _) (some true) (some false)=some (B p):=by
 by_cases h:p
 ·rw [if_pos h,B_t h]
 ·rw [if_neg h,B_f h]
theorem yh {b:ac}{nm col:List UInt8}(hf:BIG≤fu)(h:b.links.length≤1000):qq fu b nm col=some (B (bA b nm col)):=by
 unfold qq
 have step:∀ n (k:Nat),k<b.links.length→cJ b nm col (n+1) (k:Int)=kr (k:Int) (cJ b nm col n) (B ((b.links.getD k default).from_=nm∧(b.links.getD k default).col=col)):=fun n k hk=>by
  rw [cJ,ltR hk,ct,ge0,Bool.and_self,ct,tn,ct,cb,bN,bN]
  cases B ((b.links.getD k default).from_=nm)<;>rfl
 rw [← xF]
 refine gv (L:=cJ b nm col) (fun k=>(b.links.getD k default).from_=nm∧(b.links.getD k default).col=col) _ _ (by unfold BIG;omega) (fun n=>?_) (fun n k hk hp=>?_) (fun n k hk hp=>?_) (by unfold BIG at hf;omega)
 ·rw [cJ,nlt];rfl
 ·rw [step n k hk,B_t hp];rfl
 ·rw [step n k hk,B_f hp];rfl
def mid {α:Type}(f:α→α)(l:List α)(k:Nat):List α:=(l.take k).map f++l.drop k
theorem xx {α:Type}(f:α→α)(l:List α):mid f l 0=l:=rfl
theorem Ab {α:Type}(f:α→α)(l:List α):mid f l l.length=l.map f:=by
 unfold mid
 rw [List.take_length,List.drop_length,List.append_nil]
theorem qc {α:Type}(f:α→α)(l:List α){k:Nat}(hk:k≤l.length):(mid f l k).length=l.length:=by unfold mid;simp;omega
theorem uo {α:Type}{f:α→α}{l:List α}{d:α}{k:Nat}(hk:k<l.length):(mid f l k).getD k d=l.getD k d:=by
 unfold mid
 rw [List.getD_eq_getElem?_getD,List.getElem?_append_right (by simp;omega),List.getD_eq_getElem?_getD]
 have:k - ((l.take k).map f).length=0:=by simp;omega
 rw [this,List.getElem?_drop,Nat.add_zero]
theorem un {α:Type}{f:α→α}{l:List α}{d:α}{k:Nat}(hk:k<l.length):(mid f l k).set k (f (l.getD k d))=mid f l (k+1):=by
 unfold mid
 rw [List.set_append_right _ _ (by simp;omega)]
 have:k - ((l.take k).map f).length=0:=by simp;omega
 rw [this,kT (d:=d) hk,List.map_append,mg (d:=d) hk,List.append_assoc];rfl
theorem xy {α:Type}{f:α→α}{l:List α}{d:α}{k:Nat}(hk:k<l.length)(h:f (l.getD k d)=l.getD k d):mid f l k=mid f l (k+1):=by
 rw [← un (d:=d) hk,h,← uo (f:=f) (d:=d) hk,nf (by rw [qc f l (by omega)];exact hk)]
theorem AG {T:List Tab}{nm:List UInt8}{c:aa}{z:Int}{ls:List ai}(hl:ls.length≤1000):∀ (m n k:Nat),k+m=ls.length→m<n→bT nm c z n (k:Int) T (mid (bn nm c) ls k)=some (⟨T,ls.map (bn nm c)⟩,z):=by
 intro m
 induction m with
 | zero=>
  intro n k hk hn
  obtain ⟨n,rfl⟩:∃ i,n=i+1:=⟨n-1,by omega⟩
  have:k=ls.length:=by omega
  subst this
  rw [bT,qc _ _ (Nat.le_refl _),nlt,cf,Ab]
 | succ m ih=>
  intro n k hk hn
  obtain ⟨n,rfl⟩:∃ i,n=i+1:=⟨n-1,by omega⟩
  have hkl:k<ls.length:=by omega
  have hml:=qc (bn nm c) ls (show k≤ls.length by omega)
  have hg:=uo (f:=bn nm c) (d:=(default:ai)) hkl
  have hs:=ba hkl (show ls.length≤BIG by unfold BIG;omega)
  have go:=ih n (k+1) (by omega) (by omega)
  have hyes:c.kind=3∧(ls.getD k default).from_=nm∧(ls.getD k default).col=c.name→dY c (k:Int) T (mid (bn nm c) ls k) (bT nm c z n) true=some (⟨T,ls.map (bn nm c)⟩,z):=fun hh=>by
   unfold dY iQ
   rw [ct,hml,inR hkl,ct,tn,hg]
   simp only [hs]
   have e:({ (ls.getD k default) with col:=c.new }:ai)=bn nm c (ls.getD k default):=(if_pos hh).symm
   rw [e,un hkl];exact go
  have hno:¬ (c.kind=3∧(ls.getD k default).from_=nm∧(ls.getD k default).col=c.name)→dY c (k:Int) T (mid (bn nm c) ls k) (bT nm c z n) false=some (⟨T,ls.map (bn nm c)⟩,z):=fun hh=>by
   unfold dY iQ
   rw [cf]
   simp only [hs]
   have e:bn nm c (ls.getD k default)=ls.getD k default:=if_neg hh
   rw [xy (d:=(default:ai)) hkl e];exact go
  rw [bT,hml,ltR hkl,ct,ge0,Bool.and_self,ct,tn,hg]
  by_cases h1:c.kind=3
  case neg=>rw [df h1,cf];exact hno fun hh=>h1 hh.1
  rw [dt h1,ct]
  by_cases h2:(ls.getD k default).from_=nm
  case neg=>rw [df h2,cf];exact hno fun hh=>h2 hh.2.1
  rw [dt h2,ct]
  by_cases h3:(ls.getD k default).col=c.name
  ·rw [dt h3];exact hyes ⟨h1,h2,h3⟩
  ·rw [df h3];exact hno fun hh=>h3 hh.2.2
theorem oa {b:ac}{nm:List UInt8}{c:aa}(hf:BIG≤fu)(h:al b)(hc:jj c):qC fu b nm c=some (fg b nm c):=by
 unfold qC fg
 rw [a8 hf h.sm.ntab,bs]
 by_cases hk:tabN b nm<b.tabs.length
 case neg=>rw [d8 hk,if_neg hk];rfl
 have g:=h.tabT hk
 rw [aG hk,ul,cf,inR hk,ct,tn,aP,lH hf g.sm,bs,Cs hf g.ok g.sm hc,bs,if_pos hk]
 unfold n9
 have j2t:dZ fu b nm c (tabN b nm:Int) (eE (tabT b nm) c).2 (eE (tabT b nm) c).1 true=some (b,8):=rfl
 have j2f:dZ fu b nm c (tabN b nm:Int) (eE (tabT b nm) c).2 (eE (tabT b nm) c).1 false=some (if (eE (tabT b nm) c).2≠0 then (b,(eE (tabT b nm) c).2) else (bh b (tabN b nm) (eE (tabT b nm) c).1 nm c,0)):=by
  unfold dZ
  rw [cf]
  by_cases hz:(eE (tabT b nm) c).2=0
  case neg=>rw [df hz,if_pos hz];rfl
  rw [dt hz,if_neg (fun hh=>hh hz),aZ hf h.sm,bs,inR hk,tn]
  simp only [Bool.not_true,cf,ct]
  have:=AG (T:=b.tabs.set (tabN b nm) ({ (b.tabs.getD (tabN b nm) default) with table:=(eE (tabT b nm) c).1 }:Tab)) (nm:=nm) (c:=c) (z:=(eE (tabT b nm) c).2) (ls:=b.links) h.sm.nlink b.links.length fu 0 (by omega) (by have:=h.sm.nlink;unfold BIG at hf;omega)
  rw [xx] at this
  refine this.trans ?_
  rw [hz];rfl
 by_cases h1:(eE (tabT b nm) c).2=1
 ·rw [dt h1,if_pos h1]
  simp only [Bool.not_true,cf]
  rw [j2f,if_pos (by rw [h1];decide),h1]
 rw [df h1,if_neg h1]
 simp only [Bool.not_false,ct]
 have hu:qq fu b nm c.name=some (B (bA b nm c.name)):=yh hf h.sm.nlink
 rw [hu,bs]
 have hcase:∀ q:Prop,q→(q∧bA b nm c.name↔bA b nm c.name):=fun q hq=>⟨fun hh=>hh.2,fun hh=>⟨hq,hh⟩⟩
 by_cases k2:c.kind=2
 ·rw [dt k2,ct]
  by_cases hl:bA b nm c.name
  ·rw [B_t hl,if_pos ⟨.inl k2,hl⟩];rfl
  ·rw [B_f hl,if_neg (fun hh=>hl hh.2)];exact j2f
 rw [df k2,cf]
 by_cases k4:c.kind=4
 ·rw [dt k4,ct]
  by_cases hl:bA b nm c.name
  ·rw [B_t hl,if_pos ⟨.inr k4,hl⟩];rfl
  ·rw [B_f hl,if_neg (fun hh=>hl hh.2)];exact j2f
 rw [df k4,cf,if_neg (fun hh=>hh.1.elim k2 k4)]
 exact j2f
theorem yH {b:ac}{nm:List UInt8}{c:aa}(hf:BIG≤fu)(h:SmB b)(hc:jj c):vX fu b nm c=some (d7 b nm c):=by
 unfold vX d7
 rw [cQ hf h,bs]
 by_cases hk:ah b
 case neg=>rw [B_f hk,if_neg hk];rfl
 rw [B_t hk,if_pos hk]
 simp only [Bool.not_true,cf]
 rw [aZ hf h,bs,oa hf ⟨hk,h⟩ hc,bs,aZ hf (fS ⟨hk,h⟩ hc).sm];rfl
theorem sC {b:ac}{nm:List UInt8}{c:aa}(h:ah b)(k3:c.kind=3)(hl:linkN b nm c.name<b.links.length):b.links.set (linkN b nm c.name) ({ (b.links.getD (linkN b nm c.name) default) with col:=c.new }:ai)=b.links.map (bn nm c):=by
 have hp:=List.findIdx_getElem (w:=hl)
 simp only [Bool.and_eq_true,decide_eq_true_eq] at hp
 have hp':b.links[linkN b nm c.name].from_=nm∧b.links[linkN b nm c.name].col=c.name:=hp
 refine List.ext_getElem (by simp) fun i h1 h2=>?_
 have hi:i<b.links.length:=by simpa using h1
 rw [List.getElem_set,List.getElem_map]
 by_cases e:linkN b nm c.name=i
 ·subst e
  rw [if_pos rfl,ae hl]
  exact (if_pos ⟨k3,hp'⟩).symm
 ·rw [if_neg e]
  refine (if_neg fun hh=>?_).symm
  have hle:linkN b nm c.name≤i:=by
   refine Classical.byContradiction fun hn=>?_
   have:=List.not_of_lt_findIdx (show i<linkN b nm c.name by omega)
   rw [dt hh.2.1,dt hh.2.2] at this
   cases this
  refine (h.links i hi).apart (linkN b nm c.name) (by omega) ?_
  rw [ae hl,ae hi]
  exact ⟨hp'.1.trans hh.2.1.symm,hp'.2.trans hh.2.2.symm⟩
theorem ij {b:ac}{nm:List UInt8}{c:aa}(h:¬ (c.kind=3∧bA b nm c.name)):b.links.map (bn nm c)=b.links:=by
 refine List.ext_getElem (by simp) fun i h1 h2=>?_
 rw [List.getElem_map]
 exact if_neg fun hh=>h ⟨hh.1,i,h2,by rw [ae h2];exact hh.2⟩
theorem yI {b:ac}{nm:List UInt8}{c:aa}(hf:BIG≤fu)(h:SmB b)(hc:jj c):vY fu b nm c=some (d7 b nm c):=by
 unfold vY d7 fg
 rw [d5 hf h,bs]
 by_cases hb:ah b
 case neg=>rw [B_f hb,if_neg hb];rfl
 have hB:al b:=⟨hb,h⟩
 rw [B_t hb,if_pos hb]
 simp only [Bool.not_true,cf]
 rw [cP hf h.ntab,bs]
 by_cases hk:tabN b nm<b.tabs.length
 case neg=>rw [d8 hk,if_neg hk,bV hf h];rfl
 have g:=hB.tabT hk
 rw [aG hk,ul,cf,inR hk,ct,tn,aP,Ct hf g.ok g.sm hc,bs,oc hf h.nlink,bs,bV hf h,if_pos hk]
 by_cases h1:(eE (tabT b nm) c).2=1
 ·rw [dt h1,if_pos h1];rfl
 rw [df h1,if_neg h1,cf,np]
 have j1t:d4 fu b c (tabN b nm:Int) (eE (tabT b nm) c) (mb b nm c.name) true=some (b,8):=by
  unfold d4
  rw [bV hf h];rfl
 have j1f:d4 fu b c (tabN b nm:Int) (eE (tabT b nm) c) (mb b nm c.name) false=some (if (eE (tabT b nm) c).2≠0 then (b,(eE (tabT b nm) c).2) else (bh b (tabN b nm) (eE (tabT b nm) c).1 nm c,0)):=by
  unfold d4
  rw [cf,bV hf h]
  by_cases hz:(eE (tabT b nm) c).2=0
  case neg=>rw [df hz,if_pos hz];rfl
  rw [dt hz,if_neg (fun hh=>hh hz),bs,bs,inR hk]
  simp only [Bool.not_true,cf,ct]
  unfold kJ kI
  rw [np]
  by_cases k3:c.kind=3
  case neg=>
   rw [df k3,cf,cf]
   unfold bh
   rw [ij fun hh=>k3 hh.1];rfl
  rw [dt k3,ct]
  by_cases hl:bA b nm c.name
  case neg=>
   rw [B_f hl,cf]
   unfold bh
   rw [ij fun hh=>hl hh.2];rfl
  have hlt:=ln.2 hl
  have e:mb b nm c.name=(linkN b nm c.name:Int):=if_pos hlt
  rw [B_t hl,ct,e,ltR hlt,Bool.and_self,ct,tn,tn,sC hb k3 hlt];rfl
 by_cases k2:c.kind=2
 ·rw [dt k2,ct]
  by_cases hl:bA b nm c.name
  ·rw [B_t hl,if_pos ⟨.inl k2,hl⟩];exact j1t
  ·rw [B_f hl,if_neg (fun hh=>hl hh.2)];exact j1f
 rw [df k2,cf]
 by_cases k4:c.kind=4
 ·rw [dt k4,ct]
  by_cases hl:bA b nm c.name
  ·rw [B_t hl,if_pos ⟨.inr k4,hl⟩];exact j1t
  ·rw [B_f hl,if_neg (fun hh=>hl hh.2)];exact j1f
 rw [df k4,cf,if_neg (fun hh=>hh.1.elim k2 k4)]
 exact j1f
end Go.Proofs.YtganfdhmkdehlaaGreatDoor
