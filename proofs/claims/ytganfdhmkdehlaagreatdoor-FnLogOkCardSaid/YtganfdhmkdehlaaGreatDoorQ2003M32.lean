/- What is drawn: bases. Nothing fails, and all is small. -/
import Derived.Test.YtganfdhmkdehlaaGreatDoorQ2003M30
set_option linter.all false
namespace Go.Proofs.YtganfdhmkdehlaaGreatDoor
open Go Go.HL
variable {fu:Nat}
theorem Cr:@f62a=@f62:=by
 have h:∀ fu s n,f62a_l1 fu s n=dk fu s n:=fun fu s n=>by
  induction n with
  | zero=>rfl
  | succ n ih=>funext i x r;rw [f62a_l1,dk,ih];rfl
 funext fu r s
 unfold f62a f62
 rw [h]
theorem o108:@f108o=@f108:=by
 have h:∀ t id n i,f108o_l1 t id n i=gu t id n i:=fun t id n=>by
  induction n with
  | zero=>intro i;rfl
  | succ n ih=>intro i;rw [f108o_l1,gu,ih]
 funext fu t id
 unfold f108o f108
 rw [h]
theorem o125a:@f125a=@f125:=by
 have h:∀ fu n,f125a_l1 fu n=dR fu n:=fun fu n=>by
  induction n with
  | zero=>rfl
  | succ n ih=>funext i x r;rw [f125a_l1,dR,ih,o108];rfl
 funext fu r
 unfold f125a f125
 simp only [h]
theorem d1170 {r:Rd}{m:Nat}(hf:BIG≤fu)(h:cx r m)(hm:m≤700000):aI (sa fu r) (fun s=>SmS s∧s.length≤900) (m+30):=by
 unfold sa nl
 rw [o125a]
 refine (Cd hf h (by omega)).bind fun s r1 hs hr1=>?_
 have hlo:=hs.lo
 have hhi:=hs.hi
 have e:(decide (0≤(1:Int))&&decide ((1:Int)≤(List.length s:Int)))=true:=by simp;omega
 simp only [e,ct]
 refine (d74 hr1 (by omega)).bind fun q r2 hq hr2=>?_
 simp only
 rw [cap (by rw [List.length_take,List.length_singleton];omega),ct]
 refine .pure ⟨⟨by simp;omega,fun c hc=>?_⟩,by rw [List.length_append,List.length_take,List.length_singleton];omega⟩ (hr2.mono (by omega))
 rcases List.mem_append.1 hc with hc|hc
 ·exact hs.sm.all c (List.mem_of_mem_take hc)
 ·simp only [List.mem_singleton] at hc
  subst hc
  exact ⟨by show ([107]:List UInt8).length≤1000;decide,nul_ok.sm⟩
structure SmL (l:aj):Prop where
 src:l.from_.length≤1000
 col:l.col.length≤1000
 dst:l.to.length≤1000
theorem BU {r:Rd}{b:ac}{m:Nat}(hf:BIG≤fu)(h:cx r m)(hm:m≤700000)(hb:fA b):aI (uE fu r b) SmL (m+10):=by
 have h3:∀ (l:aj) (r':Rd),cx r' (m+7)→SmL l→aI (ir fu l r') SmL (m+10):=fun l r' hr' hsl=>by
  unfold ir j4
  refine (d74 hr' (by omega)).bind fun q r2 hq hr2=>?_
  simp only
  cases decide (q=0) with
  | true=>exact (d73 hr2 (by omega) (by decide)).bind fun x r3 _ hr3=>.pure ⟨hsl.1,hsl.2,hsl.3⟩ (hr3.mono (by omega))
  | false=>exact .pure hsl (hr2.mono (by omega))
 unfold uE uG
 refine (d96 h (by omega) (by decide)).bind fun x1 r1 hx1 hr1=>?_
 rw [bs]
 refine (d96 hr1 (by omega) (by decide)).bind fun x2 r2 hx2 hr2=>?_
 refine (d96 hr2 (by omega) (by decide)).bind fun x3 r3 hx3 hr3=>?_
 have hsl:SmL ⟨x1,x2,x3,0⟩:=⟨sm_short (by rfl) x1 hx1,sm_short (by rfl) x2 hx2,sm_short (by rfl) x3 hx3⟩
 refine (d74 hr3 (by omega)).bind fun q r4 hq hr4=>?_
 rw [aZ hf hb.sm.ntab,bs,eb]
 simp only
 by_cases hk:tabN b x1<b.tabs.length
 case neg=>
  rw [B_f hk,cf]
  unfold iu
  exact h3 _ _ (hr4.mono (by omega)) ⟨hsl.1,hsl.2,hsl.3⟩
 rw [B_t hk,ct]
 refine (d74 hr4 (by omega)).bind fun q2 r5 _ hr5=>?_
 unfold iu
 simp only
 cases decide (0<q2) with
 | false=>exact h3 _ _ (hr5.mono (by omega)) ⟨hsl.1,hsl.2,hsl.3⟩
 | true=>
  have g:=(hb.tab hk).rt
  have hlo:=g.okLast.lo
  rw [ct,aF hk,inR hk,ct,tn,aR,eW hf g,bs]
  refine (d74 hr5 (by omega)).bind fun q3 r6 hq3 hr6=>?_
  have hi:=zF hq3 hlo
  simp only [hi.1,ct]
  exact h3 _ _ (hr6.mono (by omega)) ⟨hsl.1,(g.okLast.sm.get hi.2).name,hsl.3⟩
theorem sR {xs:List Set}{k:Nat}{x:Set}(h:SmX xs)(hx:SmV x.val)(hn:x.name.length≤1000):SmX (xs.set k x):=⟨by have:=h.len;simpa using this,fun y hy=>by
 rcases List.mem_or_eq_of_mem_set hy with hy|hy
 ·exact h.nm y hy
 ·subst hy;exact hn,fun y hy=>by
 rcases List.mem_or_eq_of_mem_set hy with hy|hy
 ·exact h.all y hy
 ·subst hy;exact hx⟩
theorem l1102_2 {b:ac}{k:Nat}(hf:BIG≤fu)(h:am b)(hk:k<b.tabs.length){i L M:Nat}(hiL:i < L){rec1:Int→List Set→Rd→Option (List Set×Rd)}{m0:Nat}(hM:m0≤700000)
     (hrec:∀ xs r,SmX xs→xs.length=L→cx r m0→aI (rec1 (IntKind.i64.wrap ((i:Int)+1)) xs r) SmX9 M) :
     ∀ (c n j:Nat) (xs:List Set) (r:Rd),j+c=b.links.length→c<n→SmX xs→xs.length=L→cx r (m0-2*c)→2*c≤m0→aI (bC fu b (k:Int) (i:Int) rec1 n (j:Int) xs r) SmX9 M:=by
 intro c
 induction c with
 | zero=>
  intro n j xs r hj hn hx hl hr hm
  obtain ⟨n,rfl⟩:∃ z,n=z+1:=⟨n-1,by omega⟩
  have:j=b.links.length:=by omega
  subst this
  rw [bC,nlt,cf]
  exact hrec xs r hx hl (hr.mono (by omega))
 | succ c ih=>
  intro n j xs r hj hn hx hl hr hm
  obtain ⟨n,rfl⟩:∃ z,n=z+1:=⟨n-1,by omega⟩
  have hjl:j<b.links.length:=by omega
  have hfit:=(h.ok.links j hjl).fits
  have ej:=aU hjl (show b.links.length≤BIG by have:=h.sm.nlink;unfold BIG;omega)
  have h8:∀ (ys:List Set) (r':Rd),SmX ys→ys.length=L→cx r' (m0-2*c)→aI (eI (j:Int) rec1 (bC fu b (k:Int) (i:Int) rec1 n) ys r') SmX9 M:=fun ys r' hy hyl hr'=>by
   unfold eI
   rw [ej]
   exact ih n (j+1) ys r' (by omega) (by omega) hy hyl hr' (by omega)
  have hix:(decide (0≤(i:Int))&&decide ((i:Int) < (List.length xs:Int)))=true:=inR (by omega)
  have hxi:SmV (xs.getD i default).val:=hx.get (by omega)
  have h7:∀ (bl:Bool) (r':Rd),cx r' (m0-2*c-1)→aI (eJ fu b (i:Int) (j:Int) xs (tabN b (b.links.getD j default).to:Int) rec1 (bC fu b (k:Int) (i:Int) rec1 n) bl r') SmX9 M:=fun bl r' hr'=>by
   unfold eJ
   cases bl with
   | false=>exact h8 xs r' hx hl (hr'.mono (by omega))
   | true=>
    rw [ct,inR hfit.dst,ct,tn,aR]
    by_cases h0:0 < (tabT b (b.links.getD j default).to).rows.length
    ·rw [dt (show (0:Int) < ((tabT b (b.links.getD j default).to).rows.length:Int) by omega),ct]
     refine (d74 hr' (by omega)).bind fun q r2 hq hr2=>?_
     have hi:=zF hq h0
     simp only [hi.1,hix,ct,tn]
     exact h8 _ r2 (sR hx hxi (hx.nm (xs.getD i default) (getD_mem (by omega)))) (by rw [List.length_set];exact hl) (hr2.mono (by omega))
    ·rw [df (show ¬ (0:Int) < ((tabT b (b.links.getD j default).to).rows.length:Int) by omega),cf]
     refine (d74 hr' (by omega)).bind fun q r2 hq hr2=>?_
     simp only [hix,tn]
     cases decide (q=0) with
     | true=>exact h8 _ r2 (sR hx nul_ok.sm (hx.nm (xs.getD i default) (getD_mem (by omega)))) (by rw [List.length_set];exact hl) (hr2.mono (by omega))
     | false=>exact h8 _ r2 hx hl (hr2.mono (by omega))
  have hr0:cx r (m0-2*c-1):=hr.mono (by omega)
  rw [bC,ltR hjl,ct,ge0,Bool.and_self,ct,tn,aZ hf h.sm.ntab,bs,aF hfit.dst,ltR hk,ge0,Bool.and_self,ct,tn,tn,ltR (show i<xs.length by omega)]
  cases decide ((b.links.getD j default).from_=(b.tabs.getD k default).name) with
  | false=>exact h7 false r hr0
  | true=>
   simp only [ct,ge0,Bool.and_self]
   cases decide ((b.links.getD j default).col=(xs.getD i default).name) with
   | false=>exact h7 false r hr0
   | true=>
    simp only [ct]
    cases decide ((xs.getD i default).val.kind=1) with
    | false=>exact h7 false r hr0
    | true=>
     exact (d74 hr (by omega)).bind fun q r2 hq hr2=>h7 _ r2 (hr2.mono (by omega))
theorem yH {b:ac}{k:Nat}(hf:BIG≤fu)(h:am b)(hk:k<b.tabs.length){L:Nat}(hL:L≤900) :
     ∀ (c n i m:Nat) (xs:List Set) (r:Rd),i+c=L→c<n→SmX xs→xs.length=L→cx r m→m+8*c≤700000→aI (cb fu b (k:Int) n (i:Int) xs r) SmX9 (m+8*c):=by
 intro c
 induction c with
 | zero=>
  intro n i m xs r hi hn hx hl hr hm
  obtain ⟨n,rfl⟩:∃ z,n=z+1:=⟨n-1,by omega⟩
  have:i=xs.length:=by omega
  subst this
  rw [cb,nlt,cf]
  exact .pure ⟨hx,by omega⟩ (hr.mono (by omega))
 | succ c ih=>
  intro n i m xs r hi hn hx hl hr hm
  obtain ⟨n,rfl⟩:∃ z,n=z+1:=⟨n-1,by omega⟩
  have hiL:i < L:=by omega
  have h4:=h.ok.nlink
  have ei:=aU hiL (show L≤BIG by unfold BIG;omega)
  rw [cb,ltR (show i<xs.length by omega),ct]
  refine (l1102_2 (M:=m+8 * (c+1)) hf h hk hiL (m0:=m+8) (by omega) (fun ys r' hy hyl hr'=>?_) b.links.length fu 0 xs r (by omega) (by unfold BIG at hf;omega) hx hl (hr.mono (by omega)) (by omega))
  rw [ei]
  exact (ih n (i+1) (m+8) ys r' (by omega) (by omega) hy hyl hr' (by omega)).mono (fun _ h=>h) (by omega)
theorem A7 {r:Rd}{b:ac}{k m:Nat}(hf:BIG≤fu)(h:cx r m)(hm:m≤600000)(hb:am b)(hk:k<b.tabs.length):aI (sh fu r b (k:Int)) SmX9 (m+8026):=by
 have g:=hb.tab hk
 have hhi:=g.rt.okLast.hi
 unfold sh
 rw [inR hk,ct,tn]
 show aI ((f53 fu (eR b k)).bind _) _ _
 rw [eW hf g.rt,bs,Cr]
 refine (d62 hf (by omega) g.rt.okLast.sm h (by omega)).bind fun xs r1 ⟨hx,hl⟩ hr1=>?_
 exact (yH hf hb hk hl xs.length fu 0 (m+26) xs r1 (by omega) (by unfold BIG at hf;omega) hx rfl hr1 (by omega)).mono (fun _ h=>h) (by omega)
theorem nI {b:ac}{nm:List UInt8}{s:List Col}(h:am b):am (gi b nm s).1:=by
 unfold gi
 rw [if_pos h.ok];exact oW h
theorem pj {b:ac}{l:aj}(h:am b):am (kH b l).1:=by
 unfold kH
 rw [if_pos h.ok];exact rP h
theorem wJ {n:Int}:∃ x:Int,AJ 1 n=some x∧1≤x∧(1≤n→x=n):=by
 unfold AJ
 by_cases h:n<1
 ·rw [dt h];exact ⟨1,rfl,Int.le_refl _,fun hh=>by omega⟩
 ·rw [df h];exact ⟨n,rfl,by omega,fun _=>rfl⟩
theorem xM {l:List (List UInt8)}(hl:l.all (fun s=>decide (s.length≤1))=true):∀ s∈l,s.length≤1:=fun s hs=>by simpa using List.all_eq_true.1 hl s hs
theorem BT {r:Rd}{b:ac}{m:Nat}(hf:BIG≤fu)(h:cx r m)(hm:m≤700000)(hb:SmB b):aI (uC fu r b) (fun x=>x.1.length≤1) (m+4):=by
 unfold uC
 refine (d96 h (by omega) (by decide)).bind fun nm r1 hnm hr1=>?_
 have hn:=xM (by rfl) nm hnm
 simp only
 rw [aZ hf hb.ntab,bs,eb]
 have h1:∀ (bl:Bool) (r':Rd),(bl=true→tabN b nm<b.tabs.length∧0 < (tabT b nm).rows.length)→cx r' (m+2)→aI (fQ fu b (nm,r1) (mD b nm) bl r') (fun x=>x.1.length≤1) (m+4):=fun bl r' hbl hr'=>by
  unfold fQ
  cases bl with
  | false=>exact (d73 hr' (by omega) (by decide)).bind fun x r2 _ hr2=>.pure hn (hr2.mono (by omega))
  | true=>
   obtain ⟨hk,h0⟩:=hbl rfl
   rw [aF hk]
   simp only
   rw [inR hk,ct,ct,tn,aR]
   refine (d74 hr' (by omega)).bind fun q r2 hq hr2=>?_
   have hi:=zF hq h0
   simp only [hi.1,ct]
   exact .pure hn (hr2.mono (by omega))
 by_cases hk:tabN b nm<b.tabs.length
 case neg=>rw [B_f hk,cf];exact h1 false _ (fun e=>by cases e) (hr1.mono (by omega))
 rw [B_t hk,ct,aF hk]
 rw [aF hk] at h1
 rw [ltR hk,Bool.and_self,ct,tn,aR]
 by_cases h0:0 < (tabT b nm).rows.length
 ·rw [dt (show (0:Int) < ((tabT b nm).rows.length:Int) by omega),ct]
  exact (d74 hr1 (by omega)).bind fun q r2 _ hr2=>h1 _ _ (fun _=>⟨hk,h0⟩) hr2
 ·rw [df (show ¬ (0:Int) < ((tabT b nm).rows.length:Int) by omega),cf]
  exact h1 false _ (fun e=>by cases e) (hr1.mono (by omega))
end Go.Proofs.YtganfdhmkdehlaaGreatDoor
/- What laws of bases ask. -/
namespace Go.Proofs.YtganfdhmkdehlaaGreatDoor
open Go Go.HL
variable {fu:Nat}
theorem rI {b:ac}{nm:List UInt8}{id:Int}{xs:List Set}(h:am b)(hx:SmX xs):am (nP b nm id xs).1:=by
 unfold nP
 rw [if_pos h.ok];exact sW h hx
theorem rJ {b:ac}{nm:List UInt8}{xs:List Set}(h:am b)(hx:SmX xs):am (nS b nm xs).1:=by
 unfold nS
 rw [if_pos h.ok];exact tb h hx
theorem nu {b:ac}{nm:List UInt8}{c:aa}(h:am b)(hc:iG c):am (dM b nm c).1:=by
 unfold dM
 rw [if_pos h.ok];exact jv h hc
theorem rM {b:ac}{nm:List UInt8}{id:Int}(h:am b):am (nU b nm id).1:=by
 unfold nU
 rw [if_pos h.ok];exact nT h
end Go.Proofs.YtganfdhmkdehlaaGreatDoor
