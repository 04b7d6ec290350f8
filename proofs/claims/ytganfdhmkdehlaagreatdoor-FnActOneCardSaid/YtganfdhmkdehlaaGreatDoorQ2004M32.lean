/- What is drawn: bases. Nothing fails, and all is small. -/
import Derived.Test.YtganfdhmkdehlaaGreatDoorQ2004M30
set_option linter.all false
namespace Go.Proofs.YtganfdhmkdehlaaGreatDoor
open Go Go.HL
variable {fu:Nat}
theorem C7:@f62a=@f62:=by
 have h:∀ fu s n,f62a_l1 fu s n=dw fu s n:=fun fu s n=>by
  induction n with
  | zero=>rfl
  | succ n ih=>funext i x r;rw [f62a_l1,dw,ih];rfl
 funext fu r s
 unfold f62a f62
 rw [h]
theorem o108:@f108o=@f108:=by
 have h:∀ t id n i,f108o_l1 t id n i=gF t id n i:=fun t id n=>by
  induction n with
  | zero=>intro i;rfl
  | succ n ih=>intro i;rw [f108o_l1,gF,ih]
 funext fu t id
 unfold f108o f108
 rw [h]
theorem o125a:@f125a=@f125:=by
 have h:∀ fu n,f125a_l1 fu n=d6 fu n:=fun fu n=>by
  induction n with
  | zero=>rfl
  | succ n ih=>funext i x r;rw [f125a_l1,d6,ih,o108];rfl
 funext fu r
 unfold f125a f125
 simp only [h]
structure BentT (n:Nat) (t:ab):Prop where
 sm:SmT t
 f:t.first.length≤n
 c:t.changes.length≤n
 r:t.rows.length≤n
 v:∀ k,k<t.rows.length→(t.rows.getD k default).vals.length≤n
theorem BentT.mono {n n':Nat}{t:ab}(h:BentT n t)(hn:n≤n'):BentT n' t:=⟨h.sm,Nat.le_trans h.f hn,Nat.le_trans h.c hn,Nat.le_trans h.r hn,fun k hk=>Nat.le_trans (h.v k hk) hn⟩
theorem BentT.set {n n':Nat}{t:ab}(h:BentT n t)(hn:n≤n'){k:Nat}{r:Row}(hr:SmR r.vals)(hl:r.vals.length≤n'):BentT n' ⟨t.first,t.changes,t.rows.set k r,t.next⟩:=⟨y3 h.sm hr,Nat.le_trans h.f hn,Nat.le_trans h.c hn,by show (t.rows.set k r).length≤n';rw [List.length_set];exact Nat.le_trans h.r hn,fun j hj=>by
 rcases List.mem_or_eq_of_mem_set (getD_mem (d:=(default:Row)) hj) with hm|hm
 ·obtain ⟨i,hi,e⟩:=g_ hm
  have:=h.v i hi
  rw [ae hi,e] at this
  exact Nat.le_trans this hn
 ·rw [hm];exact hl⟩
theorem Cg {r:Rd}{t:ab}{m N:Nat}(hf:BIG≤fu)(h:cb r m)(hm:m≤600000)(ht:BentT N t)(hN:N≤500):aJ (f93 fu r t) (BentT (N+4)) (m+40):=by
 have hs:=ht.sm
 have h8:=ht.r
 have hc8:=ht.c
 have hf5:=ht.f
 have hle:N≤N+4:=by omega
 unfold f93 dI
 rw [lr hf hs,bs]
 refine (d74 h (by omega)).bind fun q r1 hq hr1=>?_
 have hend:aJ (some (t,r1)) (BentT (N+4)) (m+40):=.pure (ht.mono hle) (hr1.mono (by omega))
 simp only
 cases decide (q=0) with
 | true=>
  refine (d123 hr1 (by omega) hs.first (by omega)).bind fun s1 r2 hs1 hr2=>?_
  refine (d123 hr2 (by omega) hs1.1 (by omega)).bind fun s2 r3 hs2 hr3=>?_
  refine (d123 hr3 (by omega) hs2.1 (by omega)).bind fun s3 r4 hs3 hr4=>?_
  exact (d123 hr4 (by omega) hs3.1 (by omega)).bind fun s4 r5 hs4 hr5=>.pure ⟨⟨hs4.1,hs.cs,hs.nrow,hs.rows⟩,(by have h1:=hs1.2;have h2:=hs2.2;have h3:=hs3.2;have h4:=hs4.2;show s4.length≤_;omega),Nat.le_trans hc8 hle,Nat.le_trans h8 hle,fun k hk=>Nat.le_trans (ht.v k hk) hle⟩ (hr5.mono (by omega))
 | false=>
 cases decide (q=1) with
 | true=>
  simp only [ct,cf]
  by_cases h0:0<t.changes.length
  ·rw [dt (show (0:Int) < (t.changes.length:Int) by omega),show (decide ((0:Int)≤1)&&decide ((1:Int)≤(t.changes.length:Int))&&decide ((t.changes.length:Int)≤(t.changes.length:Int)))=true by simp;omega]
   refine .pure ⟨⟨hs.first,⟨?_,fun c hc=>?_⟩,hs.nrow,hs.rows⟩,Nat.le_trans hf5 hle,?_,Nat.le_trans h8 hle,fun k hk=>Nat.le_trans (ht.v k hk) hle⟩ (hr1.mono (by omega))
   ·simp;omega
   ·refine hs.cs.all c ?_
    have:=List.mem_of_mem_drop hc
    exact List.mem_of_mem_take this
   ·simp;omega
  ·rw [df (show ¬ (0:Int) < (t.changes.length:Int) by omega)];exact hend
 | false=>
 cases decide (q=2) with
 | true=>
  simp only [ct,cf]
  by_cases h0:0<t.rows.length
  ·rw [dt (show (0:Int) < (t.rows.length:Int) by omega),ct]
   refine (d74 hr1 (by omega)).bind fun k r2 hk hr2=>?_
   have hi:=ue hk h0
   refine (d73 hr2 (by omega) (by simp)).bind fun x r3 hx hr3=>?_
   simp only [hi.1,ct]
   exact .pure (ht.set hle (hs.rows _ hi.2) (Nat.le_trans (ht.v _ hi.2) hle)) (hr3.mono (by omega))
  ·rw [df (show ¬ (0:Int) < (t.rows.length:Int) by omega)];exact hend
 | false=>
 cases decide (q=3) with
 | true=>
  simp only [ct,cf]
  by_cases h0:0<t.rows.length
  ·rw [dt (show (0:Int) < (t.rows.length:Int) by omega),ct,show decide ((0:Int)≤0)=true from rfl,b_,ct,cap (by rw [s_];omega),ct]
   refine .pure ⟨⟨hs.first,hs.cs,by simp;omega,fun j hj=>?_⟩,Nat.le_trans hf5 hle,Nat.le_trans hc8 hle,by simp;omega,fun j hj=>?_⟩ (hr1.mono (by omega))
   ·rw [ae hj]
    rcases p_ (List.getElem_mem hj) with hm|hm
    ·exact hs.row hm
    ·simp only [List.mem_singleton] at hm
     rw [hm]
     exact hs.rows 0 h0
   ·rcases p_ (getD_mem (d:=(default:Row)) hj) with hm|hm
    ·obtain ⟨i,hi,e⟩:=g_ hm
     have:=ht.v i hi
     rw [ae hi,e] at this
     exact Nat.le_trans this hle
    ·simp only [List.mem_singleton] at hm
     rw [hm]
     exact Nat.le_trans (ht.v 0 h0) hle
  ·rw [df (show ¬ (0:Int) < (t.rows.length:Int) by omega)];exact hend
 | false=>
 cases decide (q=4) with
 | true=>exact (d73 hr1 (by omega) (by decide)).bind fun x r3 hx hr3=>.pure ⟨⟨hs.first,hs.cs,hs.nrow,hs.rows⟩,Nat.le_trans hf5 hle,Nat.le_trans hc8 hle,Nat.le_trans h8 hle,fun k hk=>Nat.le_trans (ht.v k hk) hle⟩ (hr3.mono (by omega))
 | false=>
 cases decide (q=5) with
 | true=>
  simp only [ct,cf]
  by_cases h0:0<t.rows.length
  ·rw [dt (show (0:Int) < (t.rows.length:Int) by omega),ct]
   refine (d74 hr1 (by omega)).bind fun k r2 hk hr2=>?_
   have hi:=ue hk h0
   have hr:=hs.rows _ hi.2
   have hvl:=ht.v _ hi.2
   simp only [hi.1,ct]
   rw [cap (by rw [s_];omega),ct]
   refine .pure (ht.set hle ⟨?_,fun v hv=>?_⟩ ?_) (hr2.mono (by omega))
   ·show ((t.rows.getD k.toNat default).vals++[_]).length≤1000
    rw [List.length_append,s_];omega
   ·rcases p_ hv with hv|hv
    ·exact hr.all v hv
    ·simp only [List.mem_singleton] at hv;subst hv;exact nul_ok.sm
   ·show ((t.rows.getD k.toNat default).vals++[_]).length≤_
    rw [List.length_append,s_];omega
  ·rw [df (show ¬ (0:Int) < (t.rows.length:Int) by omega)];exact hend
 | false=>
 cases decide (q=6) with
 | false=>exact hend
 | true=>
  have h2:∀ b:Bool,(b=true→0<t.rows.length∧0 < (t.rows.getD 0 default).vals.length)→aJ (rb fu t (q,r1) b) (BentT (N+4)) (m+40):=fun b hb=>by
   unfold rb dI
   cases b with
   | false=>exact hend
   | true=>
    have:=hb rfl
    rw [ct,dt (show (0:Int) < (t.rows.length:Int) by omega),show decide ((0:Int)≤0)=true from rfl,b_,ct]
    refine (d97 hr1 (by omega)).bind fun v r3 hv hr3=>?_
    simp only [Int.toNat_zero,dt (show (0:Int) < ((t.rows.getD 0 default).vals.length:Int) by omega),show decide ((0:Int)≤0)=true from rfl,b_,ct]
    have hr:=hs.rows 0 this.1
    have hv0:=ht.v 0 this.1
    refine .pure (ht.set hle ⟨by have:=hr.len;simpa using this,fun u hu=>?_⟩ (by show (List.set _ _ _).length≤_;rw [List.length_set];omega)) (hr3.mono (by omega))
    rcases List.mem_or_eq_of_mem_set hu with hu|hu
    ·exact hr.all u hu
    ·subst hu;exact hv
  simp only [ct,cf]
  by_cases h0:0<t.rows.length
  ·rw [dt (show (0:Int) < (t.rows.length:Int) by omega),ct,show decide ((0:Int)≤0)=true from rfl,b_,ct]
   refine h2 _ fun hb=>⟨h0,?_⟩
   have:=of_decide_eq_true hb
   simp only [Int.toNat_zero] at this
   omega
  ·rw [df (show ¬ (0:Int) < (t.rows.length:Int) by omega)]
   exact h2 false fun h=>by cases h
theorem nZ.bent {t:ab}(h:nZ t):BentT 8 t:=⟨h.sm,by have:=h.ok.first.hi;omega,h.ok.nch,h.ok.nrow,fun k hk=>by
 have hg:=h.ok.rows k hk
 have hvl:=hg.was.len
 have hsl:=(h.rt.okAt (t.rows.getD k default).ver.toNat).hi
 omega⟩
theorem x5 {r:Rd}{m:Nat}(hf:BIG≤fu)(h:cb r m)(hm:m≤700000):aJ (oU fu r) (fun s=>SmS s∧s.length≤900) (m+30):=by
 unfold oU nN
 rw [o125a]
 refine (Ax hf h (by omega)).bind fun s r1 hs hr1=>?_
 have hlo:=hs.lo
 have hhi:=hs.hi
 have e:(decide (0≤(1:Int))&&decide ((1:Int)≤(List.length s:Int)))=true:=by simp;omega
 simp only [e,ct]
 refine (d74 hr1 (by omega)).bind fun q r2 hq hr2=>?_
 simp only
 rw [cap (by rw [List.length_take,s_];omega),ct]
 refine .pure ⟨⟨by simp;omega,fun c hc=>?_⟩,by rw [List.length_append,List.length_take,s_];omega⟩ (hr2.mono (by omega))
 rcases p_ hc with hc|hc
 ·exact hs.sm.all c (List.mem_of_mem_take hc)
 ·simp only [List.mem_singleton] at hc
  subst hc
  exact ⟨by show ([107]:List UInt8).length≤1000;decide,nul_ok.sm⟩
structure SmL (l:aj):Prop where
 src:l.from_.length≤1000
 col:l.col.length≤1000
 dst:l.to.length≤1000
theorem zP {r:Rd}{b:ac}{m:Nat}(hf:BIG≤fu)(h:cb r m)(hm:m≤700000)(hb:fN b):aJ (qf fu r b) SmL (m+10):=by
 have h3:∀ (l:aj) (r':Rd),cb r' (m+7)→SmL l→aJ (iB fu l r') SmL (m+10):=fun l r' hr' hsl=>by
  unfold iB kh
  refine (d74 hr' (by omega)).bind fun q r2 hq hr2=>?_
  simp only
  cases decide (q=0) with
  | true=>exact (d73 hr2 (by omega) (by decide)).bind fun x r3 _ hr3=>.pure ⟨hsl.1,hsl.2,hsl.3⟩ (hr3.mono (by omega))
  | false=>exact .pure hsl (hr2.mono (by omega))
 unfold qf vj
 refine (d96 h (by omega) (by decide)).bind fun x1 r1 hx1 hr1=>?_
 rw [bs]
 refine (d96 hr1 (by omega) (by decide)).bind fun x2 r2 hx2 hr2=>?_
 refine (d96 hr2 (by omega) (by decide)).bind fun x3 r3 hx3 hr3=>?_
 have hsl:SmL ⟨x1,x2,x3,0⟩:=⟨sm_short (by rfl) x1 hx1,sm_short (by rfl) x2 hx2,sm_short (by rfl) x3 hx3⟩
 refine (d74 hr3 (by omega)).bind fun q r4 hq hr4=>?_
 rw [a6 hf hb.sm.ntab,bs,eF]
 simp only
 by_cases hk:tabN b x1<b.tabs.length
 case neg=>
  rw [B_f hk,cf]
  unfold iC
  exact h3 _ _ (hr4.mono (by omega)) ⟨hsl.1,hsl.2,hsl.3⟩
 rw [B_t hk,ct]
 refine (d74 hr4 (by omega)).bind fun q2 r5 _ hr5=>?_
 unfold iC
 simp only
 cases decide (0<q2) with
 | false=>exact h3 _ _ (hr5.mono (by omega)) ⟨hsl.1,hsl.2,hsl.3⟩
 | true=>
  have g:=(hb.tab hk).rt
  have hlo:=g.okLast.lo
  rw [ct,aK hk,inR hk,ct,tn,aV,ew hf g,bs]
  refine (d74 hr5 (by omega)).bind fun q3 r6 hq3 hr6=>?_
  have hi:=ue hq3 hlo
  simp only [hi.1,ct]
  exact h3 _ _ (hr6.mono (by omega)) ⟨hsl.1,(g.okLast.sm.get hi.2).name,hsl.3⟩
theorem tu {xs:List Set}{k:Nat}{x:Set}(h:SmX xs)(hx:SmV x.val)(hn:x.name.length≤1000):SmX (xs.set k x):=⟨by have:=h.len;simpa using this,fun y hy=>by
 rcases List.mem_or_eq_of_mem_set hy with hy|hy
 ·exact h.nm y hy
 ·subst hy;exact hn,fun y hy=>by
 rcases List.mem_or_eq_of_mem_set hy with hy|hy
 ·exact h.all y hy
 ·subst hy;exact hx⟩
theorem l1102_2 {b:ac}{k:Nat}(hf:BIG≤fu)(h:av b)(hk:k<b.tabs.length){i L M:Nat}(hiL:i < L){rec1:Int→List Set→Rd→Option (List Set×Rd)}{m0:Nat}(hM:m0≤700000)
     (hrec:∀ xs r,SmX xs→xs.length=L→cb r m0→aJ (rec1 (IntKind.i64.wrap ((i:Int)+1)) xs r) SmX9 M) :
     ∀ (c n j:Nat) (xs:List Set) (r:Rd),j+c=b.links.length→c<n→SmX xs→xs.length=L→cb r (m0-2*c)→2*c≤m0→aJ (bF fu b (k:Int) (i:Int) rec1 n (j:Int) xs r) SmX9 M:=by
 intro c
 induction c with
 | zero=>
  intro n j xs r hj hn hx hl hr hm
  obtain ⟨n,rfl⟩:∃ z,n=z+1:=⟨n-1,by omega⟩
  have:j=b.links.length:=by omega
  subst this
  rw [bF,nlt,cf]
  exact hrec xs r hx hl (hr.mono (by omega))
 | succ c ih=>
  intro n j xs r hj hn hx hl hr hm
  obtain ⟨n,rfl⟩:∃ z,n=z+1:=⟨n-1,by omega⟩
  have hjl:j<b.links.length:=by omega
  have hfit:=(h.ok.links j hjl).fits
  have ej:=bb hjl (show b.links.length≤BIG by have:=h.sm.nlink;unfold BIG;omega)
  have h8:∀ (ys:List Set) (r':Rd),SmX ys→ys.length=L→cb r' (m0-2*c)→aJ (eU (j:Int) rec1 (bF fu b (k:Int) (i:Int) rec1 n) ys r') SmX9 M:=fun ys r' hy hyl hr'=>by
   unfold eU
   rw [ej]
   exact ih n (j+1) ys r' (by omega) (by omega) hy hyl hr' (by omega)
  have hix:(decide (0≤(i:Int))&&decide ((i:Int) < (List.length xs:Int)))=true:=inR (by omega)
  have hxi:SmV (xs.getD i default).val:=hx.get (by omega)
  have h7:∀ (bl:Bool) (r':Rd),cb r' (m0-2*c-1)→aJ (eW fu b (i:Int) (j:Int) xs (tabN b (b.links.getD j default).to:Int) rec1 (bF fu b (k:Int) (i:Int) rec1 n) bl r') SmX9 M:=fun bl r' hr'=>by
   unfold eW
   cases bl with
   | false=>exact h8 xs r' hx hl (hr'.mono (by omega))
   | true=>
    rw [ct,inR hfit.dst,ct,tn,aV]
    by_cases h0:0 < (tabT b (b.links.getD j default).to).rows.length
    ·rw [dt (show (0:Int) < ((tabT b (b.links.getD j default).to).rows.length:Int) by omega),ct]
     refine (d74 hr' (by omega)).bind fun q r2 hq hr2=>?_
     have hi:=ue hq h0
     simp only [hi.1,hix,ct,tn]
     exact h8 _ r2 (tu hx hxi (hx.nm (xs.getD i default) (getD_mem (by omega)))) (by rw [List.length_set];exact hl) (hr2.mono (by omega))
    ·rw [df (show ¬ (0:Int) < ((tabT b (b.links.getD j default).to).rows.length:Int) by omega),cf]
     refine (d74 hr' (by omega)).bind fun q r2 hq hr2=>?_
     simp only [hix,tn]
     cases decide (q=0) with
     | true=>exact h8 _ r2 (tu hx nul_ok.sm (hx.nm (xs.getD i default) (getD_mem (by omega)))) (by rw [List.length_set];exact hl) (hr2.mono (by omega))
     | false=>exact h8 _ r2 hx hl (hr2.mono (by omega))
  have hr0:cb r (m0-2*c-1):=hr.mono (by omega)
  rw [bF,ltR hjl,ct,ge0,b_,ct,tn,a6 hf h.sm.ntab,bs,aK hfit.dst,ltR hk,ge0,b_,ct,tn,tn,ltR (show i<xs.length by omega)]
  cases decide ((b.links.getD j default).from_=(b.tabs.getD k default).name) with
  | false=>exact h7 false r hr0
  | true=>
   simp only [ct,ge0,b_]
   cases decide ((b.links.getD j default).col=(xs.getD i default).name) with
   | false=>exact h7 false r hr0
   | true=>
    simp only [ct]
    cases decide ((xs.getD i default).val.kind=1) with
    | false=>exact h7 false r hr0
    | true=>
     exact (d74 hr (by omega)).bind fun q r2 hq hr2=>h7 _ r2 (hr2.mono (by omega))
theorem zf {b:ac}{k:Nat}(hf:BIG≤fu)(h:av b)(hk:k<b.tabs.length){L:Nat}(hL:L≤900) :
     ∀ (c n i m:Nat) (xs:List Set) (r:Rd),i+c=L→c<n→SmX xs→xs.length=L→cb r m→m+8*c≤700000→aJ (cn fu b (k:Int) n (i:Int) xs r) SmX9 (m+8*c):=by
 intro c
 induction c with
 | zero=>
  intro n i m xs r hi hn hx hl hr hm
  obtain ⟨n,rfl⟩:∃ z,n=z+1:=⟨n-1,by omega⟩
  have:i=xs.length:=by omega
  subst this
  rw [cn,nlt,cf]
  exact .pure ⟨hx,by omega⟩ (hr.mono (by omega))
 | succ c ih=>
  intro n i m xs r hi hn hx hl hr hm
  obtain ⟨n,rfl⟩:∃ z,n=z+1:=⟨n-1,by omega⟩
  have hiL:i < L:=by omega
  have h4:=h.ok.nlink
  have ei:=bb hiL (show L≤BIG by unfold BIG;omega)
  rw [cn,ltR (show i<xs.length by omega),ct]
  refine (l1102_2 (M:=m+8 * (c+1)) hf h hk hiL (m0:=m+8) (by omega) (fun ys r' hy hyl hr'=>?_) b.links.length fu 0 xs r (by omega) (by unfold BIG at hf;omega) hx hl (hr.mono (by omega)) (by omega))
  rw [ei]
  exact (ih n (i+1) (m+8) ys r' (by omega) (by omega) hy hyl hr' (by omega)).mono (fun _ h=>h) (by omega)
theorem x6 {r:Rd}{b:ac}{k m:Nat}(hf:BIG≤fu)(h:cb r m)(hm:m≤600000)(hb:av b)(hk:k<b.tabs.length):aJ (oX fu r b (k:Int)) SmX9 (m+8026):=by
 have g:=hb.tab hk
 have hhi:=g.rt.okLast.hi
 unfold oX
 rw [inR hk,ct,tn]
 show aJ ((f53 fu (dm b k)).bind _) _ _
 rw [ew hf g.rt,bs,C7]
 refine (d62 hf (by omega) g.rt.okLast.sm h (by omega)).bind fun xs r1 ⟨hx,hl⟩ hr1=>?_
 exact (zf hf hb hk hl xs.length fu 0 (m+26) xs r1 (by omega) (by unfold BIG at hf;omega) hx rfl hr1 (by omega)).mono (fun _ h=>h) (by omega)
theorem cO {b:ac}{nm:List UInt8}{s:List Col}(h:av b):av (tableBB b nm s).1:=by
 unfold tableBB
 rw [if_pos h.ok];exact pr h
theorem eJ {b:ac}{l:aj}(h:av b):av (linkBB b l).1:=by
 unfold linkBB
 rw [if_pos h.ok];exact sx h
theorem rG {n:Int}:∃ x:Int,Aj 1 n=some x∧1≤x∧(1≤n→x=n):=by
 unfold Aj
 by_cases h:n<1
 ·rw [dt h];exact ⟨1,rfl,Int.le_refl _,fun hh=>by omega⟩
 ·rw [df h];exact ⟨n,rfl,by omega,fun _=>rfl⟩
theorem wt {b:ac}{k:Nat}{nm:List UInt8}(h:SmB b)(hk:k<b.tabs.length)(hn:nm.length≤1000):SmB ⟨b.tabs.set k { (b.tabs.getD k default) with name:=nm },b.links⟩:=by
 have e:∀ i,(b.tabs.set k { (b.tabs.getD k default) with name:=nm }).getD i default=if i=k then { (b.tabs.getD k default) with name:=nm } else b.tabs.getD i default:=fun i=>getD_set hk
 refine ⟨by show (List.set _ _ _).length≤1000;rw [List.length_set];exact h.ntab,h.nlink,fun i hi=>?_,fun i hi=>?_⟩
 ·have hi':i<b.tabs.length:=by simpa using hi
  show ((b.tabs.set k { (b.tabs.getD k default) with name:=nm }).getD i default).name.length≤1000
  rw [e]
  split
  ·exact hn
  ·exact h.names i hi'
 ·have hi':i<b.tabs.length:=by simpa using hi
  show SmT ((b.tabs.set k { (b.tabs.getD k default) with name:=nm }).getD i default).table
  rw [e]
  split
  ·exact h.tabs k hk
  ·exact h.tabs i hi'
theorem y5 {b:ac}{x y:Tab}(h:SmB b)(hl:b.tabs.length≤900)(hx:x.name.length≤1000∧SmT x.table)(hy:y.name.length≤1000∧SmT y.table):SmB ⟨b.tabs++[x,y],b.links⟩:=by
 have key:∀ i,i < (b.tabs++[x,y]).length→((b.tabs++[x,y]).getD i default).name.length≤1000∧SmT ((b.tabs++[x,y]).getD i default).table:=fun i hi=>by
  rcases p_ (getD_mem (d:=(default:Tab)) hi) with hm|hm
  ·obtain ⟨j,hj,e⟩:=g_ hm
   rw [← e,← ae (d:=default) hj]
   exact ⟨h.names j hj,h.tabs j hj⟩
  ·simp only [List.mem_cons,List.not_mem_nil,or_false] at hm
   rcases hm with e|e
   ·rw [e];exact hx
   ·rw [e];exact hy
 exact ⟨by show (b.tabs++[x,y]).length≤1000;rw [List.length_append];simp;omega,h.nlink,fun i hi=>(key i hi).1,fun i hi=>(key i hi).2⟩
theorem qE {l:List (List UInt8)}(hl:l.all (fun s=>decide (s.length≤1))=true):∀ s∈l,s.length≤1:=fun s hs=>by simpa using List.all_eq_true.1 hl s hs
theorem CA {r:Rd}{b:ac}{m:Nat}(hf:BIG≤fu)(h:cb r m)(hm:m≤700000)(hb:SmB b):aJ (vf fu r b) (fun x=>x.1.length≤1) (m+4):=by
 unfold vf
 refine (d96 h (by omega) (by decide)).bind fun nm r1 hnm hr1=>?_
 have hn:=qE (by rfl) nm hnm
 simp only
 rw [a6 hf hb.ntab,bs,eF]
 have h1:∀ (bl:Bool) (r':Rd),(bl=true→tabN b nm<b.tabs.length∧0 < (tabT b nm).rows.length)→cb r' (m+2)→aJ (f0 fu b (nm,r1) (mV b nm) bl r') (fun x=>x.1.length≤1) (m+4):=fun bl r' hbl hr'=>by
  unfold f0
  cases bl with
  | false=>exact (d73 hr' (by omega) (by decide)).bind fun x r2 _ hr2=>.pure hn (hr2.mono (by omega))
  | true=>
   obtain ⟨hk,h0⟩:=hbl rfl
   rw [aK hk]
   simp only
   rw [inR hk,ct,ct,tn,aV]
   refine (d74 hr' (by omega)).bind fun q r2 hq hr2=>?_
   have hi:=ue hq h0
   simp only [hi.1,ct]
   exact .pure hn (hr2.mono (by omega))
 by_cases hk:tabN b nm<b.tabs.length
 case neg=>rw [B_f hk,cf];exact h1 false _ (fun e=>by cases e) (hr1.mono (by omega))
 rw [B_t hk,ct,aK hk]
 rw [aK hk] at h1
 rw [ltR hk,b_,ct,tn,aV]
 by_cases h0:0 < (tabT b nm).rows.length
 ·rw [dt (show (0:Int) < ((tabT b nm).rows.length:Int) by omega),ct]
  exact (d74 hr1 (by omega)).bind fun q r2 _ hr2=>h1 _ _ (fun _=>⟨hk,h0⟩) hr2
 ·rw [df (show ¬ (0:Int) < ((tabT b nm).rows.length:Int) by omega),cf]
  exact h1 false _ (fun e=>by cases e) (hr1.mono (by omega))
theorem nz {b:ac}{c:Int}(h:c≠0):((b,c):ac×Int).2≠0:=h
theorem sb {b:ac}{nm:List UInt8}{s:List Col}(h:¬ ah b):tableBB b nm s=(nilB,1):=if_neg h
theorem tableBB_cases {b:ac}(h:ah b)(nm:List UInt8)(s:List Col):((tableBB b nm s).1=b∧(tableBB b nm s).2≠0)∨(am nm∧¬ tabN b nm<b.tabs.length∧ak s∧b.tabs.length≠3∧tableBB b nm s=(fM b nm s,0)):=by
 unfold tableBB l8
 rw [if_pos h]
 by_cases h1:¬ am nm∨tabN b nm<b.tabs.length∨¬ ak s
 ·rw [if_pos h1];exact .inl ⟨rfl,nz (by decide)⟩
 rw [if_neg h1]
 by_cases h2:b.tabs.length=3
 ·rw [if_pos h2];exact .inl ⟨rfl,nz (by decide)⟩
 rw [if_neg h2]
 exact .inr ⟨c_ fun hh=>h1 (.inl hh),fun hh=>h1 (.inr (.inl hh)),c_ fun hh=>h1 (.inr (.inr hh)),h2,rfl⟩
theorem tZ {b:ac}{l:aj}(h:¬ ah b):linkBB b l=(nilB,1):=if_neg h
theorem linkBB_cases {b:ac}(h:ah b)(l:aj):((linkBB b l).1=b∧(linkBB b l).2≠0)∨(aq b l∧¬ bz b l.from_ l.col∧ao b l∧b.links.length≠4∧linkBB b l=(dB b l,0)):=by
 unfold linkBB sy
 rw [if_pos h]
 by_cases h1:¬ aq b l∨bz b l.from_ l.col
 ·rw [if_pos h1];exact .inl ⟨rfl,nz (by decide)⟩
 rw [if_neg h1]
 by_cases h2:ao b l
 case neg=>rw [if_pos h2];exact .inl ⟨rfl,nz (by decide)⟩
 rw [if_neg (fun hh=>hh h2)]
 by_cases h3:b.links.length=4
 ·rw [if_pos h3];exact .inl ⟨rfl,nz (by decide)⟩
 rw [if_neg h3]
 exact .inr ⟨c_ fun hh=>h1 (.inl hh),fun hh=>h1 (.inr hh),h2,h3,rfl⟩
theorem writeB_cases (b:ac)(k:Nat)(t:ab×Int):((dp b k t).1=b∧(dp b k t).2≠0)∨(t.2=0∧dp b k t=(aQ b k t.1,0)):=by
 unfold dp
 by_cases h1:t.2=0
 case neg=>rw [if_pos h1];exact .inl ⟨rfl,h1⟩
 rw [if_neg (fun hh=>hh h1)]
 by_cases h2:yn (aQ b k t.1)
 ·rw [if_pos h2];exact .inr ⟨h1,rfl⟩
 ·rw [if_neg h2];exact .inl ⟨rfl,nz (by decide)⟩
theorem setBB_cases {b:ac}(h:ah b)(nm:List UInt8)(id:Int)(xs:List Set):((kI b nm id xs).1=b∧(kI b nm id xs).2≠0)∨(tabN b nm<b.tabs.length∧(setT (tabT b nm) id xs).2=0∧kI b nm id xs=(aQ b (tabN b nm) (setT (tabT b nm) id xs).1,0)):=by
 unfold kI ww
 rw [if_pos h]
 by_cases hk:tabN b nm<b.tabs.length
 case neg=>rw [if_neg hk];exact .inl ⟨rfl,nz (by decide)⟩
 rw [if_pos hk]
 rcases writeB_cases b (tabN b nm) (setT (tabT b nm) id xs) with g|g
 ·exact .inl g
 ·exact .inr ⟨hk,g⟩
theorem putBB_cases {b:ac}(h:ah b)(nm:List UInt8)(xs:List Set):((kL b nm xs).1=b∧(kL b nm xs).2≠0)∨(tabN b nm<b.tabs.length∧(putT (tabT b nm) xs).2=0∧kL b nm xs=(aQ b (tabN b nm) (putT (tabT b nm) xs).1,0)):=by
 unfold kL wF
 rw [if_pos h]
 by_cases hk:tabN b nm<b.tabs.length
 case neg=>rw [if_neg hk];exact .inl ⟨rfl,nz (by decide)⟩
 rw [if_pos hk]
 rcases writeB_cases b (tabN b nm) (putT (tabT b nm) xs) with g|g
 ·exact .inl g
 ·exact .inr ⟨hk,g⟩
theorem sh {b:ac}{nm:List UInt8}{id:Int}{xs:List Set}(h:av b)(hx:SmX xs):av (kI b nm id xs).1:=by
 unfold kI
 rw [if_pos h.ok];exact og h hx
theorem sj {b:ac}{nm:List UInt8}{xs:List Set}(h:av b)(hx:SmX xs):av (kL b nm xs).1:=by
 unfold kL
 rw [if_pos h.ok];exact om h hx
theorem nV {b:ac}{nm:List UInt8}{c:aa}(h:av b)(hc:iQ c):av (cN b nm c).1:=by
 unfold cN
 rw [if_pos h.ok];exact fL h hc
theorem ss {b:ac}{nm:List UInt8}{id:Int}(h:av b):av (kS b nm id).1:=by
 unfold kS
 rw [if_pos h.ok];exact kR h
end Go.Proofs.YtganfdhmkdehlaaGreatDoor
