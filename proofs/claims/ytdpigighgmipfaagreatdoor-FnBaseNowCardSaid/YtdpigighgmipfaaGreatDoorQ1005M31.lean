/- What is drawn: bases. Nothing fails, and all is small. -/
import Derived.Test.YtdpigighgmipfaaGreatDoorQ1005M30
set_option linter.all false
namespace Go.Proofs.YtdpigighgmipfaaGreatDoor
open Go Go.HL
variable {fu:Nat}
theorem o62a:@f62a=@f62:=by
 have h:∀ fu s n,f62a_l1 fu s n=f62_l1 fu s n:=fun fu s n=>by
  induction n with
  | zero=>rfl
  | succ n ih=>funext i x r;rw [f62a_l1,f62_l1,ih];rfl
 funext fu r s
 unfold f62a f62
 rw [h]
theorem o108:@f108o=@f108:=by
 have h:∀ t id n i,f108o_l1 t id n i=f108_l1 t id n i:=fun t id n=>by
  induction n with
  | zero=>intro i;rfl
  | succ n ih=>intro i;rw [f108o_l1,f108_l1,ih]
 funext fu t id
 unfold f108o f108
 rw [h]
theorem o125a:@f125a=@f125:=by
 have h:∀ fu n,f125a_l1 fu n=f125_l1 fu n:=fun fu n=>by
  induction n with
  | zero=>rfl
  | succ n ih=>funext i x r;rw [f125a_l1,f125_l1,ih,o108];rfl
 funext fu r
 unfold f125a f125
 simp only [h]
structure BentT (n:Nat) (t:Table):Prop where
 sm:SmT t
 f:t.first.length≤n
 c:t.changes.length≤n
 r:t.rows.length≤n
 v:∀ k,k<t.rows.length→(t.rows.getD k default).vals.length≤n
theorem BentT.mono {n n':Nat}{t:Table}(h:BentT n t)(hn:n≤n'):BentT n' t:=⟨h.sm,Nat.le_trans h.f hn,Nat.le_trans h.c hn,Nat.le_trans h.r hn,fun k hk=>Nat.le_trans (h.v k hk) hn⟩
theorem BentT.set {n n':Nat}{t:Table}(h:BentT n t)(hn:n≤n'){k:Nat}{r:Row}(hr:SmR r.vals)(hl:r.vals.length≤n'):BentT n' ⟨t.first,t.changes,t.rows.set k r,t.next⟩:=⟨smt_set h.sm hr,Nat.le_trans h.f hn,Nat.le_trans h.c hn,by show (t.rows.set k r).length≤n';rw [List.length_set];exact Nat.le_trans h.r hn,fun j hj=>by
 rcases List.mem_or_eq_of_mem_set (getD_mem (d:=(default:Row)) hj) with hm|hm
 ·obtain ⟨i,hi,e⟩:=List.getElem_of_mem hm
  have:=h.v i hi
  rw [getD_lt hi,e] at this
  exact Nat.le_trans this hn
 ·rw [hm];exact hl⟩
theorem d93b {r:Rd}{t:Table}{m N:Nat}(hf:BIG≤fu)(h:RdOK r m)(hm:m≤600000)(ht:BentT N t)(hN:N≤500):Draws (f93 fu r t) (BentT (N+4)) (m+40):=by
 have hs:=ht.sm
 have h8:=ht.r
 have hc8:=ht.c
 have hf5:=ht.f
 have hle:N≤N+4:=by omega
 unfold f93 f93_j1
 rw [f42_is hf hs,bs]
 refine (d74 h (by omega)).bind fun q r1 hq hr1=>?_
 have hend:Draws (some (t,r1)) (BentT (N+4)) (m+40):=.pure (ht.mono hle) (hr1.mono (by omega))
 simp only
 cases decide (q=0) with
 | true=>
  refine (d123 hr1 (by omega) hs.first (by omega)).bind fun s1 r2 hs1 hr2=>?_
  refine (d123 hr2 (by omega) hs1.1 (by omega)).bind fun s2 r3 hs2 hr3=>?_
  refine (d123 hr3 (by omega) hs2.1 (by omega)).bind fun s3 r4 hs3 hr4=>?_
  exact (d123 hr4 (by omega) hs3.1 (by omega)).bind fun s4 r5 hs4 hr5=>.pure ⟨⟨hs4.1,hs.cs,hs.nrow,hs.rows⟩,(by have h1:=hs1.2;have h2:=hs2.2;have h3:=hs3.2;have h4:=hs4.2;show s4.length≤_;omega),Nat.le_trans hc8 hle,Nat.le_trans h8 hle,fun k hk=>Nat.le_trans (ht.v k hk) hle⟩ (hr5.mono (by omega))
 | false=>
 cases decide (q=1) with
 | true=>
  simp only [ct,cf]
  by_cases h0:0<t.changes.length
  ·rw [dt (show (0:Int) < (t.changes.length:Int) by omega),show (decide ((0:Int)≤1)&&decide ((1:Int)≤(t.changes.length:Int))&&decide ((t.changes.length:Int)≤(t.changes.length:Int)))=true by simp;omega]
   refine .pure ⟨⟨hs.first,⟨?_,fun c hc=>?_⟩,hs.nrow,hs.rows⟩,Nat.le_trans hf5 hle,?_,Nat.le_trans h8 hle,fun k hk=>Nat.le_trans (ht.v k hk) hle⟩ (hr1.mono (by omega))
   ·simp;omega
   ·refine hs.cs.all c ?_
    have:=List.mem_of_mem_drop hc
    exact List.mem_of_mem_take this
   ·simp;omega
  ·rw [df (show ¬ (0:Int) < (t.changes.length:Int) by omega)];exact hend
 | false=>
 cases decide (q=2) with
 | true=>
  simp only [ct,cf]
  by_cases h0:0<t.rows.length
  ·rw [dt (show (0:Int) < (t.rows.length:Int) by omega),ct]
   refine (d74 hr1 (by omega)).bind fun k r2 hk hr2=>?_
   have hi:=idxR hk h0
   refine (d73 hr2 (by omega) (by simp)).bind fun x r3 hx hr3=>?_
   simp only [hi.1,ct]
   exact .pure (ht.set hle (hs.rows _ hi.2) (Nat.le_trans (ht.v _ hi.2) hle)) (hr3.mono (by omega))
  ·rw [df (show ¬ (0:Int) < (t.rows.length:Int) by omega)];exact hend
 | false=>
 cases decide (q=3) with
 | true=>
  simp only [ct,cf]
  by_cases h0:0<t.rows.length
  ·rw [dt (show (0:Int) < (t.rows.length:Int) by omega),ct,show decide ((0:Int)≤0)=true from rfl,Bool.and_self,ct,cap (by rw [List.length_singleton];omega),ct]
   refine .pure ⟨⟨hs.first,hs.cs,by simp;omega,fun j hj=>?_⟩,Nat.le_trans hf5 hle,Nat.le_trans hc8 hle,by simp;omega,fun j hj=>?_⟩ (hr1.mono (by omega))
   ·rw [getD_lt hj]
    rcases List.mem_append.1 (List.getElem_mem hj) with hm|hm
    ·exact hs.row hm
    ·simp only [List.mem_singleton] at hm
     rw [hm]
     exact hs.rows 0 h0
   ·rcases List.mem_append.1 (getD_mem (d:=(default:Row)) hj) with hm|hm
    ·obtain ⟨i,hi,e⟩:=List.getElem_of_mem hm
     have:=ht.v i hi
     rw [getD_lt hi,e] at this
     exact Nat.le_trans this hle
    ·simp only [List.mem_singleton] at hm
     rw [hm]
     exact Nat.le_trans (ht.v 0 h0) hle
  ·rw [df (show ¬ (0:Int) < (t.rows.length:Int) by omega)];exact hend
 | false=>
 cases decide (q=4) with
 | true=>exact (d73 hr1 (by omega) (by decide)).bind fun x r3 hx hr3=>.pure ⟨⟨hs.first,hs.cs,hs.nrow,hs.rows⟩,Nat.le_trans hf5 hle,Nat.le_trans hc8 hle,Nat.le_trans h8 hle,fun k hk=>Nat.le_trans (ht.v k hk) hle⟩ (hr3.mono (by omega))
 | false=>
 cases decide (q=5) with
 | true=>
  simp only [ct,cf]
  by_cases h0:0<t.rows.length
  ·rw [dt (show (0:Int) < (t.rows.length:Int) by omega),ct]
   refine (d74 hr1 (by omega)).bind fun k r2 hk hr2=>?_
   have hi:=idxR hk h0
   have hr:=hs.rows _ hi.2
   have hvl:=ht.v _ hi.2
   simp only [hi.1,ct]
   rw [cap (by rw [List.length_singleton];omega),ct]
   refine .pure (ht.set hle ⟨?_,fun v hv=>?_⟩ ?_) (hr2.mono (by omega))
   ·show ((t.rows.getD k.toNat default).vals++[_]).length≤1000
    rw [List.length_append,List.length_singleton];omega
   ·rcases List.mem_append.1 hv with hv|hv
    ·exact hr.all v hv
    ·simp only [List.mem_singleton] at hv;subst hv;exact nul_ok.sm
   ·show ((t.rows.getD k.toNat default).vals++[_]).length≤_
    rw [List.length_append,List.length_singleton];omega
  ·rw [df (show ¬ (0:Int) < (t.rows.length:Int) by omega)];exact hend
 | false=>
 cases decide (q=6) with
 | false=>exact hend
 | true=>
  have h2:∀ b:Bool,(b=true→0<t.rows.length∧0 < (t.rows.getD 0 default).vals.length)→Draws (f93_j2 fu t (q,r1) b) (BentT (N+4)) (m+40):=fun b hb=>by
   unfold f93_j2 f93_j1
   cases b with
   | false=>exact hend
   | true=>
    have:=hb rfl
    rw [ct,dt (show (0:Int) < (t.rows.length:Int) by omega),show decide ((0:Int)≤0)=true from rfl,Bool.and_self,ct]
    refine (d97 hr1 (by omega)).bind fun v r3 hv hr3=>?_
    simp only [Int.toNat_zero,dt (show (0:Int) < ((t.rows.getD 0 default).vals.length:Int) by omega),show decide ((0:Int)≤0)=true from rfl,Bool.and_self,ct]
    have hr:=hs.rows 0 this.1
    have hv0:=ht.v 0 this.1
    refine .pure (ht.set hle ⟨by have:=hr.len;simpa using this,fun u hu=>?_⟩ (by show (List.set _ _ _).length≤_;rw [List.length_set];omega)) (hr3.mono (by omega))
    rcases List.mem_or_eq_of_mem_set hu with hu|hu
    ·exact hr.all u hu
    ·subst hu;exact hv
  simp only [ct,cf]
  by_cases h0:0<t.rows.length
  ·rw [dt (show (0:Int) < (t.rows.length:Int) by omega),ct,show decide ((0:Int)≤0)=true from rfl,Bool.and_self,ct]
   refine h2 _ fun hb=>⟨h0,?_⟩
   have:=of_decide_eq_true hb
   simp only [Int.toNat_zero] at this
   omega
  ·rw [df (show ¬ (0:Int) < (t.rows.length:Int) by omega)]
   exact h2 false fun h=>by cases h
theorem Good.bent {t:Table}(h:Good t):BentT 8 t:=⟨h.sm,by have:=h.ok.first.hi;omega,h.ok.nch,h.ok.nrow,fun k hk=>by
 have hg:=h.ok.rows k hk
 have hvl:=hg.was.len
 have hsl:=(h.rt.okAt (t.rows.getD k default).ver.toNat).hi
 omega⟩
theorem d1170 {r:Rd}{m:Nat}(hf:BIG≤fu)(h:RdOK r m)(hm:m≤700000):Draws (f1170 fu r) SmS (m+30):=by
 unfold f1170 f1170_j1
 rw [o125a]
 refine (d125 hf h (by omega)).bind fun s r1 hs hr1=>?_
 have hlo:=hs.lo
 have hhi:=hs.hi
 have e:(decide (0≤(1:Int))&&decide ((1:Int)≤(List.length s:Int)))=true:=by simp;omega
 simp only [e,ct]
 refine (d74 hr1 (by omega)).bind fun q r2 hq hr2=>?_
 simp only
 rw [cap (by rw [List.length_take,List.length_singleton];omega),ct]
 refine .pure ⟨by simp;omega,fun c hc=>?_⟩ (hr2.mono (by omega))
 rcases List.mem_append.1 hc with hc|hc
 ·exact hs.sm.all c (List.mem_of_mem_take hc)
 ·simp only [List.mem_singleton] at hc
  subst hc
  exact ⟨by show ([107]:List UInt8).length≤1000;decide,nul_ok.sm⟩
theorem d1081 {r:Rd}{b:Base}{m:Nat}(hf:BIG≤fu)(h:RdOK r m)(hm:m≤700000)(hb:TabsG b):Draws (f1081 fu r b) (fun _=>True) (m+10):=by
 have h3:∀ (l:Link) (r':Rd),RdOK r' (m+7)→Draws (f1081_j2 fu l r') (fun _=>True) (m+10):=fun l r' hr'=>by
  unfold f1081_j2 f1081_j3
  refine (d74 hr' (by omega)).bind fun q r2 hq hr2=>?_
  simp only
  cases decide (q=0) with
  | true=>exact (d73 hr2 (by omega) (by decide)).bind fun x r3 _ hr3=>.pure trivial (hr3.mono (by omega))
  | false=>exact .pure trivial (hr2.mono (by omega))
 unfold f1081 f106
 refine (d96 h (by omega) (by decide)).bind fun x1 r1 _ hr1=>?_
 rw [bs]
 refine (d96 hr1 (by omega) (by decide)).bind fun x2 r2 _ hr2=>?_
 refine (d96 hr2 (by omega) (by decide)).bind fun x3 r3 _ hr3=>?_
 refine (d74 hr3 (by omega)).bind fun q r4 hq hr4=>?_
 rw [f1062_is hf hb.sm.ntab,bs,tabI_ge]
 simp only
 by_cases hk:tabN b x1<b.tabs.length
 case neg=>
  rw [B_f hk,cf]
  unfold f1081_j1
  exact h3 _ _ (hr4.mono (by omega))
 rw [B_t hk,ct]
 refine (d74 hr4 (by omega)).bind fun q2 r5 _ hr5=>?_
 unfold f1081_j1
 simp only
 cases decide (0<q2) with
 | false=>exact h3 _ _ (hr5.mono (by omega))
 | true=>
  have g:=(hb.tab hk).rt
  have hlo:=g.okLast.lo
  rw [ct,tabI_lt hk,inR hk,ct,tn,tabT_at,f53_is hf g,bs]
  refine (d74 hr5 (by omega)).bind fun q3 r6 hq3 hr6=>?_
  have hi:=idxR hq3 hlo
  simp only [hi.1,ct]
  exact h3 _ _ (hr6.mono (by omega))
theorem smx_set {xs:List Set}{k:Nat}{x:Set}(h:SmX xs)(hx:SmV x.val):SmX (xs.set k x):=⟨by have:=h.len;simpa using this,fun y hy=>by
 rcases List.mem_or_eq_of_mem_set hy with hy|hy
 ·exact h.all y hy
 ·subst hy;exact hx⟩
theorem l1102_2 {b:Base}{k:Nat}(hf:BIG≤fu)(h:GoodB b)(hk:k<b.tabs.length){i L M:Nat}(hiL:i < L){rec1:Int→List Set→Rd→Option (List Set×Rd)}{m0:Nat}(hM:m0≤700000)
     (hrec:∀ xs r,SmX xs→xs.length=L→RdOK r m0→Draws (rec1 (IntKind.i64.wrap ((i:Int)+1)) xs r) SmX M) :
     ∀ (c n j:Nat) (xs:List Set) (r:Rd),j+c=b.links.length→c<n→SmX xs→xs.length=L→RdOK r (m0-2*c)→2*c≤m0→Draws (f1102_l2 fu b (k:Int) (i:Int) rec1 n (j:Int) xs r) SmX M:=by
 intro c
 induction c with
 | zero=>
  intro n j xs r hj hn hx hl hr hm
  obtain ⟨n,rfl⟩:∃ z,n=z+1:=⟨n-1,by omega⟩
  have:j=b.links.length:=by omega
  subst this
  rw [f1102_l2,nlt,cf]
  exact hrec xs r hx hl (hr.mono (by omega))
 | succ c ih=>
  intro n j xs r hj hn hx hl hr hm
  obtain ⟨n,rfl⟩:∃ z,n=z+1:=⟨n-1,by omega⟩
  have hjl:j<b.links.length:=by omega
  have hfit:=(h.ok.links j hjl).fits
  have ej:=succI hjl (show b.links.length≤BIG by have:=h.sm.nlink;unfold BIG;omega)
  have h8:∀ (ys:List Set) (r':Rd),SmX ys→ys.length=L→RdOK r' (m0-2*c)→Draws (f1102_j8 (j:Int) rec1 (f1102_l2 fu b (k:Int) (i:Int) rec1 n) ys r') SmX M:=fun ys r' hy hyl hr'=>by
   unfold f1102_j8
   rw [ej]
   exact ih n (j+1) ys r' (by omega) (by omega) hy hyl hr' (by omega)
  have hix:(decide (0≤(i:Int))&&decide ((i:Int) < (List.length xs:Int)))=true:=inR (by omega)
  have hxi:SmV (xs.getD i default).val:=hx.get (by omega)
  have h7:∀ (bl:Bool) (r':Rd),RdOK r' (m0-2*c-1)→Draws (f1102_j7 fu b (i:Int) (j:Int) xs (tabN b (b.links.getD j default).to:Int) rec1 (f1102_l2 fu b (k:Int) (i:Int) rec1 n) bl r') SmX M:=fun bl r' hr'=>by
   unfold f1102_j7
   cases bl with
   | false=>exact h8 xs r' hx hl (hr'.mono (by omega))
   | true=>
    rw [ct,inR hfit.dst,ct,tn,tabT_at]
    by_cases h0:0 < (tabT b (b.links.getD j default).to).rows.length
    ·rw [dt (show (0:Int) < ((tabT b (b.links.getD j default).to).rows.length:Int) by omega),ct]
     refine (d74 hr' (by omega)).bind fun q r2 hq hr2=>?_
     have hi:=idxR hq h0
     simp only [hi.1,hix,ct,tn]
     exact h8 _ r2 (smx_set hx hxi) (by rw [List.length_set];exact hl) (hr2.mono (by omega))
    ·rw [df (show ¬ (0:Int) < ((tabT b (b.links.getD j default).to).rows.length:Int) by omega),cf]
     refine (d74 hr' (by omega)).bind fun q r2 hq hr2=>?_
     simp only [hix,tn]
     cases decide (q=0) with
     | true=>exact h8 _ r2 (smx_set hx nul_ok.sm) (by rw [List.length_set];exact hl) (hr2.mono (by omega))
     | false=>exact h8 _ r2 hx hl (hr2.mono (by omega))
  have hr0:RdOK r (m0-2*c-1):=hr.mono (by omega)
  rw [f1102_l2,ltR hjl,ct,ge0,Bool.and_self,ct,tn,f1062_is hf h.sm.ntab,bs,tabI_lt hfit.dst,ltR hk,ge0,Bool.and_self,ct,tn,tn,ltR (show i<xs.length by omega)]
  cases decide ((b.links.getD j default).from_=(b.tabs.getD k default).name) with
  | false=>exact h7 false r hr0
  | true=>
   simp only [ct,ge0,Bool.and_self]
   cases decide ((b.links.getD j default).col=(xs.getD i default).name) with
   | false=>exact h7 false r hr0
   | true=>
    simp only [ct]
    cases decide ((xs.getD i default).val.kind=1) with
    | false=>exact h7 false r hr0
    | true=>
     exact (d74 hr (by omega)).bind fun q r2 hq hr2=>h7 _ r2 (hr2.mono (by omega))
theorem l1102_1 {b:Base}{k:Nat}(hf:BIG≤fu)(h:GoodB b)(hk:k<b.tabs.length){L:Nat}(hL:L≤1000) :
     ∀ (c n i m:Nat) (xs:List Set) (r:Rd),i+c=L→c<n→SmX xs→xs.length=L→RdOK r m→m+8*c≤700000→Draws (f1102_l1 fu b (k:Int) n (i:Int) xs r) SmX (m+8*c):=by
 intro c
 induction c with
 | zero=>
  intro n i m xs r hi hn hx hl hr hm
  obtain ⟨n,rfl⟩:∃ z,n=z+1:=⟨n-1,by omega⟩
  have:i=xs.length:=by omega
  subst this
  rw [f1102_l1,nlt,cf]
  exact .pure hx (hr.mono (by omega))
 | succ c ih=>
  intro n i m xs r hi hn hx hl hr hm
  obtain ⟨n,rfl⟩:∃ z,n=z+1:=⟨n-1,by omega⟩
  have hiL:i < L:=by omega
  have h4:=h.ok.nlink
  have ei:=succI hiL (show L≤BIG by unfold BIG;omega)
  rw [f1102_l1,ltR (show i<xs.length by omega),ct]
  refine (l1102_2 (M:=m+8 * (c+1)) hf h hk hiL (m0:=m+8) (by omega) (fun ys r' hy hyl hr'=>?_) b.links.length fu 0 xs r (by omega) (by unfold BIG at hf;omega) hx hl (hr.mono (by omega)) (by omega))
  rw [ei]
  exact (ih n (i+1) (m+8) ys r' (by omega) (by omega) hy hyl hr' (by omega)).mono (fun _ h=>h) (by omega)
theorem d1102 {r:Rd}{b:Base}{k m:Nat}(hf:BIG≤fu)(h:RdOK r m)(hm:m≤600000)(hb:GoodB b)(hk:k<b.tabs.length):Draws (f1102 fu r b (k:Int)) SmX (m+8026):=by
 have g:=hb.tab hk
 have hhi:=g.rt.okLast.hi
 unfold f1102
 rw [inR hk,ct,tn]
 show Draws ((f53 fu (tabK b k)).bind _) _ _
 rw [f53_is hf g.rt,bs,o62a]
 refine (d62 hf (by omega) h (by omega)).bind fun xs r1 hx hr1=>?_
 have hl:=hx.len
 exact (l1102_1 hf hb hk hl xs.length fu 0 (m+26) xs r1 (by omega) (by unfold BIG at hf;omega) hx rfl hr1 (by omega)).mono (fun _ h=>h) (by omega)
theorem tableBB_good {b:Base}{nm:List UInt8}{s:List Col}(h:GoodB b):GoodB (tableBB b nm s).1:=by
 unfold tableBB
 rw [if_pos h.ok];exact tableX_good h
theorem linkBB_good {b:Base}{l:Link}(h:GoodB b):GoodB (linkBB b l).1:=by
 unfold linkBB
 rw [if_pos h.ok];exact linkX_good h
theorem f142_one {n:Int}:∃ x:Int,f142 1 n=some x∧1≤x∧(1≤n→x=n):=by
 unfold f142
 by_cases h:n<1
 ·rw [dt h];exact ⟨1,rfl,Int.le_refl _,fun hh=>by omega⟩
 ·rw [df h];exact ⟨n,rfl,by omega,fun _=>rfl⟩
theorem d1171 {r:Rd}{b:Base}{m:Nat}(hf:BIG≤fu)(h:RdOK r m)(hm:m≤500000)(hb:GoodB b):Draws (f1171 fu r b) GoodB (m+8060):=by
 unfold f1171
 obtain ⟨x,hx,hx1,hx2⟩:=f142_one (n:=(List.length b.tabs:Int))
 rw [hx,bs]
 refine (d74 h (by omega)).bind fun k0 r1 hk0 hr1=>?_
 by_cases h0:b.tabs.length=0
 ·rw [dt (show (List.length b.tabs:Int)=0 by omega),ct]
  refine (d125 hf hr1 (by omega)).bind fun s r2 hs hr2=>?_
  rw [f1017_is hf hb.sm (by decide) hs.sm,bs]
  exact .pure (tableBB_good hb) (hr2.mono (by omega))
 rw [df (show ¬ (List.length b.tabs:Int)=0 by omega),cf]
 have hxe:=hx2 (by omega)
 obtain ⟨k,rfl⟩:∃ k:Nat,k0=(k:Int):=⟨k0.toNat,by have:=hk0.1;omega⟩
 have hk:k<b.tabs.length:=by have:=hk0.2 hx1;omega
 have g:=hb.tab hk
 have hhi:=g.rt.okLast.hi
 have eT:((b.tabs.getD ((k:Int)).toNat default).table)=tabK b k:=by rw [tn];rfl
 have eN:tabN b (b.tabs.getD ((k:Int)).toNat default).name=k:=by rw [tn];exact hb.ok.place k hk
 have hnm:(b.tabs.getD ((k:Int)).toNat default).name.length≤1000:=by rw [tn];exact hb.sm.names k hk
 simp only [inR hk,ct]
 obtain ⟨y,hy,-,-⟩:=f142_one (n:=IntKind.i64.wrap (((b.tabs.getD ((k:Int)).toNat default).table).next-1))
 rw [hy,bs]
 refine (d74 hr1 (by omega)).bind fun q9 r2 hq9 hr2=>?_
 have h3:∀ (b':Base) (r':Rd),GoodB b'→RdOK r' (m+8060)→Draws (f1171_j3 b' r') GoodB (m+8060):=fun b' r' hb' hr'=>.pure hb' hr'
 have h4:∀ (id:Int) (q14:Int×Rd) (bl:Bool),RdOK q14.2 (m+6)→Draws (f1171_j4 fu b ((k:Int),r1) id q14 bl) GoodB (m+8060):=fun id q14 bl hr'=>by
  unfold f1171_j4
  simp only [inR hk,ct]
  cases bl with
  | true=>
   refine (d1102 hf hr' (by omega) hb hk).bind fun xs r3 hx hr3=>?_
   rw [f1105_is hf hb hx,bs]
   exact h3 _ _ (setX_good hb hx) (hr3.mono (by omega))
  | false=>
   rw [cf]
   cases decide (q14.1=4) with
   | true=>
    rw [ct,eT,f53_is hf g.rt,bs]
    refine (d70 hf (by omega) hr' (by omega)).bind fun c r3 hc hr3=>?_
    rw [f1100_is hf hb hc,bs]
    exact h3 _ _ (changeX_good hb hc) (hr3.mono (by omega))
   | false=>
    cases decide (q14.1=5) with
    | true=>
     refine (d96 hr' (by omega) (by decide)).bind fun nm r3 hnm hr3=>?_
     refine (d125 hf hr3 (by omega)).bind fun s r4 hs hr4=>?_
     rw [f1017_is hf hb.sm (sm_short (by rfl) nm hnm) hs.sm,bs]
     exact h3 _ _ (tableBB_good hb) (hr4.mono (by omega))
    | false=>
     refine (d1102 hf hr' (by omega) hb hk).bind fun xs r3 hx hr3=>?_
     rw [f1109_is hf hb hx,bs]
     exact h3 _ _ (putX_good hb hx) (hr3.mono (by omega))
 have h2:∀ (id:Int) (r':Rd),RdOK r' (m+5)→Draws (f1171_j2 fu b ((k:Int),r1) id r') GoodB (m+8060):=fun id r' hr'=>by
  unfold f1171_j2
  refine (d74 hr' (by omega)).bind fun q r3 hq hr3=>?_
  simp only [inR hk,ct]
  cases decide (q=0) with
  | true=>
   refine (d1081 hf hr3 (by omega) hb.g).bind fun l r4 _ hr4=>?_
   rw [f1025_is hf hb.sm,bs]
   exact h3 _ _ (linkBB_good hb) (hr4.mono (by omega))
  | false=>
   cases decide (q=1) with
   | true=>
    simp only [ct,cf]
    rw [f1091_is hf hb,bs]
    exact h3 _ _ (offX_good hb) (hr3.mono (by omega))
   | false=>
    cases decide (q=2) with
    | true=>exact h4 id (q,r3) true hr3
    | false=>exact h4 id (q,r3) _ hr3
 simp only [eT]
 have h1:∀ (bl:Bool) (r':Rd),0 < (tabK b k).rows.length∨bl=false→RdOK r' (m+4)→Draws (f1171_j1 fu b ((k:Int),r1) (q9,r2) bl r') GoodB (m+8060):=fun bl r' hbl hr'=>by
  unfold f1171_j1
  cases bl with
  | false=>exact h2 _ _ (hr'.mono (by omega))
  | true=>
   have h0r:=hbl.resolve_right (by simp)
   simp only [ct,eT]
   refine (d74 hr' (by omega)).bind fun q r3 hq hr3=>?_
   have hi:=idxR hq h0r
   simp only [hi.1,ct]
   exact h2 _ _ hr3
 by_cases h0r:0 < (tabK b k).rows.length
 ·rw [dt (show (0:Int) < ((tabK b k).rows.length:Int) by omega),ct]
  exact (d74 hr2 (by omega)).bind fun q r3 hq hr3=>h1 _ _ (.inl h0r) (hr3.mono (by omega))
 ·rw [df (show ¬ (0:Int) < ((tabK b k).rows.length:Int) by omega),cf]
  exact h1 false _ (.inr rfl) (hr2.mono (by omega))
theorem l1113 (hf:BIG≤fu):∀ (j n m:Nat) (b:Base) (r:Rd),j<n→RdOK r m→m+8060*j≤400000→GoodB b→Draws (f1113_l1 fu n (j:Int) b r) GoodB (m+8060*j):=by
 intro j
 induction j with
 | zero=>
  intro n m b r hn hr hm hb
  obtain ⟨n,rfl⟩:∃ i,n=i+1:=⟨n-1,by omega⟩
  rw [f1113_l1,show decide ((0:Int) < ((0:Nat):Int))=false from rfl,cf,f1059_is hf hb.sm]
  exact .pure hb hr
 | succ j ih=>
  intro n m b r hn hr hm hb
  obtain ⟨n,rfl⟩:∃ i,n=i+1:=⟨n-1,by omega⟩
  rw [f1113_l1,dt (show (0:Int) < ((j+1:Nat):Int) by omega),ct]
  refine (d1171 hf hr (by omega) hb).bind fun b' r' hb' hr'=>?_
  have e:IntKind.i64.wrap (((j+1:Nat):Int)-1)=(j:Int):=by rw [wrapI (by omega) (by omega)];omega
  simp only [e]
  exact (ih n (m+8060) b' r' (by omega) hr' (by omega) hb').mono (fun _ h=>h) (by omega)
theorem d1113 {r:Rd}{m:Nat}(hf:BIG≤fu)(h:RdOK r m)(hm:m≤100000):Draws (f1113 fu r) GoodB (m+226000):=by
 unfold f1113
 refine (d1170 hf h (by omega)).bind fun s r1 hs hr1=>?_
 show Draws ((f1017 fu nilB _ _).bind _) _ _
 rw [f1017_is hf nilB_sm (by decide) hs,bs]
 have g1:GoodB (tableBB nilB ([116]:List UInt8) s).1:=tableBB_good nilB_good
 generalize tableBB nilB ([116]:List UInt8) s=b1 at g1
 refine (d1170 hf hr1 (by omega)).bind fun s2 r2 hs2 hr2=>?_
 rw [f1017_is hf g1.sm (by decide) hs2,bs]
 have g2:GoodB (tableBB b1.1 ([117]:List UInt8) s2).1:=tableBB_good g1
 generalize tableBB b1.1 ([117]:List UInt8) s2=b2 at g2
 refine (d96 hr2 (by omega) (by decide)).bind fun x r3 _ hr3=>?_
 refine (d74 hr3 (by omega)).bind fun q r4 _ hr4=>?_
 simp only
 rw [f1025_is hf g2.sm,bs]
 have g3:GoodB (linkBB b2.1 (⟨([117]:List UInt8),([107]:List UInt8),x,IntKind.i64.wrap (1+q)⟩:Link)).1:=linkBB_good g2
 generalize linkBB b2.1 (⟨([117]:List UInt8),([107]:List UInt8),x,IntKind.i64.wrap (1+q)⟩:Link)=b3 at g3
 have h1:∀ (b:Base) (r':Rd),GoodB b→RdOK r' (m+66)→Draws (f1113_j1 fu b r') GoodB (m+226000):=fun b r' hb hr'=>by
  unfold f1113_j1
  refine (d73 hr' (by omega) (by decide)).bind fun y r5 hy hr5=>?_
  have hx2:∃ j:Nat,y=(j:Int)∧j≤28:=by
   have:=List.all_eq_true.1 (show ([8,14,20,28,4,0]:List Int).all (fun n=>decide (0≤n)&&decide (n≤28))=true from rfl) y hy
   rw [Bool.and_eq_true,decide_eq_true_eq,decide_eq_true_eq] at this
   exact ⟨y.toNat,by omega,by omega⟩
  obtain ⟨j,rfl,hj⟩:=hx2
  exact (l1113 hf j fu (m+67) b r5 (by unfold BIG at hf;omega) hr5 (by omega) hb).mono (fun _ h=>h) (by omega)
 refine (d74 hr4 (by omega)).bind fun q2 r5 _ hr5=>?_
 simp only
 cases decide (q2=0) with
 | false=>exact h1 _ _ g3 (hr5.mono (by omega))
 | true=>
  refine (d96 hr5 (by omega) (by decide)).bind fun y r6 _ hr6=>?_
  refine (d74 hr6 (by omega)).bind fun q3 r7 _ hr7=>?_
  simp only
  rw [f1025_is hf g3.sm,bs]
  exact h1 _ _ (linkBB_good g3) (hr7.mono (by omega))
theorem smb_name {b:Base}{k:Nat}{nm:List UInt8}(h:SmB b)(hk:k<b.tabs.length)(hn:nm.length≤1000):SmB ⟨b.tabs.set k { (b.tabs.getD k default) with name:=nm },b.links⟩:=by
 have e:∀ i,(b.tabs.set k { (b.tabs.getD k default) with name:=nm }).getD i default=if i=k then { (b.tabs.getD k default) with name:=nm } else b.tabs.getD i default:=fun i=>getD_set hk
 refine ⟨by show (List.set _ _ _).length≤1000;rw [List.length_set];exact h.ntab,h.nlink,fun i hi=>?_,fun i hi=>?_⟩
 ·have hi':i<b.tabs.length:=by simpa using hi
  show ((b.tabs.set k { (b.tabs.getD k default) with name:=nm }).getD i default).name.length≤1000
  rw [e]
  split
  ·exact hn
  ·exact h.names i hi'
 ·have hi':i<b.tabs.length:=by simpa using hi
  show SmT ((b.tabs.set k { (b.tabs.getD k default) with name:=nm }).getD i default).table
  rw [e]
  split
  ·exact h.tabs k hk
  ·exact h.tabs i hi'
theorem smb_two {b:Base}{x y:Tab}(h:SmB b)(hl:b.tabs.length≤900)(hx:x.name.length≤1000∧SmT x.table)(hy:y.name.length≤1000∧SmT y.table):SmB ⟨b.tabs++[x,y],b.links⟩:=by
 have key:∀ i,i < (b.tabs++[x,y]).length→((b.tabs++[x,y]).getD i default).name.length≤1000∧SmT ((b.tabs++[x,y]).getD i default).table:=fun i hi=>by
  rcases List.mem_append.1 (getD_mem (d:=(default:Tab)) hi) with hm|hm
  ·obtain ⟨j,hj,e⟩:=List.getElem_of_mem hm
   rw [← e,← getD_lt (d:=default) hj]
   exact ⟨h.names j hj,h.tabs j hj⟩
  ·simp only [List.mem_cons,List.not_mem_nil,or_false] at hm
   rcases hm with e|e
   ·rw [e];exact hx
   ·rw [e];exact hy
 exact ⟨by show (b.tabs++[x,y]).length≤1000;rw [List.length_append];simp;omega,h.nlink,fun i hi=>(key i hi).1,fun i hi=>(key i hi).2⟩
theorem d1112 {r:Rd}{b:Base}{m:Nat}(hf:BIG≤fu)(h:RdOK r m)(hm:m≤400000)(hb:GoodB b):Draws (f1112 fu r b) SmB (m+200):=by
 have hs:=hb.sm
 have h3:=hb.ok.ntab
 have h4l:=hb.ok.nlink
 unfold f1112 f1112_j1 f1112_j2 f1112_j3
 rw [f1059_is hf hs,bs]
 refine (d74 h (by omega)).bind fun q r1 hq hr1=>?_
 have hend:Draws (some (b,r1)) SmB (m+200):=.pure hs (hr1.mono (by omega))
 simp only
 cases decide (q=0) with
 | true=>
  rw [ct]
  by_cases h0:0<b.tabs.length
  case neg=>rw [df (show ¬ (0:Int) < (b.tabs.length:Int) by omega)];exact hend
  rw [dt (show (0:Int) < (b.tabs.length:Int) by omega),ct]
  refine (d74 hr1 (by omega)).bind fun k r2 hk hr2=>?_
  have hi:=idxR hk h0
  simp only [hi.1,ct]
  have g0:=(hb.tab hi.2).bent
  refine (d93b hf hr2 (by omega) g0 (by omega)).bind fun t1 r3 g1 hr3=>?_
  refine (d93b hf hr3 (by omega) g1 (by omega)).bind fun t2 r4 g2 hr4=>?_
  refine (d93b hf hr4 (by omega) g2 (by omega)).bind fun t3 r5 g3 hr5=>?_
  refine (d93b hf hr5 (by omega) g3 (by omega)).bind fun t4 r6 g4 hr6=>?_
  exact .pure (setTab_sm hs hi.2 g4.sm) (hr6.mono (by omega))
 | false=>
 cases decide (q=1) with
 | true=>
  simp only [ct,cf]
  by_cases h0:0<b.tabs.length
  case neg=>rw [df (show ¬ (0:Int) < (b.tabs.length:Int) by omega)];exact hend
  rw [dt (show (0:Int) < (b.tabs.length:Int) by omega),ct]
  refine (d96 hr1 (by omega) (by decide)).bind fun x r2 hx hr2=>?_
  simp only [show decide ((0:Int)≤0)=true from rfl,Bool.and_self,ct]
  exact .pure (smb_name hs h0 (sm_short (by rfl) x hx)) (hr2.mono (by omega))
 | false=>
 cases decide (q=2) with
 | true=>
  simp only [ct,cf]
  refine (d1081 hf hr1 (by omega) hb.g).bind fun l r2 _ hr2=>?_
  simp only
  rw [cap (by rw [List.length_singleton];omega),ct]
  exact .pure ⟨hs.ntab,by show (b.links++[l]).length≤1000;rw [List.length_append,List.length_singleton];omega,hs.names,hs.tabs⟩ (hr2.mono (by omega))
 | false=>
 cases decide (q=3) with
 | true=>
  simp only [ct,cf]
  by_cases h0:0<b.links.length
  case neg=>rw [df (show ¬ (0:Int) < (b.links.length:Int) by omega)];exact hend
  rw [dt (show (0:Int) < (b.links.length:Int) by omega),ct]
  refine (d73 hr1 (by omega) (by decide)).bind fun x r2 hx hr2=>?_
  simp only [show decide ((0:Int)≤0)=true from rfl,Bool.and_self,ct]
  exact .pure ⟨hs.ntab,by show (List.set _ _ _).length≤1000;rw [List.length_set];exact hs.nlink,hs.names,hs.tabs⟩ (hr2.mono (by omega))
 | false=>
 cases decide (q=4) with
 | true=>
  simp only [ct,cf]
  unfold f1112_j4 f1112_j3
  by_cases h0:0<b.tabs.length
  case neg=>rw [df (show ¬ (0:Int) < (b.tabs.length:Int) by omega)];exact hend
  rw [dt (show (0:Int) < (b.tabs.length:Int) by omega)]
  simp only [show decide ((0:Int)≤0)=true from rfl,Bool.and_self,ct,Int.toNat_zero]
  by_cases hr0:0 < (tabK b 0).rows.length
  ·have e:decide ((0:Int) < (((b.tabs.getD 0 default).table.rows).length:Int))=true:=dt (show (0:Int) < (((tabK b 0).rows).length:Int) by omega)
   rw [e]
   simp only [ct]
   have g:=hb.tab h0
   rw [o41a]
   have e2:f41 fu (b.tabs.getD 0 default).table ((b.tabs.getD 0 default).table.rows.getD 0 default).id=some (offT (tabK b 0) ((tabK b 0).rows.getD 0 default).id):=f41_is hf g.sm.nrow
   rw [e2,bs]
   exact .pure (setTab_sm hs h0 (off_sm g.sm)) (hr1.mono (by omega))
  ·have e:decide ((0:Int) < (((b.tabs.getD 0 default).table.rows).length:Int))=false:=df (show ¬ (0:Int) < (((tabK b 0).rows).length:Int) by omega)
   rw [e];exact hend
 | false=>
 cases decide (q=5) with
 | false=>exact hend
 | true=>
  simp only [ct,cf]
  refine (d125 hf hr1 (by omega)).bind fun s r2 hs2 hr2=>?_
  simp only
  rw [f124_new hf hs2,bs]
  refine (d125 hf hr2 (by omega)).bind fun s2 r3 hs3 hr3=>?_
  simp only
  rw [f124_new hf hs3,bs,cap (by show b.tabs.length+2≤100000;omega),ct]
  exact .pure (smb_two hs (by omega) ⟨by show ([120]:List UInt8).length≤1000;decide,(newT_good hs2).sm⟩ ⟨by show ([121]:List UInt8).length≤1000;decide,(newT_good hs3).sm⟩) (hr3.mono (by omega))
theorem d1050 {r:Rd}{m:Nat}(hf:BIG≤fu)(h:RdOK r m)(hm:m≤1000):Draws (f1050 fu r) SmB (m+226200):=by
 unfold f1050
 refine (d1113 hf h (by omega)).bind fun b r1 hb hr1=>?_
 exact (d1112 hf hr1 (by omega) hb).bind fun b' r2 hb' hr2=>.pure hb' (hr2.mono (by omega))
theorem d1096 {r:Rd}{b:Base}{m:Nat}(hf:BIG≤fu)(h:RdOK r m)(hm:m≤700000)(hb:SmB b):Draws (f1096 fu r b) (fun x=>x.1.length≤1000) (m+4):=by
 unfold f1096
 refine (d96 h (by omega) (by decide)).bind fun nm r1 hnm hr1=>?_
 have hn:=sm_short (by rfl) nm hnm
 simp only
 rw [f1062_is hf hb.ntab,bs,tabI_ge]
 have h1:∀ (bl:Bool) (r':Rd),(bl=true→tabN b nm<b.tabs.length∧0 < (tabT b nm).rows.length)→RdOK r' (m+2)→Draws (f1096_j1 fu b (nm,r1) (tabI b nm) bl r') (fun x=>x.1.length≤1000) (m+4):=fun bl r' hbl hr'=>by
  unfold f1096_j1
  cases bl with
  | false=>exact (d73 hr' (by omega) (by decide)).bind fun x r2 _ hr2=>.pure hn (hr2.mono (by omega))
  | true=>
   obtain ⟨hk,h0⟩:=hbl rfl
   rw [tabI_lt hk]
   simp only
   rw [inR hk,ct,ct,tn,tabT_at]
   refine (d74 hr' (by omega)).bind fun q r2 hq hr2=>?_
   have hi:=idxR hq h0
   simp only [hi.1,ct]
   exact .pure hn (hr2.mono (by omega))
 by_cases hk:tabN b nm<b.tabs.length
 case neg=>rw [B_f hk,cf];exact h1 false _ (fun e=>by cases e) (hr1.mono (by omega))
 rw [B_t hk,ct,tabI_lt hk]
 rw [tabI_lt hk] at h1
 rw [ltR hk,Bool.and_self,ct,tn,tabT_at]
 by_cases h0:0 < (tabT b nm).rows.length
 ·rw [dt (show (0:Int) < ((tabT b nm).rows.length:Int) by omega),ct]
  exact (d74 hr1 (by omega)).bind fun q r2 _ hr2=>h1 _ _ (fun _=>⟨hk,h0⟩) hr2
 ·rw [df (show ¬ (0:Int) < ((tabT b nm).rows.length:Int) by omega),cf]
  exact h1 false _ (fun e=>by cases e) (hr1.mono (by omega))
theorem d1083 {a:List Int}(hf:BIG≤fu)(ha:∀ b,b∈a→0≤b∧b≤255):∃ b nm id,f1083 fu a=some (b,nm,id)∧SmB b∧nm.length≤1000:=by
 obtain ⟨r,e,hr⟩:=d60 (fu:=fu) ha
 obtain ⟨b,r1,e1,hb,hr1⟩:=d1050 (fu:=fu) hf hr (by omega)
 obtain ⟨x,r2,e2,hx,-⟩:=d1096 (fu:=fu) hf hr1 (by omega) hb
 unfold f1083
 rw [e,bs,e1,bs]
 simp only
 rw [e2]
 exact ⟨b,x.1,x.2,rfl,hb,hx⟩
theorem d1027 {a:List Int}(hf:BIG≤fu)(ha:∀ b,b∈a→0≤b∧b≤255):∃ b nm id,f1027 fu a=some (b,nm,id)∧SmB b∧nm.length≤1000:=by
 obtain ⟨b,nm,id,e,h⟩:=d1083 (fu:=fu) hf ha
 unfold f1027
 rw [e]
 exact ⟨b,nm,id,rfl,h⟩
end Go.Proofs.YtdpigighgmipfaaGreatDoor
