/- What is drawn: values, columns, changes, sets. -/
import Derived.Test.YtdpigighgmipfaaGreatDoorQ1008M14
set_option linter.all false
namespace Go.Proofs.YtdpigighgmipfaaGreatDoor
open Go Go.HL
variable {fu:Nat}
def Draws {α:Type}(x:Option (α×Rd))(P:α→Prop)(m:Nat):Prop:=∃ a r,x=some (a,r)∧P a∧RdOK r m
theorem Draws.bind {α β:Type}{x:Option (α×Rd)}{P:α→Prop}{m m':Nat}{f:α×Rd→Option (β×Rd)}{Q:β→Prop}(h:Draws x P m)(hf:∀ a r,P a→RdOK r m→Draws (f (a,r)) Q m'):Draws (x.bind f) Q m':=by
 obtain ⟨a,r,rfl,h1,h2⟩:=h
 exact hf a r h1 h2
theorem Draws.mono {α:Type}{x:Option (α×Rd)}{P Q:α→Prop}{m m':Nat}(h:Draws x P m)(hQ:∀ a,P a→Q a)(hm:m≤m'):Draws x Q m':=by
 obtain ⟨a,r,e,h1,h2⟩:=h
 exact ⟨a,r,e,hQ a h1,h2.mono hm⟩
theorem Draws.pure {α:Type}{a:α}{r:Rd}{P:α→Prop}{m:Nat}(h1:P a)(h2:RdOK r m):Draws (some (a,r)) P m:=⟨a,r,rfl,h1,h2⟩
theorem d74 {r:Rd}{n:Int}{m:Nat}(h:RdOK r m)(hm:m≤100000000):Draws (f74 fu r n) (fun k=>0≤k∧(1≤n→k<n)) (m+1):=by
 obtain ⟨k,r',e,h1,h2,h3⟩:=f74_is (fu:=fu) (n:=n) h hm
 exact ⟨k,r',e,⟨h1,h2⟩,h3⟩
theorem getD_mem {α:Type}{l:List α}{d:α}{k:Nat}(hk:k<l.length):l.getD k d∈l:=by rw [getD_lt hk];exact List.getElem_mem hk
theorem idxR {k:Int}{n:Nat}(h:0≤k∧(1≤(n:Int)→k < (n:Int)))(hn:0<n):(decide (0≤k)&&decide (k < (n:Int)))=true∧k.toNat<n:=by
 have:=h.2 (by omega)
 have:=h.1
 exact ⟨by simp;omega,by omega⟩
theorem d73 {r:Rd}{l:List Int}{m:Nat}(h:RdOK r m)(hm:m≤100000000)(hl:0<l.length):Draws (f73 fu r l) (fun x=>x∈l) (m+1):=by
 unfold f73
 refine (d74 h hm).bind fun k r' hk hr'=>?_
 have:=idxR hk hl
 simp only [this.1,ct]
 exact .pure (getD_mem this.2) hr'
theorem d96 {r:Rd}{l:List (List UInt8)}{m:Nat}(h:RdOK r m)(hm:m≤100000000)(hl:0<l.length):Draws (f96 fu r l) (fun x=>x∈l) (m+1):=by
 unfold f96
 refine (d74 h hm).bind fun k r' hk hr'=>?_
 have:=idxR hk hl
 simp only [this.1,ct]
 exact .pure (getD_mem this.2) hr'
def someTexts:List (List UInt8):=[([]:List UInt8),[97],[98],[97,98],[49,50],[45,53],[48,48,55],[122,122,122,122],[51]]
def TextC (s:List UInt8):Bool:=s.all (fun b=>(97≤b.toNat&&b.toNat≤122) || (48≤b.toNat&&b.toNat≤57) || b.toNat == 45)&&s.length≤4
theorem TextC_ok {s:List UInt8}(h:TextC s=true):TextOK s:=by
 unfold TextC at h
 rw [Bool.and_eq_true,List.all_eq_true] at h
 refine ⟨fun k hk=>?_,by simpa using h.2⟩
 rw [getD_lt hk]
 have:=h.1 _ (List.getElem_mem hk)
 simp only [Bool.or_eq_true,Bool.and_eq_true,decide_eq_true_eq,beq_iff_eq] at this
 unfold textB lowB
 omega
theorem someTexts_ok:∀ s∈someTexts,TextOK s:=fun s hs=>TextC_ok (List.all_eq_true.1 (show someTexts.all TextC=true from rfl) s hs)
def someNums:List Int:=[0,1,2,3,-1,7,999,-999]
theorem someNums_ok:∀ n∈someNums,-999≤n∧n≤999:=fun n hn=>by
 have:=List.all_eq_true.1 (show someNums.all (fun n=>decide (-999≤n)&&decide (n≤999))=true from rfl) n hn
 simpa using this
structure SomeV (k:Int) (v:Val):Prop where
 sm:SmV v
 fits:v.kind=0∨v.kind=k
 ok:k=1∨k=2→ValOK v
theorem someV_nul (k:Int):SomeV k ⟨0,0,[]⟩:=⟨nul_ok.sm,.inl rfl,fun _=>nul_ok⟩
theorem d95 {r:Rd}{k:Int}{m:Nat}(h:RdOK r m)(hm:m≤50000000):Draws (f95 fu r k) (SomeV k) (m+2):=by
 have hj:∀ r',RdOK r' (m+1)→∀ b,Draws (f95_j1 fu k b r') (SomeV k) (m+2):=fun r' hr' b=>by
  unfold f95_j1
  cases b with
  | true=>exact .pure (someV_nul k) (hr'.mono (by omega))
  | false=>
   simp only [cf]
   by_cases hk:k=1
   ·rw [dt hk,ct]
    refine (d73 hr' (by omega) (by decide)).bind fun x r2 hx hr2=>.pure ?_ hr2
    have hn:=someNums_ok x hx
    have hv:ValOK ⟨k,x,[]⟩:=.inr (.inl ⟨hk,hn.1,hn.2,rfl⟩)
    exact ⟨hv.sm,.inr rfl,fun _=>hv⟩
   ·rw [df hk,cf]
    refine (d96 hr' (by omega) (by decide)).bind fun x r2 hx hr2=>.pure ?_ hr2
    have ht:=someTexts_ok x hx
    refine ⟨?_,.inr rfl,fun h=>.inr (.inr ⟨by show k=2;omega,rfl,ht⟩)⟩
    have:=ht.2
    show x.length≤1000
    omega
 unfold f95
 refine (d74 h (by omega)).bind fun q r' hq hr'=>?_
 simp only
 cases decide (q=0) with
 | true=>exact hj r' hr' true
 | false=>exact hj r' hr' _
theorem sm_short {l:List (List UInt8)}(hl:l.all (fun s=>decide (s.length≤1000))=true):∀ s∈l,s.length≤1000:=fun s hs=>by simpa using List.all_eq_true.1 hl s hs
theorem d127 {r:Rd}{v:Val}{m:Nat}(h:RdOK r m)(hm:m≤50000000)(hv:SmV v):Draws (f127 fu r v) SmV (m+2):=by
 unfold f127 f127_j1
 refine (d74 h (by omega)).bind fun q r' hq hr'=>?_
 simp only
 cases decide (q=0) with
 | true=>exact (d73 hr' (by omega) (by decide)).bind fun x r2 hx hr2=>.pure hv hr2
 | false=>
  cases decide (q=1) with
  | true=>exact (d73 hr' (by omega) (by decide)).bind fun x r2 hx hr2=>.pure hv hr2
  | false=>
   cases decide (q=2) with
   | true=>exact (d96 hr' (by omega) (by decide)).bind fun x r2 hx hr2=>.pure (sm_short (by rfl) x hx) hr2
   | false=>exact .pure hv (hr'.mono (by omega))
theorem d97 {r:Rd}{m:Nat}(h:RdOK r m)(hm:m≤40000000):Draws (f97 fu r) SmV (m+5):=by
 unfold f97
 refine (d74 h (by omega)).bind fun q r' hq hr'=>?_
 refine (d95 hr' (by omega)).bind fun v r2 hv hr2=>?_
 exact (d127 hr2 (by omega) hv.sm).bind fun u r3 hu hr3=>.pure hu hr3
def someNames:List (List UInt8):=[[97],[98],[99],[100],[101],[97,98]]
def NameC (s:List UInt8):Bool:=s.all (fun b=>97≤b.toNat&&b.toNat≤122)&&(1≤s.length&&s.length≤3)
theorem NameC_ok {s:List UInt8}(h:NameC s=true):NameOK s:=by
 unfold NameC at h
 rw [Bool.and_eq_true,List.all_eq_true,Bool.and_eq_true] at h
 refine ⟨fun k hk=>?_,by simpa using h.2.1,by simpa using h.2.2⟩
 rw [getD_lt hk]
 have:=h.1 _ (List.getElem_mem hk)
 simp only [Bool.and_eq_true,decide_eq_true_eq] at this
 exact this
theorem someNames_ok:∀ s∈someNames,NameOK s:=fun s hs=>NameC_ok (List.all_eq_true.1 (show someNames.all NameC=true from rfl) s hs)
theorem d107 {r:Rd}{nm:List UInt8}{m:Nat}(h:RdOK r m)(hm:m≤40000000)(hn:NameOK nm):Draws (f107 fu r nm) ColOK (m+5):=by
 unfold f107
 refine (d74 h (by omega)).bind fun q r1 hq hr1=>?_
 have hq2:=hq.2 (by omega)
 have e:IntKind.i64.wrap (1+q)=1+q:=wrapI (by omega) (by omega)
 refine (d74 hr1 (by omega)).bind fun q3 r2 hq3 hr2=>?_
 refine (d74 hr2 (by omega)).bind fun q5 r3 hq5 hr3=>?_
 simp only [e]
 cases decide (q5=0) with
 | true=>exact .pure ⟨hn,by show 1+q=1∨1+q=2;omega,nul_ok,.inl rfl,fun _=>rfl⟩ (hr3.mono (by omega))
 | false=>
  refine (d95 hr3 (by omega)).bind fun v r4 hv hr4=>.pure ?_ hr4
  exact ⟨hn,by show 1+q=1∨1+q=2;omega,hv.ok (by omega),hv.fits,fun h=>by cases h⟩
structure Cols (s:List Col):Prop where
 all:∀ k,k<s.length→ColOK (s.getD k default)∧atI s (s.getD k default).name=(k:Int)
theorem Cols.snoc {s:List Col}{c:Col}(h:Cols s)(hc:ColOK c)(ha:¬ atN s c.name<s.length):Cols (s++[c]):=by
 have hap:∀ nm,atN (s++[c]) nm=if atN s nm<s.length then atN s nm else atN [c] nm+s.length:=fun nm=>List.findIdx_append
 refine ⟨fun k hk=>?_⟩
 by_cases hks:k<s.length
 ·have e:(s++[c]).getD k default=s.getD k default:=by
   rw [getD_lt hk,getD_lt hks,List.getElem_append_left hks]
  rw [e]
  have g:=h.all k hks
  refine ⟨g.1,?_⟩
  have hlt:atN s (s.getD k default).name<s.length:=Classical.byContradiction fun hn=>by
   have:=g.2;rw [atI_no hn] at this;omega
  have e2:=g.2
  rw [atI_lt hlt] at e2
  have e3:atN (s++[c]) (s.getD k default).name=k:=by rw [hap,if_pos hlt];omega
  rw [atI_lt (by rw [e3];exact hk),e3]
 ·have hk':k=s.length:=by simp at hk;omega
  subst hk'
  have e:(s++[c]).getD s.length default=c:=by simp [List.getD_eq_getElem?_getD]
  rw [e]
  have e3:atN (s++[c]) c.name=s.length:=by
   rw [hap,if_neg ha]
   have:atN [c] c.name=0:=by simp [atN,List.findIdx_cons]
   omega
  exact ⟨hc,by rw [atI_lt (by rw [e3];exact hk),e3]⟩
theorem l125:∀ (j n m:Nat) (s:List Col) (r:Rd) (hf:BIG≤fu),j<n→RdOK r m→m+6*j≤1000000→Cols s→s.length+j≤4→(0<s.length∨0<j)→Draws (f125_l1 fu n (j:Int) s r) ShapeOK (m+6*j):=by
 intro j
 induction j with
 | zero=>
  intro n m s r hf hn hr hm hs hl h0
  obtain ⟨n,rfl⟩:∃ i,n=i+1:=⟨n-1,by omega⟩
  rw [f125_l1]
  exact .pure ⟨hs.all,by omega,by omega⟩ (hr.mono (by omega))
 | succ j ih=>
  intro n m s r hf hn hr hm hs hl h0
  obtain ⟨n,rfl⟩:∃ i,n=i+1:=⟨n-1,by omega⟩
  rw [f125_l1,dt (show (0:Int) < ((j+1:Nat):Int) by omega),ct]
  unfold f106
  rw [bs]
  refine (d96 hr (by omega) (by decide)).bind fun nm r1 hnm hr1=>?_
  refine (d107 hr1 (by omega) (someNames_ok nm hnm)).bind fun c r2 hc hr2=>?_
  have e:IntKind.i64.wrap (((j+1:Nat):Int)-1)=(j:Int):=by rw [wrapI (by omega) (by omega)];omega
  rw [f108_is hf (by omega),bs]
  unfold f125_j2
  simp only [e]
  by_cases ha:atN s c.name<s.length
  ·rw [atI_lt ha,df (show ¬ (atN s c.name:Int)<0 by omega),cf]
   exact (ih n (m+6) s r2 hf (by omega) (hr2.mono (by omega)) (by omega) hs (by omega) (.inl (by omega))).mono (fun _ h=>h) (by omega)
  ·rw [atI_no ha,show decide ((-1:Int)<0)=true from rfl,ct,cap (by rw [List.length_singleton];omega),ct]
   exact (ih n (m+6) (s++[c]) r2 hf (by omega) (hr2.mono (by omega)) (by omega) (hs.snoc hc ha) (by simp;omega) (.inl (by simp))).mono (fun _ h=>h) (by omega)
theorem d125 {r:Rd}{m:Nat}(hf:BIG≤fu)(h:RdOK r m)(hm:m≤900000):Draws (f125 fu r) ShapeOK (m+25):=by
 unfold f125
 refine (d74 h (by omega)).bind fun q r1 hq hr1=>?_
 have hq2:=hq.2 (by omega)
 have hq1:=hq.1
 have e:IntKind.i64.wrap (1+q)=(((1+q).toNat:Nat):Int):=by rw [wrapI (by omega) (by omega)];omega
 simp only [e]
 have hj:(1+q).toNat≤4:=by omega
 have hj1:0 < (1+q).toNat:=by omega
 exact (l125 (1+q).toNat fu (m+1) [] r1 hf (by unfold BIG at hf;omega) hr1 (by omega) ⟨fun k hk=>by simp at hk⟩ (by simp;omega) (.inr hj1)).mono (fun _ h=>h) (by omega)
theorem sm_set {s:List Set}{x:Set}(h:SmX s)(hl:s.length≤900)(hx:SmV x.val):SmX (s++[x]):=⟨by simp;omega,fun y hy=>by
 rcases List.mem_append.1 hy with hy|hy
 ·exact h.all y hy
 ·simp only [List.mem_singleton] at hy;subst hy;exact hx⟩
theorem l62 {s:List Col}(hs:s.length≤5):∀ (j n k m:Nat) (xs:List Set) (r:Rd),k+j=s.length→j<n→RdOK r m→m+4*j≤900000→SmX xs→xs.length≤k→Draws (f62_l1 fu s n (k:Int) xs r) SmX (m+4*j+6):=by
 intro j
 induction j with
 | zero=>
  intro n k m xs r hk hn hr hm hx hl
  obtain ⟨n,rfl⟩:∃ i,n=i+1:=⟨n-1,by omega⟩
  have:k=s.length:=by omega
  subst this
  rw [f62_l1,nlt,cf]
  refine (d74 hr (by omega)).bind fun q r1 hq hr1=>?_
  simp only
  cases decide (q=0) with
  | true=>
   refine (d96 hr1 (by omega) (by decide)).bind fun nm r2 hnm hr2=>?_
   simp only [cap (show List.length xs+List.length ([(⟨nm,d0_49.val⟩:Set)]:List Set)≤100000 by rw [List.length_singleton];omega),ct]
   exact .pure (sm_set hx (by omega) nul_ok.sm) (hr2.mono (by omega))
  | false=>
   cases decide (q=1) with
   | false=>exact .pure hx (hr1.mono (by omega))
   | true=>
    by_cases h0:0<xs.length
    ·rw [dt (show (0:Int) < (xs.length:Int) by omega)]
     refine (d97 hr1 (by omega)).bind fun v r2 hv hr2=>?_
     unfold f62_j15
     simp only [ct,show decide ((0:Int)≤0)=true from rfl,Bool.true_and,dt (show (0:Int) < (xs.length:Int) by omega)]
     refine .pure ⟨by simpa using hx.len,fun y hy=>?_⟩ (hr2.mono (by omega))
     rcases List.mem_or_eq_of_mem_set hy with hy|hy
     ·exact hx.all y hy
     ·subst hy;exact hv
    ·rw [df (show ¬ (0:Int) < (xs.length:Int) by omega)]
     exact .pure hx (hr1.mono (by omega))
 | succ j ih=>
  intro n k m xs r hk hn hr hm hx hl
  obtain ⟨n,rfl⟩:∃ i,n=i+1:=⟨n-1,by omega⟩
  have hkl:k<s.length:=by omega
  have e1:IntKind.i64.wrap ((k:Int)+1)=((k+1:Nat):Int):=succI hkl (by unfold BIG;omega)
  have h12:∀ (ys:List Set) (r':Rd),RdOK r' (m+4)→SmX ys→ys.length≤k+1→Draws (f62_j12 (k:Int) (f62_l1 fu s n) ys r') SmX (m+4 * (j+1)+6):=fun ys r' hr' hy hly=>by
   unfold f62_j12
   rw [e1]
   exact (ih n (k+1) (m+4) ys r' (by omega) (by omega) hr' (by omega) hy hly).mono (fun _ h=>h) (by omega)
  have h14:∀ (v:Val) (r':Rd),RdOK r' (m+4)→SmV v→Draws (f62_j14 s (k:Int) xs r' (f62_l1 fu s n) v) SmX (m+4 * (j+1)+6):=fun v r' hr' hv=>by
   unfold f62_j14
   rw [inR hkl,ct,cap (by rw [List.length_singleton];omega),ct]
   exact h12 _ _ hr' (sm_set hx (by omega) hv) (by simp;omega)
  have h13:∀ (v:Val) (r0:Rd) (b:Bool) (r':Rd),RdOK r' (m+4)→SmV v→Draws (f62_j13 s (k:Int) xs (v,r0) (f62_l1 fu s n) b r') SmX (m+4 * (j+1)+6):=fun v r0 b r' hr' hv=>by
   unfold f62_j13
   cases b with
   | true=>rw [ct,inR hkl,ct];exact h14 _ _ hr' hv
   | false=>exact h14 _ _ hr' hv
  have h11:∀ (b:Bool) (r':Rd),RdOK r' (m+1)→Draws (f62_j11 fu s (k:Int) xs (f62_l1 fu s n) b r') SmX (m+4 * (j+1)+6):=fun b r' hr'=>by
   unfold f62_j11
   cases b with
   | false=>exact h12 _ _ (hr'.mono (by omega)) hx (by omega)
   | true=>
    rw [ct,inR hkl,ct]
    refine (d95 hr' (by omega)).bind fun v r2 hv hr2=>?_
    rw [ct]
    cases (s.getD (k:Int).toNat default).need with
    | false=>exact h13 _ r2 false _ (hr2.mono (by omega)) hv.sm
    | true=>
     simp only [ct]
     cases decide (v.kind=0) with
     | false=>exact h13 _ r2 false _ (hr2.mono (by omega)) hv.sm
     | true=>exact (d74 hr2 (by omega)).bind fun q r3 hq hr3=>h13 _ _ _ _ (hr3.mono (by omega)) hv.sm
  rw [f62_l1,ltR hkl,ct,ge0,Bool.and_self,ct]
  cases (s.getD (k:Int).toNat default).need with
  | true=>exact h11 true r (hr.mono (by omega))
  | false=>exact (d74 hr (by omega)).bind fun q r1 hq hr1=>h11 _ _ hr1
theorem d62 {s:List Col}{r:Rd}{m:Nat}(hf:BIG≤fu)(hs:s.length≤5)(h:RdOK r m)(hm:m≤800000):Draws (f62 fu r s) SmX (m+26):=by
 unfold f62
 exact (l62 hs s.length fu 0 m [] r (by omega) (by unfold BIG at hf;omega) h (by omega) ⟨by simp,fun _ h=>by cases h⟩ (by simp)).mono (fun _ h=>h) (by omega)
theorem d70 {s:List Col}{r:Rd}{m:Nat}(hf:BIG≤fu)(hs:s.length≤5)(h:RdOK r m)(hm:m≤800000):Draws (f70 fu r s) SmCh (m+13):=by
 have h3:∀ (c:Change) (r':Rd),RdOK r' (m+11)→SmCh c→Draws (f70_j3 fu c r') SmCh (m+13):=fun c r' hr' hc=>by
  unfold f70_j3 f70_j4
  refine (d74 hr' (by omega)).bind fun q r1 hq hr1=>?_
  simp only
  cases decide (q=0) with
  | true=>exact (d73 hr1 (by omega) (by decide)).bind fun x r2 hx hr2=>.pure ⟨hc.new,hc.col⟩ hr2
  | false=>
   cases decide (q=1) with
   | true=>exact (d96 hr1 (by omega) (by decide)).bind fun x r2 hx hr2=>.pure ⟨hc.new,hc.col⟩ hr2
   | false=>
    cases decide (q=2) with
    | true=>exact (d96 hr1 (by omega) (by decide)).bind fun x r2 hx hr2=>.pure ⟨sm_short (by rfl) x hx,hc.col⟩ hr2
    | false=>
     cases decide (q=3) with
     | true=>exact (d73 hr1 (by omega) (by decide)).bind fun x r2 hx hr2=>.pure ⟨hc.new,hc.col.name,hc.col.def_⟩ hr2
     | false=>
      cases decide (q=4) with
      | true=>exact .pure ⟨hc.new,hc.col.name,hc.col.def_⟩ (hr1.mono (by omega))
      | false=>exact .pure hc (hr1.mono (by omega))
 have hc0:SmC d0_56.col:=⟨by show ([]:List UInt8).length≤1000;simp,nul_ok.sm⟩
 have hn0:([]:List UInt8).length≤1000:=by simp
 have h2:∀ (nm:List UInt8) (r':Rd),RdOK r' (m+3)→Draws (f70_j2 fu s nm r') SmCh (m+13):=fun nm r' hr'=>by
  unfold f70_j2
  refine (d74 hr' (by omega)).bind fun q r1 hq hr1=>?_
  simp only
  cases decide (IntKind.i64.wrap (1+q)=1) with
  | true=>
   unfold f106
   simp only [ct,bs]
   refine (d96 hr1 (by omega) (by decide)).bind fun x r2 hx hr2=>?_
   refine (d107 hr2 (by omega) (someNames_ok x hx)).bind fun c r3 hc hr3=>?_
   have hcs:=hc.sm
   have h5:∀ (b:Bool) (rr:Rd),RdOK rr (m+11)→Draws (f70_j5 fu nm (q,r1) (c,r3) b rr) SmCh (m+13):=fun b rr hrr=>by
    unfold f70_j5
    cases b with
    | true=>exact h3 _ _ hrr ⟨hn0,hcs.name,hcs.def_⟩
    | false=>exact h3 _ _ hrr ⟨hn0,hcs⟩
   simp only
   cases c.need with
   | false=>exact h5 false _ (hr3.mono (by omega))
   | true=>
    simp only [ct]
    cases decide (c.def_.kind=0) with
    | false=>exact h5 false _ (hr3.mono (by omega))
    | true=>exact (d74 hr3 (by omega)).bind fun k r4 hk hr4=>h5 _ _ (hr4.mono (by omega))
  | false=>
   cases decide (IntKind.i64.wrap (1+q)=3) with
   | true=>exact (d96 hr1 (by omega) (by decide)).bind fun x r2 hx hr2=>h3 _ _ (hr2.mono (by omega)) ⟨sm_short (by rfl) x hx,hc0⟩
   | false=>
    cases decide (IntKind.i64.wrap (1+q)=4) with
    | false=>exact h3 _ _ (hr1.mono (by omega)) ⟨hn0,hc0⟩
    | true=>
     simp only [ct,cf]
     refine (d74 hr1 (by omega)).bind fun k r2 hk hr2=>?_
     rw [f108_is hf (by omega),bs]
     have h6:∀ (b:Bool) (rr:Rd),RdOK rr (m+11)→(b=true→atN s nm<s.length)→Draws (f70_j6 fu s nm (q,r1) (k,r2) (atI s nm) b rr) SmCh (m+13):=fun b rr hrr hb=>by
      unfold f70_j6
      cases b with
      | true=>
       have:=hb rfl
       rw [ct,atI_lt this,inR this,ct]
       exact h3 _ _ hrr ⟨hn0,hc0.name,hc0.def_⟩
      | false=>exact h3 _ _ hrr ⟨hn0,hc0.name,hc0.def_⟩
     by_cases ha:atN s nm<s.length
     ·rw [dt (show 0≤atI s nm by rw [atI_lt ha];omega)]
      simp only [ct]
      exact (d74 hr2 (by omega)).bind fun k' r4 hk hr4=>h6 _ _ (hr4.mono (by omega)) fun _=>ha
     ·rw [df (show ¬ 0≤atI s nm by rw [atI_no ha];omega)]
      exact h6 false _ (hr2.mono (by omega)) fun h=>by cases h
 unfold f70 f106
 rw [bs]
 refine (d96 h (by omega) (by decide)).bind fun nm r1 hnm hr1=>?_
 have h1:∀ (b:Bool) (rr:Rd),RdOK rr (m+2)→(b=true→0<s.length)→Draws (f70_j1 fu s (nm,r1) b rr) SmCh (m+13):=fun b rr hrr hb=>by
  unfold f70_j1
  cases b with
  | false=>exact h2 _ _ (hrr.mono (by omega))
  | true=>
   rw [ct]
   refine (d74 hrr (by omega)).bind fun k r4 hk hr4=>?_
   have:=idxR hk (hb rfl)
   simp only [this.1,ct]
   exact h2 _ _ hr4
 by_cases h0:0<s.length
 ·rw [dt (show (0:Int) < (s.length:Int) by omega)]
  simp only [ct]
  exact (d74 hr1 (by omega)).bind fun k r4 hk hr4=>h1 _ _ hr4 fun _=>h0
 ·rw [df (show ¬ (0:Int) < (s.length:Int) by omega)]
  exact h1 false _ (hr1.mono (by omega)) fun h=>by cases h
end Go.Proofs.YtdpigighgmipfaaGreatDoor
