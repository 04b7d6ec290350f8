/- What is drawn: nothing fails, and all is small. -/
import Derived.Test.YtdpigighgmipfaaGreatDoorQ1005M13
set_option linter.all false
namespace Go.Proofs.YtdpigighgmipfaaGreatDoor
open Go Go.HL
variable {fu:Nat}
structure RdOK (r:Rd) (m:Nat):Prop where
 b:∀ x,x∈r.b→0≤x∧x≤255
 lo:0≤r.p
 hi:r.p≤(m:Int)
theorem RdOK.get {r:Rd}{m:Nat}(h:RdOK r m)(i:Nat):0≤r.b.getD i default∧r.b.getD i default≤255:=by
 by_cases hi:i<r.b.length
 ·rw [getD_lt hi];exact h.b _ (List.getElem_mem hi)
 ·rw [List.getD_eq_getElem?_getD,List.getElem?_eq_none (by omega)]
  show (0:Int)≤0∧(0:Int)≤255
  omega
theorem RdOK.mono {r:Rd}{m m':Nat}(h:RdOK r m)(hm:m≤m'):RdOK r m':=⟨h.b,h.lo,by have:=h.hi;omega⟩
theorem ofInt_lt {X:Int}(h1:0≤X)(h2:X<4611686018427387904):(BitVec.ofInt 64 X).toNat<2 ^ 62:=by
 rw [BitVec.toNat_ofInt];omega
theorem xor_nn {X Y:Int}(h1:0≤X)(h2:X<4611686018427387904)(h3:0≤Y)(h4:Y<4611686018427387904):0≤IntKind.i64.wrap ((BitVec.ofInt 64 X ^^^ BitVec.ofInt 64 Y).toNat:Int):=by
 have h:(BitVec.ofInt 64 X ^^^ BitVec.ofInt 64 Y).toNat<2 ^ 62:=by
  rw [BitVec.toNat_xor];exact Nat.xor_lt_two_pow (ofInt_lt h1 h2) (ofInt_lt h3 h4)
 rw [wrapI (by omega) (by omega)]
 omega
theorem tmodR {x n:Int}(hx:0≤x)(hn:1≤n):0≤x.tmod n∧x.tmod n<n:=⟨Int.tmod_nonneg _ hx,Int.tmod_lt_of_pos _ (by omega)⟩
theorem f74_is {r:Rd}{n:Int}{m:Nat}(h:RdOK r m)(hm:m≤100000000):∃ k r',f74 fu r n=some (k,r')∧0≤k∧(1≤n→k<n)∧RdOK r' (m+1):=by
 have hlo:=h.lo
 have hhi:=h.hi
 have hp1:IntKind.i64.wrap (r.p+1)=r.p+1:=wrapI (by omega) (by omega)
 have hk:IntKind.i64.wrap (r.p+1-1)=r.p:=by rw [Int.add_sub_cancel];exact wrapI (by omega) (by omega)
 have hr':RdOK ⟨r.b,r.p+1⟩ (m+1):=⟨h.b,by show 0≤r.p+1;omega,by show r.p+1≤((m+1:Nat):Int);omega⟩
 have hT:f74_j1 r n true=some (0,⟨r.b,r.p+1⟩):=by unfold f74_j1;simp only [ct,hp1]
 unfold f74
 by_cases hn:n<1
 ·rw [dt hn,ct,hT]
  exact ⟨0,_,rfl,Int.le_refl _,fun h=>by omega,hr'⟩
 rw [df hn,cf]
 by_cases hb:r.b.length=0
 ·rw [dt (show (List.length r.b:Int)=0 by omega),hT]
  exact ⟨0,_,rfl,Int.le_refl _,fun h=>by omega,hr'⟩
 rw [df (show ¬ (List.length r.b:Int)=0 by omega)]
 have hn0:decide (n=0)=false:=df (by omega)
 unfold f74_j1
 simp only [cf,hp1,hk,hn0]
 by_cases hlt:r.p < (r.b.length:Int)
 ·have hg:=h.get r.p.toNat
  rw [dt hlt,dt hlo,ct,Bool.and_self,ct,wrapI (by omega) (by omega)]
  have ht:=tmodR hg.1 (show 1≤n by omega)
  exact ⟨_,_,rfl,ht.1,fun _=>ht.2,hr'⟩
 ·have hL:1≤(r.b.length:Int):=by omega
  have e7:IntKind.i64.wrap (r.p*7)=r.p*7:=wrapI (by omega) (by omega)
  have e73:IntKind.i64.wrap (r.p*7+3)=r.p*7+3:=wrapI (by omega) (by omega)
  have hi1:=tmodR hlo hL
  have hi2:=tmodR (show 0≤r.p*7+3 by omega) hL
  have hL0:decide ((r.b.length:Int)=0)=false:=df (by omega)
  have hA:=h.get (r.p.tmod (r.b.length:Int)).toNat
  have hB:=h.get ((r.p*7+3).tmod (r.b.length:Int)).toNat
  have hQ:0≤r.p.tdiv (r.b.length:Int)∧r.p.tdiv (r.b.length:Int)≤r.p:=by
   refine ⟨Int.tdiv_nonneg hlo (by omega),?_⟩
   rw [Int.tdiv_eq_ediv_of_nonneg hlo]
   exact Int.ediv_le_self _ hlo
  rw [df hlt]
  simp only [cf,hL0,e7,e73,dt hi1.1,dt hi1.2,dt hi2.1,dt hi2.2,Bool.and_self,ct,show decide ((64:Int)=0)=false from rfl]
  generalize r.b.getD (r.p.tmod (r.b.length:Int)).toNat default=A at hA
  generalize r.b.getD ((r.p*7+3).tmod (r.b.length:Int)).toNat default=C at hB
  generalize r.p.tdiv (r.b.length:Int)=Q at hQ
  have w1:IntKind.i64.wrap A=A:=wrapI (by omega) (by omega)
  have w2:IntKind.i64.wrap (A*131)=A*131:=wrapI (by omega) (by omega)
  have w3:IntKind.i64.wrap C=C:=wrapI (by omega) (by omega)
  have w4:IntKind.i64.wrap (C*1117)=C*1117:=wrapI (by omega) (by omega)
  have w5:IntKind.i64.wrap (A*131+C*1117)=A*131+C*1117:=wrapI (by omega) (by omega)
  have w6:IntKind.i64.wrap (r.p*29)=r.p*29:=wrapI (by omega) (by omega)
  have w7:IntKind.i64.wrap (A*131+C*1117+r.p*29)=A*131+C*1117+r.p*29:=wrapI (by omega) (by omega)
  have w8:IntKind.i64.wrap Q=Q:=wrapI (by omega) (by omega)
  have w9:IntKind.i64.wrap (Q*53)=Q*53:=wrapI (by omega) (by omega)
  have w10:IntKind.i64.wrap (A*131+C*1117+r.p*29+Q*53)=A*131+C*1117+r.p*29+Q*53:=wrapI (by omega) (by omega)
  simp only [w1,w2,w3,w4,w5,w6,w7,w8,w9,w10]
  have hX:0≤A*131+C*1117+r.p*29+Q*53∧A*131+C*1117+r.p*29+Q*53<4611686018427387904:=by omega
  generalize A*131+C*1117+r.p*29+Q*53=X at hX
  have hD:0≤X.tdiv 64∧X.tdiv 64<4611686018427387904:=by
   rw [Int.tdiv_eq_ediv_of_nonneg hX.1];omega
  have hd:IntKind.i64.wrap (X.tdiv 64)=X.tdiv 64:=wrapI (by omega) (by omega)
  first | rw [hd] | skip
  have hx:=xor_nn hX.1 hX.2 hD.1 hD.2
  have ht:=tmodR hx (show 1≤n by omega)
  exact ⟨_,_,rfl,ht.1,fun _=>ht.2,hr'⟩
end Go.Proofs.YtdpigighgmipfaaGreatDoor
/- What is drawn: values, columns, changes, sets. -/
namespace Go.Proofs.YtdpigighgmipfaaGreatDoor
open Go Go.HL
variable {fu:Nat}
def Draws {α:Type}(x:Option (α×Rd))(P:α→Prop)(m:Nat):Prop:=∃ a r,x=some (a,r)∧P a∧RdOK r m
theorem Draws.bind {α β:Type}{x:Option (α×Rd)}{P:α→Prop}{m m':Nat}{f:α×Rd→Option (β×Rd)}{Q:β→Prop}(h:Draws x P m)(hf:∀ a r,P a→RdOK r m→Draws (f (a,r)) Q m'):Draws (x.bind f) Q m':=by
 obtain ⟨a,r,rfl,h1,h2⟩:=h
 exact hf a r h1 h2
theorem Draws.mono {α:Type}{x:Option (α×Rd)}{P Q:α→Prop}{m m':Nat}(h:Draws x P m)(hQ:∀ a,P a→Q a)(hm:m≤m'):Draws x Q m':=by
 obtain ⟨a,r,e,h1,h2⟩:=h
 exact ⟨a,r,e,hQ a h1,h2.mono hm⟩
theorem Draws.pure {α:Type}{a:α}{r:Rd}{P:α→Prop}{m:Nat}(h1:P a)(h2:RdOK r m):Draws (some (a,r)) P m:=⟨a,r,rfl,h1,h2⟩
theorem d74 {r:Rd}{n:Int}{m:Nat}(h:RdOK r m)(hm:m≤100000000):Draws (f74 fu r n) (fun k=>0≤k∧(1≤n→k<n)) (m+1):=by
 obtain ⟨k,r',e,h1,h2,h3⟩:=f74_is (fu:=fu) (n:=n) h hm
 exact ⟨k,r',e,⟨h1,h2⟩,h3⟩
theorem getD_mem {α:Type}{l:List α}{d:α}{k:Nat}(hk:k<l.length):l.getD k d∈l:=by rw [getD_lt hk];exact List.getElem_mem hk
theorem idxR {k:Int}{n:Nat}(h:0≤k∧(1≤(n:Int)→k < (n:Int)))(hn:0<n):(decide (0≤k)&&decide (k < (n:Int)))=true∧k.toNat<n:=by
 have:=h.2 (by omega)
 have:=h.1
 exact ⟨by simp;omega,by omega⟩
theorem d73 {r:Rd}{l:List Int}{m:Nat}(h:RdOK r m)(hm:m≤100000000)(hl:0<l.length):Draws (f73 fu r l) (fun x=>x∈l) (m+1):=by
 unfold f73
 refine (d74 h hm).bind fun k r' hk hr'=>?_
 have:=idxR hk hl
 simp only [this.1,ct]
 exact .pure (getD_mem this.2) hr'
theorem d96 {r:Rd}{l:List (List UInt8)}{m:Nat}(h:RdOK r m)(hm:m≤100000000)(hl:0<l.length):Draws (f96 fu r l) (fun x=>x∈l) (m+1):=by
 unfold f96
 refine (d74 h hm).bind fun k r' hk hr'=>?_
 have:=idxR hk hl
 simp only [this.1,ct]
 exact .pure (getD_mem this.2) hr'
def someTexts:List (List UInt8):=[([]:List UInt8),[97],[98],[97,98],[49,50],[45,53],[48,48,55],[122,122,122,122],[51]]
def TextC (s:List UInt8):Bool:=s.all (fun b=>(97≤b.toNat&&b.toNat≤122) || (48≤b.toNat&&b.toNat≤57) || b.toNat == 45)&&s.length≤4
theorem TextC_ok {s:List UInt8}(h:TextC s=true):TextOK s:=by
 unfold TextC at h
 rw [Bool.and_eq_true,List.all_eq_true] at h
 refine ⟨fun k hk=>?_,by simpa using h.2⟩
 rw [getD_lt hk]
 have:=h.1 _ (List.getElem_mem hk)
 simp only [Bool.or_eq_true,Bool.and_eq_true,decide_eq_true_eq,beq_iff_eq] at this
 unfold textB lowB
 omega
theorem someTexts_ok:∀ s∈someTexts,TextOK s:=fun s hs=>TextC_ok (List.all_eq_true.1 (show someTexts.all TextC=true from rfl) s hs)
def someNums:List Int:=[0,1,2,3,-1,7,999,-999]
theorem someNums_ok:∀ n∈someNums,-999≤n∧n≤999:=fun n hn=>by
 have:=List.all_eq_true.1 (show someNums.all (fun n=>decide (-999≤n)&&decide (n≤999))=true from rfl) n hn
 simpa using this
structure SomeV (k:Int) (v:Val):Prop where
 sm:SmV v
 fits:v.kind=0∨v.kind=k
 ok:k=1∨k=2→ValOK v
theorem someV_nul (k:Int):SomeV k ⟨0,0,[]⟩:=⟨nul_ok.sm,.inl rfl,fun _=>nul_ok⟩
theorem d95 {r:Rd}{k:Int}{m:Nat}(h:RdOK r m)(hm:m≤50000000):Draws (f95 fu r k) (SomeV k) (m+2):=by
 have hj:∀ r',RdOK r' (m+1)→∀ b,Draws (f95_j1 fu k b r') (SomeV k) (m+2):=fun r' hr' b=>by
  unfold f95_j1
  cases b with
  | true=>exact .pure (someV_nul k) (hr'.mono (by omega))
  | false=>
   simp only [cf]
   by_cases hk:k=1
   ·rw [dt hk,ct]
    refine (d73 hr' (by omega) (by decide)).bind fun x r2 hx hr2=>.pure ?_ hr2
    have hn:=someNums_ok x hx
    have hv:ValOK ⟨k,x,[]⟩:=.inr (.inl ⟨hk,hn.1,hn.2,rfl⟩)
    exact ⟨hv.sm,.inr rfl,fun _=>hv⟩
   ·rw [df hk,cf]
    refine (d96 hr' (by omega) (by decide)).bind fun x r2 hx hr2=>.pure ?_ hr2
    have ht:=someTexts_ok x hx
    refine ⟨?_,.inr rfl,fun h=>.inr (.inr ⟨by show k=2;omega,rfl,ht⟩)⟩
    have:=ht.2
    show x.length≤1000
    omega
 unfold f95
 refine (d74 h (by omega)).bind fun q r' hq hr'=>?_
 simp only
 cases decide (q=0) with
 | true=>exact hj r' hr' true
 | false=>exact hj r' hr' _
theorem sm_short {l:List (List UInt8)}(hl:l.all (fun s=>decide (s.length≤1000))=true):∀ s∈l,s.length≤1000:=fun s hs=>by simpa using List.all_eq_true.1 hl s hs
theorem d127 {r:Rd}{v:Val}{m:Nat}(h:RdOK r m)(hm:m≤50000000)(hv:SmV v):Draws (f127 fu r v) SmV (m+2):=by
 unfold f127 f127_j1
 refine (d74 h (by omega)).bind fun q r' hq hr'=>?_
 simp only
 cases decide (q=0) with
 | true=>exact (d73 hr' (by omega) (by decide)).bind fun x r2 hx hr2=>.pure hv hr2
 | false=>
  cases decide (q=1) with
  | true=>exact (d73 hr' (by omega) (by decide)).bind fun x r2 hx hr2=>.pure hv hr2
  | false=>
   cases decide (q=2) with
   | true=>exact (d96 hr' (by omega) (by decide)).bind fun x r2 hx hr2=>.pure (sm_short (by rfl) x hx) hr2
   | false=>exact .pure hv (hr'.mono (by omega))
theorem d97 {r:Rd}{m:Nat}(h:RdOK r m)(hm:m≤40000000):Draws (f97 fu r) SmV (m+5):=by
 unfold f97
 refine (d74 h (by omega)).bind fun q r' hq hr'=>?_
 refine (d95 hr' (by omega)).bind fun v r2 hv hr2=>?_
 exact (d127 hr2 (by omega) hv.sm).bind fun u r3 hu hr3=>.pure hu hr3
def someNames:List (List UInt8):=[[97],[98],[99],[100],[101],[97,98]]
def NameC (s:List UInt8):Bool:=s.all (fun b=>97≤b.toNat&&b.toNat≤122)&&(1≤s.length&&s.length≤3)
theorem NameC_ok {s:List UInt8}(h:NameC s=true):NameOK s:=by
 unfold NameC at h
 rw [Bool.and_eq_true,List.all_eq_true,Bool.and_eq_true] at h
 refine ⟨fun k hk=>?_,by simpa using h.2.1,by simpa using h.2.2⟩
 rw [getD_lt hk]
 have:=h.1 _ (List.getElem_mem hk)
 simp only [Bool.and_eq_true,decide_eq_true_eq] at this
 exact this
theorem someNames_ok:∀ s∈someNames,NameOK s:=fun s hs=>NameC_ok (List.all_eq_true.1 (show someNames.all NameC=true from rfl) s hs)
theorem d107 {r:Rd}{nm:List UInt8}{m:Nat}(h:RdOK r m)(hm:m≤40000000)(hn:NameOK nm):Draws (f107 fu r nm) ColOK (m+5):=by
 unfold f107
 refine (d74 h (by omega)).bind fun q r1 hq hr1=>?_
 have hq2:=hq.2 (by omega)
 have e:IntKind.i64.wrap (1+q)=1+q:=wrapI (by omega) (by omega)
 refine (d74 hr1 (by omega)).bind fun q3 r2 hq3 hr2=>?_
 refine (d74 hr2 (by omega)).bind fun q5 r3 hq5 hr3=>?_
 simp only [e]
 cases decide (q5=0) with
 | true=>exact .pure ⟨hn,by show 1+q=1∨1+q=2;omega,nul_ok,.inl rfl,fun _=>rfl⟩ (hr3.mono (by omega))
 | false=>
  refine (d95 hr3 (by omega)).bind fun v r4 hv hr4=>.pure ?_ hr4
  exact ⟨hn,by show 1+q=1∨1+q=2;omega,hv.ok (by omega),hv.fits,fun h=>by cases h⟩
structure Cols (s:List Col):Prop where
 all:∀ k,k<s.length→ColOK (s.getD k default)∧atI s (s.getD k default).name=(k:Int)
theorem Cols.snoc {s:List Col}{c:Col}(h:Cols s)(hc:ColOK c)(ha:¬ atN s c.name<s.length):Cols (s++[c]):=by
 have hap:∀ nm,atN (s++[c]) nm=if atN s nm<s.length then atN s nm else atN [c] nm+s.length:=fun nm=>List.findIdx_append
 refine ⟨fun k hk=>?_⟩
 by_cases hks:k<s.length
 ·have e:(s++[c]).getD k default=s.getD k default:=by
   rw [getD_lt hk,getD_lt hks,List.getElem_append_left hks]
  rw [e]
  have g:=h.all k hks
  refine ⟨g.1,?_⟩
  have hlt:atN s (s.getD k default).name<s.length:=Classical.byContradiction fun hn=>by
   have:=g.2;rw [atI_no hn] at this;omega
  have e2:=g.2
  rw [atI_lt hlt] at e2
  have e3:atN (s++[c]) (s.getD k default).name=k:=by rw [hap,if_pos hlt];omega
  rw [atI_lt (by rw [e3];exact hk),e3]
 ·have hk':k=s.length:=by simp at hk;omega
  subst hk'
  have e:(s++[c]).getD s.length default=c:=by simp [List.getD_eq_getElem?_getD]
  rw [e]
  have e3:atN (s++[c]) c.name=s.length:=by
   rw [hap,if_neg ha]
   have:atN [c] c.name=0:=by simp [atN,List.findIdx_cons]
   omega
  exact ⟨hc,by rw [atI_lt (by rw [e3];exact hk),e3]⟩
theorem l125:∀ (j n m:Nat) (s:List Col) (r:Rd) (hf:BIG≤fu),j<n→RdOK r m→m+6*j≤1000000→Cols s→s.length+j≤4→(0<s.length∨0<j)→Draws (f125_l1 fu n (j:Int) s r) ShapeOK (m+6*j):=by
 intro j
 induction j with
 | zero=>
  intro n m s r hf hn hr hm hs hl h0
  obtain ⟨n,rfl⟩:∃ i,n=i+1:=⟨n-1,by omega⟩
  rw [f125_l1]
  exact .pure ⟨hs.all,by omega,by omega⟩ (hr.mono (by omega))
 | succ j ih=>
  intro n m s r hf hn hr hm hs hl h0
  obtain ⟨n,rfl⟩:∃ i,n=i+1:=⟨n-1,by omega⟩
  rw [f125_l1,dt (show (0:Int) < ((j+1:Nat):Int) by omega),ct]
  unfold f106
  rw [bs]
  refine (d96 hr (by omega) (by decide)).bind fun nm r1 hnm hr1=>?_
  refine (d107 hr1 (by omega) (someNames_ok nm hnm)).bind fun c r2 hc hr2=>?_
  have e:IntKind.i64.wrap (((j+1:Nat):Int)-1)=(j:Int):=by rw [wrapI (by omega) (by omega)];omega
  rw [f108_is hf (by omega),bs]
  unfold f125_j2
  simp only [e]
  by_cases ha:atN s c.name<s.length
  ·rw [atI_lt ha,df (show ¬ (atN s c.name:Int)<0 by omega),cf]
   exact (ih n (m+6) s r2 hf (by omega) (hr2.mono (by omega)) (by omega) hs (by omega) (.inl (by omega))).mono (fun _ h=>h) (by omega)
  ·rw [atI_no ha,show decide ((-1:Int)<0)=true from rfl,ct,cap (by rw [List.length_singleton];omega),ct]
   exact (ih n (m+6) (s++[c]) r2 hf (by omega) (hr2.mono (by omega)) (by omega) (hs.snoc hc ha) (by simp;omega) (.inl (by simp))).mono (fun _ h=>h) (by omega)
theorem d125 {r:Rd}{m:Nat}(hf:BIG≤fu)(h:RdOK r m)(hm:m≤900000):Draws (f125 fu r) ShapeOK (m+25):=by
 unfold f125
 refine (d74 h (by omega)).bind fun q r1 hq hr1=>?_
 have hq2:=hq.2 (by omega)
 have hq1:=hq.1
 have e:IntKind.i64.wrap (1+q)=(((1+q).toNat:Nat):Int):=by rw [wrapI (by omega) (by omega)];omega
 simp only [e]
 have hj:(1+q).toNat≤4:=by omega
 have hj1:0 < (1+q).toNat:=by omega
 exact (l125 (1+q).toNat fu (m+1) [] r1 hf (by unfold BIG at hf;omega) hr1 (by omega) ⟨fun k hk=>by simp at hk⟩ (by simp;omega) (.inr hj1)).mono (fun _ h=>h) (by omega)
theorem sm_set {s:List Set}{x:Set}(h:SmX s)(hl:s.length≤900)(hx:SmV x.val):SmX (s++[x]):=⟨by simp;omega,fun y hy=>by
 rcases List.mem_append.1 hy with hy|hy
 ·exact h.all y hy
 ·simp only [List.mem_singleton] at hy;subst hy;exact hx⟩
theorem l62 {s:List Col}(hs:s.length≤5):∀ (j n k m:Nat) (xs:List Set) (r:Rd),k+j=s.length→j<n→RdOK r m→m+4*j≤900000→SmX xs→xs.length≤k→Draws (f62_l1 fu s n (k:Int) xs r) SmX (m+4*j+6):=by
 intro j
 induction j with
 | zero=>
  intro n k m xs r hk hn hr hm hx hl
  obtain ⟨n,rfl⟩:∃ i,n=i+1:=⟨n-1,by omega⟩
  have:k=s.length:=by omega
  subst this
  rw [f62_l1,nlt,cf]
  refine (d74 hr (by omega)).bind fun q r1 hq hr1=>?_
  simp only
  cases decide (q=0) with
  | true=>
   refine (d96 hr1 (by omega) (by decide)).bind fun nm r2 hnm hr2=>?_
   simp only [cap (show List.length xs+List.length ([(⟨nm,d0_49.val⟩:Set)]:List Set)≤100000 by rw [List.length_singleton];omega),ct]
   exact .pure (sm_set hx (by omega) nul_ok.sm) (hr2.mono (by omega))
  | false=>
   cases decide (q=1) with
   | false=>exact .pure hx (hr1.mono (by omega))
   | true=>
    by_cases h0:0<xs.length
    ·rw [dt (show (0:Int) < (xs.length:Int) by omega)]
     refine (d97 hr1 (by omega)).bind fun v r2 hv hr2=>?_
     unfold f62_j15
     simp only [ct,show decide ((0:Int)≤0)=true from rfl,Bool.true_and,dt (show (0:Int) < (xs.length:Int) by omega)]
     refine .pure ⟨by simpa using hx.len,fun y hy=>?_⟩ (hr2.mono (by omega))
     rcases List.mem_or_eq_of_mem_set hy with hy|hy
     ·exact hx.all y hy
     ·subst hy;exact hv
    ·rw [df (show ¬ (0:Int) < (xs.length:Int) by omega)]
     exact .pure hx (hr1.mono (by omega))
 | succ j ih=>
  intro n k m xs r hk hn hr hm hx hl
  obtain ⟨n,rfl⟩:∃ i,n=i+1:=⟨n-1,by omega⟩
  have hkl:k<s.length:=by omega
  have e1:IntKind.i64.wrap ((k:Int)+1)=((k+1:Nat):Int):=succI hkl (by unfold BIG;omega)
  have h12:∀ (ys:List Set) (r':Rd),RdOK r' (m+4)→SmX ys→ys.length≤k+1→Draws (f62_j12 (k:Int) (f62_l1 fu s n) ys r') SmX (m+4 * (j+1)+6):=fun ys r' hr' hy hly=>by
   unfold f62_j12
   rw [e1]
   exact (ih n (k+1) (m+4) ys r' (by omega) (by omega) hr' (by omega) hy hly).mono (fun _ h=>h) (by omega)
  have h14:∀ (v:Val) (r':Rd),RdOK r' (m+4)→SmV v→Draws (f62_j14 s (k:Int) xs r' (f62_l1 fu s n) v) SmX (m+4 * (j+1)+6):=fun v r' hr' hv=>by
   unfold f62_j14
   rw [inR hkl,ct,cap (by rw [List.length_singleton];omega),ct]
   exact h12 _ _ hr' (sm_set hx (by omega) hv) (by simp;omega)
  have h13:∀ (v:Val) (r0:Rd) (b:Bool) (r':Rd),RdOK r' (m+4)→SmV v→Draws (f62_j13 s (k:Int) xs (v,r0) (f62_l1 fu s n) b r') SmX (m+4 * (j+1)+6):=fun v r0 b r' hr' hv=>by
   unfold f62_j13
   cases b with
   | true=>rw [ct,inR hkl,ct];exact h14 _ _ hr' hv
   | false=>exact h14 _ _ hr' hv
  have h11:∀ (b:Bool) (r':Rd),RdOK r' (m+1)→Draws (f62_j11 fu s (k:Int) xs (f62_l1 fu s n) b r') SmX (m+4 * (j+1)+6):=fun b r' hr'=>by
   unfold f62_j11
   cases b with
   | false=>exact h12 _ _ (hr'.mono (by omega)) hx (by omega)
   | true=>
    rw [ct,inR hkl,ct]
    refine (d95 hr' (by omega)).bind fun v r2 hv hr2=>?_
    rw [ct]
    cases (s.getD (k:Int).toNat default).need with
    | false=>exact h13 _ r2 false _ (hr2.mono (by omega)) hv.sm
    | true=>
     simp only [ct]
     cases decide (v.kind=0) with
     | false=>exact h13 _ r2 false _ (hr2.mono (by omega)) hv.sm
     | true=>exact (d74 hr2 (by omega)).bind fun q r3 hq hr3=>h13 _ _ _ _ (hr3.mono (by omega)) hv.sm
  rw [f62_l1,ltR hkl,ct,ge0,Bool.and_self,ct]
  cases (s.getD (k:Int).toNat default).need with
  | true=>exact h11 true r (hr.mono (by omega))
  | false=>exact (d74 hr (by omega)).bind fun q r1 hq hr1=>h11 _ _ hr1
theorem d62 {s:List Col}{r:Rd}{m:Nat}(hf:BIG≤fu)(hs:s.length≤5)(h:RdOK r m)(hm:m≤800000):Draws (f62 fu r s) SmX (m+26):=by
 unfold f62
 exact (l62 hs s.length fu 0 m [] r (by omega) (by unfold BIG at hf;omega) h (by omega) ⟨by simp,fun _ h=>by cases h⟩ (by simp)).mono (fun _ h=>h) (by omega)
theorem d70 {s:List Col}{r:Rd}{m:Nat}(hf:BIG≤fu)(hs:s.length≤5)(h:RdOK r m)(hm:m≤800000):Draws (f70 fu r s) SmCh (m+13):=by
 have h3:∀ (c:Change) (r':Rd),RdOK r' (m+11)→SmCh c→Draws (f70_j3 fu c r') SmCh (m+13):=fun c r' hr' hc=>by
  unfold f70_j3 f70_j4
  refine (d74 hr' (by omega)).bind fun q r1 hq hr1=>?_
  simp only
  cases decide (q=0) with
  | true=>exact (d73 hr1 (by omega) (by decide)).bind fun x r2 hx hr2=>.pure ⟨hc.new,hc.col⟩ hr2
  | false=>
   cases decide (q=1) with
   | true=>exact (d96 hr1 (by omega) (by decide)).bind fun x r2 hx hr2=>.pure ⟨hc.new,hc.col⟩ hr2
   | false=>
    cases decide (q=2) with
    | true=>exact (d96 hr1 (by omega) (by decide)).bind fun x r2 hx hr2=>.pure ⟨sm_short (by rfl) x hx,hc.col⟩ hr2
    | false=>
     cases decide (q=3) with
     | true=>exact (d73 hr1 (by omega) (by decide)).bind fun x r2 hx hr2=>.pure ⟨hc.new,hc.col.name,hc.col.def_⟩ hr2
     | false=>
      cases decide (q=4) with
      | true=>exact .pure ⟨hc.new,hc.col.name,hc.col.def_⟩ (hr1.mono (by omega))
      | false=>exact .pure hc (hr1.mono (by omega))
 have hc0:SmC d0_56.col:=⟨by show ([]:List UInt8).length≤1000;simp,nul_ok.sm⟩
 have hn0:([]:List UInt8).length≤1000:=by simp
 have h2:∀ (nm:List UInt8) (r':Rd),RdOK r' (m+3)→Draws (f70_j2 fu s nm r') SmCh (m+13):=fun nm r' hr'=>by
  unfold f70_j2
  refine (d74 hr' (by omega)).bind fun q r1 hq hr1=>?_
  simp only
  cases decide (IntKind.i64.wrap (1+q)=1) with
  | true=>
   unfold f106
   simp only [ct,bs]
   refine (d96 hr1 (by omega) (by decide)).bind fun x r2 hx hr2=>?_
   refine (d107 hr2 (by omega) (someNames_ok x hx)).bind fun c r3 hc hr3=>?_
   have hcs:=hc.sm
   have h5:∀ (b:Bool) (rr:Rd),RdOK rr (m+11)→Draws (f70_j5 fu nm (q,r1) (c,r3) b rr) SmCh (m+13):=fun b rr hrr=>by
    unfold f70_j5
    cases b with
    | true=>exact h3 _ _ hrr ⟨hn0,hcs.name,hcs.def_⟩
    | false=>exact h3 _ _ hrr ⟨hn0,hcs⟩
   simp only
   cases c.need with
   | false=>exact h5 false _ (hr3.mono (by omega))
   | true=>
    simp only [ct]
    cases decide (c.def_.kind=0) with
    | false=>exact h5 false _ (hr3.mono (by omega))
    | true=>exact (d74 hr3 (by omega)).bind fun k r4 hk hr4=>h5 _ _ (hr4.mono (by omega))
  | false=>
   cases decide (IntKind.i64.wrap (1+q)=3) with
   | true=>exact (d96 hr1 (by omega) (by decide)).bind fun x r2 hx hr2=>h3 _ _ (hr2.mono (by omega)) ⟨sm_short (by rfl) x hx,hc0⟩
   | false=>
    cases decide (IntKind.i64.wrap (1+q)=4) with
    | false=>exact h3 _ _ (hr1.mono (by omega)) ⟨hn0,hc0⟩
    | true=>
     simp only [ct,cf]
     refine (d74 hr1 (by omega)).bind fun k r2 hk hr2=>?_
     rw [f108_is hf (by omega),bs]
     have h6:∀ (b:Bool) (rr:Rd),RdOK rr (m+11)→(b=true→atN s nm<s.length)→Draws (f70_j6 fu s nm (q,r1) (k,r2) (atI s nm) b rr) SmCh (m+13):=fun b rr hrr hb=>by
      unfold f70_j6
      cases b with
      | true=>
       have:=hb rfl
       rw [ct,atI_lt this,inR this,ct]
       exact h3 _ _ hrr ⟨hn0,hc0.name,hc0.def_⟩
      | false=>exact h3 _ _ hrr ⟨hn0,hc0.name,hc0.def_⟩
     by_cases ha:atN s nm<s.length
     ·rw [dt (show 0≤atI s nm by rw [atI_lt ha];omega)]
      simp only [ct]
      exact (d74 hr2 (by omega)).bind fun k' r4 hk hr4=>h6 _ _ (hr4.mono (by omega)) fun _=>ha
     ·rw [df (show ¬ 0≤atI s nm by rw [atI_no ha];omega)]
      exact h6 false _ (hr2.mono (by omega)) fun h=>by cases h
 unfold f70 f106
 rw [bs]
 refine (d96 h (by omega) (by decide)).bind fun nm r1 hnm hr1=>?_
 have h1:∀ (b:Bool) (rr:Rd),RdOK rr (m+2)→(b=true→0<s.length)→Draws (f70_j1 fu s (nm,r1) b rr) SmCh (m+13):=fun b rr hrr hb=>by
  unfold f70_j1
  cases b with
  | false=>exact h2 _ _ (hrr.mono (by omega))
  | true=>
   rw [ct]
   refine (d74 hrr (by omega)).bind fun k r4 hk hr4=>?_
   have:=idxR hk (hb rfl)
   simp only [this.1,ct]
   exact h2 _ _ hr4
 by_cases h0:0<s.length
 ·rw [dt (show (0:Int) < (s.length:Int) by omega)]
  simp only [ct]
  exact (d74 hr1 (by omega)).bind fun k r4 hk hr4=>h1 _ _ hr4 fun _=>h0
 ·rw [df (show ¬ (0:Int) < (s.length:Int) by omega)]
  exact h1 false _ (hr1.mono (by omega)) fun h=>by cases h
end Go.Proofs.YtdpigighgmipfaaGreatDoor
/- What is drawn: tables. -/
namespace Go.Proofs.YtdpigighgmipfaaGreatDoor
open Go Go.HL
variable {fu:Nat}
structure Good (t:Table):Prop where
 ok:TabOK t
 sm:SmT t
theorem sms_set {s:List Col}{k:Nat}{c:Col}(h:SmS s)(hc:SmC c):SmS (s.set k c):=⟨by have:=h.len;simpa using this,fun x hx=>by
 rcases List.mem_or_eq_of_mem_set hx with hx|hx
 ·exact h.all x hx
 ·subst hx;exact hc⟩
theorem d123 {r:Rd}{s:List Col}{m:Nat}(h:RdOK r m)(hm:m≤700000)(hs:SmS s)(hl:s.length≤900):Draws (f123 fu r s) (fun x=>SmS x∧x.length≤s.length+1) (m+7):=by
 unfold f123 f123_j1
 rw [cap (by rw [List.length_nil];omega),ct,List.nil_append]
 by_cases h0:s.length=0
 ·rw [dt (show (s.length:Int)=0 by omega)]
  exact .pure ⟨hs,by omega⟩ (h.mono (by omega))
 rw [df (show ¬ (s.length:Int)=0 by omega),cf]
 refine (d74 h (by omega)).bind fun k r1 hk hr1=>?_
 have hi:=idxR hk (show 0<s.length by omega)
 have hg:=hs.get hi.2
 refine (d74 hr1 (by omega)).bind fun q r2 hq hr2=>?_
 simp only [hi.1,ct]
 cases decide (q=0) with
 | true=>exact (d96 hr2 (by omega) (by decide)).bind fun x r3 hx hr3=>.pure ⟨sms_set hs ⟨sm_short (by rfl) x hx,hg.def_⟩,by simp⟩ (hr3.mono (by omega))
 | false=>
  cases decide (q=1) with
  | true=>exact (d73 hr2 (by omega) (by decide)).bind fun x r3 hx hr3=>.pure ⟨sms_set hs ⟨hg.name,hg.def_⟩,by simp⟩ (hr3.mono (by omega))
  | false=>
   cases decide (q=2) with
   | true=>exact (d97 hr2 (by omega)).bind fun x r3 hx hr3=>.pure ⟨sms_set hs ⟨hg.name,hx⟩,by simp⟩ (hr3.mono (by omega))
   | false=>
    cases decide (q=3) with
    | true=>
     simp only [ct,cf]
     rw [cap (by rw [List.length_singleton];omega),ct]
     refine .pure ⟨⟨by simp;omega,fun x hx=>?_⟩,by simp⟩ (hr2.mono (by omega))
     rcases List.mem_append.1 hx with hx|hx
     ·exact hs.all x hx
     ·simp only [List.mem_singleton] at hx;subst hx;exact hg
    | false=>
     cases decide (q=4) with
     | true=>exact .pure ⟨⟨by simp,fun _ h=>by cases h⟩,by simp⟩ (hr2.mono (by omega))
     | false=>
      cases decide (q=5) with
      | true=>exact .pure ⟨sms_set hs ⟨hg.name,hg.def_⟩,by simp⟩ (hr2.mono (by omega))
      | false=>exact .pure ⟨hs,by omega⟩ (hr2.mono (by omega))
theorem smt_set {t:Table}(h:SmT t){k:Nat}{r:Row}(hr:SmR r.vals):SmT ⟨t.first,t.changes,t.rows.set k r,t.next⟩:=⟨h.first,h.cs,by have:=h.nrow;simpa using this,fun j hj=>by
 rw [getD_lt hj]
 rcases List.mem_or_eq_of_mem_set (List.getElem_mem hj) with hm|hm
 ·exact h.row hm
 ·rw [hm];exact hr⟩
theorem d60 {a:List Int}(ha:∀ b,b∈a→0≤b∧b≤255):∃ r,f60 fu a=some r∧RdOK r 0:=by
 unfold f60 f60_j1
 by_cases h:2000<a.length
 ·rw [dt (show (2000:Int) < (a.length:Int) by omega),ct,show (decide ((0:Int)≤0)&&decide ((0:Int)≤2000)&&decide ((2000:Int)≤(a.length:Int)))=true by simp;omega]
  refine ⟨_,rfl,fun x hx=>ha x ?_,Int.le_refl _,Int.le_refl _⟩
  exact List.mem_of_mem_take (List.mem_of_mem_drop hx)
 ·rw [df (show ¬ (2000:Int) < (a.length:Int) by omega)]
  exact ⟨_,rfl,ha,Int.le_refl _,Int.le_refl _⟩
end Go.Proofs.YtdpigighgmipfaaGreatDoor
/- What the laws ask: how each thing done ends, what is told twice, rows compared. -/
namespace Go.Proofs.YtdpigighgmipfaaGreatDoor
open Go Go.HL
variable {fu:Nat}
theorem cond_long {n:Nat}{x:Option Bool}(h:x=some true):cond (decide (1048576 < (n:Int))) (some true) x=some true:=by
 cases decide (1048576 < (n:Int)) with
 | true=>rfl
 | false=>exact h
theorem Good.now {t:Table}(h:Good t){k:Nat}(hk:k<t.rows.length):RowOK (lastS t) (nowR t (t.rows.getD k default)):=(h.ok.rg _ (getD_mem hk)).now
structure PutFine (t:Table) (xs:List Set) (row:List Val):Prop where
 tell:tell (lastS t) [] (defs (lastS t)) xs=some row
 ok:RowOK (lastS t) row
 once:NoTwice (lastS t) (nows t++[row])
 room:t.rows.length≠8
 next:t.next≠60
def putR (t:Table)(row:List Val):Table:={ t with rows:=t.rows++[⟨t.next,(t.changes.length:Int),row⟩],next:=t.next+1 }
theorem putT_cases (t:Table)(xs:List Set):(∃ row,PutFine t xs row∧putT t xs=(putR t row,0))∨((putT t xs).1=t∧(putT t xs).2≠0):=by
 unfold putT
 split
 ·exact .inr ⟨rfl,by simp⟩
 ·rename_i row ht
  by_cases h1:RowOK (lastS t) row
  case neg=>rw [if_pos h1];exact .inr ⟨rfl,by simp⟩
  rw [if_neg (fun h=>h h1)]
  by_cases h2:NoTwice (lastS t) (nows t++[row])
  case neg=>rw [if_pos h2];exact .inr ⟨rfl,by simp⟩
  rw [if_neg (fun h=>h h2)]
  by_cases h3:t.rows.length=8∨t.next=60
  ·rw [if_pos h3];exact .inr ⟨rfl,by simp⟩
  ·rw [if_neg h3];exact .inl ⟨row,⟨ht,h1,h2,fun e=>h3 (.inl e),fun e=>h3 (.inr e)⟩,rfl⟩
structure SetFine (t:Table) (id:Int) (xs:List Set) (row:List Val):Prop where
 there:rowN t id<t.rows.length
 tell:tell (lastS t) [] (nowR t (t.rows.getD (rowN t id) default)) xs=some row
 ok:RowOK (lastS t) row
 once:NoTwice (lastS t) ((nows t).set (rowN t id) row)
def setR (t:Table)(id:Int)(row:List Val):Table:={ t with rows:=t.rows.set (rowN t id) ⟨id,(t.changes.length:Int),row⟩ }
theorem setT_cases (t:Table)(id:Int)(xs:List Set):(∃ row,SetFine t id xs row∧setT t id xs=(setR t id row,0))∨((setT t id xs).1=t∧(setT t id xs).2≠0):=by
 unfold setT
 by_cases h0:rowN t id<t.rows.length
 case neg=>rw [if_neg h0];exact .inr ⟨rfl,by simp⟩
 rw [if_pos h0]
 split
 ·exact .inr ⟨rfl,by simp⟩
 ·rename_i row ht
  by_cases h1:RowOK (lastS t) row
  case neg=>rw [if_pos h1];exact .inr ⟨rfl,by simp⟩
  rw [if_neg (fun h=>h h1)]
  by_cases h2:NoTwice (lastS t) ((nows t).set (rowN t id) row)
  case neg=>rw [if_pos h2];exact .inr ⟨rfl,by simp⟩
  rw [if_neg (fun h=>h h2)]
  exact .inl ⟨row,⟨h0,ht,h1,h2⟩,rfl⟩
theorem setT_fine {t:Table}{id:Int}{xs:List Set}{row:List Val}(h:SetFine t id xs row):setT t id xs=(setR t id row,0):=by
 unfold setT
 rw [if_pos h.there,h.tell]
 simp only
 rw [if_neg (fun h'=>h' h.ok),if_neg (fun h'=>h' h.once)];rfl
structure ChgFine (t:Table) (c:Change):Prop where
 can:Can (lastS t) c
 rows:∀ k,k<t.rows.length→RowOK (chg (lastS t) c) (chgRow (lastS t) c (nowR t (t.rows.getD k default)))
def chgR (t:Table)(c:Change):Table:={ t with changes:=t.changes++[c] }
theorem chgT_fine {t:Table}{c:Change}(h:ChgFine t c)(h8:t.changes.length≠8):chgT t c=(chgR t c,0):=by
 unfold chgT
 rw [if_neg (fun h'=>h' h.can),if_neg (fun ⟨k,hk,h'⟩=>h' (h.rows k hk)),if_neg h8];rfl
theorem chgT_full {t:Table}{c:Change}(h:ChgFine t c)(h8:t.changes.length=8):chgT t c=(t,4):=by
 unfold chgT
 rw [if_neg (fun h'=>h' h.can),if_neg (fun ⟨k,hk,h'⟩=>h' (h.rows k hk)),if_pos h8]
theorem chgT_form {t:Table}{c:Change}(h:¬ Can (lastS t) c):chgT t c=(t,1):=if_pos h
theorem chgT_need {t:Table}{c:Change}(h:Can (lastS t) c)(h2:∃ k,k<t.rows.length∧¬ RowOK (chg (lastS t) c) (chgRow (lastS t) c (nowR t (t.rows.getD k default)))):chgT t c=(t,2):=by
 unfold chgT
 rw [if_neg (fun h'=>h' h),if_pos h2]
theorem chgT_cases (t:Table)(c:Change):(ChgFine t c∧t.changes.length≠8)∨(ChgFine t c∧t.changes.length=8)∨¬ Can (lastS t) c∨(Can (lastS t) c∧∃ k,k<t.rows.length∧¬ RowOK (chg (lastS t) c) (chgRow (lastS t) c (nowR t (t.rows.getD k default)))):=by
 by_cases h1:Can (lastS t) c
 case neg=>exact .inr (.inr (.inl h1))
 by_cases h2:∃ k,k<t.rows.length∧¬ RowOK (chg (lastS t) c) (chgRow (lastS t) c (nowR t (t.rows.getD k default)))
 ·exact .inr (.inr (.inr ⟨h1,h2⟩))
 have hf:ChgFine t c:=⟨h1,fun k hk=>Classical.byContradiction fun hn=>h2 ⟨k,hk,hn⟩⟩
 by_cases h3:t.changes.length=8
 ·exact .inr (.inl ⟨hf,h3⟩)
 ·exact .inl ⟨hf,h3⟩
theorem atN_name {s:List Col}{nm:List UInt8}(h:atN s nm<s.length):(s.getD (atN s nm) default).name=nm:=by
 rw [getD_lt h]
 exact of_decide_eq_true (List.findIdx_getElem (w:=h))
theorem atN_at {s:List Col}(hs:ShapeOK s){k:Nat}(hk:k<s.length):atN s (s.getD k default).name=k:=by
 have:=(hs.all k hk).2
 have hlt:atN s (s.getD k default).name<s.length:=Classical.byContradiction fun hn=>by rw [atI_no hn] at this;omega
 rw [atI_lt hlt] at this
 omega
end Go.Proofs.YtdpigighgmipfaaGreatDoor
/- Tables written anew; a change of columns and of a row by itself; what a column finds; a row told as it is. -/
namespace Go.Proofs.YtdpigighgmipfaaGreatDoor
open Go Go.HL
variable {fu:Nat}
noncomputable def anew (t:Table) (r:Row):Row:=⟨r.id,0,nowR t r⟩
noncomputable def nowT (t:Table):Table:=⟨lastS t,[],t.rows.map (anew t),t.next⟩
theorem nowR_nowT (t:Table)(r:Row):nowR (nowT t) r=r.vals:=by
 unfold nowR
 show runRow _ (([]:List Change).drop r.ver.toNat) r.vals=_
 rw [List.drop_nil];rfl
theorem lastS_nowT (t:Table):lastS (nowT t)=lastS t:=rfl
theorem shapeAt_nowT (t:Table)(v:Nat):shapeAt (nowT t) v=lastS t:=by
 unfold shapeAt
 show (run (lastS t) (([]:List Change).take v)).getD []=_
 rw [List.take_nil];rfl
theorem nows_nowT (t:Table):nows (nowT t)=nows t:=by
 unfold nows
 show (t.rows.map (anew t)).map (nowR (nowT t))=_
 rw [List.map_map]
 exact List.map_congr_left fun r _=>nowR_nowT t _
theorem nowT_get {t:Table}{k:Nat}(hk:k<t.rows.length):(nowT t).rows.getD k default=anew t (t.rows.getD k default):=by
 show (t.rows.map (anew t)).getD k default=_
 rw [getD_lt (by simpa using hk),getD_lt hk,List.getElem_map]
theorem nowT_ok {t:Table}(h:Good t):Good (nowT t):=by
 have hrt:=h.ok.rt h.sm
 have hok:ShapeOK (lastS t):=hrt.okLast
 have hhi:=hok.hi
 refine ⟨tabOK_of hok ⟨lastS t,rfl⟩ (by show ([]:List Change).length≤8;simp) (by show (t.rows.map (anew t)).length≤8;rw [List.length_map];exact h.ok.nrow) h.ok.lo h.ok.hi (fun r hr=>?_) ?_ ?_,⟨hok.sm,⟨by show ([]:List Change).length≤1000;simp,fun _ h=>by cases h⟩,by show (t.rows.map (anew t)).length≤1000;rw [List.length_map];exact h.sm.nrow,fun k hk=>?_⟩⟩
 ·obtain ⟨q,hq,rfl⟩:=List.mem_map.1 hr
  have g:=h.ok.rg q hq
  refine ⟨⟨Int.le_refl _,Int.le_refl _⟩,g.lo,g.hi,?_,?_⟩
  ·rw [shapeAt_nowT];exact g.now
  ·rw [lastS_nowT,nowR_nowT];exact g.now
 ·show (t.rows.map (anew t)).Pairwise _
  rw [List.pairwise_map]
  exact h.ok.asc
 ·rw [lastS_nowT,nows_nowT];exact h.ok.once
 ·have hk':k<t.rows.length:=by have:k < (t.rows.map (anew t)).length:=hk;simpa using this
  rw [nowT_get hk']
  exact nowR_sm hrt ((h.ok.rws h.sm).all k hk')
open Classical in
noncomputable def nowB (t:Table):Table:=if TabOK t then nowT t else nilT
theorem f34_is {t:Table}(hf:BIG≤fu)(hs:SmT t):f34 fu t=some (nowB t):=by
 unfold f34 nowB
 rw [f19_is hf hs,bs]
 by_cases h:TabOK t
 case neg=>rw [B_f h,if_neg h];rfl
 rw [B_t h,if_pos h]
 simp only [Bool.not_true,cf]
 rw [f66_is hf (h.rt hs),bs,f77_is hs.nrow,bs]
 unfold f34_j1
 have hN:=hs.nrow
 have key:∀ (m n k:Nat) (rs:List Row),k+m=t.rows.length→m<n→rs.length=t.rows.length→(∀ j,j<k→rs.getD j default=(nowT t).rows.getD j default)→
  f34_l1 fu t (⟨lastS t,([]:List Change),t.rows,t.next⟩:Table) n (k:Int) rs=some (nowT t):=by
  intro m
  induction m with
  | zero=>
   intro n k rs hk hn hl hrs
   obtain ⟨n,rfl⟩:∃ i,n=i+1:=⟨n-1,by omega⟩
   have:k=t.rows.length:=by omega
   subst this
   have hl2:(nowT t).rows.length=t.rows.length:=by show (t.rows.map (anew t)).length=_;rw [List.length_map]
   have e:rs=(nowT t).rows:=List.ext_getElem (by rw [hl,hl2]) fun j h1 h2=>by
    have h3:=hrs j (by omega)
    rwa [getD_lt h1,getD_lt h2] at h3
   rw [f34_l1,nlt,cf,e];rfl
  | succ m ih=>
   intro n k rs hk hn hl hrs
   obtain ⟨n,rfl⟩:∃ i,n=i+1:=⟨n-1,by omega⟩
   have hkl:k<t.rows.length:=by omega
   rw [f34_l1,ltR hkl,ct,ge0,Bool.and_self,ct,tn,f49_is hf (h.rt hs) ((h.rws hs).all k hkl),bs,ltR (show k<rs.length by omega),Bool.and_self,ct,succI hkl (by unfold BIG;omega)]
   refine ih n (k+1) _ (by omega) (by omega) (by simpa using hl) fun j hj=>?_
   rw [getD_set (by omega)]
   by_cases hjk:j=k
   ·rw [if_pos hjk,hjk,nowT_get hkl];rfl
   ·rw [if_neg hjk];exact hrs j (by omega)
 exact key t.rows.length fu 0 t.rows (by omega) (by unfold BIG at hf;omega) rfl (fun j hj=>by omega)
end Go.Proofs.YtdpigighgmipfaaGreatDoor
