/- What is drawn: nothing fails, and all is small. -/
import Derived.Test.YtganfdhmkdehlaaGreatDoorQ2004M13
set_option linter.all false
namespace Go.Proofs.YtganfdhmkdehlaaGreatDoor
open Go Go.HL
variable {fu:Nat}
structure cb (r:Rd) (m:Nat):Prop where
 b:∀ x,x∈r.b→0≤x∧x≤255
 lo:0≤r.p
 hi:r.p≤(m:Int)
theorem cb.get {r:Rd}{m:Nat}(h:cb r m)(i:Nat):0≤r.b.getD i default∧r.b.getD i default≤255:=by
 by_cases hi:i<r.b.length
 ·rw [ae hi];exact h.b _ (List.getElem_mem hi)
 ·rw [List.getD_eq_getElem?_getD,List.getElem?_eq_none (by omega)]
  show (0:Int)≤0∧(0:Int)≤255
  omega
theorem cb.mono {r:Rd}{m m':Nat}(h:cb r m)(hm:m≤m'):cb r m':=⟨h.b,h.lo,by have:=h.hi;omega⟩
theorem qM {X:Int}(h1:0≤X)(h2:X<4611686018427387904):(BitVec.ofInt 64 X).toNat<2 ^ 62:=by
 rw [BitVec.toNat_ofInt];omega
theorem AE {X Y:Int}(h1:0≤X)(h2:X<4611686018427387904)(h3:0≤Y)(h4:Y<4611686018427387904):0≤IntKind.i64.wrap ((BitVec.ofInt 64 X ^^^ BitVec.ofInt 64 Y).toNat:Int):=by
 have h:(BitVec.ofInt 64 X ^^^ BitVec.ofInt 64 Y).toNat<2 ^ 62:=by
  rw [BitVec.toNat_xor];exact Nat.xor_lt_two_pow (qM h1 h2) (qM h3 h4)
 rw [bu (by omega) (by omega)]
 omega
theorem wm {x n:Int}(hx:0≤x)(hn:1≤n):0≤x.tmod n∧x.tmod n<n:=⟨Int.tmod_nonneg _ hx,Int.tmod_lt_of_pos _ (by omega)⟩
theorem Bc {r:Rd}{n:Int}{m:Nat}(h:cb r m)(hm:m≤100000000):∃ k r',f74 fu r n=some (k,r')∧0≤k∧(1≤n→k<n)∧cb r' (m+1):=by
 have hlo:=h.lo
 have hhi:=h.hi
 have hp1:IntKind.i64.wrap (r.p+1)=r.p+1:=bu (by omega) (by omega)
 have hk:IntKind.i64.wrap (r.p+1-1)=r.p:=by rw [Int.add_sub_cancel];exact bu (by omega) (by omega)
 have hr':cb ⟨r.b,r.p+1⟩ (m+1):=⟨h.b,by show 0≤r.p+1;omega,by show r.p+1≤((m+1:Nat):Int);omega⟩
 have hT:mu r n true=some (0,⟨r.b,r.p+1⟩):=by unfold mu;simp only [ct,hp1]
 unfold f74
 by_cases hn:n<1
 ·rw [dt hn,ct,hT]
  exact ⟨0,_,rfl,Int.le_refl _,fun h=>by omega,hr'⟩
 rw [df hn,cf]
 by_cases hb:r.b.length=0
 ·rw [dt (show (List.length r.b:Int)=0 by omega),hT]
  exact ⟨0,_,rfl,Int.le_refl _,fun h=>by omega,hr'⟩
 rw [df (show ¬ (List.length r.b:Int)=0 by omega)]
 have hn0:decide (n=0)=false:=df (by omega)
 unfold mu
 simp only [cf,hp1,hk,hn0]
 by_cases hlt:r.p < (r.b.length:Int)
 ·have hg:=h.get r.p.toNat
  rw [dt hlt,dt hlo,ct,b_,ct,bu (by omega) (by omega)]
  have ht:=wm hg.1 (show 1≤n by omega)
  exact ⟨_,_,rfl,ht.1,fun _=>ht.2,hr'⟩
 ·have hL:1≤(r.b.length:Int):=by omega
  have e7:IntKind.i64.wrap (r.p*7)=r.p*7:=bu (by omega) (by omega)
  have e73:IntKind.i64.wrap (r.p*7+3)=r.p*7+3:=bu (by omega) (by omega)
  have hi1:=wm hlo hL
  have hi2:=wm (show 0≤r.p*7+3 by omega) hL
  have hL0:decide ((r.b.length:Int)=0)=false:=df (by omega)
  have hA:=h.get (r.p.tmod (r.b.length:Int)).toNat
  have hB:=h.get ((r.p*7+3).tmod (r.b.length:Int)).toNat
  have hQ:0≤r.p.tdiv (r.b.length:Int)∧r.p.tdiv (r.b.length:Int)≤r.p:=by
   refine ⟨Int.tdiv_nonneg hlo (by omega),?_⟩
   rw [Int.tdiv_eq_ediv_of_nonneg hlo]
   exact Int.ediv_le_self _ hlo
  rw [df hlt]
  simp only [cf,hL0,e7,e73,dt hi1.1,dt hi1.2,dt hi2.1,dt hi2.2,b_,ct,show decide ((64:Int)=0)=false from rfl]
  generalize r.b.getD (r.p.tmod (r.b.length:Int)).toNat default=A at hA
  generalize r.b.getD ((r.p*7+3).tmod (r.b.length:Int)).toNat default=C at hB
  generalize r.p.tdiv (r.b.length:Int)=Q at hQ
  have w1:IntKind.i64.wrap A=A:=bu (by omega) (by omega)
  have w2:IntKind.i64.wrap (A*131)=A*131:=bu (by omega) (by omega)
  have w3:IntKind.i64.wrap C=C:=bu (by omega) (by omega)
  have w4:IntKind.i64.wrap (C*1117)=C*1117:=bu (by omega) (by omega)
  have w5:IntKind.i64.wrap (A*131+C*1117)=A*131+C*1117:=bu (by omega) (by omega)
  have w6:IntKind.i64.wrap (r.p*29)=r.p*29:=bu (by omega) (by omega)
  have w7:IntKind.i64.wrap (A*131+C*1117+r.p*29)=A*131+C*1117+r.p*29:=bu (by omega) (by omega)
  have w8:IntKind.i64.wrap Q=Q:=bu (by omega) (by omega)
  have w9:IntKind.i64.wrap (Q*53)=Q*53:=bu (by omega) (by omega)
  have w10:IntKind.i64.wrap (A*131+C*1117+r.p*29+Q*53)=A*131+C*1117+r.p*29+Q*53:=bu (by omega) (by omega)
  simp only [w1,w2,w3,w4,w5,w6,w7,w8,w9,w10]
  have hX:0≤A*131+C*1117+r.p*29+Q*53∧A*131+C*1117+r.p*29+Q*53<4611686018427387904:=by omega
  generalize A*131+C*1117+r.p*29+Q*53=X at hX
  have hD:0≤X.tdiv 64∧X.tdiv 64<4611686018427387904:=by
   rw [Int.tdiv_eq_ediv_of_nonneg hX.1];omega
  have hd:IntKind.i64.wrap (X.tdiv 64)=X.tdiv 64:=bu (by omega) (by omega)
  first | rw [hd] | skip
  have hx:=AE hX.1 hX.2 hD.1 hD.2
  have ht:=wm hx (show 1≤n by omega)
  exact ⟨_,_,rfl,ht.1,fun _=>ht.2,hr'⟩
def aJ {α:Type}(x:Option (α×Rd))(P:α→Prop)(m:Nat):Prop:=∃ a r,x=some (a,r)∧P a∧cb r m
theorem aJ.bind {α β:Type}{x:Option (α×Rd)}{P:α→Prop}{m m':Nat}{f:α×Rd→Option (β×Rd)}{Q:β→Prop}(h:aJ x P m)(hf:∀ a r,P a→cb r m→aJ (f (a,r)) Q m'):aJ (x.bind f) Q m':=by
 obtain ⟨a,r,rfl,h1,h2⟩:=h
 exact hf a r h1 h2
theorem aJ.mono {α:Type}{x:Option (α×Rd)}{P Q:α→Prop}{m m':Nat}(h:aJ x P m)(hQ:∀ a,P a→Q a)(hm:m≤m'):aJ x Q m':=by
 obtain ⟨a,r,e,h1,h2⟩:=h
 exact ⟨a,r,e,hQ a h1,h2.mono hm⟩
theorem aJ.pure {α:Type}{a:α}{r:Rd}{P:α→Prop}{m:Nat}(h1:P a)(h2:cb r m):aJ (some (a,r)) P m:=⟨a,r,rfl,h1,h2⟩
theorem d74 {r:Rd}{n:Int}{m:Nat}(h:cb r m)(hm:m≤100000000):aJ (f74 fu r n) (fun k=>0≤k∧(1≤n→k<n)) (m+1):=by
 obtain ⟨k,r',e,h1,h2,h3⟩:=Bc (fu:=fu) (n:=n) h hm
 exact ⟨k,r',e,⟨h1,h2⟩,h3⟩
theorem getD_mem {α:Type}{l:List α}{d:α}{k:Nat}(hk:k<l.length):l.getD k d∈l:=by rw [ae hk];exact List.getElem_mem hk
theorem ue {k:Int}{n:Nat}(h:0≤k∧(1≤(n:Int)→k < (n:Int)))(hn:0<n):(decide (0≤k)&&decide (k < (n:Int)))=true∧k.toNat<n:=by
 have:=h.2 (by omega)
 have:=h.1
 exact ⟨by simp;omega,by omega⟩
theorem d73 {r:Rd}{l:List Int}{m:Nat}(h:cb r m)(hm:m≤100000000)(hl:0<l.length):aJ (f73 fu r l) (fun x=>x∈l) (m+1):=by
 unfold f73
 refine (d74 h hm).bind fun k r' hk hr'=>?_
 have:=ue hk hl
 simp only [this.1,ct]
 exact .pure (getD_mem this.2) hr'
theorem d96 {r:Rd}{l:List (List UInt8)}{m:Nat}(h:cb r m)(hm:m≤100000000)(hl:0<l.length):aJ (f96 fu r l) (fun x=>x∈l) (m+1):=by
 unfold f96
 refine (d74 h hm).bind fun k r' hk hr'=>?_
 have:=ue hk hl
 simp only [this.1,ct]
 exact .pure (getD_mem this.2) hr'
def someTexts:List (List UInt8):=[([]:List UInt8),[97],[98],[97,98],[49,50],[45,53],[48,48,55],[122,122,122,122],[51]]
def zZ (s:List UInt8):Bool:=s.all (fun b=>(97≤b.toNat&&b.toNat≤122) || (48≤b.toNat&&b.toNat≤57) || b.toNat == 45)&&s.length≤4
theorem yi {s:List UInt8}(h:zZ s=true):eD s:=by
 unfold zZ at h
 rw [Bool.and_eq_true,List.all_eq_true] at h
 refine ⟨fun k hk=>?_,by simpa using h.2⟩
 rw [ae hk]
 have:=h.1 _ (List.getElem_mem hk)
 simp only [Bool.or_eq_true,Bool.and_eq_true,decide_eq_true_eq,beq_iff_eq] at this
 unfold lR wO
 omega
theorem oe:∀ s∈someTexts,eD s:=fun s hs=>yi (List.all_eq_true.1 (show someTexts.all zZ=true from rfl) s hs)
def someNums:List Int:=[0,1,2,3,-1,7,999,-999]
theorem ps:∀ n∈someNums,-999≤n∧n≤999:=fun n hn=>by
 have:=List.all_eq_true.1 (show someNums.all (fun n=>decide (-999≤n)&&decide (n≤999))=true from rfl) n hn
 simpa using this
structure z7 (k:Int) (v:Val):Prop where
 sm:SmV v
 fits:v.kind=0∨v.kind=k
 ok:k=1∨k=2→ValOK v
theorem tq (k:Int):z7 k ⟨0,0,[]⟩:=⟨nul_ok.sm,.inl rfl,fun _=>nul_ok⟩
theorem d95 {r:Rd}{k:Int}{m:Nat}(h:cb r m)(hm:m≤50000000):aJ (f95 fu r k) (z7 k) (m+2):=by
 have hj:∀ r',cb r' (m+1)→∀ b,aJ (oH fu k b r') (z7 k) (m+2):=fun r' hr' b=>by
  unfold oH
  cases b with
  | true=>exact .pure (tq k) (hr'.mono (by omega))
  | false=>
   simp only [cf]
   by_cases hk:k=1
   ·rw [dt hk,ct]
    refine (d73 hr' (by omega) (by decide)).bind fun x r2 hx hr2=>.pure ?_ hr2
    have hn:=ps x hx
    have hv:ValOK ⟨k,x,[]⟩:=.inr (.inl ⟨hk,hn.1,hn.2,rfl⟩)
    exact ⟨hv.sm,.inr rfl,fun _=>hv⟩
   ·rw [df hk,cf]
    refine (d96 hr' (by omega) (by decide)).bind fun x r2 hx hr2=>.pure ?_ hr2
    have ht:=oe x hx
    refine ⟨?_,.inr rfl,fun h=>.inr (.inr ⟨by show k=2;omega,rfl,ht⟩)⟩
    have:=ht.2
    show x.length≤1000
    omega
 unfold f95
 refine (d74 h (by omega)).bind fun q r' hq hr'=>?_
 simp only
 cases decide (q=0) with
 | true=>exact hj r' hr' true
 | false=>exact hj r' hr' _
theorem sm_short {l:List (List UInt8)}(hl:l.all (fun s=>decide (s.length≤1000))=true):∀ s∈l,s.length≤1000:=fun s hs=>by simpa using List.all_eq_true.1 hl s hs
theorem Dj {r:Rd}{v:Val}{m:Nat}(h:cb r m)(hm:m≤50000000)(hv:SmV v):aJ (By fu r v) SmV (m+2):=by
 unfold By ji
 refine (d74 h (by omega)).bind fun q r' hq hr'=>?_
 simp only
 cases decide (q=0) with
 | true=>exact (d73 hr' (by omega) (by decide)).bind fun x r2 hx hr2=>.pure hv hr2
 | false=>
  cases decide (q=1) with
  | true=>exact (d73 hr' (by omega) (by decide)).bind fun x r2 hx hr2=>.pure hv hr2
  | false=>
   cases decide (q=2) with
   | true=>exact (d96 hr' (by omega) (by decide)).bind fun x r2 hx hr2=>.pure (sm_short (by rfl) x hx) hr2
   | false=>exact .pure hv (hr'.mono (by omega))
theorem d97 {r:Rd}{m:Nat}(h:cb r m)(hm:m≤40000000):aJ (f97 fu r) SmV (m+5):=by
 unfold f97
 refine (d74 h (by omega)).bind fun q r' hq hr'=>?_
 refine (d95 hr' (by omega)).bind fun v r2 hv hr2=>?_
 exact (Dj hr2 (by omega) hv.sm).bind fun u r3 hu hr3=>.pure hu hr3
def someNames:List (List UInt8):=[[97],[98],[99],[100],[101],[97,98]]
def Ab (s:List UInt8):Bool:=s.all (fun b=>97≤b.toNat&&b.toNat≤122)&&(1≤s.length&&s.length≤3)
theorem yk {s:List UInt8}(h:Ab s=true):am s:=by
 unfold Ab at h
 rw [Bool.and_eq_true,List.all_eq_true,Bool.and_eq_true] at h
 refine ⟨fun k hk=>?_,by simpa using h.2.1,by simpa using h.2.2⟩
 rw [ae hk]
 have:=h.1 _ (List.getElem_mem hk)
 simp only [Bool.and_eq_true,decide_eq_true_eq] at this
 exact this
theorem ju:∀ s∈someNames,am s:=fun s hs=>yk (List.all_eq_true.1 (show someNames.all Ab=true from rfl) s hs)
theorem CT {r:Rd}{nm:List UInt8}{m:Nat}(h:cb r m)(hm:m≤40000000)(hn:am nm):aJ (zI fu r nm) dC (m+5):=by
 unfold zI
 refine (d74 h (by omega)).bind fun q r1 hq hr1=>?_
 have hq2:=hq.2 (by omega)
 have e:IntKind.i64.wrap (1+q)=1+q:=bu (by omega) (by omega)
 refine (d74 hr1 (by omega)).bind fun q3 r2 hq3 hr2=>?_
 refine (d74 hr2 (by omega)).bind fun q5 r3 hq5 hr3=>?_
 simp only [e]
 cases decide (q5=0) with
 | true=>exact .pure ⟨hn,by show 1+q=1∨1+q=2;omega,nul_ok,.inl rfl,fun _=>rfl⟩ (hr3.mono (by omega))
 | false=>
  refine (d95 hr3 (by omega)).bind fun v r4 hv hr4=>.pure ?_ hr4
  exact ⟨hn,by show 1+q=1∨1+q=2;omega,hv.ok (by omega),hv.fits,fun h=>by cases h⟩
structure Cl (s:List Col):Prop where
 all:∀ k,k<s.length→dC (s.getD k default)∧atI s (s.getD k default).name=(k:Int)
theorem Cl.snoc {s:List Col}{c:Col}(h:Cl s)(hc:dC c)(ha:¬ atN s c.name<s.length):Cl (s++[c]):=by
 have hap:∀ nm,atN (s++[c]) nm=if atN s nm<s.length then atN s nm else atN [c] nm+s.length:=fun nm=>List.findIdx_append
 refine ⟨fun k hk=>?_⟩
 by_cases hks:k<s.length
 ·have e:(s++[c]).getD k default=s.getD k default:=by
   rw [ae hk,ae hks,List.getElem_append_left hks]
  rw [e]
  have g:=h.all k hks
  refine ⟨g.1,?_⟩
  have hlt:atN s (s.getD k default).name<s.length:=c_ fun hn=>by
   have:=g.2;rw [gu hn] at this;omega
  have e2:=g.2
  rw [cV hlt] at e2
  have e3:atN (s++[c]) (s.getD k default).name=k:=by rw [hap,if_pos hlt];omega
  rw [cV (by rw [e3];exact hk),e3]
 ·have hk':k=s.length:=by simp at hk;omega
  subst hk'
  have e:(s++[c]).getD s.length default=c:=by simp [List.getD_eq_getElem?_getD]
  rw [e]
  have e3:atN (s++[c]) c.name=s.length:=by
   rw [hap,if_neg ha]
   have:atN [c] c.name=0:=by simp [atN,List.findIdx_cons]
   omega
  exact ⟨hc,by rw [cV (by rw [e3];exact hk),e3]⟩
theorem Dd:∀ (j n m:Nat) (s:List Col) (r:Rd) (hf:BIG≤fu),j<n→cb r m→m+6*j≤1000000→Cl s→s.length+j≤4→(0<s.length∨0<j)→aJ (d6 fu n (j:Int) s r) ak (m+6*j):=by
 intro j
 induction j with
 | zero=>
  intro n m s r hf hn hr hm hs hl h0
  obtain ⟨n,rfl⟩:∃ i,n=i+1:=⟨n-1,by omega⟩
  rw [d6]
  exact .pure ⟨hs.all,by omega,by omega⟩ (hr.mono (by omega))
 | succ j ih=>
  intro n m s r hf hn hr hm hs hl h0
  obtain ⟨n,rfl⟩:∃ i,n=i+1:=⟨n-1,by omega⟩
  rw [d6,dt (show (0:Int) < ((j+1:Nat):Int) by omega),ct]
  unfold vj
  rw [bs]
  refine (d96 hr (by omega) (by decide)).bind fun nm r1 hnm hr1=>?_
  refine (CT hr1 (by omega) (ju nm hnm)).bind fun c r2 hc hr2=>?_
  have e:IntKind.i64.wrap (((j+1:Nat):Int)-1)=(j:Int):=by rw [bu (by omega) (by omega)];omega
  rw [fG hf (by omega),bs]
  unfold f125_j2
  simp only [e]
  by_cases ha:atN s c.name<s.length
  ·rw [cV ha,df (show ¬ (atN s c.name:Int)<0 by omega),cf]
   exact (ih n (m+6) s r2 hf (by omega) (hr2.mono (by omega)) (by omega) hs (by omega) (.inl (by omega))).mono (fun _ h=>h) (by omega)
  ·rw [gu ha,show decide ((-1:Int)<0)=true from rfl,ct,cap (by rw [s_];omega),ct]
   exact (ih n (m+6) (s++[c]) r2 hf (by omega) (hr2.mono (by omega)) (by omega) (hs.snoc hc ha) (by simp;omega) (.inl (by simp))).mono (fun _ h=>h) (by omega)
theorem Ax {r:Rd}{m:Nat}(hf:BIG≤fu)(h:cb r m)(hm:m≤900000):aJ (f125 fu r) ak (m+25):=by
 unfold f125
 refine (d74 h (by omega)).bind fun q r1 hq hr1=>?_
 have hq2:=hq.2 (by omega)
 have hq1:=hq.1
 have e:IntKind.i64.wrap (1+q)=(((1+q).toNat:Nat):Int):=by rw [bu (by omega) (by omega)];omega
 simp only [e]
 have hj:(1+q).toNat≤4:=by omega
 have hj1:0 < (1+q).toNat:=by omega
 exact (Dd (1+q).toNat fu (m+1) [] r1 hf (by unfold BIG at hf;omega) hr1 (by omega) ⟨fun k hk=>by simp at hk⟩ (by simp;omega) (.inr hj1)).mono (fun _ h=>h) (by omega)
theorem tv {s:List Set}{x:Set}(h:SmX s)(hl:s.length≤999)(hx:SmV x.val)(hn:x.name.length≤1000):SmX (s++[x]):=⟨by simp;omega,fun y hy=>by
 rcases p_ hy with hy|hy
 ·exact h.nm y hy
 ·simp only [List.mem_singleton] at hy;subst hy;exact hn,fun y hy=>by
 rcases p_ hy with hy|hy
 ·exact h.all y hy
 ·simp only [List.mem_singleton] at hy;subst hy;exact hx⟩
def SmX9 (xs:List Set):Prop:=SmX xs∧xs.length≤900
theorem l62 {s:List Col}(hs:s.length≤5)(hss:SmS s):∀ (j n k m:Nat) (xs:List Set) (r:Rd),k+j=s.length→j<n→cb r m→m+4*j≤900000→SmX xs→xs.length≤k→aJ (dw fu s n (k:Int) xs r) SmX9 (m+4*j+6):=by
 intro j
 induction j with
 | zero=>
  intro n k m xs r hk hn hr hm hx hl
  obtain ⟨n,rfl⟩:∃ i,n=i+1:=⟨n-1,by omega⟩
  have:k=s.length:=by omega
  subst this
  rw [dw,nlt,cf]
  refine (d74 hr (by omega)).bind fun q r1 hq hr1=>?_
  simp only
  cases decide (q=0) with
  | true=>
   refine (d96 hr1 (by omega) (by decide)).bind fun nm r2 hnm hr2=>?_
   simp only [cap (show List.length xs+List.length ([(⟨nm,d0_49.val⟩:Set)]:List Set)≤100000 by rw [s_];omega),ct]
   exact .pure ⟨tv hx (by omega) nul_ok.sm (sm_short (by rfl) nm hnm),by rw [List.length_append,s_];omega⟩ (hr2.mono (by omega))
  | false=>
   cases decide (q=1) with
   | false=>exact .pure ⟨hx,by omega⟩ (hr1.mono (by omega))
   | true=>
    by_cases h0:0<xs.length
    ·rw [dt (show (0:Int) < (xs.length:Int) by omega)]
     refine (d97 hr1 (by omega)).bind fun v r2 hv hr2=>?_
     unfold nl
     simp only [ct,show decide ((0:Int)≤0)=true from rfl,Bool.true_and,dt (show (0:Int) < (xs.length:Int) by omega)]
     refine .pure ⟨⟨by simpa using hx.len,fun y hy=>?_,fun y hy=>?_⟩,by simp;omega⟩ (hr2.mono (by omega))
     ·rcases List.mem_or_eq_of_mem_set hy with hy|hy
      ·exact hx.nm y hy
      ·subst hy;exact hx.nm (xs.getD 0 default) (getD_mem h0)
     rcases List.mem_or_eq_of_mem_set hy with hy|hy
     ·exact hx.all y hy
     ·subst hy;exact hv
    ·rw [df (show ¬ (0:Int) < (xs.length:Int) by omega)]
     exact .pure ⟨hx,by omega⟩ (hr1.mono (by omega))
 | succ j ih=>
  intro n k m xs r hk hn hr hm hx hl
  obtain ⟨n,rfl⟩:∃ i,n=i+1:=⟨n-1,by omega⟩
  have hkl:k<s.length:=by omega
  have e1:IntKind.i64.wrap ((k:Int)+1)=((k+1:Nat):Int):=bb hkl (by unfold BIG;omega)
  have h12:∀ (ys:List Set) (r':Rd),cb r' (m+4)→SmX ys→ys.length≤k+1→aJ (np (k:Int) (dw fu s n) ys r') SmX9 (m+4 * (j+1)+6):=fun ys r' hr' hy hly=>by
   unfold np
   rw [e1]
   exact (ih n (k+1) (m+4) ys r' (by omega) (by omega) hr' (by omega) hy hly).mono (fun _ h=>h) (by omega)
  have h14:∀ (v:Val) (r':Rd),cb r' (m+4)→SmV v→aJ (nn s (k:Int) xs r' (dw fu s n) v) SmX9 (m+4 * (j+1)+6):=fun v r' hr' hv=>by
   unfold nn
   rw [inR hkl,ct,cap (by rw [s_];omega),ct]
   exact h12 _ _ hr' (tv hx (by omega) hv (hss.all _ (getD_mem hkl)).name) (by simp;omega)
  have h13:∀ (v:Val) (r0:Rd) (b:Bool) (r':Rd),cb r' (m+4)→SmV v→aJ (ll s (k:Int) xs (v,r0) (dw fu s n) b r') SmX9 (m+4 * (j+1)+6):=fun v r0 b r' hr' hv=>by
   unfold ll
   cases b with
   | true=>rw [ct,inR hkl,ct];exact h14 _ _ hr' hv
   | false=>exact h14 _ _ hr' hv
  have h11:∀ (b:Bool) (r':Rd),cb r' (m+1)→aJ (nq fu s (k:Int) xs (dw fu s n) b r') SmX9 (m+4 * (j+1)+6):=fun b r' hr'=>by
   unfold nq
   cases b with
   | false=>exact h12 _ _ (hr'.mono (by omega)) hx (by omega)
   | true=>
    rw [ct,inR hkl,ct]
    refine (d95 hr' (by omega)).bind fun v r2 hv hr2=>?_
    rw [ct]
    cases (s.getD (k:Int).toNat default).need with
    | false=>exact h13 _ r2 false _ (hr2.mono (by omega)) hv.sm
    | true=>
     simp only [ct]
     cases decide (v.kind=0) with
     | false=>exact h13 _ r2 false _ (hr2.mono (by omega)) hv.sm
     | true=>exact (d74 hr2 (by omega)).bind fun q r3 hq hr3=>h13 _ _ _ _ (hr3.mono (by omega)) hv.sm
  rw [dw,ltR hkl,ct,ge0,b_,ct]
  cases (s.getD (k:Int).toNat default).need with
  | true=>exact h11 true r (hr.mono (by omega))
  | false=>exact (d74 hr (by omega)).bind fun q r1 hq hr1=>h11 _ _ hr1
theorem d62 {s:List Col}{r:Rd}{m:Nat}(hf:BIG≤fu)(hs:s.length≤5)(hss:SmS s)(h:cb r m)(hm:m≤800000):aJ (f62 fu r s) SmX9 (m+26):=by
 unfold f62
 exact (l62 hs hss s.length fu 0 m [] r (by omega) (by unfold BIG at hf;omega) h (by omega) ⟨by simp,fun _ h=>(by cases h),fun _ h=>by cases h⟩ (by simp)).mono (fun _ h=>h) (by omega)
theorem d70 {s:List Col}{r:Rd}{m:Nat}(hf:BIG≤fu)(hs:s.length≤5)(hss:SmS s)(h:cb r m)(hm:m≤800000):aJ (f70 fu r s) iQ (m+13):=by
 have h3:∀ (c:aa) (r':Rd),cb r' (m+11)→iQ c→aJ (hY fu c r') iQ (m+13):=fun c r' hr' hc=>by
  unfold hY jz
  refine (d74 hr' (by omega)).bind fun q r1 hq hr1=>?_
  simp only
  cases decide (q=0) with
  | true=>exact (d73 hr1 (by omega) (by decide)).bind fun x r2 hx hr2=>.pure ⟨hc.name,hc.new,hc.col⟩ hr2
  | false=>
   cases decide (q=1) with
   | true=>exact (d96 hr1 (by omega) (by decide)).bind fun x r2 hx hr2=>.pure ⟨sm_short (by rfl) x hx,hc.new,hc.col⟩ hr2
   | false=>
    cases decide (q=2) with
    | true=>exact (d96 hr1 (by omega) (by decide)).bind fun x r2 hx hr2=>.pure ⟨hc.name,sm_short (by rfl) x hx,hc.col⟩ hr2
    | false=>
     cases decide (q=3) with
     | true=>exact (d73 hr1 (by omega) (by decide)).bind fun x r2 hx hr2=>.pure ⟨hc.name,hc.new,hc.col.name,hc.col.def_⟩ hr2
     | false=>
      cases decide (q=4) with
      | true=>exact .pure ⟨hc.name,hc.new,hc.col.name,hc.col.def_⟩ (hr1.mono (by omega))
      | false=>exact .pure hc (hr1.mono (by omega))
 have hc0:SmC d0_56.col:=⟨by show ([]:List UInt8).length≤1000;simp,nul_ok.sm⟩
 have hn0:([]:List UInt8).length≤1000:=by simp
 have h2:∀ (nm:List UInt8) (r':Rd),cb r' (m+3)→nm.length≤1000→aJ (oJ fu s nm r') iQ (m+13):=fun nm r' hr' hnm=>by
  unfold oJ
  refine (d74 hr' (by omega)).bind fun q r1 hq hr1=>?_
  simp only
  cases decide (IntKind.i64.wrap (1+q)=1) with
  | true=>
   unfold vj
   simp only [ct,bs]
   refine (d96 hr1 (by omega) (by decide)).bind fun x r2 hx hr2=>?_
   refine (CT hr2 (by omega) (ju x hx)).bind fun c r3 hc hr3=>?_
   have hcs:=hc.sm
   have h5:∀ (b:Bool) (rr:Rd),cb rr (m+11)→aJ (my fu nm (q,r1) (c,r3) b rr) iQ (m+13):=fun b rr hrr=>by
    unfold my
    cases b with
    | true=>exact h3 _ _ hrr ⟨hn0,hn0,hcs.name,hcs.def_⟩
    | false=>exact h3 _ _ hrr ⟨hn0,hn0,hcs⟩
   simp only
   cases c.need with
   | false=>exact h5 false _ (hr3.mono (by omega))
   | true=>
    simp only [ct]
    cases decide (c.def_.kind=0) with
    | false=>exact h5 false _ (hr3.mono (by omega))
    | true=>exact (d74 hr3 (by omega)).bind fun k r4 hk hr4=>h5 _ _ (hr4.mono (by omega))
  | false=>
   cases decide (IntKind.i64.wrap (1+q)=3) with
   | true=>exact (d96 hr1 (by omega) (by decide)).bind fun x r2 hx hr2=>h3 _ _ (hr2.mono (by omega)) ⟨hnm,sm_short (by rfl) x hx,hc0⟩
   | false=>
    cases decide (IntKind.i64.wrap (1+q)=4) with
    | false=>exact h3 _ _ (hr1.mono (by omega)) ⟨hnm,hn0,hc0⟩
    | true=>
     simp only [ct,cf]
     refine (d74 hr1 (by omega)).bind fun k r2 hk hr2=>?_
     rw [fG hf (by omega),bs]
     have h6:∀ (b:Bool) (rr:Rd),cb rr (m+11)→(b=true→atN s nm<s.length)→aJ (oI fu s nm (q,r1) (k,r2) (atI s nm) b rr) iQ (m+13):=fun b rr hrr hb=>by
      unfold oI
      cases b with
      | true=>
       have:=hb rfl
       rw [ct,cV this,inR this,ct]
       exact h3 _ _ hrr ⟨hnm,hn0,hc0.name,hc0.def_⟩
      | false=>exact h3 _ _ hrr ⟨hnm,hn0,hc0.name,hc0.def_⟩
     by_cases ha:atN s nm<s.length
     ·rw [dt (show 0≤atI s nm by rw [cV ha];omega)]
      simp only [ct]
      exact (d74 hr2 (by omega)).bind fun k' r4 hk hr4=>h6 _ _ (hr4.mono (by omega)) fun _=>ha
     ·rw [df (show ¬ 0≤atI s nm by rw [gu ha];omega)]
      exact h6 false _ (hr2.mono (by omega)) fun h=>by cases h
 unfold f70 vj
 rw [bs]
 refine (d96 h (by omega) (by decide)).bind fun nm r1 hnm hr1=>?_
 have hnm':nm.length≤1000:=sm_short (by rfl) nm hnm
 have h1:∀ (b:Bool) (rr:Rd),cb rr (m+2)→(b=true→0<s.length)→aJ (oK fu s (nm,r1) b rr) iQ (m+13):=fun b rr hrr hb=>by
  unfold oK
  cases b with
  | false=>exact h2 _ _ (hrr.mono (by omega)) hnm'
  | true=>
   rw [ct]
   refine (d74 hrr (by omega)).bind fun k r4 hk hr4=>?_
   have:=ue hk (hb rfl)
   simp only [this.1,ct]
   exact h2 _ _ hr4 (hss.all _ (getD_mem this.2)).name
 by_cases h0:0<s.length
 ·rw [dt (show (0:Int) < (s.length:Int) by omega)]
  simp only [ct]
  exact (d74 hr1 (by omega)).bind fun k r4 hk hr4=>h1 _ _ hr4 fun _=>h0
 ·rw [df (show ¬ (0:Int) < (s.length:Int) by omega)]
  exact h1 false _ (hr1.mono (by omega)) fun h=>by cases h
structure nZ (t:ab):Prop where
 ok:aP t
 sm:SmT t
theorem mX {s:List Col}{k:Nat}{c:Col}(h:SmS s)(hc:SmC c):SmS (s.set k c):=⟨by have:=h.len;simpa using this,fun x hx=>by
 rcases List.mem_or_eq_of_mem_set hx with hx|hx
 ·exact h.all x hx
 ·subst hx;exact hc⟩
theorem d123 {r:Rd}{s:List Col}{m:Nat}(h:cb r m)(hm:m≤700000)(hs:SmS s)(hl:s.length≤900):aJ (yS fu r s) (fun x=>SmS x∧x.length≤s.length+1) (m+7):=by
 unfold yS gD
 rw [cap (by rw [List.length_nil];omega),ct,List.nil_append]
 by_cases h0:s.length=0
 ·rw [dt (show (s.length:Int)=0 by omega)]
  exact .pure ⟨hs,by omega⟩ (h.mono (by omega))
 rw [df (show ¬ (s.length:Int)=0 by omega),cf]
 refine (d74 h (by omega)).bind fun k r1 hk hr1=>?_
 have hi:=ue hk (show 0<s.length by omega)
 have hg:=hs.get hi.2
 refine (d74 hr1 (by omega)).bind fun q r2 hq hr2=>?_
 simp only [hi.1,ct]
 cases decide (q=0) with
 | true=>exact (d96 hr2 (by omega) (by decide)).bind fun x r3 hx hr3=>.pure ⟨mX hs ⟨sm_short (by rfl) x hx,hg.def_⟩,by simp⟩ (hr3.mono (by omega))
 | false=>
  cases decide (q=1) with
  | true=>exact (d73 hr2 (by omega) (by decide)).bind fun x r3 hx hr3=>.pure ⟨mX hs ⟨hg.name,hg.def_⟩,by simp⟩ (hr3.mono (by omega))
  | false=>
   cases decide (q=2) with
   | true=>exact (d97 hr2 (by omega)).bind fun x r3 hx hr3=>.pure ⟨mX hs ⟨hg.name,hx⟩,by simp⟩ (hr3.mono (by omega))
   | false=>
    cases decide (q=3) with
    | true=>
     simp only [ct,cf]
     rw [cap (by rw [s_];omega),ct]
     refine .pure ⟨⟨by simp;omega,fun x hx=>?_⟩,by simp⟩ (hr2.mono (by omega))
     rcases p_ hx with hx|hx
     ·exact hs.all x hx
     ·simp only [List.mem_singleton] at hx;subst hx;exact hg
    | false=>
     cases decide (q=4) with
     | true=>exact .pure ⟨⟨by simp,fun _ h=>by cases h⟩,by simp⟩ (hr2.mono (by omega))
     | false=>
      cases decide (q=5) with
      | true=>exact .pure ⟨mX hs ⟨hg.name,hg.def_⟩,by simp⟩ (hr2.mono (by omega))
      | false=>exact .pure ⟨hs,by omega⟩ (hr2.mono (by omega))
theorem y3 {t:ab}(h:SmT t){k:Nat}{r:Row}(hr:SmR r.vals):SmT ⟨t.first,t.changes,t.rows.set k r,t.next⟩:=⟨h.first,h.cs,by have:=h.nrow;simpa using this,fun j hj=>by
 rw [ae hj]
 rcases List.mem_or_eq_of_mem_set (List.getElem_mem hj) with hm|hm
 ·exact h.row hm
 ·rw [hm];exact hr⟩
theorem d60 {a:List Int}(ha:∀ b,b∈a→0≤b∧b≤255):∃ r,f60 fu a=some r∧cb r 0:=by
 unfold f60 rp
 by_cases h:2000<a.length
 ·rw [dt (show (2000:Int) < (a.length:Int) by omega),ct,show (decide ((0:Int)≤0)&&decide ((0:Int)≤2000)&&decide ((2000:Int)≤(a.length:Int)))=true by simp;omega]
  refine ⟨_,rfl,fun x hx=>ha x ?_,Int.le_refl _,Int.le_refl _⟩
  exact List.mem_of_mem_take (List.mem_of_mem_drop hx)
 ·rw [df (show ¬ (2000:Int) < (a.length:Int) by omega)]
  exact ⟨_,rfl,ha,Int.le_refl _,Int.le_refl _⟩
theorem vE {n:Nat}{x:Option Bool}(h:x=some true):cond (decide (1048576 < (n:Int))) (some true) x=some true:=by
 cases decide (1048576 < (n:Int)) with
 | true=>rfl
 | false=>exact h
theorem nZ.now {t:ab}(h:nZ t){k:Nat}(hk:k<t.rows.length):aO (lastS t) (nowR t (t.rows.getD k default)):=(h.ok.rg _ (getD_mem hk)).now
structure Aa (t:ab) (xs:List Set) (row:List Val):Prop where
 tell:tell (lastS t) [] (po (lastS t)) xs=some row
 ok:aO (lastS t) row
 once:NoTwice (lastS t) (nows t++[row])
 room:t.rows.length≠8
 next:t.next≠60
def C4 (t:ab)(row:List Val):ab:={ t with rows:=t.rows++[⟨t.next,(t.changes.length:Int),row⟩],next:=t.next+1 }
theorem putT_cases (t:ab)(xs:List Set):(∃ row,Aa t xs row∧putT t xs=(C4 t row,0))∨((putT t xs).1=t∧(putT t xs).2≠0):=by
 unfold putT
 split
 ·exact .inr ⟨rfl,by simp⟩
 ·rename_i row ht
  by_cases h1:aO (lastS t) row
  case neg=>rw [if_pos h1];exact .inr ⟨rfl,by simp⟩
  rw [if_neg (fun h=>h h1)]
  by_cases h2:NoTwice (lastS t) (nows t++[row])
  case neg=>rw [if_pos h2];exact .inr ⟨rfl,by simp⟩
  rw [if_neg (fun h=>h h2)]
  by_cases h3:t.rows.length=8∨t.next=60
  ·rw [if_pos h3];exact .inr ⟨rfl,by simp⟩
  ·rw [if_neg h3];exact .inl ⟨row,⟨ht,h1,h2,fun e=>h3 (.inl e),fun e=>h3 (.inr e)⟩,rfl⟩
structure qw (t:ab) (id:Int) (xs:List Set) (row:List Val):Prop where
 there:rowN t id<t.rows.length
 tell:tell (lastS t) [] (nowR t (t.rows.getD (rowN t id) default)) xs=some row
 ok:aO (lastS t) row
 once:NoTwice (lastS t) ((nows t).set (rowN t id) row)
def setR (t:ab)(id:Int)(row:List Val):ab:={ t with rows:=t.rows.set (rowN t id) ⟨id,(t.changes.length:Int),row⟩ }
theorem setT_cases (t:ab)(id:Int)(xs:List Set):(∃ row,qw t id xs row∧setT t id xs=(setR t id row,0))∨((setT t id xs).1=t∧(setT t id xs).2≠0):=by
 unfold setT
 by_cases h0:rowN t id<t.rows.length
 case neg=>rw [if_neg h0];exact .inr ⟨rfl,by simp⟩
 rw [if_pos h0]
 split
 ·exact .inr ⟨rfl,by simp⟩
 ·rename_i row ht
  by_cases h1:aO (lastS t) row
  case neg=>rw [if_pos h1];exact .inr ⟨rfl,by simp⟩
  rw [if_neg (fun h=>h h1)]
  by_cases h2:NoTwice (lastS t) ((nows t).set (rowN t id) row)
  case neg=>rw [if_pos h2];exact .inr ⟨rfl,by simp⟩
  rw [if_neg (fun h=>h h2)]
  exact .inl ⟨row,⟨h0,ht,h1,h2⟩,rfl⟩
theorem tz {t:ab}{id:Int}{xs:List Set}{row:List Val}(h:qw t id xs row):setT t id xs=(setR t id row,0):=by
 unfold setT
 rw [if_pos h.there,h.tell]
 simp only
 rw [if_neg (fun h'=>h' h.ok),if_neg (fun h'=>h' h.once)];rfl
structure jr (t:ab) (c:aa):Prop where
 can:Can (lastS t) c
 rows:∀ k,k<t.rows.length→aO (chg (lastS t) c) (aE (lastS t) c (nowR t (t.rows.getD k default)))
def mP (t:ab)(c:aa):ab:={ t with changes:=t.changes++[c] }
theorem vJ {t:ab}{c:aa}(h:jr t c)(h8:t.changes.length≠8):eA t c=(mP t c,0):=by
 unfold eA
 rw [if_neg (fun h'=>h' h.can),if_neg (fun ⟨k,hk,h'⟩=>h' (h.rows k hk)),if_neg h8];rfl
theorem vH {t:ab}{c:aa}(h:jr t c)(h8:t.changes.length=8):eA t c=(t,4):=by
 unfold eA
 rw [if_neg (fun h'=>h' h.can),if_neg (fun ⟨k,hk,h'⟩=>h' (h.rows k hk)),if_pos h8]
theorem vI {t:ab}{c:aa}(h:¬ Can (lastS t) c):eA t c=(t,1):=if_pos h
theorem vG {t:ab}{c:aa}(h:Can (lastS t) c)(h2:∃ k,k<t.rows.length∧¬ aO (chg (lastS t) c) (aE (lastS t) c (nowR t (t.rows.getD k default)))):eA t c=(t,2):=by
 unfold eA
 rw [if_neg (fun h'=>h' h),if_pos h2]
theorem chgT_cases (t:ab)(c:aa):(jr t c∧t.changes.length≠8)∨(jr t c∧t.changes.length=8)∨¬ Can (lastS t) c∨(Can (lastS t) c∧∃ k,k<t.rows.length∧¬ aO (chg (lastS t) c) (aE (lastS t) c (nowR t (t.rows.getD k default)))):=by
 by_cases h1:Can (lastS t) c
 case neg=>exact .inr (.inr (.inl h1))
 by_cases h2:∃ k,k<t.rows.length∧¬ aO (chg (lastS t) c) (aE (lastS t) c (nowR t (t.rows.getD k default)))
 ·exact .inr (.inr (.inr ⟨h1,h2⟩))
 have hf:jr t c:=⟨h1,fun k hk=>c_ fun hn=>h2 ⟨k,hk,hn⟩⟩
 by_cases h3:t.changes.length=8
 ·exact .inr (.inl ⟨hf,h3⟩)
 ·exact .inl ⟨hf,h3⟩
theorem e9 {s:List Col}{nm:List UInt8}(h:atN s nm<s.length):(s.getD (atN s nm) default).name=nm:=by
 rw [ae h]
 exact of_decide_eq_true (List.findIdx_getElem (w:=h))
theorem BS {s:List Col}(hs:ak s){k:Nat}(hk:k<s.length):atN s (s.getD k default).name=k:=by
 have:=(hs.all k hk).2
 have hlt:atN s (s.getD k default).name<s.length:=c_ fun hn=>by rw [gu hn] at this;omega
 rw [cV hlt] at this
 omega
end Go.Proofs.YtganfdhmkdehlaaGreatDoor
