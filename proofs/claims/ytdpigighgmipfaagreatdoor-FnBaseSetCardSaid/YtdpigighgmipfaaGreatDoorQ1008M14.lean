/- What is drawn: nothing fails, and all is small. -/
import Derived.Test.YtdpigighgmipfaaGreatDoorQ1008M13
set_option linter.all false
namespace Go.Proofs.YtdpigighgmipfaaGreatDoor
open Go Go.HL
variable {fu:Nat}
structure RdOK (r:Rd) (m:Nat):Prop where
 b:∀ x,x∈r.b→0≤x∧x≤255
 lo:0≤r.p
 hi:r.p≤(m:Int)
theorem RdOK.get {r:Rd}{m:Nat}(h:RdOK r m)(i:Nat):0≤r.b.getD i default∧r.b.getD i default≤255:=by
 by_cases hi:i<r.b.length
 ·rw [getD_lt hi];exact h.b _ (List.getElem_mem hi)
 ·rw [List.getD_eq_getElem?_getD,List.getElem?_eq_none (by omega)]
  show (0:Int)≤0∧(0:Int)≤255
  omega
theorem RdOK.mono {r:Rd}{m m':Nat}(h:RdOK r m)(hm:m≤m'):RdOK r m':=⟨h.b,h.lo,by have:=h.hi;omega⟩
theorem ofInt_lt {X:Int}(h1:0≤X)(h2:X<4611686018427387904):(BitVec.ofInt 64 X).toNat<2 ^ 62:=by
 rw [BitVec.toNat_ofInt];omega
theorem xor_nn {X Y:Int}(h1:0≤X)(h2:X<4611686018427387904)(h3:0≤Y)(h4:Y<4611686018427387904):0≤IntKind.i64.wrap ((BitVec.ofInt 64 X ^^^ BitVec.ofInt 64 Y).toNat:Int):=by
 have h:(BitVec.ofInt 64 X ^^^ BitVec.ofInt 64 Y).toNat<2 ^ 62:=by
  rw [BitVec.toNat_xor];exact Nat.xor_lt_two_pow (ofInt_lt h1 h2) (ofInt_lt h3 h4)
 rw [wrapI (by omega) (by omega)]
 omega
theorem tmodR {x n:Int}(hx:0≤x)(hn:1≤n):0≤x.tmod n∧x.tmod n<n:=⟨Int.tmod_nonneg _ hx,Int.tmod_lt_of_pos _ (by omega)⟩
theorem f74_is {r:Rd}{n:Int}{m:Nat}(h:RdOK r m)(hm:m≤100000000):∃ k r',f74 fu r n=some (k,r')∧0≤k∧(1≤n→k<n)∧RdOK r' (m+1):=by
 have hlo:=h.lo
 have hhi:=h.hi
 have hp1:IntKind.i64.wrap (r.p+1)=r.p+1:=wrapI (by omega) (by omega)
 have hk:IntKind.i64.wrap (r.p+1-1)=r.p:=by rw [Int.add_sub_cancel];exact wrapI (by omega) (by omega)
 have hr':RdOK ⟨r.b,r.p+1⟩ (m+1):=⟨h.b,by show 0≤r.p+1;omega,by show r.p+1≤((m+1:Nat):Int);omega⟩
 have hT:f74_j1 r n true=some (0,⟨r.b,r.p+1⟩):=by unfold f74_j1;simp only [ct,hp1]
 unfold f74
 by_cases hn:n<1
 ·rw [dt hn,ct,hT]
  exact ⟨0,_,rfl,Int.le_refl _,fun h=>by omega,hr'⟩
 rw [df hn,cf]
 by_cases hb:r.b.length=0
 ·rw [dt (show (List.length r.b:Int)=0 by omega),hT]
  exact ⟨0,_,rfl,Int.le_refl _,fun h=>by omega,hr'⟩
 rw [df (show ¬ (List.length r.b:Int)=0 by omega)]
 have hn0:decide (n=0)=false:=df (by omega)
 unfold f74_j1
 simp only [cf,hp1,hk,hn0]
 by_cases hlt:r.p < (r.b.length:Int)
 ·have hg:=h.get r.p.toNat
  rw [dt hlt,dt hlo,ct,Bool.and_self,ct,wrapI (by omega) (by omega)]
  have ht:=tmodR hg.1 (show 1≤n by omega)
  exact ⟨_,_,rfl,ht.1,fun _=>ht.2,hr'⟩
 ·have hL:1≤(r.b.length:Int):=by omega
  have e7:IntKind.i64.wrap (r.p*7)=r.p*7:=wrapI (by omega) (by omega)
  have e73:IntKind.i64.wrap (r.p*7+3)=r.p*7+3:=wrapI (by omega) (by omega)
  have hi1:=tmodR hlo hL
  have hi2:=tmodR (show 0≤r.p*7+3 by omega) hL
  have hL0:decide ((r.b.length:Int)=0)=false:=df (by omega)
  have hA:=h.get (r.p.tmod (r.b.length:Int)).toNat
  have hB:=h.get ((r.p*7+3).tmod (r.b.length:Int)).toNat
  have hQ:0≤r.p.tdiv (r.b.length:Int)∧r.p.tdiv (r.b.length:Int)≤r.p:=by
   refine ⟨Int.tdiv_nonneg hlo (by omega),?_⟩
   rw [Int.tdiv_eq_ediv_of_nonneg hlo]
   exact Int.ediv_le_self _ hlo
  rw [df hlt]
  simp only [cf,hL0,e7,e73,dt hi1.1,dt hi1.2,dt hi2.1,dt hi2.2,Bool.and_self,ct,show decide ((64:Int)=0)=false from rfl]
  generalize r.b.getD (r.p.tmod (r.b.length:Int)).toNat default=A at hA
  generalize r.b.getD ((r.p*7+3).tmod (r.b.length:Int)).toNat default=C at hB
  generalize r.p.tdiv (r.b.length:Int)=Q at hQ
  have w1:IntKind.i64.wrap A=A:=wrapI (by omega) (by omega)
  have w2:IntKind.i64.wrap (A*131)=A*131:=wrapI (by omega) (by omega)
  have w3:IntKind.i64.wrap C=C:=wrapI (by omega) (by omega)
  have w4:IntKind.i64.wrap (C*1117)=C*1117:=wrapI (by omega) (by omega)
  have w5:IntKind.i64.wrap (A*131+C*1117)=A*131+C*1117:=wrapI (by omega) (by omega)
  have w6:IntKind.i64.wrap (r.p*29)=r.p*29:=wrapI (by omega) (by omega)
  have w7:IntKind.i64.wrap (A*131+C*1117+r.p*29)=A*131+C*1117+r.p*29:=wrapI (by omega) (by omega)
  have w8:IntKind.i64.wrap Q=Q:=wrapI (by omega) (by omega)
  have w9:IntKind.i64.wrap (Q*53)=Q*53:=wrapI (by omega) (by omega)
  have w10:IntKind.i64.wrap (A*131+C*1117+r.p*29+Q*53)=A*131+C*1117+r.p*29+Q*53:=wrapI (by omega) (by omega)
  simp only [w1,w2,w3,w4,w5,w6,w7,w8,w9,w10]
  have hX:0≤A*131+C*1117+r.p*29+Q*53∧A*131+C*1117+r.p*29+Q*53<4611686018427387904:=by omega
  generalize A*131+C*1117+r.p*29+Q*53=X at hX
  have hD:0≤X.tdiv 64∧X.tdiv 64<4611686018427387904:=by
   rw [Int.tdiv_eq_ediv_of_nonneg hX.1];omega
  have hd:IntKind.i64.wrap (X.tdiv 64)=X.tdiv 64:=wrapI (by omega) (by omega)
  first | rw [hd] | skip
  have hx:=xor_nn hX.1 hX.2 hD.1 hD.2
  have ht:=tmodR hx (show 1≤n by omega)
  exact ⟨_,_,rfl,ht.1,fun _=>ht.2,hr'⟩
end Go.Proofs.YtdpigighgmipfaaGreatDoor
