/- Tables: the columns as they were and are, rows as they are, what stands twice. -/
import Derived.Test.YtdpigighgmipfaaGreatDoorQ1009M5
set_option linter.all false
namespace Go.Proofs.YtdpigighgmipfaaGreatDoor
open Go Go.HL
variable {fu:Nat}
theorem o53:@f53o=@f53:=rfl
theorem o90:@f90o=@f90:=rfl
theorem o82:@f82o=@f82:=by
 have h:∀ t id n i,f82o_l1 t id n i=f82_l1 t id n i:=fun t id n=>by
  induction n with
  | zero=>intro i;rfl
  | succ n ih=>intro i;rw [f82o_l1,f82_l1,ih]
 funext fu t id
 unfold f82o f82
 rw [h]
theorem o42:@f42o=@f42:=by
 have h:∀ t n i x,f42o_l1 t n i x=f42_l1 t n i x:=fun t n=>by
  induction n with
  | zero=>intro i x;rfl
  | succ n ih=>intro i x;rw [f42o_l1,f42_l1,ih]
 funext fu t
 unfold f42o f42 f42o_j1 f42_j1
 rw [h]
theorem o102:@f102o=@f102:=by
 have h:∀ fu t r s n i x,f102o_l1 fu t r s n i x=f102_l1 fu t r s n i x:=fun fu t r s n=>by
  induction n with
  | zero=>intro i x;rfl
  | succ n ih=>intro i x;rw [f102o_l1,f102_l1,o90];simp only [f102o_j2,f102_j2,ih]
 funext fu t r
 unfold f102o f102
 simp only [o53,h]
theorem loopE {ρ:Type}{L:Nat→Int→Option ρ}{N:Nat}(p:Nat→Prop)(y z:Option ρ)(hN:N≤BIG)
     (hend:∀ n,L (n+1) (N:Int)=z)
     (hyes:∀ n (k:Nat),k < N→p k→L (n+1) (k:Int)=y)
     (hno:∀ n (k:Nat),k < N→¬ p k→L (n+1) (k:Int)=L n (IntKind.i64.wrap ((k:Int)+1))) {fu:Nat} (hf:N<fu):L fu 0=@ite _ (∃ k,k < N∧p k) (Classical.propDecidable _) y z:=by
 have key:∀ c fu k,k+c=N→c<fu→L fu (k:Int)=@ite _ (∃ i,k≤i∧i < N∧p i) (Classical.propDecidable _) y z:=by
  intro c
  induction c with
  | zero=>
   intro fu k hk hc
   obtain ⟨n,rfl⟩:∃ n,fu=n+1:=⟨fu-1,by omega⟩
   have:k=N:=by omega
   subst this
   rw [hend,if_neg]
   rintro ⟨i,h1,h2,_⟩
   omega
  | succ c ih=>
   intro fu k hk hc
   obtain ⟨n,rfl⟩:∃ n,fu=n+1:=⟨fu-1,by omega⟩
   by_cases hp:p k
   ·rw [hyes n k (by omega) hp,if_pos ⟨k,Nat.le_refl _,by omega,hp⟩]
   ·rw [hno n k (by omega) hp,succI (show k < N by omega) hN,ih n (k+1) (by omega) (by omega)]
    by_cases h:∃ i,k+1≤i∧i < N∧p i
    ·rw [if_pos h,if_pos]
     obtain ⟨i,h1,h2⟩:=h
     exact ⟨i,by omega,h2⟩
    ·rw [if_neg h,if_neg]
     rintro ⟨i,h1,h2,h3⟩
     by_cases hi:i=k
     ·subst hi;exact hp h3
     ·exact h ⟨i,by omega,h2,h3⟩
 have h:=key N fu 0 (by omega) hf
 rw [show ((0:Nat):Int)=0 from rfl] at h
 rw [h]
 by_cases h:∃ k,k < N∧p k
 ·rw [if_pos h,if_pos]
  obtain ⟨i,h1,h2⟩:=h
  exact ⟨i,Nat.zero_le _,h1,h2⟩
 ·rw [if_neg h,if_neg]
  rintro ⟨i,h1,h2,h3⟩
  exact h ⟨i,h2,h3⟩
noncomputable def shapeAt (t:Table) (v:Nat):List Col:=(run t.first (t.changes.take v)).getD []
noncomputable def lastS (t:Table):List Col:=(run t.first t.changes).getD []
noncomputable def nowR (t:Table) (r:Row):List Val:=runRow (shapeAt t r.ver.toNat) (t.changes.drop r.ver.toNat) r.vals
structure Rt (t:Table):Prop where
 first:ShapeOK t.first
 run:∃ x,run t.first t.changes=some x
 cs:SmCs t.changes
theorem Rt.last {t:Table}(h:Rt t):Go.Proofs.YtdpigighgmipfaaGreatDoor.run t.first t.changes=some (lastS t):=by
 obtain ⟨x,hx⟩:=h.run
 unfold lastS
 rw [hx];rfl
theorem Rt.at {t:Table}(h:Rt t)(v:Nat):Go.Proofs.YtdpigighgmipfaaGreatDoor.run t.first (t.changes.take v)=some (shapeAt t v)∧Go.Proofs.YtdpigighgmipfaaGreatDoor.run (shapeAt t v) (t.changes.drop v)=some (lastS t):=by
 have hl:=h.last
 rw [← List.take_append_drop v t.changes,run_append] at hl
 unfold shapeAt
 cases hr:Go.Proofs.YtdpigighgmipfaaGreatDoor.run t.first (t.changes.take v) with
 | none=>rw [hr] at hl;cases hl
 | some x=>rw [hr] at hl;exact ⟨rfl,hl⟩
theorem Rt.okAt {t:Table}(h:Rt t)(v:Nat):ShapeOK (shapeAt t v):=run_ok h.first (h.at v).1
theorem Rt.okLast {t:Table}(h:Rt t):ShapeOK (lastS t):=run_ok h.first h.last
theorem Rt.csTake {t:Table}(h:Rt t)(v:Nat):SmCs (t.changes.take v):=⟨by have:=h.cs.len;simp;omega,fun c hc=>h.cs.all c (List.mem_of_mem_take hc)⟩
theorem Rt.csDrop {t:Table}(h:Rt t)(v:Nat):SmCs (t.changes.drop v):=⟨by have:=h.cs.len;simp;omega,fun c hc=>h.cs.all c (List.mem_of_mem_drop hc)⟩
theorem shapeAt_last (t:Table):shapeAt t t.changes.length=lastS t:=by unfold shapeAt lastS;rw [List.take_length]
structure VerOK (t:Table) (v:Int):Prop where
 lo:0≤v
 hi:v≤(t.changes.length:Int)
theorem VerOK.c1 {t:Table}{v:Int}(h:VerOK t v):(decide (0≤(0:Int))&&decide ((0:Int)≤v)&&decide (v≤(List.length t.changes:Int)))=true:=by
 have:=h.lo;have:=h.hi;simp;omega
theorem VerOK.c2 {t:Table}{v:Int}(h:VerOK t v):(decide (0≤v)&&decide (v≤(List.length t.changes:Int))&&decide ((List.length t.changes:Int)≤(List.length t.changes:Int)))=true:=by
 have:=h.lo;have:=h.hi;simp;omega
structure RowIn (t:Table) (r:Row):Prop where
 ver:VerOK t r.ver
 len:r.vals.length=(shapeAt t r.ver.toNat).length
 sm:SmR r.vals
theorem f89_is {t:Table}{v:Int}(hf:BIG≤fu)(h:Rt t)(hv:VerOK t v):f89 fu t v=some (shapeAt t v.toNat):=by
 unfold f89
 rw [hv.c1,ct,Int.toNat_zero,List.drop_zero,f50_is hf h.first.sm (h.csTake _),bs]
 unfold allB runB
 rw [if_pos h.first,(h.at _).1]
theorem f53_is {t:Table}(hf:BIG≤fu)(h:Rt t):f53 fu t=some (lastS t):=by
 unfold f53
 rw [f89_is hf h ⟨by omega,by omega⟩,bs,tn,shapeAt_last]
theorem nowR_len {t:Table}{r:Row}(h:Rt t)(hr:RowIn t r):(nowR t r).length=(lastS t).length:=runRow_len (h.at _).2 hr.len
theorem nowR_sm {t:Table}{r:Row}(h:Rt t)(hr:RowIn t r):SmR (nowR t r):=sm_runRow (h.csDrop _).all (h.okAt _) (h.at _).2 hr.len hr.sm
theorem f90_is {t:Table}{r:Row}(hf:BIG≤fu)(h:Rt t)(hr:RowIn t r):f90 fu t r=some (nowR t r):=by
 unfold f90
 rw [f89_is hf h hr.ver,bs,hr.ver.c2,ct,tn,List.take_length,f120_is hf (h.okAt _) (h.csDrop _) (h.at _).2 hr.len hr.sm];rfl
theorem f49_is {t:Table}{r:Row}(hf:BIG≤fu)(h:Rt t)(hr:RowIn t r):f49 fu t r=some (nowR t r):=by
 unfold f49
 rw [hr.ver.c1,ct,Int.toNat_zero,List.drop_zero,f57_is hf h.first (h.csTake _),bs,hr.ver.c2,ct,tn,List.take_length]
 unfold runB
 rw [(h.at _).1]
 show (f85 fu (shapeAt t r.ver.toNat) _ _).bind _=_
 rw [f85_is hf (h.okAt _) (h.csDrop _) (h.at _).2 hr.len hr.sm];rfl
theorem f66_is {t:Table}(hf:BIG≤fu)(h:Rt t):f66 fu t=some (lastS t):=by
 unfold f66
 rw [f57_is hf h.first h.cs,bs]
 unfold runB
 rw [h.last]
def Clash (s:List Col)(a b:List Val):Prop:=∃ c,c<s.length∧(s.getD c default).once=true∧(a.getD c default).kind≠0∧a.getD c default=b.getD c default
theorem Clash.symm {s:List Col}{a b:List Val}(h:Clash s a b):Clash s b a:=by
 obtain ⟨c,h1,h2,h3,h4⟩:=h
 exact ⟨c,h1,h2,by rw [← h4];exact h3,h4.symm⟩
def NoTwice (s:List Col)(rows:List (List Val)):Prop:=rows.Pairwise fun a b=>¬ Clash s a b
def ColTwice (rows:List (List Val))(c:Nat):Prop:=∃ i,i<rows.length∧∃ k,k<i∧((rows.getD i default).getD c default).kind≠0∧(rows.getD i default).getD c default=(rows.getD k default).getD c default
theorem NoTwice_iff {s:List Col}{rows:List (List Val)}:NoTwice s rows↔¬ ∃ c,c<s.length∧(s.getD c default).once=true∧ColTwice rows c:=by
 unfold NoTwice
 rw [List.pairwise_iff_getElem]
 constructor
 ·rintro h ⟨c,h1,h2,i,hi,k,hk,h3,h4⟩
  rw [getD_lt hi] at h3 h4
  rw [getD_lt (show k<rows.length by omega)] at h4
  exact h k i (by omega) hi hk ⟨c,h1,h2,by rw [← h4];exact h3,h4.symm⟩
 ·rintro h i j hi hj hij ⟨c,h1,h2,h3,h4⟩
  exact h ⟨c,h1,h2,j,hj,i,hij,by rw [getD_lt hj,← h4];exact h3,by rw [getD_lt hi,getD_lt hj,h4]⟩
theorem f52_is {s:List Col}{rows:List (List Val)}(hf:BIG≤fu)(hs:s.length≤1000)(hr:rows.length≤1000)(hl:∀ r,r∈rows→r.length=s.length):f52 fu s rows=some (B (¬ NoTwice s rows)):=by
 have hlen:∀ i,i<rows.length→(rows.getD i default).length=s.length:=fun i hi=>by rw [getD_lt hi];exact hl _ (List.getElem_mem hi)
 have hBF:1000<fu:=by unfold BIG at hf;omega
 unfold f52
 have h1:=loopE (L:=f52_l1 fu s rows) (N:=s.length) (fun c=>(s.getD c default).once=true∧ColTwice rows c) (some true) (some false) (by unfold BIG;omega) (fun n=>?_) (fun n c hc hp=>?_) (fun n c hc hp=>?_) (fu:=fu) (by omega)
 ·rw [h1]
  by_cases h:∃ c,c<s.length∧(s.getD c default).once=true∧ColTwice rows c
  ·rw [if_pos h,B_t fun h2=>NoTwice_iff.1 h2 h]
  ·rw [if_neg h,B_f fun h2=>h2 (NoTwice_iff.2 h)]
 ·rw [f52_l1,nlt];rfl
 all_goals
  rw [f52_l1,ltR hc,ct]
  have h2:f52_l2 fu s rows (c:Int) (f52_l1 fu s rows n) fu 0=@ite _ ((s.getD c default).once=true∧ColTwice rows c) (Classical.propDecidable _) (some true) (f52_l1 fu s rows n (IntKind.i64.wrap ((c:Int)+1))):=by
   cases ho:(s.getD c default).once with
   | false=>
    rw [if_neg fun h=>by cases h.1]
    obtain ⟨m,rfl⟩:∃ m,fu=m+1:=⟨fu-1,by omega⟩
    rw [f52_l2]
    cases hN:decide ((0:Int) < (rows.length:Int)) with
    | true=>rw [ct,inR hc,ct,tn,ho];rfl
    | false=>rfl
   | true=>
    rw [loopE (L:=f52_l2 fu s rows (c:Int) (f52_l1 fu s rows n)) (N:=rows.length) (fun i=>∃ k,k<i∧((rows.getD i default).getD c default).kind≠0∧(rows.getD i default).getD c default=(rows.getD k default).getD c default) (some true) (f52_l1 fu s rows n (IntKind.i64.wrap ((c:Int)+1))) (by unfold BIG;omega) (fun m=>?_) (fun m i hi hp=>?_) (fun m i hi hp=>?_) (fu:=fu) (by omega)]
    ·by_cases h:ColTwice rows c
     ·rw [if_pos (show ∃ k,_ from h),if_pos ⟨rfl,h⟩]
     ·rw [if_neg (show ¬ ∃ k,_ from h),if_neg fun h'=>h h'.2]
    ·rw [f52_l2,nlt];rfl
    all_goals
     rw [f52_l2,ltR hi,ct,inR hc,ct,tn,ho]
     simp only [f52_j10,ct]
     have hci:c < (rows.getD i default).length:=by rw [hlen i hi];exact hc
     rw [loopE (L:=f52_l3 rows (c:Int) (i:Int) (f52_l1 fu s rows n) (f52_l2 fu s rows (c:Int) (f52_l1 fu s rows n) m)) (N:=i) (fun k=>((rows.getD i default).getD c default).kind≠0∧(rows.getD i default).getD c default=(rows.getD k default).getD c default) (some true) (f52_l2 fu s rows (c:Int) (f52_l1 fu s rows n) m (IntKind.i64.wrap ((i:Int)+1))) (by unfold BIG;omega) (fun q=>?_) (fun q k hk hq=>?_) (fun q k hk hq=>?_) (fu:=fu) (by omega)]
     ·first
       | rw [if_pos hp]
       | rw [if_neg hp]
     ·rw [f52_l3,nlt];rfl
     all_goals
      have hck:c < (rows.getD k default).length:=by rw [hlen k (by omega)];exact hc
      rw [f52_l3,ltR hk,ct,inR hi,ct,tn,tn,inR hci,ct]
      simp only [ct,tn,inR (show k<rows.length by omega),inR hck,f52_j12]
      by_cases hk0:((rows.getD i default).getD c default).kind=0
      ·rw [dt hk0]
       first
        | exact absurd hk0 hq.1
        | rfl
      ·rw [df hk0]
       by_cases hk1:(rows.getD i default).getD c default=(rows.getD k default).getD c default
       ·rw [dt hk1]
        first
         | exact absurd ⟨hk0,hk1⟩ hq
         | rfl
       ·rw [df hk1]
        first
         | exact absurd hq.2 hk1
         | rfl
  rw [h2]
  first
   | rw [if_pos hp]
   | rw [if_neg hp]
end Go.Proofs.YtdpigighgmipfaaGreatDoor
