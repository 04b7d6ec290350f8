/- What is drawn: tables. -/
import Derived.Test.YtdpigighgmipfaaGreatDoorQ1008M15
set_option linter.all false
namespace Go.Proofs.YtdpigighgmipfaaGreatDoor
open Go Go.HL
variable {fu:Nat}
structure Good (t:Table):Prop where
 ok:TabOK t
 sm:SmT t
theorem sms_set {s:List Col}{k:Nat}{c:Col}(h:SmS s)(hc:SmC c):SmS (s.set k c):=⟨by have:=h.len;simpa using this,fun x hx=>by
 rcases List.mem_or_eq_of_mem_set hx with hx|hx
 ·exact h.all x hx
 ·subst hx;exact hc⟩
theorem d123 {r:Rd}{s:List Col}{m:Nat}(h:RdOK r m)(hm:m≤700000)(hs:SmS s)(hl:s.length≤900):Draws (f123 fu r s) (fun x=>SmS x∧x.length≤s.length+1) (m+7):=by
 unfold f123 f123_j1
 rw [cap (by rw [List.length_nil];omega),ct,List.nil_append]
 by_cases h0:s.length=0
 ·rw [dt (show (s.length:Int)=0 by omega)]
  exact .pure ⟨hs,by omega⟩ (h.mono (by omega))
 rw [df (show ¬ (s.length:Int)=0 by omega),cf]
 refine (d74 h (by omega)).bind fun k r1 hk hr1=>?_
 have hi:=idxR hk (show 0<s.length by omega)
 have hg:=hs.get hi.2
 refine (d74 hr1 (by omega)).bind fun q r2 hq hr2=>?_
 simp only [hi.1,ct]
 cases decide (q=0) with
 | true=>exact (d96 hr2 (by omega) (by decide)).bind fun x r3 hx hr3=>.pure ⟨sms_set hs ⟨sm_short (by rfl) x hx,hg.def_⟩,by simp⟩ (hr3.mono (by omega))
 | false=>
  cases decide (q=1) with
  | true=>exact (d73 hr2 (by omega) (by decide)).bind fun x r3 hx hr3=>.pure ⟨sms_set hs ⟨hg.name,hg.def_⟩,by simp⟩ (hr3.mono (by omega))
  | false=>
   cases decide (q=2) with
   | true=>exact (d97 hr2 (by omega)).bind fun x r3 hx hr3=>.pure ⟨sms_set hs ⟨hg.name,hx⟩,by simp⟩ (hr3.mono (by omega))
   | false=>
    cases decide (q=3) with
    | true=>
     simp only [ct,cf]
     rw [cap (by rw [List.length_singleton];omega),ct]
     refine .pure ⟨⟨by simp;omega,fun x hx=>?_⟩,by simp⟩ (hr2.mono (by omega))
     rcases List.mem_append.1 hx with hx|hx
     ·exact hs.all x hx
     ·simp only [List.mem_singleton] at hx;subst hx;exact hg
    | false=>
     cases decide (q=4) with
     | true=>exact .pure ⟨⟨by simp,fun _ h=>by cases h⟩,by simp⟩ (hr2.mono (by omega))
     | false=>
      cases decide (q=5) with
      | true=>exact .pure ⟨sms_set hs ⟨hg.name,hg.def_⟩,by simp⟩ (hr2.mono (by omega))
      | false=>exact .pure ⟨hs,by omega⟩ (hr2.mono (by omega))
theorem smt_set {t:Table}(h:SmT t){k:Nat}{r:Row}(hr:SmR r.vals):SmT ⟨t.first,t.changes,t.rows.set k r,t.next⟩:=⟨h.first,h.cs,by have:=h.nrow;simpa using this,fun j hj=>by
 rw [getD_lt hj]
 rcases List.mem_or_eq_of_mem_set (List.getElem_mem hj) with hm|hm
 ·exact h.row hm
 ·rw [hm];exact hr⟩
theorem d60 {a:List Int}(ha:∀ b,b∈a→0≤b∧b≤255):∃ r,f60 fu a=some r∧RdOK r 0:=by
 unfold f60 f60_j1
 by_cases h:2000<a.length
 ·rw [dt (show (2000:Int) < (a.length:Int) by omega),ct,show (decide ((0:Int)≤0)&&decide ((0:Int)≤2000)&&decide ((2000:Int)≤(a.length:Int)))=true by simp;omega]
  refine ⟨_,rfl,fun x hx=>ha x ?_,Int.le_refl _,Int.le_refl _⟩
  exact List.mem_of_mem_take (List.mem_of_mem_drop hx)
 ·rw [df (show ¬ (2000:Int) < (a.length:Int) by omega)]
  exact ⟨_,rfl,ha,Int.le_refl _,Int.le_refl _⟩
end Go.Proofs.YtdpigighgmipfaaGreatDoor
/- What the laws ask: how each thing done ends, what is told twice, rows compared. -/
namespace Go.Proofs.YtdpigighgmipfaaGreatDoor
open Go Go.HL
variable {fu:Nat}
theorem cond_long {n:Nat}{x:Option Bool}(h:x=some true):cond (decide (1048576 < (n:Int))) (some true) x=some true:=by
 cases decide (1048576 < (n:Int)) with
 | true=>rfl
 | false=>exact h
theorem rowT_yes {t:Table}{id:Int}(h:TabOK t)(h2:rowN t id<t.rows.length):rowT t id=(nowR t (t.rows.getD (rowN t id) default),true):=if_pos ⟨h,h2⟩
theorem rowT_at {t:Table}(h:TabOK t){k:Nat}(hk:k<t.rows.length):rowT t (t.rows.getD k default).id=(nowR t (t.rows.getD k default),true):=by
 have e:=rowN_uniq h.asc hk
 rw [rowT_yes h (by rw [e];exact hk),e]
theorem shapeB_ok {t:Table}(h:TabOK t):shapeB t=lastS t:=if_pos h
theorem Good.now {t:Table}(h:Good t){k:Nat}(hk:k<t.rows.length):RowOK (lastS t) (nowR t (t.rows.getD k default)):=(h.ok.rg _ (getD_mem hk)).now
structure PutFine (t:Table) (xs:List Set) (row:List Val):Prop where
 tell:tell (lastS t) [] (defs (lastS t)) xs=some row
 ok:RowOK (lastS t) row
 once:NoTwice (lastS t) (nows t++[row])
 room:t.rows.length≠8
 next:t.next≠60
def putR (t:Table)(row:List Val):Table:={ t with rows:=t.rows++[⟨t.next,(t.changes.length:Int),row⟩],next:=t.next+1 }
theorem putT_cases (t:Table)(xs:List Set):(∃ row,PutFine t xs row∧putT t xs=(putR t row,0))∨((putT t xs).1=t∧(putT t xs).2≠0):=by
 unfold putT
 split
 ·exact .inr ⟨rfl,by simp⟩
 ·rename_i row ht
  by_cases h1:RowOK (lastS t) row
  case neg=>rw [if_pos h1];exact .inr ⟨rfl,by simp⟩
  rw [if_neg (fun h=>h h1)]
  by_cases h2:NoTwice (lastS t) (nows t++[row])
  case neg=>rw [if_pos h2];exact .inr ⟨rfl,by simp⟩
  rw [if_neg (fun h=>h h2)]
  by_cases h3:t.rows.length=8∨t.next=60
  ·rw [if_pos h3];exact .inr ⟨rfl,by simp⟩
  ·rw [if_neg h3];exact .inl ⟨row,⟨ht,h1,h2,fun e=>h3 (.inl e),fun e=>h3 (.inr e)⟩,rfl⟩
structure SetFine (t:Table) (id:Int) (xs:List Set) (row:List Val):Prop where
 there:rowN t id<t.rows.length
 tell:tell (lastS t) [] (nowR t (t.rows.getD (rowN t id) default)) xs=some row
 ok:RowOK (lastS t) row
 once:NoTwice (lastS t) ((nows t).set (rowN t id) row)
def setR (t:Table)(id:Int)(row:List Val):Table:={ t with rows:=t.rows.set (rowN t id) ⟨id,(t.changes.length:Int),row⟩ }
theorem setT_cases (t:Table)(id:Int)(xs:List Set):(∃ row,SetFine t id xs row∧setT t id xs=(setR t id row,0))∨((setT t id xs).1=t∧(setT t id xs).2≠0):=by
 unfold setT
 by_cases h0:rowN t id<t.rows.length
 case neg=>rw [if_neg h0];exact .inr ⟨rfl,by simp⟩
 rw [if_pos h0]
 split
 ·exact .inr ⟨rfl,by simp⟩
 ·rename_i row ht
  by_cases h1:RowOK (lastS t) row
  case neg=>rw [if_pos h1];exact .inr ⟨rfl,by simp⟩
  rw [if_neg (fun h=>h h1)]
  by_cases h2:NoTwice (lastS t) ((nows t).set (rowN t id) row)
  case neg=>rw [if_pos h2];exact .inr ⟨rfl,by simp⟩
  rw [if_neg (fun h=>h h2)]
  exact .inl ⟨row,⟨h0,ht,h1,h2⟩,rfl⟩
theorem setT_fine {t:Table}{id:Int}{xs:List Set}{row:List Val}(h:SetFine t id xs row):setT t id xs=(setR t id row,0):=by
 unfold setT
 rw [if_pos h.there,h.tell]
 simp only
 rw [if_neg (fun h'=>h' h.ok),if_neg (fun h'=>h' h.once)];rfl
structure ChgFine (t:Table) (c:Change):Prop where
 can:Can (lastS t) c
 rows:∀ k,k<t.rows.length→RowOK (chg (lastS t) c) (chgRow (lastS t) c (nowR t (t.rows.getD k default)))
def chgR (t:Table)(c:Change):Table:={ t with changes:=t.changes++[c] }
theorem chgT_fine {t:Table}{c:Change}(h:ChgFine t c)(h8:t.changes.length≠8):chgT t c=(chgR t c,0):=by
 unfold chgT
 rw [if_neg (fun h'=>h' h.can),if_neg (fun ⟨k,hk,h'⟩=>h' (h.rows k hk)),if_neg h8];rfl
theorem chgT_full {t:Table}{c:Change}(h:ChgFine t c)(h8:t.changes.length=8):chgT t c=(t,4):=by
 unfold chgT
 rw [if_neg (fun h'=>h' h.can),if_neg (fun ⟨k,hk,h'⟩=>h' (h.rows k hk)),if_pos h8]
theorem chgT_form {t:Table}{c:Change}(h:¬ Can (lastS t) c):chgT t c=(t,1):=if_pos h
theorem chgT_need {t:Table}{c:Change}(h:Can (lastS t) c)(h2:∃ k,k<t.rows.length∧¬ RowOK (chg (lastS t) c) (chgRow (lastS t) c (nowR t (t.rows.getD k default)))):chgT t c=(t,2):=by
 unfold chgT
 rw [if_neg (fun h'=>h' h),if_pos h2]
theorem chgT_cases (t:Table)(c:Change):(ChgFine t c∧t.changes.length≠8)∨(ChgFine t c∧t.changes.length=8)∨¬ Can (lastS t) c∨(Can (lastS t) c∧∃ k,k<t.rows.length∧¬ RowOK (chg (lastS t) c) (chgRow (lastS t) c (nowR t (t.rows.getD k default)))):=by
 by_cases h1:Can (lastS t) c
 case neg=>exact .inr (.inr (.inl h1))
 by_cases h2:∃ k,k<t.rows.length∧¬ RowOK (chg (lastS t) c) (chgRow (lastS t) c (nowR t (t.rows.getD k default)))
 ·exact .inr (.inr (.inr ⟨h1,h2⟩))
 have hf:ChgFine t c:=⟨h1,fun k hk=>Classical.byContradiction fun hn=>h2 ⟨k,hk,hn⟩⟩
 by_cases h3:t.changes.length=8
 ·exact .inr (.inl ⟨hf,h3⟩)
 ·exact .inl ⟨hf,h3⟩
theorem atN_name {s:List Col}{nm:List UInt8}(h:atN s nm<s.length):(s.getD (atN s nm) default).name=nm:=by
 rw [getD_lt h]
 exact of_decide_eq_true (List.findIdx_getElem (w:=h))
theorem atN_at {s:List Col}(hs:ShapeOK s){k:Nat}(hk:k<s.length):atN s (s.getD k default).name=k:=by
 have:=(hs.all k hk).2
 have hlt:atN s (s.getD k default).name<s.length:=Classical.byContradiction fun hn=>by rw [atI_no hn] at this;omega
 rw [atI_lt hlt] at this
 omega
end Go.Proofs.YtdpigighgmipfaaGreatDoor
/- Tables written anew; a change of columns and of a row by itself; what a column finds; a row told as it is. -/
namespace Go.Proofs.YtdpigighgmipfaaGreatDoor
open Go Go.HL
variable {fu:Nat}
theorem f24_is {s:List Col}{nm:List UInt8}(hf:BIG≤fu)(hs:ShapeOK s):f24 fu s nm=some (atI s nm):=by
 have:=hs.hi
 unfold f24
 rw [f67_is hf hs.sm,B_t hs,bs]
 simp only [Bool.not_true,cf]
 rw [f68_is hf (by omega)];rfl
end Go.Proofs.YtdpigighgmipfaaGreatDoor
