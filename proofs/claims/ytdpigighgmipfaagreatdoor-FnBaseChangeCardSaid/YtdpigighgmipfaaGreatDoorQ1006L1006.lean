/- The law: a change of columns turns one table alone; a column that names rows is not dropped, nor of another kind; named otherwise its links go with it. -/
import Derived.Test.YtdpigighgmipfaaGreatDoorQ1006M32
set_option linter.all false
namespace Go.Proofs.YtdpigighgmipfaaGreatDoor
open Go Go.HL
variable {fu:Nat}
theorem chgT_codes (t:Table)(c:Change):(chgT t c).2=0∨((chgT t c).1=t∧((chgT t c).2=1∨(chgT t c).2=2∨(chgT t c).2=4)):=by
 rcases chgT_cases t c with ⟨h1,h2⟩|⟨h1,h2⟩|h1|⟨h1,h2⟩
 ·rw [chgT_fine h1 h2];exact .inl rfl
 ·rw [chgT_full h1 h2];exact .inr ⟨rfl,.inr (.inr rfl)⟩
 ·rw [chgT_form h1];exact .inr ⟨rfl,.inl rfl⟩
 ·rw [chgT_need h1 h2];exact .inr ⟨rfl,.inr (.inl rfl)⟩
theorem law1006 (hf:BIG≤fu)(a:List Int)(ha:∀ b,b∈a→0≤b∧b≤255):f1006 fu a=some true:=by
 unfold f1006
 refine cond_long ?_
 obtain ⟨b,nm,c,e,hb,hn,hc⟩:=d1032 (fu:=fu) hf ha
 rw [e,bs]
 simp only
 rw [f1033_is hf hb hc,bs,f1034_is hf hb hc,bs,dt rfl]
 by_cases hok:BaseOK b
 case neg=>
  rw [changeBB_no hok]
  simp only [Bool.not_true,cf]
  rw [f1018_self hf nilB_sm,bs]
  unfold f1006_j1 f1006_j2
  simp only [Bool.not_true,cf]
  rw [f1019_is hf hb,B_f hok,bs,d1026_nil,f1018_self hf nilB_sm];rfl
 have hB:GoodB b:=⟨hok,hb⟩
 have hx:GoodB (changeBB b nm c).1:=changeBB_good hB hc
 simp only [Bool.not_true,cf]
 rw [f1018_self hf hx.sm,bs]
 unfold f1006_j1 f1006_j3 f1006_j4 f1006_j5
 simp only [Bool.not_true,cf]
 rw [f1019_is hf hb,B_t hok,bs]
 simp only [Bool.not_true,cf]
 rw [f1035_is hf hb.ntab,bs]
 have e0:changeBB b nm c=changeX b nm c:=if_pos hok
 rw [e0] at hx ⊢
 unfold changeX at hx ⊢
 by_cases hk:tabN b nm<b.tabs.length
 case neg=>
  rw [if_neg hk,tabI_no hk]
  simp only [show decide ((-1:Int)<0)=true from rfl,decide_true,ct]
  rw [f1018_self hf hb];rfl
 rw [if_pos hk] at hx ⊢
 have g:=hB.tabT hk
 have hp:chgB (tabT b nm) c=chgT (tabT b nm) c:=if_pos g.ok
 rw [tabI_lt hk,natn,cf,inR hk,ct,tn,tabT_at,f28_is hf g.sm hc,bs,hp]
 have hcodes:=chgT_codes (tabT b nm) c
 by_cases h1:(chgT (tabT b nm) c).2=1
 ·rw [if_pos h1]
  simp only [h1,show decide ((1:Int)=8)=false from rfl,show decide ((1:Int)=0)=false from rfl,decide_true,cf,Bool.not_false,ct]
  rw [f1018_self hf hb];rfl
 rw [if_neg h1] at hx ⊢
 by_cases hu:(c.kind=2∨c.kind=4)∧Linked b nm c.name
 ·rw [if_pos hu]
  simp only [decide_true,ct,df h1,Bool.not_false]
  rw [f1018_self hf hb,bs,ct]
  by_cases k2:c.kind=2
  ·rw [dt k2];rfl
  ·rw [df k2,dt (hu.1.resolve_left k2)];rfl
 rw [if_neg hu] at hx ⊢
 by_cases hz:(chgT (tabT b nm) c).2=0
 case neg=>
  rw [if_pos hz]
  have h8:¬ (chgT (tabT b nm) c).2=8:=by
   rcases hcodes with h|⟨-,h|h|h⟩<;>rw [h]<;>decide
  simp only [df h8,df hz,cf,Bool.not_false,ct,decide_true]
  rw [f1018_self hf hb];rfl
 rw [if_neg (fun hh=>hh hz)] at hx ⊢
 simp only [show decide ((0:Int)=8)=false from rfl,decide_true,cf,Bool.not_true]
 generalize hX:chgBase b (tabN b nm) (chgT (tabT b nm) c).1 nm c=X at hx ⊢
 have hll:X.links.length=b.links.length:=by rw [← hX];exact chgBase_llen ..
 have hlk:∀ i,i<b.links.length→(X.links.getD i default).to=(b.links.getD i default).to∧(X.links.getD i default).how=(b.links.getD i default).how∧(X.links.getD i default).from_=(b.links.getD i default).from_:=fun i hi=>by
  rw [← hX,chgBase_get hi]
  exact ⟨reLink_to ..,reLink_how ..,reLink_from ..⟩
 have htl:X.tabs.length=b.tabs.length:=by rw [← hX];exact setTab_len ..
 have htt:(X.tabs.getD (tabN b nm) default).table=(chgT (tabT b nm) c).1:=by
  rw [← hX]
  show ((setTab b (tabN b nm) (chgT (tabT b nm) c).1).tabs.getD (tabN b nm) default).table=_
  rw [setTab_get hk,if_pos rfl]
 have fin:∀ n,f1006_l1 fu (b,nm,c) (X,0) (tabN b nm:Int) (chgT (tabT b nm) c) (n+1) (b.links.length:Int)=some true:=fun n=>by
  rw [f1006_l1,nlt,cf,f1020_is hf hx.sm,B_t hx.ok,bs,ct,f1026_is hf hx,bs,ct,htl,inR hk,ct,tn,htt,f15_is hf (chgT_sm g.ok g.sm hc),B_t rfl,bs,ct]
  unfold f1006_j9
  rw [hll,dt rfl]
 have hN:=hok.nlink
 have:=loopB (L:=f1006_l1 fu (b,nm,c) (X,0) (tabN b nm:Int) (chgT (tabT b nm) c)) (N:=b.links.length) (fun _=>True) True (by unfold BIG;omega) (fun n _=>fin n) (fun n hh=>absurd trivial hh) (fun n k hkl _=>by
  obtain ⟨e1,e2,e3⟩:=hlk k hkl
  rw [f1006_l1,ltR hkl,ct,hll,ltR hkl,ge0,Bool.and_self,ct,ct,tn,e1,e2,e3,dt rfl,dt rfl,dt rfl];rfl) (fun n k hkl hh=>absurd trivial hh) (fu:=fu) (by unfold BIG at hf;omega)
 rw [this,B_t ⟨fun _ _=>trivial,trivial⟩]
end Go.Proofs.YtdpigighgmipfaaGreatDoor
