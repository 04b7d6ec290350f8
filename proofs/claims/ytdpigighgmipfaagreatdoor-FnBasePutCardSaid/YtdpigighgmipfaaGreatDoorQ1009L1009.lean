/- The law: a row that is put in names rows that are there, or itself; what can not be put in turns nothing. -/
import Derived.Test.YtdpigighgmipfaaGreatDoorQ1009M32
set_option linter.all false
namespace Go.Proofs.YtdpigighgmipfaaGreatDoor
open Go Go.HL
variable {fu:Nat}
theorem law1009 (hf:BIG≤fu)(a:List Int)(ha:∀ b,b∈a→0≤b∧b≤255):f1009 fu a=some true:=by
 unfold f1009
 refine cond_long ?_
 obtain ⟨b,nm,xs,e,hb,hn,hxs⟩:=d1040 (fu:=fu) hf ha
 rw [e,bs]
 simp only
 rw [f1041_is hf hb hxs,bs,f1042_is hf hb hxs,bs,dt rfl]
 simp only [Bool.not_true,cf]
 have hsame:f1018 fu (putBB b nm xs).1 (putBB b nm xs).1=some true:=by
  by_cases hok:BaseOK b
  ·exact f1018_self hf (putBB_good ⟨hok,hb⟩ hxs).sm
  ·rw [putBB_no hok];exact f1018_self hf nilB_sm
 rw [hsame,bs]
 simp only [Bool.not_true,cf]
 rw [f1020_is hf hb,bs,f1019_is hf hb,bs]
 unfold f1009_j1
 rw [f1019_is hf hb,bs]
 by_cases hok:BaseOK b
 case neg=>
  rw [putBB_no hok,B_f hok]
  unfold f1009_j2
  simp only [Bool.not_true,cf]
  rw [d1026_nil,f1018_self hf nilB_sm];rfl
 have hB:GoodB b:=⟨hok,hb⟩
 have hx:GoodB (putBB b nm xs).1:=putBB_good hB hxs
 rw [B_t hok]
 unfold f1009_j3
 simp only [BEq.rfl,Bool.not_true,cf]
 rcases putBB_cases hok nm xs with ⟨h1,h2⟩|⟨hk,h2,h3⟩
 ·rw [df h2,h1,f1018_self hf hb];rfl
 ·rw [h3] at hx ⊢
  have g:=hB.tabT hk
  have hp:putB (tabT b nm) xs=putT (tabT b nm) xs:=if_pos g.ok
  simp only [decide_true,Bool.not_true,cf]
  rw [f1035_is hf hb.ntab,bs,tabI_lt hk,inR hk,ct,tn,tabT_at,f21_is hf g.sm hxs,bs,hp,f1020_is hf hx.sm,B_t hx.ok,bs,ct,f1026_is hf hx,bs,ct,dt h2,ct,setTab_len,inR hk,ct,setTab_get hk,if_pos rfl]
  show (f15 fu (putT (tabT b nm) xs).1 (putT (tabT b nm) xs).1).bind _=_
  rw [f15_is hf (putT_sm g.ok g.sm hxs),B_t rfl];rfl
end Go.Proofs.YtdpigighgmipfaaGreatDoor
