/- The law: a table that is not there is told: put, set, off and change say so, and nothing goes. -/
import Derived.Test.YtdpigighgmipfaaGreatDoorQ1014M37
import Derived.Test.YtdpigighgmipfaaGreatDoorQ1014B12
set_option linter.all false
namespace Go.Proofs.YtdpigighgmipfaaGreatDoor
open Go Go.HL
variable {fu:Nat}
theorem law1014 (hf:BIG≤fu)(a:List Int)(ha:∀ b,b∈a→0≤b∧b≤255):f1014 fu a=some true:=by
 unfold f1014
 refine cond_long ?_
 obtain ⟨b,nm,xs,e,hb,hxs,hsh⟩:=d1040s (fu:=fu) hf ha
 rw [e,bs]
 simp only
 rw [f1041_is hf hb hxs,bs,f1042_is hf hb hxs,bs,dt rfl]
 simp only [Bool.not_true,cf]
 have hsm:SmB (putBB b [122,122,122] xs).1:=by
  by_cases hok:BaseOK b
  ·exact (putBB_good ⟨hok,hb⟩ hxs).sm
  ·rw [putBB_no hok];exact nilB_sm
 rw [f1018_self hf hsm,bs]
 simp only [Bool.not_true,cf]
 rw [f1019_is hf hb,bs]
 unfold f1014_j1
 by_cases hok:BaseOK b
 case neg=>
  rw [B_f hok]
  simp only [Bool.not_false,ct,decide_true]
  rw [f1018_self hf hsm];rfl
 rw [B_t hok]
 simp only [Bool.not_true,cf]
 have hno:=zzz_no hsh
 have hput:putBB b [122,122,122] xs=(b,5):=(if_pos hok).trans (if_neg hno)
 have hset:setBB b [122,122,122] 1 xs=(b,5):=(if_pos hok).trans (if_neg hno)
 have hchg:∀ c,changeBB b [122,122,122] c=(b,5):=fun c=>(if_pos hok).trans (if_neg hno)
 have hoff:offBB b [122,122,122] 1=(b,5):=(if_pos hok).trans (if_pos fun hh=>hno hh.1)
 rw [f1038_is hf hb hxs,bs,f1028_is hf hb,bs,f1033_is hf hb ?_,bs,hput,hset,hchg,hoff]
 ·simp only [decide_true,ct]
  rw [f1018_self hf hb,bs,ct,f1031_is hf hb,bs,goneBB_no (fun hh=>hno hh.2.1)];rfl
 ·exact ⟨by decide,by decide,by decide⟩
end Go.Proofs.YtdpigighgmipfaaGreatDoor
