/- The law: what went off is gone: a second time it is not there, and nothing goes with it. -/
import Derived.Test.YtdpigighgmipfaaGreatDoorQ1007M36
import Derived.Test.YtdpigighgmipfaaGreatDoorQ1007B12
set_option linter.all false
namespace Go.Proofs.YtdpigighgmipfaaGreatDoor
open Go Go.HL
variable {fu:Nat}
theorem law1007 (hf:BIG≤fu)(a:List Int)(ha:∀ b,b∈a→0≤b∧b≤255):f1007 fu a=some true:=by
 unfold f1007
 refine cond_long ?_
 obtain ⟨b,nm,id,e,hb,hn⟩:=d1027 (fu:=fu) hf ha
 rw [e,bs]
 simp only
 rw [f1028_is hf hb,bs,f1029_is hf hb,bs,f1031_is hf hb,bs,dt rfl]
 simp only [Bool.not_true,cf]
 unfold f1007_j1
 by_cases hok:BaseOK b
 case neg=>rw [offBB_no hok];rfl
 have hB:GoodB b:=⟨hok,hb⟩
 rcases offBB_cases hok nm id with ⟨-,h2⟩|⟨-,-,h2⟩|⟨h1,hs,h2⟩
 ·rw [h2];simp
 ·rw [h2];simp
 have hx:GoodB (offBB b nm id).1:=offBB_good hB
 rw [h2] at hx ⊢
 rw [goneBB_yes hok h1]
 simp only [decide_true,Bool.not_true,cf]
 have hlen:=goneL_len hok (Gone b nm id)
 have hpos:=gone_pos hok h1
 generalize hl:goneL b (Gone b nm id)=l at hlen hpos ⊢
 have hno:∀ k,k<l.length→¬ HasRow (offG b (Gone b nm id)) (l.getD k default).name (l.getD k default).id:=fun k hk hh=>by
  refine ((offG_has hok).1 hh).2 ((gone_in hok h1).1 ?_)
  rw [hl];exact ⟨_,getD_mem hk,rfl,rfl⟩
 have:=loopB (L:=f1007_l1 fu (offG b (Gone b nm id),0) l) (N:=l.length) (fun _=>True) True (by unfold BIG;omega) (fun n _=>by
  rw [f1007_l1,nlt,cf];simp;omega) (fun n hh=>absurd trivial hh) (fun n k hkl _=>by
  have hq:=hno k hkl
  rw [f1007_l1,ltR hkl,ct,ge0,Bool.and_self,ct,ct,tn,f1028_is hf hx.sm,bs]
  rcases offBB_cases hx.ok (l.getD k default).name (l.getD k default).id with ⟨-,h3⟩|⟨h3,-⟩|⟨h3,-⟩
  ·rw [h3]
   simp only [decide_true,Bool.not_true,cf,ct]
   rw [f1018_self hf hx.sm,bs,f1031_is hf hx.sm,bs,goneBB_no (fun hh=>hq hh.2)]
   rfl
  ·exact absurd h3 hq
  ·exact absurd h3 hq) (fun n k hkl hh=>absurd trivial hh) (fu:=fu) (by unfold BIG at hf;omega)
 rw [this,B_t ⟨fun _ _=>trivial,trivial⟩]
end Go.Proofs.YtdpigighgmipfaaGreatDoor
