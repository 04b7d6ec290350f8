/- The law: what is turned names rows that are there, and no other table turns. -/
import Derived.Test.YtdpigighgmipfaaGreatDoorQ1008M32
set_option linter.all false
namespace Go.Proofs.YtdpigighgmipfaaGreatDoor
open Go Go.HL
variable {fu:Nat}
theorem law1008 (hf:BIG≤fu)(a:List Int)(ha:∀ b,b∈a→0≤b∧b≤255):f1008 fu a=some true:=by
 unfold f1008
 refine cond_long ?_
 obtain ⟨b,nm,id,xs,e,hb,hn,hxs⟩:=d1037 (fu:=fu) hf ha
 rw [e,bs]
 simp only
 rw [f1038_is hf hb hxs,bs,f1039_is hf hb hxs,bs,dt rfl]
 by_cases hok:BaseOK b
 case neg=>
  rw [setBB_no hok]
  simp only [Bool.not_true,cf]
  rw [f1018_self hf nilB_sm,bs]
  unfold f1008_j1 f1008_j2
  simp only [Bool.not_true,cf]
  rw [f1019_is hf hb,B_f hok,bs,d1026_nil,f1018_self hf nilB_sm];rfl
 have hB:GoodB b:=⟨hok,hb⟩
 have hx:GoodB (setBB b nm id xs).1:=setBB_good hB hxs
 simp only [Bool.not_true,cf]
 rw [f1018_self hf hx.sm,bs]
 unfold f1008_j1
 simp only [Bool.not_true,cf]
 rw [f1019_is hf hb,B_t hok,bs]
 simp only [Bool.not_true,cf]
 rcases setBB_cases hok nm id xs with ⟨h1,h2⟩|⟨hk,h2,h3⟩
 ·rw [df h2,h1,f1018_self hf hb];rfl
 ·rw [h3] at hx ⊢
  simp only [decide_true,Bool.not_true,cf]
  have hN:=hok.ntab
  generalize ht:(setT (tabT b nm) id xs).1=t at hx
  have hlen:=setTab_len b (tabN b nm) t
  have fin:∀ n,f1008_l1 fu (b,nm,id,xs) (setTab b (tabN b nm) t,0) (n+1) (b.tabs.length:Int)=some true:=fun n=>by
   rw [f1008_l1,nlt,cf,f1020_is hf hx.sm,B_t hx.ok,bs,ct,f1026_is hf hx,bs,ct]
   unfold f1008_j6
   rw [hlen,dt rfl]
  have:=loopB (L:=f1008_l1 fu (b,nm,id,xs) (setTab b (tabN b nm) t,0)) (N:=b.tabs.length) (fun _=>True) True (by unfold BIG;omega) (fun n _=>fin n) (fun n hh=>absurd trivial hh) (fun n k hkl _=>by
   rw [f1008_l1,ltR hkl,ct,ge0,Bool.and_self,ct,tn]
   unfold f1008_j5
   by_cases hnm:(b.tabs.getD k default).name=nm
   ·rw [dt hnm];rfl
   ·rw [df hnm]
    simp only [Bool.not_false,ct]
    rw [ltR (show k < (setTab b (tabN b nm) t).tabs.length by rw [hlen];exact hkl),Bool.and_self,ct,setTab_get hk,if_neg (fun hh=>hnm (by rw [hh];exact tabN_name hk))]
    have e0:=f15_is (a:=tabK b k) (b:=tabK b k) hf (hb.tabs k hkl)
    rw [B_t rfl] at e0
    have e1:f15 fu (b.tabs.getD k default).table (b.tabs.getD k default).table=some true:=e0
    rw [e1];rfl) (fun n k hkl hh=>absurd trivial hh) (fu:=fu) (by unfold BIG at hf;omega)
  rw [this,B_t ⟨fun _ _=>trivial,trivial⟩]
end Go.Proofs.YtdpigighgmipfaaGreatDoor
