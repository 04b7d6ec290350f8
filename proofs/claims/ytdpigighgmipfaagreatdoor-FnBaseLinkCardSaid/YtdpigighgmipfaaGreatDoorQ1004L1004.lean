/- The law: a link that is put in holds; one that does not can not be, nor a second of one column. -/
import Derived.Test.YtdpigighgmipfaaGreatDoorQ1004M32
set_option linter.all false
namespace Go.Proofs.YtdpigighgmipfaaGreatDoor
open Go Go.HL
variable {fu:Nat}
theorem law1004 (hf:BIG≤fu)(a:List Int)(ha:∀ b,b∈a→0≤b∧b≤255):f1004 fu a=some true:=by
 unfold f1004
 refine cond_long ?_
 obtain ⟨b,l,e,hb⟩:=d1023 (fu:=fu) hf ha
 rw [e,Option.bind_some]
 simp only
 rw [f1024_is hf hb,Option.bind_some,f1025_is hf hb,Option.bind_some,decide_eq_true rfl]
 by_cases hok:BaseOK b
 case neg=>
  rw [linkBB_no hok]
  simp only [Bool.not_true,cond_false]
  rw [f1018_self hf nilB_sm,Option.bind_some]
  unfold f1004_j1 f1004_j2
  simp only [Bool.not_true,cond_false]
  rw [f1019_is hf hb,B_f hok,Option.bind_some,d1026_nil,f1018_self hf nilB_sm];rfl
 have hB:GoodB b:=⟨hok,hb⟩
 have hx:GoodB (linkBB b l).1:=linkBB_good hB
 simp only [Bool.not_true,cond_false]
 rw [f1018_self hf hx.sm,Option.bind_some]
 unfold f1004_j1 f1004_j3
 simp only [Bool.not_true,cond_false]
 rw [f1019_is hf hb,B_t hok,Option.bind_some]
 simp only [Bool.not_true,cond_false]
 rcases linkBB_cases hok l with ⟨h1,h2⟩|⟨h1,h2,h3,h4,h5⟩
 ·rw [decide_eq_false h2,h1,f1018_self hf hb];rfl
 ·rw [h5] at hx ⊢
  have hlen:=addLink_len b l
  have hN:=hok.nlink
  have e2:linkBB (addLink b l) l=(addLink b l,1):=by
   unfold linkBB linkX
   rw [if_pos hx.ok,if_pos (.inr ⟨b.links.length,by rw [hlen];omega,by rw [addLink_new],by rw [addLink_new]⟩)]
  have e3:decide ((List.length (addLink b l).links:Int)=(IntKind.i64.wrap ((List.length b.links:Int)+1)))=true:=by rw [hlen,wrapI (by omega) (by omega),decide_eq_true_iff];omega
  simp only [e3,cond_true,decide_true,Bool.not_true,cond_false]
  rw [f1024_is hf hx.sm,Option.bind_some,e2,f1020_is hf hx.sm,B_t hx.ok,Option.bind_some,f1026_is hf hx];rfl
end Go.Proofs.YtdpigighgmipfaaGreatDoor
