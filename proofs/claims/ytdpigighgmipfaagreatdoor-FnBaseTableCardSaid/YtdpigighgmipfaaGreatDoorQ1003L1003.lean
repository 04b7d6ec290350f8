/- The law: a table that is put in has no rows, and turns nothing else. -/
import Derived.Test.YtdpigighgmipfaaGreatDoorQ1003M32
set_option linter.all false
namespace Go.Proofs.YtdpigighgmipfaaGreatDoor
open Go Go.HL
variable {fu:Nat}
theorem law1003 (hf:BIG≤fu) (a:List Int) (ha:∀ b,b∈a→0≤b∧b≤255):f1003 fu a=some true:=by
 unfold f1003
 refine cond_long ?_
 obtain ⟨b,nm,s,e,hb,hn,hs⟩:=d1015 (fu:=fu) hf ha
 rw [e,Option.bind_some]
 simp only
 rw [f1016_is hf hb hn hs,Option.bind_some,f1017_is hf hb hn hs,Option.bind_some,decide_eq_true rfl]
 by_cases hok:BaseOK b
 case neg=>
  rw [tableBB_no hok]
  simp only [Bool.not_true,cond_false]
  rw [f1018_self hf nilB_sm,Option.bind_some]
  unfold f1003_j1 f1003_j2
  simp only [Bool.not_true,cond_false]
  rw [f1019_is hf hb,B_f hok,Option.bind_some,d1026_nil,f1018_self hf nilB_sm];rfl
 have hB:GoodB b:=⟨hok,hb⟩
 have hx:GoodB (tableBB b nm s).1:=tableBB_good hB
 simp only [Bool.not_true,cond_false]
 rw [f1018_self hf hx.sm,Option.bind_some]
 unfold f1003_j1 f1003_j3
 simp only [Bool.not_true,cond_false]
 rw [f1019_is hf hb,B_t hok,Option.bind_some]
 simp only [Bool.not_true,cond_false]
 rcases tableBB_cases hok nm s with ⟨h1,h2⟩ | ⟨h1,h2,h3,h4,h5⟩
 ·rw [decide_eq_false h2,h1,f1018_self hf hb];rfl
 ·rw [h5] at hx ⊢
  have hlen:=addTab_len b nm s
  have hN:=hok.ntab
  have hnew:=addTab_tabN_new (s:=s) h2
  have e1:(decide (0≤(0:Int))&&decide ((0:Int)≤(List.length b.tabs:Int))&&decide ((List.length b.tabs:Int)≤(List.length (addTab b nm s).tabs:Int)))=true:=by rw [hlen];simp;omega
  have e2:tableBB (addTab b nm s) nm s=(addTab b nm s,1):=by
   unfold tableBB tableX
   rw [if_pos hx.ok,if_pos (.inr (.inl (by rw [hnew,hlen];omega)))]
  have e3:decide ((List.length (addTab b nm s).tabs:Int)=(IntKind.i64.wrap ((List.length b.tabs:Int)+1)))=true:=by rw [hlen,wrapI (by omega) (by omega),decide_eq_true_iff];omega
  have e4:(decide (0≤(List.length b.tabs:Int))&&decide ((List.length b.tabs:Int) < (List.length (addTab b nm s).tabs:Int)))=true:=inR (by omega)
  have e5:(addTab b nm s).tabs.getD (List.length b.tabs:Int).toNat default=⟨nm,newT s⟩:=by rw [Int.toNat_natCast];exact addTab_new
  have e6:({ addTab b nm s with tabs:=((addTab b nm s).tabs.take (List.length b.tabs:Int).toNat).drop (0:Int).toNat }:Base)=b:=by
   rw [Int.toNat_natCast]
   show (⟨((b.tabs++[_]).take b.tabs.length).drop 0,b.links⟩:Base)=b
   rw [List.drop_zero,List.take_left]
  simp only [e1,e3,e4,e5,e6,cond_true,decide_true,Bool.not_true,cond_false]
  rw [f1016_is hf hx.sm hn hs,Option.bind_some,e2,f1020_is hf hx.sm,B_t hx.ok,Option.bind_some,f1022_new hf h3,f1018_self hf hb]
  simp only [Option.bind_some,cond_true]
  rw [f15_is hf (newT_good h3).sm,B_t rfl];rfl
end Go.Proofs.YtdpigighgmipfaaGreatDoor
