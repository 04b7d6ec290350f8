/- The law: where no links are, a row goes alone. -/
import Derived.Test.YtdpigighgmipfaaGreatDoorQ1011M36
import Derived.Test.YtdpigighgmipfaaGreatDoorQ1011B13
set_option linter.all false
namespace Go.Proofs.YtdpigighgmipfaaGreatDoor
open Go Go.HL
variable {fu:Nat}
def bare (b:Base):Base:=⟨b.tabs,[]⟩
theorem bare_ok {b:Base}(h:BaseOK b):BaseOK (bare b):=⟨fun k hk=>⟨(h.tabs k hk).name,(h.tabs k hk).place,(h.tabs k hk).ok⟩,h.ntab,Nat.zero_le _,fun i hi=>absurd hi (Nat.not_lt_zero _)⟩
theorem bare_sm {b:Base}(h:SmB b):SmB (bare b):=⟨h.ntab,Nat.zero_le _,h.names,h.tabs⟩
theorem bare_gone {b:Base}{nm:List UInt8}{id:Int}{x:List UInt8}{n:Int}:Gone (bare b) nm id x n↔x=nm∧n=id:=by
 constructor
 ·intro h
  cases h with
  | self=>exact ⟨rfl,rfl⟩
  | next hl=>exact absurd hl (List.not_mem_nil)
 ·rintro ⟨rfl,rfl⟩;exact .self
theorem flat_one {α β:Type}[Inhabited α]{l:List α}{f:α→List β}{k:Nat}(hk:k<l.length)(h0:∀ i,i<l.length→i≠k→f (l.getD i default)=[]):l.flatMap f=f (l.getD k default):=by
 have e:l=l.take k++l.getD k default::l.drop (k+1):=by
  rw [getD_lt hk,List.getElem_cons_drop,List.take_append_drop]
 have h1:(l.take k).flatMap f=[]:=List.flatMap_eq_nil_iff.2 fun x hx=>by
  obtain ⟨i,hi,rfl⟩:=List.getElem_of_mem hx
  rw [List.length_take] at hi
  have:=h0 i (by omega) (by omega)
  rw [getD_lt (by omega)] at this
  rw [List.getElem_take];exact this
 have h2:(l.drop (k+1)).flatMap f=[]:=List.flatMap_eq_nil_iff.2 fun x hx=>by
  obtain ⟨i,hi,rfl⟩:=List.getElem_of_mem hx
  rw [List.length_drop] at hi
  have:=h0 (k+1+i) (by omega) (by omega)
  rw [getD_lt (by omega)] at this
  rw [List.getElem_drop];exact this
 conv=>lhs;rw [e]
 rw [List.flatMap_append,List.flatMap_cons,h1,h2,List.append_nil];rfl
theorem filter_two {α:Type}(p:α→Bool)(l:List α):l.length=(l.filter p).length+(l.filter fun x=>!p x).length:=by
 induction l with
 | nil=>rfl
 | cons x l ih=>
  rw [List.filter_cons,List.filter_cons,List.length_cons,ih]
  cases p x<;>simp<;>omega
theorem bare_goneL {b:Base}{nm:List UInt8}{id:Int}(h:BaseOK b)(h1:HasRow b nm id):(goneL (bare b) (Gone (bare b) nm id)).length=1:=by
 obtain ⟨hk,hr⟩:=h1
 have hN:(b.tabs.getD (tabN b nm) default).name=nm:=tabN_name hk
 have ok:=(h.tabs _ hk).ok
 have e:goneL (bare b) (Gone (bare b) nm id)=rowsG (Gone (bare b) nm id) (b.tabs.getD (tabN b nm) default):=flat_one (l:=b.tabs) hk fun i hi hne=>by
  unfold rowsG
  rw [List.map_eq_nil_iff,List.filter_eq_nil_iff]
  intro r _ hh
  rw [B_iff,bare_gone] at hh
  exact hne (by rw [← hh.1,h.place i hi])
 rw [e]
 unfold rowsG
 rw [List.length_map]
 have e2:((b.tabs.getD (tabN b nm) default).table.rows.filter fun r=>B (Gone (bare b) nm id (b.tabs.getD (tabN b nm) default).name r.id))=(tabT b nm).rows.filter fun r=>decide (r.id=id):=by
  refine List.filter_congr fun r _=>?_
  rw [dec_B]
  exact B_congr (by rw [bare_gone,hN];exact ⟨fun hh=>hh.2,fun hh=>⟨rfl,hh⟩⟩)
 rw [e2]
 have h2:=erase_filter (id:=id) ok.asc
 have h3:=congrArg List.length h2
 have h4:rowN (tabT b nm) id < (tabT b nm).rows.length:=hr
 rw [List.length_eraseIdx] at h3
 have h5:=filter_two (fun r:Row=>decide (r.id=id)) (tabT b nm).rows
 have h6:(tabT b nm).rows.findIdx (fun r=>decide (r.id=id)) < (tabT b nm).rows.length:=h4
 have h7:(tabK b (tabN b nm)).rows=(tabT b nm).rows:=rfl
 rw [h7,if_pos h6] at h3
 omega
theorem law1011 (hf:BIG≤fu)(a:List Int)(ha:∀ b,b∈a→0≤b∧b≤255):f1011 fu a=some true:=by
 unfold f1011
 refine cond_long ?_
 obtain ⟨b,nm,id,e,hb,hn⟩:=d1027 (fu:=fu) hf ha
 rw [e,bs]
 simp only
 rw [f1028_is hf hb,bs,f1029_is hf hb,bs,dt rfl]
 simp only [Bool.not_true,cf]
 rw [f1019_is hf hb,bs]
 unfold f1011_j1
 by_cases hok:BaseOK b
 case neg=>rw [B_f hok];simp
 rw [B_t hok]
 simp only [Bool.not_true,cf]
 have hB:GoodB b:=⟨hok,hb⟩
 have ok':=bare_ok hok
 have sm':=bare_sm hb
 have eb:({ b with links:=([]:List Link) }:Base)=bare b:=rfl
 rw [eb,f1028_is hf sm',bs,f1035_is hf hb.ntab,bs]
 unfold f1011_j2
 by_cases h1:HasRow b nm id
 case neg=>
  have e1:offBB b nm id=(b,5):=(if_pos hok).trans (if_pos h1)
  have e2:offBB (bare b) nm id=(bare b,5):=(if_pos ok').trans (if_pos h1)
  rw [e1,e2];rfl
 have h1':HasRow (bare b) nm id:=h1
 have hst:¬ Stops (bare b) (Gone (bare b) nm id):=fun ⟨l,hl,_⟩=>absurd hl (List.not_mem_nil)
 have e2:offBB (bare b) nm id=(offG (bare b) (Gone (bare b) nm id),0):=(if_pos ok').trans ((if_neg fun hh=>hh h1').trans (if_neg hst))
 have e5:decide ((offBB b nm id).2=5)=false:=by
  rcases offBB_cases hok nm id with ⟨h,-⟩|⟨-,-,h⟩|⟨-,-,h⟩
  ·exact absurd h1 h
  ·rw [h];rfl
  ·rw [h];rfl
 have hk:=h1.1
 have g:=hB.tabT hk
 have hx:GoodB (offBB (bare b) nm id).1:=offBB_good ⟨ok',sm'⟩
 rw [e5,cf,tabI_lt hk,natn,cf,e2]
 rw [e2] at hx
 have hlen:(offG (bare b) (Gone (bare b) nm id)).tabs.length=b.tabs.length:=baseW_len ..
 have eT:((offG (bare b) (Gone (bare b) nm id)).tabs.getD (tabN b nm) default).table=(offT (tabT b nm) id).1:=by
  have h2:=offT_tabW (p:=fun _=>True) (ψ:=fun r=>r) g.ok (.same g.ok) (id:=id) (by
   obtain ⟨r,hr,e⟩:=rowN_iff.1 h1.2
   exact ⟨r,hr,trivial,e⟩)
  rw [tabW_all] at h2
  rw [h2]
  have h3:tabT (offG (bare b) (Gone (bare b) nm id)) nm=tabW (tabT (bare b) nm) (fun r=>¬ Gone (bare b) nm id nm r.id) (fun r=>freeR (bare b) (Gone (bare b) nm id) nm (bare b).links r):=offG_tabT (b:=bare b) hk
  have h4:((offG (bare b) (Gone (bare b) nm id)).tabs.getD (tabN b nm) default).table=tabT (offG (bare b) (Gone (bare b) nm id)) nm:=by
   unfold tabT
   rw [show tabN (offG (bare b) (Gone (bare b) nm id)) nm=tabN b nm from baseW_tabN ..]
  rw [h4,h3]
  exact tabW_congr (fun r _=>by rw [bare_gone];exact ⟨fun hh=>⟨trivial,fun h5=>hh ⟨rfl,h5⟩⟩,fun hh h5=>hh.2 h5.2⟩) (fun r _ _=>rfl)
 have e6:offB (tabT b nm) id=((offT (tabT b nm) id).1,0):=by
  unfold offB offT
  rw [if_pos g.ok,if_pos h1.2]
 rw [inR hk,ct,tn,tabT_at,f13_is hf g.sm,bs,e6]
 simp only [decide_true,ct]
 rw [inR (show tabN b nm < (offG (bare b) (Gone (bare b) nm id)).tabs.length by rw [hlen];exact hk),ct,eT,f15_is hf (off_sm g.sm),B_t rfl,bs,ct,show (⟨b.tabs,[]⟩:Base)=bare b from rfl,f1031_is hf sm',bs,goneBB_yes ok' h1',bare_goneL hok h1,dt (show ((1:Nat):Int)=1 from rfl),ct,f1020_is hf sm',B_t ok',bs]
 rfl
end Go.Proofs.YtdpigighgmipfaaGreatDoor
