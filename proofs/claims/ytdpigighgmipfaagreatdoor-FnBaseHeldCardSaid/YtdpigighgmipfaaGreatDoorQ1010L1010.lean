/- The law: a restricted row holds: the row it names, and all that goes with it, stays, and only then. -/
import Derived.Test.YtdpigighgmipfaaGreatDoorQ1010M36
import Derived.Test.YtdpigighgmipfaaGreatDoorQ1010B12
set_option linter.all false
namespace Go.Proofs.YtdpigighgmipfaaGreatDoor
open Go Go.HL
variable {fu:Nat}
theorem held_rows {b:Base}{nm:List UInt8}{id:Int}{ks:List Ref}(hf:BIG≤fu)(h:GoodB b)(hk:ks.length≤24){i:Nat}(hi:i<b.links.length){rec1:Bool→Int→Option Bool}:∀ (m n k:Nat) (s:Bool),k+m=(tabT b (b.links.getD i default).from_).rows.length→m<n→
     f1010_l2 fu (b,nm,id) ks (i:Int) (tabN b (b.links.getD i default).from_:Int) rec1 n s (k:Int)=rec1 (s || B ((b.links.getD i default).how=1∧∃ j,k≤j∧j < (tabT b (b.links.getD i default).from_).rows.length∧¬ inL ks (b.links.getD i default).from_ ((tabT b (b.links.getD i default).from_).rows.getD j default).id∧Names b (inL ks) (b.links.getD i default) ((tabT b (b.links.getD i default).from_).rows.getD j default))) (IntKind.i64.wrap ((i:Int)+1)):=by
 intro m
 have hg:=h.ok.links i hi
 have hfit:=hg.fits
 have g:=h.tabT hfit.src
 have hN:=g.sm.nrow
 have hcol:=hfit.col
 have eA:atI (lastS (tabT b (b.links.getD i default).from_)) (b.links.getD i default).col=(colN b (b.links.getD i default):Int):=atI_lt hcol
 induction m with
 | zero=>
  intro n k s hkm hn
  obtain ⟨n,rfl⟩:∃ z,n=z+1:=⟨n-1,by omega⟩
  have:k=(tabT b (b.links.getD i default).from_).rows.length:=by omega
  subst this
  rw [f1010_l2,tn,tabT_at,nlt,cf,B_f fun hh=>by obtain ⟨_,j,h1,h2,_⟩:=hh;omega,Bool.or_false]
 | succ m ih=>
  intro n k s hkm hn
  obtain ⟨n,rfl⟩:∃ z,n=z+1:=⟨n-1,by omega⟩
  have hkl:k < (tabT b (b.links.getD i default).from_).rows.length:=by omega
  have hlen:=(g.now hkl).len
  have hcl:colN b (b.links.getD i default) < (nowR (tabT b (b.links.getD i default).from_) ((tabT b (b.links.getD i default).from_).rows.getD k default)).length:=by rw [hlen];exact hcol
  have next:=fun x=>(congrArg (fun z=>f1010_l2 fu (b,nm,id) ks (i:Int) (tabN b (b.links.getD i default).from_:Int) rec1 n x z) (succI hkl (by unfold BIG;omega))).trans (ih n (k+1) x (by omega) (by omega))
  rw [f1010_l2,tn,tabT_at,ltR hkl,ct,ge0,Bool.and_self,ct,tn,tn,f16_is hf g.sm,bs,rowT_at g.ok hkl,f23_is hf g.sm,bs,shapeB_ok g.ok,f24_is hf g.rt.okLast,bs,eA,inR hcl,ct,tn]
  unfold f1010_j6
  simp only [next,f1047_is hf (show ks.length≤1000 by omega),bs]
  have ev:(nowR (tabT b (b.links.getD i default).from_) ((tabT b (b.links.getD i default).from_).rows.getD k default)).getD (colN b (b.links.getD i default)) default=colV b (b.links.getD i default) ((tabT b (b.links.getD i default).from_).rows.getD k default):=rfl
  rw [ev]
  have split:B ((b.links.getD i default).how=1∧∃ j,k≤j∧j < (tabT b (b.links.getD i default).from_).rows.length∧¬ inL ks (b.links.getD i default).from_ ((tabT b (b.links.getD i default).from_).rows.getD j default).id∧Names b (inL ks) (b.links.getD i default) ((tabT b (b.links.getD i default).from_).rows.getD j default)) =
   (B ((b.links.getD i default).how=1∧¬ inL ks (b.links.getD i default).from_ ((tabT b (b.links.getD i default).from_).rows.getD k default).id∧Names b (inL ks) (b.links.getD i default) ((tabT b (b.links.getD i default).from_).rows.getD k default)) ||
   B ((b.links.getD i default).how=1∧∃ j,k+1≤j∧j < (tabT b (b.links.getD i default).from_).rows.length∧¬ inL ks (b.links.getD i default).from_ ((tabT b (b.links.getD i default).from_).rows.getD j default).id∧Names b (inL ks) (b.links.getD i default) ((tabT b (b.links.getD i default).from_).rows.getD j default))):=by
   rw [Bool.eq_iff_iff,Bool.or_eq_true,B_iff,B_iff,B_iff]
   constructor
   ·rintro ⟨h1,j,h2,h3,h4⟩
    by_cases e:j=k
    ·subst e;exact .inl ⟨h1,h4⟩
    ·exact .inr ⟨h1,j,by omega,h3,h4⟩
   ·rintro (⟨h1,h2⟩ | ⟨h1,j,h2,h3,h4⟩)
    ·exact ⟨h1,k,Nat.le_refl _,hkl,h2⟩
    ·exact ⟨h1,j,by omega,h3,h4⟩
  rw [split]
  cases s with
  | true=>rw [ct,Bool.true_or,Bool.true_or]
  | false=>
   rw [cf]
   simp only [Bool.false_or]
   by_cases h1:(b.links.getD i default).how=1
   case neg=>rw [df h1,cf,B_f (p:=_∧¬ _∧_) (fun hh=>h1 hh.1),Bool.false_or]
   rw [dt h1,ct,ct]
   by_cases h2:inL ks (b.links.getD i default).from_ ((tabT b (b.links.getD i default).from_).rows.getD k default).id
   ·rw [B_t h2,Bool.not_true,cf,B_f (p:=_∧¬ _∧_) (fun hh=>hh.2.1 h2),Bool.false_or]
   rw [B_f h2,Bool.not_false,ct]
   by_cases h3:(colV b (b.links.getD i default) ((tabT b (b.links.getD i default).from_).rows.getD k default)).kind=0
   ·rw [dt h3,Bool.not_true,cf,B_f (p:=_∧¬ _∧_) (fun hh=>hh.2.2.1 h3),Bool.false_or]
   rw [df h3,Bool.not_false,ct]
   congr 2
   exact B_congr ⟨fun hh=>⟨h1,h2,h3,hh⟩,fun hh=>hh.2.2.2⟩
theorem held_links {b:Base}{nm:List UInt8}{id c:Int}{x:Base}{ks:List Ref}(hf:BIG≤fu)(h:GoodB b)(hk:ks.length≤24):∀ (m n i:Nat) (s:Bool),i+m=b.links.length→m<n→
     f1010_l1 fu (b,nm,id) (x,c) ks n s (i:Int)=cond (decide (c=6) == (s || B (∃ j,i≤j∧j<b.links.length∧StopAt b (inL ks) j))) (cond (s || B (∃ j,i≤j∧j<b.links.length∧StopAt b (inL ks) j)) (some true) (some (decide (c=0)))) (some false):=by
 intro m
 have h4:=h.ok.nlink
 induction m with
 | zero=>
  intro n i s hi hn
  obtain ⟨n,rfl⟩:∃ z,n=z+1:=⟨n-1,by omega⟩
  have:i=b.links.length:=by omega
  subst this
  rw [f1010_l1,nlt,B_f fun hh=>by obtain ⟨j,h1,h2,_⟩:=hh;omega,Bool.or_false];rfl
 | succ m ih=>
  intro n i s hi hn
  obtain ⟨n,rfl⟩:∃ z,n=z+1:=⟨n-1,by omega⟩
  have hil:i<b.links.length:=by omega
  have hfit:=(h.ok.links i hil).fits
  have hR:=(h.tabT hfit.src).sm.nrow
  rw [f1010_l1,ltR hil,ct,ge0,Bool.and_self,ct,tn,f1035_is hf h.sm.ntab,bs,tabI_lt hfit.src,inR hfit.src,ct]
  have e:=held_rows (nm:=nm) (id:=id) (ks:=ks) hf h hk hil (rec1:=f1010_l1 fu (b,nm,id) (x,c) ks n) (tabT b (b.links.getD i default).from_).rows.length fu 0 s (by omega) (by unfold BIG at hf;omega)
  rw [show ((0:Nat):Int)=0 from rfl] at e
  rw [e,succI hil (by unfold BIG;omega),ih n (i+1) _ (by omega) (by omega),Bool.or_assoc]
  have:(B ((b.links.getD i default).how=1∧∃ j,0≤j∧j < (tabT b (b.links.getD i default).from_).rows.length∧¬ inL ks (b.links.getD i default).from_ ((tabT b (b.links.getD i default).from_).rows.getD j default).id∧Names b (inL ks) (b.links.getD i default) ((tabT b (b.links.getD i default).from_).rows.getD j default)) || B (∃ j,i+1≤j∧j<b.links.length∧StopAt b (inL ks) j))=B (∃ j,i≤j∧j<b.links.length∧StopAt b (inL ks) j):=by
   rw [Bool.eq_iff_iff,Bool.or_eq_true,B_iff,B_iff,B_iff]
   constructor
   ·rintro (⟨h1,j,-,h2,h3⟩ | ⟨j,h1,h2,h3⟩)
    ·exact ⟨i,Nat.le_refl _,hil,h1,_,getD_mem h2,h3⟩
    ·exact ⟨j,by omega,h2,h3⟩
   ·rintro ⟨j,h1,h2,h3⟩
    by_cases e:j=i
    ·subst e
     obtain ⟨h5,r,hr,h6⟩:=h3
     obtain ⟨q,hq,rfl⟩:=List.getElem_of_mem hr
     exact .inl ⟨h5,q,Nat.zero_le _,hq,by rw [getD_lt hq];exact h6⟩
    ·exact .inr ⟨j,by omega,h2,h3⟩
  rw [this]
theorem law1010 (hf:BIG≤fu)(a:List Int)(ha:∀ b,b∈a→0≤b∧b≤255):f1010 fu a=some true:=by
 unfold f1010
 refine cond_long ?_
 obtain ⟨b,nm,id,e,hb,hn⟩:=d1027 (fu:=fu) hf ha
 rw [e,bs]
 simp only
 rw [f1028_is hf hb,bs,f1029_is hf hb,bs,f1031_is hf hb,bs,dt rfl]
 simp only [Bool.not_true,cf]
 unfold f1010_j1
 by_cases hok:BaseOK b∧HasRow b nm id
 case neg=>rw [goneBB_no hok];simp
 obtain ⟨hok,h1⟩:=hok
 have hB:GoodB b:=⟨hok,hb⟩
 have hpos:=gone_pos hok h1
 rw [goneBB_yes hok h1]
 rw [df (by omega),cf]
 have e2:=held_links (nm:=nm) (id:=id) (c:=(offBB b nm id).2) (x:=(offBB b nm id).1) (ks:=goneL b (Gone b nm id)) hf hB (goneL_len hok _) b.links.length fu 0 false (by omega) (by have:=hok.nlink;unfold BIG at hf;omega)
 rw [show ((0:Nat):Int)=0 from rfl] at e2
 rw [e2,Bool.false_or,← B_congr stops_at,B_congr (stops_same (G':=Gone b nm id) hok fun x n _=>gone_in hok h1)]
 rcases offBB_cases hok nm id with ⟨h,-⟩|⟨-,hs,h2⟩|⟨-,hs,h2⟩
 ·exact absurd h1 h
 ·rw [h2,B_t hs];rfl
 ·rw [h2,B_f hs];rfl
end Go.Proofs.YtdpigighgmipfaaGreatDoor
