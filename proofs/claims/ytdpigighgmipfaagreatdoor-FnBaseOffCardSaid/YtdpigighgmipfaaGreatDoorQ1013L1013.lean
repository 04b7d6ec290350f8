/- The law: rows go with the one that they name, others are freed of it, and the rest stays as it was. -/
import Derived.Test.YtdpigighgmipfaaGreatDoorQ1013M36
import Derived.Test.YtdpigighgmipfaaGreatDoorQ1013B12
set_option linter.all false
namespace Go.Proofs.YtdpigighgmipfaaGreatDoor
open Go Go.HL
variable {fu:Nat}
def FreeAt (b:Base)(L:List Ref)(i:Nat)(was:List Val)(s:List Col)(c:Nat)(l:Link):Prop:=
 l.from_=(b.tabs.getD i default).name∧l.col=(s.getD c default).name∧(was.getD c default).kind≠0∧inL L l.to (was.getD c default).n
theorem off_links {b:Base}{nm:List UInt8}{id:Int}{L:List Ref}{i:Nat}{s:List Col}{was now:List Val}(hf:BIG≤fu)(hL:L.length≤24)(h4:b.links.length≤4)(hi:i<b.tabs.length){c:Nat}(hc:c<s.length)(hw:was.length=s.length)(hn:now.length=s.length)
     (hyes:(∃ l,l∈b.links∧FreeAt b L i was s c l)→now.getD c default=nul) (hno:(¬ ∃ l,l∈b.links∧FreeAt b L i was s c l)→now.getD c default=was.getD c default)
     {rec1 rec2 rec3:Int→Option Bool}:∀ (m n j:Nat) (F:Bool),j+m=b.links.length→m<n→(F || B (∃ k,j≤k∧k<b.links.length∧FreeAt b L i was s c (b.links.getD k default)))=B (∃ l,l∈b.links∧FreeAt b L i was s c l)→
     f1013_l4 fu (b,nm,id) L (i:Int) s (was,true) (now,true) (c:Int) rec1 rec2 rec3 n F (j:Int)=rec3 (IntKind.i64.wrap ((c:Int)+1)):=by
 intro m
 have hcw:c<was.length:=by omega
 have hcn:c<now.length:=by omega
 induction m with
 | zero=>
  intro n j F hj hm hF
  obtain ⟨n,rfl⟩:∃ z,n=z+1:=⟨n-1,by omega⟩
  have:j=b.links.length:=by omega
  subst this
  rw [show B (∃ k,b.links.length≤k∧k<b.links.length∧FreeAt b L i was s c (b.links.getD k default))=false from B_f fun hh=>by obtain ⟨k,h1,h2,_⟩:=hh;omega,Bool.or_false] at hF
  rw [f1013_l4,nlt,cf]
  simp only [inR hcw,inR hcn,ct,tn]
  cases F with
  | true=>
   rw [ct,dt (show now.getD c default=(⟨d0_47.kind,d0_47.n,d0_47.text⟩:Val) from hyes (B_iff.1 hF.symm))];rfl
  | false=>
   rw [cf,dt (show now.getD c default=was.getD c default from hno (B_nf.1 hF.symm))];rfl
 | succ m ih=>
  intro n j F hj hm hF
  obtain ⟨n,rfl⟩:∃ z,n=z+1:=⟨n-1,by omega⟩
  have hjl:j<b.links.length:=by omega
  have split:B (∃ k,j≤k∧k<b.links.length∧FreeAt b L i was s c (b.links.getD k default))=(B (FreeAt b L i was s c (b.links.getD j default)) || B (∃ k,j+1≤k∧k<b.links.length∧FreeAt b L i was s c (b.links.getD k default))):=by
   rw [Bool.eq_iff_iff,Bool.or_eq_true,B_iff,B_iff,B_iff]
   constructor
   ·rintro ⟨k,h2,h3,h4⟩
    by_cases e:k=j
    ·subst e;exact .inl h4
    ·exact .inr ⟨k,by omega,h3,h4⟩
   ·rintro (h2 | ⟨k,h2,h3,h4⟩)
    ·exact ⟨j,Nat.le_refl _,hjl,h2⟩
    ·exact ⟨k,by omega,h3,h4⟩
  rw [split,← Bool.or_assoc] at hF
  have next:=fun x e=>(congrArg (fun z=>f1013_l4 fu (b,nm,id) L (i:Int) s (was,true) (now,true) (c:Int) rec1 rec2 rec3 n x z) (succI hjl (by unfold BIG;omega))).trans (ih n (j+1) x (by omega) (by omega) e)
  rw [f1013_l4,ltR hjl,ct]
  unfold f1013_j35
  simp only [ltR hcw,ltR hc,ltR hi,ltR hjl,ge0,Bool.and_self,ct,tn,f1047_is hf (show L.length≤1000 by omega),bs]
  cases F with
  | true=>exact next true (by rw [Bool.true_or] at hF;exact hF)
  | false=>
   rw [cf]
   rw [Bool.false_or] at hF
   by_cases e1:(b.links.getD j default).from_=(b.tabs.getD i default).name
   case neg=>
    rw [df e1,cf]
    exact next false (by rw [B_f (p:=FreeAt b L i was s c (b.links.getD j default)) (fun hh=>e1 hh.1)] at hF;exact hF)
   rw [dt e1,ct]
   by_cases e2:(b.links.getD j default).col=(s.getD c default).name
   case neg=>
    rw [df e2,cf]
    exact next false (by rw [B_f (p:=FreeAt b L i was s c (b.links.getD j default)) (fun hh=>e2 hh.2.1)] at hF;exact hF)
   rw [dt e2,ct]
   by_cases e3:(was.getD c default).kind=0
   ·rw [dt e3,Bool.not_true,cf]
    exact next false (by rw [B_f (p:=FreeAt b L i was s c (b.links.getD j default)) (fun hh=>hh.2.2.1 e3)] at hF;exact hF)
   rw [df e3,Bool.not_false,ct]
   exact next _ (by rw [B_congr (p:=FreeAt b L i was s c (b.links.getD j default)) ⟨fun hh=>hh.2.2.2,fun hh=>⟨e1,e2,e3,hh⟩⟩] at hF;exact hF)
theorem off_cols {b:Base}{nm:List UInt8}{id:Int}{L:List Ref}{i k:Nat}{s:List Col}{was now:List Val}(hf:BIG≤fu)(hL:L.length≤24)(h4:b.links.length≤4)(hi:i<b.tabs.length)(hs:s.length≤5)(hw:was.length=s.length)(hn:now.length=s.length)
     (hyes:∀ c,c<s.length→(∃ l,l∈b.links∧FreeAt b L i was s c l)→now.getD c default=nul) (hno:∀ c,c<s.length→(¬ ∃ l,l∈b.links∧FreeAt b L i was s c l)→now.getD c default=was.getD c default)
     {rec1 rec2:Int→Option Bool}:f1013_l3 fu (b,nm,id) L (i:Int) s (k:Int) (was,true) (now,true) rec1 rec2 fu 0=rec2 (IntKind.i64.wrap ((k:Int)+1)):=by
 have:=loopE (L:=f1013_l3 fu (b,nm,id) L (i:Int) s (k:Int) (was,true) (now,true) rec1 rec2) (N:=s.length) (fun _=>False) none (rec2 (IntKind.i64.wrap ((k:Int)+1))) (by unfold BIG;omega) (fun n=>by
  rw [f1013_l3,nlt,cf];rfl) (fun _ _ _ hh=>hh.elim) (fun n c hc _=>by
  rw [f1013_l3,ltR hc,ct]
  unfold f1013_j33
  rw [ct]
  exact off_links hf hL h4 hi hc hw hn (hyes c hc) (hno c hc) b.links.length fu 0 false (by omega) (by unfold BIG at hf;omega) (by
   rw [Bool.false_or]
   refine B_congr ⟨fun ⟨k,_,h1,h2⟩=>⟨_,getD_mem h1,h2⟩,fun ⟨l,hl,h2⟩=>?_⟩
   obtain ⟨k,hk,rfl⟩:=List.getElem_of_mem hl
   exact ⟨k,Nat.zero_le _,hk,by rw [getD_lt hk];exact h2⟩)) (fu:=fu) (by unfold BIG at hf;omega)
 rw [this,if_neg fun ⟨_,_,hh⟩=>hh]
theorem off_freed {b:Base}{nm:List UInt8}{id:Int}(h:GoodB b)(h1:HasRow b nm id)(hst:¬ Stops b (Gone b nm id)){i:Nat}(hi:i<b.tabs.length){r:Row}(hr:r∈(tabT b (b.tabs.getD i default).name).rows)(hg:¬ Gone b nm id (b.tabs.getD i default).name r.id){c:Nat}(hc:c < (lastS (tabT b (b.tabs.getD i default).name)).length) :
     (∃ l,l∈b.links∧Hit b (Gone b nm id) (b.tabs.getD i default).name l r∧colN b l=c)↔∃ l,l∈b.links∧FreeAt b (goneL b (Gone b nm id)) i (nowR (tabT b (b.tabs.getD i default).name) r) (lastS (tabT b (b.tabs.getD i default).name)) c l:=by
 have hk:tabN b (b.tabs.getD i default).name<b.tabs.length:=by rw [h.ok.place i hi];exact hi
 have hs:=(h.tabT hk).rt.okLast
 constructor
 ·rintro ⟨l,hl,⟨hf,hw,hv,hn⟩,rfl⟩
  have hfit:=(h.ok.link hl).1
  refine ⟨l,hl,hf,?_⟩
  unfold colV at hv hn
  rw [hf] at hv hn
  refine ⟨?_,hv,(gone_in h.ok h1).2 hn⟩
  have:=hfit.col
  unfold colN at this ⊢
  rw [hf] at this ⊢
  exact (atN_name this).symm
 ·rintro ⟨l,hl,hf,hcol,hv,hin⟩
  have hfit:=(h.ok.link hl).1
  have ec:colN b l=c:=by unfold colN;rw [hf,hcol];exact atN_at hs hc
  have ev:colV b l r=(nowR (tabT b (b.tabs.getD i default).name) r).getD c default:=by unfold colV;rw [ec,hf]
  have hgn:=(gone_in h.ok h1).1 hin
  rw [← ev] at hv hgn
  have hr':r∈(tabT b l.from_).rows:=by rw [hf];exact hr
  have hg':¬ Gone b nm id l.from_ r.id:=by rw [hf];exact hg
  have h3:l.how=3:=by
   by_cases w1:l.how=1
   ·exact absurd ⟨l,hl,w1,r,hr',hg',hv,hgn⟩ hst
   by_cases w2:l.how=2
   ·exact absurd (.next hl hr' w2 hv hgn) hg'
   have:=hfit.lo
   have:=hfit.hi
   omega
  exact ⟨l,hl,⟨hf,h3,hv,hgn⟩,ec⟩
theorem off_rows {b:Base}{nm:List UInt8}{id:Int}(hf:BIG≤fu)(h:GoodB b)(h1:HasRow b nm id)(hst:¬ Stops b (Gone b nm id)){i:Nat}(hi:i<b.tabs.length){z:Int}{rec1:Int→Option Bool} :
     f1013_l2 fu (b,nm,id) (offG b (Gone b nm id),z) (goneL b (Gone b nm id)) (i:Int) (lastS (tabT b (b.tabs.getD i default).name)) rec1 fu 0=rec1 (IntKind.i64.wrap ((i:Int)+1)):=by
 have hk:tabN b (b.tabs.getD i default).name<b.tabs.length:=by rw [h.ok.place i hi];exact hi
 have g:=h.tabT hk
 have hs:=g.rt.okLast
 have hL:=goneL_len h.ok (Gone b nm id)
 have hN:=g.sm.nrow
 have eT:(b.tabs.getD i default).table=tabT b (b.tabs.getD i default).name:=by unfold tabT;rw [h.ok.place i hi]
 have hx:GoodB (offG b (Gone b nm id)):=by
  have:=offBB_good (nm:=nm) (id:=id) h
  rcases offBB_cases h.ok nm id with ⟨e,-⟩|⟨-,e,-⟩|⟨-,-,e⟩
  ·exact absurd h1 e
  ·exact absurd e hst
  ·rw [e] at this;exact this
 have hlen:(offG b (Gone b nm id)).tabs.length=b.tabs.length:=baseW_len ..
 have hkx:tabN (offG b (Gone b nm id)) (b.tabs.getD i default).name < (offG b (Gone b nm id)).tabs.length:=by rw [hlen,show tabN (offG b (Gone b nm id)) (b.tabs.getD i default).name=tabN b (b.tabs.getD i default).name from baseW_tabN ..];exact hk
 have gx:=hx.tabT hkx
 have eX:((offG b (Gone b nm id)).tabs.getD i default).table=tabT (offG b (Gone b nm id)) (b.tabs.getD i default).name:=by
  unfold tabT;rw [show tabN (offG b (Gone b nm id)) (b.tabs.getD i default).name=tabN b (b.tabs.getD i default).name from baseW_tabN ..,h.ok.place i hi]
 have eW:=offG_tabT (G:=Gone b nm id) hk
 have hway:=freeR_way (G:=Gone b nm id) h.ok hk b.links fun _ hh=>hh
 have:=loopE (L:=f1013_l2 fu (b,nm,id) (offG b (Gone b nm id),z) (goneL b (Gone b nm id)) (i:Int) (lastS (tabT b (b.tabs.getD i default).name)) rec1) (N:=(tabT b (b.tabs.getD i default).name).rows.length) (fun _=>False) none (rec1 (IntKind.i64.wrap ((i:Int)+1))) (by unfold BIG;omega) (fun n=>by
  rw [f1013_l2,inR hi,ct]
  simp only [tn,eT]
  rw [nlt,cf]) (fun _ _ _ hh=>hh.elim) (fun n k hkl _=>by
  have hr:=getD_mem (d:=(default:Row)) hkl
  rw [f1013_l2,inR hi,ct]
  simp only [tn,eT,eX,ltR hkl,ge0,Bool.and_self,inR hi,ltR hi,show decide ((i:Int) < ((offG b (Gone b nm id)).tabs.length:Int))=true by rw [hlen];exact ltR hi,ct]
  rw [f16_is hf g.sm,bs,rowT_at g.ok hkl,f16_is hf gx.sm,bs,f1047_is hf (by omega),bs,B_congr (gone_in h.ok h1)]
  generalize (tabT b (b.tabs.getD i default).name).rows.getD k default=r at hr ⊢
  by_cases hg:Gone b nm id (b.tabs.getD i default).name r.id
  ·have hno:¬ rowN (tabT (offG b (Gone b nm id)) (b.tabs.getD i default).name) r.id < (tabT (offG b (Gone b nm id)) (b.tabs.getD i default).name).rows.length:=fun hh=>((offG_has h.ok).1 ⟨hkx,hh⟩).2 hg
   rw [rowT_no (fun hh=>hno hh.2),B_t hg]
   simp only
   rw [show ((false:Bool) == true)=false from rfl,cf]
   have e:=loopE (L:=f1013_l3 fu (b,nm,id) (goneL b (Gone b nm id)) (i:Int) (lastS (tabT b (b.tabs.getD i default).name)) (k:Int) (nowR (tabT b (b.tabs.getD i default).name) r,true) ([],false) rec1 (f1013_l2 fu (b,nm,id) (offG b (Gone b nm id),z) (goneL b (Gone b nm id)) (i:Int) (lastS (tabT b (b.tabs.getD i default).name)) rec1 n)) (N:=0) (fun _=>False) none (f1013_l2 fu (b,nm,id) (offG b (Gone b nm id),z) (goneL b (Gone b nm id)) (i:Int) (lastS (tabT b (b.tabs.getD i default).name)) rec1 n (IntKind.i64.wrap ((k:Int)+1))) (by unfold BIG;omega) (fun n=>by
    rw [f1013_l3]
    unfold f1013_j33
    simp) (fun _ _ hh=>absurd hh (Nat.not_lt_zero _)) (fun _ _ hh=>absurd hh (Nat.not_lt_zero _)) (fu:=fu) (by unfold BIG at hf;omega)
   rw [e,if_neg fun ⟨_,_,hh⟩=>hh]
  ·have hmem:freeR b (Gone b nm id) (b.tabs.getD i default).name b.links r∈(tabT (offG b (Gone b nm id)) (b.tabs.getD i default).name).rows:=by
    rw [eW]
    exact List.mem_map.2 ⟨r,mem_keep.2 ⟨hr,hg⟩,rfl⟩
   have hrow:=rowT_mem gx.ok hmem
   rw [hway.id r hr] at hrow
   have hnow:nowR (tabT (offG b (Gone b nm id)) (b.tabs.getD i default).name) (freeR b (Gone b nm id) (b.tabs.getD i default).name b.links r)=nowR (tabT b (b.tabs.getD i default).name) (freeR b (Gone b nm id) (b.tabs.getD i default).name b.links r):=by rw [eW];rfl
   rw [hnow] at hrow
   rw [hrow,B_f hg]
   simp only
   rw [show ((true:Bool) == false)=false from rfl,cf]
   have hwl:(nowR (tabT b (b.tabs.getD i default).name) r).length=(lastS (tabT b (b.tabs.getD i default).name)).length:=((g.ok.rg r hr).now).len
   have hget:=fun c (hc:c < (lastS (tabT b (b.tabs.getD i default).name)).length)=>freeR_get (b:=b) (G:=Gone b nm id) (nm:=(b.tabs.getD i default).name) (r:=r) (c:=c) (by rw [hwl];exact hc) b.links
   have hnl:(nowR (tabT b (b.tabs.getD i default).name) (freeR b (Gone b nm id) (b.tabs.getD i default).name b.links r)).length=(lastS (tabT b (b.tabs.getD i default).name)).length:=(hget 0 (by have:=hs.lo;omega)).1.trans hwl
   refine off_cols hf hL h.ok.nlink hi hs.hi hwl hnl (fun c hc hh=>?_) (fun c hc hh=>?_)
   ·rcases (hget c hc).2 with ⟨-,e⟩|⟨e,-⟩
    ·exact e
    ·exact absurd ((off_freed h h1 hst hi hr hg hc).2 hh) e
   ·rcases (hget c hc).2 with ⟨e,-⟩|⟨-,e⟩
    ·exact absurd ((off_freed h h1 hst hi hr hg hc).1 e) hh
    ·exact e) (fu:=fu) (by unfold BIG at hf;omega)
 rw [this,if_neg fun ⟨_,_,hh⟩=>hh]
theorem law1013 (hf:BIG≤fu)(a:List Int)(ha:∀ b,b∈a→0≤b∧b≤255):f1013 fu a=some true:=by
 unfold f1013
 refine cond_long ?_
 obtain ⟨b,nm,id,e,hb,hn⟩:=d1027 (fu:=fu) hf ha
 rw [e,bs]
 simp only
 rw [f1028_is hf hb,bs,f1029_is hf hb,bs,dt rfl]
 simp only [Bool.not_true,cf]
 have hsm:SmB (offBB b nm id).1:=by
  by_cases hok:BaseOK b
  ·exact (offBB_good ⟨hok,hb⟩).sm
  ·rw [offBB_no hok];exact nilB_sm
 rw [f1018_self hf hsm,bs]
 unfold f1013_j1
 simp only [Bool.not_true,cf]
 rw [f1019_is hf hb,bs]
 by_cases hok:BaseOK b
 case neg=>
  rw [offBB_no hok,B_f hok]
  simp only [Bool.not_false,ct,decide_true]
  rw [d1026_nil,f1018_self hf nilB_sm];rfl
 have hB:GoodB b:=⟨hok,hb⟩
 rw [B_t hok]
 simp only [Bool.not_true,cf]
 rw [f1031_is hf hb,bs]
 rcases offBB_cases hok nm id with ⟨h1,h2⟩|⟨h1,hs,h2⟩|⟨h1,hs,h2⟩
 ·rw [h2,goneBB_no (fun hh=>h1 hh.2)]
  simp only [show decide ((5:Int)=0)=false from rfl,Bool.not_false,ct]
  rw [f1018_self hf hb];rfl
 ·have hpos:=gone_pos hok h1
  rw [h2,goneBB_yes hok h1]
  simp only [show decide ((6:Int)=0)=false from rfl,Bool.not_false,ct]
  rw [f1018_self hf hb,bs,ct,df (show ¬ ((goneL b (Gone b nm id)).length:Int)=0 by omega)];rfl
 ·have hx:GoodB (offBB b nm id).1:=offBB_good hB
  have hpos:=gone_pos hok h1
  rw [h2] at hx ⊢
  rw [goneBB_yes hok h1]
  simp only [decide_true,Bool.not_true,cf]
  have h3:=hok.ntab
  have:=loopE (L:=f1013_l1 fu (b,nm,id) (offG b (Gone b nm id),0) (goneL b (Gone b nm id))) (N:=b.tabs.length) (fun _=>False) none (some true) (by unfold BIG;omega) (fun n=>by
   rw [f1013_l1,nlt,cf,f1020_is hf hx.sm,B_t hx.ok,bs,ct,f1026_is hf hx,bs,ct,dt (show (0:Int) < ((goneL b (Gone b nm id)).length:Int) by omega)];rfl) (fun _ _ _ hh=>hh.elim) (fun n i hi _=>by
   have hk:tabN b (b.tabs.getD i default).name<b.tabs.length:=by rw [hok.place i hi];exact hi
   have g:=hB.tabT hk
   have eT:(b.tabs.getD i default).table=tabT b (b.tabs.getD i default).name:=by unfold tabT;rw [hok.place i hi]
   rw [f1013_l1,ltR hi,ct,ge0,Bool.and_self,ct,tn,eT,f23_is hf g.sm,bs,shapeB_ok g.ok]
   exact off_rows hf hB h1 hs hi) (fu:=fu) (by unfold BIG at hf;omega)
  rw [this,if_neg fun ⟨_,_,hh⟩=>hh]
end Go.Proofs.YtdpigighgmipfaaGreatDoor
