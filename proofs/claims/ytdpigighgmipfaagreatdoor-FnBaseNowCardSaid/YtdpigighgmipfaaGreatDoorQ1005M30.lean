/- A row taken away with those that go with it: the document does as the model. -/
import Derived.Test.YtdpigighgmipfaaGreatDoorQ1005M29
set_option linter.all false
namespace Go.Proofs.YtdpigighgmipfaaGreatDoor
open Go Go.HL
variable {fu:Nat}
theorem f1146_is {b:Base}{nm:List UInt8}{id:Int}(hf:BIG≤fu)(h:SmB b):f1146 fu b nm id=some (B (HasRow b nm id)):=by
 unfold f1146 f1146_j1
 rw [f1062_is hf h.ntab,bs,tabI_ge]
 by_cases hk:tabN b nm<b.tabs.length
 case neg=>rw [B_f hk,B_f fun hh=>hk hh.1];rfl
 have hN:(tabT b nm).rows.length≤1000:=(h.tabs _ hk).nrow
 rw [B_t hk,tabI_lt hk,ct,ltR hk,Bool.and_self,ct,tn,tabT_at,f82_is hf hN,bs,rowI_ge]
 congr 1
 exact B_congr ⟨fun hh=>⟨hk,hh⟩,fun hh=>hh.2⟩
theorem f1148_is {b:Base}{list:List Ref}(hf:BIG≤fu)(h:GoodB b)(hn:list.length≤1000):f1148 fu b list=some (B (Stops b (inL list))):=by
 have hL:=h.sm.nlink
 have e:Stops b (inL list)↔∃ i,i<b.links.length∧((b.links.getD i default).how=1∧∃ k,k < (tabT b (b.links.getD i default).from_).rows.length∧¬ inL list (b.links.getD i default).from_ ((tabT b (b.links.getD i default).from_).rows.getD k default).id∧Names b (inL list) (b.links.getD i default) ((tabT b (b.links.getD i default).from_).rows.getD k default)):=by
  constructor
  ·rintro ⟨l,hl,hw,r,hr,hh⟩
   obtain ⟨i,hi,rfl⟩:=List.getElem_of_mem hl
   obtain ⟨k,hk,rfl⟩:=List.getElem_of_mem hr
   exact ⟨i,hi,by rw [getD_lt hi];exact ⟨hw,k,hk,by rw [getD_lt hk];exact hh⟩⟩
  ·rintro ⟨i,hi,hw,k,hk,hh⟩
   exact ⟨_,getD_mem hi,hw,_,getD_mem hk,hh⟩
 unfold f1148
 rw [B_congr e,← ite_B]
 have step:∀ n (i:Nat),i<b.links.length→f1148_l1 fu b list (n+1) (i:Int)=@ite _ ((b.links.getD i default).how=1∧∃ k,k < (tabT b (b.links.getD i default).from_).rows.length∧¬ inL list (b.links.getD i default).from_ ((tabT b (b.links.getD i default).from_).rows.getD k default).id∧Names b (inL list) (b.links.getD i default) ((tabT b (b.links.getD i default).from_).rows.getD k default)) (Classical.propDecidable _) (some true) (f1148_l1 fu b list n (IntKind.i64.wrap ((i:Int)+1))):=fun n i hi=>by
  have hfit:=(h.ok.links i hi).fits
  have g:=h.tabT hfit.src
  have hN:=g.sm.nrow
  rw [f1148_l1,ltR hi,ct,ge0,Bool.and_self,ct,tn,f1062_is hf h.sm.ntab,bs,tabI_lt hfit.src,inR hfit.src,ct]
  by_cases hw:(b.links.getD i default).how=1
  case neg=>
   rw [if_neg (fun hh=>hw hh.1)]
   obtain ⟨fu',rfl⟩:∃ z,fu=z+1:=⟨fu-1,by unfold BIG at hf;omega⟩
   have e2:∀ rec2,f1148_j7 (fu' + 1) b list (i:Int) (tabN b (b.links.getD i default).from_:Int) 0 (f1148_l1 (fu' + 1) b list n) rec2 false=f1148_l1 (fu' + 1) b list n (IntKind.i64.wrap ((i:Int)+1)):=fun _=>rfl
   rw [f1148_l2,tn,tn,df hw,e2]
   cases decide ((0:Int) < _)<;>rfl
  have hl:=loopE (L:=f1148_l2 fu b list (i:Int) (tabN b (b.links.getD i default).from_:Int) (f1148_l1 fu b list n)) (N:=(tabT b (b.links.getD i default).from_).rows.length) (fun k=>¬ inL list (b.links.getD i default).from_ ((tabT b (b.links.getD i default).from_).rows.getD k default).id∧Names b (inL list) (b.links.getD i default) ((tabT b (b.links.getD i default).from_).rows.getD k default)) (some true) (f1148_l1 fu b list n (IntKind.i64.wrap ((i:Int)+1))) (by unfold BIG;omega) (fun m=>by rw [f1148_l2,tn,tabT_at,nlt];rfl)
  have st:∀ m (k:Nat),k < (tabT b (b.links.getD i default).from_).rows.length→f1148_l2 fu b list (i:Int) (tabN b (b.links.getD i default).from_:Int) (f1148_l1 fu b list n) (m+1) (k:Int)=f1148_j8 (k:Int) (f1148_l1 fu b list n) (f1148_l2 fu b list (i:Int) (tabN b (b.links.getD i default).from_:Int) (f1148_l1 fu b list n) m) (B (¬ inL list (b.links.getD i default).from_ ((tabT b (b.links.getD i default).from_).rows.getD k default).id∧Names b (inL list) (b.links.getD i default) ((tabT b (b.links.getD i default).from_).rows.getD k default))):=fun m k hk=>by
   rw [f1148_l2,tn,tn,tabT_at,ltR hk,ct,dt hw]
   unfold f1148_j7
   rw [ct,tn,tn,tn,tabT_at,inR hk,ct,f1182_is hf hn,bs]
   by_cases c1:inL list (b.links.getD i default).from_ ((tabT b (b.links.getD i default).from_).rows.getD k default).id
   ·rw [B_t c1,B_f fun hh=>hh.1 c1];rfl
   ·rw [B_f c1,f1184_is hf h.g hfit hk hn,bs]
    simp only [Bool.not_false,ct]
    congr 1
    exact B_congr ⟨fun hh=>⟨c1,hh⟩,fun hh=>hh.2⟩
  have hl2:=hl (fun m k hk hp=>by rw [st m k hk,B_t hp];rfl) (fun m k hk hp=>by rw [st m k hk,B_f hp];rfl) (fu:=fu) (by unfold BIG at hf;omega)
  rw [hl2]
  by_cases hex:∃ k,k < (tabT b (b.links.getD i default).from_).rows.length∧¬ inL list (b.links.getD i default).from_ ((tabT b (b.links.getD i default).from_).rows.getD k default).id∧Names b (inL list) (b.links.getD i default) ((tabT b (b.links.getD i default).from_).rows.getD k default)
  ·rw [if_pos hex,if_pos ⟨hw,hex⟩]
  ·rw [if_neg hex,if_neg (fun hh=>hex hh.2)]
 refine loopE (L:=f1148_l1 fu b list) _ _ _ (by unfold BIG;omega) (fun n=>?_) (fun n i hi hp=>?_) (fun n i hi hp=>?_) (by unfold BIG at hf;omega)
 ·rw [f1148_l1,nlt];rfl
 ·rw [step n i hi,if_pos hp]
 ·rw [step n i hi,if_neg hp]
theorem RowWay.ite {t:Table}{ψ φ:Row→Row}{P:Row→Prop}(h:RowWay t ψ)(g:RowWay t φ):RowWay t (fun r=>@ite _ (P r) (Classical.propDecidable _) (ψ r) (φ r)):=by
 refine ⟨fun r hr=>?_,fun r hr=>?_,fun r hr=>?_,fun r hr=>?_⟩<;>split
 ·exact h.id r hr
 ·exact g.id r hr
 ·exact h.ver r hr
 ·exact g.ver r hr
 ·exact h.was r hr
 ·exact g.was r hr
 ·exact h.now r hr
 ·exact g.now r hr
noncomputable def freeG (b:Base) (G:Dooms) (i:Nat) (nm:List UInt8) (r:Row):Row:=@ite _ (G nm r.id) (Classical.propDecidable _) r (freeR b G nm (b.links.take i) r)
theorem freeG_way {b:Base}{G:Dooms}{i:Nat}(h:BaseOK b){nm:List UInt8}(hn:tabN b nm<b.tabs.length):RowWay (tabT b nm) (freeG b G i nm):=
 (RowWay.same (h.tabs _ hn).ok).ite (freeR_way h hn _ fun _ hl=>List.mem_of_mem_take hl)
theorem freeG_zero (b:Base)(G:Dooms):freeG b G 0=fun _ r=>r:=by
 funext nm r
 unfold freeG
 rw [List.take_zero]
 split<;>rfl
theorem freeG_succ {b:Base}{G:Dooms}{i:Nat}(hi:i<b.links.length)(nm:List UInt8)(r:Row):freeG b G (i+1) nm r=@ite _ (G nm r.id) (Classical.propDecidable _) r (freeS b G nm r (freeR b G nm (b.links.take i) r) (b.links.getD i default)):=by
 unfold freeG
 rw [takeN (d:=default) hi,freeR_snoc]
theorem freeG_same {b:Base}{G:Dooms}{i:Nat}(hi:i<b.links.length){nm:List UInt8}{r:Row}(h:G nm r.id∨¬ Hit b G nm (b.links.getD i default) r):freeG b G (i+1) nm r=freeG b G i nm r:=by
 rw [freeG_succ hi]
 unfold freeG
 by_cases hg:G nm r.id
 ·rw [if_pos hg,if_pos hg]
 ·rw [if_neg hg,if_neg hg]
  exact if_neg (h.resolve_left hg)
theorem freeG_hit {b:Base}{G:Dooms}{i:Nat}(hi:i<b.links.length){nm:List UInt8}{r:Row}(h1:¬ G nm r.id)(h2:Hit b G nm (b.links.getD i default) r):freeG b G (i+1) nm r=clearR (tabT b nm) (colN b (b.links.getD i default)) (freeG b G i nm r):=by
 rw [freeG_succ hi]
 unfold freeG
 rw [if_neg h1,if_neg h1]
 exact if_pos h2
noncomputable def freeK (b:Base) (G:Dooms) (i:Nat) (nm:List UInt8) (k:Nat) (r:Row):Row:=@ite _ (∃ j,j<k∧j < (tabT b nm).rows.length∧((tabT b nm).rows.getD j default).id=r.id) (Classical.propDecidable _) (freeG b G (i+1) nm r) (freeG b G i nm r)
theorem freeK_way {b:Base}{G:Dooms}{i k:Nat}(h:BaseOK b){nm:List UInt8}(hn:tabN b nm<b.tabs.length):RowWay (tabT b nm) (freeK b G i nm k):=(freeG_way h hn).ite (freeG_way h hn)
theorem baseW_at {b:Base}{p:List UInt8→Row→Prop}{ψ:List UInt8→Row→Row}{nm:List UInt8}(hk:tabN b nm<b.tabs.length):((baseW b p ψ).tabs.getD (tabN b nm) default).table=tabW (tabT b nm) (p nm) (ψ nm):=by
 rw [baseW_get hk,tabN_name hk];rfl
theorem tabW_rows (t:Table)(ψ:Row→Row):(tabW t (fun _=>True) ψ).rows=t.rows.map ψ:=by
 show (t.rows.filter fun _=>B True).map ψ=_
 rw [List.filter_eq_self.2 fun _ _=>B_t trivial]
abbrev allP:List UInt8→Row→Prop:=fun _ _=>True
noncomputable def midB (b:Base) (G:Dooms) (i:Nat) (nm:List UInt8) (k:Nat):Base:=baseW b allP (updN (freeG b G i) nm (freeK b G i nm k))
theorem midB_way {b:Base}{G:Dooms}{i k:Nat}{nm:List UInt8}(h:BaseOK b)(hn:tabN b nm<b.tabs.length):BaseWay b (updN (freeG b G i) nm (freeK b G i nm k)):=⟨fun j hj=>by
 have hp:=h.place j hj
 have hj':tabN b (b.tabs.getD j default).name<b.tabs.length:=by rw [hp];exact hj
 have e:tabK b j=tabT b (b.tabs.getD j default).name:=by unfold tabT;rw [hp];rfl
 rw [e]
 by_cases hx:(b.tabs.getD j default).name=nm
 ·rw [hx,updN_self];exact freeK_way h hn
 ·rw [updN_other _ _ hx];exact freeG_way h hj'⟩
theorem midB_g {b:Base}{G:Dooms}{i k:Nat}{nm:List UInt8}(h:GoodB b)(hn:tabN b nm<b.tabs.length):TabsG (midB b G i nm k):=
 ⟨fun j hj=>(baseW_tabs_ok h.ok (midB_way h.ok hn) j hj).ok,baseW_sm h (midB_way h.ok hn)⟩
theorem midB_tabT {b:Base}{G:Dooms}{i k:Nat}{nm:List UInt8}(hn:tabN b nm<b.tabs.length):tabT (midB b G i nm k) nm=tabW (tabT b nm) (fun _=>True) (freeK b G i nm k):=by
 unfold midB
 rw [baseW_tabT hn,updN_self]
theorem midB_at {b:Base}{G:Dooms}{i k:Nat}{nm:List UInt8}(hn:tabN b nm<b.tabs.length):((midB b G i nm k).tabs.getD (tabN b nm) default).table=tabW (tabT b nm) (fun _=>True) (freeK b G i nm k):=by
 unfold midB
 rw [baseW_at hn,updN_self]
theorem midB_len (b:Base)(G:Dooms)(i:Nat)(nm:List UInt8)(k:Nat):(midB b G i nm k).tabs.length=b.tabs.length:=baseW_len ..
theorem midB_row {b:Base}{G:Dooms}{i k:Nat}{nm:List UInt8}(hn:tabN b nm<b.tabs.length){j:Nat}(hj:j < (tabT b nm).rows.length):(((midB b G i nm k).tabs.getD (tabN b nm) default).table.rows).getD j default=freeK b G i nm k ((tabT b nm).rows.getD j default):=by
 rw [midB_at hn,tabW_rows,getD_lt (by simpa using hj),List.getElem_map,getD_lt hj]
theorem midB_rlen {b:Base}{G:Dooms}{i k:Nat}{nm:List UInt8}(hn:tabN b nm<b.tabs.length):(((midB b G i nm k).tabs.getD (tabN b nm) default).table.rows).length=(tabT b nm).rows.length:=by
 rw [midB_at hn,tabW_rows,List.length_map]
theorem freeK_at {b:Base}{G:Dooms}{i k:Nat}{nm:List UInt8}(h:BaseOK b)(hn:tabN b nm<b.tabs.length)(hk:k < (tabT b nm).rows.length):freeK b G i nm k ((tabT b nm).rows.getD k default)=freeG b G i nm ((tabT b nm).rows.getD k default):=by
 refine if_neg ?_
 rintro ⟨j,h1,h2,h3⟩
 have ha:=(h.tabs _ hn).ok.asc
 have e1:=rowN_uniq ha h2
 have e2:=rowN_uniq ha hk
 have h3':((tabT b nm).rows.getD j default).id=((tabT b nm).rows.getD k default).id:=h3
 have e3:j=k:=by
  have e1':rowN (tabT b nm) ((tabT b nm).rows.getD j default).id=j:=e1
  have e2':rowN (tabT b nm) ((tabT b nm).rows.getD k default).id=k:=e2
  rw [← e1',← e2',h3']
 omega
theorem row_eq {t:Table}(h:TabOK t){r q:Row}(hr:r∈t.rows)(hq:q∈t.rows)(e:r.id=q.id):r=q:=by
 obtain ⟨i,hi,rfl⟩:=List.getElem_of_mem hr
 obtain ⟨j,hj,rfl⟩:=List.getElem_of_mem hq
 have e1:=rowN_uniq h.asc hi
 have e2:=rowN_uniq h.asc hj
 rw [getD_lt hi] at e1
 rw [getD_lt hj] at e2
 have:i=j:=by rw [← e1,← e2,e]
 subst this;rfl
theorem freeK_next {b:Base}{G:Dooms}{i k:Nat}{nm:List UInt8}(h:BaseOK b)(hn:tabN b nm<b.tabs.length)(hk:k < (tabT b nm).rows.length){r:Row}(hr:r∈(tabT b nm).rows):freeK b G i nm (k+1) r=if r.id=((tabT b nm).rows.getD k default).id then freeG b G (i+1) nm r else freeK b G i nm k r:=by
 by_cases e:r.id=((tabT b nm).rows.getD k default).id
 ·rw [if_pos e]
  exact if_pos ⟨k,Nat.lt_succ_self _,hk,e.symm⟩
 ·rw [if_neg e]
  unfold freeK
  by_cases hex:∃ j,j<k∧j < (tabT b nm).rows.length∧((tabT b nm).rows.getD j default).id=r.id
  ·rw [if_pos hex,if_pos]
   obtain ⟨j,h1,h2⟩:=hex
   exact ⟨j,by omega,h2⟩
  ·rw [if_neg hex,if_neg]
   rintro ⟨j,h1,h2,h3⟩
   by_cases hjk:j=k
   ·subst hjk;exact e h3.symm
   ·exact hex ⟨j,by omega,h2,h3⟩
theorem baseW_rows {b:Base}(h:BaseOK b){p p':List UInt8→Row→Prop}{ψ ψ':List UInt8→Row→Row}(hp:∀ nm,tabN b nm<b.tabs.length→∀ r,r∈(tabT b nm).rows→(p nm r↔p' nm r))(hw:∀ nm,tabN b nm<b.tabs.length→∀ r,r∈(tabT b nm).rows→p nm r→ψ nm r=ψ' nm r):baseW b p ψ=baseW b p' ψ':=by
 refine baseW_congr (fun t ht r hr=>?_) fun t ht r hr=>?_
 ·obtain ⟨h1,h2⟩:=tab_name_mem h ht
  exact hp _ h1 r (by rw [h2];exact hr)
 ·obtain ⟨h1,h2⟩:=tab_name_mem h ht
  exact hw _ h1 r (by rw [h2];exact hr)
theorem midB_zero {b:Base}{G:Dooms}{i:Nat}{nm:List UInt8}(h:BaseOK b):midB b G i nm 0=baseW b allP (freeG b G i):=by
 refine baseW_rows h (fun _ _ _ _=>Iff.rfl) fun x hx r hr _=>?_
 by_cases e:x=nm
 ·subst e
  rw [updN_self]
  exact if_neg fun ⟨j,h1,_⟩=>absurd h1 (Nat.not_lt_zero _)
 ·rw [updN_other _ _ e]
theorem midB_all {b:Base}{G:Dooms}{i:Nat}(h:BaseOK b)(hi:i<b.links.length):midB b G i (b.links.getD i default).from_ (tabT b (b.links.getD i default).from_).rows.length=baseW b allP (freeG b G (i+1)):=by
 refine baseW_rows h (fun _ _ _ _=>Iff.rfl) fun x hx r hr _=>?_
 by_cases e:x=(b.links.getD i default).from_
 ·subst e
  rw [updN_self]
  obtain ⟨j,hj,rfl⟩:=List.getElem_of_mem hr
  exact if_pos ⟨j,hj,hj,by rw [getD_lt hj]⟩
 ·rw [updN_other _ _ e]
  exact (freeG_same hi (.inr fun hh=>e hh.1.symm)).symm
theorem freeG_col {b:Base}{G:Dooms}{i:Nat}(h:BaseOK b)(hi:i<b.links.length){r:Row}(hr:r∈(tabT b (b.links.getD i default).from_).rows):(nowR (tabT b (b.links.getD i default).from_) (freeG b G i (b.links.getD i default).from_ r)).getD (colN b (b.links.getD i default)) default=colV b (b.links.getD i default) r:=by
 have hfit:=(h.links i hi).fits
 have hrow:=((h.tabs _ hfit.src).ok.rg r hr).now
 have hrow':RowOK (lastS (tabT b (b.links.getD i default).from_)) (nowR (tabT b (b.links.getD i default).from_) r):=hrow
 unfold freeG
 split
 ·rfl
 ·rcases (freeR_get (G:=G) (nm:=(b.links.getD i default).from_) (r:=r) (c:=colN b (b.links.getD i default)) (by rw [hrow'.len];exact hfit.col) (b.links.take i)).2 with ⟨⟨l,hl,hhit,hc⟩,-⟩|⟨-,e⟩
  ·exfalso
   obtain ⟨j,hj,rfl⟩:=List.getElem_of_mem hl
   have hji:j<i:=by simp at hj;omega
   rw [List.getElem_take] at hhit hc
   have hjl:j<b.links.length:=by omega
   have hfj:=(h.links j hjl).fits
   rw [getD_lt hjl] at hfj
   refine (h.links i hi).apart j hji ?_
   rw [getD_lt hjl]
   refine ⟨hhit.1,?_⟩
   have e1:=hfj.col
   have e2:=hfit.col
   unfold colN at hc e1 e2
   rw [hhit.1] at hc e1
   rw [← atN_name e1,hc,atN_name e2]
  ·exact e
theorem f1149_l2_is {b:Base}{list:List Ref}(hf:BIG≤fu)(h:GoodB b)(hn:list.length≤1000){i:Nat}(hi:i<b.links.length)(hw:(b.links.getD i default).how=3){rec1:Int→List Tab→List Link→Option Base} :
     ∀ (m n k:Nat),k+m=(tabT b (b.links.getD i default).from_).rows.length→m<n→
      f1149_l2 fu list (i:Int) b.links (tabN b (b.links.getD i default).from_:Int) rec1 n (k:Int) (midB b (inL list) i (b.links.getD i default).from_ k).tabs b.links=rec1 (IntKind.i64.wrap ((i:Int)+1)) (baseW b allP (freeG b (inL list) (i+1))).tabs b.links:=by
 have hfit:=(h.ok.links i hi).fits
 have hs:=hfit.src
 have g:=h.tabT hs
 have hN:=g.sm.nrow
 intro m
 induction m with
 | zero=>
  intro n k hk hn
  obtain ⟨n,rfl⟩:∃ z,n=z+1:=⟨n-1,by omega⟩
  have:k=(tabT b (b.links.getD i default).from_).rows.length:=by omega
  subst this
  rw [f1149_l2,midB_len,inR hs,ct,tn,midB_rlen hs,nlt,cf]
  unfold f1149_j10
  rw [cf,midB_all h.ok hi]
 | succ m ih=>
  intro n k hk hn2
  obtain ⟨n,rfl⟩:∃ z,n=z+1:=⟨n-1,by omega⟩
  have hkl:k < (tabT b (b.links.getD i default).from_).rows.length:=by omega
  have hmem:(tabT b (b.links.getD i default).from_).rows.getD k default∈(tabT b (b.links.getD i default).from_).rows:=getD_mem hkl
  have ek:=succI hkl (show (tabT b (b.links.getD i default).from_).rows.length≤BIG by unfold BIG;omega)
  have go:=ih n (k+1) (by omega) (by omega)
  have hway:=freeK_way (G:=inL list) (i:=i) (k:=k) h.ok hs
  have eid:(freeK b (inL list) i (b.links.getD i default).from_ k ((tabT b (b.links.getD i default).from_).rows.getD k default)).id=((tabT b (b.links.getD i default).from_).rows.getD k default).id:=hway.id _ hmem
  rw [f1149_l2,midB_len,inR hs,ct,tn,tn,midB_rlen hs,ltR hkl,ct,dt hw]
  unfold f1149_j10
  rw [ct,midB_len,inR hs,ct,tn,tn,tn,midB_rlen hs,inR hkl,ct,midB_row hs hkl,eid,f1182_is hf hn,bs]
  have quiet:(inL list (b.links.getD i default).from_ ((tabT b (b.links.getD i default).from_).rows.getD k default).id∨¬ Hit b (inL list) (b.links.getD i default).from_ (b.links.getD i default) ((tabT b (b.links.getD i default).from_).rows.getD k default))→midB b (inL list) i (b.links.getD i default).from_ k=midB b (inL list) i (b.links.getD i default).from_ (k+1):=fun hq=>by
   refine baseW_rows h.ok (fun _ _ _ _=>Iff.rfl) fun x hx r hr _=>?_
   by_cases e:x=(b.links.getD i default).from_
   ·subst e
    rw [updN_self,updN_self,freeK_next h.ok hs hkl hr]
    split
    ·rename_i e2
     have:r=(tabT b (b.links.getD i default).from_).rows.getD k default:=row_eq g.ok hr hmem e2
     subst this
     rw [freeK_at h.ok hs hkl,freeG_same hi hq]
    ·rfl
   ·rw [updN_other _ _ e,updN_other _ _ e]
  by_cases c1:inL list (b.links.getD i default).from_ ((tabT b (b.links.getD i default).from_).rows.getD k default).id
  ·rw [B_t c1]
   simp only [Bool.not_true,cf]
   unfold f1149_j11 f1149_j12
   rw [cf,ek,quiet (.inl c1)]
   exact go
  rw [B_f c1]
  simp only [Bool.not_false,ct]
  have hmg:=midB_g (G:=inL list) (i:=i) (k:=k) h hs
  have hmf:LinkFits (midB b (inL list) i (b.links.getD i default).from_ k) (b.links.getD i default):=baseW_skel.fits hfit
  have eq:f1184o fu (⟨(midB b (inL list) i (b.links.getD i default).from_ k).tabs,b.links⟩:Base) (b.links.getD i default) (k:Int) list=some (B (Hit b (inL list) (b.links.getD i default).from_ (b.links.getD i default) ((tabT b (b.links.getD i default).from_).rows.getD k default))):=by
   show f1184o fu (midB b (inL list) i (b.links.getD i default).from_ k) _ _ _=_
   have e0:(tabT (midB b (inL list) i (b.links.getD i default).from_ k) (b.links.getD i default).from_).rows=(tabT b (b.links.getD i default).from_).rows.map (freeK b (inL list) i (b.links.getD i default).from_ k):=by rw [midB_tabT hs,tabW_rows]
   rw [f1184o_is hf hmg hmf (by rw [e0,List.length_map];exact hkl) hn]
   congr 1
   have e1:(tabT (midB b (inL list) i (b.links.getD i default).from_ k) (b.links.getD i default).from_).rows.getD k default=freeG b (inL list) i (b.links.getD i default).from_ ((tabT b (b.links.getD i default).from_).rows.getD k default):=by
    rw [e0,getD_lt (by simpa using hkl),List.getElem_map,← getD_lt (d:=default) hkl,freeK_at h.ok hs hkl]
   have ecol:colN (midB b (inL list) i (b.links.getD i default).from_ k) (b.links.getD i default)=colN b (b.links.getD i default):=by unfold colN;rw [midB_tabT hs];rfl
   have e2:colV (midB b (inL list) i (b.links.getD i default).from_ k) (b.links.getD i default) (freeG b (inL list) i (b.links.getD i default).from_ ((tabT b (b.links.getD i default).from_).rows.getD k default))=colV b (b.links.getD i default) ((tabT b (b.links.getD i default).from_).rows.getD k default):=by
    rw [← freeG_col (G:=inL list) h.ok hi hmem]
    unfold colV
    rw [ecol,midB_tabT hs];rfl
   rw [e1]
   unfold Hit Names
   rw [e2]
   exact B_congr ⟨fun hh=>⟨rfl,hw,hh⟩,fun hh=>hh.2.2⟩
  rw [eq,bs]
  unfold f1149_j11 f1149_j12
  by_cases c2:Hit b (inL list) (b.links.getD i default).from_ (b.links.getD i default) ((tabT b (b.links.getD i default).from_).rows.getD k default)
  case neg=>
   rw [B_f c2,cf,ek,quiet (.inr c2)]
   exact go
  have hmt:Good (tabW (tabT b (b.links.getD i default).from_) (fun _=>True) (freeK b (inL list) i (b.links.getD i default).from_ k)):=⟨tabW_ok g.ok hway,tabW_sm g.sm (way_sm g.ok g.sm hway)⟩
  have hset:=setT_tabW (p:=fun _=>True) g.ok hway (id:=((tabT b (b.links.getD i default).from_).rows.getD k default).id) (col:=(b.links.getD i default).col) hfit.col (hfit.need hw) ⟨_,hmem,trivial,rfl⟩
  have hsx:SmX [(⟨(b.links.getD i default).col,nul⟩:Set)]:=⟨by simp,fun x hx=>by rw [List.mem_singleton.1 hx];exact nul_ok.sm⟩
  rw [B_t c2,ct,midB_len,inR hs,ct,tn,tn,tn,midB_row hs hkl,eid,midB_at hs,f42_is hf hmt.sm,bs]
  show (f76 fu _ _ [(⟨(b.links.getD i default).col,nul⟩:Set)]).bind _=_
  rw [f76_is hf hmt.ok hmt.sm hsx,hset,bs,ct,ek]
  show f1149_l2 fu list (i:Int) b.links _ rec1 n ((k+1:Nat):Int) (setTab (midB b (inL list) i (b.links.getD i default).from_ k) (tabN b (b.links.getD i default).from_) (tabW (tabT b (b.links.getD i default).from_) (fun _=>True) (updR (freeK b (inL list) i (b.links.getD i default).from_ k) ((tabT b (b.links.getD i default).from_).rows.getD k default).id (clearR (tabT b (b.links.getD i default).from_) (colN b (b.links.getD i default)))))).tabs b.links=_
  have e3:setTab (midB b (inL list) i (b.links.getD i default).from_ k) (tabN b (b.links.getD i default).from_) (tabW (tabT b (b.links.getD i default).from_) (fun _=>True) (updR (freeK b (inL list) i (b.links.getD i default).from_ k) ((tabT b (b.links.getD i default).from_).rows.getD k default).id (clearR (tabT b (b.links.getD i default).from_) (colN b (b.links.getD i default)))))=midB b (inL list) i (b.links.getD i default).from_ (k+1):=by
   unfold midB
   rw [baseW_set h.ok.place hs]
   refine baseW_rows h.ok (fun x hx r hr=>?_) fun x hx r hr _=>?_
   ·by_cases e:x=(b.links.getD i default).from_
    ·subst e;rw [updN_self]
    ·rw [updN_other _ _ e]
   ·by_cases e:x=(b.links.getD i default).from_
    ·subst e
     rw [updN_self,updN_self,freeK_next h.ok hs hkl hr]
     unfold updR
     by_cases e2:r.id=((tabT b (b.links.getD i default).from_).rows.getD k default).id
     ·rw [if_pos e2,if_pos e2]
      have:r=(tabT b (b.links.getD i default).from_).rows.getD k default:=row_eq g.ok hr hmem e2
      subst this
      rw [freeK_at h.ok hs hkl,freeG_hit hi c1 c2]
     ·rw [if_neg e2,if_neg e2]
    ·rw [updN_other _ _ e,updN_other _ _ e,updN_other _ _ e]
  rw [e3]
  exact go
theorem f1149_l1_is {b:Base}{list:List Ref}(hf:BIG≤fu)(h:GoodB b)(hn:list.length≤1000) :
     ∀ (m n i:Nat),i+m=b.links.length→m<n→f1149_l1 fu list n (i:Int) (baseW b allP (freeG b (inL list) i)).tabs b.links=some (baseW b allP (freeG b (inL list) b.links.length)):=by
 have hL:=h.sm.nlink
 intro m
 induction m with
 | zero=>
  intro n i hk hn
  obtain ⟨n,rfl⟩:∃ z,n=z+1:=⟨n-1,by omega⟩
  have:i=b.links.length:=by omega
  subst this
  rw [f1149_l1,nlt,cf];rfl
 | succ m ih=>
  intro n i hk hn2
  obtain ⟨n,rfl⟩:∃ z,n=z+1:=⟨n-1,by omega⟩
  have hi:i<b.links.length:=by omega
  have hfit:=(h.ok.links i hi).fits
  have hN:=(h.tabT hfit.src).sm.nrow
  have ei:=succI hi (show b.links.length≤BIG by unfold BIG;omega)
  have go:=ih n (i+1) (by omega) (by omega)
  have e0:f1062o fu (⟨(baseW b allP (freeG b (inL list) i)).tabs,b.links⟩:Base) (b.links.getD i default).from_=some (tabN b (b.links.getD i default).from_:Int):=by
   rw [f1062o_is hf (by show (baseW b allP (freeG b (inL list) i)).tabs.length≤1000;rw [baseW_len];exact h.sm.ntab)]
   congr 1
   have e1:tabN (⟨(baseW b allP (freeG b (inL list) i)).tabs,b.links⟩:Base) (b.links.getD i default).from_=tabN b (b.links.getD i default).from_:=baseW_tabN b allP (freeG b (inL list) i) _
   rw [tabI_lt (by rw [e1];show _ < (baseW b allP (freeG b (inL list) i)).tabs.length;rw [baseW_len];exact hfit.src),e1]
  rw [f1149_l1,ltR hi,ct,ge0,Bool.and_self,ct,tn,e0,bs]
  by_cases hw:(b.links.getD i default).how=3
  ·have:=f1149_l2_is (rec1:=f1149_l1 fu list n) hf h hn hi hw (tabT b (b.links.getD i default).from_).rows.length fu 0 (by omega) (by unfold BIG at hf;omega)
   rw [midB_zero h.ok] at this
   refine this.trans ?_
   rw [ei];exact go
  ·obtain ⟨fu',rfl⟩:∃ z,fu=z+1:=⟨fu-1,by unfold BIG at hf;omega⟩
   have e2:∀ rec2,f1149_j10 (fu' + 1) list (i:Int) b.links (tabN b (b.links.getD i default).from_:Int) 0 (baseW b allP (freeG b (inL list) i)).tabs b.links (f1149_l1 (fu' + 1) list n) rec2 false=f1149_l1 (fu' + 1) list n (IntKind.i64.wrap ((i:Int)+1)) (baseW b allP (freeG b (inL list) i)).tabs b.links:=fun _=>rfl
   have e3:baseW b allP (freeG b (inL list) i)=baseW b allP (freeG b (inL list) (i+1)):=baseW_rows h.ok (fun _ _ _ _=>Iff.rfl) fun x hx r hr _=>(freeG_same hi (.inr fun hh=>hw hh.2.1)).symm
   rw [f1149_l2,baseW_len,inR hfit.src,ct,tn,tn,df hw,e2,ei,e3]
   cases decide ((0:Int) < _)<;>exact go
theorem f1149_is {b:Base}{list:List Ref}(hf:BIG≤fu)(h:GoodB b)(hn:list.length≤1000):f1149 fu b list=some (baseW b allP (freeG b (inL list) b.links.length)):=by
 have:=f1149_l1_is hf h hn b.links.length fu 0 (by omega) (by have:=h.sm.nlink;unfold BIG at hf;omega)
 rw [freeG_zero] at this
 have e:baseW b allP (fun _ r=>r)=b:=baseW_all
 rw [e] at this
 exact this
def stayP (list:List Ref)(j:Nat)(nm:List UInt8)(r:Row):Prop:=¬ inL (list.take j) nm r.id
theorem o41a:@f41a=@f41:=by
 funext fu t id
 unfold f41a f41
 rw [o82]
theorem stay_next {list:List Ref}{j:Nat}(hj:j<list.length)(nm:List UInt8)(r:Row):stayP list (j+1) nm r↔stayP list j nm r∧¬ ((list.getD j default).name=nm∧(list.getD j default).id=r.id):=by
 unfold stayP
 rw [takeN (d:=default) hj,inL_snoc,not_or]
theorem off_step {b:Base}{ψ:List UInt8→Row→Row}{list:List Ref}(h:GoodB b)(hw:BaseWay b ψ){j:Nat}(hj:j<list.length)(hk:tabN b (list.getD j default).name<b.tabs.length) :
     setTab (baseW b (stayP list j) ψ) (tabN b (list.getD j default).name) (offT (tabW (tabT b (list.getD j default).name) (stayP list j (list.getD j default).name) (ψ (list.getD j default).name)) (list.getD j default).id).1=baseW b (stayP list (j+1)) ψ:=by
 have g:=h.tabT hk
 have hway:=hw.at_ hk
 by_cases hex:∃ r,r∈(tabT b (list.getD j default).name).rows∧stayP list j (list.getD j default).name r∧r.id=(list.getD j default).id
 ·rw [offT_tabW g.ok hway hex,baseW_set h.ok.place hk]
  refine baseW_rows h.ok (fun x hx r hr=>?_) fun x hx r hr _=>?_
  ·rw [stay_next hj]
   by_cases e:x=(list.getD j default).name
   ·subst e
    rw [updN_self]
    exact ⟨fun hh=>⟨hh.1,fun h2=>hh.2 h2.2.symm⟩,fun hh=>⟨hh.1,fun h2=>hh.2 ⟨rfl,h2.symm⟩⟩⟩
   ·rw [updN_other _ _ e]
    exact ⟨fun hh=>⟨hh,fun h2=>e h2.1.symm⟩,fun hh=>hh.1⟩
  ·by_cases e:x=(list.getD j default).name
   ·subst e;rw [updN_self]
   ·rw [updN_other _ _ e]
 ·have hno:¬ rowN (tabW (tabT b (list.getD j default).name) (stayP list j (list.getD j default).name) (ψ (list.getD j default).name)) (list.getD j default).id < (tabW (tabT b (list.getD j default).name) (stayP list j (list.getD j default).name) (ψ (list.getD j default).name)).rows.length:=fun hh=>hex ((tabW_there hway.id).1 hh)
  unfold offT
  rw [if_neg hno,baseW_set h.ok.place hk]
  refine baseW_rows h.ok (fun x hx r hr=>?_) fun x hx r hr _=>?_
  ·rw [stay_next hj]
   by_cases e:x=(list.getD j default).name
   ·subst e
    rw [updN_self]
    exact ⟨fun hh=>⟨hh,fun h2=>hex ⟨r,hr,hh,h2.2.symm⟩⟩,fun hh=>hh.1⟩
   ·rw [updN_other _ _ e]
    exact ⟨fun hh=>⟨hh,fun h2=>e h2.1.symm⟩,fun hh=>hh.1⟩
  ·by_cases e:x=(list.getD j default).name
   ·subst e;rw [updN_self]
   ·rw [updN_other _ _ e]
theorem f1091_l1_is {b:Base}{ψ:List UInt8→Row→Row}{list:List Ref}(hf:BIG≤fu)(h:GoodB b)(hw:BaseWay b ψ)(hn:list.length≤1000)(hr:∀ j,j<list.length→tabN b (list.getD j default).name<b.tabs.length){q8:Base}(hq:q8.links=b.links) :
     ∀ (m n j:Nat),j+m=list.length→m<n→f1091_l1 fu list q8 n (j:Int) (baseW b (stayP list j) ψ).tabs=some (baseW b (stayP list list.length) ψ,0):=by
 intro m
 induction m with
 | zero=>
  intro n j hk hn
  obtain ⟨n,rfl⟩:∃ z,n=z+1:=⟨n-1,by omega⟩
  have:j=list.length:=by omega
  subst this
  rw [f1091_l1,nlt,cf,hq];rfl
 | succ m ih=>
  intro n j hk hn2
  obtain ⟨n,rfl⟩:∃ z,n=z+1:=⟨n-1,by omega⟩
  have hj:j<list.length:=by omega
  have hs:=hr j hj
  have ei:=succI hj (show list.length≤BIG by unfold BIG;omega)
  have go:=ih n (j+1) (by omega) (by omega)
  have e0:f1062o fu (⟨(baseW b (stayP list j) ψ).tabs,q8.links⟩:Base) (list.getD j default).name=some (tabN b (list.getD j default).name:Int):=by
   rw [f1062o_is hf (by show (baseW b (stayP list j) ψ).tabs.length≤1000;rw [baseW_len];exact h.sm.ntab)]
   congr 1
   have e1:tabN (⟨(baseW b (stayP list j) ψ).tabs,q8.links⟩:Base) (list.getD j default).name=tabN b (list.getD j default).name:=baseW_tabN b (stayP list j) ψ _
   rw [tabI_lt (by rw [e1];show _ < (baseW b (stayP list j) ψ).tabs.length;rw [baseW_len];exact hs),e1]
  have gt:SmT (tabW (tabT b (list.getD j default).name) (stayP list j (list.getD j default).name) (ψ (list.getD j default).name)):=tabW_sm (h.tabT hs).sm (way_sm (h.tabT hs).ok (h.tabT hs).sm (hw.at_ hs))
  rw [f1091_l1,ltR hj,ct,ge0,Bool.and_self,ct,tn,e0,bs,baseW_len,inR hs,ct,ct,tn,baseW_at hs,o41a,f41_is hf gt.nrow,bs,ct,ei]
  show f1091_l1 fu list q8 n ((j+1:Nat):Int) (setTab (baseW b (stayP list j) ψ) (tabN b (list.getD j default).name) (offT (tabW (tabT b (list.getD j default).name) (stayP list j (list.getD j default).name) (ψ (list.getD j default).name)) (list.getD j default).id).1).tabs=_
  rw [off_step h hw hj hs]
  exact go
theorem freeG_base {b:Base}{G:Dooms}{i:Nat}(h:BaseOK b):BaseWay b (freeG b G i):=⟨fun j hj=>by
 have hp:=h.place j hj
 have e:tabK b j=tabT b (b.tabs.getD j default).name:=by unfold tabT;rw [hp];rfl
 rw [e]
 exact freeG_way h (by rw [hp];exact hj)⟩
theorem stay_zero {list:List Ref}:stayP list 0=allP:=by
 funext x r
 refine eq_true fun ⟨q,hq,_⟩=>?_
 rw [List.take_zero] at hq
 cases hq
theorem names_same {b:Base}{G G':Dooms}(h:BaseOK b)(hg:∀ x n,HasRow b x n→(G x n↔G' x n)){l:Link}(hl:l∈b.links){r:Row}(hr:r∈(tabT b l.from_).rows):Names b G l r↔Names b G' l r:=by
 obtain ⟨hf,hh⟩:=h.link hl
 refine and_congr_right fun hv=>hg _ _ ⟨hf.dst,hh.mem hr hv⟩
theorem stops_same {b:Base}{G G':Dooms}(h:BaseOK b)(hg:∀ x n,HasRow b x n→(G x n↔G' x n)):Stops b G↔Stops b G':=by
 have key:∀ {G G':Dooms},(∀ x n,HasRow b x n→(G x n↔G' x n))→Stops b G→Stops b G':=by
  rintro G G' hg ⟨l,hl,hw,r,hr,h1,h2⟩
  exact ⟨l,hl,hw,r,hr,fun hh=>h1 ((hg _ _ ⟨(h.link hl).1.src,rowN_iff.2 ⟨r,hr,rfl⟩⟩).2 hh),(names_same h hg hl hr).1 h2⟩
 exact ⟨key hg,key fun x n hx=>(hg x n hx).symm⟩
theorem freeR_same {b:Base}{G G':Dooms}(h:BaseOK b)(hg:∀ x n,HasRow b x n→(G x n↔G' x n)){nm:List UInt8}{r:Row}(hr:r∈(tabT b nm).rows):∀ ls:List Link,(∀ l,l∈ls→l∈b.links)→freeR b G nm ls r=freeR b G' nm ls r:=by
 intro ls
 induction ls using snocInd with
 | nil=>intro _;rfl
 | snoc ls l ih=>
  intro hm
  rw [freeR_snoc,freeR_snoc,ih fun x hx=>hm x (List.mem_append_left _ hx)]
  unfold freeS
  have e:Hit b G nm l r↔Hit b G' nm l r:=by
   unfold Hit
   refine and_congr_right fun e=>and_congr_right fun _=>?_
   subst e
   exact names_same h hg (hm l (by simp)) hr
  by_cases hh:Hit b G nm l r
  ·rw [if_pos hh,if_pos (e.1 hh)]
  ·rw [if_neg hh,if_neg fun h2=>hh (e.2 h2)]
theorem hasRow_mem {b:Base}{nm:List UInt8}(hn:tabN b nm<b.tabs.length){r:Row}(hr:r∈(tabT b nm).rows):HasRow b nm r.id:=⟨hn,rowN_iff.2 ⟨r,hr,rfl⟩⟩
theorem offG_same {b:Base}{G G':Dooms}(h:BaseOK b)(hg:∀ x n,HasRow b x n→(G x n↔G' x n)):offG b G=offG b G':=by
 refine baseW_rows h (fun x hx r hr=>not_congr (hg _ _ (hasRow_mem hx hr))) fun x hx r hr _=>freeR_same h hg hr _ fun _ hl=>hl
theorem f1091_is {b:Base}{nm:List UInt8}{id:Int}(hf:BIG≤fu)(h:GoodB b):f1091 fu b nm id=some (offX b nm id):=by
 have hgl:=goneL_len h.ok (Gone b nm id)
 have hsame:∀ x n,HasRow b x n→(inL (goneL b (Gone b nm id)) x n↔Gone b nm id x n):=fun x n hx=>(goneL_mem h.ok).trans ⟨fun hh=>hh.2,fun hh=>⟨hx,hh⟩⟩
 unfold f1091 offX
 rw [f1146_is hf h.sm,bs]
 by_cases h1:HasRow b nm id
 case neg=>rw [B_f h1,if_pos h1];rfl
 rw [B_t h1,if_neg (fun hh=>hh h1)]
 simp only [Bool.not_true,cf]
 rw [f1147_is hf h,bs,f1148_is hf h (by omega),bs,B_congr (stops_same h.ok hsame)]
 by_cases h2:Stops b (Gone b nm id)
 ·rw [B_t h2,if_pos h2];rfl
 rw [B_f h2,if_neg h2,cf,f1059_is hf h.sm,bs,f1149_is hf h (by omega),bs]
 have e0:(baseW b allP (freeG b (inL (goneL b (Gone b nm id))) b.links.length))=baseW b (stayP (goneL b (Gone b nm id)) 0) (freeG b (inL (goneL b (Gone b nm id))) b.links.length):=by rw [stay_zero]
 have hr:∀ j,j < (goneL b (Gone b nm id)).length→tabN b ((goneL b (Gone b nm id)).getD j default).name<b.tabs.length:=fun j hj=>((goneL_mem h.ok).1 ⟨_,getD_mem hj,rfl,rfl⟩).1.1
 have:=f1091_l1_is (ψ:=freeG b (inL (goneL b (Gone b nm id))) b.links.length) (list:=goneL b (Gone b nm id)) (q8:=baseW b allP (freeG b (inL (goneL b (Gone b nm id))) b.links.length)) hf h (freeG_base h.ok) (by omega) hr rfl (goneL b (Gone b nm id)).length fu 0 (by omega) (by unfold BIG at hf;omega)
 rw [← e0] at this
 refine this.trans ?_
 congr 2
 refine Eq.trans ?_ (offG_same h.ok hsame)
 refine baseW_rows h.ok (fun x hx r hr=>?_) fun x hx r hr hp=>?_
 ·unfold stayP
  rw [List.take_length]
 ·have hp':¬ inL (goneL b (Gone b nm id)) x r.id:=by
   have hp2:¬ inL ((goneL b (Gone b nm id)).take (goneL b (Gone b nm id)).length) x r.id:=hp
   rwa [List.take_length] at hp2
  unfold freeG
  rw [if_neg hp',List.take_length]
theorem f1029_is {b:Base}{nm:List UInt8}{id:Int}(hf:BIG≤fu)(h:SmB b):f1029 fu b nm id=some (offBB b nm id):=by
 unfold f1029 offBB
 rw [f1019_is hf h,bs]
 by_cases hk:BaseOK b
 case neg=>rw [B_f hk,if_neg hk];rfl
 rw [B_t hk,if_pos hk]
 simp only [Bool.not_true,cf]
 rw [f1059_is hf h,bs,f1091_is hf ⟨hk,h⟩,bs,f1059_is hf (offX_good ⟨hk,h⟩).sm];rfl
end Go.Proofs.YtdpigighgmipfaaGreatDoor
