/- The law: the tables as they are now, with the same links, go the same way. -/
import Derived.Test.YtdpigighgmipfaaGreatDoorQ1005M36
import Derived.Test.YtdpigighgmipfaaGreatDoorQ1005B15
set_option linter.all false
namespace Go.Proofs.YtdpigighgmipfaaGreatDoor
open Go Go.HL
variable {fu:Nat}
noncomputable def nowTab (t:Tab):Tab:=⟨t.name,nowT t.table⟩
noncomputable def nowBase (b:Base):Base:=⟨b.tabs.map nowTab,b.links⟩
theorem nowBase_names (b:Base):(nowBase b).tabs.map (·.name)=b.tabs.map (·.name):=by
 show (b.tabs.map _).map _=_
 rw [List.map_map];rfl
theorem nowBase_len (b:Base):(nowBase b).tabs.length=b.tabs.length:=tabs_len (nowBase_names b)
theorem nowBase_tabN (b:Base)(x:List UInt8):tabN (nowBase b) x=tabN b x:=tabN_names (nowBase_names b) x
theorem nowBase_get {b:Base}{k:Nat}(hk:k<b.tabs.length):(nowBase b).tabs.getD k default=nowTab (b.tabs.getD k default):=by
 show (b.tabs.map _).getD k default=_
 rw [getD_lt (by rw [List.length_map];exact hk),List.getElem_map,getD_lt hk]
theorem nowBase_tabK {b:Base}{k:Nat}(hk:k<b.tabs.length):tabK (nowBase b) k=nowT (tabK b k):=by
 unfold tabK
 rw [nowBase_get hk];rfl
theorem nowBase_tabT {b:Base}{x:List UInt8}(hk:tabN b x<b.tabs.length):tabT (nowBase b) x=nowT (tabT b x):=by
 unfold tabT
 rw [nowBase_tabN,nowBase_get hk];rfl
theorem nowBase_skel (b:Base):Skel (nowBase b) b:=⟨nowBase_names b,fun k hk=>by
 rw [nowBase_tabK hk];rfl⟩
theorem now_mem {t:Table}{r:Row}:r∈(nowT t).rows↔∃ q,q∈t.rows∧anew t q=r:=List.mem_map
theorem now_rowN {t:Table}{id:Int}:rowN (nowT t) id < (nowT t).rows.length↔rowN t id<t.rows.length:=by
 rw [rowN_iff,rowN_iff]
 constructor
 ·rintro ⟨r,hr,e⟩
  obtain ⟨q,hq,rfl⟩:=now_mem.1 hr
  exact ⟨q,hq,e⟩
 ·rintro ⟨q,hq,e⟩
  exact ⟨_,now_mem.2 ⟨q,hq,rfl⟩,e⟩
theorem now_colV {b:Base}{l:Link}(hk:tabN b l.from_<b.tabs.length)(r:Row):colV (nowBase b) l (anew (tabT b l.from_) r)=colV b l r:=by
 unfold colV colN
 rw [nowBase_tabT hk,nowR_nowT];rfl
theorem now_has {b:Base}{x:List UInt8}{n:Int}:HasRow (nowBase b) x n↔HasRow b x n:=by
 unfold HasRow
 rw [nowBase_tabN,nowBase_len]
 exact and_congr_right fun hk=>by rw [nowBase_tabT hk];exact now_rowN
theorem now_gone {b:Base}(h:BaseOK b){nm:List UInt8}{id:Int}{x:List UInt8}{n:Int}:Gone (nowBase b) nm id x n↔Gone b nm id x n:=by
 constructor
 ·intro hg
  induction hg with
  | self=>exact .self
  | @next l r hl hr hw hv _ ih=>
   have hk:=(h.link hl).1.src
   rw [nowBase_tabT hk] at hr
   obtain ⟨q,hq,rfl⟩:=now_mem.1 hr
   rw [now_colV hk] at hv ih
   exact .next (r:=q) hl hq hw hv ih
 ·intro hg
  induction hg with
  | self=>exact .self
  | @next l r hl hr hw hv _ ih=>
   have hk:=(h.link hl).1.src
   rw [← now_colV hk r] at hv ih
   exact .next (r:=anew (tabT b l.from_) r) hl (by rw [nowBase_tabT hk];exact now_mem.2 ⟨r,hr,rfl⟩) hw hv ih
theorem now_goneE {b:Base}(h:BaseOK b)(nm:List UInt8)(id:Int):Gone (nowBase b) nm id=Gone b nm id:=funext fun _=>funext fun _=>propext (now_gone h)
theorem now_stops {b:Base}(h:BaseOK b){G:Dooms}:Stops (nowBase b) G↔Stops b G:=by
 constructor
 ·rintro ⟨l,hl,hw,r,hr,hg,hv,hn⟩
  have hk:=(h.link hl).1.src
  rw [nowBase_tabT hk] at hr
  obtain ⟨q,hq,rfl⟩:=now_mem.1 hr
  rw [now_colV hk] at hv hn
  exact ⟨l,hl,hw,q,hq,hg,hv,hn⟩
 ·rintro ⟨l,hl,hw,r,hr,hg,hv,hn⟩
  have hk:=(h.link hl).1.src
  rw [← now_colV hk r] at hv hn
  exact ⟨l,hl,hw,anew (tabT b l.from_) r,by rw [nowBase_tabT hk];exact now_mem.2 ⟨r,hr,rfl⟩,hg,hv,hn⟩
theorem now_goneL (b:Base)(G:Dooms):goneL (nowBase b) G=goneL b G:=by
 unfold goneL
 show (b.tabs.map nowTab).flatMap (rowsG G)=_
 rw [List.flatMap_map]
 congr 1
 funext t
 show ((t.table.rows.map (anew t.table)).filter _).map _=_
 rw [List.filter_map,List.map_map];rfl
theorem nowBase_good {b:Base}(h:GoodB b):GoodB (nowBase b):=by
 have hsk:=nowBase_skel b
 have hg:∀ k,k<b.tabs.length→Good (tabK (nowBase b) k):=fun k hk=>by rw [nowBase_tabK hk];exact nowT_ok (h.tab hk)
 refine ⟨⟨fun k hk=>hsk.place hk (h.ok.tabs k (by rw [← nowBase_len];exact hk)) (hg k (by rw [← nowBase_len];exact hk)).ok,by rw [nowBase_len];exact h.ok.ntab,h.ok.nlink,fun i hi=>?_⟩,⟨by rw [nowBase_len];exact h.sm.ntab,h.sm.nlink,fun k hk=>?_,fun k hk=>(hg k (by rw [← nowBase_len];exact hk)).sm⟩⟩
 ·have hl:=h.ok.links i hi
  have hs:=hl.fits.src
  refine ⟨hsk.fits hl.fits,hl.apart,fun k hk=>?_⟩
  have hs':tabN b ((nowBase b).links.getD i default).from_<b.tabs.length:=hs
  have hm:=getD_mem (d:=(default:Row)) hk
  rw [nowBase_tabT hs'] at hm
  obtain ⟨q,hq,e⟩:=now_mem.1 hm
  rw [nowBase_tabT hs',← e]
  intro hv
  rw [now_colV hs'] at hv ⊢
  have hd:tabN b ((nowBase b).links.getD i default).to<b.tabs.length:=hl.fits.dst
  rw [nowBase_tabT hd]
  exact now_rowN.2 ((hl.holds.mem hq) hv)
 ·rw [nowBase_len] at hk
  rw [nowBase_get hk];exact h.sm.names k hk
theorem now_off {b:Base}(h:BaseOK b)(hx:BaseOK (nowBase b))(nm:List UInt8)(id:Int):(offBB (nowBase b) nm id).2=(offBB b nm id).2:=by
 rcases offBB_cases h nm id with ⟨h1,e⟩|⟨h1,h2,e⟩|⟨h1,h2,e⟩<;>rcases offBB_cases hx nm id with ⟨g1,e'⟩|⟨g1,g2,e'⟩|⟨g1,g2,e'⟩<;>rw [e,e']
 ·exact absurd (now_has.1 g1) h1
 ·exact absurd (now_has.1 g1) h1
 ·exact absurd (now_has.2 h1) g1
 ·rw [now_goneE h,now_stops h] at g2
  exact absurd h2 g2
 ·exact absurd (now_has.2 h1) g1
 ·rw [now_goneE h,now_stops h] at g2
  exact absurd g2 h2
theorem law1005 (hf:BIG≤fu)(a:List Int)(ha:∀ b,b∈a→0≤b∧b≤255):f1005 fu a=some true:=by
 unfold f1005
 refine cond_long ?_
 obtain ⟨b,nm,id,e,hb,hn⟩:=d1027 (fu:=fu) hf ha
 rw [e,bs]
 simp only
 rw [f1028_is hf hb,bs,f1029_is hf hb,bs,dt rfl]
 simp only [Bool.not_true,cf]
 rw [f1019_is hf hb,bs]
 unfold f1005_j1
 by_cases hok:BaseOK b
 case neg=>rw [B_f hok];simp
 rw [B_t hok]
 simp only [Bool.not_true,cf]
 have hB:GoodB b:=⟨hok,hb⟩
 have hx:=nowBase_good hB
 have h3:=hok.ntab
 have fin:f1005_j2 fu (b,nm,id) (offBB b nm id) (b.tabs.map nowTab)=some true:=by
  unfold f1005_j2
  have eb:(⟨b.tabs.map nowTab,b.links⟩:Base)=nowBase b:=rfl
  have el:goneBB (nowBase b) nm id=goneBB b nm id:=by
   unfold goneBB
   by_cases h1:HasRow b nm id
   ·rw [if_pos ⟨hx.ok,now_has.2 h1⟩,if_pos ⟨hok,h1⟩,now_goneE hok,now_goneL]
   ·rw [if_neg fun hh=>h1 (now_has.1 hh.2),if_neg fun hh=>h1 hh.2]
  simp only [eb]
  rw [f1028_is hf hx.sm,bs,f1031_is hf hb,bs,f1031_is hf hx.sm,bs,el,dt rfl,Bool.not_true,cf]
  have hlen:=goneBB_len b nm id
  have:=loopE (L:=f1005_l2 (goneBB b nm id) (goneBB b nm id) (f1005_j3 fu (offBB b nm id) (offBB (nowBase b) nm id) (nowBase b))) (N:=(goneBB b nm id).length) (fun _=>False) none (f1005_j3 fu (offBB b nm id) (offBB (nowBase b) nm id) (nowBase b)) (by unfold BIG;omega) (fun n=>by
   rw [f1005_l2,nlt,cf]) (fun _ _ _ hh=>hh.elim) (fun n k hk _=>by
   rw [f1005_l2,ltR hk,ct,ge0,Bool.and_self,ct,ct,dt rfl,Bool.not_true,cf]) (fu:=fu) (by unfold BIG at hf;omega)
  rw [this,if_neg fun ⟨_,_,hh⟩=>hh]
  unfold f1005_j3
  rw [f1020_is hf hx.sm,B_t hx.ok,bs,ct,now_off hok hx.ok,dt rfl]
 have key:∀ (m n i:Nat),i+m=b.tabs.length→m<n→f1005_l1 fu (b,nm,id) (offBB b nm id) n (i:Int) ((b.tabs.take i).map nowTab)=some true:=by
  intro m
  induction m with
  | zero=>
   intro n i hi hn
   obtain ⟨n,rfl⟩:∃ z,n=z+1:=⟨n-1,by omega⟩
   have:i=b.tabs.length:=by omega
   subst this
   rw [f1005_l1,nlt,cf,List.take_length];exact fin
  | succ m ih=>
   intro n i hi hn
   obtain ⟨n,rfl⟩:∃ z,n=z+1:=⟨n-1,by omega⟩
   have hil:i<b.tabs.length:=by omega
   have g:=hB.tab hil
   have e34:f34 fu (b.tabs.getD i default).table=some (nowB (tabK b i)):=f34_is hf g.sm
   rw [f1005_l1,ltR hil,ct,ge0,Bool.and_self,ct,tn,e34,bs,cap (by rw [List.length_map,List.length_take,List.length_singleton];omega),ct,succI hil (by unfold BIG;omega)]
   have e2:((b.tabs.take i).map nowTab)++[(⟨(b.tabs.getD i default).name,nowB (tabK b i)⟩:Tab)]=(b.tabs.take (i+1)).map nowTab:=by
    rw [takeN (d:=default) hil,List.map_append,show nowB (tabK b i)=nowT (tabK b i) from if_pos g.ok];rfl
   rw [e2]
   exact ih n (i+1) (by omega) (by omega)
 exact key b.tabs.length fu 0 (by omega) (by unfold BIG at hf;omega)
end Go.Proofs.YtdpigighgmipfaaGreatDoor
