/- Bases copied, compared, written: program and document do as the model. -/
import Derived.Test.YtdpigighgmipfaaGreatDoorQ1005M26
set_option linter.all false
namespace Go.Proofs.YtdpigighgmipfaaGreatDoor
open Go Go.HL
variable {fu:Nat}
theorem f1059_is {b:Base}(hf:BIG≤fu)(h:SmB b):f1059 fu b=some b:=by
 have hN:=h.ntab
 have hL:=h.nlink
 have key:∀ (m n k:Nat),k+m=b.tabs.length→m<n→f1059_l1 fu b n (k:Int) ⟨b.tabs.take k,b.links⟩=some b:=by
  intro m
  induction m with
  | zero=>
   intro n k hk hn
   obtain ⟨n,rfl⟩:∃ i,n=i+1:=⟨n-1,by omega⟩
   have:k=b.tabs.length:=by omega
   subst this
   rw [f1059_l1,nlt,List.take_length];rfl
  | succ m ih=>
   intro n k hk hn
   obtain ⟨n,rfl⟩:∃ i,n=i+1:=⟨n-1,by omega⟩
   have hkl:k<b.tabs.length:=by omega
   have e1:f42 fu (b.tabs.getD k default).table=some (b.tabs.getD k default).table:=f42_is hf (h.tabs k hkl)
   rw [f1059_l1,inR hkl,ltR hkl,ct,ct,ct,tn,e1,bs,cap (by rw [List.length_take,List.length_singleton];omega),ct,succI hkl (by unfold BIG;omega)]
   have e:(⟨b.tabs.take k++[(⟨(b.tabs.getD k default).name,(b.tabs.getD k default).table⟩:Tab)],b.links⟩:Base)=⟨b.tabs.take (k+1),b.links⟩:=by
    rw [takeN (d:=default) hkl]
   rw [e]
   exact ih n (k+1) (by omega) (by omega)
 unfold f1059
 rw [cap (by rw [List.length_nil];omega),ct]
 exact key b.tabs.length fu 0 (by omega) (by unfold BIG at hf;omega)
theorem f1058_is {l:List Tab}(h:l.length≤5000):f1058 l=some l:=by
 unfold f1058 f1126 f1125
 rw [cap (by rw [List.length_nil];omega)];rfl
theorem f1082_is {l:List Link}(h:l.length≤5000):f1082 l=some l:=by
 unfold f1082 f1142 f1141
 rw [cap (by rw [List.length_nil];omega)];rfl
theorem f1054_is {b:Base}(hf:BIG≤fu)(h:SmB b):f1054 fu b=some b:=by
 have hN:=h.ntab
 have hL:=h.nlink
 have key:∀ (m n k:Nat),k+m=b.tabs.length→m<n→f1054_l1 fu b b.links n (k:Int) b.tabs=some b:=by
  intro m
  induction m with
  | zero=>
   intro n k hk hn
   obtain ⟨n,rfl⟩:∃ i,n=i+1:=⟨n-1,by omega⟩
   have:k=b.tabs.length:=by omega
   subst this
   rw [f1054_l1,nlt];rfl
  | succ m ih=>
   intro n k hk hn
   obtain ⟨n,rfl⟩:∃ i,n=i+1:=⟨n-1,by omega⟩
   have hkl:k<b.tabs.length:=by omega
   have e1:f80 fu (b.tabs.getD k default).table=some (b.tabs.getD k default).table:=f80_is hf (h.tabs k hkl)
   rw [f1054_l1,inR hkl,ltR hkl,ct,ct,tn,e1,bs,ct,succI hkl (by unfold BIG;omega)]
   have e:b.tabs.set k { (b.tabs.getD k default) with table:=(b.tabs.getD k default).table } = b.tabs:=set_self hkl
   rw [e]
   exact ih n (k+1) (by omega) (by omega)
 unfold f1054 f1054_j1
 rw [f1058_is (by omega),bs,f1082_is (by omega),bs]
 exact key b.tabs.length fu 0 (by omega) (by unfold BIG at hf;omega)
theorem f1197_is {b:Base}(hf:BIG≤fu)(h:TabsG b)(hl:∀ i,i<b.links.length→LinkFits b (b.links.getD i default)):f1197 fu b=some (B (Held b)):=by
 have hN:=h.sm.nlink
 unfold f1197
 have hp:Held b↔((∀ i,i<b.links.length→LinkHolds b (b.links.getD i default))∧True):=⟨fun h=>⟨h,trivial⟩,fun h=>h.1⟩
 rw [B_congr hp]
 refine loopB (L:=f1197_l1 fu b) _ _ (by unfold BIG;omega) (fun n _=>?_) (fun n h=>absurd trivial h) (fun n k hk hp=>?_) (fun n k hk hp=>?_) (by unfold BIG at hf;omega)
 ·rw [f1197_l1,nlt];rfl
 ·rw [f1197_l1,ltR hk,ct,ge0,Bool.and_self,ct,tn,f1070_is hf h (hl k hk),bs,B_t hp];rfl
 ·rw [f1197_l1,ltR hk,ct,ge0,Bool.and_self,ct,tn,f1070_is hf h (hl k hk),bs,B_f hp];rfl
theorem setTab_g {b:Base}{k:Nat}{t:Table}(h:GoodB b)(hk:k<b.tabs.length)(ht:Good t):TabsG (setTab b k t):=
 ⟨fun i hi=>by
  rw [setTab_len] at hi
  rw [setTab_tabK hk]
  split
  ·exact ht.ok
  ·exact (h.ok.tabs i hi).ok,setTab_sm h.sm hk ht.sm⟩
theorem setTab_fits {b:Base}{k:Nat}{t:Table}(h:GoodB b)(hk:k<b.tabs.length)(hs:lastS t=lastS (tabK b k)):∀ i,i < (setTab b k t).links.length→LinkFits (setTab b k t) ((setTab b k t).links.getD i default):=fun i hi=>
 (setTab_skel hk hs).fits (h.ok.links i hi).fits
theorem f1163_is {b:Base}{k:Nat}{t:Table}{c:Int}(hf:BIG≤fu)(h:GoodB b)(hk:k<b.tabs.length)(ht:Good t)(hs:lastS t=lastS (tabK b k)):f1163 fu b (k:Int) t c=some (writeB b k (t,c)):=by
 unfold f1163 writeB
 by_cases hc:c=0
 case neg=>rw [df hc,if_pos hc];rfl
 rw [dt hc,if_neg (fun hh=>hh hc)]
 simp only [Bool.not_true,cf]
 rw [f1059_is hf h.sm,bs,inR hk,ct,tn]
 show (f1197 fu (setTab b k t)).bind _=_
 rw [f1197_is hf (setTab_g h hk ht) (setTab_fits h hk hs),bs]
 by_cases hh:Held (setTab b k t)
 ·rw [B_t hh,if_pos hh,hc];rfl
 ·rw [B_f hh,if_neg hh];rfl
theorem f1109_is {b:Base}{nm:List UInt8}{xs:List Set}(hf:BIG≤fu)(h:GoodB b)(hx:SmX xs):f1109 fu b nm xs=some (putX b nm xs):=by
 unfold f1109 putX
 rw [f1062_is hf h.sm.ntab,bs]
 by_cases hk:tabN b nm<b.tabs.length
 case neg=>rw [tabI_no hk,if_neg hk];rfl
 have g:=h.tabT hk
 rw [tabI_lt hk,natn,cf,inR hk,ct,tn,tabT_at,f42_is hf g.sm,bs,f65_is hf g.ok g.sm hx,bs,f1163_is hf h hk ⟨putT_ok g.ok,putT_sm g.ok g.sm hx⟩ (putT_last _ _),if_pos hk];rfl
theorem f1105_is {b:Base}{nm:List UInt8}{id:Int}{xs:List Set}(hf:BIG≤fu)(h:GoodB b)(hx:SmX xs):f1105 fu b nm id xs=some (setX b nm id xs):=by
 unfold f1105 setX
 rw [f1062_is hf h.sm.ntab,bs]
 by_cases hk:tabN b nm<b.tabs.length
 case neg=>rw [tabI_no hk,if_neg hk];rfl
 have g:=h.tabT hk
 rw [tabI_lt hk,natn,cf,inR hk,ct,tn,tabT_at,f42_is hf g.sm,bs,f76_is hf g.ok g.sm hx,bs,f1163_is hf h hk ⟨setT_ok g.ok,setT_sm g.ok g.sm hx⟩ (setT_last _ _ _),if_pos hk];rfl
theorem f124_new {s:List Col}(hf:BIG≤fu)(h:ShapeOK s):f124 fu s=some (newT s):=by
 have hhi:=h.hi
 unfold f124
 rw [f86_is hf h.sm,B_t h,bs]
 simp only [Bool.not_true,cf]
 rw [cap (by rw [List.length_nil];omega)];rfl
theorem tabI_ge {b:Base}{nm:List UInt8}:decide (0≤tabI b nm)=B (tabN b nm<b.tabs.length):=by
 by_cases h:tabN b nm<b.tabs.length
 ·rw [tabI_lt h,ge0,B_t h]
 ·rw [tabI_no h,B_f h];rfl
theorem f1017_is {b:Base}{nm:List UInt8}{s:List Col}(hf:BIG≤fu)(h:SmB b)(hn:nm.length≤1000)(hs:SmS s):f1017 fu b nm s=some (tableBB b nm s):=by
 have hN:=h.ntab
 unfold f1017 tableBB tableX
 rw [f1019_is hf h,bs]
 by_cases hb:BaseOK b
 case neg=>rw [B_f hb,if_neg hb];rfl
 have h3:=hb.ntab
 rw [B_t hb,if_pos hb]
 simp only [Bool.not_true,cf]
 rw [f1059_is hf h,bs,f135_sm hf hn,bs]
 unfold f1017_j1
 by_cases h1:NameOK nm
 case neg=>rw [B_f h1,if_pos (.inl h1)];rfl
 rw [B_t h1]
 simp only [Bool.not_true,cf]
 rw [f86_is hf hs,bs]
 by_cases h2:ShapeOK s
 case neg=>rw [B_f h2,if_pos (.inr (.inr h2))];rfl
 rw [B_t h2]
 simp only [Bool.not_true,cf]
 rw [f1062_is hf hN,bs,tabI_ge]
 by_cases hk:tabN b nm<b.tabs.length
 ·rw [B_t hk,if_pos (.inr (.inl hk))];rfl
 rw [B_f hk,if_neg (fun hh=>hh.elim (fun g=>g h1) fun hh=>hh.elim hk fun g=>g h2),cf]
 by_cases hl:b.tabs.length=3
 ·rw [dt (show (3:Int)≤(b.tabs.length:Int) by omega),if_pos hl];rfl
 ·rw [df (show ¬ (3:Int)≤(b.tabs.length:Int) by omega),if_neg hl,cf,f124_new hf h2,bs,cap (by rw [List.length_singleton];omega)];rfl
theorem f1025_is {b:Base}{l:Link}(hf:BIG≤fu)(h:SmB b):f1025 fu b l=some (linkBB b l):=by
 have hN:=h.ntab
 have hL:=h.nlink
 unfold f1025 linkBB linkX
 rw [f1019_is hf h,bs]
 by_cases hb:BaseOK b
 case neg=>rw [B_f hb,if_neg hb];rfl
 have hB:GoodB b:=⟨hb,h⟩
 rw [B_t hb,if_pos hb]
 simp only [Bool.not_true,cf]
 rw [f1059_is hf h,bs,cap (by rw [List.length_singleton];omega),ct,f1068_is hf hB.g,bs]
 unfold f1025_j1
 rw [f1059_is hf h]
 by_cases h1:LinkFits b l
 case neg=>rw [B_f h1,if_pos (.inl h1)];rfl
 rw [B_t h1]
 simp only [Bool.not_true,cf]
 have e1:IntKind.i64.wrap ((List.length ((⟨b.tabs,b.links++([l]:List Link)⟩:Base).links):Int)-1)=(b.links.length:Int):=by
  have:List.length ((⟨b.tabs,b.links++([l]:List Link)⟩:Base).links)=b.links.length+1:=by simp
  rw [this,wrapI (by omega) (by omega)];omega
 rw [e1]
 show (f1069 fu (addLink b l) (b.links.length:Int)).bind _=_
 rw [f1069_is hf (by rw [addLink_len];have:=hb.nlink;omega) (by rw [addLink_len];omega),bs]
 have e2:LinkApart (addLink b l) b.links.length↔¬ Linked b l.from_ l.col:=by
  constructor
  ·rintro g ⟨k,hk,h1,h2⟩
   have:=g k hk
   rw [addLink_new,addLink_get hk] at this
   exact this ⟨h1,h2⟩
  ·intro g k hk
   rw [addLink_new,addLink_get hk]
   exact fun hh=>g ⟨k,hk,hh.1,hh.2⟩
 rw [B_congr e2]
 by_cases h2:Linked b l.from_ l.col
 ·rw [B_f (show ¬ ¬ Linked b l.from_ l.col from fun hh=>hh h2),if_pos (.inr h2)];rfl
 rw [B_t h2,if_neg (fun hh=>hh.elim (fun g=>g h1) h2)]
 simp only [Bool.not_true,cf]
 rw [f1070_is hf hB.g h1,bs]
 by_cases h3:LinkHolds b l
 case neg=>rw [B_f h3,if_pos h3];rfl
 rw [B_t h3,if_neg (fun hh=>hh h3)]
 simp only [Bool.not_true,cf]
 have h4:=hb.nlink
 by_cases hl:b.links.length=4
 ·rw [dt (show (4:Int)≤(b.links.length:Int) by omega),if_pos hl];rfl
 ·rw [df (show ¬ (4:Int)≤(b.links.length:Int) by omega),if_neg hl];rfl
end Go.Proofs.YtdpigighgmipfaaGreatDoor
/- Columns of a table of a base changed: program and document do as the model. -/
namespace Go.Proofs.YtdpigighgmipfaaGreatDoor
open Go Go.HL
variable {fu:Nat}
theorem ite_B {p:Prop}:@ite _ p (Classical.propDecidable _) (some true) (some false)=some (B p):=by
 by_cases h:p
 ·rw [if_pos h,B_t h]
 ·rw [if_neg h,B_f h]
theorem f1159_is {b:Base}{nm col:List UInt8}(hf:BIG≤fu)(h:b.links.length≤1000):f1159 fu b nm col=some (B (Linked b nm col)):=by
 unfold f1159
 have step:∀ n (k:Nat),k<b.links.length→f1159_l1 b nm col (n+1) (k:Int)=f1159_j2 (k:Int) (f1159_l1 b nm col n) (B ((b.links.getD k default).from_=nm∧(b.links.getD k default).col=col)):=fun n k hk=>by
  rw [f1159_l1,ltR hk,ct,ge0,Bool.and_self,ct,tn,ct,B_and,dec_B,dec_B]
  cases B ((b.links.getD k default).from_=nm)<;>rfl
 rw [← ite_B]
 refine loopE (L:=f1159_l1 b nm col) (fun k=>(b.links.getD k default).from_=nm∧(b.links.getD k default).col=col) _ _ (by unfold BIG;omega) (fun n=>?_) (fun n k hk hp=>?_) (fun n k hk hp=>?_) (by unfold BIG at hf;omega)
 ·rw [f1159_l1,nlt];rfl
 ·rw [step n k hk,B_t hp];rfl
 ·rw [step n k hk,B_f hp];rfl
def mid {α:Type}(f:α→α)(l:List α)(k:Nat):List α:=(l.take k).map f++l.drop k
theorem mid_zero {α:Type}(f:α→α)(l:List α):mid f l 0=l:=rfl
theorem mid_all {α:Type}(f:α→α)(l:List α):mid f l l.length=l.map f:=by
 unfold mid
 rw [List.take_length,List.drop_length,List.append_nil]
theorem mid_len {α:Type}(f:α→α)(l:List α){k:Nat}(hk:k≤l.length):(mid f l k).length=l.length:=by unfold mid;simp;omega
theorem mid_get {α:Type}{f:α→α}{l:List α}{d:α}{k:Nat}(hk:k<l.length):(mid f l k).getD k d=l.getD k d:=by
 unfold mid
 rw [List.getD_eq_getElem?_getD,List.getElem?_append_right (by simp;omega),List.getD_eq_getElem?_getD]
 have:k - ((l.take k).map f).length=0:=by simp;omega
 rw [this,List.getElem?_drop,Nat.add_zero]
theorem mid_set {α:Type}{f:α→α}{l:List α}{d:α}{k:Nat}(hk:k<l.length):(mid f l k).set k (f (l.getD k d))=mid f l (k+1):=by
 unfold mid
 rw [List.set_append_right _ _ (by simp;omega)]
 have:k - ((l.take k).map f).length=0:=by simp;omega
 rw [this,takeN (d:=d) hk,List.map_append,dropN (d:=d) hk,List.append_assoc];rfl
theorem mid_same {α:Type}{f:α→α}{l:List α}{d:α}{k:Nat}(hk:k<l.length)(h:f (l.getD k d)=l.getD k d):mid f l k=mid f l (k+1):=by
 rw [← mid_set (d:=d) hk,h,← mid_get (f:=f) (d:=d) hk,set_self (by rw [mid_len f l (by omega)];exact hk)]
theorem f1100_l {T:List Tab}{nm:List UInt8}{c:Change}{z:Int}{ls:List Link}(hl:ls.length≤1000):∀ (m n k:Nat),k+m=ls.length→m<n→f1100_l1 nm c z n (k:Int) T (mid (reLink nm c) ls k)=some (⟨T,ls.map (reLink nm c)⟩,z):=by
 intro m
 induction m with
 | zero=>
  intro n k hk hn
  obtain ⟨n,rfl⟩:∃ i,n=i+1:=⟨n-1,by omega⟩
  have:k=ls.length:=by omega
  subst this
  rw [f1100_l1,mid_len _ _ (Nat.le_refl _),nlt,cf,mid_all]
 | succ m ih=>
  intro n k hk hn
  obtain ⟨n,rfl⟩:∃ i,n=i+1:=⟨n-1,by omega⟩
  have hkl:k<ls.length:=by omega
  have hml:=mid_len (reLink nm c) ls (show k≤ls.length by omega)
  have hg:=mid_get (f:=reLink nm c) (d:=(default:Link)) hkl
  have hs:=succI hkl (show ls.length≤BIG by unfold BIG;omega)
  have go:=ih n (k+1) (by omega) (by omega)
  have hyes:c.kind=3∧(ls.getD k default).from_=nm∧(ls.getD k default).col=c.name→f1100_j5 c (k:Int) T (mid (reLink nm c) ls k) (f1100_l1 nm c z n) true=some (⟨T,ls.map (reLink nm c)⟩,z):=fun hh=>by
   unfold f1100_j5 f1100_j6
   rw [ct,hml,inR hkl,ct,tn,hg]
   simp only [hs]
   have e:({ (ls.getD k default) with col:=c.new }:Link)=reLink nm c (ls.getD k default):=(if_pos hh).symm
   rw [e,mid_set hkl];exact go
  have hno:¬ (c.kind=3∧(ls.getD k default).from_=nm∧(ls.getD k default).col=c.name)→f1100_j5 c (k:Int) T (mid (reLink nm c) ls k) (f1100_l1 nm c z n) false=some (⟨T,ls.map (reLink nm c)⟩,z):=fun hh=>by
   unfold f1100_j5 f1100_j6
   rw [cf]
   simp only [hs]
   have e:reLink nm c (ls.getD k default)=ls.getD k default:=if_neg hh
   rw [mid_same (d:=(default:Link)) hkl e];exact go
  rw [f1100_l1,hml,ltR hkl,ct,ge0,Bool.and_self,ct,tn,hg]
  by_cases h1:c.kind=3
  case neg=>rw [df h1,cf];exact hno fun hh=>h1 hh.1
  rw [dt h1,ct]
  by_cases h2:(ls.getD k default).from_=nm
  case neg=>rw [df h2,cf];exact hno fun hh=>h2 hh.2.1
  rw [dt h2,ct]
  by_cases h3:(ls.getD k default).col=c.name
  ·rw [dt h3];exact hyes ⟨h1,h2,h3⟩
  ·rw [df h3];exact hno fun hh=>h3 hh.2.2
theorem f1100_is {b:Base}{nm:List UInt8}{c:Change}(hf:BIG≤fu)(h:GoodB b)(hc:SmCh c):f1100 fu b nm c=some (changeX b nm c):=by
 unfold f1100 changeX
 rw [f1062_is hf h.sm.ntab,bs]
 by_cases hk:tabN b nm<b.tabs.length
 case neg=>rw [tabI_no hk,if_neg hk];rfl
 have g:=h.tabT hk
 rw [tabI_lt hk,natn,cf,inR hk,ct,tn,tabT_at,f42_is hf g.sm,bs,f72_is hf g.ok g.sm hc,bs,if_pos hk]
 unfold f1100_j1
 have j2t:f1100_j2 fu b nm c (tabN b nm:Int) (chgT (tabT b nm) c).2 (chgT (tabT b nm) c).1 true=some (b,8):=rfl
 have j2f:f1100_j2 fu b nm c (tabN b nm:Int) (chgT (tabT b nm) c).2 (chgT (tabT b nm) c).1 false=some (if (chgT (tabT b nm) c).2≠0 then (b,(chgT (tabT b nm) c).2) else (chgBase b (tabN b nm) (chgT (tabT b nm) c).1 nm c,0)):=by
  unfold f1100_j2
  rw [cf]
  by_cases hz:(chgT (tabT b nm) c).2=0
  case neg=>rw [df hz,if_pos hz];rfl
  rw [dt hz,if_neg (fun hh=>hh hz),f1059_is hf h.sm,bs,inR hk,tn]
  simp only [Bool.not_true,cf,ct]
  have:=f1100_l (T:=b.tabs.set (tabN b nm) ({ (b.tabs.getD (tabN b nm) default) with table:=(chgT (tabT b nm) c).1 }:Tab)) (nm:=nm) (c:=c) (z:=(chgT (tabT b nm) c).2) (ls:=b.links) h.sm.nlink b.links.length fu 0 (by omega) (by have:=h.sm.nlink;unfold BIG at hf;omega)
  rw [mid_zero] at this
  refine this.trans ?_
  rw [hz];rfl
 by_cases h1:(chgT (tabT b nm) c).2=1
 ·rw [dt h1,if_pos h1]
  simp only [Bool.not_true,cf]
  rw [j2f,if_pos (by rw [h1];decide),h1]
 rw [df h1,if_neg h1]
 simp only [Bool.not_false,ct]
 have hu:f1159 fu b nm c.name=some (B (Linked b nm c.name)):=f1159_is hf h.sm.nlink
 rw [hu,bs]
 have hcase:∀ q:Prop,q→(q∧Linked b nm c.name↔Linked b nm c.name):=fun q hq=>⟨fun hh=>hh.2,fun hh=>⟨hq,hh⟩⟩
 by_cases k2:c.kind=2
 ·rw [dt k2,ct]
  by_cases hl:Linked b nm c.name
  ·rw [B_t hl,if_pos ⟨.inl k2,hl⟩];rfl
  ·rw [B_f hl,if_neg (fun hh=>hl hh.2)];exact j2f
 rw [df k2,cf]
 by_cases k4:c.kind=4
 ·rw [dt k4,ct]
  by_cases hl:Linked b nm c.name
  ·rw [B_t hl,if_pos ⟨.inr k4,hl⟩];rfl
  ·rw [B_f hl,if_neg (fun hh=>hl hh.2)];exact j2f
 rw [df k4,cf,if_neg (fun hh=>hh.1.elim k2 k4)]
 exact j2f
end Go.Proofs.YtdpigighgmipfaaGreatDoor
