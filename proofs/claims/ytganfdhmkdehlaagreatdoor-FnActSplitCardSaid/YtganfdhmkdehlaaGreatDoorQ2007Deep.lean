/- A logic of slots. -/
import Derived.Test.YtganfdhmkdehlaaGreatDoorQ2007Ty
import Derived.KernelRfl
set_option linter.all false
namespace Go.Proofs.YtganfdhmkdehlaaGreatDoor
open Go Go.HL
structure pU where
 id:Int
 ver:Int
 vals:Value
  deriving Inhabited
def cS:Ty pU:=((tI .i64).x ((tI .i64).x tRaw)).iso fun d=>(d.id,d.ver,d.vals)
theorem uZ:Fld cS 0 (tI .i64) (fun d=>d.id) (fun d x=>{ d with id:=x }):=Fld.iso Fld.fst fun _ _=>rfl
theorem uY:Fld cS 1 (tI .i64) (fun d=>d.ver) (fun d x=>{ d with ver:=x }):=Fld.iso (Fld.snd Fld.fst) fun _ _=>rfl
theorem js:Fld cS 2 tRaw (fun d=>d.vals) (fun d x=>{ d with vals:=x }):=Fld.iso (Fld.snd Fld.last) fun _ _=>rfl
abbrev H1:pU:=⟨0,0,.slice none 0 0⟩
theorem zRA:bx Tryz.prog 66 cS H1 []:=⟨(.agg #[.int .i64 0,.int .i64 0,.slice none 0 0]),by kernel_rfl,fun A w=>⟨[.int .i64 0],[.int .i64 0,.slice none 0 0],rfl,rfl,[.int .i64 0],[.slice none 0 0],rfl,rfl,rfl,rfl⟩,fun _ h=>nomatch h⟩
def factO (K:Nat)(ras:List pU)(rs:List Row):Own where
 blk:=none
 lo:=0
 ok A w:=ras.length=rs.length∧∀ i ra r,ras[i]? = some ra→rs[i]? = some r→ra.id=r.id∧ra.ver=r.ver∧(i≠K→slRel tVal r.vals ra.vals A w)
 good:=fun hs _ h=>⟨h.1,fun i ra r h1 h2=>by
  obtain ⟨a1,a2,a3⟩:=h.2 i ra r h1 h2
  exact ⟨a1,a2,fun hn=>(a3 hn).good hs⟩⟩
def nilO:Own:=⟨none,0,fun _ _=>True,fun _ _ h=>h⟩
def kO (K:Nat)(ras:List pU)(rs:List Row):Own:=cond (decide (K<rs.length)) (arrO tVal (ras.getD K default).vals (rs.getD K default).vals) nilO
theorem Cs {K:Nat}{ras:List pU}{rs:List Row}{ra:pU}{r:Row}(hl:ras.length=rs.length)(h:rs.length≠K):kO K (ras++[ra]) (rs++[r])=kO K ras rs:=by
 unfold kO
 by_cases hk:K<rs.length
 ·have h1:K < (rs++[r]).length:=by simp;omega
  simp only [hk,h1,decide_true,cond_true]
  simp only [List.getD_eq_getElem?_getD,List.getElem?_append_left hk,List.getElem?_append_left (show K<ras.length by omega)]
 ·have h1:¬ K < (rs++[r]).length:=by simp;omega
  simp only [hk,h1,decide_false,cond_false]
theorem Ct {ras:List pU}{rs:List Row}{ra:pU}{r:Row}(hl:ras.length=rs.length):kO rs.length (ras++[ra]) (rs++[r])=arrO tVal ra.vals r.vals:=by
 unfold kO
 have h1:rs.length < (rs++[r]).length:=by simp
 simp only [h1,decide_true,cond_true]
 simp only [List.getD_eq_getElem?_getD,List.getElem?_append_right (Nat.le_refl _),List.getElem?_append_right (show ras.length≤rs.length by omega)]
 simp [hl]
section
variable {P:Program}{f:FuncId}{e:Env}{ρ:Type}{R:ρ→Value→World→Prop}{Kp:ρ→Act→World→Prop}
variable {S:List (Nat×Ent)}{B B':List Own}{k:List Item}{r r':Option ρ}{arr:Array Oper}{l:List Oper}{x:Operand}{ov:Option Value}{v:Value}{xs:List Val}
variable {K:Nat}{ras:List pU}{rs:List Row}
theorem Hs (O:Own)(hb:O.blk=none)(ho:∀ A w,O.ok A w){a:Act}{w:World}(hk:Holds e ⟨S,B⟩ a w):Holds e ⟨S,B++[O]⟩ a w:=(hk.tok hb fun A=>ho A w).permute (List.perm_append_singleton O B).symm
theorem zO (O:Own)(hb:O.blk=none)(ho:∀ A w,O.ok A w)(h:W P f e R k ⟨S,B++[O]⟩ r):W P f e R k ⟨S,B⟩ r:=fun q hq a w hk=>h q hq a w (Hs O hb ho hk)
theorem W_factLen (i:Nat)(hB:B[i]? = some (factO K ras rs))(h:ras.length=rs.length→W P f e R k ⟨S,B⟩ r):W P f e R k ⟨S,B⟩ r:=fun q hq a w hk=>h (hk.owns _ (get_mem hB)).1 q hq a w hk
theorem tN (i t:Nat)(id ver:Int)(ht:HL.look S t=some ((tL tVal).va xs,some v))(hB:B[i]? = some (factO K ras rs))(h:WO P e Kp arr l ⟨S,B.set i (factO K (ras++[⟨id,ver,v⟩]) (rs++[⟨id,ver,xs⟩]))⟩ r):WO P e Kp arr l ⟨S,B⟩ r:=fun q hq a w hk=>by
 have h1:=hk.slots t _ ht
 have h2:slRel tVal xs v (Acur e B w) w:=by have:=h1.1;rw [h1.2 v rfl] at this;exact this
 refine h q hq a w (hk.recast hB rfl rfl ?_)
 rintro ⟨g1,g2⟩
 refine ⟨by simp [g1],fun i ra r e1 e2=>?_⟩
 by_cases hi:i<rs.length
 ·rw [List.getElem?_append_left (by omega)] at e1 e2
  exact g2 i ra r e1 e2
 ·rw [List.getElem?_append_right (by omega)] at e1 e2
  have hi0:i-rs.length=0:=by
   have:=(List.getElem?_eq_some_iff.1 e2).1
   simp at this;omega
  rw [hi0] at e2
  rw [g1,hi0] at e1
  simp at e1 e2
  subst e1 e2
  exact ⟨rfl,rfl,fun _=>h2⟩
theorem rh (i:Nat)(id ver:Int)(v:Value)(xs:List Val)(hB:B[i]? = some (factO rs.length ras rs))(h:WO P e Kp arr l ⟨S,B.set i (factO rs.length (ras++[⟨id,ver,v⟩]) (rs++[⟨id,ver,xs⟩]))⟩ r):WO P e Kp arr l ⟨S,B⟩ r:=fun q hq a w hk=>by
 refine h q hq a w (hk.recast hB rfl rfl ?_)
 rintro ⟨g1,g2⟩
 refine ⟨by simp [g1],fun i ra r e1 e2=>?_⟩
 by_cases hi:i<rs.length
 ·rw [List.getElem?_append_left (by omega)] at e1 e2
  exact g2 i ra r e1 e2
 ·rw [List.getElem?_append_right (by omega)] at e1 e2
  have hi0:i-rs.length=0:=by
   have:=(List.getElem?_eq_some_iff.1 e2).1
   simp at this;omega
  rw [hi0] at e2
  rw [g1,hi0] at e1
  simp at e1 e2
  subst e1 e2
  exact ⟨rfl,rfl,fun h=>absurd (by omega) h⟩
theorem zP (he:r=r')(h:WO P e Kp arr l ⟨S,B⟩ r'):WO P e Kp arr l ⟨S,B⟩ r:=he▸h
theorem W_bEq (hb:B=B')(h:W P f e R k ⟨S,B'⟩ r):W P f e R k ⟨S,B⟩ r:=hb▸h
theorem Hq {α:Type}{T:Ty α}{xs:List α}(hx:ay S x=some ((tL T).va xs,some v)):∀ a w,Holds e ⟨S,B⟩ a w→(tRaw.va v).f (a.eval x) (Acur e B w) w:=fun a w hk=>by
 have h:=hk.ev' (K:=⟨S,B⟩) hx
 have h2:=h.2 v rfl
 have h1:=h.1
 rw [h2] at h1
 exact ⟨h2,slRel.plain h1⟩
end
section
variable {P:Program}{f:FuncId}{e:Env}{ρ:Type}{R:ρ→Value→World→Prop}{Kp:ρ→Act→World→Prop}
variable {S:List (Nat×Ent)}{B B':List Own}{k:List Item}{r r':Option ρ}{arr:Array Oper}{l rest:List Oper}{x:Operand}{ov:Option Value}{v:Value}{xs:List Val}
variable {K:Nat}{ras:List pU}{rs:List Row}{d:Nat}{ty t u el:TypeId}{pos:String}{af:Array Edge}
theorem Dy (hb:B=B')(h:WO P e Kp arr l ⟨S,B'⟩ r):WO P e Kp arr l ⟨S,B⟩ r:=hb▸h
theorem tb (h:K<rs.length):kO K ras rs=arrO tVal (ras.getD K default).vals (rs.getD K default).vals:=by unfold kO;rw [decide_eq_true h];rfl
theorem Cr {w:Value}(hl:ras.length=rs.length)(h:K<rs.length):kO K (ras.set K { ras.getD K default with vals:=w }) (rs.set K { rs.getD K default with vals:=xs })=arrO tVal w xs:=by
 rw [tb (by simpa using h)]
 simp [List.getD_eq_getElem?_getD,h,hl]
theorem Ap (hl:ras.length=rs.length)(h:K<rs.length):kO K ras (rs.set K { rs.getD K default with vals:=xs })=arrO tVal (ras.getD K default).vals xs:=by
 rw [tb (by simpa using h)]
 simp [List.getD_eq_getElem?_getD,h]
theorem xQ {A:Ar}{w:World}{u:Value}(h:(factO K ras rs).ok A w):(factO K (ras.set K { ras.getD K default with vals:=u }) (rs.set K { rs.getD K default with vals:=xs })).ok A w:=by
 obtain ⟨h1,h2⟩:=h
 refine ⟨by simpa using h1,fun i ra r e1 e2=>?_⟩
 by_cases hi:K=i
 ·subst hi
  have hlt:K<rs.length:=by have:=(List.getElem?_eq_some_iff.1 e2).1;simpa using this
  rw [List.getElem?_set_self (by omega)] at e1
  rw [List.getElem?_set_self hlt] at e2
  injection e1 with e1
  injection e2 with e2
  subst e1 e2
  have h3:=h2 K ras[K] rs[K] (List.getElem?_eq_getElem (by omega)) (List.getElem?_eq_getElem hlt)
  simp only [List.getD_eq_getElem?_getD,List.getElem?_eq_getElem hlt,List.getElem?_eq_getElem (show K<ras.length by omega),Option.getD_some]
  exact ⟨h3.1,h3.2.1,fun hn=>absurd rfl hn⟩
 ·rw [List.getElem?_set_ne hi] at e1 e2
  exact h2 i ra r e1 e2
theorem uV {A:Ar}{w:World}(h:(factO K ras rs).ok A w):(factO K ras (rs.set K { rs.getD K default with vals:=xs })).ok A w:=by
 obtain ⟨h1,h2⟩:=h
 refine ⟨by simpa using h1,fun i ra r e1 e2=>?_⟩
 by_cases hi:K=i
 ·subst hi
  have hlt:K<rs.length:=by have:=(List.getElem?_eq_some_iff.1 e2).1;simpa using this
  rw [List.getElem?_set_self hlt] at e2
  injection e2 with e2
  subst e2
  have h3:=h2 K ra rs[K] e1 (List.getElem?_eq_getElem hlt)
  simp only [List.getD_eq_getElem?_getD,List.getElem?_eq_getElem hlt,Option.getD_some]
  exact ⟨h3.1,h3.2.1,fun hn=>absurd rfl hn⟩
 ·rw [List.getElem?_set_ne hi] at e2
  exact h2 i ra r e1 e2
theorem wN (i:Nat)(u:Value)(xs:List Val)(hB:B[i]? = some (factO K ras rs))(h:W P f e R k ⟨S,B.set i (factO K (ras.set K { ras.getD K default with vals:=u }) (rs.set K { rs.getD K default with vals:=xs }))⟩ r):W P f e R k ⟨S,B⟩ r:=
 fun q hq a w hk=>h q hq a w (hk.recast hB rfl rfl xQ)
theorem tM (i:Nat)(xs:List Val)(hB:B[i]? = some (factO K ras rs))(h:W P f e R k ⟨S,B.set i (factO K ras (rs.set K { rs.getD K default with vals:=xs }))⟩ r):W P f e R k ⟨S,B⟩ r:=
 fun q hq a w hk=>h q hq a w (hk.recast hB rfl rfl uV)
theorem oX {A:Ar}{w:World}:∀ {ras:List pU} {rs:List Row} {cs:List Value},ras.length=rs.length→(∀ (i:Nat) (ra:pU) (r:Row),ras[i]? = some ra→rs[i]? = some r→ra.id=r.id∧ra.ver=r.ver∧slRel tVal r.vals ra.vals A w)→flat cS ras cs A w→flat tRow rs cs A w
 | [],[],_,_,_,h=>h
 | [],_::_,_,h,_,_=>by simp at h
 | _::_,[],_,h,_,_=>by simp at h
 | ra::ras,r::rs,cs,hl,hr,⟨c1,c2,e1,h1,h2⟩=>by
  obtain ⟨a1,a2,a3⟩:=hr 0 ra r rfl rfl
  refine ⟨c1,c2,e1,?_,oX (by simpa using hl) (fun i ra r g1 g2=>hr (i+1) ra r (by simpa using g1) (by simpa using g2)) h2⟩
  obtain ⟨d1,_,rfl,b1,d2,_,rfl,b2,b3⟩:=h1
  have b1':d1=[Value.int .i64 ra.id]:=b1
  have b2':d2=[Value.int .i64 ra.ver]:=b2
  rw [a1] at b1'
  rw [a2] at b2'
  exact ⟨_,_,rfl,b1',_,_,rfl,b2',⟨_,b3.1,a3⟩⟩
theorem Holds.close (i j m:Nat){a:Act}{w:World}(hk:Holds e ⟨S,B⟩ a w)(hB:B[m]? = some (kO K ras rs))(hj:(B.set m (cond (decide (K<rs.length)) (appO tVal.sz (ras.getD K default).vals) nilO))[j]? = some (factO K ras rs))(hi:(B.set m (cond (decide (K<rs.length)) (appO tVal.sz (ras.getD K default).vals) nilO))[i]? = some (arrO cS v ras)) :
     Holds e ⟨S,(B.set m (cond (decide (K<rs.length)) (appO tVal.sz (ras.getD K default).vals) nilO)).set i (arrO tRow v rs)⟩ a w:=by
 have key:Holds e ⟨S,B.set m (cond (decide (K<rs.length)) (appO tVal.sz (ras.getD K default).vals) nilO)⟩ a w∧(K<rs.length→slRel tVal (rs.getD K default).vals (ras.getD K default).vals (Acur e (B.set m (cond (decide (K<rs.length)) (appO tVal.sz (ras.getD K default).vals) nilO)) w) w):=by
  by_cases hK:K<rs.length
  ·rw [tb hK] at hB
   rw [decide_eq_true hK]
   have:=hk.frzA hB
   exact ⟨this.1,fun _=>this.2⟩
  ·have:kO K ras rs=nilO:=by unfold kO;rw [decide_eq_false hK];rfl
   rw [this] at hB
   rw [decide_eq_false hK]
   refine ⟨?_,fun h=>absurd h hK⟩
   have hid:B.set m nilO=B:=by
    obtain ⟨h1,h2⟩:=List.getElem?_eq_some_iff.1 hB
    rw [← h2];simp
   show Holds e ⟨S,B.set m nilO⟩ a w
   rw [hid];exact hk
 obtain ⟨hk2,hs⟩:=key
 have hf:=hk2.owns _ (get_mem hj)
 refine hk2.recast hi ?_ ?_ ?_
 ·rfl
 ·rfl
 ·intro ho
  have hrel:∀ (i:Nat) (ra:pU) (r:Row),ras[i]? = some ra→rs[i]? = some r→ra.id=r.id∧ra.ver=r.ver∧slRel tVal r.vals ra.vals (Acur e (B.set m (cond (decide (K<rs.length)) (appO tVal.sz (ras.getD K default).vals) nilO)) w) w:=by
   intro i ra r g1 g2
   obtain ⟨b1,b2,b3⟩:=hf.2 i ra r g1 g2
   refine ⟨b1,b2,?_⟩
   by_cases hi':i=K
   ·subst hi'
    have:=hs (List.getElem?_eq_some_iff.1 g2).1
    simpa [List.getD_eq_getElem?_getD,g1,g2] using this
   ·exact b3 hi'
  cases v with
  | slice ad n c=>
   cases ad with
   | none=>
    obtain ⟨g1,g2,g3⟩:=ho
    subst g3
    exact ⟨g1,g2,List.eq_nil_of_length_eq_zero hf.1.symm⟩
   | some ad=>
    obtain ⟨g1,g2,g3,g4⟩:=ho
    refine ⟨by rw [← hf.1];exact g1,g2,g3,fun hc=>?_⟩
    obtain ⟨g5,pre,cs,post,et,g6,g7,g8,g9⟩:=g4 hc
    exact ⟨g5,pre,cs,post,et,g6,g7,oX hf.1 hrel g8,g9⟩
  | _=>exact ho.elim
theorem W_close (i j m:Nat)(hB:B[m]? = some (kO K ras rs))(hj:(B.set m (cond (decide (K<rs.length)) (appO tVal.sz (ras.getD K default).vals) nilO))[j]? = some (factO K ras rs))(hi:(B.set m (cond (decide (K<rs.length)) (appO tVal.sz (ras.getD K default).vals) nilO))[i]? = some (arrO cS v ras))
     (h:W P f e R k ⟨S,(B.set m (cond (decide (K<rs.length)) (appO tVal.sz (ras.getD K default).vals) nilO)).set i (arrO tRow v rs)⟩ r):W P f e R k ⟨S,B⟩ r:=fun q hq a w hk=>h q hq a w (Holds.close i j m hk hB hj hi)
theorem l0 {α:Type}{T:Ty α}[Inhabited α]{xs:List α}(i:Nat){k off:Nat}{g:α→Value}{st:α→Value→α}(hf:Fld T off tRaw g st)(hx:ay S x=some (qo T.sz v k off,ov))(hB:B[i]? = some (arrO T v xs))(ht:cE P t 1 false)(hd:Nat.ble (d+1) e.N=true)
     (h:WO P e Kp arr rest ⟨(d,isV (g (xs.getD k default)),none)::S,B⟩ r):WO P e Kp arr (mkOp d (.load t x) ty pos af::rest) ⟨S,B⟩ r:=
 .loadA i hf hx hB ht hd fun q hq a w hk=>h q hq a w (hk.swap (K:=⟨S,B⟩) fun A w v hv=>⟨hv.1.1,fun _ h=>by cases h⟩)
end
theorem y7 {ρ σ τ:Type}{P:Program}{e:Env}{Kp:ρ→Act→World→Prop}{arr:Array Oper}{rest:List Oper}{r:Option ρ}{m:Option σ}{y:σ}{K:Ctx}{K':σ→τ→Ctx}{op:Oper}(hm:m=some y)(hrule:∀ r:σ→Option ρ,(∀ y p,WO P e Kp arr rest (K' y p) (r y))→WO P e Kp arr (op::rest) K (m.bind r))(h:∀ p,WO P e Kp arr rest (K' y p) r):WO P e Kp arr (op::rest) K r:=
 .bindK2 (υ:=Unit) (K':=fun y p _=>K' y p) hm (fun r h=>hrule r fun y p=>h y p ()) fun p _=>h p
end Go.Proofs.YtganfdhmkdehlaaGreatDoor
