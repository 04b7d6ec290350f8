import Derived.Test.YtganfdhmkdehlaaGreatDoorQ2007Ty
set_option linter.all false
namespace Go.HL
theorem at0 {α:Type _}{a:α}{l:List α}:(a::l)[0]? = some a:=rfl
theorem atS {α:Type _}{a x:α}{l:List α}{i:Nat}(h:l[i]? = some x):(a::l)[i+1]? = some x:=h
class UnS (P:Go.Program) (t:Go.TypeId) (el:outParam Go.TypeId):Prop where
  h:P.underlying t=some (.slice el)
class UnT (P:Go.Program) (t:Go.TypeId):Prop where
  h:P.underlying t=some .string
class TyI (P:Go.Program) (t:Go.TypeId) (sz:outParam Nat) (ag:outParam Bool):Prop where
  h:cE P t sz ag
class FaI (P:Go.Program) (t:Go.TypeId) (i:Nat) (off:outParam Nat):Prop where
  h:a7 P t i off
class ElI (P:Go.Program) (t:Go.TypeId) (sz:outParam Nat):Prop where
  h:gq P t sz
class StI (P:Go.Program) (t:Go.TypeId) (pl:outParam (List (Nat×Nat))):Prop where
  h:pI P t pl
class ZI (P:Go.Program) (t:Go.TypeId) {α:outParam Type} (T:outParam (Ty α)) (d:outParam α):Prop where
  h:bx P t T d []
class tW (P:Go.Program) (t:Go.TypeId) {α:outParam Type} (T:outParam (Ty α)):Prop where
  u:True:=trivial
class bv (P:Go.Program) {α:Type} (T:Ty α) (off:Nat) (t:Go.TypeId) {β:outParam Type} (U:outParam (Ty β)) (g:outParam (α→β)) (st:outParam (α→β→α)):Prop where
  f:Fld T off U g st
  t:cE P t U.sz U.agg
class wQ (a b:Nat) (c:outParam Nat):Prop where
  h:c=a+b
instance (priority:=low) {a b:Nat}:wQ a b (a+b):=⟨rfl⟩
instance {b:Nat}:wQ 0 b b:=⟨by simp⟩
instance {b:Nat}:wQ b 0 b:=⟨rfl⟩
class BQ (P:Go.Program) {α:Type} (T:Ty α) (off:Nat) (t:Go.TypeId) (g:outParam (α→Go.Value)) (st:outParam (α→Go.Value→α)):Prop where
  f:Fld T off tRaw g st
  t:cE P t 1 false
instance {P:Go.Program} {α:Type} {T:Ty α} {o:Nat} {t:Go.TypeId} {β:Type} {U:Ty β} {g:α→β} {st:α→β→α} [h:bv P T o t U g st]:bv P T (0+o) t U g st:=⟨by rw [Nat.zero_add];exact h.f,h.t⟩
instance {P:Go.Program} {α:Type} {T:Ty α} {o:Nat} {t:Go.TypeId} {g:α→Go.Value} {st:α→Go.Value→α} [h:BQ P T o t g st]:BQ P T (0+o) t g st:=⟨by rw [Nat.zero_add];exact h.f,h.t⟩
class KvC (P:Go.Program) {α:Type} (T:Ty α) (off:Nat) (t:Go.TypeId) {β:outParam Type} (U:outParam (Ty β)) (g:outParam (α→Go.Value×List β)) (st:outParam (α→Go.Value×List β→α)):Prop where
  f:Fld T off (tLk U) g st
  t:cE P t 1 false
class FdI (P:Go.Program) {α:Type} (T:Ty α) (t:Go.TypeId) (i:Nat) (off:outParam Nat) {β:outParam Type} (U:outParam (Ty β)) (g:outParam (α→β)) (st:outParam (α→β→α)):Prop where
  f:Fld T off U g st
  t:a7 P t i off
inductive FillI (P:Go.Program) (t:Go.TypeId) (S:List (Nat×Ent)) {α:Type} (T:Ty α) (pl:Nat→Option (Nat×Nat)):α→List (Nat×Go.Operand)→α→Prop
  | nil {d}:FillI P t S T pl d [] d
  | cons {β:Type} {U:Ty β} {d d':α} {i off:Nat} {x:Go.Operand} {g:α→β} {st:α→β→α} {q:β} {ov:Option Go.Value} {rest:List (Nat×Go.Operand)} :
      FdI P T t i off U g st→pl i=some (off,U.sz)→ay S x=some (U.va q,ov)→FillI P t S T pl (st d q) rest d'→FillI P t S T pl d ((i,x)::rest) d'
theorem FillI.out {P:Go.Program}{t:Go.TypeId}{S:List (Nat×Ent)}{α:Type}{T:Ty α}{pl:Nat→Option (Nat×Nat)}{d d':α}{l:List (Nat×Go.Operand)}(h:FillI P t S T pl d l d'):Br S T pl d l d':=by
  induction h with
  | nil=>exact .nil
  | cons h1 h2 h3 _ ih=>exact .cons h1.f h2 h3 ih
section
variable {P:Go.Program}{f:Go.FuncId}{e:Env}{ρ σ α β: Type}{T:Ty α}{U:Ty β}{R:ρ→Go.Value→Go.World→Prop}{Kp:ρ→Go.Act→Go.World→Prop}
variable {S S0:List (Nat×Ent)}{B B0: List Own}
variable {k:List Go.Item}{r:Option ρ}{arr:Array Oper}{rest:List Oper}
variable {d:Nat}{ty t u el:Go.TypeId}{pos:String}{af:Array Go.Edge}{ov ov':Option Go.Value}
variable {x y:Go.Operand}{κ:Go.IntKind}{m:Int}
theorem lk {S:List (Nat×Ent)}{t:Nat}{Q:Ent}(h:look S t=some Q:=by first | exact rfl | exact (show Ext _ _ by assumption) _ _ rfl):look S t=some Q:=h
theorem bx0 {O:Own}{i:Nat}(h:B[i]? = some O:=by first | exact at0 | exact atS at0 | exact atS (atS at0) | exact atS (atS (atS at0)) | exact atS (atS (atS (atS at0))) | exact atS (atS (atS (atS (atS at0)))) | exact atS (atS (atS (atS (atS (atS at0))))) | exact atS (atS (atS (atS (atS (atS (atS at0))))))):B[i]? = some O:=h
theorem uF {S:List (Nat×Ent)}(d:Nat)(Q:Ent):look ((d,Q)::S) d=some Q:=by simp [look]
theorem WO.lpI {i off:Nat}{b:Nat}{v:α}{g:α→β}{st:α→β→α}(hx:ay S x=some (isP b off,ov)){kn:List (Nat×Go.Value)}(hB:B[i]? = some (boxO b T v kn))(hf:bv P T off t U g st)(hd:Nat.ble (d+1) e.N=true)
    (h:WO P e Kp arr rest ⟨(d,U.va (g v),none)::S,B⟩ r):WO P e Kp arr (mkOp d (.load t x) ty pos af::rest) ⟨S,B⟩ r:=.lp i hf.f hx hB hf.t hd h
theorem WO.lrI {i off:Nat}{b:Nat}{v:α}{g:α→Go.Value}{st:α→Go.Value→α}(hx:ay S x=some (isP b off,ov)){kn:List (Nat×Go.Value)}(hB:B[i]? = some (boxO b T v kn))(hf:BQ P T off t g st)(hd:Nat.ble (d+1) e.N=true)
    (h:WO P e Kp arr rest ⟨(d,isV (g v),some (g v))::S,B⟩ r):WO P e Kp arr (mkOp d (.load t x) ty pos af::rest) ⟨S,B⟩ r:=.loadR i hf.f hx hB hf.t hd<|.know d (uF ..)<|fun q hq a w hk=>h q hq a w (hk.weaken fun t Q1 ht=>by
  simp only [look] at ht ⊢
  cases hb:Nat.beq d t with
  | true=>rw [hb] at ht;injection ht with ht;exact ⟨_,rfl,by rw [← ht],.inl (by rw [← ht])⟩
  | false=>rw [hb] at ht;exact ⟨Q1,ht,rfl,.inl rfl⟩)
theorem WO.fpI {off i o o' b:Nat}(hx:ay S x=some (isP b o,ov))(hu:FaI P t i off)(ho:wQ o off o')(hd:Nat.ble (d+1) e.N=true)
    (h:WO P e Kp arr rest ⟨(d,isP b o',none)::S,B⟩ r):WO P e Kp arr (mkOp d (.fieldAddr t x i) ty pos af::rest) ⟨S,B⟩ r:=.fp hx hu.h hd (ho.h▸h)
theorem WO.fAI {sz k o o' off i:Nat}{v:Go.Value}(hx:ay S x=some (qo sz v k o,ov))(hu:FaI P t i off)(ho:wQ o off o')(hd:Nat.ble (d+1) e.N=true)
    (h:WO P e Kp arr rest ⟨(d,qo sz v k o',none)::S,B⟩ r):WO P e Kp arr (mkOp d (.fieldAddr t x i) ty pos af::rest) ⟨S,B⟩ r:=.fieldA hx hu.h hd (ho.h▸h)
theorem WO.lkI {i off:Nat}{b:Nat}{v:α}{g:α→Go.Value×List β}{st:α→Go.Value×List β→α}(hx:ay S x=some (isP b off,ov)){kn:List (Nat×Go.Value)}(hB:B[i]? = some (boxO b T v kn))(hf:KvC P T off t U g st)(hd:Nat.ble (d+1) e.N=true)
    (h:WO P e Kp arr rest ⟨(d,(tL U).va (g v).2,some (g v).1)::S,B⟩ r):WO P e Kp arr (mkOp d (.load t x) ty pos af::rest) ⟨S,B⟩ r:=.loadKV i hf.f hx hB hf.t hd h
theorem WO.ldI {v:α}(hx:ay S x=some (c7 T v,ov)){sz ag}(ht:TyI P t sz ag)(hs:sz=T.sz)(ha:ag=T.agg)(hd:Nat.ble (d+1) e.N=true)
    (h:WO P e Kp arr rest ⟨(d,T.va v,none)::S,B⟩ r):WO P e Kp arr (mkOp d (.load t x) ty pos af::rest) ⟨S,B⟩ r:=.load hx (hs▸ha▸ht.h) hd h
end
end Go.HL
namespace Go.HL
end Go.HL
namespace Go.HL
section
variable {P:Go.Program}{f:Go.FuncId}{e:Env}{ρ σ α β: Type}{T:Ty α}{U:Ty β}{R:ρ→Go.Value→Go.World→Prop}{Kp:ρ→Go.Act→Go.World→Prop}
variable {S S0 S':List (Nat×Ent)}{B B0 B': List Own}
variable {k:List Go.Item}{r:Option ρ}{arr:Array Oper}{rest l: List Oper}
variable {d:Nat}{ty t u el:Go.TypeId}{pos:String}{af:Array Go.Edge}{ov ov':Option Go.Value}
variable {x y:Go.Operand}{κ:Go.IntKind}{m:Int}{xs:List α}
theorem WO.eaI [Inhabited α]{sz:Nat}{ag:Bool}(hx:ay S x=some ((tL T).va xs,ov))(hy:ay S y=some (isI κ m,ov'))(hu:UnS P t el)(he:TyI P el sz ag)(hs:sz=T.sz)(hd:Nat.ble (d+1) e.N=true)
    (h:WO P e Kp arr rest ⟨(d,c7 T (xs.getD m.toNat default),none)::S,B⟩ r):WO P e Kp arr (mkOp d (.indexAddr t x y) ty pos af::rest) ⟨S,B⟩ (cond (decide (0≤m)&&decide (m<xs.length)) r none):=.elemAt hx hy hu.h (hs▸he.h) hd h
theorem WO.eAI {i sz:Nat}{ag:Bool}{v:Go.Value}(hx:ay S x=some (isV v,ov))(hy:ay S y=some (isI κ m,ov'))(hB:B[i]? = some (arrO T v xs))(hI:Inhabited α)(hu:UnS P t el)(he:TyI P el sz ag)(hs:sz=T.sz)(hd:Nat.ble (d+1) e.N=true)
    (h:WO P e Kp arr rest ⟨(d,qo T.sz v m.toNat 0,none)::S,B⟩ r):WO P e Kp arr (mkOp d (.indexAddr t x y) ty pos af::rest) ⟨S,B⟩ (cond (decide (0≤m)&&decide (m<xs.length)) r none):=.elemA i hx hy hB hu.h (hs▸he.h) hd h
theorem WO.eaU [Inhabited α]{sz:Nat}{ag:Bool}(hx:ay S x=some ((tL T).va xs,ov))(hy:ay S y=some (isI κ m,ov'))(hu:UnS P t el)(he:TyI P el sz ag)(hs:sz=T.sz)(hb:(decide (0≤m)&&decide (m<xs.length))=true)(hd:Nat.ble (d+1) e.N=true)
    (h:WO P e Kp arr rest ⟨(d,c7 T (xs.getD m.toNat default),none)::S,B⟩ r):WO P e Kp arr (mkOp d (.indexAddr t x y) ty pos af::rest) ⟨S,B⟩ r:=.useC hb (.eaI hx hy hu he hs hd h)
theorem WO.eAU {i sz:Nat}{ag:Bool}{v:Go.Value}(hx:ay S x=some (isV v,ov))(hy:ay S y=some (isI κ m,ov'))(hB:B[i]? = some (arrO T v xs))(hI:Inhabited α)(hu:UnS P t el)(he:TyI P el sz ag)(hs:sz=T.sz)(hb:(decide (0≤m)&&decide (m<xs.length))=true)(hd:Nat.ble (d+1) e.N=true)
    (h:WO P e Kp arr rest ⟨(d,qo T.sz v m.toNat 0,none)::S,B⟩ r):WO P e Kp arr (mkOp d (.indexAddr t x y) ty pos af::rest) ⟨S,B⟩ r:=.useC hb (.eAI hx hy hB hI hu he hs hd h)
theorem WO.lAI {i:Nat}{v:Go.Value}(hx:ay S x=some (isV v,ov))(hB:B[i]? = some (arrO T v xs))(hu:UnS P t el)(hd:Nat.ble (d+1) e.N=true)
    (h:WO P e Kp arr rest ⟨(d,isI .i64 xs.length,none)::S,B⟩ r):WO P e Kp arr (mkOp d (.call { callee:=.builtin .len,args:=#[x],argTypes:=#[t] }) ty pos af::rest) ⟨S,B⟩ r:=.lenA i hx hB hu.h hd h
theorem WO.loadAI {i:Nat}{k off:Nat}{v:Go.Value}{g:α→β}{st:α→β→α}{sz:Nat}(hx:ay S x=some (qo sz v k off,ov))(hB:B[i]? = some (arrO T v xs))(hI:Inhabited α)(hs:sz=T.sz)(hf:bv P T off t U g st)(hd:Nat.ble (d+1) e.N=true)
    (h:WO P e Kp arr rest ⟨(d,U.va (g (xs.getD k default)),none)::S,B⟩ r):WO P e Kp arr (mkOp d (.load t x) ty pos af::rest) ⟨S,B⟩ r:=.loadA i hf.f (hs▸hx) hB hf.t hd h
theorem WO.storeAI {i:Nat}{k off:Nat}{v:Go.Value}{g:α→β}{st:α→β→α}{q:β}{sz:Nat}(hx:ay S x=some (qo sz v k off,ov))(hB:B[i]? = some (arrO T v xs))(hI:Inhabited α)(hs:sz=T.sz)(hf:bv P T off t U g st)(hy:ay S y=some (U.va q,ov'))
    (h:WO P e Kp arr rest ⟨S,B.set i (arrO T v (xs.set k (st (xs.getD k default) q)))⟩ r):WO P e Kp arr (jX (.store t x y) ty pos af::rest) ⟨S,B⟩ r:=.storeA i hf.f (hs▸hx) hB hy hf.t h
theorem WO.spI {i:Nat}{b off:Nat}{v:α}{g:α→β}{st:α→β→α}{q:β}(hx:ay S x=some (isP b off,ov)){kn:List (Nat×Go.Value)}(hB:B[i]? = some (boxO b T v kn))(hf:bv P T off t U g st)(hy:ay S y=some (U.va q,ov'))
    (h:WO P e Kp arr rest ⟨S,B.set i (boxO b T (st v q) (cutK kn off U.sz))⟩ r):WO P e Kp arr (jX (.store t x y) ty pos af::rest) ⟨S,B⟩ r:=.storeP i hf.f hx hB hy hf.t h
theorem WO.faI {off i:Nat}{v:α}{g:α→β}{st:α→β→α}(hx:ay S x=some (c7 T v,ov))(hf:FdI P T t i off U g st)(hd:Nat.ble (d+1) e.N=true)
    (h:WO P e Kp arr rest ⟨(d,c7 U (g v),none)::S,B⟩ r):WO P e Kp arr (mkOp d (.fieldAddr t x i) ty pos af::rest) ⟨S,B⟩ r:=.fieldAt hf.f hx hf.t hd h
theorem WO.buI {pls:List (Nat×Nat)}{parts:Array (Nat×Go.Operand)}{d0 d1:α}(hz:ZI P t T d0)(hst:StI P t pls)(hT:T.agg=true)(hp:FillI P t S T (pls.toArray[·]?) d0 parts.toList d1)(hd:Nat.ble (d+1) e.N=true)
    (h:WO P e Kp arr rest ⟨(d,T.va d1,none)::S,B⟩ r):WO P e Kp arr (mkOp d (.build t parts) ty pos af::rest) ⟨S,B⟩ r:=.build hT hst.h hz.h hp.out hd h
theorem WO.liI {len:Nat}{parts:Array (Nat×Go.Operand)}{qs:List α}{sz:Nat}(hu:UnS P t el)(hT:tW P el T)(hp:Elems S T 0 parts.toList qs)(he:ElI P el sz)(hs:sz=T.sz)(hl:len=qs.length)(hlen:(Nat.ble (len * T.sz) 1000&&Nat.ble len 1000)=true)(hd:Nat.ble (d+1) e.N=true)
    (h:WO P e Kp arr rest ⟨(d,(tL T).va qs,none)::S,B⟩ r):WO P e Kp arr (mkOp d (.buildSlice t len parts) ty pos af::rest) ⟨S,B⟩ r:=.litN hu.h (hs▸he.h) hl hlen hp hd h
inductive wU (S:List (Nat×Ent)):List (Nat×Ent)→Prop
  | n:wU S []
  | c {d Q ov S'}:look S d=some (Q,ov)→wU S S'→wU S ((d,Q,none)::S')
  | k {d Q v S'}:look S d=some (Q,some v)→wU S S'→wU S ((d,Q,some v)::S')
theorem wU.look {S S':List (Nat×Ent)}(h:wU S S'):∀ t Q,look S' t=some Q→∃ Q0,look S t=some Q0∧Q.le Q0:=by
  induction h with
  | n=>intro t Q h;cases h
  | @c d Q ov S' h1 _ ih=>
    intro t Q1 h2
    simp only [Go.HL.look] at h2
    cases hb:Nat.beq d t with
    | true=>rw [hb] at h2;injection h2 with h2;subst h2;cases Nat.eq_of_beq_eq_true hb;exact ⟨_,h1,rfl,.inr rfl⟩
    | false=>rw [hb] at h2;exact ih _ _ h2
  | @k d Q v S' h1 _ ih=>
    intro t Q1 h2
    simp only [Go.HL.look] at h2
    cases hb:Nat.beq d t with
    | true=>rw [hb] at h2;injection h2 with h2;subst h2;cases Nat.eq_of_beq_eq_true hb;exact ⟨_,h1,rfl,.inl rfl⟩
    | false=>rw [hb] at h2;exact ih _ _ h2
def wV (X Y:List Own):Prop:=∃ Z,X.Perm (Y++Z)
theorem wV.n {X:List Own}:wV X []:=⟨X,.refl _⟩
theorem wV.c {X Y:List Own}{O:Own}(i:Nat)(h:X[i]? = some O)(k:wV (X.eraseIdx i) Y):wV X (O::Y):=let ⟨Z,hz⟩:=k;⟨Z,(aw h).trans (hz.cons _)⟩
theorem wV.s {X Y:List Own}(h:Y.Sublist X):wV X Y:=let ⟨Z,hz⟩:=h.exists_perm_append;⟨Z,hz⟩
theorem W.use (h:W P f e R k ⟨S',B'⟩ r)(hs:wU S S')(hb:wV B B'):W P f e R k ⟨S,B⟩ r:=
  fun x hx a w hk=>let ⟨_,hz⟩:=hb;h x hx a w (((hk.permute hz).perm (List.sublist_append_left _ _)).weaken hs.look)
end
end Go.HL
namespace Go.HL
section
variable {P:Go.Program}{e:Env}{ρ:Type}{Kp:ρ→Go.Act→Go.World→Prop}
variable {S:List (Nat×Ent)}{B:List Own}{r:Option ρ}{arr:Array Oper}{rest:List Oper}
variable {d:Nat}{ty t u:Go.TypeId}{pos:String}{af:Array Go.Edge}{x y z:Go.Operand}
theorem gLoad (h:WO P e Kp arr (mkOp d (.load t x) ty pos af::rest) ⟨S,B⟩ r):WO P e Kp arr (mkOp d (.load t x) ty pos af::rest) ⟨S,B⟩ r:=h
theorem gStore (h:WO P e Kp arr (jX (.store t x y) ty pos af::rest) ⟨S,B⟩ r):WO P e Kp arr (jX (.store t x y) ty pos af::rest) ⟨S,B⟩ r:=h
theorem gIdx (h:WO P e Kp arr (mkOp d (.indexAddr t x y) ty pos af::rest) ⟨S,B⟩ r):WO P e Kp arr (mkOp d (.indexAddr t x y) ty pos af::rest) ⟨S,B⟩ r:=h
theorem gFld {i:Nat}(h:WO P e Kp arr (mkOp d (.fieldAddr t x i) ty pos af::rest) ⟨S,B⟩ r):WO P e Kp arr (mkOp d (.fieldAddr t x i) ty pos af::rest) ⟨S,B⟩ r:=h
theorem gLen (h:WO P e Kp arr (mkOp d (.call { callee:=.builtin .len,args:=#[x],argTypes:=#[t] }) ty pos af::rest) ⟨S,B⟩ r):WO P e Kp arr (mkOp d (.call { callee:=.builtin .len,args:=#[x],argTypes:=#[t] }) ty pos af::rest) ⟨S,B⟩ r:=h
theorem gBin {o:Go.BinOp}(h:WO P e Kp arr (mkOp d (.binOp o t x y u) ty pos af::rest) ⟨S,B⟩ r):WO P e Kp arr (mkOp d (.binOp o t x y u) ty pos af::rest) ⟨S,B⟩ r:=h
theorem gGd {j:Nat}{b:Bool}{o:Go.Op}{dst:Option Go.Tmp}(h:WO P e Kp arr ({ dst:=dst,op:=o,type:=ty,pos:=pos,after:=af,guard:=some (j,b) }::rest) ⟨S,B⟩ r):WO P e Kp arr ({ dst:=dst,op:=o,type:=ty,pos:=pos,after:=af,guard:=some (j,b) }::rest) ⟨S,B⟩ r:=h
theorem gMove (h:WO P e Kp arr (mkOp d (.move x) ty pos af::rest) ⟨S,B⟩ r):WO P e Kp arr (mkOp d (.move x) ty pos af::rest) ⟨S,B⟩ r:=h
theorem gAsg (h:WO P e Kp arr (mkOp d (.assign x) ty pos af::rest) ⟨S,B⟩ r):WO P e Kp arr (mkOp d (.assign x) ty pos af::rest) ⟨S,B⟩ r:=h
theorem gExt {i:Nat}(h:WO P e Kp arr (mkOp d (.extract x i) ty pos af::rest) ⟨S,B⟩ r):WO P e Kp arr (mkOp d (.extract x i) ty pos af::rest) ⟨S,B⟩ r:=h
theorem gNot (h:WO P e Kp arr (mkOp d (.unOp .not t x) ty pos af::rest) ⟨S,B⟩ r):WO P e Kp arr (mkOp d (.unOp .not t x) ty pos af::rest) ⟨S,B⟩ r:=h
theorem gB {b:Bool}{ov:Option Go.Value}{l:List Oper}(h:WO P e Kp arr l ⟨(d,isB b,ov)::S,B⟩ r):WO P e Kp arr l ⟨(d,isB b,ov)::S,B⟩ r:=h
theorem WO.useE2 {b c:Bool}{ov:Option Go.Value}{l:List Oper}(hb:b=c)(h:WO P e Kp arr l ⟨(d,isB c,none)::S,B⟩ r):WO P e Kp arr l ⟨(d,isB b,ov)::S,B⟩ r:=.noV (.useEq hb h)
theorem gBui {parts:Array (Nat×Go.Operand)}(h:WO P e Kp arr (mkOp d (.build t parts) ty pos af::rest) ⟨S,B⟩ r):WO P e Kp arr (mkOp d (.build t parts) ty pos af::rest) ⟨S,B⟩ r:=h
theorem gLit {len:Nat}{parts:Array (Nat×Go.Operand)}(h:WO P e Kp arr (mkOp d (.buildSlice t len parts) ty pos af::rest) ⟨S,B⟩ r):WO P e Kp arr (mkOp d (.buildSlice t len parts) ty pos af::rest) ⟨S,B⟩ r:=h
theorem gPick (h:WO P e Kp arr (mkOp d (.pick z x y) ty pos af::rest) ⟨S,B⟩ r):WO P e Kp arr (mkOp d (.pick z x y) ty pos af::rest) ⟨S,B⟩ r:=h
end
end Go.HL
namespace Go.HL
section
variable {P:Go.Program}{f:Go.FuncId}{e:Env}{ρ σ α β: Type}{T:Ty α}{U:Ty β}{R:ρ→Go.Value→Go.World→Prop}{Kp:ρ→Go.Act→Go.World→Prop}
variable {S S0 S':List (Nat×Ent)}{B B0 B': List Own}
variable {k:List Go.Item}{r:Option ρ}{arr:Array Oper}{rest l: List Oper}
variable {d:Nat}{ty t u el:Go.TypeId}{pos:String}{af:Array Go.Edge}{ov ov':Option Go.Value}
variable {x y:Go.Operand}
structure CR (P:Go.Program) (g:Go.FuncId) (vs:List VA) (y:σ) (Q:σ→VA):Prop where
  c:Ctr P g vs [] (some y) (fun _ _=>[]) Q
  n : ∃ fn c, P.funcs[g]? = some fn ∧ (fn.name == "runtime.NumGoroutine") = false ∧ fn.body = some c
theorem W.pb {m : Option σ}{g : Go.FuncId}{vs : List VA}{Q : σ → VA}{r : σ → Option ρ}(c : Ctr P g vs [] m (fun _ _ => []) Q)(n : ∃ fn c, P.funcs[g]? = some fn ∧ (fn.name == "runtime.NumGoroutine") = false ∧ fn.body = some c)
    (h:∀ y,m=some y→CR P g vs y Q→W P f e R k ⟨S,B⟩ (r y)):W P f e R k ⟨S,B⟩ (m.bind r):=.pbind fun y hy=>h y hy ⟨hy▸c,n⟩
theorem WO.cr {g:Go.FuncId}{xs:Array Go.Operand}{tys:Array Go.TypeId}{vs:List VA}{y:σ}{Q:σ→VA}(hx:bN S xs.toList=some vs)(c:CR P g vs y Q)(hd:Nat.ble (d+1) e.N=true)
    (h:WO P e Kp arr rest ⟨(d,Q y,none)::S,B⟩ r):WO P e Kp arr (mkOp d (.call { callee:=.value (.func g),args:=xs,argTypes:=tys }) ty pos af::rest) ⟨S,B⟩ r:=
  fun x hx' a w hk=>(WO.call0 c.c c.n hx hd (r:=fun q=>by classical exact if q=y then r else none) (fun q=>by
    by_cases hq:q=y
    · subst hq;simpa using h
    · simp only [hq,if_false];exact .stop)) x (by simpa using hx') a w hk
theorem gCall {g:Go.FuncId}{xs:Array Go.Operand}{tys:Array Go.TypeId}(h:WO P e Kp arr (mkOp d (.call { callee:=.value (.func g),args:=xs,argTypes:=tys }) ty pos af::rest) ⟨S,B⟩ r):WO P e Kp arr (mkOp d (.call { callee:=.value (.func g),args:=xs,argTypes:=tys }) ty pos af::rest) ⟨S,B⟩ r:=h
theorem HY (h:W P f e R (.code .ret::k) ⟨S,B⟩ r):W P f e R (.code .ret::k) ⟨S,B⟩ r:=h
theorem Rv.cI {α:Type}{T:Ty α}{v:α}{t tt bl i:Nat}{kn:List (Nat×Go.Value)}{sz ag}(h:look S t=some (isP bl 0,ov))(hB:B[i]? = some (boxO bl T v kn))(ht:TyI P tt sz ag)(hs:sz=T.sz)(ha:ag=T.agg):Rv P e ⟨S,B⟩ (.cell t tt) (T.va v,none):=.cell i h hB (hs▸ha▸ht.h)
theorem rv {K:Ctx}{x:Go.ResultVar}{Q:Ent}(h:Rv P e K x Q:=by first | exact .tmp rfl | exact .cI rfl bx0 inferInstance rfl rfl):Rv P e K x Q:=h
theorem sbL {l m:List Own}(h:l.Sublist m:=by repeat first | exact .slnil | exact .refl _ | refine .cons_cons _ ?_ | refine .cons _ ?_):l.Sublist m:=h
theorem sbS (h:wU S S':=by repeat first | exact .n | refine .c rfl ?_ | refine .k rfl ?_):wU S S':=h
theorem sbB (h:wV B B':=by repeat first | exact .n | refine .c _ bx0 ?_ | (refine .s ?_;repeat first | exact .refl _ | refine .cons _ ?_)):wV B B':=h
theorem Ctr.w {k:Go.FuncId}{fn:Go.Func}{c:Go.Code}{n:Nat}{vs:List VA}{O:List Own}{y:Option ρ}{O':ρ→Go.Value→List Own}{Q:ρ→VA}
    (hf:P.funcs[k]? = some fn) (hn:fn.ntmps=n) (h:P.funcs[k]? = some fn→∀ A w,W P k (env A w O n) (RR A w O O' Q) [.code c] ⟨slots 0 vs,O⟩ y) (hb:fn.body=some c:=by rfl) (hl:Nat.ble vs.length n=true:=by rfl):Ctr P k vs O y O' Q:=.of_W hf hb hn hl (h hf)
theorem aY.w {ν:Type}{k:Go.FuncId}{fn:Go.Func}{c:Go.Code}{n:Nat}{vs:List VA}{O:List Own}{y:Option ρ}{rv:Go.Value→ν}{O':ρ→ν→List Own}{Q:ρ→ν→VA}
    (hf:P.funcs[k]? = some fn) (hn:fn.ntmps=n) (h:P.funcs[k]? = some fn→∀ A w,W P k (env A w O n) (RRL A w O rv O' Q) [.code c] ⟨slots 0 vs,O⟩ y) (hb:fn.body=some c:=by rfl) (hl:Nat.ble vs.length n=true:=by rfl):aY P k vs O y rv O' Q:=.of_W hf hb hn hl (h hf)
end
attribute [local irreducible] W WO
structure Hid (q:Prop):Prop where
  v:q
theorem go {p q:Prop}(x:q)(h:Hid q→p:=by
  intro h
  repeat first
    | (refine gMove ?_;refine WO.m rfl rfl ?_)
    | (refine gFld ?_;first | refine WO.fpI rfl inferInstance inferInstance rfl ?_ | refine WO.faI rfl inferInstance rfl ?_ | refine WO.fAI rfl inferInstance inferInstance rfl ?_)
    | (refine gLoad ?_;first | refine WO.ldI rfl inferInstance rfl rfl rfl ?_ | (apply WO.lrI;exact rfl;exact bx0;exact inferInstance;exact rfl) | (apply WO.lkI;exact rfl;exact bx0;exact inferInstance;exact rfl) | (apply WO.lpI;exact rfl;exact bx0;exact inferInstance;exact rfl) | refine WO.loadAI rfl bx0 inferInstance (by rfl) inferInstance rfl ?_)
    | (refine gBin ?_;first | refine WO.bin rfl rfl rfl rfl ?_ | refine WO.seq rfl rfl rfl ?_ | refine WO.sne rfl rfl rfl ?_)
    | (refine gGd ?_;first | refine WO.on rfl rfl ?_ | refine WO.off rfl rfl rfl ?_ | refine WO.offU rfl rfl rfl ?_)
    | refine WO.nil ?_
    | (refine gAsg ?_;refine WO.a rfl rfl ?_)
    | (refine gIdx ?_;first | refine WO.eaI rfl rfl inferInstance inferInstance rfl rfl ?_ | (refine WO.eaU rfl rfl inferInstance inferInstance rfl ?_ rfl ?_;· with_reducible assumption) | refine WO.eAI rfl rfl bx0 inferInstance inferInstance inferInstance (by rfl) rfl ?_ | (refine WO.eAU rfl rfl bx0 inferInstance inferInstance inferInstance (by rfl) ?_ rfl ?_;· with_reducible assumption))
    | (refine gLen ?_;first | refine WO.lenL rfl UnS.h rfl ?_ | refine WO.lenS rfl UnT.h rfl ?_ | (apply WO.lAI;exact rfl;exact bx0;exact inferInstance;exact rfl))
    | (refine gStore ?_;first | (apply WO.spI;exact rfl;exact bx0;exact inferInstance;exact rfl) | refine WO.storeAI rfl bx0 inferInstance (by rfl) inferInstance (by rfl) ?_)
    | (refine gPick ?_;first | refine WO.pickT rfl rfl rfl ?_ | refine WO.pickF rfl rfl rfl ?_)
    | (refine gExt ?_;refine WO.extract rfl rfl rfl ?_)
    | (refine gNot ?_;refine WO.not rfl rfl ?_)
    | (refine gBui ?_;(apply WO.buI;exact inferInstance;exact inferInstance;exact rfl;(repeat first | exact .nil | (apply FillI.cons;exact inferInstance;exact rfl;exact rfl));exact rfl))
    | (refine gCall ?_;(apply WO.cr;exact rfl;assumption;exact rfl))
    | (refine gLit ?_;apply WO.liI;exact inferInstance;exact inferInstance;(repeat first | exact .nil | (apply Elems.cons;exact rfl));exact inferInstance;exact rfl;exact rfl;exact rfl;exact rfl)
  exact h.v):p:=h ⟨x⟩
theorem fj {P:Go.Program}{f:Go.FuncId}{e:Env}{ρ:Type}{R:ρ→Go.Value→Go.World→Prop}{k:List Go.Item}{S':List (Nat×Ent)}{B':List Own}{r:Option ρ}{p:Prop}(h:W P f e R k ⟨S',B'⟩ r)(x:W P f e R k ⟨S',B'⟩ r→p:=by
  intro h
  repeat first
    | (refine gMove ?_;refine WO.m rfl rfl ?_)
    | (refine gFld ?_;first | refine WO.fpI rfl inferInstance inferInstance rfl ?_ | refine WO.faI rfl inferInstance rfl ?_ | refine WO.fAI rfl inferInstance inferInstance rfl ?_)
    | (refine gLoad ?_;first | refine WO.ldI rfl inferInstance rfl rfl rfl ?_ | (apply WO.lrI;exact rfl;exact bx0;exact inferInstance;exact rfl) | (apply WO.lkI;exact rfl;exact bx0;exact inferInstance;exact rfl) | (apply WO.lpI;exact rfl;exact bx0;exact inferInstance;exact rfl) | refine WO.loadAI rfl bx0 inferInstance (by rfl) inferInstance rfl ?_)
    | (refine gBin ?_;first | refine WO.bin rfl rfl rfl rfl ?_ | refine WO.seq rfl rfl rfl ?_ | refine WO.sne rfl rfl rfl ?_)
    | (refine gGd ?_;first | refine WO.on rfl rfl ?_ | refine WO.off rfl rfl rfl ?_ | refine WO.offU rfl rfl rfl ?_)
    | refine WO.nil ?_
    | (refine gAsg ?_;refine WO.a rfl rfl ?_)
    | (refine gIdx ?_;first | refine WO.eaI rfl rfl inferInstance inferInstance rfl rfl ?_ | (refine WO.eaU rfl rfl inferInstance inferInstance rfl ?_ rfl ?_;· with_reducible assumption) | refine WO.eAI rfl rfl bx0 inferInstance inferInstance inferInstance (by rfl) rfl ?_ | (refine WO.eAU rfl rfl bx0 inferInstance inferInstance inferInstance (by rfl) ?_ rfl ?_;· with_reducible assumption))
    | (refine gLen ?_;first | refine WO.lenL rfl UnS.h rfl ?_ | refine WO.lenS rfl UnT.h rfl ?_ | (apply WO.lAI;exact rfl;exact bx0;exact inferInstance;exact rfl))
    | (refine gStore ?_;first | (apply WO.spI;exact rfl;exact bx0;exact inferInstance;exact rfl) | refine WO.storeAI rfl bx0 inferInstance (by rfl) inferInstance (by rfl) ?_)
    | (refine gPick ?_;first | refine WO.pickT rfl rfl rfl ?_ | refine WO.pickF rfl rfl rfl ?_)
    | (refine gExt ?_;refine WO.extract rfl rfl rfl ?_)
    | (refine gNot ?_;refine WO.not rfl rfl ?_)
    | (refine gBui ?_;(apply WO.buI;exact inferInstance;exact inferInstance;exact rfl;(repeat first | exact .nil | (apply FillI.cons;exact inferInstance;exact rfl;exact rfl));exact rfl))
    | (refine gCall ?_;(apply WO.cr;exact rfl;assumption;exact rfl))
    | (refine gLit ?_;apply WO.liI;exact inferInstance;exact inferInstance;(repeat first | exact .nil | (apply Elems.cons;exact rfl));exact inferInstance;exact rfl;exact rfl;exact rfl;exact rfl)
    | exact W.use h sbS sbB
    | refine W.g ?_
    | refine W.seq ?_
    | refine W.inBlock ?_
    | refine W.skip ?_
    | refine W.block ?_
    | refine W.exit rfl ?_):p:=x h
theorem fr {p:Prop}(x:p:=by
  repeat first
    | (refine gMove ?_;refine WO.m rfl rfl ?_)
    | (refine gFld ?_;first | refine WO.fpI rfl inferInstance inferInstance rfl ?_ | refine WO.faI rfl inferInstance rfl ?_ | refine WO.fAI rfl inferInstance inferInstance rfl ?_)
    | (refine gLoad ?_;first | refine WO.ldI rfl inferInstance rfl rfl rfl ?_ | (apply WO.lrI;exact rfl;exact bx0;exact inferInstance;exact rfl) | (apply WO.lkI;exact rfl;exact bx0;exact inferInstance;exact rfl) | (apply WO.lpI;exact rfl;exact bx0;exact inferInstance;exact rfl) | refine WO.loadAI rfl bx0 inferInstance (by rfl) inferInstance rfl ?_)
    | (refine gBin ?_;first | refine WO.bin rfl rfl rfl rfl ?_ | refine WO.seq rfl rfl rfl ?_ | refine WO.sne rfl rfl rfl ?_)
    | (refine gGd ?_;first | refine WO.on rfl rfl ?_ | refine WO.off rfl rfl rfl ?_ | refine WO.offU rfl rfl rfl ?_)
    | refine WO.nil ?_
    | (refine gAsg ?_;refine WO.a rfl rfl ?_)
    | (refine gIdx ?_;first | refine WO.eaI rfl rfl inferInstance inferInstance rfl rfl ?_ | (refine WO.eaU rfl rfl inferInstance inferInstance rfl ?_ rfl ?_;· with_reducible assumption) | refine WO.eAI rfl rfl bx0 inferInstance inferInstance inferInstance (by rfl) rfl ?_ | (refine WO.eAU rfl rfl bx0 inferInstance inferInstance inferInstance (by rfl) ?_ rfl ?_;· with_reducible assumption))
    | (refine gLen ?_;first | refine WO.lenL rfl UnS.h rfl ?_ | refine WO.lenS rfl UnT.h rfl ?_ | (apply WO.lAI;exact rfl;exact bx0;exact inferInstance;exact rfl))
    | (refine gStore ?_;first | (apply WO.spI;exact rfl;exact bx0;exact inferInstance;exact rfl) | refine WO.storeAI rfl bx0 inferInstance (by rfl) inferInstance (by rfl) ?_)
    | (refine gPick ?_;first | refine WO.pickT rfl rfl rfl ?_ | refine WO.pickF rfl rfl rfl ?_)
    | (refine gExt ?_;refine WO.extract rfl rfl rfl ?_)
    | (refine gNot ?_;refine WO.not rfl rfl ?_)
    | (refine gBui ?_;(apply WO.buI;exact inferInstance;exact inferInstance;exact rfl;(repeat first | exact .nil | (apply FillI.cons;exact inferInstance;exact rfl;exact rfl));exact rfl))
    | (refine gCall ?_;(apply WO.cr;exact rfl;assumption;exact rfl))
    | (refine gLit ?_;apply WO.liI;exact inferInstance;exact inferInstance;(repeat first | exact .nil | (apply Elems.cons;exact rfl));exact inferInstance;exact rfl;exact rfl;exact rfl;exact rfl)
    | refine W.g ?_
    | refine W.seq ?_
    | refine W.inBlock ?_
    | refine W.skip ?_
    | refine W.block ?_
    | refine W.exit rfl ?_
    | (refine HY ?_;first | exact W.ret1 hf rfl rv rfl (fun _ _=>sbL) | exact W.ret2 hf rfl rv rv rfl (fun _=>sbL) | exact W.ret3 hf rfl rv rv rv rfl (fun _=>sbL))):p:=x
theorem sts {P:Go.Program}{e:Env}{C:List Own→Prop}{arr:Array Oper}{S0:List (Nat×Ent)}{E E':List (Option (Nat×Ent))}{l:List Oper}(x:Steps P e C arr S0 E l E':=by
  repeat first
    | exact .nil
    | (apply Steps.cons
       · intro _ _ _ hp he h
         try refine WO.on rfl (he _ _ rfl) ?_
         first
          | (refine gMove ?_;(refine WO.m (he.op rfl) rfl ?_;first | (refine gB ?_;exact WO.useE2 (by with_reducible assumption) h) | exact h))
          | (refine gFld ?_;first | exact WO.fpI (he.op rfl) inferInstance inferInstance rfl h | exact WO.faI (he.op rfl) inferInstance rfl h | exact WO.fAI (he.op rfl) inferInstance inferInstance rfl h)
          | (refine gLoad ?_;first | exact WO.ldI (he.op rfl) inferInstance rfl rfl rfl h | (apply WO.lrI;exact he.op rfl;exact hp.get bx0 rfl;exact inferInstance;exact rfl;exact h) | (apply WO.lkI;exact he.op rfl;exact hp.get bx0 rfl;exact inferInstance;exact rfl;exact h) | (apply WO.lpI;exact he.op rfl;exact hp.get bx0 rfl;exact inferInstance;exact rfl;exact h) | exact WO.loadAI (he.op rfl) (hp.get bx0 rfl) inferInstance (by rfl) inferInstance rfl h)
          | (refine gBin ?_;first | exact WO.bin rfl (he.op rfl) (he.op rfl) rfl h | exact WO.seq (he.op rfl) (he.op rfl) rfl h | exact WO.sne (he.op rfl) (he.op rfl) rfl h)
          | (refine gAsg ?_;exact WO.a (he.op rfl) rfl h)
          | (refine gIdx ?_;first | (refine WO.eaU (he.op rfl) (he.op rfl) inferInstance inferInstance rfl ?_ rfl h;with_reducible assumption) | (refine WO.eAU (he.op rfl) (he.op rfl) (hp.get bx0 rfl) inferInstance inferInstance inferInstance (by rfl) ?_ rfl h;with_reducible assumption))
          | (refine gLen ?_;first | exact WO.lenL (he.op rfl) UnS.h rfl h | exact WO.lenS (he.op rfl) UnT.h rfl h | (apply WO.lAI;exact he.op rfl;exact hp.get bx0 rfl;exact inferInstance;exact rfl;exact h))
          | (refine gPick ?_;first | exact WO.pickT (he.op rfl) (he.op rfl) rfl h | exact WO.pickF (he.op rfl) (he.op rfl) rfl h)
          | (refine gExt ?_;exact WO.extract (he.op rfl) rfl rfl h)
          | (refine gNot ?_;exact WO.not (he.op rfl) rfl h)
          | (refine gBui ?_;(apply WO.buI;exact inferInstance;exact inferInstance;exact rfl;(repeat first | exact .nil | (apply FillI.cons;exact inferInstance;exact rfl;exact he.op rfl));exact rfl;exact h))
          | (refine gCall ?_;(apply WO.cr;exact he.ops rfl;assumption;exact rfl;exact h))
          | (refine gLit ?_;apply WO.liI;exact inferInstance;exact inferInstance;(repeat first | exact .nil | (apply Elems.cons;exact he.op rfl));exact inferInstance;exact rfl;exact rfl;exact rfl;exact rfl;exact h)
          | exact WO.off rfl (he _ _ rfl) rfl h
          | exact WO.offU rfl (he _ _ rfl) rfl h)
    | apply Steps.skip):Steps P e C arr S0 E l E':=x
end Go.HL
namespace Go.Proofs.YtganfdhmkdehlaaGreatDoor
open Go Go.HL
instance j0:TyI Tryz.prog 126 4 true:=⟨GK⟩
instance j1:TyI Tryz.prog 146 2 true:=⟨zi⟩
instance j5:TyI Tryz.prog 29 2 true:=⟨ao⟩
instance j6:TyI Tryz.prog 3 1 false:=⟨ty3⟩
instance j8:TyI Tryz.prog 35 1 false:=⟨D3⟩
instance j10:TyI Tryz.prog 38 3 true:=⟨t7⟩
instance j11:TyI Tryz.prog 4 1 false:=⟨ty4⟩
instance j12:TyI Tryz.prog 40 7 true:=⟨BV⟩
instance j13:TyI Tryz.prog 42 10 true:=⟨zf⟩
instance j14:TyI Tryz.prog 44 4 true:=⟨mm⟩
instance j15:TyI Tryz.prog 46 19 true:=⟨zg⟩
instance j16:TyI Tryz.prog 5 1 false:=⟨ty5⟩
instance j18:TyI Tryz.prog 57 1 false:=⟨ty25⟩
instance j19:TyI Tryz.prog 59 4 true:=⟨ty27⟩
instance j20:TyI Tryz.prog 61 5 true:=⟨bf⟩
instance j21:TyI Tryz.prog 62 1 false:=⟨oA⟩
instance j22:TyI Tryz.prog 66 3 true:=⟨ty37⟩
instance j23:TyI Tryz.prog 9 1 false:=⟨ty9⟩
instance j24:FaI Tryz.prog 105 0 0:=⟨jr⟩
instance j25:FaI Tryz.prog 105 1 1:=⟨Aw⟩
instance j26:FaI Tryz.prog 126 0 0:=⟨oZ⟩
instance j27:FaI Tryz.prog 126 1 1:=⟨oY⟩
instance j28:FaI Tryz.prog 146 0 0:=⟨rO⟩
instance j29:FaI Tryz.prog 146 1 1:=⟨rN⟩
instance j30:FaI Tryz.prog 29 0 0:=⟨fa1026_0⟩
instance j31:FaI Tryz.prog 29 1 1:=⟨ci⟩
instance j32:FaI Tryz.prog 38 0 0:=⟨zA⟩
instance j33:FaI Tryz.prog 38 1 1:=⟨uX⟩
instance j34:FaI Tryz.prog 38 2 2:=⟨zy⟩
instance j35:FaI Tryz.prog 40 0 0:=⟨zx⟩
instance j36:FaI Tryz.prog 40 1 1:=⟨uW⟩
instance j37:FaI Tryz.prog 40 2 2:=⟨zw⟩
instance j38:FaI Tryz.prog 40 3 3:=⟨zv⟩
instance j39:FaI Tryz.prog 40 4 4:=⟨zu⟩
instance j40:FaI Tryz.prog 42 0 0:=⟨zt⟩
instance j41:FaI Tryz.prog 42 1 1:=⟨zr⟩
instance j42:FaI Tryz.prog 42 2 2:=⟨Cw⟩
instance j43:FaI Tryz.prog 42 3 3:=⟨Cv⟩
instance j44:FaI Tryz.prog 44 0 0:=⟨nA⟩
instance j45:FaI Tryz.prog 44 1 1:=⟨kb⟩
instance j46:FaI Tryz.prog 44 2 2:=⟨rP⟩
instance j47:FaI Tryz.prog 44 3 3:=⟨nw⟩
instance j48:FaI Tryz.prog 46 0 0:=⟨rM⟩
instance j49:FaI Tryz.prog 46 1 1:=⟨rL⟩
instance j50:FaI Tryz.prog 46 2 2:=⟨rK⟩
instance j51:FaI Tryz.prog 46 3 3:=⟨nv⟩
instance j52:FaI Tryz.prog 46 4 4:=⟨nu⟩
instance j53:FaI Tryz.prog 46 5 5:=⟨nt⟩
instance j54:FaI Tryz.prog 46 6 15:=⟨nr⟩
instance j55:FaI Tryz.prog 59 0 0:=⟨fk⟩
instance j56:FaI Tryz.prog 59 1 1:=⟨bw⟩
instance j57:FaI Tryz.prog 59 2 2:=⟨fa27_2⟩
instance j58:FaI Tryz.prog 59 3 3:=⟨gD⟩
instance j59:FaI Tryz.prog 61 0 0:=⟨kc⟩
instance j60:FaI Tryz.prog 61 1 1:=⟨aC⟩
instance j61:FaI Tryz.prog 66 0 0:=⟨ca⟩
instance j62:FaI Tryz.prog 66 1 1:=⟨bh⟩
instance j63:FaI Tryz.prog 66 2 2:=⟨cV⟩
instance j64:ElI Tryz.prog 126 4:=⟨zN⟩
instance j65:ElI Tryz.prog 146 2:=⟨pt⟩
instance j66:ElI Tryz.prog 3 1:=⟨el3⟩
instance j68:ElI Tryz.prog 38 3:=⟨fv⟩
instance j69:ElI Tryz.prog 40 7:=⟨cu⟩
instance j70:ElI Tryz.prog 42 10:=⟨jR⟩
instance j71:ElI Tryz.prog 44 4:=⟨gG⟩
instance j72:ElI Tryz.prog 46 19:=⟨ps⟩
instance j74:ElI Tryz.prog 61 5:=⟨dh⟩
instance j76:ElI Tryz.prog 66 3:=⟨jA⟩
instance j77:ElI Tryz.prog 9 1:=⟨el9⟩
instance j79:StI Tryz.prog 126 [(0,1),(1,3)]:=⟨GM⟩
instance j80:StI Tryz.prog 146 [(0,1),(1,1)]:=⟨zl⟩
instance j81:StI Tryz.prog 29 [(0,1),(1,1)]:=⟨dL⟩
instance j82:StI Tryz.prog 38 [(0,1),(1,1),(2,1)]:=⟨GN⟩
instance j83:StI Tryz.prog 40 [(0,1),(1,1),(2,1),(3,1),(4,3)]:=⟨BW⟩
instance j84:StI Tryz.prog 42 [(0,1),(1,1),(2,1),(3,7)]:=⟨GL⟩
instance j85:StI Tryz.prog 44 [(0,1),(1,1),(2,1),(3,1)]:=⟨ro⟩
instance j86:StI Tryz.prog 46 [(0,1),(1,1),(2,1),(3,1),(4,1),(5,10),(15,4)]:=⟨BY⟩
instance j87:StI Tryz.prog 59 [(0,1),(1,1),(2,1),(3,1)]:=⟨nc⟩
instance j88:StI Tryz.prog 61 [(0,1),(1,4)]:=⟨gy⟩
instance j89:StI Tryz.prog 66 [(0,1),(1,1),(2,1)]:=⟨BX⟩
instance j91:ZI Tryz.prog 126 tSet d0_49:=⟨z49⟩
instance j92:ZI Tryz.prog 146 tRef lV:=⟨tY⟩
instance j93:ZI Tryz.prog 29 tBase d0_1026:=⟨cz⟩
instance j94:ZI Tryz.prog 38 tVal d0_47:=⟨z47⟩
instance j96:ZI Tryz.prog 40 tCol d0_52:=⟨z52⟩
instance j97:ZI Tryz.prog 42 tChange d0_56:=⟨z56⟩
instance j98:ZI Tryz.prog 44 tLink d0_1044:=⟨z1044⟩
instance j99:ZI Tryz.prog 46 tDeed d0_2046:=⟨z2046⟩
instance j100:ZI Tryz.prog 59 tTable d0_27:=⟨z27⟩
instance j101:ZI Tryz.prog 61 tTab d0_1039:=⟨z1039⟩
instance j102:ZI Tryz.prog 66 tRow d0_37:=⟨z37⟩
instance j107:UnT Tryz.prog 9:=⟨Tryz.underlying9⟩
instance j108:UnS Tryz.prog 22 5:=⟨Tryz.underlying22⟩
instance j110:UnS Tryz.prog 26 61:=⟨Tryz.underlying26⟩
instance j111:UnS Tryz.prog 27 44:=⟨Tryz.underlying27⟩
instance j112:UnS Tryz.prog 32 46:=⟨Tryz.underlying32⟩
instance j113:UnS Tryz.prog 35 126:=⟨Tryz.underlying35⟩
instance j114:UnS Tryz.prog 36 40:=⟨Tryz.underlying36⟩
instance j115:UnS Tryz.prog 56 42:=⟨Tryz.underlying56⟩
instance j116:UnS Tryz.prog 57 66:=⟨Tryz.underlying57⟩
instance j117:UnS Tryz.prog 62 38:=⟨Tryz.underlying62⟩
instance j118:UnS Tryz.prog 109 3:=⟨Tryz.underlying109⟩
instance j119:UnS Tryz.prog 124 9:=⟨Tryz.underlying124⟩
instance j120:UnS Tryz.prog 182 62:=⟨Tryz.underlying182⟩
instance j121:UnS Tryz.prog 198 146:=⟨Tryz.underlying198⟩
instance j122:bv Tryz.prog tChange 7 3 (tI .i64) (fun d=>d.col.def_.kind) (fun d x=>{ d with col:={ d.col with def_:={ d.col.def_ with kind:=x } } }):=⟨(fChange_3.comp (fCol_4.comp o0)),ty3⟩
instance j123:bv Tryz.prog tChange 4 3 (tI .i64) (fun d=>d.col.kind) (fun d x=>{ d with col:={ d.col with kind:=x } }):=⟨(fChange_3.comp jJ),ty3⟩
instance j124:bv Tryz.prog tChange 5 4 tB (fun d=>d.col.need) (fun d x=>{ d with col:={ d.col with need:=x } }):=⟨(fChange_3.comp mB),ty4⟩
instance j125:bv Tryz.prog tChange 7 38 tVal (fun d=>d.col.def_) (fun d x=>{ d with col:={ d.col with def_:=x } }):=⟨(fChange_3.comp fCol_4),t7⟩
instance j126:bv Tryz.prog tCol 4 3 (tI .i64) (fun d=>d.def_.kind) (fun d x=>{ d with def_:={ d.def_ with kind:=x } }):=⟨(fCol_4.comp o0),ty3⟩
instance j127:bv Tryz.prog tDeed 7 9 tS (fun d=>d.change.new) (fun d x=>{ d with change:={ d.change with new:=x } }):=⟨(fDeed_5.comp o1),ty9⟩
instance j128:bv Tryz.prog tSet 1 3 (tI .i64) (fun d=>d.val.kind) (fun d x=>{ d with val:={ d.val with kind:=x } }):=⟨(fSet_1.comp o0),ty3⟩
instance j129:bv Tryz.prog tSet 2 3 (tI .i64) (fun d=>d.val.n) (fun d x=>{ d with val:={ d.val with n:=x } }):=⟨(fSet_1.comp rQ),ty3⟩
instance j130:bv Tryz.prog tTab 3 57 (tL tRow) (fun d=>d.table.rows) (fun d x=>{ d with table:={ d.table with rows:=x } }):=⟨(fTab_1.comp fTable_2),ty25⟩
instance j131:bv Tryz.prog tBaseA 0 26 tRaw (fun d=>d.tabs) (fun d x=>{ d with tabs:=x }):=⟨aD,ty1023⟩
instance j132:bv Tryz.prog tBaseA 1 27 tRaw (fun d=>d.links) (fun d x=>{ d with links:=x }):=⟨bF,fx⟩
instance j133:bv Tryz.prog tBase 0 26 (tL tTab) (fun d=>d.tabs) (fun d x=>{ d with tabs:=x }):=⟨fBase_0,ty1023⟩
instance j134:bv Tryz.prog tBase 1 27 (tL tLink) (fun d=>d.links) (fun d x=>{ d with links:=x }):=⟨gL,fx⟩
instance j135:bv Tryz.prog tChange 0 3 (tI .i64) (fun d=>d.kind) (fun d x=>{ d with kind:=x }):=⟨o3,ty3⟩
instance j136:bv Tryz.prog tChange 1 9 tS (fun d=>d.name) (fun d x=>{ d with name:=x }):=⟨ij,ty9⟩
instance j137:bv Tryz.prog tChange 2 9 tS (fun d=>d.new) (fun d x=>{ d with new:=x }):=⟨o1,ty9⟩
instance j138:bv Tryz.prog tChange 3 40 tCol (fun d=>d.col) (fun d x=>{ d with col:=x }):=⟨fChange_3,BV⟩
instance j139:bv Tryz.prog tCol 0 9 tS (fun d=>d.name) (fun d x=>{ d with name:=x }):=⟨mC,ty9⟩
instance j140:bv Tryz.prog tCol 1 3 (tI .i64) (fun d=>d.kind) (fun d x=>{ d with kind:=x }):=⟨jJ,ty3⟩
instance j141:bv Tryz.prog tCol 3 4 tB (fun d=>d.once) (fun d x=>{ d with once:=x }):=⟨zC,ty4⟩
instance j142:bv Tryz.prog tCol 4 38 tVal (fun d=>d.def_) (fun d x=>{ d with def_:=x }):=⟨fCol_4,t7⟩
instance j143:bv Tryz.prog tDeed 0 3 (tI .i64) (fun d=>d.kind) (fun d x=>{ d with kind:=x }):=⟨vc,ty3⟩
instance j144:bv Tryz.prog tDeed 1 9 tS (fun d=>d.name) (fun d x=>{ d with name:=x }):=⟨u7,ty9⟩
instance j145:bv Tryz.prog tDeed 2 3 (tI .i64) (fun d=>d.id) (fun d x=>{ d with id:=x }):=⟨u6,ty3⟩
instance j146:bv Tryz.prog tDeed 3 35 (tL tSet) (fun d=>d.sets) (fun d x=>{ d with sets:=x }):=⟨qv,D3⟩
instance j147:bv Tryz.prog tDeed 4 36 (tL tCol) (fun d=>d.cols) (fun d x=>{ d with cols:=x }):=⟨qu,sK⟩
instance j148:bv Tryz.prog tDeed 5 42 tChange (fun d=>d.change) (fun d x=>{ d with change:=x }):=⟨fDeed_5,zf⟩
instance j149:bv Tryz.prog tDeed 15 44 tLink (fun d=>d.link) (fun d x=>{ d with link:=x }):=⟨qt,mm⟩
instance j150:bv Tryz.prog tLink 0 9 tS (fun d=>d.from_) (fun d x=>{ d with from_:=x }):=⟨lA,ty9⟩
instance j151:bv Tryz.prog tLink 1 9 tS (fun d=>d.col) (fun d x=>{ d with col:=x }):=⟨jt,ty9⟩
instance j152:bv Tryz.prog tLink 2 9 tS (fun d=>d.to) (fun d x=>{ d with to:=x }):=⟨nB,ty9⟩
instance j153:bv Tryz.prog tLink 3 3 (tI .i64) (fun d=>d.how) (fun d x=>{ d with how:=x }):=⟨lz,ty3⟩
instance j154:bv Tryz.prog tRd 0 22 (tL (tI .u8)) (fun d=>d.b) (fun d x=>{ d with b:=x }):=⟨qr,Bv⟩
instance j155:bv Tryz.prog tRd 1 3 (tI .i64) (fun d=>d.p) (fun d x=>{ d with p:=x }):=⟨Fh,ty3⟩
instance j156:bv Tryz.prog tRef 0 9 tS (fun d=>d.name) (fun d x=>{ d with name:=x }):=⟨u4,ty9⟩
instance j157:bv Tryz.prog tRef 1 3 (tI .i64) (fun d=>d.id) (fun d x=>{ d with id:=x }):=⟨u0,ty3⟩
instance j158:bv Tryz.prog tRow 0 3 (tI .i64) (fun d=>d.id) (fun d x=>{ d with id:=x }):=⟨bH,ty3⟩
instance j159:bv Tryz.prog tRow 1 3 (tI .i64) (fun d=>d.ver) (fun d x=>{ d with ver:=x }):=⟨a8,ty3⟩
instance j160:bv Tryz.prog tRow 2 62 (tL tVal) (fun d=>d.vals) (fun d x=>{ d with vals:=x }):=⟨dy,oA⟩
instance j161:bv Tryz.prog tSet 0 9 tS (fun d=>d.name) (fun d x=>{ d with name:=x }):=⟨mA,ty9⟩
instance j162:bv Tryz.prog tSet 1 38 tVal (fun d=>d.val) (fun d x=>{ d with val:=x }):=⟨fSet_1,t7⟩
instance j163:bv Tryz.prog tTab 0 9 tS (fun d=>d.name) (fun d x=>{ d with name:=x }):=⟨eA,ty9⟩
instance j164:bv Tryz.prog tTab 1 59 tTable (fun d=>d.table) (fun d x=>{ d with table:=x }):=⟨fTab_1,ty27⟩
instance j166:bv Tryz.prog tTableA 1 56 (tLk tChange) (fun d=>d.changes) (fun d x=>{ d with changes:=x }):=⟨az,kT⟩
instance j167:bv Tryz.prog tTableA 2 57 tRaw (fun d=>d.rows) (fun d x=>{ d with rows:=x }):=⟨fTableA_2,ty25⟩
instance j168:bv Tryz.prog tTableA 3 3 (tI .i64) (fun d=>d.next) (fun d x=>{ d with next:=x }):=⟨aM,ty3⟩
instance j169:bv Tryz.prog tTable 0 36 (tL tCol) (fun d=>d.first) (fun d x=>{ d with first:=x }):=⟨dN,sK⟩
instance j170:bv Tryz.prog tTable 1 56 (tL tChange) (fun d=>d.changes) (fun d x=>{ d with changes:=x }):=⟨br,kT⟩
instance j171:bv Tryz.prog tTable 2 57 (tL tRow) (fun d=>d.rows) (fun d x=>{ d with rows:=x }):=⟨fTable_2,ty25⟩
instance j172:bv Tryz.prog tTable 3 3 (tI .i64) (fun d=>d.next) (fun d x=>{ d with next:=x }):=⟨dM,ty3⟩
instance j173:bv Tryz.prog tVal 0 3 (tI .i64) (fun d=>d.kind) (fun d x=>{ d with kind:=x }):=⟨o0,ty3⟩
instance j174:bv Tryz.prog tVal 1 3 (tI .i64) (fun d=>d.n) (fun d x=>{ d with n:=x }):=⟨rQ,ty3⟩
instance j175:bv Tryz.prog tVal 2 9 tS (fun d=>d.text) (fun d x=>{ d with text:=x }):=⟨zB,ty9⟩
instance j176:bv Tryz.prog tSet 0 126 tSet (fun d=>d) (fun _ x=>x):=⟨Fld.self _,GK⟩
instance j177:bv Tryz.prog tRef 0 146 tRef (fun d=>d) (fun _ x=>x):=⟨Fld.self _,zi⟩
instance j178:bv Tryz.prog tBase 0 29 tBase (fun d=>d) (fun _ x=>x):=⟨Fld.self _,ao⟩
instance j179:bv Tryz.prog tVal 0 38 tVal (fun d=>d) (fun _ x=>x):=⟨Fld.self _,t7⟩
instance j181:bv Tryz.prog tCol 0 40 tCol (fun d=>d) (fun _ x=>x):=⟨Fld.self _,BV⟩
instance j182:bv Tryz.prog tChange 0 42 tChange (fun d=>d) (fun _ x=>x):=⟨Fld.self _,zf⟩
instance j183:bv Tryz.prog tLink 0 44 tLink (fun d=>d) (fun _ x=>x):=⟨Fld.self _,mm⟩
instance j184:bv Tryz.prog tDeed 0 46 tDeed (fun d=>d) (fun _ x=>x):=⟨Fld.self _,zg⟩
instance j185:bv Tryz.prog tTable 0 59 tTable (fun d=>d) (fun _ x=>x):=⟨Fld.self _,ty27⟩
instance j186:bv Tryz.prog tTab 0 61 tTab (fun d=>d) (fun _ x=>x):=⟨Fld.self _,bf⟩
instance j187:bv Tryz.prog tRow 0 66 tRow (fun d=>d) (fun _ x=>x):=⟨Fld.self _,ty37⟩
instance j188:bv Tryz.prog tBaseA 0 29 tBaseA (fun d=>d) (fun _ x=>x):=⟨Fld.self _,ao⟩
instance j189:bv Tryz.prog tTableA 0 59 tTableA (fun d=>d) (fun _ x=>x):=⟨Fld.self _,ty27⟩
instance j191:bv Tryz.prog tB 0 4 tB (fun d=>d) (fun _ x=>x):=⟨Fld.self _,ty4⟩
instance j193:wQ 1 1 2:=⟨rfl⟩
instance j194:wQ 1 2 3:=⟨rfl⟩
instance j195:wQ 3 1 4:=⟨rfl⟩
instance j196:wQ 3 2 5:=⟨rfl⟩
instance j197:wQ 3 4 7:=⟨rfl⟩
instance j198:wQ 5 2 7:=⟨rfl⟩
instance j199:tW Tryz.prog 126 tSet:={}
instance j200:tW Tryz.prog 146 tRef:={}
instance j202:tW Tryz.prog 38 tVal:={}
instance j204:tW Tryz.prog 40 tCol:={}
instance j205:tW Tryz.prog 42 tChange:={}
instance j206:tW Tryz.prog 44 tLink:={}
instance j207:tW Tryz.prog 46 tDeed:={}
instance j209:tW Tryz.prog 61 tTab:={}
instance j210:tW Tryz.prog 66 tRow:={}
instance j211:tW Tryz.prog 3 (tI .i64):={}
instance j213:tW Tryz.prog 9 tS:={}
instance j216:FdI Tryz.prog tChange 42 0 0 (tI .i64) (fun d=>d.kind) (fun d x=>{ d with kind:=x }):=⟨o3,zt⟩
instance j217:FdI Tryz.prog tChange 42 1 1 tS (fun d=>d.name) (fun d x=>{ d with name:=x }):=⟨ij,zr⟩
instance j220:FdI Tryz.prog tCol 40 0 0 tS (fun d=>d.name) (fun d x=>{ d with name:=x }):=⟨mC,zx⟩
instance j221:FdI Tryz.prog tCol 40 1 1 (tI .i64) (fun d=>d.kind) (fun d x=>{ d with kind:=x }):=⟨jJ,uW⟩
instance j222:FdI Tryz.prog tCol 40 2 2 tB (fun d=>d.need) (fun d x=>{ d with need:=x }):=⟨mB,zw⟩
instance j223:FdI Tryz.prog tCol 40 3 3 tB (fun d=>d.once) (fun d x=>{ d with once:=x }):=⟨zC,zv⟩
instance j224:FdI Tryz.prog tCol 40 4 4 tVal (fun d=>d.def_) (fun d x=>{ d with def_:=x }):=⟨fCol_4,zu⟩
instance j225:FdI Tryz.prog tDeed 46 0 0 (tI .i64) (fun d=>d.kind) (fun d x=>{ d with kind:=x }):=⟨vc,rM⟩
instance j226:FdI Tryz.prog tDeed 46 1 1 tS (fun d=>d.name) (fun d x=>{ d with name:=x }):=⟨u7,rL⟩
instance j227:FdI Tryz.prog tDeed 46 2 2 (tI .i64) (fun d=>d.id) (fun d x=>{ d with id:=x }):=⟨u6,rK⟩
instance j228:FdI Tryz.prog tDeed 46 3 3 (tL tSet) (fun d=>d.sets) (fun d x=>{ d with sets:=x }):=⟨qv,nv⟩
instance j229:FdI Tryz.prog tDeed 46 4 4 (tL tCol) (fun d=>d.cols) (fun d x=>{ d with cols:=x }):=⟨qu,nu⟩
instance j230:FdI Tryz.prog tDeed 46 5 5 tChange (fun d=>d.change) (fun d x=>{ d with change:=x }):=⟨fDeed_5,nt⟩
instance j231:FdI Tryz.prog tDeed 46 6 15 tLink (fun d=>d.link) (fun d x=>{ d with link:=x }):=⟨qt,nr⟩
instance j232:FdI Tryz.prog tLink 44 0 0 tS (fun d=>d.from_) (fun d x=>{ d with from_:=x }):=⟨lA,nA⟩
instance j233:FdI Tryz.prog tLink 44 1 1 tS (fun d=>d.col) (fun d x=>{ d with col:=x }):=⟨jt,kb⟩
instance j234:FdI Tryz.prog tLink 44 2 2 tS (fun d=>d.to) (fun d x=>{ d with to:=x }):=⟨nB,rP⟩
instance j235:FdI Tryz.prog tLink 44 3 3 (tI .i64) (fun d=>d.how) (fun d x=>{ d with how:=x }):=⟨lz,nw⟩
instance j238:FdI Tryz.prog tRef 146 0 0 tS (fun d=>d.name) (fun d x=>{ d with name:=x }):=⟨u4,rO⟩
instance j239:FdI Tryz.prog tRef 146 1 1 (tI .i64) (fun d=>d.id) (fun d x=>{ d with id:=x }):=⟨u0,rN⟩
instance j240:FdI Tryz.prog tRow 66 0 0 (tI .i64) (fun d=>d.id) (fun d x=>{ d with id:=x }):=⟨bH,ca⟩
instance j241:FdI Tryz.prog tRow 66 1 1 (tI .i64) (fun d=>d.ver) (fun d x=>{ d with ver:=x }):=⟨a8,bh⟩
instance j242:FdI Tryz.prog tRow 66 2 2 (tL tVal) (fun d=>d.vals) (fun d x=>{ d with vals:=x }):=⟨dy,cV⟩
instance j243:FdI Tryz.prog tSet 126 0 0 tS (fun d=>d.name) (fun d x=>{ d with name:=x }):=⟨mA,oZ⟩
instance j244:FdI Tryz.prog tSet 126 1 1 tVal (fun d=>d.val) (fun d x=>{ d with val:=x }):=⟨fSet_1,oY⟩
instance j245:FdI Tryz.prog tTab 61 0 0 tS (fun d=>d.name) (fun d x=>{ d with name:=x }):=⟨eA,kc⟩
instance j246:FdI Tryz.prog tTab 61 1 1 tTable (fun d=>d.table) (fun d x=>{ d with table:=x }):=⟨fTab_1,aC⟩
instance j247:FdI Tryz.prog tTable 59 0 0 (tL tCol) (fun d=>d.first) (fun d x=>{ d with first:=x }):=⟨dN,fk⟩
instance j249:FdI Tryz.prog tTable 59 2 2 (tL tRow) (fun d=>d.rows) (fun d x=>{ d with rows:=x }):=⟨fTable_2,fa27_2⟩
instance j250:FdI Tryz.prog tTable 59 3 3 (tI .i64) (fun d=>d.next) (fun d x=>{ d with next:=x }):=⟨dM,gD⟩
instance j251:FdI Tryz.prog tVal 38 0 0 (tI .i64) (fun d=>d.kind) (fun d x=>{ d with kind:=x }):=⟨o0,zA⟩
instance j252:FdI Tryz.prog tVal 38 1 1 (tI .i64) (fun d=>d.n) (fun d x=>{ d with n:=x }):=⟨rQ,uX⟩
instance j253:FdI Tryz.prog tVal 38 2 2 tS (fun d=>d.text) (fun d x=>{ d with text:=x }):=⟨zB,zy⟩
instance j254:BQ Tryz.prog tBaseA 0 26 (fun d=>d.tabs) (fun d x=>{ d with tabs:=x }):=⟨aD,ty1023⟩
instance j255:BQ Tryz.prog tBaseA 1 27 (fun d=>d.links) (fun d x=>{ d with links:=x }):=⟨bF,fx⟩
instance j256:BQ Tryz.prog tTableA 2 57 (fun d=>d.rows) (fun d x=>{ d with rows:=x }):=⟨fTableA_2,ty25⟩
instance j257:KvC Tryz.prog tTableA 1 56 tChange (fun d=>d.changes) (fun d x=>{ d with changes:=x }):=⟨az,kT⟩
end Go.Proofs.YtganfdhmkdehlaaGreatDoor
