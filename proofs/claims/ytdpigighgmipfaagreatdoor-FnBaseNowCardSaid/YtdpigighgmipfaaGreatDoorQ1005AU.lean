import Derived.Test.YtdpigighgmipfaaGreatDoorQ1005Ty
set_option linter.all false
namespace Go.HL
theorem at0 {α:Type _}{a:α}{l:List α}:(a::l)[0]? = some a:=rfl
theorem atS {α:Type _}{a x:α}{l:List α}{i:Nat}(h:l[i]? = some x):(a::l)[i+1]? = some x:=h
class UnS (P:Go.Program) (t:Go.TypeId) (el:outParam Go.TypeId):Prop where
  h:P.underlying t=some (.slice el)
class UnT (P:Go.Program) (t:Go.TypeId):Prop where
  h:P.underlying t=some .string
class TyI (P:Go.Program) (t:Go.TypeId) (sz:outParam Nat) (ag:outParam Bool):Prop where
  h:TyAt P t sz ag
class FaI (P:Go.Program) (t:Go.TypeId) (i:Nat) (off:outParam Nat):Prop where
  h:FldAt P t i off
class ElI (P:Go.Program) (t:Go.TypeId) (sz:outParam Nat):Prop where
  h:ElAt P t sz
class StI (P:Go.Program) (t:Go.TypeId) (pl:outParam (List (Nat×Nat))):Prop where
  h:StAt P t pl
class ZI (P:Go.Program) (t:Go.TypeId) {α:outParam Type} (T:outParam (Ty α)) (d:outParam α):Prop where
  h:ZeroAt P t T d []
class TyOf (P:Go.Program) (t:Go.TypeId) {α:outParam Type} (T:outParam (Ty α)):Prop where
  u:True:=trivial
class FldC (P:Go.Program) {α:Type} (T:Ty α) (off:Nat) (t:Go.TypeId) {β:outParam Type} (U:outParam (Ty β)) (g:outParam (α→β)) (st:outParam (α→β→α)):Prop where
  f:Fld T off U g st
  t:TyAt P t U.sz U.agg
class AddI (a b:Nat) (c:outParam Nat):Prop where
  h:c=a+b
instance (priority:=low) {a b:Nat}:AddI a b (a+b):=⟨rfl⟩
instance {b:Nat}:AddI 0 b b:=⟨by simp⟩
instance {b:Nat}:AddI b 0 b:=⟨rfl⟩
class RawC (P:Go.Program) {α:Type} (T:Ty α) (off:Nat) (t:Go.TypeId) (g:outParam (α→Go.Value)) (st:outParam (α→Go.Value→α)):Prop where
  f:Fld T off tRaw g st
  t:TyAt P t 1 false
instance {P:Go.Program} {α:Type} {T:Ty α} {o:Nat} {t:Go.TypeId} {β:Type} {U:Ty β} {g:α→β} {st:α→β→α} [h:FldC P T o t U g st]:FldC P T (0+o) t U g st:=⟨by rw [Nat.zero_add];exact h.f,h.t⟩
instance {P:Go.Program} {α:Type} {T:Ty α} {o:Nat} {t:Go.TypeId} {g:α→Go.Value} {st:α→Go.Value→α} [h:RawC P T o t g st]:RawC P T (0+o) t g st:=⟨by rw [Nat.zero_add];exact h.f,h.t⟩
class KvC (P:Go.Program) {α:Type} (T:Ty α) (off:Nat) (t:Go.TypeId) {β:outParam Type} (U:outParam (Ty β)) (g:outParam (α→Go.Value×List β)) (st:outParam (α→Go.Value×List β→α)):Prop where
  f:Fld T off (tLk U) g st
  t:TyAt P t 1 false
class FdI (P:Go.Program) {α:Type} (T:Ty α) (t:Go.TypeId) (i:Nat) (off:outParam Nat) {β:outParam Type} (U:outParam (Ty β)) (g:outParam (α→β)) (st:outParam (α→β→α)):Prop where
  f:Fld T off U g st
  t:FldAt P t i off
inductive FillI (P:Go.Program) (t:Go.TypeId) (S:List (Nat×Ent)) {α:Type} (T:Ty α) (pl:Nat→Option (Nat×Nat)):α→List (Nat×Go.Operand)→α→Prop
  | nil {d}:FillI P t S T pl d [] d
  | cons {β:Type} {U:Ty β} {d d':α} {i off:Nat} {x:Go.Operand} {g:α→β} {st:α→β→α} {q:β} {ov:Option Go.Value} {rest:List (Nat×Go.Operand)} :
      FdI P T t i off U g st→pl i=some (off,U.sz)→opVA S x=some (U.va q,ov)→FillI P t S T pl (st d q) rest d'→FillI P t S T pl d ((i,x)::rest) d'
theorem FillI.out {P:Go.Program}{t:Go.TypeId}{S:List (Nat×Ent)}{α:Type}{T:Ty α}{pl:Nat→Option (Nat×Nat)}{d d':α}{l:List (Nat×Go.Operand)}(h:FillI P t S T pl d l d'):Fill S T pl d l d':=by
  induction h with
  | nil=>exact .nil
  | cons h1 h2 h3 _ ih=>exact .cons h1.f h2 h3 ih
section
variable {P:Go.Program}{f:Go.FuncId}{e:Env}{ρ σ α β: Type}{T:Ty α}{U:Ty β}{R:ρ→Go.Value→Go.World→Prop}{Kp:ρ→Go.Act→Go.World→Prop}
variable {S S0:List (Nat×Ent)}{B B0: List Own}
variable {k:List Go.Item}{r:Option ρ}{arr:Array Oper}{rest:List Oper}
variable {d:Nat}{ty t u el:Go.TypeId}{pos:String}{af:Array Go.Edge}{ov ov':Option Go.Value}
variable {x y:Go.Operand}{κ:Go.IntKind}{m:Int}
theorem lk {S:List (Nat×Ent)}{t:Nat}{Q:Ent}(h:look S t=some Q:=by first | exact rfl | exact (show Ext _ _ by assumption) _ _ rfl):look S t=some Q:=h
theorem bx0 {O:Own}{i:Nat}(h:B[i]? = some O:=by first | exact at0 | exact atS at0 | exact atS (atS at0) | exact atS (atS (atS at0)) | exact atS (atS (atS (atS at0))) | exact atS (atS (atS (atS (atS at0)))) | exact atS (atS (atS (atS (atS (atS at0))))) | exact atS (atS (atS (atS (atS (atS (atS at0))))))):B[i]? = some O:=h
theorem look_self {S:List (Nat×Ent)}(d:Nat)(Q:Ent):look ((d,Q)::S) d=some Q:=by simp [look]
theorem WO.lpI {i off:Nat}{b:Nat}{v:α}{g:α→β}{st:α→β→α}(hx:opVA S x=some (isP b off,ov)){kn:List (Nat×Go.Value)}(hB:B[i]? = some (boxO b T v kn))(hf:FldC P T off t U g st)(hd:Nat.ble (d+1) e.N=true)
    (h:WO P e Kp arr rest ⟨(d,U.va (g v),none)::S,B⟩ r):WO P e Kp arr (mkOp d (.load t x) ty pos af::rest) ⟨S,B⟩ r:=.lp i hf.f hx hB hf.t hd h
theorem WO.lrI {i off:Nat}{b:Nat}{v:α}{g:α→Go.Value}{st:α→Go.Value→α}(hx:opVA S x=some (isP b off,ov)){kn:List (Nat×Go.Value)}(hB:B[i]? = some (boxO b T v kn))(hf:RawC P T off t g st)(hd:Nat.ble (d+1) e.N=true)
    (h:WO P e Kp arr rest ⟨(d,isV (g v),some (g v))::S,B⟩ r):WO P e Kp arr (mkOp d (.load t x) ty pos af::rest) ⟨S,B⟩ r:=.loadR i hf.f hx hB hf.t hd<|.know d (look_self ..)<|fun q hq a w hk=>h q hq a w (hk.weaken fun t Q1 ht=>by
  simp only [look] at ht ⊢
  cases hb:Nat.beq d t with
  | true=>rw [hb] at ht;injection ht with ht;exact ⟨_,rfl,by rw [← ht],.inl (by rw [← ht])⟩
  | false=>rw [hb] at ht;exact ⟨Q1,ht,rfl,.inl rfl⟩)
theorem WO.fpI {off i o o' b:Nat}(hx:opVA S x=some (isP b o,ov))(hu:FaI P t i off)(ho:AddI o off o')(hd:Nat.ble (d+1) e.N=true)
    (h:WO P e Kp arr rest ⟨(d,isP b o',none)::S,B⟩ r):WO P e Kp arr (mkOp d (.fieldAddr t x i) ty pos af::rest) ⟨S,B⟩ r:=.fp hx hu.h hd (ho.h▸h)
theorem WO.fAI {sz k o o' off i:Nat}{v:Go.Value}(hx:opVA S x=some (isEl sz v k o,ov))(hu:FaI P t i off)(ho:AddI o off o')(hd:Nat.ble (d+1) e.N=true)
    (h:WO P e Kp arr rest ⟨(d,isEl sz v k o',none)::S,B⟩ r):WO P e Kp arr (mkOp d (.fieldAddr t x i) ty pos af::rest) ⟨S,B⟩ r:=.fieldA hx hu.h hd (ho.h▸h)
theorem WO.lkI {i off:Nat}{b:Nat}{v:α}{g:α→Go.Value×List β}{st:α→Go.Value×List β→α}(hx:opVA S x=some (isP b off,ov)){kn:List (Nat×Go.Value)}(hB:B[i]? = some (boxO b T v kn))(hf:KvC P T off t U g st)(hd:Nat.ble (d+1) e.N=true)
    (h:WO P e Kp arr rest ⟨(d,(tL U).va (g v).2,some (g v).1)::S,B⟩ r):WO P e Kp arr (mkOp d (.load t x) ty pos af::rest) ⟨S,B⟩ r:=.loadKV i hf.f hx hB hf.t hd h
theorem WO.ldI {v:α}(hx:opVA S x=some (isAt T v,ov)){sz ag}(ht:TyI P t sz ag)(hs:sz=T.sz)(ha:ag=T.agg)(hd:Nat.ble (d+1) e.N=true)
    (h:WO P e Kp arr rest ⟨(d,T.va v,none)::S,B⟩ r):WO P e Kp arr (mkOp d (.load t x) ty pos af::rest) ⟨S,B⟩ r:=.load hx (hs▸ha▸ht.h) hd h
end
end Go.HL
namespace Go.HL
end Go.HL
namespace Go.HL
section
variable {P:Go.Program}{f:Go.FuncId}{e:Env}{ρ σ α β: Type}{T:Ty α}{U:Ty β}{R:ρ→Go.Value→Go.World→Prop}{Kp:ρ→Go.Act→Go.World→Prop}
variable {S S0 S':List (Nat×Ent)}{B B0 B': List Own}
variable {k:List Go.Item}{r:Option ρ}{arr:Array Oper}{rest l: List Oper}
variable {d:Nat}{ty t u el:Go.TypeId}{pos:String}{af:Array Go.Edge}{ov ov':Option Go.Value}
variable {x y:Go.Operand}{κ:Go.IntKind}{m:Int}{xs:List α}
theorem WO.eaI [Inhabited α]{sz:Nat}{ag:Bool}(hx:opVA S x=some ((tL T).va xs,ov))(hy:opVA S y=some (isI κ m,ov'))(hu:UnS P t el)(he:TyI P el sz ag)(hs:sz=T.sz)(hd:Nat.ble (d+1) e.N=true)
    (h:WO P e Kp arr rest ⟨(d,isAt T (xs.getD m.toNat default),none)::S,B⟩ r):WO P e Kp arr (mkOp d (.indexAddr t x y) ty pos af::rest) ⟨S,B⟩ (cond (decide (0≤m)&&decide (m<xs.length)) r none):=.elemAt hx hy hu.h (hs▸he.h) hd h
theorem WO.eAI {i sz:Nat}{ag:Bool}{v:Go.Value}(hx:opVA S x=some (isV v,ov))(hy:opVA S y=some (isI κ m,ov'))(hB:B[i]? = some (arrO T v xs))(hI:Inhabited α)(hu:UnS P t el)(he:TyI P el sz ag)(hs:sz=T.sz)(hd:Nat.ble (d+1) e.N=true)
    (h:WO P e Kp arr rest ⟨(d,isEl T.sz v m.toNat 0,none)::S,B⟩ r):WO P e Kp arr (mkOp d (.indexAddr t x y) ty pos af::rest) ⟨S,B⟩ (cond (decide (0≤m)&&decide (m<xs.length)) r none):=.elemA i hx hy hB hu.h (hs▸he.h) hd h
theorem WO.eaU [Inhabited α]{sz:Nat}{ag:Bool}(hx:opVA S x=some ((tL T).va xs,ov))(hy:opVA S y=some (isI κ m,ov'))(hu:UnS P t el)(he:TyI P el sz ag)(hs:sz=T.sz)(hb:(decide (0≤m)&&decide (m<xs.length))=true)(hd:Nat.ble (d+1) e.N=true)
    (h:WO P e Kp arr rest ⟨(d,isAt T (xs.getD m.toNat default),none)::S,B⟩ r):WO P e Kp arr (mkOp d (.indexAddr t x y) ty pos af::rest) ⟨S,B⟩ r:=.useC hb (.eaI hx hy hu he hs hd h)
theorem WO.eAU {i sz:Nat}{ag:Bool}{v:Go.Value}(hx:opVA S x=some (isV v,ov))(hy:opVA S y=some (isI κ m,ov'))(hB:B[i]? = some (arrO T v xs))(hI:Inhabited α)(hu:UnS P t el)(he:TyI P el sz ag)(hs:sz=T.sz)(hb:(decide (0≤m)&&decide (m<xs.length))=true)(hd:Nat.ble (d+1) e.N=true)
    (h:WO P e Kp arr rest ⟨(d,isEl T.sz v m.toNat 0,none)::S,B⟩ r):WO P e Kp arr (mkOp d (.indexAddr t x y) ty pos af::rest) ⟨S,B⟩ r:=.useC hb (.eAI hx hy hB hI hu he hs hd h)
theorem WO.lAI {i:Nat}{v:Go.Value}(hx:opVA S x=some (isV v,ov))(hB:B[i]? = some (arrO T v xs))(hu:UnS P t el)(hd:Nat.ble (d+1) e.N=true)
    (h:WO P e Kp arr rest ⟨(d,isI .i64 xs.length,none)::S,B⟩ r):WO P e Kp arr (mkOp d (.call { callee:=.builtin .len,args:=#[x],argTypes:=#[t] }) ty pos af::rest) ⟨S,B⟩ r:=.lenA i hx hB hu.h hd h
theorem WO.loadAI {i:Nat}{k off:Nat}{v:Go.Value}{g:α→β}{st:α→β→α}{sz:Nat}(hx:opVA S x=some (isEl sz v k off,ov))(hB:B[i]? = some (arrO T v xs))(hI:Inhabited α)(hs:sz=T.sz)(hf:FldC P T off t U g st)(hd:Nat.ble (d+1) e.N=true)
    (h:WO P e Kp arr rest ⟨(d,U.va (g (xs.getD k default)),none)::S,B⟩ r):WO P e Kp arr (mkOp d (.load t x) ty pos af::rest) ⟨S,B⟩ r:=.loadA i hf.f (hs▸hx) hB hf.t hd h
theorem WO.storeAI {i:Nat}{k off:Nat}{v:Go.Value}{g:α→β}{st:α→β→α}{q:β}{sz:Nat}(hx:opVA S x=some (isEl sz v k off,ov))(hB:B[i]? = some (arrO T v xs))(hI:Inhabited α)(hs:sz=T.sz)(hf:FldC P T off t U g st)(hy:opVA S y=some (U.va q,ov'))
    (h:WO P e Kp arr rest ⟨S,B.set i (arrO T v (xs.set k (st (xs.getD k default) q)))⟩ r):WO P e Kp arr (mkOpN (.store t x y) ty pos af::rest) ⟨S,B⟩ r:=.storeA i hf.f (hs▸hx) hB hy hf.t h
theorem WO.spI {i:Nat}{b off:Nat}{v:α}{g:α→β}{st:α→β→α}{q:β}(hx:opVA S x=some (isP b off,ov)){kn:List (Nat×Go.Value)}(hB:B[i]? = some (boxO b T v kn))(hf:FldC P T off t U g st)(hy:opVA S y=some (U.va q,ov'))
    (h:WO P e Kp arr rest ⟨S,B.set i (boxO b T (st v q) (cutK kn off U.sz))⟩ r):WO P e Kp arr (mkOpN (.store t x y) ty pos af::rest) ⟨S,B⟩ r:=.storeP i hf.f hx hB hy hf.t h
theorem WO.faI {off i:Nat}{v:α}{g:α→β}{st:α→β→α}(hx:opVA S x=some (isAt T v,ov))(hf:FdI P T t i off U g st)(hd:Nat.ble (d+1) e.N=true)
    (h:WO P e Kp arr rest ⟨(d,isAt U (g v),none)::S,B⟩ r):WO P e Kp arr (mkOp d (.fieldAddr t x i) ty pos af::rest) ⟨S,B⟩ r:=.fieldAt hf.f hx hf.t hd h
theorem WO.buI {pls:List (Nat×Nat)}{parts:Array (Nat×Go.Operand)}{d0 d1:α}(hz:ZI P t T d0)(hst:StI P t pls)(hT:T.agg=true)(hp:FillI P t S T (pls.toArray[·]?) d0 parts.toList d1)(hd:Nat.ble (d+1) e.N=true)
    (h:WO P e Kp arr rest ⟨(d,T.va d1,none)::S,B⟩ r):WO P e Kp arr (mkOp d (.build t parts) ty pos af::rest) ⟨S,B⟩ r:=.build hT hst.h hz.h hp.out hd h
theorem WO.liI {len:Nat}{parts:Array (Nat×Go.Operand)}{qs:List α}{sz:Nat}(hu:UnS P t el)(hT:TyOf P el T)(hp:Elems S T 0 parts.toList qs)(he:ElI P el sz)(hs:sz=T.sz)(hl:len=qs.length)(hlen:(Nat.ble (len * T.sz) 1000&&Nat.ble len 1000)=true)(hd:Nat.ble (d+1) e.N=true)
    (h:WO P e Kp arr rest ⟨(d,(tL T).va qs,none)::S,B⟩ r):WO P e Kp arr (mkOp d (.buildSlice t len parts) ty pos af::rest) ⟨S,B⟩ r:=.litN hu.h (hs▸he.h) hl hlen hp hd h
inductive SubS (S:List (Nat×Ent)):List (Nat×Ent)→Prop
  | n:SubS S []
  | c {d Q ov S'}:look S d=some (Q,ov)→SubS S S'→SubS S ((d,Q,none)::S')
  | k {d Q v S'}:look S d=some (Q,some v)→SubS S S'→SubS S ((d,Q,some v)::S')
theorem SubS.look {S S':List (Nat×Ent)}(h:SubS S S'):∀ t Q,look S' t=some Q→∃ Q0,look S t=some Q0∧Q.le Q0:=by
  induction h with
  | n=>intro t Q h;cases h
  | @c d Q ov S' h1 _ ih=>
    intro t Q1 h2
    simp only [Go.HL.look] at h2
    cases hb:Nat.beq d t with
    | true=>rw [hb] at h2;injection h2 with h2;subst h2;cases Nat.eq_of_beq_eq_true hb;exact ⟨_,h1,rfl,.inr rfl⟩
    | false=>rw [hb] at h2;exact ih _ _ h2
  | @k d Q v S' h1 _ ih=>
    intro t Q1 h2
    simp only [Go.HL.look] at h2
    cases hb:Nat.beq d t with
    | true=>rw [hb] at h2;injection h2 with h2;subst h2;cases Nat.eq_of_beq_eq_true hb;exact ⟨_,h1,rfl,.inl rfl⟩
    | false=>rw [hb] at h2;exact ih _ _ h2
def SubB (X Y:List Own):Prop:=∃ Z,X.Perm (Y++Z)
theorem SubB.n {X:List Own}:SubB X []:=⟨X,.refl _⟩
theorem SubB.c {X Y:List Own}{O:Own}(i:Nat)(h:X[i]? = some O)(k:SubB (X.eraseIdx i) Y):SubB X (O::Y):=let ⟨Z,hz⟩:=k;⟨Z,(perm_erase h).trans (hz.cons _)⟩
theorem SubB.s {X Y:List Own}(h:Y.Sublist X):SubB X Y:=let ⟨Z,hz⟩:=h.exists_perm_append;⟨Z,hz⟩
theorem W.use (h:W P f e R k ⟨S',B'⟩ r)(hs:SubS S S')(hb:SubB B B'):W P f e R k ⟨S,B⟩ r:=
  fun x hx a w hk=>let ⟨_,hz⟩:=hb;h x hx a w (((hk.permute hz).perm (List.sublist_append_left _ _)).weaken hs.look)
end
end Go.HL
namespace Go.HL
section
variable {P:Go.Program}{e:Env}{ρ:Type}{Kp:ρ→Go.Act→Go.World→Prop}
variable {S:List (Nat×Ent)}{B:List Own}{r:Option ρ}{arr:Array Oper}{rest:List Oper}
variable {d:Nat}{ty t u:Go.TypeId}{pos:String}{af:Array Go.Edge}{x y z:Go.Operand}
theorem gLoad (h:WO P e Kp arr (mkOp d (.load t x) ty pos af::rest) ⟨S,B⟩ r):WO P e Kp arr (mkOp d (.load t x) ty pos af::rest) ⟨S,B⟩ r:=h
theorem gStore (h:WO P e Kp arr (mkOpN (.store t x y) ty pos af::rest) ⟨S,B⟩ r):WO P e Kp arr (mkOpN (.store t x y) ty pos af::rest) ⟨S,B⟩ r:=h
theorem gIdx (h:WO P e Kp arr (mkOp d (.indexAddr t x y) ty pos af::rest) ⟨S,B⟩ r):WO P e Kp arr (mkOp d (.indexAddr t x y) ty pos af::rest) ⟨S,B⟩ r:=h
theorem gFld {i:Nat}(h:WO P e Kp arr (mkOp d (.fieldAddr t x i) ty pos af::rest) ⟨S,B⟩ r):WO P e Kp arr (mkOp d (.fieldAddr t x i) ty pos af::rest) ⟨S,B⟩ r:=h
theorem gLen (h:WO P e Kp arr (mkOp d (.call { callee:=.builtin .len,args:=#[x],argTypes:=#[t] }) ty pos af::rest) ⟨S,B⟩ r):WO P e Kp arr (mkOp d (.call { callee:=.builtin .len,args:=#[x],argTypes:=#[t] }) ty pos af::rest) ⟨S,B⟩ r:=h
theorem gBin {o:Go.BinOp}(h:WO P e Kp arr (mkOp d (.binOp o t x y u) ty pos af::rest) ⟨S,B⟩ r):WO P e Kp arr (mkOp d (.binOp o t x y u) ty pos af::rest) ⟨S,B⟩ r:=h
theorem gGd {j:Nat}{b:Bool}{o:Go.Op}{dst:Option Go.Tmp}(h:WO P e Kp arr ({ dst:=dst,op:=o,type:=ty,pos:=pos,after:=af,guard:=some (j,b) }::rest) ⟨S,B⟩ r):WO P e Kp arr ({ dst:=dst,op:=o,type:=ty,pos:=pos,after:=af,guard:=some (j,b) }::rest) ⟨S,B⟩ r:=h
theorem gMove (h:WO P e Kp arr (mkOp d (.move x) ty pos af::rest) ⟨S,B⟩ r):WO P e Kp arr (mkOp d (.move x) ty pos af::rest) ⟨S,B⟩ r:=h
theorem gAsg (h:WO P e Kp arr (mkOp d (.assign x) ty pos af::rest) ⟨S,B⟩ r):WO P e Kp arr (mkOp d (.assign x) ty pos af::rest) ⟨S,B⟩ r:=h
theorem gExt {i:Nat}(h:WO P e Kp arr (mkOp d (.extract x i) ty pos af::rest) ⟨S,B⟩ r):WO P e Kp arr (mkOp d (.extract x i) ty pos af::rest) ⟨S,B⟩ r:=h
theorem gNot (h:WO P e Kp arr (mkOp d (.unOp .not t x) ty pos af::rest) ⟨S,B⟩ r):WO P e Kp arr (mkOp d (.unOp .not t x) ty pos af::rest) ⟨S,B⟩ r:=h
theorem gB {b:Bool}{ov:Option Go.Value}{l:List Oper}(h:WO P e Kp arr l ⟨(d,isB b,ov)::S,B⟩ r):WO P e Kp arr l ⟨(d,isB b,ov)::S,B⟩ r:=h
theorem WO.useE2 {b c:Bool}{ov:Option Go.Value}{l:List Oper}(hb:b=c)(h:WO P e Kp arr l ⟨(d,isB c,none)::S,B⟩ r):WO P e Kp arr l ⟨(d,isB b,ov)::S,B⟩ r:=.noV (.useEq hb h)
theorem gBui {parts:Array (Nat×Go.Operand)}(h:WO P e Kp arr (mkOp d (.build t parts) ty pos af::rest) ⟨S,B⟩ r):WO P e Kp arr (mkOp d (.build t parts) ty pos af::rest) ⟨S,B⟩ r:=h
theorem gLit {len:Nat}{parts:Array (Nat×Go.Operand)}(h:WO P e Kp arr (mkOp d (.buildSlice t len parts) ty pos af::rest) ⟨S,B⟩ r):WO P e Kp arr (mkOp d (.buildSlice t len parts) ty pos af::rest) ⟨S,B⟩ r:=h
theorem gPick (h:WO P e Kp arr (mkOp d (.pick z x y) ty pos af::rest) ⟨S,B⟩ r):WO P e Kp arr (mkOp d (.pick z x y) ty pos af::rest) ⟨S,B⟩ r:=h
end
end Go.HL
namespace Go.HL
section
variable {P:Go.Program}{f:Go.FuncId}{e:Env}{ρ σ α β: Type}{T:Ty α}{U:Ty β}{R:ρ→Go.Value→Go.World→Prop}{Kp:ρ→Go.Act→Go.World→Prop}
variable {S S0 S':List (Nat×Ent)}{B B0 B': List Own}
variable {k:List Go.Item}{r:Option ρ}{arr:Array Oper}{rest l: List Oper}
variable {d:Nat}{ty t u el:Go.TypeId}{pos:String}{af:Array Go.Edge}{ov ov':Option Go.Value}
variable {x y:Go.Operand}
structure CR (P:Go.Program) (g:Go.FuncId) (vs:List VA) (y:σ) (Q:σ→VA):Prop where
  c:Ctr P g vs [] (some y) (fun _ _=>[]) Q
  n : ∃ fn c, P.funcs[g]? = some fn ∧ (fn.name == "runtime.NumGoroutine") = false ∧ fn.body = some c
theorem W.pb {m : Option σ}{g : Go.FuncId}{vs : List VA}{Q : σ → VA}{r : σ → Option ρ}(c : Ctr P g vs [] m (fun _ _ => []) Q)(n : ∃ fn c, P.funcs[g]? = some fn ∧ (fn.name == "runtime.NumGoroutine") = false ∧ fn.body = some c)
    (h:∀ y,m=some y→CR P g vs y Q→W P f e R k ⟨S,B⟩ (r y)):W P f e R k ⟨S,B⟩ (m.bind r):=.pbind fun y hy=>h y hy ⟨hy▸c,n⟩
theorem WO.cr {g:Go.FuncId}{xs:Array Go.Operand}{tys:Array Go.TypeId}{vs:List VA}{y:σ}{Q:σ→VA}(hx:opVAs S xs.toList=some vs)(c:CR P g vs y Q)(hd:Nat.ble (d+1) e.N=true)
    (h:WO P e Kp arr rest ⟨(d,Q y,none)::S,B⟩ r):WO P e Kp arr (mkOp d (.call { callee:=.value (.func g),args:=xs,argTypes:=tys }) ty pos af::rest) ⟨S,B⟩ r:=
  fun x hx' a w hk=>(WO.call0 c.c c.n hx hd (r:=fun q=>by classical exact if q=y then r else none) (fun q=>by
    by_cases hq:q=y
    · subst hq;simpa using h
    · simp only [hq,if_false];exact .stop)) x (by simpa using hx') a w hk
theorem gCall {g:Go.FuncId}{xs:Array Go.Operand}{tys:Array Go.TypeId}(h:WO P e Kp arr (mkOp d (.call { callee:=.value (.func g),args:=xs,argTypes:=tys }) ty pos af::rest) ⟨S,B⟩ r):WO P e Kp arr (mkOp d (.call { callee:=.value (.func g),args:=xs,argTypes:=tys }) ty pos af::rest) ⟨S,B⟩ r:=h
theorem gRet (h:W P f e R (.code .ret::k) ⟨S,B⟩ r):W P f e R (.code .ret::k) ⟨S,B⟩ r:=h
theorem Rv.cI {α:Type}{T:Ty α}{v:α}{t tt bl i:Nat}{kn:List (Nat×Go.Value)}{sz ag}(h:look S t=some (isP bl 0,ov))(hB:B[i]? = some (boxO bl T v kn))(ht:TyI P tt sz ag)(hs:sz=T.sz)(ha:ag=T.agg):Rv P e ⟨S,B⟩ (.cell t tt) (T.va v,none):=.cell i h hB (hs▸ha▸ht.h)
theorem rv {K:Ctx}{x:Go.ResultVar}{Q:Ent}(h:Rv P e K x Q:=by first | exact .tmp rfl | exact .cI rfl bx0 inferInstance rfl rfl):Rv P e K x Q:=h
theorem sbL {l m:List Own}(h:l.Sublist m:=by repeat first | exact .slnil | exact .refl _ | refine .cons_cons _ ?_ | refine .cons _ ?_):l.Sublist m:=h
theorem sbS (h:SubS S S':=by repeat first | exact .n | refine .c rfl ?_ | refine .k rfl ?_):SubS S S':=h
theorem sbB (h:SubB B B':=by repeat first | exact .n | refine .c _ bx0 ?_ | (refine .s ?_;repeat first | exact .refl _ | refine .cons _ ?_)):SubB B B':=h
theorem Ctr.w {k:Go.FuncId}{fn:Go.Func}{c:Go.Code}{n:Nat}{vs:List VA}{O:List Own}{y:Option ρ}{O':ρ→Go.Value→List Own}{Q:ρ→VA}
    (hf:P.funcs[k]? = some fn) (hn:fn.ntmps=n) (h:P.funcs[k]? = some fn→∀ A w,W P k (env A w O n) (RR A w O O' Q) [.code c] ⟨slots 0 vs,O⟩ y) (hb:fn.body=some c:=by rfl) (hl:Nat.ble vs.length n=true:=by rfl):Ctr P k vs O y O' Q:=.of_W hf hb hn hl (h hf)
theorem CtrL.w {ν:Type}{k:Go.FuncId}{fn:Go.Func}{c:Go.Code}{n:Nat}{vs:List VA}{O:List Own}{y:Option ρ}{rv:Go.Value→ν}{O':ρ→ν→List Own}{Q:ρ→ν→VA}
    (hf:P.funcs[k]? = some fn) (hn:fn.ntmps=n) (h:P.funcs[k]? = some fn→∀ A w,W P k (env A w O n) (RRL A w O rv O' Q) [.code c] ⟨slots 0 vs,O⟩ y) (hb:fn.body=some c:=by rfl) (hl:Nat.ble vs.length n=true:=by rfl):CtrL P k vs O y rv O' Q:=.of_W hf hb hn hl (h hf)
end
attribute [local irreducible] W WO
structure Hid (q:Prop):Prop where
  v:q
theorem go {p q:Prop}(x:q)(h:Hid q→p:=by
  intro h
  repeat first
    | (refine gMove ?_;refine WO.m rfl rfl ?_)
    | (refine gFld ?_;first | refine WO.fpI rfl inferInstance inferInstance rfl ?_ | refine WO.faI rfl inferInstance rfl ?_ | refine WO.fAI rfl inferInstance inferInstance rfl ?_)
    | (refine gLoad ?_;first | refine WO.ldI rfl inferInstance rfl rfl rfl ?_ | (apply WO.lrI;exact rfl;exact bx0;exact inferInstance;exact rfl) | (apply WO.lkI;exact rfl;exact bx0;exact inferInstance;exact rfl) | (apply WO.lpI;exact rfl;exact bx0;exact inferInstance;exact rfl) | refine WO.loadAI rfl bx0 inferInstance (by rfl) inferInstance rfl ?_)
    | (refine gBin ?_;first | refine WO.bin rfl rfl rfl rfl ?_ | refine WO.seq rfl rfl rfl ?_ | refine WO.sne rfl rfl rfl ?_)
    | (refine gGd ?_;first | refine WO.on rfl rfl ?_ | refine WO.off rfl rfl rfl ?_ | refine WO.offU rfl rfl rfl ?_)
    | refine WO.nil ?_
    | (refine gAsg ?_;refine WO.a rfl rfl ?_)
    | (refine gIdx ?_;first | refine WO.eaI rfl rfl inferInstance inferInstance rfl rfl ?_ | (refine WO.eaU rfl rfl inferInstance inferInstance rfl ?_ rfl ?_;· with_reducible assumption) | refine WO.eAI rfl rfl bx0 inferInstance inferInstance inferInstance (by rfl) rfl ?_ | (refine WO.eAU rfl rfl bx0 inferInstance inferInstance inferInstance (by rfl) ?_ rfl ?_;· with_reducible assumption))
    | (refine gLen ?_;first | refine WO.lenL rfl UnS.h rfl ?_ | refine WO.lenS rfl UnT.h rfl ?_ | (apply WO.lAI;exact rfl;exact bx0;exact inferInstance;exact rfl))
    | (refine gStore ?_;first | (apply WO.spI;exact rfl;exact bx0;exact inferInstance;exact rfl) | refine WO.storeAI rfl bx0 inferInstance (by rfl) inferInstance (by rfl) ?_)
    | (refine gPick ?_;first | refine WO.pickT rfl rfl rfl ?_ | refine WO.pickF rfl rfl rfl ?_)
    | (refine gExt ?_;refine WO.extract rfl rfl rfl ?_)
    | (refine gNot ?_;refine WO.not rfl rfl ?_)
    | (refine gBui ?_;(apply WO.buI;exact inferInstance;exact inferInstance;exact rfl;(repeat first | exact .nil | (apply FillI.cons;exact inferInstance;exact rfl;exact rfl));exact rfl))
    | (refine gCall ?_;(apply WO.cr;exact rfl;assumption;exact rfl))
    | (refine gLit ?_;apply WO.liI;exact inferInstance;exact inferInstance;(repeat first | exact .nil | (apply Elems.cons;exact rfl));exact inferInstance;exact rfl;exact rfl;exact rfl;exact rfl)
  exact h.v):p:=h ⟨x⟩
theorem fj {P:Go.Program}{f:Go.FuncId}{e:Env}{ρ:Type}{R:ρ→Go.Value→Go.World→Prop}{k:List Go.Item}{S':List (Nat×Ent)}{B':List Own}{r:Option ρ}{p:Prop}(h:W P f e R k ⟨S',B'⟩ r)(x:W P f e R k ⟨S',B'⟩ r→p:=by
  intro h
  repeat first
    | (refine gMove ?_;refine WO.m rfl rfl ?_)
    | (refine gFld ?_;first | refine WO.fpI rfl inferInstance inferInstance rfl ?_ | refine WO.faI rfl inferInstance rfl ?_ | refine WO.fAI rfl inferInstance inferInstance rfl ?_)
    | (refine gLoad ?_;first | refine WO.ldI rfl inferInstance rfl rfl rfl ?_ | (apply WO.lrI;exact rfl;exact bx0;exact inferInstance;exact rfl) | (apply WO.lkI;exact rfl;exact bx0;exact inferInstance;exact rfl) | (apply WO.lpI;exact rfl;exact bx0;exact inferInstance;exact rfl) | refine WO.loadAI rfl bx0 inferInstance (by rfl) inferInstance rfl ?_)
    | (refine gBin ?_;first | refine WO.bin rfl rfl rfl rfl ?_ | refine WO.seq rfl rfl rfl ?_ | refine WO.sne rfl rfl rfl ?_)
    | (refine gGd ?_;first | refine WO.on rfl rfl ?_ | refine WO.off rfl rfl rfl ?_ | refine WO.offU rfl rfl rfl ?_)
    | refine WO.nil ?_
    | (refine gAsg ?_;refine WO.a rfl rfl ?_)
    | (refine gIdx ?_;first | refine WO.eaI rfl rfl inferInstance inferInstance rfl rfl ?_ | (refine WO.eaU rfl rfl inferInstance inferInstance rfl ?_ rfl ?_;· with_reducible assumption) | refine WO.eAI rfl rfl bx0 inferInstance inferInstance inferInstance (by rfl) rfl ?_ | (refine WO.eAU rfl rfl bx0 inferInstance inferInstance inferInstance (by rfl) ?_ rfl ?_;· with_reducible assumption))
    | (refine gLen ?_;first | refine WO.lenL rfl UnS.h rfl ?_ | refine WO.lenS rfl UnT.h rfl ?_ | (apply WO.lAI;exact rfl;exact bx0;exact inferInstance;exact rfl))
    | (refine gStore ?_;first | (apply WO.spI;exact rfl;exact bx0;exact inferInstance;exact rfl) | refine WO.storeAI rfl bx0 inferInstance (by rfl) inferInstance (by rfl) ?_)
    | (refine gPick ?_;first | refine WO.pickT rfl rfl rfl ?_ | refine WO.pickF rfl rfl rfl ?_)
    | (refine gExt ?_;refine WO.extract rfl rfl rfl ?_)
    | (refine gNot ?_;refine WO.not rfl rfl ?_)
    | (refine gBui ?_;(apply WO.buI;exact inferInstance;exact inferInstance;exact rfl;(repeat first | exact .nil | (apply FillI.cons;exact inferInstance;exact rfl;exact rfl));exact rfl))
    | (refine gCall ?_;(apply WO.cr;exact rfl;assumption;exact rfl))
    | (refine gLit ?_;apply WO.liI;exact inferInstance;exact inferInstance;(repeat first | exact .nil | (apply Elems.cons;exact rfl));exact inferInstance;exact rfl;exact rfl;exact rfl;exact rfl)
    | exact W.use h sbS sbB
    | refine W.g ?_
    | refine W.seq ?_
    | refine W.inBlock ?_
    | refine W.skip ?_
    | refine W.block ?_
    | refine W.exit rfl ?_):p:=x h
theorem fr {p:Prop}(x:p:=by
  repeat first
    | (refine gMove ?_;refine WO.m rfl rfl ?_)
    | (refine gFld ?_;first | refine WO.fpI rfl inferInstance inferInstance rfl ?_ | refine WO.faI rfl inferInstance rfl ?_ | refine WO.fAI rfl inferInstance inferInstance rfl ?_)
    | (refine gLoad ?_;first | refine WO.ldI rfl inferInstance rfl rfl rfl ?_ | (apply WO.lrI;exact rfl;exact bx0;exact inferInstance;exact rfl) | (apply WO.lkI;exact rfl;exact bx0;exact inferInstance;exact rfl) | (apply WO.lpI;exact rfl;exact bx0;exact inferInstance;exact rfl) | refine WO.loadAI rfl bx0 inferInstance (by rfl) inferInstance rfl ?_)
    | (refine gBin ?_;first | refine WO.bin rfl rfl rfl rfl ?_ | refine WO.seq rfl rfl rfl ?_ | refine WO.sne rfl rfl rfl ?_)
    | (refine gGd ?_;first | refine WO.on rfl rfl ?_ | refine WO.off rfl rfl rfl ?_ | refine WO.offU rfl rfl rfl ?_)
    | refine WO.nil ?_
    | (refine gAsg ?_;refine WO.a rfl rfl ?_)
    | (refine gIdx ?_;first | refine WO.eaI rfl rfl inferInstance inferInstance rfl rfl ?_ | (refine WO.eaU rfl rfl inferInstance inferInstance rfl ?_ rfl ?_;· with_reducible assumption) | refine WO.eAI rfl rfl bx0 inferInstance inferInstance inferInstance (by rfl) rfl ?_ | (refine WO.eAU rfl rfl bx0 inferInstance inferInstance inferInstance (by rfl) ?_ rfl ?_;· with_reducible assumption))
    | (refine gLen ?_;first | refine WO.lenL rfl UnS.h rfl ?_ | refine WO.lenS rfl UnT.h rfl ?_ | (apply WO.lAI;exact rfl;exact bx0;exact inferInstance;exact rfl))
    | (refine gStore ?_;first | (apply WO.spI;exact rfl;exact bx0;exact inferInstance;exact rfl) | refine WO.storeAI rfl bx0 inferInstance (by rfl) inferInstance (by rfl) ?_)
    | (refine gPick ?_;first | refine WO.pickT rfl rfl rfl ?_ | refine WO.pickF rfl rfl rfl ?_)
    | (refine gExt ?_;refine WO.extract rfl rfl rfl ?_)
    | (refine gNot ?_;refine WO.not rfl rfl ?_)
    | (refine gBui ?_;(apply WO.buI;exact inferInstance;exact inferInstance;exact rfl;(repeat first | exact .nil | (apply FillI.cons;exact inferInstance;exact rfl;exact rfl));exact rfl))
    | (refine gCall ?_;(apply WO.cr;exact rfl;assumption;exact rfl))
    | (refine gLit ?_;apply WO.liI;exact inferInstance;exact inferInstance;(repeat first | exact .nil | (apply Elems.cons;exact rfl));exact inferInstance;exact rfl;exact rfl;exact rfl;exact rfl)
    | refine W.g ?_
    | refine W.seq ?_
    | refine W.inBlock ?_
    | refine W.skip ?_
    | refine W.block ?_
    | refine W.exit rfl ?_
    | (refine gRet ?_;first | exact W.ret1 hf rfl rv rfl (fun _ _=>sbL) | exact W.ret2 hf rfl rv rv rfl (fun _=>sbL) | exact W.ret3 hf rfl rv rv rv rfl (fun _=>sbL))):p:=x
theorem sts {P:Go.Program}{e:Env}{C:List Own→Prop}{arr:Array Oper}{S0:List (Nat×Ent)}{E E':List (Option (Nat×Ent))}{l:List Oper}(x:Steps P e C arr S0 E l E':=by
  repeat first
    | exact .nil
    | (apply Steps.cons
       · intro _ _ _ hp he h
         try refine WO.on rfl (he _ _ rfl) ?_
         first
          | (refine gMove ?_;(refine WO.m (he.op rfl) rfl ?_;first | (refine gB ?_;exact WO.useE2 (by with_reducible assumption) h) | exact h))
          | (refine gFld ?_;first | exact WO.fpI (he.op rfl) inferInstance inferInstance rfl h | exact WO.faI (he.op rfl) inferInstance rfl h | exact WO.fAI (he.op rfl) inferInstance inferInstance rfl h)
          | (refine gLoad ?_;first | exact WO.ldI (he.op rfl) inferInstance rfl rfl rfl h | (apply WO.lrI;exact he.op rfl;exact hp.get bx0 rfl;exact inferInstance;exact rfl;exact h) | (apply WO.lkI;exact he.op rfl;exact hp.get bx0 rfl;exact inferInstance;exact rfl;exact h) | (apply WO.lpI;exact he.op rfl;exact hp.get bx0 rfl;exact inferInstance;exact rfl;exact h) | exact WO.loadAI (he.op rfl) (hp.get bx0 rfl) inferInstance (by rfl) inferInstance rfl h)
          | (refine gBin ?_;first | exact WO.bin rfl (he.op rfl) (he.op rfl) rfl h | exact WO.seq (he.op rfl) (he.op rfl) rfl h | exact WO.sne (he.op rfl) (he.op rfl) rfl h)
          | (refine gAsg ?_;exact WO.a (he.op rfl) rfl h)
          | (refine gIdx ?_;first | (refine WO.eaU (he.op rfl) (he.op rfl) inferInstance inferInstance rfl ?_ rfl h;with_reducible assumption) | (refine WO.eAU (he.op rfl) (he.op rfl) (hp.get bx0 rfl) inferInstance inferInstance inferInstance (by rfl) ?_ rfl h;with_reducible assumption))
          | (refine gLen ?_;first | exact WO.lenL (he.op rfl) UnS.h rfl h | exact WO.lenS (he.op rfl) UnT.h rfl h | (apply WO.lAI;exact he.op rfl;exact hp.get bx0 rfl;exact inferInstance;exact rfl;exact h))
          | (refine gPick ?_;first | exact WO.pickT (he.op rfl) (he.op rfl) rfl h | exact WO.pickF (he.op rfl) (he.op rfl) rfl h)
          | (refine gExt ?_;exact WO.extract (he.op rfl) rfl rfl h)
          | (refine gNot ?_;exact WO.not (he.op rfl) rfl h)
          | (refine gBui ?_;(apply WO.buI;exact inferInstance;exact inferInstance;exact rfl;(repeat first | exact .nil | (apply FillI.cons;exact inferInstance;exact rfl;exact he.op rfl));exact rfl;exact h))
          | (refine gCall ?_;(apply WO.cr;exact he.ops rfl;assumption;exact rfl;exact h))
          | (refine gLit ?_;apply WO.liI;exact inferInstance;exact inferInstance;(repeat first | exact .nil | (apply Elems.cons;exact he.op rfl));exact inferInstance;exact rfl;exact rfl;exact rfl;exact rfl;exact h)
          | exact WO.off rfl (he _ _ rfl) rfl h
          | exact WO.offU rfl (he _ _ rfl) rfl h)
    | apply Steps.skip):Steps P e C arr S0 E l E':=x
end Go.HL
namespace Go.Proofs.YtdpigighgmipfaaGreatDoor
open Go Go.HL
instance j0:TyI Tryz.prog 122 4 true:=⟨ty49⟩
instance j4:TyI Tryz.prog 26 2 true:=⟨ty1026⟩
instance j6:TyI Tryz.prog 3 1 false:=⟨ty3⟩
instance j8:TyI Tryz.prog 35 1 false:=⟨ty25⟩
instance j9:TyI Tryz.prog 37 4 true:=⟨ty27⟩
instance j10:TyI Tryz.prog 39 5 true:=⟨ty1039⟩
instance j11:TyI Tryz.prog 4 1 false:=⟨ty4⟩
instance j12:TyI Tryz.prog 44 4 true:=⟨ty1044⟩
instance j13:TyI Tryz.prog 5 1 false:=⟨ty5⟩
instance j14:TyI Tryz.prog 55 2 true:=⟨ty1055⟩
instance j15:TyI Tryz.prog 57 3 true:=⟨ty47⟩
instance j16:TyI Tryz.prog 59 7 true:=⟨ty52⟩
instance j17:TyI Tryz.prog 61 10 true:=⟨ty56⟩
instance j19:TyI Tryz.prog 76 1 false:=⟨ty32⟩
instance j20:TyI Tryz.prog 80 3 true:=⟨ty37⟩
instance j21:TyI Tryz.prog 9 1 false:=⟨ty9⟩
instance j22:FaI Tryz.prog 122 0 0:=⟨fa49_0⟩
instance j23:FaI Tryz.prog 122 1 1:=⟨fa49_1⟩
instance j24:FaI Tryz.prog 140 0 0:=⟨fa107_0⟩
instance j25:FaI Tryz.prog 140 1 1:=⟨fa107_1⟩
instance j26:FaI Tryz.prog 26 0 0:=⟨fa1026_0⟩
instance j27:FaI Tryz.prog 26 1 1:=⟨fa1026_1⟩
instance j28:FaI Tryz.prog 37 0 0:=⟨fa27_0⟩
instance j29:FaI Tryz.prog 37 1 1:=⟨fa27_1⟩
instance j30:FaI Tryz.prog 37 2 2:=⟨fa27_2⟩
instance j31:FaI Tryz.prog 37 3 3:=⟨fa27_3⟩
instance j32:FaI Tryz.prog 39 0 0:=⟨fa1039_0⟩
instance j33:FaI Tryz.prog 39 1 1:=⟨fa1039_1⟩
instance j34:FaI Tryz.prog 44 0 0:=⟨fa1044_0⟩
instance j35:FaI Tryz.prog 44 1 1:=⟨fa1044_1⟩
instance j36:FaI Tryz.prog 44 2 2:=⟨fa1044_2⟩
instance j37:FaI Tryz.prog 44 3 3:=⟨fa1044_3⟩
instance j38:FaI Tryz.prog 55 0 0:=⟨fa1055_0⟩
instance j39:FaI Tryz.prog 55 1 1:=⟨fa1055_1⟩
instance j40:FaI Tryz.prog 57 0 0:=⟨fa47_0⟩
instance j41:FaI Tryz.prog 57 1 1:=⟨fa47_1⟩
instance j42:FaI Tryz.prog 57 2 2:=⟨fa47_2⟩
instance j43:FaI Tryz.prog 59 0 0:=⟨fa52_0⟩
instance j44:FaI Tryz.prog 59 1 1:=⟨fa52_1⟩
instance j45:FaI Tryz.prog 59 2 2:=⟨fa52_2⟩
instance j46:FaI Tryz.prog 59 3 3:=⟨fa52_3⟩
instance j47:FaI Tryz.prog 59 4 4:=⟨fa52_4⟩
instance j48:FaI Tryz.prog 61 0 0:=⟨fa56_0⟩
instance j49:FaI Tryz.prog 61 1 1:=⟨fa56_1⟩
instance j50:FaI Tryz.prog 61 2 2:=⟨fa56_2⟩
instance j51:FaI Tryz.prog 61 3 3:=⟨fa56_3⟩
instance j52:FaI Tryz.prog 80 0 0:=⟨fa37_0⟩
instance j53:FaI Tryz.prog 80 1 1:=⟨fa37_1⟩
instance j54:FaI Tryz.prog 80 2 2:=⟨fa37_2⟩
instance j55:ElI Tryz.prog 122 4:=⟨el49⟩
instance j56:ElI Tryz.prog 3 1:=⟨el3⟩
instance j57:ElI Tryz.prog 39 5:=⟨el1039⟩
instance j58:ElI Tryz.prog 44 4:=⟨el1044⟩
instance j60:ElI Tryz.prog 55 2:=⟨el1055⟩
instance j61:ElI Tryz.prog 57 3:=⟨el47⟩
instance j62:ElI Tryz.prog 59 7:=⟨el52⟩
instance j63:ElI Tryz.prog 61 10:=⟨el56⟩
instance j65:ElI Tryz.prog 80 3:=⟨el37⟩
instance j66:ElI Tryz.prog 9 1:=⟨el9⟩
instance j67:StI Tryz.prog 122 [(0,1),(1,3)]:=⟨st49⟩
instance j69:StI Tryz.prog 26 [(0,1),(1,1)]:=⟨st1026⟩
instance j71:StI Tryz.prog 39 [(0,1),(1,4)]:=⟨st1039⟩
instance j72:StI Tryz.prog 44 [(0,1),(1,1),(2,1),(3,1)]:=⟨st1044⟩
instance j73:StI Tryz.prog 55 [(0,1),(1,1)]:=⟨st1055⟩
instance j74:StI Tryz.prog 57 [(0,1),(1,1),(2,1)]:=⟨st47⟩
instance j75:StI Tryz.prog 59 [(0,1),(1,1),(2,1),(3,1),(4,3)]:=⟨st52⟩
instance j76:StI Tryz.prog 61 [(0,1),(1,1),(2,1),(3,7)]:=⟨st56⟩
instance j77:StI Tryz.prog 80 [(0,1),(1,1),(2,1)]:=⟨st37⟩
instance j78:ZI Tryz.prog 122 tSet d0_49:=⟨z49⟩
instance j80:ZI Tryz.prog 26 tBase d0_1026:=⟨z1026⟩
instance j82:ZI Tryz.prog 39 tTab d0_1039:=⟨z1039⟩
instance j84:ZI Tryz.prog 44 tLink d0_1044:=⟨z1044⟩
instance j85:ZI Tryz.prog 55 tRef d0_1055:=⟨z1055⟩
instance j86:ZI Tryz.prog 57 tVal d0_47:=⟨z47⟩
instance j87:ZI Tryz.prog 59 tCol d0_52:=⟨z52⟩
instance j88:ZI Tryz.prog 61 tChange d0_56:=⟨z56⟩
instance j89:ZI Tryz.prog 80 tRow d0_37:=⟨z37⟩
instance j94:UnT Tryz.prog 9:=⟨Tryz.underlying9⟩
instance j95:UnS Tryz.prog 22 5:=⟨Tryz.underlying22⟩
instance j96:UnS Tryz.prog 23 39:=⟨Tryz.underlying23⟩
instance j97:UnS Tryz.prog 24 44:=⟨Tryz.underlying24⟩
instance j98:UnS Tryz.prog 27 59:=⟨Tryz.underlying27⟩
instance j99:UnS Tryz.prog 34 61:=⟨Tryz.underlying34⟩
instance j100:UnS Tryz.prog 35 80:=⟨Tryz.underlying35⟩
instance j101:UnS Tryz.prog 52 55:=⟨Tryz.underlying52⟩
instance j102:UnS Tryz.prog 68 122:=⟨Tryz.underlying68⟩
instance j103:UnS Tryz.prog 76 57:=⟨Tryz.underlying76⟩
instance j104:UnS Tryz.prog 89 9:=⟨Tryz.underlying89⟩
instance j105:UnS Tryz.prog 143 3:=⟨Tryz.underlying143⟩
instance j106:UnS Tryz.prog 182 76:=⟨Tryz.underlying182⟩
instance j107:FldC Tryz.prog tChange 7 3 (tI .i64) (fun d=>d.col.def_.kind) (fun d x=>{ d with col:={ d.col with def_:={ d.col.def_ with kind:=x } } }):=⟨(fChange_3.comp (fCol_4.comp fVal_0)),ty3⟩
instance j108:FldC Tryz.prog tChange 4 3 (tI .i64) (fun d=>d.col.kind) (fun d x=>{ d with col:={ d.col with kind:=x } }):=⟨(fChange_3.comp fCol_1),ty3⟩
instance j109:FldC Tryz.prog tChange 5 4 tB (fun d=>d.col.need) (fun d x=>{ d with col:={ d.col with need:=x } }):=⟨(fChange_3.comp fCol_2),ty4⟩
instance j110:FldC Tryz.prog tChange 7 57 tVal (fun d=>d.col.def_) (fun d x=>{ d with col:={ d.col with def_:=x } }):=⟨(fChange_3.comp fCol_4),ty47⟩
instance j111:FldC Tryz.prog tCol 4 3 (tI .i64) (fun d=>d.def_.kind) (fun d x=>{ d with def_:={ d.def_ with kind:=x } }):=⟨(fCol_4.comp fVal_0),ty3⟩
instance j112:FldC Tryz.prog tSet 1 3 (tI .i64) (fun d=>d.val.kind) (fun d x=>{ d with val:={ d.val with kind:=x } }):=⟨(fSet_1.comp fVal_0),ty3⟩
instance j113:FldC Tryz.prog tSet 2 3 (tI .i64) (fun d=>d.val.n) (fun d x=>{ d with val:={ d.val with n:=x } }):=⟨(fSet_1.comp fVal_1),ty3⟩
instance j114:FldC Tryz.prog tTab 3 35 (tL tRow) (fun d=>d.table.rows) (fun d x=>{ d with table:={ d.table with rows:=x } }):=⟨(fTab_1.comp fTable_2),ty25⟩
instance j115:FldC Tryz.prog tBaseA 0 23 tRaw (fun d=>d.tabs) (fun d x=>{ d with tabs:=x }):=⟨fBaseA_0,ty1023⟩
instance j116:FldC Tryz.prog tBaseA 1 24 tRaw (fun d=>d.links) (fun d x=>{ d with links:=x }):=⟨fBaseA_1,ty1024⟩
instance j117:FldC Tryz.prog tBase 0 23 (tL tTab) (fun d=>d.tabs) (fun d x=>{ d with tabs:=x }):=⟨fBase_0,ty1023⟩
instance j118:FldC Tryz.prog tBase 1 24 (tL tLink) (fun d=>d.links) (fun d x=>{ d with links:=x }):=⟨fBase_1,ty1024⟩
instance j119:FldC Tryz.prog tChange 0 3 (tI .i64) (fun d=>d.kind) (fun d x=>{ d with kind:=x }):=⟨fChange_0,ty3⟩
instance j120:FldC Tryz.prog tChange 1 9 tS (fun d=>d.name) (fun d x=>{ d with name:=x }):=⟨fChange_1,ty9⟩
instance j121:FldC Tryz.prog tChange 2 9 tS (fun d=>d.new) (fun d x=>{ d with new:=x }):=⟨fChange_2,ty9⟩
instance j122:FldC Tryz.prog tChange 3 59 tCol (fun d=>d.col) (fun d x=>{ d with col:=x }):=⟨fChange_3,ty52⟩
instance j123:FldC Tryz.prog tCol 0 9 tS (fun d=>d.name) (fun d x=>{ d with name:=x }):=⟨fCol_0,ty9⟩
instance j124:FldC Tryz.prog tCol 1 3 (tI .i64) (fun d=>d.kind) (fun d x=>{ d with kind:=x }):=⟨fCol_1,ty3⟩
instance j125:FldC Tryz.prog tCol 3 4 tB (fun d=>d.once) (fun d x=>{ d with once:=x }):=⟨fCol_3,ty4⟩
instance j126:FldC Tryz.prog tCol 4 57 tVal (fun d=>d.def_) (fun d x=>{ d with def_:=x }):=⟨fCol_4,ty47⟩
instance j127:FldC Tryz.prog tLink 0 9 tS (fun d=>d.from_) (fun d x=>{ d with from_:=x }):=⟨fLink_0,ty9⟩
instance j128:FldC Tryz.prog tLink 1 9 tS (fun d=>d.col) (fun d x=>{ d with col:=x }):=⟨fLink_1,ty9⟩
instance j129:FldC Tryz.prog tLink 2 9 tS (fun d=>d.to) (fun d x=>{ d with to:=x }):=⟨fLink_2,ty9⟩
instance j130:FldC Tryz.prog tLink 3 3 (tI .i64) (fun d=>d.how) (fun d x=>{ d with how:=x }):=⟨fLink_3,ty3⟩
instance j131:FldC Tryz.prog tRd 0 22 (tL (tI .u8)) (fun d=>d.b) (fun d x=>{ d with b:=x }):=⟨fRd_0,ty22⟩
instance j132:FldC Tryz.prog tRd 1 3 (tI .i64) (fun d=>d.p) (fun d x=>{ d with p:=x }):=⟨fRd_1,ty3⟩
instance j133:FldC Tryz.prog tRef 0 9 tS (fun d=>d.name) (fun d x=>{ d with name:=x }):=⟨fRef_0,ty9⟩
instance j134:FldC Tryz.prog tRef 1 3 (tI .i64) (fun d=>d.id) (fun d x=>{ d with id:=x }):=⟨fRef_1,ty3⟩
instance j135:FldC Tryz.prog tRow 0 3 (tI .i64) (fun d=>d.id) (fun d x=>{ d with id:=x }):=⟨fRow_0,ty3⟩
instance j136:FldC Tryz.prog tRow 1 3 (tI .i64) (fun d=>d.ver) (fun d x=>{ d with ver:=x }):=⟨fRow_1,ty3⟩
instance j137:FldC Tryz.prog tRow 2 76 (tL tVal) (fun d=>d.vals) (fun d x=>{ d with vals:=x }):=⟨fRow_2,ty32⟩
instance j138:FldC Tryz.prog tSet 0 9 tS (fun d=>d.name) (fun d x=>{ d with name:=x }):=⟨fSet_0,ty9⟩
instance j139:FldC Tryz.prog tSet 1 57 tVal (fun d=>d.val) (fun d x=>{ d with val:=x }):=⟨fSet_1,ty47⟩
instance j140:FldC Tryz.prog tTab 0 9 tS (fun d=>d.name) (fun d x=>{ d with name:=x }):=⟨fTab_0,ty9⟩
instance j141:FldC Tryz.prog tTab 1 37 tTable (fun d=>d.table) (fun d x=>{ d with table:=x }):=⟨fTab_1,ty27⟩
instance j143:FldC Tryz.prog tTableA 1 34 (tLk tChange) (fun d=>d.changes) (fun d x=>{ d with changes:=x }):=⟨fTableA_1,ty24⟩
instance j144:FldC Tryz.prog tTableA 2 35 tRaw (fun d=>d.rows) (fun d x=>{ d with rows:=x }):=⟨fTableA_2,ty25⟩
instance j145:FldC Tryz.prog tTableA 3 3 (tI .i64) (fun d=>d.next) (fun d x=>{ d with next:=x }):=⟨fTableA_3,ty3⟩
instance j146:FldC Tryz.prog tTable 0 27 (tL tCol) (fun d=>d.first) (fun d x=>{ d with first:=x }):=⟨fTable_0,ty23⟩
instance j147:FldC Tryz.prog tTable 1 34 (tL tChange) (fun d=>d.changes) (fun d x=>{ d with changes:=x }):=⟨fTable_1,ty24⟩
instance j148:FldC Tryz.prog tTable 2 35 (tL tRow) (fun d=>d.rows) (fun d x=>{ d with rows:=x }):=⟨fTable_2,ty25⟩
instance j149:FldC Tryz.prog tTable 3 3 (tI .i64) (fun d=>d.next) (fun d x=>{ d with next:=x }):=⟨fTable_3,ty3⟩
instance j150:FldC Tryz.prog tVal 0 3 (tI .i64) (fun d=>d.kind) (fun d x=>{ d with kind:=x }):=⟨fVal_0,ty3⟩
instance j151:FldC Tryz.prog tVal 1 3 (tI .i64) (fun d=>d.n) (fun d x=>{ d with n:=x }):=⟨fVal_1,ty3⟩
instance j152:FldC Tryz.prog tVal 2 9 tS (fun d=>d.text) (fun d x=>{ d with text:=x }):=⟨fVal_2,ty9⟩
instance j153:FldC Tryz.prog tSet 0 122 tSet (fun d=>d) (fun _ x=>x):=⟨Fld.self _,ty49⟩
instance j154:FldC Tryz.prog tBase 0 26 tBase (fun d=>d) (fun _ x=>x):=⟨Fld.self _,ty1026⟩
instance j155:FldC Tryz.prog tTable 0 37 tTable (fun d=>d) (fun _ x=>x):=⟨Fld.self _,ty27⟩
instance j156:FldC Tryz.prog tTab 0 39 tTab (fun d=>d) (fun _ x=>x):=⟨Fld.self _,ty1039⟩
instance j158:FldC Tryz.prog tLink 0 44 tLink (fun d=>d) (fun _ x=>x):=⟨Fld.self _,ty1044⟩
instance j159:FldC Tryz.prog tRef 0 55 tRef (fun d=>d) (fun _ x=>x):=⟨Fld.self _,ty1055⟩
instance j160:FldC Tryz.prog tVal 0 57 tVal (fun d=>d) (fun _ x=>x):=⟨Fld.self _,ty47⟩
instance j161:FldC Tryz.prog tCol 0 59 tCol (fun d=>d) (fun _ x=>x):=⟨Fld.self _,ty52⟩
instance j162:FldC Tryz.prog tChange 0 61 tChange (fun d=>d) (fun _ x=>x):=⟨Fld.self _,ty56⟩
instance j163:FldC Tryz.prog tRow 0 80 tRow (fun d=>d) (fun _ x=>x):=⟨Fld.self _,ty37⟩
instance j164:FldC Tryz.prog tBaseA 0 26 tBaseA (fun d=>d) (fun _ x=>x):=⟨Fld.self _,ty1026⟩
instance j165:FldC Tryz.prog tTableA 0 37 tTableA (fun d=>d) (fun _ x=>x):=⟨Fld.self _,ty27⟩
instance j167:FldC Tryz.prog tB 0 4 tB (fun d=>d) (fun _ x=>x):=⟨Fld.self _,ty4⟩
instance j169:AddI 1 1 2:=⟨rfl⟩
instance j170:AddI 1 2 3:=⟨rfl⟩
instance j171:AddI 3 1 4:=⟨rfl⟩
instance j172:AddI 3 2 5:=⟨rfl⟩
instance j173:AddI 3 4 7:=⟨rfl⟩
instance j174:TyOf Tryz.prog 122 tSet:={}
instance j177:TyOf Tryz.prog 39 tTab:={}
instance j179:TyOf Tryz.prog 44 tLink:={}
instance j180:TyOf Tryz.prog 55 tRef:={}
instance j181:TyOf Tryz.prog 57 tVal:={}
instance j182:TyOf Tryz.prog 59 tCol:={}
instance j183:TyOf Tryz.prog 61 tChange:={}
instance j184:TyOf Tryz.prog 80 tRow:={}
instance j185:TyOf Tryz.prog 3 (tI .i64):={}
instance j187:TyOf Tryz.prog 9 tS:={}
instance j190:FdI Tryz.prog tChange 61 0 0 (tI .i64) (fun d=>d.kind) (fun d x=>{ d with kind:=x }):=⟨fChange_0,fa56_0⟩
instance j191:FdI Tryz.prog tChange 61 1 1 tS (fun d=>d.name) (fun d x=>{ d with name:=x }):=⟨fChange_1,fa56_1⟩
instance j194:FdI Tryz.prog tCol 59 0 0 tS (fun d=>d.name) (fun d x=>{ d with name:=x }):=⟨fCol_0,fa52_0⟩
instance j195:FdI Tryz.prog tCol 59 1 1 (tI .i64) (fun d=>d.kind) (fun d x=>{ d with kind:=x }):=⟨fCol_1,fa52_1⟩
instance j196:FdI Tryz.prog tCol 59 2 2 tB (fun d=>d.need) (fun d x=>{ d with need:=x }):=⟨fCol_2,fa52_2⟩
instance j197:FdI Tryz.prog tCol 59 3 3 tB (fun d=>d.once) (fun d x=>{ d with once:=x }):=⟨fCol_3,fa52_3⟩
instance j198:FdI Tryz.prog tCol 59 4 4 tVal (fun d=>d.def_) (fun d x=>{ d with def_:=x }):=⟨fCol_4,fa52_4⟩
instance j199:FdI Tryz.prog tLink 44 0 0 tS (fun d=>d.from_) (fun d x=>{ d with from_:=x }):=⟨fLink_0,fa1044_0⟩
instance j200:FdI Tryz.prog tLink 44 1 1 tS (fun d=>d.col) (fun d x=>{ d with col:=x }):=⟨fLink_1,fa1044_1⟩
instance j201:FdI Tryz.prog tLink 44 2 2 tS (fun d=>d.to) (fun d x=>{ d with to:=x }):=⟨fLink_2,fa1044_2⟩
instance j202:FdI Tryz.prog tLink 44 3 3 (tI .i64) (fun d=>d.how) (fun d x=>{ d with how:=x }):=⟨fLink_3,fa1044_3⟩
instance j205:FdI Tryz.prog tRef 55 0 0 tS (fun d=>d.name) (fun d x=>{ d with name:=x }):=⟨fRef_0,fa1055_0⟩
instance j206:FdI Tryz.prog tRef 55 1 1 (tI .i64) (fun d=>d.id) (fun d x=>{ d with id:=x }):=⟨fRef_1,fa1055_1⟩
instance j207:FdI Tryz.prog tRow 80 0 0 (tI .i64) (fun d=>d.id) (fun d x=>{ d with id:=x }):=⟨fRow_0,fa37_0⟩
instance j208:FdI Tryz.prog tRow 80 1 1 (tI .i64) (fun d=>d.ver) (fun d x=>{ d with ver:=x }):=⟨fRow_1,fa37_1⟩
instance j209:FdI Tryz.prog tRow 80 2 2 (tL tVal) (fun d=>d.vals) (fun d x=>{ d with vals:=x }):=⟨fRow_2,fa37_2⟩
instance j210:FdI Tryz.prog tSet 122 0 0 tS (fun d=>d.name) (fun d x=>{ d with name:=x }):=⟨fSet_0,fa49_0⟩
instance j211:FdI Tryz.prog tSet 122 1 1 tVal (fun d=>d.val) (fun d x=>{ d with val:=x }):=⟨fSet_1,fa49_1⟩
instance j212:FdI Tryz.prog tTab 39 0 0 tS (fun d=>d.name) (fun d x=>{ d with name:=x }):=⟨fTab_0,fa1039_0⟩
instance j213:FdI Tryz.prog tTab 39 1 1 tTable (fun d=>d.table) (fun d x=>{ d with table:=x }):=⟨fTab_1,fa1039_1⟩
instance j216:FdI Tryz.prog tTable 37 2 2 (tL tRow) (fun d=>d.rows) (fun d x=>{ d with rows:=x }):=⟨fTable_2,fa27_2⟩
instance j218:FdI Tryz.prog tVal 57 0 0 (tI .i64) (fun d=>d.kind) (fun d x=>{ d with kind:=x }):=⟨fVal_0,fa47_0⟩
instance j219:FdI Tryz.prog tVal 57 1 1 (tI .i64) (fun d=>d.n) (fun d x=>{ d with n:=x }):=⟨fVal_1,fa47_1⟩
instance j220:FdI Tryz.prog tVal 57 2 2 tS (fun d=>d.text) (fun d x=>{ d with text:=x }):=⟨fVal_2,fa47_2⟩
instance j221:RawC Tryz.prog tBaseA 0 23 (fun d=>d.tabs) (fun d x=>{ d with tabs:=x }):=⟨fBaseA_0,ty1023⟩
instance j222:RawC Tryz.prog tBaseA 1 24 (fun d=>d.links) (fun d x=>{ d with links:=x }):=⟨fBaseA_1,ty1024⟩
instance j223:RawC Tryz.prog tTableA 2 35 (fun d=>d.rows) (fun d x=>{ d with rows:=x }):=⟨fTableA_2,ty25⟩
instance j224:KvC Tryz.prog tTableA 1 34 tChange (fun d=>d.changes) (fun d x=>{ d with changes:=x }):=⟨fTableA_1,ty24⟩
end Go.Proofs.YtdpigighgmipfaaGreatDoor
