/- Rules for sets that a call writes, and for blocks handed to function values. -/
import Derived.Test.YtganfdhmkdehlaaGreatDoorQ2004AU
set_option linter.all false
namespace Go.HL
open Go
section
variable {P:Program}{f:FuncId}{e:Env}{ρ σ ν:Type}{R:ρ→Value→World→Prop}{Kp:ρ→Act→World→Prop}
variable {S:List (Nat×Ent)}{B:List Own}{a:Act}{w:World}
variable {k:List Item}{r r':Option ρ}{arr:Array Oper}{rest l:List Oper}
variable {d:Nat}{ty t u el kt:TypeId}{pos:String}{af:Array Edge}{ov ov' ov'':Option Value}
variable {x y z:Operand}{α β γ:Type}{T:Ty α}{U:Ty β}{v:Value}{xs ys:List α}
theorem jq.app {H:List Nat}:∀ {B Z:List Own} {i:Nat},jq H i B (B++Z)
 | [],_,_=>.nil
 | _::_,_,_=>.same jq.app
theorem WO.front {O:Own}(h:WO P e Kp arr l ⟨S,O::B⟩ r):WO P e Kp arr l ⟨S,B++[O]⟩ r:=.perm (List.perm_append_singleton O B) h
theorem WO.callCT (pre:List Own){g:FuncId}{z:Operand}{caps:List VA}{xs:Array Operand}{tys:Array TypeId}{vs:List VA}{O:List Own}{y:Option σ}{O':σ→List Own}{Q:σ→VA}{r:σ→Option ρ}(hz:ay S z=some (ca g caps,ov))
     (hf : Ctr P g (vs ++ caps) O y (fun q _ => O' q) Q) (hfn : ∃ fn c, P.funcs[g]? = some fn ∧ (fn.name == "runtime.NumGoroutine") = false ∧ fn.body = some c) (hx : bM S xs.toList = some vs) (hd : Nat.ble (d + 1) e.N = true)
     (h:∀ q,WO P e Kp arr rest ⟨(d,Q q,none)::S,pre++O' q⟩ (r q)) :
     WO P e Kp arr (mkOp d (.call { callee:=.value z,args:=xs,argTypes:=tys }) ty pos af::rest) ⟨S,pre++O⟩ (y.bind r):=
 .perm List.perm_append_comm<|.callG (B':=pre) hf rfl (fun a w hk=>by
  obtain ⟨cs,hv,hcs⟩:=hk.ev hz
  refine ⟨xs.toList.map a.eval++cs,(hk.args hx).append hcs,?_⟩
  obtain ⟨fn,c,hfn1,hfn2,hfn3⟩:=hfn
  have hm:(xs.toList.map a.eval++cs).toArray=xs.map a.eval++cs.toArray:=by apply Array.ext';simp
  rw [hm]
  simp only [beq_eq_false_iff_ne,ne_eq] at hfn2
  simp [execOp,resolve,Deferred.ofValue,hv,invoke,callFunc,hfn1,hfn2,hfn3]) hd fun q v=>.perm List.perm_append_comm fun x hx a w hk=>h q x hx a w (m8 hk)
variable {v':α}{κ:Type}[DecidableEq κ]{Tk:Ty κ}{mk:κ→Value}{ks lk:List κ}{q:κ}
theorem W.frzP (i t:Nat){b:Nat}{kn:List (Nat×Value)}(ht:look S t=some (isP b 0,ov))(hB:B[i]? = some (boxO b T v' kn))(h:W P f e R k ⟨(t,cY T v',none)::S,B.eraseIdx i⟩ r):W P f e R k ⟨S,B⟩ r:=fun q hq a w hk=>h q hq a w (hk.frzP i ht hB)
theorem tT {i:Nat}(hB:B[i]? = some (mapO mk v ks))(hk:Holds e ⟨S,B⟩ a w):c7 v=true:=by
 have ho:=hk.owns _ (get_mem hB)
 cases v with
 | map r=>rfl
 | _=>exact ho.elim
theorem WO.toRawM (i t:Nat)(ht:look S t=some (isV v,ov))(hB:B[i]? = some (mapO mk v ks))(h:WO P e Kp arr l ⟨(t,tRaw.va v,none)::S,B⟩ r):WO P e Kp arr l ⟨S,B⟩ r:=
 fun q hq a w hk=>h q hq a w (hk.turn ht fun u hu=>⟨⟨hu.1,tT hB hk⟩,fun _ h=>by cases h⟩)
theorem WO.insert (i:Nat)(hx:ay S x=some (isV v,ov))(hy:ay S y=some (Tk.va q,ov'))(hB:B[i]? = some (mapO mk v ks))(hu:P.underlying t=some (.map kt el))(hk:pj P kt Tk mk)
     (h:WO P e Kp arr rest ⟨S,B.set i (mapO mk v (cond (memK q ks) ks (ks++[q])))⟩ r):WO P e Kp arr (jH (.insert t x y (.const (.bool true))) ty pos af::rest) ⟨S,B⟩ r:=
 fun x hx a w hh=>WO.mapAdd (pos:=pos) (ty:=ty) (af:=af) i ‹_› hy hB hu hk h x hx a w hh
theorem WO.nextMap2 (i j:Nat){it m since c0 clock:Nat}{es:Array MapEntry}{seen:Array Nat}(hx:ay S x=some (isP it 0,ov))(hB:B[i]? = some (iterO it m since c0 seen))(hB2:B[j]? = some (mapE m es clock))
     (hbn:Af es.toList since) (hsc:since≤c0) (hl:Left mk es seen lk) (hd:Nat.ble (d+1) e.N=true)
     (h0:lk=[]→WO P e Kp arr rest ⟨(d,tup [isB false],none)::S,B⟩ r)
     (h1:∀ q lk' en,lk.Perm (q::lk')→Left mk es (seen.push en.born) lk'→en∈es.toList→en.key=mk q→en.val=.bool true→WO P e Kp arr rest ⟨(d,tup [isB true,isV (mk q),isB true],none)::S,B.set i (iterO it m since clock (seen.push en.born))⟩ r) :
     WO P e Kp arr (mkOp d (.next x false) ty pos af::rest) ⟨S,B⟩ r:=by
 refine WO.opX rfl rfl fun a w hk=>?_
 have hv:=hk.ev hx
 simp only [isP] at hv
 have ho:w.heap[it]? = some (.mapIter (some m) since seen c0):=hk.owns _ (get_mem hB)
 have ho2:w.heap[m]? = some (.map es clock):=hk.owns _ (get_mem hB2)
 rcases run_next_at (P:=P) w ty it m since c0 seen es clock ho ho2 hbn.2 hsc with ⟨hz0,hrun⟩|⟨en,hen,w1,hw1,hrun⟩
 ·refine ⟨.tuple #[.bool false],w,_,by simp [execOp,hv,hrun],hk.put (Q:=(tup [isB false],none)) (Nat.le_of_ble_eq_true hd) ⟨⟨[.bool false],rfl,.cons rfl .nil⟩,fun u hu=>by cases hu⟩,h0 (t7 hl hz0)⟩
 ·obtain ⟨hen1,hen2⟩:=mem_left hen
  obtain ⟨q,lk',hkq,hvq,hp,hl'⟩:=t6 hl hbn.1 hen1 hen2
  have hw1h:w1.heap[it]? = some (.mapIter (some m) since seen c0):=by rcases hw1 with rfl|rfl<;>exact ho
  have hset:=MapKept.heap_set (o':=.mapIter (some m) since (seen.push en.born) clock) hw1h
  have hk1:Holds e ⟨S,B.set i (iterO it m since clock (seen.push en.born))⟩ a (ChangeMaps.setBlock w1 it (.mapIter (some m) since (seen.push en.born) clock)):=by
   refine Holds.write hk hB rfl rfl ?_ ?_ ?_ ?_ (fun b hb=>?_) (fun b o hb ho=>absurd ho (Nat.not_lt_zero _)) (fun _=>hset.1)
   ·rcases hw1 with rfl|rfl<;>rfl
   ·rcases hw1 with rfl|rfl<;>rfl
   ·rcases hw1 with rfl|rfl<;>rfl
   ·rcases hw1 with rfl|rfl<;>simp [ChangeMaps.setBlock]
   ·refine (hset.2 b (fun hbb=>hb (by rw [hbb];rfl))).trans ?_
    rcases hw1 with rfl|rfl<;>rfl
  exact ⟨.tuple #[.bool true,en.key,en.val],_,_,by simp [execOp,hv,hrun],hk1.put (Q:=(tup [isB true,isV (mk q),isB true],none)) (Nat.le_of_ble_eq_true hd) ⟨⟨[.bool true,en.key,en.val],rfl,.cons rfl (.cons hkq (.cons hvq .nil))⟩,fun u hu=>by cases hu⟩,h1 q lk' en hp hl' hen1 hkq hvq⟩
theorem WO.entryMap (i j:Nat){it m since clock:Nat}{es:Array MapEntry}{seen:Array Nat}{en:MapEntry}(hx:ay S x=some (isP it 0,ov))(hB:B[i]? = some (iterO it m since clock (seen.push en.born)))(hB2:B[j]? = some (mapE m es clock))
     (hbn:Af es.toList since) (he:en∈es.toList) (hkq:en.key=mk q) (hvq:en.val=.bool true) (hd:Nat.ble (d+1) e.N=true)
     (h:WO P e Kp arr rest ⟨(d,tup [isV (mk q),isB true],none)::S,B⟩ r):WO P e Kp arr (mkOp d (.entry x) ty pos af::rest) ⟨S,B⟩ r:=by
 refine WO.opX rfl rfl fun a w hk=>?_
 have hv:=hk.ev hx
 simp only [isP] at hv
 have ho:w.heap[it]? = some (.mapIter (some m) since (seen.push en.born) clock):=hk.owns _ (get_mem hB)
 have ho2:w.heap[m]? = some (.map es clock):=hk.owns _ (get_mem hB2)
 have hrun:=run_entry_at (P:=P) w it m since seen es clock en ho ho2 he hbn.1
 exact ⟨.tuple #[en.key,en.val],w,_,by simp [execOp,hv,hrun],hk.put (Q:=(tup [isV (mk q),isB true],none)) (Nat.le_of_ble_eq_true hd) ⟨⟨[en.key,en.val],rfl,.cons hkq (.cons hvq .nil)⟩,fun u hu=>by cases hu⟩,h⟩
theorem W.mapBack (i:Nat){m clock:Nat}{es:Array MapEntry}(hB:B[i]? = some (mapE m es clock))(h1:pk mk ks es.toList)(h2:Af es.toList clock)(h:W P f e R k ⟨S,B.set i (mapO mk (.map (some m)) ks)⟩ r):W P f e R k ⟨S,B⟩ r:=
 fun x hx a w hk=>h x hx a w (hk.recast hB rfl rfl fun hs=>⟨es,clock,hs,h1,h2⟩)
theorem WO.turnV (t:Nat){Q Q':VA}(ht:look S t=some (Q,ov))(hq:∀ v A w,Q.f v A w→Q'.f v A w)(h:WO P e Kp arr l ⟨(t,Q',none)::S,B⟩ r):WO P e Kp arr l ⟨S,B⟩ r:=
 fun q hq' a w hk=>h q hq' a w (hk.turn ht fun u hu=>⟨hq _ _ _ hu.1,fun _ h=>by cases h⟩)
theorem WO.lendR {L:Ar→World→Prop}{g:FuncId}{xs:Array Operand}{tys:Array TypeId}{vs vs0:List VA}{y:σ}{Q:σ→VA}
     (hf:Ctr P g vs [] (some y) (fun _ _=>[]) Q) (hL:∀ a w,Holds e ⟨S,B⟩ a w→∃ A',Ck e B w L A') (hv:∀ {A A':Ar} {w:World} {args:List Value},cZ A A' w w→L A' w→gJ A w args vs0→gJ A' w args vs)
     (hQ : ∀ q v A A' w w', (Q q).f v A w → (Q q).f v A' w') (hfn : ∃ fn c, P.funcs[g]? = some fn ∧ (fn.name == "runtime.NumGoroutine") = false ∧ fn.body = some c) (hx : bM S xs.toList = some vs0) (hd : Nat.ble (d + 1) e.N = true)
     (h:WO P e Kp arr rest ⟨(d,Q y,none)::S,B⟩ r) :
     WO P e Kp arr (mkOp d (.call { callee:=.value (.func g),args:=xs,argTypes:=tys }) ty pos af::rest) ⟨S,B⟩ r:=
 fun x hx' a w hk=>(WO.callLend hf hL hv hQ hfn hx hd (r:=fun q=>by classical exact if q=y then r else none) (fun q=>by
  by_cases hq:q=y
  ·subst hq;simpa using h
  ·simp only [hq,if_false];exact .stop)) x (by simpa using hx') a w hk
end
end Go.HL
