/- Logs that are drawn: the functions of the program, and that the machine answers so. -/
import Derived.Test.YtganfdhmkdehlaaGreatDoorQ2003B19
import Derived.KernelRfl
import Derived.KernelRfl
set_option linter.all false
namespace Go.Proofs.YtganfdhmkdehlaaGreatDoor
open Go Go.HL Tryz
def yq (p:Prop):Own where
 blk:=none
 lo:=0
 ok _ _:=p
 good _ _ h:=h
def inn (s:List (Value×List al)):List Own:=s.map fun p=>arrO tDeed p.1 p.2
section
variable {P:Program}{f:FuncId}{e:Env}{ρ σ ν:Type}{R:ρ→Value→World→Prop}{Kp:ρ→Go.Act→World→Prop}
variable {S:List (Nat×Ent)}{B:List Own}{a:Go.Act}{w:World}
variable {k:List Item}{r r':Option ρ}{arr:Array Oper}{rest l:List Oper}{p:Prop}{b:Bool}
theorem Bf (hp:p)(h:W P f e R k ⟨S,yq p::B⟩ r):W P f e R k ⟨S,B⟩ r:=fun x hx a w hk=>h x hx a w (hk.tok rfl fun _=>hp)
theorem zo (h:p→WO P e Kp arr l ⟨S,B⟩ r):WO P e Kp arr l ⟨S,yq p::B⟩ r:=fun x hx a w hk=>h (hk.owns _ List.mem_cons_self) x hx a w (hk.perm (.cons _ (.refl _)))
theorem Bg (he:r=r')(h:WO P e Kp arr l ⟨S,B⟩ r'):WO P e Kp arr l ⟨S,B⟩ r:=he▸h
theorem BZ {r1 r2:Option ρ}(h1:b=true→WO P e Kp arr l ⟨S,B⟩ r1)(h2:b=false→WO P e Kp arr l ⟨S,B⟩ r2):WO P e Kp arr l ⟨S,B⟩ (cond b r1 r2):=by
 cases b with
 | true=>exact h1 rfl
 | false=>exact h2 rfl
theorem tF {O:List Own}:∀ {s:List (Value×List al)},Holds e ⟨S,O++inn s⟩ a w→Holds e ⟨S,O⟩ a w∧∀ p,p∈s→slRel tDeed p.2 p.1 (Acur e O w) w
 | [],h=>⟨by simpa [inn] using h,fun _ hp=>nomatch hp⟩
 | q::s,h=>by
  have h1:Holds e ⟨S,arrO tDeed q.1 q.2::(O++inn s)⟩ a w:=h.permute (by show (O++arrO tDeed q.1 q.2::inn s).Perm _;exact List.perm_middle)
  obtain ⟨h2,h3⟩:=h1.freeze
  have h4:Holds e ⟨S,O++inn s⟩ a w:=h2.perm (.cons _ (.refl _))
  obtain ⟨h5,h6⟩:=tF h4
  refine ⟨h5,fun p hp=>?_⟩
  rcases List.mem_cons.1 hp with rfl|hp
  ·exact h3.good fun b o ⟨g1,g2,g3⟩=>⟨⟨g1,g2,fun Q hQ=>g3 Q (List.mem_cons_of_mem _ (List.mem_append_left _ hQ))⟩,z⟩
  ·exact h6 p hp
theorem qx {A:Ar}:∀ {s:List (Value×List al)} {cs:List Value},flat tRaw (s.map (·.1)) cs A w→(∀ p,p∈s→slRel tDeed p.2 p.1 A w)→flat (tL tDeed) (s.map (·.2)) cs A w
 | [],_,h,_=>h
 | q::s,cs,⟨c1,c2,e1,h1,h2⟩,h=>⟨c1,c2,e1,⟨q.1,h1.1,h q List.mem_cons_self⟩,qx h2 fun p hp=>h p (List.mem_cons_of_mem _ hp)⟩
theorem Ab {A:Ar}{v:Value}{s:List (Value×List al)}(h:(arrO tRaw v (s.map (·.1))).ok A w)(hs:∀ p,p∈s→slRel tDeed p.2 p.1 A w):(arrO (tL tDeed) v (s.map (·.2))).ok A w:=by
 cases v with
 | slice ad n c=>
  cases ad with
  | none=>
   obtain ⟨h1,h2,h3⟩:=h
   exact ⟨h1,h2,by rw [List.map_eq_nil_iff] at h3 ⊢;exact h3⟩
  | some x=>
   obtain ⟨h1,h2,h3,h4⟩:=h
   refine ⟨by rw [List.length_map] at h1 ⊢;exact h1,h2,h3,fun hc=>?_⟩
   obtain ⟨h5,pre,cs,post,et,h6,h7,h8,h9⟩:=h4 hc
   exact ⟨h5,pre,cs,post,et,h6,h7,qx h8 hs,h9⟩
 | _=>exact h
theorem yu {O:Own}{v:Value}{s:List (Value×List al)}(h:Holds e ⟨S,[O,arrO tRaw v (s.map (·.1))]⟩ a w)(hok:(arrO tRaw v (s.map (·.1))).ok (Acur e [O,arrO tRaw v (s.map (·.1))] w) w→(arrO (tL tDeed) v (s.map (·.2))).ok (Acur e [O,arrO tRaw v (s.map (·.1))] w) w):Holds e ⟨S,[O,arrO (tL tDeed) v (s.map (·.2))]⟩ a w:=
 Holds.recast (B:=[O,arrO tRaw v (s.map (·.1))]) (i:=1) (O':=arrO (tL tDeed) v (s.map (·.2))) h rfl rfl rfl hok
theorem oL {O:Own}{t:Nat}{v:Value}{s:List (Value×List al)}(ht:HL.look S t=some (isV v,some v))(h:W P f e R k ⟨(t,(tL (tL tDeed)).va (s.map (·.2)),some v)::S,[O,appO 1 v]⟩ r) :
     W P f e R k ⟨S,O::arrO tRaw v (s.map (·.1))::inn s⟩ r:=fun x hx a w hk=>by
 obtain ⟨h1,h2⟩:=tF (O:=[O,arrO tRaw v (s.map (·.1))]) hk
 have h3:Holds e ⟨S,[O,arrO (tL tDeed) v (s.map (·.2))]⟩ a w:=yu h1 fun ho=>Ab ho (fun p hp=>(h2 p hp).good fun b o h=>⟨h,rfl⟩)
 exact W.frz (T:=tL tDeed) 1 t ht z h x hx a w h3
end
theorem pm {α:Type}{l:List α}{d:α}{j:Nat}(h:j<l.length):l.getD j d=l[j]:=by simp [List.getD_eq_getElem?_getD,h]
theorem inn_at {s:List (Value×List al)}{j:Nat}(h:j<s.length):(inn s).Perm (arrO tDeed ((s.map (·.1)).getD j default) ((s.map (·.2)).getD j default)::inn (s.eraseIdx j)):=by
 rw [pm (by rw [List.length_map];exact h),pm (by rw [List.length_map];exact h),List.getElem_map,List.getElem_map]
 exact (gk h).map _
theorem yL {s:List (Value×List al)}{j:Nat}{v:Value}{x:List al}(h:j<s.length):(arrO tDeed v x::inn (s.eraseIdx j)).Perm (inn (s.set j (v,x))):=by
 unfold inn
 rw [List.map_set,← c7]
 exact bf (O:=arrO tDeed s[j].1 s[j].2) (by rw [List.getElem?_map,List.getElem?_eq_getElem h];rfl)
theorem yM {s:List (Value×List al)}{j:Nat}{x:List al}(h:j<s.length):(s.set j ((s.map (·.1)).getD j default,x)).map (·.1)=s.map (·.1):=by
 rw [List.map_set]
 show (s.map (·.1)).set j ((s.map (·.1)).getD j default)=_
 rw [pm (by rw [List.length_map];exact h),List.set_getElem_self]
theorem c2142a (fu:Nat)(a0:List al):aS prog 142 [(tL tDeed).va a0] [] (wo fu a0) (fun v=>v) (fun q v=>[arrO tDeed v q]) (fun _ v=>tRaw.va v):=by
 refine aS.of_W func142 z ntmps142 z fun A w=>?_
 unfold wo
 refine .s<|.a z z<|.arrNil tDeed<|.nil<|.s<|.lit (T:=tDeed) u32 js z z (.nil) z fun v1=>.toArr 0 6 z z z<|.an z z<|.seq<|.s<|.an z z<|.block<|.loop<|.drop (.d<|.c<|.e)<|.keep [0,4] [3] z<|(show ∀ (n1:Nat) (i2:Int) (v3:Value) (i4:List al),W _ _ _ _ _ ⟨[(0,(tL tDeed).va a0,none),(4,isI .i64 i2,none),(3,isV v3,some v3)],[arrO tDeed v3 i4]⟩ (fJ a0 n1 i2 i4) from ?_) fu _ _ _
 intro n1
 induction n1 with
 | zero=>exact fun _ _ _=>.stop
 | succ n1 ih1=>
  intro i2 v3 i4
  refine .inLoop<|.seq<|.s<|.m z z<|.m z z<|.lenL z u32 z<|.bin z z z z<|.nil<|.cd z ?_ ?_
  ·exact .skip<|.seq<|.block<|.s<|.m z z<|.m z z<|.elemAt z z u32 ty2046 z<|.load z ty2046 z<|.alloc tDeed d0_2046 [] z2046 z fun b5=>.storeP 0 (Fld.self _) z z z ty2046<|.nil<|.s<|.lit (T:=tSet) u35 vx z z (.nil) z fun v6=>.m z z<|.m z z<|.elemAt z z u32 ty2046 z<|.fieldAt kP z gS z<|.load z z6 z<|.app (T:=tSet) 0 z z z u35 vx z fun v7=>.fp z gS z<|.storeV 1 kP z z z z6 z<|.nil<|.s<|.lit (T:=tCol) u36 cw z z (.nil) z fun v8=>.m z z<|.m z z<|.elemAt z z u32 ty2046 z<|.fieldAt kO z gR z<|.load z sB z<|.app (T:=tCol) 0 z z z u36 cw z fun v9=>.fp z gR z<|.storeV 2 kO z z z sB z<|.nil<|.g<|.m z z<|.lp 2 (Fld.self _) z z ty2046 z<|.litN (T:=tDeed) u32 js z z (.cons z<|.nil) z<|.appA (T:=tDeed) 3 z z z u32 js z fun v10=>.an z z<|.inBlock<|.g<|.m z z<|.bin z z z z<|.an z z<|.keep [0,4] [3] z (.drop (.c<|.c<|.c<|.d<|.e)<|ih1 _ _ _)
  ·exact .exit z<|.s<|.m z z<|.an z z<|.toRaw 0 2 z z<|.retL1 v3 func142 results142 (.tmp z) z (fun _ _ _ h=>h.1) (.d<|.e)
theorem c2068e (fu:Nat)(a0:List (List al)):Bi prog 68 [(tL (tL tDeed)).va a0] [] (wA fu a0) (fun v=>v) (fun q v (s:List (Value×List al))=>yq (q=s.map (·.2))::arrO tRaw v (s.map (·.1))::inn s) (fun _ v=>tRaw.va v):=by
 refine Bi.of_W func68 z ntmps68 z fun A w=>?_
 unfold wA
 refine .s<|.an z z<|.s<|.lit (T:=tRaw) u23 d4 z z (.nil) z fun v1=>.toArr 0 5 z z z<|.an z z<|.seq<|.s<|.an z z<|.block<|.loop<|.keep [0,4] [3] z<|(show ∀ (n:Nat) (i2:Int) (v4:Value) (s:List (Value×List al)),W _ _ _ _ _ ⟨[(0,(tL (tL tDeed)).va a0,none),(4,isI .i64 i2,none),(3,isV v4,some v4)],arrO tRaw v4 (s.map (·.1))::inn s⟩ (eD fu a0 n i2 (s.map (·.2))) from ?_) fu _ _ []
 intro n
 induction n with
 | zero=>exact fun _ _ _=>.stop
 | succ n ih1=>
  intro i2 v4 s
  refine .inLoop<|.seq<|.s<|.m z z<|.m z z<|.lenL z u23 z<|.bin z z z z<|.nil<|.cd z ?_ ?_
  ·refine .skip<|.seq<|.block<|.g<|.m z z<|.m z z<|.m z z<|.elemAt z z u23 ty2032 z<|.load z ty2032 z<|.callL0 (c2142a fu _) n2142 z z fun q5 p5=>.litN (T:=tRaw) u23 d4 z z (.cons z<|.nil) z<|Bg (r':=cond (decide (List.length (s.map (·.1))+List.length [p5]≤CAP)) (eD fu a0 n (IntKind.i64.wrap (i2+1)) (s.map (·.2)++[q5])) none) (by simp only [List.length_map];rfl)<|.appA (T:=tRaw) 1 z z z u23 d4 z fun v6=>.a z z<|.nil ?_
   refine .inBlock<|.g<|.m z z<|.bin z z z z<|.an z z<|.keep [0,4] [3] z ?_
   have:=ih1 (IntKind.i64.wrap (i2+1)) v6 (s++[(p5,q5)])
   rw [List.map_append,List.map_append] at this
   refine .perm ?_ this
   show (arrO tDeed p5 q5::arrO tRaw v6 (s.map (·.1)++[p5])::inn s).Perm (arrO tRaw v6 (s.map (·.1)++[p5])::inn (s++[(p5,q5)]))
   unfold inn
   rw [List.map_append]
   exact (List.Perm.swap ..).trans ((List.perm_append_singleton ..).symm.cons _)
  ·exact .exit z<|.s<|.m z z<|.an z z<|.toRaw 0 2 z z<|Bf z<|.retE1 s v4 func68 results68 (.tmp z) z (fun _ _ _ h=>h.1) (.refl _)
def m7 (fu:Nat)(q2:List (List al))(k:Int)(r:Rd):Option (List (List al)×Rd):=
 cond (decide (0≤(0:Int))&&decide ((0:Int) < (List.length (q2.getD k.toNat default):Int))) ((ou fu r ((q2.getD k.toNat default).getD (0:Int).toNat default)).bind fun a1=>(ou fu a1.2 a1.1).bind fun a2=>(ou fu a2.2 a2.1).bind fun a3=>(ou fu a3.2 a3.1).bind fun a4=>some (q2.set k.toNat ((q2.getD k.toNat default).set (0:Int).toNat a4.1),a4.2)) none
def rZ (fu:Nat)(a0:Rd)(a1:List (List al)):Option (List (List al)×Rd):=
 (wA fu a1).bind fun q2=>(f74 fu a0 50).bind fun q3=>
  cond (decide (q3.1=0)) (cond (decide (0 < (q2.length:Int))) (cond (decide (0≤(1:Int))&&decide ((1:Int)≤(q2.length:Int))&&decide ((q2.length:Int)≤(q2.length:Int))) (some ((q2.take (q2.length:Int).toNat).drop (1:Int).toNat,q3.2)) none) (some (q2,q3.2)))
   (cond (decide (q3.1=1)) ((AJ 1 (q2.length:Int)).bind fun q4=>(f74 fu q3.2 q4).bind fun q5=>cond (decide (0 < (q2.length:Int))) (cond (decide (0≤q5.1)&&decide (q5.1 < (q2.length:Int))) (cond (decide (0 < (List.length (q2.getD q5.1.toNat default):Int))) (m7 fu q2 q5.1 q5.2) (some (q2,q5.2))) none) (some (q2,q5.2)))
    (cond (decide (q3.1=2)) (cond (decide (q2.length+List.length ([([]:List al)]:List (List al))≤CAP)) (some (q2++[[]],q3.2)) none)
     (cond (decide (q3.1=3)) (cond (decide (0 < (q2.length:Int))) (cond (decide (0≤(0:Int))&&decide ((0:Int) < (q2.length:Int))) (cond (decide (q2.length+List.length ([q2.getD (0:Int).toNat default]:List (List al))≤CAP)) (some (q2++[q2.getD (0:Int).toNat default],q3.2)) none) none) (some (q2,q3.2)))
      (cond (decide (q3.1=4)) (cond (decide (q2.length+List.length ([[(⟨5,([116]:List UInt8),50,d0_2046.sets,d0_2046.cols,d0_2046.change,d0_2046.link⟩:al)]]:List (List al))≤CAP)) (some (q2++[[(⟨5,([116]:List UInt8),50,d0_2046.sets,d0_2046.cols,d0_2046.change,d0_2046.link⟩:al)]],q3.2)) none) (some (q2,q3.2))))))
theorem n2026:Nm prog 26:=⟨_,_,func26,by kernel_rfl,z⟩
theorem c2026 (fu:Nat)(bp0:Nat)(a0:Rd)(a1:List (List al)):Ctr prog 26 [isP bp0 0,(tL (tL tDeed)).va a1] [boxO bp0 tRd a0 []] (rZ fu a0 a1) (fun q _=>[boxO bp0 tRd q.2 []]) (fun q=>(tL (tL tDeed)).va q.1):=by
 refine Ctr.of_W func26 z ntmps26 z fun A w=>?_
 unfold rZ
 refine .s<|.assignNil (tL tDeed) z<|.nil<|.s<|.m z z<|.callE (c2068e fu _) n2068 z z fun q2 p2 s=>zo fun h2=>?_
 subst h2
 refine .unRaw 9 z<|.an z z<|.perm (B':=boxO bp0 tRd a0 []::arrO tRaw p2 (s.map (·.1))::inn s) ?_ ?_
 ·exact List.perm_append_singleton ..
 have el:(s.map (·.1)).length=(s.map (·.2)).length:=by rw [List.length_map,List.length_map]
 refine .s<|.m z z<|.lenA 1 z z u23 z<|.a z z<|.nil ?_
 rw [el]
 refine .seq<|.s<|.m z z<|.call1 0 (c74 fu _ _ _) z n74 z z fun q3=>.nil<|.join2 (fun s' rd=>⟨[(5,isV p2,some p2)],boxO bp0 tRd rd []::arrO tRaw p2 (s'.map (·.1))::inn s'⟩) (fun s' rd=>some (s'.map (·.2),rd)) (fun s' rd=>?_) (fun hj=>?_)
 ·exact oL (t:=5) z<|.s<|.m z z<|.an z z<|.ret1 func26 results26 (.tmp z) z (fun _ _=>.d<|.c<|.e)
 refine .block<|.s<|.bin z z z z<|.an z z<|.cond z (fun _=>?_) (fun _=>?_)
 ·refine .s<|.m z z<|.bin z z z z<|.nil<|.cond z (fun _=>?_) (fun _=>?_)
  ·exact oL (t:=5) z<|.s<|.m z z<|.cut z u23 d4 ⟨_,z⟩ z z<|.an z z<|.ret1 func26 results26 (.tmp z) z (fun _ _=>.d<|.c<|.e)
  ·exact .skip<|.inBlock<|.keep [] [5] z (hj _ _)
 ·refine .s<|.bin z z z z<|.an z z<|.cond z (fun _=>?_) (fun _=>?_)
  ·refine .s<|.m z z<|.m z z<|.call0 (c142 _ _) n142 z z fun q4=>.call1 0 (c74 fu _ _ _) z n74 z z fun q5=>.an z z<|.s<|.m z z<|.bin z z z z<|.m z z<|.split 28 z (fun _=>?_) (fun _=>?_)
   ·refine BZ (fun hk=>?_) (fun _=>fun x hx=>nomatch hx)
    have hlt:q5.1.toNat<s.length:=by
     simp only [List.length_map,Bool.and_eq_true,decide_eq_true_eq] at hk
     omega
    have hk':(decide (0≤q5.1)&&decide (q5.1 < ((s.map (·.1)).length:Int)))=true:=by rw [el];exact hk
    refine WO.perm (B':=boxO bp0 tRd q5.2 []::arrO tRaw p2 (s.map (·.1))::arrO tDeed ((s.map (·.1)).getD q5.1.toNat default) ((s.map (·.2)).getD q5.1.toNat default)::inn (s.eraseIdx q5.1.toNat)) (by
     simp only [List.set_cons_zero]
     exact ((inn_at hlt).cons _).cons _) ?_
    refine .on z z<|.m z z<|.on z z<|.m z z<|.on z z<|.useC hk'<|.elemA 1 z z z u23 ty2032 z<|.on z z<|.loadA 1 (Fld.self _) z z ty2032 z<|.unRaw 32 z<|.on z z<|.lenA 2 z z u32 z<|.on z z<|.bin z z z z<|.pickT z z z<|.nil<|.cond z (fun _=>?_) (fun _=>?_)
    ·unfold m7
     refine .pT fun h1=>?_
     refine .pbind fun a1 e1=>?_
     refine .pbind fun a2 e2=>?_
     refine .pbind fun a3 e3=>?_
     refine .pbind fun a4 e4=>?_
     refine .drawS 18 [] [14,15,16,17] [0] mix (by kernel_rfl) (.j (fun o=>.m (o z) z)<|.j (fun o=>.m (o z) z)<|.k (fun p e h=>.useC hk'<|.elemA 1 (e.op z) (e.op z) (p.get z z) u23 ty2032 z<|h)<|.k (fun p e h=>.loadA 1 (Fld.self _) (e.op z) (p.get z z) ty2032 z<|fun x hx a w hk=>h x hx a w (o6 hk))<|.j (fun o=>.m (o z) z)<|.j (fun o=>.m (o z) z)<|.j (fun o=>.m (o z) z)<|.j (fun o=>.m (o z) z)<|.j (fun o=>.m (o z) z)<|.j (fun o=>.m (o z) z)<|.k (fun p e h=>.useC hk'<|.elemA 1 (e.op z) (e.op z) (p.get z z) u23 ty2032 z<|h)<|.k (fun p e h=>.loadA 1 (Fld.self _) (e.op z) (p.get z z) ty2032 z<|fun x hx a w hk=>h x hx a w (o6 hk))<|.k (fun p e h=>.useC h1<|.elemA 2 (e.op z) (e.op z) (p.get z z) u32 ty2046 z<|h)<|.k (fun p e=>.loadA 2 (Fld.self _) (e.op z) (p.get z z) ty2046 z)<|.skip<|.skip<|.skip<|.skip<|.nil) z<|.cons (d:=50) z z fun _ _ hE h=>.bindE e1 (fun r h=>.call1 0 (c2038 fu _ _ _) z n2038 (hE.ops z) z h)<|h _ _ (.hole z .refl)<|.cons (d:=51) z z fun _ _ hE h=>.bindE e2 (fun r h=>.call1 0 (c2038 fu _ _ _) z n2038 (hE.ops z) z h)<|h _ _ (.hole z .refl)<|.cons (d:=52) z z fun _ _ hE h=>.bindE e3 (fun r h=>.call1 0 (c2038 fu _ _ _) z n2038 (hE.ops z) z h)<|h _ _ (.hole z .refl)<|.cons (d:=53) z z fun _ _ hE h=>.bindE e4 (fun r h=>.call1 0 (c2038 fu _ _ _) z n2038 (hE.ops z) z h)<|h _ _ (.hole z .refl)<|.nil<|.useC h1<|.elemA 2 z z z u32 ty2046 z<|.storeA 2 (Fld.self _) z z z ty2046<|.nil ?_
     refine .inBlock<|.keep [] [5] z ?_
     have hh:=hj (s.set q5.1.toNat ((List.map (fun p:Value×List al=>p.1) s).getD q5.1.toNat default,((List.map (fun p:Value×List al=>p.2) s).getD q5.1.toNat default).set (0:Int).toNat a4.1)) a4.2
     rw [yM hlt,List.map_set] at hh
     exact .perm (((yL hlt).cons _).cons _) hh
    ·exact .skip<|.inBlock<|.keep [] [5] z<|.perm ((((inn_at hlt).symm).cons _).cons _) (hj _ _)
   ·refine .off z z z<|.off z z z<|.off z z z<|.off z z z<|.off z z z<|.off z z z<|.pickF z z z<|.nil<|.eqr (r':=cond false (some (List.map (fun p:Value×List al=>p.2) s,q5.2)) (some (List.map (fun p:Value×List al=>p.2) s,q5.2))) z<|.cond z (fun h=>nomatch h) (fun _=>?_)
    exact .skip<|.inBlock<|.keep [] [5] z (hj _ _)
  ·refine .s<|.bin z z z z<|.an z z<|.cond z (fun _=>?_) (fun _=>?_)
   ·exact oL (t:=5) z<|.s<|.m z z<|.litN (T:=tDeed) u32 js z z (.nil) z<|.litN (T:=(tL tDeed)) u23 d4 z z (.cons z<|.nil) z<|.app (T:=(tL tDeed)) 1 z z z u23 d4 z fun v6=>.an z z<|.ret1 func26 results26 (.tmp z) z (fun _ _=>.d<|.c<|.e)
   ·refine .s<|.bin z z z z<|.an z z<|.cond z (fun _=>?_) (fun _=>?_)
    ·refine .s<|.m z z<|.bin z z z z<|.nil<|.cond z (fun _=>?_) (fun _=>?_)
     ·exact oL (t:=5) z<|.s<|.m z z<|.m z z<|.elemAt z z u23 ty2032 z<|.load z ty2032 z<|.litN (T:=(tL tDeed)) u23 d4 z z (.cons z<|.nil) z<|.app (T:=(tL tDeed)) 1 z z z u23 d4 z fun v6=>.an z z<|.ret1 func26 results26 (.tmp z) z (fun _ _=>.d<|.c<|.e)
     ·exact .skip<|.inBlock<|.keep [] [5] z (hj _ _)
    ·refine .s<|.bin z z z z<|.an z z<|.cond z (fun _=>?_) (fun _=>?_)
     ·exact oL (t:=5) z<|.s<|.m z z<|.build z xI z2046 (.cons pu z z<|.cons pt z z<|.cons ps z z<|.nil) z<|.litN (T:=tDeed) u32 js z z (.cons z<|.nil) z<|.litN (T:=(tL tDeed)) u23 d4 z z (.cons z<|.nil) z<|.app (T:=(tL tDeed)) 1 z z z u23 d4 z fun v6=>.an z z<|.ret1 func26 results26 (.tmp z) z (fun _ _=>.d<|.c<|.e)
     ·exact .skip<|.inBlock<|.keep [] [5] z (hj _ _)
def uq (fu:Nat)(a0:List Int):Option (List (List al)):=(f60 fu a0).bind fun q2=>(ul fu q2).bind fun q3=>(rZ fu q3.2 q3.1).bind fun q4=>(rZ fu q4.2 q4.1).bind fun q5=>some q5.1
theorem n2009:Nm prog 9:=⟨_,_,func9,by kernel_rfl,z⟩
theorem c2009 (fu:Nat)(a0:List Int):Ctr prog 9 [(tL (tI .u8)).va a0] [] (uq fu a0) (fun _ _=>[]) (fun q=>(tL (tL tDeed)).va q):=by
 refine Ctr.of_W func9 z ntmps9 z fun A w=>?_
 unfold uq
 exact .s<|.assignNil (tL tDeed) z<|.nil<|.s<|.m z z<|.callP (c60 fu _) n60 z z fun q2 b3=>.an z z<|.s<|.m z z<|.m z z<|.m z z<|.call1 0 (c2027 fu _ _) z n2027 z z fun q3=>.call1 0 (c2026 fu _ _ _) z n2026 z z fun q4=>.call1 0 (c2026 fu _ _ _) z n2026 z z fun q5=>.an z z<|.ret1 func9 results9 (.tmp z) z (fun _ _=>.c<|.e)
def jS (i6:Int)(q9:ac×Int×Int)(rec1:Bool→Int→ac→Option Bool)(i10:Bool):Option Bool:=rec1 i10 (IntKind.i64.wrap (i6+1)) q9.1
def ig (rec1:Bool→Int→ac→Option Bool)(i11:Bool):Option Bool:=some i11
noncomputable def fP (fu:Nat) (q1:List (List al)) (q2:Bool) (i5:Bool) (i6:Int) (i7:ac) (rec1:Bool→Int→ac→Option Bool) (i8:Bool):Option Bool:=cond i8 (cond (decide (0≤i6)&&decide (i6 < (q1.length:Int))) ((r7 fu i7 (q1.getD i6.toNat default)).bind fun q9=>cond (decide (q9.2.1=0)) (cond (decide (0≤i6)&&decide (i6 < (q1.length:Int))) (jS i6 q9 rec1 (decide (0 < (List.length (q1.getD i6.toNat default):Int)))) none) (jS i6 q9 rec1 false)) none) (cond (q2 == i5) (cond (!q2) (ig rec1 true) ((jz fu i7).bind fun q12=>ig rec1 q12)) (ig rec1 false))
noncomputable def cA (fu:Nat) (q1:List (List al)) (q2:Bool):Nat→Bool→Int→ac→Option Bool
 | 0,_,_,_=>none
 | n2001+1,i5,i6,i7=>cond (decide (i6 < (q1.length:Int))) (fP fu q1 q2 i5 i6 i7 (cA fu q1 q2 n2001) i5) (fP fu q1 q2 i5 i6 i7 (cA fu q1 q2 n2001) false)
noncomputable def wI (fu:Nat) (a0:List Int):Option Bool:=cond (decide (1048576 < (a0.length:Int))) (some true) ((uq fu a0).bind fun q1=>(uo fu q1).bind fun q2=>(un fu q1).bind fun q3=>cond (!(q2 == q3)) (some false) (cA fu q1 q2 fu (decide ((q1.length:Int)≤15)) 0 (⟨d0_1026.tabs,d0_1026.links⟩:ac)))
theorem c2003 (fu:Nat)(a0:List Int):Ctr prog 3 [(tL (tI .u8)).va a0] [] (wI fu a0) (fun _ _=>[]) (fun q=>isB q):=by
 refine Ctr.of_W func3 z ntmps3 z fun A w=>?_
 unfold wI
 refine .s<|.an z z<|.seq<|.s<|.m z z<|.lenL z u22 z<|.bin z z z z<|.nil<|.cd z ?_ ?_
 ·exact .s<|.an z z<|.ret1 func3 results3 (.tmp z) z (fun _ _=>.e)
 ·refine .skip<|.s<|.m z z<|.call0 (c2009 fu _) n2009 z z fun q1=>.an z z<|.s<|.m z z<|.call0 (c2010 fu _) n2010 z z fun q2=>.an z z<|.seq<|.s<|.m z z<|.m z z<|.call0 (c2011 fu _) n2011 z z fun q3=>.bne z z u4 z<|.nil<|.cd z ?_ ?_
  ·exact .s<|.an z z<|.ret1 func3 results3 (.tmp z) z (fun _ _=>.e)
  ·refine .skip<|.s<|.build z cY cW (.nil) z<|.alloc tBase d0_1026 [] cW z fun b4=>.storeP 0 (Fld.self _) z z z ty1026<|.nil<|.s<|.m z z<|.lenL z u23 z<|.bin z z z z<|.an z z<|.seq<|.s<|.an z z<|.block<|.loop<|.keep [3,4,5,6,7] [] z<|(show ∀ (n2001:Nat) (i5:Bool) (i6:Int) (i7:ac),W _ _ _ _ _ ⟨[(3,(tL (tL tDeed)).va q1,none),(4,isB q2,none),(5,isP b4 0,none),(6,isB i5,none),(7,isI .i64 i6,none)],[boxO b4 tBase i7 []]⟩ (cA fu q1 q2 n2001 i5 i6 i7) from ?_) fu _ _ _
   intro n2001
   induction n2001 with
   | zero=>exact fun _ _ _=>.stop
   | succ n2001 ih1=>
    intro i5 i6 i7
    refine .inLoop<|.seq<|.seq<|.join1 (fun i8=>⟨[(3,(tL (tL tDeed)).va q1,none),(4,isB q2,none),(5,isP b4 0,none),(6,isB i5,none),(7,isI .i64 i6,none),(30,isB i8,none)],[boxO b4 tBase i7 []]⟩) (fun i8=>fP fu q1 q2 i5 i6 i7 (cA fu q1 q2 n2001) i8) (fun i8=>?_) (fun hj4=>?_)
    ·refine .cd z ?_ ?_
     ·refine .skip<|.seq<|.block<|.s<|.an z z<|.seq<|.pT fun h2=>?_
      refine .draw 5 [] mix (by kernel_rfl) (.k (fun p e=>.lp 0 (Fld.self _) (e.op z) (p.get z z) ty1026 z)<|.j (fun o=>.m (o z) z)<|.j (fun o=>.m (o z) z)<|.k (fun p e h=>.useC h2<|.elemAt (e.op z) (e.op z) u23 ty2032 z<|h)<|.j (fun o=>.load (o z) ty2032 z)<|.nil) z<|.call0 (c2012 fu _ _) n2012 z z fun q9=>.m z z<|.extract z z z<|.extract z z z<|.extract z z z<|.storeP 0 (Fld.self _) z z z ty1026<|.an z z<|.join1 (fun i10=>⟨[(3,(tL (tL tDeed)).va q1,none),(4,isB q2,none),(5,isP b4 0,none),(6,isB i10,none),(7,isI .i64 i6,none)],[boxO b4 tBase q9.1 []]⟩) (fun i10=>jS i6 q9 (cA fu q1 q2 n2001) i10) (fun i10=>?_) (fun hj5=>?_)
      ·exact .inBlock<|.g<|.m z z<|.bin z z z z<|.an z z<|.keep [3,4,5,6,7] [] z (ih1 _ _ _)
      ·refine .g<|.m z z<|.bin z z z z<|.m z z<|.split 45 z (fun _=>?_) (fun _=>?_)
       ·exact .on z z<|.m z z<|.on z z<|.m z z<|.on z z<|.elemAt z z u23 ty2032 z<|.on z z<|.load z ty2032 z<|.on z z<|.lenL z u32 z<|.on z z<|.bin z z z z<|.pickT z z z<|.an z z<|.keep [3,4,5,6,7] [] z (hj5 _)
       ·exact .off z z z<|.off z z z<|.off z z z<|.off z z z<|.off z z z<|.off z z z<|.pickF z z z<|.an z z<|.keep [3,4,5,6,7] [] z (hj5 _)
     ·refine .exit z<|.seq<|.join1 (fun i11=>⟨[(2,isB i11,none)],[]⟩) (fun i11=>ig (cA fu q1 q2 n2001) i11) (fun i11=>?_) (fun hj6=>?_)
      ·exact .ret1 func3 results3 (.tmp z) z (fun _ _=>.e)
      ·refine .g<|.m z z<|.m z z<|.beq z z u4 z<|.m z z<|.split 56 z (fun _=>?_) (fun _=>?_)
       ·refine .on z z<|.m z z<|.on z z<|.not z z<|.on z z<|.m z z<|.split 59 z (fun _=>?_) (fun _=>?_)
        ·exact .off z z z<|.off z z z<|.on z z<|.pickT z z z<|.pickT z z z<|.an z z<|.keep [2] [] z (.drop (.c<|.e)<|hj6 _)
        ·exact .on z z<|.lp 0 (Fld.self _) z z ty1026 z<|.on z z<|.call0 (c1020 fu _) n1020 z z fun q12=>.on z z<|.pickF z z z<|.pickT z z z<|.an z z<|.keep [2] [] z (.drop (.c<|.e)<|hj6 _)
       ·exact .off z z z<|.off z z z<|.off z z z<|.offU z z z<|.offU z z z<|.off z z z<|.pickF z z z<|.an z z<|.keep [2] [] z (.drop (.c<|.e)<|hj6 _)
    ·refine .g<|.m z z<|.m z z<|.lenL z u23 z<|.bin z z z z<|.m z z<|.split 28 z (fun _=>?_) (fun _=>?_)
     ·exact .on z z<|.m z z<|.pickT z z z<|.nil<|.keep [3,4,5,6,7,30] [] z (hj4 _)
     ·exact .off z z z<|.pickF z z z<|.nil<|.keep [3,4,5,6,7,30] [] z (hj4 _)
end Go.Proofs.YtganfdhmkdehlaaGreatDoor
