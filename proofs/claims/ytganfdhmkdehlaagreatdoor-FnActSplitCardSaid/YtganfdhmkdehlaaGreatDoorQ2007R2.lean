/- A logic of slots. -/
import Derived.Test.YtganfdhmkdehlaaGreatDoorCards
import Derived.Test.YtganfdhmkdehlaaGreatDoorTie
import Derived.Test.YtganfdhmkdehlaaGreatDoorQ2007Ty
import Derived.ProofKit
import Derived.OpenShut
import Derived.LaidMore
import Derived.Lay
import Derived.SevenTiedAt
import Derived.Stop.Joined
import Derived.Lib.LaidU8
set_option linter.all false
namespace Go.Proofs.YtganfdhmkdehlaaGreatDoor
open Go Go.HL Go.ChangeShapes Go.WideShapes Go.ChangeAt Go.RowKit
abbrev cD:TypeId:=22
abbrev oz:TypeId:=5
abbrev BU:TypeId:=4
theorem own:ownKnob Tryz.prog.godebug=none:=by kernel_rfl
def laidL : List (String × DataW Unit) := [("math/bits.deBruijn32tab", Rows.laid_math_bits_deBruijn32tab), ("math/bits.deBruijn64tab", Rows.laid_math_bits_deBruijn64tab), ("internal/strconv.uint64pow10", Rows.laid_internal_strconv_uint64pow10), ("strconv.ErrRange", Rows.laid_strconv_ErrRange), ("strconv.ErrSyntax", Rows.laid_strconv_ErrSyntax)]
theorem oy {P:Program}{w:World}{n:String}{g:Nat}{cs:Array Value}(hg:P.globalNamed n=some g)(hv:w.var? P n=some cs):∃ t fr,w.heap[g]? = some (.cells cs t fr):=by
 unfold World.var? at hv
 rw [hg,Option.bind_some] at hv
 split at hv
 ·rename_i cs' t fr h
  injection hv with hv
  subst hv
  exact ⟨t,fr,h⟩
 ·cases hv
theorem zM {W:World}{n:String}{g t:Nat}{d:DataW Unit}(hg:Tryz.prog.globalNamed n=some g)(ht:(Tryz.prog.globals[g]?).map (·.type)=some t)(hu:∃ ms,Tryz.prog.underlying t=some (.interface ms))(hne:Nat.beq g zp=false)
     (h:Lib.VarReads Tryz.prog W n d):wP g W.heap[g]?∧g < W.heap.size:=by
 obtain ⟨g',t',cs,fuel,p,h1,h2,h3,h4⟩:=h
 obtain rfl:=Option.some.inj (hg.symm.trans h1)
 obtain rfl:=Option.some.inj (ht.symm.trans h2)
 obtain ⟨ms,hu⟩:=hu
 obtain ⟨t,fr,hb⟩:=oy h1 h3
 have hsz:g < W.heap.size:=by
  rcases Nat.lt_or_ge g W.heap.size with h|h
  ·exact h
  ·rw [Array.getElem?_eq_none h] at hb;cases hb
 refine ⟨⟨cs,t,fr,hb,?_⟩,hsz⟩
 rw [if_neg (fun e=>by rw [e,Nat.beq_refl] at hne;cases hne)]
 have h5:∃ v,cs.toList=[v]∧(v=.nilIface∨∃ te pe,v=.iface te pe):=by
  cases fuel with
  | zero=>cases h4
  | succ fuel=>
   generalize cs.toList=l at h4
   unfold DataW.trod at h4
   rw [hu] at h4
   match l,h4 with
   | [v],h4=>cases v<;>first | exact ⟨_,rfl,.inl rfl⟩ | exact ⟨_,rfl,.inr ⟨_,_,rfl⟩⟩ | cases h4
   | [],h4=>cases h4
   | a::_::_,h4=>cases a<;>cases h4
 obtain ⟨v,h6,h7⟩:=h5
 exact ⟨v,by apply Array.ext';simpa using h6,h7⟩
theorem Av {W:World}(h:laidMet Tryz.prog laidL W):Bq (fun b _=>b < W.heap.size) W:=by
 have h1 := Lib.laidMet.reads h (n := "internal/strconv.uint64pow10") (d := Rows.laid_internal_strconv_uint64pow10) (by simp [laidL])
 have h2 := Lib.laidMet.reads h (n := "strconv.ErrRange") (d := Rows.laid_strconv_ErrRange) (by simp [laidL])
 have h3 := Lib.laidMet.reads h (n := "strconv.ErrSyntax") (d := Rows.laid_strconv_ErrSyntax) (by simp [laidL])
 have hg:∀ g∈globs,wP g W.heap[g]?∧g < W.heap.size:=by
  intro g hg
  simp only [globs,List.mem_cons,List.not_mem_nil,or_false] at hg
  rcases hg with rfl|rfl|rfl
  ·obtain ⟨g,t,cs,fuel,p,k1,k2,k3,k4⟩:=h1
   obtain rfl := Option.some.inj ((show Tryz.prog.globalNamed "internal/strconv.uint64pow10" = some 0 by kernel_rfl).symm.trans k1)
   obtain rfl:=Option.some.inj ((show (Tryz.prog.globals[0]?).map (·.type)=some 238 by kernel_rfl).symm.trans k2)
   obtain ⟨t,fr,hb⟩:=oy (by kernel_rfl) k3
   have k5:cs.toList=pow10s.map fun z=>Value.int .u64 z:=Lib.cells_of_tab (zs:=pow10s) Tryz.underlying238 Tryz.underlying226 (by kernel_rfl) (by kernel_rfl) k4
   refine ⟨⟨cs,t,fr,hb,?_⟩,?_⟩
   ·rw [if_pos rfl];apply Array.ext';simpa using k5
   ·rcases Nat.lt_or_ge 0 W.heap.size with h|h
    ·exact h
    ·have hb0:W.heap[0]? = some (.cells cs t fr):=hb
     rw [Array.getElem?_eq_none h] at hb0;cases hb0
  ·exact zM (g:=1) (t:=216) (by kernel_rfl) (by kernel_rfl) ⟨_,Tryz.underlying216⟩ rfl h3
  ·exact zM (g:=2) (t:=216) (by kernel_rfl) (by kernel_rfl) ⟨_,Tryz.underlying216⟩ rfl h2
 exact fun g hm=>⟨fun _=>(hg g hm).2,(hg g hm).1⟩
theorem Bf {n:Int}(h:(Lit.int .u8 n).wf=true):0≤n∧n≤255:=by
 simpa [Lit.wf,IntKind.min,IntKind.max,IntKind.signed,IntKind.bits] using h
theorem flat_u8 {A:Ar}{w:World}:∀ zs:List Int,flat (tI .u8) zs (zs.map fun z=>Value.int .u8 z) A w
 | []=>rfl
 | z::zs=>⟨[.int .u8 z],_,rfl,rfl,flat_u8 zs⟩
theorem um {W W':World}{may:MemPlace→Prop}(h:rj W (qp []) W'):W.keptBut W' may:=by
 refine ⟨h.os,h.output,fun i hi=>?_⟩
 rw [h.block i hi (by rintro o ⟨Q,hQ,_⟩;cases hQ)]
 cases hb:W.heap[i]? with
 | none=>rfl
 | some o=>cases o with
  | cells c t fr=>exact ⟨rfl,rfl,rfl,fun _ _=>rfl⟩
  | map es clock=>exact .inr ⟨rfl,rfl⟩
  | _=>rfl
set_option maxRecDepth 10000 in
theorem pB {H:Type}{enc:TypeId×Value→H}{W:World}{base:Nat}{v0:Value}{d:DataW H}{p:List MemPlace}
     (hval:Value.okWide Tryz.prog W .any base cD v0) (h0:DataW.Trod enc Tryz.prog W 0 (fun _=>true) true cD v0 d p) (hz:(d.weights Tryz.prog cD).all (·≤reachBytes)=true) :
     ∃ zs:List Int,(∀ b,b∈zs→0≤b∧b≤255)∧slRel (tI .u8) zs v0 (fun b _=>b < W.heap.size) W∧
      ∀ W',rj W (qp []) W'→∃ pa,DataW.Trod enc Tryz.prog W' 0 (fun b=>decide (b < W.heap.size)) true cD v0 d pa:=by
 obtain ⟨a0,len,cap,rfl⟩:=okWide_slice Tryz.underlying22 hval
 obtain ⟨fuel,hfuel⟩:=h0
 have c8:Tryz.prog.cellsOf oz=1:=by kernel_rfl
 rcases open_ints Tryz.underlying22 Tryz.underlying5 c8 hfuel with ⟨hcs,hx⟩|⟨a,len',cap',zs,hcs,-,hle,hmax,hall,hx,hcell,hwf⟩
 ·simp only [Value.cells,List.cons.injEq,and_true,Value.slice.injEq] at hcs
  obtain ⟨rfl,rfl,rfl⟩:=hcs
  simp only [Prod.mk.injEq] at hx
  obtain ⟨rfl,rfl⟩:=hx
  exact ⟨[],fun _ h=>(nomatch h),aI _ _ _,fun W' _=>⟨[],shut_slice_nil Tryz.underlying22⟩⟩
 ·simp only [Value.cells,List.cons.injEq,and_true,Value.slice.injEq] at hcs
  obtain ⟨rfl,rfl,rfl⟩:=hcs
  simp only [Prod.mk.injEq] at hx
  obtain ⟨rfl,rfl⟩:=hx
  simp only [if_true] at hall
  have hblk:∀ i,i<zs.length→∃ b off,a=⟨b,off,none⟩∧b < W.heap.size:=fun i hi=>by
   obtain ⟨b,off,e,h⟩:=ints_at hcell (by omega)
   have h0:=h 0 (by omega)
   refine ⟨b,off,e,Classical.byContradiction fun hn=>?_⟩
   simp [World.cell?,Array.getElem?_eq_none (Nat.le_of_not_lt hn)] at h0
  refine ⟨zs.take len,fun b hb=>Bf (hwf b (List.mem_of_mem_take hb)),⟨some a,len,cap,(zs.take len).map fun z=>Value.int .u8 z,rfl,?_,hle,?_,flat_u8 _,fun hpos=>?_⟩,fun W' hs=>⟨MemPlace.row a zs.length,⟨fuel+2,?_⟩⟩⟩
  ·simp;omega
  ·have c5:Tryz.prog.bytesOf oz=1:=by kernel_rfl
   have e2:(DataW.slice (H:=H) (lits .u8 (zs.take len)) (lits .u8 (zs.drop len))).weights Tryz.prog cD=((lits (H:=H) .u8 (zs.take len)).length+(lits (H:=H) .u8 (zs.drop len)).length) * Tryz.prog.bytesOf oz::(DataW.weightsAll Tryz.prog oz (lits (H:=H) .u8 (zs.take len))++DataW.weightsAll Tryz.prog oz (lits (H:=H) .u8 (zs.drop len))):=by
    simp only [DataW.weights,Tryz.underlying22]
   rw [e2,c5,List.all_cons,Bool.and_eq_true] at hz
   have h4:=of_decide_eq_true hz.1
   simp only [lits,List.length_map,List.length_take,List.length_drop,reachBytes] at h4
   rw [m6];omega
  ·obtain ⟨b,off,rfl,hlt⟩:=hblk 0 (by omega)
   refine ⟨b,off,rfl,fun j hj=>⟨hlt,?_⟩⟩
   have hj':j<zs.length:=by simp at hj;omega
   have:=hcell j hj'
   rw [Addr.add0] at this
   rw [this]
   simp [List.getD_eq_getElem?_getD,hj']
  ·refine shut_ints fuel Tryz.underlying22 Tryz.underlying5 c8 (Nat.zero_le _) hle hmax ?_ (fun i hi=>?_) hwf
   ·rcases Nat.eq_zero_or_pos zs.length with h0|h0
    ·split<;>omega
    ·obtain ⟨b,off,rfl,hlt⟩:=hblk 0 h0
     rw [if_pos (decide_eq_true hlt)];exact hall
   ·obtain ⟨b,off,rfl,hlt⟩:=hblk i hi
    have:=hcell i hi
    rw [Addr.add0] at this ⊢
    rw [← this]
    exact aR (hs.block b hlt (by rintro o ⟨Q,hQ,_⟩;cases hQ)) _
theorem Am {W:World}(hL:laidMet Tryz.prog laidL W):Pre (fun b _=>b < W.heap.size) W []:=⟨fun b o h=>⟨h,fun Q hQ=>(nomatch hQ)⟩,fun Q hQ=>(nomatch hQ),fun Q hQ=>(nomatch hQ),.nil,Av hL⟩
theorem tZ {s:ChangeSpec}{P:Program}(hv:s.vars=[]):s.plain.varTypes P=[]:=by
 unfold ChangeSpec.plain DataSpec.varTypes;rw [hv];rfl
set_option maxRecDepth 10000 in
theorem law_contract2 {H:Type}{enc:TypeId×Value→H}{k:FuncId}{fn:Func}{spec:ChangeSpec}(hv:spec.vars=[])(hspec:∀ d d':DataW H,spec.fn H [d,d'] = { results:=[.lit (.bool true)],args:=[d,d'] })
     (hp:fn.params = #[cD,cD]) (hr:fn.resultTypes = #[BU]) {f:List Int→List Int→Option Bool} (hc:∀ a b,Ctr Tryz.prog k [(tL (tI .u8)).va a,(tL (tI .u8)).va b] [] (f a b) (fun _ _=>[]) (fun q=>isB q))
     (hf:∀ a b:List Int,(∀ x,x∈a→0≤x∧x≤255)→(∀ x,x∈b→0≤x∧x≤255)→f a b=some true)
     {W:World} {base:Nat} {args:Array Value} {ds gs:List (DataW H)} {before:List MemPlace}
     (hval:∀ (j:Nat) t v,fn.params[j]? = some t→args[j]? = some v→Value.okWide Tryz.prog W .any base t v)
     (hW:DataW.Whole enc Tryz.prog fn.params.toList spec.vars false W args.toList ds gs before) (hz:(DataW.weightsEach Tryz.prog (fn.params.toList++spec.plain.varTypes Tryz.prog) (ds++gs)).all (·≤reachBytes)=true) (hL:laidMet Tryz.prog laidL W) :
     Calls Tryz.prog k args W fun e W'=>∃ v,e=.returned v∧spec.post enc Tryz.prog fn false true false false W args v W':=by
 have hW':=hW
 obtain ⟨p,q,hA,hV,rfl,-,-⟩:=hW
 rw [hv] at hV
 obtain ⟨rfl,rfl⟩:=trodVars_none hV
 have hA':DataW.TrodAll enc Tryz.prog W 0 (fun _=>true) true [cD,cD] args.toList ds p:=by rw [hp] at hA;exact hA
 obtain ⟨v0,v1,d,d',p0,p1,rfl,rfl,rfl,h0,h1⟩:=trodAll_two hA'
 have hz':((d.weights Tryz.prog cD)++((d'.weights Tryz.prog cD)++[])).all (·≤reachBytes)=true:=by
  rw [tZ hv,hp] at hz;exact hz
 rw [List.append_nil,List.all_append,Bool.and_eq_true] at hz'
 obtain ⟨zs,hb,hsl,hback⟩:=pB (hval 0 cD v0 (by rw [hp];rfl) rfl) h0 hz'.1
 obtain ⟨ys,hb2,hsl2,hback2⟩:=pB (hval 1 cD v1 (by rw [hp];rfl) rfl) h1 hz'.2
 refine Calls.mono (hc zs ys true (hf zs ys hb hb2) _ W [v0,v1] (Am hL) (.cons hsl (.cons hsl2 .nil))) ?_
 rintro e W' ⟨v,rfl,hpost,hbool⟩
 cases (show v=.bool true from hbool)
 obtain ⟨pa,hpa⟩:=hback W' hpost.same
 obtain ⟨pb,hpb⟩:=hback2 W' hpost.same
 have e1:spec.fn H ([d,d']++[]) = { results:=[.lit (.bool true)],args:=[d,d'] }:=hspec d d'
 refine ⟨_,rfl,[d,d'],[],(p0++p1)++[],[],pa++pb,[],hW',?_,?_,?_,um hpost.same,fun h=>by cases h⟩
 ·rw [e1,hr];exact trodAll_mk1 (shut_bool Tryz.underlying4 _)
 ·rw [e1,hp];exact trodAll_mk2 hpa hpb
 ·rw [e1,hv];rfl
end Go.Proofs.YtganfdhmkdehlaaGreatDoor
