/- From a function's contract to its law's row and card: a law of one list of bytes, over the five listed variables. -/
import Derived.Test.YtganfdhmkdehlaaGreatDoorCards
import Derived.Test.YtganfdhmkdehlaaGreatDoorTie
import Derived.Test.YtganfdhmkdehlaaGreatDoorQ2004Ty
import Derived.ProofKit
import Derived.OpenShut
import Derived.LaidMore
import Derived.Lay
import Derived.SevenTiedAt
import Derived.Stop.Joined
import Derived.Lib.LaidU8
set_option linter.all false
namespace Go.Proofs.YtganfdhmkdehlaaGreatDoor
open Go Go.HL Go.ChangeShapes Go.WideShapes Go.ChangeAt Go.RowKit
abbrev eE:TypeId:=22
abbrev n8:TypeId:=5
abbrev AF:TypeId:=4
theorem own:ownKnob Tryz.prog.godebug=none:=by kernel_rfl
def laidL : List (String × DataW Unit) := [("math/bits.deBruijn32tab", Rows.laid_math_bits_deBruijn32tab), ("math/bits.deBruijn64tab", Rows.laid_math_bits_deBruijn64tab), ("internal/strconv.uint64pow10", Rows.laid_internal_strconv_uint64pow10), ("strconv.ErrRange", Rows.laid_strconv_ErrRange), ("strconv.ErrSyntax", Rows.laid_strconv_ErrSyntax)]
theorem n7 {P:Program}{w:World}{n:String}{g:Nat}{cs:Array Value}(hg:P.globalNamed n=some g)(hv:w.var? P n=some cs):∃ t fr,w.heap[g]? = some (.cells cs t fr):=by
 unfold World.var? at hv
 rw [hg,Option.bind_some] at hv
 split at hv
 ·rename_i cs' t fr h
  injection hv with hv
  subst hv
  exact ⟨t,fr,h⟩
 ·cases hv
theorem yU {W:World}{n:String}{g t:Nat}{d:DataW Unit}(hg:Tryz.prog.globalNamed n=some g)(ht:(Tryz.prog.globals[g]?).map (·.type)=some t)(hu:∃ ms,Tryz.prog.underlying t=some (.interface ms))(hne:Nat.beq g yz=false)
     (h:Lib.VarReads Tryz.prog W n d):wb g W.heap[g]?∧g < W.heap.size:=by
 obtain ⟨g',t',cs,fuel,p,h1,h2,h3,h4⟩:=h
 obtain rfl:=Option.some.inj (hg.symm.trans h1)
 obtain rfl:=Option.some.inj (ht.symm.trans h2)
 obtain ⟨ms,hu⟩:=hu
 obtain ⟨t,fr,hb⟩:=n7 h1 h3
 have hsz:g < W.heap.size:=by
  rcases Nat.lt_or_ge g W.heap.size with h|h
  ·exact h
  ·rw [Array.getElem?_eq_none h] at hb;cases hb
 refine ⟨⟨cs,t,fr,hb,?_⟩,hsz⟩
 rw [if_neg (fun e=>by rw [e,Nat.beq_refl] at hne;cases hne)]
 have h5:∃ v,cs.toList=[v]∧(v=.nilIface∨∃ te pe,v=.iface te pe):=by
  cases fuel with
  | zero=>cases h4
  | succ fuel=>
   generalize cs.toList=l at h4
   unfold DataW.trod at h4
   rw [hu] at h4
   match l,h4 with
   | [v],h4=>cases v<;>first | exact ⟨_,rfl,.inl rfl⟩ | exact ⟨_,rfl,.inr ⟨_,_,rfl⟩⟩ | cases h4
   | [],h4=>cases h4
   | a::_::_,h4=>cases a<;>cases h4
 obtain ⟨v,h6,h7⟩:=h5
 exact ⟨v,by apply Array.ext';simpa using h6,h7⟩
theorem zl {W:World}(h:laidMet Tryz.prog laidL W):Ac (fun b _=>b < W.heap.size) W:=by
 have h1 := Lib.laidMet.reads h (n := "internal/strconv.uint64pow10") (d := Rows.laid_internal_strconv_uint64pow10) (by simp [laidL])
 have h2 := Lib.laidMet.reads h (n := "strconv.ErrRange") (d := Rows.laid_strconv_ErrRange) (by simp [laidL])
 have h3 := Lib.laidMet.reads h (n := "strconv.ErrSyntax") (d := Rows.laid_strconv_ErrSyntax) (by simp [laidL])
 have hg:∀ g∈globs,wb g W.heap[g]?∧g < W.heap.size:=by
  intro g hg
  simp only [globs,List.mem_cons,List.not_mem_nil,or_false] at hg
  rcases hg with rfl|rfl|rfl
  ·obtain ⟨g,t,cs,fuel,p,k1,k2,k3,k4⟩:=h1
   obtain rfl := Option.some.inj ((show Tryz.prog.globalNamed "internal/strconv.uint64pow10" = some 0 by kernel_rfl).symm.trans k1)
   obtain rfl:=Option.some.inj ((show (Tryz.prog.globals[0]?).map (·.type)=some 238 by kernel_rfl).symm.trans k2)
   obtain ⟨t,fr,hb⟩:=n7 (by kernel_rfl) k3
   have k5:cs.toList=pow10s.map fun z=>Value.int .u64 z:=Lib.cells_of_tab (zs:=pow10s) Tryz.underlying238 Tryz.underlying226 (by kernel_rfl) (by kernel_rfl) k4
   refine ⟨⟨cs,t,fr,hb,?_⟩,?_⟩
   ·rw [if_pos rfl];apply Array.ext';simpa using k5
   ·rcases Nat.lt_or_ge 0 W.heap.size with h|h
    ·exact h
    ·have hb0:W.heap[0]? = some (.cells cs t fr):=hb
     rw [Array.getElem?_eq_none h] at hb0;cases hb0
  ·exact yU (g:=1) (t:=216) (by kernel_rfl) (by kernel_rfl) ⟨_,Tryz.underlying216⟩ rfl h3
  ·exact yU (g:=2) (t:=216) (by kernel_rfl) (by kernel_rfl) ⟨_,Tryz.underlying216⟩ rfl h2
 exact fun g hm=>⟨fun _=>(hg g hm).2,(hg g hm).1⟩
theorem zU {n:Int}(h:(Lit.int .u8 n).wf=true):0≤n∧n≤255:=by
 simpa [Lit.wf,IntKind.min,IntKind.max,IntKind.signed,IntKind.bits] using h
theorem flat_u8 {A:Ar}{w:World}:∀ zs:List Int,flat (tI .u8) zs (zs.map fun z=>Value.int .u8 z) A w
 | []=>rfl
 | z::zs=>⟨[.int .u8 z],_,rfl,rfl,flat_u8 zs⟩
theorem tC {W W':World}{may:MemPlace→Prop}(h:qx W (pL []) W'):W.keptBut W' may:=by
 refine ⟨h.os,h.output,fun i hi=>?_⟩
 rw [h.block i hi (by rintro o ⟨Q,hQ,_⟩;cases hQ)]
 cases hb:W.heap[i]? with
 | none=>rfl
 | some o=>cases o with
  | cells c t fr=>exact ⟨rfl,rfl,rfl,fun _ _=>rfl⟩
  | map es clock=>exact .inr ⟨rfl,rfl⟩
  | _=>rfl
set_option maxRecDepth 10000 in
theorem vL {H:Type}{enc:TypeId×Value→H}{W:World}{base:Nat}{v0:Value}{d:DataW H}{p:List MemPlace}
     (hval:Value.okWide Tryz.prog W .any base eE v0) (h0:DataW.Trod enc Tryz.prog W 0 (fun _=>true) true eE v0 d p) (hz:(d.weights Tryz.prog eE).all (·≤reachBytes)=true) :
     ∃ zs:List Int,(∀ b,b∈zs→0≤b∧b≤255)∧slRel (tI .u8) zs v0 (fun b _=>b < W.heap.size) W∧
      ∀ W',qx W (pL []) W'→∃ pa,DataW.Trod enc Tryz.prog W' 0 (fun b=>decide (b < W.heap.size)) true eE v0 d pa:=by
 obtain ⟨a0,len,cap,rfl⟩:=okWide_slice Tryz.underlying22 hval
 obtain ⟨fuel,hfuel⟩:=h0
 have c8:Tryz.prog.cellsOf n8=1:=by kernel_rfl
 rcases open_ints Tryz.underlying22 Tryz.underlying5 c8 hfuel with ⟨hcs,hx⟩|⟨a,len',cap',zs,hcs,-,hle,hmax,hall,hx,hcell,hwf⟩
 ·simp only [Value.cells,List.cons.injEq,and_true,Value.slice.injEq] at hcs
  obtain ⟨rfl,rfl,rfl⟩:=hcs
  simp only [Prod.mk.injEq] at hx
  obtain ⟨rfl,rfl⟩:=hx
  exact ⟨[],fun _ h=>(nomatch h),aG _ _ _,fun W' _=>⟨[],shut_slice_nil Tryz.underlying22⟩⟩
 ·simp only [Value.cells,List.cons.injEq,and_true,Value.slice.injEq] at hcs
  obtain ⟨rfl,rfl,rfl⟩:=hcs
  simp only [Prod.mk.injEq] at hx
  obtain ⟨rfl,rfl⟩:=hx
  simp only [if_true] at hall
  have hblk:∀ i,i<zs.length→∃ b off,a=⟨b,off,none⟩∧b < W.heap.size:=fun i hi=>by
   obtain ⟨b,off,e,h⟩:=ints_at hcell (by omega)
   have h0:=h 0 (by omega)
   refine ⟨b,off,e,Classical.byContradiction fun hn=>?_⟩
   simp [World.cell?,Array.getElem?_eq_none (Nat.le_of_not_lt hn)] at h0
  refine ⟨zs.take len,fun b hb=>zU (hwf b (List.mem_of_mem_take hb)),⟨some a,len,cap,(zs.take len).map fun z=>Value.int .u8 z,rfl,?_,hle,?_,flat_u8 _,fun hpos=>?_⟩,fun W' hs=>⟨MemPlace.row a zs.length,⟨fuel+2,?_⟩⟩⟩
  ·simp;omega
  ·have c5:Tryz.prog.bytesOf n8=1:=by kernel_rfl
   have e2:(DataW.slice (H:=H) (lits .u8 (zs.take len)) (lits .u8 (zs.drop len))).weights Tryz.prog eE=((lits (H:=H) .u8 (zs.take len)).length+(lits (H:=H) .u8 (zs.drop len)).length) * Tryz.prog.bytesOf n8::(DataW.weightsAll Tryz.prog n8 (lits (H:=H) .u8 (zs.take len))++DataW.weightsAll Tryz.prog n8 (lits (H:=H) .u8 (zs.drop len))):=by
    simp only [DataW.weights,Tryz.underlying22]
   rw [e2,c5,List.all_cons,Bool.and_eq_true] at hz
   have h4:=of_decide_eq_true hz.1
   simp only [lits,List.length_map,List.length_take,List.length_drop,reachBytes] at h4
   rw [mQ];omega
  ·obtain ⟨b,off,rfl,hlt⟩:=hblk 0 (by omega)
   refine ⟨b,off,rfl,fun j hj=>⟨hlt,?_⟩⟩
   have hj':j<zs.length:=by simp at hj;omega
   have:=hcell j hj'
   rw [Addr.add0] at this
   rw [this]
   simp [List.getD_eq_getElem?_getD,hj']
  ·refine shut_ints fuel Tryz.underlying22 Tryz.underlying5 c8 (Nat.zero_le _) hle hmax ?_ (fun i hi=>?_) hwf
   ·rcases Nat.eq_zero_or_pos zs.length with h0|h0
    ·split<;>omega
    ·obtain ⟨b,off,rfl,hlt⟩:=hblk 0 h0
     rw [if_pos (decide_eq_true hlt)];exact hall
   ·obtain ⟨b,off,rfl,hlt⟩:=hblk i hi
    have:=hcell i hi
    rw [Addr.add0] at this ⊢
    rw [← this]
    exact aR (hs.block b hlt (by rintro o ⟨Q,hQ,_⟩;cases hQ)) _
theorem zd {W:World}(hL:laidMet Tryz.prog laidL W):Pre (fun b _=>b < W.heap.size) W []:=⟨fun b o h=>⟨h,fun Q hQ=>(nomatch hQ)⟩,fun Q hQ=>(nomatch hQ),fun Q hQ=>(nomatch hQ),.nil,zl hL⟩
theorem tg {s:ChangeSpec}{P:Program}(hv:s.vars=[]):s.plain.varTypes P=[]:=by
 unfold ChangeSpec.plain DataSpec.varTypes;rw [hv];rfl
set_option maxRecDepth 10000 in
theorem law_contract {H:Type}{enc:TypeId×Value→H}{k:FuncId}{fn:Func}{spec:ChangeSpec}(hv:spec.vars=[])(hspec:∀ d:DataW H,spec.fn H [d] = { results:=[.lit (.bool true)],args:=[d] })
     (hp:fn.params = #[eE]) (hr:fn.resultTypes = #[AF]) {f:List Int→Option Bool} (hc:∀ a,Ctr Tryz.prog k [(tL (tI .u8)).va a] [] (f a) (fun _ _=>[]) (fun q=>isB q))
     (hf:∀ a:List Int,(∀ b,b∈a→0≤b∧b≤255)→f a=some true)
     {W:World} {base:Nat} {args:Array Value} {ds gs:List (DataW H)} {before:List MemPlace}
     (hval:∀ (j:Nat) t v,fn.params[j]? = some t→args[j]? = some v→Value.okWide Tryz.prog W .any base t v)
     (hW:DataW.Whole enc Tryz.prog fn.params.toList spec.vars false W args.toList ds gs before) (hz:(DataW.weightsEach Tryz.prog (fn.params.toList++spec.plain.varTypes Tryz.prog) (ds++gs)).all (·≤reachBytes)=true) (hL:laidMet Tryz.prog laidL W) :
     Calls Tryz.prog k args W fun e W'=>∃ v,e=.returned v∧spec.post enc Tryz.prog fn false true false false W args v W':=by
 have hW':=hW
 obtain ⟨p,q,hA,hV,rfl,-,-⟩:=hW
 rw [hv] at hV
 obtain ⟨rfl,rfl⟩:=trodVars_none hV
 have hA':DataW.TrodAll enc Tryz.prog W 0 (fun _=>true) true [eE] args.toList ds p:=by rw [hp] at hA;exact hA
 obtain ⟨v0,d,rfl,rfl,h0⟩:=trodAll_one hA'
 have hz':((d.weights Tryz.prog eE)++[]).all (·≤reachBytes)=true:=by
  rw [tg hv,hp] at hz;exact hz
 rw [List.append_nil] at hz'
 obtain ⟨zs,hb,hsl,hback⟩:=vL (hval 0 eE v0 (by rw [hp];rfl) rfl) h0 hz'
 refine Calls.mono (hc zs true (hf zs hb) _ W [v0] (zd hL) (.cons hsl .nil)) ?_
 rintro e W' ⟨v,rfl,hpost,hbool⟩
 cases (show v=.bool true from hbool)
 obtain ⟨pa,hpa⟩:=hback W' hpost.same
 have e1:spec.fn H ([d]++[]) = { results:=[.lit (.bool true)],args:=[d] }:=hspec d
 refine ⟨_,rfl,[d],[],p++[],[],pa,[],hW',?_,?_,?_,tC hpost.same,fun h=>by cases h⟩
 ·rw [e1,hr];exact trodAll_mk1 (shut_bool Tryz.underlying4 _)
 ·rw [e1,hp];exact trodAll_mk1 hpa
 ·rw [e1,hv];rfl
end Go.Proofs.YtganfdhmkdehlaaGreatDoor
