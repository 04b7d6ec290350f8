/- The library's functions that the program calls: what they answer, off the shelf. -/
import Derived.Test.YtganfdhmkdehlaaGreatDoorQ2004Shelf
import Derived.Test.YtganfdhmkdehlaaGreatDoorQ2004Ty
import Derived.KernelRfl
set_option linter.all false
namespace Go.Proofs.YtganfdhmkdehlaaGreatDoor
open Go Go.HL Go.RowKit Go.Sort
theorem BT {A:Ar}{w:World}{args:List Value}{Q:VA}(h:gJ A w args [Q]):∃ v,args=[v]∧Q.f v A w:=by
 cases h with
 | cons h1 h2=>cases h2;exact ⟨_,rfl,h1⟩
def zx (a0:Int):Option (List UInt8):=cond (decide (-9223372036854775808≤a0)&&decide (a0≤9223372036854775807)) (some (Lib.itoa a0)) none
theorem n131 : ∃ fn c, Tryz.prog.funcs[213]? = some fn ∧ (fn.name == "runtime.NumGoroutine") = false ∧ fn.body = some c := ⟨_, _, Tryz.func213, by kernel_rfl, rfl⟩
theorem Cp {A : Ar}{w : World}(hg : Ac A w) : Lib.TabIs Tryz.prog w "internal/strconv.uint64pow10" .u64 Lib.pow10Tab := by
 obtain ⟨-,cs,et,fr,h1,h2⟩:=hg yz (by simp [globs])
 rw [if_pos rfl] at h2
 have h3 : Tryz.prog.globalNamed "internal/strconv.uint64pow10" = some 0 := by kernel_rfl
 show World.var? _ _ _=_
 rw [World.var?,h3]
 show (match w.heap[yz]? with | some (.cells cs _ _)=>some cs | _=>none)=_
 rw [h1,h2];rfl
theorem c131 (a0:Int):Ctr Tryz.prog 213 [isI .i64 a0] [] (zx a0) (fun _ _=>[]) (fun q=>isS q):=by
 refine o5 fun q hq A w args hg ha=>?_
 obtain ⟨v,rfl,hv⟩:=BT ha
 cases (show v=.int .i64 a0 from hv)
 unfold zx at hq
 cases hb:(decide (-9223372036854775808≤a0)&&decide (a0≤9223372036854775807)) with
 | false=>rw [hb] at hq;cases hq
 | true=>
  rw [hb] at hq
  simp only [Bool.and_eq_true,decide_eq_true_eq] at hb
  cases hq
  refine Calls.mono (Tryz.strconv_Itoa a0 hb.1 hb.2 w (Cp hg)) ?_
  rintro e w' ⟨rfl,k,os,rfl⟩
  refine ⟨_,rfl,⟨rfl,rfl,rfl,by simp [grow,World.drewN],fun b hb=>?_⟩,fun _=>rfl⟩
  simp [grow,World.drewN,Array.getElem?_append_left hb]
def B7 (a0:List UInt8):Option (Int×Bool):=cond (decide (List.length a0≤281474976710656)) (match Lib.atoiAll a0 with | .ok v=>some (v,false) | .range=>some (Lib.atoiSat a0,true) | _=>some (0,true)) none
theorem n144 : ∃ fn c, Tryz.prog.funcs[226]? = some fn ∧ (fn.name == "runtime.NumGoroutine") = false ∧ fn.body = some c := ⟨_, _, Tryz.func226, by kernel_rfl, rfl⟩
theorem BD {A:Ar}{w:World}(hg:Ac A w){g:Nat}(h:g∈globs)(h0:g≠yz):∃ ev,w.cell? ⟨g,0,none⟩=some ev∧(ev=.nilIface∨∃ te pe,ev=.iface te pe):=by
 obtain ⟨-,cs,et,fr,h1,h2⟩:=hg g h
 rw [if_neg h0] at h2
 obtain ⟨ev,rfl,h3⟩:=h2
 exact ⟨ev,by simp [World.cell?,h1],h3⟩
theorem c144 (a0:List UInt8):Ctr Tryz.prog 226 [isS a0] [] (B7 a0) (fun _ _=>[]) (fun q=>tup [isI .i64 q.1,A6 q.2]):=by
 refine o5 fun q hq A w args hg ha=>?_
 obtain ⟨v,rfl,hv⟩:=BT ha
 cases (show v=str a0 from hv)
 unfold B7 at hq
 cases hb:decide (List.length a0≤281474976710656) with
 | false=>rw [hb] at hq;cases hq
 | true=>
  rw [hb] at hq
  simp only [decide_eq_true_eq] at hb
  have hsz:(⟨a0.toArray⟩:ByteArray).size≤281474976710656:=by rw [jp];exact hb
  have hl:(⟨a0.toArray⟩:ByteArray).data.toList=a0:=by simp
  rcases ha:Lib.atoiAll a0 with v|_|_
  rotate_left
  rotate_left
  ·rw [ha] at hq
   cases hq
   obtain ⟨ev,h1,h2⟩:=BD hg (g:=2) (by simp [globs,CQ]) (by simp [yz])
   refine Calls.mono (Tryz.strconv_Atoi_range ⟨a0.toArray⟩ hsz (by rw [hl];exact ha) ev w h1 h2) ?_
   rintro e w' ⟨N,rfl,h3,h4,h5⟩
   rw [hl]
   exact ⟨_,rfl,h5,fun _=>⟨_,rfl,.cons rfl (.cons ⟨_,_,rfl⟩ .nil)⟩⟩
  ·rw [ha] at hq
   cases hq
   refine Calls.mono (Tryz.strconv_Atoi_ok ⟨a0.toArray⟩ (by omega) v (by rw [hl];exact ha) w) ?_
   rintro e w' ⟨rfl,hw⟩
   refine ⟨_,rfl,?_,fun _=>⟨_,rfl,.cons rfl (.cons rfl .nil)⟩⟩
   rcases hw with rfl|⟨t,rfl⟩
   ·exact Below.refl _ _
   ·exact Lib.bytesWorld_below _ _ _
  ·rw [ha] at hq
   cases hq
   obtain ⟨ev,h1,h2⟩:=BD hg (g:=1) (by simp [globs,CP]) (by simp [yz])
   refine Calls.mono (Tryz.strconv_Atoi_syntax ⟨a0.toArray⟩ hsz (fun v=>by rw [hl,ha];exact fun h=>nomatch h) (by rw [hl,ha];exact fun h=>nomatch h) ev w h1 h2) ?_
   rintro e w' ⟨N,rfl,h3,h4,h5⟩
   exact ⟨_,rfl,h5,fun _=>⟨_,rfl,.cons rfl (.cons ⟨_,_,rfl⟩ .nil)⟩⟩
end Go.Proofs.YtganfdhmkdehlaaGreatDoor
