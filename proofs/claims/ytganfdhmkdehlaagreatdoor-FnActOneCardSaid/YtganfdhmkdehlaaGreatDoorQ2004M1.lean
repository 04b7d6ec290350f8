/- What the functions of values and columns answer, in plain words. -/
import Derived.Test.YtganfdhmkdehlaaGreatDoorQ2004A13
import Derived.KernelRfl
set_option linter.all false
namespace Go.Proofs.YtganfdhmkdehlaaGreatDoor
open Go Go.HL
theorem b_(b:Bool):(b&&b)=b:=b.and_self
theorem n_:(!true)=false:=rfl
theorem m_:(!false)=true:=rfl
theorem s_{α:Type}{a:α}:[a].length=1:=rfl
theorem g_{α:Type}{a:α}{l:List α}(h:a∈l):∃i,∃h:i<l.length,l[i]=a:=List.getElem_of_mem h
theorem c_{p:Prop}(h:¬p→False):p:=Classical.byContradiction h
theorem p_{α:Type}{a:α}{s t:List α}(h:a∈s++t):a∈s∨a∈t:=List.mem_append.1 h
noncomputable def B (p:Prop):Bool:=@decide p (Classical.propDecidable p)
theorem B_t {p:Prop}(h:p):B p=true:=by unfold B;exact @dt _ (Classical.propDecidable p) h
theorem B_f {p:Prop}(h:¬ p):B p=false:=by unfold B;exact @df _ (Classical.propDecidable p) h
theorem iU {p:Prop}:B p=true↔p:=by unfold B;exact @decide_eq_true_iff p (Classical.propDecidable p)
theorem CX {p:Prop}:B p=false↔¬ p:=⟨fun h hp=>(by rw [B_t hp] at h;cases h),B_f⟩
theorem bL {p:Prop}[i:Decidable p]:decide p=B p:=by
 by_cases h:p
 ·rw [B_t h,dt h]
 ·rw [B_f h,df h]
theorem ai {p q:Prop}(h:p↔q):B p=B q:=by rw [propext h]
theorem Au {b:Bool}{p:Prop}(h:b=true↔p):b=B p:=by
 by_cases hp:p
 ·rw [B_t hp];exact h.2 hp
 ·rw [B_f hp];cases b with
  | false=>rfl
  | true=>exact absurd (h.1 rfl) hp
theorem bW {p q:Prop}:B (p∧q)=(B p&&B q):=(Au (by rw [Bool.and_eq_true,iU,iU])).symm
theorem y0 {p q:Prop}:B (p∨q)=(B p || B q):=(Au (by rw [Bool.or_eq_true,iU,iU])).symm
theorem lQ {p:Prop}:B (¬ p) = !B p:=(Au (by rw [Bool.not_eq_true',CX])).symm
theorem qz {p q:Prop}:B (p→q)=(!B p || B q):=(Au (by
 rw [Bool.or_eq_true,Bool.not_eq_true',CX,iU]
 exact ⟨fun h hp=>h.elim (absurd hp) id,fun h=>(Classical.em p).elim (fun hp=>.inr (h hp)) .inl⟩)).symm
theorem y1 {b:Bool}:B (b=true)=b:=(Au Iff.rfl).symm
theorem bu {x:Int}(h1:-9223372036854775808≤x)(h2:x≤9223372036854775807):IntKind.i64.wrap x=x:=by
 rw [IntKind.wrap_i64];omega
theorem CAP_eq:CAP=4294967296:=by unfold CAP;rfl
abbrev BIG:Nat:=1000000
theorem bb {k N:Nat}(h:k < N)(hN:N≤BIG):IntKind.i64.wrap ((k:Int)+1)=((k+1:Nat):Int):=by
 rw [bu]<;>unfold BIG at hN<;>omega
theorem dZ {L:Nat→Int→Option Bool}{N:Nat}(p:Nat→Prop)(q:Prop)(hN:N≤BIG)
     (hend:∀ n,q→L (n+1) (N:Int)=some true) (hend':∀ n,¬ q→L (n+1) (N:Int)=some false)
     (hyes:∀ n (k:Nat),k < N→p k→L (n+1) (k:Int)=L n (IntKind.i64.wrap ((k:Int)+1)))
     (hno:∀ n (k:Nat),k < N→¬ p k→L (n+1) (k:Int)=some false) {fu:Nat} (hf:N<fu):L fu 0=some (B ((∀ k,k < N→p k)∧q)):=by
 have key:∀ c fu k,k+c=N→c<fu→L fu (k:Int)=some (B ((∀ i,k≤i→i < N→p i)∧q)):=by
  intro c
  induction c with
  | zero=>
   intro fu k hk hc
   obtain ⟨n,rfl⟩:∃ n,fu=n+1:=⟨fu-1,by omega⟩
   have:k=N:=by omega
   subst this
   by_cases hq:q
   ·rw [hend n hq,B_t ⟨fun i h1 h2=>by omega,hq⟩]
   ·rw [hend' n hq,B_f fun h=>hq h.2]
  | succ c ih=>
   intro fu k hk hc
   obtain ⟨n,rfl⟩:∃ n,fu=n+1:=⟨fu-1,by omega⟩
   by_cases hp:p k
   ·rw [hyes n k (by omega) hp,bb (show k < N by omega) hN,ih n (k+1) (by omega) (by omega)]
    congr 1
    refine ai ⟨fun h=>⟨fun i h1 h2=>?_,h.2⟩,fun h=>⟨fun i h1 h2=>h.1 i (by omega) h2,h.2⟩⟩
    by_cases hi:i=k
    ·subst hi;exact hp
    ·exact h.1 i (by omega) h2
   ·rw [hno n k (by omega) hp]
    congr 1
    exact (B_f fun h=>hp (h.1 k (Nat.le_refl _) (by omega))).symm
 have:=key N fu 0 (by omega) hf
 simpa using this
theorem lS {L:Nat→Int→Option Int}{α:Type}(l:List α)(p:α→Bool)(hN:l.length≤BIG)
     (hend:∀ n,L (n+1) (l.length:Int)=some (-1))
     (hyes:∀ n (k:Nat) (hk:k<l.length),p l[k]=true→L (n+1) (k:Int)=some (k:Int))
     (hno:∀ n (k:Nat) (hk:k<l.length),p l[k]=false→L (n+1) (k:Int)=L n (IntKind.i64.wrap ((k:Int)+1))) {fu:Nat} (hf:l.length<fu) :
     L fu 0=some (if l.findIdx p<l.length then (l.findIdx p:Int) else -1):=by
 have key:∀ c fu k,k+c=l.length→c<fu→(∀ i (hi:i<l.length),i<k→p l[i]=false)→L fu (k:Int)=some (if l.findIdx p<l.length then (l.findIdx p:Int) else -1):=by
  intro c
  induction c with
  | zero=>
   intro fu k hk hc h
   obtain ⟨n,rfl⟩:∃ n,fu=n+1:=⟨fu-1,by omega⟩
   have:k=l.length:=by omega
   rw [this,hend]
   have:¬ l.findIdx p<l.length:=fun hlt=>by
    have:=List.findIdx_getElem (w:=hlt)
    rw [h _ hlt (by omega)] at this
    cases this
   rw [if_neg this]
  | succ c ih=>
   intro fu k hk hc h
   obtain ⟨n,rfl⟩:∃ n,fu=n+1:=⟨fu-1,by omega⟩
   have hkl:k<l.length:=by omega
   cases hp:p l[k] with
   | true=>
    rw [hyes n k hkl hp]
    have:l.findIdx p=k:=by
     refine (List.findIdx_eq hkl).2 ⟨hp,fun j hj=>?_⟩
     exact h j (by omega) hj
    rw [this,if_pos hkl]
   | false=>
    rw [hno n k hkl hp,bb hkl hN]
    refine ih n (k+1) (by omega) (by omega) fun i hi hik=>?_
    by_cases hi':i=k
    ·subst hi';exact hp
    ·exact h i hi (by omega)
 have:=key l.length fu 0 (by omega) hf (fun i _ hi=>absurd hi (Nat.not_lt_zero _))
 simpa using this
def wO (b:UInt8):Prop:=97≤b.toNat∧b.toNat≤122
def lR (b:UInt8):Prop:=wO b∨(48≤b.toNat∧b.toNat≤57)∨b.toNat=45
def am (s:List UInt8):Prop:=(∀ k,k<s.length→wO (s.getD k 0))∧1≤s.length∧s.length≤3
def z1 (s:List UInt8):Prop:=∀ k,k<s.length→lR (s.getD k 0)
def eD (s:List UInt8):Prop:=z1 s∧s.length≤4
structure yY (v:Val):Prop where
 lo:-999≤v.n
 hi:v.n≤999
 text:v.text=[]
def ValOK (v:Val):Prop:=(v.kind=0∧v=⟨0,0,[]⟩)∨(v.kind=1∧yY v)∨(v.kind=2∧v.n=0∧eD v.text)
theorem ae {α:Type}{l:List α}{k:Nat}{d:α}(h:k<l.length):l.getD k d=l[k]:=by simp [List.getD_eq_getElem?_getD,h]
theorem inR {k n:Nat}(h:k<n):(decide (0≤(k:Int))&&decide ((k:Int) < (n:Int)))=true:=by
 simp;exact h
theorem ltR {k n:Nat}(h:k<n):decide ((k:Int) < (n:Int))=true:=by simp;exact h
theorem ge0 (k:Nat):decide (0≤(k:Int))=true:=by simp
theorem nlt (n:Nat):decide ((n:Int) < (n:Int))=false:=by simp
theorem zw {fu:Nat}{s:List UInt8}(hs:s.length<fu)(hB:s.length≤BIG):oS fu s=some (B (am s)):=by
 unfold oS am
 refine dZ (L:=d4 s) (fun k=>wO (s.getD k 0)) (1≤s.length∧s.length≤3) hB (fun n h=>?_) (fun n h=>?_) (fun n k hk hp=>?_) (fun n k hk hp=>?_) hs
 all_goals rw [d4]
 all_goals simp only [nE,nD,wO] at *
 all_goals grind
theorem zt {fu:Nat}{s:List UInt8}(hs:s.length<fu)(hB:s.length≤BIG):Bv fu s=some (B (eD s)):=by
 unfold Bv eD
 unfold z1
 refine dZ (L:=c6 s) (fun k=>lR (s.getD k 0)) (s.length≤4) hB (fun n h=>?_) (fun n h=>?_) (fun n k hk hp=>?_) (fun n k hk hp=>?_) hs
 all_goals rw [c6]
 all_goals simp only [eP,lR,wO] at *
 all_goals grind
theorem zy {fu:Nat}{s:List UInt8}(hs:s.length<fu)(hB:s.length≤BIG):lU fu s=some (B (am s)):=by
 unfold lU am
 refine dZ (L:=gC fu s) (fun k=>wO (s.getD k 0)) (1≤s.length∧s.length≤3) hB (fun n h=>?_) (fun n h=>?_) (fun n k hk hp=>?_) (fun n k hk hp=>?_) hs
 all_goals rw [gC]
 all_goals simp only [nF,f56,ln,wO] at *
 all_goals grind
theorem zC {fu:Nat}{v:Val}(hs:v.text.length<fu)(hB:v.text.length≤BIG):uU fu v=some (B (ValOK v)):=by
 unfold uU
 rw [zt hs hB]
 simp only [nK,nJ,Ak,lv]
 by_cases h:ValOK v
 ·rw [B_t h]
  unfold ValOK at h
  by_cases ht:eD v.text
  ·rw [B_t ht];grind [yY]
  ·rw [B_f ht];grind [yY]
 ·rw [B_f h]
  unfold ValOK at h
  by_cases ht:eD v.text
  ·rw [B_t ht];grind [yY]
  ·rw [B_f ht];grind [yY]
theorem Bp {fu:Nat}{v:Val}(hs:v.text.length<fu)(hB:v.text.length≤BIG):f25 fu v=some (B (ValOK v)):=by
 have hl:da v fu 0=some (B ((∀ k,k<v.text.length→lR (v.text.getD k 0))∧(v.n=0∧v.text.length≤4))):=by
  refine dZ (L:=da v) (fun k=>lR (v.text.getD k 0)) (v.n=0∧v.text.length≤4) hB (fun n h=>?_) (fun n h=>?_) (fun n k hk hp=>?_) (fun n k hk hp=>?_) hs
  all_goals rw [da]
  all_goals simp only [ib,rA,lR,wO] at *
  all_goals grind
 unfold f25
 rw [hl]
 simp only [rB,f56,ln]
 have h2:((∀ k,k<v.text.length→lR (v.text.getD k 0))∧(v.n=0∧v.text.length≤4))↔(v.n=0∧eD v.text):=by
  unfold eD z1
  exact ⟨fun h=>⟨h.2.1,h.1,h.2.2⟩,fun h=>⟨h.2.1,h.1,h.2.2⟩⟩
 rw [ai h2]
 by_cases h:ValOK v
 ·rw [B_t h]
  unfold ValOK at h
  by_cases ht:eD v.text<;>by_cases hn:v.n=0<;>simp only [ht,hn,and_self,and_true,and_false,true_and,false_and,B_t,B_f,not_false_eq_true] at h ⊢<;>grind [yY]
 ·rw [B_f h]
  unfold ValOK at h
  by_cases ht:eD v.text<;>by_cases hn:v.n=0<;>simp only [ht,hn,and_self,and_true,and_false,true_and,false_and,B_t,B_f,not_false_eq_true] at h ⊢<;>grind [yY]
abbrev SmV (v:Val):Prop:=v.text.length≤1000
structure SmC (c:Col):Prop where
 name:c.name.length≤1000
 def_:SmV c.def_
structure SmS (s:List Col):Prop where
 len:s.length≤1000
 all:∀ c,c∈s→SmC c
def BW (v:Val)(k:Int):Prop:=v.kind=0∨v.kind=k
structure dC (c:Col):Prop where
 name:am c.name
 kind:c.kind=1∨c.kind=2
 def_:ValOK c.def_
 fits:BW c.def_ c.kind
 once:c.once=true→c.def_.kind=0
theorem pm {c:Col}:dC c↔am c.name∧(c.kind=1∨c.kind=2)∧ValOK c.def_∧(c.def_.kind=0∨c.def_.kind=c.kind)∧(c.once=true→c.def_.kind=0):=⟨fun h=>⟨h.1,h.2,h.3,h.4,h.5⟩,fun h=>⟨h.1,h.2.1,h.2.2.1,h.2.2.2.1,h.2.2.2.2⟩⟩
variable {fu:Nat}
theorem d3 {s:List UInt8}(hf:BIG≤fu)(hs:s.length≤1000):oS fu s=some (B (am s)):=zw (by unfold BIG at hf;omega) (by unfold BIG;omega)
theorem d5 {s:List UInt8}(hf:BIG≤fu)(hs:s.length≤1000):lU fu s=some (B (am s)):=zy (by unfold BIG at hf;omega) (by unfold BIG;omega)
theorem jk {v:Val}(hf:BIG≤fu)(hs:SmV v):uU fu v=some (B (ValOK v)):=zC (by unfold BIG at hf;omega) (by unfold BIG;omega)
theorem lu {v:Val}(hf:BIG≤fu)(hs:SmV v):f25 fu v=some (B (ValOK v)):=Bp (by unfold BIG at hf;omega) (by unfold BIG;omega)
theorem lx {c:Col}(hf:BIG≤fu)(hs:SmC c):zE fu c=some (B (dC c)):=by
 unfold zE
 rw [d3 hf hs.1,jk hf hs.2]
 simp only [bJ]
 rw [ai pm]
 by_cases h1:am c.name<;>by_cases h2:ValOK c.def_<;>simp only [B_t,B_f,h1,h2,true_and,false_and,and_false,bs,ct,cf,not_false_eq_true]
 ·by_cases h:(c.kind=1∨c.kind=2)∧(c.def_.kind=0∨c.def_.kind=c.kind)∧(c.once=true→c.def_.kind=0)
  ·rw [B_t h];grind
  ·rw [B_f h];grind
 ·grind
theorem jA {a lo hi:Int}:f56 fu a lo hi=some (B (lo≤a∧a≤hi)):=by
 simp only [f56,ln]
 by_cases h1:lo≤a<;>by_cases h2:a≤hi<;>simp [h1,h2,B_t,B_f]
theorem rd {v:Val}{k:Int}:f92 fu v k=some (B (v.kind=0∨v.kind=k)):=by
 simp only [f92,rc]
 by_cases h1:v.kind=0
 ·simp [h1,B_t]
 ·by_cases h2:v.kind=k
  ·rw [B_t (.inr h2)];simp [h1,h2]
  ·rw [B_f (fun h=>h.elim h1 h2)];simp [h1,h2]
theorem nS {c:Col}(hf:BIG≤fu)(hs:SmC c):zK fu c=some (B (dC c)):=by
 unfold zK
 rw [d5 hf hs.1,lu hf hs.2,jA,rd]
 have hk:(1≤c.kind∧c.kind≤2)↔(c.kind=1∨c.kind=2):=by omega
 rw [ai pm,ai hk]
 simp only [fH,bW,y0,qz,y1,bL]
 cases B (am c.name)<;>cases B (ValOK c.def_)<;>cases B (c.kind=1)<;>cases B (c.kind=2)<;>cases B (c.def_.kind=0)<;>cases B (c.def_.kind=c.kind)<;>cases c.once<;>rfl
def atN (s:List Col)(nm:List UInt8):Nat:=s.findIdx fun c=>decide (c.name=nm)
def atI (s:List Col)(nm:List UInt8):Int:=if atN s nm<s.length then (atN s nm:Int) else -1
theorem fG {s:List Col}{nm:List UInt8}(hf:BIG≤fu)(hs:s.length≤1000):f108 fu s nm=some (atI s nm):=by
 unfold f108 atI atN
 refine lS (L:=gF s nm) s (fun c=>decide (c.name=nm)) (by unfold BIG;omega) (fun n=>?_) (fun n k hk hp=>?_) (fun n k hk hp=>?_) (by unfold BIG at hf;omega)
 all_goals rw [gF]
 all_goals grind
theorem mz {s:List Col}{nm:List UInt8}(hf:BIG≤fu)(hs:s.length≤1000):f68 fu s nm=some (atI s nm):=by
 unfold f68 As
 have:d8 s (fun x0=>zJ x0 nm) fu 0=some (atI s nm):=by
  unfold atI atN
  refine lS (L:=d8 s (fun x0=>zJ x0 nm)) s (fun c=>decide (c.name=nm)) (by unfold BIG;omega) (fun n=>?_) (fun n k hk hp=>?_) (fun n k hk hp=>?_) (by unfold BIG at hf;omega)
  all_goals rw [d8]
  all_goals simp only [zJ]
  all_goals grind
 rw [this];rfl
structure ak (s:List Col):Prop where
 all:∀ k,k<s.length→dC (s.getD k default)∧atI s (s.getD k default).name=(k:Int)
 lo:1≤s.length
 hi:s.length≤5
theorem lN {s:List Col}:ak s↔(∀ k,k<s.length→dC (s.getD k default)∧atI s (s.getD k default).name=(k:Int))∧(1≤s.length∧s.length≤5):=⟨fun h=>⟨h.1,h.2,h.3⟩,fun h=>⟨h.1,h.2.1,h.2.2⟩⟩
theorem SmS.get {s:List Col}(h:SmS s){k:Nat}(hk:k<s.length):SmC (s.getD k default):=by
 rw [ae hk];exact h.all _ (List.getElem_mem hk)
theorem li {s:List Col}(hf:BIG≤fu)(hs:SmS s):f86 fu s=some (B (ak s)):=by
 unfold f86
 rw [ai lN]
 have hl:=hs.len
 refine dZ (L:=gp fu s) _ _ (by unfold BIG;omega) (fun n h=>?_) (fun n h=>?_) (fun n k hk hp=>?_) (fun n k hk hp=>?_) (by unfold BIG at hf;omega)
 all_goals rw [gp]
 all_goals simp only [ri,rh,fG hf hl]
 ·grind
 ·grind
 ·rw [lx hf (hs.get (by grind)),B_t (by grind)];grind
 ·rw [lx hf (hs.get (by grind))]
  by_cases h:dC (s.getD k default)
  ·rw [B_t (by grind)];grind
  ·rw [B_f (by grind)];grind
theorem rm {s:List Col}(hf:BIG≤fu)(hs:SmS s):f67 fu s=some (B (ak s)):=by
 unfold f67
 rw [ai lN]
 have hl:=hs.len
 refine dZ (L:=lj fu s) _ _ (by unfold BIG;omega) (fun n h=>?_) (fun n h=>?_) (fun n k hk hp=>?_) (fun n k hk hp=>?_) (by unfold BIG at hf;omega)
 all_goals rw [lj]
 all_goals simp only [rl,mz hf hl,f56,ln]
 ·grind
 ·grind
 ·rw [nS hf (hs.get (by grind)),B_t (by grind)];grind
 ·rw [nS hf (hs.get (by grind))]
  by_cases h:dC (s.getD k default)
  ·rw [B_t (by grind)];grind
  ·rw [B_f (by grind)];grind
end Go.Proofs.YtganfdhmkdehlaaGreatDoor
