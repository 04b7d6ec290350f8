/- Plain laws. -/
import Derived.Test.YtganfdhmkdehlaaGreatDoorQ2007A13
import Derived.KernelRfl
set_option linter.all false
namespace Go.Proofs.YtganfdhmkdehlaaGreatDoor
open Go Go.HL
theorem b_(b:Bool):(b&&b)=b:=b.and_self
theorem n_:(!true)=false:=rfl
theorem m_:(!false)=true:=rfl
theorem s_{α:Type}{a:α}:[a].length=1:=rfl
theorem g_{α:Type}{a:α}{l:List α}(h:a∈l):∃i,∃h:i<l.length,l[i]=a:=List.getElem_of_mem h
theorem c_{p:Prop}(h:¬p→False):p:=Classical.byContradiction h
theorem p_{α:Type}{a:α}{s t:List α}(h:a∈s++t):a∈s∨a∈t:=List.mem_append.1 h
noncomputable def B (p:Prop):Bool:=@decide p (Classical.propDecidable p)
theorem B_t {p:Prop}(h:p):B p=true:=by unfold B;exact @dt _ (Classical.propDecidable p) h
theorem B_f {p:Prop}(h:¬ p):B p=false:=by unfold B;exact @df _ (Classical.propDecidable p) h
theorem jh {p:Prop}:B p=true↔p:=by unfold B;exact @decide_eq_true_iff p (Classical.propDecidable p)
theorem Hk {p:Prop}:B p=false↔¬ p:=⟨fun h hp=>(by rw [B_t hp] at h;cases h),B_f⟩
theorem bM {p:Prop}[i:Decidable p]:decide p=B p:=by
 by_cases h:p
 ·rw [B_t h,dt h]
 ·rw [B_f h,df h]
theorem ai {p q:Prop}(h:p↔q):B p=B q:=by rw [propext h]
theorem BI {b:Bool}{p:Prop}(h:b=true↔p):b=B p:=by
 by_cases hp:p
 ·rw [B_t hp];exact h.2 hp
 ·rw [B_f hp];cases b with
  | false=>rfl
  | true=>exact absurd (h.1 rfl) hp
theorem bY {p q:Prop}:B (p∧q)=(B p&&B q):=(BI (by rw [Bool.and_eq_true,jh,jh])).symm
theorem zS {p q:Prop}:B (p∨q)=(B p || B q):=(BI (by rw [Bool.or_eq_true,jh,jh])).symm
theorem l7 {p:Prop}:B (¬ p) = !B p:=(BI (by rw [Bool.not_eq_true',Hk])).symm
theorem rl {p q:Prop}:B (p→q)=(!B p || B q):=(BI (by
 rw [Bool.or_eq_true,Bool.not_eq_true',Hk,jh]
 exact ⟨fun h hp=>h.elim (absurd hp) id,fun h=>(Classical.em p).elim (fun hp=>.inr (h hp)) .inl⟩)).symm
theorem zT {b:Bool}:B (b=true)=b:=(BI Iff.rfl).symm
theorem bj {x:Int}(h1:-9223372036854775808≤x)(h2:x≤9223372036854775807):IntKind.i64.wrap x=x:=by
 rw [IntKind.wrap_i64];omega
theorem CAP_eq:CAP=4294967296:=by unfold CAP;rfl
abbrev BIG:Nat:=1000000
theorem bb {k N:Nat}(h:k < N)(hN:N≤BIG):IntKind.i64.wrap ((k:Int)+1)=((k+1:Nat):Int):=by
 rw [bj]<;>unfold BIG at hN<;>omega
theorem d8 {L:Nat→Int→Option Bool}{N:Nat}(p:Nat→Prop)(q:Prop)(hN:N≤BIG)
     (hend:∀ n,q→L (n+1) (N:Int)=some true) (hend':∀ n,¬ q→L (n+1) (N:Int)=some false)
     (hyes:∀ n (k:Nat),k < N→p k→L (n+1) (k:Int)=L n (IntKind.i64.wrap ((k:Int)+1)))
     (hno:∀ n (k:Nat),k < N→¬ p k→L (n+1) (k:Int)=some false) {fu:Nat} (hf:N<fu):L fu 0=some (B ((∀ k,k < N→p k)∧q)):=by
 have key:∀ c fu k,k+c=N→c<fu→L fu (k:Int)=some (B ((∀ i,k≤i→i < N→p i)∧q)):=by
  intro c
  induction c with
  | zero=>
   intro fu k hk hc
   obtain ⟨n,rfl⟩:∃ n,fu=n+1:=⟨fu-1,by omega⟩
   have:k=N:=by omega
   subst this
   by_cases hq:q
   ·rw [hend n hq,B_t ⟨fun i h1 h2=>by omega,hq⟩]
   ·rw [hend' n hq,B_f fun h=>hq h.2]
  | succ c ih=>
   intro fu k hk hc
   obtain ⟨n,rfl⟩:∃ n,fu=n+1:=⟨fu-1,by omega⟩
   by_cases hp:p k
   ·rw [hyes n k (by omega) hp,bb (show k < N by omega) hN,ih n (k+1) (by omega) (by omega)]
    congr 1
    refine ai ⟨fun h=>⟨fun i h1 h2=>?_,h.2⟩,fun h=>⟨fun i h1 h2=>h.1 i (by omega) h2,h.2⟩⟩
    by_cases hi:i=k
    ·subst hi;exact hp
    ·exact h.1 i (by omega) h2
   ·rw [hno n k (by omega) hp]
    congr 1
    exact (B_f fun h=>hp (h.1 k (Nat.le_refl _) (by omega))).symm
 have:=key N fu 0 (by omega) hf
 simpa using this
theorem l9 {L:Nat→Int→Option Int}{α:Type}(l:List α)(p:α→Bool)(hN:l.length≤BIG)
     (hend:∀ n,L (n+1) (l.length:Int)=some (-1))
     (hyes:∀ n (k:Nat) (hk:k<l.length),p l[k]=true→L (n+1) (k:Int)=some (k:Int))
     (hno:∀ n (k:Nat) (hk:k<l.length),p l[k]=false→L (n+1) (k:Int)=L n (IntKind.i64.wrap ((k:Int)+1))) {fu:Nat} (hf:l.length<fu) :
     L fu 0=some (if l.findIdx p<l.length then (l.findIdx p:Int) else -1):=by
 have key:∀ c fu k,k+c=l.length→c<fu→(∀ i (hi:i<l.length),i<k→p l[i]=false)→L fu (k:Int)=some (if l.findIdx p<l.length then (l.findIdx p:Int) else -1):=by
  intro c
  induction c with
  | zero=>
   intro fu k hk hc h
   obtain ⟨n,rfl⟩:∃ n,fu=n+1:=⟨fu-1,by omega⟩
   have:k=l.length:=by omega
   rw [this,hend]
   have:¬ l.findIdx p<l.length:=fun hlt=>by
    have:=List.findIdx_getElem (w:=hlt)
    rw [h _ hlt (by omega)] at this
    cases this
   rw [if_neg this]
  | succ c ih=>
   intro fu k hk hc h
   obtain ⟨n,rfl⟩:∃ n,fu=n+1:=⟨fu-1,by omega⟩
   have hkl:k<l.length:=by omega
   cases hp:p l[k] with
   | true=>
    rw [hyes n k hkl hp]
    have:l.findIdx p=k:=by
     refine (List.findIdx_eq hkl).2 ⟨hp,fun j hj=>?_⟩
     exact h j (by omega) hj
    rw [this,if_pos hkl]
   | false=>
    rw [hno n k hkl hp,bb hkl hN]
    refine ih n (k+1) (by omega) (by omega) fun i hi hik=>?_
    by_cases hi':i=k
    ·subst hi';exact hp
    ·exact h i hi (by omega)
 have:=key l.length fu 0 (by omega) hf (fun i _ hi=>absurd hi (Nat.not_lt_zero _))
 simpa using this
def xI (b:UInt8):Prop:=97≤b.toNat∧b.toNat≤122
def l8 (b:UInt8):Prop:=xI b∨(48≤b.toNat∧b.toNat≤57)∨b.toNat=45
def al (s:List UInt8):Prop:=(∀ k,k<s.length→xI (s.getD k 0))∧1≤s.length∧s.length≤3
def Bk (s:List UInt8):Prop:=∀ k,k<s.length→l8 (s.getD k 0)
def eI (s:List UInt8):Prop:=Bk s∧s.length≤4
structure zQ (v:Val):Prop where
 lo:-999≤v.n
 hi:v.n≤999
 text:v.text=[]
def ValOK (v:Val):Prop:=(v.kind=0∧v=⟨0,0,[]⟩)∨(v.kind=1∧zQ v)∨(v.kind=2∧v.n=0∧eI v.text)
theorem ae {α:Type}{l:List α}{k:Nat}{d:α}(h:k<l.length):l.getD k d=l[k]:=by simp [List.getD_eq_getElem?_getD,h]
theorem inR {k n:Nat}(h:k<n):(decide (0≤(k:Int))&&decide ((k:Int) < (n:Int)))=true:=by
 simp;exact h
theorem ltR {k n:Nat}(h:k<n):decide ((k:Int) < (n:Int))=true:=by simp;exact h
theorem ge0 (k:Nat):decide (0≤(k:Int))=true:=by simp
theorem nlt (n:Nat):decide ((n:Int) < (n:Int))=false:=by simp
theorem AG {fu:Nat}{s:List UInt8}(hs:s.length<fu)(hB:s.length≤BIG):pi fu s=some (B (al s)):=by
 unfold pi al
 refine d8 (L:=eb s) (fun k=>xI (s.getD k 0)) (1≤s.length∧s.length≤3) hB (fun n h=>?_) (fun n h=>?_) (fun n k hk hp=>?_) (fun n k hk hp=>?_) hs
 all_goals rw [eb]
 all_goals simp only [nT,nS,xI] at *
 all_goals grind
theorem AD {fu:Nat}{s:List UInt8}(hs:s.length<fu)(hB:s.length≤BIG):CU fu s=some (B (eI s)):=by
 unfold CU eI
 unfold Bk
 refine d8 (L:=db s) (fun k=>l8 (s.getD k 0)) (s.length≤4) hB (fun n h=>?_) (fun n h=>?_) (fun n k hk hp=>?_) (fun n k hk hp=>?_) hs
 all_goals rw [db]
 all_goals simp only [eW,l8,xI] at *
 all_goals grind
theorem AI {fu:Nat}{s:List UInt8}(hs:s.length<fu)(hB:s.length≤BIG):mb fu s=some (B (al s)):=by
 unfold mb al
 refine d8 (L:=gN fu s) (fun k=>xI (s.getD k 0)) (1≤s.length∧s.length≤3) hB (fun n h=>?_) (fun n h=>?_) (fun n k hk hp=>?_) (fun n k hk hp=>?_) hs
 all_goals rw [gN]
 all_goals simp only [nU,f56,lF,xI] at *
 all_goals grind
theorem AL {fu:Nat}{v:Val}(hs:v.text.length<fu)(hB:v.text.length≤BIG):vI fu v=some (B (ValOK v)):=by
 unfold vI
 rw [AD hs hB]
 simp only [nZ,nY,Bz,lJ]
 by_cases h:ValOK v
 ·rw [B_t h]
  unfold ValOK at h
  by_cases ht:eI v.text
  ·rw [B_t ht];grind [zQ]
  ·rw [B_f ht];grind [zQ]
 ·rw [B_f h]
  unfold ValOK at h
  by_cases ht:eI v.text
  ·rw [B_t ht];grind [zQ]
  ·rw [B_f ht];grind [zQ]
theorem CN {fu:Nat}{v:Val}(hs:v.text.length<fu)(hB:v.text.length≤BIG):f25 fu v=some (B (ValOK v)):=by
 have hl:dg v fu 0=some (B ((∀ k,k<v.text.length→l8 (v.text.getD k 0))∧(v.n=0∧v.text.length≤4))):=by
  refine d8 (L:=dg v) (fun k=>l8 (v.text.getD k 0)) (v.n=0∧v.text.length≤4) hB (fun n h=>?_) (fun n h=>?_) (fun n k hk hp=>?_) (fun n k hk hp=>?_) hs
  all_goals rw [dg]
  all_goals simp only [iq,si,l8,xI] at *
  all_goals grind
 unfold f25
 rw [hl]
 simp only [sj,f56,lF]
 have h2:((∀ k,k<v.text.length→l8 (v.text.getD k 0))∧(v.n=0∧v.text.length≤4))↔(v.n=0∧eI v.text):=by
  unfold eI Bk
  exact ⟨fun h=>⟨h.2.1,h.1,h.2.2⟩,fun h=>⟨h.2.1,h.1,h.2.2⟩⟩
 rw [ai h2]
 by_cases h:ValOK v
 ·rw [B_t h]
  unfold ValOK at h
  by_cases ht:eI v.text<;>by_cases hn:v.n=0<;>simp only [ht,hn,and_self,and_true,and_false,true_and,false_and,B_t,B_f,not_false_eq_true] at h ⊢<;>grind [zQ]
 ·rw [B_f h]
  unfold ValOK at h
  by_cases ht:eI v.text<;>by_cases hn:v.n=0<;>simp only [ht,hn,and_self,and_true,and_false,true_and,false_and,B_t,B_f,not_false_eq_true] at h ⊢<;>grind [zQ]
abbrev SmV (v:Val):Prop:=v.text.length≤1000
structure SmC (c:Col):Prop where
 name:c.name.length≤1000
 def_:SmV c.def_
structure SmS (s:List Col):Prop where
 len:s.length≤1000
 all:∀ c,c∈s→SmC c
def Dz (v:Val)(k:Int):Prop:=v.kind=0∨v.kind=k
structure dG (c:Col):Prop where
 name:al c.name
 kind:c.kind=1∨c.kind=2
 def_:ValOK c.def_
 fits:Dz c.def_ c.kind
 once:c.once=true→c.def_.kind=0
theorem pM {c:Col}:dG c↔al c.name∧(c.kind=1∨c.kind=2)∧ValOK c.def_∧(c.def_.kind=0∨c.def_.kind=c.kind)∧(c.once=true→c.def_.kind=0):=⟨fun h=>⟨h.1,h.2,h.3,h.4,h.5⟩,fun h=>⟨h.1,h.2.1,h.2.2.1,h.2.2.2.1,h.2.2.2.2⟩⟩
variable {fu:Nat}
theorem d9 {s:List UInt8}(hf:BIG≤fu)(hs:s.length≤1000):pi fu s=some (B (al s)):=AG (by unfold BIG at hf;omega) (by unfold BIG;omega)
theorem ef {s:List UInt8}(hf:BIG≤fu)(hs:s.length≤1000):mb fu s=some (B (al s)):=AI (by unfold BIG at hf;omega) (by unfold BIG;omega)
theorem jx {v:Val}(hf:BIG≤fu)(hs:SmV v):vI fu v=some (B (ValOK v)):=AL (by unfold BIG at hf;omega) (by unfold BIG;omega)
theorem lI {v:Val}(hf:BIG≤fu)(hs:SmV v):f25 fu v=some (B (ValOK v)):=CN (by unfold BIG at hf;omega) (by unfold BIG;omega)
theorem lL {c:Col}(hf:BIG≤fu)(hs:SmC c):AN fu c=some (B (dG c)):=by
 unfold AN
 rw [d9 hf hs.1,jx hf hs.2]
 simp only [bK]
 rw [ai pM]
 by_cases h1:al c.name<;>by_cases h2:ValOK c.def_<;>simp only [B_t,B_f,h1,h2,true_and,false_and,and_false,bs,ct,cf,not_false_eq_true]
 ·by_cases h:(c.kind=1∨c.kind=2)∧(c.def_.kind=0∨c.def_.kind=c.kind)∧(c.once=true→c.def_.kind=0)
  ·rw [B_t h];grind
  ·rw [B_f h];grind
 ·grind
theorem jN {a lo hi:Int}:f56 fu a lo hi=some (B (lo≤a∧a≤hi)):=by
 simp only [f56,lF]
 by_cases h1:lo≤a<;>by_cases h2:a≤hi<;>simp [h1,h2,B_t,B_f]
theorem rT {v:Val}{k:Int}:f92 fu v k=some (B (v.kind=0∨v.kind=k)):=by
 simp only [f92,rS]
 by_cases h1:v.kind=0
 ·simp [h1,B_t]
 ·by_cases h2:v.kind=k
  ·rw [B_t (.inr h2)];simp [h1,h2]
  ·rw [B_f (fun h=>h.elim h1 h2)];simp [h1,h2]
theorem og {c:Col}(hf:BIG≤fu)(hs:SmC c):AT fu c=some (B (dG c)):=by
 unfold AT
 rw [ef hf hs.1,lI hf hs.2,jN,rT]
 have hk:(1≤c.kind∧c.kind≤2)↔(c.kind=1∨c.kind=2):=by omega
 rw [ai pM,ai hk]
 simp only [fM,bY,zS,rl,zT,bM]
 cases B (al c.name)<;>cases B (ValOK c.def_)<;>cases B (c.kind=1)<;>cases B (c.kind=2)<;>cases B (c.def_.kind=0)<;>cases B (c.def_.kind=c.kind)<;>cases c.once<;>rfl
def atN (s:List Col)(nm:List UInt8):Nat:=s.findIdx fun c=>decide (c.name=nm)
def atI (s:List Col)(nm:List UInt8):Int:=if atN s nm<s.length then (atN s nm:Int) else -1
theorem fL {s:List Col}{nm:List UInt8}(hf:BIG≤fu)(hs:s.length≤1000):f108 fu s nm=some (atI s nm):=by
 unfold f108 atI atN
 refine l9 (L:=gQ s nm) s (fun c=>decide (c.name=nm)) (by unfold BIG;omega) (fun n=>?_) (fun n k hk hp=>?_) (fun n k hk hp=>?_) (by unfold BIG at hf;omega)
 all_goals rw [gQ]
 all_goals grind
theorem mN {s:List Col}{nm:List UInt8}(hf:BIG≤fu)(hs:s.length≤1000):f68 fu s nm=some (atI s nm):=by
 unfold f68 BG
 have:eo s (fun x0=>AS x0 nm) fu 0=some (atI s nm):=by
  unfold atI atN
  refine l9 (L:=eo s (fun x0=>AS x0 nm)) s (fun c=>decide (c.name=nm)) (by unfold BIG;omega) (fun n=>?_) (fun n k hk hp=>?_) (fun n k hk hp=>?_) (by unfold BIG at hf;omega)
  all_goals rw [eo]
  all_goals simp only [AS]
  all_goals grind
 rw [this];rfl
structure ak (s:List Col):Prop where
 all:∀ k,k<s.length→dG (s.getD k default)∧atI s (s.getD k default).name=(k:Int)
 lo:1≤s.length
 hi:s.length≤5
theorem l4 {s:List Col}:ak s↔(∀ k,k<s.length→dG (s.getD k default)∧atI s (s.getD k default).name=(k:Int))∧(1≤s.length∧s.length≤5):=⟨fun h=>⟨h.1,h.2,h.3⟩,fun h=>⟨h.1,h.2.1,h.2.2⟩⟩
theorem SmS.get {s:List Col}(h:SmS s){k:Nat}(hk:k<s.length):SmC (s.getD k default):=by
 rw [ae hk];exact h.all _ (List.getElem_mem hk)
theorem lB {s:List Col}(hf:BIG≤fu)(hs:SmS s):f86 fu s=some (B (ak s)):=by
 unfold f86
 rw [ai l4]
 have hl:=hs.len
 refine d8 (L:=gE fu s) _ _ (by unfold BIG;omega) (fun n h=>?_) (fun n h=>?_) (fun n k hk hp=>?_) (fun n k hk hp=>?_) (by unfold BIG at hf;omega)
 all_goals rw [gE]
 all_goals simp only [rX,rW,fL hf hl]
 ·grind
 ·grind
 ·rw [lL hf (hs.get (by grind)),B_t (by grind)];grind
 ·rw [lL hf (hs.get (by grind))]
  by_cases h:dG (s.getD k default)
  ·rw [B_t (by grind)];grind
  ·rw [B_f (by grind)];grind
theorem r9 {s:List Col}(hf:BIG≤fu)(hs:SmS s):f67 fu s=some (B (ak s)):=by
 unfold f67
 rw [ai l4]
 have hl:=hs.len
 refine d8 (L:=lC fu s) _ _ (by unfold BIG;omega) (fun n h=>?_) (fun n h=>?_) (fun n k hk hp=>?_) (fun n k hk hp=>?_) (by unfold BIG at hf;omega)
 all_goals rw [lC]
 all_goals simp only [r8,mN hf hl,f56,lF]
 ·grind
 ·grind
 ·rw [og hf (hs.get (by grind)),B_t (by grind)];grind
 ·rw [og hf (hs.get (by grind))]
  by_cases h:dG (s.getD k default)
  ·rw [B_t (by grind)];grind
  ·rw [B_f (by grind)];grind
end Go.Proofs.YtganfdhmkdehlaaGreatDoor
