/- The program's types, read as Lean's, and what its tables say of them. -/
import Derived.Test.YtdpigighgmipfaaGreatDoorQ1005HL
import Derived.Test.YtdpigighgmipfaaGreatDoorProg
import Derived.KernelRfl
set_option linter.all false
namespace Go.HL
theorem z {α:Sort _}{a:α}:a=a:=rfl
abbrev Nm (P:Go.Program)(i:Nat):Prop:=∃ fn c, P.funcs[i]? = some fn∧(fn.name == "runtime.NumGoroutine") = false∧fn.body = some c
theorem Steps.k {P e B arr S0 E o l d Q E'}(f:∀ {Kp:Unit→Go.Act→Go.World→Prop} {S:List (Nat×Ent)} {A:List Own},B A→Ext (preE E o++S0) S→WO P e Kp arr [] ⟨(d,Q)::S,A⟩ (some ())→WO P e Kp arr [o] ⟨S,A⟩ (some ()))(t:Steps P e B arr S0 E l E'):Steps P e B arr S0 E (o::l) (some (d,Q)::E'):=.cons (fun _ _ _ p e=>f p e) t
theorem W.cd {P f e}{ρ:Type}{R:ρ→Go.Value→Go.World→Prop}{k K}{c:Go.Operand}{x y:Go.Code}{b:Bool}{ov:Option Go.Value}{r1 r2:Option ρ}(hc:opVA K.S c=some (isB b,ov))(h1:W P f e R (.code x::k) K r1)(h2:W P f e R (.code y::k) K r2):W P f e R (.code (.cond c x y)::k) K (_root_.cond b r1 r2):=W.cond hc (fun _=>h1) (fun _=>h2)
theorem Steps.j {P e B arr S0 E o l d Q E'}(f:∀ {Kp:Unit→Go.Act→Go.World→Prop} {S:List (Nat×Ent)} {A:List Own},(∀ {x:Go.Operand} {Q:Ent},opVA (preE E o++S0) x=some Q→opVA S x=some Q)→WO P e Kp arr [] ⟨(d,Q)::S,A⟩ (some ())→WO P e Kp arr [o] ⟨S,A⟩ (some ()))(t:Steps P e B arr S0 E l E'):Steps P e B arr S0 E (o::l) (some (d,Q)::E'):=.cons (fun _ _ _ _ e=>f (e.op ·)) t
theorem Steps.f {P e B arr S0 E}{j dj:Nat}{op:Go.Op}{l d E'}{ty:Go.TypeId}{pos:String}{af:Array Go.Edge}{b:Bool}{ov:Option Go.Value}(hj:(arr[j]?).bind (·.dst)=some dj)(hb:look (preE E { dst:=some d,op:=op,type:=ty,pos:=pos,after:=af,guard:=some (j,b) }++S0) dj=some (isB !b,ov))(hd:Nat.ble (d+1) e.N=true)(t:Steps P e B arr S0 E l E'):Steps P e B arr S0 E ({ dst:=some d,op:=op,type:=ty,pos:=pos,after:=af,guard:=some (j,b) }::l) (some (d,(isV undef,none))::E'):=.cons (fun _ _ _ _ e=>.off hj (e _ _ hb) hd) t
theorem WO.an {P e}{ρ:Type}{f k}{R:ρ→Go.Value→Go.World→Prop}{arr:Array Oper}{S B r d}{ty:Go.TypeId}{pos:String}{af:Array Go.Edge}{x:Go.Operand}{Q:Ent}(hx:opVA S x=some Q)(hd:Nat.ble (d+1) e.N=true)(h:W P f e R k ⟨(d,Q)::S,B⟩ r):WO P e (fun x a w=>Run P f k a w (R x)) arr [mkOp d (.assign x) ty pos af] ⟨S,B⟩ r:=.a hx hd (.nil h)
theorem _root_.List.Sublist.c {α:Type _}{l m:List α}{a:α}(h:l.Sublist m):l.Sublist (a::m):=.cons a h
theorem _root_.List.Sublist.d {α:Type _}{l m:List α}{a:α}(h:l.Sublist m):(a::l).Sublist (a::m):=.cons_cons a h
theorem _root_.List.Sublist.e {α:Type _}:List.Sublist (α:=α) [] []:=.slnil
theorem W.s {P e}{ρ:Type}{f k}{R:ρ→Go.Value→Go.World→Prop}{K r}{id:Nat}{ops:Array Oper}{y:Go.Code}(h:WO P e (fun x a w=>Run P f (.code y::k) a w (R x)) ops ops.toList K r):W P f e R (.code (.seq (.region id ops false) y)::k) K r:=.seq (.g h)
end Go.HL
namespace Go.Proofs.YtdpigighgmipfaaGreatDoor
open Go Go.HL
structure Val where
  kind:Int
  n:Int
  text:List UInt8
  deriving DecidableEq,Inhabited
def tVal:Ty Val:=((tI .i64).x ((tI .i64).x tS)).iso fun d=>(d.kind,d.n,d.text)
theorem fVal_0:Fld tVal 0 (tI .i64) (fun d=>d.kind) (fun d x=>{ d with kind:=x }):=Fld.iso Fld.fst fun _ _=>rfl
theorem fVal_1:Fld tVal 1 (tI .i64) (fun d=>d.n) (fun d x=>{ d with n:=x }):=Fld.iso (Fld.snd Fld.fst) fun _ _=>rfl
theorem fVal_2:Fld tVal 2 tS (fun d=>d.text) (fun d x=>{ d with text:=x }):=Fld.iso (Fld.snd Fld.last) fun _ _=>rfl
structure Col where
  name:List UInt8
  kind:Int
  need:Bool
  once:Bool
  def_:Val
  deriving DecidableEq,Inhabited
def tCol:Ty Col:=(tS.x ((tI .i64).x (tB.x (tB.x tVal)))).iso fun d=>(d.name,d.kind,d.need,d.once,d.def_)
theorem fCol_0:Fld tCol 0 tS (fun d=>d.name) (fun d x=>{ d with name:=x }):=Fld.iso Fld.fst fun _ _=>rfl
theorem fCol_1:Fld tCol 1 (tI .i64) (fun d=>d.kind) (fun d x=>{ d with kind:=x }):=Fld.iso (Fld.snd Fld.fst) fun _ _=>rfl
theorem fCol_2:Fld tCol 2 tB (fun d=>d.need) (fun d x=>{ d with need:=x }):=Fld.iso (Fld.snd (Fld.snd Fld.fst)) fun _ _=>rfl
theorem fCol_3:Fld tCol 3 tB (fun d=>d.once) (fun d x=>{ d with once:=x }):=Fld.iso (Fld.snd (Fld.snd (Fld.snd Fld.fst))) fun _ _=>rfl
theorem fCol_4:Fld tCol 4 tVal (fun d=>d.def_) (fun d x=>{ d with def_:=x }):=Fld.iso (Fld.snd (Fld.snd (Fld.snd Fld.last))) fun _ _=>rfl
structure Change where
  kind:Int
  name:List UInt8
  new:List UInt8
  col:Col
  deriving DecidableEq,Inhabited
def tChange:Ty Change:=((tI .i64).x (tS.x (tS.x tCol))).iso fun d=>(d.kind,d.name,d.new,d.col)
theorem fChange_0:Fld tChange 0 (tI .i64) (fun d=>d.kind) (fun d x=>{ d with kind:=x }):=Fld.iso Fld.fst fun _ _=>rfl
theorem fChange_1:Fld tChange 1 tS (fun d=>d.name) (fun d x=>{ d with name:=x }):=Fld.iso (Fld.snd Fld.fst) fun _ _=>rfl
theorem fChange_2:Fld tChange 2 tS (fun d=>d.new) (fun d x=>{ d with new:=x }):=Fld.iso (Fld.snd (Fld.snd Fld.fst)) fun _ _=>rfl
theorem fChange_3:Fld tChange 3 tCol (fun d=>d.col) (fun d x=>{ d with col:=x }):=Fld.iso (Fld.snd (Fld.snd Fld.last)) fun _ _=>rfl
structure Row where
  id:Int
  ver:Int
  vals:List Val
  deriving DecidableEq,Inhabited
def tRow:Ty Row:=((tI .i64).x ((tI .i64).x (tL tVal))).iso fun d=>(d.id,d.ver,d.vals)
theorem fRow_0:Fld tRow 0 (tI .i64) (fun d=>d.id) (fun d x=>{ d with id:=x }):=Fld.iso Fld.fst fun _ _=>rfl
theorem fRow_1:Fld tRow 1 (tI .i64) (fun d=>d.ver) (fun d x=>{ d with ver:=x }):=Fld.iso (Fld.snd Fld.fst) fun _ _=>rfl
theorem fRow_2:Fld tRow 2 (tL tVal) (fun d=>d.vals) (fun d x=>{ d with vals:=x }):=Fld.iso (Fld.snd Fld.last) fun _ _=>rfl
structure Table where
  first:List Col
  changes:List Change
  rows:List Row
  next:Int
  deriving DecidableEq,Inhabited
def tTable:Ty Table:=((tL tCol).x ((tL tChange).x ((tL tRow).x (tI .i64)))).iso fun d=>(d.first,d.changes,d.rows,d.next)
theorem fTable_0:Fld tTable 0 (tL tCol) (fun d=>d.first) (fun d x=>{ d with first:=x }):=Fld.iso Fld.fst fun _ _=>rfl
theorem fTable_1:Fld tTable 1 (tL tChange) (fun d=>d.changes) (fun d x=>{ d with changes:=x }):=Fld.iso (Fld.snd Fld.fst) fun _ _=>rfl
theorem fTable_2:Fld tTable 2 (tL tRow) (fun d=>d.rows) (fun d x=>{ d with rows:=x }):=Fld.iso (Fld.snd (Fld.snd Fld.fst)) fun _ _=>rfl
theorem fTable_3:Fld tTable 3 (tI .i64) (fun d=>d.next) (fun d x=>{ d with next:=x }):=Fld.iso (Fld.snd (Fld.snd Fld.last)) fun _ _=>rfl
structure Tab where
  name:List UInt8
  table:Table
  deriving DecidableEq,Inhabited
def tTab:Ty Tab:=(tS.x tTable).iso fun d=>(d.name,d.table)
theorem fTab_0:Fld tTab 0 tS (fun d=>d.name) (fun d x=>{ d with name:=x }):=Fld.iso Fld.fst fun _ _=>rfl
theorem fTab_1:Fld tTab 1 tTable (fun d=>d.table) (fun d x=>{ d with table:=x }):=Fld.iso Fld.last fun _ _=>rfl
structure Link where
  from_:List UInt8
  col:List UInt8
  to:List UInt8
  how:Int
  deriving DecidableEq,Inhabited
def tLink:Ty Link:=(tS.x (tS.x (tS.x (tI .i64)))).iso fun d=>(d.from_,d.col,d.to,d.how)
theorem fLink_0:Fld tLink 0 tS (fun d=>d.from_) (fun d x=>{ d with from_:=x }):=Fld.iso Fld.fst fun _ _=>rfl
theorem fLink_1:Fld tLink 1 tS (fun d=>d.col) (fun d x=>{ d with col:=x }):=Fld.iso (Fld.snd Fld.fst) fun _ _=>rfl
theorem fLink_2:Fld tLink 2 tS (fun d=>d.to) (fun d x=>{ d with to:=x }):=Fld.iso (Fld.snd (Fld.snd Fld.fst)) fun _ _=>rfl
theorem fLink_3:Fld tLink 3 (tI .i64) (fun d=>d.how) (fun d x=>{ d with how:=x }):=Fld.iso (Fld.snd (Fld.snd Fld.last)) fun _ _=>rfl
structure Base where
  tabs:List Tab
  links:List Link
  deriving DecidableEq,Inhabited
def tBase:Ty Base:=((tL tTab).x (tL tLink)).iso fun d=>(d.tabs,d.links)
theorem fBase_0:Fld tBase 0 (tL tTab) (fun d=>d.tabs) (fun d x=>{ d with tabs:=x }):=Fld.iso Fld.fst fun _ _=>rfl
theorem fBase_1:Fld tBase 1 (tL tLink) (fun d=>d.links) (fun d x=>{ d with links:=x }):=Fld.iso Fld.last fun _ _=>rfl
structure Ref where
  name:List UInt8
  id:Int
  deriving DecidableEq,Inhabited
def tRef:Ty Ref:=(tS.x (tI .i64)).iso fun d=>(d.name,d.id)
theorem fRef_0:Fld tRef 0 tS (fun d=>d.name) (fun d x=>{ d with name:=x }):=Fld.iso Fld.fst fun _ _=>rfl
theorem fRef_1:Fld tRef 1 (tI .i64) (fun d=>d.id) (fun d x=>{ d with id:=x }):=Fld.iso Fld.last fun _ _=>rfl
structure Set where
  name:List UInt8
  val:Val
  deriving DecidableEq,Inhabited
def tSet:Ty Set:=(tS.x tVal).iso fun d=>(d.name,d.val)
theorem fSet_0:Fld tSet 0 tS (fun d=>d.name) (fun d x=>{ d with name:=x }):=Fld.iso Fld.fst fun _ _=>rfl
theorem fSet_1:Fld tSet 1 tVal (fun d=>d.val) (fun d x=>{ d with val:=x }):=Fld.iso Fld.last fun _ _=>rfl
structure Rd where
  b:List Int
  p:Int
  deriving DecidableEq,Inhabited
def tRd:Ty Rd:=((tL (tI .u8)).x (tI .i64)).iso fun d=>(d.b,d.p)
theorem fRd_0:Fld tRd 0 (tL (tI .u8)) (fun d=>d.b) (fun d x=>{ d with b:=x }):=Fld.iso Fld.fst fun _ _=>rfl
theorem fRd_1:Fld tRd 1 (tI .i64) (fun d=>d.p) (fun d x=>{ d with p:=x }):=Fld.iso Fld.last fun _ _=>rfl
structure BaseA where
  tabs:Value
  links:Value
def tBaseA:Ty BaseA:=(tRaw.x tRaw).iso fun d=>(d.tabs,d.links)
theorem fBaseA_0:Fld tBaseA 0 tRaw (fun d=>d.tabs) (fun d x=>{ d with tabs:=x }):=Fld.iso Fld.fst fun _ _=>rfl
theorem fBaseA_1:Fld tBaseA 1 tRaw (fun d=>d.links) (fun d x=>{ d with links:=x }):=Fld.iso Fld.last fun _ _=>rfl
structure BaseA1 where
  tabs:List Tab
  links:Value
def tBaseA1:Ty BaseA1:=((tL tTab).x tRaw).iso fun d=>(d.tabs,d.links)
structure TableA where
  first:List Col
  changes:Value×List Change
  rows:Value
  next:Int
def tTableA:Ty TableA:=((tL tCol).x ((tLk tChange).x (tRaw.x (tI .i64)))).iso fun d=>(d.first,d.changes,d.rows,d.next)
theorem fTableA_0:Fld tTableA 0 (tL tCol) (fun d=>d.first) (fun d x=>{ d with first:=x }):=Fld.iso Fld.fst fun _ _=>rfl
theorem fTableA_1:Fld tTableA 1 (tLk tChange) (fun d=>d.changes) (fun d x=>{ d with changes:=x }):=Fld.iso (Fld.snd Fld.fst) fun _ _=>rfl
theorem fTableA_2:Fld tTableA 2 tRaw (fun d=>d.rows) (fun d x=>{ d with rows:=x }):=Fld.iso (Fld.snd (Fld.snd Fld.fst)) fun _ _=>rfl
theorem fTableA_3:Fld tTableA 3 (tI .i64) (fun d=>d.next) (fun d x=>{ d with next:=x }):=Fld.iso (Fld.snd (Fld.snd Fld.last)) fun _ _=>rfl
abbrev d0_4:Bool:=false
abbrev d0_1026:Base:=⟨[],[]⟩
abbrev d0_27:Table:=⟨[],[],[],0⟩
abbrev d0_1039:Tab:=⟨[],⟨[],[],[],0⟩⟩
abbrev d0_1044:Link:=⟨[],[],[],0⟩
abbrev d0_1055:Ref:=⟨[],0⟩
abbrev d0_47:Val:=⟨0,0,[]⟩
abbrev d0_52:Col:=⟨[],0,false,false,⟨0,0,[]⟩⟩
abbrev d0_56:Change:=⟨0,[],[],⟨[],0,false,false,⟨0,0,[]⟩⟩⟩
abbrev d0_37:Row:=⟨0,0,[]⟩
abbrev d0_49:Set:=⟨[],⟨0,0,[]⟩⟩
abbrev d0_107:Rd:=⟨[],0⟩
theorem mix:Tryz.prog.follows .mixedOrders=true:=by kernel_rfl
theorem el49:ElAt Tryz.prog 122 4:=⟨by kernel_rfl⟩
theorem el3:ElAt Tryz.prog 3 1:=⟨by kernel_rfl⟩
theorem el1039:ElAt Tryz.prog 39 5:=⟨by kernel_rfl⟩
theorem el1044:ElAt Tryz.prog 44 4:=⟨by kernel_rfl⟩
theorem el5:ElAt Tryz.prog 5 1:=⟨by kernel_rfl⟩
theorem el1055:ElAt Tryz.prog 55 2:=⟨by kernel_rfl⟩
theorem el47:ElAt Tryz.prog 57 3:=⟨by kernel_rfl⟩
theorem el52:ElAt Tryz.prog 59 7:=⟨by kernel_rfl⟩
theorem el56:ElAt Tryz.prog 61 10:=⟨by kernel_rfl⟩
theorem el32:ElAt Tryz.prog 76 1:=⟨by kernel_rfl⟩
theorem el37:ElAt Tryz.prog 80 3:=⟨by kernel_rfl⟩
theorem el9:ElAt Tryz.prog 9 1:=⟨by kernel_rfl⟩
theorem fa49_0:FldAt Tryz.prog 122 0 0:=⟨by kernel_rfl,by kernel_rfl⟩
theorem fa49_1:FldAt Tryz.prog 122 1 1:=⟨by kernel_rfl,by kernel_rfl⟩
theorem fa107_0:FldAt Tryz.prog 140 0 0:=⟨by kernel_rfl,by kernel_rfl⟩
theorem fa107_1:FldAt Tryz.prog 140 1 1:=⟨by kernel_rfl,by kernel_rfl⟩
theorem fa1026_0:FldAt Tryz.prog 26 0 0:=⟨by kernel_rfl,by kernel_rfl⟩
theorem fa1026_1:FldAt Tryz.prog 26 1 1:=⟨by kernel_rfl,by kernel_rfl⟩
theorem fa27_0:FldAt Tryz.prog 37 0 0:=⟨by kernel_rfl,by kernel_rfl⟩
theorem fa27_1:FldAt Tryz.prog 37 1 1:=⟨by kernel_rfl,by kernel_rfl⟩
theorem fa27_2:FldAt Tryz.prog 37 2 2:=⟨by kernel_rfl,by kernel_rfl⟩
theorem fa27_3:FldAt Tryz.prog 37 3 3:=⟨by kernel_rfl,by kernel_rfl⟩
theorem fa1039_0:FldAt Tryz.prog 39 0 0:=⟨by kernel_rfl,by kernel_rfl⟩
theorem fa1039_1:FldAt Tryz.prog 39 1 1:=⟨by kernel_rfl,by kernel_rfl⟩
theorem fa1044_0:FldAt Tryz.prog 44 0 0:=⟨by kernel_rfl,by kernel_rfl⟩
theorem fa1044_1:FldAt Tryz.prog 44 1 1:=⟨by kernel_rfl,by kernel_rfl⟩
theorem fa1044_2:FldAt Tryz.prog 44 2 2:=⟨by kernel_rfl,by kernel_rfl⟩
theorem fa1044_3:FldAt Tryz.prog 44 3 3:=⟨by kernel_rfl,by kernel_rfl⟩
theorem fa1055_0:FldAt Tryz.prog 55 0 0:=⟨by kernel_rfl,by kernel_rfl⟩
theorem fa1055_1:FldAt Tryz.prog 55 1 1:=⟨by kernel_rfl,by kernel_rfl⟩
theorem fa47_0:FldAt Tryz.prog 57 0 0:=⟨by kernel_rfl,by kernel_rfl⟩
theorem fa47_1:FldAt Tryz.prog 57 1 1:=⟨by kernel_rfl,by kernel_rfl⟩
theorem fa47_2:FldAt Tryz.prog 57 2 2:=⟨by kernel_rfl,by kernel_rfl⟩
theorem fa52_0:FldAt Tryz.prog 59 0 0:=⟨by kernel_rfl,by kernel_rfl⟩
theorem fa52_1:FldAt Tryz.prog 59 1 1:=⟨by kernel_rfl,by kernel_rfl⟩
theorem fa52_2:FldAt Tryz.prog 59 2 2:=⟨by kernel_rfl,by kernel_rfl⟩
theorem fa52_3:FldAt Tryz.prog 59 3 3:=⟨by kernel_rfl,by kernel_rfl⟩
theorem fa52_4:FldAt Tryz.prog 59 4 4:=⟨by kernel_rfl,by kernel_rfl⟩
theorem fa56_0:FldAt Tryz.prog 61 0 0:=⟨by kernel_rfl,by kernel_rfl⟩
theorem fa56_1:FldAt Tryz.prog 61 1 1:=⟨by kernel_rfl,by kernel_rfl⟩
theorem fa56_2:FldAt Tryz.prog 61 2 2:=⟨by kernel_rfl,by kernel_rfl⟩
theorem fa56_3:FldAt Tryz.prog 61 3 3:=⟨by kernel_rfl,by kernel_rfl⟩
theorem fa37_0:FldAt Tryz.prog 80 0 0:=⟨by kernel_rfl,by kernel_rfl⟩
theorem fa37_1:FldAt Tryz.prog 80 1 1:=⟨by kernel_rfl,by kernel_rfl⟩
theorem fa37_2:FldAt Tryz.prog 80 2 2:=⟨by kernel_rfl,by kernel_rfl⟩
theorem st49:StAt Tryz.prog 122 [(0,1),(1,3)]:=⟨by kernel_rfl⟩
theorem st107:StAt Tryz.prog 140 [(0,1),(1,1)]:=⟨by kernel_rfl⟩
theorem st1026:StAt Tryz.prog 26 [(0,1),(1,1)]:=⟨by kernel_rfl⟩
theorem st27:StAt Tryz.prog 37 [(0,1),(1,1),(2,1),(3,1)]:=⟨by kernel_rfl⟩
theorem st1039:StAt Tryz.prog 39 [(0,1),(1,4)]:=⟨by kernel_rfl⟩
theorem st1044:StAt Tryz.prog 44 [(0,1),(1,1),(2,1),(3,1)]:=⟨by kernel_rfl⟩
theorem st1055:StAt Tryz.prog 55 [(0,1),(1,1)]:=⟨by kernel_rfl⟩
theorem st47:StAt Tryz.prog 57 [(0,1),(1,1),(2,1)]:=⟨by kernel_rfl⟩
theorem st52:StAt Tryz.prog 59 [(0,1),(1,1),(2,1),(3,1),(4,3)]:=⟨by kernel_rfl⟩
theorem st56:StAt Tryz.prog 61 [(0,1),(1,1),(2,1),(3,7)]:=⟨by kernel_rfl⟩
theorem st37:StAt Tryz.prog 80 [(0,1),(1,1),(2,1)]:=⟨by kernel_rfl⟩
theorem ty49:TyAt Tryz.prog 122 4 true:=⟨by kernel_rfl,by kernel_rfl⟩
theorem ty22:TyAt Tryz.prog 22 1 false:=⟨by kernel_rfl,by kernel_rfl⟩
theorem ty1023:TyAt Tryz.prog 23 1 false:=⟨by kernel_rfl,by kernel_rfl⟩
theorem ty1024:TyAt Tryz.prog 24 1 false:=⟨by kernel_rfl,by kernel_rfl⟩
theorem ty1026:TyAt Tryz.prog 26 2 true:=⟨by kernel_rfl,by kernel_rfl⟩
theorem ty23:TyAt Tryz.prog 27 1 false:=⟨by kernel_rfl,by kernel_rfl⟩
theorem ty3:TyAt Tryz.prog 3 1 false:=⟨by kernel_rfl,by kernel_rfl⟩
theorem ty24:TyAt Tryz.prog 34 1 false:=⟨by kernel_rfl,by kernel_rfl⟩
theorem ty25:TyAt Tryz.prog 35 1 false:=⟨by kernel_rfl,by kernel_rfl⟩
theorem ty27:TyAt Tryz.prog 37 4 true:=⟨by kernel_rfl,by kernel_rfl⟩
theorem ty1039:TyAt Tryz.prog 39 5 true:=⟨by kernel_rfl,by kernel_rfl⟩
theorem ty4:TyAt Tryz.prog 4 1 false:=⟨by kernel_rfl,by kernel_rfl⟩
theorem ty1044:TyAt Tryz.prog 44 4 true:=⟨by kernel_rfl,by kernel_rfl⟩
theorem ty5:TyAt Tryz.prog 5 1 false:=⟨by kernel_rfl,by kernel_rfl⟩
theorem ty1055:TyAt Tryz.prog 55 2 true:=⟨by kernel_rfl,by kernel_rfl⟩
theorem ty47:TyAt Tryz.prog 57 3 true:=⟨by kernel_rfl,by kernel_rfl⟩
theorem ty52:TyAt Tryz.prog 59 7 true:=⟨by kernel_rfl,by kernel_rfl⟩
theorem ty56:TyAt Tryz.prog 61 10 true:=⟨by kernel_rfl,by kernel_rfl⟩
theorem ty32:TyAt Tryz.prog 76 1 false:=⟨by kernel_rfl,by kernel_rfl⟩
theorem ty37:TyAt Tryz.prog 80 3 true:=⟨by kernel_rfl,by kernel_rfl⟩
theorem ty9:TyAt Tryz.prog 9 1 false:=⟨by kernel_rfl,by kernel_rfl⟩
theorem z49:ZeroAt Tryz.prog 122 tSet d0_49 []:=⟨(.agg #[.string ⟨#[]⟩,.int .i64 0,.int .i64 0,.string ⟨#[]⟩]),by kernel_rfl,fun A w=>⟨[.string ⟨#[]⟩],[.int .i64 0,.int .i64 0,.string ⟨#[]⟩],rfl,rfl,⟨[.int .i64 0],[.int .i64 0,.string ⟨#[]⟩],rfl,rfl,⟨[.int .i64 0],[.string ⟨#[]⟩],rfl,rfl,rfl⟩⟩⟩,fun _ h=>nomatch h⟩
theorem z107:ZeroAt Tryz.prog 140 tRd d0_107 []:=⟨(.agg #[.slice none 0 0,.int .i64 0]),by kernel_rfl,fun A w=>⟨[.slice none 0 0],[.int .i64 0],rfl,⟨_,rfl,slRel_nil _ _ _⟩,rfl⟩,fun _ h=>nomatch h⟩
theorem z1026:ZeroAt Tryz.prog 26 tBase d0_1026 []:=⟨(.agg #[.slice none 0 0,.slice none 0 0]),by kernel_rfl,fun A w=>⟨[.slice none 0 0],[.slice none 0 0],rfl,⟨_,rfl,slRel_nil _ _ _⟩,⟨_,rfl,slRel_nil _ _ _⟩⟩,fun _ h=>nomatch h⟩
theorem z27:ZeroAt Tryz.prog 37 tTable d0_27 []:=⟨(.agg #[.slice none 0 0,.slice none 0 0,.slice none 0 0,.int .i64 0]),by kernel_rfl,fun A w=>⟨[.slice none 0 0],[.slice none 0 0,.slice none 0 0,.int .i64 0],rfl,⟨_,rfl,slRel_nil _ _ _⟩,⟨[.slice none 0 0],[.slice none 0 0,.int .i64 0],rfl,⟨_,rfl,slRel_nil _ _ _⟩,⟨[.slice none 0 0],[.int .i64 0],rfl,⟨_,rfl,slRel_nil _ _ _⟩,rfl⟩⟩⟩,fun _ h=>nomatch h⟩
theorem z1039:ZeroAt Tryz.prog 39 tTab d0_1039 []:=⟨(.agg #[.string ⟨#[]⟩,.slice none 0 0,.slice none 0 0,.slice none 0 0,.int .i64 0]),by kernel_rfl,fun A w=>⟨[.string ⟨#[]⟩],[.slice none 0 0,.slice none 0 0,.slice none 0 0,.int .i64 0],rfl,rfl,⟨[.slice none 0 0],[.slice none 0 0,.slice none 0 0,.int .i64 0],rfl,⟨_,rfl,slRel_nil _ _ _⟩,⟨[.slice none 0 0],[.slice none 0 0,.int .i64 0],rfl,⟨_,rfl,slRel_nil _ _ _⟩,⟨[.slice none 0 0],[.int .i64 0],rfl,⟨_,rfl,slRel_nil _ _ _⟩,rfl⟩⟩⟩⟩,fun _ h=>nomatch h⟩
theorem z4:ZeroAt Tryz.prog 4 tB d0_4 []:=⟨.bool false,by kernel_rfl,fun A w=>rfl,fun _ h=>nomatch h⟩
theorem z1044:ZeroAt Tryz.prog 44 tLink d0_1044 []:=⟨(.agg #[.string ⟨#[]⟩,.string ⟨#[]⟩,.string ⟨#[]⟩,.int .i64 0]),by kernel_rfl,fun A w=>⟨[.string ⟨#[]⟩],[.string ⟨#[]⟩,.string ⟨#[]⟩,.int .i64 0],rfl,rfl,⟨[.string ⟨#[]⟩],[.string ⟨#[]⟩,.int .i64 0],rfl,rfl,⟨[.string ⟨#[]⟩],[.int .i64 0],rfl,rfl,rfl⟩⟩⟩,fun _ h=>nomatch h⟩
theorem z1055:ZeroAt Tryz.prog 55 tRef d0_1055 []:=⟨(.agg #[.string ⟨#[]⟩,.int .i64 0]),by kernel_rfl,fun A w=>⟨[.string ⟨#[]⟩],[.int .i64 0],rfl,rfl,rfl⟩,fun _ h=>nomatch h⟩
theorem z47:ZeroAt Tryz.prog 57 tVal d0_47 []:=⟨(.agg #[.int .i64 0,.int .i64 0,.string ⟨#[]⟩]),by kernel_rfl,fun A w=>⟨[.int .i64 0],[.int .i64 0,.string ⟨#[]⟩],rfl,rfl,⟨[.int .i64 0],[.string ⟨#[]⟩],rfl,rfl,rfl⟩⟩,fun _ h=>nomatch h⟩
theorem z52:ZeroAt Tryz.prog 59 tCol d0_52 []:=⟨(.agg #[.string ⟨#[]⟩,.int .i64 0,.bool false,.bool false,.int .i64 0,.int .i64 0,.string ⟨#[]⟩]),by kernel_rfl,fun A w=>⟨[.string ⟨#[]⟩],[.int .i64 0,.bool false,.bool false,.int .i64 0,.int .i64 0,.string ⟨#[]⟩],rfl,rfl,⟨[.int .i64 0],[.bool false,.bool false,.int .i64 0,.int .i64 0,.string ⟨#[]⟩],rfl,rfl,⟨[.bool false],[.bool false,.int .i64 0,.int .i64 0,.string ⟨#[]⟩],rfl,rfl,⟨[.bool false],[.int .i64 0,.int .i64 0,.string ⟨#[]⟩],rfl,rfl,⟨[.int .i64 0],[.int .i64 0,.string ⟨#[]⟩],rfl,rfl,⟨[.int .i64 0],[.string ⟨#[]⟩],rfl,rfl,rfl⟩⟩⟩⟩⟩⟩,fun _ h=>nomatch h⟩
theorem z56:ZeroAt Tryz.prog 61 tChange d0_56 []:=⟨(.agg #[.int .i64 0,.string ⟨#[]⟩,.string ⟨#[]⟩,.string ⟨#[]⟩,.int .i64 0,.bool false,.bool false,.int .i64 0,.int .i64 0,.string ⟨#[]⟩]),by kernel_rfl,fun A w=>⟨[.int .i64 0],[.string ⟨#[]⟩,.string ⟨#[]⟩,.string ⟨#[]⟩,.int .i64 0,.bool false,.bool false,.int .i64 0,.int .i64 0,.string ⟨#[]⟩],rfl,rfl,⟨[.string ⟨#[]⟩],[.string ⟨#[]⟩,.string ⟨#[]⟩,.int .i64 0,.bool false,.bool false,.int .i64 0,.int .i64 0,.string ⟨#[]⟩],rfl,rfl,⟨[.string ⟨#[]⟩],[.string ⟨#[]⟩,.int .i64 0,.bool false,.bool false,.int .i64 0,.int .i64 0,.string ⟨#[]⟩],rfl,rfl,⟨[.string ⟨#[]⟩],[.int .i64 0,.bool false,.bool false,.int .i64 0,.int .i64 0,.string ⟨#[]⟩],rfl,rfl,⟨[.int .i64 0],[.bool false,.bool false,.int .i64 0,.int .i64 0,.string ⟨#[]⟩],rfl,rfl,⟨[.bool false],[.bool false,.int .i64 0,.int .i64 0,.string ⟨#[]⟩],rfl,rfl,⟨[.bool false],[.int .i64 0,.int .i64 0,.string ⟨#[]⟩],rfl,rfl,⟨[.int .i64 0],[.int .i64 0,.string ⟨#[]⟩],rfl,rfl,⟨[.int .i64 0],[.string ⟨#[]⟩],rfl,rfl,rfl⟩⟩⟩⟩⟩⟩⟩⟩⟩,fun _ h=>nomatch h⟩
theorem z37:ZeroAt Tryz.prog 80 tRow d0_37 []:=⟨(.agg #[.int .i64 0,.int .i64 0,.slice none 0 0]),by kernel_rfl,fun A w=>⟨[.int .i64 0],[.int .i64 0,.slice none 0 0],rfl,rfl,⟨[.int .i64 0],[.slice none 0 0],rfl,rfl,⟨_,rfl,slRel_nil _ _ _⟩⟩⟩,fun _ h=>nomatch h⟩
abbrev d0A1026:BaseA:=⟨.slice none 0 0,.slice none 0 0⟩
theorem zA1026:ZeroAt Tryz.prog 26 tBaseA d0A1026 []:=⟨(.agg #[.slice none 0 0,.slice none 0 0]),by kernel_rfl,fun A w=>⟨[.slice none 0 0],[.slice none 0 0],rfl,⟨rfl,rfl⟩,⟨rfl,rfl⟩⟩,fun _ h=>nomatch h⟩
theorem conv1026_0 {tabs:List Tab}{tabs_:Value}{links_:Value}:Conv tBaseA ⟨tabs_,links_⟩ tTab tabs_ tabs tBaseA1 ⟨tabs,links_⟩:=⟨rfl,fun h hr=>by
  obtain ⟨_,_,rfl,h0,h1⟩:=h
  exact ⟨_,_,rfl,⟨_,h0.1,hr⟩,h1⟩⟩
theorem conv1026_1 {tabs:List Tab}{links:List Link}{links_:Value}:Conv tBaseA1 ⟨tabs,links_⟩ tLink links_ links tBase ⟨tabs,links⟩:=⟨rfl,fun h hr=>by
  obtain ⟨_,_,rfl,h0,h1⟩:=h
  exact ⟨_,_,rfl,h0,⟨_,h1.1,hr⟩⟩⟩
def baseV (v:Value):Value×Value:=(cellV 0 v,cellV 1 v)
theorem baseV_of  {tabs_:Value}{links_:Value}{v:Value}{A:Ar}{w:World}(h:(tBaseA.va ⟨tabs_,links_⟩).f v A w):baseV v=(tabs_,links_):=by
  obtain ⟨cs,rfl,h⟩:=h
  obtain ⟨_,_,rfl,h0,h1⟩:=h
  obtain ⟨rfl,-⟩:=h0
  obtain ⟨rfl,-⟩:=h1
  rfl
theorem plain1026 {P:Program}{g:FuncId}{vs:List VA}{O:List Own}{y:Option Base}(hf:CtrL P g vs O y baseV (fun q p=>[arrO tTab p.1 q.tabs,arrO tLink p.2 q.links]) (fun q p=>tBaseA.va ⟨p.1,p.2⟩)):Ctr P g vs O y (fun _ _=>[]) (fun q=>tBase.va q):=
  CtrL.toCtr (Q:=fun q=>tBase.va q) (CtrL.frz1 (T':=tBase) (d':=fun q _=>q) (CtrL.frz1 (d':=fun q p=>(⟨q.tabs,p.2⟩:BaseA1)) hf fun q p=>conv1026_0) fun q p=>conv1026_1)
abbrev d0A27:TableA:=⟨[],(.slice none 0 0,[]),.slice none 0 0,0⟩
theorem zA27:ZeroAt Tryz.prog 37 tTableA d0A27 []:=⟨(.agg #[.slice none 0 0,.slice none 0 0,.slice none 0 0,.int .i64 0]),by kernel_rfl,fun A w=>⟨[.slice none 0 0],[.slice none 0 0,.slice none 0 0,.int .i64 0],rfl,⟨_,rfl,slRel_nil _ _ _⟩,⟨[.slice none 0 0],[.slice none 0 0,.int .i64 0],rfl,⟨rfl,slRel_nil _ _ _⟩,⟨[.slice none 0 0],[.int .i64 0],rfl,⟨rfl,rfl⟩,rfl⟩⟩⟩,fun _ h=>nomatch h⟩
theorem conv27 {first:List Col}{changes:List Change}{rows:List Row}{next:Int}{rows_:Value}{changes_:Value}:Conv tTableA ⟨first,(changes_,changes),rows_,next⟩ tRow rows_ rows tTable ⟨first,changes,rows,next⟩:=⟨rfl,fun h hr=>by
  obtain ⟨_,_,rfl,h0,⟨_,_,rfl,h1,⟨_,_,rfl,h2,h3⟩⟩⟩:=h
  exact ⟨_,_,rfl,h0,⟨_,_,rfl,⟨_,h1.1,h1.2⟩,⟨_,_,rfl,⟨_,h2.1,hr⟩,h3⟩⟩⟩⟩
theorem convX27 {d:Table}:ConvX tTable d tTableA (fun p:Value×Value=>(⟨d.first,(p.2,d.changes),p.1,d.next⟩:TableA)):=⟨fun h=>by
  obtain ⟨_,_,rfl,h0,⟨_,_,rfl,⟨changes_,rfl,h1r⟩,⟨_,_,rfl,⟨rows_,rfl,h2r⟩,h3⟩⟩⟩:=h
  exact ⟨(rows_,changes_),⟨_,_,rfl,h0,⟨_,_,rfl,⟨rfl,h1r⟩,⟨_,_,rfl,⟨rfl,h2r.plain⟩,h3⟩⟩⟩⟩⟩
def tabV (v:Value):Value×Value:=(cellV 2 v,cellV 1 v)
theorem tabV_of {first:List Col}{changes:List Change}{next:Int}{rows_:Value}{changes_:Value}{v:Value}{A:Ar}{w:World}(h:(tTableA.va ⟨first,(changes_,changes),rows_,next⟩).f v A w):tabV v=(rows_,changes_):=by
  obtain ⟨cs,rfl,h⟩:=h
  obtain ⟨_,_,rfl,h0,⟨_,_,rfl,h1,⟨_,_,rfl,h2,h3⟩⟩⟩:=h
  obtain ⟨_,rfl,-⟩:=h0
  obtain ⟨rfl,-⟩:=h1
  obtain ⟨rfl,-⟩:=h2
  cases h3
  rfl
theorem plain27p {P:Program}{g:FuncId}{vs:List VA}{O:List Own}{y:Option (Table×Int)}(hf:CtrL P g vs O y (fun v=>tabV (tupV 0 v)) (fun q p=>[arrO tRow p.1 q.1.rows]) (fun q p=>tup [tTableA.va ⟨q.1.first,(p.2,q.1.changes),p.1,q.1.next⟩,isI .i64 q.2])):Ctr P g vs O y (fun _ _=>[]) (fun q=>tup [tTable.va q.1,isI .i64 q.2]):=CtrL.toCtr (Q:=fun (q:Table×Int)=>tup [tTable.va q.1,isI .i64 q.2]) (CtrL.frz1t (T':=tTable) (d':=fun q _=>q.1) hf fun q p=>conv27)
theorem plain27 {P:Program}{g:FuncId}{vs:List VA}{O:List Own}{y:Option Table}(hf:CtrL P g vs O y tabV (fun q p=>[arrO tRow p.1 q.rows]) (fun q p=>tTableA.va ⟨q.first,(p.2,q.changes),p.1,q.next⟩)):Ctr P g vs O y (fun _ _=>[]) (fun q=>tTable.va q):=CtrL.plainT hf fun q p=>conv27
theorem plain27t {P:Program}{g:FuncId}{vs:List VA}{O:List Own}{y:Option Table}(hf:CtrL P g vs O y tabV (fun q p=>[arrO tRow p.1 q.rows,appO 10 p.2]) (fun q p=>tTableA.va ⟨q.first,(p.2,q.changes),p.1,q.next⟩)):Ctr P g vs O y (fun _ _=>[]) (fun q=>tTable.va q):=CtrL.plainT (hf.sub fun q p=>.cons_cons _ (.cons _ .slnil)) fun q p=>conv27
theorem eqn9 (n:Nat)(a b:List UInt8)(w:World):(Op.equalIn (n+1) 9 (str a) (str b)).run Tryz.prog w=.ok (decide (a=b)) w:=by
  rw [Op.equalIn]
  have:((⟨a.toArray⟩:ByteArray) == ⟨b.toArray⟩)=decide (a=b):=by
    show (a.toArray == b.toArray)=_
    rw [beqD];simp
  simp [run_underlying Tryz.underlying9,str,this]
theorem isA9 (w:World):(isAgg 9).run Tryz.prog w=.ok false w:=by simp [isAgg,run_underlying Tryz.underlying9]
theorem eqn3 (n:Nat)(a b:Int)(w:World):(Op.equalIn (n+1) 3 (.int .i64 a) (.int .i64 b)).run Tryz.prog w=.ok (decide (a=b)) w:=by
  rw [Op.equalIn];simp [run_underlying Tryz.underlying3,beqD]
theorem isA3 (w:World):(isAgg 3).run Tryz.prog w=.ok false w:=by simp [isAgg,run_underlying Tryz.underlying3]
set_option linter.unusedSimpArgs false in
theorem eqn47 (n:Nat)(a b:Val)(c1 c2:List Value)(A:Ar)(w:World)(h:tVal.rel a c1 A w)(g:tVal.rel b c2 A w):(Op.equalIn (n+2) 57 (.agg c1.toArray) (.agg c2.toArray)).run Tryz.prog w=.ok (decide (a=b)) w:=by
  have stood:Tryz.prog.stoodInHeld 57=false:=by kernel_rfl
  obtain ⟨_,_,rfl,h3,⟨_,_,rfl,h2,h0⟩⟩:=h
  cases h3
  cases h2
  cases h0
  obtain ⟨_,_,rfl,g3,⟨_,_,rfl,g2,g0⟩⟩:=g
  cases g3
  cases g2
  cases g0
  rw [Op.equalIn]
  simp [run_underlying Tryz.underlying57,stood,part,eqn3,eqn9,isA3,isA9]
  have e:decide (a=b)=(decide (a.kind=b.kind)&&decide (a.n=b.n)&&decide (a.text=b.text)):=by cases a;cases b;simp [Bool.and_assoc]
  rw [e]
  by_cases e0:a.kind=b.kind<;>by_cases e1:a.n=b.n<;>by_cases e2:a.text=b.text<;>simp [e0,e1,e2]
theorem eq47:EqAt Tryz.prog 57 tVal:=⟨by kernel_rfl,rfl,fun a b c1 c2 A w h g=>eqn47 9998 a b c1 c2 A w h g⟩
theorem eqn4 (n:Nat)(a b:Bool)(w:World):(Op.equalIn (n+1) 4 (.bool a) (.bool b)).run Tryz.prog w=.ok (decide (a=b)) w:=by
  rw [Op.equalIn];simp [run_underlying Tryz.underlying4,beqD]
theorem isA4 (w:World):(isAgg 4).run Tryz.prog w=.ok false w:=by simp [isAgg,run_underlying Tryz.underlying4]
theorem isA47 (w:World):(isAgg 57).run Tryz.prog w=.ok true w:=by simp [isAgg,run_underlying Tryz.underlying57]
set_option linter.unusedSimpArgs false in
theorem eqn52 (n:Nat)(a b:Col)(c1 c2:List Value)(A:Ar)(w:World)(h:tCol.rel a c1 A w)(g:tCol.rel b c2 A w):(Op.equalIn (n+3) 59 (.agg c1.toArray) (.agg c2.toArray)).run Tryz.prog w=.ok (decide (a=b)) w:=by
  have stood:Tryz.prog.stoodInHeld 59=false:=by kernel_rfl
  obtain ⟨_,_,rfl,h5,⟨_,_,rfl,h4,⟨_,_,rfl,h3,⟨_,_,rfl,h2,h0⟩⟩⟩⟩:=h
  cases h5
  cases h4
  cases h3
  cases h2
  obtain ⟨_,_,rfl,g5,⟨_,_,rfl,g4,⟨_,_,rfl,g3,⟨_,_,rfl,g2,g0⟩⟩⟩⟩:=g
  cases g5
  cases g4
  cases g3
  cases g2
  have ph0:=tVal.len h0
  have pg0:=tVal.len g0
  have qh0:=fun n=>eqn47 n _ _ _ _ A w h0 g0
  have th0:=List.take_of_length_le (Nat.le_of_eq (show _=3 from tVal.len h0))
  have tg0:=List.take_of_length_le (Nat.le_of_eq (show _=3 from tVal.len g0))
  rw [Op.equalIn]
  simp [run_underlying Tryz.underlying59,stood,part,eqn3,eqn4,eqn9,isA3,isA4,isA9,isA47,(ty47).sizeOf,ph0,pg0]
  have e:decide (a=b)=(decide (a.name=b.name)&&decide (a.kind=b.kind)&&decide (a.need=b.need)&&decide (a.once=b.once)&&decide (a.def_=b.def_)):=by cases a;cases b;simp [Bool.and_assoc]
  rw [e]
  by_cases e0:a.name=b.name<;>by_cases e1:a.kind=b.kind<;>by_cases e2:a.need=b.need<;>by_cases e3:a.once=b.once<;>by_cases e4:a.def_=b.def_<;>simp [e0,e1,e2,e3,e4,qh0,th0,tg0]
theorem eq52:EqAt Tryz.prog 59 tCol:=⟨by kernel_rfl,rfl,fun a b c1 c2 A w h g=>eqn52 9997 a b c1 c2 A w h g⟩
theorem isA52 (w:World):(isAgg 59).run Tryz.prog w=.ok true w:=by simp [isAgg,run_underlying Tryz.underlying59]
set_option linter.unusedSimpArgs false in
theorem eqn56 (n:Nat)(a b:Change)(c1 c2:List Value)(A:Ar)(w:World)(h:tChange.rel a c1 A w)(g:tChange.rel b c2 A w):(Op.equalIn (n+4) 61 (.agg c1.toArray) (.agg c2.toArray)).run Tryz.prog w=.ok (decide (a=b)) w:=by
  have stood:Tryz.prog.stoodInHeld 61=false:=by kernel_rfl
  obtain ⟨_,_,rfl,h4,⟨_,_,rfl,h3,⟨_,_,rfl,h2,h0⟩⟩⟩:=h
  cases h4
  cases h3
  cases h2
  obtain ⟨_,_,rfl,g4,⟨_,_,rfl,g3,⟨_,_,rfl,g2,g0⟩⟩⟩:=g
  cases g4
  cases g3
  cases g2
  have ph0:=tCol.len h0
  have pg0:=tCol.len g0
  have qh0:=fun n=>eqn52 n _ _ _ _ A w h0 g0
  have th0:=List.take_of_length_le (Nat.le_of_eq (show _=7 from tCol.len h0))
  have tg0:=List.take_of_length_le (Nat.le_of_eq (show _=7 from tCol.len g0))
  rw [Op.equalIn]
  simp [run_underlying Tryz.underlying61,stood,part,eqn3,eqn9,isA3,isA9,isA52,(ty52).sizeOf,ph0,pg0]
  have e:decide (a=b)=(decide (a.kind=b.kind)&&decide (a.name=b.name)&&decide (a.new=b.new)&&decide (a.col=b.col)):=by cases a;cases b;simp [Bool.and_assoc]
  rw [e]
  by_cases e0:a.kind=b.kind<;>by_cases e1:a.name=b.name<;>by_cases e2:a.new=b.new<;>by_cases e3:a.col=b.col<;>simp [e0,e1,e2,e3,qh0,th0,tg0]
theorem eq56:EqAt Tryz.prog 61 tChange:=⟨by kernel_rfl,rfl,fun a b c1 c2 A w h g=>eqn56 9996 a b c1 c2 A w h g⟩
theorem beqSelf (a:Array UInt8):((⟨a⟩:ByteArray) == ⟨a⟩)=true:=by show (a == a)=true;simp
theorem beqText (a b:List UInt8):((⟨a.toArray⟩:ByteArray) == ⟨b.toArray⟩)=decide (a=b):=by
  show (a.toArray == b.toArray)=_
  rw [beqD];simp
def mk47 (k:Val):Value:=.agg #[.int .i64 k.kind,.int .i64 k.n,str k.text]
theorem key47:KeyAt Tryz.prog 57 tVal mk47 where
  val h:=by
    obtain ⟨cs,rfl,h⟩:=h
    obtain ⟨_,_,rfl,h3,⟨_,_,rfl,h2,h1⟩⟩:=h
    cases h3;cases h2;cases h1;rfl
  chk e k w:=by
    have h3:∀ a:Int,(Instr.checkKey e (9998+1) 3 (.int .i64 a)).run Tryz.prog w=.ok () w:=fun a=>MapKept.run_checkKey (w:=w) Tryz.underlying3 (by simp [MapKept.IsKey]) e 9998
    have h9:∀ a:ByteArray,(Instr.checkKey e (9998+1) 9 (.string a)).run Tryz.prog w=.ok () w:=fun a=>MapKept.run_checkKey (w:=w) Tryz.underlying9 (by simp [MapKept.IsKey]) e 9998
    show (Instr.checkKey e (9998+1+1) 57 (mk47 k)).run Tryz.prog w=_
    rw [Instr.checkKey]
    simp [run_underlying Tryz.underlying57,mk47,str,part,isA3,h3,isA9,h9]
  eq a b w:=eq47.h a b [.int .i64 a.kind,.int .i64 a.n,str a.text] [.int .i64 b.kind,.int .i64 b.n,str b.text] (fun _ _=>True) w ⟨[_],[_,_],rfl,rfl,[_],[_],rfl,rfl,rfl⟩ ⟨[_],[_,_],rfl,rfl,[_],[_],rfl,rfl,rfl⟩
  bits k:=by simp [Instr.sameBits,mk47,str,beqSelf]
  now:=⟨_,Tryz.underlying57,.inr fun a b=>by simp [Instr.sameNow,mk47]⟩
theorem key9:KeyAt Tryz.prog 9 tS str where
  val h:=h
  chk e k w:=by unfold Instr.checkKey;simp [run_underlying Tryz.underlying9,str]
  eq a b w:=by
    unfold Op.equal Op.maxDepth
    rw [Op.equalIn]
    simp [run_underlying Tryz.underlying9,str,beqText]
  bits k:=by simp [Instr.sameBits,str,beqSelf]
  now:=⟨_,Tryz.underlying9,.inl fun a b=>by simp [Instr.sameNow,str,beqText]⟩
theorem bs {α β:Type}(a:α)(f:α→Option β):(some a).bind f=f a:=rfl
theorem ct {α:Type}{a b:α}:cond true a b=a:=rfl
theorem cf {α:Type}{a b:α}:cond false a b=b:=rfl
theorem tn (n:Nat):(n:Int).toNat=n:=rfl
theorem df {p:Prop}[h:Decidable p](h2:¬p):decide p=false:=decide_eq_false h2
theorem dt {p:Prop}[h:Decidable p](h2:p):decide p=true:=decide_eq_true h2
def u3:=@Tryz.underlying3
def u5:=@Tryz.underlying5
def u9:=@Tryz.underlying9
def u22:=@Tryz.underlying22
def u23:=@Tryz.underlying23
def u24:=@Tryz.underlying24
def u27:=@Tryz.underlying27
def u34:=@Tryz.underlying34
def u35:=@Tryz.underlying35
def u52:=@Tryz.underlying52
def u55:=@Tryz.underlying55
def u68:=@Tryz.underlying68
def u76:=@Tryz.underlying76
def u89:=@Tryz.underlying89
def u115:=@Tryz.underlying115
def u143:=@Tryz.underlying143
def u182:=@Tryz.underlying182
def u185:=@Tryz.underlying185
def u186:=@Tryz.underlying186
def u202:=@Tryz.underlying202
end Go.Proofs.YtdpigighgmipfaaGreatDoor
