/- The program's types, read as Lean's, and what its tables say of them. -/
import Derived.Test.YtganfdhmkdehlaaGreatDoorQ2004HL
import Derived.Test.YtganfdhmkdehlaaGreatDoorProg
import Derived.KernelRfl
set_option linter.all false
namespace Go.HL
theorem z {α:Sort _}{a:α}:a=a:=rfl
abbrev Nm (P:Go.Program)(i:Nat):Prop:=∃ fn c, P.funcs[i]? = some fn∧(fn.name == "runtime.NumGoroutine") = false∧fn.body = some c
theorem Steps.k {P e B arr S0 E o l d Q E'}(f:∀ {Kp:Unit→Go.Act→Go.World→Prop} {S:List (Nat×Ent)} {A:List Own},B A→Ext (qJ E o++S0) S→WO P e Kp arr [] ⟨(d,Q)::S,A⟩ (some ())→WO P e Kp arr [o] ⟨S,A⟩ (some ()))(t:Steps P e B arr S0 E l E'):Steps P e B arr S0 E (o::l) (some (d,Q)::E'):=.cons (fun _ _ _ p e=>f p e) t
theorem W.cd {P f e}{ρ:Type}{R:ρ→Go.Value→Go.World→Prop}{k K}{c:Go.Operand}{x y:Go.Code}{b:Bool}{ov:Option Go.Value}{r1 r2:Option ρ}(hc:ay K.S c=some (isB b,ov))(h1:W P f e R (.code x::k) K r1)(h2:W P f e R (.code y::k) K r2):W P f e R (.code (.cond c x y)::k) K (_root_.cond b r1 r2):=W.cond hc (fun _=>h1) (fun _=>h2)
theorem Steps.j {P e B arr S0 E o l d Q E'}(f:∀ {Kp:Unit→Go.Act→Go.World→Prop} {S:List (Nat×Ent)} {A:List Own},(∀ {x:Go.Operand} {Q:Ent},ay (qJ E o++S0) x=some Q→ay S x=some Q)→WO P e Kp arr [] ⟨(d,Q)::S,A⟩ (some ())→WO P e Kp arr [o] ⟨S,A⟩ (some ()))(t:Steps P e B arr S0 E l E'):Steps P e B arr S0 E (o::l) (some (d,Q)::E'):=.cons (fun _ _ _ _ e=>f (e.op ·)) t
theorem Steps.f {P e B arr S0 E}{j dj:Nat}{op:Go.Op}{l d E'}{ty:Go.TypeId}{pos:String}{af:Array Go.Edge}{b:Bool}{ov:Option Go.Value}(hj:(arr[j]?).bind (·.dst)=some dj)(hb:look (qJ E { dst:=some d,op:=op,type:=ty,pos:=pos,after:=af,guard:=some (j,b) }++S0) dj=some (isB !b,ov))(hd:Nat.ble (d+1) e.N=true)(t:Steps P e B arr S0 E l E'):Steps P e B arr S0 E ({ dst:=some d,op:=op,type:=ty,pos:=pos,after:=af,guard:=some (j,b) }::l) (some (d,(isV undef,none))::E'):=.cons (fun _ _ _ _ e=>.off hj (e _ _ hb) hd) t
theorem WO.an {P e}{ρ:Type}{f k}{R:ρ→Go.Value→Go.World→Prop}{arr:Array Oper}{S B r d}{ty:Go.TypeId}{pos:String}{af:Array Go.Edge}{x:Go.Operand}{Q:Ent}(hx:ay S x=some Q)(hd:Nat.ble (d+1) e.N=true)(h:W P f e R k ⟨(d,Q)::S,B⟩ r):WO P e (fun x a w=>Run P f k a w (R x)) arr [mkOp d (.assign x) ty pos af] ⟨S,B⟩ r:=.a hx hd (.nil h)
theorem _root_.List.Sublist.c {α:Type _}{l m:List α}{a:α}(h:l.Sublist m):l.Sublist (a::m):=.cons a h
theorem _root_.List.Sublist.d {α:Type _}{l m:List α}{a:α}(h:l.Sublist m):(a::l).Sublist (a::m):=.cons_cons a h
theorem _root_.List.Sublist.e {α:Type _}:List.Sublist (α:=α) [] []:=.slnil
theorem W.s {P e}{ρ:Type}{f k}{R:ρ→Go.Value→Go.World→Prop}{K r}{id:Nat}{ops:Array Oper}{y:Go.Code}(h:WO P e (fun x a w=>Run P f (.code y::k) a w (R x)) ops ops.toList K r):W P f e R (.code (.seq (.region id ops false) y)::k) K r:=.seq (.g h)
end Go.HL
namespace Go.Proofs.YtganfdhmkdehlaaGreatDoor
open Go Go.HL
structure Val where
  kind:Int
  n:Int
  text:List UInt8
  deriving DecidableEq,Inhabited
def tVal:Ty Val:=((tI .i64).x ((tI .i64).x tS)).iso fun d=>(d.kind,d.n,d.text)
theorem oE:Fld tVal 0 (tI .i64) (fun d=>d.kind) (fun d x=>{ d with kind:=x }):=Fld.iso Fld.fst fun _ _=>rfl
theorem q0:Fld tVal 1 (tI .i64) (fun d=>d.n) (fun d x=>{ d with n:=x }):=Fld.iso (Fld.snd Fld.fst) fun _ _=>rfl
theorem yJ:Fld tVal 2 tS (fun d=>d.text) (fun d x=>{ d with text:=x }):=Fld.iso (Fld.snd Fld.last) fun _ _=>rfl
structure Col where
  name:List UInt8
  kind:Int
  need:Bool
  once:Bool
  def_:Val
  deriving DecidableEq,Inhabited
def tCol:Ty Col:=(tS.x ((tI .i64).x (tB.x (tB.x tVal)))).iso fun d=>(d.name,d.kind,d.need,d.once,d.def_)
theorem mm:Fld tCol 0 tS (fun d=>d.name) (fun d x=>{ d with name:=x }):=Fld.iso Fld.fst fun _ _=>rfl
theorem jw:Fld tCol 1 (tI .i64) (fun d=>d.kind) (fun d x=>{ d with kind:=x }):=Fld.iso (Fld.snd Fld.fst) fun _ _=>rfl
theorem ml:Fld tCol 2 tB (fun d=>d.need) (fun d x=>{ d with need:=x }):=Fld.iso (Fld.snd (Fld.snd Fld.fst)) fun _ _=>rfl
theorem yK:Fld tCol 3 tB (fun d=>d.once) (fun d x=>{ d with once:=x }):=Fld.iso (Fld.snd (Fld.snd (Fld.snd Fld.fst))) fun _ _=>rfl
theorem fCol_4:Fld tCol 4 tVal (fun d=>d.def_) (fun d x=>{ d with def_:=x }):=Fld.iso (Fld.snd (Fld.snd (Fld.snd Fld.last))) fun _ _=>rfl
structure aa where
  kind:Int
  name:List UInt8
  new:List UInt8
  col:Col
  deriving DecidableEq,Inhabited
def tChange:Ty aa:=((tI .i64).x (tS.x (tS.x tCol))).iso fun d=>(d.kind,d.name,d.new,d.col)
theorem oG:Fld tChange 0 (tI .i64) (fun d=>d.kind) (fun d x=>{ d with kind:=x }):=Fld.iso Fld.fst fun _ _=>rfl
theorem gY:Fld tChange 1 tS (fun d=>d.name) (fun d x=>{ d with name:=x }):=Fld.iso (Fld.snd Fld.fst) fun _ _=>rfl
theorem oF:Fld tChange 2 tS (fun d=>d.new) (fun d x=>{ d with new:=x }):=Fld.iso (Fld.snd (Fld.snd Fld.fst)) fun _ _=>rfl
theorem fChange_3:Fld tChange 3 tCol (fun d=>d.col) (fun d x=>{ d with col:=x }):=Fld.iso (Fld.snd (Fld.snd Fld.last)) fun _ _=>rfl
structure Row where
  id:Int
  ver:Int
  vals:List Val
  deriving DecidableEq,Inhabited
def tRow:Ty Row:=((tI .i64).x ((tI .i64).x (tL tVal))).iso fun d=>(d.id,d.ver,d.vals)
theorem bG:Fld tRow 0 (tI .i64) (fun d=>d.id) (fun d x=>{ d with id:=x }):=Fld.iso Fld.fst fun _ _=>rfl
theorem aZ:Fld tRow 1 (tI .i64) (fun d=>d.ver) (fun d x=>{ d with ver:=x }):=Fld.iso (Fld.snd Fld.fst) fun _ _=>rfl
theorem dv:Fld tRow 2 (tL tVal) (fun d=>d.vals) (fun d x=>{ d with vals:=x }):=Fld.iso (Fld.snd Fld.last) fun _ _=>rfl
structure ab where
  first:List Col
  changes:List aa
  rows:List Row
  next:Int
  deriving DecidableEq,Inhabited
def tTable:Ty ab:=((tL tCol).x ((tL tChange).x ((tL tRow).x (tI .i64)))).iso fun d=>(d.first,d.changes,d.rows,d.next)
theorem dH:Fld tTable 0 (tL tCol) (fun d=>d.first) (fun d x=>{ d with first:=x }):=Fld.iso Fld.fst fun _ _=>rfl
theorem bp:Fld tTable 1 (tL tChange) (fun d=>d.changes) (fun d x=>{ d with changes:=x }):=Fld.iso (Fld.snd Fld.fst) fun _ _=>rfl
theorem fTable_2:Fld tTable 2 (tL tRow) (fun d=>d.rows) (fun d x=>{ d with rows:=x }):=Fld.iso (Fld.snd (Fld.snd Fld.fst)) fun _ _=>rfl
theorem dG:Fld tTable 3 (tI .i64) (fun d=>d.next) (fun d x=>{ d with next:=x }):=Fld.iso (Fld.snd (Fld.snd Fld.last)) fun _ _=>rfl
structure Tab where
  name:List UInt8
  table:ab
  deriving DecidableEq,Inhabited
def tTab:Ty Tab:=(tS.x tTable).iso fun d=>(d.name,d.table)
theorem ep:Fld tTab 0 tS (fun d=>d.name) (fun d x=>{ d with name:=x }):=Fld.iso Fld.fst fun _ _=>rfl
theorem fTab_1:Fld tTab 1 tTable (fun d=>d.table) (fun d x=>{ d with table:=x }):=Fld.iso Fld.last fun _ _=>rfl
structure aj where
  from_:List UInt8
  col:List UInt8
  to:List UInt8
  how:Int
  deriving DecidableEq,Inhabited
def tLink:Ty aj:=(tS.x (tS.x (tS.x (tI .i64)))).iso fun d=>(d.from_,d.col,d.to,d.how)
theorem lh:Fld tLink 0 tS (fun d=>d.from_) (fun d x=>{ d with from_:=x }):=Fld.iso Fld.fst fun _ _=>rfl
theorem jg:Fld tLink 1 tS (fun d=>d.col) (fun d x=>{ d with col:=x }):=Fld.iso (Fld.snd Fld.fst) fun _ _=>rfl
theorem nh:Fld tLink 2 tS (fun d=>d.to) (fun d x=>{ d with to:=x }):=Fld.iso (Fld.snd (Fld.snd Fld.fst)) fun _ _=>rfl
theorem lg:Fld tLink 3 (tI .i64) (fun d=>d.how) (fun d x=>{ d with how:=x }):=Fld.iso (Fld.snd (Fld.snd Fld.last)) fun _ _=>rfl
structure ac where
  tabs:List Tab
  links:List aj
  deriving DecidableEq,Inhabited
def tBase:Ty ac:=((tL tTab).x (tL tLink)).iso fun d=>(d.tabs,d.links)
theorem fBase_0:Fld tBase 0 (tL tTab) (fun d=>d.tabs) (fun d x=>{ d with tabs:=x }):=Fld.iso Fld.fst fun _ _=>rfl
theorem gz:Fld tBase 1 (tL tLink) (fun d=>d.links) (fun d x=>{ d with links:=x }):=Fld.iso Fld.last fun _ _=>rfl
structure Set where
  name:List UInt8
  val:Val
  deriving DecidableEq,Inhabited
def tSet:Ty Set:=(tS.x tVal).iso fun d=>(d.name,d.val)
theorem mj:Fld tSet 0 tS (fun d=>d.name) (fun d x=>{ d with name:=x }):=Fld.iso Fld.fst fun _ _=>rfl
theorem fSet_1:Fld tSet 1 tVal (fun d=>d.val) (fun d x=>{ d with val:=x }):=Fld.iso Fld.last fun _ _=>rfl
structure bj where
  kind:Int
  name:List UInt8
  id:Int
  sets:List Set
  cols:List Col
  change:aa
  link:aj
  deriving DecidableEq,Inhabited
def tDeed:Ty bj:=((tI .i64).x (tS.x ((tI .i64).x ((tL tSet).x ((tL tCol).x (tChange.x tLink)))))).iso fun d=>(d.kind,d.name,d.id,d.sets,d.cols,d.change,d.link)
theorem uu:Fld tDeed 0 (tI .i64) (fun d=>d.kind) (fun d x=>{ d with kind:=x }):=Fld.iso Fld.fst fun _ _=>rfl
theorem ut:Fld tDeed 1 tS (fun d=>d.name) (fun d x=>{ d with name:=x }):=Fld.iso (Fld.snd Fld.fst) fun _ _=>rfl
theorem ur:Fld tDeed 2 (tI .i64) (fun d=>d.id) (fun d x=>{ d with id:=x }):=Fld.iso (Fld.snd (Fld.snd Fld.fst)) fun _ _=>rfl
theorem pQ:Fld tDeed 3 (tL tSet) (fun d=>d.sets) (fun d x=>{ d with sets:=x }):=Fld.iso (Fld.snd (Fld.snd (Fld.snd Fld.fst))) fun _ _=>rfl
theorem pP:Fld tDeed 4 (tL tCol) (fun d=>d.cols) (fun d x=>{ d with cols:=x }):=Fld.iso (Fld.snd (Fld.snd (Fld.snd (Fld.snd Fld.fst)))) fun _ _=>rfl
theorem fDeed_5:Fld tDeed 5 tChange (fun d=>d.change) (fun d x=>{ d with change:=x }):=Fld.iso (Fld.snd (Fld.snd (Fld.snd (Fld.snd (Fld.snd Fld.fst))))) fun _ _=>rfl
theorem pO:Fld tDeed 15 tLink (fun d=>d.link) (fun d x=>{ d with link:=x }):=Fld.iso (Fld.snd (Fld.snd (Fld.snd (Fld.snd (Fld.snd Fld.last))))) fun _ _=>rfl
structure Rd where
  b:List Int
  p:Int
  deriving DecidableEq,Inhabited
def tRd:Ty Rd:=((tL (tI .u8)).x (tI .i64)).iso fun d=>(d.b,d.p)
theorem pN:Fld tRd 0 (tL (tI .u8)) (fun d=>d.b) (fun d x=>{ d with b:=x }):=Fld.iso Fld.fst fun _ _=>rfl
theorem Cu:Fld tRd 1 (tI .i64) (fun d=>d.p) (fun d x=>{ d with p:=x }):=Fld.iso Fld.last fun _ _=>rfl
structure Ref where
  name:List UInt8
  id:Int
  deriving DecidableEq,Inhabited
def tRef:Ty Ref:=(tS.x (tI .i64)).iso fun d=>(d.name,d.id)
theorem uq:Fld tRef 0 tS (fun d=>d.name) (fun d x=>{ d with name:=x }):=Fld.iso Fld.fst fun _ _=>rfl
theorem uo:Fld tRef 1 (tI .i64) (fun d=>d.id) (fun d x=>{ d with id:=x }):=Fld.iso Fld.last fun _ _=>rfl
structure aL where
  tabs:Value
  links:Value
def tBaseA:Ty aL:=(tRaw.x tRaw).iso fun d=>(d.tabs,d.links)
theorem aD:Fld tBaseA 0 tRaw (fun d=>d.tabs) (fun d x=>{ d with tabs:=x }):=Fld.iso Fld.fst fun _ _=>rfl
theorem bE:Fld tBaseA 1 tRaw (fun d=>d.links) (fun d x=>{ d with links:=x }):=Fld.iso Fld.last fun _ _=>rfl
structure yZ where
  tabs:List Tab
  links:Value
def tl:Ty yZ:=((tL tTab).x tRaw).iso fun d=>(d.tabs,d.links)
structure ap where
  first:List Col
  changes:Value×List aa
  rows:Value
  next:Int
def tTableA:Ty ap:=((tL tCol).x ((tLk tChange).x (tRaw.x (tI .i64)))).iso fun d=>(d.first,d.changes,d.rows,d.next)
theorem aI:Fld tTableA 0 (tL tCol) (fun d=>d.first) (fun d x=>{ d with first:=x }):=Fld.iso Fld.fst fun _ _=>rfl
theorem az:Fld tTableA 1 (tLk tChange) (fun d=>d.changes) (fun d x=>{ d with changes:=x }):=Fld.iso (Fld.snd Fld.fst) fun _ _=>rfl
theorem fTableA_2:Fld tTableA 2 tRaw (fun d=>d.rows) (fun d x=>{ d with rows:=x }):=Fld.iso (Fld.snd (Fld.snd Fld.fst)) fun _ _=>rfl
theorem aM:Fld tTableA 3 (tI .i64) (fun d=>d.next) (fun d x=>{ d with next:=x }):=Fld.iso (Fld.snd (Fld.snd Fld.last)) fun _ _=>rfl
abbrev CB:Bool:=false
abbrev d0_1026:ac:=⟨[],[]⟩
abbrev d0_47:Val:=⟨0,0,[]⟩
abbrev d0_52:Col:=⟨[],0,false,false,⟨0,0,[]⟩⟩
abbrev d0_56:aa:=⟨0,[],[],⟨[],0,false,false,⟨0,0,[]⟩⟩⟩
abbrev d0_1044:aj:=⟨[],[],[],0⟩
abbrev d0_2046:bj:=⟨0,[],0,[],[],⟨0,[],[],⟨[],0,false,false,⟨0,0,[]⟩⟩⟩,⟨[],[],[],0⟩⟩
abbrev d0_27:ab:=⟨[],[],[],0⟩
abbrev d0_1039:Tab:=⟨[],⟨[],[],[],0⟩⟩
abbrev d0_37:Row:=⟨0,0,[]⟩
abbrev d0_107:Rd:=⟨[],0⟩
abbrev d0_49:Set:=⟨[],⟨0,0,[]⟩⟩
abbrev lH:Ref:=⟨[],0⟩
theorem mix:Tryz.prog.follows .mixedOrders=true:=by kernel_rfl
theorem yV:gv Tryz.prog 126 4:=⟨by kernel_rfl⟩
theorem o1:gv Tryz.prog 146 2:=⟨by kernel_rfl⟩
theorem el3:gv Tryz.prog 3 1:=⟨by kernel_rfl⟩
theorem fk:gv Tryz.prog 38 3:=⟨by kernel_rfl⟩
theorem cq:gv Tryz.prog 40 7:=⟨by kernel_rfl⟩
theorem jE:gv Tryz.prog 42 10:=⟨by kernel_rfl⟩
theorem gr:gv Tryz.prog 44 4:=⟨by kernel_rfl⟩
theorem BI:gv Tryz.prog 46 19:=⟨by kernel_rfl⟩
theorem el5:gv Tryz.prog 5 1:=⟨by kernel_rfl⟩
theorem db:gv Tryz.prog 61 5:=⟨by kernel_rfl⟩
theorem Aw:gv Tryz.prog 62 1:=⟨by kernel_rfl⟩
theorem jn:gv Tryz.prog 66 3:=⟨by kernel_rfl⟩
theorem el9:gv Tryz.prog 9 1:=⟨by kernel_rfl⟩
theorem je:aY Tryz.prog 105 0 0:=⟨by kernel_rfl,by kernel_rfl⟩
theorem zm:aY Tryz.prog 105 1 1:=⟨by kernel_rfl,by kernel_rfl⟩
theorem oD:aY Tryz.prog 126 0 0:=⟨by kernel_rfl,by kernel_rfl⟩
theorem oC:aY Tryz.prog 126 1 1:=⟨by kernel_rfl,by kernel_rfl⟩
theorem qY:aY Tryz.prog 146 0 0:=⟨by kernel_rfl,by kernel_rfl⟩
theorem qX:aY Tryz.prog 146 1 1:=⟨by kernel_rfl,by kernel_rfl⟩
theorem fa1026_0:aY Tryz.prog 29 0 0:=⟨by kernel_rfl,by kernel_rfl⟩
theorem cg:aY Tryz.prog 29 1 1:=⟨by kernel_rfl,by kernel_rfl⟩
theorem yI:aY Tryz.prog 38 0 0:=⟨by kernel_rfl,by kernel_rfl⟩
theorem ul:aY Tryz.prog 38 1 1:=⟨by kernel_rfl,by kernel_rfl⟩
theorem yH:aY Tryz.prog 38 2 2:=⟨by kernel_rfl,by kernel_rfl⟩
theorem yG:aY Tryz.prog 40 0 0:=⟨by kernel_rfl,by kernel_rfl⟩
theorem uk:aY Tryz.prog 40 1 1:=⟨by kernel_rfl,by kernel_rfl⟩
theorem yF:aY Tryz.prog 40 2 2:=⟨by kernel_rfl,by kernel_rfl⟩
theorem yE:aY Tryz.prog 40 3 3:=⟨by kernel_rfl,by kernel_rfl⟩
theorem yD:aY Tryz.prog 40 4 4:=⟨by kernel_rfl,by kernel_rfl⟩
theorem yC:aY Tryz.prog 42 0 0:=⟨by kernel_rfl,by kernel_rfl⟩
theorem yB:aY Tryz.prog 42 1 1:=⟨by kernel_rfl,by kernel_rfl⟩
theorem A8:aY Tryz.prog 42 2 2:=⟨by kernel_rfl,by kernel_rfl⟩
theorem A7:aY Tryz.prog 42 3 3:=⟨by kernel_rfl,by kernel_rfl⟩
theorem ng:aY Tryz.prog 44 0 0:=⟨by kernel_rfl,by kernel_rfl⟩
theorem jQ:aY Tryz.prog 44 1 1:=⟨by kernel_rfl,by kernel_rfl⟩
theorem qZ:aY Tryz.prog 44 2 2:=⟨by kernel_rfl,by kernel_rfl⟩
theorem nf:aY Tryz.prog 44 3 3:=⟨by kernel_rfl,by kernel_rfl⟩
theorem qW:aY Tryz.prog 46 0 0:=⟨by kernel_rfl,by kernel_rfl⟩
theorem qV:aY Tryz.prog 46 1 1:=⟨by kernel_rfl,by kernel_rfl⟩
theorem qU:aY Tryz.prog 46 2 2:=⟨by kernel_rfl,by kernel_rfl⟩
theorem ne:aY Tryz.prog 46 3 3:=⟨by kernel_rfl,by kernel_rfl⟩
theorem nd:aY Tryz.prog 46 4 4:=⟨by kernel_rfl,by kernel_rfl⟩
theorem nc:aY Tryz.prog 46 5 5:=⟨by kernel_rfl,by kernel_rfl⟩
theorem nb:aY Tryz.prog 46 6 15:=⟨by kernel_rfl,by kernel_rfl⟩
theorem fc:aY Tryz.prog 59 0 0:=⟨by kernel_rfl,by kernel_rfl⟩
theorem bv:aY Tryz.prog 59 1 1:=⟨by kernel_rfl,by kernel_rfl⟩
theorem fa27_2:aY Tryz.prog 59 2 2:=⟨by kernel_rfl,by kernel_rfl⟩
theorem gm:aY Tryz.prog 59 3 3:=⟨by kernel_rfl,by kernel_rfl⟩
theorem jR:aY Tryz.prog 61 0 0:=⟨by kernel_rfl,by kernel_rfl⟩
theorem aC:aY Tryz.prog 61 1 1:=⟨by kernel_rfl,by kernel_rfl⟩
theorem bY:aY Tryz.prog 66 0 0:=⟨by kernel_rfl,by kernel_rfl⟩
theorem bd:aY Tryz.prog 66 1 1:=⟨by kernel_rfl,by kernel_rfl⟩
theorem cS:aY Tryz.prog 66 2 2:=⟨by kernel_rfl,by kernel_rfl⟩
theorem Cq:qv Tryz.prog 105 [(0,1),(1,1)]:=⟨by kernel_rfl⟩
theorem CL:qv Tryz.prog 126 [(0,1),(1,3)]:=⟨by kernel_rfl⟩
theorem yv:qv Tryz.prog 146 [(0,1),(1,1)]:=⟨by kernel_rfl⟩
theorem dF:qv Tryz.prog 29 [(0,1),(1,1)]:=⟨by kernel_rfl⟩
theorem CM:qv Tryz.prog 38 [(0,1),(1,1),(2,1)]:=⟨by kernel_rfl⟩
theorem AH:qv Tryz.prog 40 [(0,1),(1,1),(2,1),(3,1),(4,3)]:=⟨by kernel_rfl⟩
theorem CK:qv Tryz.prog 42 [(0,1),(1,1),(2,1),(3,7)]:=⟨by kernel_rfl⟩
theorem qD:qv Tryz.prog 44 [(0,1),(1,1),(2,1),(3,1)]:=⟨by kernel_rfl⟩
theorem AJ:qv Tryz.prog 46 [(0,1),(1,1),(2,1),(3,1),(4,1),(5,10),(15,4)]:=⟨by kernel_rfl⟩
theorem mW:qv Tryz.prog 59 [(0,1),(1,1),(2,1),(3,1)]:=⟨by kernel_rfl⟩
theorem gf:qv Tryz.prog 61 [(0,1),(1,4)]:=⟨by kernel_rfl⟩
theorem AI:qv Tryz.prog 66 [(0,1),(1,1),(2,1)]:=⟨by kernel_rfl⟩
theorem CJ:cW Tryz.prog 126 4 true:=⟨by kernel_rfl,by kernel_rfl⟩
theorem yr:cW Tryz.prog 146 2 true:=⟨by kernel_rfl,by kernel_rfl⟩
theorem Ah:cW Tryz.prog 22 1 false:=⟨by kernel_rfl,by kernel_rfl⟩
theorem ty1023:cW Tryz.prog 26 1 false:=⟨by kernel_rfl,by kernel_rfl⟩
theorem fo:cW Tryz.prog 27 1 false:=⟨by kernel_rfl,by kernel_rfl⟩
theorem al:cW Tryz.prog 29 2 true:=⟨by kernel_rfl,by kernel_rfl⟩
theorem ty3:cW Tryz.prog 3 1 false:=⟨by kernel_rfl,by kernel_rfl⟩
theorem Co:cW Tryz.prog 35 1 false:=⟨by kernel_rfl,by kernel_rfl⟩
theorem sa:cW Tryz.prog 36 1 false:=⟨by kernel_rfl,by kernel_rfl⟩
theorem ti:cW Tryz.prog 38 3 true:=⟨by kernel_rfl,by kernel_rfl⟩
theorem ty4:cW Tryz.prog 4 1 false:=⟨by kernel_rfl,by kernel_rfl⟩
theorem AG:cW Tryz.prog 40 7 true:=⟨by kernel_rfl,by kernel_rfl⟩
theorem yp:cW Tryz.prog 42 10 true:=⟨by kernel_rfl,by kernel_rfl⟩
theorem l7:cW Tryz.prog 44 4 true:=⟨by kernel_rfl,by kernel_rfl⟩
theorem l6:cW Tryz.prog 46 19 true:=⟨by kernel_rfl,by kernel_rfl⟩
theorem ty5:cW Tryz.prog 5 1 false:=⟨by kernel_rfl,by kernel_rfl⟩
theorem kB:cW Tryz.prog 56 1 false:=⟨by kernel_rfl,by kernel_rfl⟩
theorem ty25:cW Tryz.prog 57 1 false:=⟨by kernel_rfl,by kernel_rfl⟩
theorem ty27:cW Tryz.prog 59 4 true:=⟨by kernel_rfl,by kernel_rfl⟩
theorem ba:cW Tryz.prog 61 5 true:=⟨by kernel_rfl,by kernel_rfl⟩
theorem n9:cW Tryz.prog 62 1 false:=⟨by kernel_rfl,by kernel_rfl⟩
theorem ty37:cW Tryz.prog 66 3 true:=⟨by kernel_rfl,by kernel_rfl⟩
theorem ty9:cW Tryz.prog 9 1 false:=⟨by kernel_rfl,by kernel_rfl⟩
theorem CY:bw Tryz.prog 105 tRd d0_107 []:=⟨(.agg #[.slice none 0 0,.int .i64 0]),by kernel_rfl,fun A w=>⟨[.slice none 0 0],[.int .i64 0],rfl,⟨_,rfl,aG _ _ _⟩,rfl⟩,fun _ h=>nomatch h⟩
theorem z49:bw Tryz.prog 126 tSet d0_49 []:=⟨(.agg #[.string ⟨#[]⟩,.int .i64 0,.int .i64 0,.string ⟨#[]⟩]),by kernel_rfl,fun A w=>⟨[.string ⟨#[]⟩],[.int .i64 0,.int .i64 0,.string ⟨#[]⟩],rfl,rfl,⟨[.int .i64 0],[.int .i64 0,.string ⟨#[]⟩],rfl,rfl,⟨[.int .i64 0],[.string ⟨#[]⟩],rfl,rfl,rfl⟩⟩⟩,fun _ h=>nomatch h⟩
theorem tf:bw Tryz.prog 146 tRef lH []:=⟨(.agg #[.string ⟨#[]⟩,.int .i64 0]),by kernel_rfl,fun A w=>⟨[.string ⟨#[]⟩],[.int .i64 0],rfl,rfl,rfl⟩,fun _ h=>nomatch h⟩
theorem dn:bw Tryz.prog 29 tBase d0_1026 []:=⟨(.agg #[.slice none 0 0,.slice none 0 0]),by kernel_rfl,fun A w=>⟨[.slice none 0 0],[.slice none 0 0],rfl,⟨_,rfl,aG _ _ _⟩,⟨_,rfl,aG _ _ _⟩⟩,fun _ h=>nomatch h⟩
theorem z47:bw Tryz.prog 38 tVal d0_47 []:=⟨(.agg #[.int .i64 0,.int .i64 0,.string ⟨#[]⟩]),by kernel_rfl,fun A w=>⟨[.int .i64 0],[.int .i64 0,.string ⟨#[]⟩],rfl,rfl,⟨[.int .i64 0],[.string ⟨#[]⟩],rfl,rfl,rfl⟩⟩,fun _ h=>nomatch h⟩
theorem z4:bw Tryz.prog 4 tB CB []:=⟨.bool false,by kernel_rfl,fun A w=>rfl,fun _ h=>nomatch h⟩
theorem z52:bw Tryz.prog 40 tCol d0_52 []:=⟨(.agg #[.string ⟨#[]⟩,.int .i64 0,.bool false,.bool false,.int .i64 0,.int .i64 0,.string ⟨#[]⟩]),by kernel_rfl,fun A w=>⟨[.string ⟨#[]⟩],[.int .i64 0,.bool false,.bool false,.int .i64 0,.int .i64 0,.string ⟨#[]⟩],rfl,rfl,⟨[.int .i64 0],[.bool false,.bool false,.int .i64 0,.int .i64 0,.string ⟨#[]⟩],rfl,rfl,⟨[.bool false],[.bool false,.int .i64 0,.int .i64 0,.string ⟨#[]⟩],rfl,rfl,⟨[.bool false],[.int .i64 0,.int .i64 0,.string ⟨#[]⟩],rfl,rfl,⟨[.int .i64 0],[.int .i64 0,.string ⟨#[]⟩],rfl,rfl,⟨[.int .i64 0],[.string ⟨#[]⟩],rfl,rfl,rfl⟩⟩⟩⟩⟩⟩,fun _ h=>nomatch h⟩
theorem z56:bw Tryz.prog 42 tChange d0_56 []:=⟨(.agg #[.int .i64 0,.string ⟨#[]⟩,.string ⟨#[]⟩,.string ⟨#[]⟩,.int .i64 0,.bool false,.bool false,.int .i64 0,.int .i64 0,.string ⟨#[]⟩]),by kernel_rfl,fun A w=>⟨[.int .i64 0],[.string ⟨#[]⟩,.string ⟨#[]⟩,.string ⟨#[]⟩,.int .i64 0,.bool false,.bool false,.int .i64 0,.int .i64 0,.string ⟨#[]⟩],rfl,rfl,⟨[.string ⟨#[]⟩],[.string ⟨#[]⟩,.string ⟨#[]⟩,.int .i64 0,.bool false,.bool false,.int .i64 0,.int .i64 0,.string ⟨#[]⟩],rfl,rfl,⟨[.string ⟨#[]⟩],[.string ⟨#[]⟩,.int .i64 0,.bool false,.bool false,.int .i64 0,.int .i64 0,.string ⟨#[]⟩],rfl,rfl,⟨[.string ⟨#[]⟩],[.int .i64 0,.bool false,.bool false,.int .i64 0,.int .i64 0,.string ⟨#[]⟩],rfl,rfl,⟨[.int .i64 0],[.bool false,.bool false,.int .i64 0,.int .i64 0,.string ⟨#[]⟩],rfl,rfl,⟨[.bool false],[.bool false,.int .i64 0,.int .i64 0,.string ⟨#[]⟩],rfl,rfl,⟨[.bool false],[.int .i64 0,.int .i64 0,.string ⟨#[]⟩],rfl,rfl,⟨[.int .i64 0],[.int .i64 0,.string ⟨#[]⟩],rfl,rfl,⟨[.int .i64 0],[.string ⟨#[]⟩],rfl,rfl,rfl⟩⟩⟩⟩⟩⟩⟩⟩⟩,fun _ h=>nomatch h⟩
theorem z1044:bw Tryz.prog 44 tLink d0_1044 []:=⟨(.agg #[.string ⟨#[]⟩,.string ⟨#[]⟩,.string ⟨#[]⟩,.int .i64 0]),by kernel_rfl,fun A w=>⟨[.string ⟨#[]⟩],[.string ⟨#[]⟩,.string ⟨#[]⟩,.int .i64 0],rfl,rfl,⟨[.string ⟨#[]⟩],[.string ⟨#[]⟩,.int .i64 0],rfl,rfl,⟨[.string ⟨#[]⟩],[.int .i64 0],rfl,rfl,rfl⟩⟩⟩,fun _ h=>nomatch h⟩
theorem z2046:bw Tryz.prog 46 tDeed d0_2046 []:=⟨(.agg #[.int .i64 0,.string ⟨#[]⟩,.int .i64 0,.slice none 0 0,.slice none 0 0,.int .i64 0,.string ⟨#[]⟩,.string ⟨#[]⟩,.string ⟨#[]⟩,.int .i64 0,.bool false,.bool false,.int .i64 0,.int .i64 0,.string ⟨#[]⟩,.string ⟨#[]⟩,.string ⟨#[]⟩,.string ⟨#[]⟩,.int .i64 0]),by kernel_rfl,fun A w=>⟨[.int .i64 0],[.string ⟨#[]⟩,.int .i64 0,.slice none 0 0,.slice none 0 0,.int .i64 0,.string ⟨#[]⟩,.string ⟨#[]⟩,.string ⟨#[]⟩,.int .i64 0,.bool false,.bool false,.int .i64 0,.int .i64 0,.string ⟨#[]⟩,.string ⟨#[]⟩,.string ⟨#[]⟩,.string ⟨#[]⟩,.int .i64 0],rfl,rfl,⟨[.string ⟨#[]⟩],[.int .i64 0,.slice none 0 0,.slice none 0 0,.int .i64 0,.string ⟨#[]⟩,.string ⟨#[]⟩,.string ⟨#[]⟩,.int .i64 0,.bool false,.bool false,.int .i64 0,.int .i64 0,.string ⟨#[]⟩,.string ⟨#[]⟩,.string ⟨#[]⟩,.string ⟨#[]⟩,.int .i64 0],rfl,rfl,⟨[.int .i64 0],[.slice none 0 0,.slice none 0 0,.int .i64 0,.string ⟨#[]⟩,.string ⟨#[]⟩,.string ⟨#[]⟩,.int .i64 0,.bool false,.bool false,.int .i64 0,.int .i64 0,.string ⟨#[]⟩,.string ⟨#[]⟩,.string ⟨#[]⟩,.string ⟨#[]⟩,.int .i64 0],rfl,rfl,⟨[.slice none 0 0],[.slice none 0 0,.int .i64 0,.string ⟨#[]⟩,.string ⟨#[]⟩,.string ⟨#[]⟩,.int .i64 0,.bool false,.bool false,.int .i64 0,.int .i64 0,.string ⟨#[]⟩,.string ⟨#[]⟩,.string ⟨#[]⟩,.string ⟨#[]⟩,.int .i64 0],rfl,⟨_,rfl,aG _ _ _⟩,⟨[.slice none 0 0],[.int .i64 0,.string ⟨#[]⟩,.string ⟨#[]⟩,.string ⟨#[]⟩,.int .i64 0,.bool false,.bool false,.int .i64 0,.int .i64 0,.string ⟨#[]⟩,.string ⟨#[]⟩,.string ⟨#[]⟩,.string ⟨#[]⟩,.int .i64 0],rfl,⟨_,rfl,aG _ _ _⟩,⟨[.int .i64 0,.string ⟨#[]⟩,.string ⟨#[]⟩,.string ⟨#[]⟩,.int .i64 0,.bool false,.bool false,.int .i64 0,.int .i64 0,.string ⟨#[]⟩],[.string ⟨#[]⟩,.string ⟨#[]⟩,.string ⟨#[]⟩,.int .i64 0],rfl,⟨[.int .i64 0],[.string ⟨#[]⟩,.string ⟨#[]⟩,.string ⟨#[]⟩,.int .i64 0,.bool false,.bool false,.int .i64 0,.int .i64 0,.string ⟨#[]⟩],rfl,rfl,⟨[.string ⟨#[]⟩],[.string ⟨#[]⟩,.string ⟨#[]⟩,.int .i64 0,.bool false,.bool false,.int .i64 0,.int .i64 0,.string ⟨#[]⟩],rfl,rfl,⟨[.string ⟨#[]⟩],[.string ⟨#[]⟩,.int .i64 0,.bool false,.bool false,.int .i64 0,.int .i64 0,.string ⟨#[]⟩],rfl,rfl,⟨[.string ⟨#[]⟩],[.int .i64 0,.bool false,.bool false,.int .i64 0,.int .i64 0,.string ⟨#[]⟩],rfl,rfl,⟨[.int .i64 0],[.bool false,.bool false,.int .i64 0,.int .i64 0,.string ⟨#[]⟩],rfl,rfl,⟨[.bool false],[.bool false,.int .i64 0,.int .i64 0,.string ⟨#[]⟩],rfl,rfl,⟨[.bool false],[.int .i64 0,.int .i64 0,.string ⟨#[]⟩],rfl,rfl,⟨[.int .i64 0],[.int .i64 0,.string ⟨#[]⟩],rfl,rfl,⟨[.int .i64 0],[.string ⟨#[]⟩],rfl,rfl,rfl⟩⟩⟩⟩⟩⟩⟩⟩⟩,⟨[.string ⟨#[]⟩],[.string ⟨#[]⟩,.string ⟨#[]⟩,.int .i64 0],rfl,rfl,⟨[.string ⟨#[]⟩],[.string ⟨#[]⟩,.int .i64 0],rfl,rfl,⟨[.string ⟨#[]⟩],[.int .i64 0],rfl,rfl,rfl⟩⟩⟩⟩⟩⟩⟩⟩⟩,fun _ h=>nomatch h⟩
theorem z27:bw Tryz.prog 59 tTable d0_27 []:=⟨(.agg #[.slice none 0 0,.slice none 0 0,.slice none 0 0,.int .i64 0]),by kernel_rfl,fun A w=>⟨[.slice none 0 0],[.slice none 0 0,.slice none 0 0,.int .i64 0],rfl,⟨_,rfl,aG _ _ _⟩,⟨[.slice none 0 0],[.slice none 0 0,.int .i64 0],rfl,⟨_,rfl,aG _ _ _⟩,⟨[.slice none 0 0],[.int .i64 0],rfl,⟨_,rfl,aG _ _ _⟩,rfl⟩⟩⟩,fun _ h=>nomatch h⟩
theorem z1039:bw Tryz.prog 61 tTab d0_1039 []:=⟨(.agg #[.string ⟨#[]⟩,.slice none 0 0,.slice none 0 0,.slice none 0 0,.int .i64 0]),by kernel_rfl,fun A w=>⟨[.string ⟨#[]⟩],[.slice none 0 0,.slice none 0 0,.slice none 0 0,.int .i64 0],rfl,rfl,⟨[.slice none 0 0],[.slice none 0 0,.slice none 0 0,.int .i64 0],rfl,⟨_,rfl,aG _ _ _⟩,⟨[.slice none 0 0],[.slice none 0 0,.int .i64 0],rfl,⟨_,rfl,aG _ _ _⟩,⟨[.slice none 0 0],[.int .i64 0],rfl,⟨_,rfl,aG _ _ _⟩,rfl⟩⟩⟩⟩,fun _ h=>nomatch h⟩
theorem z37:bw Tryz.prog 66 tRow d0_37 []:=⟨(.agg #[.int .i64 0,.int .i64 0,.slice none 0 0]),by kernel_rfl,fun A w=>⟨[.int .i64 0],[.int .i64 0,.slice none 0 0],rfl,rfl,⟨[.int .i64 0],[.slice none 0 0],rfl,rfl,⟨_,rfl,aG _ _ _⟩⟩⟩,fun _ h=>nomatch h⟩
abbrev au:aL:=⟨.slice none 0 0,.slice none 0 0⟩
theorem aA:bw Tryz.prog 29 tBaseA au []:=⟨(.agg #[.slice none 0 0,.slice none 0 0]),by kernel_rfl,fun A w=>⟨[.slice none 0 0],[.slice none 0 0],rfl,⟨rfl,rfl⟩,⟨rfl,rfl⟩⟩,fun _ h=>nomatch h⟩
theorem conv1026_0 {tabs:List Tab}{tabs_:Value}{links_:Value}:Conv tBaseA ⟨tabs_,links_⟩ tTab tabs_ tabs tl ⟨tabs,links_⟩:=⟨rfl,fun h hr=>by
  obtain ⟨_,_,rfl,h0,h1⟩:=h
  exact ⟨_,_,rfl,⟨_,h0.1,hr⟩,h1⟩⟩
theorem conv1026_1 {tabs:List Tab}{links:List aj}{links_:Value}:Conv tl ⟨tabs,links_⟩ tLink links_ links tBase ⟨tabs,links⟩:=⟨rfl,fun h hr=>by
  obtain ⟨_,_,rfl,h0,h1⟩:=h
  exact ⟨_,_,rfl,h0,⟨_,h1.1,hr⟩⟩⟩
def vN (v:Value):Value×Value:=(x7 0 v,x7 1 v)
theorem nW  {tabs_:Value}{links_:Value}{v:Value}{A:Ar}{w:World}(h:(tBaseA.va ⟨tabs_,links_⟩).f v A w):vN v=(tabs_,links_):=by
  obtain ⟨cs,rfl,h⟩:=h
  obtain ⟨_,_,rfl,h0,h1⟩:=h
  obtain ⟨rfl,-⟩:=h0
  obtain ⟨rfl,-⟩:=h1
  rfl
theorem gO {P:Program}{g:FuncId}{vs:List VA}{O:List Own}{y:Option ac}(hf:aW P g vs O y vN (fun q p=>[arrO tTab p.1 q.tabs,arrO tLink p.2 q.links]) (fun q p=>tBaseA.va ⟨p.1,p.2⟩)):Ctr P g vs O y (fun _ _=>[]) (fun q=>tBase.va q):=
  aW.toCtr (Q:=fun q=>tBase.va q) (aW.frz1 (T':=tBase) (d':=fun q _=>q) (aW.frz1 (d':=fun q p=>(⟨q.tabs,p.2⟩:yZ)) hf fun q p=>conv1026_0) fun q p=>conv1026_1)
abbrev aS:ap:=⟨[],(.slice none 0 0,[]),.slice none 0 0,0⟩
theorem bA:bw Tryz.prog 59 tTableA aS []:=⟨(.agg #[.slice none 0 0,.slice none 0 0,.slice none 0 0,.int .i64 0]),by kernel_rfl,fun A w=>⟨[.slice none 0 0],[.slice none 0 0,.slice none 0 0,.int .i64 0],rfl,⟨_,rfl,aG _ _ _⟩,⟨[.slice none 0 0],[.slice none 0 0,.int .i64 0],rfl,⟨rfl,aG _ _ _⟩,⟨[.slice none 0 0],[.int .i64 0],rfl,⟨rfl,rfl⟩,rfl⟩⟩⟩,fun _ h=>nomatch h⟩
theorem conv27 {first:List Col}{changes:List aa}{rows:List Row}{next:Int}{rows_:Value}{changes_:Value}:Conv tTableA ⟨first,(changes_,changes),rows_,next⟩ tRow rows_ rows tTable ⟨first,changes,rows,next⟩:=⟨rfl,fun h hr=>by
  obtain ⟨_,_,rfl,h0,⟨_,_,rfl,h1,⟨_,_,rfl,h2,h3⟩⟩⟩:=h
  exact ⟨_,_,rfl,h0,⟨_,_,rfl,⟨_,h1.1,h1.2⟩,⟨_,_,rfl,⟨_,h2.1,hr⟩,h3⟩⟩⟩⟩
theorem zQ {d:ab}:BY tTable d tTableA (fun p:Value×Value=>(⟨d.first,(p.2,d.changes),p.1,d.next⟩:ap)):=⟨fun h=>by
  obtain ⟨_,_,rfl,h0,⟨_,_,rfl,⟨changes_,rfl,h1r⟩,⟨_,_,rfl,⟨rows_,rfl,h2r⟩,h3⟩⟩⟩:=h
  exact ⟨(rows_,changes_),⟨_,_,rfl,h0,⟨_,_,rfl,⟨rfl,h1r⟩,⟨_,_,rfl,⟨rfl,h2r.plain⟩,h3⟩⟩⟩⟩⟩
def tb (v:Value):Value×Value:=(x7 2 v,x7 1 v)
theorem bI {first:List Col}{changes:List aa}{next:Int}{rows_:Value}{changes_:Value}{v:Value}{A:Ar}{w:World}(h:(tTableA.va ⟨first,(changes_,changes),rows_,next⟩).f v A w):tb v=(rows_,changes_):=by
  obtain ⟨cs,rfl,h⟩:=h
  obtain ⟨_,_,rfl,h0,⟨_,_,rfl,h1,⟨_,_,rfl,h2,h3⟩⟩⟩:=h
  obtain ⟨_,rfl,-⟩:=h0
  obtain ⟨rfl,-⟩:=h1
  obtain ⟨rfl,-⟩:=h2
  cases h3
  rfl
theorem wH {P:Program}{g:FuncId}{vs:List VA}{O:List Own}{y:Option (ab×Int)}(hf:aW P g vs O y (fun v=>tb (yt 0 v)) (fun q p=>[arrO tRow p.1 q.1.rows]) (fun q p=>tup [tTableA.va ⟨q.1.first,(p.2,q.1.changes),p.1,q.1.next⟩,isI .i64 q.2])):Ctr P g vs O y (fun _ _=>[]) (fun q=>tup [tTable.va q.1,isI .i64 q.2]):=aW.toCtr (Q:=fun (q:ab×Int)=>tup [tTable.va q.1,isI .i64 q.2]) (aW.frz1t (T':=tTable) (d':=fun q _=>q.1) hf fun q p=>conv27)
theorem kN {P:Program}{g:FuncId}{vs:List VA}{O:List Own}{y:Option ab}(hf:aW P g vs O y tb (fun q p=>[arrO tRow p.1 q.rows]) (fun q p=>tTableA.va ⟨q.first,(p.2,q.changes),p.1,q.next⟩)):Ctr P g vs O y (fun _ _=>[]) (fun q=>tTable.va q):=aW.plainT hf fun q p=>conv27
theorem wG {P:Program}{g:FuncId}{vs:List VA}{O:List Own}{y:Option ab}(hf:aW P g vs O y tb (fun q p=>[arrO tRow p.1 q.rows,appO 10 p.2]) (fun q p=>tTableA.va ⟨q.first,(p.2,q.changes),p.1,q.next⟩)):Ctr P g vs O y (fun _ _=>[]) (fun q=>tTable.va q):=aW.plainT (hf.sub fun q p=>.cons_cons _ (.cons _ .slnil)) fun q p=>conv27
theorem BH (n:Nat)(a b:Int)(w:World):(Op.equalIn (n+1) 3 (.int .i64 a) (.int .i64 b)).run Tryz.prog w=.ok (decide (a=b)) w:=by
  rw [Op.equalIn];simp [run_underlying Tryz.underlying3,Ay]
theorem zj (w:World):(isAgg 3).run Tryz.prog w=.ok false w:=by simp [isAgg,run_underlying Tryz.underlying3]
theorem BE (n:Nat)(a b:List UInt8)(w:World):(Op.equalIn (n+1) 9 (str a) (str b)).run Tryz.prog w=.ok (decide (a=b)) w:=by
  rw [Op.equalIn]
  have:((⟨a.toArray⟩:ByteArray) == ⟨b.toArray⟩)=decide (a=b):=by
    show (a.toArray == b.toArray)=_
    rw [Ay];simp
  simp [run_underlying Tryz.underlying9,str,this]
theorem zi (w:World):(isAgg 9).run Tryz.prog w=.ok false w:=by simp [isAgg,run_underlying Tryz.underlying9]
set_option linter.unusedSimpArgs false in
theorem BG (n:Nat)(a b:Val)(c2001 c2002:List Value)(A:Ar)(w:World)(h:tVal.rel a c2001 A w)(g:tVal.rel b c2002 A w):(Op.equalIn (n+2) 38 (.agg c2001.toArray) (.agg c2002.toArray)).run Tryz.prog w=.ok (decide (a=b)) w:=by
  have stood:Tryz.prog.stoodInHeld 38=false:=by kernel_rfl
  obtain ⟨_,_,rfl,h3,⟨_,_,rfl,h2,h0⟩⟩:=h
  cases h3
  cases h2
  cases h0
  obtain ⟨_,_,rfl,g3,⟨_,_,rfl,g2,g0⟩⟩:=g
  cases g3
  cases g2
  cases g0
  rw [Op.equalIn]
  simp [run_underlying Tryz.underlying38,stood,part,BH,BE,zj,zi]
  have e:decide (a=b)=(decide (a.kind=b.kind)&&decide (a.n=b.n)&&decide (a.text=b.text)):=by cases a;cases b;simp [Bool.and_assoc]
  rw [e]
  by_cases e0:a.kind=b.kind<;>by_cases e1:a.n=b.n<;>by_cases e2:a.text=b.text<;>simp [e0,e1,e2]
theorem eq47:EqAt Tryz.prog 38 tVal:=⟨by kernel_rfl,rfl,fun a b c2001 c2002 A w h g=>BG 9998 a b c2001 c2002 A w h g⟩
theorem Di (n:Nat)(a b:Bool)(w:World):(Op.equalIn (n+1) 4 (.bool a) (.bool b)).run Tryz.prog w=.ok (decide (a=b)) w:=by
  rw [Op.equalIn];simp [run_underlying Tryz.underlying4,Ay]
theorem Dg (w:World):(isAgg 4).run Tryz.prog w=.ok false w:=by simp [isAgg,run_underlying Tryz.underlying4]
theorem Ct (w:World):(isAgg 38).run Tryz.prog w=.ok true w:=by simp [isAgg,run_underlying Tryz.underlying38]
set_option linter.unusedSimpArgs false in
theorem BF (n:Nat)(a b:Col)(c2001 c2002:List Value)(A:Ar)(w:World)(h:tCol.rel a c2001 A w)(g:tCol.rel b c2002 A w):(Op.equalIn (n+3) 40 (.agg c2001.toArray) (.agg c2002.toArray)).run Tryz.prog w=.ok (decide (a=b)) w:=by
  have stood:Tryz.prog.stoodInHeld 40=false:=by kernel_rfl
  obtain ⟨_,_,rfl,h5,⟨_,_,rfl,h4,⟨_,_,rfl,h3,⟨_,_,rfl,h2,h0⟩⟩⟩⟩:=h
  cases h5
  cases h4
  cases h3
  cases h2
  obtain ⟨_,_,rfl,g5,⟨_,_,rfl,g4,⟨_,_,rfl,g3,⟨_,_,rfl,g2,g0⟩⟩⟩⟩:=g
  cases g5
  cases g4
  cases g3
  cases g2
  have ph0:=tVal.len h0
  have pg0:=tVal.len g0
  have qh0:=fun n=>BG n _ _ _ _ A w h0 g0
  have th0:=List.take_of_length_le (Nat.le_of_eq (show _=3 from tVal.len h0))
  have tg0:=List.take_of_length_le (Nat.le_of_eq (show _=3 from tVal.len g0))
  rw [Op.equalIn]
  simp [run_underlying Tryz.underlying40,stood,part,BH,Di,BE,zj,Dg,zi,Ct,(ti).sizeOf,ph0,pg0]
  have e:decide (a=b)=(decide (a.name=b.name)&&decide (a.kind=b.kind)&&decide (a.need=b.need)&&decide (a.once=b.once)&&decide (a.def_=b.def_)):=by cases a;cases b;simp [Bool.and_assoc]
  rw [e]
  by_cases e0:a.name=b.name<;>by_cases e1:a.kind=b.kind<;>by_cases e2:a.need=b.need<;>by_cases e3:a.once=b.once<;>by_cases e4:a.def_=b.def_<;>simp [e0,e1,e2,e3,e4,qh0,th0,tg0]
theorem Av:EqAt Tryz.prog 40 tCol:=⟨by kernel_rfl,rfl,fun a b c2001 c2002 A w h g=>BF 9997 a b c2001 c2002 A w h g⟩
theorem Cs (w:World):(isAgg 40).run Tryz.prog w=.ok true w:=by simp [isAgg,run_underlying Tryz.underlying40]
set_option linter.unusedSimpArgs false in
theorem Cv (n:Nat)(a b:aa)(c2001 c2002:List Value)(A:Ar)(w:World)(h:tChange.rel a c2001 A w)(g:tChange.rel b c2002 A w):(Op.equalIn (n+4) 42 (.agg c2001.toArray) (.agg c2002.toArray)).run Tryz.prog w=.ok (decide (a=b)) w:=by
  have stood:Tryz.prog.stoodInHeld 42=false:=by kernel_rfl
  obtain ⟨_,_,rfl,h4,⟨_,_,rfl,h3,⟨_,_,rfl,h2,h0⟩⟩⟩:=h
  cases h4
  cases h3
  cases h2
  obtain ⟨_,_,rfl,g4,⟨_,_,rfl,g3,⟨_,_,rfl,g2,g0⟩⟩⟩:=g
  cases g4
  cases g3
  cases g2
  have ph0:=tCol.len h0
  have pg0:=tCol.len g0
  have qh0:=fun n=>BF n _ _ _ _ A w h0 g0
  have th0:=List.take_of_length_le (Nat.le_of_eq (show _=7 from tCol.len h0))
  have tg0:=List.take_of_length_le (Nat.le_of_eq (show _=7 from tCol.len g0))
  rw [Op.equalIn]
  simp [run_underlying Tryz.underlying42,stood,part,BH,BE,zj,zi,Cs,(AG).sizeOf,ph0,pg0]
  have e:decide (a=b)=(decide (a.kind=b.kind)&&decide (a.name=b.name)&&decide (a.new=b.new)&&decide (a.col=b.col)):=by cases a;cases b;simp [Bool.and_assoc]
  rw [e]
  by_cases e0:a.kind=b.kind<;>by_cases e1:a.name=b.name<;>by_cases e2:a.new=b.new<;>by_cases e3:a.col=b.col<;>simp [e0,e1,e2,e3,qh0,th0,tg0]
theorem Cf:EqAt Tryz.prog 42 tChange:=⟨by kernel_rfl,rfl,fun a b c2001 c2002 A w h g=>Cv 9996 a b c2001 c2002 A w h g⟩
set_option linter.unusedSimpArgs false in
theorem zN (n:Nat)(a b:aj)(c2001 c2002:List Value)(A:Ar)(w:World)(h:tLink.rel a c2001 A w)(g:tLink.rel b c2002 A w):(Op.equalIn (n+2) 44 (.agg c2001.toArray) (.agg c2002.toArray)).run Tryz.prog w=.ok (decide (a=b)) w:=by
  have stood:Tryz.prog.stoodInHeld 44=false:=by kernel_rfl
  obtain ⟨_,_,rfl,h4,⟨_,_,rfl,h3,⟨_,_,rfl,h2,h0⟩⟩⟩:=h
  cases h4
  cases h3
  cases h2
  cases h0
  obtain ⟨_,_,rfl,g4,⟨_,_,rfl,g3,⟨_,_,rfl,g2,g0⟩⟩⟩:=g
  cases g4
  cases g3
  cases g2
  cases g0
  rw [Op.equalIn]
  simp [run_underlying Tryz.underlying44,stood,part,BH,BE,zj,zi]
  have e:decide (a=b)=(decide (a.from_=b.from_)&&decide (a.col=b.col)&&decide (a.to=b.to)&&decide (a.how=b.how)):=by cases a;cases b;simp [Bool.and_assoc]
  rw [e]
  by_cases e0:a.from_=b.from_<;>by_cases e1:a.col=b.col<;>by_cases e2:a.to=b.to<;>by_cases e3:a.how=b.how<;>simp [e0,e1,e2,e3]
theorem vC:EqAt Tryz.prog 44 tLink:=⟨by kernel_rfl,rfl,fun a b c2001 c2002 A w h g=>zN 9998 a b c2001 c2002 A w h g⟩
theorem qr (a:Array UInt8):((⟨a⟩:ByteArray) == ⟨a⟩)=true:=by show (a == a)=true;simp
theorem vM (a b:List UInt8):((⟨a.toArray⟩:ByteArray) == ⟨b.toArray⟩)=decide (a=b):=by
  show (a.toArray == b.toArray)=_
  rw [Ay];simp
def yy (k:Val):Value:=.agg #[.int .i64 k.kind,.int .i64 k.n,str k.text]
theorem AZ:pj Tryz.prog 38 tVal yy where
  val h:=by
    obtain ⟨cs,rfl,h⟩:=h
    obtain ⟨_,_,rfl,h3,⟨_,_,rfl,h2,h1⟩⟩:=h
    cases h3;cases h2;cases h1;rfl
  chk e k w:=by
    have h3:∀ a:Int,(Instr.checkKey e (9998+1) 3 (.int .i64 a)).run Tryz.prog w=.ok () w:=fun a=>MapKept.run_checkKey (w:=w) Tryz.underlying3 (by simp [MapKept.IsKey]) e 9998
    have h9:∀ a:ByteArray,(Instr.checkKey e (9998+1) 9 (.string a)).run Tryz.prog w=.ok () w:=fun a=>MapKept.run_checkKey (w:=w) Tryz.underlying9 (by simp [MapKept.IsKey]) e 9998
    show (Instr.checkKey e (9998+1+1) 38 (yy k)).run Tryz.prog w=_
    rw [Instr.checkKey]
    simp [run_underlying Tryz.underlying38,yy,str,part,zj,h3,zi,h9]
  eq a b w:=eq47.h a b [.int .i64 a.kind,.int .i64 a.n,str a.text] [.int .i64 b.kind,.int .i64 b.n,str b.text] (fun _ _=>True) w ⟨[_],[_,_],rfl,rfl,[_],[_],rfl,rfl,rfl⟩ ⟨[_],[_,_],rfl,rfl,[_],[_],rfl,rfl,rfl⟩
  bits k:=by simp [Instr.sameBits,yy,str,qr]
  now:=⟨_,Tryz.underlying38,.inr fun a b=>by simp [Instr.sameNow,yy]⟩
theorem B5:pj Tryz.prog 9 tS str where
  val h:=h
  chk e k w:=by unfold Instr.checkKey;simp [run_underlying Tryz.underlying9,str]
  eq a b w:=by
    unfold Op.equal Op.maxDepth
    rw [Op.equalIn]
    simp [run_underlying Tryz.underlying9,str,vM]
  bits k:=by simp [Instr.sameBits,str,qr]
  now:=⟨_,Tryz.underlying9,.inl fun a b=>by simp [Instr.sameNow,str,vM]⟩
theorem bs {α β:Type}(a:α)(f:α→Option β):(some a).bind f=f a:=rfl
theorem ct {α:Type}{a b:α}:cond true a b=a:=rfl
theorem cf {α:Type}{a b:α}:cond false a b=b:=rfl
theorem tn (n:Nat):(n:Int).toNat=n:=rfl
theorem df {p:Prop}[h:Decidable p](h2:¬p):decide p=false:=decide_eq_false h2
theorem dt {p:Prop}[h:Decidable p](h2:p):decide p=true:=decide_eq_true h2
def u3:=@Tryz.underlying3
def u4:=@Tryz.underlying4
def u5:=@Tryz.underlying5
def u9:=@Tryz.underlying9
def u22:=@Tryz.underlying22
def u26:=@Tryz.underlying26
def u27:=@Tryz.underlying27
def u32:=@Tryz.underlying32
def u35:=@Tryz.underlying35
def u36:=@Tryz.underlying36
def u56:=@Tryz.underlying56
def u57:=@Tryz.underlying57
def u62:=@Tryz.underlying62
def Cn:=@Tryz.underlying109
def C0:=@Tryz.underlying124
def u143:=@Tryz.underlying143
def Cm:=@Tryz.underlying146
def CI:=@Tryz.underlying169
def Ag:=@Tryz.underlying182
def B1:=@Tryz.underlying193
def BZ:=@Tryz.underlying198
def CZ:=@Tryz.underlying216
end Go.Proofs.YtganfdhmkdehlaaGreatDoor
