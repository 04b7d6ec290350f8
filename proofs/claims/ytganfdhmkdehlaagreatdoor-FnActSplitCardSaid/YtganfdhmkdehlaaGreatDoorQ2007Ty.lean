/- A logic of slots. -/
import Derived.Test.YtganfdhmkdehlaaGreatDoorQ2007HL
import Derived.Test.YtganfdhmkdehlaaGreatDoorProg
import Derived.KernelRfl
set_option linter.all false
namespace Go.HL
theorem z {α:Sort _}{a:α}:a=a:=rfl
abbrev Nm (P:Go.Program)(i:Nat):Prop:=∃ fn c, P.funcs[i]? = some fn∧(fn.name == "runtime.NumGoroutine") = false∧fn.body = some c
theorem nmK {P:Go.Program}{i:Nat}{fn}(a:P.funcs[i]?=some fn)(b:(fn.name == "runtime.NumGoroutine")=false:=by kernel_rfl)(d:fn.body.isSome=true:=by kernel_rfl):Nm P i:=by
 cases h:fn.body with
 |none=>rw [h] at d;cases d
 |some c=>exact ⟨fn,c,a,b,h⟩
theorem cE.k {P t s a}(x:(P.info? t).map (·.size)=some s:=by kernel_rfl)(y:(P.underlying t).map GE=some a:=by kernel_rfl):cE P t s a:=⟨x,y⟩
theorem a7.k {P t i o}(x:(P.underlying t).bind (fun | .struct fs => (fs[i]?).map (·.offset) | _ => none)=some o:=by kernel_rfl)(y:((P.underlying t).bind (fun | .struct fs => (fs[i]?).bind (fun fd => (P.info? fd.type).map (·.size)) | _ => none)).map (fun n => Nat.beq n 0)=some false:=by kernel_rfl):a7 P t i o:=⟨x,y⟩
theorem gq.k {P t s}(x:(P.info? t).map (fun i => (i.size, i.zero.map (·.cells.size), Nat.ble i.bytes 16384))=some (s,some s,true):=by kernel_rfl):gq P t s:=⟨x⟩
theorem pI.k {P t s}(x:(P.underlying t).bind (fun | .struct fs => fs.toList.mapM (fun f => (P.info? f.type).map fun i => (f.offset, i.size)) | _ => none)=some s:=by kernel_rfl):pI P t s:=⟨x⟩
theorem Steps.k {P e B arr S0 E o l d Q E'}(f:∀ {Kp:Unit→Go.Act→Go.World→Prop} {S:List (Nat×Ent)} {A:List Own},B A→Ext (rz E o++S0) S→WO P e Kp arr [] ⟨(d,Q)::S,A⟩ (some ())→WO P e Kp arr [o] ⟨S,A⟩ (some ()))(t:Steps P e B arr S0 E l E'):Steps P e B arr S0 E (o::l) (some (d,Q)::E'):=.cons (fun _ _ _ p e=>f p e) t
theorem W.cd {P f e}{ρ:Type}{R:ρ→Go.Value→Go.World→Prop}{k K}{c:Go.Operand}{x y:Go.Code}{b:Bool}{ov:Option Go.Value}{r1 r2:Option ρ}(hc:ay K.S c=some (isB b,ov))(h1:W P f e R (.code x::k) K r1)(h2:W P f e R (.code y::k) K r2):W P f e R (.code (.cond c x y)::k) K (_root_.cond b r1 r2):=W.cond hc (fun _=>h1) (fun _=>h2)
theorem Steps.j {P e B arr S0 E o l d Q E'}(f:∀ {Kp:Unit→Go.Act→Go.World→Prop} {S:List (Nat×Ent)} {A:List Own},(∀ {x:Go.Operand} {Q:Ent},ay (rz E o++S0) x=some Q→ay S x=some Q)→WO P e Kp arr [] ⟨(d,Q)::S,A⟩ (some ())→WO P e Kp arr [o] ⟨S,A⟩ (some ()))(t:Steps P e B arr S0 E l E'):Steps P e B arr S0 E (o::l) (some (d,Q)::E'):=.cons (fun _ _ _ _ e=>f (e.op ·)) t
theorem Steps.f {P e B arr S0 E}{j dj:Nat}{op:Go.Op}{l d E'}{ty:Go.TypeId}{pos:String}{af:Array Go.Edge}{b:Bool}{ov:Option Go.Value}(hj:(arr[j]?).bind (·.dst)=some dj)(hb:look (rz E { dst:=some d,op:=op,type:=ty,pos:=pos,after:=af,guard:=some (j,b) }++S0) dj=some (isB !b,ov))(hd:Nat.ble (d+1) e.N=true)(t:Steps P e B arr S0 E l E'):Steps P e B arr S0 E ({ dst:=some d,op:=op,type:=ty,pos:=pos,after:=af,guard:=some (j,b) }::l) (some (d,(isV undef,none))::E'):=.cons (fun _ _ _ _ e=>.off hj (e _ _ hb) hd) t
theorem WO.an {P e}{ρ:Type}{f k}{R:ρ→Go.Value→Go.World→Prop}{arr:Array Oper}{S B r d}{ty:Go.TypeId}{pos:String}{af:Array Go.Edge}{x:Go.Operand}{Q:Ent}(hx:ay S x=some Q)(hd:Nat.ble (d+1) e.N=true)(h:W P f e R k ⟨(d,Q)::S,B⟩ r):WO P e (fun x a w=>Run P f k a w (R x)) arr [mkOp d (.assign x) ty pos af] ⟨S,B⟩ r:=.a hx hd (.nil h)
theorem _root_.List.Sublist.c {α:Type _}{l m:List α}{a:α}(h:l.Sublist m):l.Sublist (a::m):=.cons a h
theorem _root_.List.Sublist.d {α:Type _}{l m:List α}{a:α}(h:l.Sublist m):(a::l).Sublist (a::m):=.cons_cons a h
theorem _root_.List.Sublist.e {α:Type _}:List.Sublist (α:=α) [] []:=.slnil
theorem W.s {P e}{ρ:Type}{f k}{R:ρ→Go.Value→Go.World→Prop}{K r}{id:Nat}{ops:Array Oper}{y:Go.Code}(h:WO P e (fun x a w=>Run P f (.code y::k) a w (R x)) ops ops.toList K r):W P f e R (.code (.seq (.region id ops false) y)::k) K r:=.seq (.g h)
end Go.HL
namespace Go.Proofs.YtganfdhmkdehlaaGreatDoor
open Go Go.HL
structure Val where
  kind:Int
  n:Int
  text:List UInt8
  deriving DecidableEq,Inhabited
def tVal:Ty Val:=((tI .i64).x ((tI .i64).x tS)).iso fun d=>(d.kind,d.n,d.text)
theorem o0:Fld tVal 0 (tI .i64) (fun d=>d.kind) (fun d x=>{ d with kind:=x }):=Fld.iso Fld.fst fun _ _=>rfl
theorem rQ:Fld tVal 1 (tI .i64) (fun d=>d.n) (fun d x=>{ d with n:=x }):=Fld.iso (Fld.snd Fld.fst) fun _ _=>rfl
theorem zB:Fld tVal 2 tS (fun d=>d.text) (fun d x=>{ d with text:=x }):=Fld.iso (Fld.snd Fld.last) fun _ _=>rfl
structure Col where
  name:List UInt8
  kind:Int
  need:Bool
  once:Bool
  def_:Val
  deriving DecidableEq,Inhabited
def tCol:Ty Col:=(tS.x ((tI .i64).x (tB.x (tB.x tVal)))).iso fun d=>(d.name,d.kind,d.need,d.once,d.def_)
theorem mC:Fld tCol 0 tS (fun d=>d.name) (fun d x=>{ d with name:=x }):=Fld.iso Fld.fst fun _ _=>rfl
theorem jJ:Fld tCol 1 (tI .i64) (fun d=>d.kind) (fun d x=>{ d with kind:=x }):=Fld.iso (Fld.snd Fld.fst) fun _ _=>rfl
theorem mB:Fld tCol 2 tB (fun d=>d.need) (fun d x=>{ d with need:=x }):=Fld.iso (Fld.snd (Fld.snd Fld.fst)) fun _ _=>rfl
theorem zC:Fld tCol 3 tB (fun d=>d.once) (fun d x=>{ d with once:=x }):=Fld.iso (Fld.snd (Fld.snd (Fld.snd Fld.fst))) fun _ _=>rfl
theorem fCol_4:Fld tCol 4 tVal (fun d=>d.def_) (fun d x=>{ d with def_:=x }):=Fld.iso (Fld.snd (Fld.snd (Fld.snd Fld.last))) fun _ _=>rfl
structure aa where
  kind:Int
  name:List UInt8
  new:List UInt8
  col:Col
  deriving DecidableEq,Inhabited
def tChange:Ty aa:=((tI .i64).x (tS.x (tS.x tCol))).iso fun d=>(d.kind,d.name,d.new,d.col)
theorem o3:Fld tChange 0 (tI .i64) (fun d=>d.kind) (fun d x=>{ d with kind:=x }):=Fld.iso Fld.fst fun _ _=>rfl
theorem ij:Fld tChange 1 tS (fun d=>d.name) (fun d x=>{ d with name:=x }):=Fld.iso (Fld.snd Fld.fst) fun _ _=>rfl
theorem o1:Fld tChange 2 tS (fun d=>d.new) (fun d x=>{ d with new:=x }):=Fld.iso (Fld.snd (Fld.snd Fld.fst)) fun _ _=>rfl
theorem fChange_3:Fld tChange 3 tCol (fun d=>d.col) (fun d x=>{ d with col:=x }):=Fld.iso (Fld.snd (Fld.snd Fld.last)) fun _ _=>rfl
structure Row where
  id:Int
  ver:Int
  vals:List Val
  deriving DecidableEq,Inhabited
def tRow:Ty Row:=((tI .i64).x ((tI .i64).x (tL tVal))).iso fun d=>(d.id,d.ver,d.vals)
theorem bH:Fld tRow 0 (tI .i64) (fun d=>d.id) (fun d x=>{ d with id:=x }):=Fld.iso Fld.fst fun _ _=>rfl
theorem a8:Fld tRow 1 (tI .i64) (fun d=>d.ver) (fun d x=>{ d with ver:=x }):=Fld.iso (Fld.snd Fld.fst) fun _ _=>rfl
theorem dy:Fld tRow 2 (tL tVal) (fun d=>d.vals) (fun d x=>{ d with vals:=x }):=Fld.iso (Fld.snd Fld.last) fun _ _=>rfl
structure ab where
  first:List Col
  changes:List aa
  rows:List Row
  next:Int
  deriving DecidableEq,Inhabited
def tTable:Ty ab:=((tL tCol).x ((tL tChange).x ((tL tRow).x (tI .i64)))).iso fun d=>(d.first,d.changes,d.rows,d.next)
theorem dN:Fld tTable 0 (tL tCol) (fun d=>d.first) (fun d x=>{ d with first:=x }):=Fld.iso Fld.fst fun _ _=>rfl
theorem br:Fld tTable 1 (tL tChange) (fun d=>d.changes) (fun d x=>{ d with changes:=x }):=Fld.iso (Fld.snd Fld.fst) fun _ _=>rfl
theorem fTable_2:Fld tTable 2 (tL tRow) (fun d=>d.rows) (fun d x=>{ d with rows:=x }):=Fld.iso (Fld.snd (Fld.snd Fld.fst)) fun _ _=>rfl
theorem dM:Fld tTable 3 (tI .i64) (fun d=>d.next) (fun d x=>{ d with next:=x }):=Fld.iso (Fld.snd (Fld.snd Fld.last)) fun _ _=>rfl
structure Tab where
  name:List UInt8
  table:ab
  deriving DecidableEq,Inhabited
def tTab:Ty Tab:=(tS.x tTable).iso fun d=>(d.name,d.table)
theorem eA:Fld tTab 0 tS (fun d=>d.name) (fun d x=>{ d with name:=x }):=Fld.iso Fld.fst fun _ _=>rfl
theorem fTab_1:Fld tTab 1 tTable (fun d=>d.table) (fun d x=>{ d with table:=x }):=Fld.iso Fld.last fun _ _=>rfl
structure aj where
  from_:List UInt8
  col:List UInt8
  to:List UInt8
  how:Int
  deriving DecidableEq,Inhabited
def tLink:Ty aj:=(tS.x (tS.x (tS.x (tI .i64)))).iso fun d=>(d.from_,d.col,d.to,d.how)
theorem lA:Fld tLink 0 tS (fun d=>d.from_) (fun d x=>{ d with from_:=x }):=Fld.iso Fld.fst fun _ _=>rfl
theorem jt:Fld tLink 1 tS (fun d=>d.col) (fun d x=>{ d with col:=x }):=Fld.iso (Fld.snd Fld.fst) fun _ _=>rfl
theorem nB:Fld tLink 2 tS (fun d=>d.to) (fun d x=>{ d with to:=x }):=Fld.iso (Fld.snd (Fld.snd Fld.fst)) fun _ _=>rfl
theorem lz:Fld tLink 3 (tI .i64) (fun d=>d.how) (fun d x=>{ d with how:=x }):=Fld.iso (Fld.snd (Fld.snd Fld.last)) fun _ _=>rfl
structure ac where
  tabs:List Tab
  links:List aj
  deriving DecidableEq,Inhabited
def tBase:Ty ac:=((tL tTab).x (tL tLink)).iso fun d=>(d.tabs,d.links)
theorem fBase_0:Fld tBase 0 (tL tTab) (fun d=>d.tabs) (fun d x=>{ d with tabs:=x }):=Fld.iso Fld.fst fun _ _=>rfl
theorem gL:Fld tBase 1 (tL tLink) (fun d=>d.links) (fun d x=>{ d with links:=x }):=Fld.iso Fld.last fun _ _=>rfl
structure Set where
  name:List UInt8
  val:Val
  deriving DecidableEq,Inhabited
def tSet:Ty Set:=(tS.x tVal).iso fun d=>(d.name,d.val)
theorem mA:Fld tSet 0 tS (fun d=>d.name) (fun d x=>{ d with name:=x }):=Fld.iso Fld.fst fun _ _=>rfl
theorem fSet_1:Fld tSet 1 tVal (fun d=>d.val) (fun d x=>{ d with val:=x }):=Fld.iso Fld.last fun _ _=>rfl
structure aQ where
  kind:Int
  name:List UInt8
  id:Int
  sets:List Set
  cols:List Col
  change:aa
  link:aj
  deriving DecidableEq,Inhabited
def tDeed:Ty aQ:=((tI .i64).x (tS.x ((tI .i64).x ((tL tSet).x ((tL tCol).x (tChange.x tLink)))))).iso fun d=>(d.kind,d.name,d.id,d.sets,d.cols,d.change,d.link)
theorem vc:Fld tDeed 0 (tI .i64) (fun d=>d.kind) (fun d x=>{ d with kind:=x }):=Fld.iso Fld.fst fun _ _=>rfl
theorem u7:Fld tDeed 1 tS (fun d=>d.name) (fun d x=>{ d with name:=x }):=Fld.iso (Fld.snd Fld.fst) fun _ _=>rfl
theorem u6:Fld tDeed 2 (tI .i64) (fun d=>d.id) (fun d x=>{ d with id:=x }):=Fld.iso (Fld.snd (Fld.snd Fld.fst)) fun _ _=>rfl
theorem qv:Fld tDeed 3 (tL tSet) (fun d=>d.sets) (fun d x=>{ d with sets:=x }):=Fld.iso (Fld.snd (Fld.snd (Fld.snd Fld.fst))) fun _ _=>rfl
theorem qu:Fld tDeed 4 (tL tCol) (fun d=>d.cols) (fun d x=>{ d with cols:=x }):=Fld.iso (Fld.snd (Fld.snd (Fld.snd (Fld.snd Fld.fst)))) fun _ _=>rfl
theorem fDeed_5:Fld tDeed 5 tChange (fun d=>d.change) (fun d x=>{ d with change:=x }):=Fld.iso (Fld.snd (Fld.snd (Fld.snd (Fld.snd (Fld.snd Fld.fst))))) fun _ _=>rfl
theorem qt:Fld tDeed 15 tLink (fun d=>d.link) (fun d x=>{ d with link:=x }):=Fld.iso (Fld.snd (Fld.snd (Fld.snd (Fld.snd (Fld.snd Fld.last))))) fun _ _=>rfl
structure Rd where
  b:List Int
  p:Int
  deriving DecidableEq,Inhabited
def tRd:Ty Rd:=((tL (tI .u8)).x (tI .i64)).iso fun d=>(d.b,d.p)
theorem qr:Fld tRd 0 (tL (tI .u8)) (fun d=>d.b) (fun d x=>{ d with b:=x }):=Fld.iso Fld.fst fun _ _=>rfl
theorem Fh:Fld tRd 1 (tI .i64) (fun d=>d.p) (fun d x=>{ d with p:=x }):=Fld.iso Fld.last fun _ _=>rfl
structure Ref where
  name:List UInt8
  id:Int
  deriving DecidableEq,Inhabited
def tRef:Ty Ref:=(tS.x (tI .i64)).iso fun d=>(d.name,d.id)
theorem u4:Fld tRef 0 tS (fun d=>d.name) (fun d x=>{ d with name:=x }):=Fld.iso Fld.fst fun _ _=>rfl
theorem u0:Fld tRef 1 (tI .i64) (fun d=>d.id) (fun d x=>{ d with id:=x }):=Fld.iso Fld.last fun _ _=>rfl
structure aL where
  tabs:Value
  links:Value
def tBaseA:Ty aL:=(tRaw.x tRaw).iso fun d=>(d.tabs,d.links)
theorem aD:Fld tBaseA 0 tRaw (fun d=>d.tabs) (fun d x=>{ d with tabs:=x }):=Fld.iso Fld.fst fun _ _=>rfl
theorem bF:Fld tBaseA 1 tRaw (fun d=>d.links) (fun d x=>{ d with links:=x }):=Fld.iso Fld.last fun _ _=>rfl
structure zR where
  tabs:List Tab
  links:Value
def ub:Ty zR:=((tL tTab).x tRaw).iso fun d=>(d.tabs,d.links)
structure aq where
  first:List Col
  changes:Value×List aa
  rows:Value
  next:Int
def tTableA:Ty aq:=((tL tCol).x ((tLk tChange).x (tRaw.x (tI .i64)))).iso fun d=>(d.first,d.changes,d.rows,d.next)
theorem aJ:Fld tTableA 0 (tL tCol) (fun d=>d.first) (fun d x=>{ d with first:=x }):=Fld.iso Fld.fst fun _ _=>rfl
theorem az:Fld tTableA 1 (tLk tChange) (fun d=>d.changes) (fun d x=>{ d with changes:=x }):=Fld.iso (Fld.snd Fld.fst) fun _ _=>rfl
theorem fTableA_2:Fld tTableA 2 tRaw (fun d=>d.rows) (fun d x=>{ d with rows:=x }):=Fld.iso (Fld.snd (Fld.snd Fld.fst)) fun _ _=>rfl
theorem aM:Fld tTableA 3 (tI .i64) (fun d=>d.next) (fun d x=>{ d with next:=x }):=Fld.iso (Fld.snd (Fld.snd Fld.last)) fun _ _=>rfl
abbrev Fp:Bool:=false
abbrev d0_1026:ac:=⟨[],[]⟩
abbrev d0_47:Val:=⟨0,0,[]⟩
abbrev d0_52:Col:=⟨[],0,false,false,⟨0,0,[]⟩⟩
abbrev d0_56:aa:=⟨0,[],[],⟨[],0,false,false,⟨0,0,[]⟩⟩⟩
abbrev d0_1044:aj:=⟨[],[],[],0⟩
abbrev d0_2046:aQ:=⟨0,[],0,[],[],⟨0,[],[],⟨[],0,false,false,⟨0,0,[]⟩⟩⟩,⟨[],[],[],0⟩⟩
abbrev d0_27:ab:=⟨[],[],[],0⟩
abbrev d0_1039:Tab:=⟨[],⟨[],[],[],0⟩⟩
abbrev d0_37:Row:=⟨0,0,[]⟩
abbrev d0_107:Rd:=⟨[],0⟩
abbrev d0_49:Set:=⟨[],⟨0,0,[]⟩⟩
abbrev lV:Ref:=⟨[],0⟩
theorem mix:Tryz.prog.follows .mixedOrders=true:=by kernel_rfl
theorem zN:gq Tryz.prog 126 4:=.k
theorem pt:gq Tryz.prog 146 2:=.k
theorem el3:gq Tryz.prog 3 1:=.k
theorem fv:gq Tryz.prog 38 3:=.k
theorem cu:gq Tryz.prog 40 7:=.k
theorem jR:gq Tryz.prog 42 10:=.k
theorem gG:gq Tryz.prog 44 4:=.k
theorem ps:gq Tryz.prog 46 19:=.k
theorem el5:gq Tryz.prog 5 1:=.k
theorem dh:gq Tryz.prog 61 5:=.k
theorem BK:gq Tryz.prog 62 1:=.k
theorem jA:gq Tryz.prog 66 3:=.k
theorem el9:gq Tryz.prog 9 1:=.k
theorem jr:a7 Tryz.prog 105 0 0:=.k
theorem Aw:a7 Tryz.prog 105 1 1:=.k
theorem oZ:a7 Tryz.prog 126 0 0:=.k
theorem oY:a7 Tryz.prog 126 1 1:=.k
theorem rO:a7 Tryz.prog 146 0 0:=.k
theorem rN:a7 Tryz.prog 146 1 1:=.k
theorem fa1026_0:a7 Tryz.prog 29 0 0:=.k
theorem ci:a7 Tryz.prog 29 1 1:=.k
theorem zA:a7 Tryz.prog 38 0 0:=.k
theorem uX:a7 Tryz.prog 38 1 1:=.k
theorem zy:a7 Tryz.prog 38 2 2:=.k
theorem zx:a7 Tryz.prog 40 0 0:=.k
theorem uW:a7 Tryz.prog 40 1 1:=.k
theorem zw:a7 Tryz.prog 40 2 2:=.k
theorem zv:a7 Tryz.prog 40 3 3:=.k
theorem zu:a7 Tryz.prog 40 4 4:=.k
theorem zt:a7 Tryz.prog 42 0 0:=.k
theorem zr:a7 Tryz.prog 42 1 1:=.k
theorem Cw:a7 Tryz.prog 42 2 2:=.k
theorem Cv:a7 Tryz.prog 42 3 3:=.k
theorem nA:a7 Tryz.prog 44 0 0:=.k
theorem kb:a7 Tryz.prog 44 1 1:=.k
theorem rP:a7 Tryz.prog 44 2 2:=.k
theorem nw:a7 Tryz.prog 44 3 3:=.k
theorem rM:a7 Tryz.prog 46 0 0:=.k
theorem rL:a7 Tryz.prog 46 1 1:=.k
theorem rK:a7 Tryz.prog 46 2 2:=.k
theorem nv:a7 Tryz.prog 46 3 3:=.k
theorem nu:a7 Tryz.prog 46 4 4:=.k
theorem nt:a7 Tryz.prog 46 5 5:=.k
theorem nr:a7 Tryz.prog 46 6 15:=.k
theorem fk:a7 Tryz.prog 59 0 0:=.k
theorem bw:a7 Tryz.prog 59 1 1:=.k
theorem fa27_2:a7 Tryz.prog 59 2 2:=.k
theorem gD:a7 Tryz.prog 59 3 3:=.k
theorem kc:a7 Tryz.prog 61 0 0:=.k
theorem aC:a7 Tryz.prog 61 1 1:=.k
theorem ca:a7 Tryz.prog 66 0 0:=.k
theorem bh:a7 Tryz.prog 66 1 1:=.k
theorem cV:a7 Tryz.prog 66 2 2:=.k
theorem D5:pI Tryz.prog 105 [(0,1),(1,1)]:=.k
theorem GM:pI Tryz.prog 126 [(0,1),(1,3)]:=.k
theorem zl:pI Tryz.prog 146 [(0,1),(1,1)]:=.k
theorem dL:pI Tryz.prog 29 [(0,1),(1,1)]:=.k
theorem GN:pI Tryz.prog 38 [(0,1),(1,1),(2,1)]:=.k
theorem BW:pI Tryz.prog 40 [(0,1),(1,1),(2,1),(3,1),(4,3)]:=.k
theorem GL:pI Tryz.prog 42 [(0,1),(1,1),(2,1),(3,7)]:=.k
theorem ro:pI Tryz.prog 44 [(0,1),(1,1),(2,1),(3,1)]:=.k
theorem BY:pI Tryz.prog 46 [(0,1),(1,1),(2,1),(3,1),(4,1),(5,10),(15,4)]:=.k
theorem nc:pI Tryz.prog 59 [(0,1),(1,1),(2,1),(3,1)]:=.k
theorem gy:pI Tryz.prog 61 [(0,1),(1,4)]:=.k
theorem BX:pI Tryz.prog 66 [(0,1),(1,1),(2,1)]:=.k
theorem GK:cE Tryz.prog 126 4 true:=.k
theorem zi:cE Tryz.prog 146 2 true:=.k
theorem Bv:cE Tryz.prog 22 1 false:=.k
theorem ty1023:cE Tryz.prog 26 1 false:=.k
theorem fx:cE Tryz.prog 27 1 false:=.k
theorem ao:cE Tryz.prog 29 2 true:=.k
theorem ty3:cE Tryz.prog 3 1 false:=.k
theorem D3:cE Tryz.prog 35 1 false:=.k
theorem sK:cE Tryz.prog 36 1 false:=.k
theorem t7:cE Tryz.prog 38 3 true:=.k
theorem ty4:cE Tryz.prog 4 1 false:=.k
theorem BV:cE Tryz.prog 40 7 true:=.k
theorem zf:cE Tryz.prog 42 10 true:=.k
theorem mm:cE Tryz.prog 44 4 true:=.k
theorem zg:cE Tryz.prog 46 19 true:=.k
theorem ty5:cE Tryz.prog 5 1 false:=.k
theorem kT:cE Tryz.prog 56 1 false:=.k
theorem ty25:cE Tryz.prog 57 1 false:=.k
theorem ty27:cE Tryz.prog 59 4 true:=.k
theorem bf:cE Tryz.prog 61 5 true:=.k
theorem oA:cE Tryz.prog 62 1 false:=.k
theorem ty37:cE Tryz.prog 66 3 true:=.k
theorem ty9:cE Tryz.prog 9 1 false:=.k
theorem Hl:bx Tryz.prog 105 tRd d0_107 []:=⟨(.agg #[.slice none 0 0,.int .i64 0]),by kernel_rfl,fun A w=>⟨[.slice none 0 0],[.int .i64 0],rfl,⟨_,rfl,aI _ _ _⟩,rfl⟩,fun _ h=>nomatch h⟩
theorem z49:bx Tryz.prog 126 tSet d0_49 []:=⟨(.agg #[.string ⟨#[]⟩,.int .i64 0,.int .i64 0,.string ⟨#[]⟩]),by kernel_rfl,fun A w=>⟨[.string ⟨#[]⟩],[.int .i64 0,.int .i64 0,.string ⟨#[]⟩],rfl,rfl,⟨[.int .i64 0],[.int .i64 0,.string ⟨#[]⟩],rfl,rfl,⟨[.int .i64 0],[.string ⟨#[]⟩],rfl,rfl,rfl⟩⟩⟩,fun _ h=>nomatch h⟩
theorem tY:bx Tryz.prog 146 tRef lV []:=⟨(.agg #[.string ⟨#[]⟩,.int .i64 0]),by kernel_rfl,fun A w=>⟨[.string ⟨#[]⟩],[.int .i64 0],rfl,rfl,rfl⟩,fun _ h=>nomatch h⟩
theorem cz:bx Tryz.prog 29 tBase d0_1026 []:=⟨(.agg #[.slice none 0 0,.slice none 0 0]),by kernel_rfl,fun A w=>⟨[.slice none 0 0],[.slice none 0 0],rfl,⟨_,rfl,aI _ _ _⟩,⟨_,rfl,aI _ _ _⟩⟩,fun _ h=>nomatch h⟩
theorem z47:bx Tryz.prog 38 tVal d0_47 []:=⟨(.agg #[.int .i64 0,.int .i64 0,.string ⟨#[]⟩]),by kernel_rfl,fun A w=>⟨[.int .i64 0],[.int .i64 0,.string ⟨#[]⟩],rfl,rfl,⟨[.int .i64 0],[.string ⟨#[]⟩],rfl,rfl,rfl⟩⟩,fun _ h=>nomatch h⟩
theorem z4:bx Tryz.prog 4 tB Fp []:=⟨.bool false,by kernel_rfl,fun A w=>rfl,fun _ h=>nomatch h⟩
theorem z52:bx Tryz.prog 40 tCol d0_52 []:=⟨(.agg #[.string ⟨#[]⟩,.int .i64 0,.bool false,.bool false,.int .i64 0,.int .i64 0,.string ⟨#[]⟩]),by kernel_rfl,fun A w=>⟨[.string ⟨#[]⟩],[.int .i64 0,.bool false,.bool false,.int .i64 0,.int .i64 0,.string ⟨#[]⟩],rfl,rfl,⟨[.int .i64 0],[.bool false,.bool false,.int .i64 0,.int .i64 0,.string ⟨#[]⟩],rfl,rfl,⟨[.bool false],[.bool false,.int .i64 0,.int .i64 0,.string ⟨#[]⟩],rfl,rfl,⟨[.bool false],[.int .i64 0,.int .i64 0,.string ⟨#[]⟩],rfl,rfl,⟨[.int .i64 0],[.int .i64 0,.string ⟨#[]⟩],rfl,rfl,⟨[.int .i64 0],[.string ⟨#[]⟩],rfl,rfl,rfl⟩⟩⟩⟩⟩⟩,fun _ h=>nomatch h⟩
theorem z56:bx Tryz.prog 42 tChange d0_56 []:=⟨(.agg #[.int .i64 0,.string ⟨#[]⟩,.string ⟨#[]⟩,.string ⟨#[]⟩,.int .i64 0,.bool false,.bool false,.int .i64 0,.int .i64 0,.string ⟨#[]⟩]),by kernel_rfl,fun A w=>⟨[.int .i64 0],[.string ⟨#[]⟩,.string ⟨#[]⟩,.string ⟨#[]⟩,.int .i64 0,.bool false,.bool false,.int .i64 0,.int .i64 0,.string ⟨#[]⟩],rfl,rfl,⟨[.string ⟨#[]⟩],[.string ⟨#[]⟩,.string ⟨#[]⟩,.int .i64 0,.bool false,.bool false,.int .i64 0,.int .i64 0,.string ⟨#[]⟩],rfl,rfl,⟨[.string ⟨#[]⟩],[.string ⟨#[]⟩,.int .i64 0,.bool false,.bool false,.int .i64 0,.int .i64 0,.string ⟨#[]⟩],rfl,rfl,⟨[.string ⟨#[]⟩],[.int .i64 0,.bool false,.bool false,.int .i64 0,.int .i64 0,.string ⟨#[]⟩],rfl,rfl,⟨[.int .i64 0],[.bool false,.bool false,.int .i64 0,.int .i64 0,.string ⟨#[]⟩],rfl,rfl,⟨[.bool false],[.bool false,.int .i64 0,.int .i64 0,.string ⟨#[]⟩],rfl,rfl,⟨[.bool false],[.int .i64 0,.int .i64 0,.string ⟨#[]⟩],rfl,rfl,⟨[.int .i64 0],[.int .i64 0,.string ⟨#[]⟩],rfl,rfl,⟨[.int .i64 0],[.string ⟨#[]⟩],rfl,rfl,rfl⟩⟩⟩⟩⟩⟩⟩⟩⟩,fun _ h=>nomatch h⟩
theorem z1044:bx Tryz.prog 44 tLink d0_1044 []:=⟨(.agg #[.string ⟨#[]⟩,.string ⟨#[]⟩,.string ⟨#[]⟩,.int .i64 0]),by kernel_rfl,fun A w=>⟨[.string ⟨#[]⟩],[.string ⟨#[]⟩,.string ⟨#[]⟩,.int .i64 0],rfl,rfl,⟨[.string ⟨#[]⟩],[.string ⟨#[]⟩,.int .i64 0],rfl,rfl,⟨[.string ⟨#[]⟩],[.int .i64 0],rfl,rfl,rfl⟩⟩⟩,fun _ h=>nomatch h⟩
theorem z2046:bx Tryz.prog 46 tDeed d0_2046 []:=⟨(.agg #[.int .i64 0,.string ⟨#[]⟩,.int .i64 0,.slice none 0 0,.slice none 0 0,.int .i64 0,.string ⟨#[]⟩,.string ⟨#[]⟩,.string ⟨#[]⟩,.int .i64 0,.bool false,.bool false,.int .i64 0,.int .i64 0,.string ⟨#[]⟩,.string ⟨#[]⟩,.string ⟨#[]⟩,.string ⟨#[]⟩,.int .i64 0]),by kernel_rfl,fun A w=>⟨[.int .i64 0],[.string ⟨#[]⟩,.int .i64 0,.slice none 0 0,.slice none 0 0,.int .i64 0,.string ⟨#[]⟩,.string ⟨#[]⟩,.string ⟨#[]⟩,.int .i64 0,.bool false,.bool false,.int .i64 0,.int .i64 0,.string ⟨#[]⟩,.string ⟨#[]⟩,.string ⟨#[]⟩,.string ⟨#[]⟩,.int .i64 0],rfl,rfl,⟨[.string ⟨#[]⟩],[.int .i64 0,.slice none 0 0,.slice none 0 0,.int .i64 0,.string ⟨#[]⟩,.string ⟨#[]⟩,.string ⟨#[]⟩,.int .i64 0,.bool false,.bool false,.int .i64 0,.int .i64 0,.string ⟨#[]⟩,.string ⟨#[]⟩,.string ⟨#[]⟩,.string ⟨#[]⟩,.int .i64 0],rfl,rfl,⟨[.int .i64 0],[.slice none 0 0,.slice none 0 0,.int .i64 0,.string ⟨#[]⟩,.string ⟨#[]⟩,.string ⟨#[]⟩,.int .i64 0,.bool false,.bool false,.int .i64 0,.int .i64 0,.string ⟨#[]⟩,.string ⟨#[]⟩,.string ⟨#[]⟩,.string ⟨#[]⟩,.int .i64 0],rfl,rfl,⟨[.slice none 0 0],[.slice none 0 0,.int .i64 0,.string ⟨#[]⟩,.string ⟨#[]⟩,.string ⟨#[]⟩,.int .i64 0,.bool false,.bool false,.int .i64 0,.int .i64 0,.string ⟨#[]⟩,.string ⟨#[]⟩,.string ⟨#[]⟩,.string ⟨#[]⟩,.int .i64 0],rfl,⟨_,rfl,aI _ _ _⟩,⟨[.slice none 0 0],[.int .i64 0,.string ⟨#[]⟩,.string ⟨#[]⟩,.string ⟨#[]⟩,.int .i64 0,.bool false,.bool false,.int .i64 0,.int .i64 0,.string ⟨#[]⟩,.string ⟨#[]⟩,.string ⟨#[]⟩,.string ⟨#[]⟩,.int .i64 0],rfl,⟨_,rfl,aI _ _ _⟩,⟨[.int .i64 0,.string ⟨#[]⟩,.string ⟨#[]⟩,.string ⟨#[]⟩,.int .i64 0,.bool false,.bool false,.int .i64 0,.int .i64 0,.string ⟨#[]⟩],[.string ⟨#[]⟩,.string ⟨#[]⟩,.string ⟨#[]⟩,.int .i64 0],rfl,⟨[.int .i64 0],[.string ⟨#[]⟩,.string ⟨#[]⟩,.string ⟨#[]⟩,.int .i64 0,.bool false,.bool false,.int .i64 0,.int .i64 0,.string ⟨#[]⟩],rfl,rfl,⟨[.string ⟨#[]⟩],[.string ⟨#[]⟩,.string ⟨#[]⟩,.int .i64 0,.bool false,.bool false,.int .i64 0,.int .i64 0,.string ⟨#[]⟩],rfl,rfl,⟨[.string ⟨#[]⟩],[.string ⟨#[]⟩,.int .i64 0,.bool false,.bool false,.int .i64 0,.int .i64 0,.string ⟨#[]⟩],rfl,rfl,⟨[.string ⟨#[]⟩],[.int .i64 0,.bool false,.bool false,.int .i64 0,.int .i64 0,.string ⟨#[]⟩],rfl,rfl,⟨[.int .i64 0],[.bool false,.bool false,.int .i64 0,.int .i64 0,.string ⟨#[]⟩],rfl,rfl,⟨[.bool false],[.bool false,.int .i64 0,.int .i64 0,.string ⟨#[]⟩],rfl,rfl,⟨[.bool false],[.int .i64 0,.int .i64 0,.string ⟨#[]⟩],rfl,rfl,⟨[.int .i64 0],[.int .i64 0,.string ⟨#[]⟩],rfl,rfl,⟨[.int .i64 0],[.string ⟨#[]⟩],rfl,rfl,rfl⟩⟩⟩⟩⟩⟩⟩⟩⟩,⟨[.string ⟨#[]⟩],[.string ⟨#[]⟩,.string ⟨#[]⟩,.int .i64 0],rfl,rfl,⟨[.string ⟨#[]⟩],[.string ⟨#[]⟩,.int .i64 0],rfl,rfl,⟨[.string ⟨#[]⟩],[.int .i64 0],rfl,rfl,rfl⟩⟩⟩⟩⟩⟩⟩⟩⟩,fun _ h=>nomatch h⟩
theorem z27:bx Tryz.prog 59 tTable d0_27 []:=⟨(.agg #[.slice none 0 0,.slice none 0 0,.slice none 0 0,.int .i64 0]),by kernel_rfl,fun A w=>⟨[.slice none 0 0],[.slice none 0 0,.slice none 0 0,.int .i64 0],rfl,⟨_,rfl,aI _ _ _⟩,⟨[.slice none 0 0],[.slice none 0 0,.int .i64 0],rfl,⟨_,rfl,aI _ _ _⟩,⟨[.slice none 0 0],[.int .i64 0],rfl,⟨_,rfl,aI _ _ _⟩,rfl⟩⟩⟩,fun _ h=>nomatch h⟩
theorem z1039:bx Tryz.prog 61 tTab d0_1039 []:=⟨(.agg #[.string ⟨#[]⟩,.slice none 0 0,.slice none 0 0,.slice none 0 0,.int .i64 0]),by kernel_rfl,fun A w=>⟨[.string ⟨#[]⟩],[.slice none 0 0,.slice none 0 0,.slice none 0 0,.int .i64 0],rfl,rfl,⟨[.slice none 0 0],[.slice none 0 0,.slice none 0 0,.int .i64 0],rfl,⟨_,rfl,aI _ _ _⟩,⟨[.slice none 0 0],[.slice none 0 0,.int .i64 0],rfl,⟨_,rfl,aI _ _ _⟩,⟨[.slice none 0 0],[.int .i64 0],rfl,⟨_,rfl,aI _ _ _⟩,rfl⟩⟩⟩⟩,fun _ h=>nomatch h⟩
theorem z37:bx Tryz.prog 66 tRow d0_37 []:=⟨(.agg #[.int .i64 0,.int .i64 0,.slice none 0 0]),by kernel_rfl,fun A w=>⟨[.int .i64 0],[.int .i64 0,.slice none 0 0],rfl,rfl,⟨[.int .i64 0],[.slice none 0 0],rfl,rfl,⟨_,rfl,aI _ _ _⟩⟩⟩,fun _ h=>nomatch h⟩
abbrev av:aL:=⟨.slice none 0 0,.slice none 0 0⟩
theorem aA:bx Tryz.prog 29 tBaseA av []:=⟨(.agg #[.slice none 0 0,.slice none 0 0]),by kernel_rfl,fun A w=>⟨[.slice none 0 0],[.slice none 0 0],rfl,⟨rfl,rfl⟩,⟨rfl,rfl⟩⟩,fun _ h=>nomatch h⟩
theorem conv1026_0 {tabs:List Tab}{tabs_:Value}{links_:Value}:Conv tBaseA ⟨tabs_,links_⟩ tTab tabs_ tabs ub ⟨tabs,links_⟩:=⟨rfl,fun h hr=>by
  obtain ⟨_,_,rfl,h0,h1⟩:=h
  exact ⟨_,_,rfl,⟨_,h0.1,hr⟩,h1⟩⟩
theorem conv1026_1 {tabs:List Tab}{links:List aj}{links_:Value}:Conv ub ⟨tabs,links_⟩ tLink links_ links tBase ⟨tabs,links⟩:=⟨rfl,fun h hr=>by
  obtain ⟨_,_,rfl,h0,h1⟩:=h
  exact ⟨_,_,rfl,h0,⟨_,h1.1,hr⟩⟩⟩
def wD (v:Value):Value×Value:=(y0 0 v,y0 1 v)
theorem om  {tabs_:Value}{links_:Value}{v:Value}{A:Ar}{w:World}(h:(tBaseA.va ⟨tabs_,links_⟩).f v A w):wD v=(tabs_,links_):=by
  obtain ⟨cs,rfl,h⟩:=h
  obtain ⟨_,_,rfl,h0,h1⟩:=h
  obtain ⟨rfl,-⟩:=h0
  obtain ⟨rfl,-⟩:=h1
  rfl
theorem gZ {P:Program}{g:FuncId}{vs:List VA}{O:List Own}{y:Option ac}(hf:aY P g vs O y wD (fun q p=>[arrO tTab p.1 q.tabs,arrO tLink p.2 q.links]) (fun q p=>tBaseA.va ⟨p.1,p.2⟩)):Ctr P g vs O y (fun _ _=>[]) (fun q=>tBase.va q):=
  aY.toCtr (Q:=fun q=>tBase.va q) (aY.frz1 (T':=tBase) (d':=fun q _=>q) (aY.frz1 (d':=fun q p=>(⟨q.tabs,p.2⟩:zR)) hf fun q p=>conv1026_0) fun q p=>conv1026_1)
abbrev aS:aq:=⟨[],(.slice none 0 0,[]),.slice none 0 0,0⟩
theorem bB:bx Tryz.prog 59 tTableA aS []:=⟨(.agg #[.slice none 0 0,.slice none 0 0,.slice none 0 0,.int .i64 0]),by kernel_rfl,fun A w=>⟨[.slice none 0 0],[.slice none 0 0,.slice none 0 0,.int .i64 0],rfl,⟨_,rfl,aI _ _ _⟩,⟨[.slice none 0 0],[.slice none 0 0,.int .i64 0],rfl,⟨rfl,aI _ _ _⟩,⟨[.slice none 0 0],[.int .i64 0],rfl,⟨rfl,rfl⟩,rfl⟩⟩⟩,fun _ h=>nomatch h⟩
theorem conv27 {first:List Col}{changes:List aa}{rows:List Row}{next:Int}{rows_:Value}{changes_:Value}:Conv tTableA ⟨first,(changes_,changes),rows_,next⟩ tRow rows_ rows tTable ⟨first,changes,rows,next⟩:=⟨rfl,fun h hr=>by
  obtain ⟨_,_,rfl,h0,⟨_,_,rfl,h1,⟨_,_,rfl,h2,h3⟩⟩⟩:=h
  exact ⟨_,_,rfl,h0,⟨_,_,rfl,⟨_,h1.1,h1.2⟩,⟨_,_,rfl,⟨_,h2.1,hr⟩,h3⟩⟩⟩⟩
theorem AY {d:ab}:DC tTable d tTableA (fun p:Value×Value=>(⟨d.first,(p.2,d.changes),p.1,d.next⟩:aq)):=⟨fun h=>by
  obtain ⟨_,_,rfl,h0,⟨_,_,rfl,⟨changes_,rfl,h1r⟩,⟨_,_,rfl,⟨rows_,rfl,h2r⟩,h3⟩⟩⟩:=h
  exact ⟨(rows_,changes_),⟨_,_,rfl,h0,⟨_,_,rfl,⟨rfl,h1r⟩,⟨_,_,rfl,⟨rfl,h2r.plain⟩,h3⟩⟩⟩⟩⟩
def tQ (v:Value):Value×Value:=(y0 2 v,y0 1 v)
theorem bJ {first:List Col}{changes:List aa}{next:Int}{rows_:Value}{changes_:Value}{v:Value}{A:Ar}{w:World}(h:(tTableA.va ⟨first,(changes_,changes),rows_,next⟩).f v A w):tQ v=(rows_,changes_):=by
  obtain ⟨cs,rfl,h⟩:=h
  obtain ⟨_,_,rfl,h0,⟨_,_,rfl,h1,⟨_,_,rfl,h2,h3⟩⟩⟩:=h
  obtain ⟨_,rfl,-⟩:=h0
  obtain ⟨rfl,-⟩:=h1
  obtain ⟨rfl,-⟩:=h2
  cases h3
  rfl
theorem xw {P:Program}{g:FuncId}{vs:List VA}{O:List Own}{y:Option (ab×Int)}(hf:aY P g vs O y (fun v=>tQ (zj 0 v)) (fun q p=>[arrO tRow p.1 q.1.rows]) (fun q p=>tup [tTableA.va ⟨q.1.first,(p.2,q.1.changes),p.1,q.1.next⟩,isI .i64 q.2])):Ctr P g vs O y (fun _ _=>[]) (fun q=>tup [tTable.va q.1,isI .i64 q.2]):=aY.toCtr (Q:=fun (q:ab×Int)=>tup [tTable.va q.1,isI .i64 q.2]) (aY.frz1t (T':=tTable) (d':=fun q _=>q.1) hf fun q p=>conv27)
theorem la {P:Program}{g:FuncId}{vs:List VA}{O:List Own}{y:Option ab}(hf:aY P g vs O y tQ (fun q p=>[arrO tRow p.1 q.rows]) (fun q p=>tTableA.va ⟨q.first,(p.2,q.changes),p.1,q.next⟩)):Ctr P g vs O y (fun _ _=>[]) (fun q=>tTable.va q):=aY.plainT hf fun q p=>conv27
theorem xv {P:Program}{g:FuncId}{vs:List VA}{O:List Own}{y:Option ab}(hf:aY P g vs O y tQ (fun q p=>[arrO tRow p.1 q.rows,appO 10 p.2]) (fun q p=>tTableA.va ⟨q.first,(p.2,q.changes),p.1,q.next⟩)):Ctr P g vs O y (fun _ _=>[]) (fun q=>tTable.va q):=aY.plainT (hf.sub fun q p=>.cons_cons _ (.cons _ .slnil)) fun q p=>conv27
theorem C6 (n:Nat)(a b:Int)(w:World):(Op.equalIn (n+1) 3 (.int .i64 a) (.int .i64 b)).run Tryz.prog w=.ok (decide (a=b)) w:=by
  rw [Op.equalIn];simp [run_underlying Tryz.underlying3,BO]
theorem At (w:World):(isAgg 3).run Tryz.prog w=.ok false w:=by simp [isAgg,run_underlying Tryz.underlying3]
theorem C3 (n:Nat)(a b:List UInt8)(w:World):(Op.equalIn (n+1) 9 (str a) (str b)).run Tryz.prog w=.ok (decide (a=b)) w:=by
  rw [Op.equalIn]
  have:((⟨a.toArray⟩:ByteArray) == ⟨b.toArray⟩)=decide (a=b):=by
    show (a.toArray == b.toArray)=_
    rw [BO];simp
  simp [run_underlying Tryz.underlying9,str,this]
theorem As (w:World):(isAgg 9).run Tryz.prog w=.ok false w:=by simp [isAgg,run_underlying Tryz.underlying9]
set_option linter.unusedSimpArgs false in
theorem C5 (n:Nat)(a b:Val)(c2001 c2002:List Value)(A:Ar)(w:World)(h:tVal.rel a c2001 A w)(g:tVal.rel b c2002 A w):(Op.equalIn (n+2) 38 (.agg c2001.toArray) (.agg c2002.toArray)).run Tryz.prog w=.ok (decide (a=b)) w:=by
  have stood:Tryz.prog.stoodInHeld 38=false:=by kernel_rfl
  obtain ⟨_,_,rfl,h3,⟨_,_,rfl,h2,h0⟩⟩:=h
  cases h3
  cases h2
  cases h0
  obtain ⟨_,_,rfl,g3,⟨_,_,rfl,g2,g0⟩⟩:=g
  cases g3
  cases g2
  cases g0
  rw [Op.equalIn]
  simp [run_underlying Tryz.underlying38,stood,part,C6,C3,At,As]
  have e:decide (a=b)=(decide (a.kind=b.kind)&&decide (a.n=b.n)&&decide (a.text=b.text)):=by cases a;cases b;simp [Bool.and_assoc]
  rw [e]
  by_cases e0:a.kind=b.kind<;>by_cases e1:a.n=b.n<;>by_cases e2:a.text=b.text<;>simp [e0,e1,e2]
theorem eq47:EqAt Tryz.prog 38 tVal:=⟨by kernel_rfl,rfl,fun a b c2001 c2002 A w h g=>C5 9998 a b c2001 c2002 A w h g⟩
theorem HZ (n:Nat)(a b:Bool)(w:World):(Op.equalIn (n+1) 4 (.bool a) (.bool b)).run Tryz.prog w=.ok (decide (a=b)) w:=by
  rw [Op.equalIn];simp [run_underlying Tryz.underlying4,BO]
theorem HX (w:World):(isAgg 4).run Tryz.prog w=.ok false w:=by simp [isAgg,run_underlying Tryz.underlying4]
theorem Fg (w:World):(isAgg 38).run Tryz.prog w=.ok true w:=by simp [isAgg,run_underlying Tryz.underlying38]
set_option linter.unusedSimpArgs false in
theorem C4 (n:Nat)(a b:Col)(c2001 c2002:List Value)(A:Ar)(w:World)(h:tCol.rel a c2001 A w)(g:tCol.rel b c2002 A w):(Op.equalIn (n+3) 40 (.agg c2001.toArray) (.agg c2002.toArray)).run Tryz.prog w=.ok (decide (a=b)) w:=by
  have stood:Tryz.prog.stoodInHeld 40=false:=by kernel_rfl
  obtain ⟨_,_,rfl,h5,⟨_,_,rfl,h4,⟨_,_,rfl,h3,⟨_,_,rfl,h2,h0⟩⟩⟩⟩:=h
  cases h5
  cases h4
  cases h3
  cases h2
  obtain ⟨_,_,rfl,g5,⟨_,_,rfl,g4,⟨_,_,rfl,g3,⟨_,_,rfl,g2,g0⟩⟩⟩⟩:=g
  cases g5
  cases g4
  cases g3
  cases g2
  have ph0:=tVal.len h0
  have pg0:=tVal.len g0
  have qh0:=fun n=>C5 n _ _ _ _ A w h0 g0
  have th0:=List.take_of_length_le (Nat.le_of_eq (show _=3 from tVal.len h0))
  have tg0:=List.take_of_length_le (Nat.le_of_eq (show _=3 from tVal.len g0))
  rw [Op.equalIn]
  simp [run_underlying Tryz.underlying40,stood,part,C6,HZ,C3,At,HX,As,Fg,(t7).sizeOf,ph0,pg0]
  have e:decide (a=b)=(decide (a.name=b.name)&&decide (a.kind=b.kind)&&decide (a.need=b.need)&&decide (a.once=b.once)&&decide (a.def_=b.def_)):=by cases a;cases b;simp [Bool.and_assoc]
  rw [e]
  by_cases e0:a.name=b.name<;>by_cases e1:a.kind=b.kind<;>by_cases e2:a.need=b.need<;>by_cases e3:a.once=b.once<;>by_cases e4:a.def_=b.def_<;>simp [e0,e1,e2,e3,e4,qh0,th0,tg0]
theorem BJ:EqAt Tryz.prog 40 tCol:=⟨by kernel_rfl,rfl,fun a b c2001 c2002 A w h g=>C4 9997 a b c2001 c2002 A w h g⟩
theorem Ff (w:World):(isAgg 40).run Tryz.prog w=.ok true w:=by simp [isAgg,run_underlying Tryz.underlying40]
set_option linter.unusedSimpArgs false in
theorem Fi (n:Nat)(a b:aa)(c2001 c2002:List Value)(A:Ar)(w:World)(h:tChange.rel a c2001 A w)(g:tChange.rel b c2002 A w):(Op.equalIn (n+4) 42 (.agg c2001.toArray) (.agg c2002.toArray)).run Tryz.prog w=.ok (decide (a=b)) w:=by
  have stood:Tryz.prog.stoodInHeld 42=false:=by kernel_rfl
  obtain ⟨_,_,rfl,h4,⟨_,_,rfl,h3,⟨_,_,rfl,h2,h0⟩⟩⟩:=h
  cases h4
  cases h3
  cases h2
  obtain ⟨_,_,rfl,g4,⟨_,_,rfl,g3,⟨_,_,rfl,g2,g0⟩⟩⟩:=g
  cases g4
  cases g3
  cases g2
  have ph0:=tCol.len h0
  have pg0:=tCol.len g0
  have qh0:=fun n=>C4 n _ _ _ _ A w h0 g0
  have th0:=List.take_of_length_le (Nat.le_of_eq (show _=7 from tCol.len h0))
  have tg0:=List.take_of_length_le (Nat.le_of_eq (show _=7 from tCol.len g0))
  rw [Op.equalIn]
  simp [run_underlying Tryz.underlying42,stood,part,C6,C3,At,As,Ff,(BV).sizeOf,ph0,pg0]
  have e:decide (a=b)=(decide (a.kind=b.kind)&&decide (a.name=b.name)&&decide (a.new=b.new)&&decide (a.col=b.col)):=by cases a;cases b;simp [Bool.and_assoc]
  rw [e]
  by_cases e0:a.kind=b.kind<;>by_cases e1:a.name=b.name<;>by_cases e2:a.new=b.new<;>by_cases e3:a.col=b.col<;>simp [e0,e1,e2,e3,qh0,th0,tg0]
theorem DT:EqAt Tryz.prog 42 tChange:=⟨by kernel_rfl,rfl,fun a b c2001 c2002 A w h g=>Fi 9996 a b c2001 c2002 A w h g⟩
set_option linter.unusedSimpArgs false in
theorem AW (n:Nat)(a b:aj)(c2001 c2002:List Value)(A:Ar)(w:World)(h:tLink.rel a c2001 A w)(g:tLink.rel b c2002 A w):(Op.equalIn (n+2) 44 (.agg c2001.toArray) (.agg c2002.toArray)).run Tryz.prog w=.ok (decide (a=b)) w:=by
  have stood:Tryz.prog.stoodInHeld 44=false:=by kernel_rfl
  obtain ⟨_,_,rfl,h4,⟨_,_,rfl,h3,⟨_,_,rfl,h2,h0⟩⟩⟩:=h
  cases h4
  cases h3
  cases h2
  cases h0
  obtain ⟨_,_,rfl,g4,⟨_,_,rfl,g3,⟨_,_,rfl,g2,g0⟩⟩⟩:=g
  cases g4
  cases g3
  cases g2
  cases g0
  rw [Op.equalIn]
  simp [run_underlying Tryz.underlying44,stood,part,C6,C3,At,As]
  have e:decide (a=b)=(decide (a.from_=b.from_)&&decide (a.col=b.col)&&decide (a.to=b.to)&&decide (a.how=b.how)):=by cases a;cases b;simp [Bool.and_assoc]
  rw [e]
  by_cases e0:a.from_=b.from_<;>by_cases e1:a.col=b.col<;>by_cases e2:a.to=b.to<;>by_cases e3:a.how=b.how<;>simp [e0,e1,e2,e3]
theorem wq:EqAt Tryz.prog 44 tLink:=⟨by kernel_rfl,rfl,fun a b c2001 c2002 A w h g=>AW 9998 a b c2001 c2002 A w h g⟩
theorem re (a:Array UInt8):((⟨a⟩:ByteArray) == ⟨a⟩)=true:=by show (a == a)=true;simp
theorem wC (a b:List UInt8):((⟨a.toArray⟩:ByteArray) == ⟨b.toArray⟩)=decide (a=b):=by
  show (a.toArray == b.toArray)=_
  rw [BO];simp
def zo (k:Val):Value:=.agg #[.int .i64 k.kind,.int .i64 k.n,str k.text]
theorem Cq:pK Tryz.prog 38 tVal zo where
  val h:=by
    obtain ⟨cs,rfl,h⟩:=h
    obtain ⟨_,_,rfl,h3,⟨_,_,rfl,h2,h1⟩⟩:=h
    cases h3;cases h2;cases h1;rfl
  chk e k w:=by
    have h3:∀ a:Int,(Instr.checkKey e (9998+1) 3 (.int .i64 a)).run Tryz.prog w=.ok () w:=fun a=>MapKept.run_checkKey (w:=w) Tryz.underlying3 (by simp [MapKept.IsKey]) e 9998
    have h9:∀ a:ByteArray,(Instr.checkKey e (9998+1) 9 (.string a)).run Tryz.prog w=.ok () w:=fun a=>MapKept.run_checkKey (w:=w) Tryz.underlying9 (by simp [MapKept.IsKey]) e 9998
    show (Instr.checkKey e (9998+1+1) 38 (zo k)).run Tryz.prog w=_
    rw [Instr.checkKey]
    simp [run_underlying Tryz.underlying38,zo,str,part,At,h3,As,h9]
  eq a b w:=eq47.h a b [.int .i64 a.kind,.int .i64 a.n,str a.text] [.int .i64 b.kind,.int .i64 b.n,str b.text] (fun _ _=>True) w ⟨[_],[_,_],rfl,rfl,[_],[_],rfl,rfl,rfl⟩ ⟨[_],[_,_],rfl,rfl,[_],[_],rfl,rfl,rfl⟩
  bits k:=by simp [Instr.sameBits,zo,str,re]
  now:=⟨_,Tryz.underlying38,.inr fun a b=>by simp [Instr.sameNow,zo]⟩
theorem DJ:pK Tryz.prog 9 tS str where
  val h:=h
  chk e k w:=by unfold Instr.checkKey;simp [run_underlying Tryz.underlying9,str]
  eq a b w:=by
    unfold Op.equal Op.maxDepth
    rw [Op.equalIn]
    simp [run_underlying Tryz.underlying9,str,wC]
  bits k:=by simp [Instr.sameBits,str,re]
  now:=⟨_,Tryz.underlying9,.inl fun a b=>by simp [Instr.sameNow,str,wC]⟩
theorem bs {α β:Type}(a:α)(f:α→Option β):(some a).bind f=f a:=rfl
theorem ct {α:Type}{a b:α}:cond true a b=a:=rfl
theorem cf {α:Type}{a b:α}:cond false a b=b:=rfl
theorem tn (n:Nat):(n:Int).toNat=n:=rfl
theorem df {p:Prop}[h:Decidable p](h2:¬p):decide p=false:=decide_eq_false h2
theorem dt {p:Prop}[h:Decidable p](h2:p):decide p=true:=decide_eq_true h2
def u3:=@Tryz.underlying3
def u5:=@Tryz.underlying5
def u9:=@Tryz.underlying9
def u22:=@Tryz.underlying22
def u26:=@Tryz.underlying26
def u27:=@Tryz.underlying27
def u32:=@Tryz.underlying32
def u35:=@Tryz.underlying35
def u36:=@Tryz.underlying36
def u56:=@Tryz.underlying56
def u57:=@Tryz.underlying57
def u62:=@Tryz.underlying62
def D2:=@Tryz.underlying109
def Hn:=@Tryz.underlying124
def u143:=@Tryz.underlying143
def D1:=@Tryz.underlying146
def GJ:=@Tryz.underlying169
def Bu:=@Tryz.underlying182
def DE:=@Tryz.underlying193
def DD:=@Tryz.underlying198
def Hm:=@Tryz.underlying216
end Go.Proofs.YtganfdhmkdehlaaGreatDoor
