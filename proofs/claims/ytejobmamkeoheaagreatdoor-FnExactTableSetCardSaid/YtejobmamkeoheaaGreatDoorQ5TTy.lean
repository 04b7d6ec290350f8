/- The program's types, read as Lean's, and what its tables say of them. -/
import Derived.Test.YtejobmamkeoheaaGreatDoorQ5THL
import Derived.Test.YtejobmamkeoheaaGreatDoorProg
import Derived.KernelRfl
set_option linter.all false
namespace Go.Proofs.YtejobmamkeoheaaGreatDoor
open Go Go.HL
structure Val where
  kind : Int
  n : Int
  text : List UInt8
  deriving DecidableEq, Inhabited
def tVal : Ty Val := ((tI .i64).x ((tI .i64).x tS)).iso fun d => (d.kind, d.n, d.text)
theorem fVal_0 : Fld tVal 0 (tI .i64) (fun d => d.kind) (fun d x => { d with kind := x }) := Fld.iso Fld.fst fun _ _ => rfl
theorem fVal_1 : Fld tVal 1 (tI .i64) (fun d => d.n) (fun d x => { d with n := x }) := Fld.iso (Fld.snd Fld.fst) fun _ _ => rfl
theorem fVal_2 : Fld tVal 2 tS (fun d => d.text) (fun d x => { d with text := x }) := Fld.iso (Fld.snd Fld.last) fun _ _ => rfl
structure Col where
  name : List UInt8
  kind : Int
  need : Bool
  once : Bool
  def_ : Val
  deriving DecidableEq, Inhabited
def tCol : Ty Col := (tS.x ((tI .i64).x (tB.x (tB.x tVal)))).iso fun d => (d.name, d.kind, d.need, d.once, d.def_)
theorem fCol_0 : Fld tCol 0 tS (fun d => d.name) (fun d x => { d with name := x }) := Fld.iso Fld.fst fun _ _ => rfl
theorem fCol_1 : Fld tCol 1 (tI .i64) (fun d => d.kind) (fun d x => { d with kind := x }) := Fld.iso (Fld.snd Fld.fst) fun _ _ => rfl
theorem fCol_2 : Fld tCol 2 tB (fun d => d.need) (fun d x => { d with need := x }) := Fld.iso (Fld.snd (Fld.snd Fld.fst)) fun _ _ => rfl
theorem fCol_3 : Fld tCol 3 tB (fun d => d.once) (fun d x => { d with once := x }) := Fld.iso (Fld.snd (Fld.snd (Fld.snd Fld.fst))) fun _ _ => rfl
theorem fCol_4 : Fld tCol 4 tVal (fun d => d.def_) (fun d x => { d with def_ := x }) := Fld.iso (Fld.snd (Fld.snd (Fld.snd Fld.last))) fun _ _ => rfl
structure Change where
  kind : Int
  name : List UInt8
  new : List UInt8
  col : Col
  deriving DecidableEq, Inhabited
def tChange : Ty Change := ((tI .i64).x (tS.x (tS.x tCol))).iso fun d => (d.kind, d.name, d.new, d.col)
theorem fChange_0 : Fld tChange 0 (tI .i64) (fun d => d.kind) (fun d x => { d with kind := x }) := Fld.iso Fld.fst fun _ _ => rfl
theorem fChange_1 : Fld tChange 1 tS (fun d => d.name) (fun d x => { d with name := x }) := Fld.iso (Fld.snd Fld.fst) fun _ _ => rfl
theorem fChange_2 : Fld tChange 2 tS (fun d => d.new) (fun d x => { d with new := x }) := Fld.iso (Fld.snd (Fld.snd Fld.fst)) fun _ _ => rfl
theorem fChange_3 : Fld tChange 3 tCol (fun d => d.col) (fun d x => { d with col := x }) := Fld.iso (Fld.snd (Fld.snd Fld.last)) fun _ _ => rfl
structure Row where
  id : Int
  ver : Int
  vals : List Val
  deriving DecidableEq, Inhabited
def tRow : Ty Row := ((tI .i64).x ((tI .i64).x (tL tVal))).iso fun d => (d.id, d.ver, d.vals)
theorem fRow_0 : Fld tRow 0 (tI .i64) (fun d => d.id) (fun d x => { d with id := x }) := Fld.iso Fld.fst fun _ _ => rfl
theorem fRow_1 : Fld tRow 1 (tI .i64) (fun d => d.ver) (fun d x => { d with ver := x }) := Fld.iso (Fld.snd Fld.fst) fun _ _ => rfl
theorem fRow_2 : Fld tRow 2 (tL tVal) (fun d => d.vals) (fun d x => { d with vals := x }) := Fld.iso (Fld.snd Fld.last) fun _ _ => rfl
structure Table where
  first : List Col
  changes : List Change
  rows : List Row
  next : Int
  deriving DecidableEq, Inhabited
def tTable : Ty Table := ((tL tCol).x ((tL tChange).x ((tL tRow).x (tI .i64)))).iso fun d => (d.first, d.changes, d.rows, d.next)
theorem fTable_0 : Fld tTable 0 (tL tCol) (fun d => d.first) (fun d x => { d with first := x }) := Fld.iso Fld.fst fun _ _ => rfl
theorem fTable_1 : Fld tTable 1 (tL tChange) (fun d => d.changes) (fun d x => { d with changes := x }) := Fld.iso (Fld.snd Fld.fst) fun _ _ => rfl
theorem fTable_2 : Fld tTable 2 (tL tRow) (fun d => d.rows) (fun d x => { d with rows := x }) := Fld.iso (Fld.snd (Fld.snd Fld.fst)) fun _ _ => rfl
theorem fTable_3 : Fld tTable 3 (tI .i64) (fun d => d.next) (fun d x => { d with next := x }) := Fld.iso (Fld.snd (Fld.snd Fld.last)) fun _ _ => rfl
structure Set where
  name : List UInt8
  val : Val
  deriving DecidableEq, Inhabited
def tSet : Ty Set := (tS.x tVal).iso fun d => (d.name, d.val)
theorem fSet_0 : Fld tSet 0 tS (fun d => d.name) (fun d x => { d with name := x }) := Fld.iso Fld.fst fun _ _ => rfl
theorem fSet_1 : Fld tSet 1 tVal (fun d => d.val) (fun d x => { d with val := x }) := Fld.iso Fld.last fun _ _ => rfl
structure TableA where
  first : List Col
  changes : Value × List Change
  rows : Value
  next : Int
def tTableA : Ty TableA := ((tL tCol).x ((tLk tChange).x (tRaw.x (tI .i64)))).iso fun d => (d.first, d.changes, d.rows, d.next)
theorem fTableA_0 : Fld tTableA 0 (tL tCol) (fun d => d.first) (fun d x => { d with first := x }) := Fld.iso Fld.fst fun _ _ => rfl
theorem fTableA_1 : Fld tTableA 1 (tLk tChange) (fun d => d.changes) (fun d x => { d with changes := x }) := Fld.iso (Fld.snd Fld.fst) fun _ _ => rfl
theorem fTableA_2 : Fld tTableA 2 tRaw (fun d => d.rows) (fun d x => { d with rows := x }) := Fld.iso (Fld.snd (Fld.snd Fld.fst)) fun _ _ => rfl
theorem fTableA_3 : Fld tTableA 3 (tI .i64) (fun d => d.next) (fun d x => { d with next := x }) := Fld.iso (Fld.snd (Fld.snd Fld.last)) fun _ _ => rfl
abbrev d0_27 : Table := ⟨[], [], [], 0⟩
abbrev d0_47 : Val := ⟨0, 0, []⟩
abbrev d0_52 : Col := ⟨[], 0, false, false, ⟨0, 0, []⟩⟩
abbrev d0_56 : Change := ⟨0, [], [], ⟨[], 0, false, false, ⟨0, 0, []⟩⟩⟩
abbrev d0_49 : Set := ⟨[], ⟨0, 0, []⟩⟩
abbrev d0_37 : Row := ⟨0, 0, []⟩
theorem mix : Tryz.prog.follows .mixedOrders = true := by kernel_rfl
theorem el32 : ElAt Tryz.prog 102 1 := ⟨by kernel_rfl⟩
theorem el37 : ElAt Tryz.prog 104 3 := ⟨by kernel_rfl⟩
theorem el47 : ElAt Tryz.prog 47 3 := ⟨by kernel_rfl⟩
theorem el52 : ElAt Tryz.prog 49 7 := ⟨by kernel_rfl⟩
theorem el5 : ElAt Tryz.prog 5 1 := ⟨by kernel_rfl⟩
theorem el56 : ElAt Tryz.prog 51 10 := ⟨by kernel_rfl⟩
theorem el49 : ElAt Tryz.prog 86 4 := ⟨by kernel_rfl⟩
theorem fa37_0 : FldAt Tryz.prog 104 0 0 := ⟨by kernel_rfl, by kernel_rfl⟩
theorem fa37_1 : FldAt Tryz.prog 104 1 1 := ⟨by kernel_rfl, by kernel_rfl⟩
theorem fa37_2 : FldAt Tryz.prog 104 2 2 := ⟨by kernel_rfl, by kernel_rfl⟩
theorem fa3026_0 : FldAt Tryz.prog 26 0 0 := ⟨by kernel_rfl, by kernel_rfl⟩
theorem fa3026_1 : FldAt Tryz.prog 26 1 1 := ⟨by kernel_rfl, by kernel_rfl⟩
theorem fa3026_2 : FldAt Tryz.prog 26 2 2 := ⟨by kernel_rfl, by kernel_rfl⟩
theorem fa3026_3 : FldAt Tryz.prog 26 3 3 := ⟨by kernel_rfl, by kernel_rfl⟩
theorem fa27_0 : FldAt Tryz.prog 32 0 0 := ⟨by kernel_rfl, by kernel_rfl⟩
theorem fa27_1 : FldAt Tryz.prog 32 1 1 := ⟨by kernel_rfl, by kernel_rfl⟩
theorem fa27_2 : FldAt Tryz.prog 32 2 2 := ⟨by kernel_rfl, by kernel_rfl⟩
theorem fa27_3 : FldAt Tryz.prog 32 3 3 := ⟨by kernel_rfl, by kernel_rfl⟩
theorem fa3040_0 : FldAt Tryz.prog 40 0 0 := ⟨by kernel_rfl, by kernel_rfl⟩
theorem fa3040_1 : FldAt Tryz.prog 40 1 1 := ⟨by kernel_rfl, by kernel_rfl⟩
theorem fa3040_2 : FldAt Tryz.prog 40 2 2 := ⟨by kernel_rfl, by kernel_rfl⟩
theorem fa3042_0 : FldAt Tryz.prog 42 0 0 := ⟨by kernel_rfl, by kernel_rfl⟩
theorem fa3042_1 : FldAt Tryz.prog 42 1 1 := ⟨by kernel_rfl, by kernel_rfl⟩
theorem fa3042_2 : FldAt Tryz.prog 42 2 2 := ⟨by kernel_rfl, by kernel_rfl⟩
theorem fa3042_3 : FldAt Tryz.prog 42 3 3 := ⟨by kernel_rfl, by kernel_rfl⟩
theorem fa3042_4 : FldAt Tryz.prog 42 4 4 := ⟨by kernel_rfl, by kernel_rfl⟩
theorem fa3044_0 : FldAt Tryz.prog 44 0 0 := ⟨by kernel_rfl, by kernel_rfl⟩
theorem fa3044_1 : FldAt Tryz.prog 44 1 1 := ⟨by kernel_rfl, by kernel_rfl⟩
theorem fa3044_2 : FldAt Tryz.prog 44 2 2 := ⟨by kernel_rfl, by kernel_rfl⟩
theorem fa3044_3 : FldAt Tryz.prog 44 3 3 := ⟨by kernel_rfl, by kernel_rfl⟩
theorem fa47_0 : FldAt Tryz.prog 47 0 0 := ⟨by kernel_rfl, by kernel_rfl⟩
theorem fa47_1 : FldAt Tryz.prog 47 1 1 := ⟨by kernel_rfl, by kernel_rfl⟩
theorem fa47_2 : FldAt Tryz.prog 47 2 2 := ⟨by kernel_rfl, by kernel_rfl⟩
theorem fa52_0 : FldAt Tryz.prog 49 0 0 := ⟨by kernel_rfl, by kernel_rfl⟩
theorem fa52_1 : FldAt Tryz.prog 49 1 1 := ⟨by kernel_rfl, by kernel_rfl⟩
theorem fa52_2 : FldAt Tryz.prog 49 2 2 := ⟨by kernel_rfl, by kernel_rfl⟩
theorem fa52_3 : FldAt Tryz.prog 49 3 3 := ⟨by kernel_rfl, by kernel_rfl⟩
theorem fa52_4 : FldAt Tryz.prog 49 4 4 := ⟨by kernel_rfl, by kernel_rfl⟩
theorem fa56_0 : FldAt Tryz.prog 51 0 0 := ⟨by kernel_rfl, by kernel_rfl⟩
theorem fa56_1 : FldAt Tryz.prog 51 1 1 := ⟨by kernel_rfl, by kernel_rfl⟩
theorem fa56_2 : FldAt Tryz.prog 51 2 2 := ⟨by kernel_rfl, by kernel_rfl⟩
theorem fa56_3 : FldAt Tryz.prog 51 3 3 := ⟨by kernel_rfl, by kernel_rfl⟩
theorem fa3084_0 : FldAt Tryz.prog 84 0 0 := ⟨by kernel_rfl, by kernel_rfl⟩
theorem fa3084_1 : FldAt Tryz.prog 84 1 1 := ⟨by kernel_rfl, by kernel_rfl⟩
theorem fa49_0 : FldAt Tryz.prog 86 0 0 := ⟨by kernel_rfl, by kernel_rfl⟩
theorem fa49_1 : FldAt Tryz.prog 86 1 1 := ⟨by kernel_rfl, by kernel_rfl⟩
theorem fa3095_0 : FldAt Tryz.prog 95 0 0 := ⟨by kernel_rfl, by kernel_rfl⟩
theorem fa3095_1 : FldAt Tryz.prog 95 1 1 := ⟨by kernel_rfl, by kernel_rfl⟩
theorem fa3095_2 : FldAt Tryz.prog 95 2 2 := ⟨by kernel_rfl, by kernel_rfl⟩
theorem st37 : StAt Tryz.prog 104 [(0, 1), (1, 1), (2, 1)] := ⟨by kernel_rfl⟩
theorem st27 : StAt Tryz.prog 32 [(0, 1), (1, 1), (2, 1), (3, 1)] := ⟨by kernel_rfl⟩
theorem st47 : StAt Tryz.prog 47 [(0, 1), (1, 1), (2, 1)] := ⟨by kernel_rfl⟩
theorem st52 : StAt Tryz.prog 49 [(0, 1), (1, 1), (2, 1), (3, 1), (4, 3)] := ⟨by kernel_rfl⟩
theorem st56 : StAt Tryz.prog 51 [(0, 1), (1, 1), (2, 1), (3, 7)] := ⟨by kernel_rfl⟩
theorem ty32 : TyAt Tryz.prog 102 1 false := ⟨by kernel_rfl, by kernel_rfl⟩
theorem ty37 : TyAt Tryz.prog 104 3 true := ⟨by kernel_rfl, by kernel_rfl⟩
theorem ty3022 : TyAt Tryz.prog 22 1 false := ⟨by kernel_rfl, by kernel_rfl⟩
theorem ty3023 : TyAt Tryz.prog 23 1 false := ⟨by kernel_rfl, by kernel_rfl⟩
theorem ty3024 : TyAt Tryz.prog 24 1 false := ⟨by kernel_rfl, by kernel_rfl⟩
theorem ty3026 : TyAt Tryz.prog 26 4 true := ⟨by kernel_rfl, by kernel_rfl⟩
theorem ty23 : TyAt Tryz.prog 28 1 false := ⟨by kernel_rfl, by kernel_rfl⟩
theorem ty24 : TyAt Tryz.prog 29 1 false := ⟨by kernel_rfl, by kernel_rfl⟩
theorem ty3 : TyAt Tryz.prog 3 1 false := ⟨by kernel_rfl, by kernel_rfl⟩
theorem ty25 : TyAt Tryz.prog 30 1 false := ⟨by kernel_rfl, by kernel_rfl⟩
theorem ty27 : TyAt Tryz.prog 32 4 true := ⟨by kernel_rfl, by kernel_rfl⟩
theorem ty4 : TyAt Tryz.prog 4 1 false := ⟨by kernel_rfl, by kernel_rfl⟩
theorem ty3040 : TyAt Tryz.prog 40 3 true := ⟨by kernel_rfl, by kernel_rfl⟩
theorem ty3042 : TyAt Tryz.prog 42 7 true := ⟨by kernel_rfl, by kernel_rfl⟩
theorem ty3044 : TyAt Tryz.prog 44 10 true := ⟨by kernel_rfl, by kernel_rfl⟩
theorem ty47 : TyAt Tryz.prog 47 3 true := ⟨by kernel_rfl, by kernel_rfl⟩
theorem ty52 : TyAt Tryz.prog 49 7 true := ⟨by kernel_rfl, by kernel_rfl⟩
theorem ty56 : TyAt Tryz.prog 51 10 true := ⟨by kernel_rfl, by kernel_rfl⟩
theorem ty3084 : TyAt Tryz.prog 84 4 true := ⟨by kernel_rfl, by kernel_rfl⟩
theorem ty49 : TyAt Tryz.prog 86 4 true := ⟨by kernel_rfl, by kernel_rfl⟩
theorem ty9 : TyAt Tryz.prog 9 1 false := ⟨by kernel_rfl, by kernel_rfl⟩
theorem ty3093 : TyAt Tryz.prog 93 1 false := ⟨by kernel_rfl, by kernel_rfl⟩
theorem ty3095 : TyAt Tryz.prog 95 3 true := ⟨by kernel_rfl, by kernel_rfl⟩
theorem z37 : ZeroAt Tryz.prog 104 tRow d0_37 [] := ⟨(.agg #[.int .i64 0, .int .i64 0, .slice none 0 0]), by kernel_rfl, fun A w => ⟨[.int .i64 0], [.int .i64 0, .slice none 0 0], rfl, rfl, ⟨[.int .i64 0], [.slice none 0 0], rfl, rfl, ⟨_, rfl, slRel_nil _ _ _⟩⟩⟩, fun _ h => nomatch h⟩
theorem z27 : ZeroAt Tryz.prog 32 tTable d0_27 [] := ⟨(.agg #[.slice none 0 0, .slice none 0 0, .slice none 0 0, .int .i64 0]), by kernel_rfl, fun A w => ⟨[.slice none 0 0], [.slice none 0 0, .slice none 0 0, .int .i64 0], rfl, ⟨_, rfl, slRel_nil _ _ _⟩, ⟨[.slice none 0 0], [.slice none 0 0, .int .i64 0], rfl, ⟨_, rfl, slRel_nil _ _ _⟩, ⟨[.slice none 0 0], [.int .i64 0], rfl, ⟨_, rfl, slRel_nil _ _ _⟩, rfl⟩⟩⟩, fun _ h => nomatch h⟩
theorem z47 : ZeroAt Tryz.prog 47 tVal d0_47 [] := ⟨(.agg #[.int .i64 0, .int .i64 0, .string ⟨#[]⟩]), by kernel_rfl, fun A w => ⟨[.int .i64 0], [.int .i64 0, .string ⟨#[]⟩], rfl, rfl, ⟨[.int .i64 0], [.string ⟨#[]⟩], rfl, rfl, rfl⟩⟩, fun _ h => nomatch h⟩
theorem z52 : ZeroAt Tryz.prog 49 tCol d0_52 [] := ⟨(.agg #[.string ⟨#[]⟩, .int .i64 0, .bool false, .bool false, .int .i64 0, .int .i64 0, .string ⟨#[]⟩]), by kernel_rfl, fun A w => ⟨[.string ⟨#[]⟩], [.int .i64 0, .bool false, .bool false, .int .i64 0, .int .i64 0, .string ⟨#[]⟩], rfl, rfl, ⟨[.int .i64 0], [.bool false, .bool false, .int .i64 0, .int .i64 0, .string ⟨#[]⟩], rfl, rfl, ⟨[.bool false], [.bool false, .int .i64 0, .int .i64 0, .string ⟨#[]⟩], rfl, rfl, ⟨[.bool false], [.int .i64 0, .int .i64 0, .string ⟨#[]⟩], rfl, rfl, ⟨[.int .i64 0], [.int .i64 0, .string ⟨#[]⟩], rfl, rfl, ⟨[.int .i64 0], [.string ⟨#[]⟩], rfl, rfl, rfl⟩⟩⟩⟩⟩⟩, fun _ h => nomatch h⟩
theorem z56 : ZeroAt Tryz.prog 51 tChange d0_56 [] := ⟨(.agg #[.int .i64 0, .string ⟨#[]⟩, .string ⟨#[]⟩, .string ⟨#[]⟩, .int .i64 0, .bool false, .bool false, .int .i64 0, .int .i64 0, .string ⟨#[]⟩]), by kernel_rfl, fun A w => ⟨[.int .i64 0], [.string ⟨#[]⟩, .string ⟨#[]⟩, .string ⟨#[]⟩, .int .i64 0, .bool false, .bool false, .int .i64 0, .int .i64 0, .string ⟨#[]⟩], rfl, rfl, ⟨[.string ⟨#[]⟩], [.string ⟨#[]⟩, .string ⟨#[]⟩, .int .i64 0, .bool false, .bool false, .int .i64 0, .int .i64 0, .string ⟨#[]⟩], rfl, rfl, ⟨[.string ⟨#[]⟩], [.string ⟨#[]⟩, .int .i64 0, .bool false, .bool false, .int .i64 0, .int .i64 0, .string ⟨#[]⟩], rfl, rfl, ⟨[.string ⟨#[]⟩], [.int .i64 0, .bool false, .bool false, .int .i64 0, .int .i64 0, .string ⟨#[]⟩], rfl, rfl, ⟨[.int .i64 0], [.bool false, .bool false, .int .i64 0, .int .i64 0, .string ⟨#[]⟩], rfl, rfl, ⟨[.bool false], [.bool false, .int .i64 0, .int .i64 0, .string ⟨#[]⟩], rfl, rfl, ⟨[.bool false], [.int .i64 0, .int .i64 0, .string ⟨#[]⟩], rfl, rfl, ⟨[.int .i64 0], [.int .i64 0, .string ⟨#[]⟩], rfl, rfl, ⟨[.int .i64 0], [.string ⟨#[]⟩], rfl, rfl, rfl⟩⟩⟩⟩⟩⟩⟩⟩⟩, fun _ h => nomatch h⟩
theorem z49 : ZeroAt Tryz.prog 86 tSet d0_49 [] := ⟨(.agg #[.string ⟨#[]⟩, .int .i64 0, .int .i64 0, .string ⟨#[]⟩]), by kernel_rfl, fun A w => ⟨[.string ⟨#[]⟩], [.int .i64 0, .int .i64 0, .string ⟨#[]⟩], rfl, rfl, ⟨[.int .i64 0], [.int .i64 0, .string ⟨#[]⟩], rfl, rfl, ⟨[.int .i64 0], [.string ⟨#[]⟩], rfl, rfl, rfl⟩⟩⟩, fun _ h => nomatch h⟩
abbrev d0A27 : TableA := ⟨[], (.slice none 0 0, []), .slice none 0 0, 0⟩
theorem zA27 : ZeroAt Tryz.prog 32 tTableA d0A27 [] := ⟨(.agg #[.slice none 0 0, .slice none 0 0, .slice none 0 0, .int .i64 0]), by kernel_rfl, fun A w => ⟨[.slice none 0 0], [.slice none 0 0, .slice none 0 0, .int .i64 0], rfl, ⟨_, rfl, slRel_nil _ _ _⟩, ⟨[.slice none 0 0], [.slice none 0 0, .int .i64 0], rfl, ⟨rfl, slRel_nil _ _ _⟩, ⟨[.slice none 0 0], [.int .i64 0], rfl, ⟨rfl, rfl⟩, rfl⟩⟩⟩, fun _ h => nomatch h⟩
theorem conv27 {first : List Col} {changes : List Change} {rows : List Row} {next : Int} {rows_ : Value} {changes_ : Value} : Conv tTableA ⟨first, (changes_, changes), rows_, next⟩ tRow rows_ rows tTable ⟨first, changes, rows, next⟩ := ⟨rfl, fun h hr => by
  obtain ⟨_, _, rfl, h0, ⟨_, _, rfl, h1, ⟨_, _, rfl, h2, h3⟩⟩⟩ := h
  exact ⟨_, _, rfl, h0, ⟨_, _, rfl, ⟨_, h1.1, h1.2⟩, ⟨_, _, rfl, ⟨_, h2.1, hr⟩, h3⟩⟩⟩⟩
def tabV (v : Value) : Value × Value := (cellV 2 v, cellV 1 v)
theorem tabV_of {first : List Col} {changes : List Change} {next : Int} {rows_ : Value} {changes_ : Value} {v : Value} {A : Ar} {w : World} (h : (tTableA.va ⟨first, (changes_, changes), rows_, next⟩).f v A w) : tabV v = (rows_, changes_) := by
  obtain ⟨cs, rfl, h⟩ := h
  obtain ⟨_, _, rfl, h0, ⟨_, _, rfl, h1, ⟨_, _, rfl, h2, h3⟩⟩⟩ := h
  obtain ⟨_, rfl, -⟩ := h0
  obtain ⟨rfl, -⟩ := h1
  obtain ⟨rfl, -⟩ := h2
  cases h3
  rfl
theorem eqn3 (n : Nat) (a b : Int) (w : World) : (Op.equalIn (n + 1) 3 (.int .i64 a) (.int .i64 b)).run Tryz.prog w = .ok (decide (a = b)) w := by
  rw [Op.equalIn]; simp [run_underlying Tryz.underlying3, beqD]
theorem isA3 (w : World) : (isAgg 3).run Tryz.prog w = .ok false w := by simp [isAgg, run_underlying Tryz.underlying3]
theorem eqn9 (n : Nat) (a b : List UInt8) (w : World) : (Op.equalIn (n + 1) 9 (str a) (str b)).run Tryz.prog w = .ok (decide (a = b)) w := by
  rw [Op.equalIn]
  have : ((⟨a.toArray⟩ : ByteArray) == ⟨b.toArray⟩) = decide (a = b) := by
    show (a.toArray == b.toArray) = _
    rw [beqD]; simp
  simp [run_underlying Tryz.underlying9, str, this]
theorem isA9 (w : World) : (isAgg 9).run Tryz.prog w = .ok false w := by simp [isAgg, run_underlying Tryz.underlying9]
set_option linter.unusedSimpArgs false in
theorem eqn47 (n : Nat) (a b : Val) (c3001 c3002 : List Value) (A : Ar) (w : World) (h : tVal.rel a c3001 A w) (g : tVal.rel b c3002 A w) : (Op.equalIn (n + 2) 47 (.agg c3001.toArray) (.agg c3002.toArray)).run Tryz.prog w = .ok (decide (a = b)) w := by
  have stood : Tryz.prog.stoodInHeld 47 = false := by kernel_rfl
  obtain ⟨_, _, rfl, h3, ⟨_, _, rfl, h2, h0⟩⟩ := h
  cases h3
  cases h2
  cases h0
  obtain ⟨_, _, rfl, g3, ⟨_, _, rfl, g2, g0⟩⟩ := g
  cases g3
  cases g2
  cases g0
  rw [Op.equalIn]
  simp [run_underlying Tryz.underlying47, stood, part, eqn3, eqn9, isA3, isA9]
  have e : decide (a = b) = (decide (a.kind = b.kind) && decide (a.n = b.n) && decide (a.text = b.text)) := by cases a; cases b; simp [Bool.and_assoc]
  rw [e]
  by_cases e0 : a.kind = b.kind <;> by_cases e1 : a.n = b.n <;> by_cases e2 : a.text = b.text <;> simp [e0, e1, e2]
theorem eq47 : EqAt Tryz.prog 47 tVal := ⟨by kernel_rfl, rfl, fun a b c3001 c3002 A w h g => eqn47 9998 a b c3001 c3002 A w h g⟩
theorem eqn4 (n : Nat) (a b : Bool) (w : World) : (Op.equalIn (n + 1) 4 (.bool a) (.bool b)).run Tryz.prog w = .ok (decide (a = b)) w := by
  rw [Op.equalIn]; simp [run_underlying Tryz.underlying4, beqD]
theorem isA4 (w : World) : (isAgg 4).run Tryz.prog w = .ok false w := by simp [isAgg, run_underlying Tryz.underlying4]
theorem isA47 (w : World) : (isAgg 47).run Tryz.prog w = .ok true w := by simp [isAgg, run_underlying Tryz.underlying47]
set_option linter.unusedSimpArgs false in
theorem eqn52 (n : Nat) (a b : Col) (c3001 c3002 : List Value) (A : Ar) (w : World) (h : tCol.rel a c3001 A w) (g : tCol.rel b c3002 A w) : (Op.equalIn (n + 3) 49 (.agg c3001.toArray) (.agg c3002.toArray)).run Tryz.prog w = .ok (decide (a = b)) w := by
  have stood : Tryz.prog.stoodInHeld 49 = false := by kernel_rfl
  obtain ⟨_, _, rfl, h5, ⟨_, _, rfl, h4, ⟨_, _, rfl, h3, ⟨_, _, rfl, h2, h0⟩⟩⟩⟩ := h
  cases h5
  cases h4
  cases h3
  cases h2
  obtain ⟨_, _, rfl, g5, ⟨_, _, rfl, g4, ⟨_, _, rfl, g3, ⟨_, _, rfl, g2, g0⟩⟩⟩⟩ := g
  cases g5
  cases g4
  cases g3
  cases g2
  have ph0 := tVal.len h0
  have pg0 := tVal.len g0
  have qh0 := fun n => eqn47 n _ _ _ _ A w h0 g0
  have th0 := List.take_of_length_le (Nat.le_of_eq (show _ = 3 from tVal.len h0))
  have tg0 := List.take_of_length_le (Nat.le_of_eq (show _ = 3 from tVal.len g0))
  rw [Op.equalIn]
  simp [run_underlying Tryz.underlying49, stood, part, eqn3, eqn4, eqn9, isA3, isA4, isA9, isA47, (ty47).sizeOf, ph0, pg0]
  have e : decide (a = b) = (decide (a.name = b.name) && decide (a.kind = b.kind) && decide (a.need = b.need) && decide (a.once = b.once) && decide (a.def_ = b.def_)) := by cases a; cases b; simp [Bool.and_assoc]
  rw [e]
  by_cases e0 : a.name = b.name <;> by_cases e1 : a.kind = b.kind <;> by_cases e2 : a.need = b.need <;> by_cases e3 : a.once = b.once <;> by_cases e4 : a.def_ = b.def_ <;> simp [e0, e1, e2, e3, e4, qh0, th0, tg0]
theorem eq52 : EqAt Tryz.prog 49 tCol := ⟨by kernel_rfl, rfl, fun a b c3001 c3002 A w h g => eqn52 9997 a b c3001 c3002 A w h g⟩
theorem isA52 (w : World) : (isAgg 49).run Tryz.prog w = .ok true w := by simp [isAgg, run_underlying Tryz.underlying49]
set_option linter.unusedSimpArgs false in
theorem eqn56 (n : Nat) (a b : Change) (c3001 c3002 : List Value) (A : Ar) (w : World) (h : tChange.rel a c3001 A w) (g : tChange.rel b c3002 A w) : (Op.equalIn (n + 4) 51 (.agg c3001.toArray) (.agg c3002.toArray)).run Tryz.prog w = .ok (decide (a = b)) w := by
  have stood : Tryz.prog.stoodInHeld 51 = false := by kernel_rfl
  obtain ⟨_, _, rfl, h4, ⟨_, _, rfl, h3, ⟨_, _, rfl, h2, h0⟩⟩⟩ := h
  cases h4
  cases h3
  cases h2
  obtain ⟨_, _, rfl, g4, ⟨_, _, rfl, g3, ⟨_, _, rfl, g2, g0⟩⟩⟩ := g
  cases g4
  cases g3
  cases g2
  have ph0 := tCol.len h0
  have pg0 := tCol.len g0
  have qh0 := fun n => eqn52 n _ _ _ _ A w h0 g0
  have th0 := List.take_of_length_le (Nat.le_of_eq (show _ = 7 from tCol.len h0))
  have tg0 := List.take_of_length_le (Nat.le_of_eq (show _ = 7 from tCol.len g0))
  rw [Op.equalIn]
  simp [run_underlying Tryz.underlying51, stood, part, eqn3, eqn9, isA3, isA9, isA52, (ty52).sizeOf, ph0, pg0]
  have e : decide (a = b) = (decide (a.kind = b.kind) && decide (a.name = b.name) && decide (a.new = b.new) && decide (a.col = b.col)) := by cases a; cases b; simp [Bool.and_assoc]
  rw [e]
  by_cases e0 : a.kind = b.kind <;> by_cases e1 : a.name = b.name <;> by_cases e2 : a.new = b.new <;> by_cases e3 : a.col = b.col <;> simp [e0, e1, e2, e3, qh0, th0, tg0]
theorem eq56 : EqAt Tryz.prog 51 tChange := ⟨by kernel_rfl, rfl, fun a b c3001 c3002 A w h g => eqn56 9996 a b c3001 c3002 A w h g⟩
theorem beqSelf (a : Array UInt8) : ((⟨a⟩ : ByteArray) == ⟨a⟩) = true := by show (a == a) = true; simp
theorem beqText (a b : List UInt8) : ((⟨a.toArray⟩ : ByteArray) == ⟨b.toArray⟩) = decide (a = b) := by
  show (a.toArray == b.toArray) = _
  rw [beqD]; simp
def mk47 (k : Val) : Value := .agg #[.int .i64 k.kind, .int .i64 k.n, str k.text]
theorem key47 : KeyAt Tryz.prog 47 tVal mk47 where
  val h := by
    obtain ⟨cs, rfl, h⟩ := h
    obtain ⟨_, _, rfl, h3, ⟨_, _, rfl, h2, h1⟩⟩ := h
    cases h3; cases h2; cases h1; rfl
  chk e k w := by
    have h3 : ∀ a : Int, (Instr.checkKey e (9998 + 1) 3 (.int .i64 a)).run Tryz.prog w = .ok () w := fun a => MapKept.run_checkKey (w := w) Tryz.underlying3 (by simp [MapKept.IsKey]) e 9998
    have h9 : ∀ a : ByteArray, (Instr.checkKey e (9998 + 1) 9 (.string a)).run Tryz.prog w = .ok () w := fun a => MapKept.run_checkKey (w := w) Tryz.underlying9 (by simp [MapKept.IsKey]) e 9998
    show (Instr.checkKey e (9998 + 1 + 1) 47 (mk47 k)).run Tryz.prog w = _
    rw [Instr.checkKey]
    simp [run_underlying Tryz.underlying47, mk47, str, part, isA3, h3, isA9, h9]
  eq a b w := eq47.h a b [.int .i64 a.kind, .int .i64 a.n, str a.text] [.int .i64 b.kind, .int .i64 b.n, str b.text] (fun _ _ => True) w ⟨[_], [_, _], rfl, rfl, [_], [_], rfl, rfl, rfl⟩ ⟨[_], [_, _], rfl, rfl, [_], [_], rfl, rfl, rfl⟩
  bits k := by simp [Instr.sameBits, mk47, str, beqSelf]
  now := ⟨_, Tryz.underlying47, .inr fun a b => by simp [Instr.sameNow, mk47]⟩
theorem key9 : KeyAt Tryz.prog 9 tS str where
  val h := h
  chk e k w := by unfold Instr.checkKey; simp [run_underlying Tryz.underlying9, str]
  eq a b w := by
    unfold Op.equal Op.maxDepth
    rw [Op.equalIn]
    simp [run_underlying Tryz.underlying9, str, beqText]
  bits k := by simp [Instr.sameBits, str, beqSelf]
  now := ⟨_, Tryz.underlying9, .inl fun a b => by simp [Instr.sameNow, str, beqText]⟩
end Go.Proofs.YtejobmamkeoheaaGreatDoor
