/-
  NARROWER THAN 'FOR EVERY INPUT', by the rows' own cells (each row's printed sentence says how): FnTableOff: laid · FnTableCode: laid · FnTableNums: laid · FnTableNext: laid · FnTableSet: laid · FnTableAgain: laid · FnTableMany: laid · FnTableChange: laid · FnTableTwice: laid.
  DERIVED. THE GIVEN ROWS OF THIS SEAT. 9 by the template 'for every input the law returns true; each argument reads behind the call as it read before'; 0 by the template 'total and deterministic' (their statements: YtbnklinfjmmlfaaGreatDoorTotals.lean).
  GIVEN WITH THE SEED: the statements are not yours to turn. If you find one false, say at which input.
  Laid BY PROGRAM, IN A SANDBOX (cutbox-rows.mjs): the forced cells as the released guide's own fill.sh prints them over the translation 985b77713e0a9028… (all of the seat's roots in one cut). By AI agents, Wed Nov 11 2026. No macro, syntax, notation, axiom, sorry.
-/
import Derived.Test.YtbnklinfjmmlfaaGreatDoorChecked
import GoSem.Claim
import GoSem.ClaimJoined
import GoSem.ClaimMapViews
import Derived.JoinedTies
import Derived.KernelRfl
namespace Go.Proofs.YtbnklinfjmmlfaaGreatDoor
/- THE CELL 'sum', in the pinned program and in every row, IS THE sha256 OF THE DUMP (.gsa) THAT YtbnklinfjmmlfaaGreatDoorProg.lean LOADS. Nothing in Lean hashes anything: it is a label: what it is worth is what the hold of that sum in a sandbox is worth. -/
noncomputable def Tryz.pinned : Pinned := { name := "ytbnklinfjmmlfaagreatdoor", sum := "985b77713e0a9028805cbee870be7c43cef5a726836193f007e502e1df570521", checked := Tryz.checked }
namespace Rows
def none {H : Type} : Left H := { results := [], args := [] }

/- WHAT THE LISTED PACKAGE-LEVEL VARIABLES READ AS WHEN THE CALL BEGINS. Each datum BY PROGRAM (the guide's laid-datum.mjs) off the statement by which the dump's own 'gosem.cut.vars' lays the variable. In a bare row this is a premise. The card (YtbnklinfjmmlfaaGreatDoorCards.lean) ties it to the program's text. -/
def laid_math_bits_deBruijn32tab {H : Type} : DataW H := .agg [.lit (.int .u8 0), .lit (.int .u8 1), .lit (.int .u8 28), .lit (.int .u8 2), .lit (.int .u8 29), .lit (.int .u8 14), .lit (.int .u8 24), .lit (.int .u8 3), .lit (.int .u8 30), .lit (.int .u8 22), .lit (.int .u8 20), .lit (.int .u8 15), .lit (.int .u8 25), .lit (.int .u8 17), .lit (.int .u8 4), .lit (.int .u8 8), .lit (.int .u8 31), .lit (.int .u8 27), .lit (.int .u8 13), .lit (.int .u8 23), .lit (.int .u8 21), .lit (.int .u8 19), .lit (.int .u8 16), .lit (.int .u8 7), .lit (.int .u8 26), .lit (.int .u8 12), .lit (.int .u8 18), .lit (.int .u8 6), .lit (.int .u8 11), .lit (.int .u8 5), .lit (.int .u8 10), .lit (.int .u8 9)]
def laid_math_bits_deBruijn64tab {H : Type} : DataW H := .agg [.lit (.int .u8 0), .lit (.int .u8 1), .lit (.int .u8 56), .lit (.int .u8 2), .lit (.int .u8 57), .lit (.int .u8 49), .lit (.int .u8 28), .lit (.int .u8 3), .lit (.int .u8 61), .lit (.int .u8 58), .lit (.int .u8 42), .lit (.int .u8 50), .lit (.int .u8 38), .lit (.int .u8 29), .lit (.int .u8 17), .lit (.int .u8 4), .lit (.int .u8 62), .lit (.int .u8 47), .lit (.int .u8 59), .lit (.int .u8 36), .lit (.int .u8 45), .lit (.int .u8 43), .lit (.int .u8 51), .lit (.int .u8 22), .lit (.int .u8 53), .lit (.int .u8 39), .lit (.int .u8 33), .lit (.int .u8 30), .lit (.int .u8 24), .lit (.int .u8 18), .lit (.int .u8 12), .lit (.int .u8 5), .lit (.int .u8 63), .lit (.int .u8 55), .lit (.int .u8 48), .lit (.int .u8 27), .lit (.int .u8 60), .lit (.int .u8 41), .lit (.int .u8 37), .lit (.int .u8 16), .lit (.int .u8 46), .lit (.int .u8 35), .lit (.int .u8 44), .lit (.int .u8 21), .lit (.int .u8 52), .lit (.int .u8 32), .lit (.int .u8 23), .lit (.int .u8 11), .lit (.int .u8 54), .lit (.int .u8 26), .lit (.int .u8 40), .lit (.int .u8 15), .lit (.int .u8 34), .lit (.int .u8 20), .lit (.int .u8 31), .lit (.int .u8 10), .lit (.int .u8 25), .lit (.int .u8 14), .lit (.int .u8 19), .lit (.int .u8 9), .lit (.int .u8 13), .lit (.int .u8 8), .lit (.int .u8 7), .lit (.int .u8 6)]
def laid_internal_strconv_uint64pow10 {H : Type} : DataW H := .agg [.lit (.int .u64 1), .lit (.int .u64 10), .lit (.int .u64 100), .lit (.int .u64 1000), .lit (.int .u64 10000), .lit (.int .u64 100000), .lit (.int .u64 1000000), .lit (.int .u64 10000000), .lit (.int .u64 100000000), .lit (.int .u64 1000000000), .lit (.int .u64 10000000000), .lit (.int .u64 100000000000), .lit (.int .u64 1000000000000), .lit (.int .u64 10000000000000), .lit (.int .u64 100000000000000), .lit (.int .u64 1000000000000000), .lit (.int .u64 10000000000000000), .lit (.int .u64 100000000000000000), .lit (.int .u64 1000000000000000000), .lit (.int .u64 10000000000000000000)]
def laid_strconv_ErrRange {H : Type} : DataW H := .iface "*errors.errorString" (.ptr (.agg [.lit (.string [118, 97, 108, 117, 101, 32, 111, 117, 116, 32, 111, 102, 32, 114, 97, 110, 103, 101])]))
def laid_strconv_ErrSyntax {H : Type} : DataW H := .iface "*errors.errorString" (.ptr (.agg [.lit (.string [105, 110, 118, 97, 108, 105, 100, 32, 115, 121, 110, 116, 97, 120])]))

/-- 'laws.FnTableOff': WHATEVER THE INPUT: true; the input reads as it did. -/
def fnTableOffSpec : ChangeSpec := { name := "fnTableOff", fn := fun _ => fun
  | [d] => { results := [.lit (.bool true)], args := [d] }
  | _ => none }
def fnTableOffRow : OpenClaim := { program := "ytbnklinfjmmlfaagreatdoor", sum := "985b77713e0a9028805cbee870be7c43cef5a726836193f007e502e1df570521", func := "loop.example/custumal/laws.FnTableOff", spec := "fnTableOff", unfollowed := true, recurses := true, named := ["internal/strconv.uint64pow10", "math/bits.deBruijn32tab", "math/bits.deBruijn64tab", "strconv.ErrSyntax", "strconv.ErrRange"], plainKeys := false, apart := false, laid := [("math/bits.deBruijn32tab", laid_math_bits_deBruijn32tab), ("math/bits.deBruijn64tab", laid_math_bits_deBruijn64tab), ("internal/strconv.uint64pow10", laid_internal_strconv_uint64pow10), ("strconv.ErrRange", laid_strconv_ErrRange), ("strconv.ErrSyntax", laid_strconv_ErrSyntax)] }
def FnTableOffSaid : Prop := fnTableOffRow.holds Tryz.pinned (OpenSpec.ofChange fnTableOffSpec)

/-- ITS FALSE NEIGHBOUR: 'it returns false'. Refute it at one input. -/
def fnTableOffWrong : ChangeSpec := { name := "fnTableOff", fn := fun _ => fun
  | [d] => { results := [.lit (.bool false)], args := [d] }
  | _ => none }
def FnTableOffWrongFalsely : Prop := fnTableOffRow.holds Tryz.pinned (OpenSpec.ofChange fnTableOffWrong)

/-- 'laws.FnTableCode': WHATEVER THE INPUT: true; the input reads as it did. -/
def fnTableCodeSpec : ChangeSpec := { name := "fnTableCode", fn := fun _ => fun
  | [d] => { results := [.lit (.bool true)], args := [d] }
  | _ => none }
def fnTableCodeRow : OpenClaim := { program := "ytbnklinfjmmlfaagreatdoor", sum := "985b77713e0a9028805cbee870be7c43cef5a726836193f007e502e1df570521", func := "loop.example/custumal/laws.FnTableCode", spec := "fnTableCode", unfollowed := true, recurses := true, named := ["internal/strconv.uint64pow10", "math/bits.deBruijn32tab", "math/bits.deBruijn64tab", "strconv.ErrSyntax", "strconv.ErrRange"], plainKeys := false, apart := false, laid := [("math/bits.deBruijn32tab", laid_math_bits_deBruijn32tab), ("math/bits.deBruijn64tab", laid_math_bits_deBruijn64tab), ("internal/strconv.uint64pow10", laid_internal_strconv_uint64pow10), ("strconv.ErrRange", laid_strconv_ErrRange), ("strconv.ErrSyntax", laid_strconv_ErrSyntax)] }
def FnTableCodeSaid : Prop := fnTableCodeRow.holds Tryz.pinned (OpenSpec.ofChange fnTableCodeSpec)

/-- ITS FALSE NEIGHBOUR: 'it returns false'. Refute it at one input. -/
def fnTableCodeWrong : ChangeSpec := { name := "fnTableCode", fn := fun _ => fun
  | [d] => { results := [.lit (.bool false)], args := [d] }
  | _ => none }
def FnTableCodeWrongFalsely : Prop := fnTableCodeRow.holds Tryz.pinned (OpenSpec.ofChange fnTableCodeWrong)

/-- 'laws.FnTableNums': WHATEVER THE INPUT: true; the input reads as it did. -/
def fnTableNumsSpec : ChangeSpec := { name := "fnTableNums", fn := fun _ => fun
  | [d] => { results := [.lit (.bool true)], args := [d] }
  | _ => none }
def fnTableNumsRow : OpenClaim := { program := "ytbnklinfjmmlfaagreatdoor", sum := "985b77713e0a9028805cbee870be7c43cef5a726836193f007e502e1df570521", func := "loop.example/custumal/laws.FnTableNums", spec := "fnTableNums", unfollowed := true, recurses := true, named := ["internal/strconv.uint64pow10", "math/bits.deBruijn32tab", "math/bits.deBruijn64tab", "strconv.ErrSyntax", "strconv.ErrRange"], plainKeys := false, apart := false, laid := [("math/bits.deBruijn32tab", laid_math_bits_deBruijn32tab), ("math/bits.deBruijn64tab", laid_math_bits_deBruijn64tab), ("internal/strconv.uint64pow10", laid_internal_strconv_uint64pow10), ("strconv.ErrRange", laid_strconv_ErrRange), ("strconv.ErrSyntax", laid_strconv_ErrSyntax)] }
def FnTableNumsSaid : Prop := fnTableNumsRow.holds Tryz.pinned (OpenSpec.ofChange fnTableNumsSpec)

/-- ITS FALSE NEIGHBOUR: 'it returns false'. Refute it at one input. -/
def fnTableNumsWrong : ChangeSpec := { name := "fnTableNums", fn := fun _ => fun
  | [d] => { results := [.lit (.bool false)], args := [d] }
  | _ => none }
def FnTableNumsWrongFalsely : Prop := fnTableNumsRow.holds Tryz.pinned (OpenSpec.ofChange fnTableNumsWrong)

/-- 'laws.FnTableNext': WHATEVER THE INPUT: true; the input reads as it did. -/
def fnTableNextSpec : ChangeSpec := { name := "fnTableNext", fn := fun _ => fun
  | [d] => { results := [.lit (.bool true)], args := [d] }
  | _ => none }
def fnTableNextRow : OpenClaim := { program := "ytbnklinfjmmlfaagreatdoor", sum := "985b77713e0a9028805cbee870be7c43cef5a726836193f007e502e1df570521", func := "loop.example/custumal/laws.FnTableNext", spec := "fnTableNext", unfollowed := true, recurses := true, named := ["internal/strconv.uint64pow10", "math/bits.deBruijn32tab", "math/bits.deBruijn64tab", "strconv.ErrSyntax", "strconv.ErrRange"], plainKeys := false, apart := false, laid := [("math/bits.deBruijn32tab", laid_math_bits_deBruijn32tab), ("math/bits.deBruijn64tab", laid_math_bits_deBruijn64tab), ("internal/strconv.uint64pow10", laid_internal_strconv_uint64pow10), ("strconv.ErrRange", laid_strconv_ErrRange), ("strconv.ErrSyntax", laid_strconv_ErrSyntax)] }
def FnTableNextSaid : Prop := fnTableNextRow.holds Tryz.pinned (OpenSpec.ofChange fnTableNextSpec)

/-- ITS FALSE NEIGHBOUR: 'it returns false'. Refute it at one input. -/
def fnTableNextWrong : ChangeSpec := { name := "fnTableNext", fn := fun _ => fun
  | [d] => { results := [.lit (.bool false)], args := [d] }
  | _ => none }
def FnTableNextWrongFalsely : Prop := fnTableNextRow.holds Tryz.pinned (OpenSpec.ofChange fnTableNextWrong)

/-- 'laws.FnTableSet': WHATEVER THE INPUT: true; the input reads as it did. -/
def fnTableSetSpec : ChangeSpec := { name := "fnTableSet", fn := fun _ => fun
  | [d] => { results := [.lit (.bool true)], args := [d] }
  | _ => none }
def fnTableSetRow : OpenClaim := { program := "ytbnklinfjmmlfaagreatdoor", sum := "985b77713e0a9028805cbee870be7c43cef5a726836193f007e502e1df570521", func := "loop.example/custumal/laws.FnTableSet", spec := "fnTableSet", unfollowed := true, recurses := true, named := ["internal/strconv.uint64pow10", "math/bits.deBruijn32tab", "math/bits.deBruijn64tab", "strconv.ErrSyntax", "strconv.ErrRange"], plainKeys := false, apart := false, laid := [("math/bits.deBruijn32tab", laid_math_bits_deBruijn32tab), ("math/bits.deBruijn64tab", laid_math_bits_deBruijn64tab), ("internal/strconv.uint64pow10", laid_internal_strconv_uint64pow10), ("strconv.ErrRange", laid_strconv_ErrRange), ("strconv.ErrSyntax", laid_strconv_ErrSyntax)] }
def FnTableSetSaid : Prop := fnTableSetRow.holds Tryz.pinned (OpenSpec.ofChange fnTableSetSpec)

/-- ITS FALSE NEIGHBOUR: 'it returns false'. Refute it at one input. -/
def fnTableSetWrong : ChangeSpec := { name := "fnTableSet", fn := fun _ => fun
  | [d] => { results := [.lit (.bool false)], args := [d] }
  | _ => none }
def FnTableSetWrongFalsely : Prop := fnTableSetRow.holds Tryz.pinned (OpenSpec.ofChange fnTableSetWrong)

/-- 'laws.FnTableAgain': WHATEVER THE INPUT: true; the input reads as it did. -/
def fnTableAgainSpec : ChangeSpec := { name := "fnTableAgain", fn := fun _ => fun
  | [d] => { results := [.lit (.bool true)], args := [d] }
  | _ => none }
def fnTableAgainRow : OpenClaim := { program := "ytbnklinfjmmlfaagreatdoor", sum := "985b77713e0a9028805cbee870be7c43cef5a726836193f007e502e1df570521", func := "loop.example/custumal/laws.FnTableAgain", spec := "fnTableAgain", unfollowed := true, recurses := true, named := ["internal/strconv.uint64pow10", "math/bits.deBruijn32tab", "math/bits.deBruijn64tab", "strconv.ErrSyntax", "strconv.ErrRange"], plainKeys := false, apart := false, laid := [("math/bits.deBruijn32tab", laid_math_bits_deBruijn32tab), ("math/bits.deBruijn64tab", laid_math_bits_deBruijn64tab), ("internal/strconv.uint64pow10", laid_internal_strconv_uint64pow10), ("strconv.ErrRange", laid_strconv_ErrRange), ("strconv.ErrSyntax", laid_strconv_ErrSyntax)] }
def FnTableAgainSaid : Prop := fnTableAgainRow.holds Tryz.pinned (OpenSpec.ofChange fnTableAgainSpec)

/-- ITS FALSE NEIGHBOUR: 'it returns false'. Refute it at one input. -/
def fnTableAgainWrong : ChangeSpec := { name := "fnTableAgain", fn := fun _ => fun
  | [d] => { results := [.lit (.bool false)], args := [d] }
  | _ => none }
def FnTableAgainWrongFalsely : Prop := fnTableAgainRow.holds Tryz.pinned (OpenSpec.ofChange fnTableAgainWrong)

/-- 'laws.FnTableMany': WHATEVER THE INPUT: true; the input reads as it did. -/
def fnTableManySpec : ChangeSpec := { name := "fnTableMany", fn := fun _ => fun
  | [d] => { results := [.lit (.bool true)], args := [d] }
  | _ => none }
def fnTableManyRow : OpenClaim := { program := "ytbnklinfjmmlfaagreatdoor", sum := "985b77713e0a9028805cbee870be7c43cef5a726836193f007e502e1df570521", func := "loop.example/custumal/laws.FnTableMany", spec := "fnTableMany", unfollowed := true, recurses := true, named := ["internal/strconv.uint64pow10", "math/bits.deBruijn32tab", "math/bits.deBruijn64tab", "strconv.ErrSyntax", "strconv.ErrRange"], plainKeys := false, apart := false, laid := [("math/bits.deBruijn32tab", laid_math_bits_deBruijn32tab), ("math/bits.deBruijn64tab", laid_math_bits_deBruijn64tab), ("internal/strconv.uint64pow10", laid_internal_strconv_uint64pow10), ("strconv.ErrRange", laid_strconv_ErrRange), ("strconv.ErrSyntax", laid_strconv_ErrSyntax)] }
def FnTableManySaid : Prop := fnTableManyRow.holds Tryz.pinned (OpenSpec.ofChange fnTableManySpec)

/-- ITS FALSE NEIGHBOUR: 'it returns false'. Refute it at one input. -/
def fnTableManyWrong : ChangeSpec := { name := "fnTableMany", fn := fun _ => fun
  | [d] => { results := [.lit (.bool false)], args := [d] }
  | _ => none }
def FnTableManyWrongFalsely : Prop := fnTableManyRow.holds Tryz.pinned (OpenSpec.ofChange fnTableManyWrong)

/-- 'laws.FnTableChange': WHATEVER THE INPUT: true; the input reads as it did. -/
def fnTableChangeSpec : ChangeSpec := { name := "fnTableChange", fn := fun _ => fun
  | [d] => { results := [.lit (.bool true)], args := [d] }
  | _ => none }
def fnTableChangeRow : OpenClaim := { program := "ytbnklinfjmmlfaagreatdoor", sum := "985b77713e0a9028805cbee870be7c43cef5a726836193f007e502e1df570521", func := "loop.example/custumal/laws.FnTableChange", spec := "fnTableChange", unfollowed := true, recurses := true, named := ["internal/strconv.uint64pow10", "math/bits.deBruijn32tab", "math/bits.deBruijn64tab", "strconv.ErrSyntax", "strconv.ErrRange"], plainKeys := false, apart := false, laid := [("math/bits.deBruijn32tab", laid_math_bits_deBruijn32tab), ("math/bits.deBruijn64tab", laid_math_bits_deBruijn64tab), ("internal/strconv.uint64pow10", laid_internal_strconv_uint64pow10), ("strconv.ErrRange", laid_strconv_ErrRange), ("strconv.ErrSyntax", laid_strconv_ErrSyntax)] }
def FnTableChangeSaid : Prop := fnTableChangeRow.holds Tryz.pinned (OpenSpec.ofChange fnTableChangeSpec)

/-- ITS FALSE NEIGHBOUR: 'it returns false'. Refute it at one input. -/
def fnTableChangeWrong : ChangeSpec := { name := "fnTableChange", fn := fun _ => fun
  | [d] => { results := [.lit (.bool false)], args := [d] }
  | _ => none }
def FnTableChangeWrongFalsely : Prop := fnTableChangeRow.holds Tryz.pinned (OpenSpec.ofChange fnTableChangeWrong)

/-- 'laws.FnTableTwice': WHATEVER THE INPUT: true; the input reads as it did. -/
def fnTableTwiceSpec : ChangeSpec := { name := "fnTableTwice", fn := fun _ => fun
  | [d] => { results := [.lit (.bool true)], args := [d] }
  | _ => none }
def fnTableTwiceRow : OpenClaim := { program := "ytbnklinfjmmlfaagreatdoor", sum := "985b77713e0a9028805cbee870be7c43cef5a726836193f007e502e1df570521", func := "loop.example/custumal/laws.FnTableTwice", spec := "fnTableTwice", unfollowed := true, recurses := true, named := ["internal/strconv.uint64pow10", "math/bits.deBruijn32tab", "math/bits.deBruijn64tab", "strconv.ErrSyntax", "strconv.ErrRange"], plainKeys := false, apart := false, laid := [("math/bits.deBruijn32tab", laid_math_bits_deBruijn32tab), ("math/bits.deBruijn64tab", laid_math_bits_deBruijn64tab), ("internal/strconv.uint64pow10", laid_internal_strconv_uint64pow10), ("strconv.ErrRange", laid_strconv_ErrRange), ("strconv.ErrSyntax", laid_strconv_ErrSyntax)] }
def FnTableTwiceSaid : Prop := fnTableTwiceRow.holds Tryz.pinned (OpenSpec.ofChange fnTableTwiceSpec)

/-- ITS FALSE NEIGHBOUR: 'it returns false'. Refute it at one input. -/
def fnTableTwiceWrong : ChangeSpec := { name := "fnTableTwice", fn := fun _ => fun
  | [d] => { results := [.lit (.bool false)], args := [d] }
  | _ => none }
def FnTableTwiceWrongFalsely : Prop := fnTableTwiceRow.holds Tryz.pinned (OpenSpec.ofChange fnTableTwiceWrong)

/- THE SECOND FORM. 'bulk': how many values and letters a reading holds, each counted each time it is reached (what is shared counts as often as it is met; a slice's spare places count too). A statement '..UptoSaid' is the law's where the arguments, and the package variables that the reading takes, are together of bulk at most 1048576: NARROWER than '..Said'. Prove '..Said' where nothing that the law and all that it calls make is longer than what came in: it says more and counts as full. Else prove '..UptoSaid'. A law counts once. -/
mutual
def uptoBulk {H : Type} : DataW H → Nat
  | .lit (.string bytes) => bytes.length + 1
  | .lit _ => 1
  | .nil => 1
  | .ptr d => uptoBulk d + 1
  | .slice elems spare => uptoBulkAll elems + uptoBulkAll spare + 1
  | .agg parts => uptoBulkAll parts + 1
  | .iface _ d => uptoBulk d + 1
  | .map entries => uptoBulkEntries entries + 1
  | .held _ => 1
def uptoBulkAll {H : Type} : List (DataW H) → Nat
  | [] => 0
  | d :: r => uptoBulk d + uptoBulkAll r
def uptoBulkEntries {H : Type} : List (Lit × DataW H) → Nat
  | [] => 0
  | x :: r => uptoBulkEntry x + uptoBulkEntries r
def uptoBulkEntry {H : Type} : Lit × DataW H → Nat
  | (.string bytes, d) => bytes.length + uptoBulk d + 1
  | (_, d) => uptoBulk d + 1
 end
def uptoSmall : (H : Type) → List (DataW H) → Bool := fun _ ds => decide (uptoBulkAll ds ≤ 1048576)
def OpenSpec.upto (s : _root_.Go.ChangeSpec) : _root_.Go.OpenSpec := { _root_.Go.OpenSpec.ofChange s with cond := some uptoSmall }

/-- 'laws.FnTableOff', WHERE WHAT IT READS IS OF BULK AT MOST 1048576: true; the input reads as it did. -/
def fnTableOffUptoRow : OpenClaim := { program := "ytbnklinfjmmlfaagreatdoor", sum := "985b77713e0a9028805cbee870be7c43cef5a726836193f007e502e1df570521", func := "loop.example/custumal/laws.FnTableOff", spec := "fnTableOff", unfollowed := true, recurses := true, named := ["internal/strconv.uint64pow10", "math/bits.deBruijn32tab", "math/bits.deBruijn64tab", "strconv.ErrSyntax", "strconv.ErrRange"], plainKeys := false, apart := false, laid := [("math/bits.deBruijn32tab", laid_math_bits_deBruijn32tab), ("math/bits.deBruijn64tab", laid_math_bits_deBruijn64tab), ("internal/strconv.uint64pow10", laid_internal_strconv_uint64pow10), ("strconv.ErrRange", laid_strconv_ErrRange), ("strconv.ErrSyntax", laid_strconv_ErrSyntax)], narrowed := true }
def FnTableOffUptoSaid : Prop := fnTableOffUptoRow.holds Tryz.pinned (OpenSpec.upto fnTableOffSpec)

/-- 'laws.FnTableCode', WHERE WHAT IT READS IS OF BULK AT MOST 1048576: true; the input reads as it did. -/
def fnTableCodeUptoRow : OpenClaim := { program := "ytbnklinfjmmlfaagreatdoor", sum := "985b77713e0a9028805cbee870be7c43cef5a726836193f007e502e1df570521", func := "loop.example/custumal/laws.FnTableCode", spec := "fnTableCode", unfollowed := true, recurses := true, named := ["internal/strconv.uint64pow10", "math/bits.deBruijn32tab", "math/bits.deBruijn64tab", "strconv.ErrSyntax", "strconv.ErrRange"], plainKeys := false, apart := false, laid := [("math/bits.deBruijn32tab", laid_math_bits_deBruijn32tab), ("math/bits.deBruijn64tab", laid_math_bits_deBruijn64tab), ("internal/strconv.uint64pow10", laid_internal_strconv_uint64pow10), ("strconv.ErrRange", laid_strconv_ErrRange), ("strconv.ErrSyntax", laid_strconv_ErrSyntax)], narrowed := true }
def FnTableCodeUptoSaid : Prop := fnTableCodeUptoRow.holds Tryz.pinned (OpenSpec.upto fnTableCodeSpec)

/-- 'laws.FnTableNums', WHERE WHAT IT READS IS OF BULK AT MOST 1048576: true; the input reads as it did. -/
def fnTableNumsUptoRow : OpenClaim := { program := "ytbnklinfjmmlfaagreatdoor", sum := "985b77713e0a9028805cbee870be7c43cef5a726836193f007e502e1df570521", func := "loop.example/custumal/laws.FnTableNums", spec := "fnTableNums", unfollowed := true, recurses := true, named := ["internal/strconv.uint64pow10", "math/bits.deBruijn32tab", "math/bits.deBruijn64tab", "strconv.ErrSyntax", "strconv.ErrRange"], plainKeys := false, apart := false, laid := [("math/bits.deBruijn32tab", laid_math_bits_deBruijn32tab), ("math/bits.deBruijn64tab", laid_math_bits_deBruijn64tab), ("internal/strconv.uint64pow10", laid_internal_strconv_uint64pow10), ("strconv.ErrRange", laid_strconv_ErrRange), ("strconv.ErrSyntax", laid_strconv_ErrSyntax)], narrowed := true }
def FnTableNumsUptoSaid : Prop := fnTableNumsUptoRow.holds Tryz.pinned (OpenSpec.upto fnTableNumsSpec)

/-- 'laws.FnTableNext', WHERE WHAT IT READS IS OF BULK AT MOST 1048576: true; the input reads as it did. -/
def fnTableNextUptoRow : OpenClaim := { program := "ytbnklinfjmmlfaagreatdoor", sum := "985b77713e0a9028805cbee870be7c43cef5a726836193f007e502e1df570521", func := "loop.example/custumal/laws.FnTableNext", spec := "fnTableNext", unfollowed := true, recurses := true, named := ["internal/strconv.uint64pow10", "math/bits.deBruijn32tab", "math/bits.deBruijn64tab", "strconv.ErrSyntax", "strconv.ErrRange"], plainKeys := false, apart := false, laid := [("math/bits.deBruijn32tab", laid_math_bits_deBruijn32tab), ("math/bits.deBruijn64tab", laid_math_bits_deBruijn64tab), ("internal/strconv.uint64pow10", laid_internal_strconv_uint64pow10), ("strconv.ErrRange", laid_strconv_ErrRange), ("strconv.ErrSyntax", laid_strconv_ErrSyntax)], narrowed := true }
def FnTableNextUptoSaid : Prop := fnTableNextUptoRow.holds Tryz.pinned (OpenSpec.upto fnTableNextSpec)

/-- 'laws.FnTableSet', WHERE WHAT IT READS IS OF BULK AT MOST 1048576: true; the input reads as it did. -/
def fnTableSetUptoRow : OpenClaim := { program := "ytbnklinfjmmlfaagreatdoor", sum := "985b77713e0a9028805cbee870be7c43cef5a726836193f007e502e1df570521", func := "loop.example/custumal/laws.FnTableSet", spec := "fnTableSet", unfollowed := true, recurses := true, named := ["internal/strconv.uint64pow10", "math/bits.deBruijn32tab", "math/bits.deBruijn64tab", "strconv.ErrSyntax", "strconv.ErrRange"], plainKeys := false, apart := false, laid := [("math/bits.deBruijn32tab", laid_math_bits_deBruijn32tab), ("math/bits.deBruijn64tab", laid_math_bits_deBruijn64tab), ("internal/strconv.uint64pow10", laid_internal_strconv_uint64pow10), ("strconv.ErrRange", laid_strconv_ErrRange), ("strconv.ErrSyntax", laid_strconv_ErrSyntax)], narrowed := true }
def FnTableSetUptoSaid : Prop := fnTableSetUptoRow.holds Tryz.pinned (OpenSpec.upto fnTableSetSpec)

/-- 'laws.FnTableAgain', WHERE WHAT IT READS IS OF BULK AT MOST 1048576: true; the input reads as it did. -/
def fnTableAgainUptoRow : OpenClaim := { program := "ytbnklinfjmmlfaagreatdoor", sum := "985b77713e0a9028805cbee870be7c43cef5a726836193f007e502e1df570521", func := "loop.example/custumal/laws.FnTableAgain", spec := "fnTableAgain", unfollowed := true, recurses := true, named := ["internal/strconv.uint64pow10", "math/bits.deBruijn32tab", "math/bits.deBruijn64tab", "strconv.ErrSyntax", "strconv.ErrRange"], plainKeys := false, apart := false, laid := [("math/bits.deBruijn32tab", laid_math_bits_deBruijn32tab), ("math/bits.deBruijn64tab", laid_math_bits_deBruijn64tab), ("internal/strconv.uint64pow10", laid_internal_strconv_uint64pow10), ("strconv.ErrRange", laid_strconv_ErrRange), ("strconv.ErrSyntax", laid_strconv_ErrSyntax)], narrowed := true }
def FnTableAgainUptoSaid : Prop := fnTableAgainUptoRow.holds Tryz.pinned (OpenSpec.upto fnTableAgainSpec)

/-- 'laws.FnTableMany', WHERE WHAT IT READS IS OF BULK AT MOST 1048576: true; the input reads as it did. -/
def fnTableManyUptoRow : OpenClaim := { program := "ytbnklinfjmmlfaagreatdoor", sum := "985b77713e0a9028805cbee870be7c43cef5a726836193f007e502e1df570521", func := "loop.example/custumal/laws.FnTableMany", spec := "fnTableMany", unfollowed := true, recurses := true, named := ["internal/strconv.uint64pow10", "math/bits.deBruijn32tab", "math/bits.deBruijn64tab", "strconv.ErrSyntax", "strconv.ErrRange"], plainKeys := false, apart := false, laid := [("math/bits.deBruijn32tab", laid_math_bits_deBruijn32tab), ("math/bits.deBruijn64tab", laid_math_bits_deBruijn64tab), ("internal/strconv.uint64pow10", laid_internal_strconv_uint64pow10), ("strconv.ErrRange", laid_strconv_ErrRange), ("strconv.ErrSyntax", laid_strconv_ErrSyntax)], narrowed := true }
def FnTableManyUptoSaid : Prop := fnTableManyUptoRow.holds Tryz.pinned (OpenSpec.upto fnTableManySpec)

/-- 'laws.FnTableChange', WHERE WHAT IT READS IS OF BULK AT MOST 1048576: true; the input reads as it did. -/
def fnTableChangeUptoRow : OpenClaim := { program := "ytbnklinfjmmlfaagreatdoor", sum := "985b77713e0a9028805cbee870be7c43cef5a726836193f007e502e1df570521", func := "loop.example/custumal/laws.FnTableChange", spec := "fnTableChange", unfollowed := true, recurses := true, named := ["internal/strconv.uint64pow10", "math/bits.deBruijn32tab", "math/bits.deBruijn64tab", "strconv.ErrSyntax", "strconv.ErrRange"], plainKeys := false, apart := false, laid := [("math/bits.deBruijn32tab", laid_math_bits_deBruijn32tab), ("math/bits.deBruijn64tab", laid_math_bits_deBruijn64tab), ("internal/strconv.uint64pow10", laid_internal_strconv_uint64pow10), ("strconv.ErrRange", laid_strconv_ErrRange), ("strconv.ErrSyntax", laid_strconv_ErrSyntax)], narrowed := true }
def FnTableChangeUptoSaid : Prop := fnTableChangeUptoRow.holds Tryz.pinned (OpenSpec.upto fnTableChangeSpec)

/-- 'laws.FnTableTwice', WHERE WHAT IT READS IS OF BULK AT MOST 1048576: true; the input reads as it did. -/
def fnTableTwiceUptoRow : OpenClaim := { program := "ytbnklinfjmmlfaagreatdoor", sum := "985b77713e0a9028805cbee870be7c43cef5a726836193f007e502e1df570521", func := "loop.example/custumal/laws.FnTableTwice", spec := "fnTableTwice", unfollowed := true, recurses := true, named := ["internal/strconv.uint64pow10", "math/bits.deBruijn32tab", "math/bits.deBruijn64tab", "strconv.ErrSyntax", "strconv.ErrRange"], plainKeys := false, apart := false, laid := [("math/bits.deBruijn32tab", laid_math_bits_deBruijn32tab), ("math/bits.deBruijn64tab", laid_math_bits_deBruijn64tab), ("internal/strconv.uint64pow10", laid_internal_strconv_uint64pow10), ("strconv.ErrRange", laid_strconv_ErrRange), ("strconv.ErrSyntax", laid_strconv_ErrSyntax)], narrowed := true }
def FnTableTwiceUptoSaid : Prop := fnTableTwiceUptoRow.holds Tryz.pinned (OpenSpec.upto fnTableTwiceSpec)

end Rows
end Go.Proofs.YtbnklinfjmmlfaaGreatDoor
