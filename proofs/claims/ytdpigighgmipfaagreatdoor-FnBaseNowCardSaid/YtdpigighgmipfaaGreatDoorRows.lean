/-
  NARROWER THAN 'FOR EVERY INPUT', by the rows' own cells (each row's printed sentence says how): FnBaseTable: laid · FnBaseLink: laid · FnBaseNow: laid · FnBaseChange: laid · FnBaseOffTwice: laid · FnBaseSet: laid · FnBasePut: laid · FnBaseHeld: laid · FnBaseFree: laid · FnBasePutOff: laid · FnBaseOff: laid · FnBaseNone: laid.
  DERIVED. THE GIVEN ROWS OF THIS SEAT. 12 by the template 'for every input the law returns true; each argument reads behind the call as it read before'; 0 by the template 'total and deterministic' (their statements: YtdpigighgmipfaaGreatDoorTotals.lean).
  GIVEN WITH THE SEED: the statements are not yours to turn. If you find one false, say at which input.
  Laid BY PROGRAM, IN A SANDBOX (cutbox-rows.mjs): the forced cells as the released guide's own fill.sh prints them over the translation 71c6a284819d91e7… (all of the seat's roots in one cut). By AI agents, Wed Nov 11 2026. No macro, syntax, notation, axiom, sorry.
-/
import Derived.Test.YtdpigighgmipfaaGreatDoorChecked
import GoSem.Claim
import GoSem.ClaimJoined
import GoSem.ClaimMapViews
import Derived.JoinedTies
import Derived.KernelRfl
namespace Go.Proofs.YtdpigighgmipfaaGreatDoor
/- THE CELL 'sum', in the pinned program and in every row, IS THE sha256 OF THE DUMP (.gsa) THAT YtdpigighgmipfaaGreatDoorProg.lean LOADS. Nothing in Lean hashes anything: it is a label: what it is worth is what the hold of that sum in a sandbox is worth. -/
noncomputable def Tryz.pinned : Pinned := { name := "ytdpigighgmipfaagreatdoor", sum := "71c6a284819d91e72a08fff91e4bbd2af6b190007fa3840623879cdf76168325", checked := Tryz.checked }
namespace Rows
def none {H : Type} : Left H := { results := [], args := [] }

/- WHAT THE LISTED PACKAGE-LEVEL VARIABLES READ AS WHEN THE CALL BEGINS. Each datum BY PROGRAM (the guide's laid-datum.mjs) off the statement by which the dump's own 'gosem.cut.vars' lays the variable. In a bare row this is a premise. The card (YtdpigighgmipfaaGreatDoorCards.lean) ties it to the program's text. -/
def laid_math_bits_deBruijn32tab {H : Type} : DataW H := .agg [.lit (.int .u8 0), .lit (.int .u8 1), .lit (.int .u8 28), .lit (.int .u8 2), .lit (.int .u8 29), .lit (.int .u8 14), .lit (.int .u8 24), .lit (.int .u8 3), .lit (.int .u8 30), .lit (.int .u8 22), .lit (.int .u8 20), .lit (.int .u8 15), .lit (.int .u8 25), .lit (.int .u8 17), .lit (.int .u8 4), .lit (.int .u8 8), .lit (.int .u8 31), .lit (.int .u8 27), .lit (.int .u8 13), .lit (.int .u8 23), .lit (.int .u8 21), .lit (.int .u8 19), .lit (.int .u8 16), .lit (.int .u8 7), .lit (.int .u8 26), .lit (.int .u8 12), .lit (.int .u8 18), .lit (.int .u8 6), .lit (.int .u8 11), .lit (.int .u8 5), .lit (.int .u8 10), .lit (.int .u8 9)]
def laid_math_bits_deBruijn64tab {H : Type} : DataW H := .agg [.lit (.int .u8 0), .lit (.int .u8 1), .lit (.int .u8 56), .lit (.int .u8 2), .lit (.int .u8 57), .lit (.int .u8 49), .lit (.int .u8 28), .lit (.int .u8 3), .lit (.int .u8 61), .lit (.int .u8 58), .lit (.int .u8 42), .lit (.int .u8 50), .lit (.int .u8 38), .lit (.int .u8 29), .lit (.int .u8 17), .lit (.int .u8 4), .lit (.int .u8 62), .lit (.int .u8 47), .lit (.int .u8 59), .lit (.int .u8 36), .lit (.int .u8 45), .lit (.int .u8 43), .lit (.int .u8 51), .lit (.int .u8 22), .lit (.int .u8 53), .lit (.int .u8 39), .lit (.int .u8 33), .lit (.int .u8 30), .lit (.int .u8 24), .lit (.int .u8 18), .lit (.int .u8 12), .lit (.int .u8 5), .lit (.int .u8 63), .lit (.int .u8 55), .lit (.int .u8 48), .lit (.int .u8 27), .lit (.int .u8 60), .lit (.int .u8 41), .lit (.int .u8 37), .lit (.int .u8 16), .lit (.int .u8 46), .lit (.int .u8 35), .lit (.int .u8 44), .lit (.int .u8 21), .lit (.int .u8 52), .lit (.int .u8 32), .lit (.int .u8 23), .lit (.int .u8 11), .lit (.int .u8 54), .lit (.int .u8 26), .lit (.int .u8 40), .lit (.int .u8 15), .lit (.int .u8 34), .lit (.int .u8 20), .lit (.int .u8 31), .lit (.int .u8 10), .lit (.int .u8 25), .lit (.int .u8 14), .lit (.int .u8 19), .lit (.int .u8 9), .lit (.int .u8 13), .lit (.int .u8 8), .lit (.int .u8 7), .lit (.int .u8 6)]
def laid_internal_strconv_uint64pow10 {H : Type} : DataW H := .agg [.lit (.int .u64 1), .lit (.int .u64 10), .lit (.int .u64 100), .lit (.int .u64 1000), .lit (.int .u64 10000), .lit (.int .u64 100000), .lit (.int .u64 1000000), .lit (.int .u64 10000000), .lit (.int .u64 100000000), .lit (.int .u64 1000000000), .lit (.int .u64 10000000000), .lit (.int .u64 100000000000), .lit (.int .u64 1000000000000), .lit (.int .u64 10000000000000), .lit (.int .u64 100000000000000), .lit (.int .u64 1000000000000000), .lit (.int .u64 10000000000000000), .lit (.int .u64 100000000000000000), .lit (.int .u64 1000000000000000000), .lit (.int .u64 10000000000000000000)]
def laid_strconv_ErrRange {H : Type} : DataW H := .iface "*errors.errorString" (.ptr (.agg [.lit (.string [118, 97, 108, 117, 101, 32, 111, 117, 116, 32, 111, 102, 32, 114, 97, 110, 103, 101])]))
def laid_strconv_ErrSyntax {H : Type} : DataW H := .iface "*errors.errorString" (.ptr (.agg [.lit (.string [105, 110, 118, 97, 108, 105, 100, 32, 115, 121, 110, 116, 97, 120])]))

/-- 'laws.FnBaseTable': WHATEVER THE INPUT: true; the input reads as it did. -/
def fnBaseTableSpec : ChangeSpec := { name := "fnBaseTable", fn := fun _ => fun
  | [d] => { results := [.lit (.bool true)], args := [d] }
  | _ => none }
def fnBaseTableRow : OpenClaim := { program := "ytdpigighgmipfaagreatdoor", sum := "71c6a284819d91e72a08fff91e4bbd2af6b190007fa3840623879cdf76168325", func := "loop.example/custumal/laws.FnBaseTable", spec := "fnBaseTable", unfollowed := true, recurses := true, named := ["internal/strconv.uint64pow10", "math/bits.deBruijn32tab", "math/bits.deBruijn64tab", "strconv.ErrSyntax", "strconv.ErrRange"], plainKeys := false, apart := false, laid := [("math/bits.deBruijn32tab", laid_math_bits_deBruijn32tab), ("math/bits.deBruijn64tab", laid_math_bits_deBruijn64tab), ("internal/strconv.uint64pow10", laid_internal_strconv_uint64pow10), ("strconv.ErrRange", laid_strconv_ErrRange), ("strconv.ErrSyntax", laid_strconv_ErrSyntax)] }
def FnBaseTableSaid : Prop := fnBaseTableRow.holds Tryz.pinned (OpenSpec.ofChange fnBaseTableSpec)

/-- ITS FALSE NEIGHBOUR: 'it returns false'. Refute it at one input. -/
def fnBaseTableWrong : ChangeSpec := { name := "fnBaseTable", fn := fun _ => fun
  | [d] => { results := [.lit (.bool false)], args := [d] }
  | _ => none }
def FnBaseTableWrongFalsely : Prop := fnBaseTableRow.holds Tryz.pinned (OpenSpec.ofChange fnBaseTableWrong)

/-- 'laws.FnBaseLink': WHATEVER THE INPUT: true; the input reads as it did. -/
def fnBaseLinkSpec : ChangeSpec := { name := "fnBaseLink", fn := fun _ => fun
  | [d] => { results := [.lit (.bool true)], args := [d] }
  | _ => none }
def fnBaseLinkRow : OpenClaim := { program := "ytdpigighgmipfaagreatdoor", sum := "71c6a284819d91e72a08fff91e4bbd2af6b190007fa3840623879cdf76168325", func := "loop.example/custumal/laws.FnBaseLink", spec := "fnBaseLink", unfollowed := true, recurses := true, named := ["internal/strconv.uint64pow10", "math/bits.deBruijn32tab", "math/bits.deBruijn64tab", "strconv.ErrSyntax", "strconv.ErrRange"], plainKeys := false, apart := false, laid := [("math/bits.deBruijn32tab", laid_math_bits_deBruijn32tab), ("math/bits.deBruijn64tab", laid_math_bits_deBruijn64tab), ("internal/strconv.uint64pow10", laid_internal_strconv_uint64pow10), ("strconv.ErrRange", laid_strconv_ErrRange), ("strconv.ErrSyntax", laid_strconv_ErrSyntax)] }
def FnBaseLinkSaid : Prop := fnBaseLinkRow.holds Tryz.pinned (OpenSpec.ofChange fnBaseLinkSpec)

/-- ITS FALSE NEIGHBOUR: 'it returns false'. Refute it at one input. -/
def fnBaseLinkWrong : ChangeSpec := { name := "fnBaseLink", fn := fun _ => fun
  | [d] => { results := [.lit (.bool false)], args := [d] }
  | _ => none }
def FnBaseLinkWrongFalsely : Prop := fnBaseLinkRow.holds Tryz.pinned (OpenSpec.ofChange fnBaseLinkWrong)

/-- 'laws.FnBaseNow': WHATEVER THE INPUT: true; the input reads as it did. -/
def fnBaseNowSpec : ChangeSpec := { name := "fnBaseNow", fn := fun _ => fun
  | [d] => { results := [.lit (.bool true)], args := [d] }
  | _ => none }
def fnBaseNowRow : OpenClaim := { program := "ytdpigighgmipfaagreatdoor", sum := "71c6a284819d91e72a08fff91e4bbd2af6b190007fa3840623879cdf76168325", func := "loop.example/custumal/laws.FnBaseNow", spec := "fnBaseNow", unfollowed := true, recurses := true, named := ["internal/strconv.uint64pow10", "math/bits.deBruijn32tab", "math/bits.deBruijn64tab", "strconv.ErrSyntax", "strconv.ErrRange"], plainKeys := false, apart := false, laid := [("math/bits.deBruijn32tab", laid_math_bits_deBruijn32tab), ("math/bits.deBruijn64tab", laid_math_bits_deBruijn64tab), ("internal/strconv.uint64pow10", laid_internal_strconv_uint64pow10), ("strconv.ErrRange", laid_strconv_ErrRange), ("strconv.ErrSyntax", laid_strconv_ErrSyntax)] }
def FnBaseNowSaid : Prop := fnBaseNowRow.holds Tryz.pinned (OpenSpec.ofChange fnBaseNowSpec)

/-- ITS FALSE NEIGHBOUR: 'it returns false'. Refute it at one input. -/
def fnBaseNowWrong : ChangeSpec := { name := "fnBaseNow", fn := fun _ => fun
  | [d] => { results := [.lit (.bool false)], args := [d] }
  | _ => none }
def FnBaseNowWrongFalsely : Prop := fnBaseNowRow.holds Tryz.pinned (OpenSpec.ofChange fnBaseNowWrong)

/-- 'laws.FnBaseChange': WHATEVER THE INPUT: true; the input reads as it did. -/
def fnBaseChangeSpec : ChangeSpec := { name := "fnBaseChange", fn := fun _ => fun
  | [d] => { results := [.lit (.bool true)], args := [d] }
  | _ => none }
def fnBaseChangeRow : OpenClaim := { program := "ytdpigighgmipfaagreatdoor", sum := "71c6a284819d91e72a08fff91e4bbd2af6b190007fa3840623879cdf76168325", func := "loop.example/custumal/laws.FnBaseChange", spec := "fnBaseChange", unfollowed := true, recurses := true, named := ["internal/strconv.uint64pow10", "math/bits.deBruijn32tab", "math/bits.deBruijn64tab", "strconv.ErrSyntax", "strconv.ErrRange"], plainKeys := false, apart := false, laid := [("math/bits.deBruijn32tab", laid_math_bits_deBruijn32tab), ("math/bits.deBruijn64tab", laid_math_bits_deBruijn64tab), ("internal/strconv.uint64pow10", laid_internal_strconv_uint64pow10), ("strconv.ErrRange", laid_strconv_ErrRange), ("strconv.ErrSyntax", laid_strconv_ErrSyntax)] }
def FnBaseChangeSaid : Prop := fnBaseChangeRow.holds Tryz.pinned (OpenSpec.ofChange fnBaseChangeSpec)

/-- ITS FALSE NEIGHBOUR: 'it returns false'. Refute it at one input. -/
def fnBaseChangeWrong : ChangeSpec := { name := "fnBaseChange", fn := fun _ => fun
  | [d] => { results := [.lit (.bool false)], args := [d] }
  | _ => none }
def FnBaseChangeWrongFalsely : Prop := fnBaseChangeRow.holds Tryz.pinned (OpenSpec.ofChange fnBaseChangeWrong)

/-- 'laws.FnBaseOffTwice': WHATEVER THE INPUT: true; the input reads as it did. -/
def fnBaseOffTwiceSpec : ChangeSpec := { name := "fnBaseOffTwice", fn := fun _ => fun
  | [d] => { results := [.lit (.bool true)], args := [d] }
  | _ => none }
def fnBaseOffTwiceRow : OpenClaim := { program := "ytdpigighgmipfaagreatdoor", sum := "71c6a284819d91e72a08fff91e4bbd2af6b190007fa3840623879cdf76168325", func := "loop.example/custumal/laws.FnBaseOffTwice", spec := "fnBaseOffTwice", unfollowed := true, recurses := true, named := ["internal/strconv.uint64pow10", "math/bits.deBruijn32tab", "math/bits.deBruijn64tab", "strconv.ErrSyntax", "strconv.ErrRange"], plainKeys := false, apart := false, laid := [("math/bits.deBruijn32tab", laid_math_bits_deBruijn32tab), ("math/bits.deBruijn64tab", laid_math_bits_deBruijn64tab), ("internal/strconv.uint64pow10", laid_internal_strconv_uint64pow10), ("strconv.ErrRange", laid_strconv_ErrRange), ("strconv.ErrSyntax", laid_strconv_ErrSyntax)] }
def FnBaseOffTwiceSaid : Prop := fnBaseOffTwiceRow.holds Tryz.pinned (OpenSpec.ofChange fnBaseOffTwiceSpec)

/-- ITS FALSE NEIGHBOUR: 'it returns false'. Refute it at one input. -/
def fnBaseOffTwiceWrong : ChangeSpec := { name := "fnBaseOffTwice", fn := fun _ => fun
  | [d] => { results := [.lit (.bool false)], args := [d] }
  | _ => none }
def FnBaseOffTwiceWrongFalsely : Prop := fnBaseOffTwiceRow.holds Tryz.pinned (OpenSpec.ofChange fnBaseOffTwiceWrong)

/-- 'laws.FnBaseSet': WHATEVER THE INPUT: true; the input reads as it did. -/
def fnBaseSetSpec : ChangeSpec := { name := "fnBaseSet", fn := fun _ => fun
  | [d] => { results := [.lit (.bool true)], args := [d] }
  | _ => none }
def fnBaseSetRow : OpenClaim := { program := "ytdpigighgmipfaagreatdoor", sum := "71c6a284819d91e72a08fff91e4bbd2af6b190007fa3840623879cdf76168325", func := "loop.example/custumal/laws.FnBaseSet", spec := "fnBaseSet", unfollowed := true, recurses := true, named := ["internal/strconv.uint64pow10", "math/bits.deBruijn32tab", "math/bits.deBruijn64tab", "strconv.ErrSyntax", "strconv.ErrRange"], plainKeys := false, apart := false, laid := [("math/bits.deBruijn32tab", laid_math_bits_deBruijn32tab), ("math/bits.deBruijn64tab", laid_math_bits_deBruijn64tab), ("internal/strconv.uint64pow10", laid_internal_strconv_uint64pow10), ("strconv.ErrRange", laid_strconv_ErrRange), ("strconv.ErrSyntax", laid_strconv_ErrSyntax)] }
def FnBaseSetSaid : Prop := fnBaseSetRow.holds Tryz.pinned (OpenSpec.ofChange fnBaseSetSpec)

/-- ITS FALSE NEIGHBOUR: 'it returns false'. Refute it at one input. -/
def fnBaseSetWrong : ChangeSpec := { name := "fnBaseSet", fn := fun _ => fun
  | [d] => { results := [.lit (.bool false)], args := [d] }
  | _ => none }
def FnBaseSetWrongFalsely : Prop := fnBaseSetRow.holds Tryz.pinned (OpenSpec.ofChange fnBaseSetWrong)

/-- 'laws.FnBasePut': WHATEVER THE INPUT: true; the input reads as it did. -/
def fnBasePutSpec : ChangeSpec := { name := "fnBasePut", fn := fun _ => fun
  | [d] => { results := [.lit (.bool true)], args := [d] }
  | _ => none }
def fnBasePutRow : OpenClaim := { program := "ytdpigighgmipfaagreatdoor", sum := "71c6a284819d91e72a08fff91e4bbd2af6b190007fa3840623879cdf76168325", func := "loop.example/custumal/laws.FnBasePut", spec := "fnBasePut", unfollowed := true, recurses := true, named := ["internal/strconv.uint64pow10", "math/bits.deBruijn32tab", "math/bits.deBruijn64tab", "strconv.ErrSyntax", "strconv.ErrRange"], plainKeys := false, apart := false, laid := [("math/bits.deBruijn32tab", laid_math_bits_deBruijn32tab), ("math/bits.deBruijn64tab", laid_math_bits_deBruijn64tab), ("internal/strconv.uint64pow10", laid_internal_strconv_uint64pow10), ("strconv.ErrRange", laid_strconv_ErrRange), ("strconv.ErrSyntax", laid_strconv_ErrSyntax)] }
def FnBasePutSaid : Prop := fnBasePutRow.holds Tryz.pinned (OpenSpec.ofChange fnBasePutSpec)

/-- ITS FALSE NEIGHBOUR: 'it returns false'. Refute it at one input. -/
def fnBasePutWrong : ChangeSpec := { name := "fnBasePut", fn := fun _ => fun
  | [d] => { results := [.lit (.bool false)], args := [d] }
  | _ => none }
def FnBasePutWrongFalsely : Prop := fnBasePutRow.holds Tryz.pinned (OpenSpec.ofChange fnBasePutWrong)

/-- 'laws.FnBaseHeld': WHATEVER THE INPUT: true; the input reads as it did. -/
def fnBaseHeldSpec : ChangeSpec := { name := "fnBaseHeld", fn := fun _ => fun
  | [d] => { results := [.lit (.bool true)], args := [d] }
  | _ => none }
def fnBaseHeldRow : OpenClaim := { program := "ytdpigighgmipfaagreatdoor", sum := "71c6a284819d91e72a08fff91e4bbd2af6b190007fa3840623879cdf76168325", func := "loop.example/custumal/laws.FnBaseHeld", spec := "fnBaseHeld", unfollowed := true, recurses := true, named := ["internal/strconv.uint64pow10", "math/bits.deBruijn32tab", "math/bits.deBruijn64tab", "strconv.ErrSyntax", "strconv.ErrRange"], plainKeys := false, apart := false, laid := [("math/bits.deBruijn32tab", laid_math_bits_deBruijn32tab), ("math/bits.deBruijn64tab", laid_math_bits_deBruijn64tab), ("internal/strconv.uint64pow10", laid_internal_strconv_uint64pow10), ("strconv.ErrRange", laid_strconv_ErrRange), ("strconv.ErrSyntax", laid_strconv_ErrSyntax)] }
def FnBaseHeldSaid : Prop := fnBaseHeldRow.holds Tryz.pinned (OpenSpec.ofChange fnBaseHeldSpec)

/-- ITS FALSE NEIGHBOUR: 'it returns false'. Refute it at one input. -/
def fnBaseHeldWrong : ChangeSpec := { name := "fnBaseHeld", fn := fun _ => fun
  | [d] => { results := [.lit (.bool false)], args := [d] }
  | _ => none }
def FnBaseHeldWrongFalsely : Prop := fnBaseHeldRow.holds Tryz.pinned (OpenSpec.ofChange fnBaseHeldWrong)

/-- 'laws.FnBaseFree': WHATEVER THE INPUT: true; the input reads as it did. -/
def fnBaseFreeSpec : ChangeSpec := { name := "fnBaseFree", fn := fun _ => fun
  | [d] => { results := [.lit (.bool true)], args := [d] }
  | _ => none }
def fnBaseFreeRow : OpenClaim := { program := "ytdpigighgmipfaagreatdoor", sum := "71c6a284819d91e72a08fff91e4bbd2af6b190007fa3840623879cdf76168325", func := "loop.example/custumal/laws.FnBaseFree", spec := "fnBaseFree", unfollowed := true, recurses := true, named := ["internal/strconv.uint64pow10", "math/bits.deBruijn32tab", "math/bits.deBruijn64tab", "strconv.ErrSyntax", "strconv.ErrRange"], plainKeys := false, apart := false, laid := [("math/bits.deBruijn32tab", laid_math_bits_deBruijn32tab), ("math/bits.deBruijn64tab", laid_math_bits_deBruijn64tab), ("internal/strconv.uint64pow10", laid_internal_strconv_uint64pow10), ("strconv.ErrRange", laid_strconv_ErrRange), ("strconv.ErrSyntax", laid_strconv_ErrSyntax)] }
def FnBaseFreeSaid : Prop := fnBaseFreeRow.holds Tryz.pinned (OpenSpec.ofChange fnBaseFreeSpec)

/-- ITS FALSE NEIGHBOUR: 'it returns false'. Refute it at one input. -/
def fnBaseFreeWrong : ChangeSpec := { name := "fnBaseFree", fn := fun _ => fun
  | [d] => { results := [.lit (.bool false)], args := [d] }
  | _ => none }
def FnBaseFreeWrongFalsely : Prop := fnBaseFreeRow.holds Tryz.pinned (OpenSpec.ofChange fnBaseFreeWrong)

/-- 'laws.FnBasePutOff': WHATEVER THE INPUT: true; the input reads as it did. -/
def fnBasePutOffSpec : ChangeSpec := { name := "fnBasePutOff", fn := fun _ => fun
  | [d] => { results := [.lit (.bool true)], args := [d] }
  | _ => none }
def fnBasePutOffRow : OpenClaim := { program := "ytdpigighgmipfaagreatdoor", sum := "71c6a284819d91e72a08fff91e4bbd2af6b190007fa3840623879cdf76168325", func := "loop.example/custumal/laws.FnBasePutOff", spec := "fnBasePutOff", unfollowed := true, recurses := true, named := ["internal/strconv.uint64pow10", "math/bits.deBruijn32tab", "math/bits.deBruijn64tab", "strconv.ErrSyntax", "strconv.ErrRange"], plainKeys := false, apart := false, laid := [("math/bits.deBruijn32tab", laid_math_bits_deBruijn32tab), ("math/bits.deBruijn64tab", laid_math_bits_deBruijn64tab), ("internal/strconv.uint64pow10", laid_internal_strconv_uint64pow10), ("strconv.ErrRange", laid_strconv_ErrRange), ("strconv.ErrSyntax", laid_strconv_ErrSyntax)] }
def FnBasePutOffSaid : Prop := fnBasePutOffRow.holds Tryz.pinned (OpenSpec.ofChange fnBasePutOffSpec)

/-- ITS FALSE NEIGHBOUR: 'it returns false'. Refute it at one input. -/
def fnBasePutOffWrong : ChangeSpec := { name := "fnBasePutOff", fn := fun _ => fun
  | [d] => { results := [.lit (.bool false)], args := [d] }
  | _ => none }
def FnBasePutOffWrongFalsely : Prop := fnBasePutOffRow.holds Tryz.pinned (OpenSpec.ofChange fnBasePutOffWrong)

/-- 'laws.FnBaseOff': WHATEVER THE INPUT: true; the input reads as it did. -/
def fnBaseOffSpec : ChangeSpec := { name := "fnBaseOff", fn := fun _ => fun
  | [d] => { results := [.lit (.bool true)], args := [d] }
  | _ => none }
def fnBaseOffRow : OpenClaim := { program := "ytdpigighgmipfaagreatdoor", sum := "71c6a284819d91e72a08fff91e4bbd2af6b190007fa3840623879cdf76168325", func := "loop.example/custumal/laws.FnBaseOff", spec := "fnBaseOff", unfollowed := true, recurses := true, named := ["internal/strconv.uint64pow10", "math/bits.deBruijn32tab", "math/bits.deBruijn64tab", "strconv.ErrSyntax", "strconv.ErrRange"], plainKeys := false, apart := false, laid := [("math/bits.deBruijn32tab", laid_math_bits_deBruijn32tab), ("math/bits.deBruijn64tab", laid_math_bits_deBruijn64tab), ("internal/strconv.uint64pow10", laid_internal_strconv_uint64pow10), ("strconv.ErrRange", laid_strconv_ErrRange), ("strconv.ErrSyntax", laid_strconv_ErrSyntax)] }
def FnBaseOffSaid : Prop := fnBaseOffRow.holds Tryz.pinned (OpenSpec.ofChange fnBaseOffSpec)

/-- ITS FALSE NEIGHBOUR: 'it returns false'. Refute it at one input. -/
def fnBaseOffWrong : ChangeSpec := { name := "fnBaseOff", fn := fun _ => fun
  | [d] => { results := [.lit (.bool false)], args := [d] }
  | _ => none }
def FnBaseOffWrongFalsely : Prop := fnBaseOffRow.holds Tryz.pinned (OpenSpec.ofChange fnBaseOffWrong)

/-- 'laws.FnBaseNone': WHATEVER THE INPUT: true; the input reads as it did. -/
def fnBaseNoneSpec : ChangeSpec := { name := "fnBaseNone", fn := fun _ => fun
  | [d] => { results := [.lit (.bool true)], args := [d] }
  | _ => none }
def fnBaseNoneRow : OpenClaim := { program := "ytdpigighgmipfaagreatdoor", sum := "71c6a284819d91e72a08fff91e4bbd2af6b190007fa3840623879cdf76168325", func := "loop.example/custumal/laws.FnBaseNone", spec := "fnBaseNone", unfollowed := true, recurses := true, named := ["internal/strconv.uint64pow10", "math/bits.deBruijn32tab", "math/bits.deBruijn64tab", "strconv.ErrSyntax", "strconv.ErrRange"], plainKeys := false, apart := false, laid := [("math/bits.deBruijn32tab", laid_math_bits_deBruijn32tab), ("math/bits.deBruijn64tab", laid_math_bits_deBruijn64tab), ("internal/strconv.uint64pow10", laid_internal_strconv_uint64pow10), ("strconv.ErrRange", laid_strconv_ErrRange), ("strconv.ErrSyntax", laid_strconv_ErrSyntax)] }
def FnBaseNoneSaid : Prop := fnBaseNoneRow.holds Tryz.pinned (OpenSpec.ofChange fnBaseNoneSpec)

/-- ITS FALSE NEIGHBOUR: 'it returns false'. Refute it at one input. -/
def fnBaseNoneWrong : ChangeSpec := { name := "fnBaseNone", fn := fun _ => fun
  | [d] => { results := [.lit (.bool false)], args := [d] }
  | _ => none }
def FnBaseNoneWrongFalsely : Prop := fnBaseNoneRow.holds Tryz.pinned (OpenSpec.ofChange fnBaseNoneWrong)

/- THE SECOND FORM. 'bulk': how many values and letters a reading holds, each counted each time it is reached (what is shared counts as often as it is met; a slice's spare places count too). A statement '..UptoSaid' is the law's where the arguments, and the package variables that the reading takes, are together of bulk at most 1048576: NARROWER than '..Said'. Prove '..Said' where nothing that the law and all that it calls make is longer than what came in: it says more and counts as full. Else prove '..UptoSaid'. A law counts once. -/
mutual
def uptoBulk {H : Type} : DataW H → Nat
  | .lit (.string bytes) => bytes.length + 1
  | .lit _ => 1
  | .nil => 1
  | .ptr d => uptoBulk d + 1
  | .slice elems spare => uptoBulkAll elems + uptoBulkAll spare + 1
  | .agg parts => uptoBulkAll parts + 1
  | .iface _ d => uptoBulk d + 1
  | .map entries => uptoBulkEntries entries + 1
  | .held _ => 1
def uptoBulkAll {H : Type} : List (DataW H) → Nat
  | [] => 0
  | d :: r => uptoBulk d + uptoBulkAll r
def uptoBulkEntries {H : Type} : List (Lit × DataW H) → Nat
  | [] => 0
  | x :: r => uptoBulkEntry x + uptoBulkEntries r
def uptoBulkEntry {H : Type} : Lit × DataW H → Nat
  | (.string bytes, d) => bytes.length + uptoBulk d + 1
  | (_, d) => uptoBulk d + 1
 end
def uptoSmall : (H : Type) → List (DataW H) → Bool := fun _ ds => decide (uptoBulkAll ds ≤ 1048576)
def OpenSpec.upto (s : _root_.Go.ChangeSpec) : _root_.Go.OpenSpec := { _root_.Go.OpenSpec.ofChange s with cond := some uptoSmall }

/-- 'laws.FnBaseTable', WHERE WHAT IT READS IS OF BULK AT MOST 1048576: true; the input reads as it did. -/
def fnBaseTableUptoRow : OpenClaim := { program := "ytdpigighgmipfaagreatdoor", sum := "71c6a284819d91e72a08fff91e4bbd2af6b190007fa3840623879cdf76168325", func := "loop.example/custumal/laws.FnBaseTable", spec := "fnBaseTable", unfollowed := true, recurses := true, named := ["internal/strconv.uint64pow10", "math/bits.deBruijn32tab", "math/bits.deBruijn64tab", "strconv.ErrSyntax", "strconv.ErrRange"], plainKeys := false, apart := false, laid := [("math/bits.deBruijn32tab", laid_math_bits_deBruijn32tab), ("math/bits.deBruijn64tab", laid_math_bits_deBruijn64tab), ("internal/strconv.uint64pow10", laid_internal_strconv_uint64pow10), ("strconv.ErrRange", laid_strconv_ErrRange), ("strconv.ErrSyntax", laid_strconv_ErrSyntax)], narrowed := true }
def FnBaseTableUptoSaid : Prop := fnBaseTableUptoRow.holds Tryz.pinned (OpenSpec.upto fnBaseTableSpec)

/-- 'laws.FnBaseLink', WHERE WHAT IT READS IS OF BULK AT MOST 1048576: true; the input reads as it did. -/
def fnBaseLinkUptoRow : OpenClaim := { program := "ytdpigighgmipfaagreatdoor", sum := "71c6a284819d91e72a08fff91e4bbd2af6b190007fa3840623879cdf76168325", func := "loop.example/custumal/laws.FnBaseLink", spec := "fnBaseLink", unfollowed := true, recurses := true, named := ["internal/strconv.uint64pow10", "math/bits.deBruijn32tab", "math/bits.deBruijn64tab", "strconv.ErrSyntax", "strconv.ErrRange"], plainKeys := false, apart := false, laid := [("math/bits.deBruijn32tab", laid_math_bits_deBruijn32tab), ("math/bits.deBruijn64tab", laid_math_bits_deBruijn64tab), ("internal/strconv.uint64pow10", laid_internal_strconv_uint64pow10), ("strconv.ErrRange", laid_strconv_ErrRange), ("strconv.ErrSyntax", laid_strconv_ErrSyntax)], narrowed := true }
def FnBaseLinkUptoSaid : Prop := fnBaseLinkUptoRow.holds Tryz.pinned (OpenSpec.upto fnBaseLinkSpec)

/-- 'laws.FnBaseNow', WHERE WHAT IT READS IS OF BULK AT MOST 1048576: true; the input reads as it did. -/
def fnBaseNowUptoRow : OpenClaim := { program := "ytdpigighgmipfaagreatdoor", sum := "71c6a284819d91e72a08fff91e4bbd2af6b190007fa3840623879cdf76168325", func := "loop.example/custumal/laws.FnBaseNow", spec := "fnBaseNow", unfollowed := true, recurses := true, named := ["internal/strconv.uint64pow10", "math/bits.deBruijn32tab", "math/bits.deBruijn64tab", "strconv.ErrSyntax", "strconv.ErrRange"], plainKeys := false, apart := false, laid := [("math/bits.deBruijn32tab", laid_math_bits_deBruijn32tab), ("math/bits.deBruijn64tab", laid_math_bits_deBruijn64tab), ("internal/strconv.uint64pow10", laid_internal_strconv_uint64pow10), ("strconv.ErrRange", laid_strconv_ErrRange), ("strconv.ErrSyntax", laid_strconv_ErrSyntax)], narrowed := true }
def FnBaseNowUptoSaid : Prop := fnBaseNowUptoRow.holds Tryz.pinned (OpenSpec.upto fnBaseNowSpec)

/-- 'laws.FnBaseChange', WHERE WHAT IT READS IS OF BULK AT MOST 1048576: true; the input reads as it did. -/
def fnBaseChangeUptoRow : OpenClaim := { program := "ytdpigighgmipfaagreatdoor", sum := "71c6a284819d91e72a08fff91e4bbd2af6b190007fa3840623879cdf76168325", func := "loop.example/custumal/laws.FnBaseChange", spec := "fnBaseChange", unfollowed := true, recurses := true, named := ["internal/strconv.uint64pow10", "math/bits.deBruijn32tab", "math/bits.deBruijn64tab", "strconv.ErrSyntax", "strconv.ErrRange"], plainKeys := false, apart := false, laid := [("math/bits.deBruijn32tab", laid_math_bits_deBruijn32tab), ("math/bits.deBruijn64tab", laid_math_bits_deBruijn64tab), ("internal/strconv.uint64pow10", laid_internal_strconv_uint64pow10), ("strconv.ErrRange", laid_strconv_ErrRange), ("strconv.ErrSyntax", laid_strconv_ErrSyntax)], narrowed := true }
def FnBaseChangeUptoSaid : Prop := fnBaseChangeUptoRow.holds Tryz.pinned (OpenSpec.upto fnBaseChangeSpec)

/-- 'laws.FnBaseOffTwice', WHERE WHAT IT READS IS OF BULK AT MOST 1048576: true; the input reads as it did. -/
def fnBaseOffTwiceUptoRow : OpenClaim := { program := "ytdpigighgmipfaagreatdoor", sum := "71c6a284819d91e72a08fff91e4bbd2af6b190007fa3840623879cdf76168325", func := "loop.example/custumal/laws.FnBaseOffTwice", spec := "fnBaseOffTwice", unfollowed := true, recurses := true, named := ["internal/strconv.uint64pow10", "math/bits.deBruijn32tab", "math/bits.deBruijn64tab", "strconv.ErrSyntax", "strconv.ErrRange"], plainKeys := false, apart := false, laid := [("math/bits.deBruijn32tab", laid_math_bits_deBruijn32tab), ("math/bits.deBruijn64tab", laid_math_bits_deBruijn64tab), ("internal/strconv.uint64pow10", laid_internal_strconv_uint64pow10), ("strconv.ErrRange", laid_strconv_ErrRange), ("strconv.ErrSyntax", laid_strconv_ErrSyntax)], narrowed := true }
def FnBaseOffTwiceUptoSaid : Prop := fnBaseOffTwiceUptoRow.holds Tryz.pinned (OpenSpec.upto fnBaseOffTwiceSpec)

/-- 'laws.FnBaseSet', WHERE WHAT IT READS IS OF BULK AT MOST 1048576: true; the input reads as it did. -/
def fnBaseSetUptoRow : OpenClaim := { program := "ytdpigighgmipfaagreatdoor", sum := "71c6a284819d91e72a08fff91e4bbd2af6b190007fa3840623879cdf76168325", func := "loop.example/custumal/laws.FnBaseSet", spec := "fnBaseSet", unfollowed := true, recurses := true, named := ["internal/strconv.uint64pow10", "math/bits.deBruijn32tab", "math/bits.deBruijn64tab", "strconv.ErrSyntax", "strconv.ErrRange"], plainKeys := false, apart := false, laid := [("math/bits.deBruijn32tab", laid_math_bits_deBruijn32tab), ("math/bits.deBruijn64tab", laid_math_bits_deBruijn64tab), ("internal/strconv.uint64pow10", laid_internal_strconv_uint64pow10), ("strconv.ErrRange", laid_strconv_ErrRange), ("strconv.ErrSyntax", laid_strconv_ErrSyntax)], narrowed := true }
def FnBaseSetUptoSaid : Prop := fnBaseSetUptoRow.holds Tryz.pinned (OpenSpec.upto fnBaseSetSpec)

/-- 'laws.FnBasePut', WHERE WHAT IT READS IS OF BULK AT MOST 1048576: true; the input reads as it did. -/
def fnBasePutUptoRow : OpenClaim := { program := "ytdpigighgmipfaagreatdoor", sum := "71c6a284819d91e72a08fff91e4bbd2af6b190007fa3840623879cdf76168325", func := "loop.example/custumal/laws.FnBasePut", spec := "fnBasePut", unfollowed := true, recurses := true, named := ["internal/strconv.uint64pow10", "math/bits.deBruijn32tab", "math/bits.deBruijn64tab", "strconv.ErrSyntax", "strconv.ErrRange"], plainKeys := false, apart := false, laid := [("math/bits.deBruijn32tab", laid_math_bits_deBruijn32tab), ("math/bits.deBruijn64tab", laid_math_bits_deBruijn64tab), ("internal/strconv.uint64pow10", laid_internal_strconv_uint64pow10), ("strconv.ErrRange", laid_strconv_ErrRange), ("strconv.ErrSyntax", laid_strconv_ErrSyntax)], narrowed := true }
def FnBasePutUptoSaid : Prop := fnBasePutUptoRow.holds Tryz.pinned (OpenSpec.upto fnBasePutSpec)

/-- 'laws.FnBaseHeld', WHERE WHAT IT READS IS OF BULK AT MOST 1048576: true; the input reads as it did. -/
def fnBaseHeldUptoRow : OpenClaim := { program := "ytdpigighgmipfaagreatdoor", sum := "71c6a284819d91e72a08fff91e4bbd2af6b190007fa3840623879cdf76168325", func := "loop.example/custumal/laws.FnBaseHeld", spec := "fnBaseHeld", unfollowed := true, recurses := true, named := ["internal/strconv.uint64pow10", "math/bits.deBruijn32tab", "math/bits.deBruijn64tab", "strconv.ErrSyntax", "strconv.ErrRange"], plainKeys := false, apart := false, laid := [("math/bits.deBruijn32tab", laid_math_bits_deBruijn32tab), ("math/bits.deBruijn64tab", laid_math_bits_deBruijn64tab), ("internal/strconv.uint64pow10", laid_internal_strconv_uint64pow10), ("strconv.ErrRange", laid_strconv_ErrRange), ("strconv.ErrSyntax", laid_strconv_ErrSyntax)], narrowed := true }
def FnBaseHeldUptoSaid : Prop := fnBaseHeldUptoRow.holds Tryz.pinned (OpenSpec.upto fnBaseHeldSpec)

/-- 'laws.FnBaseFree', WHERE WHAT IT READS IS OF BULK AT MOST 1048576: true; the input reads as it did. -/
def fnBaseFreeUptoRow : OpenClaim := { program := "ytdpigighgmipfaagreatdoor", sum := "71c6a284819d91e72a08fff91e4bbd2af6b190007fa3840623879cdf76168325", func := "loop.example/custumal/laws.FnBaseFree", spec := "fnBaseFree", unfollowed := true, recurses := true, named := ["internal/strconv.uint64pow10", "math/bits.deBruijn32tab", "math/bits.deBruijn64tab", "strconv.ErrSyntax", "strconv.ErrRange"], plainKeys := false, apart := false, laid := [("math/bits.deBruijn32tab", laid_math_bits_deBruijn32tab), ("math/bits.deBruijn64tab", laid_math_bits_deBruijn64tab), ("internal/strconv.uint64pow10", laid_internal_strconv_uint64pow10), ("strconv.ErrRange", laid_strconv_ErrRange), ("strconv.ErrSyntax", laid_strconv_ErrSyntax)], narrowed := true }
def FnBaseFreeUptoSaid : Prop := fnBaseFreeUptoRow.holds Tryz.pinned (OpenSpec.upto fnBaseFreeSpec)

/-- 'laws.FnBasePutOff', WHERE WHAT IT READS IS OF BULK AT MOST 1048576: true; the input reads as it did. -/
def fnBasePutOffUptoRow : OpenClaim := { program := "ytdpigighgmipfaagreatdoor", sum := "71c6a284819d91e72a08fff91e4bbd2af6b190007fa3840623879cdf76168325", func := "loop.example/custumal/laws.FnBasePutOff", spec := "fnBasePutOff", unfollowed := true, recurses := true, named := ["internal/strconv.uint64pow10", "math/bits.deBruijn32tab", "math/bits.deBruijn64tab", "strconv.ErrSyntax", "strconv.ErrRange"], plainKeys := false, apart := false, laid := [("math/bits.deBruijn32tab", laid_math_bits_deBruijn32tab), ("math/bits.deBruijn64tab", laid_math_bits_deBruijn64tab), ("internal/strconv.uint64pow10", laid_internal_strconv_uint64pow10), ("strconv.ErrRange", laid_strconv_ErrRange), ("strconv.ErrSyntax", laid_strconv_ErrSyntax)], narrowed := true }
def FnBasePutOffUptoSaid : Prop := fnBasePutOffUptoRow.holds Tryz.pinned (OpenSpec.upto fnBasePutOffSpec)

/-- 'laws.FnBaseOff', WHERE WHAT IT READS IS OF BULK AT MOST 1048576: true; the input reads as it did. -/
def fnBaseOffUptoRow : OpenClaim := { program := "ytdpigighgmipfaagreatdoor", sum := "71c6a284819d91e72a08fff91e4bbd2af6b190007fa3840623879cdf76168325", func := "loop.example/custumal/laws.FnBaseOff", spec := "fnBaseOff", unfollowed := true, recurses := true, named := ["internal/strconv.uint64pow10", "math/bits.deBruijn32tab", "math/bits.deBruijn64tab", "strconv.ErrSyntax", "strconv.ErrRange"], plainKeys := false, apart := false, laid := [("math/bits.deBruijn32tab", laid_math_bits_deBruijn32tab), ("math/bits.deBruijn64tab", laid_math_bits_deBruijn64tab), ("internal/strconv.uint64pow10", laid_internal_strconv_uint64pow10), ("strconv.ErrRange", laid_strconv_ErrRange), ("strconv.ErrSyntax", laid_strconv_ErrSyntax)], narrowed := true }
def FnBaseOffUptoSaid : Prop := fnBaseOffUptoRow.holds Tryz.pinned (OpenSpec.upto fnBaseOffSpec)

/-- 'laws.FnBaseNone', WHERE WHAT IT READS IS OF BULK AT MOST 1048576: true; the input reads as it did. -/
def fnBaseNoneUptoRow : OpenClaim := { program := "ytdpigighgmipfaagreatdoor", sum := "71c6a284819d91e72a08fff91e4bbd2af6b190007fa3840623879cdf76168325", func := "loop.example/custumal/laws.FnBaseNone", spec := "fnBaseNone", unfollowed := true, recurses := true, named := ["internal/strconv.uint64pow10", "math/bits.deBruijn32tab", "math/bits.deBruijn64tab", "strconv.ErrSyntax", "strconv.ErrRange"], plainKeys := false, apart := false, laid := [("math/bits.deBruijn32tab", laid_math_bits_deBruijn32tab), ("math/bits.deBruijn64tab", laid_math_bits_deBruijn64tab), ("internal/strconv.uint64pow10", laid_internal_strconv_uint64pow10), ("strconv.ErrRange", laid_strconv_ErrRange), ("strconv.ErrSyntax", laid_strconv_ErrSyntax)], narrowed := true }
def FnBaseNoneUptoSaid : Prop := fnBaseNoneUptoRow.holds Tryz.pinned (OpenSpec.upto fnBaseNoneSpec)

end Rows
end Go.Proofs.YtdpigighgmipfaaGreatDoor
