/-
  DERIVED. GIVEN WITH THE SEED: THE CARDS: each row of YtganfdhmkdehlaaGreatDoorRows.lean that lists a variable, with what it lists TIED to the program's text (the seventh form; the later family's looks); each row that meets fmt, with fmt's text TOLD by the authors' own Lean function (tested against real Go, not proved from fmt's source: count such statements apart). THE CARD IS WHAT COUNTS. Prove the row's statement (the work); the ties are given (YtganfdhmkdehlaaGreatDoorTie.lean); close each card by the builder's one call (the guide's Derived/Test/ToyasCard.lean, 'card_holds'). Laid BY PROGRAM, IN A SANDBOX (cutbox-door.mjs). By AI agents, Wed Nov 11 2026. No macro, syntax, notation, axiom, sorry.
-/
import Derived.Test.YtganfdhmkdehlaaGreatDoorRows
import GoSem.ClaimSeven
namespace Go.Proofs.YtganfdhmkdehlaaGreatDoor
namespace Rows

/-- THE TIED CARD OF 'laws.FnLogOk'. -/
def fnLogOkCard : Claim7 := { stood := { row := fnLogOkRow, standIns := [], harness := (true, "aaf8556326e8ce2f1a3f176c5c706aa0c31e1f052ba7dcc8423fa4e49e778a93"), looks := true }, kinds := [], alts := [], laidByText := true, laidKinds := [.data, .data, .data, .sentinel, .sentinel], laidTests := true, laidLooks := .later }
def FnLogOkCardSaid : Prop := Claim7.holds Tryz.pinned (.plain (OpenSpec.ofChange fnLogOkSpec)) fnLogOkCard

/-- THE TIED CARD OF 'laws.FnActOne'. -/
def fnActOneCard : Claim7 := { stood := { row := fnActOneRow, standIns := [], harness := (true, "aaf8556326e8ce2f1a3f176c5c706aa0c31e1f052ba7dcc8423fa4e49e778a93"), looks := true }, kinds := [], alts := [], laidByText := true, laidKinds := [.data, .data, .data, .sentinel, .sentinel], laidTests := true, laidLooks := .later }
def FnActOneCardSaid : Prop := Claim7.holds Tryz.pinned (.plain (OpenSpec.ofChange fnActOneSpec)) fnActOneCard

/-- THE TIED CARD OF 'laws.FnActAll'. -/
def fnActAllCard : Claim7 := { stood := { row := fnActAllRow, standIns := [], harness := (true, "aaf8556326e8ce2f1a3f176c5c706aa0c31e1f052ba7dcc8423fa4e49e778a93"), looks := true }, kinds := [], alts := [], laidByText := true, laidKinds := [.data, .data, .data, .sentinel, .sentinel], laidTests := true, laidLooks := .later }
def FnActAllCardSaid : Prop := Claim7.holds Tryz.pinned (.plain (OpenSpec.ofChange fnActAllSpec)) fnActAllCard

/-- THE TIED CARD OF 'laws.FnActBad'. -/
def fnActBadCard : Claim7 := { stood := { row := fnActBadRow, standIns := [], harness := (true, "aaf8556326e8ce2f1a3f176c5c706aa0c31e1f052ba7dcc8423fa4e49e778a93"), looks := true }, kinds := [], alts := [], laidByText := true, laidKinds := [.data, .data, .data, .sentinel, .sentinel], laidTests := true, laidLooks := .later }
def FnActBadCardSaid : Prop := Claim7.holds Tryz.pinned (.plain (OpenSpec.ofChange fnActBadSpec)) fnActBadCard

/-- THE TIED CARD OF 'laws.FnActSplit'. -/
def fnActSplitCard : Claim7 := { stood := { row := fnActSplitRow, standIns := [], harness := (true, "aaf8556326e8ce2f1a3f176c5c706aa0c31e1f052ba7dcc8423fa4e49e778a93"), looks := true }, kinds := [], alts := [], laidByText := true, laidKinds := [.data, .data, .data, .sentinel, .sentinel], laidTests := true, laidLooks := .later }
def FnActSplitCardSaid : Prop := Claim7.holds Tryz.pinned (.plain (OpenSpec.ofChange fnActSplitSpec)) fnActSplitCard

/-- THE TIED CARD OF 'laws.FnActKeep'. -/
def fnActKeepCard : Claim7 := { stood := { row := fnActKeepRow, standIns := [], harness := (true, "aaf8556326e8ce2f1a3f176c5c706aa0c31e1f052ba7dcc8423fa4e49e778a93"), looks := true }, kinds := [], alts := [], laidByText := true, laidKinds := [.data, .data, .data, .sentinel, .sentinel], laidTests := true, laidLooks := .later }
def FnActKeepCardSaid : Prop := Claim7.holds Tryz.pinned (.plain (OpenSpec.ofChange fnActKeepSpec)) fnActKeepCard

/-- THE SECOND FORM's CARD OF 'laws.FnLogOk'. -/
def fnLogOkUptoCard : Claim7 := { stood := { row := fnLogOkUptoRow, standIns := [], harness := (true, "aaf8556326e8ce2f1a3f176c5c706aa0c31e1f052ba7dcc8423fa4e49e778a93"), looks := true }, kinds := [], alts := [], laidByText := true, laidKinds := [.data, .data, .data, .sentinel, .sentinel], laidTests := true, laidLooks := .later }
def FnLogOkUptoCardSaid : Prop := Claim7.holds Tryz.pinned (.plain (OpenSpec.upto fnLogOkSpec)) fnLogOkUptoCard

/-- THE SECOND FORM's CARD OF 'laws.FnActOne'. -/
def fnActOneUptoCard : Claim7 := { stood := { row := fnActOneUptoRow, standIns := [], harness := (true, "aaf8556326e8ce2f1a3f176c5c706aa0c31e1f052ba7dcc8423fa4e49e778a93"), looks := true }, kinds := [], alts := [], laidByText := true, laidKinds := [.data, .data, .data, .sentinel, .sentinel], laidTests := true, laidLooks := .later }
def FnActOneUptoCardSaid : Prop := Claim7.holds Tryz.pinned (.plain (OpenSpec.upto fnActOneSpec)) fnActOneUptoCard

/-- THE SECOND FORM's CARD OF 'laws.FnActAll'. -/
def fnActAllUptoCard : Claim7 := { stood := { row := fnActAllUptoRow, standIns := [], harness := (true, "aaf8556326e8ce2f1a3f176c5c706aa0c31e1f052ba7dcc8423fa4e49e778a93"), looks := true }, kinds := [], alts := [], laidByText := true, laidKinds := [.data, .data, .data, .sentinel, .sentinel], laidTests := true, laidLooks := .later }
def FnActAllUptoCardSaid : Prop := Claim7.holds Tryz.pinned (.plain (OpenSpec.upto fnActAllSpec)) fnActAllUptoCard

/-- THE SECOND FORM's CARD OF 'laws.FnActBad'. -/
def fnActBadUptoCard : Claim7 := { stood := { row := fnActBadUptoRow, standIns := [], harness := (true, "aaf8556326e8ce2f1a3f176c5c706aa0c31e1f052ba7dcc8423fa4e49e778a93"), looks := true }, kinds := [], alts := [], laidByText := true, laidKinds := [.data, .data, .data, .sentinel, .sentinel], laidTests := true, laidLooks := .later }
def FnActBadUptoCardSaid : Prop := Claim7.holds Tryz.pinned (.plain (OpenSpec.upto fnActBadSpec)) fnActBadUptoCard

/-- THE SECOND FORM's CARD OF 'laws.FnActSplit'. -/
def fnActSplitUptoCard : Claim7 := { stood := { row := fnActSplitUptoRow, standIns := [], harness := (true, "aaf8556326e8ce2f1a3f176c5c706aa0c31e1f052ba7dcc8423fa4e49e778a93"), looks := true }, kinds := [], alts := [], laidByText := true, laidKinds := [.data, .data, .data, .sentinel, .sentinel], laidTests := true, laidLooks := .later }
def FnActSplitUptoCardSaid : Prop := Claim7.holds Tryz.pinned (.plain (OpenSpec.upto fnActSplitSpec)) fnActSplitUptoCard

/-- THE SECOND FORM's CARD OF 'laws.FnActKeep'. -/
def fnActKeepUptoCard : Claim7 := { stood := { row := fnActKeepUptoRow, standIns := [], harness := (true, "aaf8556326e8ce2f1a3f176c5c706aa0c31e1f052ba7dcc8423fa4e49e778a93"), looks := true }, kinds := [], alts := [], laidByText := true, laidKinds := [.data, .data, .data, .sentinel, .sentinel], laidTests := true, laidLooks := .later }
def FnActKeepUptoCardSaid : Prop := Claim7.holds Tryz.pinned (.plain (OpenSpec.upto fnActKeepSpec)) fnActKeepUptoCard
end Rows
end Go.Proofs.YtganfdhmkdehlaaGreatDoor
