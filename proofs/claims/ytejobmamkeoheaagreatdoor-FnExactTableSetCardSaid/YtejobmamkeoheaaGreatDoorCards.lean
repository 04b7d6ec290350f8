/-
  DERIVED. GIVEN WITH THE SEED: THE CARDS: each row of YtejobmamkeoheaaGreatDoorRows.lean that lists a variable, with what it lists TIED to the program's text (the seventh form; the later family's looks); each row that meets fmt, with fmt's text TOLD by the authors' own Lean function (tested against real Go, not proved from fmt's source: count such statements apart). THE CARD IS WHAT COUNTS. Prove the row's statement (the work); the ties are given (YtejobmamkeoheaaGreatDoorTie.lean); close each card by the builder's one call (the guide's Derived/Test/ToyasCard.lean, 'card_holds'). Laid BY PROGRAM, IN A SANDBOX (cutbox-door.mjs). By AI agents, Wed Nov 11 2026. No macro, syntax, notation, axiom, sorry.
-/
import Derived.Test.YtejobmamkeoheaaGreatDoorRows
import GoSem.ClaimSeven
namespace Go.Proofs.YtejobmamkeoheaaGreatDoor
namespace Rows

/-- THE TIED CARD OF 'laws.FnExactTableOff'. -/
def fnExactTableOffCard : Claim7 := { stood := { row := fnExactTableOffRow, standIns := [], harness := (true, "420a85e2be83d70faf16d1f7ac0128c5513223caeb37e3b287bd494aa9be21ca"), looks := true }, kinds := [], alts := [], laidByText := true, laidKinds := [.data, .data, .data, .sentinel, .sentinel], laidTests := true, laidLooks := .later }
def FnExactTableOffCardSaid : Prop := Claim7.holds Tryz.pinned (.plain (OpenSpec.ofChange fnExactTableOffSpec)) fnExactTableOffCard

/-- THE TIED CARD OF 'laws.FnExactTableChange'. -/
def fnExactTableChangeCard : Claim7 := { stood := { row := fnExactTableChangeRow, standIns := [], harness := (true, "420a85e2be83d70faf16d1f7ac0128c5513223caeb37e3b287bd494aa9be21ca"), looks := true }, kinds := [], alts := [], laidByText := true, laidKinds := [.data, .data, .data, .sentinel, .sentinel], laidTests := true, laidLooks := .later }
def FnExactTableChangeCardSaid : Prop := Claim7.holds Tryz.pinned (.plain (OpenSpec.ofChange fnExactTableChangeSpec)) fnExactTableChangeCard

/-- THE TIED CARD OF 'laws.FnExactTablePut'. -/
def fnExactTablePutCard : Claim7 := { stood := { row := fnExactTablePutRow, standIns := [], harness := (true, "420a85e2be83d70faf16d1f7ac0128c5513223caeb37e3b287bd494aa9be21ca"), looks := true }, kinds := [], alts := [], laidByText := true, laidKinds := [.data, .data, .data, .sentinel, .sentinel], laidTests := true, laidLooks := .later }
def FnExactTablePutCardSaid : Prop := Claim7.holds Tryz.pinned (.plain (OpenSpec.ofChange fnExactTablePutSpec)) fnExactTablePutCard

/-- THE TIED CARD OF 'laws.FnExactTableSet'. -/
def fnExactTableSetCard : Claim7 := { stood := { row := fnExactTableSetRow, standIns := [], harness := (true, "420a85e2be83d70faf16d1f7ac0128c5513223caeb37e3b287bd494aa9be21ca"), looks := true }, kinds := [], alts := [], laidByText := true, laidKinds := [.data, .data, .data, .sentinel, .sentinel], laidTests := true, laidLooks := .later }
def FnExactTableSetCardSaid : Prop := Claim7.holds Tryz.pinned (.plain (OpenSpec.ofChange fnExactTableSetSpec)) fnExactTableSetCard

/-- THE SECOND FORM's CARD OF 'laws.FnExactTableOff'. -/
def fnExactTableOffUptoCard : Claim7 := { stood := { row := fnExactTableOffUptoRow, standIns := [], harness := (true, "420a85e2be83d70faf16d1f7ac0128c5513223caeb37e3b287bd494aa9be21ca"), looks := true }, kinds := [], alts := [], laidByText := true, laidKinds := [.data, .data, .data, .sentinel, .sentinel], laidTests := true, laidLooks := .later }
def FnExactTableOffUptoCardSaid : Prop := Claim7.holds Tryz.pinned (.plain (OpenSpec.upto fnExactTableOffSpec)) fnExactTableOffUptoCard

/-- THE SECOND FORM's CARD OF 'laws.FnExactTableChange'. -/
def fnExactTableChangeUptoCard : Claim7 := { stood := { row := fnExactTableChangeUptoRow, standIns := [], harness := (true, "420a85e2be83d70faf16d1f7ac0128c5513223caeb37e3b287bd494aa9be21ca"), looks := true }, kinds := [], alts := [], laidByText := true, laidKinds := [.data, .data, .data, .sentinel, .sentinel], laidTests := true, laidLooks := .later }
def FnExactTableChangeUptoCardSaid : Prop := Claim7.holds Tryz.pinned (.plain (OpenSpec.upto fnExactTableChangeSpec)) fnExactTableChangeUptoCard

/-- THE SECOND FORM's CARD OF 'laws.FnExactTablePut'. -/
def fnExactTablePutUptoCard : Claim7 := { stood := { row := fnExactTablePutUptoRow, standIns := [], harness := (true, "420a85e2be83d70faf16d1f7ac0128c5513223caeb37e3b287bd494aa9be21ca"), looks := true }, kinds := [], alts := [], laidByText := true, laidKinds := [.data, .data, .data, .sentinel, .sentinel], laidTests := true, laidLooks := .later }
def FnExactTablePutUptoCardSaid : Prop := Claim7.holds Tryz.pinned (.plain (OpenSpec.upto fnExactTablePutSpec)) fnExactTablePutUptoCard

/-- THE SECOND FORM's CARD OF 'laws.FnExactTableSet'. -/
def fnExactTableSetUptoCard : Claim7 := { stood := { row := fnExactTableSetUptoRow, standIns := [], harness := (true, "420a85e2be83d70faf16d1f7ac0128c5513223caeb37e3b287bd494aa9be21ca"), looks := true }, kinds := [], alts := [], laidByText := true, laidKinds := [.data, .data, .data, .sentinel, .sentinel], laidTests := true, laidLooks := .later }
def FnExactTableSetUptoCardSaid : Prop := Claim7.holds Tryz.pinned (.plain (OpenSpec.upto fnExactTableSetSpec)) fnExactTableSetUptoCard
end Rows
end Go.Proofs.YtejobmamkeoheaaGreatDoor
