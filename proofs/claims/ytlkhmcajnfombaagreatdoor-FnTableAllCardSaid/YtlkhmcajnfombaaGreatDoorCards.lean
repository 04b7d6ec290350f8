/-
  DERIVED. GIVEN WITH THE SEED: THE CARDS: each row of YtlkhmcajnfombaaGreatDoorRows.lean that lists a variable, with what it lists TIED to the program's text (the seventh form; the later family's looks); each row that meets fmt, with fmt's text TOLD by the authors' own Lean function (tested against real Go, not proved from fmt's source: count such statements apart). THE CARD IS WHAT COUNTS. Prove the row's statement (the work); the ties are given (YtlkhmcajnfombaaGreatDoorTie.lean); close each card by the builder's one call (the guide's Derived/Test/ToyasCard.lean, 'card_holds'). Laid BY PROGRAM, IN A SANDBOX (cutbox-door.mjs). By AI agents, Wed Nov 11 2026. No macro, syntax, notation, axiom, sorry.
-/
import Derived.Test.YtlkhmcajnfombaaGreatDoorRows
import GoSem.ClaimSeven
namespace Go.Proofs.YtlkhmcajnfombaaGreatDoor
namespace Rows

/-- THE TIED CARD OF 'laws.FnTableApart'. -/
def fnTableApartCard : Claim7 := { stood := { row := fnTableApartRow, standIns := [], harness := (true, "998ea503d1c8f5454d79f04f99e7e190e1eddd4da25b170cb3d6dde574b64147"), looks := true }, kinds := [], alts := [], laidByText := true, laidKinds := [.data, .data, .data, .sentinel, .sentinel], laidTests := true, laidLooks := .later }
def FnTableApartCardSaid : Prop := Claim7.holds Tryz.pinned (.plain (OpenSpec.ofChange fnTableApartSpec)) fnTableApartCard

/-- THE TIED CARD OF 'laws.FnTablePut'. -/
def fnTablePutCard : Claim7 := { stood := { row := fnTablePutRow, standIns := [], harness := (true, "998ea503d1c8f5454d79f04f99e7e190e1eddd4da25b170cb3d6dde574b64147"), looks := true }, kinds := [], alts := [], laidByText := true, laidKinds := [.data, .data, .data, .sentinel, .sentinel], laidTests := true, laidLooks := .later }
def FnTablePutCardSaid : Prop := Claim7.holds Tryz.pinned (.plain (OpenSpec.ofChange fnTablePutSpec)) fnTablePutCard

/-- THE TIED CARD OF 'laws.FnTableBack'. -/
def fnTableBackCard : Claim7 := { stood := { row := fnTableBackRow, standIns := [], harness := (true, "998ea503d1c8f5454d79f04f99e7e190e1eddd4da25b170cb3d6dde574b64147"), looks := true }, kinds := [], alts := [], laidByText := true, laidKinds := [.data, .data, .data, .sentinel, .sentinel], laidTests := true, laidLooks := .later }
def FnTableBackCardSaid : Prop := Claim7.holds Tryz.pinned (.plain (OpenSpec.ofChange fnTableBackSpec)) fnTableBackCard

/-- THE TIED CARD OF 'laws.FnTableAll'. -/
def fnTableAllCard : Claim7 := { stood := { row := fnTableAllRow, standIns := [], harness := (true, "998ea503d1c8f5454d79f04f99e7e190e1eddd4da25b170cb3d6dde574b64147"), looks := true }, kinds := [], alts := [], laidByText := true, laidKinds := [.data, .data, .data, .sentinel, .sentinel], laidTests := true, laidLooks := .later }
def FnTableAllCardSaid : Prop := Claim7.holds Tryz.pinned (.plain (OpenSpec.ofChange fnTableAllSpec)) fnTableAllCard

/-- THE TIED CARD OF 'laws.FnTableLazy'. -/
def fnTableLazyCard : Claim7 := { stood := { row := fnTableLazyRow, standIns := [], harness := (true, "998ea503d1c8f5454d79f04f99e7e190e1eddd4da25b170cb3d6dde574b64147"), looks := true }, kinds := [], alts := [], laidByText := true, laidKinds := [.data, .data, .data, .sentinel, .sentinel], laidTests := true, laidLooks := .later }
def FnTableLazyCardSaid : Prop := Claim7.holds Tryz.pinned (.plain (OpenSpec.ofChange fnTableLazySpec)) fnTableLazyCard

/-- THE SECOND FORM's CARD OF 'laws.FnTableApart'. -/
def fnTableApartUptoCard : Claim7 := { stood := { row := fnTableApartUptoRow, standIns := [], harness := (true, "998ea503d1c8f5454d79f04f99e7e190e1eddd4da25b170cb3d6dde574b64147"), looks := true }, kinds := [], alts := [], laidByText := true, laidKinds := [.data, .data, .data, .sentinel, .sentinel], laidTests := true, laidLooks := .later }
def FnTableApartUptoCardSaid : Prop := Claim7.holds Tryz.pinned (.plain (OpenSpec.upto fnTableApartSpec)) fnTableApartUptoCard

/-- THE SECOND FORM's CARD OF 'laws.FnTablePut'. -/
def fnTablePutUptoCard : Claim7 := { stood := { row := fnTablePutUptoRow, standIns := [], harness := (true, "998ea503d1c8f5454d79f04f99e7e190e1eddd4da25b170cb3d6dde574b64147"), looks := true }, kinds := [], alts := [], laidByText := true, laidKinds := [.data, .data, .data, .sentinel, .sentinel], laidTests := true, laidLooks := .later }
def FnTablePutUptoCardSaid : Prop := Claim7.holds Tryz.pinned (.plain (OpenSpec.upto fnTablePutSpec)) fnTablePutUptoCard

/-- THE SECOND FORM's CARD OF 'laws.FnTableBack'. -/
def fnTableBackUptoCard : Claim7 := { stood := { row := fnTableBackUptoRow, standIns := [], harness := (true, "998ea503d1c8f5454d79f04f99e7e190e1eddd4da25b170cb3d6dde574b64147"), looks := true }, kinds := [], alts := [], laidByText := true, laidKinds := [.data, .data, .data, .sentinel, .sentinel], laidTests := true, laidLooks := .later }
def FnTableBackUptoCardSaid : Prop := Claim7.holds Tryz.pinned (.plain (OpenSpec.upto fnTableBackSpec)) fnTableBackUptoCard

/-- THE SECOND FORM's CARD OF 'laws.FnTableAll'. -/
def fnTableAllUptoCard : Claim7 := { stood := { row := fnTableAllUptoRow, standIns := [], harness := (true, "998ea503d1c8f5454d79f04f99e7e190e1eddd4da25b170cb3d6dde574b64147"), looks := true }, kinds := [], alts := [], laidByText := true, laidKinds := [.data, .data, .data, .sentinel, .sentinel], laidTests := true, laidLooks := .later }
def FnTableAllUptoCardSaid : Prop := Claim7.holds Tryz.pinned (.plain (OpenSpec.upto fnTableAllSpec)) fnTableAllUptoCard

/-- THE SECOND FORM's CARD OF 'laws.FnTableLazy'. -/
def fnTableLazyUptoCard : Claim7 := { stood := { row := fnTableLazyUptoRow, standIns := [], harness := (true, "998ea503d1c8f5454d79f04f99e7e190e1eddd4da25b170cb3d6dde574b64147"), looks := true }, kinds := [], alts := [], laidByText := true, laidKinds := [.data, .data, .data, .sentinel, .sentinel], laidTests := true, laidLooks := .later }
def FnTableLazyUptoCardSaid : Prop := Claim7.holds Tryz.pinned (.plain (OpenSpec.upto fnTableLazySpec)) fnTableLazyUptoCard
end Rows
end Go.Proofs.YtlkhmcajnfombaaGreatDoor
