/-
  DERIVED. GIVEN WITH THE SEED: THE CARDS: each row of YtbnklinfjmmlfaaGreatDoorRows.lean that lists a variable, with what it lists TIED to the program's text (the seventh form; the later family's looks); each row that meets fmt, with fmt's text TOLD by the authors' own Lean function (tested against real Go, not proved from fmt's source: count such statements apart). THE CARD IS WHAT COUNTS. Prove the row's statement (the work); the ties are given (YtbnklinfjmmlfaaGreatDoorTie.lean); close each card by the builder's one call (the guide's Derived/Test/ToyasCard.lean, 'card_holds'). Laid BY PROGRAM, IN A SANDBOX (cutbox-door.mjs). By AI agents, Wed Nov 11 2026. No macro, syntax, notation, axiom, sorry.
-/
import Derived.Test.YtbnklinfjmmlfaaGreatDoorRows
import GoSem.ClaimSeven
namespace Go.Proofs.YtbnklinfjmmlfaaGreatDoor
namespace Rows

/-- THE TIED CARD OF 'laws.FnTableOff'. -/
def fnTableOffCard : Claim7 := { stood := { row := fnTableOffRow, standIns := [], harness := (true, "8d7983618d4310c531583deed2f7b269f1eaecd95bdcebb344bd104daa82b148"), looks := true }, kinds := [], alts := [], laidByText := true, laidKinds := [.data, .data, .data, .sentinel, .sentinel], laidTests := true, laidLooks := .later }
def FnTableOffCardSaid : Prop := Claim7.holds Tryz.pinned (.plain (OpenSpec.ofChange fnTableOffSpec)) fnTableOffCard

/-- THE TIED CARD OF 'laws.FnTableCode'. -/
def fnTableCodeCard : Claim7 := { stood := { row := fnTableCodeRow, standIns := [], harness := (true, "8d7983618d4310c531583deed2f7b269f1eaecd95bdcebb344bd104daa82b148"), looks := true }, kinds := [], alts := [], laidByText := true, laidKinds := [.data, .data, .data, .sentinel, .sentinel], laidTests := true, laidLooks := .later }
def FnTableCodeCardSaid : Prop := Claim7.holds Tryz.pinned (.plain (OpenSpec.ofChange fnTableCodeSpec)) fnTableCodeCard

/-- THE TIED CARD OF 'laws.FnTableNums'. -/
def fnTableNumsCard : Claim7 := { stood := { row := fnTableNumsRow, standIns := [], harness := (true, "8d7983618d4310c531583deed2f7b269f1eaecd95bdcebb344bd104daa82b148"), looks := true }, kinds := [], alts := [], laidByText := true, laidKinds := [.data, .data, .data, .sentinel, .sentinel], laidTests := true, laidLooks := .later }
def FnTableNumsCardSaid : Prop := Claim7.holds Tryz.pinned (.plain (OpenSpec.ofChange fnTableNumsSpec)) fnTableNumsCard

/-- THE TIED CARD OF 'laws.FnTableNext'. -/
def fnTableNextCard : Claim7 := { stood := { row := fnTableNextRow, standIns := [], harness := (true, "8d7983618d4310c531583deed2f7b269f1eaecd95bdcebb344bd104daa82b148"), looks := true }, kinds := [], alts := [], laidByText := true, laidKinds := [.data, .data, .data, .sentinel, .sentinel], laidTests := true, laidLooks := .later }
def FnTableNextCardSaid : Prop := Claim7.holds Tryz.pinned (.plain (OpenSpec.ofChange fnTableNextSpec)) fnTableNextCard

/-- THE TIED CARD OF 'laws.FnTableSet'. -/
def fnTableSetCard : Claim7 := { stood := { row := fnTableSetRow, standIns := [], harness := (true, "8d7983618d4310c531583deed2f7b269f1eaecd95bdcebb344bd104daa82b148"), looks := true }, kinds := [], alts := [], laidByText := true, laidKinds := [.data, .data, .data, .sentinel, .sentinel], laidTests := true, laidLooks := .later }
def FnTableSetCardSaid : Prop := Claim7.holds Tryz.pinned (.plain (OpenSpec.ofChange fnTableSetSpec)) fnTableSetCard

/-- THE TIED CARD OF 'laws.FnTableAgain'. -/
def fnTableAgainCard : Claim7 := { stood := { row := fnTableAgainRow, standIns := [], harness := (true, "8d7983618d4310c531583deed2f7b269f1eaecd95bdcebb344bd104daa82b148"), looks := true }, kinds := [], alts := [], laidByText := true, laidKinds := [.data, .data, .data, .sentinel, .sentinel], laidTests := true, laidLooks := .later }
def FnTableAgainCardSaid : Prop := Claim7.holds Tryz.pinned (.plain (OpenSpec.ofChange fnTableAgainSpec)) fnTableAgainCard

/-- THE TIED CARD OF 'laws.FnTableMany'. -/
def fnTableManyCard : Claim7 := { stood := { row := fnTableManyRow, standIns := [], harness := (true, "8d7983618d4310c531583deed2f7b269f1eaecd95bdcebb344bd104daa82b148"), looks := true }, kinds := [], alts := [], laidByText := true, laidKinds := [.data, .data, .data, .sentinel, .sentinel], laidTests := true, laidLooks := .later }
def FnTableManyCardSaid : Prop := Claim7.holds Tryz.pinned (.plain (OpenSpec.ofChange fnTableManySpec)) fnTableManyCard

/-- THE TIED CARD OF 'laws.FnTableChange'. -/
def fnTableChangeCard : Claim7 := { stood := { row := fnTableChangeRow, standIns := [], harness := (true, "8d7983618d4310c531583deed2f7b269f1eaecd95bdcebb344bd104daa82b148"), looks := true }, kinds := [], alts := [], laidByText := true, laidKinds := [.data, .data, .data, .sentinel, .sentinel], laidTests := true, laidLooks := .later }
def FnTableChangeCardSaid : Prop := Claim7.holds Tryz.pinned (.plain (OpenSpec.ofChange fnTableChangeSpec)) fnTableChangeCard

/-- THE TIED CARD OF 'laws.FnTableTwice'. -/
def fnTableTwiceCard : Claim7 := { stood := { row := fnTableTwiceRow, standIns := [], harness := (true, "8d7983618d4310c531583deed2f7b269f1eaecd95bdcebb344bd104daa82b148"), looks := true }, kinds := [], alts := [], laidByText := true, laidKinds := [.data, .data, .data, .sentinel, .sentinel], laidTests := true, laidLooks := .later }
def FnTableTwiceCardSaid : Prop := Claim7.holds Tryz.pinned (.plain (OpenSpec.ofChange fnTableTwiceSpec)) fnTableTwiceCard

/-- THE SECOND FORM's CARD OF 'laws.FnTableOff'. -/
def fnTableOffUptoCard : Claim7 := { stood := { row := fnTableOffUptoRow, standIns := [], harness := (true, "8d7983618d4310c531583deed2f7b269f1eaecd95bdcebb344bd104daa82b148"), looks := true }, kinds := [], alts := [], laidByText := true, laidKinds := [.data, .data, .data, .sentinel, .sentinel], laidTests := true, laidLooks := .later }
def FnTableOffUptoCardSaid : Prop := Claim7.holds Tryz.pinned (.plain (OpenSpec.upto fnTableOffSpec)) fnTableOffUptoCard

/-- THE SECOND FORM's CARD OF 'laws.FnTableCode'. -/
def fnTableCodeUptoCard : Claim7 := { stood := { row := fnTableCodeUptoRow, standIns := [], harness := (true, "8d7983618d4310c531583deed2f7b269f1eaecd95bdcebb344bd104daa82b148"), looks := true }, kinds := [], alts := [], laidByText := true, laidKinds := [.data, .data, .data, .sentinel, .sentinel], laidTests := true, laidLooks := .later }
def FnTableCodeUptoCardSaid : Prop := Claim7.holds Tryz.pinned (.plain (OpenSpec.upto fnTableCodeSpec)) fnTableCodeUptoCard

/-- THE SECOND FORM's CARD OF 'laws.FnTableNums'. -/
def fnTableNumsUptoCard : Claim7 := { stood := { row := fnTableNumsUptoRow, standIns := [], harness := (true, "8d7983618d4310c531583deed2f7b269f1eaecd95bdcebb344bd104daa82b148"), looks := true }, kinds := [], alts := [], laidByText := true, laidKinds := [.data, .data, .data, .sentinel, .sentinel], laidTests := true, laidLooks := .later }
def FnTableNumsUptoCardSaid : Prop := Claim7.holds Tryz.pinned (.plain (OpenSpec.upto fnTableNumsSpec)) fnTableNumsUptoCard

/-- THE SECOND FORM's CARD OF 'laws.FnTableNext'. -/
def fnTableNextUptoCard : Claim7 := { stood := { row := fnTableNextUptoRow, standIns := [], harness := (true, "8d7983618d4310c531583deed2f7b269f1eaecd95bdcebb344bd104daa82b148"), looks := true }, kinds := [], alts := [], laidByText := true, laidKinds := [.data, .data, .data, .sentinel, .sentinel], laidTests := true, laidLooks := .later }
def FnTableNextUptoCardSaid : Prop := Claim7.holds Tryz.pinned (.plain (OpenSpec.upto fnTableNextSpec)) fnTableNextUptoCard

/-- THE SECOND FORM's CARD OF 'laws.FnTableSet'. -/
def fnTableSetUptoCard : Claim7 := { stood := { row := fnTableSetUptoRow, standIns := [], harness := (true, "8d7983618d4310c531583deed2f7b269f1eaecd95bdcebb344bd104daa82b148"), looks := true }, kinds := [], alts := [], laidByText := true, laidKinds := [.data, .data, .data, .sentinel, .sentinel], laidTests := true, laidLooks := .later }
def FnTableSetUptoCardSaid : Prop := Claim7.holds Tryz.pinned (.plain (OpenSpec.upto fnTableSetSpec)) fnTableSetUptoCard

/-- THE SECOND FORM's CARD OF 'laws.FnTableAgain'. -/
def fnTableAgainUptoCard : Claim7 := { stood := { row := fnTableAgainUptoRow, standIns := [], harness := (true, "8d7983618d4310c531583deed2f7b269f1eaecd95bdcebb344bd104daa82b148"), looks := true }, kinds := [], alts := [], laidByText := true, laidKinds := [.data, .data, .data, .sentinel, .sentinel], laidTests := true, laidLooks := .later }
def FnTableAgainUptoCardSaid : Prop := Claim7.holds Tryz.pinned (.plain (OpenSpec.upto fnTableAgainSpec)) fnTableAgainUptoCard

/-- THE SECOND FORM's CARD OF 'laws.FnTableMany'. -/
def fnTableManyUptoCard : Claim7 := { stood := { row := fnTableManyUptoRow, standIns := [], harness := (true, "8d7983618d4310c531583deed2f7b269f1eaecd95bdcebb344bd104daa82b148"), looks := true }, kinds := [], alts := [], laidByText := true, laidKinds := [.data, .data, .data, .sentinel, .sentinel], laidTests := true, laidLooks := .later }
def FnTableManyUptoCardSaid : Prop := Claim7.holds Tryz.pinned (.plain (OpenSpec.upto fnTableManySpec)) fnTableManyUptoCard

/-- THE SECOND FORM's CARD OF 'laws.FnTableChange'. -/
def fnTableChangeUptoCard : Claim7 := { stood := { row := fnTableChangeUptoRow, standIns := [], harness := (true, "8d7983618d4310c531583deed2f7b269f1eaecd95bdcebb344bd104daa82b148"), looks := true }, kinds := [], alts := [], laidByText := true, laidKinds := [.data, .data, .data, .sentinel, .sentinel], laidTests := true, laidLooks := .later }
def FnTableChangeUptoCardSaid : Prop := Claim7.holds Tryz.pinned (.plain (OpenSpec.upto fnTableChangeSpec)) fnTableChangeUptoCard

/-- THE SECOND FORM's CARD OF 'laws.FnTableTwice'. -/
def fnTableTwiceUptoCard : Claim7 := { stood := { row := fnTableTwiceUptoRow, standIns := [], harness := (true, "8d7983618d4310c531583deed2f7b269f1eaecd95bdcebb344bd104daa82b148"), looks := true }, kinds := [], alts := [], laidByText := true, laidKinds := [.data, .data, .data, .sentinel, .sentinel], laidTests := true, laidLooks := .later }
def FnTableTwiceUptoCardSaid : Prop := Claim7.holds Tryz.pinned (.plain (OpenSpec.upto fnTableTwiceSpec)) fnTableTwiceUptoCard
end Rows
end Go.Proofs.YtbnklinfjmmlfaaGreatDoor
