/-
  DERIVED. GIVEN WITH THE SEED: THE CARDS: each row of YtdpigighgmipfaaGreatDoorRows.lean that lists a variable, with what it lists TIED to the program's text (the seventh form; the later family's looks); each row that meets fmt, with fmt's text TOLD by the authors' own Lean function (tested against real Go, not proved from fmt's source: count such statements apart). THE CARD IS WHAT COUNTS. Prove the row's statement (the work); the ties are given (YtdpigighgmipfaaGreatDoorTie.lean); close each card by the builder's one call (the guide's Derived/Test/ToyasCard.lean, 'card_holds'). Laid BY PROGRAM, IN A SANDBOX (cutbox-door.mjs). By AI agents, Wed Nov 11 2026. No macro, syntax, notation, axiom, sorry.
-/
import Derived.Test.YtdpigighgmipfaaGreatDoorRows
import GoSem.ClaimSeven
namespace Go.Proofs.YtdpigighgmipfaaGreatDoor
namespace Rows

/-- THE TIED CARD OF 'laws.FnBaseTable'. -/
def fnBaseTableCard : Claim7 := { stood := { row := fnBaseTableRow, standIns := [], harness := (true, "790a0fdf50cb346e36417db8cb25cceca887a292cf4dd128da8896eb8a404695"), looks := true }, kinds := [], alts := [], laidByText := true, laidKinds := [.data, .data, .data, .sentinel, .sentinel], laidTests := true, laidLooks := .later }
def FnBaseTableCardSaid : Prop := Claim7.holds Tryz.pinned (.plain (OpenSpec.ofChange fnBaseTableSpec)) fnBaseTableCard

/-- THE TIED CARD OF 'laws.FnBaseLink'. -/
def fnBaseLinkCard : Claim7 := { stood := { row := fnBaseLinkRow, standIns := [], harness := (true, "790a0fdf50cb346e36417db8cb25cceca887a292cf4dd128da8896eb8a404695"), looks := true }, kinds := [], alts := [], laidByText := true, laidKinds := [.data, .data, .data, .sentinel, .sentinel], laidTests := true, laidLooks := .later }
def FnBaseLinkCardSaid : Prop := Claim7.holds Tryz.pinned (.plain (OpenSpec.ofChange fnBaseLinkSpec)) fnBaseLinkCard

/-- THE TIED CARD OF 'laws.FnBaseNow'. -/
def fnBaseNowCard : Claim7 := { stood := { row := fnBaseNowRow, standIns := [], harness := (true, "790a0fdf50cb346e36417db8cb25cceca887a292cf4dd128da8896eb8a404695"), looks := true }, kinds := [], alts := [], laidByText := true, laidKinds := [.data, .data, .data, .sentinel, .sentinel], laidTests := true, laidLooks := .later }
def FnBaseNowCardSaid : Prop := Claim7.holds Tryz.pinned (.plain (OpenSpec.ofChange fnBaseNowSpec)) fnBaseNowCard

/-- THE TIED CARD OF 'laws.FnBaseChange'. -/
def fnBaseChangeCard : Claim7 := { stood := { row := fnBaseChangeRow, standIns := [], harness := (true, "790a0fdf50cb346e36417db8cb25cceca887a292cf4dd128da8896eb8a404695"), looks := true }, kinds := [], alts := [], laidByText := true, laidKinds := [.data, .data, .data, .sentinel, .sentinel], laidTests := true, laidLooks := .later }
def FnBaseChangeCardSaid : Prop := Claim7.holds Tryz.pinned (.plain (OpenSpec.ofChange fnBaseChangeSpec)) fnBaseChangeCard

/-- THE TIED CARD OF 'laws.FnBaseOffTwice'. -/
def fnBaseOffTwiceCard : Claim7 := { stood := { row := fnBaseOffTwiceRow, standIns := [], harness := (true, "790a0fdf50cb346e36417db8cb25cceca887a292cf4dd128da8896eb8a404695"), looks := true }, kinds := [], alts := [], laidByText := true, laidKinds := [.data, .data, .data, .sentinel, .sentinel], laidTests := true, laidLooks := .later }
def FnBaseOffTwiceCardSaid : Prop := Claim7.holds Tryz.pinned (.plain (OpenSpec.ofChange fnBaseOffTwiceSpec)) fnBaseOffTwiceCard

/-- THE TIED CARD OF 'laws.FnBaseSet'. -/
def fnBaseSetCard : Claim7 := { stood := { row := fnBaseSetRow, standIns := [], harness := (true, "790a0fdf50cb346e36417db8cb25cceca887a292cf4dd128da8896eb8a404695"), looks := true }, kinds := [], alts := [], laidByText := true, laidKinds := [.data, .data, .data, .sentinel, .sentinel], laidTests := true, laidLooks := .later }
def FnBaseSetCardSaid : Prop := Claim7.holds Tryz.pinned (.plain (OpenSpec.ofChange fnBaseSetSpec)) fnBaseSetCard

/-- THE TIED CARD OF 'laws.FnBasePut'. -/
def fnBasePutCard : Claim7 := { stood := { row := fnBasePutRow, standIns := [], harness := (true, "790a0fdf50cb346e36417db8cb25cceca887a292cf4dd128da8896eb8a404695"), looks := true }, kinds := [], alts := [], laidByText := true, laidKinds := [.data, .data, .data, .sentinel, .sentinel], laidTests := true, laidLooks := .later }
def FnBasePutCardSaid : Prop := Claim7.holds Tryz.pinned (.plain (OpenSpec.ofChange fnBasePutSpec)) fnBasePutCard

/-- THE TIED CARD OF 'laws.FnBaseHeld'. -/
def fnBaseHeldCard : Claim7 := { stood := { row := fnBaseHeldRow, standIns := [], harness := (true, "790a0fdf50cb346e36417db8cb25cceca887a292cf4dd128da8896eb8a404695"), looks := true }, kinds := [], alts := [], laidByText := true, laidKinds := [.data, .data, .data, .sentinel, .sentinel], laidTests := true, laidLooks := .later }
def FnBaseHeldCardSaid : Prop := Claim7.holds Tryz.pinned (.plain (OpenSpec.ofChange fnBaseHeldSpec)) fnBaseHeldCard

/-- THE TIED CARD OF 'laws.FnBaseFree'. -/
def fnBaseFreeCard : Claim7 := { stood := { row := fnBaseFreeRow, standIns := [], harness := (true, "790a0fdf50cb346e36417db8cb25cceca887a292cf4dd128da8896eb8a404695"), looks := true }, kinds := [], alts := [], laidByText := true, laidKinds := [.data, .data, .data, .sentinel, .sentinel], laidTests := true, laidLooks := .later }
def FnBaseFreeCardSaid : Prop := Claim7.holds Tryz.pinned (.plain (OpenSpec.ofChange fnBaseFreeSpec)) fnBaseFreeCard

/-- THE TIED CARD OF 'laws.FnBasePutOff'. -/
def fnBasePutOffCard : Claim7 := { stood := { row := fnBasePutOffRow, standIns := [], harness := (true, "790a0fdf50cb346e36417db8cb25cceca887a292cf4dd128da8896eb8a404695"), looks := true }, kinds := [], alts := [], laidByText := true, laidKinds := [.data, .data, .data, .sentinel, .sentinel], laidTests := true, laidLooks := .later }
def FnBasePutOffCardSaid : Prop := Claim7.holds Tryz.pinned (.plain (OpenSpec.ofChange fnBasePutOffSpec)) fnBasePutOffCard

/-- THE TIED CARD OF 'laws.FnBaseOff'. -/
def fnBaseOffCard : Claim7 := { stood := { row := fnBaseOffRow, standIns := [], harness := (true, "790a0fdf50cb346e36417db8cb25cceca887a292cf4dd128da8896eb8a404695"), looks := true }, kinds := [], alts := [], laidByText := true, laidKinds := [.data, .data, .data, .sentinel, .sentinel], laidTests := true, laidLooks := .later }
def FnBaseOffCardSaid : Prop := Claim7.holds Tryz.pinned (.plain (OpenSpec.ofChange fnBaseOffSpec)) fnBaseOffCard

/-- THE TIED CARD OF 'laws.FnBaseNone'. -/
def fnBaseNoneCard : Claim7 := { stood := { row := fnBaseNoneRow, standIns := [], harness := (true, "790a0fdf50cb346e36417db8cb25cceca887a292cf4dd128da8896eb8a404695"), looks := true }, kinds := [], alts := [], laidByText := true, laidKinds := [.data, .data, .data, .sentinel, .sentinel], laidTests := true, laidLooks := .later }
def FnBaseNoneCardSaid : Prop := Claim7.holds Tryz.pinned (.plain (OpenSpec.ofChange fnBaseNoneSpec)) fnBaseNoneCard

/-- THE SECOND FORM's CARD OF 'laws.FnBaseTable'. -/
def fnBaseTableUptoCard : Claim7 := { stood := { row := fnBaseTableUptoRow, standIns := [], harness := (true, "790a0fdf50cb346e36417db8cb25cceca887a292cf4dd128da8896eb8a404695"), looks := true }, kinds := [], alts := [], laidByText := true, laidKinds := [.data, .data, .data, .sentinel, .sentinel], laidTests := true, laidLooks := .later }
def FnBaseTableUptoCardSaid : Prop := Claim7.holds Tryz.pinned (.plain (OpenSpec.upto fnBaseTableSpec)) fnBaseTableUptoCard

/-- THE SECOND FORM's CARD OF 'laws.FnBaseLink'. -/
def fnBaseLinkUptoCard : Claim7 := { stood := { row := fnBaseLinkUptoRow, standIns := [], harness := (true, "790a0fdf50cb346e36417db8cb25cceca887a292cf4dd128da8896eb8a404695"), looks := true }, kinds := [], alts := [], laidByText := true, laidKinds := [.data, .data, .data, .sentinel, .sentinel], laidTests := true, laidLooks := .later }
def FnBaseLinkUptoCardSaid : Prop := Claim7.holds Tryz.pinned (.plain (OpenSpec.upto fnBaseLinkSpec)) fnBaseLinkUptoCard

/-- THE SECOND FORM's CARD OF 'laws.FnBaseNow'. -/
def fnBaseNowUptoCard : Claim7 := { stood := { row := fnBaseNowUptoRow, standIns := [], harness := (true, "790a0fdf50cb346e36417db8cb25cceca887a292cf4dd128da8896eb8a404695"), looks := true }, kinds := [], alts := [], laidByText := true, laidKinds := [.data, .data, .data, .sentinel, .sentinel], laidTests := true, laidLooks := .later }
def FnBaseNowUptoCardSaid : Prop := Claim7.holds Tryz.pinned (.plain (OpenSpec.upto fnBaseNowSpec)) fnBaseNowUptoCard

/-- THE SECOND FORM's CARD OF 'laws.FnBaseChange'. -/
def fnBaseChangeUptoCard : Claim7 := { stood := { row := fnBaseChangeUptoRow, standIns := [], harness := (true, "790a0fdf50cb346e36417db8cb25cceca887a292cf4dd128da8896eb8a404695"), looks := true }, kinds := [], alts := [], laidByText := true, laidKinds := [.data, .data, .data, .sentinel, .sentinel], laidTests := true, laidLooks := .later }
def FnBaseChangeUptoCardSaid : Prop := Claim7.holds Tryz.pinned (.plain (OpenSpec.upto fnBaseChangeSpec)) fnBaseChangeUptoCard

/-- THE SECOND FORM's CARD OF 'laws.FnBaseOffTwice'. -/
def fnBaseOffTwiceUptoCard : Claim7 := { stood := { row := fnBaseOffTwiceUptoRow, standIns := [], harness := (true, "790a0fdf50cb346e36417db8cb25cceca887a292cf4dd128da8896eb8a404695"), looks := true }, kinds := [], alts := [], laidByText := true, laidKinds := [.data, .data, .data, .sentinel, .sentinel], laidTests := true, laidLooks := .later }
def FnBaseOffTwiceUptoCardSaid : Prop := Claim7.holds Tryz.pinned (.plain (OpenSpec.upto fnBaseOffTwiceSpec)) fnBaseOffTwiceUptoCard

/-- THE SECOND FORM's CARD OF 'laws.FnBaseSet'. -/
def fnBaseSetUptoCard : Claim7 := { stood := { row := fnBaseSetUptoRow, standIns := [], harness := (true, "790a0fdf50cb346e36417db8cb25cceca887a292cf4dd128da8896eb8a404695"), looks := true }, kinds := [], alts := [], laidByText := true, laidKinds := [.data, .data, .data, .sentinel, .sentinel], laidTests := true, laidLooks := .later }
def FnBaseSetUptoCardSaid : Prop := Claim7.holds Tryz.pinned (.plain (OpenSpec.upto fnBaseSetSpec)) fnBaseSetUptoCard

/-- THE SECOND FORM's CARD OF 'laws.FnBasePut'. -/
def fnBasePutUptoCard : Claim7 := { stood := { row := fnBasePutUptoRow, standIns := [], harness := (true, "790a0fdf50cb346e36417db8cb25cceca887a292cf4dd128da8896eb8a404695"), looks := true }, kinds := [], alts := [], laidByText := true, laidKinds := [.data, .data, .data, .sentinel, .sentinel], laidTests := true, laidLooks := .later }
def FnBasePutUptoCardSaid : Prop := Claim7.holds Tryz.pinned (.plain (OpenSpec.upto fnBasePutSpec)) fnBasePutUptoCard

/-- THE SECOND FORM's CARD OF 'laws.FnBaseHeld'. -/
def fnBaseHeldUptoCard : Claim7 := { stood := { row := fnBaseHeldUptoRow, standIns := [], harness := (true, "790a0fdf50cb346e36417db8cb25cceca887a292cf4dd128da8896eb8a404695"), looks := true }, kinds := [], alts := [], laidByText := true, laidKinds := [.data, .data, .data, .sentinel, .sentinel], laidTests := true, laidLooks := .later }
def FnBaseHeldUptoCardSaid : Prop := Claim7.holds Tryz.pinned (.plain (OpenSpec.upto fnBaseHeldSpec)) fnBaseHeldUptoCard

/-- THE SECOND FORM's CARD OF 'laws.FnBaseFree'. -/
def fnBaseFreeUptoCard : Claim7 := { stood := { row := fnBaseFreeUptoRow, standIns := [], harness := (true, "790a0fdf50cb346e36417db8cb25cceca887a292cf4dd128da8896eb8a404695"), looks := true }, kinds := [], alts := [], laidByText := true, laidKinds := [.data, .data, .data, .sentinel, .sentinel], laidTests := true, laidLooks := .later }
def FnBaseFreeUptoCardSaid : Prop := Claim7.holds Tryz.pinned (.plain (OpenSpec.upto fnBaseFreeSpec)) fnBaseFreeUptoCard

/-- THE SECOND FORM's CARD OF 'laws.FnBasePutOff'. -/
def fnBasePutOffUptoCard : Claim7 := { stood := { row := fnBasePutOffUptoRow, standIns := [], harness := (true, "790a0fdf50cb346e36417db8cb25cceca887a292cf4dd128da8896eb8a404695"), looks := true }, kinds := [], alts := [], laidByText := true, laidKinds := [.data, .data, .data, .sentinel, .sentinel], laidTests := true, laidLooks := .later }
def FnBasePutOffUptoCardSaid : Prop := Claim7.holds Tryz.pinned (.plain (OpenSpec.upto fnBasePutOffSpec)) fnBasePutOffUptoCard

/-- THE SECOND FORM's CARD OF 'laws.FnBaseOff'. -/
def fnBaseOffUptoCard : Claim7 := { stood := { row := fnBaseOffUptoRow, standIns := [], harness := (true, "790a0fdf50cb346e36417db8cb25cceca887a292cf4dd128da8896eb8a404695"), looks := true }, kinds := [], alts := [], laidByText := true, laidKinds := [.data, .data, .data, .sentinel, .sentinel], laidTests := true, laidLooks := .later }
def FnBaseOffUptoCardSaid : Prop := Claim7.holds Tryz.pinned (.plain (OpenSpec.upto fnBaseOffSpec)) fnBaseOffUptoCard

/-- THE SECOND FORM's CARD OF 'laws.FnBaseNone'. -/
def fnBaseNoneUptoCard : Claim7 := { stood := { row := fnBaseNoneUptoRow, standIns := [], harness := (true, "790a0fdf50cb346e36417db8cb25cceca887a292cf4dd128da8896eb8a404695"), looks := true }, kinds := [], alts := [], laidByText := true, laidKinds := [.data, .data, .data, .sentinel, .sentinel], laidTests := true, laidLooks := .later }
def FnBaseNoneUptoCardSaid : Prop := Claim7.holds Tryz.pinned (.plain (OpenSpec.upto fnBaseNoneSpec)) fnBaseNoneUptoCard
end Rows
end Go.Proofs.YtdpigighgmipfaaGreatDoor
