/-
  DERIVED. GIVEN WITH THE SEED: THE CARDS: each row of YtdejdblopmfjfaaGreatDoorRows.lean that lists a variable, with what it lists TIED to the program's text (the seventh form; the later family's looks); each row that meets fmt, with fmt's text TOLD by the authors' own Lean function (tested against real Go, not proved from fmt's source: count such statements apart). THE CARD IS WHAT COUNTS. Prove the row's statement (the work); the ties are given (YtdejdblopmfjfaaGreatDoorTie.lean); close each card by the builder's one call (the guide's Derived/Test/ToyasCard.lean, 'card_holds'). Laid BY PROGRAM, IN A SANDBOX (cutbox-door.mjs). By AI agents, Wed Nov 11 2026. No macro, syntax, notation, axiom, sorry.
-/
import Derived.Test.YtdejdblopmfjfaaGreatDoorRows
import GoSem.ClaimSeven
namespace Go.Proofs.YtdejdblopmfjfaaGreatDoor
namespace Rows

/-- THE TIED CARD OF 'paravanelaw07.BinCells'. -/
def binCellsCard : Claim7 := { stood := { row := binCellsRow, standIns := [], harness := (true, "ec19f5707bb273954ccce77665451564e085088820ac27ab53deecdce0f661fc"), looks := false }, kinds := [], alts := [], laidByText := true, laidKinds := [.data], laidTests := true, laidLooks := .later }
def BinCellsCardSaid : Prop := Claim7.holds Tryz.pinned (.plain (OpenSpec.ofChange binCellsSpec)) binCellsCard

/-- THE TIED CARD OF 'paravanelaw07.BinFolds'. -/
def binFoldsCard : Claim7 := { stood := { row := binFoldsRow, standIns := [], harness := (true, "ec19f5707bb273954ccce77665451564e085088820ac27ab53deecdce0f661fc"), looks := false }, kinds := [], alts := [], laidByText := true, laidKinds := [.data], laidTests := true, laidLooks := .later }
def BinFoldsCardSaid : Prop := Claim7.holds Tryz.pinned (.plain (OpenSpec.ofChange binFoldsSpec)) binFoldsCard

/-- THE TIED CARD OF 'paravanelaw07.BinGains'. -/
def binGainsCard : Claim7 := { stood := { row := binGainsRow, standIns := [], harness := (true, "ec19f5707bb273954ccce77665451564e085088820ac27ab53deecdce0f661fc"), looks := false }, kinds := [], alts := [], laidByText := true, laidKinds := [.data], laidTests := true, laidLooks := .later }
def BinGainsCardSaid : Prop := Claim7.holds Tryz.pinned (.plain (OpenSpec.ofChange binGainsSpec)) binGainsCard

/-- THE TIED CARD OF 'paravanelaw07.BinProofs'. -/
def binProofsCard : Claim7 := { stood := { row := binProofsRow, standIns := [], harness := (true, "ec19f5707bb273954ccce77665451564e085088820ac27ab53deecdce0f661fc"), looks := false }, kinds := [], alts := [], laidByText := true, laidKinds := [.data], laidTests := true, laidLooks := .later }
def BinProofsCardSaid : Prop := Claim7.holds Tryz.pinned (.plain (OpenSpec.ofChange binProofsSpec)) binProofsCard

/-- THE TIED CARD OF 'paravanelaw07.BinBuilds'. -/
def binBuildsCard : Claim7 := { stood := { row := binBuildsRow, standIns := [], harness := (true, "ec19f5707bb273954ccce77665451564e085088820ac27ab53deecdce0f661fc"), looks := false }, kinds := [], alts := [], laidByText := true, laidKinds := [.data], laidTests := true, laidLooks := .later }
def BinBuildsCardSaid : Prop := Claim7.holds Tryz.pinned (.plain (OpenSpec.ofChange binBuildsSpec)) binBuildsCard

/-- THE TIED CARD OF 'paravanelaw07.BinBetter'. -/
def binBetterCard : Claim7 := { stood := { row := binBetterRow, standIns := [], harness := (true, "ec19f5707bb273954ccce77665451564e085088820ac27ab53deecdce0f661fc"), looks := false }, kinds := [], alts := [], laidByText := true, laidKinds := [.data], laidTests := true, laidLooks := .later }
def BinBetterCardSaid : Prop := Claim7.holds Tryz.pinned (.plain (OpenSpec.ofChange binBetterSpec)) binBetterCard

/-- THE TIED CARD OF 'paravanelaw07.BinFilled'. -/
def binFilledCard : Claim7 := { stood := { row := binFilledRow, standIns := [], harness := (true, "ec19f5707bb273954ccce77665451564e085088820ac27ab53deecdce0f661fc"), looks := false }, kinds := [], alts := [], laidByText := true, laidKinds := [.data], laidTests := true, laidLooks := .later }
def BinFilledCardSaid : Prop := Claim7.holds Tryz.pinned (.plain (OpenSpec.ofChange binFilledSpec)) binFilledCard

/-- THE SECOND FORM's CARD OF 'paravanelaw07.BinCells'. -/
def binCellsUptoCard : Claim7 := { stood := { row := binCellsUptoRow, standIns := [], harness := (true, "ec19f5707bb273954ccce77665451564e085088820ac27ab53deecdce0f661fc"), looks := false }, kinds := [], alts := [], laidByText := true, laidKinds := [.data], laidTests := true, laidLooks := .later }
def BinCellsUptoCardSaid : Prop := Claim7.holds Tryz.pinned (.plain (OpenSpec.upto binCellsSpec)) binCellsUptoCard

/-- THE SECOND FORM's CARD OF 'paravanelaw07.BinFolds'. -/
def binFoldsUptoCard : Claim7 := { stood := { row := binFoldsUptoRow, standIns := [], harness := (true, "ec19f5707bb273954ccce77665451564e085088820ac27ab53deecdce0f661fc"), looks := false }, kinds := [], alts := [], laidByText := true, laidKinds := [.data], laidTests := true, laidLooks := .later }
def BinFoldsUptoCardSaid : Prop := Claim7.holds Tryz.pinned (.plain (OpenSpec.upto binFoldsSpec)) binFoldsUptoCard

/-- THE SECOND FORM's CARD OF 'paravanelaw07.BinGains'. -/
def binGainsUptoCard : Claim7 := { stood := { row := binGainsUptoRow, standIns := [], harness := (true, "ec19f5707bb273954ccce77665451564e085088820ac27ab53deecdce0f661fc"), looks := false }, kinds := [], alts := [], laidByText := true, laidKinds := [.data], laidTests := true, laidLooks := .later }
def BinGainsUptoCardSaid : Prop := Claim7.holds Tryz.pinned (.plain (OpenSpec.upto binGainsSpec)) binGainsUptoCard

/-- THE SECOND FORM's CARD OF 'paravanelaw07.BinProofs'. -/
def binProofsUptoCard : Claim7 := { stood := { row := binProofsUptoRow, standIns := [], harness := (true, "ec19f5707bb273954ccce77665451564e085088820ac27ab53deecdce0f661fc"), looks := false }, kinds := [], alts := [], laidByText := true, laidKinds := [.data], laidTests := true, laidLooks := .later }
def BinProofsUptoCardSaid : Prop := Claim7.holds Tryz.pinned (.plain (OpenSpec.upto binProofsSpec)) binProofsUptoCard

/-- THE SECOND FORM's CARD OF 'paravanelaw07.BinBuilds'. -/
def binBuildsUptoCard : Claim7 := { stood := { row := binBuildsUptoRow, standIns := [], harness := (true, "ec19f5707bb273954ccce77665451564e085088820ac27ab53deecdce0f661fc"), looks := false }, kinds := [], alts := [], laidByText := true, laidKinds := [.data], laidTests := true, laidLooks := .later }
def BinBuildsUptoCardSaid : Prop := Claim7.holds Tryz.pinned (.plain (OpenSpec.upto binBuildsSpec)) binBuildsUptoCard

/-- THE SECOND FORM's CARD OF 'paravanelaw07.BinBetter'. -/
def binBetterUptoCard : Claim7 := { stood := { row := binBetterUptoRow, standIns := [], harness := (true, "ec19f5707bb273954ccce77665451564e085088820ac27ab53deecdce0f661fc"), looks := false }, kinds := [], alts := [], laidByText := true, laidKinds := [.data], laidTests := true, laidLooks := .later }
def BinBetterUptoCardSaid : Prop := Claim7.holds Tryz.pinned (.plain (OpenSpec.upto binBetterSpec)) binBetterUptoCard

/-- THE SECOND FORM's CARD OF 'paravanelaw07.BinFilled'. -/
def binFilledUptoCard : Claim7 := { stood := { row := binFilledUptoRow, standIns := [], harness := (true, "ec19f5707bb273954ccce77665451564e085088820ac27ab53deecdce0f661fc"), looks := false }, kinds := [], alts := [], laidByText := true, laidKinds := [.data], laidTests := true, laidLooks := .later }
def BinFilledUptoCardSaid : Prop := Claim7.holds Tryz.pinned (.plain (OpenSpec.upto binFilledSpec)) binFilledUptoCard
end Rows
end Go.Proofs.YtdejdblopmfjfaaGreatDoor
