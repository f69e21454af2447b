/-
  DERIVED. GIVEN WITH THE SEED: THE CARDS: each row of YtabedohjkillfaaGreatDoorRows.lean that lists a variable, with what it lists TIED to the program's text (the seventh form; the later family's looks); each row that meets fmt, with fmt's text TOLD by the authors' own Lean function (tested against real Go, not proved from fmt's source: count such statements apart). THE CARD IS WHAT COUNTS. Prove the row's statement (the work); the ties are given (YtabedohjkillfaaGreatDoorTie.lean); close each card by the builder's one call (the guide's Derived/Test/ToyasCard.lean, 'card_holds'). Laid BY PROGRAM, IN A SANDBOX (cutbox-door.mjs). By AI agents, Wed Nov 11 2026. No macro, syntax, notation, axiom, sorry.
-/
import Derived.Test.YtabedohjkillfaaGreatDoorRows
import GoSem.ClaimSeven
namespace Go.Proofs.YtabedohjkillfaaGreatDoor
namespace Rows

/-- THE TIED CARD OF 'paravanetop.TopSailed'. -/
def topSailedCard : Claim7 := { stood := { row := topSailedRow, standIns := [], harness := (true, "97ab25dabfaa780cf6418da47c8f385d5fb249253a64aa35a8c7b102a6dcc0bd"), looks := true }, kinds := [], alts := [], laidByText := true, laidKinds := [.data], laidTests := true, laidLooks := .later }
def TopSailedCardSaid : Prop := Claim7.holds Tryz.pinned (.plain (OpenSpec.ofChange topSailedSpec)) topSailedCard

/-- THE SECOND FORM's CARD OF 'paravanetop.TopSailed'. -/
def topSailedUptoCard : Claim7 := { stood := { row := topSailedUptoRow, standIns := [], harness := (true, "97ab25dabfaa780cf6418da47c8f385d5fb249253a64aa35a8c7b102a6dcc0bd"), looks := true }, kinds := [], alts := [], laidByText := true, laidKinds := [.data], laidTests := true, laidLooks := .later }
def TopSailedUptoCardSaid : Prop := Claim7.holds Tryz.pinned (.plain (OpenSpec.upto topSailedSpec)) topSailedUptoCard
end Rows
end Go.Proofs.YtabedohjkillfaaGreatDoor
