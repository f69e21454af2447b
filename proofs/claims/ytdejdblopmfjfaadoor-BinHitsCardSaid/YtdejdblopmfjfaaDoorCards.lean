/-
  DERIVED. GIVEN WITH THE SEED: THE CARDS: each row of YtdejdblopmfjfaaDoorRows.lean that lists a variable, with what it lists TIED to the program's text (the seventh form; the later family's looks); each row that meets fmt, with fmt's text TOLD by the authors' own Lean function (tested against real Go, not proved from fmt's source: count such statements apart). THE CARD IS WHAT COUNTS. Prove the row's statement (the work); the ties are given (YtdejdblopmfjfaaDoorTie.lean); close each card by the builder's one call (the guide's Derived/Test/ToyasCard.lean, 'card_holds'). Laid BY PROGRAM, IN A SANDBOX (cutbox-door.mjs). By AI agents, Wed Nov 11 2026. No macro, syntax, notation, axiom, sorry.
-/
import Derived.Test.YtdejdblopmfjfaaDoorRows
import GoSem.ClaimSeven
namespace Go.Proofs.YtdejdblopmfjfaaDoor
namespace Rows

/-- THE TIED CARD OF 'paravanelaw07.BinHits'. -/
def binHitsCard : Claim7 := { stood := { row := binHitsRow, standIns := [], harness := (true, "6aee4be3c6725f2610fff050f35ef26cbb28fbbc76831de6d90fe605cb293e49"), looks := false }, kinds := [], alts := [], laidByText := true, laidKinds := [.data], laidTests := true, laidLooks := .later }
def BinHitsCardSaid : Prop := Claim7.holds Tryd.pinned (.plain (OpenSpec.ofChange binHitsSpec)) binHitsCard

/-- THE SECOND FORM's CARD OF 'paravanelaw07.BinHits'. -/
def binHitsUptoCard : Claim7 := { stood := { row := binHitsUptoRow, standIns := [], harness := (true, "6aee4be3c6725f2610fff050f35ef26cbb28fbbc76831de6d90fe605cb293e49"), looks := false }, kinds := [], alts := [], laidByText := true, laidKinds := [.data], laidTests := true, laidLooks := .later }
def BinHitsUptoCardSaid : Prop := Claim7.holds Tryd.pinned (.plain (OpenSpec.upto binHitsSpec)) binHitsUptoCard
end Rows
end Go.Proofs.YtdejdblopmfjfaaDoor
