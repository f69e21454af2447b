/-
  DERIVED. GIVEN WITH THE SEED: THE CARDS: each row of YtffoiccokigjcaaDoorRows.lean that lists a variable, with what it lists TIED to the program's text (the seventh form; the later family's looks); each row that meets fmt, with fmt's text TOLD by the authors' own Lean function (tested against real Go, not proved from fmt's source: count such statements apart). THE CARD IS WHAT COUNTS. Prove the row's statement (the work); the ties are given (YtffoiccokigjcaaDoorTie.lean); close each card by the builder's one call (the guide's Derived/Test/ToyasCard.lean, 'card_holds'). Laid BY PROGRAM, IN A SANDBOX (cutbox-door.mjs). By AI agents, Wed Nov 11 2026. No macro, syntax, notation, axiom, sorry.
-/
import Derived.Test.YtffoiccokigjcaaDoorRows
import GoSem.ClaimSeven
namespace Go.Proofs.YtffoiccokigjcaaDoor
namespace Rows

/-- THE TIED CARD OF 'paravanelaw07.BinMaps'. -/
def binMapsCard : Claim7 := { stood := { row := binMapsRow, standIns := [], harness := (true, "47f3dc3b75cd31c8c7ebd04ed5b2fad4af20457780fbc20c30aab17725b24563"), looks := false }, kinds := [], alts := [], laidByText := true, laidKinds := [.data], laidTests := true, laidLooks := .later }
def BinMapsCardSaid : Prop := Claim7.holds Tryd.pinned (.plain (OpenSpec.ofChange binMapsSpec)) binMapsCard

/-- THE TIED CARD OF 'paravanelaw07.BinTwins'. -/
def binTwinsCard : Claim7 := { stood := { row := binTwinsRow, standIns := [], harness := (true, "47f3dc3b75cd31c8c7ebd04ed5b2fad4af20457780fbc20c30aab17725b24563"), looks := false }, kinds := [], alts := [], laidByText := true, laidKinds := [.data], laidTests := true, laidLooks := .later }
def BinTwinsCardSaid : Prop := Claim7.holds Tryd.pinned (.plain (OpenSpec.ofChange binTwinsSpec)) binTwinsCard

/-- THE TIED CARD OF 'paravanelaw07.BinHits'. -/
def binHitsCard : Claim7 := { stood := { row := binHitsRow, standIns := [], harness := (true, "47f3dc3b75cd31c8c7ebd04ed5b2fad4af20457780fbc20c30aab17725b24563"), looks := false }, kinds := [], alts := [], laidByText := true, laidKinds := [.data], laidTests := true, laidLooks := .later }
def BinHitsCardSaid : Prop := Claim7.holds Tryd.pinned (.plain (OpenSpec.ofChange binHitsSpec)) binHitsCard

/-- THE TIED CARD OF 'paravanelaw07.BinSplits'. -/
def binSplitsCard : Claim7 := { stood := { row := binSplitsRow, standIns := [], harness := (true, "47f3dc3b75cd31c8c7ebd04ed5b2fad4af20457780fbc20c30aab17725b24563"), looks := false }, kinds := [], alts := [], laidByText := true, laidKinds := [.data], laidTests := true, laidLooks := .later }
def BinSplitsCardSaid : Prop := Claim7.holds Tryd.pinned (.plain (OpenSpec.ofChange binSplitsSpec)) binSplitsCard

/-- THE TIED CARD OF 'paravanelaw07.BinCovers'. -/
def binCoversCard : Claim7 := { stood := { row := binCoversRow, standIns := [], harness := (true, "47f3dc3b75cd31c8c7ebd04ed5b2fad4af20457780fbc20c30aab17725b24563"), looks := false }, kinds := [], alts := [], laidByText := true, laidKinds := [.data], laidTests := true, laidLooks := .later }
def BinCoversCardSaid : Prop := Claim7.holds Tryd.pinned (.plain (OpenSpec.ofChange binCoversSpec)) binCoversCard

/-- THE TIED CARD OF 'paravanelaw07.BinLess'. -/
def binLessCard : Claim7 := { stood := { row := binLessRow, standIns := [], harness := (true, "47f3dc3b75cd31c8c7ebd04ed5b2fad4af20457780fbc20c30aab17725b24563"), looks := false }, kinds := [], alts := [], laidByText := true, laidKinds := [.data], laidTests := true, laidLooks := .later }
def BinLessCardSaid : Prop := Claim7.holds Tryd.pinned (.plain (OpenSpec.ofChange binLessSpec)) binLessCard

/-- THE TIED CARD OF 'paravanelaw07.BinBounds'. -/
def binBoundsCard : Claim7 := { stood := { row := binBoundsRow, standIns := [], harness := (true, "47f3dc3b75cd31c8c7ebd04ed5b2fad4af20457780fbc20c30aab17725b24563"), looks := false }, kinds := [], alts := [], laidByText := true, laidKinds := [.data], laidTests := true, laidLooks := .later }
def BinBoundsCardSaid : Prop := Claim7.holds Tryd.pinned (.plain (OpenSpec.ofChange binBoundsSpec)) binBoundsCard

/-- THE TIED CARD OF 'paravanelaw07.BinKnown'. -/
def binKnownCard : Claim7 := { stood := { row := binKnownRow, standIns := [], harness := (true, "47f3dc3b75cd31c8c7ebd04ed5b2fad4af20457780fbc20c30aab17725b24563"), looks := false }, kinds := [], alts := [], laidByText := true, laidKinds := [.data], laidTests := true, laidLooks := .later }
def BinKnownCardSaid : Prop := Claim7.holds Tryd.pinned (.plain (OpenSpec.ofChange binKnownSpec)) binKnownCard

/-- THE TIED CARD OF 'paravanelaw07.BinTrue'. -/
def binTrueCard : Claim7 := { stood := { row := binTrueRow, standIns := [], harness := (true, "47f3dc3b75cd31c8c7ebd04ed5b2fad4af20457780fbc20c30aab17725b24563"), looks := false }, kinds := [], alts := [], laidByText := true, laidKinds := [.data], laidTests := true, laidLooks := .later }
def BinTrueCardSaid : Prop := Claim7.holds Tryd.pinned (.plain (OpenSpec.ofChange binTrueSpec)) binTrueCard

/-- THE SECOND FORM's CARD OF 'paravanelaw07.BinMaps'. -/
def binMapsUptoCard : Claim7 := { stood := { row := binMapsUptoRow, standIns := [], harness := (true, "47f3dc3b75cd31c8c7ebd04ed5b2fad4af20457780fbc20c30aab17725b24563"), looks := false }, kinds := [], alts := [], laidByText := true, laidKinds := [.data], laidTests := true, laidLooks := .later }
def BinMapsUptoCardSaid : Prop := Claim7.holds Tryd.pinned (.plain (OpenSpec.upto binMapsSpec)) binMapsUptoCard

/-- THE SECOND FORM's CARD OF 'paravanelaw07.BinTwins'. -/
def binTwinsUptoCard : Claim7 := { stood := { row := binTwinsUptoRow, standIns := [], harness := (true, "47f3dc3b75cd31c8c7ebd04ed5b2fad4af20457780fbc20c30aab17725b24563"), looks := false }, kinds := [], alts := [], laidByText := true, laidKinds := [.data], laidTests := true, laidLooks := .later }
def BinTwinsUptoCardSaid : Prop := Claim7.holds Tryd.pinned (.plain (OpenSpec.upto binTwinsSpec)) binTwinsUptoCard

/-- THE SECOND FORM's CARD OF 'paravanelaw07.BinHits'. -/
def binHitsUptoCard : Claim7 := { stood := { row := binHitsUptoRow, standIns := [], harness := (true, "47f3dc3b75cd31c8c7ebd04ed5b2fad4af20457780fbc20c30aab17725b24563"), looks := false }, kinds := [], alts := [], laidByText := true, laidKinds := [.data], laidTests := true, laidLooks := .later }
def BinHitsUptoCardSaid : Prop := Claim7.holds Tryd.pinned (.plain (OpenSpec.upto binHitsSpec)) binHitsUptoCard

/-- THE SECOND FORM's CARD OF 'paravanelaw07.BinSplits'. -/
def binSplitsUptoCard : Claim7 := { stood := { row := binSplitsUptoRow, standIns := [], harness := (true, "47f3dc3b75cd31c8c7ebd04ed5b2fad4af20457780fbc20c30aab17725b24563"), looks := false }, kinds := [], alts := [], laidByText := true, laidKinds := [.data], laidTests := true, laidLooks := .later }
def BinSplitsUptoCardSaid : Prop := Claim7.holds Tryd.pinned (.plain (OpenSpec.upto binSplitsSpec)) binSplitsUptoCard

/-- THE SECOND FORM's CARD OF 'paravanelaw07.BinCovers'. -/
def binCoversUptoCard : Claim7 := { stood := { row := binCoversUptoRow, standIns := [], harness := (true, "47f3dc3b75cd31c8c7ebd04ed5b2fad4af20457780fbc20c30aab17725b24563"), looks := false }, kinds := [], alts := [], laidByText := true, laidKinds := [.data], laidTests := true, laidLooks := .later }
def BinCoversUptoCardSaid : Prop := Claim7.holds Tryd.pinned (.plain (OpenSpec.upto binCoversSpec)) binCoversUptoCard

/-- THE SECOND FORM's CARD OF 'paravanelaw07.BinLess'. -/
def binLessUptoCard : Claim7 := { stood := { row := binLessUptoRow, standIns := [], harness := (true, "47f3dc3b75cd31c8c7ebd04ed5b2fad4af20457780fbc20c30aab17725b24563"), looks := false }, kinds := [], alts := [], laidByText := true, laidKinds := [.data], laidTests := true, laidLooks := .later }
def BinLessUptoCardSaid : Prop := Claim7.holds Tryd.pinned (.plain (OpenSpec.upto binLessSpec)) binLessUptoCard

/-- THE SECOND FORM's CARD OF 'paravanelaw07.BinBounds'. -/
def binBoundsUptoCard : Claim7 := { stood := { row := binBoundsUptoRow, standIns := [], harness := (true, "47f3dc3b75cd31c8c7ebd04ed5b2fad4af20457780fbc20c30aab17725b24563"), looks := false }, kinds := [], alts := [], laidByText := true, laidKinds := [.data], laidTests := true, laidLooks := .later }
def BinBoundsUptoCardSaid : Prop := Claim7.holds Tryd.pinned (.plain (OpenSpec.upto binBoundsSpec)) binBoundsUptoCard

/-- THE SECOND FORM's CARD OF 'paravanelaw07.BinKnown'. -/
def binKnownUptoCard : Claim7 := { stood := { row := binKnownUptoRow, standIns := [], harness := (true, "47f3dc3b75cd31c8c7ebd04ed5b2fad4af20457780fbc20c30aab17725b24563"), looks := false }, kinds := [], alts := [], laidByText := true, laidKinds := [.data], laidTests := true, laidLooks := .later }
def BinKnownUptoCardSaid : Prop := Claim7.holds Tryd.pinned (.plain (OpenSpec.upto binKnownSpec)) binKnownUptoCard

/-- THE SECOND FORM's CARD OF 'paravanelaw07.BinTrue'. -/
def binTrueUptoCard : Claim7 := { stood := { row := binTrueUptoRow, standIns := [], harness := (true, "47f3dc3b75cd31c8c7ebd04ed5b2fad4af20457780fbc20c30aab17725b24563"), looks := false }, kinds := [], alts := [], laidByText := true, laidKinds := [.data], laidTests := true, laidLooks := .later }
def BinTrueUptoCardSaid : Prop := Claim7.holds Tryd.pinned (.plain (OpenSpec.upto binTrueSpec)) binTrueUptoCard
end Rows
end Go.Proofs.YtffoiccokigjcaaDoor
