/-
  NARROWER THAN 'FOR EVERY INPUT', by the rows' own cells (each row's printed sentence says how): BinMaps: laid · BinTwins: laid · BinHits: laid · BinSplits: laid · BinCovers: laid · BinLess: laid · BinBounds: laid · BinKnown: laid · BinTrue: laid.
  DERIVED. THE GIVEN ROWS OF THIS SEAT. 9 by the template 'for every input the law returns true; each argument reads behind the call as it read before'; 0 by the template 'total and deterministic' (their statements: YtffoiccokigjcaaDoorTotals.lean).
  GIVEN WITH THE SEED: the statements are not yours to turn. If you find one false, say at which input.
  Laid BY PROGRAM, IN A SANDBOX (cutbox-rows.mjs): the forced cells as the released guide's own fill.sh prints them over the translation ff401f5ec553a3fb… (all of the seat's roots in one cut). By AI agents, Wed Nov 11 2026. No macro, syntax, notation, axiom, sorry.
-/
import Derived.Test.YtffoiccokigjcaaDoorChecked
import GoSem.Claim
import GoSem.ClaimJoined
import GoSem.ClaimMapViews
import Derived.JoinedTies
import Derived.KernelRfl
namespace Go.Proofs.YtffoiccokigjcaaDoor
/- THE CELL 'sum', in the pinned program and in every row, IS THE sha256 OF THE DUMP (.gsa) THAT YtffoiccokigjcaaDoorProg.lean LOADS. Nothing in Lean hashes anything: it is a label: what it is worth is what the hold of that sum in a sandbox is worth. -/
noncomputable def Tryd.pinned : Pinned := { name := "ytffoiccokigjcaadoor", sum := "ff401f5ec553a3fb4f9b5f8c09128fdec43dca2fd617d1cc15baaea81507e89e", checked := Tryd.checked }
namespace Rows
def none {H : Type} : Left H := { results := [], args := [] }

/- WHAT THE LISTED PACKAGE-LEVEL VARIABLES READ AS WHEN THE CALL BEGINS. Each datum BY PROGRAM (the guide's laid-datum.mjs) off the statement by which the dump's own 'gosem.cut.vars' lays the variable. In a bare row this is a premise. The card (YtffoiccokigjcaaDoorCards.lean) ties it to the program's text. -/
def laid_paravane_bin_none {H : Type} : DataW H := .agg [.lit (.int .i64 (-1)), .lit (.int .i64 (-1))]

/-- 'paravanelaw07.BinMaps': WHATEVER THE INPUT: true; the input reads as it did. -/
def binMapsSpec : ChangeSpec := { name := "binMaps", fn := fun _ => fun
  | [d1, d2, d3] => { results := [.lit (.bool true)], args := [d1, d2, d3] }
  | _ => none }
def binMapsRow : OpenClaim := { program := "ytffoiccokigjcaadoor", sum := "ff401f5ec553a3fb4f9b5f8c09128fdec43dca2fd617d1cc15baaea81507e89e", func := "paravane/paravanelaw07.BinMaps", spec := "binMaps", unfollowed := true, recurses := true, named := ["paravane/bin.none"], plainKeys := false, apart := false, laid := [("paravane/bin.none", laid_paravane_bin_none)] }
def BinMapsSaid : Prop := binMapsRow.holds Tryd.pinned (OpenSpec.ofChange binMapsSpec)

/-- ITS FALSE NEIGHBOUR: 'it returns false'. Refute it at one input. -/
def binMapsWrong : ChangeSpec := { name := "binMaps", fn := fun _ => fun
  | [d1, d2, d3] => { results := [.lit (.bool false)], args := [d1, d2, d3] }
  | _ => none }
def BinMapsWrongFalsely : Prop := binMapsRow.holds Tryd.pinned (OpenSpec.ofChange binMapsWrong)

/-- 'paravanelaw07.BinTwins': WHATEVER THE INPUT: true; the input reads as it did. -/
def binTwinsSpec : ChangeSpec := { name := "binTwins", fn := fun _ => fun
  | [d1, d2, d3] => { results := [.lit (.bool true)], args := [d1, d2, d3] }
  | _ => none }
def binTwinsRow : OpenClaim := { program := "ytffoiccokigjcaadoor", sum := "ff401f5ec553a3fb4f9b5f8c09128fdec43dca2fd617d1cc15baaea81507e89e", func := "paravane/paravanelaw07.BinTwins", spec := "binTwins", unfollowed := true, recurses := true, named := ["paravane/bin.none"], plainKeys := false, apart := false, laid := [("paravane/bin.none", laid_paravane_bin_none)] }
def BinTwinsSaid : Prop := binTwinsRow.holds Tryd.pinned (OpenSpec.ofChange binTwinsSpec)

/-- ITS FALSE NEIGHBOUR: 'it returns false'. Refute it at one input. -/
def binTwinsWrong : ChangeSpec := { name := "binTwins", fn := fun _ => fun
  | [d1, d2, d3] => { results := [.lit (.bool false)], args := [d1, d2, d3] }
  | _ => none }
def BinTwinsWrongFalsely : Prop := binTwinsRow.holds Tryd.pinned (OpenSpec.ofChange binTwinsWrong)

/-- 'paravanelaw07.BinHits': WHATEVER THE INPUT: true; the input reads as it did. -/
def binHitsSpec : ChangeSpec := { name := "binHits", fn := fun _ => fun
  | [d1, d2] => { results := [.lit (.bool true)], args := [d1, d2] }
  | _ => none }
def binHitsRow : OpenClaim := { program := "ytffoiccokigjcaadoor", sum := "ff401f5ec553a3fb4f9b5f8c09128fdec43dca2fd617d1cc15baaea81507e89e", func := "paravane/paravanelaw07.BinHits", spec := "binHits", unfollowed := true, recurses := true, named := ["paravane/bin.none"], plainKeys := false, apart := false, laid := [("paravane/bin.none", laid_paravane_bin_none)] }
def BinHitsSaid : Prop := binHitsRow.holds Tryd.pinned (OpenSpec.ofChange binHitsSpec)

/-- ITS FALSE NEIGHBOUR: 'it returns false'. Refute it at one input. -/
def binHitsWrong : ChangeSpec := { name := "binHits", fn := fun _ => fun
  | [d1, d2] => { results := [.lit (.bool false)], args := [d1, d2] }
  | _ => none }
def BinHitsWrongFalsely : Prop := binHitsRow.holds Tryd.pinned (OpenSpec.ofChange binHitsWrong)

/-- 'paravanelaw07.BinSplits': WHATEVER THE INPUT: true; the input reads as it did. -/
def binSplitsSpec : ChangeSpec := { name := "binSplits", fn := fun _ => fun
  | [d1, d2, d3] => { results := [.lit (.bool true)], args := [d1, d2, d3] }
  | _ => none }
def binSplitsRow : OpenClaim := { program := "ytffoiccokigjcaadoor", sum := "ff401f5ec553a3fb4f9b5f8c09128fdec43dca2fd617d1cc15baaea81507e89e", func := "paravane/paravanelaw07.BinSplits", spec := "binSplits", unfollowed := true, recurses := true, named := ["paravane/bin.none"], plainKeys := false, apart := false, laid := [("paravane/bin.none", laid_paravane_bin_none)] }
def BinSplitsSaid : Prop := binSplitsRow.holds Tryd.pinned (OpenSpec.ofChange binSplitsSpec)

/-- ITS FALSE NEIGHBOUR: 'it returns false'. Refute it at one input. -/
def binSplitsWrong : ChangeSpec := { name := "binSplits", fn := fun _ => fun
  | [d1, d2, d3] => { results := [.lit (.bool false)], args := [d1, d2, d3] }
  | _ => none }
def BinSplitsWrongFalsely : Prop := binSplitsRow.holds Tryd.pinned (OpenSpec.ofChange binSplitsWrong)

/-- 'paravanelaw07.BinCovers': WHATEVER THE INPUT: true; the input reads as it did. -/
def binCoversSpec : ChangeSpec := { name := "binCovers", fn := fun _ => fun
  | [d1, d2, d3] => { results := [.lit (.bool true)], args := [d1, d2, d3] }
  | _ => none }
def binCoversRow : OpenClaim := { program := "ytffoiccokigjcaadoor", sum := "ff401f5ec553a3fb4f9b5f8c09128fdec43dca2fd617d1cc15baaea81507e89e", func := "paravane/paravanelaw07.BinCovers", spec := "binCovers", unfollowed := true, recurses := true, named := ["paravane/bin.none"], plainKeys := false, apart := false, laid := [("paravane/bin.none", laid_paravane_bin_none)] }
def BinCoversSaid : Prop := binCoversRow.holds Tryd.pinned (OpenSpec.ofChange binCoversSpec)

/-- ITS FALSE NEIGHBOUR: 'it returns false'. Refute it at one input. -/
def binCoversWrong : ChangeSpec := { name := "binCovers", fn := fun _ => fun
  | [d1, d2, d3] => { results := [.lit (.bool false)], args := [d1, d2, d3] }
  | _ => none }
def BinCoversWrongFalsely : Prop := binCoversRow.holds Tryd.pinned (OpenSpec.ofChange binCoversWrong)

/-- 'paravanelaw07.BinLess': WHATEVER THE INPUT: true; the input reads as it did. -/
def binLessSpec : ChangeSpec := { name := "binLess", fn := fun _ => fun
  | [d1, d2, d3] => { results := [.lit (.bool true)], args := [d1, d2, d3] }
  | _ => none }
def binLessRow : OpenClaim := { program := "ytffoiccokigjcaadoor", sum := "ff401f5ec553a3fb4f9b5f8c09128fdec43dca2fd617d1cc15baaea81507e89e", func := "paravane/paravanelaw07.BinLess", spec := "binLess", unfollowed := true, recurses := true, named := ["paravane/bin.none"], plainKeys := false, apart := false, laid := [("paravane/bin.none", laid_paravane_bin_none)] }
def BinLessSaid : Prop := binLessRow.holds Tryd.pinned (OpenSpec.ofChange binLessSpec)

/-- ITS FALSE NEIGHBOUR: 'it returns false'. Refute it at one input. -/
def binLessWrong : ChangeSpec := { name := "binLess", fn := fun _ => fun
  | [d1, d2, d3] => { results := [.lit (.bool false)], args := [d1, d2, d3] }
  | _ => none }
def BinLessWrongFalsely : Prop := binLessRow.holds Tryd.pinned (OpenSpec.ofChange binLessWrong)

/-- 'paravanelaw07.BinBounds': WHATEVER THE INPUT: true; the input reads as it did. -/
def binBoundsSpec : ChangeSpec := { name := "binBounds", fn := fun _ => fun
  | [d1, d2, d3] => { results := [.lit (.bool true)], args := [d1, d2, d3] }
  | _ => none }
def binBoundsRow : OpenClaim := { program := "ytffoiccokigjcaadoor", sum := "ff401f5ec553a3fb4f9b5f8c09128fdec43dca2fd617d1cc15baaea81507e89e", func := "paravane/paravanelaw07.BinBounds", spec := "binBounds", unfollowed := true, recurses := true, named := ["paravane/bin.none"], plainKeys := false, apart := false, laid := [("paravane/bin.none", laid_paravane_bin_none)] }
def BinBoundsSaid : Prop := binBoundsRow.holds Tryd.pinned (OpenSpec.ofChange binBoundsSpec)

/-- ITS FALSE NEIGHBOUR: 'it returns false'. Refute it at one input. -/
def binBoundsWrong : ChangeSpec := { name := "binBounds", fn := fun _ => fun
  | [d1, d2, d3] => { results := [.lit (.bool false)], args := [d1, d2, d3] }
  | _ => none }
def BinBoundsWrongFalsely : Prop := binBoundsRow.holds Tryd.pinned (OpenSpec.ofChange binBoundsWrong)

/-- 'paravanelaw07.BinKnown': WHATEVER THE INPUT: true; the input reads as it did. -/
def binKnownSpec : ChangeSpec := { name := "binKnown", fn := fun _ => fun
  | [] => { results := [.lit (.bool true)], args := [] }
  | _ => none }
def binKnownRow : OpenClaim := { program := "ytffoiccokigjcaadoor", sum := "ff401f5ec553a3fb4f9b5f8c09128fdec43dca2fd617d1cc15baaea81507e89e", func := "paravane/paravanelaw07.BinKnown", spec := "binKnown", unfollowed := true, recurses := true, named := ["paravane/bin.none"], plainKeys := false, apart := false, laid := [("paravane/bin.none", laid_paravane_bin_none)] }
def BinKnownSaid : Prop := binKnownRow.holds Tryd.pinned (OpenSpec.ofChange binKnownSpec)

/-- ITS FALSE NEIGHBOUR: 'it returns false'. Refute it at one input. -/
def binKnownWrong : ChangeSpec := { name := "binKnown", fn := fun _ => fun
  | [] => { results := [.lit (.bool false)], args := [] }
  | _ => none }
def BinKnownWrongFalsely : Prop := binKnownRow.holds Tryd.pinned (OpenSpec.ofChange binKnownWrong)

/-- 'paravanelaw07.BinTrue': WHATEVER THE INPUT: true; the input reads as it did. -/
def binTrueSpec : ChangeSpec := { name := "binTrue", fn := fun _ => fun
  | [d1, d2, d3] => { results := [.lit (.bool true)], args := [d1, d2, d3] }
  | _ => none }
def binTrueRow : OpenClaim := { program := "ytffoiccokigjcaadoor", sum := "ff401f5ec553a3fb4f9b5f8c09128fdec43dca2fd617d1cc15baaea81507e89e", func := "paravane/paravanelaw07.BinTrue", spec := "binTrue", unfollowed := true, recurses := true, named := ["paravane/bin.none"], plainKeys := false, apart := false, laid := [("paravane/bin.none", laid_paravane_bin_none)] }
def BinTrueSaid : Prop := binTrueRow.holds Tryd.pinned (OpenSpec.ofChange binTrueSpec)

/-- ITS FALSE NEIGHBOUR: 'it returns false'. Refute it at one input. -/
def binTrueWrong : ChangeSpec := { name := "binTrue", fn := fun _ => fun
  | [d1, d2, d3] => { results := [.lit (.bool false)], args := [d1, d2, d3] }
  | _ => none }
def BinTrueWrongFalsely : Prop := binTrueRow.holds Tryd.pinned (OpenSpec.ofChange binTrueWrong)

/- THE SECOND FORM. 'bulk': how many values and letters a reading holds, each counted each time it is reached (what is shared counts as often as it is met; a slice's spare places count too). A statement '..UptoSaid' is the law's where the arguments, and the package variables that the reading takes, are together of bulk at most 1048576: NARROWER than '..Said'. Prove '..Said' where nothing that the law and all that it calls make is longer than what came in: it says more and counts as full. Else prove '..UptoSaid'. A law counts once. -/
mutual
def uptoBulk {H : Type} : DataW H → Nat
  | .lit (.string bytes) => bytes.length + 1
  | .lit _ => 1
  | .nil => 1
  | .ptr d => uptoBulk d + 1
  | .slice elems spare => uptoBulkAll elems + uptoBulkAll spare + 1
  | .agg parts => uptoBulkAll parts + 1
  | .iface _ d => uptoBulk d + 1
  | .map entries => uptoBulkEntries entries + 1
  | .held _ => 1
def uptoBulkAll {H : Type} : List (DataW H) → Nat
  | [] => 0
  | d :: r => uptoBulk d + uptoBulkAll r
def uptoBulkEntries {H : Type} : List (Lit × DataW H) → Nat
  | [] => 0
  | x :: r => uptoBulkEntry x + uptoBulkEntries r
def uptoBulkEntry {H : Type} : Lit × DataW H → Nat
  | (.string bytes, d) => bytes.length + uptoBulk d + 1
  | (_, d) => uptoBulk d + 1
 end
def uptoSmall : (H : Type) → List (DataW H) → Bool := fun _ ds => decide (uptoBulkAll ds ≤ 1048576)
def OpenSpec.upto (s : _root_.Go.ChangeSpec) : _root_.Go.OpenSpec := { _root_.Go.OpenSpec.ofChange s with cond := some uptoSmall }

/-- 'paravanelaw07.BinMaps', WHERE WHAT IT READS IS OF BULK AT MOST 1048576: true; the input reads as it did. -/
def binMapsUptoRow : OpenClaim := { program := "ytffoiccokigjcaadoor", sum := "ff401f5ec553a3fb4f9b5f8c09128fdec43dca2fd617d1cc15baaea81507e89e", func := "paravane/paravanelaw07.BinMaps", spec := "binMaps", unfollowed := true, recurses := true, named := ["paravane/bin.none"], plainKeys := false, apart := false, laid := [("paravane/bin.none", laid_paravane_bin_none)], narrowed := true }
def BinMapsUptoSaid : Prop := binMapsUptoRow.holds Tryd.pinned (OpenSpec.upto binMapsSpec)

/-- 'paravanelaw07.BinTwins', WHERE WHAT IT READS IS OF BULK AT MOST 1048576: true; the input reads as it did. -/
def binTwinsUptoRow : OpenClaim := { program := "ytffoiccokigjcaadoor", sum := "ff401f5ec553a3fb4f9b5f8c09128fdec43dca2fd617d1cc15baaea81507e89e", func := "paravane/paravanelaw07.BinTwins", spec := "binTwins", unfollowed := true, recurses := true, named := ["paravane/bin.none"], plainKeys := false, apart := false, laid := [("paravane/bin.none", laid_paravane_bin_none)], narrowed := true }
def BinTwinsUptoSaid : Prop := binTwinsUptoRow.holds Tryd.pinned (OpenSpec.upto binTwinsSpec)

/-- 'paravanelaw07.BinHits', WHERE WHAT IT READS IS OF BULK AT MOST 1048576: true; the input reads as it did. -/
def binHitsUptoRow : OpenClaim := { program := "ytffoiccokigjcaadoor", sum := "ff401f5ec553a3fb4f9b5f8c09128fdec43dca2fd617d1cc15baaea81507e89e", func := "paravane/paravanelaw07.BinHits", spec := "binHits", unfollowed := true, recurses := true, named := ["paravane/bin.none"], plainKeys := false, apart := false, laid := [("paravane/bin.none", laid_paravane_bin_none)], narrowed := true }
def BinHitsUptoSaid : Prop := binHitsUptoRow.holds Tryd.pinned (OpenSpec.upto binHitsSpec)

/-- 'paravanelaw07.BinSplits', WHERE WHAT IT READS IS OF BULK AT MOST 1048576: true; the input reads as it did. -/
def binSplitsUptoRow : OpenClaim := { program := "ytffoiccokigjcaadoor", sum := "ff401f5ec553a3fb4f9b5f8c09128fdec43dca2fd617d1cc15baaea81507e89e", func := "paravane/paravanelaw07.BinSplits", spec := "binSplits", unfollowed := true, recurses := true, named := ["paravane/bin.none"], plainKeys := false, apart := false, laid := [("paravane/bin.none", laid_paravane_bin_none)], narrowed := true }
def BinSplitsUptoSaid : Prop := binSplitsUptoRow.holds Tryd.pinned (OpenSpec.upto binSplitsSpec)

/-- 'paravanelaw07.BinCovers', WHERE WHAT IT READS IS OF BULK AT MOST 1048576: true; the input reads as it did. -/
def binCoversUptoRow : OpenClaim := { program := "ytffoiccokigjcaadoor", sum := "ff401f5ec553a3fb4f9b5f8c09128fdec43dca2fd617d1cc15baaea81507e89e", func := "paravane/paravanelaw07.BinCovers", spec := "binCovers", unfollowed := true, recurses := true, named := ["paravane/bin.none"], plainKeys := false, apart := false, laid := [("paravane/bin.none", laid_paravane_bin_none)], narrowed := true }
def BinCoversUptoSaid : Prop := binCoversUptoRow.holds Tryd.pinned (OpenSpec.upto binCoversSpec)

/-- 'paravanelaw07.BinLess', WHERE WHAT IT READS IS OF BULK AT MOST 1048576: true; the input reads as it did. -/
def binLessUptoRow : OpenClaim := { program := "ytffoiccokigjcaadoor", sum := "ff401f5ec553a3fb4f9b5f8c09128fdec43dca2fd617d1cc15baaea81507e89e", func := "paravane/paravanelaw07.BinLess", spec := "binLess", unfollowed := true, recurses := true, named := ["paravane/bin.none"], plainKeys := false, apart := false, laid := [("paravane/bin.none", laid_paravane_bin_none)], narrowed := true }
def BinLessUptoSaid : Prop := binLessUptoRow.holds Tryd.pinned (OpenSpec.upto binLessSpec)

/-- 'paravanelaw07.BinBounds', WHERE WHAT IT READS IS OF BULK AT MOST 1048576: true; the input reads as it did. -/
def binBoundsUptoRow : OpenClaim := { program := "ytffoiccokigjcaadoor", sum := "ff401f5ec553a3fb4f9b5f8c09128fdec43dca2fd617d1cc15baaea81507e89e", func := "paravane/paravanelaw07.BinBounds", spec := "binBounds", unfollowed := true, recurses := true, named := ["paravane/bin.none"], plainKeys := false, apart := false, laid := [("paravane/bin.none", laid_paravane_bin_none)], narrowed := true }
def BinBoundsUptoSaid : Prop := binBoundsUptoRow.holds Tryd.pinned (OpenSpec.upto binBoundsSpec)

/-- 'paravanelaw07.BinKnown', WHERE WHAT IT READS IS OF BULK AT MOST 1048576: true; the input reads as it did. -/
def binKnownUptoRow : OpenClaim := { program := "ytffoiccokigjcaadoor", sum := "ff401f5ec553a3fb4f9b5f8c09128fdec43dca2fd617d1cc15baaea81507e89e", func := "paravane/paravanelaw07.BinKnown", spec := "binKnown", unfollowed := true, recurses := true, named := ["paravane/bin.none"], plainKeys := false, apart := false, laid := [("paravane/bin.none", laid_paravane_bin_none)], narrowed := true }
def BinKnownUptoSaid : Prop := binKnownUptoRow.holds Tryd.pinned (OpenSpec.upto binKnownSpec)

/-- 'paravanelaw07.BinTrue', WHERE WHAT IT READS IS OF BULK AT MOST 1048576: true; the input reads as it did. -/
def binTrueUptoRow : OpenClaim := { program := "ytffoiccokigjcaadoor", sum := "ff401f5ec553a3fb4f9b5f8c09128fdec43dca2fd617d1cc15baaea81507e89e", func := "paravane/paravanelaw07.BinTrue", spec := "binTrue", unfollowed := true, recurses := true, named := ["paravane/bin.none"], plainKeys := false, apart := false, laid := [("paravane/bin.none", laid_paravane_bin_none)], narrowed := true }
def BinTrueUptoSaid : Prop := binTrueUptoRow.holds Tryd.pinned (OpenSpec.upto binTrueSpec)

end Rows
end Go.Proofs.YtffoiccokigjcaaDoor
