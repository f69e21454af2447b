/-
  NARROWER THAN 'FOR EVERY INPUT', by the rows' own cells (each row's printed sentence says how): BinCells: laid · BinFolds: laid · BinGains: laid · BinProofs: laid · BinBuilds: laid · BinBetter: laid · BinFilled: laid.
  DERIVED. THE GIVEN ROWS OF THIS SEAT. 7 by the template 'for every input the law returns true; each argument reads behind the call as it read before'; 0 by the template 'total and deterministic' (their statements: YtdejdblopmfjfaaGreatDoorTotals.lean).
  GIVEN WITH THE SEED: the statements are not yours to turn. If you find one false, say at which input.
  Laid BY PROGRAM, IN A SANDBOX (cutbox-rows.mjs): the forced cells as the released guide's own fill.sh prints them over the translation c79e3060cca8db39… (all of the seat's roots in one cut). By AI agents, Wed Nov 11 2026. No macro, syntax, notation, axiom, sorry.
-/
import Derived.Test.YtdejdblopmfjfaaGreatDoorChecked
import GoSem.Claim
import GoSem.ClaimJoined
import GoSem.ClaimMapViews
import Derived.JoinedTies
import Derived.KernelRfl
namespace Go.Proofs.YtdejdblopmfjfaaGreatDoor
/- THE CELL 'sum', in the pinned program and in every row, IS THE sha256 OF THE DUMP (.gsa) THAT YtdejdblopmfjfaaGreatDoorProg.lean LOADS. Nothing in Lean hashes anything: it is a label: what it is worth is what the hold of that sum in a sandbox is worth. -/
noncomputable def Tryz.pinned : Pinned := { name := "ytdejdblopmfjfaagreatdoor", sum := "c79e3060cca8db39fbd6f782d57dc185893a0514096401b76dc453592b0c217c", checked := Tryz.checked }
namespace Rows
def none {H : Type} : Left H := { results := [], args := [] }

/- WHAT THE LISTED PACKAGE-LEVEL VARIABLES READ AS WHEN THE CALL BEGINS. Each datum BY PROGRAM (the guide's laid-datum.mjs) off the statement by which the dump's own 'gosem.cut.vars' lays the variable. In a bare row this is a premise. The card (YtdejdblopmfjfaaGreatDoorCards.lean) ties it to the program's text. -/
def laid_paravane_bin_none {H : Type} : DataW H := .agg [.lit (.int .i64 (-1)), .lit (.int .i64 (-1))]

/-- 'paravanelaw07.BinCells': WHATEVER THE INPUT: true; the input reads as it did. -/
def binCellsSpec : ChangeSpec := { name := "binCells", fn := fun _ => fun
  | [d1, d2, d3] => { results := [.lit (.bool true)], args := [d1, d2, d3] }
  | _ => none }
def binCellsRow : OpenClaim := { program := "ytdejdblopmfjfaagreatdoor", sum := "c79e3060cca8db39fbd6f782d57dc185893a0514096401b76dc453592b0c217c", func := "paravane/paravanelaw07.BinCells", spec := "binCells", unfollowed := true, recurses := true, named := ["paravane/bin.none"], plainKeys := false, apart := false, laid := [("paravane/bin.none", laid_paravane_bin_none)] }
def BinCellsSaid : Prop := binCellsRow.holds Tryz.pinned (OpenSpec.ofChange binCellsSpec)

/-- ITS FALSE NEIGHBOUR: 'it returns false'. Refute it at one input. -/
def binCellsWrong : ChangeSpec := { name := "binCells", fn := fun _ => fun
  | [d1, d2, d3] => { results := [.lit (.bool false)], args := [d1, d2, d3] }
  | _ => none }
def BinCellsWrongFalsely : Prop := binCellsRow.holds Tryz.pinned (OpenSpec.ofChange binCellsWrong)

/-- 'paravanelaw07.BinFolds': WHATEVER THE INPUT: true; the input reads as it did. -/
def binFoldsSpec : ChangeSpec := { name := "binFolds", fn := fun _ => fun
  | [d1, d2, d3] => { results := [.lit (.bool true)], args := [d1, d2, d3] }
  | _ => none }
def binFoldsRow : OpenClaim := { program := "ytdejdblopmfjfaagreatdoor", sum := "c79e3060cca8db39fbd6f782d57dc185893a0514096401b76dc453592b0c217c", func := "paravane/paravanelaw07.BinFolds", spec := "binFolds", unfollowed := true, recurses := true, named := ["paravane/bin.none"], plainKeys := false, apart := false, laid := [("paravane/bin.none", laid_paravane_bin_none)] }
def BinFoldsSaid : Prop := binFoldsRow.holds Tryz.pinned (OpenSpec.ofChange binFoldsSpec)

/-- ITS FALSE NEIGHBOUR: 'it returns false'. Refute it at one input. -/
def binFoldsWrong : ChangeSpec := { name := "binFolds", fn := fun _ => fun
  | [d1, d2, d3] => { results := [.lit (.bool false)], args := [d1, d2, d3] }
  | _ => none }
def BinFoldsWrongFalsely : Prop := binFoldsRow.holds Tryz.pinned (OpenSpec.ofChange binFoldsWrong)

/-- 'paravanelaw07.BinGains': WHATEVER THE INPUT: true; the input reads as it did. -/
def binGainsSpec : ChangeSpec := { name := "binGains", fn := fun _ => fun
  | [d1, d2, d3] => { results := [.lit (.bool true)], args := [d1, d2, d3] }
  | _ => none }
def binGainsRow : OpenClaim := { program := "ytdejdblopmfjfaagreatdoor", sum := "c79e3060cca8db39fbd6f782d57dc185893a0514096401b76dc453592b0c217c", func := "paravane/paravanelaw07.BinGains", spec := "binGains", unfollowed := true, recurses := true, named := ["paravane/bin.none"], plainKeys := false, apart := false, laid := [("paravane/bin.none", laid_paravane_bin_none)] }
def BinGainsSaid : Prop := binGainsRow.holds Tryz.pinned (OpenSpec.ofChange binGainsSpec)

/-- ITS FALSE NEIGHBOUR: 'it returns false'. Refute it at one input. -/
def binGainsWrong : ChangeSpec := { name := "binGains", fn := fun _ => fun
  | [d1, d2, d3] => { results := [.lit (.bool false)], args := [d1, d2, d3] }
  | _ => none }
def BinGainsWrongFalsely : Prop := binGainsRow.holds Tryz.pinned (OpenSpec.ofChange binGainsWrong)

/-- 'paravanelaw07.BinProofs': WHATEVER THE INPUT: true; the input reads as it did. -/
def binProofsSpec : ChangeSpec := { name := "binProofs", fn := fun _ => fun
  | [d1, d2] => { results := [.lit (.bool true)], args := [d1, d2] }
  | _ => none }
def binProofsRow : OpenClaim := { program := "ytdejdblopmfjfaagreatdoor", sum := "c79e3060cca8db39fbd6f782d57dc185893a0514096401b76dc453592b0c217c", func := "paravane/paravanelaw07.BinProofs", spec := "binProofs", unfollowed := true, recurses := true, named := ["paravane/bin.none"], plainKeys := false, apart := false, laid := [("paravane/bin.none", laid_paravane_bin_none)] }
def BinProofsSaid : Prop := binProofsRow.holds Tryz.pinned (OpenSpec.ofChange binProofsSpec)

/-- ITS FALSE NEIGHBOUR: 'it returns false'. Refute it at one input. -/
def binProofsWrong : ChangeSpec := { name := "binProofs", fn := fun _ => fun
  | [d1, d2] => { results := [.lit (.bool false)], args := [d1, d2] }
  | _ => none }
def BinProofsWrongFalsely : Prop := binProofsRow.holds Tryz.pinned (OpenSpec.ofChange binProofsWrong)

/-- 'paravanelaw07.BinBuilds': WHATEVER THE INPUT: true; the input reads as it did. -/
def binBuildsSpec : ChangeSpec := { name := "binBuilds", fn := fun _ => fun
  | [d1, d2, d3] => { results := [.lit (.bool true)], args := [d1, d2, d3] }
  | _ => none }
def binBuildsRow : OpenClaim := { program := "ytdejdblopmfjfaagreatdoor", sum := "c79e3060cca8db39fbd6f782d57dc185893a0514096401b76dc453592b0c217c", func := "paravane/paravanelaw07.BinBuilds", spec := "binBuilds", unfollowed := true, recurses := true, named := ["paravane/bin.none"], plainKeys := false, apart := false, laid := [("paravane/bin.none", laid_paravane_bin_none)] }
def BinBuildsSaid : Prop := binBuildsRow.holds Tryz.pinned (OpenSpec.ofChange binBuildsSpec)

/-- ITS FALSE NEIGHBOUR: 'it returns false'. Refute it at one input. -/
def binBuildsWrong : ChangeSpec := { name := "binBuilds", fn := fun _ => fun
  | [d1, d2, d3] => { results := [.lit (.bool false)], args := [d1, d2, d3] }
  | _ => none }
def BinBuildsWrongFalsely : Prop := binBuildsRow.holds Tryz.pinned (OpenSpec.ofChange binBuildsWrong)

/-- 'paravanelaw07.BinBetter': WHATEVER THE INPUT: true; the input reads as it did. -/
def binBetterSpec : ChangeSpec := { name := "binBetter", fn := fun _ => fun
  | [d1, d2, d3] => { results := [.lit (.bool true)], args := [d1, d2, d3] }
  | _ => none }
def binBetterRow : OpenClaim := { program := "ytdejdblopmfjfaagreatdoor", sum := "c79e3060cca8db39fbd6f782d57dc185893a0514096401b76dc453592b0c217c", func := "paravane/paravanelaw07.BinBetter", spec := "binBetter", unfollowed := true, recurses := true, named := ["paravane/bin.none"], plainKeys := false, apart := false, laid := [("paravane/bin.none", laid_paravane_bin_none)] }
def BinBetterSaid : Prop := binBetterRow.holds Tryz.pinned (OpenSpec.ofChange binBetterSpec)

/-- ITS FALSE NEIGHBOUR: 'it returns false'. Refute it at one input. -/
def binBetterWrong : ChangeSpec := { name := "binBetter", fn := fun _ => fun
  | [d1, d2, d3] => { results := [.lit (.bool false)], args := [d1, d2, d3] }
  | _ => none }
def BinBetterWrongFalsely : Prop := binBetterRow.holds Tryz.pinned (OpenSpec.ofChange binBetterWrong)

/-- 'paravanelaw07.BinFilled': WHATEVER THE INPUT: true; the input reads as it did. -/
def binFilledSpec : ChangeSpec := { name := "binFilled", fn := fun _ => fun
  | [d1, d2, d3, d4] => { results := [.lit (.bool true)], args := [d1, d2, d3, d4] }
  | _ => none }
def binFilledRow : OpenClaim := { program := "ytdejdblopmfjfaagreatdoor", sum := "c79e3060cca8db39fbd6f782d57dc185893a0514096401b76dc453592b0c217c", func := "paravane/paravanelaw07.BinFilled", spec := "binFilled", unfollowed := true, recurses := true, named := ["paravane/bin.none"], plainKeys := false, apart := false, laid := [("paravane/bin.none", laid_paravane_bin_none)] }
def BinFilledSaid : Prop := binFilledRow.holds Tryz.pinned (OpenSpec.ofChange binFilledSpec)

/-- ITS FALSE NEIGHBOUR: 'it returns false'. Refute it at one input. -/
def binFilledWrong : ChangeSpec := { name := "binFilled", fn := fun _ => fun
  | [d1, d2, d3, d4] => { results := [.lit (.bool false)], args := [d1, d2, d3, d4] }
  | _ => none }
def BinFilledWrongFalsely : Prop := binFilledRow.holds Tryz.pinned (OpenSpec.ofChange binFilledWrong)

/- THE SECOND FORM. 'bulk': how many values and letters a reading holds, each counted each time it is reached (what is shared counts as often as it is met; a slice's spare places count too). A statement '..UptoSaid' is the law's where the arguments, and the package variables that the reading takes, are together of bulk at most 1048576: NARROWER than '..Said'. Prove '..Said' where nothing that the law and all that it calls make is longer than what came in: it says more and counts as full. Else prove '..UptoSaid'. A law counts once. -/
mutual
def uptoBulk {H : Type} : DataW H → Nat
  | .lit (.string bytes) => bytes.length + 1
  | .lit _ => 1
  | .nil => 1
  | .ptr d => uptoBulk d + 1
  | .slice elems spare => uptoBulkAll elems + uptoBulkAll spare + 1
  | .agg parts => uptoBulkAll parts + 1
  | .iface _ d => uptoBulk d + 1
  | .map entries => uptoBulkEntries entries + 1
  | .held _ => 1
def uptoBulkAll {H : Type} : List (DataW H) → Nat
  | [] => 0
  | d :: r => uptoBulk d + uptoBulkAll r
def uptoBulkEntries {H : Type} : List (Lit × DataW H) → Nat
  | [] => 0
  | x :: r => uptoBulkEntry x + uptoBulkEntries r
def uptoBulkEntry {H : Type} : Lit × DataW H → Nat
  | (.string bytes, d) => bytes.length + uptoBulk d + 1
  | (_, d) => uptoBulk d + 1
 end
def uptoSmall : (H : Type) → List (DataW H) → Bool := fun _ ds => decide (uptoBulkAll ds ≤ 1048576)
def OpenSpec.upto (s : _root_.Go.ChangeSpec) : _root_.Go.OpenSpec := { _root_.Go.OpenSpec.ofChange s with cond := some uptoSmall }

/-- 'paravanelaw07.BinCells', WHERE WHAT IT READS IS OF BULK AT MOST 1048576: true; the input reads as it did. -/
def binCellsUptoRow : OpenClaim := { program := "ytdejdblopmfjfaagreatdoor", sum := "c79e3060cca8db39fbd6f782d57dc185893a0514096401b76dc453592b0c217c", func := "paravane/paravanelaw07.BinCells", spec := "binCells", unfollowed := true, recurses := true, named := ["paravane/bin.none"], plainKeys := false, apart := false, laid := [("paravane/bin.none", laid_paravane_bin_none)], narrowed := true }
def BinCellsUptoSaid : Prop := binCellsUptoRow.holds Tryz.pinned (OpenSpec.upto binCellsSpec)

/-- 'paravanelaw07.BinFolds', WHERE WHAT IT READS IS OF BULK AT MOST 1048576: true; the input reads as it did. -/
def binFoldsUptoRow : OpenClaim := { program := "ytdejdblopmfjfaagreatdoor", sum := "c79e3060cca8db39fbd6f782d57dc185893a0514096401b76dc453592b0c217c", func := "paravane/paravanelaw07.BinFolds", spec := "binFolds", unfollowed := true, recurses := true, named := ["paravane/bin.none"], plainKeys := false, apart := false, laid := [("paravane/bin.none", laid_paravane_bin_none)], narrowed := true }
def BinFoldsUptoSaid : Prop := binFoldsUptoRow.holds Tryz.pinned (OpenSpec.upto binFoldsSpec)

/-- 'paravanelaw07.BinGains', WHERE WHAT IT READS IS OF BULK AT MOST 1048576: true; the input reads as it did. -/
def binGainsUptoRow : OpenClaim := { program := "ytdejdblopmfjfaagreatdoor", sum := "c79e3060cca8db39fbd6f782d57dc185893a0514096401b76dc453592b0c217c", func := "paravane/paravanelaw07.BinGains", spec := "binGains", unfollowed := true, recurses := true, named := ["paravane/bin.none"], plainKeys := false, apart := false, laid := [("paravane/bin.none", laid_paravane_bin_none)], narrowed := true }
def BinGainsUptoSaid : Prop := binGainsUptoRow.holds Tryz.pinned (OpenSpec.upto binGainsSpec)

/-- 'paravanelaw07.BinProofs', WHERE WHAT IT READS IS OF BULK AT MOST 1048576: true; the input reads as it did. -/
def binProofsUptoRow : OpenClaim := { program := "ytdejdblopmfjfaagreatdoor", sum := "c79e3060cca8db39fbd6f782d57dc185893a0514096401b76dc453592b0c217c", func := "paravane/paravanelaw07.BinProofs", spec := "binProofs", unfollowed := true, recurses := true, named := ["paravane/bin.none"], plainKeys := false, apart := false, laid := [("paravane/bin.none", laid_paravane_bin_none)], narrowed := true }
def BinProofsUptoSaid : Prop := binProofsUptoRow.holds Tryz.pinned (OpenSpec.upto binProofsSpec)

/-- 'paravanelaw07.BinBuilds', WHERE WHAT IT READS IS OF BULK AT MOST 1048576: true; the input reads as it did. -/
def binBuildsUptoRow : OpenClaim := { program := "ytdejdblopmfjfaagreatdoor", sum := "c79e3060cca8db39fbd6f782d57dc185893a0514096401b76dc453592b0c217c", func := "paravane/paravanelaw07.BinBuilds", spec := "binBuilds", unfollowed := true, recurses := true, named := ["paravane/bin.none"], plainKeys := false, apart := false, laid := [("paravane/bin.none", laid_paravane_bin_none)], narrowed := true }
def BinBuildsUptoSaid : Prop := binBuildsUptoRow.holds Tryz.pinned (OpenSpec.upto binBuildsSpec)

/-- 'paravanelaw07.BinBetter', WHERE WHAT IT READS IS OF BULK AT MOST 1048576: true; the input reads as it did. -/
def binBetterUptoRow : OpenClaim := { program := "ytdejdblopmfjfaagreatdoor", sum := "c79e3060cca8db39fbd6f782d57dc185893a0514096401b76dc453592b0c217c", func := "paravane/paravanelaw07.BinBetter", spec := "binBetter", unfollowed := true, recurses := true, named := ["paravane/bin.none"], plainKeys := false, apart := false, laid := [("paravane/bin.none", laid_paravane_bin_none)], narrowed := true }
def BinBetterUptoSaid : Prop := binBetterUptoRow.holds Tryz.pinned (OpenSpec.upto binBetterSpec)

/-- 'paravanelaw07.BinFilled', WHERE WHAT IT READS IS OF BULK AT MOST 1048576: true; the input reads as it did. -/
def binFilledUptoRow : OpenClaim := { program := "ytdejdblopmfjfaagreatdoor", sum := "c79e3060cca8db39fbd6f782d57dc185893a0514096401b76dc453592b0c217c", func := "paravane/paravanelaw07.BinFilled", spec := "binFilled", unfollowed := true, recurses := true, named := ["paravane/bin.none"], plainKeys := false, apart := false, laid := [("paravane/bin.none", laid_paravane_bin_none)], narrowed := true }
def BinFilledUptoSaid : Prop := binFilledUptoRow.holds Tryz.pinned (OpenSpec.upto binFilledSpec)

end Rows
end Go.Proofs.YtdejdblopmfjfaaGreatDoor
