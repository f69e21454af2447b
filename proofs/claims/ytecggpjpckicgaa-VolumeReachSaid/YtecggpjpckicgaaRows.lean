/-
  No cell of these rows narrows 'for every input' (looked for: loops, veiled, ifaces, maps, wideKeys, modest, calm, conditions, laid).
  DERIVED. THE GIVEN ROWS OF THIS SEAT. 6 by the template 'for every input the law returns true; each argument reads behind the call as it read before'; 0 by the template 'total and deterministic' (their statements: YtecggpjpckicgaaTotals.lean).
  GIVEN WITH THE SEED: the statements are not yours to turn. If you find one false, say at which input.
  Laid BY PROGRAM, IN A SANDBOX (cutbox-rows.mjs): the forced cells as the released guide's own fill.sh prints them over the translation cc4f4146d8b9468c… (all of the seat's roots in one cut). By AI agents, Wed Nov 11 2026. No macro, syntax, notation, axiom, sorry.
-/
import Derived.Test.YtecggpjpckicgaaChecked
import GoSem.Claim
import GoSem.ClaimJoined
import GoSem.ClaimMapViews
import Derived.JoinedTies
import Derived.KernelRfl
namespace Go.Proofs.Ytecggpjpckicgaa
/- THE CELL 'sum', in the pinned program and in every row, IS THE sha256 OF THE DUMP (.gsa) THAT YtecggpjpckicgaaProg.lean LOADS. Nothing in Lean hashes anything: it is a label: what it is worth is what the hold of that sum in a sandbox is worth. -/
noncomputable def Try.pinned : Pinned := { name := "ytecggpjpckicgaa", sum := "cc4f4146d8b9468cbc7e24f17c0ba495d0568f8095cede3618887ff5308ef529", checked := Try.checked }
namespace Rows
def none {H : Type} : Left H := { results := [], args := [] }

/-- 'paravanelaw10.VolumeTimes': WHATEVER THE INPUT: true; the input reads as it did. -/
def volumeTimesSpec : ChangeSpec := { name := "volumeTimes", fn := fun _ => fun
  | [d1, d2] => { results := [.lit (.bool true)], args := [d1, d2] }
  | _ => none }
def volumeTimesRow : OpenClaim := { program := "ytecggpjpckicgaa", sum := "cc4f4146d8b9468cbc7e24f17c0ba495d0568f8095cede3618887ff5308ef529", func := "paravane/paravanelaw10.VolumeTimes", spec := "volumeTimes", unfollowed := true, recurses := true, plainKeys := false, apart := false }
def VolumeTimesSaid : Prop := volumeTimesRow.holds Try.pinned (OpenSpec.ofChange volumeTimesSpec)

/-- ITS FALSE NEIGHBOUR: 'it returns false'. Refute it at one input. -/
def volumeTimesWrong : ChangeSpec := { name := "volumeTimes", fn := fun _ => fun
  | [d1, d2] => { results := [.lit (.bool false)], args := [d1, d2] }
  | _ => none }
def VolumeTimesWrongFalsely : Prop := volumeTimesRow.holds Try.pinned (OpenSpec.ofChange volumeTimesWrong)

/-- 'paravanelaw10.VolumeJoins': WHATEVER THE INPUT: true; the input reads as it did. -/
def volumeJoinsSpec : ChangeSpec := { name := "volumeJoins", fn := fun _ => fun
  | [d1, d2] => { results := [.lit (.bool true)], args := [d1, d2] }
  | _ => none }
def volumeJoinsRow : OpenClaim := { program := "ytecggpjpckicgaa", sum := "cc4f4146d8b9468cbc7e24f17c0ba495d0568f8095cede3618887ff5308ef529", func := "paravane/paravanelaw10.VolumeJoins", spec := "volumeJoins", unfollowed := true, recurses := true, plainKeys := false, apart := false }
def VolumeJoinsSaid : Prop := volumeJoinsRow.holds Try.pinned (OpenSpec.ofChange volumeJoinsSpec)

/-- ITS FALSE NEIGHBOUR: 'it returns false'. Refute it at one input. -/
def volumeJoinsWrong : ChangeSpec := { name := "volumeJoins", fn := fun _ => fun
  | [d1, d2] => { results := [.lit (.bool false)], args := [d1, d2] }
  | _ => none }
def VolumeJoinsWrongFalsely : Prop := volumeJoinsRow.holds Try.pinned (OpenSpec.ofChange volumeJoinsWrong)

/-- 'paravanelaw10.VolumeUnrung': WHATEVER THE INPUT: true; the input reads as it did. -/
def volumeUnrungSpec : ChangeSpec := { name := "volumeUnrung", fn := fun _ => fun
  | [d1, d2, d3] => { results := [.lit (.bool true)], args := [d1, d2, d3] }
  | _ => none }
def volumeUnrungRow : OpenClaim := { program := "ytecggpjpckicgaa", sum := "cc4f4146d8b9468cbc7e24f17c0ba495d0568f8095cede3618887ff5308ef529", func := "paravane/paravanelaw10.VolumeUnrung", spec := "volumeUnrung", unfollowed := true, recurses := true, plainKeys := false, apart := false }
def VolumeUnrungSaid : Prop := volumeUnrungRow.holds Try.pinned (OpenSpec.ofChange volumeUnrungSpec)

/-- ITS FALSE NEIGHBOUR: 'it returns false'. Refute it at one input. -/
def volumeUnrungWrong : ChangeSpec := { name := "volumeUnrung", fn := fun _ => fun
  | [d1, d2, d3] => { results := [.lit (.bool false)], args := [d1, d2, d3] }
  | _ => none }
def VolumeUnrungWrongFalsely : Prop := volumeUnrungRow.holds Try.pinned (OpenSpec.ofChange volumeUnrungWrong)

/-- 'paravanelaw10.VolumeTop': WHATEVER THE INPUT: true; the input reads as it did. -/
def volumeTopSpec : ChangeSpec := { name := "volumeTop", fn := fun _ => fun
  | [d1, d2, d3] => { results := [.lit (.bool true)], args := [d1, d2, d3] }
  | _ => none }
def volumeTopRow : OpenClaim := { program := "ytecggpjpckicgaa", sum := "cc4f4146d8b9468cbc7e24f17c0ba495d0568f8095cede3618887ff5308ef529", func := "paravane/paravanelaw10.VolumeTop", spec := "volumeTop", unfollowed := true, recurses := true, plainKeys := false, apart := false }
def VolumeTopSaid : Prop := volumeTopRow.holds Try.pinned (OpenSpec.ofChange volumeTopSpec)

/-- ITS FALSE NEIGHBOUR: 'it returns false'. Refute it at one input. -/
def volumeTopWrong : ChangeSpec := { name := "volumeTop", fn := fun _ => fun
  | [d1, d2, d3] => { results := [.lit (.bool false)], args := [d1, d2, d3] }
  | _ => none }
def VolumeTopWrongFalsely : Prop := volumeTopRow.holds Try.pinned (OpenSpec.ofChange volumeTopWrong)

/-- 'paravanelaw10.VolumeSmooth': WHATEVER THE INPUT: true; the input reads as it did. -/
def volumeSmoothSpec : ChangeSpec := { name := "volumeSmooth", fn := fun _ => fun
  | [d1, d2, d3] => { results := [.lit (.bool true)], args := [d1, d2, d3] }
  | _ => none }
def volumeSmoothRow : OpenClaim := { program := "ytecggpjpckicgaa", sum := "cc4f4146d8b9468cbc7e24f17c0ba495d0568f8095cede3618887ff5308ef529", func := "paravane/paravanelaw10.VolumeSmooth", spec := "volumeSmooth", unfollowed := true, recurses := true, plainKeys := false, apart := false }
def VolumeSmoothSaid : Prop := volumeSmoothRow.holds Try.pinned (OpenSpec.ofChange volumeSmoothSpec)

/-- ITS FALSE NEIGHBOUR: 'it returns false'. Refute it at one input. -/
def volumeSmoothWrong : ChangeSpec := { name := "volumeSmooth", fn := fun _ => fun
  | [d1, d2, d3] => { results := [.lit (.bool false)], args := [d1, d2, d3] }
  | _ => none }
def VolumeSmoothWrongFalsely : Prop := volumeSmoothRow.holds Try.pinned (OpenSpec.ofChange volumeSmoothWrong)

/-- 'paravanelaw10.VolumeReach': WHATEVER THE INPUT: true; the input reads as it did. -/
def volumeReachSpec : ChangeSpec := { name := "volumeReach", fn := fun _ => fun
  | [d1, d2, d3] => { results := [.lit (.bool true)], args := [d1, d2, d3] }
  | _ => none }
def volumeReachRow : OpenClaim := { program := "ytecggpjpckicgaa", sum := "cc4f4146d8b9468cbc7e24f17c0ba495d0568f8095cede3618887ff5308ef529", func := "paravane/paravanelaw10.VolumeReach", spec := "volumeReach", unfollowed := true, recurses := true, plainKeys := false, apart := false }
def VolumeReachSaid : Prop := volumeReachRow.holds Try.pinned (OpenSpec.ofChange volumeReachSpec)

/-- ITS FALSE NEIGHBOUR: 'it returns false'. Refute it at one input. -/
def volumeReachWrong : ChangeSpec := { name := "volumeReach", fn := fun _ => fun
  | [d1, d2, d3] => { results := [.lit (.bool false)], args := [d1, d2, d3] }
  | _ => none }
def VolumeReachWrongFalsely : Prop := volumeReachRow.holds Try.pinned (OpenSpec.ofChange volumeReachWrong)

/- THE SECOND FORM. 'bulk': how many values and letters a reading holds, each counted each time it is reached (what is shared counts as often as it is met; a slice's spare places count too). A statement '..UptoSaid' is the law's where the arguments, and the package variables that the reading takes, are together of bulk at most 1048576: NARROWER than '..Said'. Prove '..Said' where nothing that the law and all that it calls make is longer than what came in: it says more and counts as full. Else prove '..UptoSaid'. A law counts once. -/
mutual
def uptoBulk {H : Type} : DataW H → Nat
  | .lit (.string bytes) => bytes.length + 1
  | .lit _ => 1
  | .nil => 1
  | .ptr d => uptoBulk d + 1
  | .slice elems spare => uptoBulkAll elems + uptoBulkAll spare + 1
  | .agg parts => uptoBulkAll parts + 1
  | .iface _ d => uptoBulk d + 1
  | .map entries => uptoBulkEntries entries + 1
  | .held _ => 1
def uptoBulkAll {H : Type} : List (DataW H) → Nat
  | [] => 0
  | d :: r => uptoBulk d + uptoBulkAll r
def uptoBulkEntries {H : Type} : List (Lit × DataW H) → Nat
  | [] => 0
  | x :: r => uptoBulkEntry x + uptoBulkEntries r
def uptoBulkEntry {H : Type} : Lit × DataW H → Nat
  | (.string bytes, d) => bytes.length + uptoBulk d + 1
  | (_, d) => uptoBulk d + 1
 end
def uptoSmall : (H : Type) → List (DataW H) → Bool := fun _ ds => decide (uptoBulkAll ds ≤ 1048576)
def OpenSpec.upto (s : _root_.Go.ChangeSpec) : _root_.Go.OpenSpec := { _root_.Go.OpenSpec.ofChange s with cond := some uptoSmall }

/-- 'paravanelaw10.VolumeTimes', WHERE WHAT IT READS IS OF BULK AT MOST 1048576: true; the input reads as it did. -/
def volumeTimesUptoRow : OpenClaim := { program := "ytecggpjpckicgaa", sum := "cc4f4146d8b9468cbc7e24f17c0ba495d0568f8095cede3618887ff5308ef529", func := "paravane/paravanelaw10.VolumeTimes", spec := "volumeTimes", unfollowed := true, recurses := true, plainKeys := false, apart := false, narrowed := true }
def VolumeTimesUptoSaid : Prop := volumeTimesUptoRow.holds Try.pinned (OpenSpec.upto volumeTimesSpec)

/-- 'paravanelaw10.VolumeJoins', WHERE WHAT IT READS IS OF BULK AT MOST 1048576: true; the input reads as it did. -/
def volumeJoinsUptoRow : OpenClaim := { program := "ytecggpjpckicgaa", sum := "cc4f4146d8b9468cbc7e24f17c0ba495d0568f8095cede3618887ff5308ef529", func := "paravane/paravanelaw10.VolumeJoins", spec := "volumeJoins", unfollowed := true, recurses := true, plainKeys := false, apart := false, narrowed := true }
def VolumeJoinsUptoSaid : Prop := volumeJoinsUptoRow.holds Try.pinned (OpenSpec.upto volumeJoinsSpec)

/-- 'paravanelaw10.VolumeUnrung', WHERE WHAT IT READS IS OF BULK AT MOST 1048576: true; the input reads as it did. -/
def volumeUnrungUptoRow : OpenClaim := { program := "ytecggpjpckicgaa", sum := "cc4f4146d8b9468cbc7e24f17c0ba495d0568f8095cede3618887ff5308ef529", func := "paravane/paravanelaw10.VolumeUnrung", spec := "volumeUnrung", unfollowed := true, recurses := true, plainKeys := false, apart := false, narrowed := true }
def VolumeUnrungUptoSaid : Prop := volumeUnrungUptoRow.holds Try.pinned (OpenSpec.upto volumeUnrungSpec)

/-- 'paravanelaw10.VolumeTop', WHERE WHAT IT READS IS OF BULK AT MOST 1048576: true; the input reads as it did. -/
def volumeTopUptoRow : OpenClaim := { program := "ytecggpjpckicgaa", sum := "cc4f4146d8b9468cbc7e24f17c0ba495d0568f8095cede3618887ff5308ef529", func := "paravane/paravanelaw10.VolumeTop", spec := "volumeTop", unfollowed := true, recurses := true, plainKeys := false, apart := false, narrowed := true }
def VolumeTopUptoSaid : Prop := volumeTopUptoRow.holds Try.pinned (OpenSpec.upto volumeTopSpec)

/-- 'paravanelaw10.VolumeSmooth', WHERE WHAT IT READS IS OF BULK AT MOST 1048576: true; the input reads as it did. -/
def volumeSmoothUptoRow : OpenClaim := { program := "ytecggpjpckicgaa", sum := "cc4f4146d8b9468cbc7e24f17c0ba495d0568f8095cede3618887ff5308ef529", func := "paravane/paravanelaw10.VolumeSmooth", spec := "volumeSmooth", unfollowed := true, recurses := true, plainKeys := false, apart := false, narrowed := true }
def VolumeSmoothUptoSaid : Prop := volumeSmoothUptoRow.holds Try.pinned (OpenSpec.upto volumeSmoothSpec)

/-- 'paravanelaw10.VolumeReach', WHERE WHAT IT READS IS OF BULK AT MOST 1048576: true; the input reads as it did. -/
def volumeReachUptoRow : OpenClaim := { program := "ytecggpjpckicgaa", sum := "cc4f4146d8b9468cbc7e24f17c0ba495d0568f8095cede3618887ff5308ef529", func := "paravane/paravanelaw10.VolumeReach", spec := "volumeReach", unfollowed := true, recurses := true, plainKeys := false, apart := false, narrowed := true }
def VolumeReachUptoSaid : Prop := volumeReachUptoRow.holds Try.pinned (OpenSpec.upto volumeReachSpec)

end Rows
end Go.Proofs.Ytecggpjpckicgaa
