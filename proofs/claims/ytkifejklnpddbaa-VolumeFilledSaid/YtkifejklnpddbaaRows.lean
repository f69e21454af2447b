/-
  No cell of these rows narrows 'for every input' (looked for: loops, veiled, ifaces, maps, wideKeys, modest, calm, conditions, laid).
  DERIVED. THE GIVEN ROWS OF THIS SEAT. 23 by the template 'for every input the law returns true; each argument reads behind the call as it read before'; 0 by the template 'total and deterministic' (their statements: YtkifejklnpddbaaTotals.lean).
  GIVEN WITH THE SEED: the statements are not yours to turn. If you find one false, say at which input.
  Laid BY PROGRAM, IN A SANDBOX (cutbox-rows.mjs): the forced cells as the released guide's own fill.sh prints them over the translation f9f11a64cbb40c37… (all of the seat's roots in one cut). By AI agents, Wed Nov 11 2026. No macro, syntax, notation, axiom, sorry.
-/
import Derived.Test.YtkifejklnpddbaaChecked
import GoSem.Claim
import GoSem.ClaimJoined
import GoSem.ClaimMapViews
import Derived.JoinedTies
import Derived.KernelRfl
namespace Go.Proofs.Ytkifejklnpddbaa
/- THE CELL 'sum', in the pinned program and in every row, IS THE sha256 OF THE DUMP (.gsa) THAT YtkifejklnpddbaaProg.lean LOADS. Nothing in Lean hashes anything: it is a label: what it is worth is what the hold of that sum in a sandbox is worth. -/
noncomputable def Try.pinned : Pinned := { name := "ytkifejklnpddbaa", sum := "f9f11a64cbb40c37bab49b6577a2f322bef98b176a581e26123dbd66a3f213cf", checked := Try.checked }
namespace Rows
def none {H : Type} : Left H := { results := [], args := [] }

/-- 'paravanelaw10.VolumeTimes': WHATEVER THE INPUT: true; the input reads as it did. -/
def volumeTimesSpec : ChangeSpec := { name := "volumeTimes", fn := fun _ => fun
  | [d1, d2] => { results := [.lit (.bool true)], args := [d1, d2] }
  | _ => none }
def volumeTimesRow : OpenClaim := { program := "ytkifejklnpddbaa", sum := "f9f11a64cbb40c37bab49b6577a2f322bef98b176a581e26123dbd66a3f213cf", func := "paravane/paravanelaw10.VolumeTimes", spec := "volumeTimes", unfollowed := true, recurses := true, plainKeys := false, apart := false }
def VolumeTimesSaid : Prop := volumeTimesRow.holds Try.pinned (OpenSpec.ofChange volumeTimesSpec)

/-- ITS FALSE NEIGHBOUR: 'it returns false'. Refute it at one input. -/
def volumeTimesWrong : ChangeSpec := { name := "volumeTimes", fn := fun _ => fun
  | [d1, d2] => { results := [.lit (.bool false)], args := [d1, d2] }
  | _ => none }
def VolumeTimesWrongFalsely : Prop := volumeTimesRow.holds Try.pinned (OpenSpec.ofChange volumeTimesWrong)

/-- 'paravanelaw10.VolumeNames': WHATEVER THE INPUT: true; the input reads as it did. -/
def volumeNamesSpec : ChangeSpec := { name := "volumeNames", fn := fun _ => fun
  | [d1, d2, d3] => { results := [.lit (.bool true)], args := [d1, d2, d3] }
  | _ => none }
def volumeNamesRow : OpenClaim := { program := "ytkifejklnpddbaa", sum := "f9f11a64cbb40c37bab49b6577a2f322bef98b176a581e26123dbd66a3f213cf", func := "paravane/paravanelaw10.VolumeNames", spec := "volumeNames", unfollowed := true, recurses := true, plainKeys := false, apart := false }
def VolumeNamesSaid : Prop := volumeNamesRow.holds Try.pinned (OpenSpec.ofChange volumeNamesSpec)

/-- ITS FALSE NEIGHBOUR: 'it returns false'. Refute it at one input. -/
def volumeNamesWrong : ChangeSpec := { name := "volumeNames", fn := fun _ => fun
  | [d1, d2, d3] => { results := [.lit (.bool false)], args := [d1, d2, d3] }
  | _ => none }
def VolumeNamesWrongFalsely : Prop := volumeNamesRow.holds Try.pinned (OpenSpec.ofChange volumeNamesWrong)

/-- 'paravanelaw10.VolumeEncloses': WHATEVER THE INPUT: true; the input reads as it did. -/
def volumeEnclosesSpec : ChangeSpec := { name := "volumeEncloses", fn := fun _ => fun
  | [d1, d2] => { results := [.lit (.bool true)], args := [d1, d2] }
  | _ => none }
def volumeEnclosesRow : OpenClaim := { program := "ytkifejklnpddbaa", sum := "f9f11a64cbb40c37bab49b6577a2f322bef98b176a581e26123dbd66a3f213cf", func := "paravane/paravanelaw10.VolumeEncloses", spec := "volumeEncloses", unfollowed := true, recurses := true, plainKeys := false, apart := false }
def VolumeEnclosesSaid : Prop := volumeEnclosesRow.holds Try.pinned (OpenSpec.ofChange volumeEnclosesSpec)

/-- ITS FALSE NEIGHBOUR: 'it returns false'. Refute it at one input. -/
def volumeEnclosesWrong : ChangeSpec := { name := "volumeEncloses", fn := fun _ => fun
  | [d1, d2] => { results := [.lit (.bool false)], args := [d1, d2] }
  | _ => none }
def VolumeEnclosesWrongFalsely : Prop := volumeEnclosesRow.holds Try.pinned (OpenSpec.ofChange volumeEnclosesWrong)

/-- 'paravanelaw10.VolumeRings': WHATEVER THE INPUT: true; the input reads as it did. -/
def volumeRingsSpec : ChangeSpec := { name := "volumeRings", fn := fun _ => fun
  | [d1, d2, d3] => { results := [.lit (.bool true)], args := [d1, d2, d3] }
  | _ => none }
def volumeRingsRow : OpenClaim := { program := "ytkifejklnpddbaa", sum := "f9f11a64cbb40c37bab49b6577a2f322bef98b176a581e26123dbd66a3f213cf", func := "paravane/paravanelaw10.VolumeRings", spec := "volumeRings", unfollowed := true, recurses := true, plainKeys := false, apart := false }
def VolumeRingsSaid : Prop := volumeRingsRow.holds Try.pinned (OpenSpec.ofChange volumeRingsSpec)

/-- ITS FALSE NEIGHBOUR: 'it returns false'. Refute it at one input. -/
def volumeRingsWrong : ChangeSpec := { name := "volumeRings", fn := fun _ => fun
  | [d1, d2, d3] => { results := [.lit (.bool false)], args := [d1, d2, d3] }
  | _ => none }
def VolumeRingsWrongFalsely : Prop := volumeRingsRow.holds Try.pinned (OpenSpec.ofChange volumeRingsWrong)

/-- 'paravanelaw10.VolumeJoins': WHATEVER THE INPUT: true; the input reads as it did. -/
def volumeJoinsSpec : ChangeSpec := { name := "volumeJoins", fn := fun _ => fun
  | [d1, d2] => { results := [.lit (.bool true)], args := [d1, d2] }
  | _ => none }
def volumeJoinsRow : OpenClaim := { program := "ytkifejklnpddbaa", sum := "f9f11a64cbb40c37bab49b6577a2f322bef98b176a581e26123dbd66a3f213cf", func := "paravane/paravanelaw10.VolumeJoins", spec := "volumeJoins", unfollowed := true, recurses := true, plainKeys := false, apart := false }
def VolumeJoinsSaid : Prop := volumeJoinsRow.holds Try.pinned (OpenSpec.ofChange volumeJoinsSpec)

/-- ITS FALSE NEIGHBOUR: 'it returns false'. Refute it at one input. -/
def volumeJoinsWrong : ChangeSpec := { name := "volumeJoins", fn := fun _ => fun
  | [d1, d2] => { results := [.lit (.bool false)], args := [d1, d2] }
  | _ => none }
def VolumeJoinsWrongFalsely : Prop := volumeJoinsRow.holds Try.pinned (OpenSpec.ofChange volumeJoinsWrong)

/-- 'paravanelaw10.VolumeBacked': WHATEVER THE INPUT: true; the input reads as it did. -/
def volumeBackedSpec : ChangeSpec := { name := "volumeBacked", fn := fun _ => fun
  | [d1, d2, d3] => { results := [.lit (.bool true)], args := [d1, d2, d3] }
  | _ => none }
def volumeBackedRow : OpenClaim := { program := "ytkifejklnpddbaa", sum := "f9f11a64cbb40c37bab49b6577a2f322bef98b176a581e26123dbd66a3f213cf", func := "paravane/paravanelaw10.VolumeBacked", spec := "volumeBacked", unfollowed := true, recurses := true, plainKeys := false, apart := false }
def VolumeBackedSaid : Prop := volumeBackedRow.holds Try.pinned (OpenSpec.ofChange volumeBackedSpec)

/-- ITS FALSE NEIGHBOUR: 'it returns false'. Refute it at one input. -/
def volumeBackedWrong : ChangeSpec := { name := "volumeBacked", fn := fun _ => fun
  | [d1, d2, d3] => { results := [.lit (.bool false)], args := [d1, d2, d3] }
  | _ => none }
def VolumeBackedWrongFalsely : Prop := volumeBackedRow.holds Try.pinned (OpenSpec.ofChange volumeBackedWrong)

/-- 'paravanelaw10.VolumeUnrung': WHATEVER THE INPUT: true; the input reads as it did. -/
def volumeUnrungSpec : ChangeSpec := { name := "volumeUnrung", fn := fun _ => fun
  | [d1, d2, d3] => { results := [.lit (.bool true)], args := [d1, d2, d3] }
  | _ => none }
def volumeUnrungRow : OpenClaim := { program := "ytkifejklnpddbaa", sum := "f9f11a64cbb40c37bab49b6577a2f322bef98b176a581e26123dbd66a3f213cf", func := "paravane/paravanelaw10.VolumeUnrung", spec := "volumeUnrung", unfollowed := true, recurses := true, plainKeys := false, apart := false }
def VolumeUnrungSaid : Prop := volumeUnrungRow.holds Try.pinned (OpenSpec.ofChange volumeUnrungSpec)

/-- ITS FALSE NEIGHBOUR: 'it returns false'. Refute it at one input. -/
def volumeUnrungWrong : ChangeSpec := { name := "volumeUnrung", fn := fun _ => fun
  | [d1, d2, d3] => { results := [.lit (.bool false)], args := [d1, d2, d3] }
  | _ => none }
def VolumeUnrungWrongFalsely : Prop := volumeUnrungRow.holds Try.pinned (OpenSpec.ofChange volumeUnrungWrong)

/-- 'paravanelaw10.VolumeTop': WHATEVER THE INPUT: true; the input reads as it did. -/
def volumeTopSpec : ChangeSpec := { name := "volumeTop", fn := fun _ => fun
  | [d1, d2, d3] => { results := [.lit (.bool true)], args := [d1, d2, d3] }
  | _ => none }
def volumeTopRow : OpenClaim := { program := "ytkifejklnpddbaa", sum := "f9f11a64cbb40c37bab49b6577a2f322bef98b176a581e26123dbd66a3f213cf", func := "paravane/paravanelaw10.VolumeTop", spec := "volumeTop", unfollowed := true, recurses := true, plainKeys := false, apart := false }
def VolumeTopSaid : Prop := volumeTopRow.holds Try.pinned (OpenSpec.ofChange volumeTopSpec)

/-- ITS FALSE NEIGHBOUR: 'it returns false'. Refute it at one input. -/
def volumeTopWrong : ChangeSpec := { name := "volumeTop", fn := fun _ => fun
  | [d1, d2, d3] => { results := [.lit (.bool false)], args := [d1, d2, d3] }
  | _ => none }
def VolumeTopWrongFalsely : Prop := volumeTopRow.holds Try.pinned (OpenSpec.ofChange volumeTopWrong)

/-- 'paravanelaw10.VolumeSmooth': WHATEVER THE INPUT: true; the input reads as it did. -/
def volumeSmoothSpec : ChangeSpec := { name := "volumeSmooth", fn := fun _ => fun
  | [d1, d2, d3] => { results := [.lit (.bool true)], args := [d1, d2, d3] }
  | _ => none }
def volumeSmoothRow : OpenClaim := { program := "ytkifejklnpddbaa", sum := "f9f11a64cbb40c37bab49b6577a2f322bef98b176a581e26123dbd66a3f213cf", func := "paravane/paravanelaw10.VolumeSmooth", spec := "volumeSmooth", unfollowed := true, recurses := true, plainKeys := false, apart := false }
def VolumeSmoothSaid : Prop := volumeSmoothRow.holds Try.pinned (OpenSpec.ofChange volumeSmoothSpec)

/-- ITS FALSE NEIGHBOUR: 'it returns false'. Refute it at one input. -/
def volumeSmoothWrong : ChangeSpec := { name := "volumeSmooth", fn := fun _ => fun
  | [d1, d2, d3] => { results := [.lit (.bool false)], args := [d1, d2, d3] }
  | _ => none }
def VolumeSmoothWrongFalsely : Prop := volumeSmoothRow.holds Try.pinned (OpenSpec.ofChange volumeSmoothWrong)

/-- 'paravanelaw10.VolumeMigrates': WHATEVER THE INPUT: true; the input reads as it did. -/
def volumeMigratesSpec : ChangeSpec := { name := "volumeMigrates", fn := fun _ => fun
  | [d1, d2] => { results := [.lit (.bool true)], args := [d1, d2] }
  | _ => none }
def volumeMigratesRow : OpenClaim := { program := "ytkifejklnpddbaa", sum := "f9f11a64cbb40c37bab49b6577a2f322bef98b176a581e26123dbd66a3f213cf", func := "paravane/paravanelaw10.VolumeMigrates", spec := "volumeMigrates", unfollowed := true, recurses := true, plainKeys := false, apart := false }
def VolumeMigratesSaid : Prop := volumeMigratesRow.holds Try.pinned (OpenSpec.ofChange volumeMigratesSpec)

/-- ITS FALSE NEIGHBOUR: 'it returns false'. Refute it at one input. -/
def volumeMigratesWrong : ChangeSpec := { name := "volumeMigrates", fn := fun _ => fun
  | [d1, d2] => { results := [.lit (.bool false)], args := [d1, d2] }
  | _ => none }
def VolumeMigratesWrongFalsely : Prop := volumeMigratesRow.holds Try.pinned (OpenSpec.ofChange volumeMigratesWrong)

/-- 'paravanelaw10.VolumeTruth': WHATEVER THE INPUT: true; the input reads as it did. -/
def volumeTruthSpec : ChangeSpec := { name := "volumeTruth", fn := fun _ => fun
  | [d1, d2, d3] => { results := [.lit (.bool true)], args := [d1, d2, d3] }
  | _ => none }
def volumeTruthRow : OpenClaim := { program := "ytkifejklnpddbaa", sum := "f9f11a64cbb40c37bab49b6577a2f322bef98b176a581e26123dbd66a3f213cf", func := "paravane/paravanelaw10.VolumeTruth", spec := "volumeTruth", unfollowed := true, recurses := true, plainKeys := false, apart := false }
def VolumeTruthSaid : Prop := volumeTruthRow.holds Try.pinned (OpenSpec.ofChange volumeTruthSpec)

/-- ITS FALSE NEIGHBOUR: 'it returns false'. Refute it at one input. -/
def volumeTruthWrong : ChangeSpec := { name := "volumeTruth", fn := fun _ => fun
  | [d1, d2, d3] => { results := [.lit (.bool false)], args := [d1, d2, d3] }
  | _ => none }
def VolumeTruthWrongFalsely : Prop := volumeTruthRow.holds Try.pinned (OpenSpec.ofChange volumeTruthWrong)

/-- 'paravanelaw10.VolumeSingle': WHATEVER THE INPUT: true; the input reads as it did. -/
def volumeSingleSpec : ChangeSpec := { name := "volumeSingle", fn := fun _ => fun
  | [d1, d2] => { results := [.lit (.bool true)], args := [d1, d2] }
  | _ => none }
def volumeSingleRow : OpenClaim := { program := "ytkifejklnpddbaa", sum := "f9f11a64cbb40c37bab49b6577a2f322bef98b176a581e26123dbd66a3f213cf", func := "paravane/paravanelaw10.VolumeSingle", spec := "volumeSingle", unfollowed := true, recurses := true, plainKeys := false, apart := false }
def VolumeSingleSaid : Prop := volumeSingleRow.holds Try.pinned (OpenSpec.ofChange volumeSingleSpec)

/-- ITS FALSE NEIGHBOUR: 'it returns false'. Refute it at one input. -/
def volumeSingleWrong : ChangeSpec := { name := "volumeSingle", fn := fun _ => fun
  | [d1, d2] => { results := [.lit (.bool false)], args := [d1, d2] }
  | _ => none }
def VolumeSingleWrongFalsely : Prop := volumeSingleRow.holds Try.pinned (OpenSpec.ofChange volumeSingleWrong)

/-- 'paravanelaw10.VolumeLinear': WHATEVER THE INPUT: true; the input reads as it did. -/
def volumeLinearSpec : ChangeSpec := { name := "volumeLinear", fn := fun _ => fun
  | [d1, d2, d3] => { results := [.lit (.bool true)], args := [d1, d2, d3] }
  | _ => none }
def volumeLinearRow : OpenClaim := { program := "ytkifejklnpddbaa", sum := "f9f11a64cbb40c37bab49b6577a2f322bef98b176a581e26123dbd66a3f213cf", func := "paravane/paravanelaw10.VolumeLinear", spec := "volumeLinear", unfollowed := true, recurses := true, plainKeys := false, apart := false }
def VolumeLinearSaid : Prop := volumeLinearRow.holds Try.pinned (OpenSpec.ofChange volumeLinearSpec)

/-- ITS FALSE NEIGHBOUR: 'it returns false'. Refute it at one input. -/
def volumeLinearWrong : ChangeSpec := { name := "volumeLinear", fn := fun _ => fun
  | [d1, d2, d3] => { results := [.lit (.bool false)], args := [d1, d2, d3] }
  | _ => none }
def VolumeLinearWrongFalsely : Prop := volumeLinearRow.holds Try.pinned (OpenSpec.ofChange volumeLinearWrong)

/-- 'paravanelaw10.VolumePoint': WHATEVER THE INPUT: true; the input reads as it did. -/
def volumePointSpec : ChangeSpec := { name := "volumePoint", fn := fun _ => fun
  | [d1, d2, d3] => { results := [.lit (.bool true)], args := [d1, d2, d3] }
  | _ => none }
def volumePointRow : OpenClaim := { program := "ytkifejklnpddbaa", sum := "f9f11a64cbb40c37bab49b6577a2f322bef98b176a581e26123dbd66a3f213cf", func := "paravane/paravanelaw10.VolumePoint", spec := "volumePoint", unfollowed := true, recurses := true, plainKeys := false, apart := false }
def VolumePointSaid : Prop := volumePointRow.holds Try.pinned (OpenSpec.ofChange volumePointSpec)

/-- ITS FALSE NEIGHBOUR: 'it returns false'. Refute it at one input. -/
def volumePointWrong : ChangeSpec := { name := "volumePoint", fn := fun _ => fun
  | [d1, d2, d3] => { results := [.lit (.bool false)], args := [d1, d2, d3] }
  | _ => none }
def VolumePointWrongFalsely : Prop := volumePointRow.holds Try.pinned (OpenSpec.ofChange volumePointWrong)

/-- 'paravanelaw10.VolumeSealed': WHATEVER THE INPUT: true; the input reads as it did. -/
def volumeSealedSpec : ChangeSpec := { name := "volumeSealed", fn := fun _ => fun
  | [d1, d2, d3] => { results := [.lit (.bool true)], args := [d1, d2, d3] }
  | _ => none }
def volumeSealedRow : OpenClaim := { program := "ytkifejklnpddbaa", sum := "f9f11a64cbb40c37bab49b6577a2f322bef98b176a581e26123dbd66a3f213cf", func := "paravane/paravanelaw10.VolumeSealed", spec := "volumeSealed", unfollowed := true, recurses := true, plainKeys := false, apart := false }
def VolumeSealedSaid : Prop := volumeSealedRow.holds Try.pinned (OpenSpec.ofChange volumeSealedSpec)

/-- ITS FALSE NEIGHBOUR: 'it returns false'. Refute it at one input. -/
def volumeSealedWrong : ChangeSpec := { name := "volumeSealed", fn := fun _ => fun
  | [d1, d2, d3] => { results := [.lit (.bool false)], args := [d1, d2, d3] }
  | _ => none }
def VolumeSealedWrongFalsely : Prop := volumeSealedRow.holds Try.pinned (OpenSpec.ofChange volumeSealedWrong)

/-- 'paravanelaw10.VolumeAgrees': WHATEVER THE INPUT: true; the input reads as it did. -/
def volumeAgreesSpec : ChangeSpec := { name := "volumeAgrees", fn := fun _ => fun
  | [d1, d2] => { results := [.lit (.bool true)], args := [d1, d2] }
  | _ => none }
def volumeAgreesRow : OpenClaim := { program := "ytkifejklnpddbaa", sum := "f9f11a64cbb40c37bab49b6577a2f322bef98b176a581e26123dbd66a3f213cf", func := "paravane/paravanelaw10.VolumeAgrees", spec := "volumeAgrees", unfollowed := true, recurses := true, plainKeys := false, apart := false }
def VolumeAgreesSaid : Prop := volumeAgreesRow.holds Try.pinned (OpenSpec.ofChange volumeAgreesSpec)

/-- ITS FALSE NEIGHBOUR: 'it returns false'. Refute it at one input. -/
def volumeAgreesWrong : ChangeSpec := { name := "volumeAgrees", fn := fun _ => fun
  | [d1, d2] => { results := [.lit (.bool false)], args := [d1, d2] }
  | _ => none }
def VolumeAgreesWrongFalsely : Prop := volumeAgreesRow.holds Try.pinned (OpenSpec.ofChange volumeAgreesWrong)

/-- 'paravanelaw10.VolumeHorizons': WHATEVER THE INPUT: true; the input reads as it did. -/
def volumeHorizonsSpec : ChangeSpec := { name := "volumeHorizons", fn := fun _ => fun
  | [d1, d2] => { results := [.lit (.bool true)], args := [d1, d2] }
  | _ => none }
def volumeHorizonsRow : OpenClaim := { program := "ytkifejklnpddbaa", sum := "f9f11a64cbb40c37bab49b6577a2f322bef98b176a581e26123dbd66a3f213cf", func := "paravane/paravanelaw10.VolumeHorizons", spec := "volumeHorizons", unfollowed := true, recurses := true, plainKeys := false, apart := false }
def VolumeHorizonsSaid : Prop := volumeHorizonsRow.holds Try.pinned (OpenSpec.ofChange volumeHorizonsSpec)

/-- ITS FALSE NEIGHBOUR: 'it returns false'. Refute it at one input. -/
def volumeHorizonsWrong : ChangeSpec := { name := "volumeHorizons", fn := fun _ => fun
  | [d1, d2] => { results := [.lit (.bool false)], args := [d1, d2] }
  | _ => none }
def VolumeHorizonsWrongFalsely : Prop := volumeHorizonsRow.holds Try.pinned (OpenSpec.ofChange volumeHorizonsWrong)

/-- 'paravanelaw10.VolumeVerifies': WHATEVER THE INPUT: true; the input reads as it did. -/
def volumeVerifiesSpec : ChangeSpec := { name := "volumeVerifies", fn := fun _ => fun
  | [d1, d2, d3] => { results := [.lit (.bool true)], args := [d1, d2, d3] }
  | _ => none }
def volumeVerifiesRow : OpenClaim := { program := "ytkifejklnpddbaa", sum := "f9f11a64cbb40c37bab49b6577a2f322bef98b176a581e26123dbd66a3f213cf", func := "paravane/paravanelaw10.VolumeVerifies", spec := "volumeVerifies", unfollowed := true, recurses := true, plainKeys := false, apart := false }
def VolumeVerifiesSaid : Prop := volumeVerifiesRow.holds Try.pinned (OpenSpec.ofChange volumeVerifiesSpec)

/-- ITS FALSE NEIGHBOUR: 'it returns false'. Refute it at one input. -/
def volumeVerifiesWrong : ChangeSpec := { name := "volumeVerifies", fn := fun _ => fun
  | [d1, d2, d3] => { results := [.lit (.bool false)], args := [d1, d2, d3] }
  | _ => none }
def VolumeVerifiesWrongFalsely : Prop := volumeVerifiesRow.holds Try.pinned (OpenSpec.ofChange volumeVerifiesWrong)

/-- 'paravanelaw10.VolumeFar': WHATEVER THE INPUT: true; the input reads as it did. -/
def volumeFarSpec : ChangeSpec := { name := "volumeFar", fn := fun _ => fun
  | [d1, d2, d3] => { results := [.lit (.bool true)], args := [d1, d2, d3] }
  | _ => none }
def volumeFarRow : OpenClaim := { program := "ytkifejklnpddbaa", sum := "f9f11a64cbb40c37bab49b6577a2f322bef98b176a581e26123dbd66a3f213cf", func := "paravane/paravanelaw10.VolumeFar", spec := "volumeFar", unfollowed := true, recurses := true, plainKeys := false, apart := false }
def VolumeFarSaid : Prop := volumeFarRow.holds Try.pinned (OpenSpec.ofChange volumeFarSpec)

/-- ITS FALSE NEIGHBOUR: 'it returns false'. Refute it at one input. -/
def volumeFarWrong : ChangeSpec := { name := "volumeFar", fn := fun _ => fun
  | [d1, d2, d3] => { results := [.lit (.bool false)], args := [d1, d2, d3] }
  | _ => none }
def VolumeFarWrongFalsely : Prop := volumeFarRow.holds Try.pinned (OpenSpec.ofChange volumeFarWrong)

/-- 'paravanelaw10.VolumeWhole': WHATEVER THE INPUT: true; the input reads as it did. -/
def volumeWholeSpec : ChangeSpec := { name := "volumeWhole", fn := fun _ => fun
  | [d1, d2] => { results := [.lit (.bool true)], args := [d1, d2] }
  | _ => none }
def volumeWholeRow : OpenClaim := { program := "ytkifejklnpddbaa", sum := "f9f11a64cbb40c37bab49b6577a2f322bef98b176a581e26123dbd66a3f213cf", func := "paravane/paravanelaw10.VolumeWhole", spec := "volumeWhole", unfollowed := true, recurses := true, plainKeys := false, apart := false }
def VolumeWholeSaid : Prop := volumeWholeRow.holds Try.pinned (OpenSpec.ofChange volumeWholeSpec)

/-- ITS FALSE NEIGHBOUR: 'it returns false'. Refute it at one input. -/
def volumeWholeWrong : ChangeSpec := { name := "volumeWhole", fn := fun _ => fun
  | [d1, d2] => { results := [.lit (.bool false)], args := [d1, d2] }
  | _ => none }
def VolumeWholeWrongFalsely : Prop := volumeWholeRow.holds Try.pinned (OpenSpec.ofChange volumeWholeWrong)

/-- 'paravanelaw10.VolumeKnown': WHATEVER THE INPUT: true; the input reads as it did. -/
def volumeKnownSpec : ChangeSpec := { name := "volumeKnown", fn := fun _ => fun
  | [] => { results := [.lit (.bool true)], args := [] }
  | _ => none }
def volumeKnownRow : OpenClaim := { program := "ytkifejklnpddbaa", sum := "f9f11a64cbb40c37bab49b6577a2f322bef98b176a581e26123dbd66a3f213cf", func := "paravane/paravanelaw10.VolumeKnown", spec := "volumeKnown", unfollowed := true, recurses := true, plainKeys := false, apart := false }
def VolumeKnownSaid : Prop := volumeKnownRow.holds Try.pinned (OpenSpec.ofChange volumeKnownSpec)

/-- ITS FALSE NEIGHBOUR: 'it returns false'. Refute it at one input. -/
def volumeKnownWrong : ChangeSpec := { name := "volumeKnown", fn := fun _ => fun
  | [] => { results := [.lit (.bool false)], args := [] }
  | _ => none }
def VolumeKnownWrongFalsely : Prop := volumeKnownRow.holds Try.pinned (OpenSpec.ofChange volumeKnownWrong)

/-- 'paravanelaw10.VolumeCuts': WHATEVER THE INPUT: true; the input reads as it did. -/
def volumeCutsSpec : ChangeSpec := { name := "volumeCuts", fn := fun _ => fun
  | [d1, d2, d3] => { results := [.lit (.bool true)], args := [d1, d2, d3] }
  | _ => none }
def volumeCutsRow : OpenClaim := { program := "ytkifejklnpddbaa", sum := "f9f11a64cbb40c37bab49b6577a2f322bef98b176a581e26123dbd66a3f213cf", func := "paravane/paravanelaw10.VolumeCuts", spec := "volumeCuts", unfollowed := true, recurses := true, plainKeys := false, apart := false }
def VolumeCutsSaid : Prop := volumeCutsRow.holds Try.pinned (OpenSpec.ofChange volumeCutsSpec)

/-- ITS FALSE NEIGHBOUR: 'it returns false'. Refute it at one input. -/
def volumeCutsWrong : ChangeSpec := { name := "volumeCuts", fn := fun _ => fun
  | [d1, d2, d3] => { results := [.lit (.bool false)], args := [d1, d2, d3] }
  | _ => none }
def VolumeCutsWrongFalsely : Prop := volumeCutsRow.holds Try.pinned (OpenSpec.ofChange volumeCutsWrong)

/-- 'paravanelaw10.VolumeFilled': WHATEVER THE INPUT: true; the input reads as it did. -/
def volumeFilledSpec : ChangeSpec := { name := "volumeFilled", fn := fun _ => fun
  | [d1, d2] => { results := [.lit (.bool true)], args := [d1, d2] }
  | _ => none }
def volumeFilledRow : OpenClaim := { program := "ytkifejklnpddbaa", sum := "f9f11a64cbb40c37bab49b6577a2f322bef98b176a581e26123dbd66a3f213cf", func := "paravane/paravanelaw10.VolumeFilled", spec := "volumeFilled", unfollowed := true, recurses := true, plainKeys := false, apart := false }
def VolumeFilledSaid : Prop := volumeFilledRow.holds Try.pinned (OpenSpec.ofChange volumeFilledSpec)

/-- ITS FALSE NEIGHBOUR: 'it returns false'. Refute it at one input. -/
def volumeFilledWrong : ChangeSpec := { name := "volumeFilled", fn := fun _ => fun
  | [d1, d2] => { results := [.lit (.bool false)], args := [d1, d2] }
  | _ => none }
def VolumeFilledWrongFalsely : Prop := volumeFilledRow.holds Try.pinned (OpenSpec.ofChange volumeFilledWrong)

/- THE SECOND FORM. 'bulk': how many values and letters a reading holds, each counted each time it is reached (what is shared counts as often as it is met; a slice's spare places count too). A statement '..UptoSaid' is the law's where the arguments, and the package variables that the reading takes, are together of bulk at most 1048576: NARROWER than '..Said'. Prove '..Said' where nothing that the law and all that it calls make is longer than what came in: it says more and counts as full. Else prove '..UptoSaid'. A law counts once. -/
mutual
def uptoBulk {H : Type} : DataW H → Nat
  | .lit (.string bytes) => bytes.length + 1
  | .lit _ => 1
  | .nil => 1
  | .ptr d => uptoBulk d + 1
  | .slice elems spare => uptoBulkAll elems + uptoBulkAll spare + 1
  | .agg parts => uptoBulkAll parts + 1
  | .iface _ d => uptoBulk d + 1
  | .map entries => uptoBulkEntries entries + 1
  | .held _ => 1
def uptoBulkAll {H : Type} : List (DataW H) → Nat
  | [] => 0
  | d :: r => uptoBulk d + uptoBulkAll r
def uptoBulkEntries {H : Type} : List (Lit × DataW H) → Nat
  | [] => 0
  | x :: r => uptoBulkEntry x + uptoBulkEntries r
def uptoBulkEntry {H : Type} : Lit × DataW H → Nat
  | (.string bytes, d) => bytes.length + uptoBulk d + 1
  | (_, d) => uptoBulk d + 1
 end
def uptoSmall : (H : Type) → List (DataW H) → Bool := fun _ ds => decide (uptoBulkAll ds ≤ 1048576)
def OpenSpec.upto (s : _root_.Go.ChangeSpec) : _root_.Go.OpenSpec := { _root_.Go.OpenSpec.ofChange s with cond := some uptoSmall }

/-- 'paravanelaw10.VolumeTimes', WHERE WHAT IT READS IS OF BULK AT MOST 1048576: true; the input reads as it did. -/
def volumeTimesUptoRow : OpenClaim := { program := "ytkifejklnpddbaa", sum := "f9f11a64cbb40c37bab49b6577a2f322bef98b176a581e26123dbd66a3f213cf", func := "paravane/paravanelaw10.VolumeTimes", spec := "volumeTimes", unfollowed := true, recurses := true, plainKeys := false, apart := false, narrowed := true }
def VolumeTimesUptoSaid : Prop := volumeTimesUptoRow.holds Try.pinned (OpenSpec.upto volumeTimesSpec)

/-- 'paravanelaw10.VolumeNames', WHERE WHAT IT READS IS OF BULK AT MOST 1048576: true; the input reads as it did. -/
def volumeNamesUptoRow : OpenClaim := { program := "ytkifejklnpddbaa", sum := "f9f11a64cbb40c37bab49b6577a2f322bef98b176a581e26123dbd66a3f213cf", func := "paravane/paravanelaw10.VolumeNames", spec := "volumeNames", unfollowed := true, recurses := true, plainKeys := false, apart := false, narrowed := true }
def VolumeNamesUptoSaid : Prop := volumeNamesUptoRow.holds Try.pinned (OpenSpec.upto volumeNamesSpec)

/-- 'paravanelaw10.VolumeEncloses', WHERE WHAT IT READS IS OF BULK AT MOST 1048576: true; the input reads as it did. -/
def volumeEnclosesUptoRow : OpenClaim := { program := "ytkifejklnpddbaa", sum := "f9f11a64cbb40c37bab49b6577a2f322bef98b176a581e26123dbd66a3f213cf", func := "paravane/paravanelaw10.VolumeEncloses", spec := "volumeEncloses", unfollowed := true, recurses := true, plainKeys := false, apart := false, narrowed := true }
def VolumeEnclosesUptoSaid : Prop := volumeEnclosesUptoRow.holds Try.pinned (OpenSpec.upto volumeEnclosesSpec)

/-- 'paravanelaw10.VolumeRings', WHERE WHAT IT READS IS OF BULK AT MOST 1048576: true; the input reads as it did. -/
def volumeRingsUptoRow : OpenClaim := { program := "ytkifejklnpddbaa", sum := "f9f11a64cbb40c37bab49b6577a2f322bef98b176a581e26123dbd66a3f213cf", func := "paravane/paravanelaw10.VolumeRings", spec := "volumeRings", unfollowed := true, recurses := true, plainKeys := false, apart := false, narrowed := true }
def VolumeRingsUptoSaid : Prop := volumeRingsUptoRow.holds Try.pinned (OpenSpec.upto volumeRingsSpec)

/-- 'paravanelaw10.VolumeJoins', WHERE WHAT IT READS IS OF BULK AT MOST 1048576: true; the input reads as it did. -/
def volumeJoinsUptoRow : OpenClaim := { program := "ytkifejklnpddbaa", sum := "f9f11a64cbb40c37bab49b6577a2f322bef98b176a581e26123dbd66a3f213cf", func := "paravane/paravanelaw10.VolumeJoins", spec := "volumeJoins", unfollowed := true, recurses := true, plainKeys := false, apart := false, narrowed := true }
def VolumeJoinsUptoSaid : Prop := volumeJoinsUptoRow.holds Try.pinned (OpenSpec.upto volumeJoinsSpec)

/-- 'paravanelaw10.VolumeBacked', WHERE WHAT IT READS IS OF BULK AT MOST 1048576: true; the input reads as it did. -/
def volumeBackedUptoRow : OpenClaim := { program := "ytkifejklnpddbaa", sum := "f9f11a64cbb40c37bab49b6577a2f322bef98b176a581e26123dbd66a3f213cf", func := "paravane/paravanelaw10.VolumeBacked", spec := "volumeBacked", unfollowed := true, recurses := true, plainKeys := false, apart := false, narrowed := true }
def VolumeBackedUptoSaid : Prop := volumeBackedUptoRow.holds Try.pinned (OpenSpec.upto volumeBackedSpec)

/-- 'paravanelaw10.VolumeUnrung', WHERE WHAT IT READS IS OF BULK AT MOST 1048576: true; the input reads as it did. -/
def volumeUnrungUptoRow : OpenClaim := { program := "ytkifejklnpddbaa", sum := "f9f11a64cbb40c37bab49b6577a2f322bef98b176a581e26123dbd66a3f213cf", func := "paravane/paravanelaw10.VolumeUnrung", spec := "volumeUnrung", unfollowed := true, recurses := true, plainKeys := false, apart := false, narrowed := true }
def VolumeUnrungUptoSaid : Prop := volumeUnrungUptoRow.holds Try.pinned (OpenSpec.upto volumeUnrungSpec)

/-- 'paravanelaw10.VolumeTop', WHERE WHAT IT READS IS OF BULK AT MOST 1048576: true; the input reads as it did. -/
def volumeTopUptoRow : OpenClaim := { program := "ytkifejklnpddbaa", sum := "f9f11a64cbb40c37bab49b6577a2f322bef98b176a581e26123dbd66a3f213cf", func := "paravane/paravanelaw10.VolumeTop", spec := "volumeTop", unfollowed := true, recurses := true, plainKeys := false, apart := false, narrowed := true }
def VolumeTopUptoSaid : Prop := volumeTopUptoRow.holds Try.pinned (OpenSpec.upto volumeTopSpec)

/-- 'paravanelaw10.VolumeSmooth', WHERE WHAT IT READS IS OF BULK AT MOST 1048576: true; the input reads as it did. -/
def volumeSmoothUptoRow : OpenClaim := { program := "ytkifejklnpddbaa", sum := "f9f11a64cbb40c37bab49b6577a2f322bef98b176a581e26123dbd66a3f213cf", func := "paravane/paravanelaw10.VolumeSmooth", spec := "volumeSmooth", unfollowed := true, recurses := true, plainKeys := false, apart := false, narrowed := true }
def VolumeSmoothUptoSaid : Prop := volumeSmoothUptoRow.holds Try.pinned (OpenSpec.upto volumeSmoothSpec)

/-- 'paravanelaw10.VolumeMigrates', WHERE WHAT IT READS IS OF BULK AT MOST 1048576: true; the input reads as it did. -/
def volumeMigratesUptoRow : OpenClaim := { program := "ytkifejklnpddbaa", sum := "f9f11a64cbb40c37bab49b6577a2f322bef98b176a581e26123dbd66a3f213cf", func := "paravane/paravanelaw10.VolumeMigrates", spec := "volumeMigrates", unfollowed := true, recurses := true, plainKeys := false, apart := false, narrowed := true }
def VolumeMigratesUptoSaid : Prop := volumeMigratesUptoRow.holds Try.pinned (OpenSpec.upto volumeMigratesSpec)

/-- 'paravanelaw10.VolumeTruth', WHERE WHAT IT READS IS OF BULK AT MOST 1048576: true; the input reads as it did. -/
def volumeTruthUptoRow : OpenClaim := { program := "ytkifejklnpddbaa", sum := "f9f11a64cbb40c37bab49b6577a2f322bef98b176a581e26123dbd66a3f213cf", func := "paravane/paravanelaw10.VolumeTruth", spec := "volumeTruth", unfollowed := true, recurses := true, plainKeys := false, apart := false, narrowed := true }
def VolumeTruthUptoSaid : Prop := volumeTruthUptoRow.holds Try.pinned (OpenSpec.upto volumeTruthSpec)

/-- 'paravanelaw10.VolumeSingle', WHERE WHAT IT READS IS OF BULK AT MOST 1048576: true; the input reads as it did. -/
def volumeSingleUptoRow : OpenClaim := { program := "ytkifejklnpddbaa", sum := "f9f11a64cbb40c37bab49b6577a2f322bef98b176a581e26123dbd66a3f213cf", func := "paravane/paravanelaw10.VolumeSingle", spec := "volumeSingle", unfollowed := true, recurses := true, plainKeys := false, apart := false, narrowed := true }
def VolumeSingleUptoSaid : Prop := volumeSingleUptoRow.holds Try.pinned (OpenSpec.upto volumeSingleSpec)

/-- 'paravanelaw10.VolumeLinear', WHERE WHAT IT READS IS OF BULK AT MOST 1048576: true; the input reads as it did. -/
def volumeLinearUptoRow : OpenClaim := { program := "ytkifejklnpddbaa", sum := "f9f11a64cbb40c37bab49b6577a2f322bef98b176a581e26123dbd66a3f213cf", func := "paravane/paravanelaw10.VolumeLinear", spec := "volumeLinear", unfollowed := true, recurses := true, plainKeys := false, apart := false, narrowed := true }
def VolumeLinearUptoSaid : Prop := volumeLinearUptoRow.holds Try.pinned (OpenSpec.upto volumeLinearSpec)

/-- 'paravanelaw10.VolumePoint', WHERE WHAT IT READS IS OF BULK AT MOST 1048576: true; the input reads as it did. -/
def volumePointUptoRow : OpenClaim := { program := "ytkifejklnpddbaa", sum := "f9f11a64cbb40c37bab49b6577a2f322bef98b176a581e26123dbd66a3f213cf", func := "paravane/paravanelaw10.VolumePoint", spec := "volumePoint", unfollowed := true, recurses := true, plainKeys := false, apart := false, narrowed := true }
def VolumePointUptoSaid : Prop := volumePointUptoRow.holds Try.pinned (OpenSpec.upto volumePointSpec)

/-- 'paravanelaw10.VolumeSealed', WHERE WHAT IT READS IS OF BULK AT MOST 1048576: true; the input reads as it did. -/
def volumeSealedUptoRow : OpenClaim := { program := "ytkifejklnpddbaa", sum := "f9f11a64cbb40c37bab49b6577a2f322bef98b176a581e26123dbd66a3f213cf", func := "paravane/paravanelaw10.VolumeSealed", spec := "volumeSealed", unfollowed := true, recurses := true, plainKeys := false, apart := false, narrowed := true }
def VolumeSealedUptoSaid : Prop := volumeSealedUptoRow.holds Try.pinned (OpenSpec.upto volumeSealedSpec)

/-- 'paravanelaw10.VolumeAgrees', WHERE WHAT IT READS IS OF BULK AT MOST 1048576: true; the input reads as it did. -/
def volumeAgreesUptoRow : OpenClaim := { program := "ytkifejklnpddbaa", sum := "f9f11a64cbb40c37bab49b6577a2f322bef98b176a581e26123dbd66a3f213cf", func := "paravane/paravanelaw10.VolumeAgrees", spec := "volumeAgrees", unfollowed := true, recurses := true, plainKeys := false, apart := false, narrowed := true }
def VolumeAgreesUptoSaid : Prop := volumeAgreesUptoRow.holds Try.pinned (OpenSpec.upto volumeAgreesSpec)

/-- 'paravanelaw10.VolumeHorizons', WHERE WHAT IT READS IS OF BULK AT MOST 1048576: true; the input reads as it did. -/
def volumeHorizonsUptoRow : OpenClaim := { program := "ytkifejklnpddbaa", sum := "f9f11a64cbb40c37bab49b6577a2f322bef98b176a581e26123dbd66a3f213cf", func := "paravane/paravanelaw10.VolumeHorizons", spec := "volumeHorizons", unfollowed := true, recurses := true, plainKeys := false, apart := false, narrowed := true }
def VolumeHorizonsUptoSaid : Prop := volumeHorizonsUptoRow.holds Try.pinned (OpenSpec.upto volumeHorizonsSpec)

/-- 'paravanelaw10.VolumeVerifies', WHERE WHAT IT READS IS OF BULK AT MOST 1048576: true; the input reads as it did. -/
def volumeVerifiesUptoRow : OpenClaim := { program := "ytkifejklnpddbaa", sum := "f9f11a64cbb40c37bab49b6577a2f322bef98b176a581e26123dbd66a3f213cf", func := "paravane/paravanelaw10.VolumeVerifies", spec := "volumeVerifies", unfollowed := true, recurses := true, plainKeys := false, apart := false, narrowed := true }
def VolumeVerifiesUptoSaid : Prop := volumeVerifiesUptoRow.holds Try.pinned (OpenSpec.upto volumeVerifiesSpec)

/-- 'paravanelaw10.VolumeFar', WHERE WHAT IT READS IS OF BULK AT MOST 1048576: true; the input reads as it did. -/
def volumeFarUptoRow : OpenClaim := { program := "ytkifejklnpddbaa", sum := "f9f11a64cbb40c37bab49b6577a2f322bef98b176a581e26123dbd66a3f213cf", func := "paravane/paravanelaw10.VolumeFar", spec := "volumeFar", unfollowed := true, recurses := true, plainKeys := false, apart := false, narrowed := true }
def VolumeFarUptoSaid : Prop := volumeFarUptoRow.holds Try.pinned (OpenSpec.upto volumeFarSpec)

/-- 'paravanelaw10.VolumeWhole', WHERE WHAT IT READS IS OF BULK AT MOST 1048576: true; the input reads as it did. -/
def volumeWholeUptoRow : OpenClaim := { program := "ytkifejklnpddbaa", sum := "f9f11a64cbb40c37bab49b6577a2f322bef98b176a581e26123dbd66a3f213cf", func := "paravane/paravanelaw10.VolumeWhole", spec := "volumeWhole", unfollowed := true, recurses := true, plainKeys := false, apart := false, narrowed := true }
def VolumeWholeUptoSaid : Prop := volumeWholeUptoRow.holds Try.pinned (OpenSpec.upto volumeWholeSpec)

/-- 'paravanelaw10.VolumeKnown', WHERE WHAT IT READS IS OF BULK AT MOST 1048576: true; the input reads as it did. -/
def volumeKnownUptoRow : OpenClaim := { program := "ytkifejklnpddbaa", sum := "f9f11a64cbb40c37bab49b6577a2f322bef98b176a581e26123dbd66a3f213cf", func := "paravane/paravanelaw10.VolumeKnown", spec := "volumeKnown", unfollowed := true, recurses := true, plainKeys := false, apart := false, narrowed := true }
def VolumeKnownUptoSaid : Prop := volumeKnownUptoRow.holds Try.pinned (OpenSpec.upto volumeKnownSpec)

/-- 'paravanelaw10.VolumeCuts', WHERE WHAT IT READS IS OF BULK AT MOST 1048576: true; the input reads as it did. -/
def volumeCutsUptoRow : OpenClaim := { program := "ytkifejklnpddbaa", sum := "f9f11a64cbb40c37bab49b6577a2f322bef98b176a581e26123dbd66a3f213cf", func := "paravane/paravanelaw10.VolumeCuts", spec := "volumeCuts", unfollowed := true, recurses := true, plainKeys := false, apart := false, narrowed := true }
def VolumeCutsUptoSaid : Prop := volumeCutsUptoRow.holds Try.pinned (OpenSpec.upto volumeCutsSpec)

/-- 'paravanelaw10.VolumeFilled', WHERE WHAT IT READS IS OF BULK AT MOST 1048576: true; the input reads as it did. -/
def volumeFilledUptoRow : OpenClaim := { program := "ytkifejklnpddbaa", sum := "f9f11a64cbb40c37bab49b6577a2f322bef98b176a581e26123dbd66a3f213cf", func := "paravane/paravanelaw10.VolumeFilled", spec := "volumeFilled", unfollowed := true, recurses := true, plainKeys := false, apart := false, narrowed := true }
def VolumeFilledUptoSaid : Prop := volumeFilledUptoRow.holds Try.pinned (OpenSpec.upto volumeFilledSpec)

end Rows
end Go.Proofs.Ytkifejklnpddbaa
