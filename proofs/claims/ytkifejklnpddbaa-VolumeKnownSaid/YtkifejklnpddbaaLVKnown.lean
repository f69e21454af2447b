/-
  VolumeKnown holds: the known cases come out as the chapter says.
-/
import Derived.Test.YtkifejklnpddbaaLVKnown2

set_option linter.unusedVariables false
set_option linter.unusedSimpArgs false
namespace Go.Proofs.Ytkifejklnpddbaa
open Go.Am Go.ChangeShapes Go.WideShapes Go.ChangeAt Go.RowKit

set_option maxRecDepth 100000 in
theorem vVolumeKnown_lifted (os : Os) (started : os.Started) (H : Type) (enc : TypeId × Value → H) :
    ReturnsInHanded {} Try.checked os 23 .any (Rows.volumeKnownSpec.pre6 enc Try.prog Try.f23 Rows.volumeKnownRow.domain false) (Rows.volumeKnownSpec.post enc Try.prog Try.f23 false true false false) := by
  refine returnsInHanded_of_change (C := Try.checked) own started (by kernel_rfl) Try.func23
    (ChangeSpec.witness6 (enc := enc) (C := Try.checked) false ⟨#[], #[], []⟩ 8 (by kernel_rfl) (by kernel_rfl) (by kernel_rfl) (by kernel_rfl)) ?_
  intro W base args ds gs before hval0 hW hcnd _
  have hval : ∀ (j : Nat) t v, Try.f23.params[j]? = some t → args[j]? = some v → Value.okWide Try.prog W .any base t v := hval0
  have hW' := hW
  obtain ⟨p, q, hA0, hV, rfl, hfz, hnd⟩ := hW
  have hA : DataW.TrodAll enc Try.prog W 0 (fun _ => true) true Try.f23.params.toList args.toList ds p := hA0
  rw [Try.params23] at hA hval
  obtain ⟨hargs, rfl, rfl⟩ := trodAll_nil hA
  obtain rfl : args = #[] := by cases args; simp_all
  obtain ⟨rfl, rfl⟩ := trodVars_none hV
  clear hA0 hval0
  refine (walk_of (c_VolumeKnown) (repL0 )).mono fun e W' ⟨he, bel⟩ => ?_
  subst he
  exact ⟨_, rfl, _, _, _, [], _, [], hW', trodAll_mk1 (shut_bool Try.underlying4 _), trodAll_mk0, rfl, bel.frame _, fun h => by cases h⟩

theorem vVolumeKnown_inPlace : Try.prog.inPlace 23 = [] := by kernel_rfl
theorem vVolumeKnown_unfollowed : Try.prog.unfollowed 23 = true := by kernel_rfl
theorem vVolumeKnown_recurses : Try.prog.recurses 23 = true := by kernel_rfl
theorem vVolumeKnown_varsNamed : Try.prog.varsNamed 23 = [] := by kernel_rfl
theorem vVolumeKnown_joined : joinedFacts Try.pinned.checked.prog 23 Try.f23 Rows.volumeKnownSpec Rows.volumeKnownRow = true := by
  show joinedFacts Try.prog 23 Try.f23 Rows.volumeKnownSpec Rows.volumeKnownRow = true
  unfold joinedFacts
  rw [may, lifts, made, heard, plain, rowed, laidOut, vVolumeKnown_inPlace, vVolumeKnown_unfollowed, vVolumeKnown_recurses, vVolumeKnown_varsNamed]
  kernel_rfl

/-- ████ THE STATEMENT ████ -/
theorem vVolumeKnown_proved : Rows.VolumeKnownSaid :=
  OpenClaim.holds_of_wide 23 Try.f23 rfl rfl rfl rfl rfl rfl rfl ⟨rfl, rfl, rfl, rfl, rfl⟩ rfl rfl rfl rfl rfl (by kernel_rfl) Try.func23 vVolumeKnown_joined
    (of_decide_eq_true (by kernel_rfl)) (by unfold Func.isWrapper; first | (rw [if_pos (by decide +kernel)]; kernel_rfl) | (rw [if_neg (by decide +kernel)]; exact ⟨rfl, rfl⟩))
    (fun os started H enc _ => vVolumeKnown_lifted os started H enc)
#print axioms vVolumeKnown_proved

end Go.Proofs.Ytkifejklnpddbaa
