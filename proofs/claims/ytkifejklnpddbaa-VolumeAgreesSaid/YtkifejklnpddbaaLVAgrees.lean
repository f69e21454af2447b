/-
  VolumeAgrees holds: joining is the same both ways, and both parts are cut from the whole as they were, for any two volumes.
-/
import Derived.Test.YtkifejklnpddbaaLVAgrees1

set_option linter.unusedVariables false
set_option linter.unusedSimpArgs false
namespace Go.Proofs.Ytkifejklnpddbaa
open Go.Am Go.ChangeShapes Go.WideShapes Go.ChangeAt Go.RowKit

set_option maxRecDepth 100000 in
theorem vVolumeAgrees_lifted (os : Os) (started : os.Started) (H : Type) (enc : TypeId × Value → H) :
    ReturnsInHanded {} Try.checked os 18 .any (Rows.volumeAgreesSpec.pre6 enc Try.prog Try.f18 Rows.volumeAgreesRow.domain false) (Rows.volumeAgreesSpec.post enc Try.prog Try.f18 false true false false) := by
  refine returnsInHanded_of_change (C := Try.checked) own started (by kernel_rfl) Try.func18
    (ChangeSpec.witness6 (enc := enc) (C := Try.checked) false ⟨#[], #[.agg #[.int .i64 0, .int .i64 0, .int .i64 0, .int .i64 0, .int .i64 0, .int .i64 0, .slice none 0 0], .agg #[.int .i64 0, .int .i64 0, .int .i64 0, .int .i64 0, .int .i64 0, .int .i64 0, .slice none 0 0]], []⟩ 8 (by kernel_rfl) (by kernel_rfl) (by kernel_rfl) (by kernel_rfl)) ?_
  intro W base args ds gs before hval0 hW hcnd _
  have hval : ∀ (j : Nat) t v, Try.f18.params[j]? = some t → args[j]? = some v → Value.okWide Try.prog W .any base t v := hval0
  have hW' := hW
  obtain ⟨p, q, hA0, hV, rfl, hfz, hnd⟩ := hW
  have hA : DataW.TrodAll enc Try.prog W 0 (fun _ => true) true Try.f18.params.toList args.toList ds p := hA0
  rw [Try.params18] at hA hval
  obtain ⟨v0', vs0, d0, ds0, p0', q0, hargs, rfl, rfl, h0, r0⟩ := trodAll_cons hA
  obtain ⟨v1', vs1, d1, ds1, p1', q1, rfl, rfl, rfl, h1, r1⟩ := trodAll_cons r0
  obtain ⟨rfl, rfl, rfl⟩ := trodAll_nil r1
  obtain rfl : args = #[v0', v1'] := by cases args; simp_all
  obtain ⟨rfl, rfl⟩ := trodVars_none hV
  have lt0 : ∀ x ∈ p0', x.block < W.heap.size := by obtain ⟨m, hm⟩ := h0; exact DataW.trod_lt m _ _ _ hm
  have lt1 : ∀ x ∈ p1', x.block < W.heap.size := by obtain ⟨m, hm⟩ := h1; exact DataW.trod_lt m _ _ _ hm
  obtain ⟨u0, ⟨v0, hv0, rfl⟩, rep0⟩ := arg_agg (by kernel_rfl) rd_vol (hval 0 55 v0' rfl rfl) h0
  obtain ⟨u1, ⟨v1, hv1, rfl⟩, rep1⟩ := arg_agg (by kernel_rfl) rd_vol (hval 1 55 v1' rfl rfl) h1
  clear hA0 hval0
  refine (walk_of (c_VolumeAgrees v0 v1 hv0 hv1) (repL2 rep0 rep1)).mono fun e W' ⟨he, bel⟩ => ?_
  subst he
  exact ⟨_, rfl, _, _, _, [], _, [], hW', trodAll_mk1 (shut_bool Try.underlying4 _), (trodAll_cons_mk (Below.trod laidOut (by kernel_rfl) (of_decide_eq_true (by kernel_rfl)) h0 bel lt0) (trodAll_cons_mk (Below.trod laidOut (by kernel_rfl) (of_decide_eq_true (by kernel_rfl)) h1 bel lt1) trodAll_mk0)), rfl, bel.frame _, fun h => by cases h⟩

theorem vVolumeAgrees_inPlace : Try.prog.inPlace 18 = [] := by kernel_rfl
theorem vVolumeAgrees_unfollowed : Try.prog.unfollowed 18 = true := by kernel_rfl
theorem vVolumeAgrees_recurses : Try.prog.recurses 18 = true := by kernel_rfl
theorem vVolumeAgrees_varsNamed : Try.prog.varsNamed 18 = [] := by kernel_rfl
theorem vVolumeAgrees_joined : joinedFacts Try.pinned.checked.prog 18 Try.f18 Rows.volumeAgreesSpec Rows.volumeAgreesRow = true := by
  show joinedFacts Try.prog 18 Try.f18 Rows.volumeAgreesSpec Rows.volumeAgreesRow = true
  unfold joinedFacts
  rw [may, lifts, made, heard, plain, rowed, laidOut, vVolumeAgrees_inPlace, vVolumeAgrees_unfollowed, vVolumeAgrees_recurses, vVolumeAgrees_varsNamed]
  kernel_rfl

/-- ████ THE STATEMENT ████ -/
theorem vVolumeAgrees_proved : Rows.VolumeAgreesSaid :=
  OpenClaim.holds_of_wide 18 Try.f18 rfl rfl rfl rfl rfl rfl rfl ⟨rfl, rfl, rfl, rfl, rfl⟩ rfl rfl rfl rfl rfl (by kernel_rfl) Try.func18 vVolumeAgrees_joined
    (of_decide_eq_true (by kernel_rfl)) (by unfold Func.isWrapper; first | (rw [if_pos (by decide +kernel)]; kernel_rfl) | (rw [if_neg (by decide +kernel)]; exact ⟨rfl, rfl⟩))
    (fun os started H enc _ => vVolumeAgrees_lifted os started H enc)
#print axioms vVolumeAgrees_proved

end Go.Proofs.Ytkifejklnpddbaa
