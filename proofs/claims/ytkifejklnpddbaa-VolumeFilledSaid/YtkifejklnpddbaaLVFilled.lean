/-
  VolumeFilled holds: where samples are missing, and what is known of them is between what their neighbours allow, the image of the true samples lies in the enclosures, for any truth and box.
-/
import Derived.Test.YtkifejklnpddbaaLVFilled2

set_option linter.unusedVariables false
set_option linter.unusedSimpArgs false
namespace Go.Proofs.Ytkifejklnpddbaa
open Go.Am Go.ChangeShapes Go.WideShapes Go.ChangeAt Go.RowKit

set_option maxRecDepth 100000 in
theorem vVolumeFilled_lifted (os : Os) (started : os.Started) (H : Type) (enc : TypeId × Value → H) :
    ReturnsInHanded {} Try.checked os 25 .any (Rows.volumeFilledSpec.pre6 enc Try.prog Try.f25 Rows.volumeFilledRow.domain false) (Rows.volumeFilledSpec.post enc Try.prog Try.f25 false true false false) := by
  refine returnsInHanded_of_change (C := Try.checked) own started (by kernel_rfl) Try.func25
    (ChangeSpec.witness6 (enc := enc) (C := Try.checked) false ⟨#[], #[.agg #[.slice none 0 0, .slice none 0 0, .slice none 0 0, .int .i64 0], .agg #[.int .i64 0, .int .i64 0, .int .i64 0, .int .i64 0, .int .i64 0, .int .i64 0, .int .i64 0, .int .i64 0, .int .i64 0]], []⟩ 8 (by kernel_rfl) (by kernel_rfl) (by kernel_rfl) (by kernel_rfl)) ?_
  intro W base args ds gs before hval0 hW hcnd _
  have hval : ∀ (j : Nat) t v, Try.f25.params[j]? = some t → args[j]? = some v → Value.okWide Try.prog W .any base t v := hval0
  have hW' := hW
  obtain ⟨p, q, hA0, hV, rfl, hfz, hnd⟩ := hW
  have hA : DataW.TrodAll enc Try.prog W 0 (fun _ => true) true Try.f25.params.toList args.toList ds p := hA0
  rw [Try.params25] at hA hval
  obtain ⟨v0', vs0, d0, ds0, p0', q0, hargs, rfl, rfl, h0, r0⟩ := trodAll_cons hA
  obtain ⟨v1', vs1, d1, ds1, p1', q1, rfl, rfl, rfl, h1, r1⟩ := trodAll_cons r0
  obtain ⟨rfl, rfl, rfl⟩ := trodAll_nil r1
  obtain rfl : args = #[v0', v1'] := by cases args; simp_all
  obtain ⟨rfl, rfl⟩ := trodVars_none hV
  have lt0 : ∀ x ∈ p0', x.block < W.heap.size := by obtain ⟨m, hm⟩ := h0; exact DataW.trod_lt m _ _ _ hm
  have lt1 : ∀ x ∈ p1', x.block < W.heap.size := by obtain ⟨m, hm⟩ := h1; exact DataW.trod_lt m _ _ _ hm
  obtain ⟨u0, ⟨x0, hx0, rfl⟩, rep0⟩ := arg_agg (by kernel_rfl) rd_heard (hval 0 105 v0' rfl rfl) h0
  obtain ⟨u1, ⟨b1, ap1, sl1, rfl⟩, rep1⟩ := arg_agg (by kernel_rfl) rd_box (hval 1 41 v1' rfl rfl) h1
  clear hA0 hval0
  refine (walk_of (c_VolumeFilled hx0 b1 ap1 sl1) (repL2 rep0 rep1)).mono fun e W' ⟨he, bel⟩ => ?_
  subst he
  exact ⟨_, rfl, _, _, _, [], _, [], hW', trodAll_mk1 (shut_bool Try.underlying4 _), (trodAll_cons_mk (Below.trod laidOut (by kernel_rfl) (of_decide_eq_true (by kernel_rfl)) h0 bel lt0) (trodAll_cons_mk (Below.trod laidOut (by kernel_rfl) (of_decide_eq_true (by kernel_rfl)) h1 bel lt1) trodAll_mk0)), rfl, bel.frame _, fun h => by cases h⟩

theorem vVolumeFilled_inPlace : Try.prog.inPlace 25 = [] := by kernel_rfl
theorem vVolumeFilled_unfollowed : Try.prog.unfollowed 25 = true := by kernel_rfl
theorem vVolumeFilled_recurses : Try.prog.recurses 25 = true := by kernel_rfl
theorem vVolumeFilled_varsNamed : Try.prog.varsNamed 25 = [] := by kernel_rfl
theorem vVolumeFilled_joined : joinedFacts Try.pinned.checked.prog 25 Try.f25 Rows.volumeFilledSpec Rows.volumeFilledRow = true := by
  show joinedFacts Try.prog 25 Try.f25 Rows.volumeFilledSpec Rows.volumeFilledRow = true
  unfold joinedFacts
  rw [may, lifts, made, heard, plain, rowed, laidOut, vVolumeFilled_inPlace, vVolumeFilled_unfollowed, vVolumeFilled_recurses, vVolumeFilled_varsNamed]
  kernel_rfl

/-- ████ THE STATEMENT ████ -/
theorem vVolumeFilled_proved : Rows.VolumeFilledSaid :=
  OpenClaim.holds_of_wide 25 Try.f25 rfl rfl rfl rfl rfl rfl rfl ⟨rfl, rfl, rfl, rfl, rfl⟩ rfl rfl rfl rfl rfl (by kernel_rfl) Try.func25 vVolumeFilled_joined
    (of_decide_eq_true (by kernel_rfl)) (by unfold Func.isWrapper; first | (rw [if_pos (by decide +kernel)]; kernel_rfl) | (rw [if_neg (by decide +kernel)]; exact ⟨rfl, rfl⟩))
    (fun os started H enc _ => vVolumeFilled_lifted os started H enc)
#print axioms vVolumeFilled_proved

end Go.Proofs.Ytkifejklnpddbaa
