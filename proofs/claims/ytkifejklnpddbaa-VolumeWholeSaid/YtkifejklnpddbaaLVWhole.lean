/-
  VolumeWhole holds: parts of a volume that are cut make it again when they are joined, for any volume, and where it is cut.
-/
import Derived.Test.YtkifejklnpddbaaLVWhole1

set_option linter.unusedVariables false
set_option linter.unusedSimpArgs false
namespace Go.Proofs.Ytkifejklnpddbaa
open Go.Am Go.ChangeShapes Go.WideShapes Go.ChangeAt Go.RowKit

set_option maxRecDepth 100000 in
theorem vVolumeWhole_lifted (os : Os) (started : os.Started) (H : Type) (enc : TypeId × Value → H) :
    ReturnsInHanded {} Try.checked os 22 .any (Rows.volumeWholeSpec.pre6 enc Try.prog Try.f22 Rows.volumeWholeRow.domain false) (Rows.volumeWholeSpec.post enc Try.prog Try.f22 false true false false) := by
  refine returnsInHanded_of_change (C := Try.checked) own started (by kernel_rfl) Try.func22
    (ChangeSpec.witness6 (enc := enc) (C := Try.checked) false ⟨#[], #[.agg #[.int .i64 0, .int .i64 0, .int .i64 0, .int .i64 0, .int .i64 0, .int .i64 0, .slice none 0 0], .agg #[.int .i64 0, .int .i64 0, .int .i64 0]], []⟩ 8 (by kernel_rfl) (by kernel_rfl) (by kernel_rfl) (by kernel_rfl)) ?_
  intro W base args ds gs before hval0 hW hcnd _
  have hval : ∀ (j : Nat) t v, Try.f22.params[j]? = some t → args[j]? = some v → Value.okWide Try.prog W .any base t v := hval0
  have hW' := hW
  obtain ⟨p, q, hA0, hV, rfl, hfz, hnd⟩ := hW
  have hA : DataW.TrodAll enc Try.prog W 0 (fun _ => true) true Try.f22.params.toList args.toList ds p := hA0
  rw [Try.params22] at hA hval
  obtain ⟨v0', vs0, d0, ds0, p0', q0, hargs, rfl, rfl, h0, r0⟩ := trodAll_cons hA
  obtain ⟨v1', vs1, d1, ds1, p1', q1, rfl, rfl, rfl, h1, r1⟩ := trodAll_cons r0
  obtain ⟨rfl, rfl, rfl⟩ := trodAll_nil r1
  obtain rfl : args = #[v0', v1'] := by cases args; simp_all
  obtain ⟨rfl, rfl⟩ := trodVars_none hV
  have lt0 : ∀ x ∈ p0', x.block < W.heap.size := by obtain ⟨m, hm⟩ := h0; exact DataW.trod_lt m _ _ _ hm
  have lt1 : ∀ x ∈ p1', x.block < W.heap.size := by obtain ⟨m, hm⟩ := h1; exact DataW.trod_lt m _ _ _ hm
  obtain ⟨u0, ⟨v0, hv0, rfl⟩, rep0⟩ := arg_agg (by kernel_rfl) rd_vol (hval 0 55 v0' rfl rfl) h0
  obtain ⟨u1, ⟨a1, b1, c1, rfl⟩, rep1⟩ := arg_agg (by kernel_rfl) rd_int3 (hval 1 23 v1' rfl rfl) h1
  clear hA0 hval0
  refine (walk_of (c_VolumeWhole v0 a1 b1 c1 hv0) (repL2 rep0 rep1)).mono fun e W' ⟨he, bel⟩ => ?_
  subst he
  exact ⟨_, rfl, _, _, _, [], _, [], hW', trodAll_mk1 (shut_bool Try.underlying4 _), (trodAll_cons_mk (Below.trod laidOut (by kernel_rfl) (of_decide_eq_true (by kernel_rfl)) h0 bel lt0) (trodAll_cons_mk (Below.trod laidOut (by kernel_rfl) (of_decide_eq_true (by kernel_rfl)) h1 bel lt1) trodAll_mk0)), rfl, bel.frame _, fun h => by cases h⟩

theorem vVolumeWhole_inPlace : Try.prog.inPlace 22 = [] := by kernel_rfl
theorem vVolumeWhole_unfollowed : Try.prog.unfollowed 22 = true := by kernel_rfl
theorem vVolumeWhole_recurses : Try.prog.recurses 22 = true := by kernel_rfl
theorem vVolumeWhole_varsNamed : Try.prog.varsNamed 22 = [] := by kernel_rfl
theorem vVolumeWhole_joined : joinedFacts Try.pinned.checked.prog 22 Try.f22 Rows.volumeWholeSpec Rows.volumeWholeRow = true := by
  show joinedFacts Try.prog 22 Try.f22 Rows.volumeWholeSpec Rows.volumeWholeRow = true
  unfold joinedFacts
  rw [may, lifts, made, heard, plain, rowed, laidOut, vVolumeWhole_inPlace, vVolumeWhole_unfollowed, vVolumeWhole_recurses, vVolumeWhole_varsNamed]
  kernel_rfl

/-- ████ THE STATEMENT ████ -/
theorem vVolumeWhole_proved : Rows.VolumeWholeSaid :=
  OpenClaim.holds_of_wide 22 Try.f22 rfl rfl rfl rfl rfl rfl rfl ⟨rfl, rfl, rfl, rfl, rfl⟩ rfl rfl rfl rfl rfl (by kernel_rfl) Try.func22 vVolumeWhole_joined
    (of_decide_eq_true (by kernel_rfl)) (by unfold Func.isWrapper; first | (rw [if_pos (by decide +kernel)]; kernel_rfl) | (rw [if_neg (by decide +kernel)]; exact ⟨rfl, rfl⟩))
    (fun os started H enc _ => vVolumeWhole_lifted os started H enc)
#print axioms vVolumeWhole_proved

end Go.Proofs.Ytkifejklnpddbaa
