/-
  VolumeRings holds: Ring and Unring return what the chapter says, for any samples and numbers.
-/
import Derived.Test.YtkifejklnpddbaaLVRings1

set_option linter.unusedVariables false
set_option linter.unusedSimpArgs false
namespace Go.Proofs.Ytkifejklnpddbaa
open Go.Am Go.ChangeShapes Go.WideShapes Go.ChangeAt Go.RowKit

set_option maxRecDepth 100000 in
theorem vVolumeRings_lifted (os : Os) (started : os.Started) (H : Type) (enc : TypeId × Value → H) :
    ReturnsInHanded {} Try.checked os 6 .any (Rows.volumeRingsSpec.pre6 enc Try.prog Try.f6 Rows.volumeRingsRow.domain false) (Rows.volumeRingsSpec.post enc Try.prog Try.f6 false true false false) := by
  refine returnsInHanded_of_change (C := Try.checked) own started (by kernel_rfl) Try.func6
    (ChangeSpec.witness6 (enc := enc) (C := Try.checked) false ⟨#[], #[.slice none 0 0, .int .i64 0, .int .i64 0], []⟩ 8 (by kernel_rfl) (by kernel_rfl) (by kernel_rfl) (by kernel_rfl)) ?_
  intro W base args ds gs before hval0 hW hcnd _
  have hval : ∀ (j : Nat) t v, Try.f6.params[j]? = some t → args[j]? = some v → Value.okWide Try.prog W .any base t v := hval0
  have hW' := hW
  obtain ⟨p, q, hA0, hV, rfl, hfz, hnd⟩ := hW
  have hA : DataW.TrodAll enc Try.prog W 0 (fun _ => true) true Try.f6.params.toList args.toList ds p := hA0
  rw [Try.params6] at hA hval
  obtain ⟨v0', vs0, d0, ds0, p0', q0, hargs, rfl, rfl, h0, r0⟩ := trodAll_cons hA
  obtain ⟨v1', vs1, d1, ds1, p1', q1, rfl, rfl, rfl, h1, r1⟩ := trodAll_cons r0
  obtain ⟨v2', vs2, d2, ds2, p2', q2, rfl, rfl, rfl, h2, r2⟩ := trodAll_cons r1
  obtain ⟨rfl, rfl, rfl⟩ := trodAll_nil r2
  obtain rfl : args = #[v0', v1', v2'] := by cases args; simp_all
  obtain ⟨rfl, rfl⟩ := trodVars_none hV
  have lt0 : ∀ x ∈ p0', x.block < W.heap.size := by obtain ⟨m, hm⟩ := h0; exact DataW.trod_lt m _ _ _ hm
  have lt1 : ∀ x ∈ p1', x.block < W.heap.size := by obtain ⟨m, hm⟩ := h1; exact DataW.trod_lt m _ _ _ hm
  have lt2 : ∀ x ∈ p2', x.block < W.heap.size := by obtain ⟨m, hm⟩ := h2; exact DataW.trod_lt m _ _ _ hm
  obtain ⟨aa0, len0, cap0, rfl⟩ := okWide_slice Try.underlying49 (hval 0 49 v0' rfl rfl)
  obtain ⟨u0, ⟨l0, hl0, hu0⟩, rep0⟩ := arg_one (by rfl) rd_ints h0
  cases hu0
  obtain ⟨m1, rfl⟩ := okWide_int Try.underlying3 (hval 1 3 v1' rfl rfl)
  obtain ⟨u1, ⟨n1, hu1, lo1, hi1⟩, rep1⟩ := arg_one (by rfl) rd_int h1
  cases hu1
  obtain ⟨m2, rfl⟩ := okWide_int Try.underlying3 (hval 2 3 v2' rfl rfl)
  obtain ⟨u2, ⟨n2, hu2, lo2, hi2⟩, rep2⟩ := arg_one (by rfl) rd_int h2
  cases hu2
  clear hA0 hval0
  refine (walk_of (c_VolumeRings l0 n1 n2 hl0) (repL3 rep0 rep1 rep2)).mono fun e W' ⟨he, bel⟩ => ?_
  subst he
  exact ⟨_, rfl, _, _, _, [], _, [], hW', trodAll_mk1 (shut_bool Try.underlying4 _), (trodAll_cons_mk (Below.trod laidOut (by kernel_rfl) (of_decide_eq_true (by kernel_rfl)) h0 bel lt0) (trodAll_cons_mk (Below.trod laidOut (by kernel_rfl) (of_decide_eq_true (by kernel_rfl)) h1 bel lt1) (trodAll_cons_mk (Below.trod laidOut (by kernel_rfl) (of_decide_eq_true (by kernel_rfl)) h2 bel lt2) trodAll_mk0))), rfl, bel.frame _, fun h => by cases h⟩

theorem vVolumeRings_inPlace : Try.prog.inPlace 6 = [] := by kernel_rfl
theorem vVolumeRings_unfollowed : Try.prog.unfollowed 6 = true := by kernel_rfl
theorem vVolumeRings_recurses : Try.prog.recurses 6 = true := by kernel_rfl
theorem vVolumeRings_varsNamed : Try.prog.varsNamed 6 = [] := by kernel_rfl
theorem vVolumeRings_joined : joinedFacts Try.pinned.checked.prog 6 Try.f6 Rows.volumeRingsSpec Rows.volumeRingsRow = true := by
  show joinedFacts Try.prog 6 Try.f6 Rows.volumeRingsSpec Rows.volumeRingsRow = true
  unfold joinedFacts
  rw [may, lifts, made, heard, plain, rowed, laidOut, vVolumeRings_inPlace, vVolumeRings_unfollowed, vVolumeRings_recurses, vVolumeRings_varsNamed]
  kernel_rfl

/-- ████ THE STATEMENT ████ -/
theorem vVolumeRings_proved : Rows.VolumeRingsSaid :=
  OpenClaim.holds_of_wide 6 Try.f6 rfl rfl rfl rfl rfl rfl rfl ⟨rfl, rfl, rfl, rfl, rfl⟩ rfl rfl rfl rfl rfl (by kernel_rfl) Try.func6 vVolumeRings_joined
    (of_decide_eq_true (by kernel_rfl)) (by unfold Func.isWrapper; first | (rw [if_pos (by decide +kernel)]; kernel_rfl) | (rw [if_neg (by decide +kernel)]; exact ⟨rfl, rfl⟩))
    (fun os started H enc _ => vVolumeRings_lifted os started H enc)
#print axioms vVolumeRings_proved

end Go.Proofs.Ytkifejklnpddbaa
