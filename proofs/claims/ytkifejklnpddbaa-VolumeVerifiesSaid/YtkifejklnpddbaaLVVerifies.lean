/-
  VolumeVerifies holds: Verify returns what the chapter says, for any echoes, numbers and value.
-/
import Derived.Test.YtkifejklnpddbaaLVVerifies1

set_option linter.unusedVariables false
set_option linter.unusedSimpArgs false
namespace Go.Proofs.Ytkifejklnpddbaa
open Go.Am Go.ChangeShapes Go.WideShapes Go.ChangeAt Go.RowKit

set_option maxRecDepth 100000 in
theorem vVolumeVerifies_lifted (os : Os) (started : os.Started) (H : Type) (enc : TypeId × Value → H) :
    ReturnsInHanded {} Try.checked os 20 .any (Rows.volumeVerifiesSpec.pre6 enc Try.prog Try.f20 Rows.volumeVerifiesRow.domain false) (Rows.volumeVerifiesSpec.post enc Try.prog Try.f20 false true false false) := by
  refine returnsInHanded_of_change (C := Try.checked) own started (by kernel_rfl) Try.func20
    (ChangeSpec.witness6 (enc := enc) (C := Try.checked) false ⟨#[], #[.slice none 0 0, .agg #[.int .i64 0, .int .i64 0], .agg #[.bool false, .int .i64 0, .int .i64 0, .int .i64 0, .int .i64 0, .int .i64 0, .int .i64 0, .int .i64 0, .int .i64 0, .int .i64 0, .slice none 0 0, .int .i64 0, .int .i64 0]], []⟩ 8 (by kernel_rfl) (by kernel_rfl) (by kernel_rfl) (by kernel_rfl)) ?_
  intro W base args ds gs before hval0 hW hcnd _
  have hval : ∀ (j : Nat) t v, Try.f20.params[j]? = some t → args[j]? = some v → Value.okWide Try.prog W .any base t v := hval0
  have hW' := hW
  obtain ⟨p, q, hA0, hV, rfl, hfz, hnd⟩ := hW
  have hA : DataW.TrodAll enc Try.prog W 0 (fun _ => true) true Try.f20.params.toList args.toList ds p := hA0
  rw [Try.params20] at hA hval
  obtain ⟨v0', vs0, d0, ds0, p0', q0, hargs, rfl, rfl, h0, r0⟩ := trodAll_cons hA
  obtain ⟨v1', vs1, d1, ds1, p1', q1, rfl, rfl, rfl, h1, r1⟩ := trodAll_cons r0
  obtain ⟨v2', vs2, d2, ds2, p2', q2, rfl, rfl, rfl, h2, r2⟩ := trodAll_cons r1
  obtain ⟨rfl, rfl, rfl⟩ := trodAll_nil r2
  obtain rfl : args = #[v0', v1', v2'] := by cases args; simp_all
  obtain ⟨rfl, rfl⟩ := trodVars_none hV
  have lt0 : ∀ x ∈ p0', x.block < W.heap.size := by obtain ⟨m, hm⟩ := h0; exact DataW.trod_lt m _ _ _ hm
  have lt1 : ∀ x ∈ p1', x.block < W.heap.size := by obtain ⟨m, hm⟩ := h1; exact DataW.trod_lt m _ _ _ hm
  have lt2 : ∀ x ∈ p2', x.block < W.heap.size := by obtain ⟨m, hm⟩ := h2; exact DataW.trod_lt m _ _ _ hm
  obtain ⟨aa0, len0, cap0, rfl⟩ := okWide_slice Try.underlying22 (hval 0 22 v0' rfl rfl)
  obtain ⟨u0, ⟨l0, hl0, hu0⟩, rep0⟩ := arg_one (by rfl) rd_echoes h0
  cases hu0
  obtain ⟨u1, ⟨a1, b1, rfl⟩, rep1⟩ := arg_agg (by kernel_rfl) rd_int2 (hval 1 30 v1' rfl rfl) h1
  obtain ⟨u2, ⟨x2, hx2, rfl⟩, rep2⟩ := arg_agg (by kernel_rfl) rd_asserted (hval 2 92 v2' rfl rfl) h2
  clear hA0 hval0
  refine (walk_of (c_VolumeVerifies hl0 a1 b1 hx2) (repL3 rep0 rep1 rep2)).mono fun e W' ⟨he, bel⟩ => ?_
  subst he
  exact ⟨_, rfl, _, _, _, [], _, [], hW', trodAll_mk1 (shut_bool Try.underlying4 _), (trodAll_cons_mk (Below.trod laidOut (by kernel_rfl) (of_decide_eq_true (by kernel_rfl)) h0 bel lt0) (trodAll_cons_mk (Below.trod laidOut (by kernel_rfl) (of_decide_eq_true (by kernel_rfl)) h1 bel lt1) (trodAll_cons_mk (Below.trod laidOut (by kernel_rfl) (of_decide_eq_true (by kernel_rfl)) h2 bel lt2) trodAll_mk0))), rfl, bel.frame _, fun h => by cases h⟩

theorem vVolumeVerifies_inPlace : Try.prog.inPlace 20 = [] := by kernel_rfl
theorem vVolumeVerifies_unfollowed : Try.prog.unfollowed 20 = true := by kernel_rfl
theorem vVolumeVerifies_recurses : Try.prog.recurses 20 = true := by kernel_rfl
theorem vVolumeVerifies_varsNamed : Try.prog.varsNamed 20 = [] := by kernel_rfl
theorem vVolumeVerifies_joined : joinedFacts Try.pinned.checked.prog 20 Try.f20 Rows.volumeVerifiesSpec Rows.volumeVerifiesRow = true := by
  show joinedFacts Try.prog 20 Try.f20 Rows.volumeVerifiesSpec Rows.volumeVerifiesRow = true
  unfold joinedFacts
  rw [may, lifts, made, heard, plain, rowed, laidOut, vVolumeVerifies_inPlace, vVolumeVerifies_unfollowed, vVolumeVerifies_recurses, vVolumeVerifies_varsNamed]
  kernel_rfl

/-- ████ THE STATEMENT ████ -/
theorem vVolumeVerifies_proved : Rows.VolumeVerifiesSaid :=
  OpenClaim.holds_of_wide 20 Try.f20 rfl rfl rfl rfl rfl rfl rfl ⟨rfl, rfl, rfl, rfl, rfl⟩ rfl rfl rfl rfl rfl (by kernel_rfl) Try.func20 vVolumeVerifies_joined
    (of_decide_eq_true (by kernel_rfl)) (by unfold Func.isWrapper; first | (rw [if_pos (by decide +kernel)]; kernel_rfl) | (rw [if_neg (by decide +kernel)]; exact ⟨rfl, rfl⟩))
    (fun os started H enc _ => vVolumeVerifies_lifted os started H enc)
#print axioms vVolumeVerifies_proved

end Go.Proofs.Ytkifejklnpddbaa
