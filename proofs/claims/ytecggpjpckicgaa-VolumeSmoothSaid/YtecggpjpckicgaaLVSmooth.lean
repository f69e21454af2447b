/-
  VolumeSmooth holds: with a greater slope, or a greater value, the best horizon is not worth less, for any section, slope, and what is more.
-/
import Derived.Test.YtecggpjpckicgaaLVSmooth1

set_option linter.unusedVariables false
set_option linter.unusedSimpArgs false
namespace Go.Proofs.Ytecggpjpckicgaa
open Go.Am Go.ChangeShapes Go.WideShapes Go.ChangeAt Go.RowKit

set_option maxRecDepth 100000 in
theorem vVolumeSmooth_lifted (os : Os) (started : os.Started) (H : Type) (enc : TypeId × Value → H) :
    ReturnsInHanded {} Try.checked os 7 .any (Rows.volumeSmoothSpec.pre6 enc Try.prog Try.f7 Rows.volumeSmoothRow.domain false) (Rows.volumeSmoothSpec.post enc Try.prog Try.f7 false true false false) := by
  refine returnsInHanded_of_change (C := Try.checked) own started (by kernel_rfl) Try.func7
    (ChangeSpec.witness6 (enc := enc) (C := Try.checked) false ⟨#[], #[.slice none 0 0, .int .i64 0, .agg #[.int .i64 0, .int .i64 0, .int .i64 0]], []⟩ 8 (by kernel_rfl) (by kernel_rfl) (by kernel_rfl) (by kernel_rfl)) ?_
  intro W base args ds gs before hval0 hW hcnd _
  have hval : ∀ (j : Nat) t v, Try.f7.params[j]? = some t → args[j]? = some v → Value.okWide Try.prog W .any base t v := hval0
  have hW' := hW
  obtain ⟨p, q, hA0, hV, rfl, hfz, hnd⟩ := hW
  have hA : DataW.TrodAll enc Try.prog W 0 (fun _ => true) true Try.f7.params.toList args.toList ds p := hA0
  rw [Try.params7] at hA hval
  obtain ⟨v0', vs0, d0, ds0, p0', q0, hargs, rfl, rfl, h0, r0⟩ := trodAll_cons hA
  obtain ⟨v1', vs1, d1, ds1, p1', q1, rfl, rfl, rfl, h1, r1⟩ := trodAll_cons r0
  obtain ⟨v2', vs2, d2, ds2, p2', q2, rfl, rfl, rfl, h2, r2⟩ := trodAll_cons r1
  obtain ⟨rfl, rfl, rfl⟩ := trodAll_nil r2
  obtain rfl : args = #[v0', v1', v2'] := by cases args; simp_all
  obtain ⟨rfl, rfl⟩ := trodVars_none hV
  have lt0 : ∀ x ∈ p0', x.block < W.heap.size := by obtain ⟨m, hm⟩ := h0; exact DataW.trod_lt m _ _ _ hm
  have lt1 : ∀ x ∈ p1', x.block < W.heap.size := by obtain ⟨m, hm⟩ := h1; exact DataW.trod_lt m _ _ _ hm
  have lt2 : ∀ x ∈ p2', x.block < W.heap.size := by obtain ⟨m, hm⟩ := h2; exact DataW.trod_lt m _ _ _ hm
  obtain ⟨aa0, len0, cap0, rfl⟩ := okWide_slice Try.underlying40 (hval 0 40 v0' rfl rfl)
  obtain ⟨u0, ⟨l0, hl0, hu0⟩, rep0⟩ := arg_one (by rfl) rd_ints2 h0
  cases hu0
  obtain ⟨m1, rfl⟩ := okWide_int Try.underlying3 (hval 1 3 v1' rfl rfl)
  obtain ⟨u1, ⟨n1, hu1, lo1, hi1⟩, rep1⟩ := arg_one (by rfl) rd_int h1
  cases hu1
  obtain ⟨u2, ⟨a2, b2, c2, rfl⟩, rep2⟩ := arg_agg (by kernel_rfl) rd_int3 (hval 2 23 v2' rfl rfl) h2
  clear hA0 hval0
  refine (walk_of (c_VolumeSmooth hl0 n1 a2 b2 c2) (repL3 rep0 rep1 rep2)).mono fun e W' ⟨he, bel⟩ => ?_
  subst he
  exact ⟨_, rfl, _, _, _, [], _, [], hW', trodAll_mk1 (shut_bool Try.underlying4 _), (trodAll_cons_mk (Below.trod laidOut (by kernel_rfl) (of_decide_eq_true (by kernel_rfl)) h0 bel lt0) (trodAll_cons_mk (Below.trod laidOut (by kernel_rfl) (of_decide_eq_true (by kernel_rfl)) h1 bel lt1) (trodAll_cons_mk (Below.trod laidOut (by kernel_rfl) (of_decide_eq_true (by kernel_rfl)) h2 bel lt2) trodAll_mk0))), rfl, bel.frame _, fun h => by cases h⟩

theorem vVolumeSmooth_inPlace : Try.prog.inPlace 7 = [] := by kernel_rfl
theorem vVolumeSmooth_unfollowed : Try.prog.unfollowed 7 = true := by kernel_rfl
theorem vVolumeSmooth_recurses : Try.prog.recurses 7 = true := by kernel_rfl
theorem vVolumeSmooth_varsNamed : Try.prog.varsNamed 7 = [] := by kernel_rfl
theorem vVolumeSmooth_joined : joinedFacts Try.pinned.checked.prog 7 Try.f7 Rows.volumeSmoothSpec Rows.volumeSmoothRow = true := by
  show joinedFacts Try.prog 7 Try.f7 Rows.volumeSmoothSpec Rows.volumeSmoothRow = true
  unfold joinedFacts
  rw [may, lifts, made, heard, plain, rowed, laidOut, vVolumeSmooth_inPlace, vVolumeSmooth_unfollowed, vVolumeSmooth_recurses, vVolumeSmooth_varsNamed]
  kernel_rfl

/-- ████ THE STATEMENT ████ -/
theorem vVolumeSmooth_proved : Rows.VolumeSmoothSaid :=
  OpenClaim.holds_of_wide 7 Try.f7 rfl rfl rfl rfl rfl rfl rfl ⟨rfl, rfl, rfl, rfl, rfl⟩ rfl rfl rfl rfl rfl (by kernel_rfl) Try.func7 vVolumeSmooth_joined
    (of_decide_eq_true (by kernel_rfl)) (by unfold Func.isWrapper; first | (rw [if_pos (by decide +kernel)]; kernel_rfl) | (rw [if_neg (by decide +kernel)]; exact ⟨rfl, rfl⟩))
    (fun os started H enc _ => vVolumeSmooth_lifted os started H enc)
#print axioms vVolumeSmooth_proved

end Go.Proofs.Ytecggpjpckicgaa
