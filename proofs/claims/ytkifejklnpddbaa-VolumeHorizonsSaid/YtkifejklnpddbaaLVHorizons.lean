/-
  VolumeHorizons holds: Horizon returns what the chapter says, and Backs potentials that prove what it is worth, or the error that it says, for any section and slope.
-/
import Derived.Test.YtkifejklnpddbaaLVHorizons1

set_option linter.unusedVariables false
set_option linter.unusedSimpArgs false
namespace Go.Proofs.Ytkifejklnpddbaa
open Go.Am Go.ChangeShapes Go.WideShapes Go.ChangeAt Go.RowKit

set_option maxRecDepth 100000 in
theorem vVolumeHorizons_lifted (os : Os) (started : os.Started) (H : Type) (enc : TypeId × Value → H) :
    ReturnsInHanded {} Try.checked os 19 .any (Rows.volumeHorizonsSpec.pre6 enc Try.prog Try.f19 Rows.volumeHorizonsRow.domain false) (Rows.volumeHorizonsSpec.post enc Try.prog Try.f19 false true false false) := by
  refine returnsInHanded_of_change (C := Try.checked) own started (by kernel_rfl) Try.func19
    (ChangeSpec.witness6 (enc := enc) (C := Try.checked) false ⟨#[], #[.slice none 0 0, .int .i64 0], []⟩ 8 (by kernel_rfl) (by kernel_rfl) (by kernel_rfl) (by kernel_rfl)) ?_
  intro W base args ds gs before hval0 hW hcnd _
  have hval : ∀ (j : Nat) t v, Try.f19.params[j]? = some t → args[j]? = some v → Value.okWide Try.prog W .any base t v := hval0
  have hW' := hW
  obtain ⟨p, q, hA0, hV, rfl, hfz, hnd⟩ := hW
  have hA : DataW.TrodAll enc Try.prog W 0 (fun _ => true) true Try.f19.params.toList args.toList ds p := hA0
  rw [Try.params19] at hA hval
  obtain ⟨v0', vs0, d0, ds0, p0', q0, hargs, rfl, rfl, h0, r0⟩ := trodAll_cons hA
  obtain ⟨v1', vs1, d1, ds1, p1', q1, rfl, rfl, rfl, h1, r1⟩ := trodAll_cons r0
  obtain ⟨rfl, rfl, rfl⟩ := trodAll_nil r1
  obtain rfl : args = #[v0', v1'] := by cases args; simp_all
  obtain ⟨rfl, rfl⟩ := trodVars_none hV
  have lt0 : ∀ x ∈ p0', x.block < W.heap.size := by obtain ⟨m, hm⟩ := h0; exact DataW.trod_lt m _ _ _ hm
  have lt1 : ∀ x ∈ p1', x.block < W.heap.size := by obtain ⟨m, hm⟩ := h1; exact DataW.trod_lt m _ _ _ hm
  obtain ⟨aa0, len0, cap0, rfl⟩ := okWide_slice Try.underlying59 (hval 0 59 v0' rfl rfl)
  obtain ⟨u0, ⟨l0, hl0, hu0⟩, rep0⟩ := arg_one (by rfl) rd_ints2 h0
  cases hu0
  obtain ⟨m1, rfl⟩ := okWide_int Try.underlying3 (hval 1 3 v1' rfl rfl)
  obtain ⟨u1, ⟨n1, hu1, lo1, hi1⟩, rep1⟩ := arg_one (by rfl) rd_int h1
  cases hu1
  clear hA0 hval0
  refine (walk_of (c_VolumeHorizons hl0 n1) (repL2 rep0 rep1)).mono fun e W' ⟨he, bel⟩ => ?_
  subst he
  exact ⟨_, rfl, _, _, _, [], _, [], hW', trodAll_mk1 (shut_bool Try.underlying4 _), (trodAll_cons_mk (Below.trod laidOut (by kernel_rfl) (of_decide_eq_true (by kernel_rfl)) h0 bel lt0) (trodAll_cons_mk (Below.trod laidOut (by kernel_rfl) (of_decide_eq_true (by kernel_rfl)) h1 bel lt1) trodAll_mk0)), rfl, bel.frame _, fun h => by cases h⟩

theorem vVolumeHorizons_inPlace : Try.prog.inPlace 19 = [] := by kernel_rfl
theorem vVolumeHorizons_unfollowed : Try.prog.unfollowed 19 = true := by kernel_rfl
theorem vVolumeHorizons_recurses : Try.prog.recurses 19 = true := by kernel_rfl
theorem vVolumeHorizons_varsNamed : Try.prog.varsNamed 19 = [] := by kernel_rfl
theorem vVolumeHorizons_joined : joinedFacts Try.pinned.checked.prog 19 Try.f19 Rows.volumeHorizonsSpec Rows.volumeHorizonsRow = true := by
  show joinedFacts Try.prog 19 Try.f19 Rows.volumeHorizonsSpec Rows.volumeHorizonsRow = true
  unfold joinedFacts
  rw [may, lifts, made, heard, plain, rowed, laidOut, vVolumeHorizons_inPlace, vVolumeHorizons_unfollowed, vVolumeHorizons_recurses, vVolumeHorizons_varsNamed]
  kernel_rfl

/-- ████ THE STATEMENT ████ -/
theorem vVolumeHorizons_proved : Rows.VolumeHorizonsSaid :=
  OpenClaim.holds_of_wide 19 Try.f19 rfl rfl rfl rfl rfl rfl rfl ⟨rfl, rfl, rfl, rfl, rfl⟩ rfl rfl rfl rfl rfl (by kernel_rfl) Try.func19 vVolumeHorizons_joined
    (of_decide_eq_true (by kernel_rfl)) (by unfold Func.isWrapper; first | (rw [if_pos (by decide +kernel)]; kernel_rfl) | (rw [if_neg (by decide +kernel)]; exact ⟨rfl, rfl⟩))
    (fun os started H enc _ => vVolumeHorizons_lifted os started H enc)
#print axioms vVolumeHorizons_proved

end Go.Proofs.Ytkifejklnpddbaa
