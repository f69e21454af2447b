/-
  VolumeSingle holds: with one slowness the enclosure is the value, for any echoes and box.
-/
import Derived.Test.YtkifejklnpddbaaLVSingle1

set_option linter.unusedVariables false
set_option linter.unusedSimpArgs false
namespace Go.Proofs.Ytkifejklnpddbaa
open Go.Am Go.ChangeShapes Go.WideShapes Go.ChangeAt Go.RowKit

set_option maxRecDepth 100000 in
theorem vVolumeSingle_lifted (os : Os) (started : os.Started) (H : Type) (enc : TypeId × Value → H) :
    ReturnsInHanded {} Try.checked os 14 .any (Rows.volumeSingleSpec.pre6 enc Try.prog Try.f14 Rows.volumeSingleRow.domain false) (Rows.volumeSingleSpec.post enc Try.prog Try.f14 false true false false) := by
  refine returnsInHanded_of_change (C := Try.checked) own started (by kernel_rfl) Try.func14
    (ChangeSpec.witness6 (enc := enc) (C := Try.checked) false ⟨#[], #[.slice none 0 0, .agg #[.int .i64 0, .int .i64 0, .int .i64 0, .int .i64 0, .int .i64 0, .int .i64 0, .int .i64 0, .int .i64 0, .int .i64 0]], []⟩ 8 (by kernel_rfl) (by kernel_rfl) (by kernel_rfl) (by kernel_rfl)) ?_
  intro W base args ds gs before hval0 hW hcnd _
  have hval : ∀ (j : Nat) t v, Try.f14.params[j]? = some t → args[j]? = some v → Value.okWide Try.prog W .any base t v := hval0
  have hW' := hW
  obtain ⟨p, q, hA0, hV, rfl, hfz, hnd⟩ := hW
  have hA : DataW.TrodAll enc Try.prog W 0 (fun _ => true) true Try.f14.params.toList args.toList ds p := hA0
  rw [Try.params14] at hA hval
  obtain ⟨v0', vs0, d0, ds0, p0', q0, hargs, rfl, rfl, h0, r0⟩ := trodAll_cons hA
  obtain ⟨v1', vs1, d1, ds1, p1', q1, rfl, rfl, rfl, h1, r1⟩ := trodAll_cons r0
  obtain ⟨rfl, rfl, rfl⟩ := trodAll_nil r1
  obtain rfl : args = #[v0', v1'] := by cases args; simp_all
  obtain ⟨rfl, rfl⟩ := trodVars_none hV
  have lt0 : ∀ x ∈ p0', x.block < W.heap.size := by obtain ⟨m, hm⟩ := h0; exact DataW.trod_lt m _ _ _ hm
  have lt1 : ∀ x ∈ p1', x.block < W.heap.size := by obtain ⟨m, hm⟩ := h1; exact DataW.trod_lt m _ _ _ hm
  obtain ⟨aa0, len0, cap0, rfl⟩ := okWide_slice Try.underlying22 (hval 0 22 v0' rfl rfl)
  obtain ⟨u0, ⟨l0, hl0, hu0⟩, rep0⟩ := arg_one (by rfl) rd_echoes h0
  cases hu0
  obtain ⟨u1, ⟨b1, ap1, sl1, rfl⟩, rep1⟩ := arg_agg (by kernel_rfl) rd_box (hval 1 41 v1' rfl rfl) h1
  clear hA0 hval0
  refine (walk_of (c_VolumeSingle hl0 b1 ap1 sl1) (repL2 rep0 rep1)).mono fun e W' ⟨he, bel⟩ => ?_
  subst he
  exact ⟨_, rfl, _, _, _, [], _, [], hW', trodAll_mk1 (shut_bool Try.underlying4 _), (trodAll_cons_mk (Below.trod laidOut (by kernel_rfl) (of_decide_eq_true (by kernel_rfl)) h0 bel lt0) (trodAll_cons_mk (Below.trod laidOut (by kernel_rfl) (of_decide_eq_true (by kernel_rfl)) h1 bel lt1) trodAll_mk0)), rfl, bel.frame _, fun h => by cases h⟩

theorem vVolumeSingle_inPlace : Try.prog.inPlace 14 = [] := by kernel_rfl
theorem vVolumeSingle_unfollowed : Try.prog.unfollowed 14 = true := by kernel_rfl
theorem vVolumeSingle_recurses : Try.prog.recurses 14 = true := by kernel_rfl
theorem vVolumeSingle_varsNamed : Try.prog.varsNamed 14 = [] := by kernel_rfl
theorem vVolumeSingle_joined : joinedFacts Try.pinned.checked.prog 14 Try.f14 Rows.volumeSingleSpec Rows.volumeSingleRow = true := by
  show joinedFacts Try.prog 14 Try.f14 Rows.volumeSingleSpec Rows.volumeSingleRow = true
  unfold joinedFacts
  rw [may, lifts, made, heard, plain, rowed, laidOut, vVolumeSingle_inPlace, vVolumeSingle_unfollowed, vVolumeSingle_recurses, vVolumeSingle_varsNamed]
  kernel_rfl

/-- ████ THE STATEMENT ████ -/
theorem vVolumeSingle_proved : Rows.VolumeSingleSaid :=
  OpenClaim.holds_of_wide 14 Try.f14 rfl rfl rfl rfl rfl rfl rfl ⟨rfl, rfl, rfl, rfl, rfl⟩ rfl rfl rfl rfl rfl (by kernel_rfl) Try.func14 vVolumeSingle_joined
    (of_decide_eq_true (by kernel_rfl)) (by unfold Func.isWrapper; first | (rw [if_pos (by decide +kernel)]; kernel_rfl) | (rw [if_neg (by decide +kernel)]; exact ⟨rfl, rfl⟩))
    (fun os started H enc _ => vVolumeSingle_lifted os started H enc)
#print axioms vVolumeSingle_proved

end Go.Proofs.Ytkifejklnpddbaa
