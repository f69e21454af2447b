/-
  VolumeTaped holds: echoes that were written to a reel, and read from copies of it of which each one lost other frames, make the same image, for any truth, box, and number.
-/
import Derived.Test.YtggifklgpdladaaGreatX6

set_option linter.unusedVariables false
set_option linter.unusedSimpArgs false
namespace Go.Proofs.YtggifklgpdladaaGreat
open Go.Am Go.ChangeShapes Go.WideShapes Go.ChangeAt Go.RowKit

set_option maxRecDepth 100000 in
theorem vVolumeTaped_lifted (os : Os) (started : os.Started) (H : Type) (enc : TypeId × Value → H) :
    ReturnsInHanded {} Tryz.checked os 3 .any (Rows.volumeTapedSpec.pre6 enc Tryz.prog Tryz.f3 Rows.volumeTapedRow.domain false) (Rows.volumeTapedSpec.post enc Tryz.prog Tryz.f3 false true false false) := by
  refine returnsInHanded_of_change (C := Tryz.checked) own started (by kernel_rfl) Tryz.func3
    (ChangeSpec.witness6 (enc := enc) (C := Tryz.checked) false ⟨#[], #[.agg #[.slice none 0 0, .slice none 0 0, .slice none 0 0, .int .i64 0], .agg #[.int .i64 0, .int .i64 0, .int .i64 0, .int .i64 0, .int .i64 0, .int .i64 0, .int .i64 0, .int .i64 0, .int .i64 0], .int .i64 0], []⟩ 8 (by kernel_rfl) (by kernel_rfl) (by kernel_rfl) (by kernel_rfl)) ?_
  intro W base args ds gs before hval0 hW hcnd _
  have hval : ∀ (j : Nat) t v, Tryz.f3.params[j]? = some t → args[j]? = some v → Value.okWide Tryz.prog W .any base t v := hval0
  have hW' := hW
  obtain ⟨p, q, hA0, hV, rfl, hfz, hnd⟩ := hW
  have hA : DataW.TrodAll enc Tryz.prog W 0 (fun _ => true) true Tryz.f3.params.toList args.toList ds p := hA0
  rw [Tryz.params3] at hA hval
  obtain ⟨v0', vs0, d0, ds0, p0', q0, hargs, rfl, rfl, h0, r0⟩ := trodAll_cons hA
  obtain ⟨v1', vs1, d1, ds1, p1', q1, rfl, rfl, rfl, h1, r1⟩ := trodAll_cons r0
  obtain ⟨v2', vs2, d2, ds2, p2', q2, rfl, rfl, rfl, h2, r2⟩ := trodAll_cons r1
  obtain ⟨rfl, rfl, rfl⟩ := trodAll_nil r2
  obtain rfl : args = #[v0', v1', v2'] := by cases args; simp_all
  obtain ⟨rfl, rfl⟩ := trodVars_none hV
  have lt0 : ∀ x ∈ p0', x.block < W.heap.size := by obtain ⟨m, hm⟩ := h0; exact DataW.trod_lt m _ _ _ hm
  have lt1 : ∀ x ∈ p1', x.block < W.heap.size := by obtain ⟨m, hm⟩ := h1; exact DataW.trod_lt m _ _ _ hm
  have lt2 : ∀ x ∈ p2', x.block < W.heap.size := by obtain ⟨m, hm⟩ := h2; exact DataW.trod_lt m _ _ _ hm
  obtain ⟨u0, ⟨x0, hx0, rfl⟩, rep0⟩ := arg_agg (by kernel_rfl) rd_heard (hval 0 25 v0' rfl rfl) h0
  obtain ⟨u1, ⟨b1, ap1, sl1, rfl⟩, rep1⟩ := arg_agg (by kernel_rfl) rd_box (hval 1 30 v1' rfl rfl) h1
  obtain ⟨m2, rfl⟩ := okWide_int Tryz.underlying3 (hval 2 3 v2' rfl rfl)
  obtain ⟨u2, ⟨n2, hu2, lo2, hi2⟩, rep2⟩ := arg_one (by rfl) rd_int h2
  cases hu2
  clear hA0 hval0
  refine (walk_of (c_VolumeTaped hx0 b1 ap1 sl1 n2) (repL3 rep0 rep1 rep2)).mono fun e W' ⟨he, bel⟩ => ?_
  subst he
  exact ⟨_, rfl, _, _, _, [], _, [], hW', trodAll_mk1 (shut_bool Tryz.underlying4 _), (trodAll_cons_mk (Below.trod laidOut (by kernel_rfl) (of_decide_eq_true (by kernel_rfl)) h0 bel lt0) (trodAll_cons_mk (Below.trod laidOut (by kernel_rfl) (of_decide_eq_true (by kernel_rfl)) h1 bel lt1) (trodAll_cons_mk (Below.trod laidOut (by kernel_rfl) (of_decide_eq_true (by kernel_rfl)) h2 bel lt2) trodAll_mk0))), rfl, bel.frame _, fun h => by cases h⟩

theorem vVolumeTaped_inPlace : Tryz.prog.inPlace 3 = [] := by kernel_rfl
theorem vVolumeTaped_unfollowed : Tryz.prog.unfollowed 3 = true := by kernel_rfl
theorem vVolumeTaped_recurses : Tryz.prog.recurses 3 = true := by kernel_rfl
theorem vVolumeTaped_varsNamed : Tryz.prog.varsNamed 3 = [] := by kernel_rfl
theorem vVolumeTaped_joined : joinedFacts Tryz.pinned.checked.prog 3 Tryz.f3 Rows.volumeTapedSpec Rows.volumeTapedRow = true := by
  show joinedFacts Tryz.prog 3 Tryz.f3 Rows.volumeTapedSpec Rows.volumeTapedRow = true
  unfold joinedFacts
  rw [may, lifts, made, heard, plain, rowed, laidOut, vVolumeTaped_inPlace, vVolumeTaped_unfollowed, vVolumeTaped_recurses, vVolumeTaped_varsNamed]
  kernel_rfl

/-- ████ THE STATEMENT ████ -/
theorem vVolumeTaped_proved : Rows.VolumeTapedSaid :=
  OpenClaim.holds_of_wide 3 Tryz.f3 rfl rfl rfl rfl rfl rfl rfl ⟨rfl, rfl, rfl, rfl, rfl⟩ rfl rfl rfl rfl rfl (by kernel_rfl) Tryz.func3 vVolumeTaped_joined
    (of_decide_eq_true (by kernel_rfl)) (by unfold Func.isWrapper; first | (rw [if_pos (by decide +kernel)]; kernel_rfl) | (rw [if_neg (by decide +kernel)]; exact ⟨rfl, rfl⟩))
    (fun os started H enc _ => vVolumeTaped_lifted os started H enc)
#print axioms vVolumeTaped_proved

end Go.Proofs.YtggifklgpdladaaGreat
