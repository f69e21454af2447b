/-
  TopTowed holds: a ship that tows a streamer goes a straight way along an axis that is clear for the hull of all its nodes: no node lies in an obstacle, for any cruise, tail and route.
-/
import Derived.Test.YtabedohjkillfaaGreatX7

set_option linter.unusedVariables false
set_option linter.unusedSimpArgs false
namespace Go.Proofs.YtabedohjkillfaaGreat
open Go.Am Go.ChangeShapes Go.WideShapes Go.ChangeAt Go.RowKit

set_option maxRecDepth 100000 in
theorem vTopTowed_lifted (os : Os) (started : os.Started) (H : Type) (enc : TypeId × Value → H) :
    ReturnsInHanded {} Tryz.checked os 3 .any (Rows.topTowedSpec.pre6 enc Tryz.prog Tryz.f3 Rows.topTowedRow.domain false) (Rows.topTowedSpec.post enc Tryz.prog Tryz.f3 false true false false) := by
  refine returnsInHanded_of_change (C := Tryz.checked) own started (by kernel_rfl) Tryz.func3
    (ChangeSpec.witness6 (enc := enc) (C := Tryz.checked) false ⟨#[], #[.agg #[.slice none 0 0, .slice none 0 0, .slice none 0 0, .int .i64 0, .int .i64 0, .int .i64 0, .int .i64 0, .int .i64 0, .int .i64 0, .int .i64 0, .int .i64 0, .int .i64 0, .int .i64 0, .int .i64 0, .int .i64 0, .int .i64 0, .slice none 0 0], .agg #[.int .i64 0, .slice none 0 0, .int .i64 0, .int .i64 0, .int .i64 0, .slice none 0 0], .agg #[.int .i64 0, .int .i64 0, .int .i64 0, .int .i64 0, .int .i64 0, .int .i64 0, .int .i64 0, .int .i64 0, .int .i64 0, .slice none 0 0]], []⟩ 8 (by kernel_rfl) (by kernel_rfl) (by kernel_rfl) (by kernel_rfl)) ?_
  intro W base args ds gs before hval0 hW hcnd _
  have hval : ∀ (j : Nat) t v, Tryz.f3.params[j]? = some t → args[j]? = some v → Value.okWide Tryz.prog W .any base t v := hval0
  have hW' := hW
  obtain ⟨p, q, hA0, hV, rfl, hfz, hnd⟩ := hW
  have hA : DataW.TrodAll enc Tryz.prog W 0 (fun _ => true) true Tryz.f3.params.toList args.toList ds p := hA0
  rw [Tryz.params3] at hA hval
  obtain ⟨v0', vs0, d0, ds0, p0', q0, hargs, rfl, rfl, h0, r0⟩ := trodAll_cons hA
  obtain ⟨v1', vs1, d1, ds1, p1', q1, rfl, rfl, rfl, h1, r1⟩ := trodAll_cons r0
  obtain ⟨v2', vs2, d2, ds2, p2', q2, rfl, rfl, rfl, h2, r2⟩ := trodAll_cons r1
  obtain ⟨rfl, rfl, rfl⟩ := trodAll_nil r2
  obtain rfl : args = #[v0', v1', v2'] := by cases args; simp_all
  obtain ⟨rfl, rfl⟩ := trodVars_none hV
  have lt0 : ∀ x ∈ p0', x.block < W.heap.size := by obtain ⟨m, hm⟩ := h0; exact DataW.trod_lt m _ _ _ hm
  have lt1 : ∀ x ∈ p1', x.block < W.heap.size := by obtain ⟨m, hm⟩ := h1; exact DataW.trod_lt m _ _ _ hm
  have lt2 : ∀ x ∈ p2', x.block < W.heap.size := by obtain ⟨m, hm⟩ := h2; exact DataW.trod_lt m _ _ _ hm
  obtain ⟨u0, ⟨c0, hc0, rfl⟩, rep0⟩ := A53 (by kernel_rfl) Aa9 (hval 0 35 v0' rfl rfl) h0
  obtain ⟨u1, ⟨s1, b1, hs1, hb1, rfl⟩, rep1⟩ := A53 (by kernel_rfl) rd_tail (hval 1 41 v1' rfl rfl) h1
  obtain ⟨u2, ⟨y2, hy2, rfl⟩, rep2⟩ := A53 (by kernel_rfl) rd_route (hval 2 46 v2' rfl rfl) h2
  clear hA0 hval0
  refine (walk_of (A8z Acu hc0 hs1 hb1 hy2) (repL3 rep0 rep1 rep2)).mono fun e W' ⟨he, bel⟩ => ?_
  subst he
  exact ⟨_, rfl, _, _, _, [], _, [], hW', trodAll_mk1 (shut_bool Tryz.underlying4 _), (trodAll_cons_mk (Below.trod Z7 (by kernel_rfl) (of_decide_eq_true (by kernel_rfl)) h0 bel lt0) (trodAll_cons_mk (Below.trod Z7 (by kernel_rfl) (of_decide_eq_true (by kernel_rfl)) h1 bel lt1) (trodAll_cons_mk (Below.trod Z7 (by kernel_rfl) (of_decide_eq_true (by kernel_rfl)) h2 bel lt2) trodAll_mk0))), rfl, bel.frame _, fun h => by cases h⟩

theorem vTopTowed_inPlace : Tryz.prog.inPlace 3 = [] := by kernel_rfl
theorem vTopTowed_unfollowed : Tryz.prog.unfollowed 3 = true := by kernel_rfl
theorem vTopTowed_recurses : Tryz.prog.recurses 3 = true := by kernel_rfl
theorem vTopTowed_varsNamed : Tryz.prog.varsNamed 3 = [] := by kernel_rfl
theorem vTopTowed_joined : joinedFacts Tryz.pinned.checked.prog 3 Tryz.f3 Rows.topTowedSpec Rows.topTowedRow = true := by
  show joinedFacts Tryz.prog 3 Tryz.f3 Rows.topTowedSpec Rows.topTowedRow = true
  unfold joinedFacts
  rw [may, lifts, made, heard, S6, rowed, Z7, vTopTowed_inPlace, vTopTowed_unfollowed, vTopTowed_recurses, vTopTowed_varsNamed]
  kernel_rfl

/-- ████ THE STATEMENT ████ -/
theorem vTopTowed_proved : Rows.TopTowedSaid :=
  OpenClaim.holds_of_wide 3 Tryz.f3 rfl rfl rfl rfl rfl rfl rfl ⟨rfl, rfl, rfl, rfl, rfl⟩ rfl rfl rfl rfl rfl (by kernel_rfl) Tryz.func3 vTopTowed_joined
    (of_decide_eq_true (by kernel_rfl)) (by unfold Func.isWrapper; first | (rw [if_pos (by decide +kernel)]; kernel_rfl) | (rw [if_neg (by decide +kernel)]; exact ⟨rfl, rfl⟩))
    (fun os started H enc _ => vTopTowed_lifted os started H enc)
#print axioms vTopTowed_proved

end Go.Proofs.YtabedohjkillfaaGreat
