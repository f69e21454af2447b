/-
  TopSailed holds: a ship tows a streamer along an axis, and shoots: whatever the offsets within their bounds are, each node lies in its region, and in each cell there are at least as many traces as the sure fold, and at most as many as the possible fold, of those nodes that have few places, for any grid, tail and route. The package variable none is what the program lays.
-/
import Derived.Test.YtabedohjkillfaaGreatDoorX10
import Derived.Test.YtabedohjkillfaaGreatDoorCards
import Derived.SevenTiedAt

set_option linter.unusedVariables false
set_option linter.unusedSimpArgs false
namespace Go.Proofs.YtabedohjkillfaaGreatDoor
open Go.Am Go.ChangeShapes Go.WideShapes Go.ChangeAt Go.RowKit

set_option maxRecDepth 100000 in
theorem vTopSailed_lifted (os : Os) (started : os.Started) (H : Type) (enc : TypeId × Value → H) :
    ReturnsInHanded {} Tryz.checked os 3 .any (fun w args => (Rows.topSailedSpec.pre enc Tryz.prog Tryz.f3 [] false w args ∧ laidMetH Tryz.prog Ac2 w) ∧ sizedMet enc Tryz.prog Tryz.f3 (OpenSpec.ofChange Rows.topSailedSpec) false w args)
      (Rows.topSailedSpec.post enc Tryz.prog Tryz.f3 false true false false) := by
  refine returnsInHanded_of_change_and (C := Tryz.checked) (X := fun w _ => laidMetH Tryz.prog Ac2 w) (fun _ _ _ hh h => h.of_heap hh) own started (by kernel_rfl) Tryz.func3
    (ChangeSpec.witness_shaped (enc := enc) (C := Tryz.checked) (os := os) (X := fun w _ => laidMetH Tryz.prog Ac2 w) false (World.laidAll Tryz.prog os Ac2) #[.agg #[.int .i64 0, .int .i64 0, .int .i64 0, .int .i64 0, .int .i64 0, .slice none 0 0], .agg #[.int .i64 0, .slice none 0 0, .int .i64 0, .int .i64 0, .int .i64 0, .slice none 0 0], .agg #[.int .i64 0, .int .i64 0, .int .i64 0, .int .i64 0, .int .i64 0, .int .i64 0, .int .i64 0, .int .i64 0, .int .i64 0, .slice none 0 0]] 8 (World.laidAll_os _ _ _) (World.shaped_of_ZipB (by kernel_rfl) (by kernel_rfl)) (by kernel_rfl) (by kernel_rfl) (by kernel_rfl)
      (by rw [MakeChecks.laidMetH_plain _ _ _ (by kernel_rfl)]; exact laidMet_laidAll _ (by kernel_rfl) (by kernel_rfl))) ?_
  intro W base args ds gs before hval0 hW hcnd _ hL _
  have hval : ∀ (j : Nat) t v, Tryz.f3.params[j]? = some t → args[j]? = some v → Value.okWide Tryz.prog W .any base t v := hval0
  have hW' := hW
  obtain ⟨p, q, hA0, hV, rfl, hfz, hnd⟩ := hW
  have hA : DataW.TrodAll enc Tryz.prog W 0 (fun _ => true) true Tryz.f3.params.toList args.toList ds p := hA0
  rw [Tryz.params3] at hA hval
  obtain ⟨v0', vs0, d0, ds0, p0', q0, hargs, rfl, rfl, h0, r0⟩ := trodAll_cons hA
  obtain ⟨v1', vs1, d1, ds1, p1', q1, rfl, rfl, rfl, h1, r1⟩ := trodAll_cons r0
  obtain ⟨v2', vs2, d2, ds2, p2', q2, rfl, rfl, rfl, h2, r2⟩ := trodAll_cons r1
  obtain ⟨rfl, rfl, rfl⟩ := trodAll_nil r2
  obtain rfl : args = #[v0', v1', v2'] := by cases args; simp_all
  obtain ⟨rfl, rfl⟩ := trodVars_none hV
  have lt0 : ∀ x ∈ p0', x.block < W.heap.size := by obtain ⟨m, hm⟩ := h0; exact DataW.trod_lt m _ _ _ hm
  have lt1 : ∀ x ∈ p1', x.block < W.heap.size := by obtain ⟨m, hm⟩ := h1; exact DataW.trod_lt m _ _ _ hm
  have lt2 : ∀ x ∈ p2', x.block < W.heap.size := by obtain ⟨m, hm⟩ := h2; exact DataW.trod_lt m _ _ _ hm
  obtain ⟨u0, ⟨g0, hg0, rfl⟩, rep0⟩ := A82 (by kernel_rfl) rd_grid (hval 0 26 v0' rfl rfl) h0
  obtain ⟨u1, ⟨s1, b1, hs1, hb1, rfl⟩, rep1⟩ := A82 (by kernel_rfl) rd_tail (hval 1 33 v1' rfl rfl) h1
  obtain ⟨u2, ⟨y2, hy2, rfl⟩, rep2⟩ := A82 (by kernel_rfl) rd_route (hval 2 38 v2' rfl rfl) h2
  clear hA0 hval0
  refine (walk_of (A7u hg0 hs1 hb1 hy2) (gl_of hL) (repL3 rep0 rep1 rep2)).mono fun e W' ⟨he, bel⟩ => ?_
  subst he
  exact ⟨_, rfl, _, _, _, [], _, [], hW', trodAll_mk1 (shut_bool Tryz.underlying4 _), (trodAll_cons_mk (Below.trod A19 (by kernel_rfl) (of_decide_eq_true (by kernel_rfl)) h0 bel lt0) (trodAll_cons_mk (Below.trod A19 (by kernel_rfl) (of_decide_eq_true (by kernel_rfl)) h1 bel lt1) (trodAll_cons_mk (Below.trod A19 (by kernel_rfl) (of_decide_eq_true (by kernel_rfl)) h2 bel lt2) trodAll_mk0))), rfl, bel.frame _, fun h => by cases h⟩

theorem vTopSailed_inPlace : Tryz.prog.inPlace 3 = [] := by kernel_rfl
theorem vTopSailed_unfollowed : Tryz.prog.unfollowed 3 = true := by kernel_rfl
theorem vTopSailed_recurses : Tryz.prog.recurses 3 = true := by kernel_rfl
theorem vTopSailed_varsNamed : Tryz.prog.varsNamed 3 = ["paravane/bin.none"] := by kernel_rfl
theorem vTopSailed_joined : joinedFacts Tryz.pinned.checked.prog 3 Tryz.f3 Rows.topSailedSpec Rows.topSailedRow = true := by
  show joinedFacts Tryz.prog 3 Tryz.f3 Rows.topSailedSpec Rows.topSailedRow = true
  unfold joinedFacts
  rw [may, lifts, made, heard, On, rowed, A19, vTopSailed_inPlace, vTopSailed_unfollowed, vTopSailed_recurses, vTopSailed_varsNamed]
  kernel_rfl

theorem vTopSailed_row : Rows.TopSailedSaid :=
  OpenClaim.holds_of_wide 3 Tryz.f3 rfl rfl rfl rfl rfl rfl rfl ⟨rfl, rfl, rfl, rfl, rfl⟩ rfl rfl rfl rfl rfl (by kernel_rfl) Tryz.func3 vTopSailed_joined
    (of_decide_eq_true (by kernel_rfl)) (by unfold Func.isWrapper; first | (rw [if_pos (by decide +kernel)]; kernel_rfl) | (rw [if_neg (by decide +kernel)]; exact ⟨rfl, rfl⟩))
    (fun os started H enc _ => vTopSailed_lifted os started H enc)

/-- ████ THE STATEMENT ████ -/
theorem vTopSailed_proved : Rows.TopSailedCardSaid :=
  Claim7.holds_tied_plain_at .later [] [.data] true (true, "97ab25dabfaa780cf6418da47c8f385d5fb249253a64aa35a8c7b102a6dcc0bd") true
    vTopSailed_row (fun _ h => by cases h) (by kernel_rfl) (fun _ h => by cases h) topSailed_row_tie rfl ⟨rfl, rfl⟩ (by kernel_rfl) rfl
    (fun f fn hf hfn => by
      obtain rfl : f = 3 := Option.some.inj ((show Tryz.prog.funcNamed "paravane/paravanetop.TopSailed" = some 3 by kernel_rfl).symm.trans hf) |>.symm
      obtain rfl : fn = Tryz.f3 := (Option.some.inj (Tryz.func3.symm.trans hfn)).symm
      exact ⟨by kernel_rfl, fun j t ht => by
        rw [Tryz.params3] at ht
        have hm : t ∈ [26, 33, 38] := by simpa using Array.mem_of_getElem? ht
        have hall : ([26, 33, 38].all fun u => !Tryz.prog.wantsStandIn u) = true := by kernel_rfl
        exact (show Tryz.prog.wantsStandIn t = false by simpa using List.all_eq_true.1 hall t hm)⟩)
    (by kernel_rfl)
#print axioms vTopSailed_proved

end Go.Proofs.YtabedohjkillfaaGreatDoor
