/-
  BinBetter holds: if a node is known better, no sure fold gets less, and no possible one more; and what it would gain if it were known at all is never negative, and is gained wherever it is, for any grid and layout. The package variable none is what the program lays.
-/
import Derived.Test.YtdejdblopmfjfaaGreatDoorR5
import Derived.Test.YtdejdblopmfjfaaGreatDoorCards
import Derived.SevenTiedAt

set_option linter.unusedVariables false
set_option linter.unusedSimpArgs false
namespace Go.Proofs.YtdejdblopmfjfaaGreatDoor
open Go.Am Go.ChangeShapes Go.WideShapes Go.ChangeAt Go.RowKit

set_option maxRecDepth 100000 in
theorem vBinBetter_lifted (os : Os) (started : os.Started) (H : Type) (enc : TypeId × Value → H) :
    ReturnsInHanded {} Tryz.checked os 8 .any (fun w args => (Rows.binBetterSpec.pre enc Tryz.prog Tryz.f8 [] false w args ∧ laidMetH Tryz.prog laidV w) ∧ sizedMet enc Tryz.prog Tryz.f8 (OpenSpec.ofChange Rows.binBetterSpec) false w args)
      (Rows.binBetterSpec.post enc Tryz.prog Tryz.f8 false true false false) := by
  refine returnsInHanded_of_change_and (C := Tryz.checked) (X := fun w _ => laidMetH Tryz.prog laidV w) (fun _ _ _ hh h => h.of_heap hh) own started (by kernel_rfl) Tryz.func8
    (ChangeSpec.witness_shaped (enc := enc) (C := Tryz.checked) (os := os) (X := fun w _ => laidMetH Tryz.prog laidV w) false (World.laidAll Tryz.prog os laidV) #[.agg #[.int .i64 0, .int .i64 0, .int .i64 0, .int .i64 0, .int .i64 0, .slice none 0 0], .agg #[.slice none 0 0, .slice none 0 0], .slice none 0 0] 8 (World.laidAll_os _ _ _) (World.shaped_of_ZipB (by kernel_rfl) (by kernel_rfl)) (by kernel_rfl) (by kernel_rfl) (by kernel_rfl)
      (by rw [MakeChecks.laidMetH_plain _ _ _ (by kernel_rfl)]; exact laidMet_laidAll _ (by kernel_rfl) (by kernel_rfl))) ?_
  intro W base args ds gs before hval0 hW hcnd _ hL _
  have hval : ∀ (j : Nat) t v, Tryz.f8.params[j]? = some t → args[j]? = some v → Value.okWide Tryz.prog W .any base t v := hval0
  have hW' := hW
  obtain ⟨p, q, hA0, hV, rfl, hfz, hnd⟩ := hW
  have hA : DataW.TrodAll enc Tryz.prog W 0 (fun _ => true) true Tryz.f8.params.toList args.toList ds p := hA0
  rw [Tryz.params8] at hA hval
  obtain ⟨v0', vs0, d0, ds0, p0', q0, hargs, rfl, rfl, h0, r0⟩ := trodAll_cons hA
  obtain ⟨v1', vs1, d1, ds1, p1', q1, rfl, rfl, rfl, h1, r1⟩ := trodAll_cons r0
  obtain ⟨v2', vs2, d2, ds2, p2', q2, rfl, rfl, rfl, h2, r2⟩ := trodAll_cons r1
  obtain ⟨rfl, rfl, rfl⟩ := trodAll_nil r2
  obtain rfl : args = #[v0', v1', v2'] := by cases args; simp_all
  obtain ⟨rfl, rfl⟩ := trodVars_none hV
  have lt0 : ∀ x ∈ p0', x.block < W.heap.size := by obtain ⟨m, hm⟩ := h0; exact DataW.trod_lt m _ _ _ hm
  have lt1 : ∀ x ∈ p1', x.block < W.heap.size := by obtain ⟨m, hm⟩ := h1; exact DataW.trod_lt m _ _ _ hm
  have lt2 : ∀ x ∈ p2', x.block < W.heap.size := by obtain ⟨m, hm⟩ := h2; exact DataW.trod_lt m _ _ _ hm
  obtain ⟨u0, ⟨g0, hg0, rfl⟩, rep0⟩ := arg_agg (by kernel_rfl) rd_grid (hval 0 26 v0' rfl rfl) h0
  obtain ⟨u1, ⟨s1, hn1, ht1, rfl⟩, rep1⟩ := arg_agg (by kernel_rfl) rd_layout (hval 1 30 v1' rfl rfl) h1
  obtain ⟨aa2, len2, cap2, rfl⟩ := okWide_slice Tryz.underlying48 (hval 2 48 v2' rfl rfl)
  obtain ⟨u2, ⟨l2, hl2, hu2⟩, rep2⟩ := arg_one (by rfl) rd_ints h2
  cases hu2
  clear hA0 hval0
  refine (walk_of (c_BinBetter hg0 hn1 ht1 hl2) (gl_of hL) (repL3 rep0 rep1 rep2)).mono fun e W' ⟨he, bel⟩ => ?_
  subst he
  exact ⟨_, rfl, _, _, _, [], _, [], hW', trodAll_mk1 (shut_bool Tryz.underlying4 _), (trodAll_cons_mk (Below.trod laidOut (by kernel_rfl) (of_decide_eq_true (by kernel_rfl)) h0 bel lt0) (trodAll_cons_mk (Below.trod laidOut (by kernel_rfl) (of_decide_eq_true (by kernel_rfl)) h1 bel lt1) (trodAll_cons_mk (Below.trod laidOut (by kernel_rfl) (of_decide_eq_true (by kernel_rfl)) h2 bel lt2) trodAll_mk0))), rfl, bel.frame _, fun h => by cases h⟩

theorem vBinBetter_inPlace : Tryz.prog.inPlace 8 = [] := by kernel_rfl
theorem vBinBetter_unfollowed : Tryz.prog.unfollowed 8 = true := by kernel_rfl
theorem vBinBetter_recurses : Tryz.prog.recurses 8 = true := by kernel_rfl
theorem vBinBetter_varsNamed : Tryz.prog.varsNamed 8 = ["paravane/bin.none"] := by kernel_rfl
theorem vBinBetter_joined : joinedFacts Tryz.pinned.checked.prog 8 Tryz.f8 Rows.binBetterSpec Rows.binBetterRow = true := by
  show joinedFacts Tryz.prog 8 Tryz.f8 Rows.binBetterSpec Rows.binBetterRow = true
  unfold joinedFacts
  rw [may, lifts, made, heard, plain, rowed, laidOut, vBinBetter_inPlace, vBinBetter_unfollowed, vBinBetter_recurses, vBinBetter_varsNamed]
  kernel_rfl

theorem vBinBetter_row : Rows.BinBetterSaid :=
  OpenClaim.holds_of_wide 8 Tryz.f8 rfl rfl rfl rfl rfl rfl rfl ⟨rfl, rfl, rfl, rfl, rfl⟩ rfl rfl rfl rfl rfl (by kernel_rfl) Tryz.func8 vBinBetter_joined
    (of_decide_eq_true (by kernel_rfl)) (by unfold Func.isWrapper; first | (rw [if_pos (by decide +kernel)]; kernel_rfl) | (rw [if_neg (by decide +kernel)]; exact ⟨rfl, rfl⟩))
    (fun os started H enc _ => vBinBetter_lifted os started H enc)

/-- ████ THE STATEMENT ████ -/
theorem vBinBetter_proved : Rows.BinBetterCardSaid :=
  Claim7.holds_tied_plain_at .later [] [.data] true (true, "ec19f5707bb273954ccce77665451564e085088820ac27ab53deecdce0f661fc") false
    vBinBetter_row (fun _ h => by cases h) (by kernel_rfl) (fun _ h => by cases h) binBetter_row_tie rfl ⟨rfl, rfl⟩ (by kernel_rfl) rfl
    (fun f fn hf hfn => by
      obtain rfl : f = 8 := Option.some.inj ((show Tryz.prog.funcNamed "paravane/paravanelaw07.BinBetter" = some 8 by kernel_rfl).symm.trans hf) |>.symm
      obtain rfl : fn = Tryz.f8 := (Option.some.inj (Tryz.func8.symm.trans hfn)).symm
      exact ⟨by kernel_rfl, fun j t ht => by
        rw [Tryz.params8] at ht
        have hm : t ∈ [26, 30, 48] := by simpa using Array.mem_of_getElem? ht
        have hall : ([26, 30, 48].all fun u => !Tryz.prog.wantsStandIn u) = true := by kernel_rfl
        exact (show Tryz.prog.wantsStandIn t = false by simpa using List.all_eq_true.1 hall t hm)⟩)
    (by kernel_rfl)
#print axioms vBinBetter_proved

end Go.Proofs.YtdejdblopmfjfaaGreatDoor
