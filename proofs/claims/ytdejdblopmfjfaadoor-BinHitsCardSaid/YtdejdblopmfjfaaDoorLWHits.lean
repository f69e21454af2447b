/-
  BinHits holds: what a trace may hit is in order, each cell once, of the grid or none; the folds are counted from that, for any grid and layout. The package variable none is what the program lays.
-/
import Derived.Test.YtdejdblopmfjfaaDoorZ5
import Derived.Test.YtdejdblopmfjfaaDoorCards
import Derived.SevenTiedAt

set_option linter.unusedVariables false
set_option linter.unusedSimpArgs false
namespace Go.Proofs.YtdejdblopmfjfaaDoor
open Go.Am Go.ChangeShapes Go.WideShapes Go.ChangeAt Go.RowKit

set_option maxRecDepth 100000 in
theorem vBinHits_lifted (os : Os) (started : os.Started) (H : Type) (enc : TypeId × Value → H) :
    ReturnsInHanded {} Tryd.checked os 3 .any (fun w args => (Rows.binHitsSpec.pre enc Tryd.prog Tryd.f3 [] false w args ∧ laidMetH Tryd.prog laidV w) ∧ sizedMet enc Tryd.prog Tryd.f3 (OpenSpec.ofChange Rows.binHitsSpec) false w args)
      (Rows.binHitsSpec.post enc Tryd.prog Tryd.f3 false true false false) := by
  refine returnsInHanded_of_change_and (C := Tryd.checked) (X := fun w _ => laidMetH Tryd.prog laidV w) (fun _ _ _ hh h => h.of_heap hh) own started (by kernel_rfl) Tryd.func3
    (ChangeSpec.witness_shaped (enc := enc) (C := Tryd.checked) (os := os) (X := fun w _ => laidMetH Tryd.prog laidV w) false (World.laidAll Tryd.prog os laidV) #[.agg #[.int .i64 0, .int .i64 0, .int .i64 0, .int .i64 0, .int .i64 0, .slice none 0 0], .agg #[.slice none 0 0, .slice none 0 0]] 8 (World.laidAll_os _ _ _) (World.shaped_of_ZipB (by kernel_rfl) (by kernel_rfl)) (by kernel_rfl) (by kernel_rfl) (by kernel_rfl)
      (by rw [MakeChecks.laidMetH_plain _ _ _ (by kernel_rfl)]; exact laidMet_laidAll _ (by kernel_rfl) (by kernel_rfl))) ?_
  intro W base args ds gs before hval0 hW hcnd _ hL _
  have hval : ∀ (j : Nat) t v, Tryd.f3.params[j]? = some t → args[j]? = some v → Value.okWide Tryd.prog W .any base t v := hval0
  have hW' := hW
  obtain ⟨p, q, hA0, hV, rfl, hfz, hnd⟩ := hW
  have hA : DataW.TrodAll enc Tryd.prog W 0 (fun _ => true) true Tryd.f3.params.toList args.toList ds p := hA0
  rw [Tryd.params3] at hA hval
  obtain ⟨v0', vs0, d0, ds0, p0', q0, hargs, rfl, rfl, h0, r0⟩ := trodAll_cons hA
  obtain ⟨v1', vs1, d1, ds1, p1', q1, rfl, rfl, rfl, h1, r1⟩ := trodAll_cons r0
  obtain ⟨rfl, rfl, rfl⟩ := trodAll_nil r1
  obtain rfl : args = #[v0', v1'] := by cases args; simp_all
  obtain ⟨rfl, rfl⟩ := trodVars_none hV
  have lt0 : ∀ x ∈ p0', x.block < W.heap.size := by obtain ⟨m, hm⟩ := h0; exact DataW.trod_lt m _ _ _ hm
  have lt1 : ∀ x ∈ p1', x.block < W.heap.size := by obtain ⟨m, hm⟩ := h1; exact DataW.trod_lt m _ _ _ hm
  obtain ⟨u0, ⟨g0, hg0, rfl⟩, rep0⟩ := arg_agg (by kernel_rfl) rd_grid (hval 0 26 v0' rfl rfl) h0
  obtain ⟨u1, ⟨s1, hn1, ht1, rfl⟩, rep1⟩ := arg_agg (by kernel_rfl) rd_layout (hval 1 30 v1' rfl rfl) h1
  clear hA0 hval0
  refine (walk_of (c_BinHits hg0 hn1 ht1) (gl_of hL) (repL2 rep0 rep1)).mono fun e W' ⟨he, bel⟩ => ?_
  subst he
  exact ⟨_, rfl, _, _, _, [], _, [], hW', trodAll_mk1 (shut_bool Tryd.underlying4 _), (trodAll_cons_mk (Below.trod laidOut (by kernel_rfl) (of_decide_eq_true (by kernel_rfl)) h0 bel lt0) (trodAll_cons_mk (Below.trod laidOut (by kernel_rfl) (of_decide_eq_true (by kernel_rfl)) h1 bel lt1) trodAll_mk0)), rfl, bel.frame _, fun h => by cases h⟩

theorem vBinHits_inPlace : Tryd.prog.inPlace 3 = [] := by kernel_rfl
theorem vBinHits_unfollowed : Tryd.prog.unfollowed 3 = true := by kernel_rfl
theorem vBinHits_recurses : Tryd.prog.recurses 3 = true := by kernel_rfl
theorem vBinHits_varsNamed : Tryd.prog.varsNamed 3 = ["paravane/bin.none"] := by kernel_rfl
theorem vBinHits_joined : joinedFacts Tryd.pinned.checked.prog 3 Tryd.f3 Rows.binHitsSpec Rows.binHitsRow = true := by
  show joinedFacts Tryd.prog 3 Tryd.f3 Rows.binHitsSpec Rows.binHitsRow = true
  unfold joinedFacts
  rw [may, lifts, made, heard, plain, rowed, laidOut, vBinHits_inPlace, vBinHits_unfollowed, vBinHits_recurses, vBinHits_varsNamed]
  kernel_rfl

theorem vBinHits_row : Rows.BinHitsSaid :=
  OpenClaim.holds_of_wide 3 Tryd.f3 rfl rfl rfl rfl rfl rfl rfl ⟨rfl, rfl, rfl, rfl, rfl⟩ rfl rfl rfl rfl rfl (by kernel_rfl) Tryd.func3 vBinHits_joined
    (of_decide_eq_true (by kernel_rfl)) (by unfold Func.isWrapper; first | (rw [if_pos (by decide +kernel)]; kernel_rfl) | (rw [if_neg (by decide +kernel)]; exact ⟨rfl, rfl⟩))
    (fun os started H enc _ => vBinHits_lifted os started H enc)

/-- ████ THE STATEMENT ████ -/
theorem vBinHits_proved : Rows.BinHitsCardSaid :=
  Claim7.holds_tied_plain_at .later [] [.data] true (true, "6aee4be3c6725f2610fff050f35ef26cbb28fbbc76831de6d90fe605cb293e49") false
    vBinHits_row (fun _ h => by cases h) (by kernel_rfl) (fun _ h => by cases h) binHits_row_tie rfl ⟨rfl, rfl⟩ (by kernel_rfl) rfl
    (fun f fn hf hfn => by
      obtain rfl : f = 3 := Option.some.inj ((show Tryd.prog.funcNamed "paravane/paravanelaw07.BinHits" = some 3 by kernel_rfl).symm.trans hf) |>.symm
      obtain rfl : fn = Tryd.f3 := (Option.some.inj (Tryd.func3.symm.trans hfn)).symm
      exact ⟨by kernel_rfl, fun j t ht => by
        rw [Tryd.params3] at ht
        have hm : t ∈ [26, 30] := by simpa using Array.mem_of_getElem? ht
        have hall : ([26, 30].all fun u => !Tryd.prog.wantsStandIn u) = true := by kernel_rfl
        exact (show Tryd.prog.wantsStandIn t = false by simpa using List.all_eq_true.1 hall t hm)⟩)
    (by kernel_rfl)
#print axioms vBinHits_proved

end Go.Proofs.YtdejdblopmfjfaaDoor
