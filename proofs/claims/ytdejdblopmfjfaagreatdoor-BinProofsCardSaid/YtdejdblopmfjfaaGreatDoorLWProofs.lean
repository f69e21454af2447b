/-
  BinProofs holds: Prove returns a proof whose bound is the cost of the best choice, and the errors that the chapter says; Bound returns what it says, for any infill and proof. The package variable none is what the program lays.
-/
import Derived.Test.YtdejdblopmfjfaaGreatDoorP6
import Derived.Test.YtdejdblopmfjfaaGreatDoorCards
import Derived.SevenTiedAt

set_option linter.unusedVariables false
set_option linter.unusedSimpArgs false
namespace Go.Proofs.YtdejdblopmfjfaaGreatDoor
open Go.Am Go.ChangeShapes Go.WideShapes Go.ChangeAt Go.RowKit

set_option maxRecDepth 100000 in
theorem vBinProofs_lifted (os : Os) (started : os.Started) (H : Type) (enc : TypeId × Value → H) :
    ReturnsInHanded {} Tryz.checked os 6 .any (fun w args => (Rows.binProofsSpec.pre enc Tryz.prog Tryz.f6 [] false w args ∧ laidMetH Tryz.prog laidV w) ∧ sizedMet enc Tryz.prog Tryz.f6 (OpenSpec.ofChange Rows.binProofsSpec) false w args)
      (Rows.binProofsSpec.post enc Tryz.prog Tryz.f6 false true false false) := by
  refine returnsInHanded_of_change_and (C := Tryz.checked) (X := fun w _ => laidMetH Tryz.prog laidV w) (fun _ _ _ hh h => h.of_heap hh) own started (by kernel_rfl) Tryz.func6
    (ChangeSpec.witness_shaped (enc := enc) (C := Tryz.checked) (os := os) (X := fun w _ => laidMetH Tryz.prog laidV w) false (World.laidAll Tryz.prog os laidV) #[.agg #[.slice none 0 0, .slice none 0 0], .slice none 0 0] 8 (World.laidAll_os _ _ _) (World.shaped_of_ZipB (by kernel_rfl) (by kernel_rfl)) (by kernel_rfl) (by kernel_rfl) (by kernel_rfl)
      (by rw [MakeChecks.laidMetH_plain _ _ _ (by kernel_rfl)]; exact laidMet_laidAll _ (by kernel_rfl) (by kernel_rfl))) ?_
  intro W base args ds gs before hval0 hW hcnd _ hL _
  have hval : ∀ (j : Nat) t v, Tryz.f6.params[j]? = some t → args[j]? = some v → Value.okWide Tryz.prog W .any base t v := hval0
  have hW' := hW
  obtain ⟨p, q, hA0, hV, rfl, hfz, hnd⟩ := hW
  have hA : DataW.TrodAll enc Tryz.prog W 0 (fun _ => true) true Tryz.f6.params.toList args.toList ds p := hA0
  rw [Tryz.params6] at hA hval
  obtain ⟨v0', vs0, d0, ds0, p0', q0, hargs, rfl, rfl, h0, r0⟩ := trodAll_cons hA
  obtain ⟨v1', vs1, d1, ds1, p1', q1, rfl, rfl, rfl, h1, r1⟩ := trodAll_cons r0
  obtain ⟨rfl, rfl, rfl⟩ := trodAll_nil r1
  obtain rfl : args = #[v0', v1'] := by cases args; simp_all
  obtain ⟨rfl, rfl⟩ := trodVars_none hV
  have lt0 : ∀ x ∈ p0', x.block < W.heap.size := by obtain ⟨m, hm⟩ := h0; exact DataW.trod_lt m _ _ _ hm
  have lt1 : ∀ x ∈ p1', x.block < W.heap.size := by obtain ⟨m, hm⟩ := h1; exact DataW.trod_lt m _ _ _ hm
  obtain ⟨u0, ⟨x0, hx0, rfl⟩, rep0⟩ := arg_agg (by kernel_rfl) rd_infill (hval 0 63 v0' rfl rfl) h0
  obtain ⟨aa1, len1, cap1, rfl⟩ := okWide_slice Tryz.underlying64 (hval 1 64 v1' rfl rfl)
  obtain ⟨u1, ⟨l1, hl1, hr1, hu1⟩, rep1⟩ := arg_one (by rfl) rd_cuts h1
  cases hu1
  clear hA0 hval0
  refine (walk_of (c_BinProofs hx0 hl1 hr1) (gl_of hL) (repL2 rep0 rep1)).mono fun e W' ⟨he, bel⟩ => ?_
  subst he
  exact ⟨_, rfl, _, _, _, [], _, [], hW', trodAll_mk1 (shut_bool Tryz.underlying4 _), (trodAll_cons_mk (Below.trod laidOut (by kernel_rfl) (of_decide_eq_true (by kernel_rfl)) h0 bel lt0) (trodAll_cons_mk (Below.trod laidOut (by kernel_rfl) (of_decide_eq_true (by kernel_rfl)) h1 bel lt1) trodAll_mk0)), rfl, bel.frame _, fun h => by cases h⟩

theorem vBinProofs_inPlace : Tryz.prog.inPlace 6 = [] := by kernel_rfl
theorem vBinProofs_unfollowed : Tryz.prog.unfollowed 6 = true := by kernel_rfl
theorem vBinProofs_recurses : Tryz.prog.recurses 6 = true := by kernel_rfl
theorem vBinProofs_varsNamed : Tryz.prog.varsNamed 6 = ["paravane/bin.none"] := by kernel_rfl
theorem vBinProofs_joined : joinedFacts Tryz.pinned.checked.prog 6 Tryz.f6 Rows.binProofsSpec Rows.binProofsRow = true := by
  show joinedFacts Tryz.prog 6 Tryz.f6 Rows.binProofsSpec Rows.binProofsRow = true
  unfold joinedFacts
  rw [may, lifts, made, heard, plain, rowed, laidOut, vBinProofs_inPlace, vBinProofs_unfollowed, vBinProofs_recurses, vBinProofs_varsNamed]
  kernel_rfl

theorem vBinProofs_row : Rows.BinProofsSaid :=
  OpenClaim.holds_of_wide 6 Tryz.f6 rfl rfl rfl rfl rfl rfl rfl ⟨rfl, rfl, rfl, rfl, rfl⟩ rfl rfl rfl rfl rfl (by kernel_rfl) Tryz.func6 vBinProofs_joined
    (of_decide_eq_true (by kernel_rfl)) (by unfold Func.isWrapper; first | (rw [if_pos (by decide +kernel)]; kernel_rfl) | (rw [if_neg (by decide +kernel)]; exact ⟨rfl, rfl⟩))
    (fun os started H enc _ => vBinProofs_lifted os started H enc)

/-- ████ THE STATEMENT ████ -/
theorem vBinProofs_proved : Rows.BinProofsCardSaid :=
  Claim7.holds_tied_plain_at .later [] [.data] true (true, "ec19f5707bb273954ccce77665451564e085088820ac27ab53deecdce0f661fc") false
    vBinProofs_row (fun _ h => by cases h) (by kernel_rfl) (fun _ h => by cases h) binProofs_row_tie rfl ⟨rfl, rfl⟩ (by kernel_rfl) rfl
    (fun f fn hf hfn => by
      obtain rfl : f = 6 := Option.some.inj ((show Tryz.prog.funcNamed "paravane/paravanelaw07.BinProofs" = some 6 by kernel_rfl).symm.trans hf) |>.symm
      obtain rfl : fn = Tryz.f6 := (Option.some.inj (Tryz.func6.symm.trans hfn)).symm
      exact ⟨by kernel_rfl, fun j t ht => by
        rw [Tryz.params6] at ht
        have hm : t ∈ [63, 64] := by simpa using Array.mem_of_getElem? ht
        have hall : ([63, 64].all fun u => !Tryz.prog.wantsStandIn u) = true := by kernel_rfl
        exact (show Tryz.prog.wantsStandIn t = false by simpa using List.all_eq_true.1 hall t hm)⟩)
    (by kernel_rfl)
#print axioms vBinProofs_proved

end Go.Proofs.YtdejdblopmfjfaaGreatDoor
