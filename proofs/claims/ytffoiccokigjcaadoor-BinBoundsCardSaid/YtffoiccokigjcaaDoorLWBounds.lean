/-
  BinBounds holds: no choice that covers costs less than the bound of any proof; the bound of what Prove returns is just the cost of the best one, for any infill, choice and proof. The package variable none is what the program lays.
-/
import Derived.Test.YtffoiccokigjcaaDoorLWBounds1
import Derived.Test.YtffoiccokigjcaaDoorCards
import Derived.SevenTiedAt

set_option linter.unusedVariables false
set_option linter.unusedSimpArgs false
namespace Go.Proofs.YtffoiccokigjcaaDoor
open Go.Am Go.ChangeShapes Go.WideShapes Go.ChangeAt Go.RowKit

set_option maxRecDepth 100000 in
theorem vBinBounds_lifted (os : Os) (started : os.Started) (H : Type) (enc : TypeId × Value → H) :
    ReturnsInHanded {} Tryd.checked os 9 .any (fun w args => (Rows.binBoundsSpec.pre enc Tryd.prog Tryd.f9 [] false w args ∧ laidMetH Tryd.prog laidV w) ∧ sizedMet enc Tryd.prog Tryd.f9 (OpenSpec.ofChange Rows.binBoundsSpec) false w args)
      (Rows.binBoundsSpec.post enc Tryd.prog Tryd.f9 false true false false) := by
  refine returnsInHanded_of_change_and (C := Tryd.checked) (X := fun w _ => laidMetH Tryd.prog laidV w) (fun _ _ _ hh h => h.of_heap hh) own started (by kernel_rfl) Tryd.func9
    (ChangeSpec.witness_shaped (enc := enc) (C := Tryd.checked) (os := os) (X := fun w _ => laidMetH Tryd.prog laidV w) false (World.laidAll Tryd.prog os laidV) #[.agg #[.slice none 0 0, .slice none 0 0], .slice none 0 0, .slice none 0 0] 8 (World.laidAll_os _ _ _) (World.shaped_of_ZipB (by kernel_rfl) (by kernel_rfl)) (by kernel_rfl) (by kernel_rfl) (by kernel_rfl)
      (by rw [MakeChecks.laidMetH_plain _ _ _ (by kernel_rfl)]; exact laidMet_laidAll _ (by kernel_rfl) (by kernel_rfl))) ?_
  intro W base args ds gs before hval0 hW hcnd _ hL _
  have hval : ∀ (j : Nat) t v, Tryd.f9.params[j]? = some t → args[j]? = some v → Value.okWide Tryd.prog W .any base t v := hval0
  have hW' := hW
  obtain ⟨p, q, hA0, hV, rfl, hfz, hnd⟩ := hW
  have hA : DataW.TrodAll enc Tryd.prog W 0 (fun _ => true) true Tryd.f9.params.toList args.toList ds p := hA0
  rw [Tryd.params9] at hA hval
  obtain ⟨v0', vs0, d0, ds0, p0', q0, hargs, rfl, rfl, h0, r0⟩ := trodAll_cons hA
  obtain ⟨v1', vs1, d1, ds1, p1', q1, rfl, rfl, rfl, h1, r1⟩ := trodAll_cons r0
  obtain ⟨v2', vs2, d2, ds2, p2', q2, rfl, rfl, rfl, h2, r2⟩ := trodAll_cons r1
  obtain ⟨rfl, rfl, rfl⟩ := trodAll_nil r2
  obtain rfl : args = #[v0', v1', v2'] := by cases args; simp_all
  obtain ⟨rfl, rfl⟩ := trodVars_none hV
  have lt0 : ∀ x ∈ p0', x.block < W.heap.size := by obtain ⟨m, hm⟩ := h0; exact DataW.trod_lt m _ _ _ hm
  have lt1 : ∀ x ∈ p1', x.block < W.heap.size := by obtain ⟨m, hm⟩ := h1; exact DataW.trod_lt m _ _ _ hm
  have lt2 : ∀ x ∈ p2', x.block < W.heap.size := by obtain ⟨m, hm⟩ := h2; exact DataW.trod_lt m _ _ _ hm
  obtain ⟨u0, ⟨x0, hx0, rfl⟩, rep0⟩ := arg_agg (by kernel_rfl) rd_infill (hval 0 56 v0' rfl rfl) h0
  obtain ⟨aa1, len1, cap1, rfl⟩ := okWide_slice Tryd.underlying48 (hval 1 48 v1' rfl rfl)
  obtain ⟨u1, ⟨l1, hl1, hu1⟩, rep1⟩ := arg_one (by rfl) rd_ints h1
  cases hu1
  obtain ⟨aa2, len2, cap2, rfl⟩ := okWide_slice Tryd.underlying61 (hval 2 61 v2' rfl rfl)
  obtain ⟨u2, ⟨l2, hl2, hr2, hu2⟩, rep2⟩ := arg_one (by rfl) rd_cuts h2
  cases hu2
  clear hA0 hval0
  refine (walk_of (c_BinBounds hx0 hl1 hl2 hr2) (gl_of hL) (repL3 rep0 rep1 rep2)).mono fun e W' ⟨he, bel⟩ => ?_
  subst he
  exact ⟨_, rfl, _, _, _, [], _, [], hW', trodAll_mk1 (shut_bool Tryd.underlying4 _), (trodAll_cons_mk (Below.trod laidOut (by kernel_rfl) (of_decide_eq_true (by kernel_rfl)) h0 bel lt0) (trodAll_cons_mk (Below.trod laidOut (by kernel_rfl) (of_decide_eq_true (by kernel_rfl)) h1 bel lt1) (trodAll_cons_mk (Below.trod laidOut (by kernel_rfl) (of_decide_eq_true (by kernel_rfl)) h2 bel lt2) trodAll_mk0))), rfl, bel.frame _, fun h => by cases h⟩

theorem vBinBounds_inPlace : Tryd.prog.inPlace 9 = [] := by kernel_rfl
theorem vBinBounds_unfollowed : Tryd.prog.unfollowed 9 = true := by kernel_rfl
theorem vBinBounds_recurses : Tryd.prog.recurses 9 = true := by kernel_rfl
theorem vBinBounds_varsNamed : Tryd.prog.varsNamed 9 = ["paravane/bin.none"] := by kernel_rfl
theorem vBinBounds_joined : joinedFacts Tryd.pinned.checked.prog 9 Tryd.f9 Rows.binBoundsSpec Rows.binBoundsRow = true := by
  show joinedFacts Tryd.prog 9 Tryd.f9 Rows.binBoundsSpec Rows.binBoundsRow = true
  unfold joinedFacts
  rw [may, lifts, made, heard, plain, rowed, laidOut, vBinBounds_inPlace, vBinBounds_unfollowed, vBinBounds_recurses, vBinBounds_varsNamed]
  kernel_rfl

theorem vBinBounds_row : Rows.BinBoundsSaid :=
  OpenClaim.holds_of_wide 9 Tryd.f9 rfl rfl rfl rfl rfl rfl rfl ⟨rfl, rfl, rfl, rfl, rfl⟩ rfl rfl rfl rfl rfl (by kernel_rfl) Tryd.func9 vBinBounds_joined
    (of_decide_eq_true (by kernel_rfl)) (by unfold Func.isWrapper; first | (rw [if_pos (by decide +kernel)]; kernel_rfl) | (rw [if_neg (by decide +kernel)]; exact ⟨rfl, rfl⟩))
    (fun os started H enc _ => vBinBounds_lifted os started H enc)

/-- ████ THE STATEMENT ████ -/
theorem vBinBounds_proved : Rows.BinBoundsCardSaid :=
  Claim7.holds_tied_plain_at .later [] [.data] true (true, "47f3dc3b75cd31c8c7ebd04ed5b2fad4af20457780fbc20c30aab17725b24563") false
    vBinBounds_row (fun _ h => by cases h) (by kernel_rfl) (fun _ h => by cases h) binBounds_row_tie rfl ⟨rfl, rfl⟩ (by kernel_rfl) rfl
    (fun f fn hf hfn => by
      obtain rfl : f = 9 := Option.some.inj ((show Tryd.prog.funcNamed "paravane/paravanelaw07.BinBounds" = some 9 by kernel_rfl).symm.trans hf) |>.symm
      obtain rfl : fn = Tryd.f9 := (Option.some.inj (Tryd.func9.symm.trans hfn)).symm
      exact ⟨by kernel_rfl, fun j t ht => by
        rw [Tryd.params9] at ht
        have hm : t ∈ [56, 48, 61] := by simpa using Array.mem_of_getElem? ht
        have hall : ([56, 48, 61].all fun u => !Tryd.prog.wantsStandIn u) = true := by kernel_rfl
        exact (show Tryd.prog.wantsStandIn t = false by simpa using List.all_eq_true.1 hall t hm)⟩)
    (by kernel_rfl)
#print axioms vBinBounds_proved

end Go.Proofs.YtffoiccokigjcaaDoor
