/-
  BinKnown holds: the known cases come out as the chapter says. The package variable none is what the program lays.
-/
import Derived.Test.YtffoiccokigjcaaDoorLWKnown1
import Derived.Test.YtffoiccokigjcaaDoorCards
import Derived.SevenTiedAt

set_option linter.unusedVariables false
set_option linter.unusedSimpArgs false
namespace Go.Proofs.YtffoiccokigjcaaDoor
open Go.Am Go.ChangeShapes Go.WideShapes Go.ChangeAt Go.RowKit

set_option maxRecDepth 100000 in
theorem vBinKnown_lifted (os : Os) (started : os.Started) (H : Type) (enc : TypeId × Value → H) :
    ReturnsInHanded {} Tryd.checked os 10 .any (fun w args => (Rows.binKnownSpec.pre enc Tryd.prog Tryd.f10 [] false w args ∧ laidMetH Tryd.prog laidV w) ∧ sizedMet enc Tryd.prog Tryd.f10 (OpenSpec.ofChange Rows.binKnownSpec) false w args)
      (Rows.binKnownSpec.post enc Tryd.prog Tryd.f10 false true false false) := by
  refine returnsInHanded_of_change_and (C := Tryd.checked) (X := fun w _ => laidMetH Tryd.prog laidV w) (fun _ _ _ hh h => h.of_heap hh) own started (by kernel_rfl) Tryd.func10
    (ChangeSpec.witness_shaped (enc := enc) (C := Tryd.checked) (os := os) (X := fun w _ => laidMetH Tryd.prog laidV w) false (World.laidAll Tryd.prog os laidV) #[] 8 (World.laidAll_os _ _ _) (World.shaped_of_ZipB (by kernel_rfl) (by kernel_rfl)) (by kernel_rfl) (by kernel_rfl) (by kernel_rfl)
      (by rw [MakeChecks.laidMetH_plain _ _ _ (by kernel_rfl)]; exact laidMet_laidAll _ (by kernel_rfl) (by kernel_rfl))) ?_
  intro W base args ds gs before hval0 hW hcnd _ hL _
  have hval : ∀ (j : Nat) t v, Tryd.f10.params[j]? = some t → args[j]? = some v → Value.okWide Tryd.prog W .any base t v := hval0
  have hW' := hW
  obtain ⟨p, q, hA0, hV, rfl, hfz, hnd⟩ := hW
  have hA : DataW.TrodAll enc Tryd.prog W 0 (fun _ => true) true Tryd.f10.params.toList args.toList ds p := hA0
  rw [Tryd.params10] at hA hval
  obtain ⟨hargs, rfl, rfl⟩ := trodAll_nil hA
  obtain rfl : args = #[] := by cases args; simp_all
  obtain ⟨rfl, rfl⟩ := trodVars_none hV
  clear hA0 hval0
  refine (walk_of (c_BinKnown) (gl_of hL) (repL0 )).mono fun e W' ⟨he, bel⟩ => ?_
  subst he
  exact ⟨_, rfl, _, _, _, [], _, [], hW', trodAll_mk1 (shut_bool Tryd.underlying4 _), trodAll_mk0, rfl, bel.frame _, fun h => by cases h⟩

theorem vBinKnown_inPlace : Tryd.prog.inPlace 10 = [] := by kernel_rfl
theorem vBinKnown_unfollowed : Tryd.prog.unfollowed 10 = true := by kernel_rfl
theorem vBinKnown_recurses : Tryd.prog.recurses 10 = true := by kernel_rfl
theorem vBinKnown_varsNamed : Tryd.prog.varsNamed 10 = ["paravane/bin.none"] := by kernel_rfl
theorem vBinKnown_joined : joinedFacts Tryd.pinned.checked.prog 10 Tryd.f10 Rows.binKnownSpec Rows.binKnownRow = true := by
  show joinedFacts Tryd.prog 10 Tryd.f10 Rows.binKnownSpec Rows.binKnownRow = true
  unfold joinedFacts
  rw [may, lifts, made, heard, plain, rowed, laidOut, vBinKnown_inPlace, vBinKnown_unfollowed, vBinKnown_recurses, vBinKnown_varsNamed]
  kernel_rfl

theorem vBinKnown_row : Rows.BinKnownSaid :=
  OpenClaim.holds_of_wide 10 Tryd.f10 rfl rfl rfl rfl rfl rfl rfl ⟨rfl, rfl, rfl, rfl, rfl⟩ rfl rfl rfl rfl rfl (by kernel_rfl) Tryd.func10 vBinKnown_joined
    (of_decide_eq_true (by kernel_rfl)) (by unfold Func.isWrapper; first | (rw [if_pos (by decide +kernel)]; kernel_rfl) | (rw [if_neg (by decide +kernel)]; exact ⟨rfl, rfl⟩))
    (fun os started H enc _ => vBinKnown_lifted os started H enc)

/-- ████ THE STATEMENT ████ -/
theorem vBinKnown_proved : Rows.BinKnownCardSaid :=
  Claim7.holds_tied_plain_at .later [] [.data] true (true, "47f3dc3b75cd31c8c7ebd04ed5b2fad4af20457780fbc20c30aab17725b24563") false
    vBinKnown_row (fun _ h => by cases h) (by kernel_rfl) (fun _ h => by cases h) binKnown_row_tie rfl ⟨rfl, rfl⟩ (by kernel_rfl) rfl
    (fun f fn hf hfn => by
      obtain rfl : f = 10 := Option.some.inj ((show Tryd.prog.funcNamed "paravane/paravanelaw07.BinKnown" = some 10 by kernel_rfl).symm.trans hf) |>.symm
      obtain rfl : fn = Tryd.f10 := (Option.some.inj (Tryd.func10.symm.trans hfn)).symm
      exact ⟨by kernel_rfl, fun j t ht => by
        rw [Tryd.params10] at ht
        simp at ht⟩)
    (by kernel_rfl)
#print axioms vBinKnown_proved

end Go.Proofs.YtffoiccokigjcaaDoor
