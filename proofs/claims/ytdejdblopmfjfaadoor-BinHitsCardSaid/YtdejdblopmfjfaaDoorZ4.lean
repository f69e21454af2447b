/-
  Parts of the proof, 4: the abstract machine, the compiled code, contracts of the functions, plain laws.
-/
import Derived.Test.YtdejdblopmfjfaaDoorZ3
import Derived.Laws.IdiomStrings
import Derived.Lib.BufferRead
import Derived.Shelf.SlSortCmp.WholeK


/-! Contracts: what a choice leaves; whether it covers. -/
set_option linter.unusedVariables false
set_option linter.unusedSimpArgs false
set_option maxRecDepth 20000
set_option maxHeartbeats 2000000
namespace Go.Proofs.YtdejdblopmfjfaaDoor
open Go.Am
attribute [local simp] cells scalar mkv splice under2 under dem dem1 eB eQ nfC intsV
def addsOf (x : Nf) (i : Nat) : List Int := (x.passes.getD i p0).adds
def restN (c a : List Int) : List Int := List.zipWith (fun m n => max 0 (m - n)) c a
def restsL (x : Nf) (l : List Nat) : List Int := l.foldl (fun c i => restN c (addsOf x i)) x.lacks
def small (n : Nat) (c : List Int) : Prop := c.length = n ∧ ∀ m ∈ c, 0 ≤ m ∧ m ≤ 100

theorem restN_small {n : Nat} {c a : List Int} (hc : small n c) (ha : a.length = n ∧ ∀ m ∈ a, 0 ≤ m ∧ m ≤ 100) : small n (restN c a) := by
  refine ⟨by simp [restN, hc.1, ha.1], fun m hm => ?_⟩
  unfold restN at hm
  obtain ⟨i, hi, rfl⟩ := List.getElem_of_mem hm
  simp only [List.length_zipWith] at hi
  rw [List.getElem_zipWith]
  have h1 := hc.2 _ (List.getElem_mem (show i < c.length by omega))
  have h2 := ha.2 _ (List.getElem_mem (show i < a.length by omega))
  omega

theorem adds_small {x : Nf} (hx : nfOk x = true) {i : Nat} (hi : i < x.passes.length) : (addsOf x i).length = x.lacks.length ∧ ∀ m ∈ addsOf x i, 0 ≤ m ∧ m ≤ 100 := by
  have := (nfOk_spec hx).2.2 _ (List.getElem_mem hi)
  have e : addsOf x i = x.passes[i].adds := by simp [addsOf, hi]
  rw [e]; exact this.2

theorem foldl_small {x : Nf} (hx : nfOk x = true) : ∀ (l : List Nat) (c : List Int), small x.lacks.length c → (∀ i ∈ l, i < x.passes.length) → small x.lacks.length (l.foldl (fun c i => restN c (addsOf x i)) c)
  | [], c, h, _ => h
  | i :: l, c, h, hl => foldl_small hx l _ (restN_small h (adds_small hx (hl i (by simp)))) fun j hj => hl j (by simp [hj])

theorem restsL_small {x : Nf} (hx : nfOk x = true) {l : List Nat} (hl : ∀ i ∈ l, i < x.passes.length) : small x.lacks.length (restsL x l) :=
  foldl_small hx l _ ⟨rfl, fun m hm => by have := (nfOk_spec hx).2.1 m hm; omega⟩ hl

theorem choiceN_lt {b m : Nat} (h : b < 2 ^ m) : ∀ i ∈ choiceN b, i < m := fun i hi => bit_lt h (mem_choice.1 hi).2

theorem c_rests0 {x : Nf} (hx : nfOk x = true) (h0 : x.lacks = []) {b : Nat} (hb : b < 2 ^ x.passes.length) : C Tryd.prog F.bin_rests [.agg (nfC x), I (b : Nat)] (intsV []) := by
  have hcl := choiceL_len b
  refine C_of mixed chk.bin_rests (by simp) fun S ok => ?_
  have kc : C Tryd.prog F.slices_Clone_int_int [intsV x.lacks] (intsV []) := by rw [h0]; exact c_CloneI0
  refine Tr.seqR rfl (by simp) (Tr.seqC rfl (by simp) (Steps.call rfl rfl kc (Steps.fin rfl (by simp) ?_)))
  refine Tr.seq (Tr.seqC rfl (by simp) (Steps.call rfl rfl (c_choice b) (Steps.fin rfl (by simp) (Tr.block ?_))))
  refine Tr.loop (fun (k : Nat) st => k ≤ (choiceL b).length ∧ st = { env := [(2, .ptr 2 0), (5, intsV []), (14, intsV (choiceL b)), (15, I ((choiceL b).length : Nat)), (16, I (k : Nat))], bx := [(2, ⟨nfC x, false⟩)], rw := [], log := [], stp := false }) (fun k => (choiceL b).length - k) 0
    (Wk.le (.cons rfl (.refl _) (.cons rfl (.refl _) (.cons rfl (.refl _) (.cons rfl (VLe.i (by simp)) (.cons rfl (.refl _) .nil))))) (.cons rfl (LLe.refl _) .nil) .nil rfl rfl) ⟨by omega, rfl⟩ ?_
  rintro k st ⟨hk, rfl⟩
  refine Tr.seqR rfl (by simp) (Tr.seqI rfl (fun h1 => ?_) (fun h1 => ?_))
  · have h1 : k < (choiceL b).length := by simpa using h1
    obtain ⟨i, hi, hip⟩ := choice_lt hb (List.getElem_mem h1)
    refine Tr.skipT (Tr.seq (Tr.block (Tr.seq (Tr.reg (Steps.runN 1 rfl (by simp; omega) ?_)))))
    rw [getD_map h1, hi]
    refine Steps.fin rfl (by simp) (Tr.seq (Tr.reg (Steps.runN 4 rfl (by simp; omega) ?_)))
    rw [getD_map hip]
    refine Steps.fin rfl (by simp) (Tr.block ?_)
    have ha := (adds_small hx hip).1
    have e : addsOf x i = x.passes[i].adds := by simp [addsOf, hip]
    rw [e, h0] at ha
    have ha : x.passes[i].adds = [] := List.length_eq_zero_iff.1 ha
    rw [ha]
    refine Tr.rounds 1 (TrN.succ ?_)
    refine Tr.seqR rfl (by simp) (Tr.seq (Tr.condF rfl (Tr.exit ?_)))
    refine Tr.regR rfl (by simp) ?_
    exact ⟨k + 1, _, Wk.le (.cons rfl (.refl _) (.cons rfl (.refl _) (.cons rfl (.refl _) (.cons rfl (.refl _) (.cons rfl (VLe.i (w64 (by omega) (by omega))) .nil))))) (.cons rfl (LLe.refl _) .nil) .nil rfl rfl, ⟨h1, rfl⟩, by omega⟩
  · have h1 : k = (choiceL b).length := by simp at h1; omega
    subst h1
    exact Tr.exit (Tr.seqR rfl (by simp) (Tr.retX rfl rfl rfl rfl trivial))

theorem foldl_take {α β : Type} (f : β → α → β) (l : List α) (z : β) {k : Nat} (h : k < l.length) : (l.take (k + 1)).foldl f z = f ((l.take k).foldl f z) l[k] := by
  rw [List.take_add_one, List.getElem?_eq_getElem h, List.foldl_append]; rfl

theorem c_rests1 {x : Nf} (hx : nfOk x = true) (h0 : x.lacks ≠ []) {b : Nat} (hb : b < 2 ^ x.passes.length) : C Tryd.prog F.bin_rests [.agg (nfC x), I (b : Nat)] (intsV (restsL x (choiceN b))) := by
  have hcl := choiceL_len b
  have hsp := nfOk_spec hx
  have hcN : (choiceN b).length = (choiceL b).length := by simp [choiceL, castL]
  have kc := c_CloneI h0 (by omega)
  have hw := choiceN_lt hb
  refine C_of mixed chk.bin_rests (by simp) fun S ok => ?_
  refine Tr.seqR rfl (by simp) (Tr.seq (Tr.reg (Steps.run rfl (by simp) (Steps.callO rfl (fun _ => rfl) kc rfl (Steps.fin rfl (by simp) ?_)))))
  refine Tr.seq (Tr.seqC rfl (by simp) (Steps.call rfl rfl (c_choice b) (Steps.fin rfl (by simp) (Tr.block ?_))))
  have hsm : ∀ k, k ≤ (choiceN b).length → small x.lacks.length (restsL x ((choiceN b).take k)) := fun k hk => restsL_small hx fun i hi => hw i (List.mem_of_mem_take hi)
  refine Tr.loop (fun (k : Nat) st => k ≤ (choiceL b).length ∧ st = { env := [(2, .ptr 2 0), (5, .bsl 12 0 1 x.lacks.length), (14, intsV (choiceL b)), (15, I ((choiceL b).length : Nat)), (16, I (k : Nat))], bx := [(12, ⟨(restsL x ((choiceN b).take k)).map I, false⟩), (2, ⟨nfC x, false⟩)], rw := [], log := [], stp := false }) (fun k => (choiceL b).length - k) 0
    (Wk.le (.cons rfl (.refl _) (.cons rfl (.of_eq (by simp)) (.cons rfl (.refl _) (.cons rfl (VLe.i (by simp)) (.cons rfl (.refl _) .nil))))) (.cons rfl (by rw [flat_ints]; exact LLe.refl _) (.cons rfl (LLe.refl _) .nil)) .nil (okI rfl) rfl) ⟨by omega, rfl⟩ ?_
  rintro k st ⟨hk, rfl⟩
  refine Tr.seqR rfl (by simp) (Tr.seqI rfl (fun h1 => ?_) (fun h1 => ?_))
  · have h1 : k < (choiceL b).length := by simpa using h1
    have h1N : k < (choiceN b).length := by omega
    have hip := hw _ (List.getElem_mem h1N)
    have hi : (choiceL b)[k] = (((choiceN b)[k] : Nat) : Int) := by simp [choiceL, castL]
    obtain ⟨i, ei⟩ : ∃ i, (choiceN b)[k] = i := ⟨_, rfl⟩
    rw [ei] at hip hi
    refine Tr.skipT (Tr.seq (Tr.block (Tr.seq (Tr.reg (Steps.runN 1 rfl (by simp; omega) ?_)))))
    rw [getD_map h1, hi]
    refine Steps.fin rfl (by simp) (Tr.seq (Tr.reg (Steps.runN 4 rfl (by simp; omega) ?_)))
    rw [getD_map hip]
    refine Steps.fin rfl (by simp) (Tr.block ?_)
    have ha := adds_small hx hip
    have e : addsOf x i = x.passes[i].adds := by simp [addsOf, hip]
    have hst : restsL x ((choiceN b).take (k + 1)) = restN (restsL x ((choiceN b).take k)) x.passes[i].adds := by
      unfold restsL
      rw [foldl_take _ _ _ h1N, ei, e]
    have hs0 := hsm k (by omega)
    rw [e] at ha
    generalize restsL x ((choiceN b).take k) = c0 at hs0 hst
    refine Tr.loop (fun (j : Nat) st => j ≤ x.passes[i].adds.length ∧ st = { env := [(2, .ptr 2 0), (5, .bsl 12 0 1 x.lacks.length), (14, intsV (choiceL b)), (15, I ((choiceL b).length : Nat)), (16, I (k : Nat)), (25, intsV x.passes[i].adds), (26, I (x.passes[i].adds.length : Nat)), (27, I (j : Nat))], bx := [(12, ⟨((restN c0 x.passes[i].adds).take j ++ c0.drop j).map I, false⟩), (2, ⟨nfC x, false⟩)], rw := [], log := [], stp := false }) (fun j => x.passes[i].adds.length - j) 0
      (Wk.le (.cons rfl (.refl _) (.cons rfl (.refl _) (.cons rfl (.refl _) (.cons rfl (.refl _) (.cons rfl (.refl _) (.cons rfl (.refl _) (.cons rfl (VLe.i ?_) (.cons rfl (.refl _) .nil)))))))) (.cons rfl ?_ (.cons rfl (LLe.refl _) .nil)) .nil (okI rfl) rfl) ⟨by omega, rfl⟩ ?_
    · show ((x.passes[i].adds.map I).length : Int) = _
      rw [List.length_map]
    · rw [List.take_zero, List.nil_append, List.drop_zero]; exact LLe.refl _
    rintro j st ⟨hj, rfl⟩
    have hrl : (restN c0 x.passes[i].adds).length = x.passes[i].adds.length := by simp [restN, hs0.1, ha.1]
    refine Tr.seqR rfl (by simp) (Tr.seqI rfl (fun h2 => ?_) (fun h2 => ?_))
    · have h2 : j < x.passes[i].adds.length := by simpa using h2
      have hj0 : j < c0.length := by rw [hs0.1, ← ha.1]; exact h2
      have hmt : ((restN c0 x.passes[i].adds).take j).length = j := by rw [List.length_take]; omega
      have hml : ((restN c0 x.passes[i].adds).take j ++ c0.drop j).length = x.lacks.length := by rw [List.length_append, hmt, List.length_drop]; have := hs0.1; omega
      have hk0 : 0 + (j : Int).toNat * 1 = j := by omega
      have hdr : (((restN c0 x.passes[i].adds).take j ++ c0.drop j).map I).drop j = I c0[j] :: (c0.drop (j + 1)).map I := by
        rw [← List.map_drop, List.drop_append_of_le_length (by omega), List.drop_eq_nil_of_le (by omega), List.nil_append, List.drop_eq_getElem_cons hj0]; rfl
      have hv : (restN c0 x.passes[i].adds)[j]'(by omega) = max 0 (c0[j] - x.passes[i].adds[j]) := by simp [restN]
      have hb1 := hs0.2 _ (List.getElem_mem hj0)
      have hb2 := ha.2 _ (List.getElem_mem h2)
      have hnew : List.take j (((restN c0 x.passes[i].adds).take j ++ c0.drop j).map I) ++ [I (if IntKind.wrap .i64 (c0[j] - x.passes[i].adds[j]) > 0 then IntKind.wrap .i64 (c0[j] - x.passes[i].adds[j]) else 0)] ++ List.drop (j + 1) (((restN c0 x.passes[i].adds).take j ++ c0.drop j).map I) = ((restN c0 x.passes[i].adds).take (j + 1) ++ c0.drop (j + 1)).map I := by
        have e1 : (((restN c0 x.passes[i].adds).take j ++ c0.drop j).map I).drop (j + 1) = (c0.drop (j + 1)).map I := by
          have := congrArg (List.drop 1) hdr
          rw [List.drop_drop] at this
          simpa using this
        rw [ite_max, w64 (n := c0[j] - x.passes[i].adds[j]) (by omega) (by omega), e1, ← List.map_take, List.take_append_of_le_length (by omega), List.take_take, Nat.min_self, List.take_add_one, List.getElem?_eq_getElem (by omega), hv]
        simp
      refine Tr.skipT (Tr.seq (Tr.block (Tr.seq (Tr.reg (Steps.runN 2 rfl (by simp; omega) ?_)))))
      rw [getD_map h2]
      refine Steps.fin rfl (by simp) (Tr.reg (Steps.runN 5 rfl (by simp; omega) ?_))
      rw [hk0]
      refine Steps.runN 1 rfl (by simp; omega) ?_
      rw [hdr]
      refine Steps.runN 4 rfl (by simp; omega) ?_
      rw [hk0]
      refine Steps.fin rfl (by simp; omega) ?_
      refine Tr.regR rfl (by simp) ?_
      refine ⟨j + 1, _, Wk.le (.cons rfl (.refl _) (.cons rfl (.refl _) (.cons rfl (.refl _) (.cons rfl (.refl _) (.cons rfl (.refl _) (.cons rfl (.refl _) (.cons rfl (.refl _) (.cons rfl (VLe.i (w64 (by omega) (by omega))) .nil)))))))) (.cons rfl ?_ (.cons rfl (LLe.refl _) .nil)) .nil (okI rfl) rfl, ⟨h2, rfl⟩, by omega⟩
      rw [← hnew]
      exact LLe.refl _
    · have h2 : j = x.passes[i].adds.length := by simp at h2; omega
      subst h2
      have hc : c0.length = x.passes[i].adds.length := by rw [hs0.1, ha.1]
      have e1 : (restN c0 x.passes[i].adds).take x.passes[i].adds.length ++ c0.drop x.passes[i].adds.length = restN c0 x.passes[i].adds := by rw [List.take_of_length_le (by omega), List.drop_eq_nil_of_le (by omega), List.append_nil]
      rw [e1]
      refine Tr.exit (Tr.regR rfl (by simp) ?_)
      exact ⟨k + 1, _, Wk.le (.cons rfl (.refl _) (.cons rfl (.refl _) (.cons rfl (.refl _) (.cons rfl (.refl _) (.cons rfl (VLe.i (w64 (by omega) (by omega))) .nil))))) (.cons rfl (by rw [hst]; exact LLe.refl _) (.cons rfl (LLe.refl _) .nil)) .nil (okI rfl) rfl, ⟨h1, rfl⟩, by omega⟩
  · have h1 : k = (choiceL b).length := by simp at h1; omega
    subst h1
    rw [← hcN, List.take_length]
    refine Tr.exit ?_
    refine Tr.weak (s' := { env := [(5, .bsl 12 0 1 x.lacks.length)], bx := [(12, ⟨(restsL x (choiceN b)).map I, false⟩)], rw := [], log := [], stp := false }) (Wk.le (.cons rfl (.refl _) .nil) (.cons rfl (LLe.refl _) .nil) .nil (okI rfl) rfl) ?_
    have hs0 := restsL_small hx hw
    refine Tr.weak (Wk.bsl (t := 5) rfl rfl (by rw [← hs0.1]; exact holds_ints _)) ?_
    exact (Tr.seqR rfl (by simp) (Tr.retX rfl rfl rfl rfl trivial))

theorem c_rests {x : Nf} (hx : nfOk x = true) {b : Nat} (hb : b < 2 ^ x.passes.length) : C Tryd.prog F.bin_rests [.agg (nfC x), I (b : Nat)] (intsV (restsL x (choiceN b))) := by
  by_cases h0 : x.lacks = []
  · have h := c_rests0 hx h0 hb
    have hs0 := (restsL_small hx (choiceN_lt hb)).1
    rw [h0] at hs0
    rw [List.length_eq_zero_iff.1 hs0]
    exact h
  · exact c_rests1 hx h0 hb

def coversB (x : Nf) (b : Nat) : Bool := decide (sumF id (restsL x (choiceN b)) = 0)

theorem c_covers {x : Nf} (hx : nfOk x = true) {b : Nat} (hb : b < 2 ^ x.passes.length) : C Tryd.prog F.bin_covers [.agg (nfC x), I (b : Nat)] (.bool (coversB x b)) := by
  have hs0 := restsL_small hx (choiceN_lt hb)
  have hn := (nfOk_spec hx).1.1
  have k := c_sum (f := F.bin_covers_1) (us := []) (v := id) (l := restsL x (choiceN b)) plain_nil (by rw [hs0.1]; exact hn) (fun n h => by have := hs0.2 n h; simp only [id]; omega) fun n _ => c_covers1 n
  refine C_of mixed chk.bin_covers (by simp) fun S ok => ?_
  refine Tr.seqR rfl (by simp) (Tr.seqC rfl (by simp) (Steps.call rfl rfl (c_rests hx hb) (Steps.run rfl (by simp) (Steps.call rfl rfl k (Steps.fin rfl (by simp) (Tr.retX rfl rfl rfl ?_ trivial))))))
  show V.bool (coversB x b) = .bool (sumF id (restsL x (choiceN b)) == 0)
  unfold coversB
  by_cases h : sumF id (restsL x (choiceN b)) = 0
  · rw [h]; rfl
  · simp [h]

end Go.Proofs.YtdejdblopmfjfaaDoor


/-! Contracts: lists compared; the best choice. -/
set_option linter.unusedVariables false
set_option linter.unusedSimpArgs false
set_option maxRecDepth 40000
set_option maxHeartbeats 4000000
namespace Go.Proofs.YtdejdblopmfjfaaDoor
open Go.Am
attribute [local simp] cells scalar mkv splice under2 under dem dem1 eB eQ nfC intsV
theorem c_isNaN (n : Int) : C Tryd.prog F.cmp_isNaN_int [I n] (.bool false) := by
  refine C_of mixed chk.cmp_isNaN_int (by simp) fun S ok => ?_
  refine Tr.seqR rfl (by simp) (Tr.seqR rfl (by simp) (Tr.retX rfl rfl rfl ?_ trivial))
  show V.bool false = .bool (n != n)
  simp

def cmpI (a b : Int) : Int := if a < b then -1 else if a > b then 1 else 0

theorem c_Cmp (a b : Int) : C Tryd.prog F.cmp_Compare_int [I a, I b] (I (cmpI a b)) := by
  refine C_of mixed chk.cmp_Compare_int (by simp) fun S ok => ?_
  refine Tr.seqR rfl (by simp) (Tr.seqC rfl (by simp) (Steps.call rfl rfl (c_isNaN a) (Steps.fin rfl (by simp) ?_)))
  refine Tr.seqC rfl (by simp) (Steps.call rfl rfl (c_isNaN b) (Steps.fin rfl (by simp) ?_))
  refine Tr.seq (Tr.seqR rfl (by simp) (Tr.condF rfl (Tr.skip ?_)))
  refine Tr.seq (Tr.seqR rfl (by simp) (Tr.condF rfl (Tr.skip ?_)))
  refine Tr.seq (Tr.seqR rfl (by simp) (Tr.cond rfl rfl (fun h => ?_) (fun h => Tr.skip ?_)))
  · have h : a < b := by
      have h : decide (a < b) = true := h
      simpa using h
    exact Tr.seqR rfl (by simp) (Tr.retX rfl rfl rfl (by unfold cmpI; rw [if_pos h]; rfl) trivial)
  have h : ¬ a < b := by
    have h : decide (a < b) = false := h
    simpa using h
  refine Tr.seq (Tr.seqR rfl (by simp) (Tr.cond rfl rfl (fun h2 => ?_) (fun h2 => Tr.skip ?_)))
  · have h2 : a > b := by
      have h2 : decide (a > b) = true := h2
      simpa using h2
    exact Tr.seqR rfl (by simp) (Tr.retX rfl rfl rfl (by unfold cmpI; rw [if_neg h, if_pos h2]; rfl) trivial)
  have h2 : ¬ a > b := by
    have h2 : decide (a > b) = false := h2
    simpa using h2
  exact Tr.seqR rfl (by simp) (Tr.retX rfl rfl rfl (by unfold cmpI; rw [if_neg h, if_neg h2]; rfl) trivial)

def cmpL : List Int → List Int → Int
  | [], [] => 0
  | [], _ :: _ => -1
  | _ :: _, [] => 1
  | a :: l, b :: m => if cmpI a b ≠ 0 then cmpI a b else cmpL l m

theorem c_CompareL {l m : List Int} (hl : l.length ≤ 1000000) : C Tryd.prog F.slices_Compare_int_int [intsV l, intsV m] (I (cmpL l m)) := by
  refine C_of mixed chk.slices_Compare_int_int (by simp) fun S ok => ?_
  refine Tr.seqR rfl (by simp) (Tr.seq (Tr.seqR rfl (by simp) (Tr.block ?_)))
  refine Tr.loop (fun (k : Nat) st => (k ≤ l.length ∧ k ≤ m.length ∧ cmpL l m = cmpL (l.drop k) (m.drop k)) ∧ st = { env := [(0, intsV l), (1, intsV m), (9, intsV l), (10, I (l.length : Nat)), (11, I (k : Nat))], bx := [], rw := [], log := [], stp := false }) (fun k => l.length - k) 0
    (Wk.le (.cons rfl (.refl _) (.cons rfl (.refl _) (.cons rfl (.refl _) (.cons rfl (VLe.i (by simp)) (.cons rfl (.refl _) .nil))))) .nil .nil rfl rfl) ⟨⟨by omega, by omega, by simp⟩, rfl⟩ ?_
  rintro k st ⟨⟨hk, hkm, he⟩, rfl⟩
  refine Tr.seqR rfl (by simp) (Tr.seqI rfl (fun h1 => ?_) (fun h1 => ?_))
  · have h1 : k < l.length := by simpa using h1
    refine Tr.skipT (Tr.seq (Tr.block (Tr.seq (Tr.reg (Steps.runN 2 rfl (by simp; omega) ?_)))))
    rw [getD_map h1]
    refine Steps.fin rfl (by simp) (Tr.seq (Tr.seqR rfl (by simp) (Tr.cond rfl rfl (fun h2 => ?_) (fun h2 => Tr.skip ?_))))
    · have h2 : k = m.length := by
        have h2 : decide ((k : Int) ≥ ((m.map I).length : Int)) = true := h2
        simp at h2; omega
      refine Tr.seqR rfl (by simp) (Tr.retX rfl rfl rfl ?_ trivial)
      rw [he, h2, List.drop_length, List.drop_eq_getElem_cons (by omega)]; rfl
    have h2 : k < m.length := by
      have h2 : decide ((k : Int) ≥ ((m.map I).length : Int)) = false := h2
      simp at h2; omega
    refine Tr.seq (Tr.reg (Steps.runN 3 rfl (by simp; omega) ?_))
    rw [getD_map h2]
    refine Steps.fin rfl (by simp) (Tr.seqC rfl (by simp) (Steps.call rfl rfl (c_Cmp l[k] m[k]) (Steps.fin rfl (by simp) ?_)))
    have hd : cmpL l m = if cmpI l[k] m[k] ≠ 0 then cmpI l[k] m[k] else cmpL (l.drop (k + 1)) (m.drop (k + 1)) := by
      rw [he, List.drop_eq_getElem_cons h1, List.drop_eq_getElem_cons h2]; rfl
    refine Tr.seqR rfl (by simp) (Tr.cond rfl rfl (fun h3 => ?_) (fun h3 => Tr.skip (Tr.regR rfl (by simp) ?_)))
    · have h3 : cmpI l[k] m[k] ≠ 0 := by
        have h3 : (cmpI l[k] m[k] != 0) = true := h3
        simpa using h3
      rw [if_pos h3] at hd
      exact Tr.seqR rfl (by simp) (Tr.retX rfl rfl rfl (by rw [hd]; rfl) trivial)
    · have h3 : ¬ cmpI l[k] m[k] ≠ 0 := by
        have h3 : (cmpI l[k] m[k] != 0) = false := h3
        simpa using h3
      rw [if_neg h3] at hd
      exact ⟨k + 1, _, Wk.le (.cons rfl (.refl _) (.cons rfl (.refl _) (.cons rfl (.refl _) (.cons rfl (.refl _) (.cons rfl (VLe.i (w64 (by omega) (by omega))) .nil))))) .nil .nil rfl rfl, ⟨⟨h1, h2, hd⟩, rfl⟩, by omega⟩
  · have h1 : k = l.length := by simp at h1; omega
    subst h1
    rw [List.drop_length] at he
    refine Tr.exit (Tr.seq (Tr.seqR rfl (by simp) (Tr.cond rfl rfl (fun h2 => ?_) (fun h2 => Tr.skip ?_))))
    · have h2 : l.length < m.length := by
        have h2 : decide (((l.map I).length : Int) < ((m.map I).length : Int)) = true := h2
        simpa using h2
      refine Tr.seqR rfl (by simp) (Tr.retX rfl rfl rfl ?_ trivial)
      rw [he, List.drop_eq_getElem_cons h2]; rfl
    · have h2 : m.length = l.length := by
        have h2 : decide (((l.map I).length : Int) < ((m.map I).length : Int)) = false := h2
        simp at h2; omega
      refine Tr.seqR rfl (by simp) (Tr.retX rfl rfl rfl ?_ trivial)
      rw [he, ← h2, List.drop_length]; rfl

/-! ### The best choice -/
def better (x : Nf) (b o : Nat) : Bool :=
  if costB x b ≠ costB x o then decide (costB x b < costB x o)
  else if (choiceL b).length ≠ (choiceL o).length then decide ((choiceL b).length < (choiceL o).length)
  else decide (cmpL (choiceL b) (choiceL o) < 0)
def skips (x : Nf) (wo b : Nat) : Bool := decide (b &&& wo ≠ 0) || !coversB x b
def bestStep (x : Nf) (wo : Nat) (p : Nat × Bool) (b : Nat) : Nat × Bool := if skips x wo b then p else if !p.2 then (b, true) else if better x b p.1 then (b, true) else p
def bestN (x : Nf) (wo : Nat) : Nat × Bool := (List.range (2 ^ x.passes.length)).foldl (bestStep x wo) (0, false)

theorem drop_ints {L : List Int} {k : Nat} (h : k < L.length) {v : Int} (hv : L[k] = v) : (L.map I).drop k = I v :: (L.map I).drop (k + 1) := by
  rw [List.drop_eq_getElem_cons (by simpa using h)]; simp [hv]

theorem splice_ints {L : List Int} {k : Nat} (h : k < L.length) (v : Int) : splice (L.map I) k [I v] = (L.set k v).map I := by
  unfold splice
  rw [List.set_eq_take_append_cons_drop, if_pos h]
  simp

theorem costB_bd {x : Nf} (hx : nfOk x = true) {b : Nat} (hb : b < 2 ^ x.passes.length) : 0 ≤ costB x b ∧ costB x b ≤ 10000 := by
  have h := sumF_bd (v := fun i => costOf x i.toNat) (m := 1000) (choiceL b) 0 (fun n hn => by
    obtain ⟨i, rfl, hi⟩ := choice_lt hb hn
    have := ((nfOk_spec hx).2.2 _ (List.getElem_mem hi)).1
    simp [costOf, hi]; omega)
  have hl := choiceL_len b
  unfold costB sumF
  omega

theorem c_best {x : Nf} (hx : nfOk x = true) {wo : Nat} (hwo : wo < 2 ^ 62) : C Tryd.prog F.bin_best [.agg (nfC x), I (wo : Nat)] (.tuple [I ((bestN x wo).1 : Nat), .bool (bestN x wo).2]) := by
  have hm := (nfOk_spec hx).1.2
  have hm2 : 2 ^ x.passes.length ≤ 1024 := Nat.pow_le_pow_right (n := 2) (by omega) hm
  refine C_of mixed chk.bin_best (by simp) fun S ok => ?_
  refine Tr.seqR rfl (by simp) (Tr.seqR rfl (by simp) (Tr.seqR rfl (by simp) (Tr.seq (Tr.seqR rfl (by simp) (Tr.block ?_)))))
  refine Tr.loop (α := Nat × List Int) (fun p st => (p.1 ≤ 2 ^ x.passes.length ∧ p.2.length = 1024 ∧ (((List.range p.1).foldl (bestStep x wo) (0, false)).2 = true → ((List.range p.1).foldl (bestStep x wo) (0, false)).1 < p.1 ∧ p.2[((List.range p.1).foldl (bestStep x wo) (0, false)).1]? = some (costB x ((List.range p.1).foldl (bestStep x wo) (0, false)).1))) ∧
      st = { env := [(1, I (wo : Nat)), (2, .ptr 2 0), (6, .ptr 6 0), (7, I (((List.range p.1).foldl (bestStep x wo) (0, false)).1 : Nat)), (8, .bool ((List.range p.1).foldl (bestStep x wo) (0, false)).2), (15, I ((2 ^ x.passes.length : Nat) : Int)), (16, I (p.1 : Nat))], bx := [(6, ⟨p.2.map I, false⟩), (2, ⟨nfC x, false⟩)], rw := [], log := [], stp := false }) (fun p => 2 ^ x.passes.length - p.1) (0, List.replicate 1024 0)
    (Wk.le (.cons rfl (.refl _) (.cons rfl (.refl _) (.cons rfl (.refl _) (.cons rfl (.refl _) (.cons rfl (.refl _) (.cons rfl (VLe.i ?_) (.cons rfl (.refl _) .nil))))))) (.cons rfl ?_ (.cons rfl (LLe.refl _) .nil)) .nil (okI rfl) rfl) ⟨⟨Nat.zero_le _, by simp, fun h => by cases h⟩, rfl⟩ ?_
  · show IntKind.wrap .i64 (1 * 2 ^ (min ((x.passes.map eQ).length : Int).toNat 64)) = _
    rw [List.length_map]
    exact bit_shl _ (by omega)
  · rw [List.map_replicate]; exact LLe.refl _
  rintro ⟨b, L⟩ st ⟨⟨hk, hL, hout⟩, rfl⟩
  simp only at hk hL hout
  obtain ⟨⟨o, so⟩, hos⟩ : ∃ p, (List.range b).foldl (bestStep x wo) (0, false) = p := ⟨_, rfl⟩
  rw [hos] at hout
  simp only at hout
  refine Tr.seqR rfl (by simp) (Tr.seqI rfl (fun h1 => ?_) (fun h1 => ?_))
  rotate_left
  · have h1 : b = 2 ^ x.passes.length := by
      have h1 : decide ((b : Int) < ((2 ^ x.passes.length : Nat) : Int)) = false := h1
      rw [decide_eq_false_iff_not, Int.ofNat_lt] at h1; omega
    subst h1
    refine Tr.exit (Tr.seqR rfl (by simp) (Tr.retX rfl rfl rfl ?_ trivial))
    rfl
  have h1 : b < 2 ^ x.passes.length := by
    have h1 : decide ((b : Int) < ((2 ^ x.passes.length : Nat) : Int)) = true := h1
    rw [decide_eq_true_eq, Int.ofNat_lt] at h1; exact h1
  have hb62 : b < 2 ^ 62 := by omega
  have hfold : (List.range (b + 1)).foldl (bestStep x wo) (0, false) = bestStep x wo (o, so) b := by
    rw [List.range_succ, List.foldl_append, hos]; rfl
  obtain ⟨p', hp'⟩ : ∃ p', bestStep x wo (o, so) b = p' := ⟨_, rfl⟩
  obtain ⟨L', hL'⟩ : ∃ L', (if skips x wo b then L else L.set b (costB x b)) = L' := ⟨_, rfl⟩
  have hfin : L'.length = 1024 ∧ (p'.2 = true → p'.1 < b + 1 ∧ L'[p'.1]? = some (costB x p'.1)) := by
    subst hp' hL'
    unfold bestStep
    by_cases hs : skips x wo b = true
    · rw [if_pos hs, if_pos hs]
      exact ⟨hL, fun h => by have := hout h; exact ⟨by simp only; omega, this.2⟩⟩
    · rw [if_neg hs, if_neg hs]
      have hbs : (L.set b (costB x b))[b]? = some (costB x b) := by rw [List.getElem?_set_self (by omega)]
      refine ⟨by rw [List.length_set]; exact hL, fun h => ?_⟩
      cases so with
      | false => exact ⟨by simp, by simpa using hbs⟩
      | true =>
        simp only [Bool.not_true, Bool.false_eq_true, if_false] at h ⊢
        by_cases hbt : better x b o = true
        · rw [if_pos hbt]; exact ⟨by simp only; omega, hbs⟩
        · rw [if_neg hbt]
          have h2 := hout rfl
          exact ⟨by simp only; omega, by rw [List.getElem?_set_ne (by omega)]; exact h2.2⟩
  rw [hos]
  refine Tr.skipT (Tr.meet { env := [(1, I (wo : Nat)), (2, .ptr 2 0), (6, .ptr 6 0), (7, I (p'.1 : Nat)), (8, .bool p'.2), (15, I ((2 ^ x.passes.length : Nat) : Int)), (16, I (b : Nat))], bx := [(6, ⟨L'.map I, false⟩), (2, ⟨nfC x, false⟩)], rw := [], log := [], stp := false } (Tr.block ?_) (Tr.regR rfl (by simp) ?_))
  rotate_left
  · refine ⟨(b + 1, L'), _, Wk.le (.cons rfl (.refl _) (.cons rfl (.refl _) (.cons rfl (.refl _) (.cons rfl (.of_eq (by rw [hfold, hp'])) (.cons rfl (.of_eq (by rw [hfold, hp'])) (.cons rfl (.refl _) (.cons rfl (VLe.i (w64 (by omega) (by omega))) .nil))))))) (.cons rfl (LLe.refl _) (.cons rfl (LLe.refl _) .nil)) .nil (okI rfl) rfl, ⟨⟨h1, hfin.1, ?_⟩, rfl⟩, by simp only; omega⟩
    simp only [hfold, hp']; exact hfin.2
  refine Tr.seqR rfl (by simp) (Tr.seq (Tr.seqC rfl (by simp) (Steps.gcall rfl rfl rfl rfl (by simp) (fun _ => c_covers hx h1) (Steps.fin rfl (by simp) ?_))))
  have hsk : (bif (bitsV .and .i64 (b : Int) (wo : Int) != 0) then true else !(coversB x b)) = skips x wo b := by
    rw [bits_and _ _ hb62 hwo]
    unfold skips
    by_cases h : b &&& wo = 0
    · simp [h]
    · simp [h]
  refine Tr.cond rfl rfl (fun h2 => ?_) (fun h2 => Tr.skip ?_)
  · have h2 : (bif (bitsV .and .i64 (b : Int) (wo : Int) != 0) then true else !(coversB x b)) = true := h2
    rw [hsk] at h2
    have e1 : p' = (o, so) := by rw [← hp']; unfold bestStep; rw [if_pos h2]
    have e2 : L' = L := by rw [← hL', if_pos h2]
    subst e1 e2
    exact Tr.exit (Wk.le (.cons rfl (.refl _) (.cons rfl (.refl _) (.cons rfl (.refl _) (.cons rfl (.refl _) (.cons rfl (.refl _) (.cons rfl (.refl _) (.cons rfl (.refl _) .nil))))))) (.cons rfl (LLe.refl _) (.cons rfl (LLe.refl _) .nil)) .nil (okI rfl) rfl)
  have h2 : (bif (bitsV .and .i64 (b : Int) (wo : Int) != 0) then true else !(coversB x b)) = false := h2
  rw [hsk] at h2
  have e2 : L' = L.set b (costB x b) := by rw [← hL', if_neg (by simp [h2])]
  have e1 : p' = if !so then (b, true) else if better x b o then (b, true) else (o, so) := by rw [← hp']; unfold bestStep; rw [if_neg (by simp [h2])]
  have hbL : b < L.length := by omega
  have hk0 : 0 + (b : Int).toNat * 1 = b := by omega
  refine Tr.seq (Tr.reg (Steps.run rfl (by simp) (Steps.call rfl rfl (c_cost hx h1) (Steps.runN 1 rfl (by simp; omega) ?_))))
  rw [hk0]
  refine Steps.fin rfl (by simp; omega) ?_
  have hin : b < L'.length := by rw [e2, List.length_set]; omega
  refine Tr.weak (s' := { env := [(1, I (wo : Nat)), (2, .ptr 2 0), (6, .ptr 6 0), (7, I (o : Nat)), (8, .bool so), (9, I (b : Nat)), (15, I ((2 ^ x.passes.length : Nat) : Int)), (16, I (b : Nat))], bx := [(6, ⟨L'.map I, false⟩), (2, ⟨nfC x, false⟩)], rw := [], log := [], stp := false })
    (Wk.le (.cons rfl (.refl _) (.cons rfl (.refl _) (.cons rfl (.refl _) (.cons rfl (.refl _) (.cons rfl (.refl _) (.cons rfl (.refl _) (.cons rfl (.refl _) (.cons rfl (.refl _) .nil)))))))) (.cons rfl (by rw [e2, ← splice_ints hbL]; exact LLe.refl _) (.cons rfl (LLe.refl _) .nil)) .nil (okI rfl) rfl) ?_
  refine Tr.seq (Tr.seqR rfl (by simp) (Tr.cond rfl rfl (fun h3 => ?_) (fun h3 => Tr.skip ?_)))
  · have h3 : (!so) = true := h3
    rw [if_pos h3] at e1
    subst e1
    refine Tr.seqR rfl (by simp) (Tr.exit ?_)
    exact Wk.le (.cons rfl (.refl _) (.cons rfl (.refl _) (.cons rfl (.refl _) (.cons rfl (.refl _) (.cons rfl (.refl _) (.cons rfl (.refl _) (.cons rfl (.refl _) .nil))))))) (.cons rfl (LLe.refl _) (.cons rfl (LLe.refl _) .nil)) .nil (okI rfl) rfl
  have h3 : (!so) = false := h3
  obtain rfl : so = true := by simpa using h3
  have h4 := hout rfl
  have hoL : o < L'.length := by omega
  have hvb : L'[b] = costB x b := by simp [e2]
  have hvo : L'[o] = costB x o := by
    have h5 := h4.2
    rw [List.getElem?_eq_getElem (by omega)] at h5
    simp only [e2]
    rw [List.getElem_set_ne (by omega)]
    simpa using h5
  have e1 : p' = if better x b o then (b, true) else (o, true) := by rw [e1]; rfl
  have yes : better x b o = true → p' = (b, true) := fun h => by rw [e1, if_pos h]
  have no : better x b o = false → p' = (o, true) := fun h => by rw [e1, if_neg (by simp [h])]
  refine Tr.seqC rfl (by simp) (Steps.call rfl rfl (c_choice b) (Steps.run rfl (by simp) (Steps.call rfl rfl (c_choice o) (Steps.fin rfl (by simp) (Tr.block ?_)))))
  have ho0 : 0 + (o : Int).toNat * 1 = o := by omega
  refine Tr.seq (Tr.drawK (TraceK.runN 2 rfl (by simp; omega) ?_))
  rw [hk0]
  refine TraceK.runN 1 rfl (by simp; omega) ?_
  rw [drop_ints hin hvb]
  refine TraceK.runN 2 rfl (by simp; omega) ?_
  rw [ho0]
  refine TraceK.runN 1 rfl (by simp; omega) ?_
  rw [drop_ints hoL hvo]
  refine TraceK.run rfl (by simp) (.done ⟨by kernel_rfl, by kernel_rfl, ?_⟩)
  refine Tr.cond rfl rfl (fun h5 => ?_) (fun h5 => ?_)
  · have h5 : (costB x b != costB x o) = true := h5
    have h5 : costB x b ≠ costB x o := by simpa using h5
    have hbt : better x b o = decide (costB x b < costB x o) := by unfold better; rw [if_pos h5]
    refine Tr.seq (Tr.drawK (TraceK.runN 2 rfl (by simp; omega) ?_))
    rw [hk0]
    refine TraceK.runN 1 rfl (by simp; omega) ?_
    rw [drop_ints hin hvb]
    refine TraceK.runN 2 rfl (by simp; omega) ?_
    rw [ho0]
    refine TraceK.runN 1 rfl (by simp; omega) ?_
    rw [drop_ints hoL hvo]
    refine TraceK.run rfl (by simp) (.done ⟨by kernel_rfl, by kernel_rfl, ?_⟩)
    refine Tr.cond rfl rfl (fun h6 => ?_) (fun h6 => Tr.skip ?_)
    · have h6 : decide (costB x b < costB x o) = true := h6
      rw [yes (by rw [hbt, h6])]
      refine Tr.regR rfl (by simp) ?_
      exact Wk.le (.cons rfl (.refl _) (.cons rfl (.refl _) (.cons rfl (.refl _) (.cons rfl (.refl _) (.cons rfl (.refl _) (.cons rfl (.refl _) (.cons rfl (.refl _) .nil))))))) (.cons rfl (LLe.refl _) (.cons rfl (LLe.refl _) .nil)) .nil (okI rfl) rfl
    · have h6 : decide (costB x b < costB x o) = false := h6
      rw [no (by rw [hbt, h6])]
      exact Wk.le (.cons rfl (.refl _) (.cons rfl (.refl _) (.cons rfl (.refl _) (.cons rfl (.refl _) (.cons rfl (.refl _) (.cons rfl (.refl _) (.cons rfl (.refl _) .nil))))))) (.cons rfl (LLe.refl _) (.cons rfl (LLe.refl _) .nil)) .nil (okI rfl) rfl
  have h5 : (costB x b != costB x o) = false := h5
  have h5 : ¬ costB x b ≠ costB x o := by simpa using h5
  have hlens : ∀ c : Nat, (((choiceL c).map I).length : Int) = ((choiceL c).length : Int) := fun c => by rw [List.length_map]
  refine Tr.seqR rfl (by simp) (Tr.cond rfl rfl (fun h6 => ?_) (fun h6 => ?_))
  · have h6 : ((((choiceL b).map I).length : Int) != (((choiceL o).map I).length : Int)) = true := h6
    have h6 : (choiceL b).length ≠ (choiceL o).length := by
      rw [hlens, hlens] at h6
      intro h; rw [h] at h6; simp at h6
    have hbt : better x b o = decide ((choiceL b).length < (choiceL o).length) := by unfold better; rw [if_neg h5, if_pos h6]
    refine Tr.seqR rfl (by simp) (Tr.cond rfl rfl (fun h7 => ?_) (fun h7 => Tr.skip ?_))
    · have h7 : decide ((((choiceL b).map I).length : Int) < (((choiceL o).map I).length : Int)) = true := h7
      rw [hlens, hlens, decide_eq_true_eq, Int.ofNat_lt] at h7
      rw [yes (by rw [hbt, decide_eq_true h7])]
      refine Tr.regR rfl (by simp) ?_
      exact Wk.le (.cons rfl (.refl _) (.cons rfl (.refl _) (.cons rfl (.refl _) (.cons rfl (.refl _) (.cons rfl (.refl _) (.cons rfl (.refl _) (.cons rfl (.refl _) .nil))))))) (.cons rfl (LLe.refl _) (.cons rfl (LLe.refl _) .nil)) .nil (okI rfl) rfl
    · have h7 : decide ((((choiceL b).map I).length : Int) < (((choiceL o).map I).length : Int)) = false := h7
      rw [hlens, hlens, decide_eq_false_iff_not, Int.ofNat_lt] at h7
      rw [no (by rw [hbt, decide_eq_false h7])]
      exact Wk.le (.cons rfl (.refl _) (.cons rfl (.refl _) (.cons rfl (.refl _) (.cons rfl (.refl _) (.cons rfl (.refl _) (.cons rfl (.refl _) (.cons rfl (.refl _) .nil))))))) (.cons rfl (LLe.refl _) (.cons rfl (LLe.refl _) .nil)) .nil (okI rfl) rfl
  have h6 : ((((choiceL b).map I).length : Int) != (((choiceL o).map I).length : Int)) = false := h6
  have h6 : ¬ (choiceL b).length ≠ (choiceL o).length := by
    rw [hlens, hlens] at h6
    simp at h6; omega
  have hbt : better x b o = decide (cmpL (choiceL b) (choiceL o) < 0) := by unfold better; rw [if_neg h5, if_neg h6]
  refine Tr.seqC rfl (by simp) (Steps.call rfl rfl (c_CompareL (by have := choiceL_len b; omega)) (Steps.fin rfl (by simp) ?_))
  refine Tr.cond rfl rfl (fun h7 => ?_) (fun h7 => Tr.skip ?_)
  · have h7 : decide (cmpL (choiceL b) (choiceL o) < 0) = true := h7
    rw [yes (by rw [hbt, h7])]
    refine Tr.regR rfl (by simp) ?_
    exact Wk.le (.cons rfl (.refl _) (.cons rfl (.refl _) (.cons rfl (.refl _) (.cons rfl (.refl _) (.cons rfl (.refl _) (.cons rfl (.refl _) (.cons rfl (.refl _) .nil))))))) (.cons rfl (LLe.refl _) (.cons rfl (LLe.refl _) .nil)) .nil (okI rfl) rfl
  · have h7 : decide (cmpL (choiceL b) (choiceL o) < 0) = false := h7
    rw [no (by rw [hbt, h7])]
    exact Wk.le (.cons rfl (.refl _) (.cons rfl (.refl _) (.cons rfl (.refl _) (.cons rfl (.refl _) (.cons rfl (.refl _) (.cons rfl (.refl _) (.cons rfl (.refl _) .nil))))))) (.cons rfl (LLe.refl _) (.cons rfl (LLe.refl _) .nil)) .nil (okI rfl) rfl

theorem bestN_lt (x : Nf) (wo : Nat) : (bestN x wo).1 < 2 ^ x.passes.length := by
  have key : ∀ n, (((List.range n).foldl (bestStep x wo) (0, false)).1 < n ∨ ((List.range n).foldl (bestStep x wo) (0, false)).1 = 0) := by
    intro n
    induction n with
    | zero => exact .inr rfl
    | succ n ih =>
      rw [List.range_succ, List.foldl_append]
      simp only [List.foldl_cons, List.foldl_nil]
      generalize (List.range n).foldl (bestStep x wo) (0, false) = p at ih ⊢
      unfold bestStep
      split
      · omega
      · split
        · exact .inl (by simp only; omega)
        · split
          · exact .inl (by simp only; omega)
          · omega
  have h := key (2 ^ x.passes.length)
  have hp : 0 < 2 ^ x.passes.length := Nat.two_pow_pos _
  unfold bestN
  omega

/-- What Best returns. -/
def BestR (x : Nf) : V := if nfOk x then (if (bestN x 0).2 then .tuple [intsV (choiceL (bestN x 0).1), I (costB x (bestN x 0).1), I 0] else .tuple [intsV [], I 0, I 4]) else .tuple [intsV [], I 0, I 74]

theorem c_Best {x : Nf} (hx : ∀ p ∈ x.passes, p.adds.length ≤ 9223372036854775807) : C Tryd.prog F.bin_Best [.agg (nfC x)] (BestR x) := by
  have kc := c_CheckInfill hx
  unfold BestR
  refine C_of mixed chk.bin_Best (by simp) fun S ok => ?_
  refine Tr.seqR rfl (by simp) ?_
  by_cases hk : nfOk x = true
  rotate_left
  · rw [if_neg hk] at kc ⊢
    refine Tr.seq (Tr.seqC rfl (by simp) (Steps.call rfl rfl kc (Steps.fin rfl (by simp) (Tr.seqR rfl (by simp) (Tr.condT rfl (Tr.seqR rfl (by simp) ?_))))))
    exact Tr.weak (s' := { env := [(2, intsV []), (3, I 0), (4, I 74)], bx := [], rw := [], log := [], stp := false }) (Wk.le (.cons rfl (.nil 0 1) (.cons rfl (.refl _) (.cons rfl (.refl _) .nil))) .nil .nil rfl rfl) (Tr.retX rfl rfl rfl rfl trivial)
  rw [if_pos hk] at kc ⊢
  refine Tr.seq (Tr.seqC rfl (by simp) (Steps.call rfl rfl kc (Steps.fin rfl (by simp) (Tr.seqR rfl (by simp) (Tr.condF rfl (Tr.skip ?_))))))
  have kb := c_best (wo := 0) hk (by omega)
  have hlt := bestN_lt x 0
  obtain ⟨⟨o, so⟩, hos⟩ : ∃ p, bestN x 0 = p := ⟨_, rfl⟩
  rw [hos] at kb hlt ⊢
  refine Tr.seqC rfl (by simp) (Steps.call rfl rfl kb (Steps.fin rfl (by simp) ?_))
  refine Tr.seq (Tr.seqR rfl (by simp) (Tr.cond rfl rfl (fun h => ?_) (fun h => Tr.skip ?_)))
  · have h : (!so) = true := h
    obtain rfl : so = false := by simpa using h
    refine Tr.seqR rfl (by simp) ?_
    exact Tr.weak (s' := { env := [(2, intsV []), (3, I 0), (4, I 4)], bx := [], rw := [], log := [], stp := false }) (Wk.le (.cons rfl (.nil 0 1) (.cons rfl (.refl _) (.cons rfl (.refl _) .nil))) .nil .nil rfl rfl) (Tr.retX rfl rfl rfl rfl trivial)
  · have h : (!so) = false := h
    obtain rfl : so = true := by simpa using h
    refine Tr.seq (Tr.drawK (TraceK.run rfl (by simp) (TraceK.call rfl rfl (c_choice o) (TraceK.run rfl (by simp) (TraceK.call rfl rfl (c_cost hk hlt) (TraceK.run rfl (by simp) (.done ⟨by kernel_rfl, by kernel_rfl, ?_⟩)))))))
    exact Tr.retX rfl rfl rfl rfl trivial

/-- What Without returns. -/
def WithoutR (x : Nf) (p : Int) : V := if nfOk x then (if btw p 0 ((x.passes.length : Int) - 1) then (if (bestN x (2 ^ p.toNat)).2 then .tuple [I (costB x (bestN x (2 ^ p.toNat)).1 - costB x (bestN x 0).1), I 0] else .tuple [I 0, I 4]) else .tuple [I 0, I 75]) else .tuple [I 0, I 74]

theorem c_Without {x : Nf} (hx : ∀ p ∈ x.passes, p.adds.length ≤ 9223372036854775807) (p : Int) : C Tryd.prog F.bin_Without [.agg (nfC x), I p] (WithoutR x p) := by
  have kc := c_CheckInfill hx
  unfold WithoutR
  refine C_of mixed chk.bin_Without (by simp) fun S ok => ?_
  refine Tr.seqR rfl (by simp) ?_
  by_cases hk : nfOk x = true
  rotate_left
  · rw [if_neg hk] at kc ⊢
    refine Tr.seq (Tr.seqC rfl (by simp) (Steps.call rfl rfl kc (Steps.fin rfl (by simp) (Tr.seqR rfl (by simp) (Tr.condT rfl (Tr.seqR rfl (by simp) ?_))))))
    exact Tr.retX rfl rfl rfl rfl trivial
  rw [if_pos hk] at kc ⊢
  have hm := (nfOk_spec hk).1.2
  refine Tr.seq (Tr.seqC rfl (by simp) (Steps.call rfl rfl kc (Steps.fin rfl (by simp) (Tr.seqR rfl (by simp) (Tr.condF rfl (Tr.skip ?_))))))
  have kw := c_within p 0 (IntKind.wrap .i64 (((x.passes.map eQ).length : Int) - 1))
  have hw1 : IntKind.wrap .i64 (((x.passes.map eQ).length : Int) - 1) = (x.passes.length : Int) - 1 := by rw [List.length_map, w64 (by omega) (by omega)]
  refine Tr.seq (Tr.seqC rfl (by simp) (Steps.call rfl rfl kw (Steps.fin rfl (by simp) (Tr.cond rfl rfl (fun h => ?_) (fun h => Tr.skip ?_)))))
  · have h : (!btw p 0 (IntKind.wrap .i64 (((x.passes.map eQ).length : Int) - 1))) = true := h
    rw [hw1] at h
    rw [if_neg (by simpa using h)]
    exact Tr.seqR rfl (by simp) (Tr.retX rfl rfl rfl rfl trivial)
  have h : (!btw p 0 (IntKind.wrap .i64 (((x.passes.map eQ).length : Int) - 1))) = false := h
  rw [hw1] at h
  have h : btw p 0 ((x.passes.length : Int) - 1) = true := by simpa using h
  rw [if_pos h]
  rw [btw_iff] at h
  obtain ⟨q, rfl⟩ : ∃ q : Nat, p = (q : Int) := ⟨p.toNat, by omega⟩
  have hq : q < 10 := by omega
  have e2 : ((q : Int)).toNat = q := by omega
  rw [e2]
  have hqp : 2 ^ q ≤ 2 ^ 10 := Nat.pow_le_pow_right (by omega) (by omega)
  have kb := c_best (wo := 2 ^ q) hk (by omega)
  have kb0 := c_best (wo := 0) hk (by omega)
  have hlt := bestN_lt x (2 ^ q)
  have hlt0 := bestN_lt x 0
  obtain ⟨⟨o, so⟩, hos⟩ : ∃ p, bestN x (2 ^ q) = p := ⟨_, rfl⟩
  obtain ⟨⟨o0, so0⟩, hos0⟩ : ∃ p, bestN x 0 = p := ⟨_, rfl⟩
  rw [hos] at kb hlt ⊢
  rw [hos0] at kb0 hlt0 ⊢
  have hsh := bit_shl q (by omega)
  rw [← hsh] at kb
  refine Tr.seq (Tr.drawK (TraceK.run rfl (by simp) ?_))
  refine TraceK.call rfl rfl kb (TraceK.run rfl (by simp) (.done ⟨by kernel_rfl, by kernel_rfl, ?_⟩))
  refine Tr.seq (Tr.seqR rfl (by simp) (Tr.cond rfl rfl (fun h => ?_) (fun h => Tr.skip ?_)))
  · have h : (!so) = true := h
    obtain rfl : so = false := by simpa using h
    exact Tr.seqR rfl (by simp) (Tr.retX rfl rfl rfl rfl trivial)
  · have h : (!so) = false := h
    obtain rfl : so = true := by simpa using h
    refine Tr.seqC rfl (by simp) (Steps.call rfl rfl kb0 (Steps.fin rfl (by simp) ?_))
    refine Tr.seq (Tr.drawK (TraceK.run rfl (by simp) (TraceK.call rfl rfl (c_cost hk hlt) (TraceK.run rfl (by simp) (TraceK.call rfl rfl (c_cost hk hlt0) (TraceK.run rfl (by simp) (.done ⟨by kernel_rfl, by kernel_rfl, ?_⟩)))))))
    have b1 : 0 ≤ costB x o ∧ costB x o ≤ 10000 := costB_bd hk hlt
    have b2 : 0 ≤ costB x o0 ∧ costB x o0 ≤ 10000 := costB_bd hk hlt0
    refine Tr.retX rfl rfl rfl ?_ trivial
    show V.tuple [I (costB x o - costB x o0), I 0] = .tuple [I (IntKind.wrap .i64 (costB x o - costB x o0)), I 0]
    rw [w64 (by omega) (by omega)]

end Go.Proofs.YtdejdblopmfjfaaDoor


/-! Contracts: the bound of a leaf. -/
set_option linter.unusedVariables false
set_option linter.unusedSimpArgs false
set_option maxRecDepth 40000
set_option maxHeartbeats 4000000
namespace Go.Proofs.YtdejdblopmfjfaaDoor
open Go.Am
attribute [local simp] cells scalar mkv splice under2 under dem dem1 eB eQ nfC intsV
def dotL (a b : List Int) (z : Int) : Int := (List.zipWith (· * ·) a b).foldl (· + ·) z
def minL (a b : List Int) : List Int := List.zipWith min a b
def gainN (x : Nf) (pr R : List Int) (i : Nat) : Int := dotL pr (minL (addsOf x i) R) (-costOf x i)
def leafStep (x : Nf) (pr R : List Int) (d : Nat) (n : Int) (i : Nat) : Int := if d.testBit i then n else n - max 0 (gainN x pr R i)
def leafN (x : Nf) (pr : List Int) (c d : Nat) : Int := (List.range x.passes.length).foldl (leafStep x pr (restsL x (choiceN c)) d) (dotL pr (restsL x (choiceN c)) (costB x c))

theorem dot_bd : ∀ (a b : List Int) (z : Int), (∀ m ∈ a, 0 ≤ m ∧ m ≤ 1000000) → (∀ m ∈ b, 0 ≤ m ∧ m ≤ 100) → z ≤ dotL a b z ∧ dotL a b z ≤ z + a.length * 100000000
  | [], b, z, _, _ => by simp [dotL]
  | m :: a, [], z, h1, _ => by
    have : (0 : Int) ≤ ((m :: a).length : Int) * 100000000 := by omega
    simp only [dotL, List.zipWith_nil_right, List.foldl_nil]; omega
  | m :: a, n :: b, z, h1, h2 => by
    have hm := h1 m (by simp)
    have hn := h2 n (by simp)
    have ih := dot_bd a b (z + m * n) (fun p hp => h1 p (by simp [hp])) (fun p hp => h2 p (by simp [hp]))
    have e : dotL (m :: a) (n :: b) z = dotL a b (z + m * n) := rfl
    have q1 : 0 ≤ m * n := Int.mul_nonneg hm.1 hn.1
    have q2 : m * n ≤ 1000000 * 100 := Int.mul_le_mul hm.2 hn.2 hn.1 (by omega)
    rw [e, List.length_cons]
    push_cast
    omega

theorem dot_take (a b : List Int) (z : Int) {k : Nat} (ha : k < a.length) (hb : k < b.length) : dotL (a.take (k + 1)) (b.take (k + 1)) z = dotL (a.take k) (b.take k) z + a[k] * b[k] := by
  unfold dotL
  rw [← List.take_zipWith, ← List.take_zipWith, foldl_take _ _ _ (by simp; omega)]
  simp

theorem minL_small {n : Nat} {a R : List Int} (ha : a.length = n ∧ ∀ m ∈ a, 0 ≤ m ∧ m ≤ 100) (hR : small n R) : small n (minL a R) := by
  refine ⟨by simp [minL, hR.1, ha.1], fun m hm => ?_⟩
  unfold minL at hm
  obtain ⟨i, hi, rfl⟩ := List.getElem_of_mem hm
  simp only [List.length_zipWith] at hi
  rw [List.getElem_zipWith]
  have h1 := hR.2 _ (List.getElem_mem (show i < R.length by omega))
  have h2 := ha.2 _ (List.getElem_mem (show i < a.length by omega))
  omega

theorem gain_bd {x : Nf} (hx : nfOk x = true) {pr R : List Int} (hp : ∀ m ∈ pr, 0 ≤ m ∧ m ≤ 1000000) (hl : pr.length = x.lacks.length) (hR : small x.lacks.length R) {i : Nat} (hi : i < x.passes.length) : -1000 ≤ gainN x pr R i ∧ gainN x pr R i ≤ 1600000000 := by
  have h := dot_bd pr (minL (addsOf x i) R) (-costOf x i) hp (minL_small (adds_small hx hi) hR).2
  have hn := (nfOk_spec hx).1.1
  have hc := ((nfOk_spec hx).2.2 _ (List.getElem_mem hi)).1
  have e : costOf x i = x.passes[i].cost := by simp [costOf, hi]
  unfold gainN
  rw [e] at h ⊢
  omega

theorem leaf_bd {x : Nf} (hx : nfOk x = true) {pr R : List Int} (hp : ∀ m ∈ pr, 0 ≤ m ∧ m ≤ 1000000) (hl : pr.length = x.lacks.length) (hR : small x.lacks.length R) (d : Nat) (z : Int) : ∀ n, n ≤ x.passes.length → z - n * 1600000000 ≤ (List.range n).foldl (leafStep x pr R d) z ∧ (List.range n).foldl (leafStep x pr R d) z ≤ z
  | 0, _ => by simp
  | n + 1, h => by
    have ih := leaf_bd hx hp hl hR d z n (by omega)
    have hg := gain_bd hx hp hl hR (show n < x.passes.length by omega)
    rw [List.range_succ, List.foldl_append]
    simp only [List.foldl_cons, List.foldl_nil]
    generalize (List.range n).foldl (leafStep x pr R d) z = s at ih ⊢
    unfold leafStep
    push_cast
    split <;> omega

theorem c_leaf {x : Nf} (hx : nfOk x = true) {pr : List Int} (hp : ∀ m ∈ pr, 0 ≤ m ∧ m ≤ 1000000) (hl : pr.length = x.lacks.length) {c d : Nat} (hc : c < 2 ^ x.passes.length) :
    C Tryd.prog F.bin_leaf [.agg (nfC x), intsV pr, I (c : Nat), I (d : Nat)] (I (leafN x pr c d)) := by
  have hm := (nfOk_spec hx).1
  have hR := restsL_small hx (choiceN_lt hc)
  have hcb := costB_bd hx hc
  unfold leafN
  have kr := c_rests hx hc
  obtain ⟨R, eR⟩ : ∃ R, restsL x (choiceN c) = R := ⟨_, rfl⟩
  rw [eR] at kr hR ⊢
  refine C_of mixed chk.bin_leaf (by simp) fun S ok => ?_
  refine Tr.seqR rfl (by simp) (Tr.seqC rfl (by simp) (Steps.call rfl rfl kr (Steps.fin rfl (by simp) ?_)))
  refine Tr.seqC rfl (by simp) (Steps.call rfl rfl (c_cost hx hc) (Steps.fin rfl (by simp) ?_))
  refine Tr.seq (Tr.seqR rfl (by simp) (Tr.block ?_))
  refine Tr.loop (fun (k : Nat) st => k ≤ pr.length ∧ st = { env := [(1, intsV pr), (3, I (d : Nat)), (4, .ptr 4 0), (9, intsV R), (10, I (dotL (pr.take k) (R.take k) (costB x c))), (24, intsV pr), (25, I (pr.length : Nat)), (26, I (k : Nat))], bx := [(4, ⟨nfC x, false⟩)], rw := [], log := [], stp := false }) (fun k => pr.length - k) 0
    (Wk.le (.cons rfl (.refl _) (.cons rfl (.refl _) (.cons rfl (.refl _) (.cons rfl (.refl _) (.cons rfl (.refl _) (.cons rfl (.refl _) (.cons rfl (VLe.i (by simp)) (.cons rfl (.refl _) .nil)))))))) (.cons rfl (LLe.refl _) .nil) .nil rfl rfl) ⟨by omega, rfl⟩ ?_
  rintro k st ⟨hk, rfl⟩
  have hdb : ∀ k, k ≤ pr.length → 0 ≤ dotL (pr.take k) (R.take k) (costB x c) ∧ dotL (pr.take k) (R.take k) (costB x c) ≤ 1700000000 := fun k hk => by
    have := dot_bd (pr.take k) (R.take k) (costB x c) (fun m hm => hp m (List.mem_of_mem_take hm)) (fun m hm => hR.2 m (List.mem_of_mem_take hm))
    have e : (pr.take k).length = k := by rw [List.length_take]; omega
    rw [e] at this
    omega
  refine Tr.seqR rfl (by simp) (Tr.seqI rfl (fun h1 => ?_) (fun h1 => ?_))
  · have h1 : k < pr.length := by simpa using h1
    have h1R : k < R.length := by rw [hR.1, ← hl]; exact h1
    refine Tr.skipT (Tr.seq (Tr.block (Tr.seq (Tr.reg (Steps.runN 2 rfl (by simp; omega) ?_)))))
    rw [getD_map h1]
    refine Steps.fin rfl (by simp) (Tr.reg (Steps.runN 5 rfl (by simp; omega) ?_))
    rw [getD_map h1R]
    refine Steps.fin rfl (by simp) (Tr.regR rfl (by simp) ?_)
    have b1 := hp _ (List.getElem_mem h1)
    have b2 := hR.2 _ (List.getElem_mem h1R)
    have q1 : 0 ≤ pr[k] * R[k] := Int.mul_nonneg b1.1 b2.1
    have q2 : pr[k] * R[k] ≤ 1000000 * 100 := Int.mul_le_mul b1.2 b2.2 b2.1 (by omega)
    have b3 := hdb k (by omega)
    refine ⟨k + 1, _, Wk.le (.cons rfl (.refl _) (.cons rfl (.refl _) (.cons rfl (.refl _) (.cons rfl (.refl _) (.cons rfl (VLe.i ?_) (.cons rfl (.refl _) (.cons rfl (.refl _) (.cons rfl (VLe.i (w64 (by omega) (by omega))) .nil)))))))) (.cons rfl (LLe.refl _) .nil) .nil rfl rfl, ⟨h1, rfl⟩, by omega⟩
    rw [dot_take _ _ _ h1 h1R]
    show IntKind.wrap .i64 (dotL (pr.take k) (R.take k) (costB x c) + IntKind.wrap .i64 (pr[k] * R[k])) = _
    rw [w64 (n := pr[k] * R[k]) (by omega) (by omega), w64 (by omega) (by omega)]
  have h1 : k = pr.length := by simp at h1; omega
  subst h1
  rw [List.take_length, List.take_of_length_le (show R.length ≤ pr.length by rw [hR.1, ← hl]; omega)]
  have hz : 0 ≤ dotL pr R (costB x c) ∧ dotL pr R (costB x c) ≤ 1700000000 := by
    have := hdb pr.length (by omega)
    rwa [List.take_length, List.take_of_length_le (show R.length ≤ pr.length by rw [hR.1, ← hl]; omega)] at this
  generalize dotL pr R (costB x c) = z at hz ⊢
  refine Tr.exit (Tr.seq (Tr.seqR rfl (by simp) (Tr.block ?_)))
  refine Tr.loop (fun (i : Nat) st => i ≤ x.passes.length ∧ st = { env := [(1, intsV pr), (3, I (d : Nat)), (4, .ptr 4 0), (9, intsV R), (10, I ((List.range i).foldl (leafStep x pr R d) z)), (41, .slice 0 2 (x.passes.map eQ)), (42, I (x.passes.length : Nat)), (43, I (i : Nat))], bx := [(4, ⟨nfC x, false⟩)], rw := [], log := [], stp := false }) (fun i => x.passes.length - i) 0
    (Wk.le (.cons rfl (.refl _) (.cons rfl (.refl _) (.cons rfl (.refl _) (.cons rfl (.refl _) (.cons rfl (.refl _) (.cons rfl (.refl _) (.cons rfl (VLe.i (by simp)) (.cons rfl (.refl _) .nil)))))))) (.cons rfl (LLe.refl _) .nil) .nil rfl rfl) ⟨by omega, rfl⟩ ?_
  rintro i st ⟨hi, rfl⟩
  have hlb := leaf_bd hx hp hl hR d z i hi
  have hst : (List.range (i + 1)).foldl (leafStep x pr R d) z = leafStep x pr R d ((List.range i).foldl (leafStep x pr R d) z) i := by
    rw [List.range_succ, List.foldl_append]; rfl
  generalize hs0 : (List.range i).foldl (leafStep x pr R d) z = s0 at hlb hst ⊢
  refine Tr.seqR rfl (by simp) (Tr.seqI rfl (fun h2 => ?_) (fun h2 => ?_))
  rotate_left
  · have h2 : i = x.passes.length := by simp at h2; omega
    subst h2
    exact Tr.exit (Tr.seqR rfl (by simp) (Tr.retX rfl rfl rfl (by rw [hs0]; rfl) trivial))
  have h2 : i < x.passes.length := by simpa using h2
  have hbit := bit_shr d i (by omega)
  refine Tr.skipT (Tr.meet { env := [(1, intsV pr), (3, I (d : Nat)), (4, .ptr 4 0), (9, intsV R), (10, I (leafStep x pr R d s0 i)), (41, .slice 0 2 (x.passes.map eQ)), (42, I (x.passes.length : Nat)), (43, I (i : Nat))], bx := [(4, ⟨nfC x, false⟩)], rw := [], log := [], stp := false } (Tr.block ?_) (Tr.regR rfl (by simp) ?_))
  rotate_left
  · exact ⟨i + 1, _, Wk.le (.cons rfl (.refl _) (.cons rfl (.refl _) (.cons rfl (.refl _) (.cons rfl (.refl _) (.cons rfl (.of_eq (by rw [hst])) (.cons rfl (.refl _) (.cons rfl (.refl _) (.cons rfl (VLe.i (w64 (by omega) (by omega))) .nil)))))))) (.cons rfl (LLe.refl _) .nil) .nil rfl rfl, ⟨h2, rfl⟩, by omega⟩
  refine Tr.seq (Tr.reg (Steps.runN 2 rfl (by simp; omega) ?_))
  rw [getD_map h2]
  refine Steps.fin rfl (by simp) ?_
  have ha := adds_small hx h2
  have ea : addsOf x i = x.passes[i].adds := by simp [addsOf, h2]
  have ec : costOf x i = x.passes[i].cost := by simp [costOf, h2]
  have hco := ((nfOk_spec hx).2.2 _ (List.getElem_mem h2)).1
  refine Tr.seq (Tr.seqR rfl (by simp) (Tr.cond rfl rfl (fun h3 => ?_) (fun h3 => Tr.skip ?_)))
  · have h3 : ((((d : Int).fdiv (2 ^ (min (i : Int).toNat 64))).tmod 2) == 1) = true := h3
    rw [hbit] at h3
    have hd : d.testBit i = true := by
      by_cases h : d.testBit i = true
      · exact h
      · rw [if_neg h] at h3; cases h3
    have e : leafStep x pr R d s0 i = s0 := by unfold leafStep; rw [if_pos hd]
    rw [e]
    exact Tr.exit (Wk.le (.cons rfl (.refl _) (.cons rfl (.refl _) (.cons rfl (.refl _) (.cons rfl (.refl _) (.cons rfl (.refl _) (.cons rfl (.refl _) (.cons rfl (.refl _) (.cons rfl (.refl _) .nil)))))))) (.cons rfl (LLe.refl _) .nil) .nil rfl rfl)
  have h3 : ((((d : Int).fdiv (2 ^ (min (i : Int).toNat 64))).tmod 2) == 1) = false := h3
  rw [hbit] at h3
  have hd : ¬ d.testBit i = true := by
    intro h
    rw [if_pos h] at h3; cases h3
  have e : leafStep x pr R d s0 i = s0 - max 0 (gainN x pr R i) := by unfold leafStep; rw [if_neg hd]
  have hgb := gain_bd hx hp hl hR h2
  rw [e]
  refine Tr.seqR rfl (by simp) ?_
  rw [ea] at ha
  have hml := minL_small ha hR
  have hge : gainN x pr R i = dotL pr (minL x.passes[i].adds R) (-x.passes[i].cost) := by unfold gainN; rw [ea, ec]
  refine Tr.seq (Tr.seqR rfl (by simp) (Tr.block ?_))
  refine Tr.loop (fun (k : Nat) st => k ≤ x.passes[i].adds.length ∧ st = { env := [(1, intsV pr), (3, I (d : Nat)), (4, .ptr 4 0), (9, intsV R), (10, I s0), (15, I (dotL (pr.take k) ((minL x.passes[i].adds R).take k) (-x.passes[i].cost))), (41, .slice 0 2 (x.passes.map eQ)), (42, I (x.passes.length : Nat)), (43, I (i : Nat)), (57, intsV x.passes[i].adds), (58, I (x.passes[i].adds.length : Nat)), (59, I (k : Nat))], bx := [(4, ⟨nfC x, false⟩)], rw := [], log := [], stp := false }) (fun k => x.passes[i].adds.length - k) 0
    (Wk.le (.cons rfl (.refl _) (.cons rfl (.refl _) (.cons rfl (.refl _) (.cons rfl (.refl _) (.cons rfl (.refl _) (.cons rfl (VLe.i ?_) (.cons rfl (.refl _) (.cons rfl (.refl _) (.cons rfl (.refl _) (.cons rfl (.refl _) (.cons rfl (VLe.i ?_) (.cons rfl (.refl _) .nil)))))))))))) (.cons rfl (LLe.refl _) .nil) .nil rfl rfl) ⟨by omega, rfl⟩ ?_
  · show IntKind.wrap .i64 (0 - x.passes[i].cost) = _
    rw [w64 (by omega) (by omega)]
    simp [dotL]
  · show ((x.passes[i].adds.map I).length : Int) = _
    rw [List.length_map]
  rintro k st ⟨hk, rfl⟩
  have hdb2 : ∀ k, k ≤ pr.length → -1000 ≤ dotL (pr.take k) ((minL x.passes[i].adds R).take k) (-x.passes[i].cost) ∧ dotL (pr.take k) ((minL x.passes[i].adds R).take k) (-x.passes[i].cost) ≤ 1700000000 := fun k hk => by
    have := dot_bd (pr.take k) ((minL x.passes[i].adds R).take k) (-x.passes[i].cost) (fun m hm => hp m (List.mem_of_mem_take hm)) (fun m hm => hml.2 m (List.mem_of_mem_take hm))
    have e : (pr.take k).length = k := by rw [List.length_take]; omega
    rw [e] at this
    omega
  have hal : x.passes[i].adds.length = pr.length := by rw [ha.1, hl]
  refine Tr.seqR rfl (by simp) (Tr.seqI rfl (fun h4 => ?_) (fun h4 => ?_))
  · have h4 : k < x.passes[i].adds.length := by simpa using h4
    have h4p : k < pr.length := by omega
    have h4R : k < R.length := by rw [hR.1, ← hl]; omega
    have h4m : k < (minL x.passes[i].adds R).length := by rw [hml.1, ← hl]; omega
    refine Tr.skipT (Tr.seq (Tr.block (Tr.seq (Tr.reg (Steps.runN 2 rfl (by simp; omega) ?_)))))
    rw [getD_map h4]
    refine Steps.fin rfl (by simp) (Tr.drawK (TraceK.runN 4 rfl (by simp; omega) ?_))
    rw [getD_map h4p]
    refine TraceK.runN 5 rfl (by simp; omega) ?_
    rw [getD_map h4R]
    refine TraceK.run rfl (by simp) (.done ⟨by kernel_rfl, by kernel_rfl, ?_⟩)
    refine Tr.regR rfl (by simp) ?_
    have b1 := hp _ (List.getElem_mem h4p)
    have b2 := hml.2 _ (List.getElem_mem h4m)
    have q1 : 0 ≤ pr[k] * (minL x.passes[i].adds R)[k] := Int.mul_nonneg b1.1 b2.1
    have q2 : pr[k] * (minL x.passes[i].adds R)[k] ≤ 1000000 * 100 := Int.mul_le_mul b1.2 b2.2 b2.1 (by omega)
    have b3 := hdb2 k (by omega)
    refine ⟨k + 1, _, Wk.le (.cons rfl (.refl _) (.cons rfl (.refl _) (.cons rfl (.refl _) (.cons rfl (.refl _) (.cons rfl (.refl _) (.cons rfl (VLe.i ?_) (.cons rfl (.refl _) (.cons rfl (.refl _) (.cons rfl (.refl _) (.cons rfl (.refl _) (.cons rfl (.refl _) (.cons rfl (VLe.i (w64 (by omega) (by omega))) .nil)))))))))))) (.cons rfl (LLe.refl _) .nil) .nil rfl rfl, ⟨h4, rfl⟩, by omega⟩
    rw [dot_take _ _ _ h4p h4m]
    have em : (minL x.passes[i].adds R)[k] = min x.passes[i].adds[k] R[k] := by simp [minL]
    show IntKind.wrap .i64 (dotL (pr.take k) ((minL x.passes[i].adds R).take k) (-x.passes[i].cost) + IntKind.wrap .i64 (pr[k] * (if R[k] < x.passes[i].adds[k] then R[k] else x.passes[i].adds[k]))) = _
    rw [ite_min, ← em, w64 (n := pr[k] * _) (by omega) (by omega), w64 (by omega) (by omega)]
  have h4 : k = x.passes[i].adds.length := by simp at h4; omega
  subst h4
  have hge2 : dotL (pr.take x.passes[i].adds.length) ((minL x.passes[i].adds R).take x.passes[i].adds.length) (-x.passes[i].cost) = gainN x pr R i := by
    rw [hge, List.take_of_length_le (by omega), List.take_of_length_le (by rw [hml.1, ha.1]; omega)]
  rw [hge2]
  refine Tr.exit (Tr.regR rfl (by simp) ?_)
  refine Wk.le (.cons rfl (.refl _) (.cons rfl (.refl _) (.cons rfl (.refl _) (.cons rfl (.refl _) (.cons rfl (VLe.i ?_) (.cons rfl (.refl _) (.cons rfl (.refl _) (.cons rfl (.refl _) .nil)))))))) (.cons rfl (LLe.refl _) .nil) .nil rfl rfl
  show IntKind.wrap .i64 (s0 - (if gainN x pr R i > 0 then gainN x pr R i else 0)) = _
  rw [ite_max, w64 (by omega) (by omega)]

end Go.Proofs.YtdejdblopmfjfaaDoor


/-! AM, part Zj: calls that read and write an arena; constants beside it. -/
set_option linter.unusedVariables false
set_option linter.unusedSimpArgs false
namespace Go.Am
open Go.RowKit

/-- Blocks that keep what they hold. -/
def Kons (w : World) (φ : Nat → Nat) (K : List (Nat × List V)) : Prop := ∀ p ∈ K, ObOk w φ p.1 (.cells p.2) ∧ p.1 < w.heap.size

/-- **A CONTRACT OVER AN ARENA**: called with these data while the arena is A, it returns r and leaves B. -/
def CA (P : Program) (f : FuncId) (A : Arena) (K : List (Nat × List V)) (args : List V) (r : V) (B : Arena) : Prop :=
  callable P f = true ∧ ∀ (w : World) (φ : Nat → Nat) (xs : Array Value), (∀ b, w.heap.size ≤ b → φ b = 0) → Gl w φ → Ar w φ (fun _ => False) A → Kons w φ K → (∀ p ∈ K, p.1 ∉ A.map (·.1)) → RepL w φ args xs →
    Calls P f xs w fun e w' => ∃ φ' x, e = .returned x ∧ RepR w' φ' r x ∧ Ar w' φ' (fun _ => False) B ∧ Moved (fun b => b ∈ A.map (·.1)) w φ (fun b => b ∈ B.map (·.1)) w' φ'

/-- The surroundings of a call over an arena. -/
def SQ (w0 : World) (φ0 : Nat → Nat) (A : Arena) : Sur := fun _ _ M w φ => Moved (fun b => b ∈ A.map (·.1)) w0 φ0 M w φ

theorem SQ_ok (w0 : World) (φ0 : Nat → Nat) (A : Arena) (hg : Gl w0 φ0) : (SQ w0 φ0 A).ok := ⟨fun _ _ _ _ _ _ _ _ h k => Moved.trans h k, fun _ _ _ _ _ h => hg.mono h.ext⟩

/-- The same, with the arena that was there at the start. -/
def SQ1 (w0 : World) (φ0 : Nat → Nat) (A : Arena) : Sur := fun log stp M w φ =>
  ∃ B, (log = [] ∧ B = A ∨ log = encA B) ∧ stp = false ∧ Ar w φ M B ∧ SQ w0 φ0 A [] false (fun b => M b ∨ b ∈ B.map (·.1)) w φ

theorem SQ1_ok (w0 : World) (φ0 : Nat → Nat) (A : Arena) (hg : Gl w0 φ0) : (SQ1 w0 φ0 A).ok := by
  refine ⟨?_, fun _ _ _ _ _ ⟨_, _, _, _, h4⟩ => (SQ_ok w0 φ0 A hg).gl _ _ _ _ _ h4⟩
  intro log s M w φ M' w' φ' ⟨B, h1, h2, h3, h4⟩ mv
  have := (SA_ok (SQ_ok w0 φ0 A hg) [] false).move (encA B) s M w φ M' w' φ' ⟨B, rfl, h2, h3, h4⟩ mv
  obtain ⟨B', e1, e2, e3, e4⟩ := this
  obtain rfl := encA_inj e1
  exact ⟨B, h1, e2, e3, e4⟩

/-- Constants are at hand. -/
def InK (E : Env) (K : List (Nat × List V)) : Prop := ∀ log stp M w φ, E.S log stp M w φ → Kons w φ K

theorem encA_ne (A : Arena) : encA A ≠ [] := by simp [encA]

theorem CA_of {P : Program} {f nt : Nat} {ic : IC} {rs : List ResultVar} (hmix : P.follows .mixedOrders = true) (hch : chkF P f = some (nt, ic, rs)) {A B : Arena} {K : List (Nat × List V)} {args : List V} {r : V} (hlen : args.length ≤ nt)
    (hT : ∀ (S : Sur) (ok : S.ok) (S1 : Sur), InA (env0 P hmix nt S ok) S1 [] false → InK (env0 P hmix nt S ok) K → Tr (env0 P hmix nt S ok) none ic (qRet P rs r fun s => s.log = encA B) { entry args with log := encA A }) : CA P f A K args r B := by
  obtain ⟨fn, c, hf, hb, hnt, hc, rfl, hcall⟩ := chkF_ok hch
  refine ⟨hcall, fun w φ xs htop hgl hA hK hKA hrep => ?_⟩
  have okI := SQ_ok w φ A hgl
  have hInK : InK (env0 P hmix nt (SA (SQ w φ A) [] false) (SA_ok okI [] false)) K := by
    rintro log stp M w' φ' ⟨B', _, _, _, hm⟩ p hp
    obtain ⟨h1, h2⟩ := hK p hp
    have := hm.old p.1 h2 (hKA p hp)
    exact ⟨h1.mono this.1 hm.ext, Nat.lt_of_lt_of_le h2 hm.size⟩
  have hT1 := hT (SA (SQ w φ A) [] false) (SA_ok okI [] false) (SQ w φ A) (⟨Sub.refl _, okI⟩) hInK
  have e0 : (fun b => False ∨ b ∈ A.map (·.1)) = fun b => b ∈ A.map (·.1) := by funext b; simp
  have hT2 : Tr (env0 P hmix nt (SQ1 w φ A) (SQ1_ok w φ A hgl)) none ic (qRet P fn.results.toList r fun s => s.log = encA B) (entry args) := by
    intro c hc n a w1 g R Q' hq
    obtain ⟨B0, h1, h2, h3, h4⟩ := R.1.sur
    have hB0 : B0 = A := by
      rcases h1 with ⟨_, h⟩ | h
      · exact h
      · exact absurd h.symm (encA_ne _)
    subst hB0
    have R1 : (env0 P hmix nt (SA (SQ w φ B0) [] false) (SA_ok okI [] false)).rel { entry args with log := encA B0 } a w1 g := by
      refine ⟨{ R.1 with sur := ⟨B0, rfl, rfl, h3, h4⟩ }, fun l hl => ⟨?_, trivial⟩, R.2.2⟩
      intro log x M w φ xs hp
      exact absurd hp.length_le (by simp)
    refine hT1 c hc n a w1 g R1 Q' fun e t a' w' h' hQ R' hy => ?_
    refine hq e t a' w' h' hQ ?_ hy
    obtain ⟨B', k1, k2, k3, k4⟩ := R'.1.sur
    refine ⟨{ R'.1 with sur := ⟨B', .inr k1, k2, k3, k4⟩ }, fun l hl => ⟨?_, trivial⟩, R'.2.2⟩
    intro log x M w φ xs hp
    exact absurd hp.length_le (by simp)
  refine (calls_body (E := env0 P hmix nt (SQ1 w φ A) (SQ1_ok w φ A hgl)) (φ := φ) (y := none) hf hb hc hnt hlen hrep.1 (fun i v x h1 h2 => ⟨.data (hrep.2 i v x h1 h2), fun σ h => GrowV.of_data (hrep.2 i v x h1 h2)⟩)
    ⟨A, .inl ⟨rfl, rfl⟩, rfl, hA, by rw [e0]; exact Moved.refl _ htop⟩ htop (fun _ h => ((by cases h))) hT2).mono ?_
  rintro e w' ⟨s', h', x, rfl, hr, ⟨B', k1, k2, k3, k4⟩, ht, hk⟩
  have hB : B' = B := by
    rw [hk] at k1
    rcases k1 with ⟨h, _⟩ | h
    · exact absurd h (encA_ne _)
    · exact (encA_inj h).symm
  subst hB
  exact ⟨h'.φ, x, rfl, hr, ⟨k3.nd, k3.ok, fun _ _ h => h, k3.lt, k3.z⟩, ⟨k4.ext, k4.old, k4.size, k4.os, k4.tape, k4.output, fun b hb => k4.mine b (.inr hb), k4.top⟩⟩

section
variable {E : Env} {S0 : Sur} {l0 : List (List V)} {s0 : Bool} {A : Arena} {stp : Bool} {σ : FSt} {a : Act} {w : World} {h : Gh}

/-- A part of the arena is turned by a call. -/
theorem InA.moved {F A1 B : Arena} (hE : InA E S0 l0 s0) (R : E.relF (encA (F ++ A1)) stp σ a w h) {w' : World} {φ' : Nat → Nat} (m : Moved (fun b => b ∈ A1.map (·.1)) w h.φ (fun b => b ∈ B.map (·.1)) w' φ') (hB : Ar w' φ' (fun _ => False) B) : E.relF (encA (F ++ B)) stp σ a w' { h with φ := φ' } := by
  obtain ⟨M1, hM1, hlt1, ⟨A0, e, hs, hA, hS⟩, back⟩ := hE.sub _ _ _ _ _ R.1.sur R.1.mine
  obtain rfl := encA_inj e
  have hnd := hA.nd
  rw [List.map_append, List.nodup_append] at hnd
  have inA1 : ∀ b, b ∈ A1.map (·.1) → b ∈ (F ++ A1).map (·.1) := fun b hb => by rw [List.map_append]; exact List.mem_append.2 (.inr hb)
  have own : ∀ b, M1 b → w'.heap[b]? = w.heap[b]? ∧ φ' b = h.φ b := fun b hb => m.old b (hlt1 b hb) fun hm => by
    obtain ⟨p, hp, rfl⟩ := List.mem_map.1 (inA1 _ hm)
    exact hA.fr p hp hb
  have oldF : ∀ p ∈ F, p.1 < w.heap.size ∧ p.1 ∉ A1.map (·.1) ∧ (w'.heap[p.1]? = w.heap[p.1]? ∧ φ' p.1 = h.φ p.1) := fun p hp => by
    have h1 := hA.lt p (List.mem_append.2 (.inl hp))
    have h2 : p.1 ∉ A1.map (·.1) := fun h => hnd.2.2 _ (List.mem_map.2 ⟨p, hp, rfl⟩) _ h rfl
    exact ⟨h1, h2, m.old _ h1 h2⟩
  have ar : Ar w' φ' M1 (F ++ B) := by
    refine ⟨?_, fun p hp => ?_, fun p hp hM => ?_, fun p hp => ?_, fun p hp => ?_⟩
    · rw [List.map_append, List.nodup_append]
      refine ⟨hnd.1, hB.nd, fun x hx y hy e => ?_⟩
      subst e
      obtain ⟨p, hp, rfl⟩ := List.mem_map.1 hx
      obtain ⟨h1, h2, _⟩ := oldF p hp
      rcases m.mine _ hy with h3 | h3
      · exact h2 h3
      · omega
    · rcases List.mem_append.1 hp with hp | hp
      · exact (hA.ok p (List.mem_append.2 (.inl hp))).mono (oldF p hp).2.2.1 m.ext
      · exact hB.ok p hp
    · rcases List.mem_append.1 hp with hp | hp
      · exact hA.fr p (List.mem_append.2 (.inl hp)) hM
      · rcases m.mine p.1 (List.mem_map.2 ⟨p, hp, rfl⟩) with h3 | h3
        · obtain ⟨q, hq, e⟩ := List.mem_map.1 (inA1 _ h3)
          exact hA.fr q hq (e ▸ hM)
        · have := hlt1 _ hM; omega
    · rcases List.mem_append.1 hp with hp | hp
      · exact Nat.lt_of_lt_of_le (oldF p hp).1 m.size
      · exact hB.lt p hp
    · rcases List.mem_append.1 hp with hp | hp
      · exact (oldF p hp).2.2.2.trans (hA.z p (List.mem_append.2 (.inl hp)))
      · exact hB.z p hp
  have sa : SA S0 l0 s0 (encA (F ++ B)) stp M1 w' φ' := by
    refine ⟨F ++ B, rfl, hs, ar, hE.ok _ _ _ _ _ _ _ _ hS ⟨m.ext, fun b hb hn => m.old b hb fun hm => hn (.inr (inA1 b hm)), m.size, m.os, m.tape, m.output, fun b hb => ?_, m.top⟩⟩
    rcases hb with hb | hb
    · exact .inl (.inl hb)
    · rw [List.map_append] at hb
      rcases List.mem_append.1 hb with hb | hb
      · exact .inl (.inr (by rw [List.map_append]; exact List.mem_append.2 (.inl hb)))
      · rcases m.mine b hb with h3 | h3
        · exact .inl (.inr (inA1 b h3))
        · exact .inr h3
  have sur' := back (encA (F ++ B)) stp w' φ' sa m.ext own m.size m.top m.os m.tape m.output
  exact ⟨rel_round R.1 m.ext (fun b hb => own b (hM1 b hb)) m.size m.top sur', R.2⟩

/-- A call over an arena. -/
theorem wp_callA (hE : InA E S0 l0 s0) {F A1 B : Arena} {K : List (Nat × List V)} {ro : Option Nat} {n i : Nat} {ops : Array Oper} {slots : List (Option Nat)} {o : Oper} {ins : Ins} (R : E.relF (encA (F ++ A1)) stp σ a w h) {f : FuncId} {vs us : List V} {ids : List Nat} {r : V} {os : List Operand} (cc : Comp E.P E.nt slots o ins os) (hd : toDs σ.b vs = some (us, ids)) (hC : CA E.P f A1 K us r B)
    (hK : ∀ h', E.relF (encA (F ++ A1)) stp ((freeze σ.b ids).foldl (fun τ p => τ.set (.bx p.1) (.b p.2)) σ) a w h' → Kons w h'.φ K) (hKA : ∀ p ∈ K, p.1 ∉ A1.map (·.1)) (xs : Array Value) (hl : vs.length = xs.size)
    (hr : ∀ (i : Nat) v x, vs[i]? = some v → xs[i]? = some x → Rep w h.φ h.β h.y.l v x) (hi : ops[i]? = some o) (hw : Region.wanted o (yielded ops a.tmps) = true) (hrun : (execOp a.eval o).run E.P w = .ok (.enter f xs) w)
    {Q : Exit → Act → World → Prop} {next : Act → World → Prop} (hn : ∀ a' w' h', E.relF (encA (F ++ B)) stp ((σ.eff { v := r, wb := freeze σ.b ids }).put ins.d r) a' w' h' → h'.y = h.y → next a' w') : wpOpIn (wideR ro) n E.P ops Q i next a w := by
  unfold wpOpIn
  simp only [hi, hw, if_true, Oper.wpIn]
  refine ⟨fun _ _ => trivial, ?_⟩
  rw [Oper.semAt_eq _ _ _ (opK_defer cc.op), hrun]
  simp only [Oper.uponIn]
  refine ⟨fun e => by simp [wideR, Fence.wide] at e, ?_⟩
  obtain ⟨h1, R1, ext1, q1, q2, q3, hrep⟩ := args_data R.1 hd
  have R1' : E.relF (encA (F ++ A1)) stp ((freeze σ.b ids).foldl (fun τ p => τ.set (.bx p.1) (.b p.2)) σ) a w h1 := ⟨R1, by rw [q3]; exact R.2⟩
  have hAr := hE.ar R1'
  have hnd := hAr.nd
  rw [List.map_append, List.nodup_append] at hnd
  have arA : Ar w h1.φ (fun _ => False) A1 := ⟨hnd.2.1, fun p hp => hAr.ok p (List.mem_append.2 (.inr hp)), fun _ _ h => h, fun p hp => hAr.lt p (List.mem_append.2 (.inr hp)), fun p hp => hAr.z p (List.mem_append.2 (.inr hp))⟩
  refine (callsIn_wideR (hC.2 w h1.φ xs R1.top (E.ok.gl _ _ _ _ _ R1.sur) arA (hK h1 R1') hKA (hrep xs hl hr))).mono ?_
  rintro e w' ⟨φ', x, rfl, hres, hB, hm⟩
  have R2 := hE.moved R1' hm hB
  have hx : Rep w' φ' h1.β h1.y.l r x ∧ ∀ σ h w0, GrowV σ h w0 r x := by
    cases hres with
    | data hh => exact ⟨.data hh, fun σ h w0 => GrowV.of_data hh⟩
    | tuple vs xs hl hh =>
      refine ⟨.tuple vs xs hl hh, fun σ h w0 j u z hu hz => ?_⟩
      cases j with
      | zero => simp [cells] at hu; subst hu; intro r' sz xs' e; cases e
      | succ j => simp [cells] at hu
  have fin : Ok (σ.eff { v := r, wb := freeze σ.b ids }) { h1 with φ := φ' } w' r x := ⟨hx.1, hx.2 _ _ _⟩
  have R0 : E.relF (encA (F ++ B)) stp σ a w h → True := fun _ => trivial
  refine hn _ _ { h1 with φ := φ' } ⟨?_, ?_⟩ (by simpa using q3)
  · rw [cc.d]
    cases hd : o.dst with
    | none => exact R2.1
    | some d => exact R2.1.put (cc.dst d hd) fin.1 fin.2
  · exact R2.2

theorem Steps.callvA (hE : InA E S0 l0 s0) {K : St → Prop} {Ks : List (Nat × List V)} {s : St} {d : Option Nat} {f : FuncId} {xs : List X} {rest : List Ins} {vs first cap us : List V} {ids : List Nat} {r : V} {F A1 B : Arena} (hx : evXs s.env xs = some (.func (.func f) first cap :: vs)) (hd : toDs s.fs.b (first ++ vs ++ cap) = some (us, ids)) (hl : s.log = encA (F ++ A1))
    (hC : CA E.P f A1 Ks us r B) (hKs : (∀ p ∈ Ks, (p.1, Ob.cells p.2) ∈ F) ∨ InK E Ks ∧ ∀ p ∈ Ks, p.1 ∉ A1.map (·.1))
    (hk : Steps E rest K { (s.eff { v := r, wb := freeze s.fs.b ids }).put d r with log := encA (F ++ B) }) : Steps E (⟨d, .callv, xs, none⟩ :: rest) K s := by
  refine Step1.raw fun slots ops o i ro n a w h hc hs hi R Q next hn => ?_
  obtain ⟨os, cc⟩ := comp_of hc
  have hgo := guard_none cc rfl
  obtain ⟨c, t, e1, e2, rfl⟩ := opK_callv cc.op
  have hO := opds_of R.1 cc.xs (evXs_ok hx)
  have R' : E.relF (encA (F ++ A1)) s.stp s.fs a w h := by rw [← hl]; exact R
  have hAr := hE.ar R'
  have hnd := hAr.nd
  rw [List.map_append, List.nodup_append] at hnd
  cases hO with
  | cons o1 o2 =>
    obtain ⟨f', c', ef, hf, hc', h1, h2⟩ := ok_func o1
    obtain ⟨l1, l2⟩ := opds_args o2
    obtain ⟨m1, m2⟩ := arr3 hf hc' l1 h1 h2 l2
    refine wp_callA hE R' cc hd hC (fun h' R1 => ?_) (fun p hp => ?_) _ m1 m2 hi (wanted_none hgo) (run_callv hC.1 e2 e1 ef) fun a' w' h' R2 hy => hn _ a' w' h' hk ?_ hy
    · rcases hKs with hKs | hKs
      · intro p hp
        have := (hE.ar R1)
        exact ⟨this.ok _ (List.mem_append.2 (.inl (hKs p hp))), this.lt _ (List.mem_append.2 (.inl (hKs p hp)))⟩
      · exact hKs.1 _ _ _ _ _ R1.1.sur
    · rcases hKs with hKs | hKs
      · exact fun h => hnd.2.2 _ (List.mem_map.2 ⟨_, hKs p hp, rfl⟩) _ h rfl
      · exact hKs.2 p hp
    · show E.relF _ _ _ _ _ _
      have e : ({ (s.eff { v := r, wb := freeze s.fs.b ids }).put d r with log := encA (F ++ B) } : St).fs = ((s.fs.eff { v := r, wb := freeze s.fs.b ids }).put d r) := by
        cases d with
        | none => exact fs_eff s _
        | some d => show ((s.eff _).put (some d) r).fs = _; rw [fs_put, fs_eff]; rfl
      have e2 : ({ (s.eff { v := r, wb := freeze s.fs.b ids }).put d r with log := encA (F ++ B) } : St).stp = s.stp := by
        show ((s.eff _).put d r).stp = _
        rw [(put_log _ _ _).2, (eff_log _ _).2]
      rw [e, e2]
      exact R2

end
end Go.Am


/-! AM, part Zk: variables that lie in an arena; loads under guards, and of constants. -/
set_option linter.unusedVariables false
set_option linter.unusedSimpArgs false
namespace Go.Am
open Go.RowKit

theorem opK_alloc {P : Program} {o : Oper} {os : List Operand} {zs : List V} (hk : opK P o.op = some (.alloc zs, os)) : ∃ e i z, o.op = .alloc e ∧ P.info? e = some i ∧ i.zero = some z ∧ ofScs z.cells.toList = some zs ∧ os = [] := by
  cases ho : o.op <;> rw [ho] at hk <;> simp only [opK] at hk <;> (try (cases hk; done)) <;> (try (repeat' (split at hk <;> (try (cases hk; done)))))
  all_goals first
    | (simp only [Option.map_eq_some_iff, Prod.mk.injEq, K.alloc.injEq] at hk; obtain ⟨m, hm, rfl, rfl⟩ := hk; exact ⟨_, _, _, rfl, by assumption, by assumption, hm, rfl⟩)
    | (simp only [Option.map_eq_some_iff, Prod.mk.injEq] at hk; obtain ⟨_, _, h1, _⟩ := hk; cases h1; done)
    | (simp only [eqKind] at hk; repeat' (split at hk <;> (try (cases hk; done))))

section
variable {E : Env} {S0 : Sur} {l0 : List (List V)} {s0 : Bool} {A : Arena}

/-- A variable of an arena. -/
theorem Steps.aalloc (hE : InA E S0 l0 s0) {K : St → Prop} {s : St} {d : Nat} {zs : List V} {rest : List Ins} (hl : s.log = encA A)
    (hk : ∀ b, b ∉ A.map (·.1) → Steps E rest K { s.put (some d) (.rptr b 0) with log := encA ((b, .cells zs) :: A) }) : Steps E (⟨some d, .alloc zs, [], none⟩ :: rest) K s := by
  refine Step1.raw fun slots ops o i ro n a w h hc hs hi R Q next hn => ?_
  obtain ⟨os, cc⟩ := comp_of hc
  obtain ⟨e, ie, z, ho, hie, hz, hzs, rfl⟩ := opK_alloc cc.op
  have R' : E.relF (encA A) s.stp s.fs a w h := by rw [← hl]; exact R
  have hq : ∀ φ, zs.length = z.cells.toList.length ∧ ∀ (j : Nat) v x, zs[j]? = some v → z.cells.toList[j]? = some x → RepD (w.alloc (.cells z.cells e)) φ v x ∧ scalar v = true := fun φ => ofScs_rep hzs
  obtain ⟨R2, hnm⟩ := hE.fresh R' (.cells z.cells e) (.cells zs) (fun _ => ⟨z.cells, e, heap_alloc_new w _, by have := (hq h.φ).1; simp at this; omega, fun j v x hv hx => (hq h.φ).2 j v x hv (by simpa using hx)⟩)
  refine wpOp_done hi (wanted_none (guard_none cc rfl)) (opK_defer cc.op) (.inl ?_) (hn _ _ _ h (hk _ hnm) (rel_putA cc R2 (.data (.rptr _ _)) rfl) rfl)
  simp [execOp, ho, Instr.alloc, zeroValue, typeInfo, hie, hz, newVar, newRow]

/-- The same, with a closure. -/
theorem Steps.astoreD (hE : InA E S0 l0 s0) {K : St → Prop} {s : St} {x y : X} {rest : List Ins} {blk off : Nat} {cs : List V} {v : V} (hx : evXs s.env [x, y] = some [.rptr blk off, v]) (hl : s.log = encA A) (hA : (blk, .cells cs) ∈ A) (hoff : off < cs.length) (hv : toD s.fs.b 6 v = some (v, [])) (hsc : scalar v = true)
    (hk : Steps E rest K { s with log := encA (setA A blk (.cells (cs.set off v))) }) : Steps E (⟨none, .store 1, [x, y], none⟩ :: rest) K s := by
  refine Step1.raw fun slots ops o i ro n a w h hc hs hi R Q next hn => ?_
  obtain ⟨os, cc⟩ := comp_of hc
  have hgo := guard_none cc rfl
  have hdf := opK_defer cc.op
  obtain ⟨t, p, q, e1, e2, rfl⟩ := opK_store1 cc.op
  obtain ⟨u, u', hu, o1, o2⟩ := (opds_of R.1 cc.xs (evXs_ok hx)).two
  simp only [List.cons.injEq, and_true] at hu
  obtain ⟨hu1, rfl⟩ := hu
  subst hu1
  have ep := ok_rptr o1
  have R' : E.relF (encA A) s.stp s.fs a w h := by rw [← hl]; exact R
  have hAr := hE.ar R'
  obtain ⟨vs, et, h1, h2, h3⟩ := hAr.ok _ hA
  have rv : RepD w h.φ v (a.eval q) := (toD_rep R.1 6 _ v _ [] hv (fun i hi => by cases hi) o2.1).1
  have hc1 : (a.eval q).cells = #[a.eval q] := (scalar_value o2.1 hsc).2
  have hone : ∀ z ∈ [a.eval q], z.oneCell' = true := fun z hz => by
    obtain rfl : z = a.eval q := by simpa using hz
    exact (scalar_value o2.1 hsc).1
  have hrun := run_storeCells_at E.P blk off et [a.eval q] 0 vs w h1 (by simp; omega) hone
  simp only [Nat.add_zero] at hrun
  have R2 := hE.step R' (B := setA A blk (.cells (cs.set off v)))
    (fun b hb hn => setRow_other w blk b (vs.toList.take off ++ [a.eval q] ++ vs.toList.drop (off + [a.eval q].length)).toArray (fun e => hn (e ▸ List.mem_map.2 ⟨_, hA, rfl⟩))) (by simp) rfl rfl rfl
    (fun p hp => .inl (by rw [← setA_keys A blk (.cells (cs.set off v))]; exact List.mem_map.2 ⟨p, hp, rfl⟩)) (fun p hp => by rw [setA_keys]; exact List.mem_map.2 ⟨p, hp, rfl⟩) (by rw [setA_keys]; exact hAr.nd)
    (fun ext p hp => by
      rcases setA_mem hp with ⟨e, e'⟩ | ⟨hne, hp⟩
      · rw [e, e']
        refine ⟨_, et, setRow_heap w blk vs _ et (0, 0) h1, by simp; omega, fun j u z hu hz => ?_⟩
        rw [List.getElem?_toArray, splice_get (by simp; omega)] at hz
        by_cases ej : j = off
        · subst ej
          rw [List.getElem?_set_self hoff] at hu
          rw [if_neg (by omega), if_pos (by simp)] at hz
          cases hu
          simp at hz
          subst hz
          exact ⟨rv.mono ext, hsc⟩
        · rw [List.getElem?_set_ne (fun h => ej h.symm)] at hu
          have hz' : vs[j]? = some z := by
            by_cases h5 : j < off
            · rw [if_pos h5] at hz; simpa using hz
            · rw [if_neg h5, if_neg (by simp; omega)] at hz; simpa using hz
          exact ⟨(h3 j u z hu hz').1.mono ext, (h3 j u z hu hz').2⟩
      · exact (hAr.ok p hp).mono (setRow_other w blk p.1 _ hne) ext) (fun p hp => by
      have hk : p.1 ∈ A.map (·.1) := by rw [← setA_keys A blk (.cells (cs.set off v))]; exact List.mem_map.2 ⟨p, hp, rfl⟩
      obtain ⟨q', hq', e⟩ := List.mem_map.1 hk
      have := hAr.lt q' hq'
      rw [← e]; simpa using this)
  have hd : o.dst = none := cc.d.symm
  have R3 : E.rel { s with log := encA (setA A blk (.cells (cs.set off v))) } (a.put o.dst undef) (w.setRow blk (vs.toList.take off ++ [a.eval q] ++ vs.toList.drop (off + [a.eval q].length)).toArray) h := by rw [hd]; exact R2
  refine wpOp_done (x := undef) hi (wanted_none hgo) hdf (.inr ⟨?_, rfl⟩) (hn _ _ _ h hk R3 rfl)
  simp only [execOp, e1, ep, Instr.storeAt, Instr.sureAddr, Sem.run_bind, Sem.run_pure, Result.andThen_ok, storeVar, run_szOf e2]
  rw [if_neg (by rw [hc1]; simp), hc1]
  rw [hrun]
  rfl

theorem wanted_on {slots : List (Option Nat)} {ops : Array Oper} {log : List (List V)} {stp : Bool} {σ : FSt} {a : Act} {w : World} {h : Gh} {o : Oper} {ins : Ins} {os : List Operand} (cc : Comp E.P E.nt slots o ins os) (R : E.relF log stp σ a w h) (hs : slots = ops.toList.map (·.dst)) {t : Nat} {want gb : Bool} {gv : V} (hg : ins.g = some (t, want)) (hgv : σ.g t = some gv) (hgb : guardOf want gv = some gb) :
    (gb = true → Region.wanted o (yielded ops a.tmps) = true) ∧ (gb = false → Region.wanted o (yielded ops a.tmps) = false) := by
  rcases cc.guard with ⟨e, _⟩ | ⟨j, want1, t1, e1, e2, e3⟩
  · rw [hg] at e; cases e
  · rw [hg] at e3
    cases e3
    exact guard_wanted R hs e1 e2 hgv hgb

/-- A cell of an arena's block is read, under a guard that holds. -/
theorem Steps.gaload (hE : InA E S0 l0 s0) {K : St → Prop} {s : St} {d t : Nat} {want : Bool} {gv : V} {x : X} {rest : List Ins} {blk off : Nat} {cs : List V} {v : V} (hgv : get s.env t = some gv) (hgb : guardOf want gv = some true) (hx : evXs s.env [x] = some [.rptr blk off]) (hl : s.log = encA A) (hA : (blk, .cells cs) ∈ A) (hv : cs[off]? = some v)
    (hk : Steps E rest K (s.put (some d) (.cond true v))) : Steps E (⟨some d, .load 1 false, [x], some (t, want)⟩ :: rest) K s := by
  refine Step1.raw fun slots ops o i ro n a w h hc hs hi R Q next hn => ?_
  obtain ⟨os, cc⟩ := comp_of hc
  have hwt := (wanted_on cc R hs rfl (by rw [fs_g]; exact hgv) hgb).1 rfl
  have hdf := opK_defer cc.op
  obtain ⟨t, p, dd, e1, e2, e3, e4, rfl⟩ := opK_load1 cc.op
  obtain ⟨u, hu, o1⟩ := (opds_of R.1 cc.xs (evXs_ok hx)).one
  simp only [List.cons.injEq, and_true] at hu
  subst hu
  have ep := ok_rptr o1
  have R' : E.relF (encA A) s.stp s.fs a w h := by rw [← hl]; exact R
  obtain ⟨vs, et, h1, h2, h3⟩ := (hE.ar R').ok _ hA
  have hlt : off < vs.size := by have := (List.getElem?_eq_some_iff.1 hv).1; omega
  obtain ⟨r, sc⟩ := h3 off v _ hv (Array.getElem?_eq_getElem hlt)
  have hcell : w.cell? ⟨blk, off, none⟩ = some vs[off] := by rw [cell_of_row w blk off vs et (0, 0) h1]; simp [hlt]
  have hex : (execOp a.eval o).run E.P w = .ok (.value vs[off]) w := by
    simp only [execOp, e1, ep, Sem.run_bind]
    rw [run_loadAt (cs := [vs[off]]) e2 e3 rfl (fun j v hv => by
      cases j with
      | zero => cases hv; exact hcell
      | succ j => cases hv) (by rw [e4]; rfl)]
    rfl
  refine wpOp_done hi hwt hdf (.inl hex) (hn _ _ _ h hk ?_ rfl)
  have ok : Ok s.fs h w (.cond true v) vs[off] := ⟨.cond true v _ (fun _ => .data r) (fun e => (by cases e)), fun j u z hu hz => by
    cases j with
    | zero => simp [cells] at hu; subst hu; intro r' sz xs' e; cases e
    | succ j => simp [cells] at hu⟩
  show E.relF _ _ _ _ _ _
  rw [(put_log _ _ _).1, (put_log _ _ _).2, fs_put]
  exact rel_after (eff := { v := _ }) cc R R.1 ok rfl

end

section
variable {E : Env} {K : List (Nat × List V)}

/-- A constant is read. -/
theorem does_kload (hE : InK E K) {σ : FSt} {d blk off : Nat} {x : X} {cs : List V} {v : V} (hx : [x].mapM (evX σ) = some [.rptr blk off]) (hA : (blk, cs) ∈ K) (hv : cs[off]? = some v) : Does E σ ⟨some d, .load 1 false, [x], none⟩ { v := v } (xslots [x]) := by
  refine .ext rfl hx fun o os log stp σ' a w h ho R hO => ?_
  obtain ⟨t, p, dd, e1, e2, e3, e4, rfl⟩ := opK_load1 ho
  obtain ⟨u, hu, o1⟩ := hO.one
  simp only [List.cons.injEq, and_true] at hu
  subst hu
  have ep := ok_rptr o1
  obtain ⟨⟨vs, et, h1, h2, h3⟩, _⟩ := hE _ _ _ _ _ R.1.sur _ hA
  have hlt : off < vs.size := by have := (List.getElem?_eq_some_iff.1 hv).1; simp only at h2; omega
  obtain ⟨r, sc⟩ := h3 off v _ hv (Array.getElem?_eq_getElem hlt)
  have hcell : w.cell? ⟨blk, off, none⟩ = some vs[off] := by rw [cell_of_row w blk off vs et (0, 0) h1]; simp [hlt]
  refine ⟨vs[off], ?_, .data r, GrowV.of_data r⟩
  simp only [execOp, e1, ep, Sem.run_bind]
  rw [run_loadAt (cs := [vs[off]]) e2 e3 rfl (fun j v hv => by
    cases j with
    | zero => cases hv; exact hcell
    | succ j => cases hv) (by rw [e4]; rfl)]
  rfl

theorem Steps.kload (hE : InK E K) {s : St} {Kt : St → Prop} {d blk off : Nat} {x : X} {cs : List V} {v : V} {rest : List Ins} (hx : evXs s.env [x] = some [.rptr blk off]) (hA : (blk, cs) ∈ K) (hv : cs[off]? = some v) (hk : Steps E rest Kt (s.put (some d) v)) : Steps E (⟨some d, .load 1 false, [x], none⟩ :: rest) Kt s :=
  Step1.does (ins := ⟨some d, .load 1 false, [x], none⟩) (does_kload hE (evXs_ok hx) hA hv) hk

theorem TraceK.kload (hE : InK E K) {s : St} {Kt : List (List Loc × List Loc) → St → List Ins → Prop} {d blk off : Nat} {x : X} {cs : List V} {v : V} {rest : List Ins} (hx : evXs s.env [x] = some [.rptr blk off]) (hA : (blk, cs) ∈ K) (hv : cs[off]? = some v)
    (tr : TraceK E (s.put (some d) v) rest fun fp s' r' => Kt (([.slot d], xslots [x]) :: fp) s' r') : TraceK E s (⟨some d, .load 1 false, [x], none⟩ :: rest) Kt :=
  .step (ins := ⟨some d, .load 1 false, [x], none⟩) (eff := { v := v }) (does_kload hE (evXs_ok hx) hA hv) tr

end
end Go.Am


/-! AM, part Zl: a scope that no jump leaves. -/
set_option linter.unusedVariables false
set_option linter.unusedSimpArgs false
set_option maxRecDepth 20000
namespace Go

theorem stepR_scope' {P : Program} {b : Frame} {a : Act} {k : List Item} {cs : List Frame} {w : World} {c : Code} : step P (lone (b.atR a (.code (.scope c) :: k)) cs w) = .next (lone (b.atR a (.code c :: .inScope c :: k)) cs w) :=
  step_lone_go (by simp [stepG, stepG.exec, Frame.atR])
theorem stepR_inScope' {P : Program} {b : Frame} {a : Act} {k : List Item} {cs : List Frame} {w : World} {c : Code} : step P (lone (b.atR a (.inScope c :: k)) cs w) = .next (lone (b.atR a k) cs w) :=
  step_lone_go (by simp [stepG, stepG.exec, Frame.atR])

theorem wpIn_scope_straight {F : Fence} {n : Nat} {P : Program} {Q : Exit → Act → World → Prop} {a : Act} {w : World} {c : Code} (h : c.wpIn F n P (Exit.noGoto Q) a w) : (Code.scope c).wpIn F n P Q a w := by
  intro b k cs hro hb hr
  have h0 : (lone (b.atR a (.code (.scope c) :: k)) cs w).fenced P F := fenced_calm hb hr rfl
  obtain ⟨e, a₁, w₁, hq, harr⟩ := h b (.inScope c :: k) cs hro hb hr
  cases e with
  | normal => exact ⟨.normal, a₁, w₁, hq, .head h0 stepR_scope' (StepsIn.trans harr (.one (fenced_calm hb hr rfl) stepR_inScope'))⟩
  | exit id =>
    have hx : exitTo id (.inScope c :: k) = exitTo id k := by simp [exitTo]
    exact ⟨.exit id, a₁, w₁, hq, fun k' hk => .head h0 stepR_scope' (harr.1 k' (by rw [hx]; exact hk)),
      fun hr' hk => let ⟨k₁, h1, h2⟩ := harr.2 hr' (by rw [hx]; exact hk); ⟨k₁, h1, .head h0 stepR_scope' h2⟩⟩
  | goto l => exact hq.elim
  | ret => exact ⟨_, a₁, w₁, hq, .of_steps (.one h0 stepR_scope') harr⟩
  | panic ch => exact ⟨_, a₁, w₁, hq, .of_steps (.one h0 stepR_scope') harr⟩
  | outgrown => exact ⟨_, a₁, w₁, hq, .of_steps (.one h0 stepR_scope') harr⟩
end Go

namespace Go.Am
/-- What does not jump to a label. -/
def qScope (Q : Exit → St → Prop) : Exit → St → Prop
  | .goto _, _ => False
  | e, s => Q e s

theorem Tr.scope {E : Env} {ro : Option Nat} {Q : Exit → St → Prop} {s : St} {x : IC} (h : Tr E ro x (qScope Q) s) : Tr E ro (.scope x) Q s := fun c hc n a w g R Q' hq => by
  obtain ⟨ca, rfl, h1⟩ := compC_inv hc
  refine wpIn_scope_straight (h ca h1 n a w g R _ fun e s' a' w' h' k R' ey => ?_)
  cases e with
  | goto l => exact k.elim
  | _ => exact hq _ s' a' w' h' k R' ey
end Go.Am


/-! Contracts: the bound of a proof. -/
set_option linter.unusedVariables false
set_option linter.unusedSimpArgs false
set_option maxRecDepth 40000
set_option maxHeartbeats 4000000
namespace Go.Proofs.YtdejdblopmfjfaaDoor
open Go.Am
attribute [local simp] cells scalar mkv splice under2 under dem dem1 eB eQ nfC intsV
structure Ct where
  split : Int
  prices : List Int

def eC (c : Ct) : V := .agg [I c.split, intsV c.prices]
def cutsV (p : List Ct) : V := .slice 0 2 (p.map eC)
attribute [local simp] eC cutsV
structure Rd where
  ok : Bool
  at_ : Nat
  some : Bool
  least : Int

def pricesOk (x : Nf) (l : List Int) : Bool := decide (l.length = x.lacks.length) && l.all (btw · 0 1000000)
def splitOk (x : Nf) (k : Ct) (d : Nat) : Bool := btw k.split 0 ((x.passes.length : Int) - 1) && !d.testBit k.split.toNat && decide (k.prices.length = 0)

def readN (x : Nf) (pf : List Ct) : Nat → Nat → Nat → Rd → Rd
  | 0, _, _, s => { s with ok := false }
  | n + 1, c, d, s =>
    if h : s.ok = true ∧ s.at_ < pf.length then
      let k := pf[s.at_]
      let s1 := { s with at_ := s.at_ + 1 }
      if k.split ≠ -1 then
        if splitOk x k d then readN x pf n c (d ||| 2 ^ k.split.toNat) (readN x pf n (c ||| 2 ^ k.split.toNat) (d ||| 2 ^ k.split.toNat) { s1 with ok := true })
        else { s1 with ok := false }
      else if pricesOk x k.prices then
        (if (!s.some || decide (leafN x k.prices c d < s.least)) then { s1 with ok := true, least := leafN x k.prices c d, some := true } else { s1 with ok := true })
      else { s1 with ok := false }
    else { s with ok := false }

theorem readN_at (x : Nf) (pf : List Ct) : ∀ (n c d : Nat) (s : Rd), s.at_ ≤ pf.length → s.at_ ≤ (readN x pf n c d s).at_ ∧ (readN x pf n c d s).at_ ≤ pf.length
  | 0, c, d, s, h => ⟨Nat.le_refl _, h⟩
  | n + 1, c, d, s, h => by
    simp only [readN]
    split
    · rename_i h1
      split
      · split
        · have i1 := readN_at x pf n (c ||| 2 ^ (pf[s.at_]'h1.2).split.toNat) (d ||| 2 ^ (pf[s.at_]'h1.2).split.toNat) { s with at_ := s.at_ + 1, ok := true } (by simp only; omega)
          have i2 := readN_at x pf n c (d ||| 2 ^ (pf[s.at_]'h1.2).split.toNat) (readN x pf n (c ||| 2 ^ (pf[s.at_]'h1.2).split.toNat) (d ||| 2 ^ (pf[s.at_]'h1.2).split.toNat) { s with at_ := s.at_ + 1, ok := true }) i1.2
          simp only at i1
          exact ⟨by omega, i2.2⟩
        · exact ⟨by simp only; omega, by simp only; omega⟩
      · split
        · split
          · exact ⟨by simp only; omega, by simp only; omega⟩
          · exact ⟨by simp only; omega, by simp only; omega⟩
        · exact ⟨by simp only; omega, by simp only; omega⟩
    · exact ⟨Nat.le_refl _, h⟩

/-- The variables of the reading. -/
def rdA (b9 b10 b8 b7 : Nat) (s : Rd) : Arena := [(b10, .cells [I (s.at_ : Nat)]), (b9, .cells [.bool s.ok]), (b8, .cells [.bool s.some]), (b7, .cells [I s.least])]
def readV (x : Nf) (pf : List Ct) (b9 b10 b11 b8 b7 : Nat) : V := .func (.func F.bin_Bound_1) [] [.rptr b9 0, .rptr b10 0, .vptr [cutsV pf] 0, .vptr (nfC x) 0, .rptr b11 0, .rptr b8 0, .rptr b7 0]

theorem setA_at {b9 b10 b8 b7 : Nat} (hn : [b10, b9, b8, b7].Nodup) (s : Rd) (n : Nat) : setA (rdA b9 b10 b8 b7 s) b10 (.cells [I (n : Nat)]) = rdA b9 b10 b8 b7 { s with at_ := n } := by
  simp only [List.nodup_cons, List.mem_cons, List.not_mem_nil, or_false, not_or] at hn
  obtain ⟨⟨h1, h2, h3⟩, ⟨h4, h5⟩, h6, _⟩ := hn
  simp [setA, rdA, h1, h2, h3, h4, h5, h6, Ne.symm h1, Ne.symm h2, Ne.symm h3, Ne.symm h4, Ne.symm h5, Ne.symm h6]

theorem setA_ok {b9 b10 b8 b7 : Nat} (hn : [b10, b9, b8, b7].Nodup) (s : Rd) (n : Bool) : setA (rdA b9 b10 b8 b7 s) b9 (.cells [.bool n]) = rdA b9 b10 b8 b7 { s with ok := n } := by
  simp only [List.nodup_cons, List.mem_cons, List.not_mem_nil, or_false, not_or] at hn
  obtain ⟨⟨h1, h2, h3⟩, ⟨h4, h5⟩, h6, _⟩ := hn
  simp [setA, rdA, h1, h2, h3, h4, h5, h6, Ne.symm h1, Ne.symm h2, Ne.symm h3, Ne.symm h4, Ne.symm h5, Ne.symm h6]

theorem setA_some {b9 b10 b8 b7 : Nat} (hn : [b10, b9, b8, b7].Nodup) (s : Rd) (n : Bool) : setA (rdA b9 b10 b8 b7 s) b8 (.cells [.bool n]) = rdA b9 b10 b8 b7 { s with some := n } := by
  simp only [List.nodup_cons, List.mem_cons, List.not_mem_nil, or_false, not_or] at hn
  obtain ⟨⟨h1, h2, h3⟩, ⟨h4, h5⟩, h6, _⟩ := hn
  simp [setA, rdA, h1, h2, h3, h4, h5, h6, Ne.symm h1, Ne.symm h2, Ne.symm h3, Ne.symm h4, Ne.symm h5, Ne.symm h6]

theorem setA_least {b9 b10 b8 b7 : Nat} (hn : [b10, b9, b8, b7].Nodup) (s : Rd) (n : Int) : setA (rdA b9 b10 b8 b7 s) b7 (.cells [I n]) = rdA b9 b10 b8 b7 { s with least := n } := by
  simp only [List.nodup_cons, List.mem_cons, List.not_mem_nil, or_false, not_or] at hn
  obtain ⟨⟨h1, h2, h3⟩, ⟨h4, h5⟩, h6, _⟩ := hn
  simp [setA, rdA, h1, h2, h3, h4, h5, h6, Ne.symm h1, Ne.symm h2, Ne.symm h3, Ne.symm h4, Ne.symm h5, Ne.symm h6]

section
variable {E : Env} {S1 : Sur} {l0 : List (List V)} {s0 : Bool} {b9 b10 b8 b7 : Nat} {K : St → Prop} {s : St} {rest : List Ins} {x y : X} {d : Nat} {r : Rd}

theorem ld_ok (hA : InA E S1 l0 s0) (hl : s.log = encA (rdA b9 b10 b8 b7 r)) (hx : evXs s.env [x] = some [.rptr b9 0]) (hk : Go.Am.Steps E rest K (s.put (some d) (.bool r.ok))) : Go.Am.Steps E (⟨some d, .load 1 false, [x], none⟩ :: rest) K s :=
  Steps.aload (blk := b9) (off := 0) (cs := [.bool r.ok]) hA hx hl (by simp [rdA]) rfl hk
theorem ld_at (hA : InA E S1 l0 s0) (hl : s.log = encA (rdA b9 b10 b8 b7 r)) (hx : evXs s.env [x] = some [.rptr b10 0]) (hk : Go.Am.Steps E rest K (s.put (some d) (I (r.at_ : Nat)))) : Go.Am.Steps E (⟨some d, .load 1 false, [x], none⟩ :: rest) K s :=
  Steps.aload (blk := b10) (off := 0) (cs := [I (r.at_ : Nat)]) hA hx hl (by simp [rdA]) rfl hk
theorem ld_some (hA : InA E S1 l0 s0) (hl : s.log = encA (rdA b9 b10 b8 b7 r)) (hx : evXs s.env [x] = some [.rptr b8 0]) (hk : Go.Am.Steps E rest K (s.put (some d) (.bool r.some))) : Go.Am.Steps E (⟨some d, .load 1 false, [x], none⟩ :: rest) K s :=
  Steps.aload (blk := b8) (off := 0) (cs := [.bool r.some]) hA hx hl (by simp [rdA]) rfl hk
theorem gld_at {t : Nat} {want : Bool} {gv : V} (hA : InA E S1 l0 s0) (hl : s.log = encA (rdA b9 b10 b8 b7 r)) (hgv : get s.env t = some gv) (hgb : guardOf want gv = some true) (hx : evXs s.env [x] = some [.rptr b10 0]) (hk : Go.Am.Steps E rest K (s.put (some d) (.cond true (I (r.at_ : Nat))))) : Go.Am.Steps E (⟨some d, .load 1 false, [x], some (t, want)⟩ :: rest) K s :=
  Steps.gaload (blk := b10) (off := 0) (cs := [I (r.at_ : Nat)]) hA hgv hgb hx hl (by simp [rdA]) rfl hk
theorem gld_least {t : Nat} {want : Bool} {gv : V} (hA : InA E S1 l0 s0) (hl : s.log = encA (rdA b9 b10 b8 b7 r)) (hgv : get s.env t = some gv) (hgb : guardOf want gv = some true) (hx : evXs s.env [x] = some [.rptr b7 0]) (hk : Go.Am.Steps E rest K (s.put (some d) (.cond true (I r.least)))) : Go.Am.Steps E (⟨some d, .load 1 false, [x], some (t, want)⟩ :: rest) K s :=
  Steps.gaload (blk := b7) (off := 0) (cs := [I r.least]) hA hgv hgb hx hl (by simp [rdA]) rfl hk
theorem st_ok (hn : [b10, b9, b8, b7].Nodup) (hA : InA E S1 l0 s0) (hl : s.log = encA (rdA b9 b10 b8 b7 r)) {v : Bool} (hx : evXs s.env [x, y] = some [.rptr b9 0, .bool v]) (hk : Go.Am.Steps E rest K { s with log := encA (rdA b9 b10 b8 b7 { r with ok := v }) }) : Go.Am.Steps E (⟨none, .store 1, [x, y], none⟩ :: rest) K s :=
  Steps.astore (blk := b9) (off := 0) (cs := [.bool r.ok]) hA hx hl (by simp [rdA]) (by simp) rfl rfl (by rw [← setA_ok hn] at hk; exact hk)
theorem st_at (hn : [b10, b9, b8, b7].Nodup) (hA : InA E S1 l0 s0) (hl : s.log = encA (rdA b9 b10 b8 b7 r)) {v : Int} {n : Nat} (hv : v = (n : Int)) (hx : evXs s.env [x, y] = some [.rptr b10 0, I v]) (hk : Go.Am.Steps E rest K { s with log := encA (rdA b9 b10 b8 b7 { r with at_ := n }) }) : Go.Am.Steps E (⟨none, .store 1, [x, y], none⟩ :: rest) K s := by
  subst hv
  exact Steps.astore (blk := b10) (off := 0) (cs := [I (r.at_ : Nat)]) hA hx hl (by simp [rdA]) (by simp) rfl rfl (by rw [← setA_at hn] at hk; exact hk)
theorem st_some (hn : [b10, b9, b8, b7].Nodup) (hA : InA E S1 l0 s0) (hl : s.log = encA (rdA b9 b10 b8 b7 r)) {v : Bool} (hx : evXs s.env [x, y] = some [.rptr b8 0, .bool v]) (hk : Go.Am.Steps E rest K { s with log := encA (rdA b9 b10 b8 b7 { r with some := v }) }) : Go.Am.Steps E (⟨none, .store 1, [x, y], none⟩ :: rest) K s :=
  Steps.astore (blk := b8) (off := 0) (cs := [.bool r.some]) hA hx hl (by simp [rdA]) (by simp) rfl rfl (by rw [← setA_some hn] at hk; exact hk)
theorem st_least (hn : [b10, b9, b8, b7].Nodup) (hA : InA E S1 l0 s0) (hl : s.log = encA (rdA b9 b10 b8 b7 r)) {v : Int} (hx : evXs s.env [x, y] = some [.rptr b7 0, I v]) (hk : Go.Am.Steps E rest K { s with log := encA (rdA b9 b10 b8 b7 { r with least := v }) }) : Go.Am.Steps E (⟨none, .store 1, [x, y], none⟩ :: rest) K s :=
  Steps.astore (blk := b7) (off := 0) (cs := [I r.least]) hA hx hl (by simp [rdA]) (by simp) rfl rfl (by rw [← setA_least hn] at hk; exact hk)
end

theorem c_stop {x : Nf} {pf : List Ct} (hpf : pf.length ≤ 2048) {b9 b10 b11 b8 b7 : Nat} (hn : [b10, b9, b8, b7].Nodup) (c d : Nat) (s : Rd) (hs : ¬ (s.ok = true ∧ s.at_ < pf.length)) :
    CA Tryd.prog F.bin_Bound_1 (rdA b9 b10 b8 b7 s) [(b11, [readV x pf b9 b10 b11 b8 b7])] [I (c : Nat), I (d : Nat), .rptr b9 0, .rptr b10 0, .vptr [cutsV pf] 0, .vptr (nfC x) 0, .rptr b11 0, .rptr b8 0, .rptr b7 0] (.tuple []) (rdA b9 b10 b8 b7 { s with ok := false }) := by
  refine CA_of mixed chk.bin_Bound_1 (by simp) fun S ok S1 hA hK => ?_
  refine Tr.scope (Tr.seq (Tr.seq (Tr.reg ?_)))
  refine ld_ok (r := s) hA rfl rfl ?_
  by_cases hok : s.ok = true
  · have hat : pf.length ≤ s.at_ := by
      rcases Nat.lt_or_ge s.at_ pf.length with h | h
      · exact absurd ⟨hok, h⟩ hs
      · exact h
    rw [hok]
    refine Steps.run rfl (by simp) (gld_at (r := s) hA rfl rfl rfl rfl (Steps.fin rfl (by simp) (Tr.cond rfl rfl (fun h => ?_) (fun h => ?_))))
    · refine Tr.seq (Tr.reg (st_ok hn (r := s) (v := false) hA rfl rfl ?_))
      exact Steps.fin rfl (by simp) (Tr.retX rfl rfl rfl rfl rfl)
    · exfalso
      have h : (decide ((s.at_ : Int) ≥ ((pf.map eC).length : Int))) = false := h
      simp at h; omega
  · have hok : s.ok = false := by simpa using hok
    rw [hok]
    refine Steps.run rfl (by simp) (Steps.off (want := false) (I 0) rfl rfl rfl (Steps.fin rfl (by simp) (Tr.condT rfl ?_)))
    refine Tr.seq (Tr.reg (st_ok hn (r := s) (v := false) hA rfl rfl ?_))
    exact Steps.fin rfl (by simp) (Tr.retX rfl rfl rfl rfl rfl)

theorem pricesOk_spec {x : Nf} {l : List Int} (h : pricesOk x l = true) : l.length = x.lacks.length ∧ ∀ m ∈ l, 0 ≤ m ∧ m ≤ 1000000 := by
  simp only [pricesOk, Bool.and_eq_true, decide_eq_true_eq, List.all_eq_true, btw_iff] at h
  exact h

theorem c_read {x : Nf} (hx : nfOk x = true) {pf : List Ct} (hpf : pf.length ≤ 2048) (hpl : ∀ k ∈ pf, k.prices.length ≤ 9223372036854775807) {b9 b10 b11 b8 b7 : Nat} (hn : [b10, b9, b8, b7].Nodup) (h11 : b11 ∉ [b10, b9, b8, b7]) : ∀ (n c d : Nat) (s : Rd), c < 2 ^ x.passes.length → d < 2 ^ x.passes.length → s.at_ ≤ pf.length → pf.length - s.at_ ≤ n →
    CA Tryd.prog F.bin_Bound_1 (rdA b9 b10 b8 b7 s) [(b11, [readV x pf b9 b10 b11 b8 b7])] [I (c : Nat), I (d : Nat), .rptr b9 0, .rptr b10 0, .vptr [cutsV pf] 0, .vptr (nfC x) 0, .rptr b11 0, .rptr b8 0, .rptr b7 0] (.tuple []) (rdA b9 b10 b8 b7 (readN x pf n c d s)) := by
  have hm := (nfOk_spec hx).1.2
  have hm2 : 2 ^ x.passes.length ≤ 1024 := Nat.pow_le_pow_right (n := 2) (by omega) hm
  intro n
  induction n with
  | zero =>
    intro c d s hc hd ha hl
    exact c_stop hpf hn c d s (by omega)
  | succ n ih =>
    intro c d s hc hd ha hl
    by_cases hs : s.ok = true ∧ s.at_ < pf.length
    rotate_left
    · have := c_stop (x := x) (b11 := b11) hpf hn c d s hs
      simp only [readN, dif_neg hs]
      exact this
    simp only [readN, dif_pos hs]
    obtain ⟨hok, hat⟩ := hs
    obtain ⟨k, ek⟩ : ∃ k, pf[s.at_] = k := ⟨_, rfl⟩
    have hpk : k.prices.length ≤ 9223372036854775807 := hpl k (ek ▸ List.getElem_mem hat)
    rw [ek]
    refine CA_of mixed chk.bin_Bound_1 (by simp) fun S ok S1 hA hK => ?_
    refine Tr.scope (Tr.seq (Tr.seq (Tr.reg ?_)))
    refine ld_ok (r := s) hA rfl rfl ?_
    rw [hok]
    refine Steps.run rfl (by simp) (gld_at (r := s) hA rfl rfl rfl rfl (Steps.fin rfl (by simp) (Tr.cond rfl rfl (fun h => ?_) (fun h => Tr.skip ?_))))
    · exfalso
      have h : (decide ((s.at_ : Int) ≥ ((pf.map eC).length : Int))) = true := h
      simp at h; omega
    refine Tr.seq (Tr.reg (Steps.run rfl (by simp) (ld_at (r := s) hA rfl rfl (Steps.runN 1 rfl (by simp; omega) ?_))))
    rw [getD_map hat, ek]
    refine Steps.fin rfl (by simp) ?_
    refine Tr.seq (Tr.reg (ld_at (r := s) hA rfl rfl (Steps.run rfl (by simp) ?_)))
    refine st_at hn (r := s) (n := s.at_ + 1) hA rfl (w64 (n := (s.at_ : Int) + 1) (by omega) (by omega)) rfl ?_
    refine Steps.fin rfl (by simp) ?_
    obtain ⟨s1, hs1⟩ : ∃ s1 : Rd, { s with at_ := s.at_ + 1 } = s1 := ⟨_, rfl⟩
    rw [hs1]
    have e1 : s1.at_ = s.at_ + 1 := by rw [← hs1]
    have e2 : s1.some = s.some := by rw [← hs1]
    have e3 : s1.least = s.least := by rw [← hs1]
    rw [← e1, ← e2, ← e3]
    refine Tr.weak (s' := { env := [(0, I (c : Nat)), (1, I (d : Nat)), (2, .rptr b9 0), (3, .rptr b10 0), (4, .vptr [cutsV pf] 0), (5, .vptr (nfC x) 0), (6, .rptr b11 0), (7, .rptr b8 0), (8, .rptr b7 0), (11, .ptr 11 0)], bx := [(11, ⟨[I k.split, intsV k.prices], false⟩)], rw := [], log := encA (rdA b9 b10 b8 b7 s1), stp := false })
      (Wk.le (.cons rfl (.refl _) (.cons rfl (.refl _) (.cons rfl (.refl _) (.cons rfl (.refl _) (.cons rfl (.refl _) (.cons rfl (.refl _) (.cons rfl (.refl _) (.cons rfl (.refl _) (.cons rfl (.refl _) (.cons rfl (.refl _) .nil)))))))))) (.cons rfl (LLe.refl _) .nil) .nil rfl rfl) ?_
    refine Tr.seq (Tr.seqR rfl (by simp) (Tr.cond rfl rfl (fun hsp => ?_) (fun hsp => Tr.skip ?_)))
    · have hsp : (k.split != -1) = true := hsp
      have hsp : k.split ≠ -1 := by simpa using hsp
      rw [if_pos hsp]
      have hw1 : IntKind.wrap .i64 (((x.passes.map eQ).length : Int) - 1) = (x.passes.length : Int) - 1 := by rw [List.length_map, w64 (by omega) (by omega)]
      have kw := c_within k.split 0 (IntKind.wrap .i64 (((x.passes.map eQ).length : Int) - 1))
      rw [hw1] at kw
      have kw' : C Tryd.prog F.bin_within [I k.split, I 0, I (IntKind.wrap .i64 (((x.passes.map eQ).length : Int) - 1))] (.bool (btw k.split 0 ((x.passes.length : Int) - 1))) := by rw [hw1]; exact kw
      by_cases hw : btw k.split 0 ((x.passes.length : Int) - 1) = true
      rotate_left
      · have hw : btw k.split 0 ((x.passes.length : Int) - 1) = false := by simpa using hw
        rw [hw] at kw'
        have : splitOk x k d = false := by simp [splitOk, hw]
        rw [if_neg (by simp [this])]
        refine Tr.seq (Tr.seq (Tr.reg (Steps.run rfl (by simp) (Steps.call rfl rfl kw' (Steps.run rfl (by simp) ?_)))))
        refine st_ok hn (r := s1) (v := false) hA rfl rfl (Steps.fin rfl (by simp) ?_)
        refine Tr.seq (Tr.reg (ld_ok (r := { s1 with ok := false }) hA rfl rfl (Steps.fin rfl (by simp) (Tr.condF rfl (Tr.skip ?_)))))
        exact Tr.retX rfl rfl rfl rfl rfl
      rw [hw] at kw'
      rw [btw_iff] at hw
      obtain ⟨i, hi⟩ : ∃ i : Nat, k.split = (i : Int) := ⟨k.split.toNat, by omega⟩
      have hi' : k.split.toNat = i := by omega
      have him : i < x.passes.length := by omega
      have hbit := bit_shr d i (by omega)
      have hso : splitOk x k d = (!d.testBit i && decide (k.prices.length = 0)) := by
        unfold splitOk
        rw [(btw_iff _ _ _).2 hw, hi']; rfl
      have hval : (bif (((((d : Int).fdiv (2 ^ (min (k.split).toNat 64))).tmod 2) == 0)) then (((k.prices.map I).length : Int) == 0) else false) = splitOk x k d := by
        rw [hso, hi, hbit, List.length_map]
        by_cases h : d.testBit i = true
        · simp [h]
        · by_cases h5 : k.prices.length = 0
          · rw [h5]; simp [h]
          · have h6 : k.prices ≠ [] := fun h6 => h5 (by rw [h6]; rfl)
            simp [h, h6]
      refine Tr.seq (Tr.seq (Tr.reg (Steps.run rfl (by simp) (Steps.call rfl rfl kw' (Steps.run rfl (by simp; omega) ?_)))))
      refine st_ok hn (r := s1) (v := splitOk x k d) hA rfl ?_ (Steps.fin rfl (by simp) ?_)
      · rw [← hval]; rfl
      refine Tr.seq (Tr.reg (ld_ok (r := { s1 with ok := splitOk x k d }) hA rfl rfl (Steps.fin rfl (by simp) (Tr.cond rfl rfl (fun h3 => ?_) (fun h3 => Tr.skip ?_)))))
      rotate_left
      · have h3 : splitOk x k d = false := h3
        rw [if_neg (by simp [h3]), h3]
        exact Tr.retX rfl rfl rfl rfl rfl
      have h3 : splitOk x k d = true := h3
      rw [if_pos h3, h3, hi']
      have hp : 2 ^ i < 2 ^ x.passes.length := Nat.pow_lt_pow_right (by omega) him
      have hc2 : c ||| 2 ^ i < 2 ^ x.passes.length := Nat.or_lt_two_pow hc hp
      have hd2 : d ||| 2 ^ i < 2 ^ x.passes.length := Nat.or_lt_two_pow hd hp
      have hsh := bit_shl i (by omega)
      have hor : ∀ e : Nat, e < 2 ^ x.passes.length → bitsV .or .i64 (e : Int) (IntKind.wrap .i64 (1 * 2 ^ (min (k.split).toNat 64))) = ((e ||| 2 ^ i : Nat) : Int) := fun e he => by
        rw [hi, hsh]
        exact bits_or e (2 ^ i) (by omega) (by omega)
      have k1 := ih (c ||| 2 ^ i) (d ||| 2 ^ i) { s1 with ok := true } hc2 hd2 (by simp only; omega) (by simp only; omega)
      have hat2 := readN_at x pf n (c ||| 2 ^ i) (d ||| 2 ^ i) { s1 with ok := true } (by simp only; omega)
      simp only at hat2
      obtain ⟨s2, es2⟩ : ∃ s2, readN x pf n (c ||| 2 ^ i) (d ||| 2 ^ i) { s1 with ok := true } = s2 := ⟨_, rfl⟩
      rw [es2] at k1 hat2 ⊢
      have k2 := ih c (d ||| 2 ^ i) s2 hc hd2 hat2.2 (by omega)
      refine Tr.seq (Tr.drawK (TraceK.kload hK (cs := [readV x pf b9 b10 b11 b8 b7]) rfl (by simp) rfl (TraceK.runN 10 rfl (by simp; omega) ?_)))
      have hkd : ∀ r : Rd, ∀ p ∈ [(b11, [readV x pf b9 b10 b11 b8 b7])], p.1 ∉ (rdA b9 b10 b8 b7 r).map (·.1) := fun r p hp => by
        obtain rfl := List.mem_singleton.1 hp
        exact h11
      rw [← hor c hc, ← hor d hd] at k1
      refine .done ⟨by kernel_rfl, by kernel_rfl, ?_⟩
      refine Steps.callvA (F := []) hA rfl rfl rfl k1 (.inr ⟨hK, hkd _⟩) (Steps.fin rfl (by simp) ?_)
      rw [← hor d hd] at k2
      refine Tr.drawK (TraceK.kload hK (cs := [readV x pf b9 b10 b11 b8 b7]) rfl (by simp) rfl (TraceK.runN 6 rfl (by simp; omega) (.done ⟨by kernel_rfl, by kernel_rfl, ?_⟩)))
      refine Steps.callvA (F := []) hA rfl rfl rfl k2 (.inr ⟨hK, hkd _⟩) (Steps.fin rfl (by simp) ?_)
      exact Tr.retX rfl rfl rfl rfl rfl
    have hsp : (k.split != -1) = false := hsp
    have hsp : ¬ k.split ≠ -1 := by simpa using hsp
    rw [if_neg hsp]
    have hlen : ((((k.prices.map I).length : Int)) == (((x.lacks.map I).length : Int))) = decide (k.prices.length = x.lacks.length) := by
      rw [List.length_map, List.length_map]
      by_cases h : k.prices.length = x.lacks.length
      · rw [h]; simp
      · have : ¬ ((k.prices.length : Int) = (x.lacks.length : Int)) := by omega
        simp [h, this]
    refine Tr.seq (Tr.reg (Steps.run rfl (by simp) ?_))
    have hlen0 : ((((k.prices.map I).length : Int)) == (((x.lacks.map I).length : Int))) = (decide (k.prices.length = x.lacks.length) && (k.prices.take 0).all (btw · 0 1000000)) := by rw [hlen]; simp
    refine st_ok hn (r := s1) (v := decide (k.prices.length = x.lacks.length) && (k.prices.take 0).all (btw · 0 1000000)) hA rfl ?_ (Steps.fin rfl (by simp) ?_)
    · rw [← hlen0]; rfl
    refine Tr.seq (Tr.label ?_)
    refine Tr.meet { env := [(0, I (c : Nat)), (1, I (d : Nat)), (2, .rptr b9 0), (5, .vptr (nfC x) 0), (7, .rptr b8 0), (8, .rptr b7 0), (11, .ptr 11 0)], bx := [(11, ⟨[I k.split, intsV k.prices], false⟩)], rw := [], log := encA (rdA b9 b10 b8 b7 { s1 with ok := pricesOk x k.prices }), stp := false } (Tr.seqR rfl (by simp) (Tr.block ?_)) ?_
    · refine Tr.loop (fun (j : Nat) st => (j ≤ k.prices.length) ∧ st = { env := [(0, I (c : Nat)), (1, I (d : Nat)), (2, .rptr b9 0), (5, .vptr (nfC x) 0), (7, .rptr b8 0), (8, .rptr b7 0), (11, .ptr 11 0), (82, intsV k.prices), (83, I (k.prices.length : Nat)), (84, I (j : Nat))], bx := [(11, ⟨[I k.split, intsV k.prices], false⟩)], rw := [], log := encA (rdA b9 b10 b8 b7 { s1 with ok := decide (k.prices.length = x.lacks.length) && (k.prices.take j).all (btw · 0 1000000) }), stp := false }) (fun j => k.prices.length - j) 0
        (Wk.le (.cons rfl (.refl _) (.cons rfl (.refl _) (.cons rfl (.refl _) (.cons rfl (.refl _) (.cons rfl (.refl _) (.cons rfl (.refl _) (.cons rfl (.refl _) (.cons rfl (.refl _) (.cons rfl (VLe.i ?_) (.cons rfl (.refl _) .nil)))))))))) (.cons rfl (LLe.refl _) .nil) .nil rfl rfl) ⟨Nat.zero_le _, rfl⟩ ?_
      · show ((k.prices.map I).length : Int) = _
        rw [List.length_map]
      rintro j st ⟨hj, rfl⟩
      refine Tr.seqR rfl (by simp) (Tr.seqI rfl (fun h1 => ?_) (fun h1 => ?_))
      rotate_left
      · have h1 : j = k.prices.length := by simp at h1; omega
        subst h1
        rw [List.take_length]
        exact Tr.exit (Wk.le (.cons rfl (.refl _) (.cons rfl (.refl _) (.cons rfl (.refl _) (.cons rfl (.refl _) (.cons rfl (.refl _) (.cons rfl (.refl _) (.cons rfl (.refl _) .nil))))))) (.cons rfl (LLe.refl _) .nil) .nil rfl rfl)
      have h1 : j < k.prices.length := by simpa using h1
      have hnx : (decide (k.prices.length = x.lacks.length) && (k.prices.take (j + 1)).all (btw · 0 1000000)) = ((decide (k.prices.length = x.lacks.length) && (k.prices.take j).all (btw · 0 1000000)) && btw k.prices[j] 0 1000000) := by
        rw [all_take_succ h1, Bool.and_assoc]
      have hfa : (decide (k.prices.length = x.lacks.length) && (k.prices.take (j + 1)).all (btw · 0 1000000)) = false → pricesOk x k.prices = false := fun h => by
        unfold pricesOk
        rw [Bool.and_eq_false_iff] at h ⊢
        rcases h with h | h
        · exact .inl h
        · refine .inr ?_
          rw [List.all_eq_false] at h ⊢
          obtain ⟨m, hm, h⟩ := h
          exact ⟨m, List.mem_of_mem_take hm, h⟩
      generalize hB0 : (decide (k.prices.length = x.lacks.length) && (k.prices.take j).all (btw · 0 1000000)) = B0 at hnx ⊢
      refine Tr.skipT (Tr.seq (Tr.block (Tr.seq (Tr.reg (Steps.runN 1 rfl (by simp; omega) ?_)))))
      rw [getD_map h1]
      refine Steps.fin rfl (by simp) (Tr.seq (Tr.reg (ld_ok (r := { s1 with ok := B0 }) hA rfl rfl (Steps.run rfl (by simp) ?_))))
      refine Steps.gcall rfl rfl rfl rfl (by simp) (fun _ => c_within k.prices[j] 0 1000000) ?_
      refine Steps.runN 1 rfl (by cases B0 <;> simp) ?_
      refine st_ok hn (r := { s1 with ok := B0 }) (v := B0 && btw k.prices[j] 0 1000000) hA rfl ?_ (Steps.fin rfl (by simp) ?_)
      · show some [V.rptr b9 0, .bool (bif B0 then btw k.prices[j] 0 1000000 else false)] = _
        cases B0 <;> rfl
      rw [← hnx]
      refine Tr.seq (Tr.reg (ld_ok (r := { s1 with ok := _ }) hA rfl rfl (Steps.fin rfl (by simp) (Tr.cond rfl rfl (fun h2 => ?_) (fun h2 => Tr.skip ?_)))))
      · have h2 : (!(decide (k.prices.length = x.lacks.length) && (k.prices.take (j + 1)).all (btw · 0 1000000))) = true := h2
        have h2 : (decide (k.prices.length = x.lacks.length) && (k.prices.take (j + 1)).all (btw · 0 1000000)) = false := by
          revert h2
          generalize (decide (k.prices.length = x.lacks.length) && (k.prices.take (j + 1)).all (btw · 0 1000000)) = B
          cases B <;> simp
        rw [h2, hfa h2]
        exact Tr.exit (Wk.le (.cons rfl (.refl _) (.cons rfl (.refl _) (.cons rfl (.refl _) (.cons rfl (.refl _) (.cons rfl (.refl _) (.cons rfl (.refl _) (.cons rfl (.refl _) .nil))))))) (.cons rfl (LLe.refl _) .nil) .nil rfl rfl)
      · refine Tr.regR rfl (by simp) ?_
        exact ⟨j + 1, _, Wk.le (.cons rfl (.refl _) (.cons rfl (.refl _) (.cons rfl (.refl _) (.cons rfl (.refl _) (.cons rfl (.refl _) (.cons rfl (.refl _) (.cons rfl (.refl _) (.cons rfl (.refl _) (.cons rfl (.refl _) (.cons rfl (VLe.i (w64 (by omega) (by omega))) .nil)))))))))) (.cons rfl (LLe.refl _) .nil) .nil rfl rfl, ⟨h1, rfl⟩, by omega⟩
    refine Tr.seq (Tr.reg (ld_ok (r := { s1 with ok := pricesOk x k.prices }) hA rfl rfl (Steps.fin rfl (by simp) (Tr.cond rfl rfl (fun h2 => ?_) (fun h2 => Tr.skip ?_)))))
    rotate_left
    · have h2 : pricesOk x k.prices = false := h2
      rw [if_neg (by simp [h2]), h2]
      exact ⟨rfl, [], [], [], rfl, rfl, rfl⟩
    have h2 : pricesOk x k.prices = true := h2
    rw [if_pos h2, h2]
    obtain ⟨hp1, hp2⟩ := pricesOk_spec h2
    refine Tr.seq (Tr.reg (Steps.run rfl (by simp) (Steps.call rfl rfl (c_leaf hx hp2 hp1 hc) (Steps.fin rfl (by simp) ?_))))
    refine Tr.seq (Tr.reg (ld_some (r := { s1 with ok := true }) hA rfl rfl ?_))
    have e5 : ({ s1 with ok := true } : Rd).some = s1.some := rfl
    rw [e5]
    cases hsm : s1.some with
    | true =>
      refine Steps.run rfl (by simp) ?_
      refine gld_least (r := { s1 with ok := true, some := true }) hA rfl rfl rfl rfl ?_
      refine Steps.fin rfl (by simp) (Tr.cond rfl rfl (fun h3 => ?_) (fun h3 => Tr.skip ?_))
      · have h3 : decide (leafN x k.prices c d < s1.least) = true := h3
        rw [if_pos (by rw [h3]; rfl)]
        refine Tr.reg (Steps.run rfl (by simp) ?_)
        refine st_least hn (r := { s1 with ok := true, some := true }) (v := leafN x k.prices c d) hA rfl rfl ?_
        refine st_some hn (r := { s1 with ok := true, some := true, least := leafN x k.prices c d }) (v := true) hA rfl rfl (Steps.fin rfl (by simp) ?_)
        exact ⟨rfl, [], [], [], rfl, rfl, rfl⟩
      · have h3 : decide (leafN x k.prices c d < s1.least) = false := h3
        rw [if_neg (by rw [h3]; simp)]
        refine ⟨?_, [], [], [], rfl, rfl, rfl⟩
        rfl
    | false =>
      refine Steps.run rfl (by simp) (Steps.off (want := false) (I 0) rfl rfl rfl ?_)
      refine Steps.fin rfl (by simp) (Tr.condT rfl ?_)
      rw [if_pos (by simp)]
      refine Tr.reg (Steps.run rfl (by simp) ?_)
      refine st_least hn (r := { s1 with ok := true, some := false }) (v := leafN x k.prices c d) hA rfl rfl ?_
      refine st_some hn (r := { s1 with ok := true, some := false, least := leafN x k.prices c d }) (v := true) hA rfl rfl (Steps.fin rfl (by simp) ?_)
      exact ⟨rfl, [], [], [], rfl, rfl, rfl⟩

end Go.Proofs.YtdejdblopmfjfaaDoor


/-! Contracts: Bound. -/
set_option linter.unusedVariables false
set_option linter.unusedSimpArgs false
set_option maxRecDepth 40000
set_option maxHeartbeats 4000000
namespace Go.Proofs.YtdejdblopmfjfaaDoor
open Go.Am
attribute [local simp] cells scalar mkv splice under2 under dem dem1 eB eQ nfC intsV eC cutsV
def boundN (x : Nf) (pf : List Ct) : Rd := readN x pf pf.length 0 0 ⟨true, 0, false, 0⟩
def BoundR (x : Nf) (pf : List Ct) : V := if nfOk x then (if pf.length ≤ 2048 then (if (boundN x pf).ok && decide ((boundN x pf).at_ = pf.length) then .tuple [I (boundN x pf).least, I 0] else .tuple [I 0, I 76]) else .tuple [I 0, I 76]) else .tuple [I 0, I 74]

theorem setA_head {A : Arena} {b : Nat} (h : b ∉ A.map (·.1)) (o o' : Ob) : setA ((b, o) :: A) b o' = (b, o') :: A := by
  unfold setA
  rw [List.map_cons, if_pos rfl]
  congr 1
  conv => rhs; rw [← List.map_id A]
  refine List.map_congr_left fun p hp => ?_
  rw [if_neg (fun e => h (List.mem_map.2 ⟨p, hp, e⟩))]; rfl

theorem c_Bound {x : Nf} (hx : ∀ p ∈ x.passes, p.adds.length ≤ 9223372036854775807) {pf : List Ct} (hpl : ∀ k ∈ pf, k.prices.length ≤ 9223372036854775807) : C Tryd.prog F.bin_Bound [.agg (nfC x), cutsV pf] (BoundR x pf) := by
  have kc := c_CheckInfill hx
  unfold BoundR
  refine C_of mixed chk.bin_Bound (by simp) fun S ok => ?_
  refine Tr.seqR rfl (by simp) ?_
  by_cases hk : nfOk x = true
  rotate_left
  · rw [if_neg hk] at kc ⊢
    refine Tr.seq (Tr.seqC rfl (by simp) (Steps.call rfl rfl kc (Steps.fin rfl (by simp) (Tr.seqR rfl (by simp) (Tr.condT rfl (Tr.seqR rfl (by simp) ?_))))))
    exact Tr.retX rfl rfl rfl rfl trivial
  rw [if_pos hk] at kc ⊢
  refine Tr.seq (Tr.seqC rfl (by simp) (Steps.call rfl rfl kc (Steps.fin rfl (by simp) (Tr.seqR rfl (by simp) (Tr.condF rfl (Tr.skip ?_))))))
  refine Tr.seq (Tr.seqR rfl (by simp) (Tr.cond rfl rfl (fun h => ?_) (fun h => Tr.skip ?_)))
  · have h : decide (((pf.map eC).length : Int) > 2048) = true := h
    have h : ¬ pf.length ≤ 2048 := by simp at h; omega
    rw [if_neg h]
    exact Tr.seqR rfl (by simp) (Tr.retX rfl rfl rfl rfl trivial)
  have h : decide (((pf.map eC).length : Int) > 2048) = false := h
  have hp : pf.length ≤ 2048 := by simp at h; omega
  rw [if_pos hp]
  refine Tr.weak (s' := { env := [(2, .ptr 2 0), (3, .ptr 3 0)], bx := [(2, ⟨nfC x, false⟩), (3, ⟨[cutsV pf], false⟩)], rw := [], log := [], stp := false }) (Wk.le (.cons rfl (.refl _) (.cons rfl (.refl _) .nil)) (.cons rfl (LLe.refl _) (.cons rfl (LLe.refl _) .nil)) .nil rfl rfl) ?_
  refine Tr.weak (wkData (t := 2) (u := .vptr (nfC x) 0) (ids := [2]) rfl rfl) ?_
  refine Tr.weak (wkData (t := 3) (u := .vptr [cutsV pf] 0) (ids := [3]) rfl rfl) ?_
  refine Tr.weak (s' := { env := [(2, .vptr (nfC x) 0), (3, .vptr [cutsV pf] 0)], bx := [], rw := [], log := [], stp := false }) (Wk.le (.cons rfl (.refl _) (.cons rfl (.refl _) .nil)) .nil .nil rfl rfl) ?_
  refine Tr.arena rfl rfl ?_
  have hA := InA.main (E := env0 Tryd.prog mixed 32 S ok) [] false
  refine Tr.seq (Tr.reg ?_)
  refine Steps.aalloc hA rfl fun b7 n7 => ?_
  refine Steps.aalloc hA rfl fun b8 n8 => ?_
  refine Steps.aalloc hA rfl fun b9 n9 => ?_
  refine Steps.aalloc hA rfl fun b10 n10 => ?_
  have hn : [b10, b9, b8, b7].Nodup := by
    simp only [List.map_cons, List.map_nil, List.mem_cons, List.not_mem_nil, or_false, not_or] at n7 n8 n9 n10
    simp only [List.nodup_cons, List.mem_cons, List.not_mem_nil, or_false, not_or]
    exact ⟨⟨n10.1, n10.2.1, n10.2.2⟩, ⟨n9.1, n9.2⟩, n8, fun h => h, List.nodup_nil⟩
  refine st_least hn (r := ⟨false, 0, false, 0⟩) (v := 0) hA rfl rfl ?_
  refine st_some hn (r := ⟨false, 0, false, 0⟩) (v := false) hA rfl rfl ?_
  refine st_ok hn (r := ⟨false, 0, false, 0⟩) (v := true) hA rfl rfl ?_
  refine st_at hn (r := ⟨true, 0, false, 0⟩) (v := 0) (n := 0) hA rfl rfl rfl (Steps.fin rfl (by simp) ?_)
  refine Tr.seq (Tr.reg (Steps.aalloc hA rfl fun b11 n11 => Steps.fin rfl (by simp) ?_))
  have h11 : b11 ∉ [b10, b9, b8, b7] := n11
  have ka := c_read hk hp hpl (b11 := b11) hn h11 pf.length 0 0 ⟨true, 0, false, 0⟩ (Nat.two_pow_pos _) (Nat.two_pow_pos _) (Nat.zero_le _) (by simp)
  refine Tr.seq (Tr.reg (Steps.run rfl (by simp) ?_))
  refine Steps.astoreD (blk := b11) (off := 0) (cs := [.nilf]) (v := readV x pf b9 b10 b11 b8 b7) hA rfl rfl (by simp) (by simp) rfl rfl ?_
  rw [setA_head h11]
  refine Steps.fin rfl (by simp) ?_
  refine Tr.seq (Tr.reg (Steps.aload (blk := b11) (off := 0) (cs := [readV x pf b9 b10 b11 b8 b7]) hA rfl rfl (by simp) rfl ?_))
  refine Steps.callvA (F := [(b11, .cells [readV x pf b9 b10 b11 b8 b7])]) hA rfl rfl rfl ka (.inl (by simp)) (Steps.fin rfl (by simp) ?_)
  have hr : boundN x pf = readN x pf pf.length 0 0 ⟨true, 0, false, 0⟩ := rfl
  rw [← hr]
  generalize boundN x pf = r
  obtain ⟨rok, rat, rsome, rleast⟩ := r
  refine Tr.seq (Tr.seq (Tr.reg (Steps.aload (blk := b9) (off := 0) (cs := [.bool rok]) hA rfl rfl (by simp [rdA]) rfl ?_)))
  cases rok with
  | false =>
    rw [if_neg (by simp)]
    refine Steps.run rfl (by simp) (Steps.off (want := false) (I 0) rfl rfl rfl (Steps.fin rfl (by simp) (Tr.condT rfl ?_)))
    refine Tr.seqR rfl (by simp) ?_
    exact Tr.ret ⟨trivial, _, _, _, resVs_ok rfl, rfl, rfl⟩
  | true =>
    refine Steps.run rfl (by simp) (Steps.gaload (blk := b10) (off := 0) (cs := [I (rat : Nat)]) hA rfl rfl rfl rfl (by simp [rdA]) rfl (Steps.fin rfl (by simp) (Tr.cond rfl rfl (fun h => ?_) (fun h => Tr.skip ?_))))
    · have h : ((rat : Int) != ((pf.map eC).length : Int)) = true := h
      have hne : rat ≠ pf.length := by
        rintro rfl
        simp at h
      rw [if_neg (by simp [hne])]
      refine Tr.seqR rfl (by simp) ?_
      exact Tr.ret ⟨trivial, _, _, _, resVs_ok rfl, rfl, rfl⟩
    · have h : ((rat : Int) != ((pf.map eC).length : Int)) = false := h
      have he : rat = pf.length := by simp at h; omega
      rw [if_pos (by simp [he])]
      refine Tr.seq (Tr.reg (Steps.aload (blk := b7) (off := 0) (cs := [I rleast]) hA rfl rfl (by simp [rdA]) rfl (Steps.fin rfl (by simp) ?_)))
      exact Tr.ret ⟨trivial, _, _, _, resVs_ok rfl, rfl, rfl⟩

end Go.Proofs.YtdejdblopmfjfaaDoor


/-! AM, part Zm: bytes as a string. -/
set_option linter.unusedVariables false
set_option linter.unusedSimpArgs false
namespace Go.Am
open Go.RowKit

theorem opK_raw5 {P : Program} {o : Oper} {os : List Operand} {t u : Nat} (hk : opK P o.op = some (.raw 5 t u, os)) : ∃ p, o.op = .convert t u p ∧ os = [p] := by
  cases ho : o.op <;> rw [ho] at hk <;> simp only [opK] at hk <;> (try (cases hk; done)) <;> (try (repeat' (split at hk <;> (try (cases hk; done)))))
  all_goals first
    | (simp only [Option.map_eq_some_iff, Prod.mk.injEq] at hk; obtain ⟨_, _, h1, _⟩ := hk; cases h1; done)
    | (simp only [eqKind] at hk; repeat' (split at hk <;> (try (cases hk; done))))
    | (cases hk; exact ⟨_, rfl, rfl⟩)

def byteV (b : UInt8) : V := .int .u8 (b.toNat : Int)

theorem flat_bytes (bs : List UInt8) : (bs.map byteV).flatMap cells = bs.map byteV := by
  induction bs with
  | nil => rfl
  | cons b bs ih => rw [List.map_cons, List.flatMap_cons, ih]; rfl

section
variable {E : Env}

/-- Bytes as a string. -/
theorem Steps.toStr {s : St} {K : St → Prop} {d t u e r : Nat} {x : X} {bs : List UInt8} {rest : List Ins} (h1 : E.P.underlying t = some (.slice e)) (h2 : E.P.underlying e = some (.int .u8)) (h3 : E.P.underlying u = some .string) (hx : evXs s.env [x] = some [.slice r 1 (bs.map byteV)])
    (hk : Steps E rest K (s.put (some d) (.str ⟨bs.toArray⟩))) : Steps E (⟨some d, .raw 5 t u, [x], none⟩ :: rest) K s := by
  refine Step1.raw fun slots ops o i ro n a w h hc hs hi R Q next hn => ?_
  obtain ⟨os, cc⟩ := comp_of hc
  obtain ⟨p, ho, rfl⟩ := opK_raw5 cc.op
  obtain ⟨v, hv, o1⟩ := (opds_of R.1 cc.xs (evXs_ok hx)).one
  simp only [List.cons.injEq, and_true] at hv
  subst hv
  have rr := ok_slice o1
  have key : (execOp a.eval o).run E.P w = .ok (.value (.string ⟨bs.toArray⟩)) w := by
    generalize hz : a.eval p = z at rr
    have hrun : (convert t u z).run E.P w = .ok (.string ⟨bs.toArray⟩) w := by
      rcases slice_at rr with ⟨⟨ad, cap, rfl⟩, e0⟩ | ⟨blk, off, cap, cv, rfl, hpos, _, hys, ay⟩
      · obtain rfl : bs = [] := by simpa using e0
        cases ad with
        | none => exact Go.Lib.run_convert_nil_bytes w t u e cap h1 h2 h3
        | some ad => exact run_convert_bytes_back (P := E.P) w t u e ad cap [] h1 h2 h3 (fun j hj => by simp at hj)
      · have hb := run_convert_bytes_back (P := E.P) w t u e ⟨blk, off, none⟩ cap bs h1 h2 h3 (fun j hj => by
          have hfl : ((bs.map byteV).flatMap cells)[j]? = some (byteV bs[j]) := by
            have e1 : (bs.map byteV).flatMap cells = bs.map byteV := by
              exact flat_bytes bs
            rw [e1]; simp [hj]
          obtain ⟨_, k2, k3, _⟩ := ay j _ hfl
          rw [Addr.add_lit, k2]
          have : cv j = .int .u8 (bs[j].toNat : Int) := by
            exact rep_int (.data k3 : Rep w h.φ h.β h.y.l _ _)
          rw [this])
        rw [List.length_map]
        exact hb
    simp only [execOp, ho, hz, Sem.run_bind, hrun]; rfl
  refine wpOp_done hi (wanted_none (guard_none cc rfl)) (opK_defer cc.op) (.inl key) (hn _ _ w h hk ?_ rfl)
  show E.relF _ _ _ _ _ _
  rw [(put_log _ _ _).1, (put_log _ _ _).2, fs_put]
  exact rel_after (eff := { v := _ }) cc R R.1 ⟨.data (.str _), GrowV.of_data (w0 := w) (φ0 := h.φ) (.str _)⟩ rfl

end
end Go.Am


/-! Contracts: a fold as a text. -/
set_option linter.unusedVariables false
set_option linter.unusedSimpArgs false
set_option maxRecDepth 40000
set_option maxHeartbeats 4000000
namespace Go.Proofs.YtdejdblopmfjfaaDoor
open Go.Am
attribute [local simp] cells scalar mkv splice under2 under dem dem1 eB gridC sB intsV
def foldV (f : List (List Int)) : V := .slice 0 1 (f.map intsV)
attribute [local simp] foldV
def rowOk (g : Gd) (l : List Int) : Bool := decide (l.length = g.cls.length) && !(l.any fun n => decide (n < 0))
def mapOk (g : Gd) (f : List (List Int)) : Bool := decide ((f.length : Int) = g.a * g.d) && f.all (rowOk g)
def charB (n : Int) : UInt8 := if n = 0 then 46 else if n ≤ 9 then UInt8.ofNat (48 + n).toNat else 43
def at2 (f : List (List Int)) (i k : Nat) : Int := (f.getD i []).getD k 0
def rowB (g : Gd) (f : List (List Int)) (k r : Nat) : List UInt8 := (List.range g.a.toNat).map fun c => charB (at2 f (r * g.a.toNat + c) k)
def mapB (g : Gd) (f : List (List Int)) (k : Nat) : List UInt8 := (List.range g.d.toNat).flatMap fun i => rowB g f k (g.d.toNat - 1 - i) ++ [10]

theorem c_Map1 (n : Int) : C Tryd.prog F.bin_Map_1 [I n] (.bool (decide (n < 0))) := by
  refine C_of mixed chk.bin_Map_1 (by simp) fun S ok => ?_
  exact Tr.seqR rfl (by simp) (Tr.seqR rfl (by simp) (Tr.retX rfl rfl rfl rfl trivial))

def MapR (g : Gd) (f : List (List Int)) (k : Int) : V :=
  if gridOk g then (if mapOk g f then (if btw k 0 ((g.cls.length : Int) - 1) then .tuple [.str ⟨(mapB g f k.toNat).toArray⟩, I 0] else .tuple [.str ⟨#[]⟩, I 72]) else .tuple [.str ⟨#[]⟩, I 73]) else .tuple [.str ⟨#[]⟩, I 70]

theorem gridOk_sp {g : Gd} (h : gridOk g = true) : planeB g.o = true ∧ (1 ≤ g.size ∧ g.size ≤ 1000) ∧ (1 ≤ g.a ∧ g.a ≤ 16) ∧ (1 ≤ g.d ∧ g.d ≤ 16) ∧ (1 ≤ g.cls.length ∧ g.cls.length ≤ 4) ∧ clsOk (-1) g.cls = true := by
  simp only [gridOk, Bool.and_eq_true, btw_iff] at h
  obtain ⟨⟨⟨⟨⟨h1, h2⟩, h3⟩, h4⟩, h5⟩, h6⟩ := h
  exact ⟨h1, h2, h3, h4, by omega, h6⟩

theorem c_Map {g : Gd} (hl : g.cls.length ≤ 9223372036854775807) {f : List (List Int)} (hf : ∀ l ∈ f, l.length ≤ 9223372036854775807) (hf2 : f.length ≤ 9223372036854775807) (k : Int) : C Tryd.prog F.bin_Map [.agg (gridC g), foldV f, I k] (MapR g f k) := by
  have kg := c_CheckGrid (g := g) hl
  unfold MapR
  refine C_of mixed chk.bin_Map (by simp) fun S ok => ?_
  refine Tr.seqR rfl (by simp) ?_
  by_cases hg : gridOk g = true
  rotate_left
  · rw [if_neg hg] at kg ⊢
    refine Tr.seq (Tr.seqC rfl (by simp) (Steps.call rfl rfl kg (Steps.fin rfl (by simp) (Tr.seqR rfl (by simp) (Tr.condT rfl (Tr.seqR rfl (by simp) ?_))))))
    exact Tr.retX rfl rfl rfl rfl trivial
  rw [if_pos hg] at kg ⊢
  obtain ⟨_, _, ha, hd, hc, _⟩ := gridOk_sp hg
  have had : 0 ≤ g.a * g.d ∧ g.a * g.d ≤ 256 := ⟨Int.mul_nonneg (by omega) (by omega), by have := Int.mul_le_mul ha.2 hd.2 (by omega) (by omega); omega⟩
  refine Tr.seq (Tr.seqC rfl (by simp) (Steps.call rfl rfl kg (Steps.fin rfl (by simp) (Tr.seqR rfl (by simp) (Tr.condF rfl (Tr.skip ?_))))))
  refine Tr.seqR rfl (by simp) ?_
  have hok0 : (((f.map intsV).length : Int) == IntKind.wrap .i64 (g.a * g.d)) = decide ((f.length : Int) = g.a * g.d) := by
    rw [List.length_map, w64 (by omega) (by omega)]
    by_cases h : (f.length : Int) = g.a * g.d
    · rw [h]; simp
    · simp [h]
  refine Tr.seq (Tr.seqR rfl (by simp) (Tr.block ?_))
  refine Tr.loop (fun (j : Nat) st => j ≤ f.length ∧ st = { env := [(1, foldV f), (2, I k), (3, .ptr 3 0), (9, .bool (decide ((f.length : Int) = g.a * g.d) && (f.take j).all (rowOk g))), (29, foldV f), (30, I (f.length : Nat)), (31, I (j : Nat))], bx := [(3, ⟨gridC g, false⟩)], rw := [], log := [], stp := false }) (fun j => f.length - j) 0
    (Wk.le (.cons rfl (.refl _) (.cons rfl (.refl _) (.cons rfl (.refl _) (.cons rfl (.of_eq ?_) (.cons rfl (.refl _) (.cons rfl (VLe.i (by simp)) (.cons rfl (.refl _) .nil))))))) (.cons rfl (LLe.refl _) .nil) .nil rfl rfl) ⟨Nat.zero_le _, rfl⟩ ?_
  · rw [List.take_zero, List.all_nil, Bool.and_true, ← hok0]
  rintro j st ⟨hj, rfl⟩
  refine Tr.seqR rfl (by simp) (Tr.seqI rfl (fun h1 => ?_) (fun h1 => ?_))
  · have h1 : j < f.length := by simpa using h1
    have hnx : (decide ((f.length : Int) = g.a * g.d) && (f.take (j + 1)).all (rowOk g)) = ((decide ((f.length : Int) = g.a * g.d) && (f.take j).all (rowOk g)) && rowOk g f[j]) := by
      rw [all_take_succ h1, Bool.and_assoc]
    generalize (decide ((f.length : Int) = g.a * g.d) && (f.take j).all (rowOk g)) = B0 at hnx ⊢
    refine Tr.skipT (Tr.seq (Tr.block (Tr.seq (Tr.reg (Steps.runN 1 rfl (by simp; omega) ?_)))))
    rw [getD_map h1]
    refine Steps.fin rfl (by simp) (Tr.reg (Steps.run rfl (by simp) ?_))
    refine Steps.gcall rfl rfl rfl rfl (by simp) (fun _ => c_containsI (hf _ (List.getElem_mem h1)) fun n _ => c_Map1 n) ?_
    refine Steps.fin rfl (by simp) (Tr.regR rfl (by simp) ?_)
    refine ⟨j + 1, _, Wk.le (.cons rfl (.refl _) (.cons rfl (.refl _) (.cons rfl (.refl _) (.cons rfl (.of_eq ?_) (.cons rfl (.refl _) (.cons rfl (.refl _) (.cons rfl (VLe.i (w64 (by omega) (by omega))) .nil))))))) (.cons rfl (LLe.refl _) .nil) .nil rfl rfl, ⟨h1, rfl⟩, by omega⟩
    rw [hnx]
    have e1 : (((f[j].map I).length : Int) == ((g.cls.map eB).length : Int)) = decide (f[j].length = g.cls.length) := by
      rw [List.length_map, List.length_map]
      by_cases h : f[j].length = g.cls.length
      · rw [h]; simp
      · have : ¬ ((f[j].length : Int) = (g.cls.length : Int)) := by omega
        simp [h, this]
    show V.bool (bif (bif B0 then (((f[j].map I).length : Int) == ((g.cls.map eB).length : Int)) else false) then !(f[j].any fun n => decide (n < 0)) else false) = _
    rw [e1]
    unfold rowOk
    cases B0 <;> cases decide (f[j].length = g.cls.length) <;> rfl
  have h1 : j = f.length := by simp at h1; omega
  subst h1
  rw [List.take_length]
  have hmo : (decide ((f.length : Int) = g.a * g.d) && f.all (rowOk g)) = mapOk g f := rfl
  rw [hmo]
  refine Tr.exit (Tr.seq (Tr.seqR rfl (by simp) (Tr.cond rfl rfl (fun h2 => ?_) (fun h2 => Tr.skip ?_))))
  · have h2 : (!mapOk g f) = true := h2
    rw [if_neg (by simpa using h2)]
    exact Tr.seqR rfl (by simp) (Tr.retX rfl rfl rfl rfl trivial)
  have h2 : (!mapOk g f) = false := h2
  have h2 : mapOk g f = true := by simpa using h2
  rw [if_pos h2]
  have kw := c_within k 0 (IntKind.wrap .i64 (((g.cls.map eB).length : Int) - 1))
  have hw1 : IntKind.wrap .i64 (((g.cls.map eB).length : Int) - 1) = (g.cls.length : Int) - 1 := by rw [List.length_map, w64 (by omega) (by omega)]
  refine Tr.seq (Tr.seqC rfl (by simp) (Steps.call rfl rfl kw (Steps.fin rfl (by simp) (Tr.cond rfl rfl (fun h3 => ?_) (fun h3 => Tr.skip ?_)))))
  · have h3 : (!btw k 0 (IntKind.wrap .i64 (((g.cls.map eB).length : Int) - 1))) = true := h3
    rw [hw1] at h3
    rw [if_neg (by simpa using h3)]
    exact Tr.seqR rfl (by simp) (Tr.retX rfl rfl rfl rfl trivial)
  have h3 : (!btw k 0 (IntKind.wrap .i64 (((g.cls.map eB).length : Int) - 1))) = false := h3
  rw [hw1] at h3
  have h3 : btw k 0 ((g.cls.length : Int) - 1) = true := by simpa using h3
  rw [if_pos h3]
  rw [btw_iff] at h3
  obtain ⟨q, rfl⟩ : ∃ q : Nat, k = (q : Int) := ⟨k.toNat, by omega⟩
  have eq2 : ((q : Int)).toNat = q := by omega
  rw [eq2]
  have hqc : q < g.cls.length := by omega
  simp only [mapOk, rowOk, Bool.and_eq_true, decide_eq_true_eq, List.all_eq_true, Bool.not_eq_true', List.any_eq_false, decide_eq_false_iff_not, Bool.not_eq_true, Int.not_lt] at h2
  obtain ⟨hfl, hrow⟩ := h2
  obtain ⟨na, hna⟩ : ∃ n : Nat, g.a = (n : Int) := ⟨g.a.toNat, by omega⟩
  obtain ⟨nd, hnd⟩ : ∃ n : Nat, g.d = (n : Int) := ⟨g.d.toNat, by omega⟩
  have ena : g.a.toNat = na := by omega
  have end' : g.d.toNat = nd := by omega
  have hfl2 : f.length = na * nd := by rw [hna, hnd] at hfl; exact_mod_cast hfl
  refine Tr.seqR rfl (by simp) (Tr.seq (Tr.seqR rfl (by simp) (Tr.block ?_)))
  have hlenB : ∀ j, j ≤ nd → ((List.range j).flatMap fun i => rowB g f q (g.d.toNat - 1 - i) ++ [10]).length = j * (na + 1) := fun j _ => by
    induction j with
    | zero => simp
    | succ j ih => rw [List.range_succ, List.flatMap_append, List.length_append, ih (by omega)]; simp [rowB, ena, Nat.add_mul]
  refine Tr.loop (fun (j : Nat) st => j ≤ nd ∧ st = { env := [(1, foldV f), (2, I (q : Nat)), (3, .ptr 3 0), (12, .slice 92 1 (((List.range j).flatMap fun i => rowB g f q (g.d.toNat - 1 - i) ++ [10]).map byteV)), (13, I ((nd : Int) - 1 - j))], bx := [(3, ⟨gridC g, false⟩)], rw := [(91, ((List.range j).flatMap fun i => rowB g f q (g.d.toNat - 1 - i) ++ [10]).length, 1, 5)], log := [], stp := false }) (fun j => nd - j) 0
    (Wk.le (.cons rfl (.refl _) (.cons rfl (.refl _) (.cons rfl (.refl _) (.cons rfl (.nil 92 1) (.cons rfl (VLe.i ?_) .nil))))) (.cons rfl (LLe.refl _) .nil) (.new rfl .nil) rfl rfl) ⟨Nat.zero_le _, rfl⟩ ?_
  · show IntKind.wrap .i64 (g.d - 1) = _
    rw [w64 (by omega) (by omega), hnd]; simp
  rintro j st ⟨hj, rfl⟩
  have hlj := hlenB j hj
  have hsz : j * (na + 1) ≤ 1000 := by
    have : j * (na + 1) ≤ 16 * 17 := Nat.mul_le_mul (by omega) (by omega)
    omega
  have hnx : ((List.range (j + 1)).flatMap fun i => rowB g f q (g.d.toNat - 1 - i) ++ [10]) = ((List.range j).flatMap fun i => rowB g f q (g.d.toNat - 1 - i) ++ [10]) ++ (rowB g f q (g.d.toNat - 1 - j) ++ [10]) := by
    rw [List.range_succ, List.flatMap_append]; simp
  generalize hpre : ((List.range j).flatMap fun i => rowB g f q (g.d.toNat - 1 - i) ++ [10]) = pre at hlj hnx ⊢
  refine Tr.seq (Tr.seqR rfl (by simp) (Tr.cond rfl rfl (fun h4 => Tr.skip ?_) (fun h4 => Tr.exit ?_)))
  rotate_left
  · have h4 : decide ((nd : Int) - 1 - j ≥ 0) = false := h4
    have h4 : j = nd := by simp at h4; omega
    subst h4
    have hm : mapB g f q = pre := by unfold mapB; rw [← hpre, end']
    rw [hm]
    refine Tr.seq (Tr.reg (Steps.run rfl (by simp) ?_))
    refine Steps.toStr (E := env0 Tryd.prog mixed 107 S ok) (t := 98) (u := 9) (e := 5) (r := 92) (bs := pre) (by kernel_rfl) (by kernel_rfl) (by kernel_rfl) rfl ?_
    exact Steps.fin rfl (by simp) (Tr.retX rfl rfl rfl rfl trivial)
  have h4 : decide ((nd : Int) - 1 - j ≥ 0) = true := h4
  have h4 : j < nd := by simp at h4; omega
  obtain ⟨rr, hrr⟩ : ∃ rr : Nat, rr = nd - 1 - j := ⟨_, rfl⟩
  have hrI : (nd : Int) - 1 - j = (rr : Int) := by omega
  rw [end', ← hrr] at hnx
  rw [hrI]
  refine Tr.seq (Tr.block (Tr.seq (Tr.seqR rfl (by simp) (Tr.block ?_))))
  refine Tr.loop (fun (c : Nat) st => c ≤ na ∧ st = { env := [(1, foldV f), (2, I (q : Nat)), (3, .ptr 3 0), (12, .slice 92 1 ((pre ++ (rowB g f q rr).take c).map byteV)), (13, I (rr : Nat)), (67, I (na : Nat)), (68, I (c : Nat))], bx := [(3, ⟨gridC g, false⟩)], rw := [(91, (pre ++ (rowB g f q rr).take c).length, 1, 5)], log := [], stp := false }) (fun c => na - c) 0
    (Wk.le (.cons rfl (.refl _) (.cons rfl (.refl _) (.cons rfl (.refl _) (.cons rfl (.of_eq ?_) (.cons rfl (.refl _) (.cons rfl (VLe.i hna) (.cons rfl (.refl _) .nil))))))) (.cons rfl (LLe.refl _) .nil) (.cons ?_ .nil) rfl rfl) ⟨Nat.zero_le _, rfl⟩ ?_
  · simp
  · show some _ = some _
    simp
  rintro c st ⟨hc4, rfl⟩
  have hrl : (rowB g f q rr).length = na := by simp [rowB, ena]
  refine Tr.seqR rfl (by simp) (Tr.seqI rfl (fun h5 => ?_) (fun h5 => ?_))
  rotate_left
  · have h5 : c = na := by
      have h5 : decide ((c : Int) < (na : Int)) = false := h5
      simp at h5; omega
    subst h5
    rw [List.take_of_length_le (by omega)]
    refine Tr.exit (Tr.regR rfl (by simp; omega) (Tr.regR rfl (by simp) ?_))
    refine ⟨j + 1, _, Wk.le (.cons rfl (.refl _) (.cons rfl (.refl _) (.cons rfl (.refl _) (.cons rfl (.of_eq ?_) (.cons rfl (VLe.i ?_) .nil))))) (.cons rfl (LLe.refl _) .nil) (.cons ?_ .nil) rfl rfl, ⟨h4, rfl⟩, by omega⟩
    · rw [end', hnx]
      simp [byteV]
    · show IntKind.wrap .i64 ((rr : Int) - 1) = _
      rw [w64 (by omega) (by omega)]; omega
    · show some _ = some _
      rw [end', hnx]
      simp
      omega
  have h5 : c < na := by
    have h5 : decide ((c : Int) < (na : Int)) = true := h5
    simpa using h5
  have hix : rr * na + c < f.length := by
    rw [hfl2]
    have : rr * na + na ≤ na * nd := by
      have : (rr + 1) * na ≤ nd * na := Nat.mul_le_mul_right _ (by omega)
      rw [Nat.mul_comm na nd, ← Nat.succ_mul]; exact this
    omega
  have hbig : rr * na + c ≤ 256 := by
    have h6 : f.length ≤ 256 := by omega
    omega
  have hidx : IntKind.wrap .i64 (IntKind.wrap .i64 ((rr : Int) * g.a) + c) = ((rr * na + c : Nat) : Int) := by
    have e1 : (rr : Int) * g.a = ((rr * na : Nat) : Int) := by rw [hna]; push_cast; rfl
    rw [e1, w64 (n := ((rr * na : Nat) : Int)) (by omega) (by omega), w64 (by omega) (by omega)]; push_cast; rfl
  have hql : q < f[rr * na + c].length := by
    have := (hrow _ (List.getElem_mem hix)).1
    omega
  have hv0 := (hrow _ (List.getElem_mem hix)).2 _ (List.getElem_mem hql)
  have hat : at2 f (rr * na + c) q = f[rr * na + c][q] := by simp [at2, hix, hql]
  have hch : (rowB g f q rr)[c]'(by omega) = charB f[rr * na + c][q] := by simp [rowB, ena, hat]
  have hst : pre ++ (rowB g f q rr).take (c + 1) = (pre ++ (rowB g f q rr).take c) ++ [charB f[rr * na + c][q]] := by
    rw [List.take_add_one, List.getElem?_eq_getElem (by omega), hch]; simp
  have hpl : (pre ++ (rowB g f q rr).take c).length ≤ 1100 := by
    rw [List.length_append, List.length_take]; omega
  generalize pre ++ (rowB g f q rr).take c = P at hst hpl ⊢
  obtain ⟨v, hv⟩ : ∃ v, f[rr * na + c][q] = v := ⟨_, rfl⟩
  refine Tr.skipT (Tr.meet { env := [(1, foldV f), (2, I (q : Nat)), (3, .ptr 3 0), (12, .slice 92 1 ((P ++ [charB v]).map byteV)), (13, I (rr : Nat)), (67, I (na : Nat)), (68, I (c : Nat))], bx := [(3, ⟨gridC g, false⟩)], rw := [(91, (P ++ [charB v]).length, 1, 5)], log := [], stp := false } (Tr.block (Tr.seqR rfl (by simp) ?_)) (Tr.regR rfl (by simp) ?_))
  rotate_left
  · refine ⟨c + 1, _, Wk.le (.cons rfl (.refl _) (.cons rfl (.refl _) (.cons rfl (.refl _) (.cons rfl (.of_eq (by rw [hst, hv])) (.cons rfl (.refl _) (.cons rfl (.refl _) (.cons rfl (VLe.i (w64 (by omega) (by omega))) .nil))))))) (.cons rfl (LLe.refl _) .nil) (.cons (by rw [hst, hv]; rfl) .nil) rfl rfl, ⟨h5, rfl⟩, by omega⟩
  have hcv : ∀ z : Int, P.length + 1 ≤ 2 ^ 47 → (charB v).toNat = z → (P ++ [charB v]).map byteV = P.map byteV ++ [.int .u8 z] := fun z _ h => by
    rw [List.map_append]
    congr 1
    show [V.int .u8 ((charB v).toNat : Int)] = _
    rw [h]
  refine Tr.seq (Tr.reg (Steps.runN 8 rfl (by simp [hidx]; omega) ?_))
  rw [hidx, getD_map hix]
  refine Steps.runN 3 rfl (by simp; omega) ?_
  rw [getD_map hql, hv]
  refine Steps.fin rfl (by simp) (Tr.block ?_)
  rw [hv] at hv0
  refine Tr.seqR rfl (by simp) (Tr.cond rfl rfl (fun h6 => ?_) (fun h6 => ?_))
  · have h6 : (v == 0) = true := h6
    have h6 : v = 0 := by simpa using h6
    refine Tr.regR rfl (by simp; omega) ?_
    refine Wk.le (.cons rfl (.refl _) (.cons rfl (.refl _) (.cons rfl (.refl _) (.cons rfl (.of_eq ?_) (.cons rfl (.refl _) (.cons rfl (.refl _) (.cons rfl (.refl _) .nil))))))) (.cons rfl (LLe.refl _) .nil) (.cons ?_ .nil) rfl rfl
    · rw [hcv 46 (by omega) (by rw [h6]; rfl)]
    · show some _ = some _
      simp
  have h6 : (v == 0) = false := h6
  have h6 : v ≠ 0 := by simpa using h6
  refine Tr.seqR rfl (by simp) (Tr.cond rfl rfl (fun h7 => ?_) (fun h7 => ?_))
  · have h7 : decide (v ≤ 9) = true := h7
    have h7 : v ≤ 9 := by simpa using h7
    refine Tr.regR rfl (by simp; omega) ?_
    refine Wk.le (.cons rfl (.refl _) (.cons rfl (.refl _) (.cons rfl (.refl _) (.cons rfl (.of_eq ?_) (.cons rfl (.refl _) (.cons rfl (.refl _) (.cons rfl (.refl _) .nil))))))) (.cons rfl (LLe.refl _) .nil) (.cons ?_ .nil) rfl rfl
    · rw [hcv (IntKind.wrap .u8 (IntKind.wrap .i64 (48 + v))) (by omega) (by
        have h8 : v = 1 ∨ v = 2 ∨ v = 3 ∨ v = 4 ∨ v = 5 ∨ v = 6 ∨ v = 7 ∨ v = 8 ∨ v = 9 := by omega
        rcases h8 with rfl | rfl | rfl | rfl | rfl | rfl | rfl | rfl | rfl <;> rfl)]
    · show some _ = some _
      simp
  · have h7 : decide (v ≤ 9) = false := h7
    have h7 : ¬ v ≤ 9 := by simpa using h7
    refine Tr.regR rfl (by simp; omega) ?_
    refine Wk.le (.cons rfl (.refl _) (.cons rfl (.refl _) (.cons rfl (.refl _) (.cons rfl (.of_eq ?_) (.cons rfl (.refl _) (.cons rfl (.refl _) (.cons rfl (.refl _) .nil))))))) (.cons rfl (LLe.refl _) .nil) (.cons ?_ .nil) rfl rfl
    · rw [hcv 43 (by omega) (by unfold charB; rw [if_neg h6, if_neg h7]; rfl)]
    · show some _ = some _
      simp

end Go.Proofs.YtdejdblopmfjfaaDoor


/-! The sort of cells: the kit's contract of slices.SortFunc, laid at this program (the laying is printed by wip/tools/lay_sort.sh); what it is to compare two cells. -/
set_option linter.unusedVariables false
set_option linter.unusedSimpArgs false
set_option maxRecDepth 100000
set_option maxHeartbeats 4000000
namespace Go.Proofs.YtdejdblopmfjfaaDoor
open Go.Shelf Go.Proofs Go.RowKit Go.Lib Go.Sort

def Tryd.sortCell_ren : Go.Shelf.Ren := ⟨fun | 6 => 31 | 15 => 53 | 14 => 52 | 28 => 74 | 29 => 75 | 20 => 66 | 21 => 67 | 22 => 68 | 23 => 69 | 24 => 70 | 25 => 71 | 26 => 72 | 27 => 73 | 46 => 81 | 47 => 82 | 48 => 83 | 49 => 84 | 50 => 85 | 57 => 87 | n => n, fun | 22 => 38 | 24 => 42 | 25 => 88 | 3 => 3 | 39 => 118 | 0 => 0 | 53 => 143 | 55 => 145 | 4 => 4 | 46 => 137 | 45 => 136 | 50 => 104 | 5 => 5 | 9 => 9 | 66 => 150 | 70 => 154 | 76 => 156 | 77 => 157 | n => n, fun | n => n⟩
theorem Tryd.sortCell : Go.Proofs.SlLaysF0.n6 Tryd.prog Tryd.sortCell_ren := {
  mixed := by kernel_rfl,
  f6 := ⟨Tryd.f31.name, by decide, Tryd.func31.trans (congrArg some (by kernel_rfl))⟩,
  f14 := ⟨Tryd.f52.name, by decide, Tryd.func52.trans (congrArg some (by kernel_rfl))⟩,
  f15 := Tryd.func53.trans (congrArg some (by kernel_rfl)),
  f20 := ⟨Tryd.f66.name, by decide, Tryd.func66.trans (congrArg some (by kernel_rfl))⟩,
  f21 := ⟨Tryd.f67.name, by decide, Tryd.func67.trans (congrArg some (by kernel_rfl))⟩,
  f22 := ⟨Tryd.f68.name, by decide, Tryd.func68.trans (congrArg some (by kernel_rfl))⟩,
  f23 := ⟨Tryd.f69.name, by decide, Tryd.func69.trans (congrArg some (by kernel_rfl))⟩,
  f24 := ⟨Tryd.f70.name, by decide, Tryd.func70.trans (congrArg some (by kernel_rfl))⟩,
  f25 := ⟨Tryd.f71.name, by decide, Tryd.func71.trans (congrArg some (by kernel_rfl))⟩,
  f26 := ⟨Tryd.f72.name, by decide, Tryd.func72.trans (congrArg some (by kernel_rfl))⟩,
  f27 := ⟨Tryd.f73.name, by decide, Tryd.func73.trans (congrArg some (by kernel_rfl))⟩,
  f28 := Tryd.func74.trans (congrArg some (by kernel_rfl)),
  f29 := Tryd.func75.trans (congrArg some (by kernel_rfl)),
  f46 := ⟨Tryd.f81.name, by decide, Tryd.func81.trans (congrArg some (by kernel_rfl))⟩,
  f47 := Tryd.func82.trans (congrArg some (by kernel_rfl)),
  f48 := Tryd.func83.trans (congrArg some (by kernel_rfl)),
  f49 := ⟨Tryd.f84.name, by decide, Tryd.func84.trans (congrArg some (by kernel_rfl))⟩,
  f50 := ⟨Tryd.f85.name, by decide, Tryd.func85.trans (congrArg some (by kernel_rfl))⟩,
  f57 := ⟨Tryd.f87.name, by decide, Tryd.func87.trans (congrArg some (by kernel_rfl))⟩,
  t0 := Tryd.underlying0,
  a0 := Tryd.isAgg0,
  z0 := Tryd.sizeOf0,
  v0 := Tryd.zeroValue0,
  t3 := Tryd.underlying3,
  a3 := Tryd.isAgg3,
  z3 := Tryd.sizeOf3,
  v3 := Tryd.zeroValue3,
  t4 := Tryd.underlying4,
  a4 := Tryd.isAgg4,
  z4 := Tryd.sizeOf4,
  v4 := Tryd.zeroValue4,
  t5 := Tryd.underlying5,
  a5 := Tryd.isAgg5,
  z5 := Tryd.sizeOf5,
  v5 := Tryd.zeroValue5,
  t9 := Tryd.underlying9,
  a9 := Tryd.isAgg9,
  z9 := Tryd.sizeOf9,
  v9 := Tryd.zeroValue9,
  t22 := Tryd.underlying38,
  a22 := Tryd.isAgg38,
  z22 := Tryd.sizeOf38,
  v22 := Tryd.zeroValue38,
  t25 := Tryd.underlying88,
  a25 := Tryd.isAgg88,
  z25 := Tryd.sizeOf88,
  v25 := Tryd.zeroValue88,
  t39 := Tryd.underlying118,
  a39 := Tryd.isAgg118,
  z39 := Tryd.sizeOf118,
  v39 := Tryd.zeroValue118,
  t45 := Tryd.underlying136,
  a45 := Tryd.isAgg136,
  z45 := Tryd.sizeOf136,
  v45 := Tryd.zeroValue136,
  t46 := Tryd.underlying137,
  a46 := Tryd.isAgg137,
  z46 := Tryd.sizeOf137,
  v46 := Tryd.zeroValue137,
  t50 := Tryd.underlying104,
  a50 := Tryd.isAgg104,
  z50 := Tryd.sizeOf104,
  v50 := Tryd.zeroValue104,
  t53 := Tryd.underlying143,
  a53 := Tryd.isAgg143,
  z53 := Tryd.sizeOf143,
  v53 := Tryd.zeroValue143,
  t55 := Tryd.underlying145,
  a55 := Tryd.isAgg145,
  z55 := Tryd.sizeOf145,
  v55 := Tryd.zeroValue145,
  t66 := Tryd.underlying150,
  a66 := Tryd.isAgg150,
  z66 := Tryd.sizeOf150,
  v66 := Tryd.zeroValue150,
  t70 := Tryd.underlying154,
  a70 := Tryd.isAgg154,
  z70 := Tryd.sizeOf154,
  v70 := Tryd.zeroValue154,
  t76 := Tryd.underlying156,
  a76 := Tryd.isAgg156,
  z76 := Tryd.sizeOf156,
  v76 := Tryd.zeroValue156,
  t77 := Tryd.underlying157,
  a77 := Tryd.isAgg157,
  z77 := Tryd.sizeOf157,
  v77 := Tryd.zeroValue157 }

/-- Cells, as they occur: bins from -1 to 1022, classes from -1 to 14. -/
abbrev SC := Fin 1024 × Fin 16
def scB (x : SC) : Int × Int := ((x.1.val : Int) - 1, (x.2.val : Int) - 1)
def encSC (x : SC) : List Value := [.int .i64 (scB x).1, .int .i64 (scB x).2]
def cfSC (x y : SC) : Int := if (scB x).1 ≠ (scB y).1 then (scB x).1 - (scB y).1 else (scB x).2 - (scB y).2

theorem swoSC : Go.Sort.SWO (ltOf cfSC) where
  irrefl x := by unfold ltOf cfSC; simp
  trans x y z h1 h2 := by
    unfold ltOf cfSC at *
    simp only [decide_eq_true_eq, ne_eq, ite_not] at *
    split at h1 <;> split at h2 <;> split <;> omega
  ntrans x y z h1 h2 := by
    unfold ltOf cfSC at *
    simp only [decide_eq_false_iff_not, ne_eq, ite_not] at *
    split at h1 <;> split at h2 <;> split <;> omega

theorem ordered_walk (x y : SC) (W : World) : Calls Tryd.prog 32 #[.agg #[.int .i64 (scB x).1, .int .i64 (scB x).2], .agg #[.int .i64 (scB y).1, .int .i64 (scB y).2]] W fun e w' => e = .returned (.int .i64 (cfSC x y)) ∧ ∃ q os', w' = grow (W.drewN q) os' := by
  have b1 : -1 ≤ (scB x).1 ∧ (scB x).1 ≤ 1022 := by unfold scB; omega
  have b2 : -1 ≤ (scB x).2 ∧ (scB x).2 ≤ 14 := by unfold scB; omega
  have b3 : -1 ≤ (scB y).1 ∧ (scB y).1 ≤ 1022 := by unfold scB; omega
  have b4 : -1 ≤ (scB y).2 ∧ (scB y).2 ≤ 14 := by unfold scB; omega
  unfold cfSC
  generalize (scB x).1 = a at *
  generalize (scB x).2 = b at *
  generalize (scB y).1 = c at *
  generalize (scB y).2 = d at *
  by_cases h : a ≠ c
  · rw [if_pos h]
    go_enter Tryd.func32, Tryd.ntmps32
    go_wp2
    all_goals (try (go_ret; exact ⟨rfl, 0, _, by rw [alloc_eq_grow, alloc_eq_grow, grow_grow]; rfl⟩))
    all_goals (rename_i h2; exfalso; simp at h2; exact h h2)
  · rw [if_neg h]
    have h : a = c := by simpa using h
    subst h
    go_enter Tryd.func32, Tryd.ntmps32
    go_wp2
    all_goals (try (go_ret; exact ⟨rfl, 0, _, by rw [alloc_eq_grow, alloc_eq_grow, grow_grow]; rfl⟩))
    all_goals (rename_i h2; exfalso; simp at h2)

theorem cmpLays (blk off size : Nat) (w : World) : CmpLays Tryd.prog 32 #[] encSC 2 cfSC blk off size w :=
  fun _ _ _ _ x y => ordered_walk x y _

/-- The sort of a row of cells. -/
theorem sort_cells (blk off cap : Nat) (d : Array SC) (w : World) (hH : HoldsK encSC 2 w blk off d) (hblk : blk < w.heap.size) (hsz : d.size < 4611686018427387904) :
    Calls Tryd.prog 31 #[.slice (some ⟨blk, off, none⟩) d.size cap, .func (.func 32) #[] #[]] w fun e w' => e = .returned (.tuple #[]) ∧ ∃ d' n os, PermIn 0 d.size d d' ∧ SortedIn (ltOf cfSC) 0 d.size d' ∧ w' = sortWorldK encSC 2 w blk off n d' os := by
  have eg : ∀ args w, (callFunc 32 args).run Tryd.prog w = .ok (.enter 32 args) w := enters_of Tryd.func32 (by kernel_rfl) rfl
  have hcon := AnyQ.slices_SortFunc Tryd.sortCell 2 Tryd.isAgg42 Tryd.sizeOf42 encSC (fun _ => rfl) (fun x v hv => by simp [encSC] at hv; rcases hv with rfl | rfl <;> rfl) cfSC swoSC 32 #[] blk off cap d w eg (cmpLays blk off d.size w) hH hblk hsz
  exact hcon

end Go.Proofs.YtdejdblopmfjfaaDoor


/-! AM, part Zn: slices that grow in an arena. -/
set_option linter.unusedVariables false
set_option linter.unusedSimpArgs false
namespace Go.Am
open Go.RowKit

/-- A slice of an arena: it holds these, and there may be room behind them. -/
def OwnS (A : Arena) (sz : Nat) (xs : List V) (v : V) : Prop :=
  (xs = [] ∧ v = .nils) ∨ ∃ (blk cap : Nat) (cs : List V), v = .sref blk 0 xs.length cap ∧ (blk, Ob.cells cs) ∈ A ∧ cs.length = cap * sz ∧ xs.length ≤ cap ∧ cs.take (xs.length * sz) = xs.flatMap cells

/-- A block that is not this slice's. -/
def offS (v : V) (b : Nat) : Prop := ∀ blk off n cap, v = .sref blk off n cap → b ≠ blk

theorem ownS_refs {A : Arena} {sz : Nat} {xs : List V} {v : V} (h : OwnS A sz xs v) (B : Nat → Bool) (R : Nat → Option (Nat × Nat × Nat)) (n : Nat) : refsOk B R (n + 1) v = true := by
  rcases h with ⟨_, rfl⟩ | ⟨_, _, _, rfl, _⟩ <;> rfl

/-- A type's zero value, as data. -/
def zeroOf (P : Program) (e : Nat) : Option (List V) := match P.info? e with
  | some i => match i.zero with
    | some z => ofScs z.cells.toList
    | none => none
  | none => none

section
variable {E : Env} {S0 : Sur} {l0 : List (List V)} {s0 : Bool} {A : Arena}

theorem zero_rep {w : World} {φ : Nat → Nat} {z : Value} {zs : List V} (hz : ofScs z.cells.toList = some zs) (k : Nat) : (List.replicate k zs).flatten.length = (Builtin.zeroCells z.cells k).size ∧ ∀ (j : Nat) v x, (List.replicate k zs).flatten[j]? = some v → (Builtin.zeroCells z.cells k)[j]? = some x → RepD w φ v x ∧ scalar v = true := by
  obtain ⟨h1, h2⟩ := ofScs_rep (w := w) (φ := φ) hz
  have hl : zs.length = z.cells.size := by simpa using h1
  have hsz : (Builtin.zeroCells z.cells k).size = k * z.cells.size := by simp [Builtin.zeroCells]
  have hfl : ∀ k, (List.replicate k zs).flatten.length = k * zs.length := fun k => by simp
  refine ⟨by rw [hfl, hsz, hl], fun j v x hv hx => ?_⟩
  have hj : j < k * zs.length := by rw [← hfl]; exact (List.getElem?_eq_some_iff.1 hv).1
  have hpos : 0 < zs.length := by
    rcases Nat.eq_zero_or_pos zs.length with h | h
    · rw [h] at hj; simp at hj
    · exact h
  have key : ∀ (k j : Nat), j < k * zs.length → (List.replicate k zs).flatten[j]? = zs[j % zs.length]? := by
    intro k
    induction k with
    | zero => intro j hj; simp at hj
    | succ k ih =>
      intro j hj
      rw [List.replicate_succ, List.flatten_cons, List.getElem?_append]
      split
      · rename_i h; rw [Nat.mod_eq_of_lt h]
      · rename_i h
        rw [ih (j - zs.length) (by rw [Nat.add_mul] at hj; omega)]
        congr 1
        rw [← Nat.mod_eq_sub_mod (by omega)]
  rw [key k j hj] at hv
  have hx' : x = z.cells[j % z.cells.size]! := by
    unfold Builtin.zeroCells at hx
    rw [Array.getElem?_map] at hx
    rw [← hl] at hx ⊢
    simp [hj] at hx
    exact hx.symm
  have hm : j % zs.length < z.cells.size := by rw [← hl]; exact Nat.mod_lt _ hpos
  refine h2 (j % zs.length) v x hv ?_
  rw [hx', ← hl]
  simp [hm]

theorem opK_app {P : Program} {o : Oper} {os : List Operand} {sz bytes e : Nat} (hk : opK P o.op = some (.append sz bytes e, os)) : ∃ c p q t ie z, o.op = .call c ∧ c.callee = .builtin .append ∧ c.args.toList = [p, q] ∧ c.argTypes.toList = [t, t] ∧ P.underlying t = some (.slice e) ∧ P.info? e = some ie ∧ ie.zero = some z ∧ z.cells.size = ie.size ∧ ie.size = sz ∧ ie.bytes = bytes ∧ os = [p, q] := opK_append hk

/-- What is appended, as cells. -/
theorem app_news {σ : FSt} {h : Gh} {w : World} {sz : Nat} {ys : List V} {y : Value} {r : Nat} (hv : Ok σ h w (.slice r sz ys) y) (hne : ys ≠ []) :
    ∃ (a : Addr) (cap : Nat) (news : List Value), y = .slice (some a) ys.length cap ∧ news.length = ys.length * sz ∧ (ys.flatMap cells).length = ys.length * sz ∧ (∀ j u, news[j]? = some u → w.cell? (a.add j) = some u) ∧ (∀ u ∈ news, u.oneCell' = true) ∧ ∀ (j : Nat) v x, (ys.flatMap cells)[j]? = some v → news[j]? = some x → RepD w h.φ v x ∧ scalar v = true := by
  rcases slice_at (ok_slice hv) with ⟨_, e0⟩ | ⟨yb, yo, ycap, cvy, rfl, _, _, hys, ay⟩
  · exact absurd e0 hne
  have ylen := flat_len hys
  have nget : ∀ j, j < ys.length * sz → ((List.range (ys.length * sz)).map cvy)[j]? = some (cvy j) := fun j hj => by simp [hj]
  refine ⟨_, _, (List.range (ys.length * sz)).map cvy, rfl, by simp, ylen, fun j u hu => ?_, fun u hu => ?_, fun j v x hv hx => ?_⟩
  · have hj : j < ys.length * sz := by have := (List.getElem?_eq_some_iff.1 hu).1; simpa using this
    rw [nget j hj] at hu
    cases hu
    rw [Addr.add_lit]
    exact (ay j _ (List.getElem?_eq_getElem (by omega))).2.1
  · obtain ⟨j, hj⟩ := List.getElem?_of_mem hu
    have hlt : j < ys.length * sz := by have := (List.getElem?_eq_some_iff.1 hj).1; simpa using this
    rw [nget j hlt] at hj
    cases hj
    obtain ⟨_, _, k3, k4⟩ := ay j _ (List.getElem?_eq_getElem (by omega))
    exact (scalar_value (Rep.data (β := h.β) (y := h.y.l) k3) k4).1
  · have hlt : j < ys.length * sz := by have := (List.getElem?_eq_some_iff.1 hx).1; simpa using this
    rw [nget j hlt] at hx
    cases hx
    exact ⟨(ay j v hv).2.2.1, (ay j v hv).2.2.2⟩

/-- An append to nothing. -/
theorem Steps.appendA0 (hE : InA E S0 l0 s0) {K : St → Prop} {s : St} {d : Nat} {x y : X} {sz bytes e r : Nat} {ys zs : List V} {rest : List Ins} (hx : evXs s.env [x, y] = some [.nils, .slice r sz ys]) (hl : s.log = encA A) (hz0 : zeroOf E.P e = some zs) (h0 : 0 < sz) (hb : ys.length * bytes ≤ 2 ^ 47) (hm : ys.length ≤ 2 ^ 47) (hne : ys ≠ [])
    (hk : ∀ blk cap A', OwnS A' sz ys (.sref blk 0 ys.length cap) → (∀ p ∈ A, p ∈ A' ∧ p.1 ≠ blk) → Steps E rest K { s.put (some d) (.sref blk 0 ys.length cap) with log := encA A' }) : Steps E (⟨some d, .append sz bytes e, [x, y], none⟩ :: rest) K s := by
  refine Step1.raw fun slots ops o i ro n a w h hc hs hi R Q next hn => ?_
  obtain ⟨os, cc⟩ := comp_of hc
  obtain ⟨c, p, q, t, ie, z, ho, hcal, hca, hct, ht, hie, hz, hzs, rfl, rfl, rfl⟩ := opK_app cc.op
  obtain ⟨u, v, huv, hu, hv'⟩ := (opds_of R.1 cc.xs (evXs_ok hx)).two
  cases huv
  have hzs0 : ofScs z.cells.toList = some zs := by unfold zeroOf at hz0; rw [hie] at hz0; simp only [hz] at hz0; exact hz0
  obtain ⟨ad, cp, news, ey, nl, fl, ncell, none1, nrep⟩ := app_news hv' hne
  have hpos : 0 < ys.length := List.length_pos_iff.2 hne
  have ea : c.args = #[p, q] := by rw [← Array.toList_inj]; simpa using hca
  have et : c.argTypes = #[t, t] := by rw [← Array.toList_inj]; simpa using hct
  have hrun := run_append_nil (P := E.P) w t o.type e ie z ht hie hz ad ys.length cp news nl ncell hpos (by omega) (by omega)
  have hge := grownCap_ge w ys.length 0 e
  obtain ⟨g, hg⟩ : ∃ g, grownCap w ys.length 0 e = g := ⟨_, rfl⟩
  rw [hg] at hrun hge
  have hex : (execOp a.eval o).run E.P w = .ok (.value (.slice (some ⟨w.heap.size, 0, none⟩) ys.length g)) (w.drew.alloc (.cells (news.toArray ++ Builtin.zeroCells z.cells (g - ys.length)) e)) := by
    simp only [execOp, ho, resolve, hcal, ea, et, Sem.run_bind, Sem.run_pure, Result.andThen_ok, invoke, builtin]
    simp [ok_nils hu, ey, hrun]
  have R' : E.relF (encA A) s.stp s.fs a w h := by rw [← hl]; exact R
  have R1 := relF_drew R'
  have zr := zero_rep (w := w.drew.alloc (.cells (news.toArray ++ Builtin.zeroCells z.cells (g - ys.length)) e)) (φ := h.φ) hzs0 (g - ys.length)
  have hcl : (ys.flatMap cells ++ (List.replicate (g - ys.length) zs).flatten).length = g * ie.size := by
    have h1 : zs.length = ie.size := by have := (ofScs_rep (w := w) (φ := h.φ) hzs0).1; simp at this; omega
    rw [List.length_append, fl]
    simp only [List.length_flatten, List.map_replicate, List.sum_replicate_nat, h1]
    rw [← Nat.add_mul]; congr 1; omega
  obtain ⟨R2, hnm⟩ := hE.fresh R1 (.cells (news.toArray ++ Builtin.zeroCells z.cells (g - ys.length)) e) (.cells (ys.flatMap cells ++ (List.replicate (g - ys.length) zs).flatten)) (fun ext => ⟨_, e, heap_alloc_new w.drew _, by rw [Array.size_append, List.length_append, zr.1]; simp [nl, fl], fun j v x hv hx => by
    rw [List.getElem?_append] at hv
    rw [Array.getElem?_append] at hx
    simp only [List.size_toArray, nl] at hx
    rw [fl] at hv
    by_cases hj : j < ys.length * ie.size
    · rw [if_pos hj] at hv hx
      simp only [List.getElem?_toArray] at hx
      have := nrep j v x hv hx
      exact ⟨this.1.mono (Ext.trans (fun _ _ ho => ⟨ho, rfl, rfl⟩) ext), this.2⟩
    · rw [if_neg hj] at hv hx
      exact zr.2 _ v x hv hx⟩)
  refine wpOp_done hi (wanted_none (guard_none cc rfl)) (opK_defer cc.op) (.inl hex) (hn _ _ _ h (hk w.heap.size g _ (.inr ⟨w.heap.size, g, _, rfl, by simp, hcl, hge, ?_⟩) fun p hp => ⟨List.mem_cons_of_mem _ hp, fun e => hnm (List.mem_map.2 ⟨p, hp, e⟩)⟩) (rel_putA cc R2 (.data (.sref _ _ _ _)) rfl) rfl)
  rw [← fl, List.take_left]

/-- An append to a slice of the arena. -/
theorem Steps.appendA (hE : InA E S0 l0 s0) {K : St → Prop} {s : St} {d : Nat} {x y : X} {sz bytes e r blk cap : Nat} {xs ys zs : List V} {rest : List Ins} (hx : evXs s.env [x, y] = some [.sref blk 0 xs.length cap, .slice r sz ys]) (hl : s.log = encA A) (hO : OwnS A sz xs (.sref blk 0 xs.length cap)) (hz0 : zeroOf E.P e = some zs) (h0 : 0 < sz) (hb : (xs.length + ys.length) * bytes ≤ 2 ^ 47) (hm : xs.length + ys.length ≤ 2 ^ 47) (hne : ys ≠ [])
    (hk : ∀ blk' cap' A', OwnS A' sz (xs ++ ys) (.sref blk' 0 (xs ++ ys).length cap') → (∀ p ∈ A, p.1 ≠ blk → p ∈ A' ∧ p.1 ≠ blk') → Steps E rest K { s.put (some d) (.sref blk' 0 (xs ++ ys).length cap') with log := encA A' }) : Steps E (⟨some d, .append sz bytes e, [x, y], none⟩ :: rest) K s := by
  refine Step1.raw fun slots ops o i ro n a w h hc hs hi R Q next hn => ?_
  obtain ⟨os, cc⟩ := comp_of hc
  obtain ⟨c, p, q, t, ie, z, ho, hcal, hca, hct, ht, hie, hz, hzs, rfl, rfl, rfl⟩ := opK_app cc.op
  obtain ⟨u, v, huv, hu, hv'⟩ := (opds_of R.1 cc.xs (evXs_ok hx)).two
  cases huv
  obtain ⟨cs, hA, hcs, hcap, htk⟩ : ∃ cs, (blk, Ob.cells cs) ∈ A ∧ cs.length = cap * ie.size ∧ xs.length ≤ cap ∧ cs.take (xs.length * ie.size) = xs.flatMap cells := by
    rcases hO with ⟨_, h⟩ | ⟨b', c', cs, e1, e2, e3, e4, e5⟩
    · cases h
    · cases e1; exact ⟨cs, e2, e3, e4, e5⟩
  have hzs0 : ofScs z.cells.toList = some zs := by unfold zeroOf at hz0; rw [hie] at hz0; simp only [hz] at hz0; exact hz0
  obtain ⟨ad, cp, news, ey, nl, fl, ncell, none1, nrep⟩ := app_news hv' hne
  have hpos : 0 < ys.length := List.length_pos_iff.2 hne
  have ea : c.args = #[p, q] := by rw [← Array.toList_inj]; simpa using hca
  have et : c.argTypes = #[t, t] := by rw [← Array.toList_inj]; simpa using hct
  have ep := ok_sref hu
  have R' : E.relF (encA A) s.stp s.fs a w h := by rw [← hl]; exact R
  obtain ⟨vs, vt, w1, w2, w3⟩ := (hE.ar R').ok _ hA
  have hxl : xs.length * ie.size ≤ cs.length := by rw [hcs]; exact Nat.mul_le_mul_right _ hcap
  have fxl : (xs.flatMap cells).length = xs.length * ie.size := by rw [← htk, List.length_take]; omega
  have hfl2 : ((xs ++ ys).flatMap cells).length = (xs ++ ys).length * ie.size := by rw [List.flatMap_append, List.length_append, fxl, fl, List.length_append, Nat.add_mul]
  by_cases hroom : xs.length + ys.length ≤ cap
  · -- there is room
    have hin : 0 + xs.length * ie.size + news.length ≤ vs.size := by
      refine Nat.le_trans ?_ w2
      rw [hcs, nl, Nat.zero_add, ← Nat.add_mul]; exact Nat.mul_le_mul_right _ hroom
    have hst := run_storeCells_at E.P blk (0 + xs.length * ie.size) vt news 0 vs w w1 (by simpa using hin) none1
    simp only [Nat.add_zero] at hst
    have hfc := run_firstCells_some (P := E.P) w ie.size ys.length ad ys.length cp news nl ncell
    have hrun : (Builtin.append_ #[t, t] o.type #[.slice (some ⟨blk, 0, none⟩) xs.length cap, .slice (some ad) ys.length cp]).run E.P w = .ok (.slice (some ⟨blk, 0, none⟩) (xs.length + ys.length) cap) (w.setRow blk (vs.toList.take (0 + xs.length * ie.size) ++ news ++ vs.toList.drop (0 + xs.length * ie.size + news.length)).toArray) := by
      simp [Builtin.append_, run_underlying ht, sizeOf, typeInfo, hie, Builtin.lenOf, hroom, hfc, Addr.add_lit]
      simp only [Nat.zero_add] at hst
      rw [hst]
      simp
    have hex : (execOp a.eval o).run E.P w = .ok (.value (.slice (some ⟨blk, 0, none⟩) (xs.length + ys.length) cap)) (w.setRow blk (vs.toList.take (0 + xs.length * ie.size) ++ news ++ vs.toList.drop (0 + xs.length * ie.size + news.length)).toArray) := by
      simp only [execOp, ho, resolve, hcal, ea, et, Sem.run_bind, Sem.run_pure, Result.andThen_ok, invoke, builtin]
      simp only [List.map_toArray, List.map_cons, List.map_nil, ep, ey, hrun]
      rfl
    have hsl : (vs.toList.take (0 + xs.length * ie.size) ++ news ++ vs.toList.drop (0 + xs.length * ie.size + news.length)).length = vs.size := by simp; omega
    have R2 := hE.turn R' hA (.cells (cs.take (xs.length * ie.size) ++ ys.flatMap cells ++ cs.drop (xs.length * ie.size + ys.length * ie.size))) (w' := w.setRow blk (vs.toList.take (0 + xs.length * ie.size) ++ news ++ vs.toList.drop (0 + xs.length * ie.size + news.length)).toArray)
      (fun k hk => setRow_other w blk k _ hk) (by simp) rfl rfl rfl (fun ext => ⟨_, vt, setRow_heap w blk vs _ vt (0, 0) w1, by simp [fl, nl]; omega, fun j v x hv hx => by
        rw [List.getElem?_toArray] at hx
        rw [List.append_assoc, List.getElem?_append] at hv hx
        have l1 : (cs.take (xs.length * ie.size)).length = xs.length * ie.size := by rw [List.length_take]; omega
        have l2 : (vs.toList.take (0 + xs.length * ie.size)).length = xs.length * ie.size := by rw [List.length_take]; simp; omega
        rw [l1] at hv
        rw [l2] at hx
        by_cases hj : j < xs.length * ie.size
        · rw [if_pos hj, List.getElem?_take_of_lt hj] at hv
          rw [if_pos hj, List.getElem?_take_of_lt (by omega)] at hx
          have := w3 j v x hv (by simpa using hx)
          exact ⟨this.1.mono ext, this.2⟩
        · rw [if_neg hj, List.getElem?_append] at hv hx
          rw [fl] at hv
          rw [nl] at hx
          by_cases hj2 : j - xs.length * ie.size < ys.length * ie.size
          · rw [if_pos hj2] at hv hx
            have := nrep _ v x hv hx
            exact ⟨this.1.mono ext, this.2⟩
          · rw [if_neg hj2, List.getElem?_drop] at hv hx
            have := w3 _ v x hv (by rw [← hx]; simp [nl])
            exact ⟨this.1.mono ext, this.2⟩⟩)
    have own : OwnS (setA A blk (.cells (cs.take (xs.length * ie.size) ++ ys.flatMap cells ++ cs.drop (xs.length * ie.size + ys.length * ie.size)))) ie.size (xs ++ ys) (.sref blk 0 (xs ++ ys).length cap) := by
      refine .inr ⟨blk, cap, cs.take (xs.length * ie.size) ++ ys.flatMap cells ++ cs.drop (xs.length * ie.size + ys.length * ie.size), rfl, ?_, ?_, ?_, ?_⟩
      · exact List.mem_map.2 ⟨_, hA, by simp⟩
      · have : (xs.length + ys.length) * ie.size ≤ cap * ie.size := Nat.mul_le_mul_right _ hroom
        rw [Nat.add_mul] at this
        simp [fl]; omega
      · simpa using hroom
      · rw [List.length_append, Nat.add_mul, List.flatMap_append, ← htk]
        rw [List.take_append_of_le_length (by rw [List.length_append, List.length_take, fl]; omega), List.take_of_length_le (by rw [List.length_append, List.length_take, fl]; omega)]
    refine wpOp_done hi (wanted_none (guard_none cc rfl)) (opK_defer cc.op) (.inl hex) (hn _ _ _ h (hk blk cap _ own fun p hp hne => ⟨List.mem_map.2 ⟨p, hp, by rw [if_neg hne]⟩, hne⟩) (rel_putA cc R2 (by rw [List.length_append]; exact ⟨.data (.sref _ _ _ _), GrowV.of_data (w0 := w) (φ0 := h.φ) (.sref _ _ _ _)⟩) rfl) rfl)
  · -- it grows
    obtain ⟨olds, holds⟩ : ∃ olds, olds = vs.toList.take (xs.length * ie.size) := ⟨_, rfl⟩
    have ol : olds.length = xs.length * ie.size := by rw [holds, List.length_take]; simp; omega
    have ocell : ∀ j v, olds[j]? = some v → w.cell? ((⟨blk, 0, none⟩ : Addr).add j) = some v := fun j v hv => by
      have hj : j < xs.length * ie.size := by have := (List.getElem?_eq_some_iff.1 hv).1; omega
      rw [Addr.add_lit, Nat.zero_add, cell_of_row w blk j vs vt (0, 0) w1]
      rw [holds, List.getElem?_take_of_lt hj] at hv
      simpa using hv
    have hrun := run_append_grow (P := E.P) w t o.type e ie z ht hie hz ⟨blk, 0, none⟩ xs.length cap olds ol ocell ad ys.length cp news nl ncell (by omega) (by omega) (growslice_fits (by omega) (by omega))
    have hge := grownCap_ge w (xs.length + ys.length) cap e
    obtain ⟨g, hg⟩ : ∃ g, grownCap w (xs.length + ys.length) cap e = g := ⟨_, rfl⟩
    rw [hg] at hrun hge
    have hex : (execOp a.eval o).run E.P w = .ok (.value (.slice (some ⟨w.heap.size, 0, none⟩) (xs.length + ys.length) g)) (w.drew.alloc (.cells (olds.toArray ++ news.toArray ++ Builtin.zeroCells z.cells (g - (xs.length + ys.length))) e)) := by
      simp only [execOp, ho, resolve, hcal, ea, et, Sem.run_bind, Sem.run_pure, Result.andThen_ok, invoke, builtin]
      simp only [List.map_toArray, List.map_cons, List.map_nil, ep, ey, hrun]
      rfl
    have R1 := relF_drew R'
    have zr := zero_rep (w := w.drew.alloc (.cells (olds.toArray ++ news.toArray ++ Builtin.zeroCells z.cells (g - (xs.length + ys.length))) e)) (φ := h.φ) hzs0 (g - (xs.length + ys.length))
    have zl : zs.length = ie.size := by have := (ofScs_rep (w := w) (φ := h.φ) hzs0).1; simp at this; omega
    have hcl : ((xs ++ ys).flatMap cells ++ (List.replicate (g - (xs.length + ys.length)) zs).flatten).length = g * ie.size := by
      rw [List.length_append, hfl2]
      simp only [List.length_flatten, List.map_replicate, List.sum_replicate_nat, zl, List.length_append]
      rw [← Nat.add_mul]; congr 1; omega
    obtain ⟨R2, hnm⟩ := hE.fresh R1 (.cells (olds.toArray ++ news.toArray ++ Builtin.zeroCells z.cells (g - (xs.length + ys.length))) e) (.cells ((xs ++ ys).flatMap cells ++ (List.replicate (g - (xs.length + ys.length)) zs).flatten)) (fun ext => ⟨_, e, heap_alloc_new w.drew _, by rw [Array.size_append, List.length_append, zr.1, hfl2]; simp [nl, ol, Nat.add_mul], fun j v x hv hx => by
      have ext' : Ext w h.φ (w.drew.alloc (.cells (olds.toArray ++ news.toArray ++ Builtin.zeroCells z.cells (g - (xs.length + ys.length))) e)) h.φ := Ext.trans (fun _ _ ho => ⟨ho, rfl, rfl⟩) ext
      rw [List.flatMap_append, List.append_assoc, List.getElem?_append, fxl] at hv
      rw [Array.append_assoc, Array.getElem?_append] at hx
      simp only [List.size_toArray, ol] at hx
      by_cases hj : j < xs.length * ie.size
      · rw [if_pos hj] at hv hx
        simp only [List.getElem?_toArray] at hx
        rw [← htk, List.getElem?_take_of_lt hj] at hv
        rw [holds, List.getElem?_take_of_lt hj] at hx
        have := w3 j v x hv (by simpa using hx)
        exact ⟨this.1.mono ext', this.2⟩
      · rw [if_neg hj, List.getElem?_append, fl] at hv
        rw [if_neg hj, Array.getElem?_append] at hx
        simp only [List.size_toArray, nl] at hx
        by_cases hj2 : j - xs.length * ie.size < ys.length * ie.size
        · rw [if_pos hj2] at hv hx
          simp only [List.getElem?_toArray] at hx
          have := nrep _ v x hv hx
          exact ⟨this.1.mono ext', this.2⟩
        · rw [if_neg hj2] at hv hx
          exact zr.2 _ v x hv hx⟩)
    refine wpOp_done hi (wanted_none (guard_none cc rfl)) (opK_defer cc.op) (.inl hex) (hn _ _ _ h (hk w.heap.size g _ (.inr ⟨w.heap.size, g, _, rfl, by simp, hcl, by simpa using hge, ?_⟩) fun p hp _ => ⟨List.mem_cons_of_mem _ hp, fun e => hnm (List.mem_map.2 ⟨p, hp, e⟩)⟩) (rel_putA cc R2 (by rw [List.length_append]; exact ⟨.data (.sref _ _ _ _), GrowV.of_data (w0 := w) (φ0 := h.φ) (.sref _ _ _ _)⟩) rfl) rfl)
    rw [← hfl2, List.take_left]

end
end Go.Am


/-! The sort of cells, over an arena. -/
set_option linter.unusedVariables false
set_option linter.unusedSimpArgs false
set_option maxRecDepth 40000
set_option maxHeartbeats 4000000
namespace Go.Proofs.YtdejdblopmfjfaaDoor
open Go.Am

def befC (a b : Int × Int) : Prop := a.1 < b.1 ∨ (a.1 = b.1 ∧ a.2 < b.2)
def cellB (c : Int × Int) : Prop := (-1 ≤ c.1 ∧ c.1 ≤ 1022) ∧ -1 ≤ c.2 ∧ c.2 ≤ 14

theorem befC_irrefl {a : Int × Int} (h : befC a a) : False := by unfold befC at h; omega
theorem befC_trans {a b c : Int × Int} (h : befC a b) (k : befC b c) : befC a c := by unfold befC at *; omega

/-- Two lists in strict order that hold the same are the same. -/
theorem sorted_unique : ∀ (l m : List (Int × Int)), l.Pairwise befC → m.Pairwise befC → (∀ x, x ∈ l ↔ x ∈ m) → l = m
  | [], [], _, _, _ => rfl
  | [], b :: m, _, _, h => absurd ((h b).2 (by simp)) (by simp)
  | a :: l, [], _, _, h => absurd ((h a).1 (by simp)) (by simp)
  | a :: l, b :: m, hl, hm, h => by
    rw [List.pairwise_cons] at hl hm
    have hab : a = b := by
      rcases List.mem_cons.1 ((h a).1 (by simp)) with e | h1
      · exact e
      rcases List.mem_cons.1 ((h b).2 (by simp)) with e | h2
      · exact e.symm
      exact absurd (befC_trans (hl.1 b h2) (hm.1 a h1)) (fun h => befC_irrefl h)
    subst hab
    congr 1
    refine sorted_unique l m hl.2 hm.2 fun x => ?_
    have hx := h x
    simp only [List.mem_cons] at hx
    constructor
    · intro h1
      rcases hx.1 (.inr h1) with e | h2
      · exact absurd (hl.1 x h1) (fun h => befC_irrefl (e ▸ h))
      · exact h2
    · intro h1
      rcases hx.2 (.inr h1) with e | h2
      · exact absurd (hm.1 x h1) (fun h => befC_irrefl (e ▸ h))
      · exact h2

def toSC (c : Int × Int) : SC := (⟨(c.1 + 1).toNat % 1024, by omega⟩, ⟨(c.2 + 1).toNat % 16, by omega⟩)

theorem scB_to {c : Int × Int} (h : cellB c) : scB (toSC c) = c := by
  unfold cellB at h
  unfold scB toSC
  refine Prod.ext ?_ ?_ <;> simp only <;> omega

theorem flat_at : ∀ (xs : List (Int × Int)) (j : Nat) (h : j / 2 < xs.length), ((xs.map eB).flatMap cells)[j]? = some (I (if j % 2 = 0 then xs[j / 2].1 else xs[j / 2].2))
  | [], j, h => by simp at h
  | x :: xs, 0, h => rfl
  | x :: xs, 1, h => rfl
  | x :: xs, j + 2, h => by
    have hj : j / 2 < xs.length := by simp at h; omega
    have ih := flat_at xs j hj
    have e1 : ((x :: xs).map eB).flatMap cells = I x.1 :: I x.2 :: (xs.map eB).flatMap cells := rfl
    have e2 : (j + 2) / 2 = j / 2 + 1 := by omega
    have e3 : (j + 2) % 2 = j % 2 := by omega
    rw [e1]
    simp only [List.getElem?_cons_succ, e3]
    rw [ih]
    congr 3
    · congr 1; simp [e2]
    · congr 1; simp [e2]

theorem flat_eB_len (xs : List (Int × Int)) : ((xs.map eB).flatMap cells).length = xs.length * 2 := by
  induction xs with
  | nil => rfl
  | cons x xs ih => rw [List.map_cons, List.flatMap_cons, List.length_append, ih, List.length_cons]; simp [eB, cells]; omega

open Go.Sort in
theorem ca_sort {blk cap : Nat} {xs ys : List (Int × Int)} {cs : List V} (hcs : cs.take (xs.length * 2) = (xs.map eB).flatMap cells) (hlen : xs.length * 2 ≤ cs.length) (hsm : xs.length ≤ 100000) (hb : ∀ c ∈ xs, cellB c) (hnd : xs.Nodup) (hp : ∀ x, x ∈ ys ↔ x ∈ xs) (hs : ys.Pairwise befC) :
    CA Tryd.prog F.slices_SortFunc_api_Cell_api_Cell [(blk, .cells cs)] [] [.sref blk 0 xs.length cap, .func (.func F.bin_ordered) [] []] (.tuple []) [(blk, .cells ((ys.map eB).flatMap cells ++ cs.drop (xs.length * 2)))] := by
  refine ⟨by kernel_rfl, fun w φ vals htop hgl hA hK hKA hrep => ?_⟩
  obtain ⟨hl, hr⟩ := hrep
  obtain ⟨vals⟩ := vals
  match vals, hl with
  | [v1, v2], _ =>
  have r1 : v1 = .slice (some ⟨blk, 0, none⟩) xs.length cap := by
    have := hr 0 _ v1 rfl rfl
    cases this; rfl
  have r2 : v2 = .func (.func F.bin_ordered) #[] #[] := by
    have := hr 1 _ v2 rfl rfl
    cases this with
    | func fn first cap f c h1 h2 _ _ =>
      have e1 : f = #[] := Array.eq_empty_of_size_eq_zero (by simpa using h1.symm)
      have e2 : c = #[] := Array.eq_empty_of_size_eq_zero (by simpa using h2.symm)
      rw [e1, e2]
  subst r1 r2
  obtain ⟨vs, et, w1, w2, w3⟩ := hA.ok (blk, .cells cs) (by simp)
  have hblk := hA.lt (blk, .cells cs) (by simp)
  simp only at hblk
  obtain ⟨d, hd⟩ : ∃ d : Array SC, d = (xs.map toSC).toArray := ⟨_, rfl⟩
  have hds : d.size = xs.length := by rw [hd]; simp
  have hdget : ∀ i (hi : i < xs.length), scB d[i]! = xs[i] := fun i hi => by
    have : d[i]! = toSC xs[i] := by rw [hd]; simp [hi]
    rw [this, scB_to (hb _ (List.getElem_mem hi))]
  have valat : ∀ j, j < xs.length * 2 → vs[j]? = some (.int .i64 (if j % 2 = 0 then (scB d[j / 2]!).1 else (scB d[j / 2]!).2)) := fun j hj => by
    have hj2 : j / 2 < xs.length := by omega
    have hc : cs[j]? = some (I (if j % 2 = 0 then xs[j / 2].1 else xs[j / 2].2)) := by
      rw [← flat_at xs j hj2, ← hcs, List.getElem?_take_of_lt hj]
    have hjs : j < vs.size := by omega
    have := (w3 j _ _ hc (Array.getElem?_eq_getElem hjs)).1
    have hv : vs[j] = .int .i64 (if j % 2 = 0 then xs[j / 2].1 else xs[j / 2].2) := by
      generalize vs[j] = z at this
      cases this; rfl
    rw [Array.getElem?_eq_getElem hjs, hv, hdget _ hj2]
  have hH : HoldsK encSC 2 w blk 0 d := fun j hj => by
    rw [size_flatK, hds] at hj
    have hj2 : j / 2 < xs.length := by omega
    refine ⟨?_, ?_⟩
    · rw [get_flatK _ _ _ _ (by rw [hds]; exact hj), Nat.zero_add, cell_of_row w blk j vs et (0, 0) w1, valat j hj]
      unfold encSC
      by_cases h : j % 2 = 0
      · rw [if_pos h, h]; rfl
      · have h1 : j % 2 = 1 := by omega
        rw [if_neg h, h1]; rfl
    · simp [World.frozen?, w1]
  have hcall := sort_cells blk 0 cap d w hH hblk (by omega)
  rw [hds] at hcall
  refine hcall.mono ?_
  rintro e w' ⟨rfl, d', n, os, hperm, hsort, rfl⟩
  obtain ⟨hps, _, hpp⟩ := hperm
  have hd's : d'.size = xs.length := by rw [hps, hds]
  have hpp : d'.toList.Perm d.toList := by
    have e1 : d'.extract 0 xs.length = d' := by rw [← hd's]; simp
    have e2 : d.extract 0 xs.length = d := by rw [← hds]; simp
    rw [e1, e2] at hpp
    exact hpp
  have hxs : d.toList.map scB = xs := by
    rw [hd]
    simp only [List.map_map]
    conv => rhs; rw [← List.map_id xs]
    exact List.map_congr_left fun c hc => scB_to (hb c hc)
  have hzp : (d'.toList.map scB).Perm xs := by
    have := hpp.map scB
    rwa [hxs] at this
  have hzl : (d'.toList.map scB).length = xs.length := hzp.length_eq
  have hzn : (d'.toList.map scB).Nodup := hzp.nodup_iff.2 hnd
  have hzs : (d'.toList.map scB).Pairwise befC := by
    rw [List.pairwise_iff_getElem]
    intro i j hi hj hij
    simp only [List.length_map, Array.length_toList] at hi hj
    have h1 := hsort i j (Nat.zero_le _) hij (by omega)
    have h2 : (d'.toList.map scB)[i]'(by simpa using hi) ≠ (d'.toList.map scB)[j]'(by simpa using hj) := (List.pairwise_iff_getElem.1 hzn) i j (by simpa using hi) (by simpa using hj) hij
    have e1 : (d'.toList.map scB)[i]'(by simpa using hi) = scB d'[i]! := by simp [hi]
    have e2 : (d'.toList.map scB)[j]'(by simpa using hj) = scB d'[j]! := by simp [hj]
    rw [e1, e2] at h2 ⊢
    unfold ltOf cfSC at h1
    generalize scB d'[i]! = a at h1 h2 ⊢
    generalize scB d'[j]! = b at h1 h2 ⊢
    simp only [decide_eq_false_iff_not, ne_eq, ite_not] at h1
    unfold befC
    by_cases h3 : a.1 = b.1
    · have h4 : a.2 ≠ b.2 := fun h4 => h2 (Prod.ext h3 h4)
      rw [if_pos h3.symm] at h1
      omega
    · rw [if_neg (fun h => h3 h.symm)] at h1
      omega
  have hys : d'.toList.map scB = ys := sorted_unique _ _ hzs hs fun x => by rw [hzp.mem_iff, hp x]
  have hyl : ys.length = xs.length := by rw [← hys, hzl]
  have hyget : ∀ i (hi : i < ys.length), scB d'[i]! = ys[i] := fun i hi => by
    have h1 : i < d'.size := by omega
    have : (d'.toList.map scB)[i]? = some ys[i] := by rw [hys]; simp
    rw [List.getElem?_map] at this
    simp [h1] at this
    rw [← this]; simp [h1]
  obtain ⟨w', hw'⟩ : ∃ w', sortWorldK encSC 2 w blk 0 n d' os = w' := ⟨_, rfl⟩
  rw [hw']
  have hheap : w'.heap = (w.heap.modify blk (onCells (putCells id 0 (flatK encSC 2 d')))) ++ os := by rw [← hw']; rfl
  have hsz : w'.heap.size = w.heap.size + os.size := by rw [hheap]; simp
  have hold : ∀ b, b < w.heap.size → b ≠ blk → w'.heap[b]? = w.heap[b]? := fun b h1 h2 => by
    rw [hheap, Array.getElem?_append_left (by simpa using h1), Array.getElem?_modify, if_neg (fun e => h2 e.symm)]
  have hnew : w'.heap[blk]? = some (.cells (putCells id 0 (flatK encSC 2 d') vs) et (0, 0)) := by
    rw [hheap, Array.getElem?_append_left (by simpa using hblk), Array.getElem?_modify, if_pos rfl, w1]; rfl
  have ext : Ext w φ w' φ := fun b o ho => by
    have h1 : b < w.heap.size := by
      rcases Nat.lt_or_ge b w.heap.size with h1 | h1
      · exact h1
      · rw [htop b h1] at ho; omega
    have h2 : b ≠ blk := fun e => by
      have := hA.z (blk, .cells cs) (by simp)
      simp only at this
      rw [e, this] at ho; omega
    exact ⟨ho, World.cell?_of_block (hold b h1 h2), mapAt_of_block (hold b h1 h2)⟩
  refine ⟨φ, .tuple #[], rfl, .tuple [] #[] rfl (fun i v x h => by simp at h), ⟨by simp, fun p hp' => ?_, fun _ _ h => h, fun p hp' => ?_, fun p hp' => ?_⟩, ⟨ext, fun b h1 h2 => ⟨hold b h1 fun e => h2 (by simp [e]), rfl⟩, by omega, by rw [← hw']; rfl, by rw [← hw']; rfl, by rw [← hw']; rfl, fun b hb' => .inl (by simpa using hb'), fun b hb' => htop b (by omega)⟩⟩
  · obtain rfl := List.mem_singleton.1 hp'
    refine ⟨_, et, hnew, ?_, fun j v x hv hx => ?_⟩
    · have e1 : (putCells id 0 (flatK encSC 2 d') vs).size = vs.size := by simp [putCells]
      rw [e1, List.length_append, flat_eB_len, hyl, List.length_drop]; omega
    · rw [List.getElem?_append, flat_eB_len, hyl] at hv
      unfold putCells at hx
      rw [Array.getElem?_mapIdx] at hx
      simp only [Nat.zero_le, true_and, Nat.zero_add, Nat.sub_zero, size_flatK, hd's, id] at hx
      by_cases hj : j < xs.length * 2
      · rw [if_pos hj] at hv
        have hj2 : j / 2 < ys.length := by omega
        rw [flat_at ys j hj2] at hv
        have hjs : j < vs.size := by omega
        rw [Array.getElem?_eq_getElem hjs] at hx
        simp only [Option.map_some, if_pos hj, Option.some.injEq] at hx hv
        rw [get_flatK _ _ _ _ (by rw [hd's]; exact hj)] at hx
        subst hv hx
        unfold encSC
        rw [hyget _ hj2]
        by_cases h : j % 2 = 0
        · rw [if_pos h, h]; exact ⟨.int _ _, rfl⟩
        · have h1 : j % 2 = 1 := by omega
          rw [if_neg h, h1]; exact ⟨.int _ _, rfl⟩
      · rw [if_neg hj, List.getElem?_drop] at hv
        have e : xs.length * 2 + (j - xs.length * 2) = j := by omega
        rw [e] at hv
        cases hvj : vs[j]? with
        | none => rw [hvj] at hx; simp at hx
        | some z =>
          rw [hvj] at hx
          simp only [Option.map_some, if_neg hj, Option.some.injEq] at hx
          subst hx
          have := w3 j v z hv hvj
          exact ⟨this.1.mono ext, this.2⟩
  · obtain rfl := List.mem_singleton.1 hp'
    simp only; omega
  · obtain rfl := List.mem_singleton.1 hp'
    exact hA.z (blk, .cells cs) (by simp)

end Go.Proofs.YtdejdblopmfjfaaDoor


/-! AM, part Zo: calls by name over an arena; what lies in an arena becomes data. -/
set_option linter.unusedVariables false
set_option linter.unusedSimpArgs false
namespace Go.Am
open Go.RowKit

section
variable {E : Env} {S0 : Sur} {l0 : List (List V)} {s0 : Bool} {A : Arena}

theorem Steps.callA (hE : InA E S0 l0 s0) {K : St → Prop} {Ks : List (Nat × List V)} {s : St} {d : Option Nat} {f : FuncId} {xs : List X} {rest : List Ins} {vs us : List V} {ids : List Nat} {r : V} {F A1 B : Arena} (hx : evXs s.env xs = some vs) (hd : toDs s.fs.b vs = some (us, ids)) (hl : s.log = encA (F ++ A1))
    (hC : CA E.P f A1 Ks us r B) (hKs : (∀ p ∈ Ks, (p.1, Ob.cells p.2) ∈ F) ∨ InK E Ks ∧ ∀ p ∈ Ks, p.1 ∉ A1.map (·.1))
    (hk : Steps E rest K { (s.eff { v := r, wb := freeze s.fs.b ids }).put d r with log := encA (F ++ B) }) : Steps E (⟨d, .call f, xs, none⟩ :: rest) K s := by
  refine Step1.raw fun slots ops o i ro n a w h hc hs hi R Q next hn => ?_
  obtain ⟨os, cc⟩ := comp_of hc
  have hgo := guard_none cc rfl
  obtain ⟨c, e1, e2, rfl⟩ := opK_call cc.op
  have R' : E.relF (encA (F ++ A1)) s.stp s.fs a w h := by rw [← hl]; exact R
  have hAr := hE.ar R'
  have hnd := hAr.nd
  rw [List.map_append, List.nodup_append] at hnd
  obtain ⟨l1, l2⟩ := opds_args (opds_of R.1 cc.xs (evXs_ok hx))
  refine wp_callA hE R' cc hd hC (fun h' R1 => ?_) (fun p hp => ?_) _ l1 l2 hi (wanted_none hgo) (run_call hC.1 e2 e1) fun a' w' h' R2 hy => hn _ a' w' h' hk ?_ hy
  · rcases hKs with hKs | hKs
    · intro p hp
      have := (hE.ar R1)
      exact ⟨this.ok _ (List.mem_append.2 (.inl (hKs p hp))), this.lt _ (List.mem_append.2 (.inl (hKs p hp)))⟩
    · exact hKs.1 _ _ _ _ _ R1.1.sur
  · rcases hKs with hKs | hKs
    · exact fun h => hnd.2.2 _ (List.mem_map.2 ⟨_, hKs p hp, rfl⟩) _ h rfl
    · exact hKs.2 p hp
  · show E.relF _ _ _ _ _ _
    have e : ({ (s.eff { v := r, wb := freeze s.fs.b ids }).put d r with log := encA (F ++ B) } : St).fs = ((s.fs.eff { v := r, wb := freeze s.fs.b ids }).put d r) := by
      cases d with
      | none => exact fs_eff s _
      | some d => show ((s.eff _).put (some d) r).fs = _; rw [fs_put, fs_eff]; rfl
    have e2 : ({ (s.eff { v := r, wb := freeze s.fs.b ids }).put d r with log := encA (F ++ B) } : St).stp = s.stp := by
      show ((s.eff _).put d r).stp = _
      rw [(put_log _ _ _).2, (eff_log _ _).2]
    rw [e, e2]
    exact R2

/-- A block's cells are frozen. -/
def cut (φ : Nat → Nat) (blk len : Nat) : Nat → Nat := fun b => if b = blk then len else φ b

theorem InA.close (hE : InA E S0 l0 s0) {stp : Bool} {σ : FSt} {a : Act} {w : World} {h : Gh} (R : E.relF (encA A) stp σ a w h) {blk : Nat} {o : Ob} (hA : (blk, o) ∈ A) (len : Nat) {B : Arena} (hkeys : ∀ p ∈ B, p.1 ∈ A.map (·.1) ∧ p.1 ≠ blk) (hnd : (B.map (·.1)).Nodup)
    (hB : Ext w h.φ w (cut h.φ blk len) → ∀ p ∈ B, ObOk w (cut h.φ blk len) p.1 p.2) : Ext w h.φ w (cut h.φ blk len) ∧ E.relF (encA B) stp σ a w { h with φ := cut h.φ blk len } := by
  obtain ⟨M1, hM1, hlt1, ⟨A0, e, hs, hAr, hS⟩, back⟩ := hE.sub _ _ _ _ _ R.1.sur R.1.mine
  obtain rfl := encA_inj e
  have hz := hAr.z _ hA
  simp only at hz
  have other : ∀ b, b ≠ blk → cut h.φ blk len b = h.φ b := fun b hb => by unfold cut; rw [if_neg hb]
  have ext : Ext w h.φ w (cut h.φ blk len) := fun b o ho => by
    have hb : b ≠ blk := fun e => by rw [e, hz] at ho; omega
    exact ⟨by rw [other b hb]; exact ho, rfl, rfl⟩
  have top' : ∀ b, w.heap.size ≤ b → cut h.φ blk len b = 0 := fun b hb => by
    have := hAr.lt _ hA
    simp only at this
    rw [other b (by omega)]; exact R.1.top b hb
  have own : ∀ b, M1 b → w.heap[b]? = w.heap[b]? ∧ cut h.φ blk len b = h.φ b := fun b hb => ⟨rfl, other b fun e => by
    have := hAr.fr _ hA
    exact this (e ▸ hb)⟩
  have keyOld : ∀ p ∈ B, ∃ q ∈ A, q.1 = p.1 := fun p hp => by
    obtain ⟨q, hq, e⟩ := List.mem_map.1 (hkeys p hp).1
    exact ⟨q, hq, e⟩
  have sa : SA S0 l0 s0 (encA B) stp M1 w (cut h.φ blk len) := by
    refine ⟨B, rfl, hs, ⟨hnd, hB ext, fun p hp hM => ?_, fun p hp => ?_, fun p hp => ?_⟩, hE.ok _ _ _ _ _ _ _ _ hS ⟨ext, fun b hb hn => ⟨rfl, other b fun e => hn (.inr (List.mem_map.2 ⟨_, hA, e.symm⟩))⟩, Nat.le_refl _, rfl, rfl, rfl, fun b hb => .inl ?_, top'⟩⟩
    · obtain ⟨q, hq, e⟩ := keyOld p hp
      exact hAr.fr q hq (e ▸ hM)
    · obtain ⟨q, hq, e⟩ := keyOld p hp
      rw [← e]; exact hAr.lt q hq
    · obtain ⟨q, hq, e⟩ := keyOld p hp
      rw [other _ (hkeys p hp).2, ← e]; exact hAr.z q hq
    · rcases hb with hb | hb
      · exact .inl hb
      · obtain ⟨p, hp, rfl⟩ := List.mem_map.1 hb
        exact .inr (hkeys p hp).1
  have sur' := back (encA B) stp w (cut h.φ blk len) sa ext own (Nat.le_refl _) top' rfl rfl rfl
  exact ⟨ext, rel_round R.1 ext (fun b hb => own b (hM1 b hb)) (Nat.le_refl _) top' sur', R.2⟩

/-- A block's cells, as a slice of data. -/
theorem close_rep {w : World} {φ : Nat → Nat} {blk cap sz : Nat} {cs xs : List V} (ho : ObOk w φ blk (.cells cs)) (h0 : 0 < sz) (hcap : xs.length ≤ cap) (hxs : ∀ x ∈ xs, (cells x).length = sz) (htk : cs.take (xs.length * sz) = xs.flatMap cells) (ext : Ext w φ w (cut φ blk (xs.length * sz))) :
    RepD w (cut φ blk (xs.length * sz)) (.slice 0 sz xs) (.slice (some ⟨blk, 0, none⟩) xs.length cap) := by
  obtain ⟨vs, et, h1, h2, h3⟩ := ho
  have fl := flat_len hxs
  have at' : ∀ (j : Nat) v, (xs.flatMap cells)[j]? = some v → j < xs.length * sz ∧ j < vs.size ∧ cs[j]? = some v := fun j v hv => by
    have hj : j < xs.length * sz := by have := (List.getElem?_eq_some_iff.1 hv).1; omega
    rw [← htk, List.getElem?_take_of_lt hj] at hv
    have := (List.getElem?_eq_some_iff.1 hv).1
    exact ⟨hj, by omega, hv⟩
  refine .slice sz xs blk 0 xs.length cap (fun j => vs.getD j undef) h0 rfl hcap hxs (fun j v hv => ?_) (fun j v hv => ?_)
  · obtain ⟨a1, a2, a3⟩ := at' j v hv
    have e : vs[j]? = some (vs.getD j undef) := by simp [a2]
    refine ⟨by unfold cut; rw [if_pos rfl]; omega, ?_, (h3 j v _ a3 e).2⟩
    rw [Nat.zero_add, cell_of_row w blk j vs et (0, 0) h1, e]
  · obtain ⟨a1, a2, a3⟩ := at' j v hv
    have e : vs[j]? = some (vs.getD j undef) := by simp [a2]
    exact (h3 j v _ a3 e).1.mono ext

def dropA (A : Arena) (blk : Nat) : Arena := A.filter fun p => p.1 != blk

theorem dropA_mem {A : Arena} {blk : Nat} {p : Nat × Ob} : p ∈ dropA A blk ↔ p ∈ A ∧ p.1 ≠ blk := by
  unfold dropA; rw [List.mem_filter]; simp

theorem dropA_nd {A : Arena} {blk : Nat} (h : (A.map (·.1)).Nodup) : ((dropA A blk).map (·.1)).Nodup := h.sublist (List.Sublist.map _ List.filter_sublist)

/-- A slice of an arena becomes data. -/
theorem Wk.close (hE : InA E S0 l0 s0) {s : St} {t blk cap sz : Nat} {cs xs : List V} (ht : get s.env t = some (.sref blk 0 xs.length cap)) (hl : s.log = encA A) (hA : (blk, Ob.cells cs) ∈ A) (h0 : 0 < sz) (hcap : xs.length ≤ cap) (hxs : ∀ x ∈ xs, (cells x).length = sz) (htk : cs.take (xs.length * sz) = xs.flatMap cells) :
    Wk E s { s.put (some t) (.slice 0 sz xs) with log := encA (dropA A blk) } := by
  intro a w h R
  obtain ⟨q1, q2, _⟩ := R.1.env t _ (by rw [fs_g]; exact ht)
  have R' : E.relF (encA A) s.stp s.fs a w h := by rw [← hl]; exact R
  have hAr := hE.ar R'
  obtain ⟨ext, R2⟩ := hE.close R' hA (xs.length * sz) (B := dropA A blk) (fun p hp => ⟨List.mem_map.2 ⟨p, (dropA_mem.1 hp).1, rfl⟩, (dropA_mem.1 hp).2⟩) (dropA_nd hAr.nd) (fun ext p hp => (hAr.ok p (dropA_mem.1 hp).1).mono rfl ext)
  have rd := close_rep (cap := cap) (hAr.ok _ hA) h0 hcap hxs htk ext
  have e : a.tmps.getD t undef = .slice (some ⟨blk, 0, none⟩) xs.length cap := by
    revert q2
    generalize a.tmps.getD t undef = x1
    intro q2
    cases q2 with
    | data r => cases r; rfl
  have R3 := R2.1.put (d := t) (v := .slice 0 sz xs) (x := a.tmps.getD t undef) q1 (by rw [e]; exact .data rd) (by rw [e]; exact GrowV.of_data rd)
  rw [put_self (by rw [R.1.size]; exact q1)] at R3
  refine ⟨_, ⟨?_, R2.2⟩, rfl⟩
  show Rel E.nt E.S _ s.stp (s.put (some t) (.slice 0 sz xs)).fs _ _ _
  rw [fs_put]
  exact R3

/-- Less of an arena, in whatever order. -/
theorem Wk.keep (hE : InA E S0 l0 s0) {s : St} {B : Arena} (hl : s.log = encA A) (hsub : ∀ p ∈ B, p ∈ A) (hnd : (B.map (·.1)).Nodup) : Wk E s { s with log := encA B } := by
  intro a w h R
  have R' : E.relF (encA A) s.stp s.fs a w h := by rw [← hl]; exact R
  obtain ⟨M1, hM1, hlt1, ⟨A0, e, hs, hAr, hS⟩, back⟩ := hE.sub _ _ _ _ _ R'.1.sur R'.1.mine
  obtain rfl := encA_inj e
  have sa : SA S0 l0 s0 (encA B) s.stp M1 w h.φ := by
    refine ⟨B, rfl, hs, ⟨hnd, fun p hp => hAr.ok p (hsub p hp), fun p hp => hAr.fr p (hsub p hp), fun p hp => hAr.lt p (hsub p hp), fun p hp => hAr.z p (hsub p hp)⟩, hE.ok _ _ _ _ _ _ _ _ hS ⟨Ext.refl _ _, fun _ _ _ => ⟨rfl, rfl⟩, Nat.le_refl _, rfl, rfl, rfl, fun b hb => .inl ?_, R'.1.top⟩⟩
    rcases hb with hb | hb
    · exact .inl hb
    · obtain ⟨p, hp, rfl⟩ := List.mem_map.1 hb
      exact .inr (List.mem_map.2 ⟨p, hsub p hp, rfl⟩)
  have sur' := back (encA B) s.stp w h.φ sa (Ext.refl _ _) (fun _ _ => ⟨rfl, rfl⟩) (Nat.le_refl _) R'.1.top rfl rfl rfl
  exact ⟨h, ⟨{ R'.1 with sur := sur' }, R'.2⟩, rfl⟩

theorem mem_setA_ne {b : Nat} {o : Ob} {p : Nat × Ob} (h : p ∈ A) (hne : p.1 ≠ b) : p ∈ setA A b o := List.mem_map.2 ⟨p, h, by rw [if_neg hne]⟩
theorem mem_setA_self {b : Nat} {o o' : Ob} (h : (b, o') ∈ A) : (b, o) ∈ setA A b o := List.mem_map.2 ⟨_, h, by rw [if_pos rfl]⟩

/-- An append to a slice of one's own. -/
theorem Steps.appendOwn (hE : InA E S0 l0 s0) {K : St → Prop} {s : St} {d : Nat} {x y : X} {v : V} {sz bytes e r : Nat} {xs ys zs : List V} {rest : List Ins} (hx : evXs s.env [x, y] = some [v, .slice r sz ys]) (hl : s.log = encA A) (hO : OwnS A sz xs v) (hz0 : zeroOf E.P e = some zs) (h0 : 0 < sz) (hb : (xs.length + ys.length) * bytes ≤ 2 ^ 47) (hm : xs.length + ys.length ≤ 2 ^ 47) (hne : ys ≠ [])
    (hk : ∀ v' A', OwnS A' sz (xs ++ ys) v' → (∀ p ∈ A, offS v p.1 → p ∈ A' ∧ offS v' p.1) → Steps E rest K { s.put (some d) v' with log := encA A' }) : Steps E (⟨some d, .append sz bytes e, [x, y], none⟩ :: rest) K s := by
  rcases hO with ⟨rfl, rfl⟩ | ⟨blk, cap, cs, rfl, h2, h3, h4, h5⟩
  · refine Steps.appendA0 hE hx hl hz0 h0 (by simpa using hb) (by simpa using hm) hne fun blk cap A' hO hp => hk _ A' hO fun p hpA _ => ⟨(hp p hpA).1, fun b o n c e => ?_⟩
    cases e; exact (hp p hpA).2
  · refine Steps.appendA hE hx hl (.inr ⟨blk, cap, cs, rfl, h2, h3, h4, h5⟩) hz0 h0 hb hm hne fun blk' cap' A' hO hp => hk _ A' hO fun p hpA hoff => ?_
    have := hp p hpA (hoff _ _ _ _ rfl)
    refine ⟨this.1, fun b o n c e => ?_⟩
    cases e; exact this.2

end
end Go.Am


/-! Contracts: what a trace may hit. -/
set_option linter.unusedVariables false
set_option linter.unusedSimpArgs false
set_option maxRecDepth 40000
set_option maxHeartbeats 4000000
namespace Go.Proofs.YtdejdblopmfjfaaDoor
open Go.Am
attribute [local simp] cells scalar mkv splice under2 under dem dem1 eB gridC sB laidC
/-! ### Cells in order, each once -/
def insC (c : Int × Int) : List (Int × Int) → List (Int × Int)
  | [] => [c]
  | x :: r => if c = x then x :: r else if c.1 < x.1 ∨ (c.1 = x.1 ∧ c.2 < x.2) then c :: x :: r else x :: insC c r

theorem mem_insC {c x : Int × Int} : ∀ (l : List (Int × Int)), x ∈ insC c l ↔ x = c ∨ x ∈ l
  | [] => by simp [insC]
  | y :: r => by
    simp only [insC]
    split
    · rename_i h; subst h; simp
    · split
      · simp
      · simp only [List.mem_cons, mem_insC r]
        constructor
        · rintro (h | h | h)
          · exact .inr (.inl h)
          · exact .inl h
          · exact .inr (.inr h)
        · rintro (h | h | h)
          · exact .inr (.inl h)
          · exact .inl h
          · exact .inr (.inr h)

theorem sorted_insC {c : Int × Int} : ∀ (l : List (Int × Int)), l.Pairwise befC → (insC c l).Pairwise befC
  | [], _ => by simp [insC]
  | y :: r, h => by
    rw [List.pairwise_cons] at h
    simp only [insC]
    split
    · exact List.pairwise_cons.2 h
    · rename_i hne
      split
      · rename_i hb
        refine List.pairwise_cons.2 ⟨fun z hz => ?_, List.pairwise_cons.2 h⟩
        rcases List.mem_cons.1 hz with rfl | hz
        · exact hb
        · exact befC_trans hb (h.1 z hz)
      · rename_i hb
        refine List.pairwise_cons.2 ⟨fun z hz => ?_, sorted_insC r h.2⟩
        rcases (mem_insC r).1 hz with rfl | hz
        · have hne' : z.1 ≠ y.1 ∨ z.2 ≠ y.2 := by
            rcases Int.lt_or_le z.1 y.1 with h1 | h1
            · exact .inl (by omega)
            · by_cases h2 : z.1 = y.1
              · exact .inr fun h3 => hne (Prod.ext h2 h3)
              · exact .inl h2
          unfold befC; omega
        · exact h.1 z hz

def hitsOf (l : List (Int × Int)) : List (Int × Int) := l.foldl (fun acc c => insC c acc) []

theorem hits_fold : ∀ (l acc : List (Int × Int)), acc.Pairwise befC → (l.foldl (fun acc c => insC c acc) acc).Pairwise befC ∧ ∀ x, x ∈ l.foldl (fun acc c => insC c acc) acc ↔ x ∈ acc ∨ x ∈ l
  | [], acc, h => ⟨h, fun x => by simp⟩
  | c :: l, acc, h => by
    have ih := hits_fold l (insC c acc) (sorted_insC acc h)
    refine ⟨ih.1, fun x => ?_⟩
    simp only [List.foldl_cons]
    rw [ih.2 x, mem_insC]
    simp only [List.mem_cons]
    constructor
    · rintro ((h | h) | h)
      · exact .inr (.inl h)
      · exact .inl h
      · exact .inr (.inr h)
    · rintro (h | h | h)
      · exact .inl (.inr h)
      · exact .inl (.inl h)
      · exact .inr h

theorem hitsOf_sorted (l : List (Int × Int)) : (hitsOf l).Pairwise befC := (hits_fold l [] List.Pairwise.nil).1
theorem mem_hitsOf {l : List (Int × Int)} {x : Int × Int} : x ∈ hitsOf l ↔ x ∈ l := by
  have := (hits_fold l [] List.Pairwise.nil).2 x
  unfold hitsOf
  rw [this]; simp

def cellP (g : Gd) (p : (Int × Int) × (Int × Int)) : Int × Int := cellN g p.1 p.2
def hitsL (g : Gd) (l m : List (Int × Int)) : List (Int × Int) := hitsOf ((pairsL l m).map (cellP g))

theorem clsAt_bd {n : Int} : ∀ (l : List (Int × Int)) (k i : Nat), clsAt n l k = some i → k ≤ i ∧ i < k + l.length
  | [], k, i, h => by simp [clsAt] at h
  | c :: r, k, i, h => by
    simp only [clsAt] at h
    split at h
    · cases h; simp
    · have := clsAt_bd r (k + 1) i h
      simp; omega

theorem cell_bd {g : Gd} (hg : gridOk g = true) (a b : Int × Int) : cellB (cellN g a b) := by
  obtain ⟨_, _, ha, hd, hc, _⟩ := gridOk_spec hg
  unfold cellN
  split
  · rename_i h
    rw [Bool.and_eq_true, btw_iff, btw_iff] at h
    split
    · rename_i i hi
      have := clsAt_bd _ _ _ hi
      have m1 : 0 ≤ rowN g a b * g.a := Int.mul_nonneg (by omega) (by omega)
      have m2 : rowN g a b * g.a ≤ 15 * 16 := Int.mul_le_mul (by omega) (by omega) (by omega) (by omega)
      unfold cellB; simp only; omega
    · unfold cellB; simp only; omega
  · unfold cellB; simp only; omega

theorem pairs_len (l m : List (Int × Int)) : (pairsL l m).length = l.length * m.length := by
  induction l with
  | nil => simp [pairsL]
  | cons a l ih =>
    have e : pairsL (a :: l) m = (m.map fun b => (a, b)) ++ pairsL l m := rfl
    rw [e, List.length_append, ih]; simp [Nat.add_mul]; omega

theorem mem_pairs {l m : List (Int × Int)} {p : (Int × Int) × (Int × Int)} : p ∈ pairsL l m ↔ p.1 ∈ l ∧ p.2 ∈ m := by
  unfold pairsL
  simp only [List.mem_flatMap, List.mem_map]
  constructor
  · rintro ⟨a, ha, b, hb, rfl⟩; exact ⟨ha, hb⟩
  · rintro ⟨h1, h2⟩; exact ⟨p.1, h1, p.2, h2, rfl⟩

end Go.Proofs.YtdejdblopmfjfaaDoor


/-! Contracts: hits. -/
set_option linter.unusedVariables false
set_option linter.unusedSimpArgs false
set_option maxRecDepth 40000
set_option maxHeartbeats 4000000
namespace Go.Proofs.YtdejdblopmfjfaaDoor
open Go.Am
attribute [local simp] cells scalar mkv splice under2 under dem dem1 eB gridC sB laidC
/-- A layout on a grid, whose places are such. -/
structure LdOk (L : Ld) : Prop where
  g : gridOk L.g = true
  n : L.places.length ≤ 16
  t : L.traces.length ≤ 64
  p : ∀ l ∈ L.places, (1 ≤ l.length ∧ l.length ≤ 64) ∧ ∀ q ∈ l, planeB q = true
  tr : ∀ t ∈ L.traces, ∃ i j : Nat, t = ((i : Int), (j : Int)) ∧ i < L.places.length ∧ j < L.places.length

def pl (L : Ld) (i : Int) : List (Int × Int) := L.places.getD i.toNat []
def hitsT (L : Ld) (t : Nat) : List (Int × Int) := hitsL L.g (pl L (L.traces.getD t (0, 0)).1) (pl L (L.traces.getD t (0, 0)).2)

theorem inner_InA {E : Env} {S0 S2 : Sur} {l0 : List (List V)} {s0 : Bool} {cc : LC} (hA : InA E S0 l0 s0) (h : SurIn E.S S2) : InA (E.inner cc S2 h.ok) S0 l0 s0 := ⟨h.sub.trans hA.sub, hA.ok⟩

theorem key_eq {l : List MapEntry} (h : l.Pairwise fun x y => x.key ≠ y.key) {x y : MapEntry} (hx : x ∈ l) (hy : y ∈ l) (e : x.key = y.key) : x = y := by
  induction l with
  | nil => cases hx
  | cons a l ih =>
    rw [List.pairwise_cons] at h
    rcases List.mem_cons.1 hx with h1 | h1 <;> rcases List.mem_cons.1 hy with h2 | h2
    · rw [h1, h2]
    · rw [h1] at e; exact absurd e (h.1 _ h2)
    · rw [h2] at e; exact absurd e.symm (h.1 _ h1)
    · exact ih h.2 h1 h2

theorem born_eq {l : List MapEntry} (h : l.Pairwise fun x y => x.born ≠ y.born) {x y : MapEntry} (hx : x ∈ l) (hy : y ∈ l) (e : x.born = y.born) : x = y := by
  induction l with
  | nil => cases hx
  | cons a l ih =>
    rw [List.pairwise_cons] at h
    rcases List.mem_cons.1 hx with h1 | h1 <;> rcases List.mem_cons.1 hy with h2 | h2
    · rw [h1, h2]
    · rw [h1] at e; exact absurd e (h.1 _ h2)
    · rw [h2] at e; exact absurd e.symm (h.1 _ h1)
    · exact ih h.2 h1 h2

theorem vlen (es : Array MapEntry) (vis : List MapEntry) {n : Nat} (h : es.size ≤ n) (hs : ∀ e ∈ vis, e ∈ es.toList) (hn : (vis.map (·.key)).Nodup) (hb : n ≤ 4096) : vis.length ≤ 4096 := by
  have hv : vis.Nodup := by
    unfold List.Nodup at hn ⊢
    rw [List.pairwise_map] at hn
    exact hn.imp fun hne e => hne (by rw [e])
  have h2 : vis.length ≤ es.toList.length := hv.length_le_of_subset fun x hx => hs x hx
  have h3 : es.toList.length = es.size := by simp
  omega

theorem setA_one (b : Nat) (o o' : Ob) : setA [(b, o)] b o' = [(b, o')] := by simp [setA]

theorem c_hits {L : Ld} (hL : LdOk L) {t : Nat} (ht : t < L.traces.length) : C Tryd.prog F.bin_laid_hits [.agg (laidC L), I (t : Nat)] (sB (hitsT L t)) := by
  obtain ⟨i, j, hij, hi, hj⟩ := hL.tr _ (List.getElem_mem ht)
  have hT : hitsT L t = hitsL L.g L.places[i] L.places[j] := by
    unfold hitsT pl
    have e : L.traces.getD t (0, 0) = ((i : Int), (j : Int)) := by simp [ht, hij]
    rw [e]
    simp [hi, hj]
  rw [hT]
  have hpi := hL.p _ (List.getElem_mem hi)
  have hpj := hL.p _ (List.getElem_mem hj)
  obtain ⟨l, el⟩ : ∃ l, L.places[i] = l := ⟨_, rfl⟩
  obtain ⟨m, em⟩ : ∃ m, L.places[j] = m := ⟨_, rfl⟩
  rw [el] at hpi ⊢
  rw [em] at hpj ⊢
  have hpl : (pairsL l m).length ≤ 4096 := by
    rw [pairs_len]
    have : l.length * m.length ≤ 64 * 64 := Nat.mul_le_mul hpi.1.2 hpj.1.2
    omega
  refine C_of mixed chk.bin_laid_hits (by simp) fun S ok => ?_
  refine Tr.arena rfl rfl ?_
  have hA := InA.main (E := env0 Tryd.prog mixed 51 S ok) [] false
  refine Tr.seqR rfl (by simp) (Tr.seq (Tr.reg ?_))
  refine Steps.mkset hA rfl fun mb _ => Steps.fin rfl (by simp) ?_
  refine Tr.seq (Tr.reg (Steps.runN 4 rfl (by simp; omega) ?_))
  rw [getD_map ht, hij]
  refine Steps.fin rfl (by simp) ?_
  refine Tr.seq (Tr.seq (Tr.drawK (TraceK.runN 5 rfl (by simp; omega) ?_)))
  rw [getD_map hi, el]
  refine TraceK.runN 6 rfl (by simp; omega) ?_
  rw [getD_map hj, em]
  refine TraceK.run rfl (by simp) (TraceK.call rfl rfl (c_pairs l m) (TraceK.run rfl (by simp) (.done ⟨by kernel_rfl, by kernel_rfl, ?_⟩)))
  refine Tr.block ?_
  refine Tr.weak (s' := { env := [(2, .ptr 2 0), (5, .ptr 5 0), (29, .func (.func F.bin_pairs_1) [] [.vptr [sB l] 0, .vptr [sB m] 0])], bx := [(2, ⟨laidC L, false⟩), (5, ⟨[.rmap mb], false⟩)], rw := [], log := encA [(mb, .raw (.map #[] 0))], stp := false })
    (Wk.le (.cons rfl (.refl _) (.cons rfl (.refl _) (.cons rfl (.refl _) .nil))) (.cons rfl (LLe.refl _) (.cons rfl (LLe.refl _) .nil)) .nil rfl rfl) ?_
  refine Tr.range rfl rfl (i_pairs (l := l) (m := m) (by omega) (by omega)) rfl rfl rfl (by intro x hx; obtain ⟨b, _, rfl⟩ := List.mem_map.1 hx; rfl)
    (fun pre t => ∃ k es clock, k ≤ (pairsL l m).length ∧ pre = ((pairsL l m).take k).map eP2 ∧ SetIs es clock (((pairsL l m).take k).map (cellP L.g)) ∧ es.size ≤ k ∧ t.bx = [(2, ⟨laidC L, false⟩), (5, ⟨[.rmap mb], false⟩)] ∧ t.rw = [] ∧ t.log = encA [(mb, .raw (.map es clock))])
    (fun _ _ => False) ⟨0, #[], 0, by omega, rfl, SetIs.made, by simp, rfl, rfl, rfl⟩ ?_ ?_ ?_
  · rintro a0 L0 rc0 h0 S1 S2 ok1 ok2 pre q t lp hpre ⟨k, es, clock, hk, rfl, hS, hes, hbx, hrw, hlog⟩ henv hstp
    obtain ⟨env, bx, rw, log, stp⟩ := t
    simp only at hbx hrw hlog henv hstp
    subst hbx hrw hlog henv hstp
    have hmx : k < (pairsL l m).length ∧ ∃ b, (pairsL l m)[k]? = some b ∧ q = eP2 b := by
      have h1 : (((pairsL l m).take k).map eP2).length = k := by simp; omega
      have h2 := hpre.length_le
      simp at h2
      have hml : k < (pairsL l m).length := by omega
      refine ⟨hml, _, List.getElem?_eq_getElem hml, ?_⟩
      have h3 := List.IsPrefix.getElem hpre (i := k) (by simp; omega)
      simp only [List.getElem_map] at h3
      rw [List.getElem_append_right (by omega)] at h3
      simpa using h3
    obtain ⟨hkl, p, hp, rfl⟩ := hmx
    have hpm := mem_pairs.1 (List.mem_of_getElem? hp)
    have kc := c_cell hL.g (hpi.2 _ hpm.1) (hpj.2 _ hpm.2)
    have hcb := cell_bd hL.g p.1 p.2
    refine Tr.seqR rfl (by simp) (Tr.regR rfl (by simp) ?_)
    refine Tr.block (Tr.drawK (TraceK.run rfl (by simp) (TraceK.call rfl rfl kc (.done ⟨by kernel_rfl, by kernel_rfl, ?_⟩))))
    refine Steps.setput (A := [(mb, .raw (.map es clock))]) (k := cellN L.g p.1 p.2) (inner_InA hA ok2) rfl rfl (by simp) hS ?_ (by omega) fun es' clock' hS' hsz => ?_
    · unfold cellB at hcb; unfold inI; omega
    rw [setA_one]
    refine Steps.fin rfl (by simp) ?_
    have eT : ((pairsL l m).take (k + 1)).map (cellP L.g) = ((pairsL l m).take k).map (cellP L.g) ++ [cellN L.g p.1 p.2] := by
      rw [List.take_add_one, hp, List.map_append]; rfl
    refine ⟨{ env := [], bx := [(2, ⟨laidC L, false⟩), (5, ⟨[.rmap mb], false⟩)], rw := [], log := encA [(mb, .raw (.map es' clock'))], stp := false }, Wk.le .nil (.cons rfl (LLe.refl _) (.cons rfl (LLe.refl _) .nil)) .nil rfl rfl, ⟨k + 1, es', clock', by omega, ?_, by rw [eT]; exact hS', by omega, rfl, rfl, rfl⟩, rfl⟩
    rw [List.take_add_one, hp]; simp
  · rintro ⟨env, bx, rw, log, stp⟩ henv hstp ⟨k, es, clock, hk, hpre, hS, hes, hbx, hrw, hlog⟩
    simp only at hbx hrw hlog henv hstp
    subst hbx hrw hlog henv hstp
    have hml : k = (pairsL l m).length := by
      have := congrArg List.length hpre
      simp at this; omega
    subst hml
    rw [List.take_length] at hS
    refine Tr.seqR rfl (by simp) ?_
    refine Tr.seq (Tr.seq (Tr.reg (Steps.run rfl (by simp) ?_)))
    refine Steps.mrange (A := [(mb, .raw (.map es clock))]) (mb := mb) (es := es) (clock := clock) hA rfl rfl (by simp) fun ib hib => Steps.fin rfl (by simp) (Tr.block ?_)
    have hmi : mb ≠ ib := fun e => hib (by simp [e])
    refine Tr.loop (α := List MapEntry × List (Int × Int) × Array Nat × Nat × V × Arena) (fun p st => (p.1.map (·.key) = p.2.1.map keyV ∧ p.2.2.1.toList = p.1.map (·.born) ∧ (∀ e ∈ p.1, e ∈ es.toList) ∧ (p.1.map (·.key)).Nodup ∧ (∀ c ∈ p.2.1, c ∈ (pairsL l m).map (cellP L.g)) ∧ p.1.length ≤ 4096 ∧
        (mb, Ob.raw (.map es clock)) ∈ p.2.2.2.2.2 ∧ (ib, Ob.raw (.mapIter (some mb) clock p.2.2.1 p.2.2.2.1)) ∈ p.2.2.2.2.2 ∧ clock ≤ p.2.2.2.1 ∧ OwnS p.2.2.2.2.2 2 (p.2.1.map eB) p.2.2.2.2.1 ∧ offS p.2.2.2.2.1 mb ∧ offS p.2.2.2.2.1 ib) ∧
        st = { env := [(9, p.2.2.2.2.1), (39, .rptr ib 0)], bx := [], rw := [], log := encA p.2.2.2.2.2, stp := false }) (fun p => (leftOf es p.2.2.1).size) ([], [], #[], clock, .nils, [(ib, .raw (.mapIter (some mb) clock #[] clock)), (mb, .raw (.map es clock))])
      (Wk.le (.cons rfl (.refl _) (.cons rfl (.refl _) .nil)) .nil .nil rfl rfl) ⟨⟨rfl, rfl, by simp, by simp, by simp, by simp, by simp, by simp, Nat.le_refl _, .inl ⟨rfl, rfl⟩, fun _ _ _ _ h => (by cases h), fun _ _ _ _ h => (by cases h)⟩, rfl⟩ ?_
    rintro ⟨vis, out, seen, c0, v, A⟩ st ⟨⟨i1, i2, i3, i4, i5, i6, i7, i8, i9, i10, i11, i12⟩, rfl⟩
    simp only at i1 i2 i3 i4 i5 i6 i7 i8 i9 i10 i11 i12
    have hlen : vis.length = out.length := by have := congrArg List.length i1; simpa using this
    refine Tr.seq (Tr.reg ?_)
    refine Steps.mnext (A := A) (ib := ib) (mb := mb) (since := clock) (c0 := c0) (seen := seen) (es := es) (clock := clock) hA rfl rfl i8 i7 hS (fun e he => hS.st.1 e he) i9 (fun hz => ?_) (fun e he k hk hkey hval => ?_)
    · refine Steps.fin rfl (by simp) (Tr.seq (Tr.condF rfl (Tr.exit ?_)))
      have hall : ∀ x ∈ es.toList, x ∈ vis := fun x hx => by
        have h1 := all_seen es seen hz x hx
        rw [← Array.contains_toList, i2] at h1
        have h1 : x.born ∈ vis.map (·.born) := by simpa using h1
        obtain ⟨y, hy, ey⟩ := List.mem_map.1 h1
        have h2 := hS.st.2.1
        unfold List.Nodup at h2
        rw [List.pairwise_map] at h2
        exact born_eq h2 (i3 y hy) hx ey ▸ hy
      have hout : ∀ x, x ∈ out ↔ x ∈ (pairsL l m).map (cellP L.g) := fun x => by
        refine ⟨i5 x, fun hx => ?_⟩
        obtain ⟨_, e, he, ek⟩ := hS.all x hx
        have h1 : e.key ∈ vis.map (·.key) := List.mem_map.2 ⟨e, hall e he, rfl⟩
        rw [i1, ek] at h1
        obtain ⟨c, hc, ec⟩ := List.mem_map.1 h1
        exact keyV_inj ec ▸ hc
      have hnd : out.Nodup := by
        rw [i1] at i4
        unfold List.Nodup at i4 ⊢
        rw [List.pairwise_map] at i4
        exact i4.imp fun hne e => hne (by rw [e])
      have hne : out ≠ [] := fun e => by
        have h1 : 0 < (pairsL l m).length := by rw [pairs_len]; exact Nat.mul_pos (by omega) (by omega)
        have h2 := (hout (cellP L.g (pairsL l m)[0])).2 (List.mem_map.2 ⟨_, List.getElem_mem h1, rfl⟩)
        rw [e] at h2; cases h2
      obtain ⟨blk, cap, cs, rfl, hm2, hm3, hm4, hm5⟩ : ∃ (blk cap : Nat) (cs : List V), v = .sref blk 0 out.length cap ∧ (blk, Ob.cells cs) ∈ A ∧ cs.length = cap * 2 ∧ out.length ≤ cap ∧ cs.take (out.length * 2) = (out.map eB).flatMap cells := by
        rcases i10 with ⟨h, _⟩ | ⟨blk, cap, cs, h1, h2, h3, h4, h5⟩
        · simp at h; exact absurd h hne
        · rw [List.length_map] at h1 h4 h5
          exact ⟨blk, cap, cs, h1, h2, h3, h4, h5⟩
      have hcb : ∀ c ∈ out, cellB c := fun c hc => by
        obtain ⟨p, _, rfl⟩ := List.mem_map.1 (i5 c hc)
        exact cell_bd hL.g p.1 p.2
      have hcsl : out.length * 2 ≤ cs.length := by rw [hm3]; exact Nat.mul_le_mul_right _ hm4
      have hys : ∀ x, x ∈ hitsL L.g l m ↔ x ∈ out := fun x => by unfold hitsL; rw [mem_hitsOf, hout x]
      have hsort := ca_sort (blk := blk) (cap := cap) (xs := out) (ys := hitsL L.g l m) (cs := cs) hm5 hcsl (by omega) hcb hnd hys (hitsOf_sorted _)
      have hyl : (hitsL L.g l m).length = out.length := by
        have n1 : (hitsL L.g l m).Nodup := by
          unfold List.Nodup hitsL
          exact (hitsOf_sorted _).imp fun {a b} h (e : a = b) => befC_irrefl (by rw [e] at h; exact h)
        exact Nat.le_antisymm (n1.length_le_of_subset fun x hx => (hys x).1 hx) (hnd.length_le_of_subset fun x hx => (hys x).2 hx)
      refine Tr.weak (s' := { env := [(9, .sref blk 0 out.length cap)], bx := [], rw := [], log := encA A, stp := false }) (Wk.le (.cons rfl (.refl _) .nil) .nil .nil rfl rfl) ?_
      refine Tr.weak (Wk.keep hA (B := [(blk, .cells cs)]) rfl (by simpa using hm2) (by simp)) ?_
      refine Tr.seq (Tr.reg (Steps.run rfl (by simp) ?_))
      refine Steps.callA (F := []) hA rfl rfl rfl hsort (.inl (by simp)) (Steps.fin rfl (by simp) ?_)
      refine Tr.seqR rfl (by simp) ?_
      refine Tr.weak (s' := { env := [(4, .sref blk 0 ((hitsL L.g l m).map eB).length cap)], bx := [], rw := [], log := encA [(blk, .cells (((hitsL L.g l m).map eB).flatMap cells ++ cs.drop (out.length * 2)))], stp := false }) (Wk.le (.cons rfl (.of_eq ?_) .nil) .nil .nil rfl rfl) ?_
      · rw [List.length_map, hyl]
      refine Tr.weak (Wk.close hA (t := 4) (sz := 2) rfl rfl (by simp; rfl) (by omega) (by rw [List.length_map, hyl]; exact hm4) (fun x hx => by obtain ⟨c, _, rfl⟩ := List.mem_map.1 hx; rfl) ?_) ?_
      · rw [List.length_map, ← flat_eB_len, List.take_left]
      exact Tr.ret ⟨trivial, _, _, _, resVs_ok rfl, rfl, rfl⟩
    · refine Steps.fin rfl (by simp) (Tr.seq (Tr.condT rfl (Tr.skip (Tr.block (Tr.seq (Tr.reg ?_))))))
      have heL := mem_left he
      refine Steps.mentry (A := setA A ib (.raw (.mapIter (some mb) clock (seen.push e.born) clock))) (ib := ib) (mb := mb) (since := clock) (seen := seen) (es := es) (clock := clock) (e := e) (k := k) hA rfl rfl (mem_setA_self i8) (mem_setA_ne i7 hmi) hS.st heL.1 hkey hval (Steps.fin rfl (by simp) (Tr.reg (Steps.runN 3 rfl (by simp) ?_)))
      have hol : (out.map eB).length ≤ 4096 := by rw [List.length_map]; omega
      have hO : OwnS (setA A ib (.raw (.mapIter (some mb) clock (seen.push e.born) clock))) 2 (out.map eB) v := by
        rcases i10 with h | ⟨blk, cap, cs, h1, h2, h3⟩
        · exact .inl h
        · exact .inr ⟨blk, cap, cs, h1, mem_setA_ne h2 (fun e => i12 _ _ _ _ h1 e.symm), h3⟩
      refine Steps.appendOwn (A := setA A ib (.raw (.mapIter (some mb) clock (seen.push e.born) clock))) (v := v) (xs := out.map eB) (ys := [eB k]) (zs := [I 0, I 0]) hA rfl rfl hO (by kernel_rfl) (by omega) (by simp only [List.length_cons, List.length_nil]; omega) (by simp only [List.length_cons, List.length_nil]; omega) (by simp) fun v' A' hO' hkeep => ?_
      refine Steps.fin rfl (by simp) ?_
      have hnew : e ∉ vis := fun hm => by
        have h1 : e.born ∈ seen.toList := by rw [i2]; exact List.mem_map.2 ⟨e, hm, rfl⟩
        have h2 := heL.2
        rw [← Array.contains_toList] at h2
        simp at h2
        exact h2 (by simpa using h1)
      have hknew : e.key ∉ vis.map (·.key) := fun hm => by
        obtain ⟨x, hx, ex⟩ := List.mem_map.1 hm
        exact hnew (key_eq hS.nd heL.1 (i3 x hx) ex.symm ▸ hx)
      refine ⟨(vis ++ [e], out ++ [k], seen.push e.born, clock, v', A'), _, Wk.le (.cons rfl (.refl _) (.cons rfl (.refl _) .nil)) .nil .nil (by simp only [okRefs, List.all_cons, ownS_refs hO']; rfl) rfl, ⟨⟨?_, ?_, ?_, ?_, ?_, ?_, ?_, ?_, Nat.le_refl _, ?_, ?_, ?_⟩, rfl⟩, ?_⟩
      · rw [List.map_append, List.map_append, i1]
        simp [hkey]
      · rw [Array.toList_push, i2, List.map_append]; rfl
      · intro x hx
        rcases List.mem_append.1 hx with hx | hx
        · exact i3 x hx
        · obtain rfl := List.mem_singleton.1 hx; exact heL.1
      · rw [List.map_append, List.nodup_append]
        refine ⟨i4, by simp, fun x hx y hy e' => ?_⟩
        obtain rfl := List.mem_singleton.1 hy
        subst e'; exact hknew hx
      · intro c hc
        rcases List.mem_append.1 hc with hc | hc
        · exact i5 c hc
        · obtain rfl := List.mem_singleton.1 hc; exact hk
      · exact vlen es (vis ++ [e]) hes (fun x hx => by
          rcases List.mem_append.1 hx with hx | hx
          · exact i3 x hx
          · obtain rfl := List.mem_singleton.1 hx; exact heL.1) (by
          rw [List.map_append, List.nodup_append]
          refine ⟨i4, by simp, fun x hx y hy e' => ?_⟩
          obtain rfl := List.mem_singleton.1 hy
          subst e'; exact hknew hx) hpl
      · exact (hkeep _ (mem_setA_ne i7 hmi) i11).1
      · exact (hkeep _ (mem_setA_self i8) i12).1
      · rw [List.map_append]; exact hO'
      · exact (hkeep _ (mem_setA_ne i7 hmi) i11).2
      · exact (hkeep _ (mem_setA_self (o := .raw (.mapIter (some mb) clock (seen.push e.born) clock)) i8) i12).2
      · exact left_shrinks es seen e he
  · intro e t _ h; exact h.elim

end Go.Proofs.YtdejdblopmfjfaaDoor


/-! AM, part Zp: slices that are made in an arena; their elements; rows of rows that become data. -/
set_option linter.unusedVariables false
set_option linter.unusedSimpArgs false
namespace Go.Am
open Go.RowKit

theorem opK_mkbox {P : Program} {o : Oper} {os : List Operand} {sz bytes : Nat} {zs : List V} (hk : opK P o.op = some (.mkbox sz bytes zs, os)) : ∃ t p q e ie z, o.op = .makeSlice t p q ∧ P.underlying t = some (.slice e) ∧ P.info? e = some ie ∧ ie.zero = some z ∧ z.cells.size = ie.size ∧ ofScs z.cells.toList = some zs ∧ ie.size = sz ∧ ie.bytes = bytes ∧ os = [p, q] := by
  cases ho : o.op <;> rw [ho] at hk <;> simp only [opK] at hk <;> (try (cases hk; done)) <;> (try (repeat' (split at hk <;> (try (cases hk; done)))))
  all_goals first
    | (simp only [Option.map_eq_some_iff, Prod.mk.injEq, K.mkbox.injEq] at hk
       obtain ⟨zs', hof, ⟨rfl, rfl, rfl⟩, rfl⟩ := hk
       exact ⟨_, _, _, _, _, _, rfl, by assumption, by assumption, by assumption, beq_iff_eq.1 (by assumption), hof, rfl, rfl, rfl⟩)
    | (simp only [Option.map_eq_some_iff, Prod.mk.injEq] at hk; obtain ⟨_, _, h1, _⟩ := hk; cases h1; done)
    | (simp only [eqKind] at hk; repeat' (split at hk <;> (try (cases hk; done))))

theorem opK_iaddrS {P : Program} {o : Oper} {os : List Operand} {sz : Nat} (hk : opK P o.op = some (.iaddrS sz, os)) : ∃ t p q e, o.op = .indexAddr t p q ∧ P.underlying t = some (.slice e) ∧ szOf P e = some sz ∧ os = [p, q] := by
  cases ho : o.op <;> rw [ho] at hk <;> simp only [opK] at hk <;> (try (cases hk; done)) <;> (try (repeat' (split at hk <;> (try (cases hk; done)))))
  all_goals first
    | (simp only [Option.map_eq_some_iff, Prod.mk.injEq, K.iaddrS.injEq] at hk
       obtain ⟨m, hm, rfl, rfl⟩ := hk
       exact ⟨_, _, _, _, rfl, by assumption, hm, rfl⟩)
    | (simp only [Option.map_eq_some_iff, Prod.mk.injEq] at hk; obtain ⟨_, _, h1, _⟩ := hk; cases h1; done)
    | (simp only [eqKind] at hk; repeat' (split at hk <;> (try (cases hk; done))))

section
variable {E : Env} {S0 : Sur} {l0 : List (List V)} {s0 : Bool} {A : Arena}

/-- A slice is made in the arena. -/
theorem Steps.amkbox (hE : InA E S0 l0 s0) {K : St → Prop} {s : St} {d N : Nat} {k1 k2 : IntKind} {n1 n2 : Int} {x y : X} {sz bytes : Nat} {zs : List V} {rest : List Ins} (hx : evXs s.env [x, y] = some [.int k1 n1, .int k2 n2]) (e1 : n1 = (N : Int)) (e2 : n2 = (N : Int)) (hN : N ≤ 1000000) (hb : bytes ≤ 1000000) (hs : N * sz ≤ 1000000) (hl : s.log = encA A)
    (hk : ∀ b, b ∉ A.map (·.1) → Steps E rest K { s.put (some d) (.sref b 0 N N) with log := encA ((b, .cells (List.replicate N zs).flatten) :: A) }) : Steps E (⟨some d, .mkbox sz bytes zs, [x, y], none⟩ :: rest) K s := by
  subst e1 e2
  refine Step1.raw fun slots ops o i ro n a w h hc hsl hi R Q next hn => ?_
  obtain ⟨os, cc⟩ := comp_of hc
  obtain ⟨t, p, q, e, ie, z, ho, ht, hie, hz, hzs, hof, rfl, rfl, rfl⟩ := opK_mkbox cc.op
  obtain ⟨u, v, huv, hu, hv'⟩ := (opds_of R.1 cc.xs (evXs_ok hx)).two
  cases huv
  have R' : E.relF (encA A) s.stp s.fs a w h := by rw [← hl]; exact R
  have hbb : (ie.bytes : Int) * (N : Int) ≤ 281474976710656 := by
    have : ie.bytes * N ≤ 1000000 * 1000000 := Nat.mul_le_mul hb hN
    have h2 : ((ie.bytes * N : Nat) : Int) ≤ 281474976710656 := by omega
    push_cast at h2; exact h2
  have hr := run_make (P := E.P) w t e ie z ht hie hz k1 k2 N N (by omega) (Int.le_refl _) hbb (by omega)
  simp only [Int.toNat_natCast] at hr
  obtain ⟨R2, hnm⟩ := hE.fresh R' (.cells (madeCells z.cells (N * ie.size)) e) (.cells (List.replicate N zs).flatten) (fun ext => by
    obtain ⟨g1, g2⟩ := ofScs_rep (w := w.alloc (.cells (madeCells z.cells (N * ie.size)) e)) (φ := h.φ) hof
    have hcl : zs.length = z.cells.size := by rw [g1]; simp
    refine ⟨_, e, heap_alloc_new w _, by rw [size_madeCells]; simp [hcl, hzs], fun j v x hv hx => ?_⟩
    rw [rep_flat] at hv
    split at hv
    · rename_i hj
      have hx' : x = z.cells[j % z.cells.size]! := by
        have hj' : j < N * ie.size := by rw [← hzs, ← hcl]; exact hj
        unfold madeCells at hx
        simp [hj'] at hx
        exact hx.symm
      have hpos : 0 < zs.length := by
        rcases Nat.eq_zero_or_pos zs.length with h | h
        · rw [h] at hj; simp at hj
        · exact h
      have hjm : j % zs.length < zs.length := Nat.mod_lt _ hpos
      exact g2 (j % zs.length) v x hv (by
        rw [hcl, hx']
        have : j % z.cells.size < z.cells.size := by rw [← hcl]; exact hjm
        simp [this])
    · cases hv)
  refine wpOp_done hi (wanted_none (guard_none cc rfl)) (opK_defer cc.op) (.inl ?_) (hn _ _ _ h (hk _ hnm) (rel_putA cc R2 (.data (.sref _ _ _ _)) rfl) rfl)
  simp [execOp, ho, ok_int hu, ok_int hv', hr]

end

/-- An element of a slice that is known exactly. -/
theorem does_sidx {E : Env} {σ : FSt} {d blk off n cap sz : Nat} {k : IntKind} {i : Int} {j : Nat} {x y : X} (hx : [x, y].mapM (evX σ) = some [.sref blk off n cap, .int k i]) (hi : i = (j : Int)) (hj : j < n) : Does E σ ⟨some d, .iaddrS sz, [x, y], none⟩ { v := .rptr blk (off + j * sz) } (xslots [x, y]) := by
  subst hi
  refine .ext rfl hx fun o os log stp σ' a w h ho R hO => ?_
  obtain ⟨t, p, q, e, e1, e2, e3, rfl⟩ := opK_iaddrS ho
  obtain ⟨u, v, huv, hu, hv'⟩ := hO.two
  cases huv
  refine ⟨.pointer (some ⟨blk, off + j * sz, none⟩), ?_, .data (.rptr _ _), GrowV.of_data (w0 := w) (φ0 := h.φ) (.rptr _ _)⟩
  have h1 : (j : Int) < (n : Int) := by omega
  simp only [execOp, e1, ok_sref hu, ok_int hv']
  simp [Instr.indexAt, asIntOf, run_underlying e2, run_szOf e3, h1, hj, Addr.add_lit]

theorem Steps.sidx {E : Env} {s : St} {K : St → Prop} {d blk off n cap sz : Nat} {k : IntKind} {i : Int} {j : Nat} {x y : X} {rest : List Ins} (hx : evXs s.env [x, y] = some [.sref blk off n cap, .int k i]) (hi : i = (j : Int)) (hj : j < n) (hk : Steps E rest K (s.put (some d) (.rptr blk (off + j * sz)))) : Steps E (⟨some d, .iaddrS sz, [x, y], none⟩ :: rest) K s :=
  Step1.does (ins := ⟨some d, .iaddrS sz, [x, y], none⟩) (does_sidx (evXs_ok hx) hi hj) hk

theorem TraceK.sidx {E : Env} {s : St} {K : List (List Loc × List Loc) → St → List Ins → Prop} {d blk off n cap sz : Nat} {k : IntKind} {i : Int} {j : Nat} {x y : X} {rest : List Ins} (hx : evXs s.env [x, y] = some [.sref blk off n cap, .int k i]) (hi : i = (j : Int)) (hj : j < n)
    (tr : TraceK E (s.put (some d) (.rptr blk (off + j * sz))) rest fun fp s' r' => K (([.slot d], xslots [x, y]) :: fp) s' r') : TraceK E s (⟨some d, .iaddrS sz, [x, y], none⟩ :: rest) K :=
  .step (ins := ⟨some d, .iaddrS sz, [x, y], none⟩) (eff := { v := .rptr blk (off + j * sz) }) (does_sidx (evXs_ok hx) hi hj) tr

section
variable {E : Env} {S0 : Sur} {l0 : List (List V)} {s0 : Bool} {A : Arena}

/-- A slice of an arena that lies in a slice of data becomes data. -/
theorem Wk.closeIn (hE : InA E S0 l0 s0) {s : St} {t r blk cap sz j : Nat} {cs xs ys : List V} (ht : get s.env t = some (.slice r 1 ys)) (hj : ys[j]? = some (.sref blk 0 xs.length cap)) (hl : s.log = encA A) (hA : (blk, Ob.cells cs) ∈ A) (h0 : 0 < sz) (hcap : xs.length ≤ cap) (hxs : ∀ x ∈ xs, (cells x).length = sz) (htk : cs.take (xs.length * sz) = xs.flatMap cells) (h1 : ∀ y ∈ ys, cells y = [y]) :
    Wk E s { s.put (some t) (.slice 0 1 (ys.set j (.slice 0 sz xs))) with log := encA (dropA A blk) } := by
  intro a w h R
  obtain ⟨q1, q2, q3⟩ := R.1.env t _ (by rw [fs_g]; exact ht)
  have R' : E.relF (encA A) s.stp s.fs a w h := by rw [← hl]; exact R
  have hAr := hE.ar R'
  obtain ⟨ext, R2⟩ := hE.close R' hA (xs.length * sz) (B := dropA A blk) (fun p hp => ⟨List.mem_map.2 ⟨p, (dropA_mem.1 hp).1, rfl⟩, (dropA_mem.1 hp).2⟩) (dropA_nd hAr.nd) (fun ext p hp => (hAr.ok p (dropA_mem.1 hp).1).mono rfl ext)
  have rd := close_rep (cap := cap) (hAr.ok _ hA) h0 hcap hxs htk ext
  have rs := ok_slice ⟨q2, q3⟩
  obtain ⟨x, hx⟩ : ∃ x, a.tmps.getD t undef = x := ⟨_, rfl⟩
  rw [hx] at rs
  have hjl : j < ys.length := (List.getElem?_eq_some_iff.1 hj).1
  have rd2 : RepD w (cut h.φ blk (xs.length * sz)) (.slice 0 1 (ys.set j (.slice 0 sz xs))) x := by
    have rs := rs.mono ext
    rcases slice_at rs with ⟨_, e0⟩ | ⟨yb, yo, ycap, cvy, rfl, hp, hcy, hys, ay⟩
    · rw [e0] at hjl; simp at hjl
    have hset : ∀ x ∈ ys.set j (.slice 0 sz xs), cells x = [x] := fun x hx => by
      rcases List.mem_or_eq_of_mem_set hx with hx | rfl
      · exact h1 x hx
      · rfl
    rw [flat_one h1] at ay
    refine .slice 1 _ yb yo ys.length ycap cvy (by omega) (by simp) hcy (fun x hx => by rw [hset x hx]; rfl) (fun k v hk => ?_) (fun k v hk => ?_)
    · rw [flat_one hset] at hk
      by_cases ek : k = j
      · subst ek
        rw [List.getElem?_set_self hjl] at hk
        cases hk
        obtain ⟨a1, a2, _, _⟩ := ay k _ hj
        exact ⟨a1, a2, rfl⟩
      · rw [List.getElem?_set_ne (fun h => ek h.symm)] at hk
        obtain ⟨a1, a2, _, a4⟩ := ay k _ hk
        exact ⟨a1, a2, a4⟩
    · rw [flat_one hset] at hk
      by_cases ek : k = j
      · subst ek
        rw [List.getElem?_set_self hjl] at hk
        cases hk
        obtain ⟨_, _, a3, _⟩ := ay k _ hj
        generalize hz : cvy k = z at a3
        cases a3
        exact rd
      · rw [List.getElem?_set_ne (fun h => ek h.symm)] at hk
        exact (ay k _ hk).2.2.1
  have R3 := R2.1.put (d := t) (v := .slice 0 1 (ys.set j (.slice 0 sz xs))) (x := a.tmps.getD t undef) q1 (by rw [hx]; exact .data rd2) (by rw [hx]; exact GrowV.of_data rd2)
  rw [put_self (by rw [R.1.size]; exact q1)] at R3
  refine ⟨_, ⟨?_, R2.2⟩, rfl⟩
  show Rel E.nt E.S _ s.stp (s.put (some t) (.slice 0 1 (ys.set j (.slice 0 sz xs)))).fs _ _ _
  rw [fs_put]
  exact R3

end
end Go.Am


/-! Contracts: counting, plain part; rows of an arena. -/
set_option linter.unusedVariables false
set_option linter.unusedSimpArgs false
set_option maxRecDepth 40000
set_option maxHeartbeats 4000000
namespace Go.Proofs.YtdejdblopmfjfaaDoor
open Go.Am

/-! ### Counts of cells -/
def cntRow (m : Nat) (P : List (Int × Int)) (b : Nat) : List Int := (List.range m).map fun (c : Nat) => ((P.count ((b : Int), (c : Int)) : Nat) : Int)
def nBins (g : Gd) : Nat := (g.a * g.d).toNat
def countL (g : Gd) (P : List (Int × Int)) : List (List Int) := (List.range (nBins g)).map (cntRow g.cls.length P)
def allH (h : Nat → List (Int × Int)) (n : Nat) : List (Int × Int) := (List.range n).flatMap h
def cntN (L : Ld) (h : Nat → List (Int × Int)) : List (List Int) := countL L.g (allH h L.traces.length)

def noneC : Int × Int := (-1, -1)
def inG (g : Gd) (c : Int × Int) : Prop := (0 ≤ c.1 ∧ c.1 < g.a * g.d) ∧ 0 ≤ c.2 ∧ c.2 < (g.cls.length : Int)

theorem cntRow_len (m : Nat) (P : List (Int × Int)) (b : Nat) : (cntRow m P b).length = m := by simp [cntRow]
theorem countL_len (g : Gd) (P : List (Int × Int)) : (countL g P).length = nBins g := by simp [countL]
theorem countL_get {g : Gd} {P : List (Int × Int)} {b : Nat} (h : b < nBins g) : (countL g P)[b]? = some (cntRow g.cls.length P b) := by simp [countL, h]
theorem cntRow_get {m : Nat} {P : List (Int × Int)} {b c : Nat} (h : c < m) : (cntRow m P b)[c]? = some ((P.count ((b : Int), (c : Int)) : Nat) : Int) := by simp [cntRow, h]

theorem cntRow_off {m : Nat} {P : List (Int × Int)} {c : Int × Int} {b : Nat} (h : c.1 ≠ b) : cntRow m (P ++ [c]) b = cntRow m P b := by
  unfold cntRow
  refine List.map_congr_left fun k _ => ?_
  rw [List.count_append, List.count_singleton]
  have : (c == ((b : Int), (k : Int))) = false := by
    rw [beq_eq_false_iff_ne]; intro e; rw [e] at h; exact h rfl
  rw [this]; simp

theorem cntRow_on {m : Nat} {P : List (Int × Int)} {b k : Nat} (h : k < m) : cntRow m (P ++ [((b : Int), (k : Int))]) b = (cntRow m P b).set k (((P.count ((b : Int), (k : Int)) : Nat) : Int) + 1) := by
  refine List.ext_getElem? fun i => ?_
  by_cases hi : i < m
  · rw [cntRow_get hi]
    by_cases e : i = k
    · subst e
      rw [List.getElem?_set_self (by rw [cntRow_len]; exact hi), List.count_append, List.count_singleton]
      simp
    · rw [List.getElem?_set_ne (fun h => e h.symm), cntRow_get hi, List.count_append, List.count_singleton]
      have : ((((b : Int), (k : Int)) : Int × Int) == ((b : Int), (i : Int))) = false := by
        rw [beq_eq_false_iff_ne]; intro h; injection h with _ h; exact e (by omega)
      rw [this]; simp
  · rw [List.getElem?_eq_none (by rw [cntRow_len]; omega), List.getElem?_eq_none (by rw [List.length_set, cntRow_len]; omega)]

theorem countL_none (g : Gd) (P : List (Int × Int)) : countL g (P ++ [noneC]) = countL g P := by
  unfold countL
  refine List.map_congr_left fun b _ => cntRow_off ?_
  unfold noneC; simp only; omega

theorem countL_on {g : Gd} {P : List (Int × Int)} {b k : Nat} (hb : b < nBins g) (hk : k < g.cls.length) :
    countL g (P ++ [((b : Int), (k : Int))]) = (countL g P).set b ((cntRow g.cls.length P b).set k (((P.count ((b : Int), (k : Int)) : Nat) : Int) + 1)) := by
  refine List.ext_getElem? fun i => ?_
  by_cases hi : i < nBins g
  · rw [countL_get hi]
    by_cases e : i = b
    · subst e
      rw [List.getElem?_set_self (by rw [countL_len]; exact hi), cntRow_on hk]
    · rw [List.getElem?_set_ne (fun h => e h.symm), countL_get hi, cntRow_off]
      simp only; omega
  · rw [List.getElem?_eq_none (by rw [countL_len]; omega), List.getElem?_eq_none (by rw [List.length_set, countL_len]; omega)]

/-! ### Rows in an arena -/
def arn (rbs : List Nat) (rows : List (List Int)) : Arena := List.zipWith (fun b r => (b, Ob.cells (r.map I))) rbs rows

theorem arn_keys : ∀ {rbs : List Nat} {rows : List (List Int)}, rbs.length = rows.length → (arn rbs rows).map (·.1) = rbs
  | [], [], _ => rfl
  | b :: rbs, r :: rows, h => by
    have := arn_keys (rbs := rbs) (rows := rows) (by simpa using h)
    simp [arn] at this ⊢
    exact this

theorem arn_snoc : ∀ {rbs : List Nat} {rows : List (List Int)} (b : Nat) (r : List Int), rbs.length = rows.length → arn (rbs ++ [b]) (rows ++ [r]) = arn rbs rows ++ [(b, .cells (r.map I))]
  | [], [], b, r, _ => rfl
  | c :: rbs, q :: rows, b, r, h => by
    have := arn_snoc (rbs := rbs) (rows := rows) b r (by simpa using h)
    simp [arn] at this ⊢
    exact this

theorem arn_mem : ∀ {rbs : List Nat} {rows : List (List Int)} {j b : Nat} {r : List Int}, rbs[j]? = some b → rows[j]? = some r → (b, Ob.cells (r.map I)) ∈ arn rbs rows
  | [], _, _, _, _, h, _ => by simp at h
  | _ :: _, [], _, _, _, _, h => by simp at h
  | c :: rbs, q :: rows, 0, b, r, h, k => by simp at h k; subst h k; simp [arn]
  | c :: rbs, q :: rows, j + 1, b, r, h, k => by
    have := arn_mem (rbs := rbs) (rows := rows) (j := j) (b := b) (r := r) (by simpa using h) (by simpa using k)
    simp only [arn] at this ⊢
    simp only [List.zipWith_cons_cons]
    exact List.mem_cons_of_mem _ this

theorem setA_out {A : Arena} {b : Nat} {o : Ob} (h : b ∉ A.map (·.1)) : setA A b o = A := by
  unfold setA
  conv => rhs; rw [← List.map_id A]
  refine List.map_congr_left fun p hp => ?_
  rw [if_neg fun e => h (List.mem_map.2 ⟨p, hp, e⟩)]; rfl

theorem arn_set : ∀ {rbs : List Nat} {rows : List (List Int)} {j b : Nat} (r : List Int), rbs.Nodup → rbs.length = rows.length → rbs[j]? = some b → setA (arn rbs rows) b (.cells (r.map I)) = arn rbs (rows.set j r)
  | [], _, _, _, _, _, _, h => by simp at h
  | _ :: _, [], _, _, _, _, h, _ => by simp at h
  | c :: rbs, q :: rows, 0, b, r, hn, hl, h => by
    simp at h; subst h
    rw [List.nodup_cons] at hn
    have e : arn (c :: rbs) (q :: rows) = (c, .cells (q.map I)) :: arn rbs rows := rfl
    have e2 : arn (c :: rbs) ((q :: rows).set 0 r) = (c, .cells (r.map I)) :: arn rbs rows := rfl
    rw [e, e2]
    have := setA_out (A := arn rbs rows) (b := c) (o := .cells (r.map I)) (by rw [arn_keys (by simpa using hl)]; exact hn.1)
    unfold setA at this ⊢
    rw [List.map_cons, this]; simp
  | c :: rbs, q :: rows, j + 1, b, r, hn, hl, h => by
    rw [List.nodup_cons] at hn
    have h' : rbs[j]? = some b := by simpa using h
    have ih := arn_set (rbs := rbs) (rows := rows) (j := j) (b := b) r hn.2 (by simpa using hl) h'
    have hcb : c ≠ b := fun e => hn.1 (e ▸ List.mem_of_getElem? h')
    have e : arn (c :: rbs) (q :: rows) = (c, .cells (q.map I)) :: arn rbs rows := rfl
    have e2 : arn (c :: rbs) ((q :: rows).set (j + 1) r) = (c, .cells (q.map I)) :: arn rbs (rows.set j r) := rfl
    rw [e, e2, ← ih]
    unfold setA
    rw [List.map_cons, if_neg hcb]

theorem arn_drop {b : Nat} {r : List Int} {rbs : List Nat} {rows : List (List Int)} (hn : (b :: rbs).Nodup) (hl : rbs.length = rows.length) : dropA (arn (b :: rbs) (r :: rows)) b = arn rbs rows := by
  rw [List.nodup_cons] at hn
  have e : arn (b :: rbs) (r :: rows) = (b, .cells (r.map I)) :: arn rbs rows := rfl
  rw [e]
  unfold dropA
  rw [List.filter_cons]
  simp only [bne_self_eq_false, Bool.false_eq_true, if_false]
  refine List.filter_eq_self.2 fun p hp => ?_
  have : p.1 ∈ rbs := by rw [← arn_keys hl]; exact List.mem_map.2 ⟨p, hp, rfl⟩
  have : p.1 ≠ b := fun e => hn.1 (e ▸ this)
  simpa using this

section
variable {E : Env} {S0 : Sur} {l0 : List (List V)} {s0 : Bool}

def srefs (m : Nat) (rbs : List Nat) : List V := rbs.map fun b => .sref b 0 m m

/-- All rows of a slice become data. -/
theorem closeRows (hE : InA E S0 l0 s0) {t m : Nat} : ∀ (rbs : List Nat) (rows : List (List Int)) (pre : List V) (s : St), rbs.Nodup → rbs.length = rows.length → (∀ r ∈ rows, r.length = m) → (∀ y ∈ pre, cells y = [y]) → get s.env t = some (.slice 0 1 (pre ++ srefs m rbs)) → s.log = encA (arn rbs rows) →
    ∃ s', Wk E s s' ∧ get s'.env t = some (.slice 0 1 (pre ++ rows.map intsV)) ∧ s'.log = encA [] ∧ s'.stp = s.stp ∧ s'.bx = s.bx
  | [], [], pre, s, _, _, _, _, ht, hl => ⟨s, Wk.refl s, by simpa [srefs] using ht, hl, rfl, rfl⟩
  | b :: rbs, r :: rows, pre, s, hn, hlen, hm, hpre, ht, hl => by
    have hlen' : rbs.length = rows.length := by simpa using hlen
    have hrl : r.length = m := hm r (by simp)
    have h1 : ∀ y ∈ pre ++ srefs m (b :: rbs), cells y = [y] := fun y hy => by
      rcases List.mem_append.1 hy with hy | hy
      · exact hpre y hy
      · obtain ⟨_, _, rfl⟩ := List.mem_map.1 hy; rfl
    have w1 := Wk.closeIn (E := E) (S0 := S0) (l0 := l0) (s0 := s0) (A := arn (b :: rbs) (r :: rows)) hE (s := s) (t := t) (r := 0) (blk := b) (cap := m) (sz := 1) (j := pre.length) (cs := r.map I) (xs := r.map I) (ys := pre ++ srefs m (b :: rbs)) ht
      (by rw [List.length_map, hrl, List.getElem?_append_right (Nat.le_refl _), Nat.sub_self]; rfl) hl (by simp [arn]) (by omega) (by rw [List.length_map, hrl]; exact Nat.le_refl _) (fun x hx => by obtain ⟨_, _, rfl⟩ := List.mem_map.1 hx; rfl)
      (by rw [Nat.mul_one, List.take_length]; induction r with
          | nil => rfl
          | cons a r _ => rw [List.flatMap_def, List.map_map]; induction (a :: r) with
            | nil => rfl
            | cons a r ih => simp [cells] at ih ⊢; exact ih) h1
    have eset : (pre ++ srefs m (b :: rbs)).set pre.length (.slice 0 1 (r.map I)) = (pre ++ [intsV r]) ++ srefs m rbs := by
      rw [List.set_append_right _ _ (Nat.le_refl _), Nat.sub_self]
      simp [srefs, intsV]
    rw [eset, arn_drop hn hlen'] at w1
    rw [List.nodup_cons] at hn
    obtain ⟨s', w2, g1, g2, g3, g4⟩ := closeRows hE (t := t) rbs rows (pre ++ [intsV r]) hn.2 hlen' (fun q hq => hm q (by simp [hq])) (fun y hy => by
      rcases List.mem_append.1 hy with hy | hy
      · exact hpre y hy
      · rw [List.mem_singleton.1 hy]; rfl) (s := { s.put (some t) (.slice 0 1 ((pre ++ [intsV r]) ++ srefs m rbs)) with log := encA (arn rbs rows) }) (by show Am.get ((t, _) :: s.env) t = _; simp [Am.get]) rfl
    exact ⟨s', w1.trans w2, by rw [g1]; simp, g2, by rw [g3]; rfl, by rw [g4]; rfl⟩

end
end Go.Proofs.YtdejdblopmfjfaaDoor


/-! Contracts: surely; counting. -/
set_option linter.unusedVariables false
set_option linter.unusedSimpArgs false
set_option maxRecDepth 40000
set_option maxHeartbeats 4000000
namespace Go.Proofs.YtdejdblopmfjfaaDoor
open Go.Am
attribute [local simp] cells scalar mkv splice under2 under dem dem1 eB gridC sB laidC
def sureL : List (Int × Int) → List (Int × Int)
  | [c] => if c = noneC then [] else [c]
  | _ => []
def sureT (L : Ld) (t : Nat) : List (Int × Int) := sureL (hitsT L t)

theorem c_surely {L : Ld} (hL : LdOk L) {t : Nat} (ht : t < L.traces.length) : C Tryd.prog F.bin_laid_surely [.agg (laidC L), I (t : Nat)] (sB (sureT L t)) := by
  have kc := c_hits hL ht
  unfold sureT
  generalize hitsT L t = l at kc
  refine C_of mixed chk.bin_laid_surely (by simp) fun S ok => ?_
  refine Tr.seqR rfl (by simp) (Tr.seq (Tr.seqC rfl (by simp) (Steps.call rfl rfl kc (Steps.fin rfl (by simp) ?_))))
  rcases l with _ | ⟨c, _ | ⟨c2, r⟩⟩
  · refine Tr.seq (Tr.drawK (TraceK.runN 7 rfl (by simp) (TraceK.ggload (g := 0) (cs := [I (-1), I (-1)]) (gb := false) (by simp [globalsV]) rfl rfl rfl (by simp) ?_)))
    refine .done ⟨by kernel_rfl, by kernel_rfl, Steps.off (want := true) (.bool true) rfl rfl rfl (Steps.fin rfl (by simp) ?_)⟩
    refine Tr.condF rfl (Tr.skip (Tr.seqR rfl (by simp) ?_))
    refine Tr.weak (s' := { env := [(4, .slice 0 2 [])], bx := [], rw := [], log := [], stp := false }) (Wk.le (.cons rfl (.nil 0 2) .nil) .nil .nil rfl rfl) ?_
    exact Tr.retX rfl rfl rfl rfl trivial
  · refine Tr.seq (Tr.drawK (TraceK.runN 7 rfl (by simp) (TraceK.ggload (g := 0) (cs := [I (-1), I (-1)]) (gb := true) (by simp [globalsV]) rfl rfl rfl (by simp) ?_)))
    refine TraceK.run rfl (by simp) (.done ⟨by kernel_rfl, by kernel_rfl, Steps.fin rfl (by simp) ?_⟩)
    refine Tr.cond rfl rfl (fun h => ?_) (fun h => Tr.skip ?_)
    · have hc : c ≠ noneC := by
        rintro rfl
        revert h
        show (!((((-1 : Int) == -1) && ((-1 : Int) == -1)) : Bool)) = true → False
        decide
      refine Tr.seqR rfl (by simp) (Tr.retX rfl rfl rfl ?_ trivial)
      simp [sureL, hc, packR]
    · have hc : c = noneC := by
        have h : (!((c.1 == -1) && (c.2 == -1))) = false := by simpa using h
        simp at h
        exact Prod.ext h.1 h.2
      refine Tr.seqR rfl (by simp) ?_
      refine Tr.weak (s' := { env := [(4, .slice 0 2 [])], bx := [], rw := [], log := [], stp := false }) (Wk.le (.cons rfl (.nil 0 2) .nil) .nil .nil rfl rfl) ?_
      refine Tr.retX rfl rfl rfl ?_ trivial
      simp [sureL, hc, packR]
  · have hne : ((((c :: c2 :: r : List (Int × Int)).map eB).length : Int) == 1) = false := by
      rw [beq_eq_false_iff_ne]; simp; omega
    refine Tr.seq (Tr.drawK (TraceK.runN 4 rfl (by simp) ?_))
    refine TraceK.runN 3 rfl (by simp; omega) (TraceK.ggload (g := 0) (cs := [I (-1), I (-1)]) (by simp [globalsV]) rfl rfl rfl (by simp) ?_)
    refine .done ⟨by kernel_rfl, by kernel_rfl, Steps.off (want := true) (.bool true) rfl rfl (congrArg some hne) (Steps.fin rfl (by simp; omega) ?_)⟩
    refine Tr.cond rfl rfl (fun h => ?_) (fun h => Tr.skip (Tr.seqR rfl (by simp) ?_))
    · have h : (bif ((((c :: c2 :: r : List (Int × Int)).map eB).length : Int) == 1) then true else false) = true := h
      rw [hne] at h; cases h
    refine Tr.weak (s' := { env := [(4, .slice 0 2 [])], bx := [], rw := [], log := [], stp := false }) (Wk.le (.cons rfl (.nil 0 2) .nil) .nil .nil rfl rfl) ?_
    exact Tr.retX rfl rfl rfl rfl trivial

end Go.Proofs.YtdejdblopmfjfaaDoor


/-! Plain laws of cells: the order of the places; what moves with the grid. -/
set_option linter.unusedVariables false
set_option linter.unusedSimpArgs false
set_option maxRecDepth 40000
set_option maxHeartbeats 4000000
namespace Go.Proofs.YtdejdblopmfjfaaDoor
open Go.Am

/-- A cell is one of the grid, or none. -/
theorem cell_in {g : Gd} (hg : gridOk g = true) (a b : Int × Int) : cellN g a b = noneC ∨ inG g (cellN g a b) := by
  obtain ⟨_, _, ha, hd, hc, _⟩ := gridOk_spec hg
  unfold cellN
  split
  · rename_i h
    rw [Bool.and_eq_true, btw_iff, btw_iff] at h
    split
    · rename_i i hi
      have := clsAt_bd _ _ _ hi
      have m1 : 0 ≤ rowN g a b * g.a := Int.mul_nonneg (by omega) (by omega)
      have m2 : rowN g a b * g.a ≤ (g.d - 1) * g.a := Int.mul_le_mul_of_nonneg_right (by omega) (by omega)
      rw [Int.sub_mul, Int.mul_comm g.d g.a] at m2
      refine .inr ⟨⟨?_, ?_⟩, ?_, ?_⟩ <;> simp only <;> omega
    · exact .inl rfl
  · exact .inl rfl

theorem nBins_eq {g : Gd} (hg : gridOk g = true) : (nBins g : Int) = g.a * g.d ∧ 1 ≤ nBins g ∧ nBins g ≤ 256 := by
  obtain ⟨_, _, ha, hd, hc, _⟩ := gridOk_spec hg
  have h1 : 1 * 1 ≤ g.a * g.d := Int.mul_le_mul (by omega) (by omega) (by omega) (by omega)
  have h2 : g.a * g.d ≤ 16 * 16 := Int.mul_le_mul (by omega) (by omega) (by omega) (by omega)
  unfold nBins
  omega

theorem inG_nat {g : Gd} (hg : gridOk g = true) {c : Int × Int} (h : inG g c) : ∃ b k : Nat, c = ((b : Int), (k : Int)) ∧ b < nBins g ∧ k < g.cls.length := by
  obtain ⟨⟨h1, h2⟩, h3, h4⟩ := h
  have := (nBins_eq hg).1
  exact ⟨c.1.toNat, c.2.toNat, Prod.ext (by simp; omega) (by simp; omega), by omega, by omega⟩

end Go.Proofs.YtdejdblopmfjfaaDoor


/-! Contracts: counting. -/
set_option linter.unusedVariables false
set_option linter.unusedSimpArgs false
set_option maxRecDepth 40000
set_option maxHeartbeats 4000000
namespace Go.Proofs.YtdejdblopmfjfaaDoor
open Go.Am
attribute [local simp] cells scalar mkv splice under2 under dem dem1 eB gridC sB laidC
def rowsB (m : Nat) (rbs : List Nat) (k : Nat) : List V := (rbs.map fun b => V.sref b 0 m m) ++ List.replicate k .nils

theorem rowsB_refs (m : Nat) (rbs : List Nat) (k : Nat) (B : Nat → Bool) (R : Nat → Option (Nat × Nat × Nat)) : (rowsB m rbs k).all (refsOk B R 6) = true := by
  rw [List.all_eq_true]
  intro x hx
  rcases List.mem_append.1 hx with hx | hx
  · obtain ⟨_, _, rfl⟩ := List.mem_map.1 hx; rfl
  · rw [List.eq_of_mem_replicate hx]; rfl

theorem okRows {j m k : Nat} {rbs : List Nat} {env : List (Nat × V)} {bx : List (Nat × Box)} {rw : List (Nat × Nat × Nat × Nat)} (h : okRefs env ((j, ⟨[], false⟩) :: bx) rw = true) : okRefs env ((j, ⟨rowsB m rbs k, false⟩) :: bx) rw = true := by
  have e : hasKey ((j, (⟨rowsB m rbs k, false⟩ : Box)) :: bx) = hasKey ((j, (⟨[], false⟩ : Box)) :: bx) := rfl
  unfold okRefs at h ⊢
  rw [e]
  rw [Bool.and_eq_true] at h ⊢
  refine ⟨h.1, ?_⟩
  have h2 := h.2
  rw [List.all_cons, Bool.and_eq_true] at h2 ⊢
  exact ⟨rowsB_refs _ _ _ _ _, h2.2⟩

theorem rowsB_len (m : Nat) (rbs : List Nat) (k : Nat) : (rowsB m rbs k).length = rbs.length + k := by simp [rowsB]

theorem rowsB_set (m : Nat) (rbs : List Nat) (k b : Nat) : (rowsB m rbs (k + 1)).set rbs.length (.sref b 0 m m) = rowsB m (rbs ++ [b]) k := by
  unfold rowsB
  rw [List.set_append_right _ _ (by simp), List.length_map, Nat.sub_self, List.replicate_succ]
  simp

theorem rowsB_flat (m : Nat) (rbs : List Nat) : ∀ l : List V, l = (rbs.map fun b => V.sref b 0 m m) → l.flatMap cells = l := by
  induction rbs with
  | nil => rintro l rfl; rfl
  | cons b r ih => rintro l rfl; rw [List.map_cons, List.flatMap_cons, ih _ rfl]; rfl

theorem rowsB_holds (m : Nat) (rbs : List Nat) : Holds (rowsB m rbs 0) 0 1 rbs.length (rbs.map fun b => V.sref b 0 m m) := by
  refine ⟨by omega, by simp, fun x hx => ?_, ?_, fun x hx => ?_⟩
  · obtain ⟨_, _, rfl⟩ := List.mem_map.1 hx; rfl
  · rw [rowsB_flat m rbs _ rfl]; simp [rowsB, List.take_of_length_le]
  · obtain ⟨_, _, rfl⟩ := List.mem_map.1 hx; rfl

theorem allH_succ (h : Nat → List (Int × Int)) (k : Nat) : allH h (k + 1) = allH h k ++ h k := by
  unfold allH; rw [List.range_succ, List.flatMap_append]; simp

theorem count_bd {L : Ld} {h : Nat → List (Int × Int)} (hn : L.traces.length ≤ 64) (hr : ∀ t < L.traces.length, (h t).length ≤ 4096) : ∀ k ≤ L.traces.length, (allH h k).length ≤ k * 4096
  | 0, _ => by simp [allH]
  | k + 1, hk => by
    have := count_bd hn hr k (by omega)
    have h2 := hr k (by omega)
    rw [allH_succ, List.length_append]; omega

theorem splice_set {cs : List V} {i : Nat} (h : i < cs.length) (v : V) : splice cs i [v] = cs.set i v := by
  rw [List.set_eq_take_append_cons_drop, if_pos h]; simp [splice]

theorem c_count {L : Ld} (hL : LdOk L) {f : FuncId} {h : Nat → List (Int × Int)} (hf : ∀ t < L.traces.length, C Tryd.prog f [.agg (laidC L), I (t : Nat)] (sB (h t))) (hr : ∀ t < L.traces.length, (h t).length ≤ 4096 ∧ ∀ c ∈ h t, c = noneC ∨ inG L.g c) :
    C Tryd.prog F.bin_laid_count [.agg (laidC L), .func (.func f) [.agg (laidC L)] []] (foldV (cntN L h)) := by
  obtain ⟨_, hsz, hga, hgd, hcl, _⟩ := gridOk_spec hL.g
  have nb := nBins_eq hL.g
  have hab : IntKind.wrap .i64 (L.g.a * L.g.d) = (nBins L.g : Int) := by rw [nb.1]; exact w64 (by omega) (by omega)
  refine C_of mixed chk.bin_laid_count (by simp) fun S ok => ?_
  refine Tr.arena rfl rfl ?_
  have hA := InA.main (E := env0 Tryd.prog mixed 63 S ok) [] false
  refine Tr.seqR rfl (by simp) ?_
  refine Tr.seqR rfl (by simp; omega) ?_
  refine Tr.seq (Tr.seqR rfl (by simp) (Tr.block ?_))
  refine Tr.loop (α := Nat × List Nat) (fun p st => (p.1 ≤ nBins L.g ∧ p.2.length = p.1 ∧ p.2.Nodup) ∧
      st = { env := [(1, .func (.func f) [.agg (laidC L)] []), (2, .ptr 2 0), (5, .bsl 17 0 1 (nBins L.g)), (18, .bsl 17 0 1 (nBins L.g)), (19, I (nBins L.g : Nat)), (20, I (p.1 : Nat))], bx := [(17, ⟨rowsB L.g.cls.length p.2 (nBins L.g - p.1), false⟩), (2, ⟨laidC L, false⟩)], rw := [], log := encA (arn p.2 ((List.range p.1).map (cntRow L.g.cls.length []))), stp := false }) (fun p => nBins L.g - p.1) (0, [])
    (Wk.leL (.cons rfl (.refl _) (.cons rfl (.refl _) (.cons rfl (.of_eq ?_) (.cons rfl (.of_eq ?_) (.cons rfl (VLe.i ?_) (.cons rfl (.refl _) .nil)))))) (.cons rfl ?_ (.cons rfl (LLe.refl _) .nil)) .nil (okRows rfl) rfl rfl) ⟨⟨by omega, rfl, List.Pairwise.nil⟩, rfl⟩ ?_
  · show V.bsl 17 0 1 (IntKind.wrap .i64 (L.g.a * L.g.d)).toNat = _
    rw [hab]; rfl
  · show V.bsl 17 0 1 (IntKind.wrap .i64 (L.g.a * L.g.d)).toNat = _
    rw [hab]; rfl
  · rw [hab]; rfl
  · show LLe (List.replicate (IntKind.wrap .i64 (L.g.a * L.g.d)).toNat [V.nils]).flatten _
    rw [hab]
    have e : (List.replicate (nBins L.g) [V.nils]).flatten = rowsB L.g.cls.length [] (nBins L.g - 0) := by simp [rowsB]
    rw [Int.toNat_natCast, e]; exact LLe.refl _
  rintro ⟨k, rbs⟩ st ⟨⟨hk, hlen, hnd⟩, rfl⟩
  simp only at hk hlen hnd
  have hlr : rbs.length = ((List.range k).map (cntRow L.g.cls.length [])).length := by simp [hlen]
  refine Tr.seqR rfl (by simp) (Tr.seqI rfl (fun h1 => ?_) (fun h1 => ?_))
  · have h1 : k < nBins L.g := by simpa using h1
    refine Tr.skipT (Tr.seq (Tr.block (Tr.seqR rfl (by simp) (Tr.reg ?_))))
    refine Steps.runN 6 rfl (by simp) (Steps.amkbox hA (N := L.g.cls.length) rfl (by simp) (by simp) (by omega) (by omega) (by omega) rfl fun b hb => ?_)
    rw [arn_keys hlr] at hb
    refine Steps.fin rfl (by simp [rowsB_len, hlen]; omega) (Tr.regR rfl (by simp) ?_)
    have ez : (List.replicate L.g.cls.length [I 0]).flatten = (cntRow L.g.cls.length [] k).map I := by
      have : cntRow L.g.cls.length [] k = List.replicate L.g.cls.length 0 := by
        refine List.ext_getElem (by simp [cntRow]) fun i h1 h2 => by simp [cntRow]
      rw [this]; simp
    have eA : arn (rbs ++ [b]) ((List.range (k + 1)).map (cntRow L.g.cls.length [])) = arn rbs ((List.range k).map (cntRow L.g.cls.length [])) ++ [(b, .cells ((cntRow L.g.cls.length [] k).map I))] := by
      rw [List.range_succ, List.map_append]; exact arn_snoc _ _ hlr
    have hnd2 : (rbs ++ [b]).Nodup := by
      rw [List.nodup_append]
      exact ⟨hnd, by simp, fun x hx y hy e => by rw [List.mem_singleton.1 hy] at e; exact hb (e ▸ hx)⟩
    refine ⟨(k + 1, rbs ++ [b]), _, Wk.trans (Wk.leL (env := [(1, .func (.func f) [.agg (laidC L)] []), (2, .ptr 2 0), (5, .bsl 17 0 1 (nBins L.g)), (18, .bsl 17 0 1 (nBins L.g)), (19, I (nBins L.g : Nat)), (20, I ((k + 1 : Nat) : Int))]) (bx := [(17, ⟨rowsB L.g.cls.length (rbs ++ [b]) (nBins L.g - (k + 1)), false⟩), (2, ⟨laidC L, false⟩)]) (rw := [])
        (.cons rfl (.refl _) (.cons rfl (.refl _) (.cons rfl (.refl _) (.cons rfl (.refl _) (.cons rfl (.refl _) (.cons rfl (VLe.i (w64 (by omega) (by omega))) .nil)))))) (.cons rfl ?_ (.cons rfl (LLe.refl _) .nil)) .nil (okRows rfl) rfl rfl) (Wk.keep hA (B := arn (rbs ++ [b]) ((List.range (k + 1)).map (cntRow L.g.cls.length []))) rfl ?_ ?_), ⟨⟨by simp only; omega, by simp [hlen], hnd2⟩, rfl⟩, by simp only; omega⟩
    · have e1 : nBins L.g - k = (nBins L.g - (k + 1)) + 1 := by omega
      have e2 : (0 : Nat) + ((k : Nat) : Int).toNat * 1 = rbs.length := by simp [hlen]
      show LLe (splice (rowsB L.g.cls.length rbs (nBins L.g - k)) (0 + ((k : Nat) : Int).toNat * 1) [.sref b 0 L.g.cls.length L.g.cls.length]) _
      rw [e1, e2, splice_set (by rw [rowsB_len]; omega), rowsB_set]; exact LLe.refl _
    · intro p hp
      rw [eA] at hp
      rcases List.mem_append.1 hp with hp | hp
      · exact List.mem_cons_of_mem _ hp
      · rw [List.mem_singleton.1 hp, ez]; exact List.mem_cons_self
    · rw [arn_keys (by simp [hlen])]; exact hnd2
  have h1 : k = nBins L.g := by simp at h1; omega
  subst h1
  clear hlr
  refine Tr.exit ?_
  refine Tr.weak (s' := { env := [(1, .func (.func f) [.agg (laidC L)] []), (2, .ptr 2 0), (5, .bsl 17 0 1 rbs.length)], bx := [(17, ⟨rowsB L.g.cls.length rbs 0, false⟩), (2, ⟨laidC L, false⟩)], rw := [], log := encA (arn rbs (countL L.g (allH h 0))), stp := false })
    (Wk.leL (.cons rfl (.refl _) (.cons rfl (.refl _) (.cons rfl (.of_eq (by rw [hlen])) .nil))) (.cons rfl (by rw [Nat.sub_self]; exact LLe.refl _) (.cons rfl (LLe.refl _) .nil)) .nil (okRows rfl) rfl rfl) ?_
  refine Tr.weak (Wk.bsl (t := 5) rfl rfl (rowsB_holds _ _)) ?_
  refine Tr.seq (Tr.seqR rfl (by simp) (Tr.block ?_))
  refine Tr.loop (fun (k : Nat) st => k ≤ L.traces.length ∧ st = { env := [(1, .func (.func f) [.agg (laidC L)] []), (2, .ptr 2 0), (5, .slice 0 1 (rbs.map fun b => V.sref b 0 L.g.cls.length L.g.cls.length)), (33, sB L.traces), (34, I (L.traces.length : Nat)), (35, I (k : Nat))], bx := [(2, ⟨laidC L, false⟩)], rw := [], log := encA (arn rbs (countL L.g (allH h k))), stp := false }) (fun k => L.traces.length - k) 0
    (Wk.leL (.cons rfl (.refl _) (.cons rfl (.refl _) (.cons rfl (.refl _) (.cons rfl (.refl _) (.cons rfl (VLe.i (by simp)) (.cons rfl (.refl _) .nil)))))) (.cons rfl (LLe.refl _) .nil) .nil rfl rfl rfl) ⟨by omega, rfl⟩ ?_
  rintro k st ⟨hk, rfl⟩
  refine Tr.seqR rfl (by simp) (Tr.seqI rfl (fun h1 => ?_) (fun h1 => ?_))
  · have h1 : k < L.traces.length := by simpa using h1
    have hb := count_bd hL.t (fun t ht => (hr t ht).1) k hk
    have hr1 := hr k h1
    have hLt := hL.t
    refine Tr.skipT (Tr.seq (Tr.block (Tr.seqR rfl (by simp) (Tr.seqC rfl (by simp) (Steps.callv rfl rfl (hf k h1) (Steps.fin rfl (by simp) (Tr.block ?_)))))))
    refine Tr.loop (fun (j : Nat) st => j ≤ (h k).length ∧ st = { env := [(1, .func (.func f) [.agg (laidC L)] []), (2, .ptr 2 0), (5, .slice 0 1 (rbs.map fun b => V.sref b 0 L.g.cls.length L.g.cls.length)), (33, sB L.traces), (34, I (L.traces.length : Nat)), (35, I (k : Nat)), (40, sB (h k)), (41, I ((h k).length : Nat)), (42, I (j : Nat))], bx := [(2, ⟨laidC L, false⟩)], rw := [], log := encA (arn rbs (countL L.g (allH h k ++ (h k).take j))), stp := false }) (fun j => (h k).length - j) 0
      (Wk.leL (.cons rfl (.refl _) (.cons rfl (.refl _) (.cons rfl (.refl _) (.cons rfl (.refl _) (.cons rfl (.refl _) (.cons rfl (.refl _) (.cons rfl (.refl _) (.cons rfl (VLe.i (by simp)) (.cons rfl (.refl _) .nil))))))))) (.cons rfl (LLe.refl _) .nil) .nil rfl rfl (by show encA (arn rbs (countL L.g (allH h k))) = _; rw [List.take_zero, List.append_nil])) ⟨by omega, rfl⟩ ?_
    rintro j st ⟨hj, rfl⟩
    refine Tr.seqR rfl (by simp) (Tr.seqI rfl (fun h2 => ?_) (fun h2 => ?_))
    · have h2 : j < (h k).length := by simpa using h2
      refine Tr.skipT (Tr.seq (Tr.block (Tr.seq (Tr.reg (Steps.runN 1 rfl (by simp; omega) ?_)))))
      rw [getD_map h2]
      refine Steps.fin rfl (by simp) ?_
      refine Tr.seq (Tr.reg (Steps.runN 1 rfl (by simp) (Steps.gload (g := 0) (cs := [I (-1), I (-1)]) (by simp [globalsV]) rfl (by simp) (Steps.fin rfl (by simp) ?_))))
      have hmem := List.getElem_mem h2
      have eT : (h k).take (j + 1) = (h k).take j ++ [(h k)[j]] := by rw [List.take_add_one, List.getElem?_eq_getElem h2]; rfl
      obtain ⟨c, hc⟩ : ∃ c, (h k)[j] = c := ⟨_, rfl⟩
      rw [hc] at hmem eT ⊢
      rcases hr1.2 c hmem with rfl | hin
      · refine Tr.condF rfl (Tr.skip (Tr.regR rfl (by simp) ?_))
        exact ⟨j + 1, _, Wk.leL (.cons rfl (.refl _) (.cons rfl (.refl _) (.cons rfl (.refl _) (.cons rfl (.refl _) (.cons rfl (.refl _) (.cons rfl (.refl _) (.cons rfl (.refl _) (.cons rfl (.refl _) (.cons rfl (VLe.i (w64 (by omega) (by omega))) .nil))))))))) (.cons rfl (LLe.refl _) .nil) .nil rfl rfl (by rw [eT, ← List.append_assoc, countL_none]; rfl), ⟨by omega, rfl⟩, by omega⟩
      · obtain ⟨b, q, rfl, hbb, hq⟩ := inG_nat hL.g hin
        have hbl : b < rbs.length := by omega
        obtain ⟨P, hP⟩ : ∃ P, allH h k ++ (h k).take j = P := ⟨_, rfl⟩
        have hPl : P.length ≤ 300000 := by
          have h3 : ((h k).take j).length ≤ 4096 := by simp; omega
          rw [← hP, List.length_append]; omega
        obtain ⟨n0, hn0⟩ : ∃ n0, P.count ((b : Int), (q : Int)) = n0 := ⟨_, rfl⟩
        have hn1 : n0 ≤ 300000 := by rw [← hn0]; exact Nat.le_trans List.count_le_length hPl
        have hcl2 := countL_len L.g P
        have hrow := countL_get (P := P) hbb
        have hcell : ((cntRow L.g.cls.length P b).map I)[q]? = some (I n0) := by rw [List.getElem?_map, cntRow_get hq, hn0]; rfl
        have hrb : rbs[b]? = some rbs[b] := List.getElem?_eq_getElem hbl
        have hmA := arn_mem (rbs := rbs) hrb hrow
        rw [hP]
        refine Tr.condT rfl ?_
        refine Tr.drawK (TraceK.runN 4 rfl (by simp; omega) ?_)
        rw [getD_map hbl]
        refine TraceK.runN 3 rfl (by simp) (.done ⟨by kernel_rfl, by kernel_rfl, ?_⟩)
        refine Steps.sidx (blk := rbs[b]) (off := 0) (j := q) rfl rfl hq ?_
        refine Steps.aload hA (v := I n0) rfl rfl hmA (by simpa using hcell) (Steps.runN 1 rfl (by simp) ?_)
        refine Steps.sidx (blk := rbs[b]) (off := 0) (j := q) rfl rfl hq ?_
        refine Steps.astore hA rfl rfl hmA (by simp [cntRow_len]; omega) rfl rfl (Steps.fin rfl (by simp) ?_)
        have eL : setA (arn rbs (countL L.g P)) rbs[b] (.cells (((cntRow L.g.cls.length P b).map I).set (0 + q * 1) (I (IntKind.wrap .i64 ((n0 : Int) + 1))))) = arn rbs (countL L.g (P ++ [((b : Int), (q : Int))])) := by
          rw [countL_on hbb hq, hn0, w64 (by omega) (by omega), ← arn_set _ hnd (by rw [hcl2, hlen]) hrb, List.map_set, Nat.zero_add, Nat.mul_one]
        refine Tr.regR rfl (by simp) ?_
        exact ⟨j + 1, _, Wk.leL (.cons rfl (.refl _) (.cons rfl (.refl _) (.cons rfl (.refl _) (.cons rfl (.refl _) (.cons rfl (.refl _) (.cons rfl (.refl _) (.cons rfl (.refl _) (.cons rfl (.refl _) (.cons rfl (VLe.i (w64 (by omega) (by omega))) .nil))))))))) (.cons rfl (LLe.refl _) .nil) .nil rfl rfl (by rw [eT, ← List.append_assoc, hP, ← eL]; rfl), ⟨by omega, rfl⟩, by omega⟩
    · have h2 : j = (h k).length := by simp at h2; omega
      subst h2
      refine Tr.exit (Tr.regR rfl (by simp) ?_)
      exact ⟨k + 1, _, Wk.leL (.cons rfl (.refl _) (.cons rfl (.refl _) (.cons rfl (.refl _) (.cons rfl (.refl _) (.cons rfl (.refl _) (.cons rfl (VLe.i (w64 (by omega) (by omega))) .nil)))))) (.cons rfl (LLe.refl _) .nil) .nil rfl rfl (by rw [allH_succ, List.take_length]; rfl), ⟨by omega, rfl⟩, by omega⟩
  · have h1 : k = L.traces.length := by simp at h1; omega
    subst h1
    refine Tr.exit (Tr.seqR rfl (by simp) ?_)
    obtain ⟨s', w1, g1, g2, g3, g4⟩ := closeRows hA (t := 4) (m := L.g.cls.length) rbs (countL L.g (allH h L.traces.length)) [] { env := [(4, .slice 0 1 (srefs L.g.cls.length rbs))], bx := [], rw := [], log := encA (arn rbs (countL L.g (allH h L.traces.length))), stp := false } hnd (by rw [countL_len, hlen])
      (fun r hr => by obtain ⟨b, _, rfl⟩ := List.mem_map.1 hr; exact cntRow_len _ _ _) (by simp) rfl rfl
    have w2 := Wk.leL (E := (env0 Tryd.prog mixed 63 S ok).withA [] false) (s := s') (env := [(4, foldV (cntN L h))]) (bx := []) (rw := []) (.cons g1 (.of_eq rfl) .nil) .nil .nil rfl rfl g2
    refine Tr.weak (s' := { env := [(4, .slice 0 1 (srefs L.g.cls.length rbs))], bx := [], rw := [], log := encA (arn rbs (countL L.g (allH h L.traces.length))), stp := false }) (Wk.le (.cons rfl (.refl _) .nil) .nil .nil rfl rfl) ?_
    refine Tr.weak (w1.trans w2) ?_
    exact Tr.ret ⟨trivial, _, _, _, resVs_ok rfl, rfl, rfl⟩

end Go.Proofs.YtdejdblopmfjfaaDoor


/-! Contracts: Hits, Fold. -/
set_option linter.unusedVariables false
set_option linter.unusedSimpArgs false
set_option maxRecDepth 40000
set_option maxHeartbeats 4000000
namespace Go.Proofs.YtdejdblopmfjfaaDoor
open Go.Am
attribute [local simp] cells scalar mkv splice under2 under dem dem1 eB gridC sB laidC fourC eF layC
theorem mem_ptsN {x : Int} {q : Int × Int} : ∀ (n : Nat) (y : Int), q ∈ ptsN x n y ↔ q.1 = x ∧ y ≤ q.2 ∧ q.2 < y + n
  | 0, y => by simp [ptsN]
  | n + 1, y => by
    rw [ptsN, List.mem_cons, mem_ptsN n (y + 1)]
    constructor
    · rintro (rfl | ⟨h1, h2, h3⟩)
      · simp; omega
      · refine ⟨h1, ?_, ?_⟩ <;> push_cast <;> omega
    · rintro ⟨h1, h2, h3⟩
      push_cast at h3
      by_cases h : q.2 = y
      · exact .inl (Prod.ext h1 h)
      · exact .inr ⟨h1, by omega, by omega⟩

theorem mem_rowsN {f : Fr} {q : Int × Int} : ∀ (n : Nat) (x : Int), q ∈ (rowsN f n x).flatMap colP ↔ (x ≤ q.1 ∧ q.1 < x + n) ∧ lowY f q.1 ≤ q.2 ∧ q.2 ≤ highY f q.1
  | 0, x => by simp [rowsN]; omega
  | n + 1, x => by
    rw [rowsN_flat, List.mem_append, mem_rowsN n (x + 1)]
    unfold colAt
    rw [mem_ptsN]
    constructor
    · rintro (⟨h1, h2, h3⟩ | ⟨⟨h1, h2⟩, h3⟩)
      · subst h1
        refine ⟨⟨by omega, by push_cast; omega⟩, by omega, by omega⟩
      · exact ⟨⟨by omega, by push_cast; omega⟩, h3⟩
    · rintro ⟨⟨h1, h2⟩, h3, h4⟩
      push_cast at h2
      by_cases h : q.1 = x
      · subst h; exact .inl ⟨rfl, by omega, by omega⟩
      · exact .inr ⟨⟨by omega, by omega⟩, h3, h4⟩

theorem mem_placesL {f : Fr} {q : Int × Int} : q ∈ placesL f ↔ (f.x.1 ≤ q.1 ∧ q.1 ≤ f.x.2) ∧ lowY f q.1 ≤ q.2 ∧ q.2 ≤ highY f q.1 := by
  unfold placesL rowsL
  rw [mem_rowsN]
  constructor
  · rintro ⟨⟨h1, h2⟩, h3⟩; exact ⟨⟨h1, by omega⟩, h3⟩
  · rintro ⟨⟨h1, h2⟩, h3⟩; exact ⟨⟨h1, by omega⟩, h3⟩

theorem node_plane {f : Fr} (h : nodeOk f = true) {q : Int × Int} (hq : q ∈ placesL f) : planeB q = true := by
  simp only [nodeOk, Bool.and_eq_true, fitFB, fitBB, decide_eq_true_eq] at h
  have := mem_placesL.1 hq
  simp only [planeB, Bool.and_eq_true, btw_iff]
  unfold lowY highY at this
  omega

theorem lay_ok {g : Gd} {s : Ly} (hg : gridOk g = true) (hs : layOk s = true) : LdOk (layD g s) := by
  obtain ⟨⟨h1, h2⟩, h3, h4⟩ := layOk_spec hs
  refine ⟨hg, by simpa [layD] using h1, h2, fun l hl => ?_, fun t ht => ?_⟩
  · obtain ⟨f, hf, rfl⟩ := List.mem_map.1 hl
    have hn := h3 f hf
    have hn2 := hn
    simp only [nodeOk, Bool.and_eq_true, btw_iff] at hn2
    have := count_len (mid_of hn2.1)
    exact ⟨⟨by omega, by omega⟩, fun q hq => node_plane hn hq⟩
  · have := h4 t ht
    simp only [traceOk, Bool.and_eq_true, btw_iff] at this
    refine ⟨t.1.toNat, t.2.toNat, Prod.ext (by simp; omega) (by simp; omega), ?_, ?_⟩ <;> simp [layD] <;> omega

theorem hits_in {L : Ld} (hL : LdOk L) {t : Nat} (ht : t < L.traces.length) : (hitsT L t).length ≤ 4096 ∧ ∀ c ∈ hitsT L t, c = noneC ∨ inG L.g c := by
  obtain ⟨i, j, hij, hi, hj⟩ := hL.tr _ (List.getElem_mem ht)
  have hT : hitsT L t = hitsL L.g L.places[i] L.places[j] := by
    unfold hitsT pl
    have e : L.traces.getD t (0, 0) = ((i : Int), (j : Int)) := by simp [ht, hij]
    rw [e]
    simp [hi, hj]
  have hpi := (hL.p _ (List.getElem_mem hi)).1
  have hpj := (hL.p _ (List.getElem_mem hj)).1
  rw [hT]
  refine ⟨?_, fun c hc => ?_⟩
  · have n1 : (hitsL L.g L.places[i] L.places[j]).Nodup := by
      unfold List.Nodup hitsL
      exact (hitsOf_sorted _).imp fun {a b} h (e : a = b) => befC_irrefl (by rw [e] at h; exact h)
    have := n1.length_le_of_subset (l₂ := (pairsL L.places[i] L.places[j]).map (cellP L.g)) fun x hx => mem_hitsOf.1 hx
    rw [List.length_map, pairs_len] at this
    have h2 : L.places[i].length * L.places[j].length ≤ 64 * 64 := Nat.mul_le_mul (by omega) (by omega)
    omega
  · obtain ⟨p, _, rfl⟩ := List.mem_map.1 (mem_hitsOf.1 hc)
    exact cell_in hL.g p.1 p.2

theorem sureL_sub {l : List (Int × Int)} : (∀ c ∈ sureL l, c ∈ l ∧ c ≠ noneC) ∧ (sureL l).length ≤ l.length ∧ (sureL l).length ≤ 1 := by
  rcases l with _ | ⟨c, _ | ⟨d, r⟩⟩
  · simp [sureL]
  · simp only [sureL]
    split <;> simp_all
  · simp [sureL]

theorem sure_in {L : Ld} (hL : LdOk L) {t : Nat} (ht : t < L.traces.length) : (sureT L t).length ≤ 4096 ∧ ∀ c ∈ sureT L t, c = noneC ∨ inG L.g c := by
  obtain ⟨h1, h2⟩ := hits_in hL ht
  have h3 := sureL_sub (l := hitsT L t)
  exact ⟨by unfold sureT; omega, fun c hc => h2 c (h3.1 c hc).1⟩

theorem c_countS {L : Ld} (hL : LdOk L) : C Tryd.prog F.bin_laid_count [.agg (laidC L), .func (.func F.bin_laid_surely) [.agg (laidC L)] []] (foldV (cntN L (sureT L))) :=
  c_count hL (fun t ht => c_surely hL ht) fun t ht => sure_in hL ht
theorem c_countM {L : Ld} (hL : LdOk L) : C Tryd.prog F.bin_laid_count [.agg (laidC L), .func (.func F.bin_laid_hits) [.agg (laidC L)] []] (foldV (cntN L (hitsT L))) :=
  c_count hL (fun t ht => c_hits hL ht) fun t ht => hits_in hL ht

/-! ### Hits -/
def HitsR (g : Gd) (s : Ly) (t : Int) : V := if gridOk g then (if layOk s then (if btw t 0 ((s.traces.length : Int) - 1) then .tuple [sB (hitsT (layD g s) t.toNat), I 0] else .tuple [sB [], I 72]) else .tuple [sB [], I 71]) else .tuple [sB [], I 70]

theorem c_Hits {g : Gd} {s : Ly} (hl : g.cls.length ≤ 9223372036854775807) (hn : s.nodes.length ≤ 9223372036854775807) (ht : s.traces.length ≤ 9223372036854775807) (t : Int) : C Tryd.prog F.bin_Hits [.agg (gridC g), .agg (layC s), I t] (HitsR g s t) := by
  have kb := c_begun hl hn ht
  unfold HitsR
  refine C_of mixed chk.bin_Hits (by simp) fun S ok => ?_
  refine Tr.seqR rfl (by simp) ?_
  by_cases hg : gridOk g = true
  rotate_left
  · rw [if_neg hg] at kb ⊢
    refine Tr.seqC rfl (by simp) (Steps.call rfl rfl kb (Steps.fin rfl (by simp) (Tr.seq (Tr.seqR rfl (by simp) (Tr.condT rfl (Tr.seqR rfl (by simp) ?_))))))
    refine Tr.weak (s' := { env := [(6, .slice 0 2 []), (7, I 70)], bx := [], rw := [], log := [], stp := false }) (Wk.le (.cons rfl (.nil 0 2) (.cons rfl (.refl _) .nil)) .nil .nil rfl rfl) ?_
    exact Tr.retX rfl rfl rfl rfl trivial
  rw [if_pos hg] at kb ⊢
  by_cases hs : layOk s = true
  rotate_left
  · rw [if_neg hs] at kb ⊢
    refine Tr.seqC rfl (by simp) (Steps.call rfl rfl kb (Steps.fin rfl (by simp) (Tr.seq (Tr.seqR rfl (by simp) (Tr.condT rfl (Tr.seqR rfl (by simp) ?_))))))
    refine Tr.weak (s' := { env := [(6, .slice 0 2 []), (7, I 71)], bx := [], rw := [], log := [], stp := false }) (Wk.le (.cons rfl (.nil 0 2) (.cons rfl (.refl _) .nil)) .nil .nil rfl rfl) ?_
    exact Tr.retX rfl rfl rfl rfl trivial
  rw [if_pos hs] at kb ⊢
  have hL := lay_ok hg hs
  have hts := (layOk_spec hs).1.2
  have hw : IntKind.wrap .i64 (((s.traces.map eB).length : Int) - 1) = (s.traces.length : Int) - 1 := by rw [List.length_map, w64 (by omega) (by omega)]
  refine Tr.seqC rfl (by simp) (Steps.call rfl rfl kb (Steps.fin rfl (by simp [laidC]) (Tr.seq (Tr.seqR rfl (by simp) (Tr.condF rfl (Tr.skip ?_))))))
  refine Tr.seq (Tr.seqC rfl (by simp) (Steps.call rfl rfl (c_within t 0 (IntKind.wrap .i64 (((s.traces.map eB).length : Int) - 1))) (Steps.fin rfl (by simp) ?_)))
  rw [hw]
  refine Tr.cond rfl rfl (fun h1 => Tr.seqR rfl (by simp) ?_) (fun h1 => Tr.skip ?_)
  · have h1 : btw t 0 ((s.traces.length : Int) - 1) = false := by simpa using h1
    refine Tr.weak (s' := { env := [(6, .slice 0 2 []), (7, I 72)], bx := [], rw := [], log := [], stp := false }) (Wk.le (.cons rfl (.nil 0 2) (.cons rfl (.refl _) .nil)) .nil .nil rfl rfl) ?_
    refine Tr.retX rfl rfl rfl ?_ trivial
    rw [h1]; rfl
  · have h1 : btw t 0 ((s.traces.length : Int) - 1) = true := by simpa using h1
    have h1' := h1
    rw [btw_iff] at h1'
    obtain ⟨n, rfl⟩ : ∃ n : Nat, t = n := ⟨t.toNat, by omega⟩
    refine Tr.seqC rfl (by simp [laidC, layD]) (Steps.call rfl rfl (c_hits hL (t := n) (by show n < s.traces.length; omega)) (Steps.fin rfl (by simp) (Tr.retX rfl rfl rfl ?_ trivial)))
    rw [h1]; rfl

/-! ### Fold -/
def FoldR (g : Gd) (s : Ly) : V := if gridOk g then (if layOk s then .tuple [foldV (cntN (layD g s) (sureT (layD g s))), foldV (cntN (layD g s) (hitsT (layD g s))), I 0] else .tuple [foldV [], foldV [], I 71]) else .tuple [foldV [], foldV [], I 70]

theorem c_Fold {g : Gd} {s : Ly} (hl : g.cls.length ≤ 9223372036854775807) (hn : s.nodes.length ≤ 9223372036854775807) (ht : s.traces.length ≤ 9223372036854775807) : C Tryd.prog F.bin_Fold [.agg (gridC g), .agg (layC s)] (FoldR g s) := by
  have kb := c_begun hl hn ht
  unfold FoldR
  refine C_of mixed chk.bin_Fold (by simp) fun S ok => ?_
  refine Tr.seqR rfl (by simp) ?_
  by_cases hg : gridOk g = true
  rotate_left
  · rw [if_neg hg] at kb ⊢
    refine Tr.seqC rfl (by simp) (Steps.call rfl rfl kb (Steps.fin rfl (by simp) (Tr.seq (Tr.seqR rfl (by simp) (Tr.condT rfl (Tr.seqR rfl (by simp) ?_))))))
    refine Tr.weak (s' := { env := [(4, .slice 0 1 []), (5, .slice 0 1 []), (6, I 70)], bx := [], rw := [], log := [], stp := false }) (Wk.le (.cons rfl (.nil 0 1) (.cons rfl (.nil 0 1) (.cons rfl (.refl _) .nil))) .nil .nil rfl rfl) ?_
    exact Tr.retX rfl rfl rfl rfl trivial
  rw [if_pos hg] at kb ⊢
  by_cases hs : layOk s = true
  rotate_left
  · rw [if_neg hs] at kb ⊢
    refine Tr.seqC rfl (by simp) (Steps.call rfl rfl kb (Steps.fin rfl (by simp) (Tr.seq (Tr.seqR rfl (by simp) (Tr.condT rfl (Tr.seqR rfl (by simp) ?_))))))
    refine Tr.weak (s' := { env := [(4, .slice 0 1 []), (5, .slice 0 1 []), (6, I 71)], bx := [], rw := [], log := [], stp := false }) (Wk.le (.cons rfl (.nil 0 1) (.cons rfl (.nil 0 1) (.cons rfl (.refl _) .nil))) .nil .nil rfl rfl) ?_
    exact Tr.retX rfl rfl rfl rfl trivial
  rw [if_pos hs] at kb ⊢
  have hL := lay_ok hg hs
  refine Tr.seqC rfl (by simp) (Steps.call rfl rfl kb (Steps.fin rfl (by simp [laidC]) (Tr.seq (Tr.seqR rfl (by simp) (Tr.condF rfl (Tr.skip ?_))))))
  refine Tr.seqD rfl (by simp [laidC, layD]) (by kernel_rfl) ?_
  refine Tr.seq (Tr.drawK (TraceK.run rfl (by simp [laidC, layD]) (TraceK.call rfl rfl (c_countS hL) (TraceK.run rfl (by simp [laidC, layD]) (TraceK.call rfl rfl (c_countM hL) (TraceK.run rfl (by simp) (.done ⟨by kernel_rfl, by kernel_rfl, ?_⟩)))))))
  exact Tr.retX rfl rfl rfl rfl trivial

end Go.Proofs.YtdejdblopmfjfaaDoor


/-! AM, part Zy: a box that is given into the arena. -/
set_option linter.unusedVariables false
set_option linter.unusedSimpArgs false
namespace Go.Am
open Go.RowKit

/-- A block of the frame's own becomes one of the arena. -/
theorem Rel.give {nt : Nat} {S0 : Sur} {l0 : List (List V)} {s0 : Bool} {A : Arena} {stp : Bool} {σ : FSt} {a : Act} {w : World} {h : Gh} {blk e : Nat} {vs : Array Value} {cs : List V} (R : Rel nt (SA S0 l0 s0) (encA A) stp σ a w h) (hM : h.M blk) (hh : w.heap[blk]? = some (.cells vs e (0, 0))) (hle : cs.length ≤ vs.size)
    (hcs : ∀ (j : Nat) v x, cs[j]? = some v → vs[j]? = some x → RepD w h.φ v x ∧ scalar v = true) (hφ : h.φ blk = 0) (hb : ∀ i, h.β i ≠ some blk) (hr : ∀ r, h.γ r ≠ some blk) :
    blk ∉ A.map (·.1) ∧ Rel nt (SA S0 l0 s0) (encA (A ++ [(blk, .cells cs)])) stp σ a w { h with M := fun b => h.M b ∧ b ≠ blk } := by
  obtain ⟨A', e1, hs, hA, hS⟩ := R.sur
  obtain rfl := encA_inj e1
  have hnot : blk ∉ A.map (·.1) := fun hm => by
    obtain ⟨p, hp, e⟩ := List.mem_map.1 hm
    exact hA.fr p hp (e ▸ hM)
  have hlt := R.mine blk hM
  refine ⟨hnot, ?_⟩
  exact {
    size := R.size
    env := fun t v hv => R.env t v hv
    bx := fun i bo hbo => by
      obtain ⟨b, cs', e', h1, h2, h3, h4, h5, h6⟩ := R.bx i bo hbo
      exact ⟨b, cs', e', h1, ⟨h2, fun e => hb i (e ▸ h1)⟩, h3, h4, h5, h6⟩
    dom := R.dom
    inj := R.inj
    rows := fun r n sz et hr' => by
      rcases R.rows r n sz et hr' with ⟨q1, q2⟩ | ⟨b, cs', q1, q2, q3, q4, q5⟩
      · exact .inl ⟨q1, q2⟩
      · exact .inr ⟨b, cs', q1, ⟨q2, fun e => hr r (e ▸ q1)⟩, q3, q4, q5⟩
    rdom := R.rdom
    rinj := R.rinj
    apart := R.apart
    pins := R.pins
    mine := fun b hb => R.mine b hb.1
    top := R.top
    marks := R.marks.congr fun r hMr hd => ⟨⟨hMr, fun e => by rw [e, hh] at hd; cases hd⟩, hd⟩
    sur := by
      refine ⟨A ++ [(blk, .cells cs)], rfl, hs, ⟨?_, fun p hp => ?_, fun p hp hM' => ?_, fun p hp => ?_, fun p hp => ?_⟩, ?_⟩
      · rw [List.map_append, List.nodup_append]
        refine ⟨hA.nd, by simp, fun x hx y hy e => hnot ?_⟩
        have hyb : y = blk := by simpa using hy
        rw [← hyb, ← e]; exact hx
      · rcases List.mem_append.1 hp with hp | hp
        · exact hA.ok p hp
        · rw [List.mem_singleton.1 hp]; exact ⟨vs, e, hh, hle, hcs⟩
      · rcases List.mem_append.1 hp with hp | hp
        · exact hA.fr p hp hM'.1
        · rw [List.mem_singleton.1 hp] at hM'; exact hM'.2 rfl
      · rcases List.mem_append.1 hp with hp | hp
        · exact hA.lt p hp
        · rw [List.mem_singleton.1 hp]; exact hlt
      · rcases List.mem_append.1 hp with hp | hp
        · exact hA.z p hp
        · rw [List.mem_singleton.1 hp]; exact hφ
      · have e : (fun b => (h.M b ∧ b ≠ blk) ∨ b ∈ (A ++ [(blk, Ob.cells cs)]).map (·.1)) = fun b => h.M b ∨ b ∈ A.map (·.1) := by
          funext b
          apply propext
          rw [List.map_append, List.mem_append]
          constructor
          · rintro (h1 | h1 | h1)
            · exact .inl h1.1
            · exact .inr h1
            · have : b = blk := by simpa using h1
              exact .inl (this ▸ hM)
          · rintro (h1 | h1)
            · by_cases eb : b = blk
              · exact .inr (.inr (by simp [eb]))
              · exact .inl ⟨h1, eb⟩
            · exact .inr (.inl h1)
        show S0 l0 s0 (fun b => (h.M b ∧ b ≠ blk) ∨ b ∈ (A ++ [(blk, Ob.cells cs)]).map (·.1)) w h.φ
        rw [e]; exact hS }

/-- **A BOX IS GIVEN INTO THE ARENA**: of it a slice lies in a cell of another box. -/
theorem Tr.give {E : Env} {l0 : List (List V)} {s0 : Bool} {ro : Option Nat} {ic : IC} {Q : Exit → St → Prop} {s : St} {A : Arena} {i k j sz n : Nat} {cs ks : List V} (env : List (Nat × V)) (bx : Nat → Nat → List (Nat × Box)) (rw : List (Nat × Nat × Nat × Nat)) (hki : k ≠ i) (hi : get s.bx i = some ⟨cs, false⟩) (hk : get s.bx k = some ⟨ks, false⟩) (hj : ks[j]? = some (.bsl i 0 sz n)) (hcs : cs.all isD = true) (hl : s.log = encA A)
    (he : EnvLe s env) (hbx : ∀ blk cap, BxLe (s.setB k ⟨ks.set j (.sref blk 0 n cap), false⟩) (bx blk cap)) (hrw : RwLe s rw) (hok : ∀ blk cap, okRefs env (bx blk cap) rw = true) (hpin : ∀ blk cap, E.pin.all (hasKey (bx blk cap)) = true) (hno : ∀ blk cap, hasKey (bx blk cap) i = false)
    (h : ∀ blk cap, n ≤ cap → blk ∉ A.map (·.1) → Tr (E.withA l0 s0) ro ic Q { s with env := env, bx := bx blk cap, rw := rw, log := encA (A ++ [(blk, .cells cs)]) }) : Tr (E.withA l0 s0) ro ic Q s := by
  intro c hc nn a w g R Q' hq
  have hi' : s.fs.b i = some ⟨cs, false⟩ := by rw [fs_b]; exact hi
  have hk' : s.fs.b k = some ⟨ks, false⟩ := by rw [fs_b]; exact hk
  obtain ⟨blk, vs, e, b1, b2, b3, b4, b5, b6⟩ := R.1.bx i _ hi'
  obtain ⟨kb, ws, ke, k1, k2, k3, k4, k5, k6⟩ := R.1.bx k _ hk'
  have hjl : j < ks.length := (List.getElem?_eq_some_iff.1 hj).1
  have hjw : j < ws.size := Nat.lt_of_lt_of_le hjl k4
  have hx := (k5 j _ ws[j] hj (Array.getElem?_eq_getElem hjw)).1
  obtain ⟨cap, hcap, hval⟩ : ∃ cap, n ≤ cap ∧ ws[j] = .slice (some ⟨blk, 0, none⟩) n cap := by
    generalize ws[j] = x at hx
    cases hx with
    | data r => cases r
    | bsl _ _ _ _ cap blk' hb hc =>
      rw [b1] at hb
      cases hb
      exact ⟨cap, hc, rfl⟩
  have R2 := R.1.setBox (w' := w) (E.withA l0 s0).ok (zs := ks.set j (.sref blk 0 n cap)) hk' k1 k3 (fun _ _ => rfl) rfl rfl rfl rfl (by simpa using k4) (fun m v x hv hx' => by
    by_cases em : m = j
    · subst em
      rw [List.getElem?_set_self hjl] at hv
      cases hv
      rw [Array.getElem?_eq_getElem hjw] at hx'
      cases hx'
      rw [hval]
      exact ⟨.data (.sref _ _ _ _), Grow.of_data (w0 := w) (φ0 := g.φ) (.sref _ _ _ _), rfl⟩
    · rw [List.getElem?_set_ne (fun h => em h.symm)] at hv
      exact k5 m v x hv hx')
  rw [← fs_setB] at R2
  have ho := hok blk cap
  unfold okRefs at ho
  rw [Bool.and_eq_true, List.all_eq_true, List.all_eq_true] at ho
  have hkk : (fun i => (({ s with env := env, bx := bx blk cap, rw := rw } : St).fs.b i).isSome) = hasKey (bx blk cap) := by funext i; rw [fs_b, hasKey_get]
  have hk2 : ({ s with env := env, bx := bx blk cap, rw := rw } : St).fs.r = get rw := by funext i; rw [fs_r]
  obtain ⟨h', R3, hy, hφ, hM, hβ, hγ⟩ := R2.weakX (σ' := ({ s with env := env, bx := bx blk cap, rw := rw } : St).fs) (fun t u hu => by
      rw [fs_g] at hu
      obtain ⟨v, h1, h2⟩ := he.spec t u (get_mem _ _ _ hu)
      exact ⟨v, by rw [fs_g]; exact h1, h2, by rw [hkk, hk2]; exact ho.1 _ (get_mem _ _ _ hu)⟩)
    (fun i bo hbo => by
      rw [fs_b] at hbo
      obtain ⟨v, h1, h2, h3⟩ := (hbx blk cap).spec i bo (get_mem _ _ _ hbo)
      exact ⟨v, by rw [fs_b]; exact h1, h2, h3, by rw [hkk, hk2]; exact ho.2 _ (get_mem _ _ _ hbo)⟩)
    (fun r q hq => by
      rw [fs_r] at hq ⊢
      exact hrw.spec r q (get_mem _ _ _ hq))
    (fun i hi => by
      rw [fs_b, ← hasKey_get]
      have := hpin blk cap
      rw [List.all_eq_true] at this
      exact this i (R.2.2 i hi))
  have R3' : Rel E.nt (SA E.S l0 s0) (encA A) s.stp ({ s with env := env, bx := bx blk cap, rw := rw } : St).fs a w h' := by rw [← hl]; exact R3
  obtain ⟨hnot, R4⟩ := R3'.give (blk := blk) (vs := vs) (e := e) (cs := cs) (by rw [hM]; exact b2) b3 b4 (fun m v x hv hx' => by
      obtain ⟨r1, _, r3⟩ := b5 m v x hv hx'
      rw [hφ]
      rw [List.all_eq_true] at hcs
      exact ⟨rep_isD (hcs v (List.mem_of_getElem? hv)) r1, r3⟩) (by rw [hφ]; exact b6)
    (fun i' hb => by
      obtain ⟨q1, q2⟩ := hβ i' blk hb
      have := R.1.inj i' i blk q1 b1
      subst this
      rw [fs_b, ← hasKey_get] at q2
      rw [hno blk cap] at q2
      cases q2)
    (fun r hr => R.1.apart i r blk b1 (hγ r blk hr))
  exact h blk cap hcap hnot c hc nn a w _ ⟨R4, by show (E.withA l0 s0).yok h'.y; rw [hy]; exact R.2⟩ Q' fun e t a' w' h'' hQ R' hy' => hq e t a' w' h'' hQ R' (hy'.trans hy)

end Go.Am


/-! Two runs of rows in an arena: lemmas for the law BinHits. -/
set_option linter.unusedVariables false
set_option linter.unusedSimpArgs false
set_option maxRecDepth 40000
set_option maxHeartbeats 4000000
namespace Go.Proofs.YtdejdblopmfjfaaDoor
open Go.Am

def srefC (m : Nat) (rbs : List (Nat × Nat)) : List V := rbs.map fun b => V.sref b.1 0 m b.2
def keysR (rbs : List (Nat × Nat)) : List Nat := rbs.map (·.1)
def zerosR (m n : Nat) : List (List Int) := List.replicate n (List.replicate m 0)

theorem keysR_len (rbs : List (Nat × Nat)) : (keysR rbs).length = rbs.length := by simp [keysR]
theorem srefC_len (m : Nat) (rbs : List (Nat × Nat)) : (srefC m rbs).length = rbs.length := by simp [srefC]
theorem srefC_snoc (m : Nat) (rbs : List (Nat × Nat)) (b : Nat × Nat) : srefC m (rbs ++ [b]) = srefC m rbs ++ [.sref b.1 0 m b.2] := by simp [srefC]
theorem keysR_snoc (rbs : List (Nat × Nat)) (b : Nat × Nat) : keysR (rbs ++ [b]) = keysR rbs ++ [b.1] := by simp [keysR]
theorem zerosR_succ (m n : Nat) : zerosR m (n + 1) = zerosR m n ++ [List.replicate m 0] := by simp [zerosR, List.replicate_succ']
theorem zerosR_len (m n : Nat) : (zerosR m n).length = n := by simp [zerosR]
theorem zerosR_count (g : Gd) : countL g [] = zerosR g.cls.length (nBins g) := by
  refine List.ext_getElem (by simp [zerosR, countL_len]) fun i h1 h2 => ?_
  rw [countL_len] at h1
  have e1 : (countL g [])[i]? = some (cntRow g.cls.length [] i) := countL_get h1
  have e2 : (zerosR g.cls.length (nBins g))[i]? = some (List.replicate g.cls.length 0) := by simp [zerosR, h1]
  rw [List.getElem?_eq_getElem (by rw [countL_len]; exact h1)] at e1
  rw [List.getElem?_eq_getElem h2] at e2
  rw [Option.some.inj e1, Option.some.inj e2]
  exact List.ext_getElem (by simp [cntRow]) fun j h1 h2 => by simp [cntRow]

theorem flat_zero (m : Nat) : (List.replicate m [I 0]).flatten = (List.replicate m (0 : Int)).map I := by simp

/-- The cells of the outer slice while it is filled. -/
def outC (m n : Nat) (rbs : List (Nat × Nat)) : List V := srefC m rbs ++ List.replicate (n - rbs.length) .nils
theorem outC_len {m n : Nat} {rbs : List (Nat × Nat)} (h : rbs.length ≤ n) : (outC m n rbs).length = n := by
  unfold outC; rw [List.length_append, srefC_len, List.length_replicate]; omega
theorem outC_zero (m n : Nat) : outC m n [] = List.replicate n .nils := by simp [outC, srefC]
theorem outC_all {m n : Nat} {rbs : List (Nat × Nat)} (h : rbs.length = n) : outC m n rbs = srefC m rbs := by simp [outC, h]
theorem outC_set {m n : Nat} {rbs : List (Nat × Nat)} (h : rbs.length < n) (b : Nat × Nat) : (outC m n rbs).set rbs.length (.sref b.1 0 m b.2) = outC m n (rbs ++ [b]) := by
  unfold outC
  rw [List.set_append_right _ _ (by rw [srefC_len]; exact Nat.le_refl _), srefC_len, Nat.sub_self, srefC_snoc, List.append_assoc]
  congr 1
  obtain ⟨k, hk⟩ : ∃ k, n - rbs.length = k + 1 := ⟨n - rbs.length - 1, by omega⟩
  rw [hk, List.replicate_succ]
  simp only [List.set_cons_zero, List.length_append, List.length_singleton]
  rw [show n - (rbs.length + 1) = k by omega]; rfl
theorem outC_mem {m n : Nat} {rbs : List (Nat × Nat)} {v : V} (h : v ∈ outC m n rbs) : v = .nils ∨ ∃ b c, v = .sref b 0 m c := by
  unfold outC at h
  rcases List.mem_append.1 h with h | h
  · obtain ⟨b, _, rfl⟩ := List.mem_map.1 h; exact .inr ⟨_, _, rfl⟩
  · exact .inl (List.eq_of_mem_replicate h)
theorem outC_refs (m n : Nat) (rbs : List (Nat × Nat)) (B : Nat → Bool) (R : Nat → Option (Nat × Nat × Nat)) : (outC m n rbs).all (refsOk B R 6) = true := by
  rw [List.all_eq_true]
  intro v hv
  rcases outC_mem hv with rfl | ⟨b, c, rfl⟩ <;> rfl
theorem outB_refs (m n j k : Nat) (rbs : List (Nat × Nat)) (B : Nat → Bool) (R : Nat → Option (Nat × Nat × Nat)) (hB : B k = true) : ((outC m n rbs).set j (.bsl k 0 1 m)).all (refsOk B R 6) = true := by
  rw [List.all_eq_true]
  intro v hv
  rcases List.mem_or_eq_of_mem_set hv with hv | rfl
  · have := outC_refs m n rbs B R
    rw [List.all_eq_true] at this
    exact this v hv
  · exact hB

theorem holdsC {m : Nat} (rbs : List (Nat × Nat)) : Holds (srefC m rbs) 0 1 rbs.length (srefC m rbs) := by
  have hc : ∀ x ∈ srefC m rbs, cells x = [x] := fun x hx => by
    obtain ⟨b, _, rfl⟩ := List.mem_map.1 hx; rfl
  refine ⟨by omega, srefC_len _ _, fun x hx => by rw [hc x hx]; rfl, ?_, fun x hx => by rw [hc x hx]; obtain ⟨b, _, rfl⟩ := List.mem_map.1 hx; rfl⟩
  rw [List.drop_zero, List.take_of_length_le (by rw [srefC_len]; omega)]
  have : ∀ l : List V, (∀ x ∈ l, cells x = [x]) → l.flatMap cells = l := fun l => by
    induction l with
    | nil => intro _; rfl
    | cons a l ih => intro h; rw [List.flatMap_cons, h a (by simp), ih fun x hx => h x (by simp [hx])]; rfl
  exact (this _ hc).symm

theorem setA_left {A B : Arena} {b : Nat} {o : Ob} (h : b ∉ B.map (·.1)) : setA (A ++ B) b o = setA A b o ++ B := by
  have e : setA B b o = B := setA_out h
  unfold setA at e ⊢
  rw [List.map_append, e]
theorem setA_right {A B : Arena} {b : Nat} {o : Ob} (h : b ∉ A.map (·.1)) : setA (A ++ B) b o = A ++ setA B b o := by
  have e : setA A b o = A := setA_out h
  unfold setA at e ⊢
  rw [List.map_append, e]
theorem dropA_head {A : Arena} {b : Nat} {o : Ob} (h : b ∉ A.map (·.1)) : dropA ((b, o) :: A) b = A := by
  unfold dropA
  rw [List.filter_cons_of_neg (by simp)]
  refine List.filter_eq_self.2 fun p hp => ?_
  simp only [bne_iff_ne, ne_eq]
  exact fun e => h (List.mem_map.2 ⟨p, hp, e⟩)

section
variable {E : Env} {S0 : Sur} {l0 : List (List V)} {s0 : Bool}
/-- All rows of a slice become data; what else lies in the arena stays. -/
theorem closeRowsF (hE : InA E S0 l0 s0) {t m : Nat} {F : Arena} : ∀ (rbs : List (Nat × Nat)) (rows : List (List Int)) (pre : List V) (s : St), (keysR rbs).Nodup → (∀ b ∈ keysR rbs, b ∉ F.map (·.1)) → (∀ b ∈ rbs, m ≤ b.2) → rbs.length = rows.length → (∀ r ∈ rows, r.length = m) → (∀ y ∈ pre, cells y = [y]) → get s.env t = some (.slice 0 1 (pre ++ srefC m rbs)) → s.log = encA (arn (keysR rbs) rows ++ F) →
    ∃ s', Wk E s s' ∧ get s'.env t = some (.slice 0 1 (pre ++ rows.map intsV)) ∧ s'.log = encA F ∧ s'.stp = s.stp ∧ s'.bx = s.bx ∧ ∀ u, u ≠ t → get s'.env u = get s.env u
  | [], [], pre, s, _, _, _, _, _, _, ht, hl => ⟨s, Wk.refl s, by simpa [srefC] using ht, hl, rfl, rfl, fun _ _ => rfl⟩
  | (b, cap) :: rbs, r :: rows, pre, s, hn, hF, hcap, hlen, hm, hpre, ht, hl => by
    have hlen' : rbs.length = rows.length := by simpa using hlen
    have hrl : r.length = m := hm r (by simp)
    have hk : keysR ((b, cap) :: rbs) = b :: keysR rbs := rfl
    have h1 : ∀ y ∈ pre ++ srefC m ((b, cap) :: rbs), cells y = [y] := fun y hy => by
      rcases List.mem_append.1 hy with hy | hy
      · exact hpre y hy
      · obtain ⟨_, _, rfl⟩ := List.mem_map.1 hy; rfl
    have ea : arn (b :: keysR rbs) (r :: rows) ++ F = (b, .cells (r.map I)) :: (arn (keysR rbs) rows ++ F) := rfl
    rw [hk, ea] at hl
    rw [hk, List.nodup_cons] at hn
    have hnot : b ∉ (arn (keysR rbs) rows ++ F).map (·.1) := by
      rw [List.map_append, arn_keys (by rw [keysR_len]; exact hlen'), List.mem_append]
      rintro (h | h)
      · exact hn.1 h
      · exact hF b (by simp [keysR]) h
    have w1 := Wk.closeIn (E := E) (S0 := S0) (l0 := l0) (s0 := s0) (A := (b, .cells (r.map I)) :: (arn (keysR rbs) rows ++ F)) hE (s := s) (t := t) (r := 0) (blk := b) (cap := cap) (sz := 1) (j := pre.length) (cs := r.map I) (xs := r.map I) (ys := pre ++ srefC m ((b, cap) :: rbs)) ht
      (by rw [List.length_map, hrl, List.getElem?_append_right (Nat.le_refl _), Nat.sub_self]; rfl) hl (by simp) (by omega) (by rw [List.length_map, hrl]; exact hcap (b, cap) (by simp)) (fun x hx => by obtain ⟨_, _, rfl⟩ := List.mem_map.1 hx; rfl)
      (by rw [Nat.mul_one, List.take_length]; induction r with
          | nil => rfl
          | cons a r _ => rw [List.flatMap_def, List.map_map]; induction (a :: r) with
            | nil => rfl
            | cons a r ih => simp [cells] at ih ⊢; exact ih) h1
    have eset : (pre ++ srefC m ((b, cap) :: rbs)).set pre.length (.slice 0 1 (r.map I)) = (pre ++ [intsV r]) ++ srefC m rbs := by
      rw [List.set_append_right _ _ (Nat.le_refl _), Nat.sub_self]
      simp [srefC, intsV]
    rw [eset, dropA_head hnot] at w1
    obtain ⟨s', w2, g1, g2, g3, g4, g5⟩ := closeRowsF hE (t := t) (F := F) rbs rows (pre ++ [intsV r]) hn.2 (fun b hb => hF b (by simp [keysR] at hb ⊢; exact .inr hb)) (fun b hb => hcap b (by simp [hb])) hlen' (fun q hq => hm q (by simp [hq])) (fun y hy => by
      rcases List.mem_append.1 hy with hy | hy
      · exact hpre y hy
      · rw [List.mem_singleton.1 hy]; rfl) (s := { s.put (some t) (.slice 0 1 ((pre ++ [intsV r]) ++ srefC m rbs)) with log := encA (arn (keysR rbs) rows ++ F) }) (by show Am.get ((t, _) :: s.env) t = _; simp [Am.get]) rfl
    refine ⟨s', w1.trans w2, by rw [g1]; simp, g2, by rw [g3]; rfl, by rw [g4]; rfl, fun u hu => ?_⟩
    rw [g5 u hu]
    show Am.get ((t, _) :: s.env) u = _
    rw [get_cons, if_neg hu]
end

/-! ### What the law counts -/
/-- What of a trace's hits is counted as sure. -/
def oneL (l : List (Int × Int)) (k : Nat) : List (Int × Int) := if l.length = 1 then l.take k else []

theorem oneL_zero (l : List (Int × Int)) : oneL l 0 = [] := by unfold oneL; split <;> rfl

theorem count_sure (g : Gd) (P l : List (Int × Int)) : countL g (P ++ oneL l l.length) = countL g (P ++ sureL l) := by
  rcases l with _ | ⟨c, _ | ⟨d, r⟩⟩
  · rfl
  · by_cases h : c = noneC
    · subst h
      have e1 : oneL [noneC] [noneC].length = [noneC] := rfl
      have e2 : sureL [noneC] = [] := by simp [sureL]
      rw [e1, e2, countL_none, List.append_nil]
    · have e1 : oneL [c] [c].length = [c] := rfl
      have e2 : sureL [c] = [c] := by simp [sureL, h]
      rw [e1, e2]
  · have e1 : oneL (c :: d :: r) (c :: d :: r).length = [] := by simp [oneL]
    have e2 : sureL (c :: d :: r) = [] := rfl
    rw [e1, e2]

theorem okCells {env : List (Nat × V)} {bx0 bx : List (Nat × Box)} {rw : List (Nat × Nat × Nat × Nat)} (hk : hasKey bx = hasKey bx0) (h : okRefs env bx0 rw = true) (hc : ∀ p ∈ bx, p.2.cs.all (refsOk (hasKey bx) (get rw) 6) = true) : okRefs env bx rw = true := by
  unfold okRefs at h ⊢
  rw [Bool.and_eq_true] at h ⊢
  rw [hk] at hc ⊢
  exact ⟨h.1, List.all_eq_true.2 hc⟩

theorem all_len {L : Ld} (hL : LdOk L) : ∀ k ≤ L.traces.length, (allH (hitsT L) k).length ≤ k * 4096
  | 0, _ => by simp [allH]
  | k + 1, hk => by
    have := all_len hL k (by omega)
    have := (hits_in hL (t := k) (by omega)).1
    rw [allH_succ, List.length_append]; omega

theorem hits_ne2 {L : Ld} (hL : LdOk L) {t : Nat} (ht : t < L.traces.length) : hitsT L t ≠ [] := by
  obtain ⟨i, j, hij, hi, hj⟩ := hL.tr _ (List.getElem_mem ht)
  have e : L.traces.getD t (0, 0) = ((i : Int), (j : Int)) := by simp [ht, hij]
  have h1 := (hL.p _ (List.getElem_mem hi)).1.1
  have h2 := (hL.p _ (List.getElem_mem hj)).1.1
  intro h0
  have : cellP L.g (L.places[i][0], L.places[j][0]) ∈ hitsT L t := by
    unfold hitsT hitsL
    rw [mem_hitsOf, e]
    refine List.mem_map.2 ⟨_, mem_pairs.2 ⟨?_, ?_⟩, rfl⟩
    · simp [pl, hi]
    · simp [pl, hj]
  rw [h0] at this; cases this

theorem sorted_next {l : List (Int × Int)} (h : l.Pairwise befC) {k : Nat} (hk : k + 1 < l.length) : befC (l[k]'(by omega)) l[k + 1] :=
  List.pairwise_iff_getElem.1 h k (k + 1) (by omega) hk (by omega)

end Go.Proofs.YtdejdblopmfjfaaDoor

