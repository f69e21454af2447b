/-
  Parts of the proof, 1: the abstract machine, the compiled code, contracts of the functions, plain laws.
-/
import Derived.Test.YtffoiccokigjcaaDoorZ5


/-! The code of further functions, compiled. -/
set_option maxRecDepth 100000
namespace Go.Proofs.YtffoiccokigjcaaDoor
open Go.Am
/-- paravane/paravanelaw07.BinSplits -/
abbrev F.law07_BinSplits : Nat := 6
def ir.law07_BinSplits : IC :=
 (.seq (.reg [⟨(some 3), .box, [.t 0], none⟩,
     ⟨(some 6), .mov, [.c (.bool false)], none⟩])
   (.seq (.reg [⟨(some 16), .load 2 true, [.t 3], none⟩,
     ⟨(some 17), .mov, [.t 1], none⟩,
     ⟨(some 18), .build [(.int .i64 0), .nils] [(0, 1), (1, 1)], [.c (.int .i64 (-1)), .t 17], none⟩,
     ⟨(some 19), .mkslice 2 60, [.t 18], none⟩,
     ⟨(some 20), .call 21, [.t 16, .t 19], none⟩,
     ⟨(some 15), .mov, [.t 20], none⟩,
     ⟨(some 21), .extract 0, [.t 15], none⟩,
     ⟨(some 22), .extract 1, [.t 15], none⟩,
     ⟨(some 7), .mov, [.t 21], none⟩,
     ⟨(some 8), .mov, [.t 22], none⟩])
   (.seq (.seq (.reg [⟨(some 23), .mov, [.t 8], none⟩,
     ⟨(some 24), .bin .neq, [.t 23, .c (.int .i64 0)], none⟩,
     ⟨(some 25), .mov, [.t 24], none⟩,
     ⟨(some 26), .faddr 1, [.t 3], (some (25, false))⟩,
     ⟨(some 27), .load 1 false, [.t 26], (some (25, false))⟩,
     ⟨(some 28), .len false, [.t 27], (some (25, false))⟩,
     ⟨(some 29), .bin .eql, [.t 28, .c (.int .i64 0)], (some (25, false))⟩,
     ⟨(some 30), .pick, [.t 25, .c (.bool true), .t 29], none⟩])
   (.cond (.t 30) (.seq (.reg [⟨(some 31), .mov, [.t 8], none⟩,
     ⟨(some 32), .bin .eql, [.t 31, .c (.int .i64 0)], none⟩,
     ⟨(some 33), .mov, [.t 32], none⟩,
     ⟨(some 34), .mov, [.t 7], (some (33, false))⟩,
     ⟨(some 35), .bin .eql, [.t 34, .c (.int .i64 0)], (some (33, false))⟩,
     ⟨(some 36), .pick, [.t 33, .c (.bool true), .t 35], none⟩,
     ⟨(some 37), .mov, [.t 36], none⟩,
     ⟨(some 38), .call 14, [], (some (37, true))⟩,
     ⟨(some 39), .pick, [.t 37, .t 38, .c (.bool false)], none⟩,
     ⟨(some 6), .mov, [.t 39], none⟩])
   .ret) .skip))
   (.seq (.reg [⟨(some 40), .mov, [.t 2], none⟩,
     ⟨(some 41), .faddr 1, [.t 3], none⟩,
     ⟨(some 42), .load 1 false, [.t 41], none⟩,
     ⟨(some 43), .len false, [.t 42], none⟩,
     ⟨(some 44), .call 17, [.t 40, .t 43], none⟩,
     ⟨(some 9), .mov, [.t 44], none⟩])
   (.seq (.reg [⟨(some 46), .load 2 true, [.t 3], none⟩,
     ⟨(some 47), .mov, [.t 9], none⟩,
     ⟨(some 48), .build [(.int .i64 0), .nils] [(0, 1)], [.t 47], none⟩,
     ⟨(some 49), .mov, [.t 1], none⟩,
     ⟨(some 50), .build [(.int .i64 0), .nils] [(0, 1), (1, 1)], [.c (.int .i64 (-1)), .t 49], none⟩,
     ⟨(some 51), .mov, [.t 1], none⟩,
     ⟨(some 52), .build [(.int .i64 0), .nils] [(0, 1), (1, 1)], [.c (.int .i64 (-1)), .t 51], none⟩,
     ⟨(some 53), .mkslice 2 60, [.t 48, .t 50, .t 52], none⟩,
     ⟨(some 54), .call 21, [.t 46, .t 53], none⟩,
     ⟨(some 45), .mov, [.t 54], none⟩,
     ⟨(some 55), .extract 0, [.t 45], none⟩,
     ⟨(some 56), .extract 1, [.t 45], none⟩,
     ⟨(some 10), .mov, [.t 55], none⟩,
     ⟨(some 8), .mov, [.t 56], none⟩])
   (.seq (.reg [⟨(some 58), .load 2 true, [.t 3], none⟩,
     ⟨(some 59), .mov, [.t 9], none⟩,
     ⟨(some 60), .build [(.int .i64 0), .nils] [(0, 1)], [.t 59], none⟩,
     ⟨(some 61), .mov, [.t 1], none⟩,
     ⟨(some 62), .build [(.int .i64 0), .nils] [(0, 1), (1, 1)], [.c (.int .i64 (-1)), .t 61], none⟩,
     ⟨(some 63), .mkslice 2 60, [.t 60, .t 62], none⟩,
     ⟨(some 64), .call 21, [.t 58, .t 63], none⟩,
     ⟨(some 57), .mov, [.t 64], none⟩,
     ⟨(some 65), .extract 0, [.t 57], none⟩,
     ⟨(some 66), .extract 1, [.t 57], none⟩,
     ⟨(some 11), .mov, [.t 65], none⟩,
     ⟨(some 12), .mov, [.t 66], none⟩])
   (.seq (.reg [⟨(some 68), .load 2 true, [.t 3], none⟩,
     ⟨(some 69), .mov, [.t 9], none⟩,
     ⟨(some 70), .build [(.int .i64 0), .nils] [(0, 1)], [.t 69], none⟩,
     ⟨(some 71), .mov, [.t 9], none⟩,
     ⟨(some 72), .build [(.int .i64 0), .nils] [(0, 1)], [.t 71], none⟩,
     ⟨(some 73), .mov, [.t 1], none⟩,
     ⟨(some 74), .build [(.int .i64 0), .nils] [(0, 1), (1, 1)], [.c (.int .i64 (-1)), .t 73], none⟩,
     ⟨(some 75), .mov, [.t 1], none⟩,
     ⟨(some 76), .build [(.int .i64 0), .nils] [(0, 1), (1, 1)], [.c (.int .i64 (-1)), .t 75], none⟩,
     ⟨(some 77), .mov, [.t 1], none⟩,
     ⟨(some 78), .build [(.int .i64 0), .nils] [(0, 1), (1, 1)], [.c (.int .i64 (-1)), .t 77], none⟩,
     ⟨(some 79), .mkslice 2 60, [.t 70, .t 72, .t 74, .t 76, .t 78], none⟩,
     ⟨(some 80), .call 21, [.t 68, .t 79], none⟩,
     ⟨(some 67), .mov, [.t 80], none⟩,
     ⟨(some 81), .extract 0, [.t 67], none⟩,
     ⟨(some 82), .extract 1, [.t 67], none⟩,
     ⟨(some 13), .mov, [.t 81], none⟩,
     ⟨(some 14), .mov, [.t 82], none⟩])
   (.seq (.reg [⟨(some 83), .mov, [.t 8], none⟩,
     ⟨(some 84), .bin .eql, [.t 83, .c (.int .i64 0)], none⟩,
     ⟨(some 85), .mov, [.t 84], none⟩,
     ⟨(some 86), .mov, [.t 12], (some (85, true))⟩,
     ⟨(some 87), .bin .eql, [.t 86, .c (.int .i64 76)], (some (85, true))⟩,
     ⟨(some 88), .pick, [.t 85, .t 87, .c (.bool false)], none⟩,
     ⟨(some 89), .mov, [.t 88], none⟩,
     ⟨(some 90), .mov, [.t 14], (some (89, true))⟩,
     ⟨(some 91), .bin .eql, [.t 90, .c (.int .i64 76)], (some (89, true))⟩,
     ⟨(some 92), .pick, [.t 89, .t 91, .c (.bool false)], none⟩,
     ⟨(some 93), .mov, [.t 92], none⟩,
     ⟨(some 94), .mov, [.t 10], (some (93, true))⟩,
     ⟨(some 95), .mov, [.t 7], (some (93, true))⟩,
     ⟨(some 96), .bin .geq, [.t 94, .t 95], (some (93, true))⟩,
     ⟨(some 97), .pick, [.t 93, .t 96, .c (.bool false)], none⟩,
     ⟨(some 98), .mov, [.t 97], none⟩,
     ⟨(some 99), .call 14, [], (some (98, true))⟩,
     ⟨(some 100), .pick, [.t 98, .t 99, .c (.bool false)], none⟩,
     ⟨(some 6), .mov, [.t 100], none⟩])
   .ret))))))))
theorem chk.law07_BinSplits : chkF Tryd.prog 6 = some (101, ir.law07_BinSplits, [.tmp 6]) := by kernel_rfl

end Go.Proofs.YtffoiccokigjcaaDoor

/-! Weakening inside a region. -/
set_option linter.unusedVariables false
set_option linter.unusedSimpArgs false
namespace Go.Proofs.YtffoiccokigjcaaDoor
open Go.Am

theorem stepsWeak {E : Env} {s s' : St} {i : Ins} {r : List Ins} {K : St → Prop} (h : Wk E s s') (k : Am.Steps E (i :: r) K s') : Am.Steps E (i :: r) K s := by
  refine Step1.raw fun slots ops o j ro n a w hh hc hs hi R Q next hn => ?_
  obtain ⟨h', R', hy⟩ := h a w hh R
  exact step_ok (k : Step1 E i (Am.Steps E r K) s') hc hs hi R' fun s'' a' w' h'' k R ey => hn s'' a' w' h'' k R (ey.trans hy)

theorem VLe.agg2 {a b c d : V} (h : VLe a c) (k : VLe b d) : VLe (.agg [a, b]) (.agg [c, d]) := .agg rfl fun i v u h1 h2 => by
  match i with
  | 0 => cases h1; cases h2; exact h
  | 1 => cases h1; cases h2; exact k
  | i + 2 => simp at h1

end Go.Proofs.YtffoiccokigjcaaDoor

/-! Plain laws of bounds: a leaf that is split bounds no less. -/
set_option linter.unusedVariables false
set_option linter.unusedSimpArgs false
set_option maxRecDepth 40000
set_option maxHeartbeats 4000000
namespace Go.Proofs.YtffoiccokigjcaaDoor
open Go.Am

theorem foldl_addI : ∀ (l : List Int) (z : Int), l.foldl (· + ·) z = l.foldl (· + ·) 0 + z
  | [], z => by simp
  | a :: l, z => by
    rw [List.foldl_cons, List.foldl_cons, foldl_addI l (z + a), foldl_addI l (0 + a)]; omega

theorem dotL_z (a b : List Int) (z : Int) : dotL a b z = dotL a b 0 + z := foldl_addI _ _
theorem dotL_cons (p b : Int) (pr bs : List Int) (z : Int) : dotL (p :: pr) (b :: bs) z = dotL pr bs 0 + p * b + z := by
  unfold dotL
  rw [List.zipWith_cons_cons, List.foldl_cons, foldl_addI]; omega
theorem dotL_nil (b : List Int) (z : Int) : dotL [] b z = z := rfl
theorem dotL_nil2 (b : List Int) (z : Int) : dotL b [] z = z := by unfold dotL; simp

theorem dot_rest : ∀ (pr R S : List Int), S.length = R.length → dotL pr (restN R S) 0 = dotL pr R 0 - dotL pr (minL S R) 0
  | [], R, S, _ => by simp [dotL_nil]
  | p :: pr, [], S, h => by
    obtain rfl : S = [] := List.eq_nil_of_length_eq_zero h
    simp [restN, minL, dotL_nil2]
  | p :: pr, r :: R, [], h => by simp at h
  | p :: pr, r :: R, s :: S, h => by
    have ih := dot_rest pr R S (by simpa using h)
    have e : restN (r :: R) (s :: S) = max 0 (r - s) :: restN R S := rfl
    have e2 : minL (s :: S) (r :: R) = min s r :: minL S R := rfl
    rw [e, e2, dotL_cons, dotL_cons, dotL_cons, ih, show max 0 (r - s) = r - min s r by omega, Int.mul_sub]
    omega

theorem dot_min : ∀ (pr A R S : List Int), (∀ p ∈ pr, 0 ≤ p) → S.length = R.length → (∀ r ∈ R, 0 ≤ r) → (∀ s ∈ S, 0 ≤ s) → dotL pr (minL A (restN R S)) 0 ≤ dotL pr (minL A R) 0
  | [], A, R, S, _, _, _, _ => by simp [dotL_nil]
  | p :: pr, A, [], S, _, h, _, _ => by
    obtain rfl : S = [] := List.eq_nil_of_length_eq_zero h
    simp [restN]
  | p :: pr, A, r :: R, [], _, h, _, _ => by simp at h
  | p :: pr, [], r :: R, s :: S, _, h, _, _ => by simp [minL, dotL_nil2]
  | p :: pr, a :: A, r :: R, s :: S, hp, h, hr, hs => by
    have ih := dot_min pr A R S (fun q hq => hp q (by simp [hq])) (by simpa using h) (fun q hq => hr q (by simp [hq])) (fun q hq => hs q (by simp [hq]))
    have e : restN (r :: R) (s :: S) = max 0 (r - s) :: restN R S := rfl
    have e2 : minL (a :: A) (max 0 (r - s) :: restN R S) = min a (max 0 (r - s)) :: minL A (restN R S) := rfl
    have e3 : minL (a :: A) (r :: R) = min a r :: minL A R := rfl
    have hp0 := hp p (by simp)
    have hr0 := hr r (by simp)
    have hs0 := hs s (by simp)
    have : p * min a (max 0 (r - s)) ≤ p * min a r := Int.mul_le_mul_of_nonneg_left (by omega) hp0
    rw [e, e2, e3, dotL_cons, dotL_cons]
    omega

theorem gain_le {x : Nf} {pr R S : List Int} (hp : ∀ p ∈ pr, 0 ≤ p) (h : S.length = R.length) (hr : ∀ r ∈ R, 0 ≤ r) (hs : ∀ s ∈ S, 0 ≤ s) (j : Nat) : gainN x pr (restN R S) j ≤ gainN x pr R j := by
  unfold gainN
  rw [dotL_z, dotL_z pr (minL _ R)]
  have := dot_min pr (addsOf x j) R S hp h hr hs
  omega

theorem leaf_right (x : Nf) (pr R : List Int) (d : Nat) : ∀ (l : List Nat) (z1 z2 : Int), z1 ≤ z2 → l.foldl (leafStep x pr R 0) z1 ≤ l.foldl (leafStep x pr R d) z2
  | [], _, _, h => h
  | j :: l, z1, z2, h => by
    refine leaf_right x pr R d l _ _ ?_
    unfold leafStep
    rw [Nat.zero_testBit]
    simp only [Bool.false_eq_true, if_false]
    split <;> omega

theorem leaf_left {x : Nf} {pr R R' : List Int} {i : Nat} (hg : ∀ j, gainN x pr R' j ≤ gainN x pr R j) {z1 z2 : Int} (hz : z1 ≤ z2 + max 0 (gainN x pr R i)) : ∀ n, (List.range n).foldl (leafStep x pr R 0) z1 ≤ (List.range n).foldl (leafStep x pr R' (2 ^ i)) z2 + (if i < n then 0 else max 0 (gainN x pr R i))
  | 0 => by simpa using hz
  | n + 1 => by
    have ih := leaf_left hg hz n
    rw [List.range_succ, List.foldl_append, List.foldl_append]
    generalize (List.range n).foldl (leafStep x pr R 0) z1 = A at ih ⊢
    generalize (List.range n).foldl (leafStep x pr R' (2 ^ i)) z2 = B at ih ⊢
    simp only [List.foldl_cons, List.foldl_nil]
    unfold leafStep
    rw [Nat.zero_testBit, Nat.testBit_two_pow]
    have := hg n
    by_cases h : i = n
    · subst h
      simp only [Bool.false_eq_true, if_false, decide_true, if_true, Nat.lt_irrefl] at ih ⊢
      rw [if_pos (by omega)]
      omega
    · simp only [Bool.false_eq_true, if_false, h, decide_false] at ih ⊢
      by_cases h2 : i < n
      · rw [if_pos h2] at ih
        rw [if_pos (by omega)]
        omega
      · rw [if_neg h2] at ih
        rw [if_neg (by omega)]
        omega

theorem choice_one : ∀ i, i < 10 → choiceN (2 ^ i) = [i] := by decide
theorem choice_zero : choiceN 0 = [] := by decide

theorem leaf_split {x : Nf} (hx : nfOk x = true) {pr : List Int} (hp : pricesOk x pr = true) {i : Nat} (hi : i < x.passes.length) :
    leafN x pr 0 0 ≤ leafN x pr (2 ^ i) (2 ^ i) ∧ leafN x pr 0 0 ≤ leafN x pr 0 (2 ^ i) := by
  obtain ⟨⟨h16, h10⟩, hl, hps⟩ := nfOk_spec hx
  have hpr : ∀ p ∈ pr, 0 ≤ p := fun p h => by
    unfold pricesOk at hp
    rw [Bool.and_eq_true, List.all_eq_true] at hp
    have := hp.2 p h
    rw [btw_iff] at this; exact this.1
  have hi10 : i < 10 := by omega
  have ep : x.passes.getD i p0 = x.passes[i] := by simp [hi]
  have hpi := hps _ (List.getElem_mem hi)
  have hal : (addsOf x i).length = x.lacks.length := by unfold addsOf; rw [ep]; exact hpi.2.1
  have han : ∀ s ∈ addsOf x i, 0 ≤ s := by unfold addsOf; rw [ep]; exact fun s h => (hpi.2.2 s h).1
  have hln : ∀ s ∈ x.lacks, 0 ≤ s := fun s h => by have := hl s h; omega
  unfold leafN
  rw [choice_zero, choice_one i hi10]
  have e0 : restsL x [] = x.lacks := rfl
  have e1 : restsL x [i] = restN x.lacks (addsOf x i) := rfl
  have c0 : costB x 0 = 0 := by unfold costB choiceL; rw [choice_zero]; rfl
  have c1 : costB x (2 ^ i) = costOf x i := by
    unfold costB choiceL; rw [choice_one i hi10]
    simp [castL, sumF]
  rw [e0, e1, c0, c1]
  constructor
  · have hz : dotL pr x.lacks 0 ≤ dotL pr (restN x.lacks (addsOf x i)) (costOf x i) + max 0 (gainN x pr x.lacks i) := by
      rw [dotL_z _ _ (costOf x i), dot_rest _ _ _ hal]
      unfold gainN
      rw [dotL_z _ _ (-costOf x i)]
      omega
    have := leaf_left (x := x) (pr := pr) (R := x.lacks) (R' := restN x.lacks (addsOf x i)) (i := i) (fun j => gain_le hpr hal hln han j) hz x.passes.length
    rw [if_pos hi] at this
    omega
  · exact leaf_right x pr x.lacks (2 ^ i) _ _ _ (Int.le_refl _)

end Go.Proofs.YtffoiccokigjcaaDoor

/-! The statement BinSplits. -/
set_option linter.unusedVariables false
set_option linter.unusedSimpArgs false
set_option maxRecDepth 40000
set_option maxHeartbeats 4000000
namespace Go.Proofs.YtffoiccokigjcaaDoor
open Go.Am
attribute [local simp] cells scalar mkv splice under2 under dem dem1 eQ nfC intsV eC cutsV

/-! ### What the proofs read as -/
def leafC (pr : List Int) : Ct := ⟨-1, pr⟩
def cutC (i : Nat) : Ct := ⟨i, []⟩

theorem bound_bad {x : Nf} (hx : nfOk x = false) (pf : List Ct) : BoundR x pf = .tuple [I 0, I 74] := by
  unfold BoundR; rw [hx]; rfl

theorem read_leaf {x : Nf} {pf : List Ct} {n c d : Nat} {s : Rd} {pr : List Int} (hp : pricesOk x pr = true) (ho : s.ok = true) (h : s.at_ < pf.length) (he : pf[s.at_] = leafC pr) :
    readN x pf (n + 1) c d s = if (!s.some || decide (leafN x pr c d < s.least)) then ⟨true, s.at_ + 1, true, leafN x pr c d⟩ else ⟨true, s.at_ + 1, s.some, s.least⟩ := by
  simp only [readN]
  rw [dif_pos ⟨ho, h⟩, he]
  have e1 : (leafC pr).split = -1 := rfl
  have hp' : pricesOk x (leafC pr).prices = true := hp
  rw [if_neg (by rw [e1]; simp), if_pos hp']
  rfl

theorem read_leaf0 {x : Nf} {pf : List Ct} {n c d : Nat} {s : Rd} {pr : List Int} (hp : pricesOk x pr = true) (ho : s.ok = true) (hs : s.some = false) (h : s.at_ < pf.length) (he : pf[s.at_] = leafC pr) :
    readN x pf (n + 1) c d s = ⟨true, s.at_ + 1, true, leafN x pr c d⟩ := by
  rw [read_leaf hp ho h he, if_pos (by rw [hs]; rfl)]

theorem read_cut {x : Nf} {pf : List Ct} {n c d : Nat} {s : Rd} {i : Nat} (hs : splitOk x (cutC i) d = true) (ho : s.ok = true) (h : s.at_ < pf.length) (he : pf[s.at_] = cutC i) :
    readN x pf (n + 1) c d s = readN x pf n c (d ||| 2 ^ i) (readN x pf n (c ||| 2 ^ i) (d ||| 2 ^ i) ⟨true, s.at_ + 1, s.some, s.least⟩) := by
  simp only [readN]
  rw [dif_pos ⟨ho, h⟩, he]
  have : (cutC i).split = i := rfl
  rw [if_pos (by rw [this]; omega), if_pos hs, this]
  simp

theorem read_bad {x : Nf} {pf : List Ct} {n c d : Nat} {s : Rd} {i : Nat} (hs : splitOk x (cutC i) d = false) (ho : s.ok = true) (h : s.at_ < pf.length) (he : pf[s.at_] = cutC i) : (readN x pf (n + 1) c d s).ok = false := by
  simp only [readN]
  rw [dif_pos ⟨ho, h⟩, he]
  have : (cutC i).split = i := rfl
  rw [if_pos (by rw [this]; omega), if_neg (by rw [hs]; simp)]

theorem read_dead {x : Nf} {pf : List Ct} {n c d : Nat} {s : Rd} (h : s.ok = false ∨ pf.length ≤ s.at_) : (readN x pf n c d s).ok = false := by
  cases n with
  | zero => rfl
  | succ n =>
    simp only [readN]
    rw [dif_neg]
    rintro ⟨h1, h2⟩
    rcases h with h | h
    · rw [h] at h1; cases h1
    · omega

theorem bound_one {x : Nf} (hx : nfOk x = true) (pr : List Int) : BoundR x [leafC pr] = if pricesOk x pr then .tuple [I (leafN x pr 0 0), I 0] else .tuple [I 0, I 76] := by
  unfold BoundR
  rw [hx, if_pos rfl, if_pos (by simp)]
  by_cases hp : pricesOk x pr = true
  · rw [if_pos hp]
    have : boundN x [leafC pr] = ⟨true, 1, true, leafN x pr 0 0⟩ := by
      unfold boundN
      simp [readN, leafC, hp]
    rw [this]; rfl
  · rw [if_neg hp]
    have : boundN x [leafC pr] = ⟨false, 1, false, 0⟩ := by
      unfold boundN
      simp [readN, leafC, hp]
    rw [this]; rfl

theorem split_fits {x : Nf} {i : Nat} (hi : i < x.passes.length) (d : Nat) : splitOk x (cutC i) d = !d.testBit i := by
  unfold splitOk cutC
  have : btw (i : Int) 0 ((x.passes.length : Int) - 1) = true := by rw [btw_iff]; omega
  rw [this]; simp

theorem bound_three {x : Nf} (hx : nfOk x = true) {pr : List Int} (hp : pricesOk x pr = true) {i : Nat} (hi : i < x.passes.length) :
    BoundR x [cutC i, leafC pr, leafC pr] = .tuple [I (if leafN x pr 0 (2 ^ i) < leafN x pr (2 ^ i) (2 ^ i) then leafN x pr 0 (2 ^ i) else leafN x pr (2 ^ i) (2 ^ i)), I 0] := by
  unfold BoundR
  rw [hx, if_pos rfl, if_pos (by simp)]
  have hs : splitOk x (cutC i) 0 = true := by rw [split_fits hi]; simp
  have : boundN x [cutC i, leafC pr, leafC pr] = ⟨true, 3, true, if leafN x pr 0 (2 ^ i) < leafN x pr (2 ^ i) (2 ^ i) then leafN x pr 0 (2 ^ i) else leafN x pr (2 ^ i) (2 ^ i)⟩ := by
    unfold boundN
    show readN x [cutC i, leafC pr, leafC pr] (2 + 1) 0 0 ⟨true, 0, false, 0⟩ = _
    rw [read_cut (n := 2) (i := i) hs rfl (by simp) rfl]
    rw [read_leaf0 (n := 1) (pr := pr) (c := 0 ||| 2 ^ i) (d := 0 ||| 2 ^ i) (s := ⟨true, 0 + 1, false, 0⟩) hp rfl rfl (by simp) rfl]
    rw [read_leaf (n := 1) (pr := pr) (c := 0) (d := 0 ||| 2 ^ i) (s := ⟨true, 0 + 1 + 1, true, leafN x pr (0 ||| 2 ^ i) (0 ||| 2 ^ i)⟩) hp rfl (by simp) rfl]
    rw [Nat.zero_or]
    by_cases h : leafN x pr 0 (2 ^ i) < leafN x pr (2 ^ i) (2 ^ i)
    · rw [if_pos h, if_pos (by simp [h])]
    · rw [if_neg h, if_neg (by simp [h])]
  rw [this]; rfl

theorem bound_two {x : Nf} (hx : nfOk x = true) {pr : List Int} (hp : pricesOk x pr = true) {i : Nat} (hi : i < x.passes.length) :
    BoundR x [cutC i, leafC pr] = .tuple [I 0, I 76] := by
  unfold BoundR
  rw [hx, if_pos rfl, if_pos (by simp)]
  have hs : splitOk x (cutC i) 0 = true := by rw [split_fits hi]; simp
  have : (boundN x [cutC i, leafC pr]).ok = false := by
    unfold boundN
    show (readN x [cutC i, leafC pr] (1 + 1) 0 0 ⟨true, 0, false, 0⟩).ok = _
    rw [read_cut (n := 1) (i := i) hs rfl (by simp) rfl]
    rw [read_leaf0 (n := 0) (pr := pr) (c := 0 ||| 2 ^ i) (d := 0 ||| 2 ^ i) (s := ⟨true, 0 + 1, false, 0⟩) hp rfl rfl (by simp) rfl]
    exact read_dead (.inr (by simp))
  rw [this]; rfl

theorem bound_five {x : Nf} (hx : nfOk x = true) {pr : List Int} (hp : pricesOk x pr = true) {i : Nat} (hi : i < x.passes.length) :
    BoundR x [cutC i, cutC i, leafC pr, leafC pr, leafC pr] = .tuple [I 0, I 76] := by
  unfold BoundR
  rw [hx, if_pos rfl, if_pos (by simp)]
  have hs : splitOk x (cutC i) 0 = true := by rw [split_fits hi]; simp
  have hs2 : splitOk x (cutC i) (2 ^ i) = false := by rw [split_fits hi]; simp
  have : (boundN x [cutC i, cutC i, leafC pr, leafC pr, leafC pr]).ok = false := by
    unfold boundN
    show (readN x [cutC i, cutC i, leafC pr, leafC pr, leafC pr] (4 + 1) 0 0 ⟨true, 0, false, 0⟩).ok = _
    rw [read_cut (n := 4) (i := i) hs rfl (by simp) rfl]
    exact read_dead (.inl (read_bad (n := 3) (i := i) (by rw [Nat.zero_or]; exact hs2) rfl (by simp) rfl))
  rw [this]; rfl


theorem c_BinSplits {x : Nf} (hx : nfSane x) {pr : List Int} (hpr : pr.length ≤ 9223372036854775807) (n : Int) : C Tryd.prog F.law07_BinSplits [.agg (nfC x), intsV pr, I n] (.bool true) := by
  have hxa := hx.2
  have kB : ∀ pf : List Ct, (∀ k ∈ pf, k.prices.length ≤ 9223372036854775807) → C Tryd.prog F.bin_Bound [.agg (nfC x), cutsV pf] (BoundR x pf) := fun pf h => c_Bound hxa h
  have hle : ∀ k : Ct, k = leafC pr → k.prices.length ≤ 9223372036854775807 := by rintro k rfl; exact hpr
  have hce : ∀ (i : Nat) (k : Ct), k = cutC i → k.prices.length ≤ 9223372036854775807 := by rintro i k rfl; simp [cutC]
  have k1 := kB [leafC pr] (by simpa using hle _ rfl)
  refine C_of mixed chk.law07_BinSplits (by simp) fun S ok => ?_
  refine Tr.seqR rfl (by simp) ?_
  by_cases hk : nfOk x = true
  rotate_left
  · rw [bound_bad (by simpa using hk)] at k1
    refine Tr.seqC rfl (by simp) (Steps.call rfl rfl k1 (Steps.fin rfl (by simp) ?_))
    refine Tr.seq (Tr.seqR rfl (by simp) (Tr.condT rfl ?_))
    refine Tr.seqC rfl (by simp) (Steps.gcall rfl rfl rfl rfl (by simp) (fun _ => c_works) (Steps.fin rfl (by simp) (Tr.retX rfl rfl rfl rfl trivial)))
  rw [bound_one hk] at k1
  by_cases hp : pricesOk x pr = true
  rotate_left
  · rw [if_neg hp] at k1
    refine Tr.seqC rfl (by simp) (Steps.call rfl rfl k1 (Steps.fin rfl (by simp) ?_))
    refine Tr.seq (Tr.seqR rfl (by simp) (Tr.condT rfl ?_))
    refine Tr.seqC rfl (by simp) (Steps.gcall rfl rfl rfl rfl (by simp) (fun _ => c_works) (Steps.fin rfl (by simp) (Tr.retX rfl rfl rfl rfl trivial)))
  rw [if_pos hp] at k1
  refine Tr.seqC rfl (by simp) (Steps.call rfl rfl k1 (Steps.fin rfl (by simp) ?_))
  refine Tr.seq (Tr.seqR rfl (by simp) (Tr.cond rfl rfl (fun h => ?_) (fun h => Tr.skip ?_)))
  · refine Tr.seqC rfl (by simp) (Steps.gcall rfl rfl rfl rfl (by simp) (fun _ => c_works) (Steps.fin rfl (by simp) (Tr.retX rfl rfl rfl rfl trivial)))
  have hpos : 0 < x.passes.length := by
    have h : (((x.passes.map eQ).length : Int) == 0) = false := h
    simp at h
    exact List.length_pos_iff.2 h
  have h10 := (nfOk_spec hk).1.2
  have hr := restI_bd (n := n) (m := (x.passes.length : Int)) (by omega)
  have kr := c_Rest n (x.passes.length : Int) (by omega)
  obtain ⟨i, hi⟩ : ∃ i : Nat, restI n (x.passes.length : Int) = i := ⟨(restI n (x.passes.length : Int)).toNat, by omega⟩
  rw [hi] at hr kr
  have hil : i < x.passes.length := by omega
  have kr2 : C Tryd.prog F.ref00_Rest [I n, I ((x.passes.map eQ).length : Nat)] (I (i : Nat)) := by rw [List.length_map]; exact kr
  refine Tr.seqC rfl (by simp) (Steps.call rfl rfl kr2 (Steps.fin rfl (by simp) ?_))
  have k3 := kB [cutC i, leafC pr, leafC pr] (by simpa using ⟨hce i _ rfl, hle _ rfl⟩)
  have k4 := kB [cutC i, leafC pr] (by simpa using ⟨hce i _ rfl, hle _ rfl⟩)
  have k5 := kB [cutC i, cutC i, leafC pr, leafC pr, leafC pr] (by simpa using ⟨hce i _ rfl, hle _ rfl⟩)
  rw [bound_three hk hp hil] at k3
  rw [bound_two hk hp hil] at k4
  rw [bound_five hk hp hil] at k5
  obtain ⟨l1, l2⟩ := leaf_split hk hp hil
  obtain ⟨A, hA⟩ : ∃ A, leafN x pr 0 0 = A := ⟨_, rfl⟩
  obtain ⟨B, hB⟩ : ∃ B, (if leafN x pr 0 (2 ^ i) < leafN x pr (2 ^ i) (2 ^ i) then leafN x pr 0 (2 ^ i) else leafN x pr (2 ^ i) (2 ^ i)) = B := ⟨_, rfl⟩
  have hAB : B ≥ A := by rw [← hA, ← hB]; split <;> omega
  rw [hB] at k3
  rw [hA]
  refine Tr.weak (s' := { env := [(1, intsV pr), (3, .ptr 3 0), (7, I A), (9, I (i : Nat))], bx := [(3, ⟨nfC x, false⟩)], rw := [], log := [], stp := false })
    (Wk.le (.cons rfl (.refl _) (.cons rfl (.refl _) (.cons rfl (.refl _) (.cons rfl (.refl _) .nil)))) (.cons rfl (LLe.refl _) .nil) .nil rfl rfl) ?_
  refine Tr.seqN 3 rfl (by simp) ?_
  refine stepsWeak (s' := { env := [(1, intsV pr), (3, .ptr 3 0), (7, I A), (9, I (i : Nat)), (46, .agg (nfC x)), (48, eC (cutC i))], bx := [(3, ⟨nfC x, false⟩)], rw := [], log := [], stp := false })
    (Wk.le (.cons rfl (.refl _) (.cons rfl (.refl _) (.cons rfl (.refl _) (.cons rfl (.refl _) (.cons rfl (.refl _) (.cons rfl (VLe.agg2 (.refl _) (.nil 0 1)) .nil)))))) (.cons rfl (LLe.refl _) .nil) .nil rfl rfl) ?_
  refine Steps.run rfl (by simp [cutC]) (Steps.call rfl rfl k3 (Steps.fin rfl (by simp) ?_))
  refine Tr.weak (s' := { env := [(1, intsV pr), (3, .ptr 3 0), (7, I A), (8, I 0), (9, I (i : Nat)), (10, I B)], bx := [(3, ⟨nfC x, false⟩)], rw := [], log := [], stp := false })
    (Wk.le (.cons rfl (.refl _) (.cons rfl (.refl _) (.cons rfl (.refl _) (.cons rfl (.refl _) (.cons rfl (.refl _) (.cons rfl (.refl _) .nil)))))) (.cons rfl (LLe.refl _) .nil) .nil rfl rfl) ?_
  refine Tr.seqN 3 rfl (by simp) ?_
  refine stepsWeak (s' := { env := [(1, intsV pr), (3, .ptr 3 0), (7, I A), (8, I 0), (9, I (i : Nat)), (10, I B), (58, .agg (nfC x)), (60, eC (cutC i))], bx := [(3, ⟨nfC x, false⟩)], rw := [], log := [], stp := false })
    (Wk.le (.cons rfl (.refl _) (.cons rfl (.refl _) (.cons rfl (.refl _) (.cons rfl (.refl _) (.cons rfl (.refl _) (.cons rfl (.refl _) (.cons rfl (.refl _) (.cons rfl (VLe.agg2 (.refl _) (.nil 0 1)) .nil)))))))) (.cons rfl (LLe.refl _) .nil) .nil rfl rfl) ?_
  refine Steps.run rfl (by simp [cutC]) (Steps.call rfl rfl k4 (Steps.fin rfl (by simp) ?_))
  refine Tr.weak (s' := { env := [(1, intsV pr), (3, .ptr 3 0), (7, I A), (8, I 0), (9, I (i : Nat)), (10, I B), (12, I 76)], bx := [(3, ⟨nfC x, false⟩)], rw := [], log := [], stp := false })
    (Wk.le (.cons rfl (.refl _) (.cons rfl (.refl _) (.cons rfl (.refl _) (.cons rfl (.refl _) (.cons rfl (.refl _) (.cons rfl (.refl _) (.cons rfl (.refl _) .nil))))))) (.cons rfl (LLe.refl _) .nil) .nil rfl rfl) ?_
  refine Tr.seqN 5 rfl (by simp) ?_
  refine stepsWeak (s' := { env := [(1, intsV pr), (3, .ptr 3 0), (7, I A), (8, I 0), (9, I (i : Nat)), (10, I B), (12, I 76), (68, .agg (nfC x)), (70, eC (cutC i)), (72, eC (cutC i))], bx := [(3, ⟨nfC x, false⟩)], rw := [], log := [], stp := false })
    (Wk.le (.cons rfl (.refl _) (.cons rfl (.refl _) (.cons rfl (.refl _) (.cons rfl (.refl _) (.cons rfl (.refl _) (.cons rfl (.refl _) (.cons rfl (.refl _) (.cons rfl (.refl _) (.cons rfl (VLe.agg2 (.refl _) (.nil 0 1)) (.cons rfl (VLe.agg2 (.refl _) (.nil 0 1)) .nil)))))))))) (.cons rfl (LLe.refl _) .nil) .nil rfl rfl) ?_
  refine Steps.run rfl (by simp [cutC]) (Steps.call rfl rfl k5 (Steps.fin rfl (by simp) ?_))
  refine Tr.seqC rfl (by simp) (Steps.gcall rfl rfl rfl rfl (by simp) (fun _ => c_works) (Steps.fin rfl (by simp) (Tr.retX rfl rfl rfl ?_ trivial)))
  simp [packR, hAB]

end Go.Proofs.YtffoiccokigjcaaDoor
