/-
  Parts of the proof, 4: the abstract machine, the compiled code, contracts of the functions, plain laws.
-/
import Derived.Test.YtecggpjpckicgaaZ3
import Derived.Test.YtecggpjpckicgaaRows
import Derived.WalkKit
import Derived.ProofKit
import Derived.OpenShut
import Derived.ShutString
import Derived.ChangeOld
import Derived.Below


/-! Contracts: values and images are the same; nil results as empty ones. -/
set_option linter.unusedVariables false
set_option linter.unusedSimpArgs false
set_option maxRecDepth 20000
namespace Go.Proofs.Ytecggpjpckicgaa
open Go.Am
attribute [local simp] cells scalar mkv splice under2 under dem dem1 boxC earC cellC eB

theorem repD_nil {w : World} {φ : Nat → Nat} {l1 l2 : List V} {sz : Nat} {x : Value} (h : RepD w φ (.agg (l1 ++ .nils :: l2)) x) : RepD w φ (.agg (l1 ++ .slice 0 sz [] :: l2)) x := by
  cases h with
  | agg _ vs hl hh =>
    refine .agg _ vs (by simpa using hl) fun i v x hv hx => ?_
    rw [List.getElem?_append] at hv
    by_cases hi : i < l1.length
    · rw [if_pos hi] at hv
      exact hh i v x (by rw [List.getElem?_append, if_pos hi]; exact hv) hx
    · rw [if_neg hi] at hv
      by_cases h0 : i - l1.length = 0
      · rw [h0] at hv
        have hv : V.slice 0 sz [] = v := by simpa using hv
        subst hv
        have := hh i .nils x (by rw [List.getElem?_append, if_neg hi, h0]; rfl) hx
        cases this
        exact .slice0 sz none 0
      · refine hh i v x ?_ hx
        rw [List.getElem?_append, if_neg hi]
        obtain ⟨m, hm⟩ : ∃ m, i - l1.length = m + 1 := ⟨i - l1.length - 1, by omega⟩
        rw [hm] at hv ⊢
        simpa using hv

theorem repR_nil {w : World} {φ : Nat → Nat} {l1 l2 : List V} {sz : Nat} {r : List V} {x : Value} (h : RepR w φ (.tuple (.agg (l1 ++ .nils :: l2) :: r)) x) : RepR w φ (.tuple (.agg (l1 ++ .slice 0 sz [] :: l2) :: r)) x := by
  cases h with
  | data h => cases h
  | tuple _ xs hl hh =>
    refine .tuple _ xs (by simpa using hl) fun i v x hv hx => ?_
    cases i with
    | zero =>
      have hv : V.agg (l1 ++ .slice 0 sz [] :: l2) = v := by simpa using hv
      subst hv
      exact repD_nil (hh 0 _ x rfl hx)
    | succ i => exact hh (i + 1) v x (by simpa using hv) hx

theorem name_le {l : List Echo} {x y z aper slow : Int} {w : World} {φ : Nat → Nat} {v : Value} (h : RepR w φ (nameR .nils l x y z aper slow) v) : RepR w φ (nameR (.slice 0 2 []) l x y z aper slow) v := by
  unfold nameR at h ⊢
  split
  · split
    · rename_i h1 h2; rw [if_pos h1, if_pos h2] at h; exact h
    · rename_i h1 h2; rw [if_pos h1, if_neg h2] at h; exact repR_nil (l1 := [I 0, I 0, I 0]) h
  · rename_i h1; rw [if_neg h1] at h; exact repR_nil (l1 := [I 0, I 0, I 0]) h

abbrev nameS := nameR (.slice 0 2 [])

theorem c_NameS {l : List Echo} (hl : sane l) (x y z aper slow : Int) : C Try.prog F.volume_Name [sE l, .agg (cellC x y z), I aper, I slow] (nameS l x y z aper slow) :=
  (c_Name hl x y z aper slow).le fun _ _ _ h => name_le h

theorem not_of {c d : Bool} (h : c = !d) : d = !c := by rw [h]; cases d <;> rfl

theorem earOk_one (aper s : Int) : earOk aper (s, s) = (btw aper 0 128 && btw s 0 4096) := by
  unfold earOk btw
  by_cases h1 : s ≥ 0 <;> by_cases h2 : s ≤ 4096 <;> simp [h1, h2]

theorem eB_inj {a b : Int × Int} : (a.1 == b.1 && (a.2 == b.2 && true)) = decide (a = b) := by
  obtain ⟨a1, a2⟩ := a; obtain ⟨b1, b2⟩ := b
  by_cases h1 : a1 = b1 <;> by_cases h2 : a2 = b2 <;> simp [h1, h2]

theorem take_ext {α : Type} {l l' : List α} {k : Nat} (hk : k < l.length) (hk' : k < l'.length) (h : l.take k = l'.take k) (e : l[k] = l'[k]) : l.take (k + 1) = l'.take (k + 1) := by
  rw [List.take_add_one, List.take_add_one, h, List.getElem?_eq_getElem hk, List.getElem?_eq_getElem hk', e]

theorem c_SameNamed (x y z x' y' z' : Int) (s s' : Int × Int) (l l' : List (Int × Int)) (hl : l.length ≤ 9223372036854775807) :
    C Try.prog F.ref10_SameNamed [.agg [I x, I y, I z, .slice 0 2 (l.map eB), I s.1, I s.2], .agg [I x', I y', I z', .slice 0 2 (l'.map eB), I s'.1, I s'.2]]
      (.bool (decide ((x = x' ∧ y = y' ∧ z = z') ∧ s = s' ∧ l = l'))) := by
  refine C_of mixed chk.ref10_SameNamed (by simp) fun S ok => ?_
  refine Tr.seqR rfl (by simp) (Tr.seq (Tr.seqR rfl (by simp) ?_))
  have hc : ∀ c : Bool, (bif (bif (!(x == x' && (y == y' && (z == z' && true)))) then true else !(s.1 == s'.1 && (s.2 == s'.2 && true))) then true else ((l.map eB).length : Int) != ((l'.map eB).length : Int)) = c →
      c = !decide ((x = x' ∧ y = y' ∧ z = z') ∧ s = s' ∧ l.length = l'.length) := by
    rintro c rfl
    rw [eB_inj]
    by_cases h1 : x = x' <;> by_cases h2 : y = y' <;> by_cases h3 : z = z' <;> by_cases h4 : s = s' <;> by_cases h5 : l.length = l'.length <;> simp [h1, h2, h3, h4, h5] <;> omega
  refine Tr.cond rfl rfl (fun h1 => Tr.seqR rfl (by simp) (Tr.retX rfl rfl rfl ?_ trivial)) (fun h1 => Tr.skip ?_)
  · have h2 := not_of (hc true h1)
    simp only [packR, V.bool.injEq]
    rw [decide_eq_false]
    rintro ⟨a, b, rfl⟩
    simp only [Bool.not_true, decide_eq_false_iff_not] at h2
    exact h2 ⟨a, b, by simp⟩
  · have h2 := not_of (hc false h1)
    simp only [Bool.not_false, decide_eq_true_eq] at h2
    obtain ⟨hxyz, hs, hll⟩ := h2
    refine Tr.seq (Tr.seqR rfl (by simp) (Tr.block ?_))
    refine Tr.loop (fun k st => (k ≤ l.length ∧ l.take k = l'.take k) ∧ st = { env := [(2, .ptr 2 0), (3, .ptr 3 0), (5, I k)], bx := [(2, ⟨[I x, I y, I z, .slice 0 2 (l.map eB), I s.1, I s.2], false⟩), (3, ⟨[I x', I y', I z', .slice 0 2 (l'.map eB), I s'.1, I s'.2], false⟩)], rw := [], log := [], stp := false }) (fun k => l.length - k) 0
      (Wk.le (.cons rfl (.refl _) (.cons rfl (.refl _) (.cons rfl (.refl _) .nil))) (.cons rfl (LLe.refl _) (.cons rfl (LLe.refl _) .nil)) .nil rfl rfl) ⟨⟨by omega, by simp⟩, rfl⟩ ?_
    rintro k st ⟨⟨hk, he⟩, rfl⟩
    refine Tr.seq (Tr.seqR rfl (by simp) (Tr.cond rfl rfl (fun h3 => ?_) (fun h3 => ?_)))
    · have h3 : k < l.length := by simpa using h3
      have h4 : k < l'.length := by omega
      refine Tr.skip (Tr.seq (Tr.block (Tr.seq (Tr.drawK (TraceK.runN 4 rfl (by simp; omega) ?_)))))
      rw [getD_map h3]
      refine TraceK.runN 5 rfl (by simp; omega) ?_
      rw [getD_map h4]
      refine TraceK.run rfl (by simp) (.done ⟨by kernel_rfl, by kernel_rfl, ?_⟩)
      refine Tr.cond rfl rfl (fun h5 => Tr.seqR rfl (by simp) (Tr.retX rfl rfl rfl ?_ trivial)) (fun h5 => Tr.skip (Tr.regR rfl (by simp) ?_))
      · have h5 : (!(l[k].1 == l'[k].1 && (l[k].2 == l'[k].2 && true))) = true := h5
        rw [eB_inj] at h5
        simp only [packR, V.bool.injEq]
        rw [decide_eq_false]
        rintro ⟨_, _, rfl⟩
        simp at h5
      · have h5 : (!(l[k].1 == l'[k].1 && (l[k].2 == l'[k].2 && true))) = false := h5
        rw [eB_inj] at h5
        have h5 : l[k] = l'[k] := by simpa using h5
        exact ⟨k + 1, _, Wk.le (.cons rfl (.refl _) (.cons rfl (.refl _) (.cons rfl (VLe.i (w64 (by omega) (by omega))) .nil))) (.cons rfl (LLe.refl _) (.cons rfl (LLe.refl _) .nil)) .nil rfl rfl, ⟨⟨h3, take_ext h3 h4 he h5⟩, rfl⟩, by omega⟩
    · have h3 : k = l.length := by simp at h3; omega
      subst h3
      refine Tr.exit (Tr.seqR rfl (by simp) (Tr.retX rfl rfl rfl ?_ trivial))
      rw [List.take_length, hll, List.take_length] at he
      simp [packR, hxyz, hs, he]

def intsV (l : List Int) : V := .slice 0 1 (l.map I)

theorem c_Alike (l l' : List Int) (hl : l.length ≤ 9223372036854775807) : C Try.prog F.ref00_Alike [intsV l, intsV l'] (.bool (decide (l = l'))) := by
  refine C_of mixed chk.ref00_Alike (by simp) fun S ok => ?_
  refine Tr.seqR rfl (by simp) (Tr.seq (Tr.seqR rfl (by simp) ?_))
  refine Tr.cond rfl rfl (fun h1 => Tr.seqR rfl (by simp) (Tr.retX rfl rfl rfl ?_ trivial)) (fun h1 => Tr.skip ?_)
  · have h1 : (((l.map I).length : Int) != ((l'.map I).length : Int)) = true := h1
    simp only [packR, V.bool.injEq]
    rw [decide_eq_false]
    rintro rfl
    simp at h1
  · have h1 : (((l.map I).length : Int) != ((l'.map I).length : Int)) = false := h1
    have hll : l.length = l'.length := by simp at h1; omega
    refine Tr.seq (Tr.seqR rfl (by simp) (Tr.block ?_))
    refine Tr.loop (fun k st => (k ≤ l.length ∧ l.take k = l'.take k) ∧ st = { env := [(0, intsV l), (1, intsV l'), (5, I k)], bx := [], rw := [], log := [], stp := false }) (fun k => l.length - k) 0
      (Wk.le (.cons rfl (.refl _) (.cons rfl (.refl _) (.cons rfl (.refl _) .nil))) .nil .nil rfl rfl) ⟨⟨by omega, by simp⟩, rfl⟩ ?_
    rintro k st ⟨⟨hk, he⟩, rfl⟩
    refine Tr.seq (Tr.seqR rfl (by simp) (Tr.cond rfl rfl (fun h3 => ?_) (fun h3 => ?_)))
    · have h3 : k < l.length := by simpa using h3
      have h4 : k < l'.length := by omega
      refine Tr.skip (Tr.seq (Tr.block (Tr.seq (Tr.drawK (TraceK.runN 3 rfl (by simp; omega) ?_)))))
      rw [getD_map h3]
      refine TraceK.runN 4 rfl (by simp; omega) ?_
      rw [getD_map h4]
      refine TraceK.run rfl (by simp) (.done ⟨by kernel_rfl, by kernel_rfl, ?_⟩)
      refine Tr.cond rfl rfl (fun h5 => Tr.seqR rfl (by simp) (Tr.retX rfl rfl rfl ?_ trivial)) (fun h5 => Tr.skip (Tr.regR rfl (by simp) ?_))
      · have h5 : (l[k] != l'[k]) = true := h5
        simp only [packR, V.bool.injEq]
        rw [decide_eq_false]
        rintro rfl
        simp at h5
      · have h5 : (l[k] != l'[k]) = false := h5
        have h5 : l[k] = l'[k] := by simpa using h5
        exact ⟨k + 1, _, Wk.le (.cons rfl (.refl _) (.cons rfl (.refl _) (.cons rfl (VLe.i (w64 (by omega) (by omega))) .nil))) .nil .nil rfl rfl, ⟨⟨h3, take_ext h3 h4 he h5⟩, rfl⟩, by omega⟩
    · have h3 : k = l.length := by simp at h3; omega
      subst h3
      refine Tr.exit (Tr.seqR rfl (by simp) (Tr.retX rfl rfl rfl ?_ trivial))
      rw [List.take_length, hll, List.take_length] at he
      simp [packR, he]

end Go.Proofs.Ytecggpjpckicgaa

/-! Contracts: enclosures and values of boxes, in the program and in the specification. -/
set_option linter.unusedVariables false
set_option linter.unusedSimpArgs false
set_option maxRecDepth 20000
namespace Go.Proofs.Ytecggpjpckicgaa
open Go.Am
attribute [local simp] cells scalar mkv splice under2 under dem dem1 boxC earC cellC eB

theorem c_box10 (b : Bx) : C Try.prog F.ref10_box [.agg (cellC b.x b.y b.z), .agg (cellC b.a b.b b.c)] (.bool (boxOk b)) := by
  refine C_of mixed chk.ref10_box (by simp) fun S ok => ?_
  refine Tr.seqR rfl (by simp) (Tr.seq (Tr.seqC rfl (by simp) (Steps.call rfl rfl (c_grid b.x b.y b.z) (Steps.fin rfl (by simp) ?_))))
  refine Tr.cond rfl rfl (fun h1 => Tr.seqR rfl (by simp) (Tr.retX rfl rfl rfl ?_ trivial)) (fun h1 => Tr.skip ?_)
  · have h1 : cellOk b.x b.y b.z = false := by simpa using h1
    simp [packR, boxOk, h1]
  have h1 : cellOk b.x b.y b.z = true := by simpa using h1
  have g1 : ((-64 ≤ b.x ∧ b.x ≤ 64) ∧ (-64 ≤ b.y ∧ b.y ≤ 64)) ∧ 0 ≤ b.z ∧ b.z ≤ 64 := by simpa [cellOk, btw] using h1
  refine Tr.seq (Tr.seqR rfl (by simp) (Tr.block ?_))
  have fail : ∀ {p s : Int} {c : Bool}, (-64 ≤ p ∧ p ≤ 64) → (bif (!btw s 1 16) then true else decide (IntKind.i64.wrap (IntKind.i64.wrap (p + s) - 1) > 64)) = c → c = !(btw s 1 16 && decide (p + s - 1 ≤ 64)) := by
    rintro p s c hp rfl
    by_cases h : btw s 1 16 = true
    · have h' : 1 ≤ s ∧ s ≤ 16 := by simpa [btw] using h
      rw [w64 (n := p + s) (by omega) (by omega), w64 (by omega) (by omega), h]
      by_cases h2 : p + s - 1 ≤ 64
      · simp [h2]
      · simp [h2]; omega
    · simp [h]
  refine Tr.rounds 4 (TrN.succ ?_)
  refine Tr.seq (Tr.seqR rfl (by simp) (Tr.condT rfl (Tr.skip ?_)))
  refine Tr.seq (Tr.block (Tr.seq (Tr.drawK (TraceK.run rfl (by simp) (TraceK.call rfl rfl (c_between _ _ _) (TraceK.run rfl (by simp) (.done ⟨by kernel_rfl, by kernel_rfl, ?_⟩)))))))
  refine Tr.cond rfl rfl (fun h2 => Tr.seqR rfl (by simp) (Tr.retX rfl rfl rfl ?_ trivial)) (fun h2 => Tr.skip (Tr.regR rfl (by simp) (TrN.succ ?_)))
  · have h2 := not_of (fail (p := b.x) (s := b.a) (by omega) h2)
    simp only [Bool.not_true, Bool.and_eq_false_iff, decide_eq_false_iff_not] at h2
    rcases h2 with h2 | h2
    · simp [packR, boxOk, smallB, h2]
    · have : btw (b.x + b.a - 1) (-64) 64 = false := by simp only [btw, Bool.and_eq_false_iff, decide_eq_false_iff_not]; omega
      simp [packR, boxOk, cellOk, this]
  have h2 := not_of (fail (p := b.x) (s := b.a) (by omega) h2)
  refine Tr.seq (Tr.seqR rfl (by simp) (Tr.condT rfl (Tr.skip ?_)))
  refine Tr.seq (Tr.block (Tr.seq (Tr.drawK (TraceK.run rfl (by simp) (TraceK.call rfl rfl (c_between _ _ _) (TraceK.run rfl (by simp) (.done ⟨by kernel_rfl, by kernel_rfl, ?_⟩)))))))
  refine Tr.cond rfl rfl (fun h3 => Tr.seqR rfl (by simp) (Tr.retX rfl rfl rfl ?_ trivial)) (fun h3 => Tr.skip (Tr.regR rfl (by simp) (TrN.succ ?_)))
  · have h3 := not_of (fail (p := b.y) (s := b.b) (by omega) h3)
    simp only [Bool.not_true, Bool.and_eq_false_iff, decide_eq_false_iff_not] at h3
    rcases h3 with h3 | h3
    · simp [packR, boxOk, smallB, h3]
    · have : btw (b.y + b.b - 1) (-64) 64 = false := by simp only [btw, Bool.and_eq_false_iff, decide_eq_false_iff_not]; omega
      simp [packR, boxOk, cellOk, this]
  have h3 := not_of (fail (p := b.y) (s := b.b) (by omega) h3)
  refine Tr.seq (Tr.seqR rfl (by simp) (Tr.condT rfl (Tr.skip ?_)))
  refine Tr.seq (Tr.block (Tr.seq (Tr.drawK (TraceK.run rfl (by simp) (TraceK.call rfl rfl (c_between _ _ _) (TraceK.run rfl (by simp) (.done ⟨by kernel_rfl, by kernel_rfl, ?_⟩)))))))
  refine Tr.cond rfl rfl (fun h4 => Tr.seqR rfl (by simp) (Tr.retX rfl rfl rfl ?_ trivial)) (fun h4 => Tr.skip (Tr.regR rfl (by simp) (TrN.succ ?_)))
  · have h4 := not_of (fail (p := b.z) (s := b.c) (by omega) h4)
    simp only [Bool.not_true, Bool.and_eq_false_iff, decide_eq_false_iff_not] at h4
    rcases h4 with h4 | h4
    · simp [packR, boxOk, smallB, h4]
    · have : btw (b.z + b.c - 1) 0 64 = false := by simp only [btw, Bool.and_eq_false_iff, decide_eq_false_iff_not]; omega
      simp [packR, boxOk, cellOk, this]
  have h4 := not_of (fail (p := b.z) (s := b.c) (by omega) h4)
  refine Tr.seq (Tr.seqR rfl (by simp) (Tr.condF rfl (Tr.exit ?_)))
  refine Tr.seqR rfl (by simp) (Tr.retX rfl rfl rfl ?_ trivial)
  simp only [Bool.not_false, Bool.and_eq_true, decide_eq_true_eq] at h2 h3 h4
  have k1 := (by simpa [btw] using h2.1 : 1 ≤ b.a ∧ b.a ≤ 16)
  have k2 := (by simpa [btw] using h3.1 : 1 ≤ b.b ∧ b.b ≤ 16)
  have k3 := (by simpa [btw] using h4.1 : 1 ≤ b.c ∧ b.c ≤ 16)
  have m1 := mul_bd (a := b.a) (b := b.b) (A := 16) (B := 16) (by omega) (by omega)
  have m2 := mul_bd (a := b.a * b.b) (b := b.c) (A := 256) (B := 16) (by omega) (by omega)
  have l1 : cellOk (b.x + b.a - 1) (b.y + b.b - 1) (b.z + b.c - 1) = true := by
    simp only [cellOk, btw, Bool.and_eq_true, decide_eq_true_eq]; omega
  simp [packR, boxOk, smallB, h2.1, h3.1, h4.1, l1, h1]
  rw [w64 (n := b.a * b.b) (by omega) (by omega), w64 (by omega) (by omega)]

theorem c_places10 (b : Bx) (hb : smallB b = true) (hx : cellOk b.x b.y b.z = true) : C Try.prog F.ref10_places [.agg (cellC b.x b.y b.z), .agg (cellC b.a b.b b.c)] (.slice 0 3 ((boxCells b).map fun p => .agg (cellC p.1 p.2.1 p.2.2))) := by
  obtain ⟨h1, h2, h3, h4, h5, h6⟩ := small_mid hb hx
  have hlen := boxCells_len hb
  refine C_of mixed chk.ref10_places (by simp) fun S ok => ?_
  refine Tr.seqR rfl (by simp) (Tr.seqR rfl (by simp) (Tr.seq (Tr.seqR rfl (by simp) (Tr.block ?_))))
  refine Tr.loop (α := Nat × List V) (fun p s => (p.1 ≤ b.a.toNat ∧ p.2 = (xsC b p.1).map fun p => .agg (cellC p.1 p.2.1 p.2.2)) ∧ s = { env := [(2, .ptr 2 0), (3, .ptr 3 0), (5, .slice 43 3 p.2), (6, I p.1)], bx := [(2, ⟨cellC b.x b.y b.z, false⟩), (3, ⟨cellC b.a b.b b.c, false⟩)], rw := [(42, p.2.length, 3, 23)], log := [], stp := false }) (fun p => b.a.toNat - p.1) (0, [])
    (Wk.le (.cons rfl (.refl _) (.cons rfl (.refl _) (.cons rfl (.nil 43 3) (.cons rfl (.refl _) .nil)))) (.cons rfl (LLe.refl _) (.cons rfl (LLe.refl _) .nil)) (.new rfl .nil) rfl rfl) ⟨⟨by omega, rfl⟩, rfl⟩ ?_
  rintro ⟨k, ps⟩ s ⟨⟨hk, he⟩, rfl⟩
  simp only at hk he
  refine Tr.seq (Tr.seqR rfl (by simp) (Tr.cond rfl rfl (fun e1 => ?_) (fun e1 => ?_)))
  · have e1 : (k : Int) < b.a := by simpa using e1
    refine Tr.skip (Tr.seq (Tr.block (Tr.seqR rfl (by simp) (Tr.block ?_))))
    refine Tr.loop (α := Nat × List V) (fun p s => (p.1 ≤ b.b.toNat ∧ p.2 = (xsC b k ++ ysC b k p.1).map fun p => .agg (cellC p.1 p.2.1 p.2.2)) ∧ s = { env := [(2, .ptr 2 0), (3, .ptr 3 0), (5, .slice 43 3 p.2), (6, I k), (7, I p.1)], bx := [(2, ⟨cellC b.x b.y b.z, false⟩), (3, ⟨cellC b.a b.b b.c, false⟩)], rw := [(42, p.2.length, 3, 23)], log := [], stp := false }) (fun p => b.b.toNat - p.1) (0, ps)
      (Wk.le (.cons rfl (.refl _) (.cons rfl (.refl _) (.cons rfl (.refl _) (.cons rfl (.refl _) (.cons rfl (.refl _) .nil))))) (.cons rfl (LLe.refl _) (.cons rfl (LLe.refl _) .nil)) (.cons rfl .nil) rfl rfl) ⟨⟨by omega, by rw [he]; simp [ysC]⟩, rfl⟩ ?_
    rintro ⟨j, qs⟩ s ⟨⟨hj, hf⟩, rfl⟩
    simp only at hj hf
    refine Tr.seq (Tr.seqR rfl (by simp) (Tr.cond rfl rfl (fun e2 => ?_) (fun e2 => ?_)))
    · have e2 : (j : Int) < b.b := by simpa using e2
      refine Tr.skip (Tr.seq (Tr.block (Tr.seqR rfl (by simp) (Tr.block ?_))))
      refine Tr.loop (α := Nat × List V) (fun p s => (p.1 ≤ b.c.toNat ∧ p.2 = (xsC b k ++ ysC b k j ++ zsC b k j p.1).map fun p => .agg (cellC p.1 p.2.1 p.2.2)) ∧ s = { env := [(2, .ptr 2 0), (3, .ptr 3 0), (5, .slice 43 3 p.2), (6, I k), (7, I j), (8, I p.1)], bx := [(2, ⟨cellC b.x b.y b.z, false⟩), (3, ⟨cellC b.a b.b b.c, false⟩)], rw := [(42, p.2.length, 3, 23)], log := [], stp := false }) (fun p => b.c.toNat - p.1) (0, qs)
        (Wk.le (.cons rfl (.refl _) (.cons rfl (.refl _) (.cons rfl (.refl _) (.cons rfl (.refl _) (.cons rfl (.refl _) (.cons rfl (.refl _) .nil)))))) (.cons rfl (LLe.refl _) (.cons rfl (LLe.refl _) .nil)) (.cons rfl .nil) rfl rfl) ⟨⟨by omega, by rw [hf]; simp [zsC]⟩, rfl⟩ ?_
      rintro ⟨m, rs⟩ s ⟨⟨hm, hg⟩, rfl⟩
      simp only at hm hg
      refine Tr.seq (Tr.seqR rfl (by simp) (Tr.cond rfl rfl (fun e3 => ?_) (fun e3 => ?_)))
      · have e3 : (m : Int) < b.c := by simpa using e3
        have hle := (cells_pre b (x := k) (y := j) (z := m) (by omega) (by omega) (by omega)).length_le
        have hrl : rs.length + 1 ≤ 4096 := by
          rw [hg, List.length_map]; simp at hle ⊢; omega
        refine Tr.skip (Tr.seq (Tr.block (Tr.regR rfl (by simp; omega) (Tr.regR rfl (by simp) ?_))))
        refine ⟨(m + 1, rs ++ [.agg [I (IntKind.i64.wrap (b.x + k)), I (IntKind.i64.wrap (b.y + j)), I (IntKind.i64.wrap (b.z + m))]]), _, Wk.le (.cons rfl (.refl _) (.cons rfl (.refl _) (.cons rfl (.refl _) (.cons rfl (.refl _) (.cons rfl (.refl _) (.cons rfl (VLe.i (w64 (by omega) (by omega))) .nil)))))) (.cons rfl (LLe.refl _) (.cons rfl (LLe.refl _) .nil)) (.cons ?_ .nil) rfl rfl, ⟨⟨by simp; omega, ?_⟩, rfl⟩, by simp; omega⟩
        · show some _ = some _
          simp
        · rw [w64 (n := b.x + k) (by omega) (by omega), w64 (n := b.y + j) (by omega) (by omega), w64 (n := b.z + m) (by omega) (by omega), zsC_succ, hg]
          simp
      · have e3 : m = b.c.toNat := by simp at e3; omega
        subst e3
        refine Tr.exit (Tr.regR rfl (by simp) ?_)
        exact ⟨(j + 1, rs), _, Wk.le (.cons rfl (.refl _) (.cons rfl (.refl _) (.cons rfl (.refl _) (.cons rfl (.refl _) (.cons rfl (VLe.i (w64 (by omega) (by omega))) .nil))))) (.cons rfl (LLe.refl _) (.cons rfl (LLe.refl _) .nil)) (.cons rfl .nil) rfl rfl, ⟨⟨by simp; omega, by rw [hg, ysC_succ]; simp⟩, rfl⟩, by simp; omega⟩
    · have e2 : j = b.b.toNat := by simp at e2; omega
      subst e2
      refine Tr.exit (Tr.regR rfl (by simp) ?_)
      exact ⟨(k + 1, qs), _, Wk.le (.cons rfl (.refl _) (.cons rfl (.refl _) (.cons rfl (.refl _) (.cons rfl (VLe.i (w64 (by omega) (by omega))) .nil)))) (.cons rfl (LLe.refl _) (.cons rfl (LLe.refl _) .nil)) (.cons rfl .nil) rfl rfl, ⟨⟨by simp; omega, by rw [hf, xsC_succ]⟩, rfl⟩, by simp; omega⟩
  · have e1 : k = b.a.toNat := by simp at e1; omega
    subst e1
    refine Tr.exit (Tr.seqR rfl (by simp) (Tr.retX rfl rfl rfl ?_ trivial))
    rw [he]; rfl

end Go.Proofs.Ytecggpjpckicgaa

/-! Contracts: enclosures and values of boxes, in the program and in the specification. -/
set_option linter.unusedVariables false
set_option linter.unusedSimpArgs false
set_option maxRecDepth 20000
namespace Go.Proofs.Ytecggpjpckicgaa
open Go.Am
attribute [local simp] cells scalar mkv splice under2 under dem dem1 boxC earC cellC eB

theorem image_le {b : Bx} {of : Int × Int × Int → Int × Int} {w : World} {φ : Nat → Nat} {v : Value} (h : RepR w φ (imageR .nils b of) v) : RepR w φ (imageR (.slice 0 2 []) b of) v := by
  unfold imageR at h ⊢
  split
  · rename_i h1; rw [if_pos h1] at h; exact h
  · rename_i h1; rw [if_neg h1] at h; exact repR_nil (l1 := [I 0, I 0, I 0, I 0, I 0, I 0]) h

def boxR (nl : V) (l : List Echo) (b : Bx) (aper : Int) (slow : Int × Int) (of : Int × Int × Int → Int × Int) : V :=
  if echoesOk l then (if earOk aper slow then imageR nl b of else errImg nl 102) else errImg nl 100

theorem boxR_le {l : List Echo} {b : Bx} {aper : Int} {slow : Int × Int} {of : Int × Int × Int → Int × Int} {w : World} {φ : Nat → Nat} {v : Value} (h : RepR w φ (boxR .nils l b aper slow of) v) : RepR w φ (boxR (.slice 0 2 []) l b aper slow of) v := by
  unfold boxR at h ⊢
  split
  · split
    · rename_i h1 h2; rw [if_pos h1, if_pos h2] at h; exact image_le h
    · rename_i h1 h2; rw [if_pos h1, if_neg h2] at h; exact repR_nil (l1 := [I 0, I 0, I 0, I 0, I 0, I 0]) h
  · rename_i h1; rw [if_neg h1] at h; exact repR_nil (l1 := [I 0, I 0, I 0, I 0, I 0, I 0]) h

def encOf (l : List Echo) (aper : Int) (slow : Int × Int) (p : Int × Int × Int) : Int × Int := encB ⟨l, aper, slow⟩ p.1 p.2.1 p.2.2
def valOf (l : List Echo) (aper slow : Int) (p : Int × Int × Int) : Int × Int := valueB ⟨l, aper, (slow, slow)⟩ p.1 p.2.1 p.2.2

abbrev encS (l : List Echo) (b : Bx) (aper : Int) (slow : Int × Int) : V := boxR (.slice 0 2 []) l b aper slow (encOf l aper slow)
abbrev valS (l : List Echo) (b : Bx) (aper slow : Int) : V := boxR (.slice 0 2 []) l b aper (slow, slow) (valOf l aper slow)

theorem c_Enclose {l : List Echo} (hl : sane l) (b : Bx) (aper : Int) (slow : Int × Int) : C Try.prog F.volume_Enclose [sE l, .agg (cellC b.x b.y b.z), .agg (cellC b.a b.b b.c), I aper, .agg [I slow.1, I slow.2]] (encS l b aper slow) := by
  refine C.le (r := boxR .nils l b aper slow (encOf l aper slow)) ?_ fun _ _ _ h => boxR_le h
  refine C_of mixed chk.volume_Enclose (by simp) fun S ok => ?_
  refine Tr.seqR rfl (by simp) ?_
  by_cases hE : echoesOk l = true
  · by_cases hA : earOk aper slow = true
    · have hr : earR l aper slow = .tuple [.agg (earC ⟨l, aper, slow⟩), I 0] := by simp [earR, hE, hA]
      have hlen := echoesOk_len hE
      refine Tr.seqC rfl (by simp) (Steps.call rfl rfl (hr ▸ c_earOf hl aper slow) (Steps.fin rfl (by simp [sE]) ?_))
      refine Tr.seq (Tr.seqR rfl (by simp) (Tr.condF rfl (Tr.skip ?_)))
      by_cases hb : boxOk b = true
      · have hr2 : imageR .nils b (encOf l aper slow) = .tuple [.agg [I b.x, I b.y, I b.z, I b.a, I b.b, I b.c, .slice 0 2 ((boxCells b).map fun p => eB (encOf l aper slow p))], I 0] := by simp [imageR, hb]
        refine Tr.seqC rfl (by simp) (Steps.call rfl rfl (hr2 ▸ c_image b ⟨l, aper, slow⟩ (fun p => c_enclosure ⟨l, aper, slow⟩ p.1 p.2.1 p.2.2 hlen hl.2)) (Steps.fin rfl (by simp) (Tr.retX rfl rfl rfl ?_ trivial)))
        simp [packR, boxR, hE, hA, hr2]
      · have hb : boxOk b = false := by simpa using hb
        have hr2 : imageR .nils b (encOf l aper slow) = .tuple [.agg [I 0, I 0, I 0, I 0, I 0, I 0, .nils], I 102] := by simp [imageR, hb, errImg]
        refine Tr.seqC rfl (by simp) (Steps.call rfl rfl (hr2 ▸ c_image b ⟨l, aper, slow⟩ (fun p => c_enclosure ⟨l, aper, slow⟩ p.1 p.2.1 p.2.2 hlen hl.2)) (Steps.fin rfl (by simp) (Tr.retX rfl rfl rfl ?_ trivial)))
        simp [packR, boxR, hE, hA, hr2]
    · have hA : earOk aper slow = false := by simpa using hA
      have hr : earR l aper slow = .tuple [.agg [.nils, I 0, I 0, I 0], I 102] := by simp [earR, hE, hA]
      refine Tr.seqC rfl (by simp) (Steps.call rfl rfl (hr ▸ c_earOf hl aper slow) (Steps.fin rfl (by simp [sE]) ?_))
      refine Tr.seq (Tr.seqR rfl (by simp) (Tr.condT rfl (Tr.seqR rfl (by simp) (Tr.retX rfl rfl rfl ?_ trivial))))
      simp [packR, boxR, hE, hA, errImg]
  · have hE : echoesOk l = false := by simpa using hE
    have hr : earR l aper slow = .tuple [.agg [.nils, I 0, I 0, I 0], I 100] := by simp [earR, hE]
    refine Tr.seqC rfl (by simp) (Steps.call rfl rfl (hr ▸ c_earOf hl aper slow) (Steps.fin rfl (by simp [sE]) ?_))
    refine Tr.seq (Tr.seqR rfl (by simp) (Tr.condT rfl (Tr.seqR rfl (by simp) (Tr.retX rfl rfl rfl ?_ trivial))))
    simp [packR, boxR, hE, errImg]

def encTo (h : Ear) (x y z : Int) (k : Nat) : Int × Int := ((nears h.aper x y (h.l.take k) 0).map (reachOf h z)).foldl plusB (0, 0)

theorem encTo_succ (h : Ear) (x y z : Int) {k : Nat} (hk : k < h.l.length) : encTo h x y z (k + 1) =
    if hears h.aper x y h.l[k] = true then plusB (encTo h x y z k) (reachB h.l[k].s z (dst x y h.l[k]) h.slow) else encTo h x y z k := by
  unfold encTo
  rw [List.take_add_one, List.getElem?_eq_getElem hk, nears_append, List.map_append, List.foldl_append]
  simp only [Option.toList, nears, List.length_take, Nat.zero_add, Nat.min_eq_left (Nat.le_of_lt hk)]
  by_cases hh : hears h.aper x y h.l[k] = true
  · simp [hh, reachOf, sAt, List.getElem?_eq_getElem hk]
  · simp [hh]

end Go.Proofs.Ytecggpjpckicgaa

/-! Contracts: is there one among them; what rings. -/
set_option linter.unusedVariables false
set_option linter.unusedSimpArgs false
set_option maxRecDepth 20000
namespace Go.Proofs.Ytecggpjpckicgaa
open Go.Am
attribute [local simp] cells scalar mkv splice under2 under dem dem1

def firstA {α : Type} (p : α → Bool) : List α → Nat → Int
  | [], _ => -1
  | b :: r, k => if p b then (k : Int) else firstA p r (k + 1)

theorem firstA_drop {α : Type} (p : α → Bool) (l : List α) {k : Nat} (h : k < l.length) : firstA p (l.drop k) k = if p l[k] then (k : Int) else firstA p (l.drop (k + 1)) (k + 1) := by
  rw [List.drop_eq_getElem_cons h]; rfl

theorem firstA_nn {α : Type} (p : α → Bool) : ∀ (l : List α) (k : Nat), decide (firstA p l k ≥ 0) = l.any p
  | [], k => by simp [firstA]
  | b :: r, k => by
    simp only [firstA, List.any_cons]
    by_cases h : p b = true
    · simp [h]
    · have := firstA_nn p r (k + 1)
      simp only [h, if_false, Bool.false_or]
      simpa [h] using this

theorem c_indexI0 {l : List Int} {p : Int → Bool} {f : FuncId} (hl : l.length ≤ 9223372036854775807) (hp : ∀ b ∈ l, C Try.prog f ([I b] ++ []) (.bool (p b))) :
    C Try.prog F.slices_IndexFunc_int_int [.slice 0 1 (l.map I), .func (.func f) [] []] (I (firstA p l 0)) := by
  refine C_of mixed chk.slices_IndexFunc_int_int (by simp) fun S ok => ?_
  refine Tr.seqR rfl (by simp) ?_
  refine Tr.seq (Tr.seqR rfl (by simp) (Tr.block ?_))
  refine Tr.loop (fun k s => (k ≤ l.length ∧ firstA p l 0 = firstA p (l.drop k) k) ∧ s = { env := [(0, .slice 0 1 (l.map I)), (1, .func (.func f) [] []), (7, I l.length), (8, I k)], bx := [], rw := [], log := [], stp := false }) (fun k => l.length - k) 0
    (Wk.le (.cons rfl (.refl _) (.cons rfl (.refl _) (.cons rfl (VLe.i (by simp)) (.cons rfl (.refl _) .nil)))) .nil .nil rfl rfl) ⟨⟨by omega, by simp⟩, rfl⟩ ?_
  rintro k s ⟨⟨hk, hf⟩, rfl⟩
  refine Tr.seqR rfl (by simp) (Tr.seqI rfl (fun h1 => ?_) (fun h1 => ?_))
  · have h1 : k < l.length := by simpa using h1
    refine Tr.skipT (Tr.seq (Tr.block (Tr.seqR rfl (by simp) (Tr.seqN 4 rfl (by simp; omega) ?_))))
    rw [getD_map h1]
    refine Steps.run rfl (by simp) (Steps.callv rfl rfl (hp l[k] (List.getElem_mem h1)) (Steps.fin rfl (by simp) ?_))
    refine Tr.cond rfl rfl (fun h2 => ?_) (fun h2 => ?_)
    · refine Tr.seqR rfl (by simp) (Tr.retX rfl rfl rfl ?_ trivial)
      rw [hf, firstA_drop p l h1, if_pos h2]; rfl
    · refine Tr.skip (Tr.regR rfl (by simp) ?_)
      refine ⟨k + 1, _, ?_, ⟨⟨by omega, ?_⟩, rfl⟩, by omega⟩
      · exact Wk.le (.cons rfl (.refl _) (.cons rfl (.refl _) (.cons rfl (.refl _) (.cons rfl (VLe.i (w64 (by omega) (by omega))) .nil)))) .nil .nil rfl rfl
      · rw [hf, firstA_drop p l h1, if_neg (by simp [h2])]
  · have h1 : k = l.length := by simp at h1; omega
    subst h1
    refine Tr.exit (Tr.seqR rfl (by simp) (Tr.retX rfl rfl rfl ?_ trivial))
    rw [hf, List.drop_length]; rfl

theorem c_containsI0 {l : List Int} {p : Int → Bool} {f : FuncId} (hl : l.length ≤ 9223372036854775807) (hp : ∀ b ∈ l, C Try.prog f ([I b] ++ []) (.bool (p b))) :
    C Try.prog F.slices_ContainsFunc_int_int [.slice 0 1 (l.map I), .func (.func f) [] []] (.bool (l.any p)) := by
  refine C_of mixed chk.slices_ContainsFunc_int_int (by simp) fun S ok => ?_
  refine Tr.seqR rfl (by simp) ?_
  refine Tr.seqC rfl (by simp) (Steps.call rfl rfl (c_indexI0 hl hp) (Steps.fin rfl (by simp) (Tr.retQ rfl rfl ?_ trivial)))
  rw [← firstA_nn p l 0]; rfl

theorem c_indexI1 {l : List Int} {p : Int → Bool} {f : FuncId} {cs : List V} (hl : l.length ≤ 9223372036854775807) (hp : ∀ b ∈ l, C Try.prog f ([I b] ++ [.vptr cs 0]) (.bool (p b))) :
    C Try.prog F.slices_IndexFunc_int_int [.slice 0 1 (l.map I), .func (.func f) [] [.vptr cs 0]] (I (firstA p l 0)) := by
  refine C_of mixed chk.slices_IndexFunc_int_int (by simp) fun S ok => ?_
  refine Tr.seqR rfl (by simp) ?_
  refine Tr.seq (Tr.seqR rfl (by simp) (Tr.block ?_))
  refine Tr.loop (fun k s => (k ≤ l.length ∧ firstA p l 0 = firstA p (l.drop k) k) ∧ s = { env := [(0, .slice 0 1 (l.map I)), (1, .func (.func f) [] [.vptr cs 0]), (7, I l.length), (8, I k)], bx := [], rw := [], log := [], stp := false }) (fun k => l.length - k) 0
    (Wk.le (.cons rfl (.refl _) (.cons rfl (.refl _) (.cons rfl (VLe.i (by simp)) (.cons rfl (.refl _) .nil)))) .nil .nil rfl rfl) ⟨⟨by omega, by simp⟩, rfl⟩ ?_
  rintro k s ⟨⟨hk, hf⟩, rfl⟩
  refine Tr.seqR rfl (by simp) (Tr.seqI rfl (fun h1 => ?_) (fun h1 => ?_))
  · have h1 : k < l.length := by simpa using h1
    refine Tr.skipT (Tr.seq (Tr.block (Tr.seqR rfl (by simp) (Tr.seqN 4 rfl (by simp; omega) ?_))))
    rw [getD_map h1]
    refine Steps.run rfl (by simp) (Steps.callv rfl rfl (hp l[k] (List.getElem_mem h1)) (Steps.fin rfl (by simp) ?_))
    refine Tr.cond rfl rfl (fun h2 => ?_) (fun h2 => ?_)
    · refine Tr.seqR rfl (by simp) (Tr.retX rfl rfl rfl ?_ trivial)
      rw [hf, firstA_drop p l h1, if_pos h2]; rfl
    · refine Tr.skip (Tr.regR rfl (by simp) ?_)
      refine ⟨k + 1, _, ?_, ⟨⟨by omega, ?_⟩, rfl⟩, by omega⟩
      · exact Wk.le (.cons rfl (.refl _) (.cons rfl (.refl _) (.cons rfl (.refl _) (.cons rfl (VLe.i (w64 (by omega) (by omega))) .nil)))) .nil .nil rfl rfl
      · rw [hf, firstA_drop p l h1, if_neg (by simp [h2])]
  · have h1 : k = l.length := by simp at h1; omega
    subst h1
    refine Tr.exit (Tr.seqR rfl (by simp) (Tr.retX rfl rfl rfl ?_ trivial))
    rw [hf, List.drop_length]; rfl

theorem c_containsI1 {l : List Int} {p : Int → Bool} {f : FuncId} {cs : List V} (hl : l.length ≤ 9223372036854775807) (hp : ∀ b ∈ l, C Try.prog f ([I b] ++ [.vptr cs 0]) (.bool (p b))) :
    C Try.prog F.slices_ContainsFunc_int_int [.slice 0 1 (l.map I), .func (.func f) [] [.vptr cs 0]] (.bool (l.any p)) := by
  refine C_of mixed chk.slices_ContainsFunc_int_int (by simp) fun S ok => ?_
  refine Tr.seqR rfl (by simp) ?_
  refine Tr.seqC rfl (by simp) (Steps.call rfl rfl (c_indexI1 hl hp) (Steps.fin rfl (by simp) (Tr.retQ rfl rfl ?_ trivial)))
  rw [← firstA_nn p l 0]; rfl

theorem c_indexL1 {l : List (List Int)} {p : (List Int) → Bool} {f : FuncId} {cs : List V} (hl : l.length ≤ 9223372036854775807) (hp : ∀ b ∈ l, C Try.prog f ([intsV b] ++ [.vptr cs 0]) (.bool (p b))) :
    C Try.prog F.slices_IndexFunc_int_int_114 [.slice 0 1 (l.map intsV), .func (.func f) [] [.vptr cs 0]] (I (firstA p l 0)) := by
  refine C_of mixed chk.slices_IndexFunc_int_int_114 (by simp) fun S ok => ?_
  refine Tr.seqR rfl (by simp) ?_
  refine Tr.seq (Tr.seqR rfl (by simp) (Tr.block ?_))
  refine Tr.loop (fun k s => (k ≤ l.length ∧ firstA p l 0 = firstA p (l.drop k) k) ∧ s = { env := [(0, .slice 0 1 (l.map intsV)), (1, .func (.func f) [] [.vptr cs 0]), (7, I l.length), (8, I k)], bx := [], rw := [], log := [], stp := false }) (fun k => l.length - k) 0
    (Wk.le (.cons rfl (.refl _) (.cons rfl (.refl _) (.cons rfl (VLe.i (by simp)) (.cons rfl (.refl _) .nil)))) .nil .nil rfl rfl) ⟨⟨by omega, by simp⟩, rfl⟩ ?_
  rintro k s ⟨⟨hk, hf⟩, rfl⟩
  refine Tr.seqR rfl (by simp) (Tr.seqI rfl (fun h1 => ?_) (fun h1 => ?_))
  · have h1 : k < l.length := by simpa using h1
    refine Tr.skipT (Tr.seq (Tr.block (Tr.seqR rfl (by simp) (Tr.seqN 4 rfl (by simp; omega) ?_))))
    rw [getD_map h1]
    refine Steps.run rfl (by simp [intsV]) (Steps.callv rfl rfl (hp l[k] (List.getElem_mem h1)) (Steps.fin rfl (by simp) ?_))
    refine Tr.cond rfl rfl (fun h2 => ?_) (fun h2 => ?_)
    · refine Tr.seqR rfl (by simp) (Tr.retX rfl rfl rfl ?_ trivial)
      rw [hf, firstA_drop p l h1, if_pos h2]; rfl
    · refine Tr.skip (Tr.regR rfl (by simp) ?_)
      refine ⟨k + 1, _, ?_, ⟨⟨by omega, ?_⟩, rfl⟩, by omega⟩
      · exact Wk.le (.cons rfl (.refl _) (.cons rfl (.refl _) (.cons rfl (.refl _) (.cons rfl (VLe.i (w64 (by omega) (by omega))) .nil)))) .nil .nil rfl rfl
      · rw [hf, firstA_drop p l h1, if_neg (by simp [h2])]
  · have h1 : k = l.length := by simp at h1; omega
    subst h1
    refine Tr.exit (Tr.seqR rfl (by simp) (Tr.retX rfl rfl rfl ?_ trivial))
    rw [hf, List.drop_length]; rfl

theorem c_containsL1 {l : List (List Int)} {p : (List Int) → Bool} {f : FuncId} {cs : List V} (hl : l.length ≤ 9223372036854775807) (hp : ∀ b ∈ l, C Try.prog f ([intsV b] ++ [.vptr cs 0]) (.bool (p b))) :
    C Try.prog F.slices_ContainsFunc_int_int_98 [.slice 0 1 (l.map intsV), .func (.func f) [] [.vptr cs 0]] (.bool (l.any p)) := by
  refine C_of mixed chk.slices_ContainsFunc_int_int_98 (by simp) fun S ok => ?_
  refine Tr.seqR rfl (by simp) ?_
  refine Tr.seqC rfl (by simp) (Steps.call rfl rfl (c_indexL1 hl hp) (Steps.fin rfl (by simp) (Tr.retQ rfl rfl ?_ trivial)))
  rw [← firstA_nn p l 0]; rfl

def downN (n : Int) : Int := n.fdiv 64

theorem c_down (n : Int) : C Try.prog F.volume_down [I n] (I (downN n)) := by
  refine C_of mixed chk.volume_down (by simp) fun S ok => ?_
  exact Tr.seqR rfl (by simp) (Tr.seqR rfl (by simp) (Tr.retQ rfl rfl rfl trivial))

def ringOk (l : List Int) (most period part : Int) : Bool := decide (l.length ≤ 64) && btw period 1 64 && btw part (-63) 63 && l.all fun n => btw n (-most) most

theorem c_ringing1 (n most : Int) (hm : 0 ≤ most ∧ most ≤ 2000000000) : C Try.prog F.volume_ringing_1 ([I n] ++ [.vptr [I most] 0]) (.bool (!btw n (-most) most)) := by
  refine C_of mixed chk.volume_ringing_1 (by simp) fun S ok => ?_
  refine Tr.seqR rfl (by simp) (Tr.seqC rfl (by simp) (Steps.call rfl rfl (c_within _ _ _) (Steps.fin rfl (by simp) (Tr.retQ rfl rfl ?_ trivial))))
  rw [w64 (n := 0 - most) (by omega) (by omega), Int.zero_sub]; rfl

theorem c_ringing (l : List Int) (most period part : Int) (hm : 0 ≤ most ∧ most ≤ 2000000000) (hl : l.length ≤ 9223372036854775807) : C Try.prog F.volume_ringing [intsV l, I most, I period, I part] (.bool (ringOk l most period part)) := by
  refine C_of mixed chk.volume_ringing (by simp) fun S ok => ?_
  refine Tr.seqR rfl (by simp) ?_
  refine Tr.seqC rfl (by simp [intsV]) (Steps.gcall rfl rfl rfl rfl (by simp) (fun _ => c_within _ _ _) (Steps.run rfl (by simp) ?_))
  refine Steps.gcall rfl rfl rfl rfl (by simp) (fun _ => c_within _ _ _) (Steps.run rfl (by simp [intsV]) ?_)
  refine Steps.gcall rfl rfl rfl rfl (by simp [intsV]) (fun _ => c_containsI1 hl fun b _ => c_ringing1 b most hm) (Steps.fin rfl (by simp) (Tr.retQ rfl rfl ?_ trivial))
  have e : (l.any fun n => !btw n (-most) most) = !(l.all fun n => btw n (-most) most) := by
    induction l with
    | nil => rfl
    | cons a r ih => simp only [List.any_cons, List.all_cons, ih (by simp at hl; omega), Bool.not_and]
  simp only [packR, ringOk, e, V.bool.injEq, intsV, List.length_map]
  by_cases h1 : l.length ≤ 64 <;> cases btw period 1 64 <;> cases btw part (-63) 63 <;> simp [h1] <;> omega

theorem tdiv64 (n : Int) : (n.tmod 64 ≠ 0 ∧ n < 0 → n.tdiv 64 - 1 = n / 64) ∧ (¬(n.tmod 64 ≠ 0 ∧ n < 0) → n.tdiv 64 = n / 64) := by
  rcases Int.le_total 0 n with h | h
  · rw [Int.tdiv_eq_ediv_of_nonneg h]
    exact ⟨fun h' => by omega, fun _ => rfl⟩
  · obtain ⟨m, rfl⟩ : ∃ m, n = -m := ⟨-n, by omega⟩
    have hm : 0 ≤ m := by omega
    rw [Int.neg_tdiv, Int.neg_tmod, Int.tdiv_eq_ediv_of_nonneg hm, Int.tmod_eq_emod_of_nonneg hm]
    omega

def backN (m : List Int) (t : Nat) (period part : Int) : Int := if (t : Int) < period then 0 else (part * m.getD (t - period.toNat) 0) / 64

theorem part_bd {part n : Int} (hp : -63 ≤ part ∧ part ≤ 63) (hn : -1073741824 ≤ n ∧ n ≤ 1073741824) : -67645734912 ≤ part * n ∧ part * n ≤ 67645734912 := by
  rcases Int.le_total 0 n with h | h
  · have := mul_bd (a := part) (b := n) (A := 63) (B := 1073741824) (by omega) (by omega)
    omega
  · have := mul_bd (a := part) (b := -n) (A := 63) (B := 1073741824) (by omega) (by omega)
    rw [Int.mul_neg] at this
    omega

def ringG (period part : Int) : List Int → List Int → Option (List Int)
  | [], m => some m
  | n :: r, m => if btw (n + backN m m.length period part) (-1073741824) 1073741824 then ringG period part r (m ++ [n + backN m m.length period part]) else none

def ringR (nl : V) (s : List Int) (period part : Int) : V :=
  if ringOk s 16777216 period part then (match ringG period part s [] with | some m => .tuple [intsV m, I 0] | none => .tuple [nl, I 7]) else .tuple [nl, I 2]

theorem repR_nil0 {w : World} {φ : Nat → Nat} {sz : Nat} {r : List V} {x : Value} (h : RepR w φ (.tuple (.nils :: r)) x) : RepR w φ (.tuple (.slice 0 sz [] :: r)) x := by
  cases h with
  | data h => cases h
  | tuple _ xs hl hh =>
    refine .tuple _ xs (by simpa using hl) fun i v x hv hx => ?_
    cases i with
    | zero =>
      have hv : V.slice 0 sz [] = v := by simpa using hv
      subst hv
      have := hh 0 .nils x rfl hx
      cases this
      exact .slice0 sz none 0
    | succ i => exact hh (i + 1) v x (by simpa using hv) hx

theorem ring_le {s : List Int} {period part : Int} {w : World} {φ : Nat → Nat} {v : Value} (h : RepR w φ (ringR .nils s period part) v) : RepR w φ (ringR (intsV []) s period part) v := by
  unfold ringR at h ⊢
  split
  · rename_i h1; rw [if_pos h1] at h
    split
    · rename_i m hm; rw [hm] at h; exact h
    · rename_i hm; rw [hm] at h; exact repR_nil0 h
  · rename_i h1; rw [if_neg h1] at h; exact repR_nil0 h

abbrev ringS := ringR (intsV [])

theorem ringOk_spec {l : List Int} {most period part : Int} (h : ringOk l most period part = true) : l.length ≤ 64 ∧ (1 ≤ period ∧ period ≤ 64) ∧ (-63 ≤ part ∧ part ≤ 63) ∧ ∀ n ∈ l, -most ≤ n ∧ n ≤ most := by
  simp only [ringOk, btw, Bool.and_eq_true, decide_eq_true_eq, List.all_eq_true] at h
  obtain ⟨⟨⟨h1, h2⟩, h3⟩, h4⟩ := h
  exact ⟨h1, by omega, by omega, fun n hn => by have := h4 n hn; omega⟩

theorem backN_bd {m : List Int} {t : Nat} {period part : Int} (hpart : -63 ≤ part ∧ part ≤ 63) (hb : ∀ n ∈ m, -1073741824 ≤ n ∧ n ≤ 1073741824) : -1056964608 ≤ backN m t period part ∧ backN m t period part ≤ 1056964608 := by
  unfold backN
  split
  · omega
  · have hn : -1073741824 ≤ m.getD (t - period.toNat) 0 ∧ m.getD (t - period.toNat) 0 ≤ 1073741824 := by
      by_cases hk : t - period.toNat < m.length
      · rw [List.getD_eq_getElem?_getD, List.getElem?_eq_getElem hk]; exact hb _ (List.getElem_mem hk)
      · rw [List.getD_eq_getElem?_getD, List.getElem?_eq_none (by omega)]; simp
    have := part_bd hpart hn
    omega

theorem c_Ring (s : List Int) (period part : Int) (hl : s.length ≤ 9223372036854775807) : C Try.prog F.volume_Ring [intsV s, I period, I part] (ringS s period part) := by
  refine C.le (r := ringR .nils s period part) ?_ fun _ _ _ h => ring_le h
  refine C_of mixed chk.volume_Ring (by simp) fun S ok => ?_
  refine Tr.seqR rfl (by simp) (Tr.seq (Tr.seqC rfl (by simp) (Steps.call rfl rfl (c_ringing s 16777216 period part (by omega) hl) (Steps.fin rfl (by simp) (Tr.cond rfl rfl (fun h1 => Tr.seqR rfl (by simp) (Tr.retX rfl rfl rfl ?_ trivial)) (fun h1 => Tr.skip ?_))))))
  · have h1 : ringOk s 16777216 period part = false := by simpa using h1
    simp [packR, ringR, h1]
  have h1 : ringOk s 16777216 period part = true := by simpa using h1
  obtain ⟨hlen, hper, hpart, hs⟩ := ringOk_spec h1
  refine Tr.seqR rfl (by simp) (Tr.seq (Tr.seqR rfl (by simp) (Tr.block ?_)))
  refine Tr.loop (α := Nat × List Int) (fun p st => (p.1 ≤ s.length ∧ p.2.length = p.1 ∧ (∀ n ∈ p.2, -1073741824 ≤ n ∧ n ≤ 1073741824) ∧ ringG period part (s.drop p.1) p.2 = ringG period part s []) ∧ st = { env := [(1, I period), (2, I part), (8, .slice 44 1 (p.2.map I)), (16, intsV s), (17, I s.length), (18, I p.1)], bx := [], rw := [(43, p.2.length, 1, 3)], log := [], stp := false }) (fun p => s.length - p.1) (0, [])
    (Wk.le (.cons rfl (.refl _) (.cons rfl (.refl _) (.cons rfl (.nil 44 1) (.cons rfl (.refl _) (.cons rfl (VLe.i (by simp)) (.cons rfl (.refl _) .nil)))))) .nil (.new rfl .nil) rfl rfl) ⟨⟨by omega, rfl, by simp, rfl⟩, rfl⟩ ?_
  rintro ⟨t, m⟩ st ⟨⟨ht, hm, hmb, hG⟩, rfl⟩
  simp only at ht hm hmb hG
  refine Tr.seqR rfl (by simp) (Tr.seqI rfl (fun h2 => ?_) (fun h2 => ?_))
  rotate_left
  · have h2 : t = s.length := by simp at h2; omega
    subst h2
    rw [List.drop_length] at hG
    refine Tr.exit (Tr.seqR rfl (by simp) (Tr.retX rfl rfl rfl ?_ trivial))
    have hG : ringG period part s [] = some m := hG.symm
    simp [packR, ringR, h1, hG, intsV]
  have h2 : t < s.length := by simpa using h2
  have hn := hs _ (List.getElem_mem h2)
  have hbk := backN_bd (t := t) (period := period) hpart hmb
  rw [List.drop_eq_getElem_cons h2] at hG
  simp only [ringG, hm] at hG
  refine Tr.skipT (Tr.seq (Tr.block (Tr.seqN 2 rfl (by simp; omega) ?_)))
  rw [getD_map h2]
  refine Steps.fin rfl (by simp) ?_
  refine Tr.meet { env := [(1, I period), (2, I part), (8, .slice 44 1 (m.map I)), (9, I t), (10, I (s[t] + backN m t period part)), (16, intsV s), (17, I s.length), (18, I t)], bx := [], rw := [(43, m.length, 1, 3)], log := [], stp := false } ?_ ?_
  · refine Tr.seqR rfl (by simp) (Tr.cond rfl rfl (fun h3 => ?_) (fun h3 => Tr.skip ?_))
    · have h3 : period ≤ (t : Int) := by simpa using h3
      have e : IntKind.i64.wrap ((t : Int) - period) = ((t - period.toNat : Nat) : Int) := by rw [w64 (by omega) (by omega)]; omega
      have hk : t - period.toNat < m.length := by omega
      have hbd := part_bd hpart (hmb _ (List.getElem_mem hk))
      refine Tr.reg (Steps.runN 6 rfl (by simp) ?_)
      rw [e]
      refine Steps.runN 1 rfl (by simp; omega) ?_
      rw [getD_map hk]
      refine Steps.run rfl (by simp) ?_
      refine Steps.call rfl rfl (c_down _) (Steps.fin rfl (by simp) ?_)
      refine Wk.le (.cons rfl (.refl _) (.cons rfl (.refl _) (.cons rfl (.refl _) (.cons rfl (.refl _) (.cons rfl (VLe.i ?_) (.cons rfl (.refl _) (.cons rfl (.refl _) (.cons rfl (.refl _) .nil)))))))) .nil (.cons rfl .nil) rfl rfl
      rw [w64 (n := part * m[t - period.toNat]) (by omega) (by omega)]
      have e2 : backN m t period part = part * m[t - period.toNat] / 64 := by
        unfold backN; rw [if_neg (by omega), List.getD_eq_getElem?_getD, List.getElem?_eq_getElem hk]; rfl
      rw [e2] at hbk ⊢
      unfold downN
      rw [Int.fdiv_eq_ediv_of_nonneg _ (by decide)]
      exact w64 (by omega) (by omega)
    · have h3 : ¬ period ≤ (t : Int) := by simpa using h3
      refine Wk.le (.cons rfl (.refl _) (.cons rfl (.refl _) (.cons rfl (.refl _) (.cons rfl (.refl _) (.cons rfl (VLe.i ?_) (.cons rfl (.refl _) (.cons rfl (.refl _) (.cons rfl (.refl _) .nil)))))))) .nil (.cons rfl .nil) rfl rfl
      unfold backN; rw [if_pos (by omega)]; omega
  refine Tr.seq (Tr.seqC rfl (by simp) (Steps.call rfl rfl (c_within _ _ _) (Steps.fin rfl (by simp) (Tr.cond rfl rfl (fun h4 => Tr.seqR rfl (by simp) (Tr.retX rfl rfl rfl ?_ trivial)) (fun h4 => Tr.skip ?_)))))
  · have h4 : btw (s[t] + backN m t period part) (-1073741824) 1073741824 = false := by simpa using h4
    rw [h4] at hG
    have hG : ringG period part s [] = none := hG.symm
    simp [packR, ringR, h1, hG]
  · have h4 : btw (s[t] + backN m t period part) (-1073741824) 1073741824 = true := by simpa using h4
    rw [h4, if_pos rfl] at hG
    have h5 : -1073741824 ≤ s[t] + backN m t period part ∧ s[t] + backN m t period part ≤ 1073741824 := by simpa [btw] using h4
    refine Tr.regR rfl (by simp; omega) (Tr.regR rfl (by simp) ?_)
    refine ⟨(t + 1, m ++ [s[t] + backN m t period part]), _, Wk.le (.cons rfl (.refl _) (.cons rfl (.refl _) (.cons rfl (.of_eq ?_) (.cons rfl (.refl _) (.cons rfl (.refl _) (.cons rfl (VLe.i (w64 (by omega) (by omega))) .nil)))))) .nil (.cons ?_ .nil) rfl rfl, ⟨⟨h2, by simp [hm], ?_, hG⟩, rfl⟩, by simp; omega⟩
    · simp
    · show some _ = some _
      simp
    · intro n hn
      rcases List.mem_append.1 hn with hn | hn
      · exact hmb n hn
      · have hn : n = s[t] + backN m t period part := by simpa using hn
        subst hn; exact h5

def unringTo (m : List Int) (period part : Int) (k : Nat) : List Int := (List.range k).map fun t => m.getD t 0 - backN m t period part

def unringR (nl : V) (m : List Int) (period part : Int) : V :=
  if ringOk m 1073741824 period part then .tuple [intsV (unringTo m period part m.length), I 0] else .tuple [nl, I 2]

abbrev unringS := unringR (intsV [])

theorem unring_le {s : List Int} {period part : Int} {w : World} {φ : Nat → Nat} {v : Value} (h : RepR w φ (unringR .nils s period part) v) : RepR w φ (unringR (intsV []) s period part) v := by
  unfold unringR at h ⊢
  split
  · rename_i h1; rw [if_pos h1] at h; exact h
  · rename_i h1; rw [if_neg h1] at h; exact repR_nil0 h

theorem unringTo_succ (m : List Int) (period part : Int) {k : Nat} (hk : k < m.length) : unringTo m period part (k + 1) = unringTo m period part k ++ [m[k] - backN m k period part] := by
  unfold unringTo
  rw [List.range_succ, List.map_append]
  simp [List.getElem?_eq_getElem hk]

theorem c_Unring (s : List Int) (period part : Int) (hl : s.length ≤ 9223372036854775807) : C Try.prog F.volume_Unring [intsV s, I period, I part] (unringS s period part) := by
  refine C.le (r := unringR .nils s period part) ?_ fun _ _ _ h => unring_le h
  refine C_of mixed chk.volume_Unring (by simp) fun S ok => ?_
  refine Tr.seqR rfl (by simp) (Tr.seq (Tr.seqC rfl (by simp) (Steps.call rfl rfl (c_ringing s 1073741824 period part (by omega) hl) (Steps.fin rfl (by simp) (Tr.cond rfl rfl (fun h1 => Tr.seqR rfl (by simp) (Tr.retX rfl rfl rfl ?_ trivial)) (fun h1 => Tr.skip ?_))))))
  · have h1 : ringOk s 1073741824 period part = false := by simpa using h1
    simp [packR, unringR, h1]
  have h1 : ringOk s 1073741824 period part = true := by simpa using h1
  obtain ⟨hlen, hper, hpart, hs⟩ := ringOk_spec h1
  refine Tr.seqR rfl (by simp) (Tr.seq (Tr.seqR rfl (by simp) (Tr.block ?_)))
  refine Tr.loop (α := Nat × List Int) (fun p st => (p.1 ≤ s.length ∧ p.2 = unringTo s period part p.1) ∧ st = { env := [(0, intsV s), (1, I period), (2, I part), (8, .slice 41 1 (p.2.map I)), (16, intsV s), (17, I s.length), (18, I p.1)], bx := [], rw := [(40, p.2.length, 1, 3)], log := [], stp := false }) (fun p => s.length - p.1) (0, [])
    (Wk.le (.cons rfl (.refl _) (.cons rfl (.refl _) (.cons rfl (.refl _) (.cons rfl (.nil 41 1) (.cons rfl (.refl _) (.cons rfl (VLe.i (by simp)) (.cons rfl (.refl _) .nil))))))) .nil (.new rfl .nil) rfl rfl) ⟨⟨by omega, rfl⟩, rfl⟩ ?_
  rintro ⟨t, m⟩ st ⟨⟨ht, hm⟩, rfl⟩
  simp only at ht hm
  refine Tr.seqR rfl (by simp) (Tr.seqI rfl (fun h2 => ?_) (fun h2 => ?_))
  rotate_left
  · have h2 : t = s.length := by simp at h2; omega
    subst h2
    refine Tr.exit (Tr.seqR rfl (by simp) (Tr.retX rfl rfl rfl ?_ trivial))
    simp [packR, unringR, h1, hm, intsV]
  have h2 : t < s.length := by simpa using h2
  have hn := hs _ (List.getElem_mem h2)
  have hbk := backN_bd (t := t) (period := period) hpart hs
  have hml : m.length = t := by rw [hm]; simp [unringTo]
  refine Tr.skipT (Tr.seq (Tr.block (Tr.seqN 2 rfl (by simp; omega) ?_)))
  rw [getD_map h2]
  refine Steps.fin rfl (by simp) ?_
  refine Tr.meet { env := [(0, intsV s), (1, I period), (2, I part), (8, .slice 41 1 (m.map I)), (9, I t), (10, I (s[t] - backN s t period part)), (16, intsV s), (17, I s.length), (18, I t)], bx := [], rw := [(40, m.length, 1, 3)], log := [], stp := false } ?_ ?_
  · refine Tr.seqR rfl (by simp) (Tr.cond rfl rfl (fun h3 => ?_) (fun h3 => Tr.skip ?_))
    · have h3 : period ≤ (t : Int) := by simpa using h3
      have e : IntKind.i64.wrap ((t : Int) - period) = ((t - period.toNat : Nat) : Int) := by rw [w64 (by omega) (by omega)]; omega
      have hk : t - period.toNat < s.length := by omega
      have hbd := part_bd hpart (hs _ (List.getElem_mem hk))
      refine Tr.reg (Steps.runN 6 rfl (by simp) ?_)
      rw [e]
      refine Steps.runN 1 rfl (by simp [intsV]; omega) ?_
      rw [getD_map hk]
      refine Steps.run rfl (by simp) ?_
      refine Steps.call rfl rfl (c_down _) (Steps.fin rfl (by simp) ?_)
      refine Wk.le (.cons rfl (.refl _) (.cons rfl (.refl _) (.cons rfl (.refl _) (.cons rfl (.refl _) (.cons rfl (.refl _) (.cons rfl (VLe.i ?_) (.cons rfl (.refl _) (.cons rfl (.refl _) (.cons rfl (.refl _) .nil))))))))) .nil (.cons rfl .nil) rfl rfl
      rw [w64 (n := part * s[t - period.toNat]) (by omega) (by omega)]
      have e2 : backN s t period part = part * s[t - period.toNat] / 64 := by
        unfold backN; rw [if_neg (by omega), List.getD_eq_getElem?_getD, List.getElem?_eq_getElem hk]; rfl
      rw [e2] at hbk ⊢
      unfold downN
      rw [Int.fdiv_eq_ediv_of_nonneg _ (by decide)]
      exact w64 (by omega) (by omega)
    · have h3 : ¬ period ≤ (t : Int) := by simpa using h3
      refine Wk.le (.cons rfl (.refl _) (.cons rfl (.refl _) (.cons rfl (.refl _) (.cons rfl (.refl _) (.cons rfl (.refl _) (.cons rfl (VLe.i ?_) (.cons rfl (.refl _) (.cons rfl (.refl _) (.cons rfl (.refl _) .nil))))))))) .nil (.cons rfl .nil) rfl rfl
      unfold backN; rw [if_pos (by omega)]; omega
  refine Tr.regR rfl (by simp; omega) (Tr.regR rfl (by simp) ?_)
  refine ⟨(t + 1, m ++ [s[t] - backN s t period part]), _, Wk.le (.cons rfl (.refl _) (.cons rfl (.refl _) (.cons rfl (.refl _) (.cons rfl (.of_eq ?_) (.cons rfl (.refl _) (.cons rfl (.refl _) (.cons rfl (VLe.i (w64 (by omega) (by omega))) .nil))))))) .nil (.cons ?_ .nil) rfl rfl, ⟨⟨h2, by rw [unringTo_succ _ _ _ h2, hm]⟩, rfl⟩, by simp; omega⟩
  · simp
  · show some _ = some _
    simp

end Go.Proofs.Ytecggpjpckicgaa

/-! Contracts: sections. -/
set_option linter.unusedVariables false
set_option linter.unusedSimpArgs false
set_option maxRecDepth 20000
namespace Go.Proofs.Ytecggpjpckicgaa
open Go.Am
attribute [local simp] cells scalar mkv splice under2 under dem dem1

def secV (l : List (List Int)) : V := .slice 0 1 (l.map intsV)

/-- How many values each column has. -/
def deepOf (l : List (List Int)) : Nat := (l.headD []).length
def evenL (l : List (List Int)) : Bool := l.all fun c => c.length == deepOf l
def numsOk (most : Int) (l : List (List Int)) : Bool := l.all fun c => c.all fun n => btw n (-most) most

theorem any_not {α : Type} (p : α → Bool) (l : List α) : (l.any fun x => !p x) = !(l.all p) := by
  induction l with
  | nil => rfl
  | cons a r ih => simp only [List.any_cons, List.all_cons, ih, Bool.not_and]

/-- Lengths that columns may have. -/
def saneS (l : List (List Int)) : Prop := l.length ≤ 9223372036854775807 ∧ ∀ c ∈ l, c.length ≤ 9223372036854775807

theorem c_shapeOf1 (l : List (List Int)) (c : List Int) (h0 : 0 < l.length) : C Try.prog F.volume_shapeOf_1 ([intsV c] ++ [.vptr [secV l] 0]) (.bool (!(c.length == deepOf l))) := by
  refine C_of mixed chk.volume_shapeOf_1 (by simp) fun S ok => ?_
  refine Tr.seqR rfl (by simp) ?_
  refine Tr.seqN 4 rfl (by simp [intsV, secV]; omega) ?_
  rw [show (0 : Int) = ((0 : Nat) : Int) from rfl, getD_map h0]
  refine Steps.fin rfl (by simp [intsV]) (Tr.retQ rfl rfl ?_ trivial)
  have e : deepOf l = l[0].length := by cases l with | nil => simp at h0 | cons a r => rfl
  show V.bool _ = V.bool (((c.map I).length : Int) != ((l[0].map I).length : Int))
  rw [e]
  simp only [List.length_map, V.bool.injEq]
  rw [Bool.eq_iff_iff]
  simp
  omega

def shapeR (l : List (List Int)) : V := .tuple [.agg [I l.length, I (deepOf l)], .bool (decide (0 < l.length) && evenL l)]

theorem c_shapeOf {l : List (List Int)} (hl : saneS l) : C Try.prog F.volume_shapeOf [secV l] (shapeR l) := by
  refine C_of mixed chk.volume_shapeOf (by simp) fun S ok => ?_
  refine Tr.seqR rfl (by simp [secV]) ?_
  refine Tr.seq (Tr.seqR rfl (by simp [secV]) (Tr.cond rfl rfl (fun h1 => Tr.seqR rfl (by simp) (Tr.retX rfl rfl rfl ?_ trivial)) (fun h1 => Tr.skip ?_)))
  · have h1 : l = [] := by simpa [secV] using h1
    subst h1; rfl
  · have h1 : l ≠ [] := by simpa [secV] using h1
    have h0 : 0 < l.length := List.length_pos_iff.2 h1
    refine Tr.seqC rfl (by simp [secV]) (Steps.call rfl rfl (c_containsL1 hl.1 fun c _ => c_shapeOf1 l c h0) (Steps.fin rfl (by simp [secV]) ?_))
    refine Tr.seq (Tr.drawK (TraceK.runN 4 rfl (by simp [secV]; omega) ?_))
    rw [show (0 : Int) = ((0 : Nat) : Int) from rfl, getD_map h0]
    refine TraceK.run rfl (by simp [intsV]) (.done ⟨by kernel_rfl, by kernel_rfl, ?_⟩)
    refine Tr.retX rfl rfl rfl ?_ trivial
    have e : deepOf l = l[0].length := by cases l with | nil => simp at h0 | cons a r => rfl
    have e2 : (l.any fun c => !(c.length == deepOf l)) = !evenL l := any_not _ l
    simp [packR, shapeR, secV, intsV, e2, ← e, h0]

theorem c_numbers11 (n most : Int) (hm : 0 ≤ most ∧ most ≤ 100000000000000) : C Try.prog F.volume_numbers_1_1 ([I n] ++ [.vptr [I most] 0]) (.bool (!btw n (-most) most)) := by
  refine C_of mixed chk.volume_numbers_1_1 (by simp) fun S ok => ?_
  refine Tr.seqR rfl (by simp) (Tr.seqC rfl (by simp) (Steps.call rfl rfl (c_within _ _ _) (Steps.fin rfl (by simp) (Tr.retQ rfl rfl ?_ trivial))))
  rw [w64 (n := 0 - most) (by omega) (by omega), Int.zero_sub]; rfl

theorem c_numbers1 (c : List Int) (most : Int) (hm : 0 ≤ most ∧ most ≤ 100000000000000) (hc : c.length ≤ 9223372036854775807) : C Try.prog F.volume_numbers_1 ([intsV c] ++ [.vptr [I most] 0]) (.bool (!(c.all fun n => btw n (-most) most))) := by
  refine C_of mixed chk.volume_numbers_1 (by simp) fun S ok => ?_
  refine Tr.seqR rfl (by simp) (Tr.seqC rfl (by simp) (Steps.call rfl rfl (c_containsI1 hc fun b _ => c_numbers11 b most hm) (Steps.fin rfl (by simp) (Tr.retQ rfl rfl ?_ trivial))))
  rw [← any_not]; rfl

theorem c_numbers {l : List (List Int)} (hl : saneS l) (most : Int) (hm : 0 ≤ most ∧ most ≤ 100000000000000) : C Try.prog F.volume_numbers [secV l, I most] (.bool (numsOk most l)) := by
  refine C_of mixed chk.volume_numbers (by simp) fun S ok => ?_
  refine Tr.seqR rfl (by simp) (Tr.seqC rfl (by simp [secV]) (Steps.call rfl rfl (c_containsL1 hl.1 fun c hc => c_numbers1 c most hm (hl.2 c hc)) (Steps.fin rfl (by simp) (Tr.retQ rfl rfl ?_ trivial))))
  have e : (l.any fun c => !(c.all fun n => btw n (-most) most)) = !numsOk most l := any_not _ l
  simp [packR, e]

def secOk (l : List (List Int)) : Bool := evenL l && btw l.length 1 16 && btw (deepOf l) 1 32 && numsOk 1099511627776 l

def secC (l : List (List Int)) (slope : Int) : List V := [I l.length, I (deepOf l), secV l, I slope]

def secErr (e : Int) : V := .tuple [.agg [I 0, I 0, .nils, I 0], I e]
def secR (l : List (List Int)) (slope : Int) : V :=
  if secOk l then (if btw slope 0 32 then .tuple [.agg (secC l slope), I 0] else secErr 7) else secErr 105

theorem c_sectionOf {l : List (List Int)} (hl : saneS l) (slope : Int) : C Try.prog F.volume_sectionOf [secV l, I slope] (secR l slope) := by
  refine C_of mixed chk.volume_sectionOf (by simp) fun S ok => ?_
  refine Tr.seqR rfl (by simp) (Tr.seqC rfl (by simp) (Steps.call rfl rfl (c_shapeOf hl) (Steps.fin rfl (by simp [shapeR]) ?_)))
  refine Tr.seq (Tr.seqC rfl (by simp [shapeR]) (Steps.gcall rfl rfl rfl rfl (by simp) (fun _ => c_within _ _ _) (Steps.run rfl (by simp) ?_)))
  refine Steps.gcall rfl rfl rfl rfl (by simp) (fun _ => c_within _ _ _) (Steps.run rfl (by simp [secV]) ?_)
  refine Steps.gcall rfl rfl rfl rfl (by simp [secV]) (fun _ => c_numbers hl 1099511627776 (by omega)) (Steps.fin rfl (by simp) ?_)
  have hc : ∀ c : Bool, (bif (bif (bif (!(decide (0 < l.length) && evenL l)) then true else !btw l.length 1 16) then true else !btw (deepOf l) 1 32) then true else !numsOk 1099511627776 l) = c → c = !secOk l := by
    rintro c rfl
    unfold secOk
    by_cases h : 0 < l.length
    · cases evenL l <;> cases btw l.length 1 16 <;> cases btw (deepOf l) 1 32 <;> cases numsOk 1099511627776 l <;> simp [h]
    · have : btw l.length 1 16 = false := by simp [btw]; omega
      simp [this, h]
  refine Tr.cond rfl rfl (fun h1 => Tr.seqR rfl (by simp) (Tr.retX rfl rfl rfl ?_ trivial)) (fun h1 => Tr.skip ?_)
  · have h2 := not_of (hc true h1)
    simp at h2
    simp [packR, secR, h2, secErr]
  · have h2 := not_of (hc false h1)
    simp at h2
    refine Tr.seq (Tr.seqC rfl (by simp) (Steps.call rfl rfl (c_within _ _ _) (Steps.fin rfl (by simp) (Tr.cond rfl rfl (fun h3 => Tr.seqR rfl (by simp) (Tr.retX rfl rfl rfl ?_ trivial)) (fun h3 => Tr.skip ?_)))))
    · have h3 : btw slope 0 32 = false := by simpa using h3
      simp [packR, secR, h2, h3, secErr]
    · have h3 : btw slope 0 32 = true := by simpa using h3
      refine Tr.seqR rfl (by simp [secV]) (Tr.retX rfl rfl rfl ?_ trivial)
      simp [packR, secR, h2, h3, secC, secV]

/-- The places of the next column, by their indices. -/
def nextN (n deep sl c i : Nat) : List Nat := if c + 1 = n then [] else List.range' (i - sl) (min (deep - 1) (i + sl) + 1 - (i - sl))

def spotV (c : Nat) (q : Nat) : List V := [.agg [I ((c + 1 : Nat) : Int), I q]]

theorem c_next (l : List (List Int)) (slope c i : Int) : C Try.prog F.volume_section_next [.agg (secC l slope), .agg [I c, I i]] (.func (.func F.volume_section_next_1) [] [.vptr [I c, I i] 0, .vptr (secC l slope) 0]) := by
  refine C_of mixed chk.volume_section_next (by simp) fun S ok => ?_
  exact Tr.seqR rfl (by simp [secC, secV]) (Tr.seqR rfl (by simp) (Tr.retQ rfl rfl rfl trivial))

theorem i_next (l : List (List Int)) (sl c i : Nat) (h1 : l.length ≤ 16) (h2 : 1 ≤ deepOf l ∧ deepOf l ≤ 32) (h3 : sl ≤ 32) (h4 : c < l.length) (h5 : i < deepOf l) :
    Iter Try.prog F.volume_section_next_1 [.vptr [I c, I i] 0, .vptr (secC l sl) 0] ((nextN l.length (deepOf l) sl c i).map (spotV c)) := by
  refine Iter_of mixed chk.volume_section_next_1 (by simp) fun S ok => ?_
  have w1 : IntKind.i64.wrap ((c : Int) + 1) = ((c + 1 : Nat) : Int) := by rw [w64 (by omega) (by omega)]; omega
  refine Tr.seq (Tr.seqR rfl (by simp [secC]) (Tr.cond rfl rfl (fun e1 => ?_) (fun e1 => Tr.skip ?_)))
  · have e1 : (IntKind.i64.wrap ((c : Int) + 1) == (l.length : Int)) = true := e1
    rw [w1] at e1
    have e1 : c + 1 = l.length := by simp at e1; omega
    exact Tr.ret ⟨.inr (show ([] : List (List V)) = _ by simp [nextN, e1]), [], [], [], rfl, rfl, rfl⟩
  have e1 : (IntKind.i64.wrap ((c : Int) + 1) == (l.length : Int)) = false := e1
  rw [w1] at e1
  have e1 : c + 1 ≠ l.length := by simp at e1; omega
  have hL : nextN l.length (deepOf l) sl c i = List.range' (i - sl) (min (deepOf l - 1) (i + sl) + 1 - (i - sl)) := if_neg e1
  refine Tr.seqR rfl (by simp [secC]) (Tr.block ?_)
  refine Tr.loop (fun k s => (k ≤ min (deepOf l - 1) (i + sl) + 1 - (i - sl)) ∧ s = { env := [(0, .yld), (1, .vptr [I c, I i] 0), (2, .vptr (secC l sl) 0), (4, I ((i - sl + k : Nat) : Int))], bx := [], rw := [], log := ((List.range' (i - sl) k).map (spotV c)), stp := false }) (fun k => min (deepOf l - 1) (i + sl) + 1 - (i - sl) - k) 0
    (Wk.le (.cons rfl (.refl _) (.cons rfl (.refl _) (.cons rfl (.refl _) (.cons rfl (VLe.i ?_) .nil)))) .nil .nil rfl rfl) ⟨by omega, rfl⟩ ?_
  · simp only [cond_true]
    rw [w64 (by omega) (by omega), ite_max]; omega
  rintro k s ⟨hk, rfl⟩
  have hcnd : ∀ b : Bool, decide (((i - sl + k : Nat) : Int) ≤ bif false then (if IntKind.i64.wrap ((i : Int) + sl) > IntKind.i64.wrap ((deepOf l : Int) - 1) then IntKind.i64.wrap ((i : Int) + sl) else IntKind.i64.wrap ((deepOf l : Int) - 1)) else (if IntKind.i64.wrap ((i : Int) + sl) < IntKind.i64.wrap ((deepOf l : Int) - 1) then IntKind.i64.wrap ((i : Int) + sl) else IntKind.i64.wrap ((deepOf l : Int) - 1))) = b → (b = true ↔ k < min (deepOf l - 1) (i + sl) + 1 - (i - sl)) := by
    rintro b rfl
    rw [decide_eq_true_iff, cond_false, w64 (n := (i : Int) + sl) (by omega) (by omega), w64 (n := (deepOf l : Int) - 1) (by omega) (by omega), ite_min]
    omega
  refine Tr.seq (Tr.seqR rfl (by simp [secC]) (Tr.cond rfl rfl (fun e2 => ?_) (fun e2 => ?_)))
  · have e2 := (hcnd true e2).1 rfl
    have hlog : (List.range' (i - sl) (k + 1)).map (spotV c) = (List.range' (i - sl) k).map (spotV c) ++ [spotV c (i - sl + k)] := by
      rw [List.range'_1_concat, List.map_append]; rfl
    have hp : List.IsPrefix ((List.range' (i - sl) k).map (spotV c) ++ [[.agg [I (IntKind.i64.wrap ((c : Int) + 1)), I ((i - sl + k : Nat) : Int)]]]) ((nextN l.length (deepOf l) sl c i).map (spotV c)) := by
      rw [w1, hL]
      have : List.map (spotV c) (List.range' (i - sl) k) ++ [[V.agg [I ((c + 1 : Nat) : Int), I ((i - sl + k : Nat) : Int)]]] = (List.range' (i - sl) (k + 1)).map (spotV c) := hlog.symm
      rw [this]
      refine List.IsPrefix.map _ ?_
      obtain ⟨d, hd⟩ : ∃ d, min (deepOf l - 1) (i + sl) + 1 - (i - sl) = (k + 1) + d := ⟨min (deepOf l - 1) (i + sl) + 1 - (i - sl) - (k + 1), by omega⟩
      rw [hd]
      exact ⟨List.range' (i - sl + (k + 1)) d, by rw [List.range'_append_1]⟩
    refine Tr.skip (Tr.seq (Tr.block (Tr.seqC rfl (by simp) ?_)))
    refine Steps.yield rfl (by simp) rfl hp rfl (fun b => Steps.fin rfl (by simp) ?_)
    refine Tr.cond rfl rfl (fun e4 => ?_) (fun e4 => ?_)
    · exact Tr.ret ⟨.inl e4, [], [], [], rfl, rfl, rfl⟩
    · have hc : b = true := by simpa using e4
      subst hc
      refine Tr.skip (Tr.regR rfl (by simp) ?_)
      refine ⟨k + 1, _, Wk.leL (.cons rfl (.refl _) (.cons rfl (.refl _) (.cons rfl (.refl _) (.cons rfl (VLe.i ?_) .nil)))) .nil .nil rfl rfl ?_, ⟨by omega, rfl⟩, by omega⟩
      · rw [w64 (by omega) (by omega)]; omega
      · show (List.range' (i - sl) k).map (spotV c) ++ [[V.agg [I (IntKind.i64.wrap ((c : Int) + 1)), I ((i - sl + k : Nat) : Int)]]] = _
        rw [w1, hlog]; rfl
  · have e2 := hcnd false e2
    have e3 : k = min (deepOf l - 1) (i + sl) + 1 - (i - sl) := by
      by_cases h : k < min (deepOf l - 1) (i + sl) + 1 - (i - sl)
      · have := e2.2 h; cases this
      · omega
    subst e3
    refine Tr.exit ⟨.inr ?_, [], [], [], rfl, rfl, rfl⟩
    show (List.range' (i - sl) (min (deepOf l - 1) (i + sl) + 1 - (i - sl))).map (spotV c) = _
    rw [hL]

theorem c_Max (l : List Int) (h0 : 0 < l.length) (hl : l.length ≤ 9223372036854775807) : C Try.prog F.slices_Max_int_int [intsV l] (I (l.tail.foldl max (l.headD 0))) := by
  refine C_of mixed chk.slices_Max_int_int (by simp) fun S ok => ?_
  refine Tr.seqR rfl (by simp) (Tr.seq (Tr.seqR rfl (by simp [intsV]) (Tr.cond rfl rfl (fun h1 => ?_) (fun h1 => Tr.skip ?_))))
  · simp [intsV] at h1; omega
  refine Tr.seqN 2 rfl (by simp [intsV]; omega) ?_
  rw [show (0 : Int) = ((0 : Nat) : Int) from rfl, getD_map h0]
  refine Steps.fin rfl (by simp) (Tr.seq (Tr.seqR rfl (by simp) (Tr.block ?_)))
  refine Tr.loop (fun k s => (1 ≤ k ∧ k ≤ l.length) ∧ s = { env := [(0, intsV l), (3, I ((l.take k).tail.foldl max (l.headD 0))), (4, I k)], bx := [], rw := [], log := [], stp := false }) (fun k => l.length - k) 1
    (Wk.le (.cons rfl (.refl _) (.cons rfl (VLe.i ?_) (.cons rfl (.refl _) .nil))) .nil .nil rfl rfl) ⟨by omega, rfl⟩ ?_
  · cases l with
    | nil => simp at h0
    | cons a r => rfl
  rintro k s ⟨⟨hk1, hk⟩, rfl⟩
  refine Tr.seq (Tr.seqR rfl (by simp [intsV]) (Tr.cond rfl rfl (fun h2 => ?_) (fun h2 => ?_)))
  · have h2 : k < l.length := by simpa using h2
    refine Tr.skip (Tr.seq (Tr.block (Tr.reg (Steps.runN 4 rfl (by simp [intsV]; omega) ?_))))
    rw [getD_map h2]
    refine Steps.fin rfl (by simp) (Tr.regR rfl (by simp) ?_)
    refine ⟨k + 1, _, Wk.le (.cons rfl (.refl _) (.cons rfl (VLe.i ?_) (.cons rfl (VLe.i (w64 (by omega) (by omega))) .nil))) .nil .nil rfl rfl, ⟨by omega, rfl⟩, by omega⟩
    simp only [cond_true]
    rw [ite_max, List.take_add_one, List.getElem?_eq_getElem h2]
    obtain ⟨a, r, hr⟩ : ∃ a r, l.take k = a :: r := by
      cases hlt : l.take k with
      | nil =>
        have h9 : (l.take k).length = 0 := by rw [hlt]; rfl
        rw [List.length_take] at h9
        omega
      | cons a r => exact ⟨a, r, rfl⟩
    rw [hr]
    simp
  · have h2 : k = l.length := by simp at h2; omega
    subst h2
    refine Tr.exit (Tr.seqR rfl (by simp) (Tr.retX rfl rfl rfl ?_ trivial))
    rw [List.take_length]; rfl

end Go.Proofs.Ytecggpjpckicgaa

/-! Contracts: what no horizon is worth more than, by potentials. -/
set_option linter.unusedVariables false
set_option linter.unusedSimpArgs false
set_option maxRecDepth 20000
namespace Go.Proofs.Ytecggpjpckicgaa
open Go.Am
attribute [local simp] cells scalar mkv splice under2 under dem dem1

def at2 (l : List (List Int)) (c i : Nat) : Int := (l.getD c []).getD i 0

theorem at2_eq {l : List (List Int)} {c i : Nat} (hc : c < l.length) (hi : i < l[c].length) : at2 l c i = l[c][i] := by
  simp [at2, List.getElem?_eq_getElem hc, List.getElem?_eq_getElem hi]

def okNext (v b : List (List Int)) (c i q : Nat) : Bool := decide (at2 b c i ≥ at2 v c i + at2 b (c + 1) q)
def okAt (v b : List (List Int)) (sl c i : Nat) : Bool := (decide (c + 1 < v.length) || decide (at2 b c i ≥ at2 v c i)) && (nextN v.length (deepOf v) sl c i).all (okNext v b c i)

def backsOk (v b : List (List Int)) : Bool := decide (0 < b.length) && evenL b && decide (b.length = v.length ∧ deepOf b = deepOf v) && numsOk 70368744177664 b

/-- Up to a column, and within one up to a value. -/
def okCol (v b : List (List Int)) (sl c k : Nat) : Bool := (List.range k).all (okAt v b sl c)
def okTo (v b : List (List Int)) (sl k : Nat) : Bool := (List.range k).all fun c => okCol v b sl c (deepOf v)

def backR (v : List (List Int)) (slope : Int) (b : List (List Int)) : Int × Int :=
  if secOk v then (if btw slope 0 32 then (if backsOk v b && okTo v b slope.toNat v.length then ((b.headD []).tail.foldl max ((b.headD []).headD 0), 0) else (0, 106)) else (0, 7)) else (0, 105)

theorem evenL_spec {l : List (List Int)} (h : evenL l = true) {c : Nat} (hc : c < l.length) : l[c].length = deepOf l := by
  unfold evenL at h
  rw [List.all_eq_true] at h
  simpa using h _ (List.getElem_mem hc)

theorem numsOk_spec {most : Int} {l : List (List Int)} (h : numsOk most l = true) {c i : Nat} (hc : c < l.length) (hi : i < l[c].length) : -most ≤ l[c][i] ∧ l[c][i] ≤ most := by
  unfold numsOk at h
  rw [List.all_eq_true] at h
  have h1 := h _ (List.getElem_mem hc)
  rw [List.all_eq_true] at h1
  have h2 := h1 _ (List.getElem_mem hi)
  simp only [btw, Bool.and_eq_true, decide_eq_true_eq] at h2
  omega

theorem secOk_spec {l : List (List Int)} (h : secOk l = true) : evenL l = true ∧ (1 ≤ l.length ∧ l.length ≤ 16) ∧ (1 ≤ deepOf l ∧ deepOf l ≤ 32) ∧ numsOk 1099511627776 l = true := by
  simp only [secOk, Bool.and_eq_true, btw, decide_eq_true_eq] at h
  obtain ⟨⟨⟨h1, h2⟩, h3⟩, h4⟩ := h
  exact ⟨h1, by omega, by omega, h4⟩

theorem deepOf_eq {l : List (List Int)} (h0 : 0 < l.length) : deepOf l = l[0].length := by cases l with | nil => simp at h0 | cons a r => rfl

theorem nextN_lt {n d sl c i q : Nat} (hd : 1 ≤ d) (hq : q ∈ nextN n d sl c i) : c + 1 ≠ n ∧ q < d := by
  unfold nextN at hq
  split at hq
  · simp at hq
  · rename_i h
    rw [List.mem_range'_1] at hq
    exact ⟨h, by omega⟩

theorem c_Backed {v b : List (List Int)} (hv : saneS v) (hb : saneS b) (slope : Int) : C Try.prog F.volume_Backed [secV v, I slope, secV b] (.tuple [I (backR v slope b).1, I (backR v slope b).2]) := by
  refine C_of mixed chk.volume_Backed (by simp) fun S ok => ?_
  refine Tr.seqR rfl (by simp [secV]) ?_
  by_cases hE : secOk v = true
  rotate_left
  · have hE : secOk v = false := by simpa using hE
    have hr : secR v slope = .tuple [.agg [I 0, I 0, .nils, I 0], I 105] := by simp [secR, hE, secErr]
    refine Tr.seqC rfl (by simp) (Steps.call rfl rfl (hr ▸ c_sectionOf hv slope) (Steps.fin rfl (by simp) ?_))
    refine Tr.seq (Tr.seqR rfl (by simp) (Tr.condT rfl (Tr.seqR rfl (by simp) (Tr.retX rfl rfl rfl ?_ trivial))))
    simp [packR, backR, hE]
  by_cases hS : btw slope 0 32 = true
  rotate_left
  · have hS : btw slope 0 32 = false := by simpa using hS
    have hr : secR v slope = .tuple [.agg [I 0, I 0, .nils, I 0], I 7] := by simp [secR, hE, hS, secErr]
    refine Tr.seqC rfl (by simp) (Steps.call rfl rfl (hr ▸ c_sectionOf hv slope) (Steps.fin rfl (by simp) ?_))
    refine Tr.seq (Tr.seqR rfl (by simp) (Tr.condT rfl (Tr.seqR rfl (by simp) (Tr.retX rfl rfl rfl ?_ trivial))))
    simp [packR, backR, hE, hS]
  obtain ⟨sl, rfl⟩ : ∃ sl : Nat, slope = (sl : Int) := ⟨slope.toNat, by simp [btw] at hS; omega⟩
  have hsl : sl ≤ 32 := by simp [btw] at hS; omega
  obtain ⟨hev, hn, hd, hnum⟩ := secOk_spec hE
  have hr : secR v sl = .tuple [.agg (secC v sl), I 0] := by simp [secR, hE, hS]
  refine Tr.seqC rfl (by simp) (Steps.call rfl rfl (hr ▸ c_sectionOf hv sl) (Steps.fin rfl (by simp [secC, secV]) ?_))
  refine Tr.seq (Tr.seqR rfl (by simp) (Tr.condF rfl (Tr.skip ?_)))
  refine Tr.seqC rfl (by simp [secV]) (Steps.call rfl rfl (c_shapeOf hb) (Steps.fin rfl (by simp [shapeR]) ?_))
  refine Tr.seq (Tr.seqC rfl (by simp [shapeR, secC, secV]) (Steps.gcall rfl rfl rfl rfl (by simp [secV]) (fun _ => c_numbers hb 70368744177664 (by omega)) (Steps.fin rfl (by simp) ?_)))
  have hc : ∀ c : Bool, (bif (bif (!(decide (0 < b.length) && evenL b)) then true else !((b.length : Int) == (v.length : Int) && ((deepOf b : Int) == (deepOf v : Int) && true))) then true else !numsOk 70368744177664 b) = c → c = !backsOk v b := by
    rintro c rfl
    unfold backsOk
    by_cases h1 : b.length = v.length <;> by_cases h2 : deepOf b = deepOf v <;> cases (decide (0 < b.length) && evenL b) <;> cases numsOk 70368744177664 b <;> simp [h1, h2] <;> omega
  refine Tr.cond rfl rfl (fun h1 => Tr.seqR rfl (by simp) (Tr.retX rfl rfl rfl ?_ trivial)) (fun h1 => Tr.skip ?_)
  · have h2 := not_of (hc true h1)
    simp at h2
    simp [packR, backR, hE, hS, h2]
  have h2 := not_of (hc false h1)
  have h2 : backsOk v b = true := by simpa using h2
  have h2' := h2
  simp only [backsOk, Bool.and_eq_true, decide_eq_true_eq] at h2'
  obtain ⟨⟨⟨hb0, hbev⟩, hbn, hbd⟩, hbnum⟩ := h2'
  refine Tr.seq (Tr.seqR rfl (by simp [secC]) (Tr.block ?_))
  refine Tr.loop (fun c s => (c ≤ v.length ∧ okTo v b sl c = true) ∧ s = { env := [(5, .ptr 5 0), (8, .ptr 8 0), (47, I v.length), (48, I c)], bx := [(5, ⟨[secV b], false⟩), (8, ⟨secC v sl, false⟩)], rw := [], log := [], stp := false }) (fun c => v.length - c) 0
    (Wk.le (.cons rfl (.refl _) (.cons rfl (.refl _) (.cons rfl (.refl _) (.cons rfl (.refl _) .nil)))) (.cons rfl (LLe.refl _) (.cons rfl (LLe.refl _) .nil)) .nil rfl rfl) ⟨⟨by omega, rfl⟩, rfl⟩ ?_
  rintro c s ⟨⟨hcl, hok⟩, rfl⟩
  refine Tr.seqR rfl (by simp) (Tr.seqI rfl (fun h3 => ?_) (fun h3 => ?_))
  rotate_left
  · have h3 : c = v.length := by simp at h3; omega
    subst h3
    refine Tr.exit (Tr.seqN 2 rfl (by simp [secV]; omega) ?_)
    rw [show (0 : Int) = ((0 : Nat) : Int) from rfl, getD_map hb0]
    have hl0 : 0 < b[0].length := by rw [evenL_spec hbev hb0]; omega
    refine Steps.run rfl (by simp [intsV]) (Steps.call rfl rfl (c_Max b[0] hl0 (hb.2 _ (List.getElem_mem hb0))) (Steps.fin rfl (by simp) (Tr.retX rfl rfl rfl ?_ trivial)))
    cases b with
    | nil => simp at hb0
    | cons a r => simp [packR, backR, hE, hS, h2, hok]
  have h3 : c < v.length := by simpa using h3
  have hcb : c < b.length := by omega
  have hbc : b[c].length = deepOf v := by rw [evenL_spec hbev hcb, hbd]
  have hvc : v[c].length = deepOf v := evenL_spec hev h3
  refine Tr.skipT (Tr.seq (Tr.block (Tr.seqR rfl (by simp) (Tr.seqN 3 rfl (by simp [secV]; omega) ?_))))
  rw [getD_map hcb]
  refine Steps.fin rfl (by simp [intsV]) (Tr.block ?_)
  refine Tr.loop (fun i s => (i ≤ deepOf v ∧ okCol v b sl c i = true) ∧ s = { env := [(5, .ptr 5 0), (8, .ptr 8 0), (12, I c), (47, I v.length), (48, I c), (54, intsV b[c]), (55, I (deepOf v)), (56, I i)], bx := [(5, ⟨[secV b], false⟩), (8, ⟨secC v sl, false⟩)], rw := [], log := [], stp := false }) (fun i => deepOf v - i) 0
    (Wk.le (.cons rfl (.refl _) (.cons rfl (.refl _) (.cons rfl (.refl _) (.cons rfl (.refl _) (.cons rfl (.refl _) (.cons rfl (.refl _) (.cons rfl (VLe.i ?_) (.cons rfl (.refl _) .nil)))))))) (.cons rfl (LLe.refl _) (.cons rfl (LLe.refl _) .nil)) .nil rfl rfl) ⟨⟨by omega, rfl⟩, rfl⟩ ?_
  · rw [List.length_map, hbc]
  rintro i s ⟨⟨hil, hoki⟩, rfl⟩
  refine Tr.seqR rfl (by simp) (Tr.seqI rfl (fun h4 => ?_) (fun h4 => ?_))
  rotate_left
  · have h4 : i = deepOf v := by simp at h4; omega
    subst h4
    refine Tr.exit (Tr.regR rfl (by simp) ?_)
    refine ⟨c + 1, _, Wk.le (.cons rfl (.refl _) (.cons rfl (.refl _) (.cons rfl (.refl _) (.cons rfl (VLe.i (w64 (by omega) (by omega))) .nil)))) (.cons rfl (LLe.refl _) (.cons rfl (LLe.refl _) .nil)) .nil rfl rfl, ⟨⟨h3, ?_⟩, rfl⟩, by omega⟩
    unfold okTo at hok ⊢
    rw [List.range_succ, List.all_append, hok]
    simp [hoki]
  have h4 : i < deepOf v := by simpa using h4
  have hib : i < b[c].length := by omega
  have hiv : i < v[c].length := by omega
  have bv := numsOk_spec hnum h3 hiv
  have bb := numsOk_spec hbnum hcb hib
  refine Tr.skipT (Tr.seq (Tr.block (Tr.seqN 2 rfl (by simp [intsV]; omega) ?_)))
  rw [getD_map hib]
  refine Steps.fin rfl (by simp) (Tr.seqN 4 rfl (by simp [secC, secV]; omega) ?_)
  rw [getD_map h3]
  refine Steps.runN 3 rfl (by simp [intsV]; omega) ?_
  rw [getD_map hiv]
  refine Steps.fin rfl (by simp) (Tr.seqR rfl (by simp [secC]) ?_)
  refine Tr.seq (Tr.seqC rfl (by simp [secC]) (Steps.call rfl rfl (c_next v sl c i) (Steps.fin rfl (by simp) (Tr.block ?_))))
  have w1 : IntKind.i64.wrap ((c : Int) + 1) = ((c + 1 : Nat) : Int) := by rw [w64 (by omega) (by omega)]; omega
  refine Tr.weak (s' := { env := [(84, .func (.func F.volume_section_next_1) [] [.vptr [I c, I i] 0, .vptr (secC v sl) 0]), (5, .ptr 5 0), (8, .ptr 8 0), (12, I c), (14, .ptr 14 0), (15, .ptr 15 0), (16, .ptr 16 0), (47, I v.length), (48, I c), (54, intsV b[c]), (55, I (deepOf v)), (56, I i)], bx := [(5, ⟨[secV b], false⟩), (8, ⟨secC v sl, false⟩), (14, ⟨[I b[c][i]], false⟩), (15, ⟨[I v[c][i]], false⟩), (16, ⟨[.bool (decide (c + 1 < v.length) || decide (b[c][i] ≥ v[c][i]))], false⟩)], rw := [], log := [], stp := false })
    (Wk.le (.cons rfl (.refl _) (.cons rfl (.refl _) (.cons rfl (.refl _) (.cons rfl (.refl _) (.cons rfl (.refl _) (.cons rfl (.refl _) (.cons rfl (.refl _) (.cons rfl (.refl _) (.cons rfl (.refl _) (.cons rfl (.refl _) (.cons rfl (.refl _) (.cons rfl (.refl _) .nil))))))))))))
      (.cons rfl (LLe.refl _) (.cons rfl (LLe.refl _) (.cons rfl (LLe.refl _) (.cons rfl (LLe.refl _) (.cons rfl (.cons (.of_eq ?_) .nil) .nil))))) .nil rfl rfl) ?_
  · show V.bool (bif decide (IntKind.i64.wrap ((c : Int) + 1) < (v.length : Int)) then true else decide (b[c][i] ≥ v[c][i])) = _
    rw [w1]
    by_cases h : c + 1 < v.length
    · have h' : (((c + 1 : Nat) : Int) < (v.length : Int)) := by omega
      simp [h]; omega
    · have h' : ¬ (((c + 1 : Nat) : Int) < (v.length : Int)) := by omega
      simp only [decide_eq_false h', cond_false, decide_eq_false h, Bool.false_or]
  refine Tr.range rfl rfl (i_next v sl c i hn.2 hd hsl h3 h4) rfl rfl rfl (by intro x hx; obtain ⟨q, _, rfl⟩ := List.mem_map.1 hx; rfl)
    (fun pre t => ∃ m, m ≤ (nextN v.length (deepOf v) sl c i).length ∧ pre = ((nextN v.length (deepOf v) sl c i).take m).map (spotV c) ∧ t.bx = [(5, ⟨[secV b], false⟩), (8, ⟨secC v sl, false⟩), (14, ⟨[I b[c][i]], false⟩), (15, ⟨[I v[c][i]], false⟩), (16, ⟨[.bool ((decide (c + 1 < v.length) || decide (b[c][i] ≥ v[c][i])) && ((nextN v.length (deepOf v) sl c i).take m).all (okNext v b c i))], false⟩)] ∧ t.rw = [] ∧ t.log = [])
    (fun _ _ => False) ⟨0, by omega, rfl, by simp, rfl, rfl⟩ ?_ ?_ ?_
  · rintro a0 L0 rc0 h0 S1 S2 ok1 ok2 pre x t lp hpre ⟨m, hm, rfl, hbx, hrw, hlog⟩ henv hstp
    obtain ⟨env, bx, rw, log, stp⟩ := t
    simp only at hbx hrw hlog henv hstp
    subst hbx hrw hlog henv hstp
    have hmx : m < (nextN v.length (deepOf v) sl c i).length ∧ ∃ q, (nextN v.length (deepOf v) sl c i)[m]? = some q ∧ x = spotV c q := by
      have h1 : (((nextN v.length (deepOf v) sl c i).take m).map (spotV c)).length = m := by simp; omega
      have h2 := hpre.length_le
      simp at h2
      have hml : m < (nextN v.length (deepOf v) sl c i).length := by omega
      refine ⟨hml, _, List.getElem?_eq_getElem hml, ?_⟩
      have h3 := List.IsPrefix.getElem hpre (i := m) (by simp; omega)
      simp only [List.getElem_map] at h3
      rw [List.getElem_append_right (by omega)] at h3
      simpa using h3
    obtain ⟨hml, q, hq, rfl⟩ := hmx
    obtain ⟨hcn, hqd⟩ := nextN_lt hd.1 (List.mem_of_getElem? hq)
    have hcb1 : c + 1 < b.length := by omega
    have hbc1 : b[c + 1].length = deepOf v := by rw [evenL_spec hbev hcb1, hbd]
    have hqb : q < b[c + 1].length := by omega
    have bq := numsOk_spec hbnum hcb1 hqb
    refine Tr.regR rfl (by simp) ?_
    refine Tr.block (Tr.drawK (TraceK.runN 8 rfl (by simp [secV]; exact fun x y => ⟨by omega, x, y⟩) ?_))
    rw [getD_map hcb1]
    refine TraceK.runN 4 rfl (by simp [intsV]; exact fun x y => ⟨by omega, x, y⟩) ?_
    rw [getD_map hqb]
    refine TraceK.run rfl (by simp) (.done ⟨by kernel_rfl, by kernel_rfl, ?_⟩)
    refine ⟨{ env := [], bx := [(5, ⟨[secV b], false⟩), (8, ⟨secC v sl, false⟩), (14, ⟨[I b[c][i]], false⟩), (15, ⟨[I v[c][i]], false⟩), (16, ⟨[.bool ((decide (c + 1 < v.length) || decide (b[c][i] ≥ v[c][i])) && ((nextN v.length (deepOf v) sl c i).take (m + 1)).all (okNext v b c i))], false⟩)], rw := [], log := [], stp := false }, ?_, ⟨m + 1, by omega, ?_, rfl, rfl, rfl⟩, rfl⟩
    · refine Wk.le .nil (.cons rfl (LLe.refl _) (.cons rfl (LLe.refl _) (.cons rfl (LLe.refl _) (.cons rfl (LLe.refl _) (.cons rfl (.cons (.of_eq ?_) .nil) .nil))))) .nil rfl rfl
      rw [List.take_add_one, hq, List.all_append]
      have e : okNext v b c i q = decide (b[c][i] ≥ IntKind.i64.wrap (v[c][i] + b[c + 1][q])) := by
        unfold okNext
        rw [w64 (by omega) (by omega), at2_eq hcb hib, at2_eq h3 hiv, at2_eq hcb1 hqb]
      simp only [Option.toList, List.all_cons, List.all_nil, Bool.and_true, e]
      generalize (decide (c + 1 < v.length) || decide (b[c][i] ≥ v[c][i])) = X
      generalize ((nextN v.length (deepOf v) sl c i).take m).all (okNext v b c i) = Y
      cases X <;> cases Y <;> rfl
    · rw [List.take_add_one, hq]; simp
  · rintro ⟨env, bx, rw, log, stp⟩ henv hstp ⟨m, hm, hpre, hbx, hrw, hlog⟩
    simp only at hbx hrw hlog henv hstp
    subst hbx hrw hlog henv hstp
    have hml : m = (nextN v.length (deepOf v) sl c i).length := by
      have := congrArg List.length hpre
      simp at this; omega
    subst hml
    have e : ((decide (c + 1 < v.length) || decide (b[c][i] ≥ v[c][i])) && ((nextN v.length (deepOf v) sl c i).take (nextN v.length (deepOf v) sl c i).length).all (okNext v b c i)) = okAt v b sl c i := by
      rw [List.take_length]; unfold okAt; rw [at2_eq hcb hib, at2_eq h3 hiv]
    rw [e]
    refine Tr.seqR rfl (by simp) (Tr.cond rfl rfl (fun h5 => Tr.seqR rfl (by simp) (Tr.retX rfl rfl rfl ?_ trivial)) (fun h5 => Tr.skip (Tr.regR rfl (by simp) ?_)))
    · have h5 : okAt v b sl c i = false := by simpa using h5
      have : okTo v b sl v.length = false := by
        unfold okTo okCol
        rw [List.all_eq_false]
        refine ⟨c, by simpa using h3, ?_⟩
        intro hall
        have := List.all_eq_true.1 hall i (by simpa using h4)
        rw [h5] at this; cases this
      simp [packR, backR, hE, hS, h2, this]
    · have h5 : okAt v b sl c i = true := by simpa using h5
      refine ⟨i + 1, _, Wk.le (.cons rfl (.refl _) (.cons rfl (.refl _) (.cons rfl (.refl _) (.cons rfl (.refl _) (.cons rfl (.refl _) (.cons rfl (.refl _) (.cons rfl (.refl _) (.cons rfl (VLe.i (w64 (by omega) (by omega))) .nil)))))))) (.cons rfl (LLe.refl _) (.cons rfl (LLe.refl _) .nil)) .nil rfl rfl, ⟨⟨h4, ?_⟩, rfl⟩, by omega⟩
      unfold okCol at hoki ⊢
      rw [List.range_succ, List.all_append, hoki]
      simp [h5]
  · intro e t _ h; exact h.elim

end Go.Proofs.Ytecggpjpckicgaa

/-! Plain facts: how many places of a box lie in others; contracts: valid volumes. -/
set_option linter.unusedVariables false
set_option linter.unusedSimpArgs false
set_option maxRecDepth 20000
namespace Go.Proofs.Ytecggpjpckicgaa
open Go.Am
attribute [local simp] cells scalar mkv splice under2 under dem dem1 boxC cellC

def cntI (x : Int) (n : Nat) (P : Int → Bool) : Nat := (List.range n).countP fun (i : Nat) => P (x + (i : Int))

theorem cntI_succ (x : Int) (n : Nat) (P : Int → Bool) : cntI x (n + 1) P = cntI x n P + if P (x + (n : Int)) then 1 else 0 := by
  unfold cntI; rw [List.range_succ, List.countP_append]; simp [List.countP_cons]

section
variable (b : Bx) (P Q R : Int → Bool)

theorem cnt_z (x y n : Nat) : (zsC b x y n).countP (fun p => P p.1 && Q p.2.1 && R p.2.2) = if P (b.x + (x : Int)) && Q (b.y + (y : Int)) then cntI b.z n R else 0 := by
  induction n with
  | zero => simp [zsC, cntI]
  | succ n ih =>
    rw [zsC_succ, List.countP_append, ih, cntI_succ]
    simp only [List.countP_cons, List.countP_nil, Nat.zero_add]
    cases P (b.x + (x : Int)) <;> cases Q (b.y + (y : Int)) <;> cases R (b.z + (n : Int)) <;> simp

theorem cnt_y (x n : Nat) : (ysC b x n).countP (fun p => P p.1 && Q p.2.1 && R p.2.2) = if P (b.x + (x : Int)) then cntI b.y n Q * cntI b.z b.c.toNat R else 0 := by
  induction n with
  | zero => simp [ysC, cntI]
  | succ n ih =>
    rw [ysC_succ, List.countP_append, ih, cntI_succ, cnt_z]
    cases P (b.x + (x : Int)) <;> cases Q (b.y + (n : Int)) <;> simp [Nat.add_mul]

theorem cnt_x (n : Nat) : (xsC b n).countP (fun p => P p.1 && Q p.2.1 && R p.2.2) = cntI b.x n P * (cntI b.y b.b.toNat Q * cntI b.z b.c.toNat R) := by
  induction n with
  | zero => simp [xsC, cntI]
  | succ n ih =>
    rw [xsC_succ, List.countP_append, ih, cntI_succ, cnt_y]
    cases P (b.x + (n : Int)) <;> simp [Nat.add_mul]

theorem cnt_box : (boxCells b).countP (fun p => P p.1 && Q p.2.1 && R p.2.2) = cntI b.x b.a.toNat P * (cntI b.y b.b.toNat Q * cntI b.z b.c.toNat R) := cnt_x b P Q R _
end

theorem cntI_btw (x : Int) (n : Nat) (lo hi : Int) : ((cntI x n fun i => btw i lo hi : Nat) : Int) = max 0 (min hi (x + n - 1) - max lo x + 1) := by
  induction n with
  | zero => simp [cntI]; omega
  | succ n ih =>
    rw [cntI_succ]
    by_cases h : btw (x + (n : Int)) lo hi = true
    · have h' : lo ≤ x + n ∧ x + n ≤ hi := by simpa [btw] using h
      rw [if_pos h]; push_cast; rw [ih]; omega
    · have h' : ¬ (lo ≤ x + n ∧ x + n ≤ hi) := by simpa [btw] using h
      rw [if_neg h]; push_cast; rw [ih]; omega

theorem countP_or {α : Type} (A B : α → Bool) (l : List α) : l.countP (fun x => A x || B x) + l.countP (fun x => A x && B x) = l.countP A + l.countP B := by
  induction l with
  | nil => rfl
  | cons a r ih =>
    simp only [List.countP_cons]
    cases A a <;> cases B a <;> simp <;> omega

theorem boxCells_len' (b : Bx) (h : 0 ≤ b.a ∧ 0 ≤ b.b ∧ 0 ≤ b.c) : ((boxCells b).length : Int) = b.a * b.b * b.c := by
  unfold boxCells
  rw [xsC_len]
  push_cast
  rw [Int.toNat_of_nonneg h.1, Int.toNat_of_nonneg h.2.1, Int.toNat_of_nonneg h.2.2, Int.mul_assoc]

abbrev hasP (b : Bx) (p : Int × Int × Int) : Bool := hasB b p.1 p.2.1 p.2.2

def manyI (b : Bx) : Int := b.a * b.b * b.c
def commonI (b o : Bx) : Int := cut1 (b.x + b.a - 1) (o.x + o.a - 1) b.x o.x * cut1 (b.y + b.b - 1) (o.y + o.b - 1) b.y o.y * cut1 (b.z + b.c - 1) (o.z + o.c - 1) b.z o.z

theorem btw_and (i p q r s : Int) : (btw i p q && btw i r s) = btw i (max p r) (min q s) := by
  unfold btw
  rw [Bool.eq_iff_iff]
  simp only [Bool.and_eq_true, decide_eq_true_eq]
  omega

/-- The places of a box that lie in another. -/
theorem cnt_has (u a : Bx) (hu : 0 ≤ u.a ∧ 0 ≤ u.b ∧ 0 ≤ u.c) : (((boxCells u).countP (hasP a) : Nat) : Int) = commonI u a := by
  have h := cnt_box u (fun i => btw i a.x (a.x + a.a - 1)) (fun i => btw i a.y (a.y + a.b - 1)) (fun i => btw i a.z (a.z + a.c - 1))
  have e : (fun p : Int × Int × Int => hasP a p) = fun p => btw p.1 a.x (a.x + a.a - 1) && btw p.2.1 a.y (a.y + a.b - 1) && btw p.2.2 a.z (a.z + a.c - 1) := rfl
  rw [show (hasP a) = fun p : Int × Int × Int => hasP a p from rfl, e, h]
  push_cast
  rw [cntI_btw, cntI_btw, cntI_btw]
  unfold commonI cut1
  rw [Int.toNat_of_nonneg hu.1, Int.toNat_of_nonneg hu.2.1, Int.toNat_of_nonneg hu.2.2]
  rw [Int.min_comm (u.x + u.a - 1), Int.min_comm (u.y + u.b - 1), Int.min_comm (u.z + u.c - 1), Int.max_comm u.x, Int.max_comm u.y, Int.max_comm u.z, Int.mul_assoc]

theorem cnt_both (u a b : Bx) (hu : 0 ≤ u.a ∧ 0 ≤ u.b ∧ 0 ≤ u.c) (h : ∀ i, (btw i a.x (a.x + a.a - 1) = true → u.x ≤ i ∧ i ≤ u.x + u.a - 1) ∧ (btw i a.y (a.y + a.b - 1) = true → u.y ≤ i ∧ i ≤ u.y + u.b - 1) ∧ (btw i a.z (a.z + a.c - 1) = true → u.z ≤ i ∧ i ≤ u.z + u.c - 1)) (ha : 1 ≤ a.a ∧ 1 ≤ a.b ∧ 1 ≤ a.c) :
    (((boxCells u).countP (fun p => hasP a p && hasP b p) : Nat) : Int) = commonI a b := by
  have hh := cnt_box u (fun i => btw i (max a.x b.x) (min (a.x + a.a - 1) (b.x + b.a - 1))) (fun i => btw i (max a.y b.y) (min (a.y + a.b - 1) (b.y + b.b - 1))) (fun i => btw i (max a.z b.z) (min (a.z + a.c - 1) (b.z + b.c - 1)))
  have e : (fun p : Int × Int × Int => hasP a p && hasP b p) = fun p => btw p.1 (max a.x b.x) (min (a.x + a.a - 1) (b.x + b.a - 1)) && btw p.2.1 (max a.y b.y) (min (a.y + a.b - 1) (b.y + b.b - 1)) && btw p.2.2 (max a.z b.z) (min (a.z + a.c - 1) (b.z + b.c - 1)) := by
    funext p
    simp only [hasP, hasB, ← btw_and]
    generalize btw p.1 a.x (a.x + a.a - 1) = x1
    generalize btw p.1 b.x (b.x + b.a - 1) = x2
    generalize btw p.2.1 a.y (a.y + a.b - 1) = x3
    generalize btw p.2.1 b.y (b.y + b.b - 1) = x4
    generalize btw p.2.2 a.z (a.z + a.c - 1) = x5
    generalize btw p.2.2 b.z (b.z + b.c - 1) = x6
    cases x1 <;> cases x2 <;> cases x3 <;> cases x4 <;> cases x5 <;> cases x6 <;> rfl
  rw [e, hh]
  push_cast
  rw [cntI_btw, cntI_btw, cntI_btw]
  unfold commonI cut1
  rw [Int.toNat_of_nonneg hu.1, Int.toNat_of_nonneg hu.2.1, Int.toNat_of_nonneg hu.2.2]
  have k1 := (h a.x).1 (by simp [btw]; omega)
  have k2 := (h (a.x + a.a - 1)).1 (by simp [btw]; omega)
  have k3 := (h a.y).2.1 (by simp [btw]; omega)
  have k4 := (h (a.y + a.b - 1)).2.1 (by simp [btw]; omega)
  have k5 := (h a.z).2.2 (by simp [btw]; omega)
  have k6 := (h (a.z + a.c - 1)).2.2 (by simp [btw]; omega)
  rw [Int.mul_assoc]
  congr 1
  · omega
  · congr 1 <;> omega

theorem common_in (u a : Bx) (h1 : u.x ≤ a.x ∧ a.x + a.a - 1 ≤ u.x + u.a - 1) (h2 : u.y ≤ a.y ∧ a.y + a.b - 1 ≤ u.y + u.b - 1) (h3 : u.z ≤ a.z ∧ a.z + a.c - 1 ≤ u.z + u.c - 1) (ha : 1 ≤ a.a ∧ 1 ≤ a.b ∧ 1 ≤ a.c) : commonI u a = manyI a := by
  unfold commonI manyI cut1
  congr 1
  · congr 1 <;> omega
  · omega

theorem cover {a b : Bx} (ha : 1 ≤ a.a ∧ 1 ≤ a.b ∧ 1 ≤ a.c) (hb : 1 ≤ b.a ∧ 1 ≤ b.b ∧ 1 ≤ b.c) (h : manyI (aroundB a b) = manyI a + manyI b - commonI a b) : ∀ p ∈ boxCells (aroundB a b), hasP a p = true ∨ hasP b p = true := by
  have hu : 0 ≤ (aroundB a b).a ∧ 0 ≤ (aroundB a b).b ∧ 0 ≤ (aroundB a b).c := by simp only [aroundB]; omega
  have c1 := cnt_has (aroundB a b) a hu
  have c2 := cnt_has (aroundB a b) b hu
  rw [common_in _ _ (by simp only [aroundB]; omega) (by simp only [aroundB]; omega) (by simp only [aroundB]; omega) ha] at c1
  rw [common_in _ _ (by simp only [aroundB]; omega) (by simp only [aroundB]; omega) (by simp only [aroundB]; omega) hb] at c2
  have c3 := cnt_both (aroundB a b) a b hu (fun i => by simp only [btw, Bool.and_eq_true, decide_eq_true_eq, aroundB]; omega) ha
  have c4 := countP_or (hasP a) (hasP b) (boxCells (aroundB a b))
  have c5 := boxCells_len' (aroundB a b) hu
  have c6 : (boxCells (aroundB a b)).countP (fun p => hasP a p || hasP b p) = (boxCells (aroundB a b)).length := by
    unfold manyI at h c1 c2
    omega
  intro p hp
  have := (List.countP_eq_length.1 c6) p hp
  simpa using this

theorem idx_range {b : Bx} {x y z : Int} (h : hasB b x y z = true) : 0 ≤ idxOf b x y z ∧ idxOf b x y z < b.a * b.b * b.c := by
  simp only [hasB, btw, Bool.and_eq_true, decide_eq_true_eq] at h
  obtain ⟨⟨h1, h2⟩, h3⟩ := h
  unfold idxOf
  obtain ⟨i, hi⟩ : ∃ i, x - b.x = i := ⟨_, rfl⟩
  obtain ⟨j, hj⟩ : ∃ j, y - b.y = j := ⟨_, rfl⟩
  obtain ⟨k, hk⟩ : ∃ k, z - b.z = k := ⟨_, rfl⟩
  rw [hi, show i * b.b + y - b.y = i * b.b + j by omega, show (i * b.b + j) * b.c + z - b.z = (i * b.b + j) * b.c + k by omega]
  have e1 : 0 ≤ i * b.b := Int.mul_nonneg (by omega) (by omega)
  have e2 : i * b.b + j ≤ b.a * b.b - 1 := by
    have : i * b.b ≤ (b.a - 1) * b.b := Int.mul_le_mul_of_nonneg_right (by omega) (by omega)
    rw [Int.sub_mul] at this; omega
  have e3 : 0 ≤ (i * b.b + j) * b.c := Int.mul_nonneg (by omega) (by omega)
  have e4 : (i * b.b + j) * b.c ≤ (b.a * b.b - 1) * b.c := Int.mul_le_mul_of_nonneg_right e2 (by omega)
  rw [Int.sub_mul] at e4
  omega

structure Vol where
  b : Bx
  v : List Int

def volC (v : Vol) : List V := [I v.b.x, I v.b.y, I v.b.z, I v.b.a, I v.b.b, I v.b.c, intsV v.v]
def volOk (v : Vol) : Bool := boxOk v.b && decide ((v.v.length : Int) = v.b.a * v.b.b * v.b.c) && v.v.all fun n => btw n (-1099511627776) 1099511627776

def blockR (v : Vol) : V := if volOk v then .tuple [.agg (volC v), I 0] else .tuple [.agg [I 0, I 0, I 0, I 0, I 0, I 0, .nils], I 101]

theorem c_blockOf1 (n : Int) : C Try.prog F.volume_blockOf_1 ([I n] ++ []) (.bool (!btw n (-1099511627776) 1099511627776)) := by
  refine C_of mixed chk.volume_blockOf_1 (by simp) fun S ok => ?_
  exact Tr.seqR rfl (by simp) (Tr.seqC rfl (by simp) (Steps.call rfl rfl (c_within _ _ _) (Steps.fin rfl (by simp) (Tr.retQ rfl rfl rfl trivial))))

theorem c_blockOf (v : Vol) (hl : v.v.length ≤ 9223372036854775807) : C Try.prog F.volume_blockOf [.agg (volC v)] (blockR v) := by
  refine C_of mixed chk.volume_blockOf (by simp) fun S ok => ?_
  refine Tr.seqR rfl (by simp [volC, intsV]) (Tr.seqR rfl (by simp [volC]) ?_)
  by_cases hB : boxOk v.b = true
  rotate_left
  · have hB : boxOk v.b = false := by simpa using hB
    have hcv : C Try.prog F.volume_box_valid [.agg (boxC v.b)] (.bool false) := hB ▸ c_boxValid v.b
    refine Tr.seq (Tr.seq (Tr.drawK (TraceK.run rfl (by simp [volC]) (TraceK.call rfl rfl hcv (TraceK.run rfl (by simp [volC, intsV]) ?_)))))
    refine TraceK.gcall (gb := false) (r := I 0) rfl rfl rfl rfl (fun e => (by cases e)) (fun e => (by cases e)) (TraceK.run rfl (by simp [volC, intsV]) ?_)
    refine TraceK.gcall (gb := false) (r := .bool false) rfl rfl rfl rfl (fun e => (by cases e)) (fun e => (by cases e)) (TraceK.run rfl (by simp) (.done ⟨by kernel_rfl, by kernel_rfl, ?_⟩))
    refine Tr.condT rfl (Tr.seqR rfl (by simp) (Tr.retX rfl rfl rfl ?_ trivial))
    simp [packR, blockR, volOk, hB]
  obtain ⟨hsm, hmid⟩ := boxOk_spec hB
  have hs := small_spec hsm
  have hcv : C Try.prog F.volume_box_valid [.agg (boxC v.b)] (.bool true) := hB ▸ c_boxValid v.b
  refine Tr.seq (Tr.seq (Tr.drawK (TraceK.run rfl (by simp [volC]) (TraceK.call rfl rfl hcv (TraceK.run rfl (by simp [volC, intsV]) ?_)))))
  refine TraceK.gcall (gb := true) rfl rfl rfl rfl (by simp) (fun _ => c_many v.b (by omega)) (TraceK.run rfl (by simp [volC, intsV]) ?_)
  have hany : (v.v.any fun n => !btw n (-1099511627776) 1099511627776) = !(v.v.all fun n => btw n (-1099511627776) 1099511627776) := any_not _ _
  refine TraceK.gcall rfl rfl rfl rfl (by simp [volC, intsV]) (fun _ => c_containsI0 hl fun b _ => c_blockOf1 b) (TraceK.run rfl (by simp) (.done ⟨by kernel_rfl, by kernel_rfl, ?_⟩))
  have hc : ∀ c : Bool, (bif (((v.v.map I).length : Int) != v.b.a * v.b.b * v.b.c) then true else (v.v.any fun n => !btw n (-1099511627776) 1099511627776)) = c → c = !volOk v := by
    rintro c rfl
    rw [hany]
    unfold volOk
    rw [hB]
    by_cases h1 : (v.v.length : Int) = v.b.a * v.b.b * v.b.c <;> cases (v.v.all fun n => btw n (-1099511627776) 1099511627776) <;> simp [h1]
  refine Tr.cond rfl rfl (fun h1 => Tr.seqR rfl (by simp) (Tr.retX rfl rfl rfl ?_ trivial)) (fun h1 => Tr.skip (Tr.seqR rfl (by simp [volC, intsV]) (Tr.retX rfl rfl rfl ?_ trivial)))
  · have h2 := not_of (hc true h1)
    simp at h2
    simp [packR, blockR, h2]
  · have h2 := not_of (hc false h1)
    simp at h2
    simp [packR, blockR, h2, volC, intsV]

end Go.Proofs.Ytecggpjpckicgaa

/-! Contracts: the join of two volumes. -/
set_option linter.unusedVariables false
set_option linter.unusedSimpArgs false
set_option maxRecDepth 20000
set_option maxHeartbeats 2000000
namespace Go.Proofs.Ytecggpjpckicgaa
open Go.Am
attribute [local simp] cells scalar mkv splice under2 under dem dem1 boxC cellC

def atV (v : Vol) (p : Int × Int × Int) : Int := v.v.getD (idxOf v.b p.1 p.2.1 p.2.2).toNat 0
def clash (a b : Vol) (p : Int × Int × Int) : Bool := hasP a.b p && hasP b.b p && (atV a p != atV b p)
def pickV (a b : Vol) (p : Int × Int × Int) : Int := if hasP a.b p then atV a p else atV b p

def errVol (nl : V) (e : Int) : V := .tuple [.agg [I 0, I 0, I 0, I 0, I 0, I 0, nl], I e]

def joinR (nl : V) (a b : Vol) : V :=
  if volOk a then (if volOk b then
    (if manyI (aroundB a.b b.b) = manyI a.b + manyI b.b - commonI a.b b.b then
      (if smallB (aroundB a.b b.b) then
        (if (boxCells (aroundB a.b b.b)).any (clash a b) then errVol nl 104 else .tuple [.agg (volC ⟨aroundB a.b b.b, (boxCells (aroundB a.b b.b)).map (pickV a b)⟩), I 0])
      else errVol nl 3)
    else errVol nl 103)
  else errVol nl 101) else errVol nl 101

theorem volOk_spec {v : Vol} (h : volOk v = true) : boxOk v.b = true ∧ (v.v.length : Int) = manyI v.b ∧ ∀ n ∈ v.v, -1099511627776 ≤ n ∧ n ≤ 1099511627776 := by
  simp only [volOk, Bool.and_eq_true, decide_eq_true_eq, List.all_eq_true, btw] at h
  exact ⟨h.1.1, h.1.2, fun n hn => by have := h.2 n hn; omega⟩

theorem atV_eq {v : Vol} {p : Int × Int × Int} {k : Nat} (h : idxOf v.b p.1 p.2.1 p.2.2 = (k : Int)) (hk : k < v.v.length) : atV v p = v.v[k] := by
  simp [atV, h, List.getElem?_eq_getElem hk]

theorem has_bd {b : Bx} {x y z : Int} (h : hasB b x y z = true) (hm : b.mid) : (-2000 ≤ x ∧ x ≤ 2000) ∧ (-2000 ≤ y ∧ y ≤ 2000) ∧ (-2000 ≤ z ∧ z ≤ 2000) := by
  simp only [hasB, btw, Bool.and_eq_true, decide_eq_true_eq] at h
  unfold Bx.mid at hm
  omega

theorem has_bd' {b : Bx} {x y z : Int} (h : hasB b x y z = true) (hb : boxOk b = true) : (-1000 ≤ x ∧ x ≤ 1000) ∧ (-1000 ≤ y ∧ y ≤ 1000) ∧ (-1000 ≤ z ∧ z ≤ 1000) := by
  simp only [hasB, btw, Bool.and_eq_true, decide_eq_true_eq] at h
  simp only [boxOk, Bool.and_eq_true, cellOk, btw, decide_eq_true_eq] at hb
  omega

theorem c_Join (a b : Vol) (hla : a.v.length ≤ 9223372036854775807) (hlb : b.v.length ≤ 9223372036854775807) : C Try.prog F.volume_Join [.agg (volC a), .agg (volC b)] (joinR .nils a b) := by
  refine C_of mixed chk.volume_Join (by simp) fun S ok => ?_
  refine Tr.seqR rfl (by simp [volC, intsV]) ?_
  by_cases hA : volOk a = true
  rotate_left
  · have hA : volOk a = false := by simpa using hA
    have hr : blockR a = .tuple [.agg [I 0, I 0, I 0, I 0, I 0, I 0, .nils], I 101] := by simp [blockR, hA]
    refine Tr.seqC rfl (by simp [volC]) (Steps.call rfl rfl (hr ▸ c_blockOf a hla) (Steps.fin rfl (by simp) ?_))
    refine Tr.seq (Tr.seqR rfl (by simp) (Tr.condT rfl (Tr.seqR rfl (by simp) (Tr.retX rfl rfl rfl ?_ trivial))))
    simp [packR, joinR, hA, errVol]
  have hr : blockR a = .tuple [.agg (volC a), I 0] := by simp [blockR, hA]
  refine Tr.seqC rfl (by simp [volC]) (Steps.call rfl rfl (hr ▸ c_blockOf a hla) (Steps.fin rfl (by simp [volC, intsV]) ?_))
  refine Tr.seq (Tr.seqR rfl (by simp) (Tr.condF rfl (Tr.skip ?_)))
  by_cases hB : volOk b = true
  rotate_left
  · have hB : volOk b = false := by simpa using hB
    have hr : blockR b = .tuple [.agg [I 0, I 0, I 0, I 0, I 0, I 0, .nils], I 101] := by simp [blockR, hB]
    refine Tr.seqC rfl (by simp [volC]) (Steps.call rfl rfl (hr ▸ c_blockOf b hlb) (Steps.fin rfl (by simp) ?_))
    refine Tr.seq (Tr.seqR rfl (by simp) (Tr.condT rfl (Tr.seqR rfl (by simp) (Tr.retX rfl rfl rfl ?_ trivial))))
    simp [packR, joinR, hA, hB, errVol]
  have hr2 : blockR b = .tuple [.agg (volC b), I 0] := by simp [blockR, hB]
  refine Tr.seqC rfl (by simp [volC]) (Steps.call rfl rfl (hr2 ▸ c_blockOf b hlb) (Steps.fin rfl (by simp [volC, intsV]) ?_))
  refine Tr.seq (Tr.seqR rfl (by simp) (Tr.condF rfl (Tr.skip ?_)))
  obtain ⟨hbA, hlA, hvA⟩ := volOk_spec hA
  obtain ⟨hbB, hlB, hvB⟩ := volOk_spec hB
  obtain ⟨hsA, hmA⟩ := boxOk_spec hbA
  obtain ⟨hsB, hmB⟩ := boxOk_spec hbB
  have gA := small_spec hsA
  have gB := small_spec hsB
  have hmA' := hmA
  have hmB' := hmB
  unfold Bx.mid at hmA' hmB'
  have cA : (-64 ≤ a.b.x ∧ a.b.x + a.b.a - 1 ≤ 64) ∧ (-64 ≤ a.b.y ∧ a.b.y + a.b.b - 1 ≤ 64) ∧ (-64 ≤ a.b.z ∧ a.b.z + a.b.c - 1 ≤ 64) := by
    simp only [boxOk, Bool.and_eq_true, cellOk, btw, decide_eq_true_eq] at hbA; omega
  have cB : (-64 ≤ b.b.x ∧ b.b.x + b.b.a - 1 ≤ 64) ∧ (-64 ≤ b.b.y ∧ b.b.y + b.b.b - 1 ≤ 64) ∧ (-64 ≤ b.b.z ∧ b.b.z + b.b.c - 1 ≤ 64) := by
    simp only [boxOk, Bool.and_eq_true, cellOk, btw, decide_eq_true_eq] at hbB; omega
  obtain ⟨u, hu⟩ : ∃ u, u = aroundB a.b b.b := ⟨_, rfl⟩
  have umid : u.mid := by rw [hu]; unfold Bx.mid; simp only [aroundB]; omega
  have usz : (0 ≤ u.a ∧ u.a ≤ 1000) ∧ (0 ≤ u.b ∧ u.b ≤ 1000) ∧ (0 ≤ u.c ∧ u.c ≤ 1000) := by unfold Bx.mid at umid; omega
  refine Tr.seqC rfl (by simp [volC]) (Steps.call rfl rfl (hu ▸ c_around a.b b.b hmA hmB) (Steps.fin rfl (by simp) ?_))
  refine Tr.seq (Tr.seq (Tr.drawK (TraceK.run rfl (by simp) (TraceK.call rfl rfl (c_many u usz) (TraceK.run rfl (by simp [volC]) (TraceK.call rfl rfl (c_many a.b (by omega)) (TraceK.run rfl (by simp [volC]) (TraceK.call rfl rfl (c_many b.b (by omega)) (TraceK.run rfl (by simp [volC]) (TraceK.call rfl rfl (c_common a.b b.b hmA hmB) (TraceK.run rfl (by simp) (.done ⟨by kernel_rfl, by kernel_rfl, ?_⟩))))))))))))
  have hcom : 0 ≤ commonI a.b b.b ∧ commonI a.b b.b ≤ 4096 := by
    have k1 : 0 ≤ cut1 (a.b.x + a.b.a - 1) (b.b.x + b.b.a - 1) a.b.x b.b.x ∧ cut1 (a.b.x + a.b.a - 1) (b.b.x + b.b.a - 1) a.b.x b.b.x ≤ 16 := by unfold cut1; omega
    have k2 : 0 ≤ cut1 (a.b.y + a.b.b - 1) (b.b.y + b.b.b - 1) a.b.y b.b.y ∧ cut1 (a.b.y + a.b.b - 1) (b.b.y + b.b.b - 1) a.b.y b.b.y ≤ 16 := by unfold cut1; omega
    have k3 : 0 ≤ cut1 (a.b.z + a.b.c - 1) (b.b.z + b.b.c - 1) a.b.z b.b.z ∧ cut1 (a.b.z + a.b.c - 1) (b.b.z + b.b.c - 1) a.b.z b.b.z ≤ 16 := by unfold cut1; omega
    have l1 := mul_bd (a := cut1 (a.b.x + a.b.a - 1) (b.b.x + b.b.a - 1) a.b.x b.b.x) (A := 16) (by omega) k2
    have l2 := mul_bd (a := cut1 (a.b.x + a.b.a - 1) (b.b.x + b.b.a - 1) a.b.x b.b.x * cut1 (a.b.y + a.b.b - 1) (b.b.y + b.b.b - 1) a.b.y b.b.y) (A := 256) (by omega) k3
    have l3 := Int.mul_nonneg (Int.mul_nonneg k1.1 k2.1) k3.1
    unfold commonI
    omega
  have hcnd : ∀ c : Bool, ((u.a * u.b * u.c) != IntKind.i64.wrap (IntKind.i64.wrap (a.b.a * a.b.b * a.b.c + b.b.a * b.b.b * b.b.c) - commonI a.b b.b)) = c → c = !decide (manyI u = manyI a.b + manyI b.b - commonI a.b b.b) := by
    rintro c rfl
    have q1 : 0 ≤ a.b.a * a.b.b * a.b.c := by have := hlA; unfold manyI at this; omega
    have q2 : 0 ≤ b.b.a * b.b.b * b.b.c := by have := hlB; unfold manyI at this; omega
    rw [w64 (n := a.b.a * a.b.b * a.b.c + b.b.a * b.b.b * b.b.c) (by omega) (by omega), w64 (by omega) (by omega)]
    unfold manyI
    by_cases h : u.a * u.b * u.c = a.b.a * a.b.b * a.b.c + b.b.a * b.b.b * b.b.c - commonI a.b b.b <;> simp [h]
  refine Tr.cond rfl rfl (fun h1 => Tr.seqR rfl (by simp) (Tr.retX rfl rfl rfl ?_ trivial)) (fun h1 => Tr.skip ?_)
  · have h2 := not_of (hcnd true h1)
    have h2 : ¬ manyI u = manyI a.b + manyI b.b - commonI a.b b.b := by simpa using h2
    simp [packR, joinR, hA, hB, ← hu, h2, errVol]
  have h2 := not_of (hcnd false h1)
  have h2 : manyI u = manyI a.b + manyI b.b - commonI a.b b.b := by simpa using h2
  have hcov : ∀ p ∈ boxCells u, hasP a.b p = true ∨ hasP b.b p = true := by
    rw [hu] at h2 ⊢; exact cover (by omega) (by omega) h2
  refine Tr.seq (Tr.seqC rfl (by simp) (Steps.call rfl rfl (c_small u) (Steps.fin rfl (by simp) (Tr.cond rfl rfl (fun h3 => Tr.seqR rfl (by simp) (Tr.retX rfl rfl rfl ?_ trivial)) (fun h3 => Tr.skip ?_)))))
  · have h3 : smallB u = false := by simpa using h3
    simp [packR, joinR, hA, hB, ← hu, h2, h3, errVol]
  have h3 : smallB u = true := by simpa using h3
  have hlen := boxCells_len h3
  refine Tr.seqR rfl (by simp) ?_
  refine Tr.seq (Tr.seqC rfl (by simp) (Steps.call rfl rfl (c_cells u) (Steps.fin rfl (by simp) (Tr.block ?_))))
  refine Tr.weak (s' := { env := [(62, .func (.func F.volume_box_cells_1) [] [.vptr (boxC u) 0]), (4, .ptr 4 0), (5, .ptr 5 0), (6, .ptr 6 0), (8, .ptr 8 0), (10, .ptr 10 0)], bx := [(4, ⟨[I 0, I 0, I 0, I 0, I 0, I 0, .nils], false⟩), (5, ⟨[I 0], false⟩), (6, ⟨volC a, false⟩), (8, ⟨volC b, false⟩), (10, ⟨[I u.x, I u.y, I u.z, I u.a, I u.b, I u.c, .slice 76 1 []], false⟩)], rw := [(75, 0, 1, 3)], log := [], stp := false })
    (Wk.le (.cons rfl (.refl _) (.cons rfl (.refl _) (.cons rfl (.refl _) (.cons rfl (.refl _) (.cons rfl (.refl _) (.cons rfl (.refl _) .nil)))))) (.cons rfl (LLe.refl _) (.cons rfl (LLe.refl _) (.cons rfl (LLe.refl _) (.cons rfl (LLe.refl _) (.cons rfl (.cons (.refl _) (.cons (.refl _) (.cons (.refl _) (.cons (.refl _) (.cons (.refl _) (.cons (.refl _) (.cons (.nil 76 1) .nil))))))) .nil))))) (.new rfl .nil) rfl rfl) ?_
  refine Tr.range rfl rfl (i_cells u umid) rfl rfl rfl (by intro x hx; obtain ⟨p, _, rfl⟩ := List.mem_map.1 hx; rfl)
    (fun pre t => ∃ m, m ≤ (boxCells u).length ∧ pre = ((boxCells u).take m).map cellV ∧ ((boxCells u).take m).any (clash a b) = false ∧ t.bx = [(4, ⟨[I 0, I 0, I 0, I 0, I 0, I 0, .nils], false⟩), (5, ⟨[I 0], false⟩), (6, ⟨volC a, false⟩), (8, ⟨volC b, false⟩), (10, ⟨[I u.x, I u.y, I u.z, I u.a, I u.b, I u.c, .slice 76 1 (((boxCells u).take m).map fun p => I (pickV a b p))], false⟩)] ∧ t.rw = [(75, m, 1, 3)] ∧ t.log = [])
    (fun e t => e = .ret ∧ (boxCells u).any (clash a b) = true ∧ ∃ xs, t.bx = [(4, ⟨[I 0, I 0, I 0, I 0, I 0, I 0, .nils], false⟩), (5, ⟨[I 104], false⟩), (6, ⟨volC a, false⟩), (8, ⟨volC b, false⟩), (10, ⟨[I u.x, I u.y, I u.z, I u.a, I u.b, I u.c, .slice 76 1 xs], false⟩)]) ⟨0, by omega, rfl, rfl, rfl, rfl, rfl⟩ ?_ ?_ ?_
  · rintro a0 L0 rc0 h0 S1 S2 ok1 ok2 pre q t lp hpre ⟨m, hm, rfl, hnc, hbx, hrw, hlog⟩ henv hstp
    obtain ⟨env, bx, rw, log, stp⟩ := t
    simp only at hbx hrw hlog henv hstp
    subst hbx hrw hlog henv hstp
    have hmx : m < (boxCells u).length ∧ ∃ p, (boxCells u)[m]? = some p ∧ q = cellV p := by
      have h1 : (((boxCells u).take m).map cellV).length = m := by simp; omega
      have h2 := hpre.length_le
      simp at h2
      have hml : m < (boxCells u).length := by omega
      refine ⟨hml, _, List.getElem?_eq_getElem hml, ?_⟩
      have h3 := List.IsPrefix.getElem hpre (i := m) (by simp; omega)
      simp only [List.getElem_map] at h3
      rw [List.getElem_append_right (by omega)] at h3
      simpa using h3
    obtain ⟨hml, ⟨x, y, z⟩, hp, rfl⟩ := hmx
    have hmem := List.mem_of_getElem? hp
    have hcv := hcov _ hmem
    have htk : (boxCells u).take (m + 1) = (boxCells u).take m ++ [(x, y, z)] := by rw [List.take_add_one, hp]; rfl
    refine Tr.regR rfl (by simp) (Tr.block (Tr.block ?_))
    refine Tr.seqC rfl (by simp [volC]) (Steps.call rfl rfl (c_has a.b x y z hmA) (Steps.fin rfl (by simp) (Tr.cond rfl rfl (fun h4 => ?_) (fun h4 => ?_))))
    · have h4 : hasB a.b x y z = false := by simpa using h4
      have h5 : hasB b.b x y z = true := by
        rcases hcv with h | h
        · have h : hasB a.b x y z = true := h
          rw [h4] at h; cases h
        · exact h
      obtain ⟨i0, i1⟩ := idx_range h5
      obtain ⟨k, hk⟩ : ∃ k : Nat, idxOf b.b x y z = (k : Int) := ⟨(idxOf b.b x y z).toNat, by omega⟩
      have hkl : k < b.v.length := by unfold manyI at hlB; omega
      have hpk : pickV a b (x, y, z) = b.v[k] := by
        unfold pickV
        rw [if_neg (by simp [hasP, h4]), atV_eq (p := (x, y, z)) hk hkl]
      have hcl : clash a b (x, y, z) = false := by simp [clash, hasP, h4]
      have hci : C Try.prog F.volume_box_index [.agg (boxC b.b), .agg (cellC x y z)] (I (k : Int)) := hk ▸ c_index b.b x y z hmB (has_bd' h5 hbB)
      refine Tr.drawK (TraceK.run rfl (by simp [volC]) (TraceK.call rfl rfl hci (TraceK.runN 1 rfl (by simp [intsV]; omega) ?_)))
      rw [getD_map hkl]
      refine TraceK.run rfl (by simp; omega) (.done ⟨by kernel_rfl, by kernel_rfl, ?_⟩)
      refine ⟨{ env := [], bx := [(4, ⟨[I 0, I 0, I 0, I 0, I 0, I 0, .nils], false⟩), (5, ⟨[I 0], false⟩), (6, ⟨volC a, false⟩), (8, ⟨volC b, false⟩), (10, ⟨[I u.x, I u.y, I u.z, I u.a, I u.b, I u.c, .slice 76 1 ((((boxCells u).take m).map fun p => I (pickV a b p)) ++ [I b.v[k]])], false⟩)], rw := [(75, m + 1, 1, 3)], log := [], stp := false }, ?_, ⟨m + 1, by omega, ?_, ?_, ?_, rfl, rfl⟩, rfl⟩
      · refine Wk.le .nil (.cons rfl (LLe.refl _) (.cons rfl (LLe.refl _) (.cons rfl (LLe.refl _) (.cons rfl (LLe.refl _) (.cons rfl (LLe.refl _) .nil))))) (.cons ?_ .nil) rfl rfl
        show some _ = some _
        simp; omega
      · rw [htk]; simp
      · rw [htk, List.any_append, hnc]; simp [hcl]
      · rw [htk]; simp [hpk]
    · have h4 : hasB a.b x y z = true := by simpa using h4
      obtain ⟨i0, i1⟩ := idx_range h4
      obtain ⟨k, hk⟩ : ∃ k : Nat, idxOf a.b x y z = (k : Int) := ⟨(idxOf a.b x y z).toNat, by omega⟩
      have hkl : k < a.v.length := by unfold manyI at hlA; omega
      have hpk : pickV a b (x, y, z) = a.v[k] := by
        unfold pickV
        rw [if_pos (by simp [hasP, h4]), atV_eq (p := (x, y, z)) hk hkl]
      obtain ⟨j, hj, hjl⟩ : ∃ j : Nat, (hasB b.b x y z = true → idxOf b.b x y z = (j : Int)) ∧ j < b.v.length := by
        by_cases h5 : hasB b.b x y z = true
        · obtain ⟨j0, j1⟩ := idx_range h5
          exact ⟨(idxOf b.b x y z).toNat, fun _ => by omega, by unfold manyI at hlB; omega⟩
        · refine ⟨0, fun h => absurd h h5, ?_⟩
          have : 1 * 1 * 1 ≤ b.b.a * b.b.b * b.b.c := Int.mul_le_mul (Int.mul_le_mul gB.1.1 gB.2.1.1 (by omega) (by omega)) gB.2.2.1.1 (by omega) (Int.mul_nonneg (by omega) (by omega))
          unfold manyI at hlB; omega
      have hcl : clash a b (x, y, z) = (bif hasB b.b x y z then a.v[k] != b.v[j] else false) := by
        unfold clash
        by_cases h5 : hasB b.b x y z = true
        · rw [atV_eq (p := (x, y, z)) hk hkl, atV_eq (p := (x, y, z)) (hj h5) hjl]; simp [hasP, h4, h5]
        · simp [hasP, h5]
      have hci : C Try.prog F.volume_box_index [.agg (boxC a.b), .agg (cellC x y z)] (I (k : Int)) := hk ▸ c_index a.b x y z hmA (has_bd' h4 hbA)
      have hcj : hasB b.b x y z = true → C Try.prog F.volume_box_index [.agg (boxC b.b), .agg (cellC x y z)] (I (j : Int)) := fun e => (hj e) ▸ c_index b.b x y z hmB (has_bd' e hbB)
      refine Tr.seq (Tr.drawK (TraceK.run rfl (by simp [volC]) (TraceK.call rfl rfl (c_has b.b x y z hmB) (TraceK.run rfl (by simp [volC]) ?_))))
      refine TraceK.gcall rfl rfl rfl rfl (by simp) (fun _ => hci) (TraceK.runN 1 rfl (by simp [volC, intsV]; first | omega | exact fun e => by omega | exact fun e => ⟨by omega, e⟩ | exact fun e => ⟨e, by omega⟩ | trace_state) ?_)
      rw [getD_map hkl]
      refine TraceK.run rfl (by simp [volC]) ?_
      refine TraceK.gcall (r := I (j : Int)) rfl rfl rfl rfl (by simp) (fun e => hcj (by simpa using e)) (TraceK.runN 1 rfl (by simp [volC, intsV]; first | omega | exact fun e => by omega | exact fun e => ⟨by omega, e⟩ | exact fun e => ⟨e, by omega⟩ | trace_state) ?_)
      rw [getD_map hjl]
      refine TraceK.run rfl (by simp) (.done ⟨by kernel_rfl, by kernel_rfl, ?_⟩)
      refine Tr.cond rfl rfl (fun h6 => ?_) (fun h6 => ?_)
      · have h6 : (bif hasB b.b x y z then a.v[k] != b.v[j] else false) = true := h6
        rw [← hcl] at h6
        refine Tr.seqR rfl (by simp) (Tr.ret ?_)
        refine ⟨{ env := [], bx := [(4, ⟨[I 0, I 0, I 0, I 0, I 0, I 0, .nils], false⟩), (5, ⟨[I 104], false⟩), (6, ⟨volC a, false⟩), (8, ⟨volC b, false⟩), (10, ⟨[I u.x, I u.y, I u.z, I u.a, I u.b, I u.c, .slice 76 1 (((boxCells u).take m).map fun p => I (pickV a b p))], false⟩)], rw := [(75, m, 1, 3)], log := [], stp := false }, Wk.le .nil (.cons rfl (LLe.refl _) (.cons rfl (LLe.refl _) (.cons rfl (LLe.refl _) (.cons rfl (LLe.refl _) (.cons rfl (LLe.refl _) .nil))))) (.cons rfl .nil) rfl rfl, rfl, ?_, _, rfl⟩
        rw [List.any_eq_true]
        exact ⟨_, hmem, h6⟩
      · have h6 : (bif hasB b.b x y z then a.v[k] != b.v[j] else false) = false := h6
        rw [← hcl] at h6
        refine Tr.drawK (TraceK.run rfl (by simp [volC]) (TraceK.call rfl rfl hci (TraceK.runN 1 rfl (by simp [intsV]; omega) ?_)))
        rw [getD_map hkl]
        refine TraceK.run rfl (by simp; omega) (.done ⟨by kernel_rfl, by kernel_rfl, ?_⟩)
        refine ⟨{ env := [], bx := [(4, ⟨[I 0, I 0, I 0, I 0, I 0, I 0, .nils], false⟩), (5, ⟨[I 0], false⟩), (6, ⟨volC a, false⟩), (8, ⟨volC b, false⟩), (10, ⟨[I u.x, I u.y, I u.z, I u.a, I u.b, I u.c, .slice 76 1 ((((boxCells u).take m).map fun p => I (pickV a b p)) ++ [I a.v[k]])], false⟩)], rw := [(75, m + 1, 1, 3)], log := [], stp := false }, ?_, ⟨m + 1, by omega, ?_, ?_, ?_, rfl, rfl⟩, rfl⟩
        · refine Wk.le .nil (.cons rfl (LLe.refl _) (.cons rfl (LLe.refl _) (.cons rfl (LLe.refl _) (.cons rfl (LLe.refl _) (.cons rfl (LLe.refl _) .nil))))) (.cons ?_ .nil) rfl rfl
          show some _ = some _
          simp; omega
        · rw [htk]; simp
        · rw [htk, List.any_append, hnc]; simp [h6]
        · rw [htk]; simp [hpk]
  · rintro ⟨env, bx, rw, log, stp⟩ henv hstp ⟨m, hm, hpre, hnc, hbx, hrw, hlog⟩
    simp only at hbx hrw hlog henv hstp
    subst hbx hrw hlog henv hstp
    have hml : m = (boxCells u).length := by
      have := congrArg List.length hpre
      simp at this; omega
    subst hml
    rw [List.take_length] at hnc ⊢
    refine Tr.seqR rfl (by simp) (Tr.retX rfl rfl rfl ?_ trivial)
    simp [packR, joinR, hA, hB, ← hu, h2, h3, hnc, volC, intsV]
  · rintro e ⟨env, bx, rw, log, stp⟩ henv ⟨rfl, hany, xs, hbx⟩
    simp only at henv hbx
    subst henv hbx
    refine ⟨trivial, _, _, _, resVs_ok rfl, rfl, ?_⟩
    simp [packR, joinR, hA, hB, ← hu, h2, h3, hany, errVol]

end Go.Proofs.Ytecggpjpckicgaa

/-! What a horizon is worth: the recursion that fills a map. -/
set_option linter.unusedVariables false
set_option linter.unusedSimpArgs false
set_option maxRecDepth 20000
namespace Go.Proofs.Ytecggpjpckicgaa
open Go.Am Go.RowKit

attribute [local simp] cells scalar mkv splice under2 under dem dem1 secC secV intsV

/-! ### Inversions -/
section
variable {P : Program} {o : Oper} {os : List Operand}

theorem opK_load (hk : opK P o.op = some (.load 1 false, os)) : ∃ t p d, o.op = .load t p ∧ szOf P t = some 1 ∧ P.underlying t = some d ∧ aggB P t = false ∧ os = [p] := by
  cases ho : o.op <;> rw [ho] at hk <;> simp only [opK] at hk <;> (try (cases hk; done)) <;> (try (repeat' (split at hk <;> (try (cases hk; done)))))
  all_goals first
    | (simp only [Option.map_eq_some_iff, Prod.mk.injEq] at hk; obtain ⟨_, _, h1, _⟩ := hk; cases h1; done)
    | (simp only [eqKind] at hk; repeat' (split at hk <;> (try (cases hk; done))))
    | (rename_i h1 h2 h3 h4; subst h4; cases hk; exact ⟨_, _, _, rfl, by assumption, by assumption, Bool.eq_false_iff.2 h3, rfl⟩)

theorem opK_lookup {c : Bool} (hk : opK P o.op = some (.lookup c, os)) : ∃ t p q kt e, o.op = .lookup t p q c ∧ P.underlying t = some (.map kt e) ∧ mapOk P kt e = true ∧ os = [p, q] := by
  cases ho : o.op <;> rw [ho] at hk <;> simp only [opK] at hk <;> (try (cases hk; done)) <;> (try (repeat' (split at hk <;> (try (cases hk; done)))))
  all_goals first
    | (simp only [Option.map_eq_some_iff, Prod.mk.injEq] at hk; obtain ⟨_, _, h1, _⟩ := hk; cases h1; done)
    | (simp only [eqKind] at hk; repeat' (split at hk <;> (try (cases hk; done))))
    | (cases hk; exact ⟨_, _, _, _, _, rfl, by assumption, by assumption, rfl⟩)

theorem opK_mapup (hk : opK P o.op = some (.mapup, os)) : ∃ t p q r kt e, o.op = .mapUpdate t p q r ∧ P.underlying t = some (.map kt e) ∧ mapOk P kt e = true ∧ os = [p, q, r] := by
  cases ho : o.op <;> rw [ho] at hk <;> simp only [opK] at hk <;> (try (cases hk; done)) <;> (try (repeat' (split at hk <;> (try (cases hk; done)))))
  all_goals first
    | (simp only [Option.map_eq_some_iff, Prod.mk.injEq] at hk; obtain ⟨_, _, h1, _⟩ := hk; cases h1; done)
    | (simp only [eqKind] at hk; repeat' (split at hk <;> (try (cases hk; done))))
    | (cases hk; exact ⟨_, _, _, _, _, _, rfl, by assumption, by assumption, rfl⟩)
end

/-! ### What a value is worth -/
def stepW (s : Bool × Int) (x : Int) : Bool × Int := if (!s.1 || decide (x > s.2)) = true then (true, x) else s
def bestG (l : List Int) : Bool × Int := l.foldl stepW (false, 0)

def worthN (l : List (List Int)) (sl : Nat) : Nat → Nat → Nat → Int
  | 0, c, i => at2 l c i
  | k + 1, c, i => at2 l c i + (bestG ((nextN l.length (deepOf l) sl c i).map (worthN l sl k (c + 1)))).2

def worthV (l : List (List Int)) (sl c i : Nat) : Int := worthN l sl (l.length - 1 - c) c i

theorem worthV_eq {l : List (List Int)} {sl c i : Nat} (hc : c < l.length) : worthV l sl c i = at2 l c i + (bestG ((nextN l.length (deepOf l) sl c i).map (worthV l sl (c + 1)))).2 := by
  unfold worthV
  by_cases h : c + 1 = l.length
  · have e : l.length - 1 - c = 0 := by omega
    rw [e]
    simp [worthN, nextN, h, bestG]
  · obtain ⟨k, hk⟩ : ∃ k, l.length - 1 - c = k + 1 := ⟨l.length - 1 - c - 1, by omega⟩
    have e : l.length - 1 - (c + 1) = k := by omega
    rw [hk]
    simp only [worthN]
    congr 4
    funext q
    rw [e]

theorem foldW_mem : ∀ (l : List Int) (s : Bool × Int), (l.foldl stepW s).2 = s.2 ∨ (l.foldl stepW s).2 ∈ l
  | [], s => .inl rfl
  | x :: r, s => by
    simp only [List.foldl_cons]
    rcases foldW_mem r (stepW s x) with h | h
    · rw [h]
      unfold stepW
      split
      · exact .inr (by simp)
      · exact .inl rfl
    · exact .inr (List.mem_cons_of_mem _ h)

theorem at2_bd {l : List (List Int)} (h : numsOk 1099511627776 l = true) (c i : Nat) : -1099511627776 ≤ at2 l c i ∧ at2 l c i ≤ 1099511627776 := by
  by_cases hc : c < l.length
  · by_cases hi : i < l[c].length
    · rw [at2_eq hc hi]; exact numsOk_spec h hc hi
    · simp [at2, List.getElem?_eq_getElem hc, List.getElem?_eq_none (Nat.le_of_not_lt hi)]
  · simp [at2, List.getElem?_eq_none (Nat.le_of_not_lt hc)]

theorem worthN_bd {l : List (List Int)} {sl : Nat} (h : numsOk 1099511627776 l = true) : ∀ (k c i : Nat), -(((k : Int) + 1) * 1099511627776) ≤ worthN l sl k c i ∧ worthN l sl k c i ≤ ((k : Int) + 1) * 1099511627776
  | 0, c, i => by have := at2_bd h c i; simp only [worthN]; omega
  | k + 1, c, i => by
    have h1 := at2_bd h c i
    have h2 : -(((k : Int) + 1) * 1099511627776) ≤ (bestG ((nextN l.length (deepOf l) sl c i).map (worthN l sl k (c + 1)))).2 ∧ (bestG ((nextN l.length (deepOf l) sl c i).map (worthN l sl k (c + 1)))).2 ≤ ((k : Int) + 1) * 1099511627776 := by
      rcases foldW_mem ((nextN l.length (deepOf l) sl c i).map (worthN l sl k (c + 1))) (false, 0) with h3 | h3
      · unfold bestG; rw [h3]; simp only; omega
      · obtain ⟨q, _, hq⟩ := List.mem_map.1 h3
        unfold bestG
        rw [← hq]
        exact worthN_bd h k (c + 1) q
    simp only [worthN]
    push_cast
    omega

theorem worthV_bd {l : List (List Int)} {sl : Nat} (h : numsOk 1099511627776 l = true) (hn : 1 ≤ l.length ∧ l.length ≤ 16) (c i : Nat) : -17592186044416 ≤ worthV l sl c i ∧ worthV l sl c i ≤ 17592186044416 := by
  have := worthN_bd (sl := sl) h (l.length - 1 - c) c i
  unfold worthV
  omega

/-! ### The map while it is filled -/
def GoodF (l : List (List Int)) (sl : Nat) (f : Int → Int → Option Int) : Prop :=
  (∀ a b v, f a b = some v → ∃ c i : Nat, a = (c : Int) ∧ b = (i : Int) ∧ c < l.length ∧ i < deepOf l ∧ v = worthV l sl c i) ∧
    ∀ c i : Nat, (f c i).isSome = true → ∀ q ∈ nextN l.length (deepOf l) sl c i, (f ((c + 1 : Nat) : Int) q).isSome = true

def gridL (l : List (List Int)) : List (Int × Int) := (List.range l.length).flatMap fun (c : Nat) => (List.range (deepOf l)).map fun (i : Nat) => ((c : Int), (i : Int))

theorem mem_grid {l : List (List Int)} {c i : Nat} (hc : c < l.length) (hi : i < deepOf l) : ((c : Int), (i : Int)) ∈ gridL l := by
  unfold gridL
  exact List.mem_flatMap.2 ⟨c, by simpa using hc, List.mem_map.2 ⟨i, by simpa using hi, rfl⟩⟩

theorem len_grid {l : List (List Int)} (hn : l.length ≤ 16) (hd : deepOf l ≤ 32) : (gridL l).length ≤ 100000 := by
  have key : ∀ n : Nat, ((List.range n).flatMap fun c : Nat => (List.range (deepOf l)).map fun i : Nat => ((c : Int), (i : Int))).length = n * deepOf l := by
    intro n
    induction n with
    | zero => simp
    | succ n ih => rw [List.range_succ, List.flatMap_append, List.length_append, ih]; simp [Nat.add_mul]
  unfold gridL
  rw [key]
  calc l.length * deepOf l ≤ 16 * 32 := Nat.mul_le_mul hn hd
    _ ≤ 100000 := by decide

/-- What a call does that fills the map: the map's block turns, and nothing else that was there. -/
structure RestX (mb : Nat) (w : World) (φ : Nat → Nat) (w' : World) (φ' : Nat → Nat) : Prop where
  blk : ∀ b, b < w.heap.size → b ≠ mb → w'.heap[b]? = w.heap[b]? ∧ φ' b = φ b
  z : φ' mb = 0
  size : w.heap.size ≤ w'.heap.size
  os : w'.os = w.os
  tape : w'.tape = w.tape
  output : w'.output = w.output
  top : ∀ b, w'.heap.size ≤ b → φ' b = 0

theorem RestX.ext {mb : Nat} {w : World} {φ : Nat → Nat} {w' : World} {φ' : Nat → Nat} (h : RestX mb w φ w' φ') (hz : φ mb = 0) (htop : ∀ b, w.heap.size ≤ b → φ b = 0) : Ext w φ w' φ' := fun b o ho => by
  have hb : b < w.heap.size := by
    rcases Nat.lt_or_ge b w.heap.size with h1 | h1
    · exact h1
    · rw [htop b h1] at ho; omega
  have hne : b ≠ mb := fun e => by rw [e, hz] at ho; omega
  obtain ⟨h1, h2⟩ := h.blk b hb hne
  exact ⟨by rw [h2]; exact ho, World.cell?_of_block h1, mapAt_of_block h1⟩

theorem RestX.trans {mb : Nat} {w w1 w2 : World} {φ φ1 φ2 : Nat → Nat} (h : RestX mb w φ w1 φ1) (k : RestX mb w1 φ1 w2 φ2) : RestX mb w φ w2 φ2 where
  blk b hb hne := by
    obtain ⟨h1, h2⟩ := h.blk b hb hne
    obtain ⟨k1, k2⟩ := k.blk b (Nat.lt_of_lt_of_le hb h.size) hne
    exact ⟨k1.trans h1, k2.trans h2⟩
  z := k.z
  size := Nat.le_trans h.size k.size
  os := k.os.trans h.os
  tape := k.tape.trans h.tape
  output := k.output.trans h.output
  top := k.top

def ptrV (b : Nat) : Value := .pointer (some ⟨b, 0, none⟩)

/-- The two variables that the recursion goes through: the map's, and its own. -/
def Cyc (mb kb wb : Nat) (sx : Value) (w : World) : Prop :=
  w.cell? ⟨kb, 0, none⟩ = some (.map (some mb)) ∧ w.cell? ⟨wb, 0, none⟩ = some (.func (.func F.volume_section_worths_1) #[] #[ptrV kb, sx, ptrV wb])

theorem cell_block {w : World} {b : Nat} {x : Value} (h : w.cell? ⟨b, 0, none⟩ = some x) : ∃ cs e m, w.heap[b]? = some (.cells cs e m) := by
  unfold World.cell? at h
  split at h
  · rename_i c e m hh; exact ⟨_, _, _, hh⟩
  · cases h

theorem Cyc.ne {l : List (Int × Int)} {f : Int → Int → Option Int} {mb kb wb : Nat} {sx : Value} {w : World} (h : Cyc mb kb wb sx w) (hm : MapW w mb l f) : kb ≠ mb ∧ wb ≠ mb := by
  obtain ⟨es, c, h1, _⟩ := hm
  constructor
  · rintro rfl
    obtain ⟨cs, e, m, h2⟩ := cell_block h.1
    rw [h1] at h2; cases h2
  · rintro rfl
    obtain ⟨cs, e, m, h2⟩ := cell_block h.2
    rw [h1] at h2; cases h2

theorem Cyc.keep {mb kb wb : Nat} {sx : Value} {w w' : World} (h : Cyc mb kb wb sx w) (hk : w'.heap[kb]? = w.heap[kb]?) (hw : w'.heap[wb]? = w.heap[wb]?) : Cyc mb kb wb sx w' :=
  ⟨(World.cell?_of_block hk).trans h.1, (World.cell?_of_block hw).trans h.2⟩

/-- What is known while the recursion runs, in the frame of one of its calls. -/
structure Base (l : List (List Int)) (sl : Nat) where
  w : World
  φ : Nat → Nat
  f : Int → Int → Option Int
  mb : Nat
  kb : Nat
  wb : Nat
  sx : Value
  sy : Value

structure Base.Ok {l : List (List Int)} {sl : Nat} (B : Base l sl) : Prop where
  top : ∀ b, B.w.heap.size ≤ b → B.φ b = 0
  z : B.φ B.mb = 0
  m : B.mb < B.w.heap.size
  k : B.kb < B.w.heap.size
  wl : B.wb < B.w.heap.size
  rep : RepD B.w B.φ (.vptr (secC l sl) 0) B.sx
  rep' : RepD B.w B.φ (.vptr (secC l sl) 0) B.sy

/-- The map as it is now, by the log. -/
def cur {l : List (List Int)} {sl : Nat} (B : Base l sl) (log : List (List V)) (f : Int → Int → Option Int) : Prop := (log = [] ∧ f = B.f) ∨ log = [[.mp f]]

theorem cur_inj {l : List (List Int)} {sl : Nat} {B : Base l sl} {log : List (List V)} {f g : Int → Int → Option Int} (h : cur B log f) (k : cur B log g) : f = g := by
  rcases h with ⟨h1, h2⟩ | h1 <;> rcases k with ⟨k1, k2⟩ | k1
  · rw [h2, k2]
  · rw [h1] at k1; cases k1
  · rw [h1] at k1; cases k1
  · rw [h1] at k1; simpa using k1

def SW {l : List (List Int)} {sl : Nat} (B : Base l sl) : Sur := fun log _ M w φ =>
  ∃ f, cur B log f ∧ MapW w B.mb (gridL l) f ∧ Cyc B.mb B.kb B.wb B.sy w ∧ (¬ M B.mb ∧ ¬ M B.kb ∧ ¬ M B.wb) ∧ RestX B.mb B.w B.φ w φ ∧ ∀ b, M b → B.w.heap.size ≤ b

theorem SW_ok {l : List (List Int)} {sl : Nat} {B : Base l sl} (hB : B.Ok) : (SW B).ok := by
  intro log s M w φ M' w' φ' ⟨f, h1, h2, h3, ⟨n1, n2, n3⟩, hR, hm⟩ mv
  have old : ∀ b, b < B.w.heap.size → w'.heap[b]? = w.heap[b]? ∧ φ' b = φ b := fun b hb => mv.old b (Nat.lt_of_lt_of_le hb hR.size) (fun hM => by have := hm b hM; omega)
  have new : ∀ b, b < B.w.heap.size → ¬ M' b := fun b hb hM' => by
    rcases mv.mine b hM' with h | h
    · have := hm b h; omega
    · have := hR.size; omega
  refine ⟨f, h1, h2.block (old _ hB.m).1, h3.keep (old _ hB.k).1 (old _ hB.wl).1, ⟨new _ hB.m, new _ hB.k, new _ hB.wl⟩, ?_, fun b hM' => ?_⟩
  · exact {
      blk := fun b hb hne => by
        obtain ⟨k1, k2⟩ := hR.blk b hb hne
        obtain ⟨k3, k4⟩ := old b hb
        exact ⟨k3.trans k1, k4.trans k2⟩
      z := (old _ hB.m).2.trans hR.z
      size := Nat.le_trans hR.size mv.size
      os := mv.os.trans hR.os
      tape := mv.tape.trans hR.tape
      output := mv.output.trans hR.output
      top := mv.top }
  · rcases Nat.lt_or_ge b B.w.heap.size with h | h
    · exact absurd hM' (new b h)
    · exact h

/-- The frames in which the recursion's steps may be taken. -/
structure In {l : List (List Int)} {sl : Nat} (B : Base l sl) (E : Env) : Prop where
  P : E.P = Try.prog
  sub : Sub E.S (SW B)
  lk : ∀ k, E.lk k → k = enc3 B.mb B.kb B.wb

section
variable {l : List (List Int)} {sl : Nat} {B : Base l sl} {E : Env} {log : List (List V)} {stp : Bool} {σ : FSt} {a : Act} {w : World} {h : Gh}

theorem tok_of (hE : In B E) (R : E.relF log stp σ a w h) {k : Nat} {x : Value} {σ' : FSt} (o : Ok σ' h w (.tok k) x) : (k = 0 → x = .map (some B.mb)) ∧ (k = 1 → x = ptrV B.kb) ∧ (k = 2 → x = ptrV B.wb) := by
  obtain ⟨r, _⟩ := o
  cases r with
  | data r => cases r
  | tok _ l' _ hy hx =>
    obtain ⟨a', b', c', h1, h2⟩ := hx
    have h3 := hE.lk l' (R.2.1 l' hy).2
    rw [h1] at h3
    obtain ⟨rfl, rfl, rfl⟩ := enc3_inj h3
    rcases h2 with ⟨e, rfl⟩ | ⟨e, rfl⟩ | ⟨e, rfl⟩
    · exact ⟨fun _ => rfl, fun e' => by omega, fun e' => by omega⟩
    · exact ⟨fun e' => by omega, fun _ => rfl, fun e' => by omega⟩
    · exact ⟨fun e' => by omega, fun e' => by omega, fun _ => rfl⟩

/-- A token at hand: what the frame holds on to. -/
theorem tok_rep {φ : Nat → Nat} {β : Nat → Option Nat} {y : Option Nat} {l' : Nat} (hy : y = some l') (hl : l' = enc3 B.mb B.kb B.wb) : Rep w φ β y (.tok 0) (.map (some B.mb)) ∧ Rep w φ β y (.tok 1) (ptrV B.kb) ∧ Rep w φ β y (.tok 2) (ptrV B.wb) :=
  ⟨.tok 0 l' _ hy ⟨_, _, _, hl, .inl ⟨rfl, rfl⟩⟩, .tok 1 l' _ hy ⟨_, _, _, hl, .inr (.inl ⟨rfl, rfl⟩)⟩, .tok 2 l' _ hy ⟨_, _, _, hl, .inr (.inr ⟨rfl, rfl⟩)⟩⟩

theorem grow_plain {σ : FSt} {h : Gh} {v : V} {x : Value} (hc : cells v = [v]) (hv : ∀ r sz xs, v ≠ .slice r sz xs) : GrowV σ h w v x := fun j u z hu hz => by
  rw [hc] at hu
  cases j with
  | zero => simp at hu; subst hu; intro r sz xs e; exact absurd e (hv _ _ _)
  | succ j => simp at hu

def recV (l : List (List Int)) (sl : Nat) : V := .func (.func F.volume_section_worths_1) [] [.tok 1, .vptr (secC l sl) 0, .tok 2]

/-- The frame's own surroundings, with the rest of it laid in. -/
theorem sur_of (hE : In B E) (R : E.relF log stp σ a w h) : ∃ M1 : Nat → Prop, (∀ b, h.M b → M1 b) ∧ (∀ b, M1 b → b < w.heap.size) ∧ SW B log stp M1 w h.φ ∧
    ∀ log' stp' w' φ', SW B log' stp' M1 w' φ' → Ext w h.φ w' φ' → (∀ b, M1 b → w'.heap[b]? = w.heap[b]? ∧ φ' b = h.φ b) → w.heap.size ≤ w'.heap.size → (∀ b, w'.heap.size ≤ b → φ' b = 0) → w'.os = w.os → w'.tape = w.tape → w'.output = w.output → E.S log' stp' h.M w' φ' :=
  hE.sub log stp h.M w h.φ R.1.sur R.1.mine

/-- A load through a token. -/
theorem does_tok (hB : B.Ok) (hE : In B E) {ins : Ins} {k : Nat} {v : V} (hk : ins.k = .load 1 false) (hg : ins.g = none) (hx : ins.xs.mapM (evX σ) = some [.tok k]) (hkv : (k = 1 ∧ v = .tok 0) ∨ (k = 2 ∧ v = recV l sl)) : Does E σ ins { v := v } (xslots ins.xs) := by
  refine .ext hg hx fun o os log stp σ' a w h ho R hO => ?_
  rw [hk] at ho
  obtain ⟨t, p, d, e1, e2, e3, e4, rfl⟩ := opK_load ho
  obtain ⟨u, hu, o1⟩ := hO.one
  simp only [List.cons.injEq, and_true] at hu
  subst hu
  obtain ⟨_, t1, t2⟩ := tok_of hE R o1
  obtain ⟨M1, _, _, ⟨f, _, _, hC, _, hR, _⟩, _⟩ := sur_of hE R
  -- what the frame holds on to
  obtain ⟨l', hy, hl'⟩ : ∃ l', h.y.l = some l' ∧ l' = enc3 B.mb B.kb B.wb := by
    obtain ⟨r, _⟩ := o1
    generalize a.eval p = x at r
    cases r with
    | data r => cases r
    | tok _ l' _ hy hx => exact ⟨l', hy, hE.lk l' (R.2.1 l' hy).2⟩
  obtain ⟨r0, r1, r2⟩ := tok_rep (B := B) (w := w) (φ := h.φ) (β := h.β) hy hl'
  have run : ∀ (b : Nat) (x : Value), a.eval p = ptrV b → w.cell? ⟨b, 0, none⟩ = some x → (execOp a.eval o).run E.P w = .ok (.value x) w := fun b x hb hc => by
    simp only [execOp, e1, hb, Sem.run_bind, ptrV]
    rw [run_loadAt (cs := [x]) e2 e3 rfl (fun j v hv => by
      cases j with
      | zero => cases hv; exact hc
      | succ j => cases hv) (by rw [e4]; rfl)]
    rfl
  rcases hkv with ⟨rfl, rfl⟩ | ⟨rfl, rfl⟩
  · exact ⟨_, run _ _ (t1 rfl) hC.1, r0, grow_plain rfl (fun _ _ _ e => (by cases e))⟩
  · refine ⟨_, run _ _ (t2 rfl) hC.2, ?_, grow_plain rfl (fun _ _ _ e => (by cases e))⟩
    refine .func _ [] _ #[] _ rfl rfl (fun i v x h => by simp at h) fun i v x h1 h2 => ?_
    match i with
    | 0 => cases h1; cases h2; exact r1
    | 1 => cases h1; cases h2; exact .data (hB.rep'.mono (hR.ext hB.z hB.top))
    | 2 => cases h1; cases h2; exact r2
    | i + 3 => simp at h1

theorem Steps.ldtok (hB : B.Ok) (hE : In B E) {K : St → Prop} {s : St} {d : Option Nat} {x : X} {rest : List Ins} (k : Nat) (v : V) (hx : evXs s.env [x] = some [.tok k]) (hkv : (k = 1 ∧ v = .tok 0) ∨ (k = 2 ∧ v = recV l sl)) (hk : Go.Am.Steps E rest K (s.put d v)) : Go.Am.Steps E (⟨d, .load 1 false, [x], none⟩ :: rest) K s :=
  Step1.does (ins := ⟨d, .load 1 false, [x], none⟩) (does_tok hB hE rfl rfl (evXs_ok hx) hkv) hk

theorem TraceK.ldtok (hB : B.Ok) (hE : In B E) {s : St} {d : Option Nat} {x : X} {rest : List Ins} {K : List (List Go.Am.Loc × List Go.Am.Loc) → St → List Ins → Prop} (k : Nat) (v : V) (hx : evXs s.env [x] = some [.tok k]) (hkv : (k = 1 ∧ v = .tok 0) ∨ (k = 2 ∧ v = recV l sl))
    (t : TraceK E (s.put d v) rest fun fp s' r => K ((wrOf ⟨d, .load 1 false, [x], none⟩ { v := v }, xslots [x]) :: fp) s' r) : TraceK E s (⟨d, .load 1 false, [x], none⟩ :: rest) K :=
  .step (ins := ⟨d, .load 1 false, [x], none⟩) (does_tok hB hE rfl rfl (evXs_ok hx) hkv) t

theorem pair_of {σ' : FSt} {a' b' : Int} {x : Value} (o : Ok σ' h w (.agg [I a', I b']) x) : x = .agg #[.int .i64 a', .int .i64 b'] := by
  obtain ⟨ws, hw, hlen, hh⟩ := ok_agg o
  rw [hw]
  obtain ⟨ws⟩ := ws
  match ws, hlen with
  | [y, z], _ => rw [rep_int (hh 0 _ y rfl rfl).1, rep_int (hh 1 _ z rfl rfl).1]

/-- A look-up in the map that is being filled. -/
theorem Steps.look (hE : In B E) {K : St → Prop} {s : St} {d : Nat} {x y : X} {rest : List Ins} {c : Bool} {f : Int → Int → Option Int} {a' b' : Int} (hx : evXs s.env [x, y] = some [.tok 0, .agg [I a', I b']]) (hf : cur B s.log f) (ha : inI a') (hb : inI b')
    (hk : Go.Am.Steps E rest K (s.put (some d) (bif c then .tuple [I ((f a' b').getD 0), .bool (f a' b').isSome] else I ((f a' b').getD 0)))) : Go.Am.Steps E (⟨some d, .lookup c, [x, y], none⟩ :: rest) K s := by
  refine Step1.raw fun slots ops o i ro n a w h hc hs hi R Q next hn => ?_
  obtain ⟨os, cc⟩ := comp_of hc
  have hgo : o.guard = none := by
    rcases cc.guard with ⟨_, e⟩ | ⟨j, want, t, _, _, e⟩
    · exact e
    · cases e
  have hdf := opK_defer cc.op
  obtain ⟨t, p, q, kt, e, e1, e2, e3, rfl⟩ := opK_lookup cc.op
  obtain ⟨u, u', hu, o1, o2⟩ := (opds_of R.1 cc.xs (evXs_ok hx)).two
  simp only [List.cons.injEq, and_true] at hu
  obtain ⟨rfl, rfl⟩ := hu
  obtain ⟨t0, _, _⟩ := tok_of hE R o1
  obtain ⟨M1, _, _, ⟨g, hg, hM, _, _, _, _⟩, _⟩ := sur_of hE R
  have := cur_inj hg hf
  subst this
  have hrun := mapW_lookup e3 e2 hM ha hb c
  have hex : (execOp a.eval o).run E.P w = .ok (.value (if c then .tuple #[.int .i64 ((g a' b').getD 0), .bool (g a' b').isSome] else .int .i64 ((g a' b').getD 0))) w := by
    simp only [execOp, e1, t0 rfl, pair_of o2, Sem.run_bind]
    rw [hrun]; rfl
  refine wpOp_done hi (wanted_none hgo) hdf (.inl hex) (hn _ _ _ h hk ?_ rfl)
  have ok : Ok s.fs h w (bif c then .tuple [I ((g a' b').getD 0), .bool (g a' b').isSome] else I ((g a' b').getD 0)) (if c = true then .tuple #[.int .i64 ((g a' b').getD 0), .bool (g a' b').isSome] else .int .i64 ((g a' b').getD 0)) := by
    cases c with
    | false => exact .data (.int _ _)
    | true =>
      refine ⟨.tuple _ _ rfl fun i v x h1 h2 => ?_, grow_plain rfl (fun _ _ _ e => (by cases e))⟩
      match i with
      | 0 => cases h1; cases h2; exact .int _ _
      | 1 => cases h1; cases h2; exact .bool _
  show E.relF _ _ _ _ _ _
  rw [(put_log _ _ _).1, (put_log _ _ _).2, fs_put]
  exact rel_after (eff := { v := _ }) cc R R.1 ok rfl

/-- A value is put. -/
theorem Steps.put (hE : In B E) {K : St → Prop} {s : St} {x y z : X} {rest : List Ins} {f : Int → Int → Option Int} {a' b' v : Int} (hx : evXs s.env [x, y, z] = some [.tok 0, .agg [I a', I b'], I v]) (hf : cur B s.log f) (ha : inI a') (hb : inI b') (hv : inI v) (hg : (a', b') ∈ gridL l) (hn : f a' b' = none)
    (hk : Go.Am.Steps E rest K { s with log := [[.mp (putF f a' b' v)]] }) : Go.Am.Steps E (⟨none, .mapup, [x, y, z], none⟩ :: rest) K s := by
  refine Step1.raw fun slots ops o i ro n a w h hc hs hi R Q next hnx => ?_
  obtain ⟨os, cc⟩ := comp_of hc
  have hgo : o.guard = none := by
    rcases cc.guard with ⟨_, e⟩ | ⟨j, want, t, _, _, e⟩
    · exact e
    · cases e
  have hdf := opK_defer cc.op
  obtain ⟨t, p, q, r, kt, e, e1, e2, e3, rfl⟩ := opK_mapup cc.op
  obtain ⟨u, u', u'', hu, o1, o2, o3⟩ := (opds_of R.1 cc.xs (evXs_ok hx)).three
  simp only [List.cons.injEq, and_true] at hu
  obtain ⟨rfl, rfl, rfl⟩ := hu
  obtain ⟨t0, _, _⟩ := tok_of hE R o1
  obtain ⟨M1, hM1, hlt1, ⟨g, hg', hM, hC, ⟨n1, n2, n3⟩, hR, hmine⟩, back⟩ := sur_of hE R
  have := cur_inj hg' hf
  subst this
  obtain ⟨w', hrun, hM', hoth, hsz, hos, htp, hou⟩ := mapW_put e3 e2 hM ha hb hv hg hn
  obtain ⟨ne1, ne2⟩ := hC.ne hM
  have hX : RestX B.mb w h.φ w' h.φ := ⟨fun b _ hne => ⟨hoth b hne, rfl⟩, hR.z, by omega, hos, htp, hou, fun b hb => R.1.top b (by omega)⟩
  have ext := hX.ext hR.z R.1.top
  have sur' := back [[.mp (putF g a' b' v)]] s.stp w' h.φ ⟨_, .inr rfl, hM', hC.keep (hoth _ ne1) (hoth _ ne2), ⟨n1, n2, n3⟩, hR.trans hX, hmine⟩ ext (fun b hb => ⟨hoth b (fun e => n1 (e ▸ hb)), rfl⟩) (by omega) (fun b hb => R.1.top b (by omega)) hos htp hou
  have R' := rel_round R.1 ext (fun b hb => ⟨hoth b (fun e => n1 (e ▸ hM1 b hb)), rfl⟩) (by omega) (fun b hb => R.1.top b (by omega)) sur'
  have hd : o.dst = none := cc.d.symm
  have hex : (execOp a.eval o).run E.P w = .ok .skip w' := by
    simp only [execOp, e1, t0 rfl, pair_of o2, ok_int o3, Sem.run_bind]
    rw [hrun]; rfl
  refine wpOp_done (x := undef) hi (wanted_none hgo) hdf (.inr ⟨hex, rfl⟩) (hnx _ _ _ { h with φ := h.φ } hk ?_ rfl)
  rw [hd]
  exact ⟨R', R.2⟩

end

/-- **ONE CALL OF THE RECURSION.** -/
def CW (l : List (List Int)) (sl k : Nat) : Prop := ∀ (c i : Nat), c + k + 1 = l.length → i < deepOf l → ∀ (B : Base l sl), B.Ok → MapW B.w B.mb (gridL l) B.f → Cyc B.mb B.kb B.wb B.sy B.w → GoodF l sl B.f →
  Calls Try.prog F.volume_section_worths_1 #[.agg #[.int .i64 c, .int .i64 i], ptrV B.kb, B.sx, ptrV B.wb] B.w fun e w' => ∃ φ' f', e = .returned (.int .i64 (worthV l sl c i)) ∧ MapW w' B.mb (gridL l) f' ∧ RestX B.mb B.w B.φ w' φ' ∧ GoodF l sl f' ∧
    (∀ a b v, B.f a b = some v → f' a b = some v) ∧ f' c i = some (worthV l sl c i) ∧ ∀ a b, a < (c : Int) → f' a b = B.f a b

section
variable {l : List (List Int)} {sl : Nat} {B : Base l sl} {E : Env}

theorem callable_worths : callable Try.prog F.volume_section_worths_1 = true := by
  obtain ⟨_, _, _, _, _, _, _, h⟩ := chkF_ok chk.volume_section_worths_1
  exact h

theorem Steps.worth (hB : B.Ok) (hE : In B E) {k c i : Nat} (hCW : CW l sl k) (hck : c + k + 1 = l.length) (hil : i < deepOf l) {K : St → Prop} {s : St} {d : Nat} {x y : X} {rest : List Ins} {f : Int → Int → Option Int} (hx : evXs s.env [x, y] = some [recV l sl, .agg [I c, I i]]) (hf : cur B s.log f) (hgood : GoodF l sl f)
    (hk : ∀ f', GoodF l sl f' → (∀ a b v, f a b = some v → f' a b = some v) → f' c i = some (worthV l sl c i) → (∀ a b, a < (c : Int) → f' a b = f a b) → Go.Am.Steps E rest K { s.put (some d) (I (worthV l sl c i)) with log := [[.mp f']] }) : Go.Am.Steps E (⟨some d, .callv, [x, y], none⟩ :: rest) K s := by
  refine Step1.raw fun slots ops o i' ro n a w h hcc hs hi' R Q next hn => ?_
  obtain ⟨os, cc⟩ := comp_of hcc
  have hgo : o.guard = none := by
    rcases cc.guard with ⟨_, e⟩ | ⟨j, want, t, _, _, e⟩
    · exact e
    · cases e
  obtain ⟨cl, t, e1, e2, rfl⟩ := opK_callv cc.op
  have hO := opds_of R.1 cc.xs (evXs_ok hx)
  obtain ⟨M1, hM1, hlt1, ⟨g, hg', hM, hC, ⟨n1, n2, n3⟩, hR, hmine⟩, back⟩ := sur_of hE R
  have := cur_inj hg' hf
  subst this
  cases hO with
  | cons o1 o2 =>
    obtain ⟨f', c', ef, hf', hc', _, h2⟩ := ok_func o1
    have hf0 : f' = #[] := Array.eq_empty_of_size_eq_zero (by simpa using hf'.symm)
    subst hf0
    obtain ⟨x0, x1, x2, rfl⟩ : ∃ x0 x1 x2, c' = #[x0, x1, x2] := by
      obtain ⟨c'⟩ := c'
      match c', hc' with
      | [x0, x1, x2], _ => exact ⟨x0, x1, x2, rfl⟩
    have r0 := h2 0 _ x0 rfl rfl
    have r1 := h2 1 _ x1 rfl rfl
    have r2 := h2 2 _ x2 rfl rfl
    have q0 : x0 = ptrV B.kb := (tok_of (k := 1) hE R ⟨r0, grow_plain (σ := s.fs) rfl (fun _ _ _ e => (by cases e))⟩).2.1 rfl
    have q2 : x2 = ptrV B.wb := (tok_of (k := 2) hE R ⟨r2, grow_plain (σ := s.fs) rfl (fun _ _ _ e => (by cases e))⟩).2.2 rfl
    subst q0 q2
    have q1 : RepD w h.φ (.vptr (secC l sl) 0) x1 := by
      cases r1 with
      | data r => exact r
    obtain ⟨u, hu, o3⟩ : ∃ u, cl.args.toList = [u] ∧ Ok s.fs h w (.agg [I c, I i]) (a.eval u) := by
      cases hl : cl.args.toList with
      | nil => rw [hl] at o2; cases o2
      | cons u r =>
        rw [hl] at o2
        cases o2 with
        | cons o3 o4 => cases o4; exact ⟨u, rfl, o3⟩
    have hargs : cl.args.map a.eval = #[.agg #[.int .i64 c, .int .i64 i]] := by
      rw [← Array.toList_inj, Array.toList_map, hu]
      simp only [List.map_cons, List.map_nil, pair_of o3]
    have hrun := run_callv (E := E) (o := o) (a := a) (w := w) (by rw [hE.P]; exact callable_worths) e2 e1 ef
    rw [hargs] at hrun
    unfold wpOpIn
    simp only [hi', wanted_none hgo, if_true, Oper.wpIn]
    refine ⟨fun _ _ => trivial, ?_⟩
    rw [Oper.semAt_eq _ _ _ (opK_defer cc.op), hrun]
    simp only [Oper.uponIn]
    refine ⟨fun e => by simp [wideR, Fence.wide] at e, ?_⟩
    have ext0 := hR.ext hB.z hB.top
    have hcall := hCW c i hck hil { w := w, φ := h.φ, f := g, mb := B.mb, kb := B.kb, wb := B.wb, sx := x1, sy := B.sy } ⟨R.1.top, hR.z, Nat.lt_of_lt_of_le hB.m hR.size, Nat.lt_of_lt_of_le hB.k hR.size, Nat.lt_of_lt_of_le hB.wl hR.size, q1, hB.rep'.mono ext0⟩ hM hC hgood
    rw [← hE.P] at hcall
    refine (callsIn_wideR hcall).mono ?_
    rintro e w' ⟨φ', f', rfl, hM', hX, hG', hext, hci, hcols⟩
    obtain ⟨ne1, ne2⟩ := hC.ne hM
    have ext := hX.ext hR.z R.1.top
    have own : ∀ b, M1 b → w'.heap[b]? = w.heap[b]? ∧ φ' b = h.φ b := fun b hb => hX.blk b (hlt1 b hb) (fun e => n1 (e ▸ hb))
    have sur' := back [[.mp f']] s.stp w' φ' ⟨_, .inr rfl, hM', hC.keep (hX.blk _ (Nat.lt_of_lt_of_le hB.k hR.size) ne1).1 (hX.blk _ (Nat.lt_of_lt_of_le hB.wl hR.size) ne2).1, ⟨n1, n2, n3⟩, hR.trans hX, hmine⟩ ext own hX.size hX.top hX.os hX.tape hX.output
    have R' := rel_round R.1 ext (fun b hb => own b (hM1 b hb)) hX.size hX.top sur'
    refine hn _ _ _ { h with φ := φ' } (hk f' hG' hext hci hcols) ⟨?_, R.2⟩ rfl
    have hd : o.dst = some d := cc.d.symm
    rw [hd]
    have := R'.put (d := d) (v := I (worthV l sl c i)) (x := .int .i64 (worthV l sl c i)) (cc.dst d hd) (.data (.int _ _)) (grow_plain rfl (fun _ _ _ e => (by cases e)))
    rw [← fs_put] at this
    exact this

end

/-! ### The recursion -/
theorem RestX.refl {mb : Nat} {w : World} {φ : Nat → Nat} (hz : φ mb = 0) (htop : ∀ b, w.heap.size ≤ b → φ b = 0) : RestX mb w φ w φ :=
  ⟨fun _ _ _ => ⟨rfl, rfl⟩, hz, Nat.le_refl _, rfl, rfl, rfl, htop⟩

theorem putF_same (f : Int → Int → Option Int) (a b v : Int) : putF f a b v a b = some v := by simp [putF]
theorem putF_other {f : Int → Int → Option Int} {a b v x y : Int} (h : ¬ (x = a ∧ y = b)) : putF f a b v x y = f x y := by
  unfold putF
  rw [if_neg]
  simpa using h

theorem GoodF.put {l : List (List Int)} {sl c i : Nat} {f : Int → Int → Option Int} (h : GoodF l sl f) (hc : c < l.length) (hi : i < deepOf l) (hq : ∀ q ∈ nextN l.length (deepOf l) sl c i, (f ((c + 1 : Nat) : Int) q).isSome = true) : GoodF l sl (putF f c i (worthV l sl c i)) := by
  have some_put : ∀ x y : Int, (f x y).isSome = true → (putF f c i (worthV l sl c i) x y).isSome = true := fun x y hx => by
    by_cases h1 : x = (c : Int) ∧ y = (i : Int)
    · obtain ⟨rfl, rfl⟩ := h1; rw [putF_same]; rfl
    · rw [putF_other h1]; exact hx
  refine ⟨fun a b v hv => ?_, fun c' i' hs q hq' => ?_⟩
  · by_cases h1 : a = (c : Int) ∧ b = (i : Int)
    · obtain ⟨rfl, rfl⟩ := h1
      rw [putF_same] at hv
      cases hv
      exact ⟨c, i, rfl, rfl, hc, hi, rfl⟩
    · rw [putF_other h1] at hv
      exact h.1 a b v hv
  · by_cases h1 : (c' : Int) = (c : Int) ∧ (i' : Int) = (i : Int)
    · have e1 : c' = c := by omega
      have e2 : i' = i := by omega
      subst e1 e2
      exact some_put _ _ (hq q hq')
    · rw [putF_other h1] at hs
      exact some_put _ _ (h.2 c' i' hs q hq')

theorem bestG_nil : bestG [] = (false, 0) := rfl

/-- What the frame of one call comes to. -/
def KW (l : List (List Int)) (sl c i : Nat) (B : Base l sl) (s : St) : Prop := ∃ f', cur B s.log f' ∧ GoodF l sl f' ∧ (∀ a b v, B.f a b = some v → f' a b = some v) ∧ f' c i = some (worthV l sl c i) ∧ ∀ a b, a < (c : Int) → f' a b = B.f a b

theorem In.inner {l : List (List Int)} {sl : Nat} {B : Base l sl} {E : Env} (hE : In B E) {cc : LC} {S2 : Sur} (h : SurIn E.S S2) : In B (E.inner cc S2 h.ok) := ⟨hE.P, h.sub.trans hE.sub, hE.lk⟩

set_option maxHeartbeats 2000000 in
theorem cw_step {l : List (List Int)} {sl k : Nat} (hl : secOk l = true) (hsl : sl ≤ 32) (ih : ∀ k', k' + 1 = k → CW l sl k') : CW l sl k := by
  intro c i hck hil B hB hM hC hG
  obtain ⟨hev, hn, hd, hnum⟩ := secOk_spec hl
  obtain ⟨fn, code, h1, h2, h3, h4, h5, _⟩ := chkF_ok chk.volume_section_worths_1
  have hcl : c < l.length := by omega
  have hlc : l[c].length = deepOf l := evenL_spec hev hcl
  have hilc : i < l[c].length := by omega
  have bl := numsOk_spec hnum hcl hilc
  have hyl : ∀ l', some (enc3 B.mb B.kb B.wb) = some l' → Go.Am.Yields Try.prog (SW B) [] l' ∧ l' = enc3 B.mb B.kb B.wb := fun l' e => by
    cases e
    refine ⟨fun log x M w φ xs hp => ?_, rfl⟩
    have := hp.length_le
    simp at this
  obtain ⟨r0, r1, r2⟩ := tok_rep (B := B) (w := B.w) (φ := B.φ) (β := fun _ => none) (y := some (enc3 B.mb B.kb B.wb)) rfl rfl
  refine (calls_body (E := { P := Try.prog, nt := 52, S := SW B, ys := [], pin := [], ok := SW_ok hB, mixed := mixed, lk := fun k => k = enc3 B.mb B.kb B.wb }) (φ := B.φ) (y := some (enc3 B.mb B.kb B.wb)) (args := [.agg [I c, I i], .tok 1, .vptr (secC l sl) 0, .tok 2]) h1 h2 h4 h3 (by simp) rfl ?_ ?_ hB.top hyl (r := I (worthV l sl c i)) (K := KW l sl c i B) ?_).mono ?_
  · intro j v x hv hx
    match j with
    | 0 =>
      cases hv; cases hx
      have rd : RepD B.w B.φ (.agg [I c, I i]) (.agg #[.int .i64 c, .int .i64 i]) := .agg _ _ rfl fun j v x h1 h2 => by
        match j with
        | 0 => cases h1; cases h2; exact .int _ _
        | 1 => cases h1; cases h2; exact .int _ _
        | j + 2 => simp at h1
      exact ⟨.data rd, fun σ h => GrowV.of_data rd⟩
    | 1 => cases hv; cases hx; exact ⟨r1, fun σ h => grow_plain rfl (fun _ _ _ e => (by cases e))⟩
    | 2 => cases hv; cases hx; exact ⟨.data hB.rep, fun σ h => GrowV.of_data hB.rep⟩
    | 3 => cases hv; cases hx; exact ⟨r2, fun σ h => grow_plain rfl (fun _ _ _ e => (by cases e))⟩
    | j + 4 => simp at hv
  · exact ⟨B.f, .inl ⟨rfl, rfl⟩, hM, hC, ⟨fun h => h, fun h => h, fun h => h⟩, RestX.refl hB.z hB.top, fun b hb => hb.elim⟩
  rotate_left
  · rintro e w' ⟨s', h', x, rfl, hr, ⟨f, hf, hM', hC', _, hR, _⟩, ht, ⟨f', hf', hG', hx1, hx2, hx3⟩⟩
    have := cur_inj hf hf'
    subst this
    have hx : x = .int .i64 (worthV l sl c i) := by cases hr with | data r => cases r; rfl
    exact ⟨h'.φ, f, by rw [hx], hM', hR, hG', hx1, hx2, hx3⟩
  rw [h5]
  obtain ⟨E, hEq⟩ : ∃ E : Env, E = { P := Try.prog, nt := 52, S := SW B, ys := [], pin := [], ok := SW_ok hB, mixed := mixed, lk := fun k => k = enc3 B.mb B.kb B.wb } := ⟨_, rfl⟩
  have hE : In B { P := Try.prog, nt := 52, S := SW B, ys := [], pin := [], ok := SW_ok hB, mixed := mixed, lk := fun k => k = enc3 B.mb B.kb B.wb } := ⟨rfl, Sub.refl _, fun k hk => hk⟩
  refine Tr.seqR rfl (by simp) ?_
  refine Tr.seq (Tr.seq (Tr.reg (Steps.ldtok hB hE 1 (.tok 0) rfl (.inl ⟨rfl, rfl⟩) (Steps.run rfl (by simp) ?_))))
  refine Steps.look (f := B.f) (a' := c) (b' := i) hE rfl (.inl ⟨rfl, rfl⟩) (by unfold inI; omega) (by unfold inI; omega) ?_
  refine Steps.fin rfl (by simp) (Tr.seqR rfl (by simp) (Tr.cond rfl rfl (fun e1 => Tr.seqR rfl (by simp) (Tr.retX rfl rfl rfl ?_ ?_)) (fun e1 => Tr.skip ?_)))
  · have e1 : (B.f c i).isSome = true := e1
    obtain ⟨v, hv⟩ := Option.isSome_iff_exists.1 e1
    obtain ⟨c', i', e2, e3, _, _, rfl⟩ := hG.1 _ _ _ hv
    have e2 : c = c' := by omega
    have e3 : i = i' := by omega
    subst e2 e3
    simp [packR, hv]
  · have e1 : (B.f c i).isSome = true := e1
    obtain ⟨v, hv⟩ := Option.isSome_iff_exists.1 e1
    obtain ⟨c', i', e2, e3, _, _, rfl⟩ := hG.1 _ _ _ hv
    have e2 : c = c' := by omega
    have e3 : i = i' := by omega
    subst e2 e3
    exact ⟨B.f, .inl ⟨rfl, rfl⟩, hG, fun _ _ _ h => h, hv, fun _ _ _ => rfl⟩
  have hnone : B.f c i = none := by
    have e1 : (B.f c i).isSome = false := e1
    simpa using e1
  refine Tr.seqR rfl (by simp) ?_
  refine Tr.seq (Tr.seqC rfl (by simp) (Steps.call rfl rfl (c_next l sl c i) (Steps.fin rfl (by simp) (Tr.block ?_))))
  refine Tr.weak (s' := { env := [(22, .func (.func F.volume_section_next_1) [] [.vptr [I c, I i] 0, .vptr (secC l sl) 0]), (1, .tok 1), (2, .vptr (secC l sl) 0), (3, .tok 2), (4, .ptr 4 0), (8, .ptr 8 0), (9, .ptr 9 0)], bx := [(4, ⟨[I c, I i], false⟩), (8, ⟨[I 0], false⟩), (9, ⟨[.bool false], false⟩)], rw := [], log := [], stp := false })
    (Wk.le (.cons rfl (.refl _) (.cons rfl (.refl _) (.cons rfl (.refl _) (.cons rfl (.refl _) (.cons rfl (.refl _) (.cons rfl (.refl _) (.cons rfl (.refl _) .nil))))))) (.cons rfl (LLe.refl _) (.cons rfl (LLe.refl _) (.cons rfl (LLe.refl _) .nil))) .nil rfl rfl) ?_
  refine Tr.range rfl rfl (i_next l sl c i hn.2 hd hsl hcl hil) rfl rfl rfl (by intro x hx; obtain ⟨q, _, rfl⟩ := List.mem_map.1 hx; rfl)
    (fun pre t => ∃ m f, m ≤ (nextN l.length (deepOf l) sl c i).length ∧ pre = ((nextN l.length (deepOf l) sl c i).take m).map (spotV c) ∧ (cur B t.log f ∧ GoodF l sl f ∧ (∀ a b v, B.f a b = some v → f a b = some v) ∧ (∀ q ∈ (nextN l.length (deepOf l) sl c i).take m, (f ((c + 1 : Nat) : Int) q).isSome = true) ∧ ∀ a b, a < ((c + 1 : Nat) : Int) → f a b = B.f a b) ∧
      t.bx = [(4, ⟨[I c, I i], false⟩), (8, ⟨[I (bestG (((nextN l.length (deepOf l) sl c i).take m).map (worthV l sl (c + 1)))).2], false⟩), (9, ⟨[.bool (bestG (((nextN l.length (deepOf l) sl c i).take m).map (worthV l sl (c + 1)))).1], false⟩)] ∧ t.rw = [])
    (fun _ _ => False) ⟨0, B.f, by omega, rfl, ⟨.inl ⟨rfl, rfl⟩, hG, fun _ _ _ h => h, fun q hq => by simp at hq, fun _ _ _ => rfl⟩, by simp [bestG], rfl⟩ ?_ ?_ ?_
  · rintro a0 L0 rc0 h0 S1 S2 ok1 ok2 pre x t lp hpre ⟨m, f, hm, rfl, ⟨hf, hGf, hext, hhas, hcols⟩, hbx, hrw⟩ henv hstp
    obtain ⟨env, bx, rw, log, stp⟩ := t
    simp only at hbx hrw hf henv hstp
    subst hbx hrw henv hstp
    have hmx : m < (nextN l.length (deepOf l) sl c i).length ∧ ∃ q, (nextN l.length (deepOf l) sl c i)[m]? = some q ∧ x = spotV c q := by
      have h1 : (((nextN l.length (deepOf l) sl c i).take m).map (spotV c)).length = m := by simp; omega
      have h2 := hpre.length_le
      simp at h2
      have hml : m < (nextN l.length (deepOf l) sl c i).length := by omega
      refine ⟨hml, _, List.getElem?_eq_getElem hml, ?_⟩
      have h3 := List.IsPrefix.getElem hpre (i := m) (by simp; omega)
      simp only [List.getElem_map] at h3
      rw [List.getElem_append_right (by omega)] at h3
      simpa using h3
    obtain ⟨hml, q, hq, rfl⟩ := hmx
    obtain ⟨hcn, hqd⟩ := nextN_lt hd.1 (List.mem_of_getElem? hq)
    obtain ⟨k', rfl⟩ : ∃ k', k = k' + 1 := ⟨k - 1, by omega⟩
    have htk : (nextN l.length (deepOf l) sl c i).take (m + 1) = (nextN l.length (deepOf l) sl c i).take m ++ [q] := by rw [List.take_add_one, hq]; rfl
    refine Tr.regR rfl (by simp) (Tr.block ?_)
    refine Tr.seq (Tr.reg (Steps.ldtok hB (hE.inner ok2) 2 (recV l sl) rfl (.inr ⟨rfl, rfl⟩) (Steps.run rfl (by simp) ?_)))
    refine Steps.worth (k := k') (c := c + 1) (i := q) (f := f) hB (hE.inner ok2) (ih k' rfl) (by omega) hqd rfl hf hGf (fun f' hG' hx1 hx2 hx3 => ?_)
    have h1f : f' ((c + 1 : Nat) : Int) q = some (worthV l sl (c + 1) q) := hx2
    have hhas' : ∀ q' ∈ (nextN l.length (deepOf l) sl c i).take (m + 1), (f' ((c + 1 : Nat) : Int) q').isSome = true := fun q' hq' => by
      rw [htk] at hq'
      rcases List.mem_append.1 hq' with h | h
      · obtain ⟨v, hv⟩ := Option.isSome_iff_exists.1 (hhas q' h)
        rw [hx1 _ _ _ hv]; rfl
      · simp at h; subst h; rw [h1f]; rfl
    have hbest : bestG (((nextN l.length (deepOf l) sl c i).take (m + 1)).map (worthV l sl (c + 1))) = stepW (bestG (((nextN l.length (deepOf l) sl c i).take m).map (worthV l sl (c + 1)))) (worthV l sl (c + 1) q) := by
      rw [htk]; simp [bestG]
    generalize bestG (((nextN l.length (deepOf l) sl c i).take m).map (worthV l sl (c + 1))) = bs at hbest ⊢
    obtain ⟨is, best⟩ := bs
    refine Steps.fin rfl (by simp) (Tr.seqR rfl (by simp) (Tr.cond rfl rfl (fun e2 => ?_) (fun e2 => ?_)))
    · have e2 : (bif !is then true else decide (worthV l sl (c + 1) q > best)) = true := e2
      refine Tr.regR rfl (by simp) ?_
      refine ⟨{ env := [], bx := [(4, ⟨[I c, I i], false⟩), (8, ⟨[I (worthV l sl (c + 1) q)], false⟩), (9, ⟨[.bool true], false⟩)], rw := [], log := [[.mp f']], stp := false }, ?_, ⟨m + 1, f', by omega, ?_, ⟨.inr rfl, hG', fun a b v hv => hx1 _ _ _ (hext _ _ _ hv), hhas', fun a b hab => (hx3 a b hab).trans (hcols a b hab)⟩, ?_, rfl⟩, rfl⟩
      · exact Wk.leL .nil (.cons rfl (LLe.refl _) (.cons rfl (LLe.refl _) (.cons rfl (LLe.refl _) .nil))) .nil rfl rfl rfl
      · rw [htk]; simp
      · rw [hbest]
        have : stepW (is, best) (worthV l sl (c + 1) q) = (true, worthV l sl (c + 1) q) := by
          unfold stepW
          rw [if_pos]
          cases is <;> simp at e2 ⊢; exact e2
        rw [this]
    · have e2 : (bif !is then true else decide (worthV l sl (c + 1) q > best)) = false := e2
      refine Tr.skip ?_
      refine ⟨{ env := [], bx := [(4, ⟨[I c, I i], false⟩), (8, ⟨[I best], false⟩), (9, ⟨[.bool is], false⟩)], rw := [], log := [[.mp f']], stp := false }, ?_, ⟨m + 1, f', by omega, ?_, ⟨.inr rfl, hG', fun a b v hv => hx1 _ _ _ (hext _ _ _ hv), hhas', fun a b hab => (hx3 a b hab).trans (hcols a b hab)⟩, ?_, rfl⟩, rfl⟩
      · exact Wk.leL .nil (.cons rfl (LLe.refl _) (.cons rfl (LLe.refl _) (.cons rfl (LLe.refl _) .nil))) .nil rfl rfl rfl
      · rw [htk]; simp
      · rw [hbest]
        have : stepW (is, best) (worthV l sl (c + 1) q) = (is, best) := by
          unfold stepW
          rw [if_neg]
          cases is <;> simp at e2 ⊢; omega
        rw [this]
  · rintro ⟨env, bx, rw, log, stp⟩ henv hstp ⟨m, f, hm, hpre, ⟨hf, hGf, hext, hhas, hcols⟩, hbx, hrw⟩
    simp only at hbx hrw hf henv hstp
    subst hbx hrw henv hstp
    have hml : m = (nextN l.length (deepOf l) sl c i).length := by
      have := congrArg List.length hpre
      simp at this; omega
    subst hml
    rw [List.take_length] at hhas ⊢
    have hval := worthV_eq (sl := sl) (i := i) hcl
    rw [at2_eq hcl hilc] at hval
    generalize bestG ((nextN l.length (deepOf l) sl c i).map (worthV l sl (c + 1))) = bs at hval ⊢
    obtain ⟨is, best⟩ := bs
    have bw := worthV_bd (sl := sl) hnum hn c i
    have hfn : f c i = none := by rw [hcols _ _ (by omega)]; exact hnone
    refine Tr.seq (Tr.drawK (TraceK.ldtok hB hE 1 (.tok 0) rfl (.inl ⟨rfl, rfl⟩) (TraceK.runN 6 rfl (by simp; exact hcl) ?_)))
    rw [getD_map hcl]
    refine TraceK.runN 4 rfl (by simp; exact hilc) ?_
    rw [getD_map hilc]
    have hw : IntKind.i64.wrap (l[c][i] + best) = worthV l sl c i := by rw [w64 (by omega) (by omega), hval]
    refine TraceK.run rfl (by simp) (.done ⟨by kernel_rfl, by kernel_rfl, ?_⟩)
    refine Steps.put (f := f) (a' := c) (b' := i) (v := worthV l sl c i) hE (hw ▸ rfl) hf (by unfold inI; omega) (by unfold inI; omega) (by unfold inI; omega) (mem_grid hcl hil) hfn ?_
    have hG' := hGf.put (sl := sl) hcl hil hhas
    have hcur : cur B [[.mp (putF f c i (worthV l sl c i))]] (putF f c i (worthV l sl c i)) := .inr rfl
    refine Steps.fin rfl (by simp) (Tr.seq (Tr.reg (Steps.ldtok hB hE 1 (.tok 0) rfl (.inl ⟨rfl, rfl⟩) (Steps.run rfl (by simp) ?_))))
    refine Steps.look (f := putF f c i (worthV l sl c i)) (a' := c) (b' := i) hE rfl hcur (by unfold inI; omega) (by unfold inI; omega) ?_
    refine Steps.fin rfl (by simp) (Tr.retX rfl rfl rfl ?_ ?_)
    · simp [packR, putF_same]
    · refine ⟨_, hcur, hG', fun a b v hv => ?_, putF_same _ _ _ _, fun a b hab => ?_⟩
      · by_cases h1 : a = (c : Int) ∧ b = (i : Int)
        · obtain ⟨rfl, rfl⟩ := h1; rw [hnone] at hv; cases hv
        · rw [putF_other h1]; exact hext _ _ _ hv
      · rw [putF_other (by omega)]; exact hcols _ _ (by omega)
  · rintro _ _ _ h; exact h.elim

theorem cw_all {l : List (List Int)} {sl : Nat} (hl : secOk l = true) (hsl : sl ≤ 32) : ∀ k, CW l sl k
  | 0 => cw_step hl hsl fun k' h => by omega
  | k + 1 => cw_step hl hsl fun k' h => by
    have : k' = k := by omega
    subst this; exact cw_all hl hsl k'

end Go.Proofs.Ytecggpjpckicgaa

/-! What a horizon is worth: the function that makes the map. -/
set_option linter.unusedVariables false
set_option linter.unusedSimpArgs false
set_option maxRecDepth 20000
namespace Go.Proofs.Ytecggpjpckicgaa
open Go.Am Go.RowKit

attribute [local simp] cells scalar mkv splice under2 under dem dem1 secC secV intsV

/-! ### A frame that makes a map -/
def SM (E : Env) (mb : Nat) (g : List (Int × Int)) : Sur := fun log stp M w φ =>
  (∃ f, log = [[.mp f]] ∧ MapW w mb g f) ∧ ¬ M mb ∧ φ mb = 0 ∧ mb < w.heap.size ∧ E.S [] stp (fun b => M b ∨ b = mb) w φ

theorem SM_ok {E : Env} {mb : Nat} {g : List (Int × Int)} : (SM E mb g).ok := by
  intro log s M w φ M' w' φ' ⟨⟨f, h1, h2⟩, h3, h4, h5, h6⟩ mv
  obtain ⟨k1, k2⟩ := mv.old mb h5 h3
  refine ⟨⟨f, h1, h2.block k1⟩, fun h => ?_, k2.trans h4, Nat.lt_of_lt_of_le h5 mv.size, E.ok _ _ _ _ _ _ _ _ h6 ?_⟩
  · rcases mv.mine mb h with h | h
    · exact h3 h
    · omega
  · exact ⟨mv.ext, fun b hb hn => mv.old b hb fun h => hn (.inl h), mv.size, mv.os, mv.tape, mv.output, fun b hb => by
      rcases hb with hb | rfl
      · rcases mv.mine b hb with h | h
        · exact .inl (.inl h)
        · exact .inr h
      · exact .inl (.inr rfl), mv.top⟩

abbrev mapE (E : Env) (mb : Nat) (g : List (Int × Int)) : Env := { P := E.P, nt := E.nt, S := SM E mb g, ys := [], pin := [], ok := SM_ok, mixed := E.mixed, lk := fun k => k = enc3 mb 0 0 }

/-- At the end the map is data. -/
def QM (Q : Exit → St → Prop) : Exit → St → Prop := fun e s => ∃ f d, s.log = [[.mp f]] ∧ Go.Am.get s.env d = some (.tok 0) ∧ Q e { env := [(d, .mp f)], bx := [], rw := [], log := [], stp := s.stp }

section
variable {E : Env} {s : St} {a : Act} {w : World} {h : Gh} {mb : Nat} {g : List (Int × Int)}

theorem tokM {log : List (List V)} {stp : Bool} {σ σ' : FSt} {x : Value} (R : (mapE E mb g).relF log stp σ a w h) (o : Rep w h.φ h.β h.y.l (.tok 0) x) : x = .map (some mb) := by
  cases o with
  | data r => cases r
  | tok _ l' _ hy hx =>
    obtain ⟨a', b', c', h1, h2⟩ := hx
    have h3 : l' = enc3 mb 0 0 := (R.2.1 l' hy).2
    rw [h1] at h3
    obtain ⟨rfl, rfl, rfl⟩ := enc3_inj h3
    rcases h2 with ⟨_, rfl⟩ | ⟨e, _⟩ | ⟨e, _⟩
    · rfl
    · omega
    · omega

theorem rel_untok {f : Int → Int → Option Int} {d : Nat} (hpin : E.pin = []) (R : (mapE E mb g).rel s a w h) (hl : s.log = [[.mp f]]) (hd : Go.Am.get s.env d = some (.tok 0)) {y : Pin} (hy : E.yok y) :
    E.rel { env := [(d, .mp f)], bx := [], rw := [], log := [], stp := s.stp } a w { φ := fun b => if b = mb then 1 else h.φ b, β := fun _ => none, γ := fun _ => none, M := fun b => h.M b ∨ b = mb, y := y } := by
  obtain ⟨⟨f', h1, h2⟩, h3, h4, h5, h6⟩ := R.1.sur
  have hff : f' = f := by rw [hl] at h1; simpa using h1.symm
  subst hff
  obtain ⟨q1, q2, _⟩ := R.1.env d (.tok 0) (by rw [fs_g]; exact hd)
  have q3 := tokM (σ' := s.fs) R q2
  have rd : RepD w (fun b => if b = mb then 1 else h.φ b) (.mp f') (.map (some mb)) := by
    obtain ⟨es, c, m1, _, _, _, m2, _⟩ := h2
    refine .mp f' mb c es (by simp) ?_ m2
    unfold mapAt; rw [m1]
  have ext : Ext w h.φ w (fun b => if b = mb then 1 else h.φ b) := fun b o ho => by
    refine ⟨?_, rfl, rfl⟩
    by_cases e : b = mb
    · rw [e, h4] at ho; omega
    · simp [e, ho]
  refine ⟨?_, hy⟩
  exact {
    size := R.1.size
    env := fun t v hv => by
      rw [fs_g] at hv
      have hm := get_mem _ _ _ hv
      simp only [List.mem_singleton, Prod.mk.injEq] at hm
      obtain ⟨rfl, rfl⟩ := hm
      rw [q3]
      exact ⟨q1, .data rd, GrowV.of_data rd⟩
    bx := fun i bo hb => by rw [fs_b] at hb; cases hb
    dom := fun _ _ h => ((by cases h))
    inj := fun _ _ _ h => ((by cases h))
    rows := fun r n sz e hr => by rw [fs_r] at hr; cases hr
    rdom := fun _ _ h => ((by cases h))
    rinj := fun _ _ _ h => ((by cases h))
    apart := fun _ _ _ h => ((by cases h))
    pins := fun i blk hb => by
      have := hy.2 i (by rw [hb]; rfl)
      rw [hpin] at this; cases this
    mine := fun b hb => by
      rcases hb with hb | rfl
      · exact R.1.mine b hb
      · exact h5
    top := fun b hb => by
      have : b ≠ mb := by omega
      simp [this, R.1.top b hb]
    marks := R.1.marks.congr fun r hM hh => ⟨.inl hM, hh⟩
    sur := E.ok _ _ _ _ _ _ _ _ h6 ⟨ext, fun b hb hn => ⟨rfl, if_neg fun e => hn (.inr e)⟩, Nat.le_refl _, rfl, rfl, rfl, fun b hb => .inl hb, fun b hb => by
      have : b ≠ mb := by omega
      simp [this, R.1.top b hb]⟩ }

/-- Values that name nothing of the frame's but its boxes. -/
def plainV : V → Bool
  | .int _ _ => true
  | .bool _ => true
  | .nilm => true
  | .nilf => true
  | .nils => true
  | .ptr _ _ => true
  | .slice 0 _ _ => true
  | _ => false

theorem rep_plain {φ : Nat → Nat} {β : Nat → Option Nat} {y y' : Option Nat} {v : V} {x : Value} (hp : plainV v = true) (r : Rep w φ β y v x) : Rep w φ β y' v x := by
  cases r with
  | data r => exact .data r
  | ptr b off blk hb => exact .ptr b off blk hb
  | _ => cases hp

theorem rel_tok {s : St} (hpl : s.env.all (fun p => plainV p.2) = true) (hbl : s.bx.all (fun p => p.2.cs.all plainV) = true) (hrw : s.rw = []) (hlog : s.log = []) (hg : g.length ≤ 100000) (R : E.rel s a w h) (hpin : E.pin = []) :
    (mapE E w.heap.size g).rel { s with log := [[.mp fun _ _ => none]] } a (w.alloc (.map #[] 0)) { h with y := ⟨some (enc3 w.heap.size 0 0), h.y.p⟩ } := by
  have R1 := R.1.alloc E.ok (.map #[] 0)
  have hnew := World.alloc_heap_new w (.map #[] 0)
  have hne : ∀ b, b < w.heap.size → (w.alloc (.map #[] 0)).heap[b]? = w.heap[b]? := fun b hb => Below.heap_alloc w _ b hb
  have hM : ¬ h.M w.heap.size := fun hm => by have := R.1.mine _ hm; omega
  rw [List.all_eq_true] at hpl hbl
  refine ⟨?_, ⟨fun l hl => ?_, fun i hi => ?_⟩⟩
  · exact {
      size := R1.size
      env := fun t v hv => by
        obtain ⟨p1, p2, p3⟩ := R1.env t v hv
        rw [fs_g] at hv
        have hp := hpl _ (get_mem _ _ _ hv)
        exact ⟨p1, rep_plain hp p2, fun j u z hu hz r sz xs e => by
          subst e
          have : plainV v = true := hp
          cases v <;> simp [plainV] at this <;> simp [cells] at hu <;> (try (cases j <;> simp at hu))
          all_goals (try (obtain ⟨rfl, _⟩ := hu))
          all_goals (first | (subst hu; simp [plainV] at this) | (simp at this)) ⟩
      bx := fun i bo hb => by
        obtain ⟨blk, cs, e, b1, b2, b3, b4, b5, b6⟩ := R1.bx i bo hb
        rw [fs_b] at hb
        have hp := hbl _ (get_mem _ _ _ hb)
        rw [List.all_eq_true] at hp
        refine ⟨blk, cs, e, b1, ?_, b3, b4, fun j v x hv hx => ?_, b6⟩
        · rcases b2 with b2 | rfl
          · exact b2
          · rw [hnew] at b3; cases b3
        · obtain ⟨c1, c2, c3⟩ := b5 j v x hv hx
          exact ⟨rep_plain (hp v (List.mem_of_getElem? hv)) c1, fun r sz xs e => c2 r sz xs e, c3⟩
      dom := R1.dom
      inj := R1.inj
      rows := fun r n sz e hr => by rw [fs_r] at hr; simp only [hrw] at hr; cases hr
      rdom := fun r blk hb => R1.rdom r blk hb
      rinj := R1.rinj
      apart := R1.apart
      pins := R1.pins
      mine := fun b hb => by have := R.1.mine b hb; simp; omega
      top := R1.top
      marks := R.1.marks.congr fun r hMr hh => ⟨hMr, (hne r (R.1.mine r hMr)).trans hh⟩
      sur := by
        refine ⟨⟨_, rfl, MapW.made hg hnew⟩, hM, R.1.top _ (Nat.le_refl _), by simp, ?_⟩
        have := R1.sur
        rw [hlog] at this
        exact this }
  · cases hl
    refine ⟨fun log x M w φ xs hp => ?_, rfl⟩
    have := hp.length_le
    simp at this
  · have := R.2.2 i hi
    rw [hpin] at this; cases this

theorem opK_mkmap {P : Program} {o : Oper} {os : List Operand} (hk : opK P o.op = some (.mkmap, os)) : ∃ t, o.op = .makeMap t none := by
  cases ho : o.op <;> rw [ho] at hk <;> simp only [opK] at hk <;> (try (cases hk; done)) <;> (try (repeat' (split at hk <;> (try (cases hk; done)))))
  all_goals first
    | (simp only [Option.map_eq_some_iff, Prod.mk.injEq] at hk; obtain ⟨_, _, h1, _⟩ := hk; cases h1; done)
    | (simp only [eqKind] at hk; repeat' (split at hk <;> (try (cases hk; done))))
    | (exact ⟨_, rfl⟩)

/-- **A MAP IS MADE**, and held on to till the end. -/
theorem Tr.mkmap {Q : Exit → St → Prop} {d : Nat} {rest : List Ins} {y : IC} (g : List (Int × Int)) (hg : g.length ≤ 100000) (hpl : s.env.all (fun p => plainV p.2) = true) (hbl : s.bx.all (fun p => p.2.cs.all plainV) = true) (hrw : s.rw = []) (hlog : s.log = []) (hpin : E.pin = [])
    (k : ∀ mb, Go.Am.Steps (mapE E mb g) rest (Tr (mapE E mb g) none y (QM Q)) { s.put (some d) (.tok 0) with log := [[.mp fun _ _ => none]] }) : Tr E none (.seq (.reg (⟨some d, .mkmap, [], none⟩ :: rest)) y) Q s := fun c hc n a w h R Q' hq => by
  obtain ⟨ca, cb, rfl, h1, h2⟩ := compC_inv hc
  obtain ⟨id, ops, rfl, h3⟩ := compC_inv h1
  obtain ⟨hl, hgt⟩ := compR_spec h3
  refine wpIn_seq (wpIn_region ?_)
  rw [List.range_eq_range']
  have hsz : ops.size = rest.length + 1 := by simpa using hl.symm
  rw [hsz, List.range'_succ, wpOpsIn_cons]
  obtain ⟨ins, e1, e2⟩ := hgt 0 ops[0] (Array.getElem?_eq_getElem (by omega))
  simp at e1
  subst e1
  obtain ⟨os, cc⟩ := comp_of e2
  have hgo : ops[0].guard = none := by
    rcases cc.guard with ⟨_, e⟩ | ⟨j, want, t, _, _, e⟩
    · exact e
    · cases e
  obtain ⟨t, e3⟩ := opK_mkmap cc.op
  have hex : (execOp a.eval ops[0]).run E.P w = .ok (.value (.map (some w.heap.size))) (w.alloc (.map #[] 0)) := by
    simp only [execOp, e3, Sem.run_bind]; rfl
  have R1 := rel_tok (g := g) hpl hbl hrw hlog hg R hpin
  have hd : ops[0].dst = some d := cc.d.symm
  have R2 : (mapE E w.heap.size g).rel { s.put (some d) (.tok 0) with log := [[.mp fun _ _ => none]] } (a.put (some d) (.map (some w.heap.size))) (w.alloc (.map #[] 0)) { h with y := ⟨some (enc3 w.heap.size 0 0), h.y.p⟩ } := by
    refine ⟨?_, R1.2⟩
    have := R1.1.put (d := d) (v := .tok 0) (x := .map (some w.heap.size)) (cc.dst d hd) (.tok 0 _ _ rfl ⟨_, _, _, rfl, .inl ⟨rfl, rfl⟩⟩) (grow_plain rfl (fun _ _ _ e => (by cases e)))
    rw [← fs_put] at this
    exact this
  refine wpOp_done (Array.getElem?_eq_getElem (by omega)) (wanted_none hgo) (opK_defer cc.op) (.inl hex) ?_
  rw [hd]
  refine steps_ok (E := mapE E w.heap.size g) (K := Tr (mapE E w.heap.size g) none y (QM Q)) h3 ⟨some (enc3 w.heap.size 0 0), h.y.p⟩ (fun s' a' w' h' k' R' ey => ?_) rest.length 1 _ _ _ _ (by omega) (by simpa using k w.heap.size) R2 rfl
  refine k' cb h2 n a' w' h' R' _ fun e s'' a'' w'' h'' hQ R'' ey' => ?_
  obtain ⟨f, d', q1, q2, q3⟩ := hQ
  exact hq e _ a'' w'' _ q3 (rel_untok hpin R'' q1 q2 R.2) rfl

end

/-! ### The calls from the function that makes it -/
def recP : V := .func (.func F.volume_section_worths_1) [] [.ptr 3 0, .ptr 1 0, .ptr 4 0]

section
variable {E : Env} {s : St} {l : List (List Int)} {sl : Nat} {mb : Nat}

theorem ptr_block {σ : FSt} {log : List (List V)} {stp : Bool} {a : Act} {w : World} {h : Gh} {E : Env} (R : E.relF log stp σ a w h) {i : Nat} {bo : Box} (hb : σ.b i = some bo) {x : Value} (r : Rep w h.φ h.β h.y.l (.ptr i 0) x) :
    ∃ blk cs e, x = ptrV blk ∧ h.M blk ∧ blk < w.heap.size ∧ w.heap[blk]? = some (.cells cs e (0, 0)) ∧ bo.cs.length ≤ cs.size ∧ (∀ (j : Nat) v x, bo.cs[j]? = some v → cs[j]? = some x → Rep w h.φ h.β h.y.l v x ∧ scalar v = true) ∧ h.φ blk = bif bo.fz then bo.cs.length else 0 := by
  obtain ⟨blk, cs, e, b1, b2, b3, b4, b5, b6⟩ := R.1.bx i bo hb
  refine ⟨blk, cs, e, ?_, b2, R.1.mine _ b2, b3, b4, fun j v x h1 h2 => ⟨(b5 j v x h1 h2).1, (b5 j v x h1 h2).2.2⟩, b6⟩
  cases r with
  | data r => cases r
  | ptr _ _ blk' hb' => rw [b1] at hb'; cases hb'; rfl

theorem Steps.worthTop {k c i : Nat} (hCW : CW l sl k) (hck : c + k + 1 = l.length) (hil : i < deepOf l) (hP : E.P = Try.prog) {K : St → Prop} {d : Nat} {x y : X} {rest : List Ins} {f : Int → Int → Option Int}
    (hx : evXs s.env [x, y] = some [recP, .agg [I c, I i]]) (hb1 : Go.Am.get s.bx 1 = some ⟨secC l sl, true⟩) (hb3 : Go.Am.get s.bx 3 = some ⟨[.tok 0], false⟩) (hb4 : Go.Am.get s.bx 4 = some ⟨[recP], false⟩) (hf : s.log = [[.mp f]]) (hgood : GoodF l sl f)
    (hk : ∀ f', GoodF l sl f' → (∀ a b v, f a b = some v → f' a b = some v) → f' c i = some (worthV l sl c i) → Go.Am.Steps (mapE E mb (gridL l)) rest K { s.put (some d) (I (worthV l sl c i)) with log := [[.mp f']] }) : Go.Am.Steps (mapE E mb (gridL l)) (⟨some d, .callv, [x, y], none⟩ :: rest) K s := by
  refine Step1.raw fun slots ops o i' ro n a w h hcc hs hi' R Q next hn => ?_
  obtain ⟨os, cc⟩ := comp_of hcc
  have hgo : o.guard = none := by
    rcases cc.guard with ⟨_, e⟩ | ⟨j, want, t, _, _, e⟩
    · exact e
    · cases e
  obtain ⟨cl, t, e1, e2, rfl⟩ := opK_callv cc.op
  have hO := opds_of R.1 cc.xs (evXs_ok hx)
  obtain ⟨⟨g, hg', hM⟩, nm, hz, hmb, hS⟩ := R.1.sur
  have : g = f := by rw [hf] at hg'; simpa using hg'.symm
  subst this
  have fb : ∀ {j : Nat} {bo : Box}, Go.Am.get s.bx j = some bo → s.fs.b j = some bo := fun h => by rw [fs_b]; exact h
  cases hO with
  | cons o1 o2 =>
    obtain ⟨f', c', ef, hf', hc', _, h2⟩ := ok_func o1
    have hf0 : f' = #[] := Array.eq_empty_of_size_eq_zero (by simpa using hf'.symm)
    subst hf0
    obtain ⟨x0, x1, x2, rfl⟩ : ∃ x0 x1 x2, c' = #[x0, x1, x2] := by
      obtain ⟨c'⟩ := c'
      match c', hc' with
      | [x0, x1, x2], _ => exact ⟨x0, x1, x2, rfl⟩
    obtain ⟨kb, ck, _, rfl, mk, lk, hk3, sk, rk, _⟩ := ptr_block R (fb hb3) (h2 0 _ x0 rfl rfl)
    obtain ⟨sb, cs, _, rfl, ms, ls, hs1, ss, rs, hφ⟩ := ptr_block R (fb hb1) (h2 1 _ x1 rfl rfl)
    obtain ⟨wb, cw, _, rfl, mw, lw, hw4, sw, rw4, _⟩ := ptr_block R (fb hb4) (h2 2 _ x2 rfl rfl)
    have cellOf : ∀ {b : Nat} {cs : Array Value} {e : TypeId} {z : Value}, w.heap[b]? = some (.cells cs e (0, 0)) → cs[0]? = some z → w.cell? ⟨b, 0, none⟩ = some z := fun h1 h2 => by
      have := cell_of_row w _ 0 _ _ (0, 0) h1
      rw [this]; exact h2
    -- the map's variable
    obtain ⟨z, hcz⟩ : ∃ z, ck[0]? = some z := ⟨_, Array.getElem?_eq_getElem (show 0 < ck.size from sk)⟩
    have hz3 : z = .map (some mb) := tokM (σ' := s.fs) R (rk 0 _ z rfl hcz).1
    subst hz3
    -- the recursion's own variable
    obtain ⟨z, hcw⟩ : ∃ z, cw[0]? = some z := ⟨_, Array.getElem?_eq_getElem (show 0 < cw.size from sw)⟩
    have hz4 : z = .func (.func F.volume_section_worths_1) #[] #[ptrV kb, ptrV sb, ptrV wb] := by
      obtain ⟨f1, c1, ef1, hf1, hc1, _, k2⟩ := ok_func (f := F.volume_section_worths_1) (first := []) (cap := [.ptr 3 0, .ptr 1 0, .ptr 4 0]) (σ := s.fs) (h := h) (w := w) ⟨(rw4 0 _ z rfl hcw).1, grow_plain rfl (fun _ _ _ e => (by cases e))⟩
      have hf0 : f1 = #[] := Array.eq_empty_of_size_eq_zero (by simpa using hf1.symm)
      subst hf0
      obtain ⟨y0, y1, y2, rfl⟩ : ∃ y0 y1 y2, c1 = #[y0, y1, y2] := by
        obtain ⟨c1⟩ := c1
        match c1, hc1 with
        | [y0, y1, y2], _ => exact ⟨y0, y1, y2, rfl⟩
      have same : ∀ {j : Nat} {bo : Box} {u v : Value}, s.fs.b j = some bo → Rep w h.φ h.β h.y.l (.ptr j 0) u → Rep w h.φ h.β h.y.l (.ptr j 0) v → u = v := fun hb r1 r2 => by
        cases r1 with
        | data r => cases r
        | ptr _ _ b1 q1 => cases r2 with
          | data r => cases r
          | ptr _ _ b2 q2 => rw [q1] at q2; cases q2; rfl
      rw [ef1, same (fb hb3) (k2 0 _ y0 rfl rfl) (h2 0 _ _ rfl rfl), same (fb hb1) (k2 1 _ y1 rfl rfl) (h2 1 _ _ rfl rfl), same (fb hb4) (k2 2 _ y2 rfl rfl) (h2 2 _ _ rfl rfl)]
      rfl
    subst hz4
    have rep1 : RepD w h.φ (.vptr (secC l sl) 0) (ptrV sb) := by
      refine .vptr _ 0 sb 0 (fun j => cs.getD j undef) (fun j v hv => ?_) (fun j v hv => ?_)
      · have hj0 := (List.getElem?_eq_some_iff.1 hv).1
        have hj : j < cs.size := by have h2 : (secC l sl).length ≤ cs.size := ss; omega
        refine ⟨by rw [hφ]; simpa using hj0, ?_, (rs j v cs[j] hv (by simp [hj])).2⟩
        rw [cell_of_row w sb (0 + j) cs _ (0, 0) hs1]
        simp [hj]
      · have hj : j < cs.size := by have h1 := (List.getElem?_eq_some_iff.1 hv).1; have h2 : (secC l sl).length ≤ cs.size := ss; omega
        have hr := (rs j v cs[j] hv (by simp [hj])).1
        have e : cs.getD j undef = cs[j] := by simp [hj]
        rw [e]
        have hd : ∃ u, v = I u ∨ v = secV l := by
          match j with
          | 0 => cases hv; exact ⟨_, .inl rfl⟩
          | 1 => cases hv; exact ⟨_, .inl rfl⟩
          | 2 => cases hv; exact ⟨0, .inr rfl⟩
          | 3 => cases hv; exact ⟨_, .inl rfl⟩
          | j + 4 => simp at hv
        obtain ⟨u, rfl | rfl⟩ := hd <;> (cases hr with | data r => exact r)
    obtain ⟨u, hu, o3⟩ : ∃ u, cl.args.toList = [u] ∧ Ok s.fs h w (.agg [I c, I i]) (a.eval u) := by
      cases hl : cl.args.toList with
      | nil => rw [hl] at o2; cases o2
      | cons u r =>
        rw [hl] at o2
        cases o2 with
        | cons o3 o4 => cases o4; exact ⟨u, rfl, o3⟩
    have hargs : cl.args.map a.eval = #[.agg #[.int .i64 c, .int .i64 i]] := by
      rw [← Array.toList_inj, Array.toList_map, hu]
      simp only [List.map_cons, List.map_nil, pair_of o3]
    have hrun := run_callv (E := mapE E mb (gridL l)) (o := o) (a := a) (w := w) (by show callable E.P _ = true; rw [hP]; exact callable_worths) e2 e1 ef
    rw [hargs] at hrun
    unfold wpOpIn
    simp only [hi', wanted_none hgo, if_true, Oper.wpIn]
    refine ⟨fun _ _ => trivial, ?_⟩
    rw [Oper.semAt_eq _ _ _ (opK_defer cc.op), hrun]
    simp only [Oper.uponIn]
    refine ⟨fun e => by simp [wideR, Fence.wide] at e, ?_⟩
    have hcall := hCW c i hck hil { w := w, φ := h.φ, f := g, mb := mb, kb := kb, wb := wb, sx := ptrV sb, sy := ptrV sb } ⟨R.1.top, hz, hmb, lk, lw, rep1, rep1⟩ hM ⟨cellOf hk3 hcz, cellOf hw4 hcw⟩ hgood
    rw [← hP] at hcall
    refine (callsIn_wideR hcall).mono ?_
    rintro e w' ⟨φ', f', rfl, hM', hX, hG', hext, hci, _⟩
    have ext := hX.ext hz R.1.top
    have own : ∀ b, h.M b → w'.heap[b]? = w.heap[b]? ∧ φ' b = h.φ b := fun b hb => hX.blk b (R.1.mine b hb) (fun (e : b = mb) => nm (by rw [← e]; exact hb))
    have sur' : SM E mb (gridL l) [[.mp f']] s.stp h.M w' φ' := by
      refine ⟨⟨f', rfl, hM'⟩, nm, hX.z, Nat.lt_of_lt_of_le hmb hX.size, E.ok _ _ _ _ _ _ _ _ hS ?_⟩
      exact ⟨ext, fun b hb hn => hX.blk b hb fun e => hn (.inr e), hX.size, hX.os, hX.tape, hX.output, fun b hb => .inl hb, hX.top⟩
    have R' := rel_round R.1 ext own hX.size hX.top sur'
    refine hn _ _ _ { h with φ := φ' } (hk f' hG' hext hci) ⟨?_, R.2⟩ rfl
    have hd : o.dst = some d := cc.d.symm
    rw [hd]
    have := R'.put (d := d) (v := I (worthV l sl c i)) (x := .int .i64 (worthV l sl c i)) (cc.dst d hd) (.data (.int _ _)) (grow_plain rfl (fun _ _ _ e => (by cases e)))
    rw [← fs_put] at this
    exact this

end

/-- The map, full. -/
def fW (l : List (List Int)) (sl : Nat) : Int → Int → Option Int := fun a b => if 0 ≤ a ∧ a < l.length ∧ 0 ≤ b ∧ b < deepOf l then some (worthV l sl a.toNat b.toNat) else none

theorem full_of {l : List (List Int)} {sl : Nat} {f : Int → Int → Option Int} (hG : GoodF l sl f) (h0 : ∀ i : Nat, i < deepOf l → (f ((0 : Nat) : Int) i).isSome = true) : f = fW l sl := by
  have all : ∀ c : Nat, c < l.length → ∀ i : Nat, i < deepOf l → (f c i).isSome = true := by
    intro c
    induction c with
    | zero => exact fun _ i hi => h0 i hi
    | succ c ih =>
      intro hc i hi
      refine hG.2 c i (ih (by omega) i hi) i ?_
      unfold nextN
      rw [if_neg (by omega), List.mem_range']
      refine ⟨i - (i - sl), by omega, by omega⟩
  funext a b
  unfold fW
  split
  · rename_i h
    obtain ⟨c, rfl⟩ : ∃ c : Nat, a = c := ⟨a.toNat, by omega⟩
    obtain ⟨i, rfl⟩ : ∃ i : Nat, b = i := ⟨b.toNat, by omega⟩
    obtain ⟨v, hv⟩ := Option.isSome_iff_exists.1 (all c (by omega) i (by omega))
    obtain ⟨c', i', e1, e2, _, _, rfl⟩ := hG.1 _ _ _ hv
    have e1 : c = c' := by omega
    have e2 : i = i' := by omega
    subst e1 e2
    rw [hv]; simp
  · rename_i h
    cases hv : f a b with
    | none => rfl
    | some v =>
      obtain ⟨c, i, rfl, rfl, h1, h2, _⟩ := hG.1 _ _ _ hv
      exact absurd ⟨by omega, by omega, by omega, by omega⟩ h

set_option maxHeartbeats 1000000 in
theorem c_worths {l : List (List Int)} {sl : Nat} (hl : secOk l = true) (hsl : sl ≤ 32) : C Try.prog F.volume_section_worths [.agg (secC l sl)] (.mp (fW l sl)) := by
  obtain ⟨hev, hn, hd, hnum⟩ := secOk_spec hl
  refine C_of mixed chk.volume_section_worths (by simp) fun S ok => ?_
  refine Tr.seqR rfl (by simp) ?_
  refine Tr.weak (s' := { env := [(1, .ptr 1 0)], bx := [(1, ⟨secC l sl, false⟩)], rw := [], log := [], stp := false }) (Wk.le (.cons rfl (.refl _) .nil) (.cons rfl (LLe.refl _) .nil) .nil rfl rfl) ?_
  refine Tr.weak (Wk.shut (i := 1) (cs := secC l sl) (fz := false) rfl) ?_
  refine Tr.mkmap (gridL l) (len_grid hn.2 hd.2) rfl rfl rfl rfl rfl fun mb => ?_
  refine Steps.fin rfl (by simp) ?_
  refine Tr.seqR rfl (by simp) (Tr.seqR rfl (by simp) ?_)
  refine Tr.seq (Tr.seqR rfl (by simp) (Tr.block ?_))
  have hG0 : GoodF l sl (fun _ _ => none) := ⟨fun _ _ _ h => ((by cases h)), fun _ _ h => by cases h⟩
  refine Tr.loop (fun (p : Nat × (Int → Int → Option Int)) s => (p.1 ≤ deepOf l ∧ GoodF l sl p.2 ∧ ∀ i : Nat, i < p.1 → (p.2 ((0 : Nat) : Int) i).isSome = true) ∧ s = { env := [(3, .ptr 3 0), (4, .ptr 4 0), (10, I (deepOf l)), (11, I p.1)], bx := [(1, ⟨secC l sl, true⟩), (3, ⟨[.tok 0], false⟩), (4, ⟨[recP], false⟩)], rw := [], log := [[.mp p.2]], stp := false }) (fun p => deepOf l - p.1) (0, fun _ _ => none)
    (Wk.leL (.cons rfl (.refl _) (.cons rfl (.refl _) (.cons rfl (.refl _) (.cons rfl (.refl _) .nil)))) (.cons rfl (LLe.refl _) (.cons rfl (LLe.refl _) (.cons rfl (LLe.refl _) .nil))) .nil rfl rfl rfl) ⟨⟨by omega, hG0, fun i hi => by omega⟩, rfl⟩ ?_
  rintro ⟨i, f⟩ s ⟨⟨hil, hG, hsome⟩, rfl⟩
  simp only at hil hG hsome
  refine Tr.seqR rfl (by simp) (Tr.seqI rfl (fun h3 => ?_) (fun h3 => ?_))
  rotate_left
  · have h3 : i = deepOf l := by simp at h3; omega
    subst h3
    refine Tr.exit (Tr.seqR rfl (by simp) (Tr.ret ?_))
    have e := full_of hG hsome
    exact ⟨f, 2, rfl, rfl, trivial, _, _, _, resVs_ok rfl, rfl, by rw [e]; rfl⟩
  have h3 : i < deepOf l := by simpa using h3
  refine Tr.skipT (Tr.seq (Tr.block (Tr.seqR rfl (by simp) (Tr.reg (Steps.run rfl (by simp) ?_)))))
  refine Steps.worthTop (k := l.length - 1) (c := 0) (i := i) (f := f) (cw_all hl hsl _) (by omega) h3 rfl rfl rfl rfl rfl rfl hG fun f' hG' hx1 hx2 => ?_
  refine Steps.fin rfl (by simp) (Tr.regR rfl (by simp) ?_)
  refine ⟨(i + 1, f'), _, Wk.leL (.cons rfl (.refl _) (.cons rfl (.refl _) (.cons rfl (.refl _) (.cons rfl (VLe.i (w64 (by omega) (by omega))) .nil)))) (.cons rfl (LLe.refl _) (.cons rfl (LLe.refl _) (.cons rfl (LLe.refl _) .nil))) .nil rfl rfl rfl, ⟨⟨h3, hG', fun j hj => ?_⟩, rfl⟩, by simp only; omega⟩
  simp only at hj ⊢
  by_cases e : j = i
  · subst e; rw [hx2]; rfl
  · obtain ⟨v, hv⟩ := Option.isSome_iff_exists.1 (hsome j (by omega))
    rw [hx1 _ _ _ hv]; rfl

end Go.Proofs.Ytecggpjpckicgaa

/-! The best horizon. -/
set_option linter.unusedVariables false
set_option linter.unusedSimpArgs false
set_option maxRecDepth 20000
namespace Go

theorem stepR_scope' {P : Program} {b : Frame} {a : Act} {k : List Item} {cs : List Frame} {w : World} {c : Code} : step P (lone (b.atR a (.code (.scope c) :: k)) cs w) = .next (lone (b.atR a (.code c :: .inScope c :: k)) cs w) :=
  step_lone_go (by simp [stepG, stepG.exec, Frame.atR])
theorem stepR_inScope' {P : Program} {b : Frame} {a : Act} {k : List Item} {cs : List Frame} {w : World} {c : Code} : step P (lone (b.atR a (.inScope c :: k)) cs w) = .next (lone (b.atR a k) cs w) :=
  step_lone_go (by simp [stepG, stepG.exec, Frame.atR])

theorem wpIn_scope_straight {F : Fence} {n : Nat} {P : Program} {Q : Exit → Act → World → Prop} {a : Act} {w : World} {c : Code} (h : c.wpIn F n P (Exit.noGoto Q) a w) : (Code.scope c).wpIn F n P Q a w := by
  intro b k cs hro hb hr
  have h0 : (lone (b.atR a (.code (.scope c) :: k)) cs w).fenced P F := fenced_calm hb hr rfl
  obtain ⟨e, a₁, w₁, hq, harr⟩ := h b (.inScope c :: k) cs hro hb hr
  cases e with
  | normal => exact ⟨.normal, a₁, w₁, hq, .head h0 stepR_scope' (StepsIn.trans harr (.one (fenced_calm hb hr rfl) stepR_inScope'))⟩
  | exit id =>
    have hx : exitTo id (.inScope c :: k) = exitTo id k := by simp [exitTo]
    exact ⟨.exit id, a₁, w₁, hq, fun k' hk => .head h0 stepR_scope' (harr.1 k' (by rw [hx]; exact hk)),
      fun hr' hk => let ⟨k₁, h1, h2⟩ := harr.2 hr' (by rw [hx]; exact hk); ⟨k₁, h1, .head h0 stepR_scope' h2⟩⟩
  | goto l => exact hq.elim
  | ret => exact ⟨_, a₁, w₁, hq, .of_steps (.one h0 stepR_scope') harr⟩
  | panic ch => exact ⟨_, a₁, w₁, hq, .of_steps (.one h0 stepR_scope') harr⟩
  | outgrown => exact ⟨_, a₁, w₁, hq, .of_steps (.one h0 stepR_scope') harr⟩
end Go

namespace Go.Am
/-- What does not jump to a label. -/
def qScope (Q : Exit → St → Prop) : Exit → St → Prop
  | .goto _, _ => False
  | e, s => Q e s

theorem Tr.scope {E : Env} {ro : Option Nat} {Q : Exit → St → Prop} {s : St} {x : IC} (h : Tr E ro x (qScope Q) s) : Tr E ro (.scope x) Q s := fun c hc n a w g R Q' hq => by
  obtain ⟨ca, rfl, h1⟩ := compC_inv hc
  refine wpIn_scope_straight (h ca h1 n a w g R _ fun e s' a' w' h' k R' ey => ?_)
  cases e with
  | goto l => exact k.elim
  | _ => exact hq _ s' a' w' h' k R' ey
end Go.Am

namespace Go.Proofs.Ytecggpjpckicgaa
open Go.Am Go.RowKit

attribute [local simp] cells scalar mkv splice under2 under dem dem1 secC secV intsV

/-! ### The best way -/
def argBest (l : List (List Int)) (sl : Nat) (k : Nat) : Nat := (List.range k).foldl (fun a i => if worthV l sl 0 i > worthV l sl 0 a then i else a) 0
def firstQ (l : List (List Int)) (sl c i : Nat) : Option Nat := (nextN l.length (deepOf l) sl c i).find? fun q => worthV l sl (c + 1) q == worthV l sl c i - at2 l c i
def walkN (l : List (List Int)) (sl : Nat) : Nat → Nat → Nat → List Nat
  | 0, _, _ => []
  | k + 1, c, i => match firstQ l sl c i with
    | some q => q :: walkN l sl k (c + 1) q
    | none => []

def natsV (l : List Nat) : List V := l.map fun (q : Nat) => I q

/-- What Horizon returns. -/
def horR (l : List (List Int)) (slope : Int) : V :=
  if secOk l then (if btw slope 0 32 then .tuple [.slice 0 1 (natsV (argBest l slope.toNat (deepOf l) :: walkN l slope.toNat (l.length - 1) 0 (argBest l slope.toNat (deepOf l)))), I (worthV l slope.toNat 0 (argBest l slope.toNat (deepOf l))), I 0] else .tuple [.slice 0 1 [], I 0, I 7]) else .tuple [.slice 0 1 [], I 0, I 105]

theorem argBest_lt {l : List (List Int)} {sl k : Nat} (h0 : 0 < k) : argBest l sl k < k := by
  unfold argBest
  have : ∀ (m : List Nat) (a : Nat), a < k → (∀ x ∈ m, x < k) → m.foldl (fun a i => if worthV l sl 0 i > worthV l sl 0 a then i else a) a < k := by
    intro m
    induction m with
    | nil => intro a ha _; exact ha
    | cons x m ih =>
      intro a ha hm
      simp only [List.foldl_cons]
      refine ih _ ?_ (fun y hy => hm y (List.mem_cons_of_mem _ hy))
      split
      · exact hm x (by simp)
      · exact ha
  exact this _ 0 h0 (fun x hx => by simpa using hx)

theorem argBest_succ {l : List (List Int)} {sl k : Nat} : argBest l sl (k + 1) = if worthV l sl 0 k > worthV l sl 0 (argBest l sl k) then k else argBest l sl k := by
  unfold argBest
  rw [List.range_succ, List.foldl_append]
  rfl

theorem best_mem {L : List Int} (h : L ≠ []) : (bestG L).2 ∈ L := by
  cases L with
  | nil => exact absurd rfl h
  | cons x r =>
    unfold bestG
    simp only [List.foldl_cons]
    have e : stepW (false, 0) x = (true, x) := by simp [stepW]
    rw [e]
    rcases foldW_mem r (true, x) with h | h
    · rw [h]; simp
    · exact List.mem_cons_of_mem _ h

theorem mem_next_self {n d sl c i : Nat} (hc : c + 1 ≠ n) (hi : i < d) : i ∈ nextN n d sl c i := by
  unfold nextN
  rw [if_neg hc, List.mem_range']
  exact ⟨i - (i - sl), by omega, by omega⟩

theorem firstQ_some {l : List (List Int)} {sl c i : Nat} (hc : c + 1 < l.length) (hi : i < deepOf l) : (firstQ l sl c i).isSome = true := by
  unfold firstQ
  rw [List.find?_isSome]
  have hne : (nextN l.length (deepOf l) sl c i).map (worthV l sl (c + 1)) ≠ [] := by
    intro e
    have := mem_next_self (n := l.length) (d := deepOf l) (sl := sl) (c := c) (i := i) (by omega) hi
    rw [List.map_eq_nil_iff] at e
    rw [e] at this; cases this
  obtain ⟨q, h1, h2⟩ := List.mem_map.1 (best_mem hne)
  refine ⟨q, h1, ?_⟩
  rw [worthV_eq (c := c) (by omega), h2]
  simp; omega

theorem fW_get {l : List (List Int)} {sl c i : Nat} (hc : c < l.length) (hi : i < deepOf l) : (fW l sl c i).getD 0 = worthV l sl c i := by
  unfold fW
  rw [if_pos (by omega)]
  simp

set_option maxHeartbeats 2000000 in
theorem c_Horizon {l : List (List Int)} (hl : saneS l) (slope : Int) : C Try.prog F.volume_Horizon [secV l, I slope] (horR l slope) := by
  by_cases hE : secOk l = true
  rotate_left
  · have hE : secOk l = false := by simpa using hE
    refine C.le (r := .tuple [.nils, I 0, I 105]) (C_of mixed chk.volume_Horizon (by simp) fun S ok => ?_) (fun w φ x h => by simp only [horR, hE, if_true, if_false, Bool.false_eq_true]; exact repR_nil0 h)
    refine Tr.seqR rfl (by simp) (Tr.scope ?_)
    have hr : secR l slope = .tuple [.agg [I 0, I 0, .nils, I 0], I 105] := by simp [secR, hE, secErr]
    refine Tr.seqC rfl (by simp) (Steps.call rfl rfl (hr ▸ c_sectionOf hl slope) (Steps.fin rfl (by simp) ?_))
    refine Tr.seq (Tr.seqR rfl (by simp) (Tr.condT rfl (Tr.seqR rfl (by simp) (Tr.retX rfl rfl rfl ?_ trivial))))
    simp [packR]
  by_cases hS : btw slope 0 32 = true
  rotate_left
  · have hS : btw slope 0 32 = false := by simpa using hS
    refine C.le (r := .tuple [.nils, I 0, I 7]) (C_of mixed chk.volume_Horizon (by simp) fun S ok => ?_) (fun w φ x h => by simp only [horR, hE, hS, if_true, if_false, Bool.false_eq_true]; exact repR_nil0 h)
    refine Tr.seqR rfl (by simp) (Tr.scope ?_)
    have hr : secR l slope = .tuple [.agg [I 0, I 0, .nils, I 0], I 7] := by simp [secR, hE, hS, secErr]
    refine Tr.seqC rfl (by simp) (Steps.call rfl rfl (hr ▸ c_sectionOf hl slope) (Steps.fin rfl (by simp) ?_))
    refine Tr.seq (Tr.seqR rfl (by simp) (Tr.condT rfl (Tr.seqR rfl (by simp) (Tr.retX rfl rfl rfl ?_ trivial))))
    simp [packR]
  obtain ⟨sl, rfl⟩ : ∃ sl : Nat, slope = (sl : Int) := ⟨slope.toNat, by simp [btw] at hS; omega⟩
  have hsl : sl ≤ 32 := by simp [btw] at hS; omega
  obtain ⟨hev, hn, hd, hnum⟩ := secOk_spec hE
  refine C_of mixed chk.volume_Horizon (by simp) fun S ok => ?_
  refine Tr.seqR rfl (by simp) (Tr.scope ?_)
  have hr : secR l sl = .tuple [.agg (secC l sl), I 0] := by simp [secR, hE, hS]
  refine Tr.seqC rfl (by simp) (Steps.call rfl rfl (hr ▸ c_sectionOf hl sl) (Steps.fin rfl (by simp) ?_))
  refine Tr.seq (Tr.seqR rfl (by simp) (Tr.condF rfl (Tr.skip ?_)))
  refine Tr.seqC rfl (by simp) (Steps.call rfl rfl (c_worths hE hsl) (Steps.fin rfl (by simp) ?_))
  refine Tr.seqR rfl (by simp) (Tr.seq (Tr.seqR rfl (by simp) (Tr.block ?_)))
  refine Tr.loop (fun (i : Nat) s => i ≤ deepOf l ∧ s = { env := [(4, .ptr 4 0), (7, .ptr 7 0), (8, .ptr 8 0), (9, .ptr 9 0), (27, I (deepOf l)), (28, I i)], bx := [(4, ⟨[.nils], false⟩), (7, ⟨secC l sl, false⟩), (8, ⟨[.mp (fW l sl)], false⟩), (9, ⟨[I 0, I (argBest l sl i : Nat)], false⟩)], rw := [], log := [], stp := false }) (fun i => deepOf l - i) 0
    (Wk.le (.cons rfl (.refl _) (.cons rfl (.refl _) (.cons rfl (.refl _) (.cons rfl (.refl _) (.cons rfl (.refl _) (.cons rfl (.refl _) .nil)))))) (.cons rfl (LLe.refl _) (.cons rfl (LLe.refl _) (.cons rfl (LLe.refl _) (.cons rfl (LLe.refl _) .nil)))) .nil rfl rfl) ⟨by omega, rfl⟩ ?_
  rintro i s ⟨hil, rfl⟩
  refine Tr.seqR rfl (by simp) (Tr.seqI rfl (fun h3 => ?_) (fun h3 => ?_))
  · have h3 : i < deepOf l := by simpa using h3
    have hb0 : argBest l sl i < deepOf l := by
      by_cases h0 : i = 0
      · subst h0; simp [argBest]; omega
      · have := argBest_lt (l := l) (sl := sl) (k := i) (by omega); omega
    have f1 : (fW l sl 0 (i : Int)).getD 0 = worthV l sl 0 i := fW_get (c := 0) (by omega) h3
    have f2 : (fW l sl 0 (argBest l sl i : Nat)).getD 0 = worthV l sl 0 (argBest l sl i) := fW_get (c := 0) (by omega) hb0
    refine Tr.skipT (Tr.seq (Tr.block (Tr.seqR rfl (by simp) (Tr.seqD rfl (by simp; omega) (by kernel_rfl) ?_))))
    refine Tr.cond rfl rfl (fun h4 => ?_) (fun h4 => ?_)
    · have h4 : decide ((fW l sl 0 (i : Int)).getD 0 > (fW l sl 0 (argBest l sl i : Nat)).getD 0) = true := h4
      rw [f1, f2] at h4
      have h4 : worthV l sl 0 i > worthV l sl 0 (argBest l sl i) := by simpa using h4
      refine Tr.regR rfl (by simp) (Tr.regR rfl (by simp) ?_)
      refine ⟨i + 1, _, Wk.le (.cons rfl (.refl _) (.cons rfl (.refl _) (.cons rfl (.refl _) (.cons rfl (.refl _) (.cons rfl (.refl _) (.cons rfl (VLe.i (w64 (by omega) (by omega))) .nil)))))) (.cons rfl (LLe.refl _) (.cons rfl (LLe.refl _) (.cons rfl (LLe.refl _) (.cons rfl (.cons (.refl _) (.cons (.of_eq ?_) .nil)) .nil)))) .nil rfl rfl, ⟨h3, rfl⟩, by omega⟩
      rw [argBest_succ, if_pos h4]
    · have h4 : decide ((fW l sl 0 (i : Int)).getD 0 > (fW l sl 0 (argBest l sl i : Nat)).getD 0) = false := h4
      rw [f1, f2] at h4
      have h4 : ¬ worthV l sl 0 i > worthV l sl 0 (argBest l sl i) := by simpa using h4
      refine Tr.skip (Tr.regR rfl (by simp) ?_)
      refine ⟨i + 1, _, Wk.le (.cons rfl (.refl _) (.cons rfl (.refl _) (.cons rfl (.refl _) (.cons rfl (.refl _) (.cons rfl (.refl _) (.cons rfl (VLe.i (w64 (by omega) (by omega))) .nil)))))) (.cons rfl (LLe.refl _) (.cons rfl (LLe.refl _) (.cons rfl (LLe.refl _) (.cons rfl (.cons (.refl _) (.cons (.of_eq ?_) .nil)) .nil)))) .nil rfl rfl, ⟨h3, rfl⟩, by omega⟩
      rw [argBest_succ, if_neg h4]
  have h3 : i = deepOf l := by simp at h3; omega
  subst h3
  have hb0 : argBest l sl (deepOf l) < deepOf l := argBest_lt (by omega)
  have f0 : (fW l sl 0 (argBest l sl (deepOf l) : Nat)).getD 0 = worthV l sl 0 (argBest l sl (deepOf l)) := fW_get (c := 0) (by omega) hb0
  refine Tr.exit (Tr.seqR rfl (by simp; omega) (Tr.seqR rfl (by simp) (Tr.seq (Tr.label (Tr.seq (Tr.block ?_))))))
  refine Tr.loop (fun (p : (Nat × Nat) × List Nat) s => (p.1.1 < l.length ∧ p.1.2 < deepOf l ∧ p.2.length = p.1.1 + 1 ∧ p.2 ++ walkN l sl (l.length - 1 - p.1.1) p.1.1 p.1.2 = argBest l sl (deepOf l) :: walkN l sl (l.length - 1) 0 (argBest l sl (deepOf l))) ∧
      s = { env := [(4, .ptr 4 0), (5, I (worthV l sl 0 (argBest l sl (deepOf l)))), (7, .ptr 7 0), (8, .ptr 8 0), (9, .ptr 9 0)], bx := [(4, ⟨[.slice 48 1 (natsV p.2)], false⟩), (7, ⟨secC l sl, false⟩), (8, ⟨[.mp (fW l sl)], false⟩), (9, ⟨[I p.1.1, I p.1.2], false⟩)], rw := [(47, p.2.length, 1, 3)], log := [], stp := false }) (fun p => l.length - p.1.1) ((0, argBest l sl (deepOf l)), [argBest l sl (deepOf l)])
    (Wk.le (.cons rfl (.refl _) (.cons rfl (VLe.i f0) (.cons rfl (.refl _) (.cons rfl (.refl _) (.cons rfl (.refl _) .nil))))) (.cons rfl (LLe.refl _) (.cons rfl (LLe.refl _) (.cons rfl (LLe.refl _) (.cons rfl (LLe.refl _) .nil)))) (.cons rfl .nil) rfl rfl) ⟨⟨by simp only; omega, hb0, rfl, rfl⟩, rfl⟩ ?_
  rintro ⟨⟨c, i⟩, path⟩ s ⟨⟨hcl, hil, hpl, hpath⟩, rfl⟩
  simp only at hcl hil hpl hpath
  refine Tr.seq (Tr.seqR rfl (by simp) (Tr.cond rfl rfl (fun h3 => Tr.skip (Tr.block ?_)) (fun h3 => Tr.exit ?_)))
  rotate_left
  · have h3 : decide (((natsV path).length : Int) < l.length) = false := h3
    have h3 : c + 1 = l.length := by simp [natsV, hpl] at h3; omega
    have e0 : l.length - 1 - c = 0 := by omega
    rw [e0] at hpath
    have e1 : path = argBest l sl (deepOf l) :: walkN l sl (l.length - 1) 0 (argBest l sl (deepOf l)) := by simpa [walkN] using hpath
    refine Tr.seqR rfl (by simp) (Tr.retX rfl rfl rfl ?_ trivial)
    rw [e1]
    simp [packR, horR, hE, hS]
  have h3 : decide (((natsV path).length : Int) < l.length) = true := h3
  have h3 : c + 1 < l.length := by simp [natsV, hpl] at h3; omega
  have hlc : l[c].length = deepOf l := evenL_spec hev hcl
  have hilc : i < l[c].length := by omega
  have bl := numsOk_spec hnum hcl hilc
  have bw := worthV_bd (sl := sl) hnum hn c i
  have f1 : (fW l sl c i).getD 0 = worthV l sl c i := fW_get hcl hil
  have ha2 : at2 l c i = l[c][i] := at2_eq hcl hilc
  refine Tr.seq (Tr.drawK (TraceK.runN 8 rfl (by simp; omega) ?_))
  rw [getD_map hcl]
  refine TraceK.runN 4 rfl (by simp; omega) ?_
  rw [getD_map hilc]
  refine TraceK.run rfl (by simp) (.done ⟨by kernel_rfl, by kernel_rfl, ?_⟩)
  refine Tr.seqC rfl (by simp) (Steps.call rfl rfl (c_next l sl c i) (Steps.fin rfl (by simp) (Tr.block ?_)))
  have hneed : IntKind.i64.wrap ((fW l sl c i).getD 0 - l[c][i]) = worthV l sl c i - at2 l c i := by rw [f1, ha2, w64 (by omega) (by omega)]
  refine Tr.weak (s' := { env := [(70, .func (.func F.volume_section_next_1) [] [.vptr [I c, I i] 0, .vptr (secC l sl) 0]), (4, .ptr 4 0), (5, I (worthV l sl 0 (argBest l sl (deepOf l)))), (7, .ptr 7 0), (8, .ptr 8 0), (9, .ptr 9 0), (11, .ptr 11 0)], bx := [(4, ⟨[.slice 48 1 (natsV path)], false⟩), (7, ⟨secC l sl, false⟩), (8, ⟨[.mp (fW l sl)], false⟩), (9, ⟨[I c, I i], false⟩), (11, ⟨[I (worthV l sl c i - at2 l c i)], false⟩)], rw := [(47, path.length, 1, 3)], log := [], stp := false })
    (Wk.le (.cons rfl (.refl _) (.cons rfl (.refl _) (.cons rfl (.refl _) (.cons rfl (.refl _) (.cons rfl (.refl _) (.cons rfl (.refl _) (.cons rfl (.refl _) .nil))))))) (.cons rfl (LLe.refl _) (.cons rfl (LLe.refl _) (.cons rfl (LLe.refl _) (.cons rfl (LLe.refl _) (.cons rfl (.cons (VLe.i hneed) .nil) .nil))))) (.cons rfl .nil) rfl rfl) ?_
  obtain ⟨q0, hq0⟩ := Option.isSome_iff_exists.1 (firstQ_some (sl := sl) h3 hil)
  have hq0n : q0 ∈ nextN l.length (deepOf l) sl c i := List.mem_of_find?_eq_some hq0
  refine Tr.range rfl rfl (i_next l sl c i hn.2 hd hsl hcl hil) rfl rfl rfl (by intro x hx; obtain ⟨q, _, rfl⟩ := List.mem_map.1 hx; rfl)
    (fun pre t => ∃ m, m ≤ (nextN l.length (deepOf l) sl c i).length ∧ pre = ((nextN l.length (deepOf l) sl c i).take m).map (spotV c) ∧ ((nextN l.length (deepOf l) sl c i).take m).find? (fun q => worthV l sl (c + 1) q == worthV l sl c i - at2 l c i) = none ∧ t.bx = [(4, ⟨[.slice 48 1 (natsV path)], false⟩), (7, ⟨secC l sl, false⟩), (8, ⟨[.mp (fW l sl)], false⟩), (9, ⟨[I c, I i], false⟩), (11, ⟨[I (worthV l sl c i - at2 l c i)], false⟩)] ∧ t.rw = [(47, path.length, 1, 3)] ∧ t.log = [])
    (fun e t => e = .exit 3 ∧ t.bx = [(4, ⟨[.slice 48 1 (natsV (path ++ [q0]))], false⟩), (7, ⟨secC l sl, false⟩), (8, ⟨[.mp (fW l sl)], false⟩), (9, ⟨[I ((c + 1 : Nat) : Int), I q0], false⟩), (11, ⟨[I (worthV l sl c i - at2 l c i)], false⟩)] ∧ t.rw = [(47, path.length + 1, 1, 3)] ∧ t.log = [] ∧ t.stp = false) ⟨0, by omega, rfl, rfl, rfl, rfl, rfl⟩ ?_ ?_ ?_
  · rintro a0 L0 rc0 h0 S1 S2 ok1 ok2 pre x t lp hpre ⟨m, hm, rfl, hnf, hbx, hrw, hlog⟩ henv hstp
    obtain ⟨env, bx, rw, log, stp⟩ := t
    simp only at hbx hrw hlog henv hstp
    subst hbx hrw hlog henv hstp
    have hmx : m < (nextN l.length (deepOf l) sl c i).length ∧ ∃ q, (nextN l.length (deepOf l) sl c i)[m]? = some q ∧ x = spotV c q := by
      have h1 : (((nextN l.length (deepOf l) sl c i).take m).map (spotV c)).length = m := by simp; omega
      have h2 := hpre.length_le
      simp at h2
      have hml : m < (nextN l.length (deepOf l) sl c i).length := by omega
      refine ⟨hml, _, List.getElem?_eq_getElem hml, ?_⟩
      have h3 := List.IsPrefix.getElem hpre (i := m) (by simp; omega)
      simp only [List.getElem_map] at h3
      rw [List.getElem_append_right (by omega)] at h3
      simpa using h3
    obtain ⟨hml, q, hq, rfl⟩ := hmx
    obtain ⟨hcn, hqd⟩ := nextN_lt hd.1 (List.mem_of_getElem? hq)
    have htk : (nextN l.length (deepOf l) sl c i).take (m + 1) = (nextN l.length (deepOf l) sl c i).take m ++ [q] := by rw [List.take_add_one, hq]; rfl
    have fq : (fW l sl ((c + 1 : Nat) : Int) q).getD 0 = worthV l sl (c + 1) q := fW_get h3 hqd
    refine Tr.regR rfl (by simp) (Tr.block (Tr.seqD rfl (by simp; omega) (by kernel_rfl) ?_))
    refine Tr.cond rfl rfl (fun h4 => ?_) (fun h4 => ?_)
    · have h4 : ((fW l sl ((c + 1 : Nat) : Int) q).getD 0 == worthV l sl c i - at2 l c i) = true := h4
      rw [fq] at h4
      have hqq : q0 = q := by
        have e1 : ((nextN l.length (deepOf l) sl c i).take (m + 1) ++ (nextN l.length (deepOf l) sl c i).drop (m + 1)).find? (fun q => worthV l sl (c + 1) q == worthV l sl c i - at2 l c i) = some q0 := by
          rw [List.take_append_drop]; exact hq0
        rw [htk, List.append_assoc, List.find?_append, hnf] at e1
        simp [h4] at e1
        exact e1.symm
      subst hqq
      refine Tr.seqD rfl (by simp [natsV]; omega) (by kernel_rfl) (Tr.exit ?_)
      refine ⟨{ env := [], bx := [(4, ⟨[.slice 48 1 (natsV (path ++ [q0]))], false⟩), (7, ⟨secC l sl, false⟩), (8, ⟨[.mp (fW l sl)], false⟩), (9, ⟨[I ((c + 1 : Nat) : Int), I q0], false⟩), (11, ⟨[I (worthV l sl c i - at2 l c i)], false⟩)], rw := [(47, path.length + 1, 1, 3)], log := [], stp := false }, Wk.le .nil (.cons rfl (.cons (.of_eq ?_) .nil) (.cons rfl (LLe.refl _) (.cons rfl (LLe.refl _) (.cons rfl (LLe.refl _) (.cons rfl (LLe.refl _) .nil))))) (.cons ?_ .nil) rfl rfl, rfl, rfl, rfl, rfl, rfl⟩
      · simp [natsV]
      · show some _ = some _
        simp [natsV]
    · have h4 : ((fW l sl ((c + 1 : Nat) : Int) q).getD 0 == worthV l sl c i - at2 l c i) = false := h4
      rw [fq] at h4
      refine Tr.skip ?_
      refine ⟨{ env := [], bx := [(4, ⟨[.slice 48 1 (natsV path)], false⟩), (7, ⟨secC l sl, false⟩), (8, ⟨[.mp (fW l sl)], false⟩), (9, ⟨[I c, I i], false⟩), (11, ⟨[I (worthV l sl c i - at2 l c i)], false⟩)], rw := [(47, path.length, 1, 3)], log := [], stp := false }, ?_, ⟨m + 1, by omega, ?_, ?_, rfl, rfl, rfl⟩, rfl⟩
      · exact Wk.le .nil (.cons rfl (LLe.refl _) (.cons rfl (LLe.refl _) (.cons rfl (LLe.refl _) (.cons rfl (LLe.refl _) (.cons rfl (LLe.refl _) .nil))))) (.cons rfl .nil) rfl rfl
      · rw [htk]; simp
      · rw [htk, List.find?_append, hnf]; simp [h4]
  · rintro ⟨env, bx, rw, log, stp⟩ henv hstp ⟨m, hm, hpre, hnf, hbx, hrw, hlog⟩
    have hml : m = (nextN l.length (deepOf l) sl c i).length := by
      have := congrArg List.length hpre
      simp at this; omega
    subst hml
    rw [List.take_length] at hnf
    unfold firstQ at hq0
    rw [hnf] at hq0; cases hq0
  · rintro e ⟨env, bx, rw, log, stp⟩ henv ⟨rfl, hbx, hrw, hlog, hstp⟩
    simp only at henv hbx hrw hlog hstp
    subst henv hbx hrw hlog hstp
    refine ⟨((c + 1, q0), path ++ [q0]), _, Wk.le (.cons rfl (.refl _) (.cons rfl (.refl _) (.cons rfl (.refl _) (.cons rfl (.refl _) (.cons rfl (.refl _) .nil))))) (.cons rfl (LLe.refl _) (.cons rfl (LLe.refl _) (.cons rfl (LLe.refl _) (.cons rfl (LLe.refl _) .nil)))) (.cons ?_ .nil) rfl rfl, ⟨⟨h3, (nextN_lt hd.1 hq0n).2, ?_, ?_⟩, rfl⟩, ?_⟩
    · show some _ = some _
      simp
    · simp [hpl]
    · have e0 : l.length - 1 - c = (l.length - 1 - (c + 1)) + 1 := by omega
      rw [e0] at hpath
      simp only [walkN, hq0] at hpath
      simpa using hpath
    · simp only; omega

end Go.Proofs.Ytecggpjpckicgaa

/-! Contracts: two volumes alike; the chapter's echoes and section. -/
set_option linter.unusedVariables false
set_option linter.unusedSimpArgs false
set_option maxRecDepth 20000
namespace Go.Proofs.Ytecggpjpckicgaa
open Go.Am
attribute [local simp] cells scalar mkv splice under2 under dem dem1 boxC cellC volC intsV eB

theorem c_SameVolume (a b : Vol) (hl : a.v.length ≤ 9223372036854775807) : C Try.prog F.ref10_SameVolume [.agg (volC a), .agg (volC b)]
    (.bool (decide ((a.b.x = b.b.x ∧ a.b.y = b.b.y ∧ a.b.z = b.b.z) ∧ (a.b.a = b.b.a ∧ a.b.b = b.b.b ∧ a.b.c = b.b.c) ∧ a.v = b.v))) := by
  refine C_of mixed chk.ref10_SameVolume (by simp) fun S ok => ?_
  refine Tr.seqR rfl (by simp) ?_
  refine Tr.seqC rfl (by simp) (Steps.gcall rfl rfl rfl rfl (by simp) (fun _ => c_Alike a.v b.v hl) (Steps.fin rfl (by simp) (Tr.retX rfl rfl rfl ?_ trivial)))
  simp only [packR, V.bool.injEq]
  by_cases h1 : a.b.x = b.b.x <;> by_cases h2 : a.b.y = b.b.y <;> by_cases h3 : a.b.z = b.b.z <;> by_cases h4 : a.b.a = b.b.a <;> by_cases h6 : a.b.b = b.b.b <;> by_cases h7 : a.b.c = b.b.c <;> by_cases h5 : a.v = b.v <;> simp [h1, h2, h3, h4, h5, h6, h7]

theorem c_sure {l : List Int} (hl : l.length < 1000000) : C Try.prog F.law10_sure [intsV l] (sB (l.map fun n => (n, n))) := by
  refine C_of mixed chk.law10_sure (by simp) fun S ok => ?_
  refine Tr.seqR rfl (by simp) (Tr.seqR rfl (by simp) (Tr.seq (Tr.seqR rfl (by simp) (Tr.block ?_))))
  refine Tr.loop (fun k st => k ≤ l.length ∧ st = { env := [(0, intsV l), (3, .slice 23 2 ((l.take k).map fun n => eB (n, n))), (4, I k)], bx := [], rw := [(22, k, 2, 56)], log := [], stp := false }) (fun k => l.length - k) 0
    (Wk.le (.cons rfl (.refl _) (.cons rfl (.nil 23 2) (.cons rfl (.refl _) .nil))) .nil (.new rfl .nil) rfl rfl) ⟨by omega, rfl⟩ ?_
  rintro k st ⟨hk, rfl⟩
  refine Tr.seq (Tr.seqR rfl (by simp) (Tr.cond rfl rfl (fun h3 => ?_) (fun h3 => ?_)))
  · have h3 : k < l.length := by simpa using h3
    refine Tr.skip (Tr.seq (Tr.block (Tr.drawK (TraceK.runN 4 rfl (by simp; omega) ?_))))
    rw [getD_map h3]
    refine TraceK.runN 4 rfl (by simp; omega) ?_
    rw [getD_map h3]
    refine TraceK.run rfl (by simp; omega) (.done ⟨by kernel_rfl, by kernel_rfl, ?_⟩)
    refine Tr.regR rfl (by simp) ?_
    refine ⟨k + 1, _, Wk.le (.cons rfl (.refl _) (.cons rfl (.of_eq ?_) (.cons rfl (VLe.i (w64 (by omega) (by omega))) .nil))) .nil (.cons ?_ .nil) rfl rfl, ⟨h3, rfl⟩, by omega⟩
    · have e : l.take (k + 1) = l.take k ++ [l[k]] := by rw [List.take_add_one, List.getElem?_eq_getElem h3]; rfl
      rw [e, List.map_append]; rfl
    · show some _ = some _
      simp; omega
  · have h3 : k = l.length := by simp at h3; omega
    subst h3
    refine Tr.exit (Tr.seqR rfl (by simp) (Tr.retX rfl rfl rfl ?_ trivial))
    simp [packR, sB]

/-! ### The chapter's examples -/
def exE : List Echo := [⟨0, 0, [(0, 0), (0, 0), (5, 5), (0, 0)]⟩, ⟨2, 0, [(0, 0), (1, 1), (2, 2), (7, 7)]⟩]
def exS : List (List Int) := [[5, 0, 0], [0, 0, 9], [4, 0, 1]]

theorem c_echoes : C Try.prog F.law10_echoes [] (sE exE) := by
  refine C_of mixed chk.law10_echoes (by simp) fun S ok => ?_
  refine Tr.seqR rfl (by simp) (Tr.seqC rfl (by simp) ?_)
  refine Steps.call rfl rfl (c_sure (l := [0, 0, 5, 0]) (by simp)) (Steps.run rfl (by simp [sB]) ?_)
  refine Steps.call rfl rfl (c_sure (l := [0, 1, 2, 7]) (by simp)) (Steps.fin rfl (by simp [sB]) (Tr.retX rfl rfl rfl rfl trivial))

theorem c_section : C Try.prog F.law10_section [] (secV exS) := by
  refine C_of mixed chk.law10_section (by simp) fun S ok => ?_
  refine Tr.seqR rfl (by simp) (Tr.seqR rfl (by simp) (Tr.retX rfl rfl rfl rfl trivial))

end Go.Proofs.Ytecggpjpckicgaa

/-! The chapter's examples. -/
set_option linter.unusedVariables false
set_option linter.unusedSimpArgs false
set_option maxRecDepth 20000
namespace Go.Am
open Go.RowKit

/-! ### Guards that are known to hold -/
theorem compOp_noguard {P : Program} {nt : Nat} {slots : List (Option Nat)} {o : Oper} {d : Option Nat} {k : Am.K} {xs : List X} {g : Option (Nat × Bool)} (hc : compOp P nt slots o = some ⟨d, k, xs, g⟩) (sl : List (Option Nat)) : compOp P nt sl { o with guard := none } = some ⟨d, k, xs, none⟩ := by
  unfold compOp at hc ⊢
  cases h1 : opK P o.op with
  | none => rw [h1] at hc; cases hc
  | some q =>
    obtain ⟨k', os⟩ := q
    rw [h1] at hc
    simp only at hc
    cases h2 : os.mapM compX with
    | none => rw [h2] at hc; cases hc
    | some xs' =>
      rw [h2] at hc
      simp only at hc
      cases h3 : guardG slots o.guard with
      | none => rw [h3] at hc; cases hc
      | some g' =>
        rw [h3] at hc
        simp only at hc
        cases h4 : dstOk nt k' o.dst with
        | false => rw [h4] at hc; cases hc
        | true =>
          rw [h4] at hc
          cases hc
          simp only [h1, h2, h4, cond_true]
          rfl

theorem Step1.on {E : Env} {K : St → Prop} {s : St} {d : Option Nat} {k : Am.K} {xs : List X} {t : Nat} {want : Bool} {gv : V} (hgv : Am.get s.env t = some gv) (hgb : guardOf want gv = some true) (h : Step1 E ⟨d, k, xs, none⟩ K s) : Step1 E ⟨d, k, xs, some (t, want)⟩ K s := by
  refine Step1.raw fun slots ops o i ro n a w g hc hs hi R Q next hn => ?_
  have hc' := compOp_noguard hc (#[{ o with guard := none }].toList.map (·.dst))
  have h1 := step_ok (ro := ro) (n := n) (ops := #[{ o with guard := none }]) (i := 0) h hc' rfl rfl R (Q := Q) (next := next) hn
  unfold wpOpIn at h1 ⊢
  obtain ⟨os, cc⟩ := comp_of hc
  obtain ⟨j, want', t', g1, g2, g3⟩ : ∃ j want t, o.guard = some (j, want) ∧ slots[j]? = some (some t) ∧ (some (t, want)) = (some (t, want)) ∧ True := by
    rcases cc.guard with ⟨e, _⟩ | ⟨j, w', t', e1, e2, e3⟩
    · cases e
    · exact ⟨j, w', t', e1, e2, rfl, trivial⟩
  have hw : Region.wanted o (yielded ops a.tmps) = true := by
    rcases cc.guard with ⟨e, _⟩ | ⟨j, w', t', e1, e2, e3⟩
    · cases e
    · cases e3
      exact (guard_wanted R hs e1 e2 (by rw [fs_g]; exact hgv) hgb).1 rfl
  simp only [hi, hw, if_true]
  have hw' : Region.wanted { o with guard := none } (yielded #[{ o with guard := none }] a.tmps) = true := by unfold Region.wanted; rfl
  simp only [List.getElem?_toArray, List.getElem?_cons_zero, hw', if_true] at h1
  exact h1

theorem Steps.on {E : Env} {K : St → Prop} {s : St} {d : Option Nat} {k : Am.K} {xs : List X} {t : Nat} {want : Bool} {gv : V} {rest : List Ins} (hgv : Am.get s.env t = some gv) (hgb : guardOf want gv = some true) (h : Am.Steps E (⟨d, k, xs, none⟩ :: rest) K s) : Am.Steps E (⟨d, k, xs, some (t, want)⟩ :: rest) K s := Step1.on hgv hgb h

/-- One step where guards are known to hold. -/
def stepG (ins : Ins) (s : St) : Option (Prop × Eff × List Loc) :=
  match ins.g with
  | none => stepP ins s
  | some (t, want) => match Am.get s.env t with
    | some (.bool b) => match b == want with
      | true => stepP { ins with g := none } s
      | false => none
    | _ => none

theorem step_G {E : Env} {ins : Ins} {s : St} {p : Prop} {eff : Eff} {rd : List Loc} {K : St → Prop} (h : stepG ins s = some (p, eff, rd)) (hp : p) (hk : K ((s.eff eff).put ins.d eff.v)) : Step1 E ins K s := by
  obtain ⟨d, k, xs, g⟩ := ins
  unfold stepG at h
  cases g with
  | none => exact .does (stepP_ok h hp) hk
  | some tw =>
    obtain ⟨t, want⟩ := tw
    simp only at h
    split at h
    · rename_i b hb
      split at h
      · rename_i hbw
        exact Step1.on hb (by simp only [guardOf, hbw]) (.does (stepP_ok h hp) hk)
      · cases h
    · cases h

def runG : List Ins → St → Prop → Prop × St × List Ins
  | [], s, p => (p, s, [])
  | i :: r, s, p => match stepG i s with
    | some (q, eff, _) => runG r ((s.eff eff).put i.d eff.v) (p ∧ q)
    | none => (p, s, i :: r)

theorem runG_pre : ∀ (il : List Ins) (s : St) (p : Prop), (runG il s p).1 → p
  | [], s, p, h => h
  | i :: r, s, p, h => by
    unfold runG at h
    split at h
    · exact (runG_pre r _ _ h).1
    · exact h

theorem runG_ok {E : Env} {K : St → Prop} : ∀ (il : List Ins) (s : St) (p : Prop), (runG il s p).1 → Am.Steps E (runG il s p).2.2 K (runG il s p).2.1 → Am.Steps E il K s
  | [], s, p, _, h => h
  | i :: r, s, p, h1, h2 => by
    unfold runG at h1 h2
    split at h1
    · rename_i q eff rd hq
      rw [hq] at h2
      exact step_G hq (runG_pre r _ _ h1).2 (runG_ok r _ _ h1 h2)
    · rename_i hq
      rw [hq] at h2
      exact h2

theorem Steps.runG {E : Env} {K : St → Prop} {s s' : St} {il rest : List Ins} {p : Prop} (h : Am.runG il s True = (p, s', rest)) (hp : p) (hs : Am.Steps E rest K s') : Am.Steps E il K s := by
  refine runG_ok il s True ?_ ?_
  · rw [h]; exact hp
  · rw [h]; exact hs

end Go.Am

namespace Go.Proofs.Ytecggpjpckicgaa
open Go.Am
attribute [local simp] cells scalar mkv splice under2 under dem dem1 boxC cellC volC intsV eB

theorem ex1 : TimeR 2 4 64 = .tuple [I 2, I 0] := by kernel_rfl
theorem ex2 : TimeR 2 4 100 = .tuple [I 3, I 0] := by kernel_rfl
theorem ex3 : nameS exE 0 0 2 3 64 = .tuple [.agg [I 0, I 0, I 2, .slice 0 2 ([(0, 2), (1, 2)].map eB), I 7, I 7], I 0] := by kernel_rfl
theorem ex4 : encS exE ⟨0, 0, 2, 1, 1, 1⟩ 3 (64, 100) = .tuple [.agg [I 0, I 0, I 2, I 1, I 1, I 1, .slice 0 2 ([(7, 12)].map eB)], I 0] := by kernel_rfl
theorem ex5 : ringS [8, 0, 0, 4, 0] 2 32 = .tuple [intsV [8, 0, 4, 4, 2], I 0] := by kernel_rfl
theorem ex6 : unringS [8, 0, 4, 4, 2] 2 32 = .tuple [intsV [8, 0, 0, 4, 0], I 0] := by kernel_rfl
theorem ex7 : joinR .nils ⟨⟨0, 0, 0, 1, 1, 2⟩, [3, 4]⟩ ⟨⟨0, 0, 1, 1, 1, 2⟩, [4, 5]⟩ = .tuple [.agg (volC ⟨⟨0, 0, 0, 1, 1, 3⟩, [3, 4, 5]⟩), I 0] := by kernel_rfl
theorem ex8 : horR exS 1 = .tuple [intsV [1, 2, 2], I 10, I 0] := by kernel_rfl
theorem ex9 : horR exS 2 = .tuple [intsV [0, 2, 0], I 18, I 0] := by kernel_rfl
theorem ex10 : backR exS 1 [[9, 10, 10], [4, 4, 10], [4, 0, 1]] = (10, 0) := by kernel_rfl

theorem saneE : sane exE := by
  unfold sane exE; simp
theorem saneX : saneS exS := by
  unfold saneS exS; simp
theorem saneB : saneS [[9, 10, 10], [4, 4, 10], [4, 0, 1]] := by
  unfold saneS; simp

set_option maxHeartbeats 2000000 in
/-- **THE CHAPTER's EXAMPLES** come out as it says. -/
theorem c_works : C Try.prog F.law10_works [] (.bool true) := by
  refine C_of mixed chk.law10_works (by simp) fun S ok => ?_
  refine Tr.seqR rfl (by simp) ?_
  refine Tr.seqC rfl (by simp) (Steps.call rfl rfl (ex1 ▸ c_Time 2 4 64) (Steps.fin rfl (by simp) ?_))
  refine Tr.seqC rfl (by simp) (Steps.call rfl rfl (ex2 ▸ c_Time 2 4 100) (Steps.fin rfl (by simp) ?_))
  refine Tr.seqC rfl (by simp) (Steps.call rfl rfl c_echoes (Steps.run rfl (by simp) ?_))
  refine Steps.call rfl rfl (ex3 ▸ c_NameS saneE 0 0 2 3 64) (Steps.fin rfl (by simp) ?_)
  refine Tr.seqC rfl (by simp) (Steps.call rfl rfl c_echoes (Steps.run rfl (by simp) ?_))
  refine Steps.call rfl rfl (ex4 ▸ c_Enclose saneE ⟨0, 0, 2, 1, 1, 1⟩ 3 (64, 100)) (Steps.fin rfl (by simp) ?_)
  refine Tr.seq (Tr.seq (Tr.reg (Steps.runG rfl (by simp) ?_)))
  refine Steps.on rfl rfl (Steps.call rfl rfl (c_SameNamed 0 0 2 0 0 2 (7, 7) (7, 7) [(0, 2), (1, 2)] [(0, 2), (1, 2)] (by simp)) (Steps.runG rfl (by simp) ?_))
  refine Tr.condF (by kernel_rfl) (Tr.skip ?_)
  refine Tr.seqC rfl (by simp) (Steps.call rfl rfl (ex5 ▸ c_Ring [8, 0, 0, 4, 0] 2 32 (by simp)) (Steps.fin rfl (by simp) ?_))
  refine Tr.seqC rfl (by simp) (Steps.call rfl rfl (ex6 ▸ c_Unring [8, 0, 4, 4, 2] 2 32 (by simp)) (Steps.fin rfl (by simp) ?_))
  refine Tr.seqC rfl (by simp) (Steps.call rfl rfl (ex7 ▸ c_Join ⟨⟨0, 0, 0, 1, 1, 2⟩, [3, 4]⟩ ⟨⟨0, 0, 1, 1, 1, 2⟩, [4, 5]⟩ (by simp) (by simp)) (Steps.fin rfl (by simp) ?_))
  refine Tr.seq (Tr.seq (Tr.reg (Steps.runG rfl (by simp) ?_)))
  refine Steps.on rfl rfl (Steps.call rfl rfl (c_Alike [8, 0, 4, 4, 2] [8, 0, 4, 4, 2] (by simp)) (Steps.runG rfl (by simp) ?_))
  refine Steps.on rfl rfl (Steps.call rfl rfl (c_Alike [8, 0, 0, 4, 0] [8, 0, 0, 4, 0] (by simp)) (Steps.runG rfl (by simp) ?_))
  refine Steps.on rfl rfl (Steps.call rfl rfl (c_SameVolume ⟨⟨0, 0, 0, 1, 1, 3⟩, [3, 4, 5]⟩ ⟨⟨0, 0, 0, 1, 1, 3⟩, [3, 4, 5]⟩ (by simp)) (Steps.runG rfl (by simp) ?_))
  refine Tr.condF (by kernel_rfl) (Tr.skip ?_)
  refine Tr.seqC rfl (by simp) (Steps.call rfl rfl c_section (Steps.run rfl (by simp) ?_))
  refine Steps.call rfl rfl (ex8 ▸ c_Horizon saneX 1) (Steps.fin rfl (by simp) ?_)
  refine Tr.seqC rfl (by simp) (Steps.call rfl rfl c_section (Steps.run rfl (by simp) ?_))
  refine Steps.call rfl rfl (ex9 ▸ c_Horizon saneX 2) (Steps.fin rfl (by simp) ?_)
  have hB := c_Backed saneX saneB 1
  rw [ex10] at hB
  refine Tr.seqC rfl (by simp) (Steps.call rfl rfl c_section (Steps.run rfl (by simp) ?_))
  refine Steps.call rfl rfl hB (Steps.fin rfl (by simp) ?_)
  refine Tr.seq (Tr.reg (Steps.runG rfl (by simp) ?_))
  refine Steps.on rfl rfl (Steps.call rfl rfl (c_Alike [1, 2, 2] [1, 2, 2] (by simp)) (Steps.runG rfl (by simp) ?_))
  refine Steps.on rfl rfl (Steps.call rfl rfl (c_Alike [0, 2, 0] [0, 2, 0] (by simp)) (Steps.runG rfl (by simp) ?_))
  exact Tr.retX rfl rfl rfl (by kernel_rfl) trivial

end Go.Proofs.Ytecggpjpckicgaa

/-! From the reading of a row's arguments to values. -/
set_option linter.unusedVariables false
set_option linter.unusedSimpArgs false
set_option maxRecDepth 20000
namespace Go.Proofs.Ytecggpjpckicgaa
open Go.Am Go.ChangeShapes Go.WideShapes Go.ChangeAt Go.RowKit

/-- Everything that was there is stable. -/
def phi (W : World) : Nat → Nat := fun b => match W.heap[b]? with
  | some (.cells cs _ _) => cs.size
  | _ => 0

theorem phi_top {W : World} : ∀ b, W.heap.size ≤ b → phi W b = 0 := fun b hb => by
  unfold phi
  rw [Array.getElem?_eq_none hb]

theorem phi_lt {W : World} {b o : Nat} {z : Value} (h : W.cell? ⟨b, o, none⟩ = some z) : o < phi W b := by
  unfold World.cell? at h
  unfold phi
  cases hb : W.heap[b]? with
  | none => rw [hb] at h; simp at h
  | some ob =>
    rw [hb] at h
    cases ob with
    | cells c e m => simp only at h ⊢; exact (Array.getElem?_eq_some_iff.1 h).1
    | _ => simp at h

section
variable {H : Type} (enc : TypeId × Value → H) (W : World)

def Got (Pr : List V → Prop) (cs : List Value) : Prop := ∃ vs, Pr vs ∧ vs.length = cs.length ∧ ∀ (i : Nat) v c, vs[i]? = some v → cs[i]? = some c → RepD W (phi W) v c ∧ scalar v = true

/-- Whatever reads as this type has such values. -/
def Reads (t : TypeId) (Pr : List V → Prop) : Prop := ∀ fuel cs x, DataW.trod enc Try.prog W 0 (fun _ => true) true fuel t cs = some x → Got W Pr cs

def trods (fuel : Nat) : List TypeId → List Value → Prop
  | [], cs => cs = []
  | t :: ts, cs => (∃ x, DataW.trod enc Try.prog W 0 (fun _ => true) true fuel t (cs.take (Try.prog.cellsOf t)) = some x) ∧ Try.prog.cellsOf t ≤ cs.length ∧ trods fuel ts (cs.drop (Try.prog.cellsOf t))

def ReadsL (ts : List TypeId) (Pr : List V → Prop) : Prop := ∀ fuel cs, trods enc W fuel ts cs → Got W Pr cs

variable {enc W}

theorem Got.mono {P Q : List V → Prop} {cs : List Value} (h : Got W P cs) (k : ∀ vs, P vs → Q vs) : Got W Q cs := let ⟨vs, a, b⟩ := h; ⟨vs, k vs a, b⟩
theorem Reads.mono {t : TypeId} {P Q : List V → Prop} (h : Reads enc W t P) (k : ∀ vs, P vs → Q vs) : Reads enc W t Q := fun fuel cs x hx => (h fuel cs x hx).mono k

theorem readsL_nil : ReadsL enc W [] (fun vs => vs = []) := fun fuel cs h => by
  have h : cs = [] := h
  subst h
  exact ⟨[], rfl, rfl, fun i v c h => by simp at h⟩

theorem readsL_cons {t : TypeId} {ts : List TypeId} {P Q : List V → Prop} (h : Reads enc W t P) (k : ReadsL enc W ts Q) : ReadsL enc W (t :: ts) (fun vs => ∃ a b, P a ∧ Q b ∧ vs = a ++ b) := fun fuel cs ht => by
  obtain ⟨⟨x, hx⟩, hle, hr⟩ := ht
  obtain ⟨a, ha, la, ra⟩ := h _ _ _ hx
  obtain ⟨b, hb, lb, rb⟩ := k _ _ hr
  rw [List.length_take] at la
  rw [List.length_drop] at lb
  refine ⟨a ++ b, ⟨a, b, ha, hb, rfl⟩, by simp; omega, fun i v c hv hc => ?_⟩
  by_cases hi : i < a.length
  · rw [List.getElem?_append_left hi] at hv
    exact ra i v c hv (by rw [List.getElem?_take, if_pos (by omega)]; exact hc)
  · rw [List.getElem?_append_right (by omega)] at hv
    refine rb (i - a.length) v c hv ?_
    rw [List.getElem?_drop, show Try.prog.cellsOf t + (i - a.length) = i by omega]
    exact hc

theorem reads_int {t : TypeId} (ht : Try.prog.underlying t = some (.int .i64)) : Reads enc W t (fun vs => ∃ n : Int, vs = [I n] ∧ -9223372036854775808 ≤ n ∧ n ≤ 9223372036854775807) := fun fuel cs x hx => by
  obtain ⟨n, rfl, _, hw⟩ := DataW.trod_int ht hx
  have hb := Go.bounds_i64 hw
  refine ⟨[I n], ⟨n, rfl, by omega, by omega⟩, rfl, fun i v c hv hc => ?_⟩
  cases i with
  | zero => cases hv; cases hc; exact ⟨.int _ _, rfl⟩
  | succ i => cases hv

theorem reads_bool {t : TypeId} (ht : Try.prog.underlying t = some .bool) : Reads enc W t (fun vs => ∃ b : Bool, vs = [.bool b]) := fun fuel cs x hx => by
  obtain ⟨b, rfl, _⟩ := DataW.trod_bool ht hx
  refine ⟨[.bool b], ⟨b, rfl⟩, rfl, fun i v c hv hc => ?_⟩
  cases i with
  | zero => cases hv; cases hc; exact ⟨.bool _, rfl⟩
  | succ i => cases hv

/-- Fields one behind the other. -/
noncomputable def offsB : List Field → Nat → Nat → Bool
  | [], o, n => o == n
  | f :: r, o, n => f.offset == o && offsB r (o + Try.prog.cellsOf f.type) n

theorem trods_of {fuel : Nat} : ∀ (fs : List Field) (o n : Nat) (cs : List Value), offsB fs o n = true → cs.length = n → o ≤ n → (∀ f ∈ fs, ∃ x, DataW.trod enc Try.prog W 0 (fun _ => true) true fuel f.type ((cs.drop f.offset).take (Try.prog.cellsOf f.type)) = some x) → trods enc W fuel (fs.map (·.type)) (cs.drop o)
  | [], o, n, cs, h, hl, _, _ => by
    simp only [offsB, beq_iff_eq] at h
    show cs.drop o = []
    rw [List.drop_eq_nil_of_le (by omega)]
  | f :: r, o, n, cs, h, hl, ho, hf => by
    simp only [offsB, Bool.and_eq_true, beq_iff_eq] at h
    have hle : o + Try.prog.cellsOf f.type ≤ n := by
      have : ∀ (fs : List Field) (o n : Nat), offsB fs o n = true → o ≤ n := by
        intro fs
        induction fs with
        | nil => intro o n h; simp only [offsB, beq_iff_eq] at h; omega
        | cons g r ih => intro o n h; simp only [offsB, Bool.and_eq_true, beq_iff_eq] at h; have := ih _ _ h.2; omega
      exact this _ _ _ h.2
    refine ⟨?_, by rw [List.length_drop]; show Try.prog.cellsOf f.type ≤ _; omega, ?_⟩
    · have := hf f (by simp)
      rw [h.1] at this
      exact this
    · rw [List.drop_drop]
      exact trods_of r _ n cs h.2 hl hle fun g hg => hf g (by simp [hg])

theorem reads_struct {t : TypeId} {fs : Array Field} {Pr : List V → Prop} (ht : Try.prog.underlying t = some (.struct fs)) (ho : offsB fs.toList 0 (Try.prog.cellsOf t) = true) (h : ReadsL enc W (fs.toList.map (·.type)) Pr) : Reads enc W t Pr := fun fuel cs x hx => by
  obtain ⟨xs, n, _, _, hl, hxs, hf⟩ := DataW.trod_struct ht hx
  refine h n cs ?_
  have := trods_of (enc := enc) (W := W) (fuel := n) fs.toList 0 _ cs ho hl (Nat.zero_le _) fun f hm => by
    obtain ⟨i, hi, rfl⟩ := List.mem_iff_getElem.1 hm
    have h1 := hf i fs.toList[i] (by simp at hi ⊢)
    rw [h1]
    have : i < xs.length := by simp at hi; omega
    exact ⟨_, List.getElem?_eq_getElem this⟩
  simpa using this

theorem trods_rep {fuel : Nat} {e : TypeId} : ∀ (n k : Nat) (cs : List Value), cs.length = (k + n) * Try.prog.cellsOf e → (∀ i, i < n → ∃ x, DataW.trod enc Try.prog W 0 (fun _ => true) true fuel e ((cs.drop ((k + i) * Try.prog.cellsOf e)).take (Try.prog.cellsOf e)) = some x) → trods enc W fuel (List.replicate n e) (cs.drop (k * Try.prog.cellsOf e))
  | 0, k, cs, hl, _ => by
    show cs.drop _ = []
    rw [List.drop_eq_nil_of_le (by rw [hl]; simp)]
  | n + 1, k, cs, hl, hf => by
    have e1 : (k + (n + 1)) * Try.prog.cellsOf e = k * Try.prog.cellsOf e + (n * Try.prog.cellsOf e + Try.prog.cellsOf e) := by rw [Nat.add_mul, Nat.succ_mul]
    refine ⟨by simpa using hf 0 (by omega), by rw [List.length_drop]; omega, ?_⟩
    rw [List.drop_drop, show k * Try.prog.cellsOf e + Try.prog.cellsOf e = (k + 1) * Try.prog.cellsOf e by rw [Nat.succ_mul]]
    exact trods_rep n (k + 1) cs (by rw [hl]; congr 1; omega) fun i hi => by
      have := hf (i + 1) (by omega)
      rwa [show k + 1 + i = k + (i + 1) by omega]

theorem reads_array {t e : TypeId} {n : Nat} {Pr : List V → Prop} (ht : Try.prog.underlying t = some (.array n e)) (hc : Try.prog.cellsOf t = n * Try.prog.cellsOf e) (h : ReadsL enc W (List.replicate n e) Pr) : Reads enc W t Pr := fun fuel cs x hx => by
  obtain ⟨xs, m, _, _, hl, hxs, hf⟩ := DataW.trod_array ht hx
  refine h m cs ?_
  have := trods_rep (enc := enc) (W := W) (fuel := m) (e := e) n 0 cs (by rw [hl, hc]; simp) fun i hi => by
    rw [Nat.zero_add, hf i hi]
    exact ⟨_, List.getElem?_eq_getElem (by omega)⟩
  simpa using this

def wrapV (agg : Bool) (x : List V) : V := bif agg then .agg x else x.headD nothing

theorem cells_wrap {agg : Bool} {x : List V} {sz : Nat} (hx : x.length = sz) (hs : ∀ v ∈ x, scalar v = true) (ha : agg = false → sz = 1) : cells (wrapV agg x) = x := by
  cases agg with
  | true => rfl
  | false =>
    have := ha rfl
    subst this
    match x, hx with
    | [v], _ =>
      have hv := hs v (by simp)
      show cells v = [v]
      cases v <;> simp [scalar] at hv <;> rfl

theorem cell_spot {a : Addr} {z : Value} (h : W.cell? a = some z) : a = ⟨a.block, a.off, none⟩ := by
  have := World.cell?_spot h
  obtain ⟨b, o, s⟩ := a
  simp only at this
  subst this; rfl

theorem reads_slice {t e : TypeId} {sz : Nat} {Pe : List V → Prop} (agg : Bool) (ht : Try.prog.underlying t = some (.slice e)) (hc : Try.prog.cellsOf e = sz) (h0 : 0 < sz) (ha : agg = false → sz = 1) (h : Reads enc W e Pe) :
    Reads enc W t (fun vs => ∃ xs : List (List V), (∀ x ∈ xs, Pe x) ∧ xs.length ≤ 9223372036854775807 ∧ vs = [.slice 0 sz (xs.map (wrapV agg))]) := fun fuel cs x hx => by
  subst hc
  rcases DataW.trod_slice ht hx with ⟨rfl, _⟩ | ⟨a, len, cap, elems, rest, n, _, rfl, _, _, hlc, hcm, hel, hE, _⟩
  · refine ⟨[.slice 0 _ []], ⟨[], fun x hx => by simp at hx, by simp, rfl⟩, rfl, fun i v c hv hc => ?_⟩
    cases i with
    | zero => cases hv; cases hc; exact ⟨.slice0 _ _ _, rfl⟩
    | succ i => cases hv
  · have hcm' : cap ≤ 9223372036854775807 := by unfold maxLen at hcm; omega
    -- the elements, one by one
    have step : ∀ m, m ≤ len → ∃ xs : List (List V), xs.length = m ∧ (∀ x ∈ xs, Pe x ∧ x.length = Try.prog.cellsOf e) ∧
        ∀ (i : Nat) x (j : Nat) v, xs[i]? = some x → x[j]? = some v → ∃ c, W.cell? (a.add (i * Try.prog.cellsOf e + j)) = some c ∧ RepD W (phi W) v c ∧ scalar v = true := by
      intro m
      induction m with
      | zero => exact fun _ => ⟨[], rfl, fun x hx => by simp at hx, fun i x j v hx => by simp at hx⟩
      | succ m ih =>
        intro hm
        obtain ⟨xs, l1, l2, l3⟩ := ih (by omega)
        have h1 := hE m (by omega)
        rw [List.getElem?_eq_getElem (by omega)] at h1
        rw [Option.bind_eq_some_iff] at h1
        obtain ⟨ccs, h2, h3⟩ := h1
        obtain ⟨vs, v1, v2, v3⟩ := h _ _ _ h3
        have hcc : ccs.length = Try.prog.cellsOf e ∧ ∀ (j : Nat) c, ccs[j]? = some c → W.cell? (a.add (m * Try.prog.cellsOf e + j)) = some c := by
          unfold World.cells? at h2
          rw [if_pos (Nat.zero_le _)] at h2
          refine ⟨by simpa using mapM_some_length h2, fun j c hj => ?_⟩
          have hjl : j < Try.prog.cellsOf e := by
            have := (List.getElem?_eq_some_iff.1 hj).1
            have hh := mapM_some_length h2
            simp at hh; omega
          have := mapM_some_get h2 j j (by simp [hjl])
          rw [hj] at this
          rw [← this, Addr.add_add]
        refine ⟨xs ++ [vs], by simp [l1], fun x hx => ?_, fun i x j v hx hj => ?_⟩
        · rcases List.mem_append.1 hx with hx | hx
          · exact l2 x hx
          · simp at hx; subst hx; exact ⟨v1, by omega⟩
        · by_cases hi : i < xs.length
          · rw [List.getElem?_append_left hi] at hx
            exact l3 i x j v hx hj
          · have hi' : i = xs.length := by
              have := (List.getElem?_eq_some_iff.1 hx).1
              simp at this; omega
            subst hi'
            rw [List.getElem?_append_right (by omega)] at hx
            simp at hx; subst hx
            have hjl : j < ccs.length := by have := (List.getElem?_eq_some_iff.1 hj).1; omega
            rw [l1]
            exact ⟨ccs[j], hcc.2 j _ (List.getElem?_eq_getElem hjl), v3 j v _ hj (List.getElem?_eq_getElem hjl)⟩
    obtain ⟨xs, l1, l2, l3⟩ := step len (Nat.le_refl _)
    have hsc : ∀ x ∈ xs, ∀ v ∈ x, scalar v = true := fun x hx v hv => by
      obtain ⟨i, hi, rfl⟩ := List.mem_iff_getElem.1 hx
      obtain ⟨j, hj, rfl⟩ := List.mem_iff_getElem.1 hv
      obtain ⟨c, _, _, hs⟩ := l3 i _ j _ (List.getElem?_eq_getElem hi) (List.getElem?_eq_getElem hj)
      exact hs
    have hcw : ∀ x ∈ xs, cells (wrapV agg x) = x := fun x hx => cells_wrap (l2 x hx).2 (hsc x hx) ha
    refine ⟨[.slice 0 _ (xs.map (wrapV agg))], ⟨xs, fun x hx => (l2 x hx).1, by omega, rfl⟩, rfl, fun i v c hv hc => ?_⟩
    cases i with
    | succ i => cases hv
    | zero =>
      cases hv; cases hc
      refine ⟨?_, rfl⟩
      by_cases hl0 : len = 0
      · subst hl0
        have : xs = [] := List.eq_nil_of_length_eq_zero l1
        subst this
        exact .slice0 _ _ _
      · -- the place of the first cell
        have hx0 : 0 < xs.length := by omega
        have hlen0 := (l2 _ (List.getElem_mem hx0)).2
        obtain ⟨c0, hc0, _⟩ := l3 0 xs[0] 0 (xs[0][0]'(by omega)) (List.getElem?_eq_getElem hx0) (List.getElem?_eq_getElem (by omega))
        have hsp := cell_spot hc0
        obtain ⟨b, off, sp⟩ := a
        have : sp = none := by simpa [Addr.add] using hsp
        subst this
        have hwl : ∀ y ∈ xs.map (wrapV agg), (cells y).length = Try.prog.cellsOf e := fun y hy => by
          obtain ⟨x, hx, rfl⟩ := List.mem_map.1 hy
          rw [hcw x hx, (l2 x hx).2]
        have at_ : ∀ (j : Nat) v, ((xs.map (wrapV agg)).flatMap cells)[j]? = some v → ∃ c, W.cell? ⟨b, off + j, none⟩ = some c ∧ RepD W (phi W) v c ∧ scalar v = true := fun j v hj => by
          obtain ⟨i, u, k, hu, hk, rfl⟩ := flat_split h0 hwl j v hj
          rw [List.getElem?_map, Option.map_eq_some_iff] at hu
          obtain ⟨x, hx, rfl⟩ := hu
          rw [hcw x (List.mem_of_getElem? hx)] at hk
          obtain ⟨c, q1, q2⟩ := l3 i x k v hx hk
          refine ⟨c, ?_, q2⟩
          rw [← q1]
          unfold Addr.add
          split
          · rename_i h; rw [h]; rfl
          · rfl
        refine .slice _ _ b off len cap (fun j => (W.cell? ⟨b, off + j, none⟩).getD undef) h0 (by simp [l1]) hlc hwl (fun j v hj => ?_) (fun j v hj => ?_)
        · obtain ⟨c, q1, q2, q3⟩ := at_ j v hj
          exact ⟨phi_lt q1, by rw [q1]; rfl, q3⟩
        · obtain ⟨c, q1, q2, q3⟩ := at_ j v hj
          rw [q1]; exact q2

/-! ### Arguments -/
theorem arg_agg {t : TypeId} {Pr : List V → Prop} {v : Value} {d : DataW H} {p : List MemPlace} (ha : aggB Try.prog t = true) (h : Reads enc W t Pr) (hv : Value.okWide Try.prog W .any 0 t v) (ht : DataW.Trod enc Try.prog W 0 (fun _ => true) true t v d p) : ∃ vs, Pr vs ∧ RepD W (phi W) (.agg vs) v := by
  obtain ⟨fuel, hf⟩ := ht
  obtain ⟨vs, h1, h2, h3⟩ := h _ _ _ hf
  obtain ⟨cs, rfl, _⟩ : ∃ cs, v = .agg cs ∧ True := by
    unfold aggB at ha
    unfold Value.okWide at hv
    split at ha
    · rename_i hu; rw [hu] at hv; obtain ⟨cs, rfl, _⟩ := hv; exact ⟨cs, rfl, trivial⟩
    · rename_i hu; rw [hu] at hv; obtain ⟨cs, rfl, _⟩ := hv; exact ⟨cs, rfl, trivial⟩
    · cases ha
  refine ⟨vs, h1, .agg _ _ (by simpa [Value.cells] using h2) fun i v x hv hx => (h3 i v x hv ?_).1⟩
  simpa [Value.cells] using hx

theorem arg_one {t : TypeId} {Pr : List V → Prop} {v : Value} {d : DataW H} {p : List MemPlace} (hc : v.cells = #[v]) (h : Reads enc W t Pr) (ht : DataW.Trod enc Try.prog W 0 (fun _ => true) true t v d p) : ∃ u, Pr [u] ∧ RepD W (phi W) u v := by
  obtain ⟨fuel, hf⟩ := ht
  obtain ⟨vs, h1, h2, h3⟩ := h _ _ _ hf
  rw [hc] at h2 h3
  match vs, h2 with
  | [u], _ => exact ⟨u, h1, (h3 0 u v rfl rfl).1⟩

theorem exists_list {α : Type} {xs : List (List V)} {R : α → Prop} {g : α → List V} (h : ∀ x ∈ xs, ∃ a, R a ∧ x = g a) : ∃ l : List α, xs = l.map g ∧ ∀ a ∈ l, R a := by
  induction xs with
  | nil => exact ⟨[], rfl, fun a ha => by simp at ha⟩
  | cons x r ih =>
    obtain ⟨a, ha, rfl⟩ := h x (by simp)
    obtain ⟨l, rfl, hl⟩ := ih fun y hy => h y (by simp [hy])
    exact ⟨a :: l, rfl, fun b hb => by
      rcases List.mem_cons.1 hb with rfl | hb
      · exact ha
      · exact hl b hb⟩

end
end Go.Proofs.Ytecggpjpckicgaa

/-! The statement VolumeTimes, in the frame's terms; what arguments of the laws read as. -/
set_option linter.unusedVariables false
set_option linter.unusedSimpArgs false
set_option maxRecDepth 20000
namespace Go.Proofs.Ytecggpjpckicgaa
open Go.Am Go.ChangeShapes Go.WideShapes Go.ChangeAt Go.RowKit
attribute [local simp] cells scalar mkv splice under2 under dem dem1 boxC cellC volC intsV eB

theorem c_VolumeTimes {l : List Echo} (hl : sane l) (a b c : Int) : C Try.prog F.law10_VolumeTimes [sE l, .agg [I a, I b, I c]] (.bool true) := by
  refine C_of mixed chk.law10_VolumeTimes (by simp) fun S ok => ?_
  obtain ⟨p, q, hT⟩ : ∃ p q, TimeR a b c = .tuple [I p, I q] := by
    unfold TimeR; split
    · exact ⟨_, _, rfl⟩
    · exact ⟨_, _, rfl⟩
  obtain ⟨r, hC1, hC2⟩ : ∃ r, C Try.prog F.volume_CheckEchoes [sE l] (I r) ∧ C Try.prog F.ref10_CheckEchoes [sE l] (I r) := ⟨_, c_CheckEchoes hl, c_CheckEchoes10 hl⟩
  refine Tr.seqR rfl (by simp) ?_
  refine Tr.seqC rfl (by simp) (Steps.call rfl rfl (hT ▸ c_Time a b c) (Steps.fin rfl (by simp) ?_))
  refine Tr.seqC rfl (by simp) (Steps.call rfl rfl (hT ▸ c_Time10 a b c) (Steps.fin rfl (by simp) ?_))
  refine Tr.seqC rfl (by simp) (Steps.call rfl rfl hC1 (Steps.run rfl (by simp) ?_))
  refine Steps.call rfl rfl hC2 (Steps.run rfl (by simp) ?_)
  refine Steps.gcall rfl rfl rfl rfl (by simp) (fun _ => c_works) (Steps.fin rfl (by simp) (Tr.retX rfl rfl rfl ?_ trivial))
  simp [packR]

/-! ### What the laws' arguments read as -/
section
variable {H : Type} {enc : TypeId × Value → H} {W : World}

theorem rd_int : Reads enc W 3 (fun vs => ∃ n : Int, vs = [I n] ∧ -9223372036854775808 ≤ n ∧ n ≤ 9223372036854775807) := reads_int Try.underlying3

theorem rd_bound : Reads enc W 56 (fun vs => ∃ b : Int × Int, vs = [I b.1, I b.2]) := by
  refine (reads_struct Try.underlying56 (by kernel_rfl) (readsL_cons rd_int (readsL_cons rd_int readsL_nil))).mono ?_
  rintro vs ⟨a, b, ⟨x, rfl, _⟩, ⟨c, d, ⟨y, rfl, _⟩, rfl, rfl⟩, rfl⟩
  exact ⟨(x, y), rfl⟩

theorem rd_bounds : Reads enc W 73 (fun vs => ∃ l : List (Int × Int), l.length ≤ 9223372036854775807 ∧ vs = [sB l]) := by
  refine (reads_slice (sz := 2) true Try.underlying73 (by kernel_rfl) (by decide) (by decide) rd_bound).mono ?_
  rintro vs ⟨xs, h1, h2, rfl⟩
  obtain ⟨l, rfl, _⟩ := exists_list (R := fun _ => True) (g := fun b : Int × Int => [I b.1, I b.2]) fun x hx => by obtain ⟨b, rfl⟩ := h1 x hx; exact ⟨b, trivial, rfl⟩
  refine ⟨l, by simpa using h2, ?_⟩
  simp [sB, wrapV, Function.comp_def]

theorem rd_echo : Reads enc W 75 (fun vs => ∃ e : Echo, e.s.length ≤ 9223372036854775807 ∧ vs = [I e.x, I e.y, sB e.s]) := by
  refine (reads_struct Try.underlying75 (by kernel_rfl) (readsL_cons rd_int (readsL_cons rd_int (readsL_cons rd_bounds readsL_nil)))).mono ?_
  rintro vs ⟨a, b, ⟨x, rfl, _⟩, ⟨c, d, ⟨y, rfl, _⟩, ⟨e, f, ⟨l, hl, rfl⟩, rfl, rfl⟩, rfl⟩, rfl⟩
  exact ⟨⟨x, y, l⟩, hl, rfl⟩

theorem rd_echoes : Reads enc W 22 (fun vs => ∃ l : List Echo, sane l ∧ vs = [sE l]) := by
  refine (reads_slice (sz := 3) true Try.underlying22 (by kernel_rfl) (by decide) (by decide) rd_echo).mono ?_
  rintro vs ⟨xs, h1, h2, rfl⟩
  obtain ⟨l, rfl, hl⟩ := exists_list (R := fun e : Echo => e.s.length ≤ 9223372036854775807) (g := fun e : Echo => [I e.x, I e.y, sB e.s]) fun x hx => by obtain ⟨b, hb, rfl⟩ := h1 x hx; exact ⟨b, hb, rfl⟩
  refine ⟨l, ⟨by simpa using h2, hl⟩, ?_⟩
  simp [sE, wrapV, Function.comp_def, eE]

theorem rd_int3 : Reads enc W 23 (fun vs => ∃ a b c : Int, vs = [I a, I b, I c]) := by
  refine (reads_array Try.underlying23 (by kernel_rfl) (readsL_cons rd_int (readsL_cons rd_int (readsL_cons rd_int readsL_nil)))).mono ?_
  rintro vs ⟨a, b, ⟨x, rfl, _⟩, ⟨c, d, ⟨y, rfl, _⟩, ⟨e, f, ⟨z, rfl, _⟩, rfl, rfl⟩, rfl⟩, rfl⟩
  exact ⟨x, y, z, rfl⟩

end

theorem repR_bool {w : World} {φ : Nat → Nat} {b : Bool} {x : Value} (h : RepR w φ (.bool b) x) : x = .bool b := by
  cases h with
  | data r => cases r; rfl

theorem repL1 {w : World} {φ : Nat → Nat} {a : V} {x : Value} (h : RepD w φ a x) : RepL w φ [a] #[x] := ⟨rfl, fun i v y h1 h2 => by
  match i with
  | 0 => cases h1; cases h2; exact h
  | i + 1 => simp at h1⟩
theorem repL2 {w : World} {φ : Nat → Nat} {a b : V} {x y : Value} (h : RepD w φ a x) (k : RepD w φ b y) : RepL w φ [a, b] #[x, y] := ⟨rfl, fun i v y h1 h2 => by
  match i with
  | 0 => cases h1; cases h2; exact h
  | 1 => cases h1; cases h2; exact k
  | i + 2 => simp at h1⟩
theorem repL3 {w : World} {φ : Nat → Nat} {a b c : V} {x y z : Value} (h : RepD w φ a x) (k : RepD w φ b y) (m : RepD w φ c z) : RepL w φ [a, b, c] #[x, y, z] := ⟨rfl, fun i v y h1 h2 => by
  match i with
  | 0 => cases h1; cases h2; exact h
  | 1 => cases h1; cases h2; exact k
  | 2 => cases h1; cases h2; exact m
  | i + 3 => simp at h1⟩

/-- From a contract to the walk that a row asks for. -/
theorem walk_of {f : FuncId} {args : List V} {xs : Array Value} {W : World} (hc : C Try.prog f args (.bool true)) (hr : RepL W (phi W) args xs) : Calls Try.prog f xs W fun e W' => e = .returned (.bool true) ∧ Below W.heap.size W W' :=
  (hc.2 W (phi W) xs phi_top hr).mono fun e w' ⟨φ', x, he, hx, hb, _⟩ => ⟨by rw [he, repR_bool hx], hb⟩

theorem own : ownKnob Try.prog.godebug = none := by kernel_rfl
theorem laidOut : laidOutB Try.prog = true := by kernel_rfl

end Go.Proofs.Ytecggpjpckicgaa

/-! What further arguments of the laws read as. -/
set_option linter.unusedVariables false
set_option linter.unusedSimpArgs false
set_option maxRecDepth 20000
namespace Go.Proofs.Ytecggpjpckicgaa
open Go.Am Go.ChangeShapes Go.WideShapes Go.ChangeAt Go.RowKit

section
variable {H : Type} {enc : TypeId × Value → H} {W : World}

theorem rd_bool : Reads enc W 4 (fun vs => ∃ b : Bool, vs = [.bool b]) := reads_bool Try.underlying4

theorem rd_int2 : Reads enc W 53 (fun vs => ∃ a b : Int, vs = [I a, I b]) := by
  refine (reads_array Try.underlying53 (by kernel_rfl) (readsL_cons rd_int (readsL_cons rd_int readsL_nil))).mono ?_
  rintro vs ⟨a, b, ⟨x, rfl, _⟩, ⟨c, d, ⟨y, rfl, _⟩, rfl, rfl⟩, rfl⟩
  exact ⟨x, y, rfl⟩

theorem rd_ints : Reads enc W 30 (fun vs => ∃ l : List Int, l.length ≤ 9223372036854775807 ∧ vs = [intsV l]) := by
  refine (reads_slice (sz := 1) false Try.underlying30 (by kernel_rfl) (by decide) (fun _ => rfl) rd_int).mono ?_
  rintro vs ⟨xs, h1, h2, rfl⟩
  obtain ⟨l, rfl, _⟩ := exists_list (R := fun _ => True) (g := fun n : Int => [I n]) fun x hx => by obtain ⟨b, rfl, _⟩ := h1 x hx; exact ⟨b, trivial, rfl⟩
  refine ⟨l, by simpa using h2, ?_⟩
  simp [intsV, wrapV, Function.comp_def]

theorem rd_ints2 : Reads enc W 40 (fun vs => ∃ l : List (List Int), saneS l ∧ vs = [secV l]) := by
  refine (reads_slice (sz := 1) false Try.underlying40 (by kernel_rfl) (by decide) (fun _ => rfl) rd_ints).mono ?_
  rintro vs ⟨xs, h1, h2, rfl⟩
  obtain ⟨l, rfl, hl⟩ := exists_list (R := fun c : List Int => c.length ≤ 9223372036854775807) (g := fun c : List Int => [intsV c]) fun x hx => by obtain ⟨b, hb, rfl⟩ := h1 x hx; exact ⟨b, hb, rfl⟩
  refine ⟨l, ⟨by simpa using h2, hl⟩, ?_⟩
  simp [secV, wrapV, Function.comp_def]

theorem rd_vol : Reads enc W 32 (fun vs => ∃ v : Vol, v.v.length ≤ 9223372036854775807 ∧ vs = volC v) := by
  refine (reads_struct Try.underlying32 (by kernel_rfl) (readsL_cons rd_int3 (readsL_cons rd_int3 (readsL_cons rd_ints readsL_nil)))).mono ?_
  rintro vs ⟨a, b, ⟨x, y, z, rfl⟩, ⟨c, d, ⟨p, q, r, rfl⟩, ⟨e, f, ⟨l, hl, rfl⟩, rfl, rfl⟩, rfl⟩, rfl⟩
  exact ⟨⟨⟨x, y, z, p, q, r⟩, l⟩, hl, rfl⟩

theorem rd_other : Reads enc W 42 (fun vs => ∃ (p : List Int) (l : List (List Int)), p.length ≤ 9223372036854775807 ∧ saneS l ∧ vs = [intsV p, secV l]) := by
  refine (reads_struct Try.underlying42 (by kernel_rfl) (readsL_cons rd_ints (readsL_cons rd_ints2 readsL_nil))).mono ?_
  rintro vs ⟨a, b, ⟨p, hp, rfl⟩, ⟨c, d, ⟨l, hl, rfl⟩, rfl, rfl⟩, rfl⟩
  exact ⟨p, l, hp, hl, rfl⟩

end

theorem repL0 {w : World} {φ : Nat → Nat} : RepL w φ [] #[] := ⟨rfl, fun i v y h1 h2 => by simp at h1⟩

end Go.Proofs.Ytecggpjpckicgaa

/-! Facts on the rows: what the load's head says. -/
set_option linter.unusedVariables false
set_option linter.unusedSimpArgs false
set_option maxRecDepth 100000
namespace Go.Proofs.Ytecggpjpckicgaa
open Go.Am Go.ChangeShapes Go.WideShapes Go.ChangeAt Go.RowKit

noncomputable def headL : List Char := ([104, 97, 114, 110, 101, 115, 115, 32, 99, 53, 48, 102, 100, 50, 56, 53, 48, 55, 56, 48, 99, 56, 100, 97, 55, 49, 51, 99, 49, 57, 53, 98, 51, 50, 101, 54, 53, 101, 102, 100, 52, 52, 98, 55, 97, 56, 99, 55, 102, 56, 99, 102, 50, 53, 97, 99, 99, 56, 98, 50, 102, 98, 49, 55, 49, 102, 100, 56, 52, 51, 97, 51, 32, 99, 117, 116, 32, 97, 116, 32, 112, 97, 114, 97, 118, 97, 110, 101, 47, 112, 97, 114, 97, 118, 97, 110, 101, 108, 97, 119, 49, 48, 46, 86, 111, 108, 117, 109, 101, 84, 105, 109, 101, 115, 32, 112, 97, 114, 97, 118, 97, 110, 101, 47, 112, 97, 114, 97, 118, 97, 110, 101, 108, 97, 119, 49, 48, 46, 86, 111, 108, 117, 109, 101, 74, 111, 105, 110, 115, 32, 112, 97, 114, 97, 118, 97, 110, 101, 47, 112, 97, 114, 97, 118, 97, 110, 101, 108, 97, 119, 49, 48, 46, 86, 111, 108, 117, 109, 101, 85, 110, 114, 117, 110, 103, 32, 112, 97, 114, 97, 118, 97, 110, 101, 47, 112, 97, 114, 97, 118, 97, 110, 101, 108, 97, 119, 49, 48, 46, 86, 111, 108, 117, 109, 101, 84, 111, 112, 32, 112, 97, 114, 97, 118, 97, 110, 101, 47, 112, 97, 114, 97, 118, 97, 110, 101, 108, 97, 119, 49, 48, 46, 86, 111, 108, 117, 109, 101, 83, 109, 111, 111, 116, 104, 32, 112, 97, 114, 97, 118, 97, 110, 101, 47, 112, 97, 114, 97, 118, 97, 110, 101, 108, 97, 119, 49, 48, 46, 86, 111, 108, 117, 109, 101, 82, 101, 97, 99, 104] : List Nat).map Char.ofNat
theorem head_chars : Try.prog.initOrder = String.ofList (([104, 97, 114, 110, 101, 115, 115, 32, 99, 53, 48, 102, 100, 50, 56, 53, 48, 55, 56, 48, 99, 56, 100, 97, 55, 49, 51, 99, 49, 57, 53, 98, 51, 50, 101, 54, 53, 101, 102, 100, 52, 52, 98, 55, 97, 56, 99, 55, 102, 56, 99, 102, 50, 53, 97, 99, 99, 56, 98, 50, 102, 98, 49, 55, 49, 102, 100, 56, 52, 51, 97, 51, 32, 99, 117, 116, 32, 97, 116, 32, 112, 97, 114, 97, 118, 97, 110, 101, 47, 112, 97, 114, 97, 118, 97, 110, 101, 108, 97, 119, 49, 48, 46, 86, 111, 108, 117, 109, 101, 84, 105, 109, 101, 115, 32, 112, 97, 114, 97, 118, 97, 110, 101, 47, 112, 97, 114, 97, 118, 97, 110, 101, 108, 97, 119, 49, 48, 46, 86, 111, 108, 117, 109, 101, 74, 111, 105, 110, 115, 32, 112, 97, 114, 97, 118, 97, 110, 101, 47, 112, 97, 114, 97, 118, 97, 110, 101, 108, 97, 119, 49, 48, 46, 86, 111, 108, 117, 109, 101, 85, 110, 114, 117, 110, 103, 32, 112, 97, 114, 97, 118, 97, 110, 101, 47, 112, 97, 114, 97, 118, 97, 110, 101, 108, 97, 119, 49, 48, 46, 86, 111, 108, 117, 109, 101, 84, 111, 112, 32, 112, 97, 114, 97, 118, 97, 110, 101, 47, 112, 97, 114, 97, 118, 97, 110, 101, 108, 97, 119, 49, 48, 46, 86, 111, 108, 117, 109, 101, 83, 109, 111, 111, 116, 104, 32, 112, 97, 114, 97, 118, 97, 110, 101, 47, 112, 97, 114, 97, 118, 97, 110, 101, 108, 97, 119, 49, 48, 46, 86, 111, 108, 117, 109, 101, 82, 101, 97, 99, 104] : List Nat).map Char.ofNat) := by
  unfold Try.prog
  dsimp only
  show (_ : String) = _
  kernel_rfl
theorem head_list : Try.prog.initOrder.toList = headL := (congrArg String.toList head_chars).trans String.toList_ofList

section
variable (P : Program) (h : P.initOrder.toList = headL)
include h
theorem make_of : P.make = some .cut := by
  unfold Program.make
  rw [h]
  kernel_rfl
theorem headLifts_of : P.headLifts = [] := by
  unfold Program.headLifts
  rw [h]
  kernel_rfl
theorem lifts_of : P.liftsFinal = false := by
  unfold Program.liftsFinal
  rw [h, headLifts_of P h]
  kernel_rfl
theorem may_of (h1 : P.laysLater = false) (h2 : P.bearsReflect = false) (h3 : P.doorFits [] = true) : P.mayEnter = true := by
  unfold Program.mayEnter
  rw [h, h1, h2]
  have e : behindMainWord (wordsSigns headL) = "cut".toList :: (behindMainWord (wordsSigns headL)).tail := by kernel_rfl
  have e2 : stripLifts liftWords ("cut".toList :: (behindMainWord (wordsSigns headL)).tail) = ([], "cut".toList :: (behindMainWord (wordsSigns headL)).tail) := by kernel_rfl
  rw [e]
  dsimp only
  rw [e2, h3]
  first | rfl | (show (_ : Bool) = true; kernel_rfl)
end

theorem may : Try.prog.mayEnter = true := may_of _ head_list (by kernel_rfl) (by kernel_rfl) (by kernel_rfl)
theorem lifts : Try.prog.liftsFinal = false := lifts_of _ head_list
theorem made : Try.prog.make = some .cut := make_of _ head_list
theorem heard : Try.prog.stopsHeard = true := by kernel_rfl
theorem plain : Try.prog.plainKeys = false := by kernel_rfl
theorem rowed : mapsRowed Try.prog = true := by kernel_rfl

end Go.Proofs.Ytecggpjpckicgaa
