/-
  Parts of the proof, 2: the abstract machine, the compiled code, contracts of the functions, plain laws.
-/
import Derived.Test.YtkifejklnpddbaaLVKnown1


/-! Contracts: checked volumes and the place of a cell, in the specification. -/
set_option linter.unusedVariables false
set_option linter.unusedSimpArgs false
set_option maxRecDepth 20000
set_option maxHeartbeats 2000000
namespace Go.Proofs.Ytkifejklnpddbaa
open Go.Am
attribute [local simp] cells scalar mkv splice under2 under dem dem1 boxC cellC

def idxR (b : Bx) (x y z : Int) : Int := if hasB b x y z then idxOf b x y z else -1

theorem c_index10 (b : Bx) (x y z : Int) (h : b.mid) (hx : (-2000 ≤ x ∧ x ≤ 2000) ∧ (-2000 ≤ y ∧ y ≤ 2000) ∧ (-2000 ≤ z ∧ z ≤ 2000)) : C Try.prog F.ref10_index [.agg (cellC b.x b.y b.z), .agg (cellC b.a b.b b.c), .agg (cellC x y z)] (I (idxR b x y z)) := by
  obtain ⟨h1, h2, h3, h4, h5, h6⟩ := h
  obtain ⟨k1, k2, k3⟩ := hx
  have f : ∀ {p a s : Int}, (-2000 ≤ p ∧ p ≤ 2000) → (-1000 ≤ a ∧ a ≤ 1000) → (0 ≤ s ∧ s ≤ 1000) → ∀ c : Bool, (!btw (IntKind.i64.wrap (p - a)) 0 (IntKind.i64.wrap (s - 1))) = c → c = !btw p a (a + s - 1) := by
    rintro p a s hp ha hs c rfl
    rw [w64 (by omega) (by omega), w64 (by omega) (by omega)]
    congr 1
    rw [Bool.eq_iff_iff, btw_iff, btw_iff]
    omega
  refine C_of mixed chk.ref10_index (by simp) fun S ok => ?_
  refine Tr.seqR rfl (by simp) (Tr.seqR rfl (by simp) (Tr.seq (Tr.seqR rfl (by simp) (Tr.block ?_))))
  refine Tr.rounds 4 (TrN.succ ?_)
  refine Tr.seq (Tr.seqR rfl (by simp) (Tr.condT rfl (Tr.skip ?_)))
  refine Tr.seq (Tr.block (Tr.seq (Tr.seq (Tr.drawK (TraceK.run rfl (by simp) (TraceK.call rfl rfl (c_between _ _ _) (TraceK.run rfl (by simp) (.done ⟨by kernel_rfl, by kernel_rfl, ?_⟩))))))))
  refine Tr.cond rfl rfl (fun q1 => Tr.seqR rfl (by simp) (Tr.retX rfl rfl rfl ?_ trivial)) (fun q1 => Tr.skip (Tr.drawR rfl (by simp) (by kernel_rfl) (Tr.regR rfl (by simp) (TrN.succ ?_))))
  · have q1 := not_of (f (p := x) (a := b.x) (s := b.a) k1 h1 h4 true q1)
    simp [packR, idxR, hasB, q1]
  have q1 := not_of (f (p := x) (a := b.x) (s := b.a) k1 h1 h4 false q1)
  refine Tr.seq (Tr.seqR rfl (by simp) (Tr.condT rfl (Tr.skip ?_)))
  refine Tr.seq (Tr.block (Tr.seq (Tr.seq (Tr.drawK (TraceK.run rfl (by simp) (TraceK.call rfl rfl (c_between _ _ _) (TraceK.run rfl (by simp) (.done ⟨by kernel_rfl, by kernel_rfl, ?_⟩))))))))
  refine Tr.cond rfl rfl (fun q2 => Tr.seqR rfl (by simp) (Tr.retX rfl rfl rfl ?_ trivial)) (fun q2 => Tr.skip (Tr.drawR rfl (by simp) (by kernel_rfl) (Tr.regR rfl (by simp) (TrN.succ ?_))))
  · have q2 := not_of (f (p := y) (a := b.y) (s := b.b) k2 h2 h5 true q2)
    simp [packR, idxR, hasB, q2]
  have q2 := not_of (f (p := y) (a := b.y) (s := b.b) k2 h2 h5 false q2)
  refine Tr.seq (Tr.seqR rfl (by simp) (Tr.condT rfl (Tr.skip ?_)))
  refine Tr.seq (Tr.block (Tr.seq (Tr.seq (Tr.drawK (TraceK.run rfl (by simp) (TraceK.call rfl rfl (c_between _ _ _) (TraceK.run rfl (by simp) (.done ⟨by kernel_rfl, by kernel_rfl, ?_⟩))))))))
  refine Tr.cond rfl rfl (fun q3 => Tr.seqR rfl (by simp) (Tr.retX rfl rfl rfl ?_ trivial)) (fun q3 => Tr.skip (Tr.drawR rfl (by simp) (by kernel_rfl) (Tr.regR rfl (by simp) (TrN.succ ?_))))
  · have q3 := not_of (f (p := z) (a := b.z) (s := b.c) k3 h3 h6 true q3)
    simp [packR, idxR, hasB, q3]
  have q3 := not_of (f (p := z) (a := b.z) (s := b.c) k3 h3 h6 false q3)
  refine Tr.seq (Tr.seqR rfl (by simp) (Tr.condF rfl (Tr.exit ?_)))
  refine Tr.seqR rfl (by simp) (Tr.retX rfl rfl rfl ?_ trivial)
  have e : hasB b x y z = true := by
    have q1 : btw x b.x (b.x + b.a - 1) = true := q1
    have q2 : btw y b.y (b.y + b.b - 1) = true := q2
    have q3 : btw z b.z (b.z + b.c - 1) = true := q3
    simp [hasB, q1, q2, q3]
  have q1 := btw_iff _ _ _ |>.1 (show btw x b.x (b.x + b.a - 1) = true from q1)
  have q2 := btw_iff _ _ _ |>.1 (show btw y b.y (b.y + b.b - 1) = true from q2)
  have b1 := mul_bd (a := x - b.x) (b := b.b) (A := 3000) (B := 1000) (by omega) (by omega)
  have e1 : b.b * (x - b.x) + y - b.y = (x - b.x) * b.b + y - b.y := by rw [Int.mul_comm]
  have b2 := mul_bd (a := (x - b.x) * b.b + y - b.y) (b := b.c) (A := 3100000) (B := 1000) (by omega) (by omega)
  have e2 : b.c * ((x - b.x) * b.b + y - b.y) + z - b.z = ((x - b.x) * b.b + y - b.y) * b.c + z - b.z := by rw [Int.mul_comm b.c]
  simp only [packR]
  rw [show idxR b x y z = b.c * (b.b * (b.a * 0 + x - b.x) + y - b.y) + z - b.z by unfold idxR idxOf; rw [if_pos e, Int.mul_zero, Int.zero_add, e1, e2]]
  simp only [Int.mul_zero, Int.zero_add]
  rw [e1]
  have w0 : IntKind.i64.wrap (x - b.x) = x - b.x := w64 (by omega) (by omega)
  simp (disch := omega) [w64, e1]

theorem c_CheckVolume10 (v : Vol) (hl : v.v.length ≤ 9223372036854775807) : C Try.prog F.ref10_CheckVolume [.agg (volC v)] (I (if volOk v then 0 else 101)) := by
  refine C_of mixed chk.ref10_CheckVolume (by simp) fun S ok => ?_
  refine Tr.seqR rfl (by simp [volC, intsV]) ?_
  refine Tr.seq (Tr.seqC rfl (by simp [volC]) (Steps.call rfl rfl (c_box10 v.b) (Steps.fin rfl (by simp [volC, intsV]) ?_)))
  have hc : ∀ c : Bool, (bif !boxOk v.b then true else (((v.v.map I).length : Int) != IntKind.i64.wrap (IntKind.i64.wrap (v.b.a * v.b.b) * v.b.c))) = c → c = !(boxOk v.b && decide ((v.v.length : Int) = v.b.a * v.b.b * v.b.c)) := by
    rintro c rfl
    cases hB : boxOk v.b with
    | false => rfl
    | true =>
      have g := small_spec (boxOk_spec hB).1
      have m1 := mul_bd (a := v.b.a) (b := v.b.b) (A := 16) (B := 16) (by omega) (by omega)
      have m2 := mul_bd (a := v.b.a * v.b.b) (b := v.b.c) (A := 256) (B := 16) (by omega) (by omega)
      rw [w64 (n := v.b.a * v.b.b) (by omega) (by omega), w64 (by omega) (by omega), List.length_map]
      by_cases h : (v.v.length : Int) = v.b.a * v.b.b * v.b.c <;> simp [h]
  refine Tr.cond rfl rfl (fun h1 => Tr.seqR rfl (by simp) (Tr.retX rfl rfl rfl ?_ trivial)) (fun h1 => Tr.skip ?_)
  · have h1 := not_of (hc true h1)
    have : volOk v = false := by unfold volOk; rw [h1]; rfl
    simp [packR, this]
  have h1 := not_of (hc false h1)
  refine Tr.seq (Tr.seqR rfl (by simp) (Tr.block ?_))
  refine Tr.loop (fun i s => (i ≤ v.v.length ∧ (v.v.take i).all (fun n => btw n (-1099511627776) 1099511627776) = true) ∧ s = { env := [(1, .ptr 1 0), (3, I i)], bx := [(1, ⟨volC v, false⟩)], rw := [], log := [], stp := false }) (fun i => v.v.length - i) 0
    (Wk.le (.cons rfl (.refl _) (.cons rfl (.refl _) .nil)) (.cons rfl (LLe.refl _) .nil) .nil rfl rfl) ⟨⟨by omega, rfl⟩, rfl⟩ ?_
  rintro i s ⟨⟨hi, hA⟩, rfl⟩
  refine Tr.seq (Tr.seqR rfl (by simp [volC, intsV]) (Tr.cond rfl rfl (fun h3 => Tr.skip ?_) (fun h3 => Tr.exit ?_)))
  rotate_left
  · have h3 : i = v.v.length := by simp at h3; omega
    subst h3
    rw [List.take_length] at hA
    have : volOk v = true := by unfold volOk; rw [h1, hA]; rfl
    refine Tr.seqR rfl (by simp) (Tr.retX rfl rfl rfl ?_ trivial)
    simp [packR, this]
  have h3 : i < v.v.length := by simpa using h3
  refine Tr.seq (Tr.block (Tr.seqN 4 rfl (by simp [volC, intsV]; omega) ?_))
  rw [getD_map h3]
  refine Steps.run rfl (by simp) (Steps.call rfl rfl (c_between _ _ _) (Steps.fin rfl (by simp) (Tr.cond rfl rfl (fun h4 => Tr.seqR rfl (by simp) (Tr.retX rfl rfl rfl ?_ trivial)) (fun h4 => Tr.skip (Tr.regR rfl (by simp) ?_)))))
  · have h4 : btw v.v[i] (-1099511627776) 1099511627776 = false := not_of (c := true) h4.symm
    have : volOk v = false := by
      unfold volOk
      rw [List.all_eq_false.2 ⟨_, List.getElem_mem h3, by simp [h4]⟩, Bool.and_false]
    simp [packR, this]
  · have h4 : btw v.v[i] (-1099511627776) 1099511627776 = true := not_of (c := false) h4.symm
    refine ⟨i + 1, _, Wk.le (.cons rfl (.refl _) (.cons rfl (VLe.i (w64 (by omega) (by omega))) .nil)) (.cons rfl (LLe.refl _) .nil) .nil rfl rfl, ⟨⟨h3, ?_⟩, rfl⟩, by omega⟩
    rw [List.take_add_one, List.getElem?_eq_getElem h3, List.all_append, hA]
    simp [h4]

end Go.Proofs.Ytkifejklnpddbaa

/-! Contracts: the join of two volumes in the specification; the law VolumeJoins. -/
set_option linter.unusedVariables false
set_option linter.unusedSimpArgs false
set_option maxRecDepth 20000
set_option maxHeartbeats 2000000
namespace Go.Proofs.Ytkifejklnpddbaa
open Go.Am
attribute [local simp] cells scalar mkv splice under2 under dem dem1 boxC cellC

theorem any_box {a b : Vol} {u : Bx} (h : ∀ p, hasP b.b p = true → hasP u p = true) : (boxCells u).any (clash a b) = (boxCells b.b).any fun p => hasP a.b p && (atV a p != atV b p) := by
  rw [Bool.eq_iff_iff, List.any_eq_true, List.any_eq_true]
  constructor
  · rintro ⟨p, _, h2⟩
    simp only [clash, Bool.and_eq_true] at h2
    exact ⟨p, mem_box.2 h2.1.2, by rw [h2.1.1, h2.2]; rfl⟩
  · rintro ⟨p, h1, h2⟩
    simp only [Bool.and_eq_true] at h2
    have h1 := mem_box.1 h1
    exact ⟨p, mem_box.2 (h p h1), by simp only [clash, h1, h2.1, h2.2, Bool.and_self]⟩

theorem cell_bd {b : Bx} (hb : boxOk b = true) {p : Int × Int × Int} (hp : p ∈ boxCells b) : (-1000 ≤ p.1 ∧ p.1 ≤ 1000) ∧ (-1000 ≤ p.2.1 ∧ p.2.1 ≤ 1000) ∧ (-1000 ≤ p.2.2 ∧ p.2.2 ≤ 1000) := has_bd' (mem_box.1 hp) hb

theorem cell_at {v : Vol} (h : volOk v = true) {i : Nat} (hi : i < (boxCells v.b).length) (hv : i < v.v.length) : atV v (boxCells v.b)[i] = v.v[i] := by
  have hs := small_spec (boxOk_spec (volOk_spec h).1).1
  exact atV_eq (cell_idx (by omega) hi) hv

theorem c_Join10 (a b : Vol) (hla : a.v.length ≤ 9223372036854775807) (hlb : b.v.length ≤ 9223372036854775807) : C Try.prog F.ref10_Join [.agg (volC a), .agg (volC b)] (joinR .nils a b) := by
  refine C_of mixed chk.ref10_Join (by simp) fun S ok => ?_
  refine Tr.seqR rfl (by simp [volC, intsV]) ?_
  by_cases hA : volOk a = true
  rotate_left
  · have hA : volOk a = false := by simpa using hA
    have hr := c_CheckVolume10 a hla
    rw [hA] at hr
    refine Tr.seq (Tr.seqC rfl (by simp [volC]) (Steps.call rfl rfl hr (Steps.fin rfl (by simp) ?_)))
    refine Tr.seqR rfl (by simp) (Tr.condT rfl (Tr.seqR rfl (by simp) (Tr.retX rfl rfl rfl ?_ trivial)))
    simp [packR, joinR, hA, errVol]
  have hr := c_CheckVolume10 a hla
  rw [hA] at hr
  refine Tr.seq (Tr.seqC rfl (by simp [volC]) (Steps.call rfl rfl hr (Steps.fin rfl (by simp [volC, intsV]) ?_)))
  refine Tr.seqR rfl (by simp) (Tr.condF rfl (Tr.skip ?_))
  by_cases hB : volOk b = true
  rotate_left
  · have hB : volOk b = false := by simpa using hB
    have hr := c_CheckVolume10 b hlb
    rw [hB] at hr
    refine Tr.seq (Tr.seqC rfl (by simp [volC]) (Steps.call rfl rfl hr (Steps.fin rfl (by simp) ?_)))
    refine Tr.seqR rfl (by simp) (Tr.condT rfl (Tr.seqR rfl (by simp) (Tr.retX rfl rfl rfl ?_ trivial)))
    simp [packR, joinR, hA, hB, errVol]
  have hr2 := c_CheckVolume10 b hlb
  rw [hB] at hr2
  refine Tr.seq (Tr.seqC rfl (by simp [volC]) (Steps.call rfl rfl hr2 (Steps.fin rfl (by simp [volC, intsV]) ?_)))
  refine Tr.seqR rfl (by simp) (Tr.condF rfl (Tr.skip ?_))
  obtain ⟨hbA, hlA, hvA⟩ := volOk_spec hA
  obtain ⟨hbB, hlB, hvB⟩ := volOk_spec hB
  obtain ⟨hsA, hmA⟩ := boxOk_spec hbA
  obtain ⟨hsB, hmB⟩ := boxOk_spec hbB
  have gA := small_spec hsA
  have gB := small_spec hsB
  have cA : cellOk a.b.x a.b.y a.b.z = true := by simp only [boxOk, Bool.and_eq_true] at hbA; exact hbA.1.2
  have cB : cellOk b.b.x b.b.y b.b.z = true := by simp only [boxOk, Bool.and_eq_true] at hbB; exact hbB.1.2
  have kA : (-64 ≤ a.b.x ∧ a.b.x ≤ 64) ∧ (-64 ≤ a.b.y ∧ a.b.y ≤ 64) ∧ (-64 ≤ a.b.z ∧ a.b.z ≤ 64) := by
    have := cA
    simp only [Bool.and_eq_true, cellOk, btw_iff] at this; omega
  have kB : (-64 ≤ b.b.x ∧ b.b.x ≤ 64) ∧ (-64 ≤ b.b.y ∧ b.b.y ≤ 64) ∧ (-64 ≤ b.b.z ∧ b.b.z ≤ 64) := by
    have := cB
    simp only [Bool.and_eq_true, cellOk, btw_iff] at this; omega
  obtain ⟨u, hu⟩ : ∃ u, u = aroundB a.b b.b := ⟨_, rfl⟩
  have ux : u.x = min a.b.x b.b.x ∧ u.y = min a.b.y b.b.y ∧ u.z = min a.b.z b.b.z := by rw [hu]; exact ⟨rfl, rfl, rfl⟩
  have ua : u.a = max (a.b.x + a.b.a) (b.b.x + b.b.a) - min a.b.x b.b.x ∧ u.b = max (a.b.y + a.b.b) (b.b.y + b.b.b) - min a.b.y b.b.y ∧ u.c = max (a.b.z + a.b.c) (b.b.z + b.b.c) - min a.b.z b.b.z := by rw [hu]; simp only [aroundB]; omega
  have usz : (0 ≤ u.a ∧ u.a ≤ 200) ∧ (0 ≤ u.b ∧ u.b ≤ 200) ∧ (0 ≤ u.c ∧ u.c ≤ 200) := by omega
  have m1 := mul_bd (a := u.a) (b := u.b) (A := 200) (B := 200) (by omega) (by omega)
  have m2 := mul_bd (a := u.a * u.b) (b := u.c) (A := 40000) (B := 200) (by omega) (by omega)
  refine Tr.seqR rfl (by simp) (Tr.seqR rfl (by simp) (Tr.seq (Tr.seqR rfl (by simp) (Tr.block ?_))))
  refine Tr.rounds 4 (TrN.succ ?_)
  refine Tr.seq (Tr.seqR rfl (by simp) (Tr.condT rfl (Tr.skip ?_)))
  refine Tr.seq (Tr.block (Tr.seqD rfl (by simp [volC]) (by kernel_rfl) ?_))
  refine Tr.seqR rfl (by simp) (Tr.seqR rfl (by simp) (Tr.seqR rfl (by simp) (Tr.regR rfl (by simp) (Tr.regR rfl (by simp) ?_))))
  refine TrN.succ (Tr.weak (s' := { env := [(2, .ptr 2 0), (3, .ptr 3 0), (4, .ptr 4 0), (8, .ptr 8 0), (9, I u.a), (10, I 1)], bx := [(2, ⟨volC a, false⟩), (3, ⟨volC b, false⟩), (4, ⟨[I 0, I 0, I 0, I 0, I 0, I 0, .nils], false⟩), (8, ⟨[I u.x, I u.a, I 0, I 0, I 0, I 0], false⟩)], rw := [], log := [], stp := false })
    (Wk.le (.cons rfl (.refl _) (.cons rfl (.refl _) (.cons rfl (.refl _) (.cons rfl (.refl _) (.cons rfl (VLe.i ?_) (.cons rfl (VLe.i (by simp)) .nil))))))
      (.cons rfl (LLe.refl _) (.cons rfl (LLe.refl _) (.cons rfl (LLe.refl _) (.cons rfl (lle6 ?_ ?_ ?_ ?_ ?_ ?_) .nil)))) .nil rfl rfl) ?_)
  iterate 7
    · simp (disch := omega) [ux, ua, w64, ite_max, ite_min] <;> first | (split <;> omega) | (rw [← ua.1, ← ua.2.1, ← ua.2.2]; exact w64 (by omega) (by omega)) | (rw [← ua.1, ← ua.2.1]; exact w64 (by omega) (by omega))
  refine Tr.seq (Tr.seqR rfl (by simp) (Tr.condT rfl (Tr.skip ?_)))
  refine Tr.seq (Tr.block (Tr.seqD rfl (by simp [volC]) (by kernel_rfl) ?_))
  refine Tr.seqR rfl (by simp) (Tr.seqR rfl (by simp) (Tr.seqR rfl (by simp) (Tr.regR rfl (by simp) (Tr.regR rfl (by simp) ?_))))
  refine TrN.succ (Tr.weak (s' := { env := [(2, .ptr 2 0), (3, .ptr 3 0), (4, .ptr 4 0), (8, .ptr 8 0), (9, I (u.a * u.b)), (10, I 2)], bx := [(2, ⟨volC a, false⟩), (3, ⟨volC b, false⟩), (4, ⟨[I 0, I 0, I 0, I 0, I 0, I 0, .nils], false⟩), (8, ⟨[I u.x, I u.a, I u.y, I u.b, I 0, I 0], false⟩)], rw := [], log := [], stp := false })
    (Wk.le (.cons rfl (.refl _) (.cons rfl (.refl _) (.cons rfl (.refl _) (.cons rfl (.refl _) (.cons rfl (VLe.i ?_) (.cons rfl (VLe.i (by simp)) .nil))))))
      (.cons rfl (LLe.refl _) (.cons rfl (LLe.refl _) (.cons rfl (LLe.refl _) (.cons rfl (lle6 ?_ ?_ ?_ ?_ ?_ ?_) .nil)))) .nil rfl rfl) ?_)
  iterate 7
    · simp (disch := omega) [ux, ua, w64, ite_max, ite_min] <;> first | (split <;> omega) | (rw [← ua.1, ← ua.2.1, ← ua.2.2]; exact w64 (by omega) (by omega)) | (rw [← ua.1, ← ua.2.1]; exact w64 (by omega) (by omega))
  refine Tr.seq (Tr.seqR rfl (by simp) (Tr.condT rfl (Tr.skip ?_)))
  refine Tr.seq (Tr.block (Tr.seqD rfl (by simp [volC]) (by kernel_rfl) ?_))
  refine Tr.seqR rfl (by simp) (Tr.seqR rfl (by simp) (Tr.seqR rfl (by simp) (Tr.regR rfl (by simp) (Tr.regR rfl (by simp) ?_))))
  refine TrN.succ (Tr.weak (s' := { env := [(2, .ptr 2 0), (3, .ptr 3 0), (4, .ptr 4 0), (8, .ptr 8 0), (9, I (u.a * u.b * u.c)), (10, I 3)], bx := [(2, ⟨volC a, false⟩), (3, ⟨volC b, false⟩), (4, ⟨[I 0, I 0, I 0, I 0, I 0, I 0, .nils], false⟩), (8, ⟨[I u.x, I u.a, I u.y, I u.b, I u.z, I u.c], false⟩)], rw := [], log := [], stp := false })
    (Wk.le (.cons rfl (.refl _) (.cons rfl (.refl _) (.cons rfl (.refl _) (.cons rfl (.refl _) (.cons rfl (VLe.i ?_) (.cons rfl (VLe.i (by simp)) .nil))))))
      (.cons rfl (LLe.refl _) (.cons rfl (LLe.refl _) (.cons rfl (LLe.refl _) (.cons rfl (lle6 ?_ ?_ ?_ ?_ ?_ ?_) .nil)))) .nil rfl rfl) ?_)
  iterate 7
    · simp (disch := omega) [ux, ua, w64, ite_max, ite_min] <;> first | (split <;> omega) | (rw [← ua.1, ← ua.2.1, ← ua.2.2]; exact w64 (by omega) (by omega)) | (rw [← ua.1, ← ua.2.1]; exact w64 (by omega) (by omega))
  refine Tr.seq (Tr.seqR rfl (by simp) (Tr.condF rfl (Tr.exit ?_)))
  refine Tr.seqD rfl (by simp) (by kernel_rfl) ?_
  refine Tr.seqR rfl (by simp) ?_
  have hlen := boxCells_len' b.b (by omega)
  refine Tr.seqC rfl (by simp [volC]) (Steps.call rfl rfl (c_places10 b.b hsB cB) (Steps.fin rfl (by simp) ?_))
  have hlB' : (boxCells b.b).length = b.v.length := by unfold manyI at hlB; omega
  refine Tr.seq (Tr.seqR rfl (by simp) (Tr.block ?_))
  refine Tr.loop (fun i s => i ≤ (boxCells b.b).length ∧ s = { env := [(2, .ptr 2 0), (3, .ptr 3 0), (4, .ptr 4 0), (9, I (u.a * u.b * u.c)), (14, .ptr 14 0), (15, .ptr 15 0), (16, I (((boxCells b.b).take i).countP (hasP a.b))), (17, .bool (((boxCells b.b).take i).any fun p => hasP a.b p && (atV a p != atV b p))), (18, .slice 0 3 ((boxCells b.b).map fun p => .agg (cellC p.1 p.2.1 p.2.2))), (19, I i)], bx := [(2, ⟨volC a, false⟩), (3, ⟨volC b, false⟩), (4, ⟨[I 0, I 0, I 0, I 0, I 0, I 0, .nils], false⟩), (14, ⟨[I u.x, I u.y, I u.z], false⟩), (15, ⟨[I u.a, I u.b, I u.c], false⟩)], rw := [], log := [], stp := false }) (fun i => (boxCells b.b).length - i) 0
    (Wk.le (.cons rfl (.refl _) (.cons rfl (.refl _) (.cons rfl (.refl _) (.cons rfl (.refl _) (.cons rfl (.refl _) (.cons rfl (.refl _) (.cons rfl (.refl _) (.cons rfl (.refl _) (.cons rfl (.refl _) (.cons rfl (.refl _) .nil))))))))))
      (.cons rfl (LLe.refl _) (.cons rfl (LLe.refl _) (.cons rfl (LLe.refl _) (.cons rfl (LLe.refl _) (.cons rfl (LLe.refl _) .nil))))) .nil rfl rfl) ⟨by omega, rfl⟩ ?_
  rintro i s ⟨hi, rfl⟩
  refine Tr.seq (Tr.seqR rfl (by simp) (Tr.cond rfl rfl (fun h3 => Tr.skip ?_) (fun h3 => Tr.exit ?_)))
  · have h3 : i < (boxCells b.b).length := by simpa using h3
    have h3v : i < b.v.length := by omega
    obtain ⟨⟨x, y, z⟩, hp⟩ : ∃ p, (boxCells b.b)[i] = p := ⟨_, rfl⟩
    have hmem : (x, y, z) ∈ boxCells b.b := hp ▸ List.getElem_mem h3
    have hbd := cell_bd hbB hmem
    have hat : atV b (x, y, z) = b.v[i] := by rw [← hp]; exact cell_at hB h3 h3v
    have hci := c_index10 a.b x y z hmA (by simp only at hbd; omega)
    have hcl := List.countP_le_length (p := hasP a.b) (l := (boxCells b.b).take i)
    have htl : ((boxCells b.b).take i).length ≤ i := by rw [List.length_take]; omega
    have hct : ((boxCells b.b).take (i + 1)).countP (hasP a.b) = ((boxCells b.b).take i).countP (hasP a.b) + if hasB a.b x y z then 1 else 0 := by
      rw [List.take_add_one, List.getElem?_eq_getElem h3, hp, List.countP_append]
      simp [List.countP_cons, hasP]
    have hat2 : (((boxCells b.b).take (i + 1)).any fun p => hasP a.b p && (atV a p != atV b p)) = ((((boxCells b.b).take i).any fun p => hasP a.b p && (atV a p != atV b p)) || (hasB a.b x y z && (atV a (x, y, z) != b.v[i]))) := by
      rw [List.take_add_one, List.getElem?_eq_getElem h3, hp, List.any_append]
      simp [hasP, hat]
    by_cases hh : hasB a.b x y z = true
    · obtain ⟨i0, i1⟩ := idx_range hh
      obtain ⟨k, hk⟩ : ∃ k : Nat, idxOf a.b x y z = (k : Int) := ⟨(idxOf a.b x y z).toNat, by omega⟩
      have hkl : k < a.v.length := by unfold manyI at hlA; omega
      have hpk : atV a (x, y, z) = a.v[k] := atV_eq (p := (x, y, z)) hk hkl
      rw [show idxR a.b x y z = (k : Int) by unfold idxR; rw [if_pos hh, hk]] at hci
      rw [if_pos hh] at hct
      rw [hh, hpk, Bool.true_and] at hat2
      generalize (((boxCells b.b).take i).any fun p => hasP a.b p && (atV a p != atV b p)) = df at hat2 ⊢
      refine Tr.seq (Tr.block (Tr.seq (Tr.drawK (TraceK.runN 7 rfl (by simp [volC]; omega) ?_))))
      rw [getD_map h3, hp]
      refine TraceK.run rfl (by simp) (TraceK.call rfl rfl hci (TraceK.run rfl (by simp) (.done ⟨by kernel_rfl, by kernel_rfl, ?_⟩)))
      refine Tr.seqR rfl (by simp) (Tr.cond rfl rfl (fun h4 => ?_) (fun h4 => ?_))
      rotate_left
      · have h4 : decide ((k : Int) ≥ 0) = false := h4
        rw [decide_eq_false_iff_not] at h4; omega
      refine Tr.seqR rfl (by simp) (Tr.drawK (TraceK.runN 6 rfl (by simp [volC, intsV]; first | omega | exact fun e => ⟨by omega, e⟩ | exact fun e => by omega | trace_state) ?_))
      rw [getD_map hkl]
      refine TraceK.runN 5 rfl (by simp [volC, intsV]; first | omega | exact fun e => ⟨by omega, e⟩ | exact fun e => by omega | trace_state) ?_
      rw [getD_map h3v]
      refine TraceK.run rfl (by simp) (.done ⟨by kernel_rfl, by kernel_rfl, ?_⟩)
      refine Tr.regR rfl (by simp) ?_
      refine ⟨i + 1, _, Wk.le (.cons rfl (.refl _) (.cons rfl (.refl _) (.cons rfl (.refl _) (.cons rfl (.refl _) (.cons rfl (.refl _) (.cons rfl (.refl _) (.cons rfl (VLe.i ?_) (.cons rfl (.of_eq ?_) (.cons rfl (.refl _) (.cons rfl (VLe.i (w64 (by omega) (by omega))) .nil))))))))))
        (.cons rfl (LLe.refl _) (.cons rfl (LLe.refl _) (.cons rfl (LLe.refl _) (.cons rfl (LLe.refl _) (.cons rfl (LLe.refl _) .nil))))) .nil rfl rfl, ⟨h3, rfl⟩, by omega⟩
      · rw [hct]; push_cast; exact w64 (by omega) (by omega)
      · rw [hat2]
        cases df <;> rfl
    · have hh : hasB a.b x y z = false := by simpa using hh
      rw [show idxR a.b x y z = -1 by unfold idxR; rw [if_neg (by simp [hh])]] at hci
      rw [if_neg (by simp [hh])] at hct
      rw [hh, Bool.false_and, Bool.or_false] at hat2
      refine Tr.seq (Tr.block (Tr.seq (Tr.drawK (TraceK.runN 7 rfl (by simp [volC]; omega) ?_))))
      rw [getD_map h3, hp]
      refine TraceK.run rfl (by simp) (TraceK.call rfl rfl hci (TraceK.run rfl (by simp) (.done ⟨by kernel_rfl, by kernel_rfl, ?_⟩)))
      refine Tr.seqR rfl (by simp) (Tr.condF rfl (Tr.skip (Tr.regR rfl (by simp) ?_)))
      refine ⟨i + 1, _, Wk.le (.cons rfl (.refl _) (.cons rfl (.refl _) (.cons rfl (.refl _) (.cons rfl (.refl _) (.cons rfl (.refl _) (.cons rfl (.refl _) (.cons rfl (VLe.i ?_) (.cons rfl (.of_eq ?_) (.cons rfl (.refl _) (.cons rfl (VLe.i (w64 (by omega) (by omega))) .nil))))))))))
        (.cons rfl (LLe.refl _) (.cons rfl (LLe.refl _) (.cons rfl (LLe.refl _) (.cons rfl (LLe.refl _) (.cons rfl (LLe.refl _) .nil))))) .nil rfl rfl, ⟨h3, rfl⟩, by omega⟩
      · rw [hct]; rfl
      · rw [hat2]
  have h3 : i = (boxCells b.b).length := by simp at h3; omega
  subst h3
  rw [List.take_length]
  have hcnt : (((boxCells b.b).countP (hasP a.b) : Nat) : Int) = commonI a.b b.b := by rw [cnt_has b.b a.b (by omega), common_comm]
  rw [hcnt]
  have hany := any_box (a := a) (b := b) (u := u) fun p hp => by
    have hp : hasB b.b p.1 p.2.1 p.2.2 = true := hp
    show hasB u p.1 p.2.1 p.2.2 = true
    simp only [hasB, Bool.and_eq_true, btw_iff] at hp ⊢
    omega
  rw [← hany]
  have hcb : 0 ≤ commonI a.b b.b ∧ commonI a.b b.b ≤ 4096 := by
    have := List.countP_le_length (p := hasP a.b) (l := boxCells b.b)
    have := boxCells_len hsB
    omega
  have hq : 0 ≤ (a.v.length : Int) ∧ (a.v.length : Int) ≤ 4096 ∧ 0 ≤ (b.v.length : Int) ∧ (b.v.length : Int) ≤ 4096 := by
    have m1 := mul_bd (a := a.b.a) (b := a.b.b) (A := 16) (B := 16) (by omega) (by omega)
    have m2 := mul_bd (a := a.b.a * a.b.b) (b := a.b.c) (A := 256) (B := 16) (by omega) (by omega)
    have m3 := mul_bd (a := b.b.a) (b := b.b.b) (A := 16) (B := 16) (by omega) (by omega)
    have m4 := mul_bd (a := b.b.a * b.b.b) (b := b.b.c) (A := 256) (B := 16) (by omega) (by omega)
    unfold manyI at hlA hlB
    omega
  have hcnd : ∀ c : Bool, (IntKind.i64.wrap (IntKind.i64.wrap (((a.v.map I).length : Int) + ((b.v.map I).length : Int)) - commonI a.b b.b) != u.a * u.b * u.c) = c → c = !decide (manyI u = manyI a.b + manyI b.b - commonI a.b b.b) := by
    rintro c rfl
    rw [List.length_map, List.length_map, w64 (n := (a.v.length : Int) + (b.v.length : Int)) (by omega) (by omega), w64 (by omega) (by omega), hlA, hlB]
    show (_ != manyI u) = _
    rw [bne_comm]
    by_cases h : manyI u = manyI a.b + manyI b.b - commonI a.b b.b <;> simp [h]
  refine Tr.seq (Tr.seqR rfl (by simp [volC, intsV]) (Tr.cond rfl rfl (fun h1 => Tr.seqR rfl (by simp) (Tr.retX rfl rfl rfl ?_ trivial)) (fun h1 => Tr.skip ?_)))
  · have h2 := not_of (hcnd true h1)
    have h2 : ¬ manyI u = manyI a.b + manyI b.b - commonI a.b b.b := by simpa using h2
    simp [packR, joinR, hA, hB, ← hu, h2, errVol]
  have h2 := not_of (hcnd false h1)
  have h2 : manyI u = manyI a.b + manyI b.b - commonI a.b b.b := by simpa using h2
  have hcov : ∀ p ∈ boxCells u, hasP a.b p = true ∨ hasP b.b p = true := by
    rw [hu] at h2 ⊢; exact cover (by omega) (by omega) h2
  refine Tr.seq (Tr.seqC rfl (by simp) (Steps.call rfl rfl (c_box10 u) (Steps.fin rfl (by simp) (Tr.cond rfl rfl (fun h3 => Tr.seqR rfl (by simp) (Tr.retX rfl rfl rfl ?_ trivial)) (fun h3 => Tr.skip ?_)))))
  · have h3 : boxOk u = false := by simpa using h3
    have h3 : smallB u = false := by
      cases hs : smallB u with
      | false => rfl
      | true => rw [hu] at h3 hs; rw [around_ok hbA hbB hs] at h3; cases h3
    simp [packR, joinR, hA, hB, ← hu, h2, h3, errVol]
  have h3 : boxOk u = true := by simpa using h3
  obtain ⟨hsU, hmU⟩ := boxOk_spec h3
  have cU : cellOk u.x u.y u.z = true := by simp only [boxOk, Bool.and_eq_true] at h3; exact h3.1.2
  refine Tr.seq (Tr.seqR rfl (by simp) (Tr.cond rfl rfl (fun h4 => Tr.seqR rfl (by simp) (Tr.retX rfl rfl rfl ?_ trivial)) (fun h4 => Tr.skip ?_)))
  · simp [packR, joinR, hA, hB, ← hu, h2, hsU, h4, errVol]
  have hulen := boxCells_len hsU
  refine Tr.seqR rfl (by simp) (Tr.seqC rfl (by simp) (Steps.call rfl rfl (c_places10 u hsU cU) (Steps.fin rfl (by simp) ?_)))
  refine Tr.seq (Tr.seqR rfl (by simp) (Tr.block ?_))
  refine Tr.loop (fun i s => i ≤ (boxCells u).length ∧ s = { env := [(2, .ptr 2 0), (3, .ptr 3 0), (4, .ptr 4 0), (21, .ptr 21 0), (22, .slice 0 3 ((boxCells u).map fun p => .agg (cellC p.1 p.2.1 p.2.2))), (23, I i)], bx := [(2, ⟨volC a, false⟩), (3, ⟨volC b, false⟩), (4, ⟨[I 0, I 0, I 0, I 0, I 0, I 0, .nils], false⟩), (21, ⟨[I u.x, I u.y, I u.z, I u.a, I u.b, I u.c, .slice 194 1 (((boxCells u).take i).map fun p => I (pickV a b p))], false⟩)], rw := [(193, i, 1, 3)], log := [], stp := false }) (fun i => (boxCells u).length - i) 0
    (Wk.le (.cons rfl (.refl _) (.cons rfl (.refl _) (.cons rfl (.refl _) (.cons rfl (.refl _) (.cons rfl (.refl _) (.cons rfl (.refl _) .nil))))))
      (.cons rfl (LLe.refl _) (.cons rfl (LLe.refl _) (.cons rfl (LLe.refl _) (.cons rfl (.cons (.refl _) (.cons (.refl _) (.cons (.refl _) (.cons (.refl _) (.cons (.refl _) (.cons (.refl _) (.cons (.nil 194 1) .nil))))))) .nil)))) (.new rfl .nil) rfl rfl) ⟨by omega, rfl⟩ ?_
  rintro i s ⟨hi, rfl⟩
  refine Tr.seq (Tr.seqR rfl (by simp) (Tr.cond rfl rfl (fun h5 => Tr.skip ?_) (fun h5 => Tr.exit ?_)))
  rotate_left
  · have h5 : i = (boxCells u).length := by simp at h5; omega
    subst h5
    rw [List.take_length]
    refine Tr.seqR rfl (by simp) (Tr.retX rfl rfl rfl ?_ trivial)
    simp [packR, joinR, hA, hB, ← hu, h2, hsU, h4, volC, intsV]
  have h5 : i < (boxCells u).length := by simpa using h5
  obtain ⟨⟨x, y, z⟩, hp⟩ : ∃ p, (boxCells u)[i] = p := ⟨_, rfl⟩
  have hmem : (x, y, z) ∈ boxCells u := hp ▸ List.getElem_mem h5
  have hbd := cell_bd h3 hmem
  have hca := c_index10 a.b x y z hmA (by simp only at hbd; omega)
  have hcb := c_index10 b.b x y z hmB (by simp only at hbd; omega)
  have htk : (boxCells u).take (i + 1) = (boxCells u).take i ++ [(x, y, z)] := by rw [List.take_add_one, List.getElem?_eq_getElem h5, hp]; rfl
  by_cases hh : hasB a.b x y z = true
  · obtain ⟨i0, i1⟩ := idx_range hh
    obtain ⟨k, hk⟩ : ∃ k : Nat, idxOf a.b x y z = (k : Int) := ⟨(idxOf a.b x y z).toNat, by omega⟩
    have hkl : k < a.v.length := by unfold manyI at hlA; omega
    have hpk : pickV a b (x, y, z) = a.v[k] := by rw [pick_a (p := (x, y, z)) hh]; exact atV_eq (p := (x, y, z)) hk hkl
    rw [show idxR a.b x y z = (k : Int) by unfold idxR; rw [if_pos hh, hk]] at hca
    refine Tr.seq (Tr.block (Tr.seq (Tr.drawK (TraceK.runN 7 rfl (by simp [volC]; omega) ?_))))
    rw [getD_map h5, hp]
    refine TraceK.run rfl (by simp) (TraceK.call rfl rfl hca (TraceK.run rfl (by simp) (.done ⟨by kernel_rfl, by kernel_rfl, ?_⟩)))
    refine Tr.seqR rfl (by simp) (Tr.cond rfl rfl (fun h6 => ?_) (fun h6 => ?_))
    rotate_left
    · have h6 : decide ((k : Int) ≥ 0) = false := h6
      rw [decide_eq_false_iff_not] at h6; omega
    refine Tr.drawK (TraceK.runN 6 rfl (by simp [volC, intsV]; omega) ?_)
    rw [getD_map hkl]
    refine TraceK.run rfl (by simp; omega) (.done ⟨by kernel_rfl, by kernel_rfl, ?_⟩)
    refine Tr.regR rfl (by simp) ?_
    refine ⟨i + 1, _, Wk.le (.cons rfl (.refl _) (.cons rfl (.refl _) (.cons rfl (.refl _) (.cons rfl (.refl _) (.cons rfl (.refl _) (.cons rfl (VLe.i (w64 (by omega) (by omega))) .nil))))))
      (.cons rfl (LLe.refl _) (.cons rfl (LLe.refl _) (.cons rfl (LLe.refl _) (.cons rfl (.cons (.refl _) (.cons (.refl _) (.cons (.refl _) (.cons (.refl _) (.cons (.refl _) (.cons (.refl _) (.cons (.of_eq ?_) .nil))))))) .nil)))) (.cons ?_ .nil) rfl rfl, ⟨h5, rfl⟩, by omega⟩
    · rw [htk]; simp [hpk]
    · show some _ = some _
      simp; omega
  · have hh : hasB a.b x y z = false := by simpa using hh
    have hh2 : hasB b.b x y z = true := by
      rcases hcov _ hmem with h | h
      · have h : hasB a.b x y z = true := h
        rw [hh] at h; cases h
      · exact h
    obtain ⟨i0, i1⟩ := idx_range hh2
    obtain ⟨k, hk⟩ : ∃ k : Nat, idxOf b.b x y z = (k : Int) := ⟨(idxOf b.b x y z).toNat, by omega⟩
    have hkl : k < b.v.length := by unfold manyI at hlB; omega
    have hpk : pickV a b (x, y, z) = b.v[k] := by
      unfold pickV
      rw [if_neg (by simp [hasP, hh])]; exact atV_eq (p := (x, y, z)) hk hkl
    rw [show idxR a.b x y z = -1 by unfold idxR; rw [if_neg (by simp [hh])]] at hca
    rw [show idxR b.b x y z = (k : Int) by unfold idxR; rw [if_pos hh2, hk]] at hcb
    refine Tr.seq (Tr.block (Tr.seq (Tr.drawK (TraceK.runN 7 rfl (by simp [volC]; omega) ?_))))
    rw [getD_map h5, hp]
    refine TraceK.run rfl (by simp) (TraceK.call rfl rfl hca (TraceK.run rfl (by simp) (.done ⟨by kernel_rfl, by kernel_rfl, ?_⟩)))
    refine Tr.seqR rfl (by simp) (Tr.condF rfl ?_)
    refine Tr.seq (Tr.drawK (TraceK.runN 7 rfl (by simp [volC]; omega) ?_))
    rw [getD_map h5, hp]
    refine TraceK.run rfl (by simp) (TraceK.call rfl rfl hcb (TraceK.run rfl (by simp) (.done ⟨by kernel_rfl, by kernel_rfl, ?_⟩)))
    refine Tr.seqR rfl (by simp) (Tr.cond rfl rfl (fun h6 => ?_) (fun h6 => ?_))
    rotate_left
    · have h6 : decide ((k : Int) ≥ 0) = false := h6
      rw [decide_eq_false_iff_not] at h6; omega
    refine Tr.drawK (TraceK.runN 6 rfl (by simp [volC, intsV]; omega) ?_)
    rw [getD_map hkl]
    refine TraceK.run rfl (by simp; omega) (.done ⟨by kernel_rfl, by kernel_rfl, ?_⟩)
    refine Tr.regR rfl (by simp) ?_
    refine ⟨i + 1, _, Wk.le (.cons rfl (.refl _) (.cons rfl (.refl _) (.cons rfl (.refl _) (.cons rfl (.refl _) (.cons rfl (.refl _) (.cons rfl (VLe.i (w64 (by omega) (by omega))) .nil))))))
      (.cons rfl (LLe.refl _) (.cons rfl (LLe.refl _) (.cons rfl (LLe.refl _) (.cons rfl (.cons (.refl _) (.cons (.refl _) (.cons (.refl _) (.cons (.refl _) (.cons (.refl _) (.cons (.refl _) (.cons (.of_eq ?_) .nil))))))) .nil)))) (.cons ?_ .nil) rfl rfl, ⟨h5, rfl⟩, by omega⟩
    · rw [htk]; simp [hpk]
    · show some _ = some _
      simp; omega

end Go.Proofs.Ytkifejklnpddbaa

/-! The law VolumeJoins. -/
set_option linter.unusedVariables false
set_option linter.unusedSimpArgs false
set_option maxRecDepth 20000
set_option maxHeartbeats 2000000
namespace Go.Proofs.Ytkifejklnpddbaa
open Go.Am
attribute [local simp] cells scalar mkv splice under2 under dem dem1 boxC cellC volC

def noVol : Vol := ⟨⟨0, 0, 0, 0, 0, 0⟩, []⟩

theorem joined_len {a b : Vol} (h : joinOk a b) : (joined a b).v.length ≤ 4096 := by
  have := boxCells_len h.small
  simp only [joined, List.length_map]
  omega

theorem join_form (a b : Vol) : ∃ (w : Vol) (e : Int), joinR (intsV []) a b = .tuple [.agg (volC w), I e] ∧ w.v.length ≤ 9223372036854775807 := by
  by_cases h : joinOk a b
  · rcases join_cases (intsV []) a b with ⟨_, h1⟩ | ⟨h1, _⟩
    · exact ⟨_, _, h1, by have := joined_len h; omega⟩
    · exact absurd h h1
  · obtain ⟨e, _, h1⟩ := join_err h
    exact ⟨noVol, e, h1 _, by simp [noVol]⟩

theorem c_VolumeJoins (a b : Vol) (hla : a.v.length ≤ 9223372036854775807) (hlb : b.v.length ≤ 9223372036854775807) : C Try.prog F.law10_VolumeJoins [.agg (volC a), .agg (volC b)] (.bool true) := by
  obtain ⟨w, e, hr, hw⟩ := join_form a b
  have k1 := (c_Join a b hla hlb).le fun _ _ _ h => join_le h
  have k2 := (c_Join10 a b hla hlb).le fun _ _ _ h => join_le h
  rw [hr] at k1 k2
  refine C_of mixed chk.law10_VolumeJoins (by simp) fun S ok => ?_
  refine Tr.seqR rfl (by simp [intsV]) ?_
  refine Tr.seqC rfl (by simp) (Steps.call rfl rfl k1 (Steps.fin rfl (by simp [intsV]) ?_))
  refine Tr.seqC rfl (by simp) (Steps.call rfl rfl k2 (Steps.fin rfl (by simp [intsV]) ?_))
  refine Tr.seqC rfl (by simp) (Steps.call rfl rfl (c_SameVolume w w hw) (Steps.run rfl (by simp) ?_))
  refine Steps.gcall rfl rfl rfl rfl (by simp) (fun _ => c_works) (Steps.fin rfl (by simp) (Tr.retX rfl rfl rfl ?_ trivial))
  simp [packR]

end Go.Proofs.Ytkifejklnpddbaa

/-! The law VolumeAgrees. -/
set_option linter.unusedVariables false
set_option linter.unusedSimpArgs false
set_option maxRecDepth 20000
set_option maxHeartbeats 2000000
namespace Go.Proofs.Ytkifejklnpddbaa
open Go.Am
attribute [local simp] cells scalar mkv splice under2 under dem dem1 boxC cellC volC

theorem c_same (w : Vol) (hw : w.v.length ≤ 9223372036854775807) : C Try.prog F.ref10_SameVolume [.agg (volC w), .agg (volC w)] (.bool true) := by
  have h := c_SameVolume w w hw
  rw [decide_eq_true (by simp)] at h
  exact h

theorem cut_to {v w : Vol} {b : Bx} (hl : v.v.length ≤ 9223372036854775807) (hv : volOk v = true) (hc : cutOk v b = true) (hw : part v b = w) : C Try.prog F.volume_Cut [.agg (volC v), .agg (cellC b.x b.y b.z), .agg (cellC b.a b.b b.c)] (.tuple [.agg (volC w), I 0]) := by
  have h := c_Cut v b hl
  rw [show cutR .nils v b = .tuple [.agg (volC w), I 0] by unfold cutR; rw [if_pos hv, if_pos hc, hw]] at h
  exact h

theorem c_VolumeAgrees (a b : Vol) (hla : a.v.length ≤ 9223372036854775807) (hlb : b.v.length ≤ 9223372036854775807) : C Try.prog F.law10_VolumeAgrees [.agg (volC a), .agg (volC b)] (.bool true) := by
  have k1 := (c_Join a b hla hlb).le fun _ _ _ h => join_le h
  have k2 := (c_Join b a hlb hla).le fun _ _ _ h => join_le h
  refine C_of mixed chk.law10_VolumeAgrees (by simp) fun S ok => ?_
  refine Tr.seqR rfl (by simp [intsV]) ?_
  by_cases h : joinOk a b
  · rcases join_cases (intsV []) a b with ⟨_, h1⟩ | ⟨h1, _⟩
    rotate_left
    · exact absurd h h1
    rcases join_cases (intsV []) b a with ⟨_, h2⟩ | ⟨h2, _⟩
    rotate_left
    · exact absurd h.comm h2
    rw [h1] at k1
    rw [h2, ← joined_comm h] at k2
    have hxl : (joined a b).v.length ≤ 9223372036854775807 := by have := joined_len h; omega
    have k3 := cut_to hxl (joined_ok h) (cut_a h).1 (cut_a h).2
    have k4 := cut_to hxl (joined_ok h) (cut_b h).1 (cut_b h).2
    generalize joined a b = w at k1 k2 k3 k4 hxl
    refine Tr.seqC rfl (by simp) (Steps.call rfl rfl k1 (Steps.fin rfl (by simp [intsV]) ?_))
    refine Tr.seqC rfl (by simp) (Steps.call rfl rfl k2 (Steps.fin rfl (by simp [intsV]) ?_))
    refine Tr.seq (Tr.seqR rfl (by simp) (Tr.condF rfl (Tr.skip ?_)))
    refine Tr.seqC rfl (by simp) (Steps.call rfl rfl k3 (Steps.fin rfl (by simp [intsV]) ?_))
    refine Tr.seqC rfl (by simp) (Steps.call rfl rfl k4 (Steps.fin rfl (by simp [intsV]) ?_))
    refine Tr.seqC rfl (by simp) (Steps.gcall rfl rfl rfl rfl (by simp) (fun _ => c_same w hxl) (Steps.run rfl (by simp) ?_))
    refine Steps.gcall rfl rfl rfl rfl (by simp) (fun _ => c_same a hla) (Steps.run rfl (by simp) ?_)
    refine Steps.gcall rfl rfl rfl rfl (by simp) (fun _ => c_same b hlb) (Steps.run rfl (by simp) ?_)
    refine Steps.gcall rfl rfl rfl rfl (by simp) (fun _ => c_works) (Steps.fin rfl (by simp) (Tr.retX rfl rfl rfl ?_ trivial))
    simp [packR]
  · obtain ⟨e, he, h1⟩ := join_err h
    obtain ⟨f, hf, h2⟩ := join_err (a := b) (b := a) (fun h' => h h'.comm)
    rw [h1] at k1
    rw [h2] at k2
    refine Tr.seqC rfl (by simp) (Steps.call rfl rfl k1 (Steps.fin rfl (by simp [intsV]) ?_))
    refine Tr.seqC rfl (by simp) (Steps.call rfl rfl k2 (Steps.fin rfl (by simp [intsV]) ?_))
    refine Tr.seq (Tr.seqR rfl (by simp) (Tr.cond rfl rfl (fun h3 => ?_) (fun h3 => ?_)))
    rotate_left
    · have h3 : (e != 0) = false := h3
      simp at h3; exact absurd h3 he
    refine Tr.seqC rfl (by simp [intsV]) (Steps.gcall rfl rfl rfl rfl (by simp) (fun _ => c_works) (Steps.fin rfl (by simp) (Tr.retX rfl rfl rfl ?_ trivial)))
    simp [packR, hf, intsV]

end Go.Proofs.Ytkifejklnpddbaa

/-! Contracts: volumes that are checked, and their parts in the specification. -/
set_option linter.unusedVariables false
set_option linter.unusedSimpArgs false
set_option maxRecDepth 20000
set_option maxHeartbeats 2000000
namespace Go.Proofs.Ytkifejklnpddbaa
open Go.Am
attribute [local simp] cells scalar mkv splice under2 under dem dem1 boxC cellC

theorem c_CheckVolume (v : Vol) (hl : v.v.length ≤ 9223372036854775807) : C Try.prog F.volume_CheckVolume [.agg (volC v)] (I (if volOk v then 0 else 101)) := by
  refine C_of mixed chk.volume_CheckVolume (by simp) fun S ok => ?_
  refine Tr.seqR rfl (by simp [volC, intsV]) ?_
  have h := c_blockOf v hl
  unfold blockR at h
  cases hv : volOk v with
  | true =>
    rw [hv] at h
    exact Tr.seqC rfl (by simp [volC]) (Steps.call rfl rfl h (Steps.fin rfl (by simp [volC, intsV]) (Tr.seqR rfl (by simp) (Tr.retX rfl rfl rfl rfl trivial))))
  | false =>
    rw [hv] at h
    exact Tr.seqC rfl (by simp [volC]) (Steps.call rfl rfl h (Steps.fin rfl (by simp [volC, intsV]) (Tr.seqR rfl (by simp) (Tr.retX rfl rfl rfl rfl trivial))))

theorem cut_all {v : Vol} {b : Bx} (hb : boxOk b = true) (h : ∀ p ∈ boxCells b, hasP v.b p = true) : cutOk v b = true := by
  have g := small_spec (boxOk_spec hb).1
  unfold cutOk
  rw [hb, Bool.true_and, Bool.and_eq_true]
  constructor
  · refine h _ (mem_box.2 ?_)
    show hasB b b.x b.y b.z = true
    simp only [hasB, Bool.and_eq_true, btw_iff]; omega
  · refine h _ (mem_box.2 ?_)
    show hasB b (b.x + b.a - 1) (b.y + b.b - 1) (b.z + b.c - 1) = true
    simp only [hasB, Bool.and_eq_true, btw_iff]; omega

theorem c_Cut10 (v : Vol) (b : Bx) (hl : v.v.length ≤ 9223372036854775807) : C Try.prog F.ref10_Cut [.agg (volC v), .agg (cellC b.x b.y b.z), .agg (cellC b.a b.b b.c)] (cutR .nils v b) := by
  refine C_of mixed chk.ref10_Cut (by simp) fun S ok => ?_
  refine Tr.seqR rfl (by simp [volC, intsV]) ?_
  have hr := c_CheckVolume10 v hl
  by_cases hV : volOk v = true
  rotate_left
  · have hV : volOk v = false := by simpa using hV
    rw [hV] at hr
    refine Tr.seq (Tr.seqC rfl (by simp [volC]) (Steps.call rfl rfl hr (Steps.fin rfl (by simp) ?_)))
    refine Tr.seqR rfl (by simp) (Tr.condT rfl (Tr.seqR rfl (by simp) (Tr.retX rfl rfl rfl ?_ trivial)))
    simp [packR, cutR, hV, errVol]
  rw [hV] at hr
  refine Tr.seq (Tr.seqC rfl (by simp [volC]) (Steps.call rfl rfl hr (Steps.fin rfl (by simp [volC, intsV]) ?_)))
  refine Tr.seqR rfl (by simp) (Tr.condF rfl (Tr.skip ?_))
  obtain ⟨hbV, hlV, hvV⟩ := volOk_spec hV
  obtain ⟨hsV, hmV⟩ := boxOk_spec hbV
  refine Tr.seq (Tr.seqC rfl (by simp) (Steps.call rfl rfl (c_box10 b) (Steps.fin rfl (by simp) (Tr.cond rfl rfl (fun h3 => Tr.seqR rfl (by simp) (Tr.retX rfl rfl rfl ?_ trivial)) (fun h3 => Tr.skip ?_)))))
  · have h3 : boxOk b = false := by simpa using h3
    have : cutOk v b = false := by unfold cutOk; rw [h3]; rfl
    simp [packR, cutR, hV, this, errVol]
  have h3 : boxOk b = true := by simpa using h3
  obtain ⟨hsB, hmB⟩ := boxOk_spec h3
  have cB : cellOk b.x b.y b.z = true := by have := h3; simp only [boxOk, Bool.and_eq_true] at this; exact this.1.2
  have hlen := boxCells_len hsB
  refine Tr.seqR rfl (by simp) (Tr.seqC rfl (by simp) (Steps.call rfl rfl (c_places10 b hsB cB) (Steps.fin rfl (by simp) ?_)))
  refine Tr.seq (Tr.seqR rfl (by simp) (Tr.block ?_))
  refine Tr.loop (fun i s => (i ≤ (boxCells b).length ∧ ∀ p ∈ (boxCells b).take i, hasP v.b p = true) ∧ s = { env := [(3, .ptr 3 0), (6, .ptr 6 0), (9, .ptr 9 0), (10, .slice 0 3 ((boxCells b).map fun p => .agg (cellC p.1 p.2.1 p.2.2))), (11, I i)], bx := [(3, ⟨volC v, false⟩), (6, ⟨[I 0, I 0, I 0, I 0, I 0, I 0, .nils], false⟩), (9, ⟨[I b.x, I b.y, I b.z, I b.a, I b.b, I b.c, .slice 57 1 (((boxCells b).take i).map fun p => I (atV v p))], false⟩)], rw := [(56, i, 1, 3)], log := [], stp := false }) (fun i => (boxCells b).length - i) 0
    (Wk.le (.cons rfl (.refl _) (.cons rfl (.refl _) (.cons rfl (.refl _) (.cons rfl (.refl _) (.cons rfl (.refl _) .nil)))))
      (.cons rfl (LLe.refl _) (.cons rfl (LLe.refl _) (.cons rfl (.cons (.refl _) (.cons (.refl _) (.cons (.refl _) (.cons (.refl _) (.cons (.refl _) (.cons (.refl _) (.cons (.nil 57 1) .nil))))))) .nil))) (.new rfl .nil) rfl rfl) ⟨⟨by omega, by simp⟩, rfl⟩ ?_
  rintro i s ⟨⟨hi, hAll⟩, rfl⟩
  refine Tr.seq (Tr.seqR rfl (by simp) (Tr.cond rfl rfl (fun h5 => Tr.skip ?_) (fun h5 => Tr.exit ?_)))
  rotate_left
  · have h5 : i = (boxCells b).length := by simp at h5; omega
    subst h5
    rw [List.take_length] at hAll ⊢
    have hc := cut_all h3 hAll
    refine Tr.seqR rfl (by simp) (Tr.retX rfl rfl rfl ?_ trivial)
    simp [packR, cutR, hV, hc, part, volC, intsV]
  have h5 : i < (boxCells b).length := by simpa using h5
  obtain ⟨⟨x, y, z⟩, hp⟩ : ∃ p, (boxCells b)[i] = p := ⟨_, rfl⟩
  have hmem : (x, y, z) ∈ boxCells b := hp ▸ List.getElem_mem h5
  have hbd := cell_bd h3 hmem
  have hca := c_index10 v.b x y z hmV (by simp only at hbd; omega)
  have htk : (boxCells b).take (i + 1) = (boxCells b).take i ++ [(x, y, z)] := by rw [List.take_add_one, List.getElem?_eq_getElem h5, hp]; rfl
  by_cases hh : hasB v.b x y z = true
  · obtain ⟨i0, i1⟩ := idx_range hh
    obtain ⟨k, hk⟩ : ∃ k : Nat, idxOf v.b x y z = (k : Int) := ⟨(idxOf v.b x y z).toNat, by omega⟩
    have hkl : k < v.v.length := by unfold manyI at hlV; omega
    have hpk : atV v (x, y, z) = v.v[k] := atV_eq (p := (x, y, z)) hk hkl
    rw [show idxR v.b x y z = (k : Int) by unfold idxR; rw [if_pos hh, hk]] at hca
    refine Tr.seq (Tr.block (Tr.seq (Tr.drawK (TraceK.runN 7 rfl (by simp [volC]; omega) ?_))))
    rw [getD_map h5, hp]
    refine TraceK.run rfl (by simp) (TraceK.call rfl rfl hca (TraceK.run rfl (by simp) (.done ⟨by kernel_rfl, by kernel_rfl, ?_⟩)))
    refine Tr.seq (Tr.seqR rfl (by simp) (Tr.cond rfl rfl (fun h6 => ?_) (fun h6 => Tr.skip ?_)))
    · have h6 : decide ((k : Int) < 0) = true := h6
      rw [decide_eq_true_eq] at h6; omega
    refine Tr.drawK (TraceK.runN 6 rfl (by simp [volC, intsV]; omega) ?_)
    rw [getD_map hkl]
    refine TraceK.run rfl (by simp; omega) (.done ⟨by kernel_rfl, by kernel_rfl, ?_⟩)
    refine Tr.regR rfl (by simp) ?_
    refine ⟨i + 1, _, Wk.le (.cons rfl (.refl _) (.cons rfl (.refl _) (.cons rfl (.refl _) (.cons rfl (.refl _) (.cons rfl (VLe.i (w64 (by omega) (by omega))) .nil)))))
      (.cons rfl (LLe.refl _) (.cons rfl (LLe.refl _) (.cons rfl (.cons (.refl _) (.cons (.refl _) (.cons (.refl _) (.cons (.refl _) (.cons (.refl _) (.cons (.refl _) (.cons (.of_eq ?_) .nil))))))) .nil))) (.cons ?_ .nil) rfl rfl, ⟨⟨h5, ?_⟩, rfl⟩, by omega⟩
    · rw [htk]; simp [hpk]
    · show some _ = some _
      simp; omega
    · intro p hp'
      rw [htk, List.mem_append] at hp'
      rcases hp' with h | h
      · exact hAll p h
      · rw [List.mem_singleton] at h
        subst h; exact hh
  · have hh : hasB v.b x y z = false := by simpa using hh
    have hc : cutOk v b = false := by
      cases hcc : cutOk v b with
      | false => rfl
      | true =>
        have h : hasB v.b x y z = true := mem_box.1 (cut_in hcc hmem)
        rw [hh] at h; cases h
    rw [show idxR v.b x y z = -1 by unfold idxR; rw [if_neg (by simp [hh])]] at hca
    refine Tr.seq (Tr.block (Tr.seq (Tr.drawK (TraceK.runN 7 rfl (by simp [volC]; omega) ?_))))
    rw [getD_map h5, hp]
    refine TraceK.run rfl (by simp) (TraceK.call rfl rfl hca (TraceK.run rfl (by simp) (.done ⟨by kernel_rfl, by kernel_rfl, ?_⟩)))
    refine Tr.seq (Tr.seqR rfl (by simp) (Tr.condT rfl (Tr.seqR rfl (by simp) (Tr.retX rfl rfl rfl ?_ trivial))))
    simp [packR, cutR, hV, hc, errVol]

end Go.Proofs.Ytkifejklnpddbaa

/-! Contracts: seals of volumes. -/
set_option linter.unusedVariables false
set_option linter.unusedSimpArgs false
set_option maxRecDepth 20000
set_option maxHeartbeats 2000000
namespace Go.Proofs.Ytkifejklnpddbaa
open Go.Am
attribute [local simp] cells scalar mkv splice under2 under dem dem1 boxC cellC

def stepS (n x : Int) : Int := (n * 48271 + x + 2199023255552) % 2147483647
def boxL (b : Bx) : List Int := [b.x, b.y, b.z, b.a, b.b, b.c]
def sealOf (v : Vol) : Int := (boxL v.b ++ v.v).foldl stepS 1
def sealR (v : Vol) : V := if volOk v then .tuple [I (sealOf v), I 0] else .tuple [I 0, I 101]

theorem stepS_bd (n x : Int) : 0 ≤ stepS n x ∧ stepS n x < 2147483647 := ⟨Int.emod_nonneg _ (by omega), Int.emod_lt_of_pos _ (by omega)⟩

theorem stepS_eq {n x : Int} (hn : 0 ≤ n ∧ n < 2147483647) (hx : -1099511627776 ≤ x ∧ x ≤ 1099511627776) :
    (IntKind.i64.wrap (IntKind.i64.wrap (IntKind.i64.wrap (n * 48271) + x) + 2199023255552)).tmod 2147483647 = stepS n x := by
  rw [w64 (n := n * 48271) (by omega) (by omega), w64 (n := n * 48271 + x) (by omega) (by omega), w64 (by omega) (by omega)]
  exact Int.tmod_eq_emod_of_nonneg (by omega)

theorem fold_bd (l : List Int) (n : Int) (hn : 0 ≤ n ∧ n < 2147483647) : 0 ≤ l.foldl stepS n ∧ l.foldl stepS n < 2147483647 := by
  induction l generalizing n with
  | nil => exact hn
  | cons x r ih => exact ih _ (stepS_bd n x)

theorem boxL_bd {b : Bx} (h : boxOk b = true) : ∀ x ∈ boxL b, -1099511627776 ≤ x ∧ x ≤ 1099511627776 := by
  have g := small_spec (boxOk_spec h).1
  simp only [boxOk, Bool.and_eq_true, cellOk, btw_iff] at h
  intro x hx
  simp only [boxL, List.mem_cons, List.not_mem_nil, or_false] at hx
  omega

theorem c_Seal10 (v : Vol) (hl : v.v.length ≤ 9223372036854775807) : C Try.prog F.ref10_Seal [.agg (volC v)] (sealR v) := by
  refine C_of mixed chk.ref10_Seal (by simp) fun S ok => ?_
  refine Tr.seqR rfl (by simp [volC, intsV]) ?_
  have hr := c_CheckVolume10 v hl
  by_cases hV : volOk v = true
  rotate_left
  · have hV : volOk v = false := by simpa using hV
    rw [hV] at hr
    refine Tr.seq (Tr.seqC rfl (by simp [volC]) (Steps.call rfl rfl hr (Steps.fin rfl (by simp) ?_)))
    refine Tr.seqR rfl (by simp) (Tr.condT rfl (Tr.seqR rfl (by simp) (Tr.retX rfl rfl rfl ?_ trivial)))
    simp [packR, sealR, hV]
  rw [hV] at hr
  refine Tr.seq (Tr.seqC rfl (by simp [volC]) (Steps.call rfl rfl hr (Steps.fin rfl (by simp [volC, intsV]) ?_)))
  refine Tr.seqR rfl (by simp) (Tr.condF rfl (Tr.skip ?_))
  obtain ⟨hbV, hlV, hvV⟩ := volOk_spec hV
  have hlen := boxCells_len (boxOk_spec hbV).1
  have hl4 : v.v.length ≤ 4096 := by
    have g := small_spec (boxOk_spec hbV).1
    have := boxCells_len' v.b (by omega)
    unfold manyI at hlV; omega
  refine Tr.seqR rfl (by simp) (Tr.seq (Tr.seqR rfl (by simp) (Tr.block ?_)))
  refine Tr.weak (s' := { env := [(1, .ptr 1 0), (5, .slice 26 1 []), (6, I 0)], bx := [(1, ⟨[I v.b.x, I v.b.y, I v.b.z, I v.b.a, I v.b.b, I v.b.c, intsV v.v], false⟩)], rw := [(25, 0, 1, 3)], log := [], stp := false })
    (Wk.le (.cons rfl (.refl _) (.cons rfl (.nil 26 1) (.cons rfl (.refl _) .nil))) (.cons rfl (LLe.refl _) .nil) (.new rfl .nil) rfl rfl) ?_
  refine Tr.rounds 4 (TrN.succ ?_)
  refine Tr.seq (Tr.seqR rfl (by simp) (Tr.condT rfl (Tr.skip ?_)))
  refine Tr.seq (Tr.block ?_)
  refine Tr.regR rfl (by simp [volC]) (Tr.regR rfl (by simp) (TrN.succ ?_))
  refine Tr.weak (s' := { env := [(1, .ptr 1 0), (5, .slice 26 1 [I v.b.x]), (6, I 1)], bx := [(1, ⟨volC v, false⟩)], rw := [(25, 1, 1, 3)], log := [], stp := false })
    (Wk.le (.cons rfl (.refl _) (.cons rfl (.refl _) (.cons rfl (.refl _) .nil))) (.cons rfl (LLe.refl _) .nil) (.cons rfl .nil) rfl rfl) ?_
  refine Tr.seq (Tr.seqR rfl (by simp) (Tr.condT rfl (Tr.skip ?_)))
  refine Tr.seq (Tr.block ?_)
  refine Tr.regR rfl (by simp [volC]) (Tr.regR rfl (by simp) (TrN.succ ?_))
  refine Tr.weak (s' := { env := [(1, .ptr 1 0), (5, .slice 26 1 [I v.b.x, I v.b.y]), (6, I 2)], bx := [(1, ⟨volC v, false⟩)], rw := [(25, 2, 1, 3)], log := [], stp := false })
    (Wk.le (.cons rfl (.refl _) (.cons rfl (.refl _) (.cons rfl (.refl _) .nil))) (.cons rfl (LLe.refl _) .nil) (.cons rfl .nil) rfl rfl) ?_
  refine Tr.seq (Tr.seqR rfl (by simp) (Tr.condT rfl (Tr.skip ?_)))
  refine Tr.seq (Tr.block ?_)
  refine Tr.regR rfl (by simp [volC]) (Tr.regR rfl (by simp) (TrN.succ ?_))
  refine Tr.weak (s' := { env := [(1, .ptr 1 0), (5, .slice 26 1 [I v.b.x, I v.b.y, I v.b.z]), (6, I 3)], bx := [(1, ⟨volC v, false⟩)], rw := [(25, 3, 1, 3)], log := [], stp := false })
    (Wk.le (.cons rfl (.refl _) (.cons rfl (.refl _) (.cons rfl (.refl _) .nil))) (.cons rfl (LLe.refl _) .nil) (.cons rfl .nil) rfl rfl) ?_
  refine Tr.seq (Tr.seqR rfl (by simp) (Tr.condF rfl (Tr.exit ?_)))
  refine Tr.seq (Tr.seqR rfl (by simp) (Tr.block ?_))
  refine Tr.rounds 4 (TrN.succ ?_)
  refine Tr.seq (Tr.seqR rfl (by simp) (Tr.condT rfl (Tr.skip ?_)))
  refine Tr.seq (Tr.block ?_)
  refine Tr.regR rfl (by simp [volC]) (Tr.regR rfl (by simp) (TrN.succ ?_))
  refine Tr.weak (s' := { env := [(1, .ptr 1 0), (5, .slice 26 1 [I v.b.x, I v.b.y, I v.b.z, I v.b.a]), (7, I 1)], bx := [(1, ⟨volC v, false⟩)], rw := [(25, 4, 1, 3)], log := [], stp := false })
    (Wk.le (.cons rfl (.refl _) (.cons rfl (.refl _) (.cons rfl (.refl _) .nil))) (.cons rfl (LLe.refl _) .nil) (.cons rfl .nil) rfl rfl) ?_
  refine Tr.seq (Tr.seqR rfl (by simp) (Tr.condT rfl (Tr.skip ?_)))
  refine Tr.seq (Tr.block ?_)
  refine Tr.regR rfl (by simp [volC]) (Tr.regR rfl (by simp) (TrN.succ ?_))
  refine Tr.weak (s' := { env := [(1, .ptr 1 0), (5, .slice 26 1 [I v.b.x, I v.b.y, I v.b.z, I v.b.a, I v.b.b]), (7, I 2)], bx := [(1, ⟨volC v, false⟩)], rw := [(25, 5, 1, 3)], log := [], stp := false })
    (Wk.le (.cons rfl (.refl _) (.cons rfl (.refl _) (.cons rfl (.refl _) .nil))) (.cons rfl (LLe.refl _) .nil) (.cons rfl .nil) rfl rfl) ?_
  refine Tr.seq (Tr.seqR rfl (by simp) (Tr.condT rfl (Tr.skip ?_)))
  refine Tr.seq (Tr.block ?_)
  refine Tr.regR rfl (by simp [volC]) (Tr.regR rfl (by simp) (TrN.succ ?_))
  refine Tr.weak (s' := { env := [(1, .ptr 1 0), (5, .slice 26 1 [I v.b.x, I v.b.y, I v.b.z, I v.b.a, I v.b.b, I v.b.c]), (7, I 3)], bx := [(1, ⟨volC v, false⟩)], rw := [(25, 6, 1, 3)], log := [], stp := false })
    (Wk.le (.cons rfl (.refl _) (.cons rfl (.refl _) (.cons rfl (.refl _) .nil))) (.cons rfl (LLe.refl _) .nil) (.cons rfl .nil) rfl rfl) ?_
  refine Tr.seq (Tr.seqR rfl (by simp) (Tr.condF rfl (Tr.exit ?_)))
  refine Tr.seqR rfl (by simp [volC, intsV]; omega) ?_
  have hb6 : (boxL v.b ++ v.v).length = 6 + v.v.length := by simp [boxL]; omega
  have hbd : ∀ x ∈ boxL v.b ++ v.v, -1099511627776 ≤ x ∧ x ≤ 1099511627776 := by
    intro x hx
    rcases List.mem_append.1 hx with h | h
    · exact boxL_bd hbV x h
    · exact hvV x h
  have el : (([I v.b.x, I v.b.y, I v.b.z, I v.b.a, I v.b.b, I v.b.c] : List V) ++ v.v.map I) = (boxL v.b ++ v.v).map I := by simp [boxL]
  refine Tr.seqR rfl (by simp) (Tr.seq (Tr.seqR rfl (by simp) (Tr.block ?_)))
  refine Tr.loop (fun i s => i ≤ (boxL v.b ++ v.v).length ∧ s = { env := [(5, .slice 0 1 ((boxL v.b ++ v.v).map I)), (8, I (((boxL v.b ++ v.v).take i).foldl stepS 1)), (9, I i)], bx := [], rw := [], log := [], stp := false }) (fun i => (boxL v.b ++ v.v).length - i) 0
    (Wk.le (.cons rfl (by rw [← el]; exact .dem _ _ _) (.cons rfl (.refl _) (.cons rfl (.refl _) .nil))) .nil .nil rfl rfl) ⟨by omega, rfl⟩ ?_
  rintro i s ⟨hi, rfl⟩
  refine Tr.seq (Tr.seqR rfl (by simp) (Tr.cond rfl rfl (fun h5 => Tr.skip ?_) (fun h5 => Tr.exit ?_)))
  rotate_left
  · have h5 : i = (boxL v.b ++ v.v).length := by simp at h5; simp at hi; simp; omega
    subst h5
    rw [List.take_length]
    refine Tr.seqR rfl (by simp) (Tr.retX rfl rfl rfl ?_ trivial)
    simp only [packR, sealR, hV]; rfl
  have h5 : i < (boxL v.b ++ v.v).length := by simp at h5 ⊢; omega
  refine Tr.seq (Tr.block (Tr.reg (Steps.runN 5 rfl (by simp; simp at h5; omega) ?_)))
  rw [getD_map h5]
  refine Steps.fin rfl (by simp) (Tr.regR rfl (by simp) ?_)
  obtain ⟨x, hx⟩ : ∃ x, (boxL v.b ++ v.v)[i] = x := ⟨_, rfl⟩
  have hxb := hbd x (hx ▸ List.getElem_mem h5)
  have hfb := fold_bd ((boxL v.b ++ v.v).take i) 1 (by omega)
  refine ⟨i + 1, _, Wk.le (.cons rfl (.refl _) (.cons rfl (VLe.i ?_) (.cons rfl (VLe.i (w64 (by omega) (by omega))) .nil))) .nil .nil rfl rfl, ⟨h5, rfl⟩, by omega⟩
  rw [hx, List.take_add_one, List.getElem?_eq_getElem h5, hx, List.foldl_append]
  exact stepS_eq hfb hxb

theorem c_Seal (v : Vol) (hl : v.v.length ≤ 9223372036854775807) : C Try.prog F.volume_Seal [.agg (volC v)] (sealR v) := by
  refine C_of mixed chk.volume_Seal (by simp) fun S ok => ?_
  refine Tr.seqR rfl (by simp [volC, intsV]) ?_
  have hr := c_blockOf v hl
  unfold blockR at hr
  by_cases hV : volOk v = true
  rotate_left
  · have hV : volOk v = false := by simpa using hV
    rw [hV] at hr
    refine Tr.seqC rfl (by simp [volC]) (Steps.call rfl rfl hr (Steps.fin rfl (by simp) ?_))
    refine Tr.seq (Tr.seqR rfl (by simp) (Tr.condT rfl (Tr.seqR rfl (by simp) (Tr.retX rfl rfl rfl ?_ trivial))))
    simp [packR, sealR, hV]
  rw [hV] at hr
  obtain ⟨hbV, hlV, hvV⟩ := volOk_spec hV
  have hl4 : v.v.length ≤ 4096 := by
    have hlen := boxCells_len (boxOk_spec hbV).1
    have g := small_spec (boxOk_spec hbV).1
    have := boxCells_len' v.b (by omega)
    unfold manyI at hlV; omega
  have hb := boxL_bd hbV
  simp only [boxL, List.mem_cons, List.not_mem_nil, or_false, forall_eq_or_imp, forall_eq] at hb
  obtain ⟨b0, b1, b2, b3, b4, b5⟩ := hb
  refine Tr.seqC rfl (by simp [volC]) (Steps.call rfl rfl hr (Steps.fin rfl (by simp [volC, intsV]) ?_))
  refine Tr.seq (Tr.seqR rfl (by simp) (Tr.condF rfl (Tr.skip ?_)))
  refine Tr.seqR rfl (by simp) (Tr.seq (Tr.seqD rfl (by simp [volC, intsV]) (by kernel_rfl) (Tr.block ?_)))
  obtain ⟨s0, h0⟩ : ∃ s0 : Int, s0 = 1 := ⟨_, rfl⟩
  have g0 : 0 ≤ s0 ∧ s0 < 2147483647 := by omega
  obtain ⟨s1, h1⟩ : ∃ s1, s1 = stepS s0 v.b.x := ⟨_, rfl⟩
  have g1 : 0 ≤ s1 ∧ s1 < 2147483647 := h1 ▸ stepS_bd _ _
  obtain ⟨s2, h2⟩ : ∃ s2, s2 = stepS s1 v.b.y := ⟨_, rfl⟩
  have g2 : 0 ≤ s2 ∧ s2 < 2147483647 := h2 ▸ stepS_bd _ _
  obtain ⟨s3, h3⟩ : ∃ s3, s3 = stepS s2 v.b.z := ⟨_, rfl⟩
  have g3 : 0 ≤ s3 ∧ s3 < 2147483647 := h3 ▸ stepS_bd _ _
  obtain ⟨s4, h4⟩ : ∃ s4, s4 = stepS s3 v.b.a := ⟨_, rfl⟩
  have g4 : 0 ≤ s4 ∧ s4 < 2147483647 := h4 ▸ stepS_bd _ _
  obtain ⟨s5, h5⟩ : ∃ s5, s5 = stepS s4 v.b.b := ⟨_, rfl⟩
  have g5 : 0 ≤ s5 ∧ s5 < 2147483647 := h5 ▸ stepS_bd _ _
  obtain ⟨s6, h6⟩ : ∃ s6, s6 = stepS s5 v.b.c := ⟨_, rfl⟩
  have g6 : 0 ≤ s6 ∧ s6 < 2147483647 := h6 ▸ stepS_bd _ _
  have hseal : sealOf v = v.v.foldl stepS s6 := by
    rw [h6, h5, h4, h3, h2, h1, h0]
    unfold sealOf
    rw [List.foldl_append]
    rfl
  refine Tr.weak (s' := { env := [(6, I s0), (27, .agg [.bsl 4 0 1 3, .bsl 4 3 1 3, intsV v.v]), (28, I 0)], bx := [(4, ⟨volC v, false⟩)], rw := [], log := [], stp := false })
    (Wk.le (.cons rfl (VLe.i h0.symm) (.cons rfl (.refl _) (.cons rfl (.refl _) .nil))) (.cons rfl (LLe.refl _) .nil) .nil rfl rfl) ?_
  refine Tr.rounds 4 (TrN.succ ?_)
  refine Tr.seqR rfl (by simp) (Tr.seq (Tr.condT rfl (Tr.skip ?_)))
  refine Tr.seq (Tr.block (Tr.seqR rfl (by simp [intsV]) (Tr.seqR rfl (by simp) (Tr.block ?_))))
  refine Tr.rounds 4 (TrN.succ ?_)
  refine Tr.seqR rfl (by simp) (Tr.seq (Tr.condT rfl (Tr.skip ?_)))
  refine Tr.seq (Tr.block ?_)
  refine Tr.seqR rfl (by simp [volC]) (Tr.regR rfl (by simp) (Tr.regR rfl (by simp) (TrN.succ ?_)))
  refine Tr.weak (s' := { env := [(6, I s1), (27, .agg [.bsl 4 0 1 3, .bsl 4 3 1 3, intsV v.v]), (28, I 0), (31, .bsl 4 0 1 3), (32, I 3), (33, I 1)], bx := [(4, ⟨volC v, false⟩)], rw := [], log := [], stp := false })
    (Wk.le (.cons rfl (VLe.i (h1 ▸ stepS_eq g0 b0)) (.cons rfl (.refl _) (.cons rfl (.refl _) (.cons rfl (.refl _) (.cons rfl (.refl _) (.cons rfl (VLe.i (by simp)) .nil)))))) (.cons rfl (LLe.refl _) .nil) .nil rfl rfl) ?_
  refine Tr.seqR rfl (by simp) (Tr.seq (Tr.condT rfl (Tr.skip ?_)))
  refine Tr.seq (Tr.block ?_)
  refine Tr.seqR rfl (by simp [volC]) (Tr.regR rfl (by simp) (Tr.regR rfl (by simp) (TrN.succ ?_)))
  refine Tr.weak (s' := { env := [(6, I s2), (27, .agg [.bsl 4 0 1 3, .bsl 4 3 1 3, intsV v.v]), (28, I 0), (31, .bsl 4 0 1 3), (32, I 3), (33, I 2)], bx := [(4, ⟨volC v, false⟩)], rw := [], log := [], stp := false })
    (Wk.le (.cons rfl (VLe.i (h2 ▸ stepS_eq g1 b1)) (.cons rfl (.refl _) (.cons rfl (.refl _) (.cons rfl (.refl _) (.cons rfl (.refl _) (.cons rfl (VLe.i (by simp)) .nil)))))) (.cons rfl (LLe.refl _) .nil) .nil rfl rfl) ?_
  refine Tr.seqR rfl (by simp) (Tr.seq (Tr.condT rfl (Tr.skip ?_)))
  refine Tr.seq (Tr.block ?_)
  refine Tr.seqR rfl (by simp [volC]) (Tr.regR rfl (by simp) (Tr.regR rfl (by simp) (TrN.succ ?_)))
  refine Tr.weak (s' := { env := [(6, I s3), (27, .agg [.bsl 4 0 1 3, .bsl 4 3 1 3, intsV v.v]), (28, I 0), (31, .bsl 4 0 1 3), (32, I 3), (33, I 3)], bx := [(4, ⟨volC v, false⟩)], rw := [], log := [], stp := false })
    (Wk.le (.cons rfl (VLe.i (h3 ▸ stepS_eq g2 b2)) (.cons rfl (.refl _) (.cons rfl (.refl _) (.cons rfl (.refl _) (.cons rfl (.refl _) (.cons rfl (VLe.i (by simp)) .nil)))))) (.cons rfl (LLe.refl _) .nil) .nil rfl rfl) ?_
  refine Tr.seqR rfl (by simp) (Tr.seq (Tr.condF rfl (Tr.exit ?_)))
  refine Tr.regR rfl (by simp) (TrN.succ ?_)
  refine Tr.weak (s' := { env := [(6, I s3), (27, .agg [.bsl 4 0 1 3, .bsl 4 3 1 3, intsV v.v]), (28, I 1)], bx := [(4, ⟨volC v, false⟩)], rw := [], log := [], stp := false })
    (Wk.le (.cons rfl (.refl _) (.cons rfl (.refl _) (.cons rfl (VLe.i (by simp)) .nil))) (.cons rfl (LLe.refl _) .nil) .nil rfl rfl) ?_
  refine Tr.seqR rfl (by simp) (Tr.seq (Tr.condT rfl (Tr.skip ?_)))
  refine Tr.seq (Tr.block (Tr.seqR rfl (by simp [intsV]) (Tr.seqR rfl (by simp) (Tr.block ?_))))
  refine Tr.rounds 4 (TrN.succ ?_)
  refine Tr.seqR rfl (by simp) (Tr.seq (Tr.condT rfl (Tr.skip ?_)))
  refine Tr.seq (Tr.block ?_)
  refine Tr.seqR rfl (by simp [volC]) (Tr.regR rfl (by simp) (Tr.regR rfl (by simp) (TrN.succ ?_)))
  refine Tr.weak (s' := { env := [(6, I s4), (27, .agg [.bsl 4 0 1 3, .bsl 4 3 1 3, intsV v.v]), (28, I 1), (31, .bsl 4 3 1 3), (32, I 3), (33, I 1)], bx := [(4, ⟨volC v, false⟩)], rw := [], log := [], stp := false })
    (Wk.le (.cons rfl (VLe.i (h4 ▸ stepS_eq g3 b3)) (.cons rfl (.refl _) (.cons rfl (.refl _) (.cons rfl (.refl _) (.cons rfl (.refl _) (.cons rfl (VLe.i (by simp)) .nil)))))) (.cons rfl (LLe.refl _) .nil) .nil rfl rfl) ?_
  refine Tr.seqR rfl (by simp) (Tr.seq (Tr.condT rfl (Tr.skip ?_)))
  refine Tr.seq (Tr.block ?_)
  refine Tr.seqR rfl (by simp [volC]) (Tr.regR rfl (by simp) (Tr.regR rfl (by simp) (TrN.succ ?_)))
  refine Tr.weak (s' := { env := [(6, I s5), (27, .agg [.bsl 4 0 1 3, .bsl 4 3 1 3, intsV v.v]), (28, I 1), (31, .bsl 4 3 1 3), (32, I 3), (33, I 2)], bx := [(4, ⟨volC v, false⟩)], rw := [], log := [], stp := false })
    (Wk.le (.cons rfl (VLe.i (h5 ▸ stepS_eq g4 b4)) (.cons rfl (.refl _) (.cons rfl (.refl _) (.cons rfl (.refl _) (.cons rfl (.refl _) (.cons rfl (VLe.i (by simp)) .nil)))))) (.cons rfl (LLe.refl _) .nil) .nil rfl rfl) ?_
  refine Tr.seqR rfl (by simp) (Tr.seq (Tr.condT rfl (Tr.skip ?_)))
  refine Tr.seq (Tr.block ?_)
  refine Tr.seqR rfl (by simp [volC]) (Tr.regR rfl (by simp) (Tr.regR rfl (by simp) (TrN.succ ?_)))
  refine Tr.weak (s' := { env := [(6, I s6), (27, .agg [.bsl 4 0 1 3, .bsl 4 3 1 3, intsV v.v]), (28, I 1), (31, .bsl 4 3 1 3), (32, I 3), (33, I 3)], bx := [(4, ⟨volC v, false⟩)], rw := [], log := [], stp := false })
    (Wk.le (.cons rfl (VLe.i (h6 ▸ stepS_eq g5 b5)) (.cons rfl (.refl _) (.cons rfl (.refl _) (.cons rfl (.refl _) (.cons rfl (.refl _) (.cons rfl (VLe.i (by simp)) .nil)))))) (.cons rfl (LLe.refl _) .nil) .nil rfl rfl) ?_
  refine Tr.seqR rfl (by simp) (Tr.seq (Tr.condF rfl (Tr.exit ?_)))
  refine Tr.regR rfl (by simp) (TrN.succ ?_)
  refine Tr.weak (s' := { env := [(6, I s6), (27, .agg [.bsl 4 0 1 3, .bsl 4 3 1 3, intsV v.v]), (28, I 2)], bx := [(4, ⟨volC v, false⟩)], rw := [], log := [], stp := false })
    (Wk.le (.cons rfl (.refl _) (.cons rfl (.refl _) (.cons rfl (VLe.i (by simp)) .nil))) (.cons rfl (LLe.refl _) .nil) .nil rfl rfl) ?_
  refine Tr.seqR rfl (by simp) (Tr.seq (Tr.condT rfl (Tr.skip ?_)))
  refine Tr.seq (Tr.block (Tr.seqR rfl (by simp [intsV]) (Tr.seqR rfl (by simp) (Tr.block ?_))))
  refine Tr.loop (fun i s => i ≤ v.v.length ∧ s = { env := [(6, I ((v.v.take i).foldl stepS s6)), (27, .agg [.bsl 4 0 1 3, .bsl 4 3 1 3, intsV v.v]), (28, I 2), (31, intsV v.v), (32, I v.v.length), (33, I i)], bx := [(4, ⟨volC v, false⟩)], rw := [], log := [], stp := false }) (fun i => v.v.length - i) 0
    (Wk.le (.cons rfl (.refl _) (.cons rfl (.refl _) (.cons rfl (.refl _) (.cons rfl (.refl _) (.cons rfl (VLe.i (by simp)) (.cons rfl (.refl _) .nil)))))) (.cons rfl (LLe.refl _) .nil) .nil rfl rfl) ⟨by omega, rfl⟩ ?_
  rintro i s ⟨hi, rfl⟩
  refine Tr.seqR rfl (by simp) (Tr.seq (Tr.cond rfl rfl (fun h5 => Tr.skip ?_) (fun h5 => Tr.exit ?_)))
  rotate_left
  · have h5 : i = v.v.length := by simp at h5; omega
    subst h5
    rw [List.take_length]
    refine Tr.regR rfl (by simp) (TrN.succ ?_)
    refine Tr.seqR rfl (by simp) (Tr.seq (Tr.condF rfl (Tr.exit ?_)))
    refine Tr.seqR rfl (by simp) (Tr.retX rfl rfl rfl ?_ trivial)
    simp [packR, sealR, hV, hseal]
  have h5 : i < v.v.length := by simpa using h5
  refine Tr.seq (Tr.block (Tr.seqN 1 rfl (by simp [intsV]; omega) ?_))
  rw [getD_map h5]
  refine Steps.fin rfl (by simp) (Tr.regR rfl (by simp) (Tr.regR rfl (by simp) ?_))
  have hfb := fold_bd (v.v.take i) s6 g6
  refine ⟨i + 1, _, Wk.le (.cons rfl (VLe.i ?_) (.cons rfl (.refl _) (.cons rfl (.refl _) (.cons rfl (.refl _) (.cons rfl (.refl _) (.cons rfl (VLe.i (w64 (by omega) (by omega))) .nil)))))) (.cons rfl (LLe.refl _) .nil) .nil rfl rfl, ⟨h5, rfl⟩, by omega⟩
  rw [List.take_add_one, List.getElem?_eq_getElem h5, List.foldl_append]
  exact stepS_eq hfb (hvV _ (List.getElem_mem h5))

end Go.Proofs.Ytkifejklnpddbaa

/-! The law VolumeCuts. -/
set_option linter.unusedVariables false
set_option linter.unusedSimpArgs false
set_option maxRecDepth 20000
set_option maxHeartbeats 2000000
namespace Go.Proofs.Ytkifejklnpddbaa
open Go.Am
attribute [local simp] cells scalar mkv splice under2 under dem dem1 boxC cellC volC

theorem cut_form (v : Vol) (b : Bx) : ∃ (w : Vol) (e : Int), cutR (intsV []) v b = .tuple [.agg (volC w), I e] ∧ w.v.length ≤ 9223372036854775807 := by
  unfold cutR
  by_cases h1 : volOk v = true
  · rw [if_pos h1]
    by_cases h2 : cutOk v b = true
    · rw [if_pos h2]
      refine ⟨_, _, rfl, ?_⟩
      have hb : boxOk b = true := by unfold cutOk at h2; simp only [Bool.and_eq_true] at h2; exact h2.1.1
      have := boxCells_len (boxOk_spec hb).1
      simp only [part, List.length_map]; omega
    · rw [if_neg h2]
      exact ⟨noVol, _, rfl, by simp [noVol]⟩
  · rw [if_neg h1]
    exact ⟨noVol, _, rfl, by simp [noVol]⟩

theorem seal_form (v : Vol) : ∃ n e : Int, sealR v = .tuple [I n, I e] := by
  unfold sealR
  split
  · exact ⟨_, _, rfl⟩
  · exact ⟨_, _, rfl⟩

theorem c_VolumeCuts (v : Vol) (x y z a b c : Int) (hl : v.v.length ≤ 9223372036854775807) : C Try.prog F.law10_VolumeCuts [.agg (volC v), .agg [I x, I y, I z], .agg [I a, I b, I c]] (.bool true) := by
  obtain ⟨w, e, hr, hw⟩ := cut_form v ⟨x, y, z, a, b, c⟩
  obtain ⟨n, f, hs⟩ := seal_form v
  have k1 := (c_Cut v ⟨x, y, z, a, b, c⟩ hl).le fun _ _ _ h => cut_le h
  have k2 := (c_Cut10 v ⟨x, y, z, a, b, c⟩ hl).le fun _ _ _ h => cut_le h
  have k3 := c_Seal v hl
  have k4 := c_Seal10 v hl
  rw [hr] at k1 k2
  rw [hs] at k3 k4
  have k5 := c_CheckVolume v hl
  have k6 := c_CheckVolume10 v hl
  generalize (if volOk v then (0 : Int) else 101) = q at k5 k6
  refine C_of mixed chk.law10_VolumeCuts (by simp) fun S ok => ?_
  refine Tr.seqR rfl (by simp [intsV]) ?_
  refine Tr.seq (Tr.seq (Tr.drawK (TraceK.run rfl (by simp) (TraceK.call rfl rfl k5 (TraceK.run rfl (by simp) (TraceK.call rfl rfl k6 (TraceK.run rfl (by simp) (.done ⟨by kernel_rfl, by kernel_rfl, ?_⟩))))))))
  refine Tr.cond rfl rfl (fun h => ?_) (fun _ => Tr.skip ?_)
  · have h : (q != q) = true := h
    simp at h
  refine Tr.seqC rfl (by simp) (Steps.call rfl rfl k1 (Steps.fin rfl (by simp [intsV]) ?_))
  refine Tr.seqC rfl (by simp) (Steps.call rfl rfl k2 (Steps.fin rfl (by simp [intsV]) ?_))
  refine Tr.seq (Tr.seqC rfl (by simp) (Steps.call rfl rfl (c_same w hw) (Steps.fin rfl (by simp) ?_)))
  refine Tr.cond rfl rfl (fun h => ?_) (fun _ => Tr.skip ?_)
  · have h : (bif !true then true else (e != e)) = true := h
    simp at h
  refine Tr.seqC rfl (by simp) (Steps.call rfl rfl k3 (Steps.fin rfl (by simp) ?_))
  refine Tr.seqC rfl (by simp) (Steps.call rfl rfl k4 (Steps.fin rfl (by simp) ?_))
  refine Tr.seqC rfl (by simp) (Steps.gcall rfl rfl rfl rfl (by simp) (fun _ => c_works) (Steps.fin rfl (by simp) (Tr.retX rfl rfl rfl ?_ trivial)))
  simp [packR]

end Go.Proofs.Ytkifejklnpddbaa

/-! Weakening within a region; arguments that are nil. -/
set_option linter.unusedVariables false
set_option linter.unusedSimpArgs false
set_option maxRecDepth 20000
namespace Go.Am
open Go.RowKit

theorem Steps.weak {E : Env} {s s' : St} {i : Ins} {r : List Ins} {K : St → Prop} (h : Wk E s s') (k : Steps E (i :: r) K s') : Steps E (i :: r) K s := by
  refine Step1.raw fun slots ops o j ro n a w hh hc hs hi R Q next hn => ?_
  obtain ⟨h', R', hy⟩ := h a w hh R
  exact step_ok (k : Step1 E i (Steps E r K) s') hc hs hi R' fun s'' a' w' h'' k R ey => hn s'' a' w' h'' k R (ey.trans hy)

theorem repD_nil {w : World} {φ : Nat → Nat} {sz : Nat} {x : Value} (h : RepD w φ .nils x) : RepD w φ (.slice 0 sz []) x := by
  cases h; exact .slice0 _ _ _

theorem C.nil1 {P : Program} {f : FuncId} {sz : Nat} {r : V} (h : C P f [.slice 0 sz []] r) : C P f [.nils] r := by
  refine ⟨h.1, fun w φ xs ht hr => h.2 w φ xs ht ⟨hr.1, fun i v x hv hx => ?_⟩⟩
  cases i with
  | zero =>
    simp at hv; subst hv
    exact repD_nil (hr.2 0 _ x rfl hx)
  | succ i => simp at hv

theorem C.nilAgg {P : Program} {f : FuncId} {sz : Nat} {r : V} {l1 l2 : List V} (h : C P f [.agg (l1 ++ .slice 0 sz [] :: l2)] r) : C P f [.agg (l1 ++ .nils :: l2)] r := by
  refine ⟨h.1, fun w φ xs ht hr => h.2 w φ xs ht ⟨hr.1, fun i v x hv hx => ?_⟩⟩
  cases i with
  | zero =>
    simp at hv; subst hv
    have h1 := hr.2 0 _ x rfl hx
    cases h1 with
    | agg _ vs hl hh =>
      refine .agg _ _ (by simpa using hl) fun j u z hu hz => ?_
      by_cases hj : j = l1.length
      · subst hj
        simp at hu; subst hu
        exact repD_nil (hh l1.length _ z (by simp) hz)
      · refine hh j u z ?_ hz
        rcases Nat.lt_or_ge j l1.length with h2 | h2
        · rw [List.getElem?_append_left h2] at hu ⊢; exact hu
        · rw [List.getElem?_append_right h2] at hu ⊢
          obtain ⟨m, hm⟩ : ∃ m, j - l1.length = m + 1 := ⟨j - l1.length - 1, by omega⟩
          rw [hm] at hu ⊢
          simpa using hu
  | succ i => simp at hv

end Go.Am

namespace Go.Proofs.Ytkifejklnpddbaa
open Go.Am

def L65 : List (Int × Int) := List.replicate 65 (0, 0)
def longE : List Echo := [⟨0, 0, L65⟩, ⟨2, 0, [(0, 0), (1, 1), (2, 2), (7, 7)]⟩]
def loudE : List Echo := [⟨0, 0, [(0, 16777217)]⟩, ⟨2, 0, [(0, 0), (1, 1), (2, 2), (7, 7)]⟩]

theorem kn1 : CheckR longE = I 100 := by kernel_rfl
theorem kn2 : CheckR loudE = I 100 := by kernel_rfl
theorem kn3 : CheckR [⟨0, 0, []⟩] = I 100 := by kernel_rfl
theorem kn4 : CheckR [] = I 0 := by kernel_rfl
theorem kn5 : (if volOk noVol then (0 : Int) else 101) = 101 := by kernel_rfl
theorem kn6 : TimeR 65 0 0 = .tuple [I 0, I 7] := by kernel_rfl
theorem kn7 : TimeR 0 32769 0 = .tuple [I 0, I 7] := by kernel_rfl
theorem kn8 : nameS exE 0 0 (-1) 3 64 = .tuple [.agg [I 0, I 0, I 0, .slice 0 2 [], I 0, I 0], I 102] := by kernel_rfl
theorem kn9 : nameS exE 0 0 2 1 64 = .tuple [.agg [I 0, I 0, I 2, .slice 0 2 ([(0, 2)].map eB), I 5, I 5], I 0] := by kernel_rfl
theorem kn10 : encS exE ⟨0, 0, 3, 1, 1, 1⟩ 0 (0, 4096) = .tuple [.agg [I 0, I 0, I 3, I 1, I 1, I 1, .slice 0 2 ([(0, 0)].map eB)], I 0] := by kernel_rfl
theorem kn11 : encS exE ⟨2, 0, 2, 1, 1, 2⟩ 2 (64, 4096) = .tuple [.agg [I 2, I 0, I 2, I 1, I 1, I 2, .slice 0 2 ([(2, 7), (7, 7)].map eB)], I 0] := by kernel_rfl
theorem kn12 : valS exE ⟨64, 0, 0, 2, 1, 1⟩ 3 64 = .tuple [.agg [I 0, I 0, I 0, I 0, I 0, I 0, .slice 0 2 []], I 102] := by kernel_rfl
theorem kn13 : valS exE ⟨0, 0, 0, 16, 16, 5⟩ 3 64 = .tuple [.agg [I 0, I 0, I 0, I 0, I 0, I 0, .slice 0 2 []], I 102] := by kernel_rfl
theorem kn14 : ringS [1] 0 1 = .tuple [intsV [], I 2] := by kernel_rfl
theorem kn15 : ringS [1] 1 64 = .tuple [intsV [], I 2] := by kernel_rfl
theorem kn16 : unringS (List.replicate 65 0) 1 1 = .tuple [intsV [], I 2] := by kernel_rfl
theorem kn17 : ringS [-1, 0, 0] 1 1 = .tuple [intsV [-1, -1, -1], I 0] := by kernel_rfl
def vOne : Vol := ⟨⟨0, 0, 0, 1, 1, 2⟩, [3, 4]⟩
def vSide : Vol := ⟨⟨1, 0, 0, 1, 1, 1⟩, [9]⟩
def vOther : Vol := ⟨⟨0, 0, 1, 1, 1, 2⟩, [5, 5]⟩
def vLong1 : Vol := ⟨⟨0, 0, 0, 1, 1, 16⟩, List.replicate 16 0⟩
def vLong2 : Vol := ⟨⟨0, 0, 16, 1, 1, 1⟩, [0]⟩
theorem kn18 : joinR .nils vOne vSide = errVol .nils 103 := by kernel_rfl
theorem kn19 : joinR .nils vOne vOther = errVol .nils 104 := by kernel_rfl
theorem kn20 : joinR .nils vLong1 vLong2 = errVol .nils 3 := by kernel_rfl
theorem kn21 : cutR .nils vOne ⟨0, 0, 0, 1, 1, 3⟩ = errVol .nils 102 := by kernel_rfl
theorem kn22 : horR [[1], [1, 2]] 1 = .tuple [.slice 0 1 [], I 0, I 105] := by kernel_rfl
theorem kn23 : horR exS 33 = .tuple [.slice 0 1 [], I 0, I 7] := by kernel_rfl
theorem kn24 : backR exS 1 [[9, 10, 10], [4, 4, 9], [4, 0, 1]] = (0, 106) := by kernel_rfl
theorem kn25 : horR [[-5, -5], [-5, -5]] 0 = .tuple [intsV [0, 0], I (-10), I 0] := by kernel_rfl

end Go.Proofs.Ytkifejklnpddbaa

/-! Own copies; what a change of one value does to a seal. -/
set_option linter.unusedVariables false
set_option linter.unusedSimpArgs false
set_option maxRecDepth 20000
set_option maxHeartbeats 2000000
namespace Go.Proofs.Ytkifejklnpddbaa
open Go.Am
attribute [local simp] cells scalar mkv splice under2 under dem dem1

theorem flat_ints (l : List Int) : (l.map I).flatMap cells = l.map I := by
  induction l with
  | nil => rfl
  | cons a l ih => rw [List.map_cons, List.flatMap_cons, ih]; rfl

theorem ints_isD (l : List Int) : (l.map I).all isD = true := by
  rw [List.all_eq_true]
  intro x hx
  obtain ⟨n, _, rfl⟩ := List.mem_map.1 hx
  rfl

theorem ints_refs (l : List Int) (B : Nat → Bool) (R : Nat → Option (Nat × Nat × Nat)) : (l.map I).all (refsOk B R 6) = true := by
  rw [List.all_eq_true]
  intro x hx
  obtain ⟨n, _, rfl⟩ := List.mem_map.1 hx
  rfl

theorem okI {k : Nat} {l : List Int} {env : List (Nat × V)} {bx : List (Nat × Box)} {rw : List (Nat × Nat × Nat × Nat)} (h : okRefs env ((k, ⟨[], false⟩) :: bx) rw = true) : okRefs env ((k, ⟨l.map I, false⟩) :: bx) rw = true := by
  have e : hasKey ((k, (⟨l.map I, false⟩ : Box)) :: bx) = hasKey ((k, (⟨[], false⟩ : Box)) :: bx) := rfl
  unfold okRefs at h ⊢
  rw [e]
  rw [Bool.and_eq_true] at h ⊢
  refine ⟨h.1, ?_⟩
  have h2 := h.2
  rw [List.all_cons, Bool.and_eq_true] at h2 ⊢
  exact ⟨ints_refs _ _ _, h2.2⟩

theorem holds_ints (l : List Int) : Holds (l.map I) 0 1 l.length (l.map I) := by
  refine ⟨by omega, by simp, fun x hx => ?_, ?_, fun x hx => ?_⟩
  · obtain ⟨c, _, rfl⟩ := List.mem_map.1 hx; rfl
  · rw [List.drop_zero, List.take_of_length_le (by simp), flat_ints]
  · obtain ⟨c, _, rfl⟩ := List.mem_map.1 hx; rfl

theorem c_Own {l : List Int} (h0 : l ≠ []) (hl : l.length ≤ 1000000) : CO Try.prog F.ref00_Own [intsV l] 1 (l.map I) := by
  refine CO_of mixed chk.ref00_Own (by simp) fun S ok => ?_
  refine Tr.seqR rfl (by simp) (Tr.seqR rfl (by simp) ?_)
  refine Tr.seqN 2 rfl (by simp) ?_
  refine Steps.appendBox (r := 0) (ys := l.map I) rfl rfl (by omega) (by simp; omega) (by simp; omega) (by simpa using h0) ?_
  refine Steps.fin rfl (by simp) (Tr.ret ?_)
  exact ⟨6, rfl, rfl, by rw [flat_ints]; exact ints_isD l⟩

/-! ### Seals -/
def dvP (n : Int) : Prop := n % 2147483647 = 0

theorem dv_mul (n : Int) : dvP (n * 48271) ↔ dvP n := by
  unfold dvP
  constructor
  · intro h
    have h1 : (n * 48271 * 1899818559) % 2147483647 = 0 := by rw [Int.mul_emod, h]; rfl
    omega
  · intro h
    rw [Int.mul_emod, h]; rfl

theorem step_dv (n m x : Int) : dvP (stepS n x - stepS m x) ↔ dvP (n - m) := by
  rw [← dv_mul (n - m)]
  unfold dvP stepS
  omega

theorem fold_dv (L : List Int) : ∀ (n m : Int), dvP (L.foldl stepS n - L.foldl stepS m) ↔ dvP (n - m) := by
  induction L with
  | nil => intro n m; exact Iff.rfl
  | cons x L ih => intro n m; rw [List.foldl_cons, List.foldl_cons, ih, step_dv]

theorem change_dv (A B : List Int) (x d n : Int) : dvP ((A ++ (x + d) :: B).foldl stepS n - (A ++ x :: B).foldl stepS n) ↔ dvP d := by
  rw [List.foldl_append, List.foldl_append, List.foldl_cons, List.foldl_cons, fold_dv]
  unfold dvP stepS
  omega

theorem seal_bd (v : Vol) : 0 ≤ sealOf v ∧ sealOf v < 2147483647 := fold_bd _ _ (by omega)

/-- **A CHANGE OF ONE VALUE** changes the seal, unless it is by a multiple. -/
theorem seal_change (v : Vol) {k : Nat} (hk : k < v.v.length) (d : Int) : sealOf v = sealOf ⟨v.b, v.v.set k (v.v[k] + d)⟩ ↔ dvP d := by
  have e1 : boxL v.b ++ v.v = (boxL v.b ++ v.v.take k) ++ v.v[k] :: v.v.drop (k + 1) := by
    rw [List.append_assoc, ← List.drop_eq_getElem_cons hk, List.take_append_drop]
  have e2 : boxL v.b ++ v.v.set k (v.v[k] + d) = (boxL v.b ++ v.v.take k) ++ (v.v[k] + d) :: v.v.drop (k + 1) := by
    rw [List.append_assoc, List.set_eq_take_append_cons_drop, if_pos hk]
  have h := change_dv (boxL v.b ++ v.v.take k) (v.v.drop (k + 1)) v.v[k] d 1
  rw [← e1, ← e2] at h
  have b1 := seal_bd v
  have b2 := seal_bd ⟨v.b, v.v.set k (v.v[k] + d)⟩
  have f1 : sealOf v = (boxL v.b ++ v.v).foldl stepS 1 := rfl
  have f2 : sealOf ⟨v.b, v.v.set k (v.v[k] + d)⟩ = (boxL v.b ++ v.v.set k (v.v[k] + d)).foldl stepS 1 := rfl
  rw [← f1, ← f2] at h
  rw [← h]
  unfold dvP
  omega

end Go.Proofs.Ytkifejklnpddbaa

/-! The law VolumeKnown. -/
set_option linter.unusedVariables false
set_option linter.unusedSimpArgs false
set_option maxRecDepth 20000
set_option maxHeartbeats 4000000
namespace Go.Proofs.Ytkifejklnpddbaa
open Go.Am
attribute [local simp] cells scalar mkv splice under2 under dem dem1 boxC cellC volC intsV eB

theorem kS1 : C Try.prog F.volume_CheckEchoes [sE longE] (I 100) := by
  have h := c_CheckEchoes (l := longE) ⟨by simp [longE], fun e he => by simp [longE, L65] at he; rcases he with rfl | rfl <;> simp⟩
  rw [kn1] at h; exact h
theorem kS2 : C Try.prog F.volume_CheckEchoes [sE loudE] (I 100) := by
  have h := c_CheckEchoes (l := loudE) ⟨by simp [loudE], fun e he => by simp [loudE] at he; rcases he with rfl | rfl <;> simp⟩
  rw [kn2] at h; exact h
theorem kS3 : C Try.prog F.volume_CheckEchoes [sE [⟨0, 0, []⟩]] (I 100) := by
  have h := c_CheckEchoes (l := [⟨0, 0, []⟩]) ⟨by simp, fun e he => by simp at he; subst he; simp⟩
  rw [kn3] at h; exact h
theorem kS4 : C Try.prog F.volume_CheckEchoes [.nils] (I 0) := by
  have h := c_CheckEchoes (l := []) ⟨by simp, fun e he => by simp at he⟩
  rw [kn4] at h; exact C.nil1 h
theorem kS5 : C Try.prog F.volume_CheckVolume [.agg [I 0, I 0, I 0, I 0, I 0, I 0, .nils]] (I 101) := by
  have h := c_CheckVolume noVol (by simp [noVol])
  rw [kn5] at h
  exact C.nilAgg (l1 := [I 0, I 0, I 0, I 0, I 0, I 0]) (l2 := []) h

theorem holds_long : Holds [I 0, I 0, .slice 0 2 (L65.map eB), I 2, I 0, sB [(0, 0), (1, 1), (2, 2), (7, 7)]] 0 3 2 (longE.map eE) := by
  refine ⟨by omega, rfl, fun x hx => ?_, rfl, fun x hx => ?_⟩
  · obtain ⟨e, _, rfl⟩ := List.mem_map.1 hx; rfl
  · obtain ⟨e, _, rfl⟩ := List.mem_map.1 hx; rfl
theorem holds_loud : Holds [I 0, I 0, .slice 0 2 ([(0, 16777217)].map eB), I 2, I 0, sB [(0, 0), (1, 1), (2, 2), (7, 7)]] 0 3 2 (loudE.map eE) := by
  refine ⟨by omega, rfl, fun x hx => ?_, rfl, fun x hx => ?_⟩
  · obtain ⟨e, _, rfl⟩ := List.mem_map.1 hx; rfl
  · obtain ⟨e, _, rfl⟩ := List.mem_map.1 hx; rfl
theorem holds_one : Holds [I 0, I 0, .slice 0 2 []] 0 3 1 [.agg [I 0, I 0, .slice 0 2 []]] := by
  refine ⟨by omega, rfl, fun x hx => ?_, rfl, fun x hx => ?_⟩ <;> (simp at hx; subst hx; rfl)

def L65i : List Int := List.replicate 65 0
theorem L65i_eq : L65i.map I = (List.replicate 65 [I 0]).flatten := by kernel_rfl
def L16i : List Int := List.replicate 16 0
theorem L16i_eq : L16i.map I = (List.replicate 16 [I 0]).flatten := by kernel_rfl
theorem kS6 : C Try.prog F.volume_Unring [intsV L65i, I 1, I 1] (.tuple [intsV [], I 2]) := by
  have h := c_Unring L65i 1 1 (by simp [L65i])
  rw [show unringS L65i 1 1 = _ from kn16] at h
  exact h
theorem kJ1 : C Try.prog F.volume_Join [.agg (volC vOne), .agg (volC vSide)] (errVol .nils 103) := kn18 ▸ c_Join vOne vSide (by simp [vOne]) (by simp [vSide])
theorem kJ2 : C Try.prog F.volume_Join [.agg (volC vOne), .agg (volC vOther)] (errVol .nils 104) := kn19 ▸ c_Join vOne vOther (by simp [vOne]) (by simp [vOther])
theorem kJ3 : C Try.prog F.volume_Join [.agg (volC vLong1), .agg (volC vLong2)] (errVol .nils 3) := kn20 ▸ c_Join vLong1 vLong2 (by simp [vLong1]) (by simp [vLong2])
theorem kC1 : C Try.prog F.volume_Cut [.agg (volC vOne), .agg (cellC 0 0 0), .agg (cellC 1 1 3)] (errVol .nils 102) := kn21 ▸ c_Cut vOne ⟨0, 0, 0, 1, 1, 3⟩ (by simp [vOne])

theorem c_VolumeKnown : C Try.prog F.law10_VolumeKnown [] (.bool true) := by
  refine C_of mixed chk.law10_VolumeKnown (by simp) fun S ok => ?_
  refine Tr.seqR rfl (by simp) ?_
  refine Tr.seqC rfl (by simp) (Steps.callO rfl (fun _ => rfl) c_echoesO rfl (Steps.callO rfl (fun _ => rfl) c_echoesO rfl (Steps.fin rfl (by simp) ?_)))
  refine Tr.weak (s' := { env := [(1, .bsl 27 0 3 2), (2, .bsl 28 0 3 2)], bx := [(27, ⟨[I 0, I 0, sB [(0, 0), (0, 0), (5, 5), (0, 0)], I 2, I 0, sB [(0, 0), (1, 1), (2, 2), (7, 7)]], false⟩), (28, ⟨[I 0, I 0, sB [(0, 0), (0, 0), (5, 5), (0, 0)], I 2, I 0, sB [(0, 0), (1, 1), (2, 2), (7, 7)]], false⟩)], rw := [], log := [], stp := false })
    (Wk.le (.cons rfl (.refl _) (.cons rfl (.refl _) .nil)) (.cons rfl (LLe.refl _) (.cons rfl (LLe.refl _) .nil)) .nil rfl rfl) ?_
  refine Tr.seqR rfl (by simp [sB]) ?_
  refine Tr.weak (s' := { env := [(1, .bsl 27 0 3 2), (2, .bsl 28 0 3 2)], bx := [(31, ⟨flatB L65, false⟩), (27, ⟨[I 0, I 0, .bsl 31 0 2 65, I 2, I 0, sB [(0, 0), (1, 1), (2, 2), (7, 7)]], false⟩), (28, ⟨[I 0, I 0, .slice 0 2 ([(0, 16777217)].map eB), I 2, I 0, sB [(0, 0), (1, 1), (2, 2), (7, 7)]], false⟩)], rw := [], log := [], stp := false })
    (Wk.le (.cons rfl (.refl _) (.cons rfl (.refl _) .nil)) (.cons rfl (by rw [show flatB L65 = (List.replicate 65 [I 0, I 0]).flatten from (flatB_zero 65).symm]; exact LLe.refl _) (.cons rfl (LLe.refl _) (.cons rfl (.cons (.refl _) (.cons (.refl _) (.cons (.dem _ _ _) (.cons (.refl _) (.cons (.refl _) (.cons (.refl _) .nil)))))) .nil))) .nil (okF rfl) rfl) ?_
  refine Tr.weak (Wk.trans (Wk.bslB (k := 27) (j := 2) (i := 31) (by omega) rfl rfl rfl (holds_flat L65)) (Wk.trans (Wk.bsl (t := 1) rfl rfl holds_long) (Wk.bsl (t := 2) rfl rfl holds_loud))) ?_
  refine Tr.weak (s' := { env := [(1, sE longE), (2, sE loudE)], bx := [], rw := [], log := [], stp := false })
    (Wk.le (.cons rfl (.refl _) (.cons rfl (.refl _) .nil)) .nil .nil rfl rfl) ?_
  refine Tr.seq (Tr.seq (Tr.reg (Steps.runG rfl (by simp) (Steps.call rfl rfl kS1 (Steps.runG rfl (by simp) ?_)))))
  refine Steps.on rfl rfl (Steps.call rfl rfl kS2 (Steps.runG rfl (by simp) ?_))
  refine Steps.weak (Wk.trans (Wk.le (env := [(46, .bool false), (47, .bsl 47 0 3 1)]) (bx := [(47, ⟨[I 0, I 0, .slice 0 2 []], false⟩)]) (rw := []) (.cons rfl (.refl _) (.cons rfl (.refl _) .nil)) (.cons rfl (.cons (.refl _) (.cons (.refl _) (.cons (.nil 0 2) .nil))) .nil) .nil rfl rfl) (Wk.bsl (t := 47) rfl rfl holds_one)) ?_
  refine Steps.on rfl rfl (Steps.call rfl rfl kS3 (Steps.runG rfl (by simp) ?_))
  refine Steps.on rfl rfl (Steps.call rfl rfl kS4 (Steps.runG rfl (by simp) ?_))
  refine Steps.on rfl rfl (Steps.call rfl rfl kS5 (Steps.runG rfl (by simp) ?_))
  refine Tr.condF (by kernel_rfl) (Tr.skip ?_)
  refine Tr.weak (s' := { env := [], bx := [], rw := [], log := [], stp := false }) (Wk.le .nil .nil .nil rfl rfl) ?_
  refine Tr.seqC rfl (by simp) (Steps.call rfl rfl (kn6 ▸ c_Time 65 0 0) (Steps.fin rfl (by simp) ?_))
  refine Tr.seqC rfl (by simp) (Steps.call rfl rfl (kn7 ▸ c_Time 0 32769 0) (Steps.fin rfl (by simp) ?_))
  refine Tr.seqC rfl (by simp) (Steps.call rfl rfl c_echoes (Steps.run rfl (by simp) ?_))
  refine Steps.call rfl rfl (kn8 ▸ c_NameS saneE 0 0 (-1) 3 64) (Steps.fin rfl (by simp) ?_)
  refine Tr.seqC rfl (by simp) (Steps.call rfl rfl c_echoes (Steps.run rfl (by simp) ?_))
  refine Steps.call rfl rfl (kn9 ▸ c_NameS saneE 0 0 2 1 64) (Steps.fin rfl (by simp) ?_)
  refine Tr.seqC rfl (by simp) (Steps.call rfl rfl c_echoes (Steps.run rfl (by simp) ?_))
  refine Steps.call rfl rfl (kn10 ▸ c_Enclose saneE ⟨0, 0, 3, 1, 1, 1⟩ 0 (0, 4096)) (Steps.fin rfl (by simp) ?_)
  refine Tr.seqC rfl (by simp) (Steps.call rfl rfl c_echoes (Steps.run rfl (by simp) ?_))
  refine Steps.call rfl rfl (kn11 ▸ c_Enclose saneE ⟨2, 0, 2, 1, 1, 2⟩ 2 (64, 4096)) (Steps.fin rfl (by simp) ?_)
  refine Tr.seqC rfl (by simp) (Steps.call rfl rfl c_echoes (Steps.run rfl (by simp) ?_))
  refine Steps.call rfl rfl (kn12 ▸ c_Migrate saneE ⟨64, 0, 0, 2, 1, 1⟩ 3 64) (Steps.fin rfl (by simp) ?_)
  refine Tr.seqC rfl (by simp) (Steps.call rfl rfl c_echoes (Steps.run rfl (by simp) ?_))
  refine Steps.call rfl rfl (kn13 ▸ c_Migrate saneE ⟨0, 0, 0, 16, 16, 5⟩ 3 64) (Steps.fin rfl (by simp) ?_)
  refine Tr.seq (Tr.seq (Tr.reg (Steps.runG rfl (by simp) ?_)))
  refine Tr.condF (by kernel_rfl) (Tr.skip ?_)
  refine Tr.weak (s' := { env := [], bx := [], rw := [], log := [], stp := false }) (Wk.le .nil .nil .nil rfl rfl) ?_
  refine Tr.seqC rfl (by simp) (Steps.call rfl rfl (kn14 ▸ c_Ring [1] 0 1 (by simp)) (Steps.fin rfl (by simp) ?_))
  refine Tr.seqC rfl (by simp) (Steps.call rfl rfl (kn15 ▸ c_Ring [1] 1 64 (by simp)) (Steps.fin rfl (by simp) ?_))
  refine Tr.seqC rfl (by simp) ?_
  refine Steps.weak (Wk.trans (Wk.le (env := [(4, I 2), (6, I 2), (199, .bsl 199 0 1 65)]) (bx := [(199, ⟨L65i.map I, false⟩)]) (rw := []) (.cons rfl (.refl _) (.cons rfl (.refl _) (.cons rfl (.refl _) .nil))) (.cons rfl (by rw [L65i_eq]; exact LLe.refl _) .nil) .nil (okI rfl) rfl) (Wk.bsl (t := 199) rfl rfl (holds_ints L65i))) ?_
  refine Steps.call rfl rfl kS6 (Steps.fin rfl (by simp) ?_)
  refine Tr.seqC rfl (by simp) (Steps.call rfl rfl (kn17 ▸ c_Ring [-1, 0, 0] 1 1 (by simp)) (Steps.fin rfl (by simp) ?_))
  refine Tr.seq (Tr.seq (Tr.reg (Steps.runG rfl (by simp) ?_)))
  refine Steps.on rfl rfl (Steps.call rfl rfl (c_Alike [-1, -1, -1] [-1, -1, -1] (by simp)) (Steps.runG rfl (by simp) ?_))
  refine Tr.condF (by kernel_rfl) (Tr.skip ?_)
  refine Tr.weak (s' := { env := [], bx := [], rw := [], log := [], stp := false }) (Wk.le .nil .nil .nil rfl rfl) ?_
  refine Tr.seqR rfl (by simp) (Tr.seqR rfl (by simp) (Tr.seqR rfl (by simp) (Tr.seqR rfl (by simp) ?_)))
  refine Tr.weak (s' := { env := [(20, .ptr 20 0), (21, .ptr 21 0), (22, .ptr 22 0), (23, .ptr 23 0), (24, .ptr 24 0)], bx := [(240, ⟨L16i.map I, false⟩), (20, ⟨volC vOne, false⟩), (21, ⟨volC vSide, false⟩), (22, ⟨volC vOther, false⟩), (23, ⟨[I 0, I 0, I 0, I 1, I 1, I 16, .bsl 240 0 1 16], false⟩), (24, ⟨volC vLong2, false⟩)], rw := [], log := [], stp := false })
    (Wk.le (.cons rfl (.refl _) (.cons rfl (.refl _) (.cons rfl (.refl _) (.cons rfl (.refl _) (.cons rfl (.refl _) .nil))))) (.cons rfl (by rw [L16i_eq]; exact LLe.refl _) (.cons rfl (.cons (.refl _) (.cons (.refl _) (.cons (.refl _) (.cons (.refl _) (.cons (.refl _) (.cons (.refl _) (.cons (.dem _ _ _) .nil))))))) (.cons rfl (.cons (.refl _) (.cons (.refl _) (.cons (.refl _) (.cons (.refl _) (.cons (.refl _) (.cons (.refl _) (.cons (.dem _ _ _) .nil))))))) (.cons rfl (.cons (.refl _) (.cons (.refl _) (.cons (.refl _) (.cons (.refl _) (.cons (.refl _) (.cons (.refl _) (.cons (.dem _ _ _) .nil))))))) (.cons rfl (.cons (.refl _) (.cons (.refl _) (.cons (.refl _) (.cons (.refl _) (.cons (.refl _) (.cons (.refl _) (.cons (.refl _) .nil))))))) (.cons rfl (.cons (.refl _) (.cons (.refl _) (.cons (.refl _) (.cons (.refl _) (.cons (.refl _) (.cons (.refl _) (.cons (.dem _ _ _) .nil))))))) .nil)))))) .nil (okI rfl) rfl) ?_
  refine Tr.weak (Wk.bslB (k := 23) (j := 6) (i := 240) (by omega) rfl rfl rfl (holds_ints L16i)) ?_
  refine Tr.weak (s' := { env := [(20, .ptr 20 0), (21, .ptr 21 0), (22, .ptr 22 0), (23, .ptr 23 0), (24, .ptr 24 0)], bx := [(20, ⟨volC vOne, false⟩), (21, ⟨volC vSide, false⟩), (22, ⟨volC vOther, false⟩), (23, ⟨volC vLong1, false⟩), (24, ⟨volC vLong2, false⟩)], rw := [], log := [], stp := false })
    (Wk.le (.cons rfl (.refl _) (.cons rfl (.refl _) (.cons rfl (.refl _) (.cons rfl (.refl _) (.cons rfl (.refl _) .nil))))) (.cons rfl (LLe.refl _) (.cons rfl (LLe.refl _) (.cons rfl (LLe.refl _) (.cons rfl (LLe.refl _) (.cons rfl (LLe.refl _) .nil))))) .nil rfl rfl) ?_
  refine Tr.seqC rfl (by simp) (Steps.call rfl rfl kJ1 (Steps.fin rfl (by simp) ?_))
  refine Tr.seqC rfl (by simp) (Steps.call rfl rfl kJ2 (Steps.fin rfl (by simp) ?_))
  refine Tr.seqC rfl (by simp) (Steps.call rfl rfl kJ3 (Steps.fin rfl (by simp) ?_))
  refine Tr.seqC rfl (by simp) (Steps.call rfl rfl kC1 (Steps.fin rfl (by simp) ?_))
  refine Tr.weak (s' := { env := [(4, I 103), (6, I 104), (8, I 3), (10, I 102)], bx := [], rw := [], log := [], stp := false })
    (Wk.le (.cons rfl (.refl _) (.cons rfl (.refl _) (.cons rfl (.refl _) (.cons rfl (.refl _) .nil)))) .nil .nil rfl rfl) ?_
  have sn1 : saneS [[1], [1, 2]] := by unfold saneS; simp
  have sn2 : saneS [[9, 10, 10], [4, 4, 9], [4, 0, 1]] := by unfold saneS; simp
  have sn3 : saneS [[-5, -5], [-5, -5]] := by unfold saneS; simp
  refine Tr.seqC rfl (by simp) (Steps.call rfl rfl (kn22 ▸ c_Horizon sn1 1) (Steps.fin rfl (by simp) ?_))
  refine Tr.seqC rfl (by simp) (Steps.call rfl rfl c_section (Steps.run rfl (by simp) ?_))
  refine Steps.call rfl rfl (kn23 ▸ c_Horizon saneX 33) (Steps.fin rfl (by simp) ?_)
  have hB := c_Backed saneX sn2 1
  rw [kn24] at hB
  refine Tr.seqC rfl (by simp) (Steps.call rfl rfl c_section (Steps.run rfl (by simp) ?_))
  refine Steps.call rfl rfl hB (Steps.fin rfl (by simp) ?_)
  refine Tr.seqC rfl (by simp) (Steps.call rfl rfl (kn25 ▸ c_Horizon sn3 0) (Steps.fin rfl (by simp) ?_))
  refine Tr.weak (s' := { env := [(4, I 103), (6, I 104), (8, I 3), (10, I 102), (12, I 105), (14, I 7), (16, I 106), (18, I 0), (25, intsV [0, 0]), (26, I (-10))], bx := [], rw := [], log := [], stp := false })
    (Wk.le (.cons rfl (.refl _) (.cons rfl (.refl _) (.cons rfl (.refl _) (.cons rfl (.refl _) (.cons rfl (.refl _) (.cons rfl (.refl _) (.cons rfl (.refl _) (.cons rfl (.refl _) (.cons rfl (.refl _) (.cons rfl (.refl _) .nil)))))))))) .nil .nil rfl rfl) ?_
  refine Tr.seq (Tr.reg (Steps.runG rfl (by simp) ?_))
  refine Steps.on rfl rfl (Steps.call rfl rfl (c_Alike [0, 0] [0, 0] (by simp)) (Steps.runG rfl (by simp) ?_))
  refine Steps.on rfl rfl (Steps.call rfl rfl c_works (Steps.runG rfl (by simp) ?_))
  exact Tr.retX rfl rfl rfl (by kernel_rfl) trivial

end Go.Proofs.Ytkifejklnpddbaa
