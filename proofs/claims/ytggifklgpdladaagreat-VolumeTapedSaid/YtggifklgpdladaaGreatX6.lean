/-
  Parts of the proof, 6: the abstract machine, the compiled code, contracts of the functions, plain laws.
-/
import Derived.Test.YtggifklgpdladaaGreatX5
import Derived.Test.YtggifklgpdladaaGreatRows
import Derived.WalkKit
import Derived.ProofKit
import Derived.OpenShut
import Derived.ShutString
import Derived.ChangeOld
import Derived.Below
import Derived.Laws.Concat


/-! Contracts: the join of two volumes. -/
set_option linter.unusedVariables false
set_option linter.unusedSimpArgs false
set_option maxRecDepth 20000
set_option maxHeartbeats 2000000
namespace Go.Proofs.YtggifklgpdladaaGreat
open Go.Am
attribute [local simp] cells scalar mkv splice under2 under dem dem1 boxC cellC
def atV (v : Vol) (p : Int × Int × Int) : Int := v.v.getD (idxOf v.b p.1 p.2.1 p.2.2).toNat 0
def clash (a b : Vol) (p : Int × Int × Int) : Bool := hasP a.b p && hasP b.b p && (atV a p != atV b p)
def pickV (a b : Vol) (p : Int × Int × Int) : Int := if hasP a.b p then atV a p else atV b p

def errVol (nl : V) (e : Int) : V := .tuple [.agg [I 0, I 0, I 0, I 0, I 0, I 0, nl], I e]

def joinR (nl : V) (a b : Vol) : V :=
  if volOk a then (if volOk b then
    (if manyI (aroundB a.b b.b) = manyI a.b + manyI b.b - commonI a.b b.b then
      (if smallB (aroundB a.b b.b) then
        (if (boxCells (aroundB a.b b.b)).any (clash a b) then errVol nl 104 else .tuple [.agg (volC ⟨aroundB a.b b.b, (boxCells (aroundB a.b b.b)).map (pickV a b)⟩), I 0])
      else errVol nl 3)
    else errVol nl 103)
  else errVol nl 101) else errVol nl 101

theorem volOk_spec {v : Vol} (h : volOk v = true) : boxOk v.b = true ∧ (v.v.length : Int) = manyI v.b ∧ ∀ n ∈ v.v, -1099511627776 ≤ n ∧ n ≤ 1099511627776 := by
  simp only [volOk, Bool.and_eq_true, decide_eq_true_eq, List.all_eq_true, btw] at h
  exact ⟨h.1.1, h.1.2, fun n hn => by have := h.2 n hn; omega⟩

theorem atV_eq {v : Vol} {p : Int × Int × Int} {k : Nat} (h : idxOf v.b p.1 p.2.1 p.2.2 = (k : Int)) (hk : k < v.v.length) : atV v p = v.v[k] := by
  simp [atV, h, List.getElem?_eq_getElem hk]

theorem has_bd' {b : Bx} {x y z : Int} (h : hasB b x y z = true) (hb : boxOk b = true) : (-1000 ≤ x ∧ x ≤ 1000) ∧ (-1000 ≤ y ∧ y ≤ 1000) ∧ (-1000 ≤ z ∧ z ≤ 1000) := by
  simp only [hasB, btw, Bool.and_eq_true, decide_eq_true_eq] at h
  simp only [boxOk, Bool.and_eq_true, cellOk, btw, decide_eq_true_eq] at hb
  omega

theorem c_Join (a b : Vol) (hla : a.v.length ≤ 9223372036854775807) (hlb : b.v.length ≤ 9223372036854775807) : C Tryz.prog F.volume_Join [.agg (volC a), .agg (volC b)] (joinR .nils a b) := by
  refine C_of mixed chk.volume_Join (by simp) fun S ok => ?_
  refine Tr.seqR rfl (by simp [volC, intsV]) ?_
  by_cases hA : volOk a = true
  rotate_left
  · have hA : volOk a = false := by simpa using hA
    have hr : blockR a = .tuple [.agg [I 0, I 0, I 0, I 0, I 0, I 0, .nils], I 101] := by simp [blockR, hA]
    refine Tr.seqC rfl (by simp [volC]) (Steps.call rfl rfl (hr ▸ c_blockOf a hla) (Steps.fin rfl (by simp) ?_))
    refine Tr.seq (Tr.seqR rfl (by simp) (Tr.condT rfl (Tr.seqR rfl (by simp) (Tr.retX rfl rfl rfl ?_ trivial))))
    simp [packR, joinR, hA, errVol]
  have hr : blockR a = .tuple [.agg (volC a), I 0] := by simp [blockR, hA]
  refine Tr.seqC rfl (by simp [volC]) (Steps.call rfl rfl (hr ▸ c_blockOf a hla) (Steps.fin rfl (by simp [volC, intsV]) ?_))
  refine Tr.seq (Tr.seqR rfl (by simp) (Tr.condF rfl (Tr.skip ?_)))
  by_cases hB : volOk b = true
  rotate_left
  · have hB : volOk b = false := by simpa using hB
    have hr : blockR b = .tuple [.agg [I 0, I 0, I 0, I 0, I 0, I 0, .nils], I 101] := by simp [blockR, hB]
    refine Tr.seqC rfl (by simp [volC]) (Steps.call rfl rfl (hr ▸ c_blockOf b hlb) (Steps.fin rfl (by simp) ?_))
    refine Tr.seq (Tr.seqR rfl (by simp) (Tr.condT rfl (Tr.seqR rfl (by simp) (Tr.retX rfl rfl rfl ?_ trivial))))
    simp [packR, joinR, hA, hB, errVol]
  have hr2 : blockR b = .tuple [.agg (volC b), I 0] := by simp [blockR, hB]
  refine Tr.seqC rfl (by simp [volC]) (Steps.call rfl rfl (hr2 ▸ c_blockOf b hlb) (Steps.fin rfl (by simp [volC, intsV]) ?_))
  refine Tr.seq (Tr.seqR rfl (by simp) (Tr.condF rfl (Tr.skip ?_)))
  obtain ⟨hbA, hlA, hvA⟩ := volOk_spec hA
  obtain ⟨hbB, hlB, hvB⟩ := volOk_spec hB
  obtain ⟨hsA, hmA⟩ := boxOk_spec hbA
  obtain ⟨hsB, hmB⟩ := boxOk_spec hbB
  have gA := small_spec hsA
  have gB := small_spec hsB
  have hmA' := hmA
  have hmB' := hmB
  unfold Bx.mid at hmA' hmB'
  have cA : (-64 ≤ a.b.x ∧ a.b.x + a.b.a - 1 ≤ 64) ∧ (-64 ≤ a.b.y ∧ a.b.y + a.b.b - 1 ≤ 64) ∧ (-64 ≤ a.b.z ∧ a.b.z + a.b.c - 1 ≤ 64) := by
    simp only [boxOk, Bool.and_eq_true, cellOk, btw, decide_eq_true_eq] at hbA; omega
  have cB : (-64 ≤ b.b.x ∧ b.b.x + b.b.a - 1 ≤ 64) ∧ (-64 ≤ b.b.y ∧ b.b.y + b.b.b - 1 ≤ 64) ∧ (-64 ≤ b.b.z ∧ b.b.z + b.b.c - 1 ≤ 64) := by
    simp only [boxOk, Bool.and_eq_true, cellOk, btw, decide_eq_true_eq] at hbB; omega
  obtain ⟨u, hu⟩ : ∃ u, u = aroundB a.b b.b := ⟨_, rfl⟩
  have umid : u.mid := by rw [hu]; unfold Bx.mid; simp only [aroundB]; omega
  have usz : (0 ≤ u.a ∧ u.a ≤ 1000) ∧ (0 ≤ u.b ∧ u.b ≤ 1000) ∧ (0 ≤ u.c ∧ u.c ≤ 1000) := by unfold Bx.mid at umid; omega
  refine Tr.seqC rfl (by simp [volC]) (Steps.call rfl rfl (hu ▸ c_around a.b b.b hmA hmB) (Steps.fin rfl (by simp) ?_))
  refine Tr.seq (Tr.seq (Tr.drawK (TraceK.run rfl (by simp) (TraceK.call rfl rfl (c_many u usz) (TraceK.run rfl (by simp [volC]) (TraceK.call rfl rfl (c_many a.b (by omega)) (TraceK.run rfl (by simp [volC]) (TraceK.call rfl rfl (c_many b.b (by omega)) (TraceK.run rfl (by simp [volC]) (TraceK.call rfl rfl (c_common a.b b.b hmA hmB) (TraceK.run rfl (by simp) (.done ⟨by kernel_rfl, by kernel_rfl, ?_⟩))))))))))))
  have hcom : 0 ≤ commonI a.b b.b ∧ commonI a.b b.b ≤ 4096 := by
    have k1 : 0 ≤ cut1 (a.b.x + a.b.a - 1) (b.b.x + b.b.a - 1) a.b.x b.b.x ∧ cut1 (a.b.x + a.b.a - 1) (b.b.x + b.b.a - 1) a.b.x b.b.x ≤ 16 := by unfold cut1; omega
    have k2 : 0 ≤ cut1 (a.b.y + a.b.b - 1) (b.b.y + b.b.b - 1) a.b.y b.b.y ∧ cut1 (a.b.y + a.b.b - 1) (b.b.y + b.b.b - 1) a.b.y b.b.y ≤ 16 := by unfold cut1; omega
    have k3 : 0 ≤ cut1 (a.b.z + a.b.c - 1) (b.b.z + b.b.c - 1) a.b.z b.b.z ∧ cut1 (a.b.z + a.b.c - 1) (b.b.z + b.b.c - 1) a.b.z b.b.z ≤ 16 := by unfold cut1; omega
    have l1 := mul_bd (a := cut1 (a.b.x + a.b.a - 1) (b.b.x + b.b.a - 1) a.b.x b.b.x) (A := 16) (by omega) k2
    have l2 := mul_bd (a := cut1 (a.b.x + a.b.a - 1) (b.b.x + b.b.a - 1) a.b.x b.b.x * cut1 (a.b.y + a.b.b - 1) (b.b.y + b.b.b - 1) a.b.y b.b.y) (A := 256) (by omega) k3
    have l3 := Int.mul_nonneg (Int.mul_nonneg k1.1 k2.1) k3.1
    unfold commonI
    omega
  have hcnd : ∀ c : Bool, ((u.a * u.b * u.c) != IntKind.i64.wrap (IntKind.i64.wrap (a.b.a * a.b.b * a.b.c + b.b.a * b.b.b * b.b.c) - commonI a.b b.b)) = c → c = !decide (manyI u = manyI a.b + manyI b.b - commonI a.b b.b) := by
    rintro c rfl
    have q1 : 0 ≤ a.b.a * a.b.b * a.b.c := by have := hlA; unfold manyI at this; omega
    have q2 : 0 ≤ b.b.a * b.b.b * b.b.c := by have := hlB; unfold manyI at this; omega
    rw [w64 (n := a.b.a * a.b.b * a.b.c + b.b.a * b.b.b * b.b.c) (by omega) (by omega), w64 (by omega) (by omega)]
    unfold manyI
    by_cases h : u.a * u.b * u.c = a.b.a * a.b.b * a.b.c + b.b.a * b.b.b * b.b.c - commonI a.b b.b <;> simp [h]
  refine Tr.cond rfl rfl (fun h1 => Tr.seqR rfl (by simp) (Tr.retX rfl rfl rfl ?_ trivial)) (fun h1 => Tr.skip ?_)
  · have h2 := not_of (hcnd true h1)
    have h2 : ¬ manyI u = manyI a.b + manyI b.b - commonI a.b b.b := by simpa using h2
    simp [packR, joinR, hA, hB, ← hu, h2, errVol]
  have h2 := not_of (hcnd false h1)
  have h2 : manyI u = manyI a.b + manyI b.b - commonI a.b b.b := by simpa using h2
  have hcov : ∀ p ∈ boxCells u, hasP a.b p = true ∨ hasP b.b p = true := by
    rw [hu] at h2 ⊢; exact cover (by omega) (by omega) h2
  refine Tr.seq (Tr.seqC rfl (by simp) (Steps.call rfl rfl (c_small u) (Steps.fin rfl (by simp) (Tr.cond rfl rfl (fun h3 => Tr.seqR rfl (by simp) (Tr.retX rfl rfl rfl ?_ trivial)) (fun h3 => Tr.skip ?_)))))
  · have h3 : smallB u = false := by simpa using h3
    simp [packR, joinR, hA, hB, ← hu, h2, h3, errVol]
  have h3 : smallB u = true := by simpa using h3
  have hlen := boxCells_len h3
  refine Tr.seqR rfl (by simp) ?_
  refine Tr.seq (Tr.seqC rfl (by simp) (Steps.call rfl rfl (c_cells u) (Steps.fin rfl (by simp) (Tr.block ?_))))
  refine Tr.weak (s' := { env := [(62, .func (.func F.volume_box_cells_1) [] [.vptr (boxC u) 0]), (4, .ptr 4 0), (5, .ptr 5 0), (6, .ptr 6 0), (8, .ptr 8 0), (10, .ptr 10 0)], bx := [(4, ⟨[I 0, I 0, I 0, I 0, I 0, I 0, .nils], false⟩), (5, ⟨[I 0], false⟩), (6, ⟨volC a, false⟩), (8, ⟨volC b, false⟩), (10, ⟨[I u.x, I u.y, I u.z, I u.a, I u.b, I u.c, .slice 76 1 []], false⟩)], rw := [(75, 0, 1, 3)], log := [], stp := false })
    (Wk.le (.cons rfl (.refl _) (.cons rfl (.refl _) (.cons rfl (.refl _) (.cons rfl (.refl _) (.cons rfl (.refl _) (.cons rfl (.refl _) .nil)))))) (.cons rfl (LLe.refl _) (.cons rfl (LLe.refl _) (.cons rfl (LLe.refl _) (.cons rfl (LLe.refl _) (.cons rfl (.cons (.refl _) (.cons (.refl _) (.cons (.refl _) (.cons (.refl _) (.cons (.refl _) (.cons (.refl _) (.cons (.nil 76 1) .nil))))))) .nil))))) (.new rfl .nil) rfl rfl) ?_
  refine Tr.range rfl rfl (i_cells u umid) rfl rfl rfl (by intro x hx; obtain ⟨p, _, rfl⟩ := List.mem_map.1 hx; rfl)
    (fun pre t => ∃ m, m ≤ (boxCells u).length ∧ pre = ((boxCells u).take m).map cellV ∧ ((boxCells u).take m).any (clash a b) = false ∧ t.bx = [(4, ⟨[I 0, I 0, I 0, I 0, I 0, I 0, .nils], false⟩), (5, ⟨[I 0], false⟩), (6, ⟨volC a, false⟩), (8, ⟨volC b, false⟩), (10, ⟨[I u.x, I u.y, I u.z, I u.a, I u.b, I u.c, .slice 76 1 (((boxCells u).take m).map fun p => I (pickV a b p))], false⟩)] ∧ t.rw = [(75, m, 1, 3)] ∧ t.log = [])
    (fun e t => e = .ret ∧ (boxCells u).any (clash a b) = true ∧ ∃ xs, t.bx = [(4, ⟨[I 0, I 0, I 0, I 0, I 0, I 0, .nils], false⟩), (5, ⟨[I 104], false⟩), (6, ⟨volC a, false⟩), (8, ⟨volC b, false⟩), (10, ⟨[I u.x, I u.y, I u.z, I u.a, I u.b, I u.c, .slice 76 1 xs], false⟩)]) ⟨0, by omega, rfl, rfl, rfl, rfl, rfl⟩ ?_ ?_ ?_
  · rintro a0 L0 rc0 h0 S1 S2 ok1 ok2 pre q t lp hpre ⟨m, hm, rfl, hnc, hbx, hrw, hlog⟩ henv hstp
    obtain ⟨env, bx, rw, log, stp⟩ := t
    simp only at hbx hrw hlog henv hstp
    subst hbx hrw hlog henv hstp
    have hmx : m < (boxCells u).length ∧ ∃ p, (boxCells u)[m]? = some p ∧ q = cellV p := by
      have h1 : (((boxCells u).take m).map cellV).length = m := by simp; omega
      have h2 := hpre.length_le
      simp at h2
      have hml : m < (boxCells u).length := by omega
      refine ⟨hml, _, List.getElem?_eq_getElem hml, ?_⟩
      have h3 := List.IsPrefix.getElem hpre (i := m) (by simp; omega)
      simp only [List.getElem_map] at h3
      rw [List.getElem_append_right (by omega)] at h3
      simpa using h3
    obtain ⟨hml, ⟨x, y, z⟩, hp, rfl⟩ := hmx
    have hmem := List.mem_of_getElem? hp
    have hcv := hcov _ hmem
    have htk : (boxCells u).take (m + 1) = (boxCells u).take m ++ [(x, y, z)] := by rw [List.take_add_one, hp]; rfl
    refine Tr.regR rfl (by simp) (Tr.block (Tr.block ?_))
    refine Tr.seqC rfl (by simp [volC]) (Steps.call rfl rfl (c_has a.b x y z hmA) (Steps.fin rfl (by simp) (Tr.cond rfl rfl (fun h4 => ?_) (fun h4 => ?_))))
    · have h4 : hasB a.b x y z = false := by simpa using h4
      have h5 : hasB b.b x y z = true := by
        rcases hcv with h | h
        · have h : hasB a.b x y z = true := h
          rw [h4] at h; cases h
        · exact h
      obtain ⟨i0, i1⟩ := idx_range h5
      obtain ⟨k, hk⟩ : ∃ k : Nat, idxOf b.b x y z = (k : Int) := ⟨(idxOf b.b x y z).toNat, by omega⟩
      have hkl : k < b.v.length := by unfold manyI at hlB; omega
      have hpk : pickV a b (x, y, z) = b.v[k] := by
        unfold pickV
        rw [if_neg (by simp [hasP, h4]), atV_eq (p := (x, y, z)) hk hkl]
      have hcl : clash a b (x, y, z) = false := by simp [clash, hasP, h4]
      have hci : C Tryz.prog F.volume_box_index [.agg (boxC b.b), .agg (cellC x y z)] (I (k : Int)) := hk ▸ c_index b.b x y z hmB (has_bd' h5 hbB)
      refine Tr.drawK (TraceK.run rfl (by simp [volC]) (TraceK.call rfl rfl hci (TraceK.runN 1 rfl (by simp [intsV]; omega) ?_)))
      rw [getD_map hkl]
      refine TraceK.run rfl (by simp; omega) (.done ⟨by kernel_rfl, by kernel_rfl, ?_⟩)
      refine ⟨{ env := [], bx := [(4, ⟨[I 0, I 0, I 0, I 0, I 0, I 0, .nils], false⟩), (5, ⟨[I 0], false⟩), (6, ⟨volC a, false⟩), (8, ⟨volC b, false⟩), (10, ⟨[I u.x, I u.y, I u.z, I u.a, I u.b, I u.c, .slice 76 1 ((((boxCells u).take m).map fun p => I (pickV a b p)) ++ [I b.v[k]])], false⟩)], rw := [(75, m + 1, 1, 3)], log := [], stp := false }, ?_, ⟨m + 1, by omega, ?_, ?_, ?_, rfl, rfl⟩, rfl⟩
      · refine Wk.le .nil (.cons rfl (LLe.refl _) (.cons rfl (LLe.refl _) (.cons rfl (LLe.refl _) (.cons rfl (LLe.refl _) (.cons rfl (LLe.refl _) .nil))))) (.cons ?_ .nil) rfl rfl
        show some _ = some _
        simp; omega
      · rw [htk]; simp
      · rw [htk, List.any_append, hnc]; simp [hcl]
      · rw [htk]; simp [hpk]
    · have h4 : hasB a.b x y z = true := by simpa using h4
      obtain ⟨i0, i1⟩ := idx_range h4
      obtain ⟨k, hk⟩ : ∃ k : Nat, idxOf a.b x y z = (k : Int) := ⟨(idxOf a.b x y z).toNat, by omega⟩
      have hkl : k < a.v.length := by unfold manyI at hlA; omega
      have hpk : pickV a b (x, y, z) = a.v[k] := by
        unfold pickV
        rw [if_pos (by simp [hasP, h4]), atV_eq (p := (x, y, z)) hk hkl]
      obtain ⟨j, hj, hjl⟩ : ∃ j : Nat, (hasB b.b x y z = true → idxOf b.b x y z = (j : Int)) ∧ j < b.v.length := by
        by_cases h5 : hasB b.b x y z = true
        · obtain ⟨j0, j1⟩ := idx_range h5
          exact ⟨(idxOf b.b x y z).toNat, fun _ => by omega, by unfold manyI at hlB; omega⟩
        · refine ⟨0, fun h => absurd h h5, ?_⟩
          have : 1 * 1 * 1 ≤ b.b.a * b.b.b * b.b.c := Int.mul_le_mul (Int.mul_le_mul gB.1.1 gB.2.1.1 (by omega) (by omega)) gB.2.2.1.1 (by omega) (Int.mul_nonneg (by omega) (by omega))
          unfold manyI at hlB; omega
      have hcl : clash a b (x, y, z) = (bif hasB b.b x y z then a.v[k] != b.v[j] else false) := by
        unfold clash
        by_cases h5 : hasB b.b x y z = true
        · rw [atV_eq (p := (x, y, z)) hk hkl, atV_eq (p := (x, y, z)) (hj h5) hjl]; simp [hasP, h4, h5]
        · simp [hasP, h5]
      have hci : C Tryz.prog F.volume_box_index [.agg (boxC a.b), .agg (cellC x y z)] (I (k : Int)) := hk ▸ c_index a.b x y z hmA (has_bd' h4 hbA)
      have hcj : hasB b.b x y z = true → C Tryz.prog F.volume_box_index [.agg (boxC b.b), .agg (cellC x y z)] (I (j : Int)) := fun e => (hj e) ▸ c_index b.b x y z hmB (has_bd' e hbB)
      refine Tr.seq (Tr.drawK (TraceK.run rfl (by simp [volC]) (TraceK.call rfl rfl (c_has b.b x y z hmB) (TraceK.run rfl (by simp [volC]) ?_))))
      refine TraceK.gcall rfl rfl rfl rfl (by simp) (fun _ => hci) (TraceK.runN 1 rfl (by simp [volC, intsV]; first | omega | exact fun e => by omega | exact fun e => ⟨by omega, e⟩ | exact fun e => ⟨e, by omega⟩ | trace_state) ?_)
      rw [getD_map hkl]
      refine TraceK.run rfl (by simp [volC]) ?_
      refine TraceK.gcall (r := I (j : Int)) rfl rfl rfl rfl (by simp) (fun e => hcj (by simpa using e)) (TraceK.runN 1 rfl (by simp [volC, intsV]; first | omega | exact fun e => by omega | exact fun e => ⟨by omega, e⟩ | exact fun e => ⟨e, by omega⟩ | trace_state) ?_)
      rw [getD_map hjl]
      refine TraceK.run rfl (by simp) (.done ⟨by kernel_rfl, by kernel_rfl, ?_⟩)
      refine Tr.cond rfl rfl (fun h6 => ?_) (fun h6 => ?_)
      · have h6 : (bif hasB b.b x y z then a.v[k] != b.v[j] else false) = true := h6
        rw [← hcl] at h6
        refine Tr.seqR rfl (by simp) (Tr.ret ?_)
        refine ⟨{ env := [], bx := [(4, ⟨[I 0, I 0, I 0, I 0, I 0, I 0, .nils], false⟩), (5, ⟨[I 104], false⟩), (6, ⟨volC a, false⟩), (8, ⟨volC b, false⟩), (10, ⟨[I u.x, I u.y, I u.z, I u.a, I u.b, I u.c, .slice 76 1 (((boxCells u).take m).map fun p => I (pickV a b p))], false⟩)], rw := [(75, m, 1, 3)], log := [], stp := false }, Wk.le .nil (.cons rfl (LLe.refl _) (.cons rfl (LLe.refl _) (.cons rfl (LLe.refl _) (.cons rfl (LLe.refl _) (.cons rfl (LLe.refl _) .nil))))) (.cons rfl .nil) rfl rfl, rfl, ?_, _, rfl⟩
        rw [List.any_eq_true]
        exact ⟨_, hmem, h6⟩
      · have h6 : (bif hasB b.b x y z then a.v[k] != b.v[j] else false) = false := h6
        rw [← hcl] at h6
        refine Tr.drawK (TraceK.run rfl (by simp [volC]) (TraceK.call rfl rfl hci (TraceK.runN 1 rfl (by simp [intsV]; omega) ?_)))
        rw [getD_map hkl]
        refine TraceK.run rfl (by simp; omega) (.done ⟨by kernel_rfl, by kernel_rfl, ?_⟩)
        refine ⟨{ env := [], bx := [(4, ⟨[I 0, I 0, I 0, I 0, I 0, I 0, .nils], false⟩), (5, ⟨[I 0], false⟩), (6, ⟨volC a, false⟩), (8, ⟨volC b, false⟩), (10, ⟨[I u.x, I u.y, I u.z, I u.a, I u.b, I u.c, .slice 76 1 ((((boxCells u).take m).map fun p => I (pickV a b p)) ++ [I a.v[k]])], false⟩)], rw := [(75, m + 1, 1, 3)], log := [], stp := false }, ?_, ⟨m + 1, by omega, ?_, ?_, ?_, rfl, rfl⟩, rfl⟩
        · refine Wk.le .nil (.cons rfl (LLe.refl _) (.cons rfl (LLe.refl _) (.cons rfl (LLe.refl _) (.cons rfl (LLe.refl _) (.cons rfl (LLe.refl _) .nil))))) (.cons ?_ .nil) rfl rfl
          show some _ = some _
          simp; omega
        · rw [htk]; simp
        · rw [htk, List.any_append, hnc]; simp [h6]
        · rw [htk]; simp [hpk]
  · rintro ⟨env, bx, rw, log, stp⟩ henv hstp ⟨m, hm, hpre, hnc, hbx, hrw, hlog⟩
    simp only at hbx hrw hlog henv hstp
    subst hbx hrw hlog henv hstp
    have hml : m = (boxCells u).length := by
      have := congrArg List.length hpre
      simp at this; omega
    subst hml
    rw [List.take_length] at hnc ⊢
    refine Tr.seqR rfl (by simp) (Tr.retX rfl rfl rfl ?_ trivial)
    simp [packR, joinR, hA, hB, ← hu, h2, h3, hnc, volC, intsV]
  · rintro e ⟨env, bx, rw, log, stp⟩ henv ⟨rfl, hany, xs, hbx⟩
    simp only at henv hbx
    subst henv hbx
    refine ⟨trivial, _, _, _, resVs_ok rfl, rfl, ?_⟩
    simp [packR, joinR, hA, hB, ← hu, h2, h3, hany, errVol]

end Go.Proofs.YtggifklgpdladaaGreat


/-! Contracts: two volumes alike; the chapter's echoes and section. -/
set_option linter.unusedVariables false
set_option linter.unusedSimpArgs false
set_option maxRecDepth 20000
namespace Go.Proofs.YtggifklgpdladaaGreat
open Go.Am
attribute [local simp] cells scalar mkv splice under2 under dem dem1 boxC cellC volC intsV eB
theorem c_SameVolume (a b : Vol) (hl : a.v.length ≤ 9223372036854775807) : C Tryz.prog F.ref10_SameVolume [.agg (volC a), .agg (volC b)]
    (.bool (decide ((a.b.x = b.b.x ∧ a.b.y = b.b.y ∧ a.b.z = b.b.z) ∧ (a.b.a = b.b.a ∧ a.b.b = b.b.b ∧ a.b.c = b.b.c) ∧ a.v = b.v))) := by
  refine C_of mixed chk.ref10_SameVolume (by simp) fun S ok => ?_
  refine Tr.seqR rfl (by simp) ?_
  refine Tr.seqC rfl (by simp) (Steps.gcall rfl rfl rfl rfl (by simp) (fun _ => c_Alike a.v b.v hl) (Steps.fin rfl (by simp) (Tr.retX rfl rfl rfl ?_ trivial)))
  simp only [packR, V.bool.injEq]
  by_cases h1 : a.b.x = b.b.x <;> by_cases h2 : a.b.y = b.b.y <;> by_cases h3 : a.b.z = b.b.z <;> by_cases h4 : a.b.a = b.b.a <;> by_cases h6 : a.b.b = b.b.b <;> by_cases h7 : a.b.c = b.b.c <;> by_cases h5 : a.v = b.v <;> simp [h1, h2, h3, h4, h5, h6, h7]

theorem c_sure {l : List Int} (hl : l.length < 1000000) : C Tryz.prog F.law10_sure [intsV l] (sB (l.map fun n => (n, n))) := by
  refine C_of mixed chk.law10_sure (by simp) fun S ok => ?_
  refine Tr.seqR rfl (by simp) (Tr.seqR rfl (by simp) (Tr.seq (Tr.seqR rfl (by simp) (Tr.block ?_))))
  refine Tr.loop (fun k st => k ≤ l.length ∧ st = { env := [(0, intsV l), (3, .slice 23 2 ((l.take k).map fun n => eB (n, n))), (4, I k)], bx := [], rw := [(22, k, 2, 28)], log := [], stp := false }) (fun k => l.length - k) 0
    (Wk.le (.cons rfl (.refl _) (.cons rfl (.nil 23 2) (.cons rfl (.refl _) .nil))) .nil (.new rfl .nil) rfl rfl) ⟨by omega, rfl⟩ ?_
  rintro k st ⟨hk, rfl⟩
  refine Tr.seq (Tr.seqR rfl (by simp) (Tr.cond rfl rfl (fun h3 => ?_) (fun h3 => ?_)))
  · have h3 : k < l.length := by simpa using h3
    refine Tr.skip (Tr.seq (Tr.block (Tr.drawK (TraceK.runN 4 rfl (by simp; omega) ?_))))
    rw [getD_map h3]
    refine TraceK.runN 4 rfl (by simp; omega) ?_
    rw [getD_map h3]
    refine TraceK.run rfl (by simp; omega) (.done ⟨by kernel_rfl, by kernel_rfl, ?_⟩)
    refine Tr.regR rfl (by simp) ?_
    refine ⟨k + 1, _, Wk.le (.cons rfl (.refl _) (.cons rfl (.of_eq ?_) (.cons rfl (VLe.i (w64 (by omega) (by omega))) .nil))) .nil (.cons ?_ .nil) rfl rfl, ⟨h3, rfl⟩, by omega⟩
    · have e : l.take (k + 1) = l.take k ++ [l[k]] := by rw [List.take_add_one, List.getElem?_eq_getElem h3]; rfl
      rw [e, List.map_append]; rfl
    · show some _ = some _
      simp; omega
  · have h3 : k = l.length := by simp at h3; omega
    subst h3
    refine Tr.exit (Tr.seqR rfl (by simp) (Tr.retX rfl rfl rfl ?_ trivial))
    simp [packR, sB]

/-! ### The chapter's examples -/
def exE : List Echo := [⟨0, 0, [(0, 0), (0, 0), (5, 5), (0, 0)]⟩, ⟨2, 0, [(0, 0), (1, 1), (2, 2), (7, 7)]⟩]
def exS : List (List Int) := [[5, 0, 0], [0, 0, 9], [4, 0, 1]]

theorem c_echoes : C Tryz.prog F.law10_echoes [] (sE exE) := by
  refine C_of mixed chk.law10_echoes (by simp) fun S ok => ?_
  refine Tr.seqR rfl (by simp) (Tr.seqC rfl (by simp) ?_)
  refine Steps.call rfl rfl (c_sure (l := [0, 0, 5, 0]) (by simp)) (Steps.run rfl (by simp [sB]) ?_)
  refine Steps.call rfl rfl (c_sure (l := [0, 1, 2, 7]) (by simp)) (Steps.fin rfl (by simp [sB]) (Tr.retX rfl rfl rfl rfl trivial))

theorem c_section : C Tryz.prog F.law10_section [] (secV exS) := by
  refine C_of mixed chk.law10_section (by simp) fun S ok => ?_
  refine Tr.seqR rfl (by simp) (Tr.seqR rfl (by simp) (Tr.retX rfl rfl rfl rfl trivial))

end Go.Proofs.YtggifklgpdladaaGreat


/-! The chapter's examples. -/
set_option linter.unusedVariables false
set_option linter.unusedSimpArgs false
set_option maxRecDepth 20000
namespace Go.Am
open Go.RowKit

/-! ### Guards that are known to hold -/
theorem compOp_noguard {P : Program} {nt : Nat} {slots : List (Option Nat)} {o : Oper} {d : Option Nat} {k : Am.K} {xs : List X} {g : Option (Nat × Bool)} (hc : compOp P nt slots o = some ⟨d, k, xs, g⟩) (sl : List (Option Nat)) : compOp P nt sl { o with guard := none } = some ⟨d, k, xs, none⟩ := by
  unfold compOp at hc ⊢
  cases h1 : opK P o.op with
  | none => rw [h1] at hc; cases hc
  | some q =>
    obtain ⟨k', os⟩ := q
    rw [h1] at hc
    simp only at hc
    cases h2 : os.mapM compX with
    | none => rw [h2] at hc; cases hc
    | some xs' =>
      rw [h2] at hc
      simp only at hc
      cases h3 : guardG slots o.guard with
      | none => rw [h3] at hc; cases hc
      | some g' =>
        rw [h3] at hc
        simp only at hc
        cases h4 : dstOk nt k' o.dst with
        | false => rw [h4] at hc; cases hc
        | true =>
          rw [h4] at hc
          cases hc
          simp only [h1, h2, h4, cond_true]
          rfl

theorem Step1.on {E : Env} {K : St → Prop} {s : St} {d : Option Nat} {k : Am.K} {xs : List X} {t : Nat} {want : Bool} {gv : V} (hgv : Am.get s.env t = some gv) (hgb : guardOf want gv = some true) (h : Step1 E ⟨d, k, xs, none⟩ K s) : Step1 E ⟨d, k, xs, some (t, want)⟩ K s := by
  refine Step1.raw fun slots ops o i ro n a w g hc hs hi R Q next hn => ?_
  have hc' := compOp_noguard hc (#[{ o with guard := none }].toList.map (·.dst))
  have h1 := step_ok (ro := ro) (n := n) (ops := #[{ o with guard := none }]) (i := 0) h hc' rfl rfl R (Q := Q) (next := next) hn
  unfold wpOpIn at h1 ⊢
  obtain ⟨os, cc⟩ := comp_of hc
  obtain ⟨j, want', t', g1, g2, g3⟩ : ∃ j want t, o.guard = some (j, want) ∧ slots[j]? = some (some t) ∧ (some (t, want)) = (some (t, want)) ∧ True := by
    rcases cc.guard with ⟨e, _⟩ | ⟨j, w', t', e1, e2, e3⟩
    · cases e
    · exact ⟨j, w', t', e1, e2, rfl, trivial⟩
  have hw : Region.wanted o (yielded ops a.tmps) = true := by
    rcases cc.guard with ⟨e, _⟩ | ⟨j, w', t', e1, e2, e3⟩
    · cases e
    · cases e3
      exact (guard_wanted R hs e1 e2 (by rw [fs_g]; exact hgv) hgb).1 rfl
  simp only [hi, hw, if_true]
  have hw' : Region.wanted { o with guard := none } (yielded #[{ o with guard := none }] a.tmps) = true := by unfold Region.wanted; rfl
  simp only [List.getElem?_toArray, List.getElem?_cons_zero, hw', if_true] at h1
  exact h1

theorem Steps.on {E : Env} {K : St → Prop} {s : St} {d : Option Nat} {k : Am.K} {xs : List X} {t : Nat} {want : Bool} {gv : V} {rest : List Ins} (hgv : Am.get s.env t = some gv) (hgb : guardOf want gv = some true) (h : Am.Steps E (⟨d, k, xs, none⟩ :: rest) K s) : Am.Steps E (⟨d, k, xs, some (t, want)⟩ :: rest) K s := Step1.on hgv hgb h

/-- One step where guards are known to hold. -/
def stepG (ins : Ins) (s : St) : Option (Prop × Eff × List Loc) :=
  match ins.g with
  | none => stepP ins s
  | some (t, want) => match Am.get s.env t with
    | some (.bool b) => match b == want with
      | true => stepP { ins with g := none } s
      | false => none
    | _ => none

theorem step_G {E : Env} {ins : Ins} {s : St} {p : Prop} {eff : Eff} {rd : List Loc} {K : St → Prop} (h : stepG ins s = some (p, eff, rd)) (hp : p) (hk : K ((s.eff eff).put ins.d eff.v)) : Step1 E ins K s := by
  obtain ⟨d, k, xs, g⟩ := ins
  unfold stepG at h
  cases g with
  | none => exact .does (stepP_ok h hp) hk
  | some tw =>
    obtain ⟨t, want⟩ := tw
    simp only at h
    split at h
    · rename_i b hb
      split at h
      · rename_i hbw
        exact Step1.on hb (by simp only [guardOf, hbw]) (.does (stepP_ok h hp) hk)
      · cases h
    · cases h

def runG : List Ins → St → Prop → Prop × St × List Ins
  | [], s, p => (p, s, [])
  | i :: r, s, p => match stepG i s with
    | some (q, eff, _) => runG r ((s.eff eff).put i.d eff.v) (p ∧ q)
    | none => (p, s, i :: r)

theorem runG_pre : ∀ (il : List Ins) (s : St) (p : Prop), (runG il s p).1 → p
  | [], s, p, h => h
  | i :: r, s, p, h => by
    unfold runG at h
    split at h
    · exact (runG_pre r _ _ h).1
    · exact h

theorem runG_ok {E : Env} {K : St → Prop} : ∀ (il : List Ins) (s : St) (p : Prop), (runG il s p).1 → Am.Steps E (runG il s p).2.2 K (runG il s p).2.1 → Am.Steps E il K s
  | [], s, p, _, h => h
  | i :: r, s, p, h1, h2 => by
    unfold runG at h1 h2
    split at h1
    · rename_i q eff rd hq
      rw [hq] at h2
      exact step_G hq (runG_pre r _ _ h1).2 (runG_ok r _ _ h1 h2)
    · rename_i hq
      rw [hq] at h2
      exact h2

theorem Steps.runG {E : Env} {K : St → Prop} {s s' : St} {il rest : List Ins} {p : Prop} (h : Am.runG il s True = (p, s', rest)) (hp : p) (hs : Am.Steps E rest K s') : Am.Steps E il K s := by
  refine runG_ok il s True ?_ ?_
  · rw [h]; exact hp
  · rw [h]; exact hs

end Go.Am

namespace Go.Proofs.YtggifklgpdladaaGreat
open Go.Am
attribute [local simp] cells scalar mkv splice under2 under dem dem1 boxC cellC volC intsV eB
theorem ex1 : TimeR 2 4 64 = .tuple [I 2, I 0] := by kernel_rfl
theorem ex2 : TimeR 2 4 100 = .tuple [I 3, I 0] := by kernel_rfl
theorem ex3 : nameS exE 0 0 2 3 64 = .tuple [.agg [I 0, I 0, I 2, .slice 0 2 ([(0, 2), (1, 2)].map eB), I 7, I 7], I 0] := by kernel_rfl
theorem ex4 : encS exE ⟨0, 0, 2, 1, 1, 1⟩ 3 (64, 100) = .tuple [.agg [I 0, I 0, I 2, I 1, I 1, I 1, .slice 0 2 ([(7, 12)].map eB)], I 0] := by kernel_rfl
theorem ex5 : ringS [8, 0, 0, 4, 0] 2 32 = .tuple [intsV [8, 0, 4, 4, 2], I 0] := by kernel_rfl
theorem ex6 : unringS [8, 0, 4, 4, 2] 2 32 = .tuple [intsV [8, 0, 0, 4, 0], I 0] := by kernel_rfl
theorem ex7 : joinR .nils ⟨⟨0, 0, 0, 1, 1, 2⟩, [3, 4]⟩ ⟨⟨0, 0, 1, 1, 1, 2⟩, [4, 5]⟩ = .tuple [.agg (volC ⟨⟨0, 0, 0, 1, 1, 3⟩, [3, 4, 5]⟩), I 0] := by kernel_rfl
theorem ex8 : horR exS 1 = .tuple [intsV [1, 2, 2], I 10, I 0] := by kernel_rfl
theorem ex9 : horR exS 2 = .tuple [intsV [0, 2, 0], I 18, I 0] := by kernel_rfl
theorem ex10 : backR exS 1 [[9, 10, 10], [4, 4, 10], [4, 0, 1]] = (10, 0) := by kernel_rfl

theorem saneE : sane exE := by
  unfold sane exE; simp
theorem saneX : saneS exS := by
  unfold saneS exS; simp
theorem saneB : saneS [[9, 10, 10], [4, 4, 10], [4, 0, 1]] := by
  unfold saneS; simp

set_option maxHeartbeats 2000000 in
/-- **THE CHAPTER's EXAMPLES** come out as it says. -/
theorem c_works : C Tryz.prog F.law10_works [] (.bool true) := by
  refine C_of mixed chk.law10_works (by simp) fun S ok => ?_
  refine Tr.seqR rfl (by simp) ?_
  refine Tr.seqC rfl (by simp) (Steps.call rfl rfl (ex1 ▸ c_Time 2 4 64) (Steps.fin rfl (by simp) ?_))
  refine Tr.seqC rfl (by simp) (Steps.call rfl rfl (ex2 ▸ c_Time 2 4 100) (Steps.fin rfl (by simp) ?_))
  refine Tr.seqC rfl (by simp) (Steps.call rfl rfl c_echoes (Steps.run rfl (by simp) ?_))
  refine Steps.call rfl rfl (ex3 ▸ c_NameS saneE 0 0 2 3 64) (Steps.fin rfl (by simp) ?_)
  refine Tr.seqC rfl (by simp) (Steps.call rfl rfl c_echoes (Steps.run rfl (by simp) ?_))
  refine Steps.call rfl rfl (ex4 ▸ c_Enclose saneE ⟨0, 0, 2, 1, 1, 1⟩ 3 (64, 100)) (Steps.fin rfl (by simp) ?_)
  refine Tr.seq (Tr.seq (Tr.reg (Steps.runG rfl (by simp) ?_)))
  refine Steps.on rfl rfl (Steps.call rfl rfl (c_SameNamed 0 0 2 0 0 2 (7, 7) (7, 7) [(0, 2), (1, 2)] [(0, 2), (1, 2)] (by simp)) (Steps.runG rfl (by simp) ?_))
  refine Tr.condF (by kernel_rfl) (Tr.skip ?_)
  refine Tr.seqC rfl (by simp) (Steps.call rfl rfl (ex5 ▸ c_Ring [8, 0, 0, 4, 0] 2 32 (by simp)) (Steps.fin rfl (by simp) ?_))
  refine Tr.seqC rfl (by simp) (Steps.call rfl rfl (ex6 ▸ c_Unring [8, 0, 4, 4, 2] 2 32 (by simp)) (Steps.fin rfl (by simp) ?_))
  refine Tr.seqC rfl (by simp) (Steps.call rfl rfl (ex7 ▸ c_Join ⟨⟨0, 0, 0, 1, 1, 2⟩, [3, 4]⟩ ⟨⟨0, 0, 1, 1, 1, 2⟩, [4, 5]⟩ (by simp) (by simp)) (Steps.fin rfl (by simp) ?_))
  refine Tr.seq (Tr.seq (Tr.reg (Steps.runG rfl (by simp) ?_)))
  refine Steps.on rfl rfl (Steps.call rfl rfl (c_Alike [8, 0, 4, 4, 2] [8, 0, 4, 4, 2] (by simp)) (Steps.runG rfl (by simp) ?_))
  refine Steps.on rfl rfl (Steps.call rfl rfl (c_Alike [8, 0, 0, 4, 0] [8, 0, 0, 4, 0] (by simp)) (Steps.runG rfl (by simp) ?_))
  refine Steps.on rfl rfl (Steps.call rfl rfl (c_SameVolume ⟨⟨0, 0, 0, 1, 1, 3⟩, [3, 4, 5]⟩ ⟨⟨0, 0, 0, 1, 1, 3⟩, [3, 4, 5]⟩ (by simp)) (Steps.runG rfl (by simp) ?_))
  refine Tr.condF (by kernel_rfl) (Tr.skip ?_)
  refine Tr.seqC rfl (by simp) (Steps.call rfl rfl c_section (Steps.run rfl (by simp) ?_))
  refine Steps.call rfl rfl (ex8 ▸ c_Horizon saneX 1) (Steps.fin rfl (by simp) ?_)
  refine Tr.seqC rfl (by simp) (Steps.call rfl rfl c_section (Steps.run rfl (by simp) ?_))
  refine Steps.call rfl rfl (ex9 ▸ c_Horizon saneX 2) (Steps.fin rfl (by simp) ?_)
  have hB := c_Backed saneX saneB 1
  rw [ex10] at hB
  refine Tr.seqC rfl (by simp) (Steps.call rfl rfl c_section (Steps.run rfl (by simp) ?_))
  refine Steps.call rfl rfl hB (Steps.fin rfl (by simp) ?_)
  refine Tr.seq (Tr.reg (Steps.runG rfl (by simp) ?_))
  refine Steps.on rfl rfl (Steps.call rfl rfl (c_Alike [1, 2, 2] [1, 2, 2] (by simp)) (Steps.runG rfl (by simp) ?_))
  refine Steps.on rfl rfl (Steps.call rfl rfl (c_Alike [0, 2, 0] [0, 2, 0] (by simp)) (Steps.runG rfl (by simp) ?_))
  exact Tr.retX rfl rfl rfl (by kernel_rfl) trivial

end Go.Proofs.YtggifklgpdladaaGreat


/-! From the reading of a row's arguments to values. -/
set_option linter.unusedVariables false
set_option linter.unusedSimpArgs false
set_option maxRecDepth 20000
namespace Go.Proofs.YtggifklgpdladaaGreat
open Go.Am Go.ChangeShapes Go.WideShapes Go.ChangeAt Go.RowKit

/-- Everything that was there is stable. -/
def phi (W : World) : Nat → Nat := fun b => match W.heap[b]? with
  | some (.cells cs _ _) => cs.size
  | _ => 0

theorem phi_top {W : World} : ∀ b, W.heap.size ≤ b → phi W b = 0 := fun b hb => by
  unfold phi
  rw [Array.getElem?_eq_none hb]

theorem phi_lt {W : World} {b o : Nat} {z : Value} (h : W.cell? ⟨b, o, none⟩ = some z) : o < phi W b := by
  unfold World.cell? at h
  unfold phi
  cases hb : W.heap[b]? with
  | none => rw [hb] at h; simp at h
  | some ob =>
    rw [hb] at h
    cases ob with
    | cells c e m => simp only at h ⊢; exact (Array.getElem?_eq_some_iff.1 h).1
    | _ => simp at h

section
variable {H : Type} (enc : TypeId × Value → H) (W : World)

def Got (Pr : List V → Prop) (cs : List Value) : Prop := ∃ vs, Pr vs ∧ vs.length = cs.length ∧ ∀ (i : Nat) v c, vs[i]? = some v → cs[i]? = some c → RepD W (phi W) v c ∧ scalar v = true

/-- Whatever reads as this type has such values. -/
def Reads (t : TypeId) (Pr : List V → Prop) : Prop := ∀ fuel cs x, DataW.trod enc Tryz.prog W 0 (fun _ => true) true fuel t cs = some x → Got W Pr cs

def trods (fuel : Nat) : List TypeId → List Value → Prop
  | [], cs => cs = []
  | t :: ts, cs => (∃ x, DataW.trod enc Tryz.prog W 0 (fun _ => true) true fuel t (cs.take (Tryz.prog.cellsOf t)) = some x) ∧ Tryz.prog.cellsOf t ≤ cs.length ∧ trods fuel ts (cs.drop (Tryz.prog.cellsOf t))

def ReadsL (ts : List TypeId) (Pr : List V → Prop) : Prop := ∀ fuel cs, trods enc W fuel ts cs → Got W Pr cs

variable {enc W}

theorem Got.mono {P Q : List V → Prop} {cs : List Value} (h : Got W P cs) (k : ∀ vs, P vs → Q vs) : Got W Q cs := let ⟨vs, a, b⟩ := h; ⟨vs, k vs a, b⟩
theorem Reads.mono {t : TypeId} {P Q : List V → Prop} (h : Reads enc W t P) (k : ∀ vs, P vs → Q vs) : Reads enc W t Q := fun fuel cs x hx => (h fuel cs x hx).mono k

theorem readsL_nil : ReadsL enc W [] (fun vs => vs = []) := fun fuel cs h => by
  have h : cs = [] := h
  subst h
  exact ⟨[], rfl, rfl, fun i v c h => by simp at h⟩

theorem readsL_cons {t : TypeId} {ts : List TypeId} {P Q : List V → Prop} (h : Reads enc W t P) (k : ReadsL enc W ts Q) : ReadsL enc W (t :: ts) (fun vs => ∃ a b, P a ∧ Q b ∧ vs = a ++ b) := fun fuel cs ht => by
  obtain ⟨⟨x, hx⟩, hle, hr⟩ := ht
  obtain ⟨a, ha, la, ra⟩ := h _ _ _ hx
  obtain ⟨b, hb, lb, rb⟩ := k _ _ hr
  rw [List.length_take] at la
  rw [List.length_drop] at lb
  refine ⟨a ++ b, ⟨a, b, ha, hb, rfl⟩, by simp; omega, fun i v c hv hc => ?_⟩
  by_cases hi : i < a.length
  · rw [List.getElem?_append_left hi] at hv
    exact ra i v c hv (by rw [List.getElem?_take, if_pos (by omega)]; exact hc)
  · rw [List.getElem?_append_right (by omega)] at hv
    refine rb (i - a.length) v c hv ?_
    rw [List.getElem?_drop, show Tryz.prog.cellsOf t + (i - a.length) = i by omega]
    exact hc

theorem reads_int {t : TypeId} (ht : Tryz.prog.underlying t = some (.int .i64)) : Reads enc W t (fun vs => ∃ n : Int, vs = [I n] ∧ -9223372036854775808 ≤ n ∧ n ≤ 9223372036854775807) := fun fuel cs x hx => by
  obtain ⟨n, rfl, _, hw⟩ := DataW.trod_int ht hx
  have hb := Go.bounds_i64 hw
  refine ⟨[I n], ⟨n, rfl, by omega, by omega⟩, rfl, fun i v c hv hc => ?_⟩
  cases i with
  | zero => cases hv; cases hc; exact ⟨.int _ _, rfl⟩
  | succ i => cases hv

/-- Fields one behind the other. -/
noncomputable def offsB : List Field → Nat → Nat → Bool
  | [], o, n => o == n
  | f :: r, o, n => f.offset == o && offsB r (o + Tryz.prog.cellsOf f.type) n

theorem trods_of {fuel : Nat} : ∀ (fs : List Field) (o n : Nat) (cs : List Value), offsB fs o n = true → cs.length = n → o ≤ n → (∀ f ∈ fs, ∃ x, DataW.trod enc Tryz.prog W 0 (fun _ => true) true fuel f.type ((cs.drop f.offset).take (Tryz.prog.cellsOf f.type)) = some x) → trods enc W fuel (fs.map (·.type)) (cs.drop o)
  | [], o, n, cs, h, hl, _, _ => by
    simp only [offsB, beq_iff_eq] at h
    show cs.drop o = []
    rw [List.drop_eq_nil_of_le (by omega)]
  | f :: r, o, n, cs, h, hl, ho, hf => by
    simp only [offsB, Bool.and_eq_true, beq_iff_eq] at h
    have hle : o + Tryz.prog.cellsOf f.type ≤ n := by
      have : ∀ (fs : List Field) (o n : Nat), offsB fs o n = true → o ≤ n := by
        intro fs
        induction fs with
        | nil => intro o n h; simp only [offsB, beq_iff_eq] at h; omega
        | cons g r ih => intro o n h; simp only [offsB, Bool.and_eq_true, beq_iff_eq] at h; have := ih _ _ h.2; omega
      exact this _ _ _ h.2
    refine ⟨?_, by rw [List.length_drop]; show Tryz.prog.cellsOf f.type ≤ _; omega, ?_⟩
    · have := hf f (by simp)
      rw [h.1] at this
      exact this
    · rw [List.drop_drop]
      exact trods_of r _ n cs h.2 hl hle fun g hg => hf g (by simp [hg])

theorem reads_struct {t : TypeId} {fs : Array Field} {Pr : List V → Prop} (ht : Tryz.prog.underlying t = some (.struct fs)) (ho : offsB fs.toList 0 (Tryz.prog.cellsOf t) = true) (h : ReadsL enc W (fs.toList.map (·.type)) Pr) : Reads enc W t Pr := fun fuel cs x hx => by
  obtain ⟨xs, n, _, _, hl, hxs, hf⟩ := DataW.trod_struct ht hx
  refine h n cs ?_
  have := trods_of (enc := enc) (W := W) (fuel := n) fs.toList 0 _ cs ho hl (Nat.zero_le _) fun f hm => by
    obtain ⟨i, hi, rfl⟩ := List.mem_iff_getElem.1 hm
    have h1 := hf i fs.toList[i] (by simp at hi ⊢)
    rw [h1]
    have : i < xs.length := by simp at hi; omega
    exact ⟨_, List.getElem?_eq_getElem this⟩
  simpa using this

theorem trods_rep {fuel : Nat} {e : TypeId} : ∀ (n k : Nat) (cs : List Value), cs.length = (k + n) * Tryz.prog.cellsOf e → (∀ i, i < n → ∃ x, DataW.trod enc Tryz.prog W 0 (fun _ => true) true fuel e ((cs.drop ((k + i) * Tryz.prog.cellsOf e)).take (Tryz.prog.cellsOf e)) = some x) → trods enc W fuel (List.replicate n e) (cs.drop (k * Tryz.prog.cellsOf e))
  | 0, k, cs, hl, _ => by
    show cs.drop _ = []
    rw [List.drop_eq_nil_of_le (by rw [hl]; simp)]
  | n + 1, k, cs, hl, hf => by
    have e1 : (k + (n + 1)) * Tryz.prog.cellsOf e = k * Tryz.prog.cellsOf e + (n * Tryz.prog.cellsOf e + Tryz.prog.cellsOf e) := by rw [Nat.add_mul, Nat.succ_mul]
    refine ⟨by simpa using hf 0 (by omega), by rw [List.length_drop]; omega, ?_⟩
    rw [List.drop_drop, show k * Tryz.prog.cellsOf e + Tryz.prog.cellsOf e = (k + 1) * Tryz.prog.cellsOf e by rw [Nat.succ_mul]]
    exact trods_rep n (k + 1) cs (by rw [hl]; congr 1; omega) fun i hi => by
      have := hf (i + 1) (by omega)
      rwa [show k + 1 + i = k + (i + 1) by omega]

theorem reads_array {t e : TypeId} {n : Nat} {Pr : List V → Prop} (ht : Tryz.prog.underlying t = some (.array n e)) (hc : Tryz.prog.cellsOf t = n * Tryz.prog.cellsOf e) (h : ReadsL enc W (List.replicate n e) Pr) : Reads enc W t Pr := fun fuel cs x hx => by
  obtain ⟨xs, m, _, _, hl, hxs, hf⟩ := DataW.trod_array ht hx
  refine h m cs ?_
  have := trods_rep (enc := enc) (W := W) (fuel := m) (e := e) n 0 cs (by rw [hl, hc]; simp) fun i hi => by
    rw [Nat.zero_add, hf i hi]
    exact ⟨_, List.getElem?_eq_getElem (by omega)⟩
  simpa using this

def wrapV (agg : Bool) (x : List V) : V := bif agg then .agg x else x.headD nothing

theorem cells_wrap {agg : Bool} {x : List V} {sz : Nat} (hx : x.length = sz) (hs : ∀ v ∈ x, scalar v = true) (ha : agg = false → sz = 1) : cells (wrapV agg x) = x := by
  cases agg with
  | true => rfl
  | false =>
    have := ha rfl
    subst this
    match x, hx with
    | [v], _ =>
      have hv := hs v (by simp)
      show cells v = [v]
      cases v <;> simp [scalar] at hv <;> rfl

theorem cell_spot {a : Addr} {z : Value} (h : W.cell? a = some z) : a = ⟨a.block, a.off, none⟩ := by
  have := World.cell?_spot h
  obtain ⟨b, o, s⟩ := a
  simp only at this
  subst this; rfl

theorem reads_slice {t e : TypeId} {sz : Nat} {Pe : List V → Prop} (agg : Bool) (ht : Tryz.prog.underlying t = some (.slice e)) (hc : Tryz.prog.cellsOf e = sz) (h0 : 0 < sz) (ha : agg = false → sz = 1) (h : Reads enc W e Pe) :
    Reads enc W t (fun vs => ∃ xs : List (List V), (∀ x ∈ xs, Pe x) ∧ xs.length ≤ 9223372036854775807 ∧ vs = [.slice 0 sz (xs.map (wrapV agg))]) := fun fuel cs x hx => by
  subst hc
  rcases DataW.trod_slice ht hx with ⟨rfl, _⟩ | ⟨a, len, cap, elems, rest, n, _, rfl, _, _, hlc, hcm, hel, hE, _⟩
  · refine ⟨[.slice 0 _ []], ⟨[], fun x hx => by simp at hx, by simp, rfl⟩, rfl, fun i v c hv hc => ?_⟩
    cases i with
    | zero => cases hv; cases hc; exact ⟨.slice0 _ _ _, rfl⟩
    | succ i => cases hv
  · have hcm' : cap ≤ 9223372036854775807 := by unfold maxLen at hcm; omega
    -- the elements, one by one
    have step : ∀ m, m ≤ len → ∃ xs : List (List V), xs.length = m ∧ (∀ x ∈ xs, Pe x ∧ x.length = Tryz.prog.cellsOf e) ∧
        ∀ (i : Nat) x (j : Nat) v, xs[i]? = some x → x[j]? = some v → ∃ c, W.cell? (a.add (i * Tryz.prog.cellsOf e + j)) = some c ∧ RepD W (phi W) v c ∧ scalar v = true := by
      intro m
      induction m with
      | zero => exact fun _ => ⟨[], rfl, fun x hx => by simp at hx, fun i x j v hx => by simp at hx⟩
      | succ m ih =>
        intro hm
        obtain ⟨xs, l1, l2, l3⟩ := ih (by omega)
        have h1 := hE m (by omega)
        rw [List.getElem?_eq_getElem (by omega)] at h1
        rw [Option.bind_eq_some_iff] at h1
        obtain ⟨ccs, h2, h3⟩ := h1
        obtain ⟨vs, v1, v2, v3⟩ := h _ _ _ h3
        have hcc : ccs.length = Tryz.prog.cellsOf e ∧ ∀ (j : Nat) c, ccs[j]? = some c → W.cell? (a.add (m * Tryz.prog.cellsOf e + j)) = some c := by
          unfold World.cells? at h2
          rw [if_pos (Nat.zero_le _)] at h2
          refine ⟨by simpa using mapM_some_length h2, fun j c hj => ?_⟩
          have hjl : j < Tryz.prog.cellsOf e := by
            have := (List.getElem?_eq_some_iff.1 hj).1
            have hh := mapM_some_length h2
            simp at hh; omega
          have := mapM_some_get h2 j j (by simp [hjl])
          rw [hj] at this
          rw [← this, Addr.add_add]
        refine ⟨xs ++ [vs], by simp [l1], fun x hx => ?_, fun i x j v hx hj => ?_⟩
        · rcases List.mem_append.1 hx with hx | hx
          · exact l2 x hx
          · simp at hx; subst hx; exact ⟨v1, by omega⟩
        · by_cases hi : i < xs.length
          · rw [List.getElem?_append_left hi] at hx
            exact l3 i x j v hx hj
          · have hi' : i = xs.length := by
              have := (List.getElem?_eq_some_iff.1 hx).1
              simp at this; omega
            subst hi'
            rw [List.getElem?_append_right (by omega)] at hx
            simp at hx; subst hx
            have hjl : j < ccs.length := by have := (List.getElem?_eq_some_iff.1 hj).1; omega
            rw [l1]
            exact ⟨ccs[j], hcc.2 j _ (List.getElem?_eq_getElem hjl), v3 j v _ hj (List.getElem?_eq_getElem hjl)⟩
    obtain ⟨xs, l1, l2, l3⟩ := step len (Nat.le_refl _)
    have hsc : ∀ x ∈ xs, ∀ v ∈ x, scalar v = true := fun x hx v hv => by
      obtain ⟨i, hi, rfl⟩ := List.mem_iff_getElem.1 hx
      obtain ⟨j, hj, rfl⟩ := List.mem_iff_getElem.1 hv
      obtain ⟨c, _, _, hs⟩ := l3 i _ j _ (List.getElem?_eq_getElem hi) (List.getElem?_eq_getElem hj)
      exact hs
    have hcw : ∀ x ∈ xs, cells (wrapV agg x) = x := fun x hx => cells_wrap (l2 x hx).2 (hsc x hx) ha
    refine ⟨[.slice 0 _ (xs.map (wrapV agg))], ⟨xs, fun x hx => (l2 x hx).1, by omega, rfl⟩, rfl, fun i v c hv hc => ?_⟩
    cases i with
    | succ i => cases hv
    | zero =>
      cases hv; cases hc
      refine ⟨?_, rfl⟩
      by_cases hl0 : len = 0
      · subst hl0
        have : xs = [] := List.eq_nil_of_length_eq_zero l1
        subst this
        exact .slice0 _ _ _
      · -- the place of the first cell
        have hx0 : 0 < xs.length := by omega
        have hlen0 := (l2 _ (List.getElem_mem hx0)).2
        obtain ⟨c0, hc0, _⟩ := l3 0 xs[0] 0 (xs[0][0]'(by omega)) (List.getElem?_eq_getElem hx0) (List.getElem?_eq_getElem (by omega))
        have hsp := cell_spot hc0
        obtain ⟨b, off, sp⟩ := a
        have : sp = none := by simpa [Addr.add] using hsp
        subst this
        have hwl : ∀ y ∈ xs.map (wrapV agg), (cells y).length = Tryz.prog.cellsOf e := fun y hy => by
          obtain ⟨x, hx, rfl⟩ := List.mem_map.1 hy
          rw [hcw x hx, (l2 x hx).2]
        have at_ : ∀ (j : Nat) v, ((xs.map (wrapV agg)).flatMap cells)[j]? = some v → ∃ c, W.cell? ⟨b, off + j, none⟩ = some c ∧ RepD W (phi W) v c ∧ scalar v = true := fun j v hj => by
          obtain ⟨i, u, k, hu, hk, rfl⟩ := flat_split h0 hwl j v hj
          rw [List.getElem?_map, Option.map_eq_some_iff] at hu
          obtain ⟨x, hx, rfl⟩ := hu
          rw [hcw x (List.mem_of_getElem? hx)] at hk
          obtain ⟨c, q1, q2⟩ := l3 i x k v hx hk
          refine ⟨c, ?_, q2⟩
          rw [← q1]
          unfold Addr.add
          split
          · rename_i h; rw [h]; rfl
          · rfl
        refine .slice _ _ b off len cap (fun j => (W.cell? ⟨b, off + j, none⟩).getD undef) h0 (by simp [l1]) hlc hwl (fun j v hj => ?_) (fun j v hj => ?_)
        · obtain ⟨c, q1, q2, q3⟩ := at_ j v hj
          exact ⟨phi_lt q1, by rw [q1]; rfl, q3⟩
        · obtain ⟨c, q1, q2, q3⟩ := at_ j v hj
          rw [q1]; exact q2

/-! ### Arguments -/
theorem arg_agg {t : TypeId} {Pr : List V → Prop} {v : Value} {d : DataW H} {p : List MemPlace} (ha : aggB Tryz.prog t = true) (h : Reads enc W t Pr) (hv : Value.okWide Tryz.prog W .any 0 t v) (ht : DataW.Trod enc Tryz.prog W 0 (fun _ => true) true t v d p) : ∃ vs, Pr vs ∧ RepD W (phi W) (.agg vs) v := by
  obtain ⟨fuel, hf⟩ := ht
  obtain ⟨vs, h1, h2, h3⟩ := h _ _ _ hf
  obtain ⟨cs, rfl, _⟩ : ∃ cs, v = .agg cs ∧ True := by
    unfold aggB at ha
    unfold Value.okWide at hv
    split at ha
    · rename_i hu; rw [hu] at hv; obtain ⟨cs, rfl, _⟩ := hv; exact ⟨cs, rfl, trivial⟩
    · rename_i hu; rw [hu] at hv; obtain ⟨cs, rfl, _⟩ := hv; exact ⟨cs, rfl, trivial⟩
    · cases ha
  refine ⟨vs, h1, .agg _ _ (by simpa [Value.cells] using h2) fun i v x hv hx => (h3 i v x hv ?_).1⟩
  simpa [Value.cells] using hx

theorem arg_one {t : TypeId} {Pr : List V → Prop} {v : Value} {d : DataW H} {p : List MemPlace} (hc : v.cells = #[v]) (h : Reads enc W t Pr) (ht : DataW.Trod enc Tryz.prog W 0 (fun _ => true) true t v d p) : ∃ u, Pr [u] ∧ RepD W (phi W) u v := by
  obtain ⟨fuel, hf⟩ := ht
  obtain ⟨vs, h1, h2, h3⟩ := h _ _ _ hf
  rw [hc] at h2 h3
  match vs, h2 with
  | [u], _ => exact ⟨u, h1, (h3 0 u v rfl rfl).1⟩

theorem exists_list {α : Type} {xs : List (List V)} {R : α → Prop} {g : α → List V} (h : ∀ x ∈ xs, ∃ a, R a ∧ x = g a) : ∃ l : List α, xs = l.map g ∧ ∀ a ∈ l, R a := by
  induction xs with
  | nil => exact ⟨[], rfl, fun a ha => by simp at ha⟩
  | cons x r ih =>
    obtain ⟨a, ha, rfl⟩ := h x (by simp)
    obtain ⟨l, rfl, hl⟩ := ih fun y hy => h y (by simp [hy])
    exact ⟨a :: l, rfl, fun b hb => by
      rcases List.mem_cons.1 hb with rfl | hb
      · exact ha
      · exact hl b hb⟩

end
end Go.Proofs.YtggifklgpdladaaGreat


/-! The statement VolumeTimes, in the frame's terms; what arguments of the laws read as. -/
set_option linter.unusedVariables false
set_option linter.unusedSimpArgs false
set_option maxRecDepth 20000
namespace Go.Proofs.YtggifklgpdladaaGreat
open Go.Am Go.ChangeShapes Go.WideShapes Go.ChangeAt Go.RowKit
attribute [local simp] cells scalar mkv splice under2 under dem dem1 boxC cellC volC intsV eB
/-! ### What the laws' arguments read as -/
section
variable {H : Type} {enc : TypeId × Value → H} {W : World}

theorem rd_int : Reads enc W 3 (fun vs => ∃ n : Int, vs = [I n] ∧ -9223372036854775808 ≤ n ∧ n ≤ 9223372036854775807) := reads_int Tryz.underlying3

theorem rd_bound : Reads enc W 28 (fun vs => ∃ b : Int × Int, vs = [I b.1, I b.2]) := by
  refine (reads_struct Tryz.underlying28 (by kernel_rfl) (readsL_cons rd_int (readsL_cons rd_int readsL_nil))).mono ?_
  rintro vs ⟨a, b, ⟨x, rfl, _⟩, ⟨c, d, ⟨y, rfl, _⟩, rfl, rfl⟩, rfl⟩
  exact ⟨(x, y), rfl⟩

theorem rd_int3 : Reads enc W 26 (fun vs => ∃ a b c : Int, vs = [I a, I b, I c]) := by
  refine (reads_array Tryz.underlying26 (by kernel_rfl) (readsL_cons rd_int (readsL_cons rd_int (readsL_cons rd_int readsL_nil)))).mono ?_
  rintro vs ⟨a, b, ⟨x, rfl, _⟩, ⟨c, d, ⟨y, rfl, _⟩, ⟨e, f, ⟨z, rfl, _⟩, rfl, rfl⟩, rfl⟩, rfl⟩
  exact ⟨x, y, z, rfl⟩

end

theorem repR_bool {w : World} {φ : Nat → Nat} {b : Bool} {x : Value} (h : RepR w φ (.bool b) x) : x = .bool b := by
  cases h with
  | data r => cases r; rfl

theorem repL3 {w : World} {φ : Nat → Nat} {a b c : V} {x y z : Value} (h : RepD w φ a x) (k : RepD w φ b y) (m : RepD w φ c z) : RepL w φ [a, b, c] #[x, y, z] := ⟨rfl, fun i v y h1 h2 => by
  match i with
  | 0 => cases h1; cases h2; exact h
  | 1 => cases h1; cases h2; exact k
  | 2 => cases h1; cases h2; exact m
  | i + 3 => simp at h1⟩

/-- From a contract to the walk that a row asks for. -/
theorem walk_of {f : FuncId} {args : List V} {xs : Array Value} {W : World} (hc : C Tryz.prog f args (.bool true)) (hr : RepL W (phi W) args xs) : Calls Tryz.prog f xs W fun e W' => e = .returned (.bool true) ∧ Below W.heap.size W W' :=
  (hc.2 W (phi W) xs phi_top (fun p hp => by simp [globalsV] at hp) hr).mono fun e w' ⟨φ', x, he, hx, hb, _⟩ => ⟨by rw [he, repR_bool hx], hb⟩

theorem own : ownKnob Tryz.prog.godebug = none := by kernel_rfl
theorem laidOut : laidOutB Tryz.prog = true := by kernel_rfl

end Go.Proofs.YtggifklgpdladaaGreat


/-! Facts on the rows: what the load's head says. -/
set_option linter.unusedVariables false
set_option linter.unusedSimpArgs false
set_option maxRecDepth 100000
namespace Go.Proofs.YtggifklgpdladaaGreat
open Go.Am Go.ChangeShapes Go.WideShapes Go.ChangeAt Go.RowKit

noncomputable def headL : List Char := ([104, 97, 114, 110, 101, 115, 115, 32, 57, 52, 54, 98, 102, 53, 97, 57, 100, 98, 99, 52, 102, 56, 56, 101, 48, 100, 49, 50, 51, 56, 101, 101, 56, 50, 98, 52, 54, 98, 56, 99, 49, 54, 100, 55, 53, 100, 98, 52, 49, 57, 97, 102, 54, 98, 48, 57, 53, 54, 99, 101, 100, 54, 51, 56, 55, 100, 97, 101, 55, 48, 55, 101, 32, 99, 117, 116, 32, 97, 116, 32, 112, 97, 114, 97, 118, 97, 110, 101, 47, 112, 97, 114, 97, 118, 97, 110, 101, 108, 97, 119, 49, 48, 46, 86, 111, 108, 117, 109, 101, 84, 97, 112, 101, 100] : List Nat).map Char.ofNat
theorem head_chars : Tryz.prog.initOrder = String.ofList (([104, 97, 114, 110, 101, 115, 115, 32, 57, 52, 54, 98, 102, 53, 97, 57, 100, 98, 99, 52, 102, 56, 56, 101, 48, 100, 49, 50, 51, 56, 101, 101, 56, 50, 98, 52, 54, 98, 56, 99, 49, 54, 100, 55, 53, 100, 98, 52, 49, 57, 97, 102, 54, 98, 48, 57, 53, 54, 99, 101, 100, 54, 51, 56, 55, 100, 97, 101, 55, 48, 55, 101, 32, 99, 117, 116, 32, 97, 116, 32, 112, 97, 114, 97, 118, 97, 110, 101, 47, 112, 97, 114, 97, 118, 97, 110, 101, 108, 97, 119, 49, 48, 46, 86, 111, 108, 117, 109, 101, 84, 97, 112, 101, 100] : List Nat).map Char.ofNat) := by
  unfold Tryz.prog
  dsimp only
  show (_ : String) = _
  kernel_rfl
theorem head_list : Tryz.prog.initOrder.toList = headL := (congrArg String.toList head_chars).trans String.toList_ofList

section
variable (P : Program) (h : P.initOrder.toList = headL)
include h
theorem make_of : P.make = some .cut := by
  unfold Program.make
  rw [h]
  kernel_rfl
theorem headLifts_of : P.headLifts = [] := by
  unfold Program.headLifts
  rw [h]
  kernel_rfl
theorem lifts_of : P.liftsFinal = false := by
  unfold Program.liftsFinal
  rw [h, headLifts_of P h]
  kernel_rfl
theorem may_of (h1 : P.laysLater = false) (h2 : P.bearsReflect = false) (h3 : P.doorFits [] = true) : P.mayEnter = true := by
  unfold Program.mayEnter
  rw [h, h1, h2]
  have e : behindMainWord (wordsSigns headL) = "cut".toList :: (behindMainWord (wordsSigns headL)).tail := by kernel_rfl
  have e2 : stripLifts liftWords ("cut".toList :: (behindMainWord (wordsSigns headL)).tail) = ([], "cut".toList :: (behindMainWord (wordsSigns headL)).tail) := by kernel_rfl
  rw [e]
  dsimp only
  rw [e2, h3]
  first | rfl | (show (_ : Bool) = true; kernel_rfl)
end

theorem may : Tryz.prog.mayEnter = true := may_of _ head_list (by kernel_rfl) (by kernel_rfl) (by kernel_rfl)
theorem lifts : Tryz.prog.liftsFinal = false := lifts_of _ head_list
theorem made : Tryz.prog.make = some .cut := make_of _ head_list
theorem heard : Tryz.prog.stopsHeard = true := by kernel_rfl
theorem plain : Tryz.prog.plainKeys = false := by kernel_rfl
theorem rowed : mapsRowed Tryz.prog = true := by kernel_rfl

end Go.Proofs.YtggifklgpdladaaGreat


/-! Plain facts: the places of a box by their indices; joins both ways; parts of a volume. -/
set_option linter.unusedVariables false
set_option linter.unusedSimpArgs false
set_option maxRecDepth 20000
namespace Go.Proofs.YtggifklgpdladaaGreat
open Go.Am

theorem btw_iff (n lo hi : Int) : btw n lo hi = true ↔ lo ≤ n ∧ n ≤ hi := by
  simp only [btw, Bool.and_eq_true, decide_eq_true_eq, ge_iff_le]

/-! ### Joins -/
structure joinOk (a b : Vol) : Prop where
  oka : volOk a = true
  okb : volOk b = true
  many : manyI (aroundB a.b b.b) = manyI a.b + manyI b.b - commonI a.b b.b
  small : smallB (aroundB a.b b.b) = true
  same : (boxCells (aroundB a.b b.b)).any (clash a b) = false

/-! ### Parts -/
def part (v : Vol) (b : Bx) : Vol := ⟨b, (boxCells b).map (atV v)⟩
end Go.Proofs.YtggifklgpdladaaGreat


/-! What is not known, filled by bounds: plain facts and the contract of Fill. -/
set_option linter.unusedVariables false
set_option linter.unusedSimpArgs false
set_option maxRecDepth 20000
set_option maxHeartbeats 2000000
namespace Go.Proofs.YtggifklgpdladaaGreat
open Go.Am
attribute [local simp] cells scalar mkv splice under2 under dem dem1 eB
def knownN (n : Int) : Bool := btw n (-32767) 32767
def awayI (slope : Int) (i k : Nat) : Int := slope * max ((i : Int) - (k : Int)) ((k : Int) - (i : Int))
def fillStep (slope : Int) (i k : Nat) (n : Int) (b : Int × Int) : Int × Int := if knownN n then (max b.1 (n - awayI slope i k), min b.2 (n + awayI slope i k)) else b
def fillG (slope : Int) (i : Nat) : List Int → Nat → Int × Int → Int × Int
  | [], _, b => b
  | n :: r, k, b => fillG slope i r (k + 1) (fillStep slope i k n b)
def fillAt (l : List Int) (slope : Int) (i : Nat) : Int × Int := fillG slope i l 0 (-32767, 32767)
def fillL (l : List Int) (slope : Int) : List (Int × Int) := (List.range l.length).map (fillAt l slope)

/-- What is seen of what is true. -/
structure Seen (t seen : List Int) (slope : Int) : Prop where
  len : seen.length = t.length
  many : 1 ≤ t.length ∧ t.length ≤ 64
  sl : 0 ≤ slope ∧ slope ≤ 65535
  is : ∀ k (h : k < seen.length) (h' : k < t.length), seen[k] = t[k] ∨ seen[k] = 40000
  lip : ∀ i k (h : i < t.length) (h' : k < t.length), t[k] - awayI slope i k ≤ t[i] ∧ t[i] ≤ t[k] + awayI slope i k
  small : ∀ k (h : k < t.length), -32767 ≤ t[k] ∧ t[k] ≤ 32767
  one : knownN (seen.getD 0 40000) = true

theorem away_bd {slope : Int} (h : 0 ≤ slope ∧ slope ≤ 65535) {i k : Nat} (hi : i ≤ 64) (hk : k ≤ 64) : 0 ≤ awayI slope i k ∧ awayI slope i k ≤ 65535 * 64 := by
  unfold awayI
  have h1 : 0 ≤ max ((i : Int) - (k : Int)) ((k : Int) - (i : Int)) ∧ max ((i : Int) - (k : Int)) ((k : Int) - (i : Int)) ≤ 64 := by omega
  exact ⟨Int.mul_nonneg h.1 h1.1, Int.mul_le_mul h.2 h1.2 h1.1 (by omega)⟩

section
variable {t seen : List Int} {slope : Int}

theorem Seen.known (H : Seen t seen slope) {k : Nat} (h : k < seen.length) (h' : k < t.length) (hk : knownN seen[k] = true) : seen[k] = t[k] := by
  rcases H.is k h h' with e | e
  · exact e
  · rw [e] at hk; exact absurd hk (by decide)

/-- Bounds that hold the truth go on holding it. -/
theorem Seen.holds (H : Seen t seen slope) {i : Nat} (hi : i < t.length) : ∀ (d k : Nat), k + d = seen.length → ∀ b : Int × Int, (-32767 ≤ b.1 ∧ b.1 ≤ t[i] ∧ t[i] ≤ b.2 ∧ b.2 ≤ 32767) →
    -32767 ≤ (fillG slope i (seen.drop k) k b).1 ∧ (fillG slope i (seen.drop k) k b).1 ≤ t[i] ∧ t[i] ≤ (fillG slope i (seen.drop k) k b).2 ∧ (fillG slope i (seen.drop k) k b).2 ≤ 32767
  | 0, k, hk, b, hb => by rw [List.drop_eq_nil_of_le (by omega)]; exact hb
  | d + 1, k, hk, b, hb => by
    have hkl : k < seen.length := by omega
    have hkt : k < t.length := by have := H.len; omega
    rw [List.drop_eq_getElem_cons hkl]
    refine Seen.holds H hi d (k + 1) (by omega) _ ?_
    unfold fillStep
    by_cases hn : knownN seen[k] = true
    · rw [if_pos hn, H.known hkl hkt hn]
      have h1 := H.lip i k hi hkt
      have h2 := H.small k hkt
      have h3 := away_bd H.sl (i := i) (k := k) (by have := H.many; omega) (by have := H.many; omega)
      simp only
      omega
    · rw [if_neg hn]; exact hb

theorem fillG_mono (slope : Int) (i : Nat) : ∀ (r : List Int) (k : Nat) (b : Int × Int), b.1 ≤ (fillG slope i r k b).1 ∧ (fillG slope i r k b).2 ≤ b.2
  | [], k, b => ⟨Int.le_refl _, Int.le_refl _⟩
  | n :: r, k, b => by
    have h := fillG_mono slope i r (k + 1) (fillStep slope i k n b)
    have h2 : b.1 ≤ (fillStep slope i k n b).1 ∧ (fillStep slope i k n b).2 ≤ b.2 := by
      unfold fillStep
      split <;> (try simp only) <;> omega
    simp only [fillG]
    omega

theorem fillG_append (slope : Int) (i : Nat) : ∀ (r s : List Int) (k : Nat) (b : Int × Int), fillG slope i (r ++ s) k b = fillG slope i s (k + r.length) (fillG slope i r k b)
  | [], s, k, b => rfl
  | n :: r, s, k, b => by
    simp only [List.cons_append, fillG, List.length_cons]
    rw [fillG_append slope i r s (k + 1), show k + 1 + r.length = k + (r.length + 1) by omega]

theorem Seen.at (H : Seen t seen slope) {i : Nat} (hi : i < t.length) : -32767 ≤ (fillAt seen slope i).1 ∧ (fillAt seen slope i).1 ≤ t[i] ∧ t[i] ≤ (fillAt seen slope i).2 ∧ (fillAt seen slope i).2 ≤ 32767 := by
  have h := H.holds hi seen.length 0 (by omega) (-32767, 32767) (by have := H.small i hi; simp only; omega)
  simpa [fillAt] using h

theorem Seen.own (H : Seen t seen slope) {i : Nat} (hi : i < seen.length) (hk : knownN seen[i] = true) : fillAt seen slope i = (seen[i], seen[i]) := by
  have hit : i < t.length := by have := H.len; omega
  have e := H.known hi hit hk
  have h1 := H.at hit
  have h2 : fillAt seen slope i = fillG slope i (seen.drop (i + 1)) (i + 1) (fillStep slope i i seen[i] (fillG slope i (seen.take i) 0 (-32767, 32767))) := by
    unfold fillAt
    conv => lhs; rw [← List.take_append_drop i seen]
    rw [fillG_append, List.length_take, Nat.zero_add, Nat.min_eq_left (by omega), List.drop_eq_getElem_cons hi]
    rfl
  have h3 := fillG_mono slope i (seen.drop (i + 1)) (i + 1) (fillStep slope i i seen[i] (fillG slope i (seen.take i) 0 (-32767, 32767)))
  rw [← h2] at h3
  have h4 : seen[i] ≤ (fillStep slope i i seen[i] (fillG slope i (seen.take i) 0 (-32767, 32767))).1 ∧ (fillStep slope i i seen[i] (fillG slope i (seen.take i) 0 (-32767, 32767))).2 ≤ seen[i] := by
    unfold fillStep
    rw [if_pos hk]
    have : awayI slope i i = 0 := by unfold awayI; simp
    rw [this]
    simp only
    omega
  rw [← e] at h1
  refine Prod.ext ?_ ?_ <;> simp only <;> omega
end

/-! ### Contracts -/
theorem c_twithin (n lo hi : Int) : C Tryz.prog F.tape_within [I n, I lo, I hi] (.bool (btw n lo hi)) := by
  refine C_of mixed chk.tape_within (by simp) fun S ok => ?_
  refine Tr.seqR rfl (by simp) (Tr.seqR rfl (by simp) (Tr.retX rfl rfl rfl ?_ trivial))
  unfold btw
  by_cases h1 : n ≥ lo <;> by_cases h2 : n ≤ hi <;> simp [packR, h1, h2]

theorem c_known (n : Int) : C Tryz.prog F.tape_known [I n] (.bool (knownN n)) := by
  refine C_of mixed chk.tape_known (by simp) fun S ok => ?_
  exact Tr.seqR rfl (by simp) (Tr.seqC rfl (by simp) (Steps.call rfl rfl (c_twithin _ _ _) (Steps.fin rfl (by simp) (Tr.retX rfl rfl rfl rfl trivial))))

theorem c_sample {n : Int} (h : knownN n = true ∨ n = 40000) : C Tryz.prog F.tape_sample [I n] (.bool true) := by
  refine C_of mixed chk.tape_sample (by simp) fun S ok => ?_
  refine Tr.seqR rfl (by simp) (Tr.seqC rfl (by simp) (Steps.call rfl rfl (c_known n) (Steps.fin rfl (by simp) (Tr.retX rfl rfl rfl ?_ trivial))))
  rcases h with h | h
  · rw [h]; simp [packR]
  · subst h; rfl

theorem c_frame1 {n : Int} (h : knownN n = true ∨ n = 40000) : C Tryz.prog F.tape_CheckFrame_1 ([I n] ++ []) (.bool (!true)) := by
  refine C_of mixed chk.tape_CheckFrame_1 (by simp) fun S ok => ?_
  exact Tr.seqR rfl (by simp) (Tr.seqC rfl (by simp) (Steps.call rfl rfl (c_sample h) (Steps.fin rfl (by simp) (Tr.retX rfl rfl rfl rfl trivial))))

theorem c_CheckFrame {l : List Int} (hl : 1 ≤ l.length ∧ l.length ≤ 64) (h : ∀ n ∈ l, knownN n = true ∨ n = 40000) : C Tryz.prog F.tape_CheckFrame [.agg [I 0, I 0, intsV l]] (I 0) := by
  refine C_of mixed chk.tape_CheckFrame (by simp) fun S ok => ?_
  have hlen : C Tryz.prog F.tape_within [I ((l.map I).length : Int), I 1, I 64] (.bool true) := by
    have h := c_twithin ((l.map I).length : Int) 1 64
    rw [btw_iff _ _ _ |>.2 (by rw [List.length_map]; omega)] at h; exact h
  have hany : C Tryz.prog F.slices_ContainsFunc_int_int [intsV l, .func (.func F.tape_CheckFrame_1) [] []] (.bool false) := by
    have h1 := c_containsI0 (l := l) (p := fun _ => !true) (f := F.tape_CheckFrame_1) (by omega) (fun b hb => c_frame1 (h b hb))
    have e : (l.any fun _ => !true) = false := by simp
    rw [e] at h1; exact h1
  refine Tr.seqR rfl (by simp [intsV]) (Tr.seq (Tr.seqC rfl (by simp) (Steps.call rfl rfl (c_twithin 0 0 60000) (Steps.run rfl (by simp) ?_))))
  refine Steps.gcall rfl rfl rfl rfl (by simp) (fun _ => c_twithin 0 0 23) (Steps.run rfl (by simp [intsV]) ?_)
  refine Steps.gcall rfl rfl rfl rfl (by simp) (fun _ => hlen) (Steps.run rfl (by simp) ?_)
  refine Steps.gcall rfl rfl rfl rfl (by simp) (fun _ => hany) (Steps.fin rfl (by simp) ?_)
  refine Tr.condF rfl (Tr.skip ?_)
  exact Tr.seqR rfl (by simp) (Tr.retX rfl rfl rfl rfl trivial)

end Go.Proofs.YtggifklgpdladaaGreat


/-! Contracts: what is not known, filled by bounds. -/
set_option linter.unusedVariables false
set_option linter.unusedSimpArgs false
set_option maxRecDepth 20000
set_option maxHeartbeats 2000000
namespace Go.Proofs.YtggifklgpdladaaGreat
open Go.Am
attribute [local simp] cells scalar mkv splice under2 under dem dem1 eB
theorem fillG_take (slope : Int) (i : Nat) {l : List Int} {k : Nat} (h : k < l.length) (b : Int × Int) : fillG slope i (l.take (k + 1)) 0 b = fillStep slope i k l[k] (fillG slope i (l.take k) 0 b) := by
  rw [List.take_add_one, List.getElem?_eq_getElem h, fillG_append, List.length_take, Nat.zero_add, Nat.min_eq_left (by omega)]
  rfl

theorem c_Fill {t seen : List Int} {slope : Int} (H : Seen t seen slope) : C Tryz.prog F.tape_Fill [intsV seen, I slope] (.tuple [sB (fillL seen slope), I 0]) := by
  have hlen := H.len
  have hmany := H.many
  have hsl := H.sl
  have hok : ∀ n ∈ seen, knownN n = true ∨ n = 40000 := fun n hn => by
    obtain ⟨k, hk, rfl⟩ := List.mem_iff_getElem.1 hn
    rcases H.is k hk (by omega) with e | e
    · left; rw [e]; exact btw_iff _ _ _ |>.2 (H.small k (by omega))
    · exact .inr e
  have kF := c_CheckFrame (l := seen) (by omega) hok
  have kW : C Tryz.prog F.tape_within [I slope, I 0, I 65535] (.bool true) := by
    have h := c_twithin slope 0 65535
    rw [btw_iff _ _ _ |>.2 hsl] at h; exact h
  have kC : C Tryz.prog F.slices_ContainsFunc_int_int [intsV seen, .func (.func F.tape_known) [] []] (.bool true) := by
    have h1 := c_containsI0 (l := seen) (p := knownN) (f := F.tape_known) (by omega) (fun b hb => c_known b)
    have e : seen.any knownN = true := by
      have h0 := H.one
      have hp : 0 < seen.length := by omega
      rw [List.getD_eq_getElem?_getD, List.getElem?_eq_getElem hp] at h0
      exact List.any_eq_true.2 ⟨_, List.getElem_mem hp, h0⟩
    rw [e] at h1; exact h1
  refine C_of mixed chk.tape_Fill (by simp) fun S ok => ?_
  refine Tr.seqR rfl (by simp) ?_
  refine Tr.seq (Tr.seqC rfl (by simp [intsV]) (Steps.call rfl rfl kF (Steps.fin rfl (by simp) (Tr.condF rfl (Tr.skip ?_)))))
  refine Tr.seq (Tr.seqC rfl (by simp) (Steps.call rfl rfl kW (Steps.fin rfl (by simp) (Tr.condF rfl (Tr.skip ?_)))))
  refine Tr.seq (Tr.seqC rfl (by simp [intsV]) (Steps.call rfl rfl kC (Steps.fin rfl (by simp) (Tr.condF rfl (Tr.skip ?_)))))
  refine Tr.seqR rfl (by simp) (Tr.seq (Tr.seqR rfl (by simp [intsV]) (Tr.block ?_)))
  refine Tr.loop (fun i s => i ≤ seen.length ∧ s = { env := [(0, intsV seen), (1, I slope), (6, .slice 66 2 ((List.range i).map fun i => eB (fillAt seen slope i))), (25, I seen.length), (26, I i)], bx := [], rw := [(65, i, 2, 28)], log := [], stp := false }) (fun i => seen.length - i) 0
    (Wk.le (.cons rfl (.refl _) (.cons rfl (.refl _) (.cons rfl (.nil 66 2) (.cons rfl (VLe.i (by simp)) (.cons rfl (.refl _) .nil))))) .nil (.new rfl .nil) rfl rfl) ⟨by omega, rfl⟩ ?_
  rintro i s ⟨hi, rfl⟩
  refine Tr.seqR rfl (by simp) (Tr.seqI rfl (fun h3 => ?_) (fun h3 => ?_))
  · have h3 : i < seen.length := by simpa using h3
    refine Tr.skipT (Tr.seq (Tr.block (Tr.seqR rfl (by simp) (Tr.seqR rfl (by simp) (Tr.seq (Tr.seqR rfl (by simp [intsV]) (Tr.block ?_)))))))
    refine Tr.loop (fun k s => k ≤ seen.length ∧ s = { env := [(0, intsV seen), (1, I slope), (6, .slice 66 2 ((List.range i).map fun i => eB (fillAt seen slope i))), (7, I i), (8, .ptr 8 0), (25, I seen.length), (26, I i), (30, intsV seen), (31, I seen.length), (32, I k)], bx := [(8, ⟨[I (fillG slope i (seen.take k) 0 (-32767, 32767)).1, I (fillG slope i (seen.take k) 0 (-32767, 32767)).2], false⟩)], rw := [(65, i, 2, 28)], log := [], stp := false }) (fun k => seen.length - k) 0
      (Wk.le (.cons rfl (.refl _) (.cons rfl (.refl _) (.cons rfl (.refl _) (.cons rfl (.refl _) (.cons rfl (.refl _) (.cons rfl (.refl _) (.cons rfl (.refl _) (.cons rfl (.refl _) (.cons rfl (VLe.i (by simp)) (.cons rfl (.refl _) .nil)))))))))) (.cons rfl (LLe.refl _) .nil) (.cons rfl .nil) rfl rfl) ⟨by omega, rfl⟩ ?_
    rintro k s ⟨hk, rfl⟩
    refine Tr.seqR rfl (by simp) (Tr.seqI rfl (fun h4 => ?_) (fun h4 => ?_))
    rotate_left
    · have h4 : k = seen.length := by simp at h4; omega
      subst h4
      rw [List.take_length]
      refine Tr.exit (Tr.regR rfl (by simp; omega) (Tr.regR rfl (by simp) ?_))
      refine ⟨i + 1, _, Wk.le (.cons rfl (.refl _) (.cons rfl (.refl _) (.cons rfl (.of_eq ?_) (.cons rfl (.refl _) (.cons rfl (VLe.i (w64 (by omega) (by omega))) .nil))))) .nil (.cons ?_ .nil) rfl rfl, ⟨h3, rfl⟩, by omega⟩
      · rw [List.range_succ, List.map_append]; rfl
      · show some _ = some _
        simp
    have h4 : k < seen.length := by simpa using h4
    have ht := fillG_take slope i h4 (-32767, 32767)
    obtain ⟨B, hB⟩ : ∃ B, fillG slope i (seen.take k) 0 (-32767, 32767) = B := ⟨_, rfl⟩
    rw [hB] at ht ⊢
    obtain ⟨n, hn⟩ : ∃ n, seen[k] = n := ⟨_, rfl⟩
    rw [hn] at ht
    have hnb : (-32767 ≤ n ∧ n ≤ 32767) ∨ n = 40000 := by
      rcases hok n (hn ▸ List.getElem_mem h4) with h | h
      · exact .inl (btw_iff _ _ _ |>.1 h)
      · exact .inr h
    have haw := away_bd hsl (i := i) (k := k) (by omega) (by omega)
    refine Tr.skipT (Tr.seq (Tr.block (Tr.seqN 2 rfl (by simp [intsV]; omega) ?_)))
    rw [getD_map h4, hn]
    refine Steps.fin rfl (by simp) ?_
    refine Tr.seqC rfl (by simp) (Steps.call rfl rfl (c_known n) (Steps.fin rfl (by simp) (Tr.cond rfl rfl (fun h5 => ?_) (fun h5 => Tr.skip ?_))))
    rotate_left
    · unfold fillStep at ht
      rw [if_neg (by rw [h5]; simp)] at ht
      refine Tr.regR rfl (by simp) ?_
      refine ⟨k + 1, _, Wk.le (.cons rfl (.refl _) (.cons rfl (.refl _) (.cons rfl (.refl _) (.cons rfl (.refl _) (.cons rfl (.refl _) (.cons rfl (.refl _) (.cons rfl (.refl _) (.cons rfl (.refl _) (.cons rfl (.refl _) (.cons rfl (VLe.i (w64 (by omega) (by omega))) .nil)))))))))) (.cons rfl (by rw [ht]; exact LLe.refl _) .nil) (.cons rfl .nil) rfl rfl, ⟨h4, rfl⟩, by omega⟩
    unfold fillStep at ht
    rw [if_pos h5] at ht
    have haI : IntKind.i64.wrap (slope * (if IntKind.i64.wrap ((k : Int) - (i : Int)) > IntKind.i64.wrap ((i : Int) - (k : Int)) then IntKind.i64.wrap ((k : Int) - (i : Int)) else IntKind.i64.wrap ((i : Int) - (k : Int)))) = awayI slope i k := by
      rw [w64 (n := (i : Int) - (k : Int)) (by omega) (by omega), w64 (n := (k : Int) - (i : Int)) (by omega) (by omega)]
      rw [ite_max]
      exact w64 (by unfold awayI at haw; omega) (by unfold awayI at haw; omega)
    refine Tr.seqR rfl (by simp) ?_
    refine Tr.weak (s' := { env := [(0, intsV seen), (1, I slope), (6, .slice 66 2 ((List.range i).map fun i => eB (fillAt seen slope i))), (7, I i), (8, .ptr 8 0), (10, I n), (11, I (awayI slope i k)), (25, I seen.length), (26, I i), (30, intsV seen), (31, I seen.length), (32, I k)], bx := [(8, ⟨[I B.1, I B.2], false⟩)], rw := [(65, i, 2, 28)], log := [], stp := false })
      (Wk.le (.cons rfl (.refl _) (.cons rfl (.refl _) (.cons rfl (.refl _) (.cons rfl (.refl _) (.cons rfl (.refl _) (.cons rfl (.refl _) (.cons rfl (VLe.i haI) (.cons rfl (.refl _) (.cons rfl (.refl _) (.cons rfl (.refl _) (.cons rfl (.refl _) (.cons rfl (.refl _) .nil)))))))))))) (.cons rfl (LLe.refl _) .nil) (.cons rfl .nil) rfl rfl) ?_
    refine Tr.regR rfl (by simp) (Tr.regR rfl (by simp) ?_)
    refine ⟨k + 1, _, Wk.le (.cons rfl (.refl _) (.cons rfl (.refl _) (.cons rfl (.refl _) (.cons rfl (.refl _) (.cons rfl (.refl _) (.cons rfl (.refl _) (.cons rfl (.refl _) (.cons rfl (.refl _) (.cons rfl (.refl _) (.cons rfl (VLe.i (w64 (by omega) (by omega))) .nil)))))))))) (.cons rfl (.cons (VLe.i ?_) (.cons (VLe.i ?_) .nil)) .nil) (.cons rfl .nil) rfl rfl, ⟨h4, rfl⟩, by omega⟩
    · rw [ht, w64 (n := n - awayI slope i k) (by omega) (by omega)]
      exact ite_max B.1 (n - awayI slope i k)
    · rw [ht, w64 (n := n + awayI slope i k) (by omega) (by omega)]
      exact ite_min B.2 (n + awayI slope i k)
  have h3 : i = seen.length := by simp at h3; omega
  subst h3
  refine Tr.exit (Tr.seq (Tr.seqR rfl (by simp [intsV]) (Tr.block ?_)))
  have hfl : (fillL seen slope).length = seen.length := by simp [fillL]
  have efl : ((List.range seen.length).map fun i => eB (fillAt seen slope i)) = (fillL seen slope).map eB := by unfold fillL; rw [List.map_map]; rfl
  rw [efl]
  refine Tr.loop (fun i s => i ≤ seen.length ∧ s = { env := [(6, sB (fillL seen slope)), (67, intsV seen), (68, I seen.length), (69, I i)], bx := [], rw := [], log := [], stp := false }) (fun i => seen.length - i) 0
    (Wk.le (.cons rfl (.dem _ _ _) (.cons rfl (.refl _) (.cons rfl (VLe.i (by simp)) (.cons rfl (.refl _) .nil)))) .nil .nil rfl rfl) ⟨by omega, rfl⟩ ?_
  rintro i s ⟨hi, rfl⟩
  refine Tr.seqR rfl (by simp) (Tr.seqI rfl (fun h3 => ?_) (fun h3 => ?_))
  rotate_left
  · exact Tr.exit (Tr.seqR rfl (by simp) (Tr.retX rfl rfl rfl rfl trivial))
  have h3 : i < seen.length := by simpa using h3
  have h3f : i < (fillL seen slope).length := by omega
  have e : (fillL seen slope)[i] = fillAt seen slope i := by simp [fillL]
  refine Tr.skipT (Tr.seq (Tr.block (Tr.seqN 2 rfl (by simp [intsV]; omega) ?_)))
  rw [getD_map h3]
  refine Steps.fin rfl (by simp) ?_
  refine Tr.seqC rfl (by simp) (Steps.call rfl rfl (c_known seen[i]) (Steps.runN 4 rfl (by simp [sB]; first | omega | exact fun e => ⟨by omega, e⟩ | exact fun e => by omega | trace_state) ?_))
  rw [getD_map h3f, e]
  refine Steps.fin rfl (by simp) (Tr.cond rfl rfl (fun h => ?_) (fun _ => Tr.skip ?_))
  · exfalso
    by_cases hk : knownN seen[i] = true
    · rw [H.own h3 hk] at h
      revert h; simp
    · revert h; simp [hk]
  refine Tr.regR rfl (by simp) ?_
  exact ⟨i + 1, _, Wk.le (.cons rfl (.refl _) (.cons rfl (.refl _) (.cons rfl (.refl _) (.cons rfl (VLe.i (w64 (by omega) (by omega))) .nil)))) .nil .nil rfl rfl, ⟨h3, rfl⟩, by omega⟩

end Go.Proofs.YtggifklgpdladaaGreat


/-! Own copies; what a change of one value does to a seal. -/
set_option linter.unusedVariables false
set_option linter.unusedSimpArgs false
set_option maxRecDepth 20000
set_option maxHeartbeats 2000000
namespace Go.Proofs.YtggifklgpdladaaGreat
open Go.Am
attribute [local simp] cells scalar mkv splice under2 under dem dem1
theorem flat_ints (l : List Int) : (l.map I).flatMap cells = l.map I := by
  induction l with
  | nil => rfl
  | cons a l ih => rw [List.map_cons, List.flatMap_cons, ih]; rfl

theorem ints_isD (l : List Int) : (l.map I).all isD = true := by
  rw [List.all_eq_true]
  intro x hx
  obtain ⟨n, _, rfl⟩ := List.mem_map.1 hx
  rfl

theorem ints_refs (l : List Int) (B : Nat → Bool) (R : Nat → Option (Nat × Nat × Nat)) : (l.map I).all (refsOk B R 6) = true := by
  rw [List.all_eq_true]
  intro x hx
  obtain ⟨n, _, rfl⟩ := List.mem_map.1 hx
  rfl

theorem okI {k : Nat} {l : List Int} {env : List (Nat × V)} {bx : List (Nat × Box)} {rw : List (Nat × Nat × Nat × Nat)} (h : okRefs env ((k, ⟨[], false⟩) :: bx) rw = true) : okRefs env ((k, ⟨l.map I, false⟩) :: bx) rw = true := by
  have e : hasKey ((k, (⟨l.map I, false⟩ : Box)) :: bx) = hasKey ((k, (⟨[], false⟩ : Box)) :: bx) := rfl
  unfold okRefs at h ⊢
  rw [e]
  rw [Bool.and_eq_true] at h ⊢
  refine ⟨h.1, ?_⟩
  have h2 := h.2
  rw [List.all_cons, Bool.and_eq_true] at h2 ⊢
  exact ⟨ints_refs _ _ _, h2.2⟩

theorem holds_ints (l : List Int) : Holds (l.map I) 0 1 l.length (l.map I) := by
  refine ⟨by omega, by simp, fun x hx => ?_, ?_, fun x hx => ?_⟩
  · obtain ⟨c, _, rfl⟩ := List.mem_map.1 hx; rfl
  · rw [List.drop_zero, List.take_of_length_le (by simp), flat_ints]
  · obtain ⟨c, _, rfl⟩ := List.mem_map.1 hx; rfl

theorem c_Own {l : List Int} (h0 : l ≠ []) (hl : l.length ≤ 1000000) : CO Tryz.prog F.ref00_Own [intsV l] 1 (l.map I) := by
  refine CO_of mixed chk.ref00_Own (by simp) fun S ok => ?_
  refine Tr.seqR rfl (by simp) (Tr.seqR rfl (by simp) ?_)
  refine Tr.seqN 2 rfl (by simp) ?_
  refine Steps.appendBox (r := 0) (ys := l.map I) rfl rfl (by omega) (by simp; omega) (by simp; omega) (by simpa using h0) ?_
  refine Steps.fin rfl (by simp) (Tr.ret ?_)
  exact ⟨6, rfl, rfl, by rw [flat_ints]; exact ints_isD l⟩

/-! ### Seals -/
end Go.Proofs.YtggifklgpdladaaGreat


/-! Plain facts: values and enclosures as sums over what is near. -/
set_option linter.unusedVariables false
set_option linter.unusedSimpArgs false
set_option maxRecDepth 20000
namespace Go.Proofs.YtggifklgpdladaaGreat
open Go.Am

/-! ### Bounds within bounds -/
def ins (a b : Int × Int) : Prop := b.1 ≤ a.1 ∧ a.2 ≤ b.2
theorem echoOk_spec {e : Echo} (h : echoOk e = true) : ((-64 ≤ e.x ∧ e.x ≤ 64) ∧ (-64 ≤ e.y ∧ e.y ≤ 64)) ∧ (1 ≤ e.s.length ∧ e.s.length ≤ 64) ∧ ∀ b ∈ e.s, -16777216 ≤ b.1 ∧ b.1 ≤ b.2 ∧ b.2 ≤ 16777216 := by
  simp only [echoOk, btw, Bool.and_eq_true, decide_eq_true_eq, List.all_eq_true, loud] at h
  obtain ⟨⟨⟨h1, h2⟩, h3⟩, h4⟩ := h
  exact ⟨by omega, by omega, fun b hb => by have := h4 b hb; omega⟩

theorem echoesOk_spec {l : List Echo} (h : echoesOk l = true) : l.length ≤ 32 ∧ ∀ e ∈ l, echoOk e = true := by
  simp only [echoesOk, Bool.and_eq_true, decide_eq_true_eq, List.all_eq_true] at h
  exact h

end Go.Proofs.YtggifklgpdladaaGreat


/-! Contracts: numbers chosen around; samples chosen within bounds; images within images. -/
set_option linter.unusedVariables false
set_option linter.unusedSimpArgs false
set_option maxRecDepth 20000
set_option maxHeartbeats 1000000
namespace Go.Proofs.YtggifklgpdladaaGreat
open Go.Am
attribute [local simp] cells scalar mkv splice under2 under dem dem1 eB
def restI (n m : Int) : Int := if m < 1 then 0 else n % m

theorem rest_tmod {n m : Int} (hm : 1 ≤ m) : (n.tmod m < 0 → n.tmod m + m = n % m) ∧ (¬ n.tmod m < 0 → n.tmod m = n % m) := by
  have h1 := Int.emod_nonneg n (show m ≠ 0 by omega)
  have h2 := Int.emod_lt_of_pos n (show 0 < m by omega)
  have h3 := Int.tmod_eq_emod (a := n) (b := m)
  split at h3
  · omega
  · have : (m.natAbs : Int) = m := by omega
    omega

theorem restI_bd {n m : Int} (hm : 1 ≤ m) : 0 ≤ restI n m ∧ restI n m < m := by
  unfold restI
  rw [if_neg (by omega)]
  exact ⟨Int.emod_nonneg n (by omega), Int.emod_lt_of_pos n (by omega)⟩

theorem c_Rest (n m : Int) (hm : m ≤ 9223372036854775807) : C Tryz.prog F.ref00_Rest [I n, I m] (I (restI n m)) := by
  refine C_of mixed chk.ref00_Rest (by simp) fun S ok => ?_
  refine Tr.seqR rfl (by simp) (Tr.seq (Tr.seqR rfl (by simp) (Tr.cond rfl rfl (fun h1 => Tr.seqR rfl (by simp) (Tr.retX rfl rfl rfl ?_ trivial)) (fun h1 => Tr.skip ?_))))
  · have h1 : m < 1 := by simpa using h1
    simp [packR, restI, h1]
  have h1 : ¬ m < 1 := by simpa using h1
  have hr := restI_bd (n := n) (m := m) (by omega)
  obtain ⟨k1, k2⟩ := rest_tmod (n := n) (m := m) (by omega)
  have e : restI n m = n % m := by unfold restI; rw [if_neg h1]
  refine Tr.seqR rfl (by simp; omega) (Tr.seq (Tr.seqR rfl (by simp) (Tr.cond rfl rfl (fun h2 => Tr.regR rfl (by simp) ?_) (fun h2 => Tr.skip ?_))))
  · have h2 : n.tmod m < 0 := by simpa using h2
    refine Tr.seqR rfl (by simp) (Tr.retX rfl rfl rfl ?_ trivial)
    show I (restI n m) = I (IntKind.i64.wrap (n.tmod m + m))
    rw [e, k1 h2, w64 (by omega) (by omega)]
  · have h2 : ¬ n.tmod m < 0 := by simpa using h2
    refine Tr.seqR rfl (by simp) (Tr.retX rfl rfl rfl ?_ trivial)
    show I (restI n m) = I (n.tmod m)
    rw [e, k2 h2]

def pickI (l : List Int) (i : Int) : Int := l.getD (restI i l.length).toNat 0

theorem c_Pick (l : List Int) (i : Int) (hl : l.length ≤ 9223372036854775807) : C Tryz.prog F.ref00_Pick [intsV l, I i] (I (pickI l i)) := by
  refine C_of mixed chk.ref00_Pick (by simp) fun S ok => ?_
  refine Tr.seqR rfl (by simp) (Tr.seq (Tr.seqR rfl (by simp [intsV]) (Tr.cond rfl rfl (fun h1 => Tr.seqR rfl (by simp) (Tr.retX rfl rfl rfl ?_ trivial)) (fun h1 => Tr.skip ?_))))
  · have h1 : l = [] := by simpa using h1
    subst h1; rfl
  have h1 : l ≠ [] := by simpa using h1
  have h0 : 0 < l.length := List.length_pos_iff.2 h1
  have hb := restI_bd (n := i) (m := l.length) (by omega)
  obtain ⟨q, hq⟩ : ∃ q : Nat, restI i l.length = (q : Int) := ⟨(restI i l.length).toNat, by omega⟩
  have hql : q < l.length := by omega
  have hc : C Tryz.prog F.ref00_Rest [I i, I ((l.map I).length : Int)] (I (q : Int)) := by
    rw [List.length_map]; exact hq ▸ c_Rest i l.length (by omega)
  refine Tr.seqC rfl (by simp [intsV]) (Steps.call rfl rfl hc (Steps.runN 1 rfl (by simp [intsV]; omega) ?_))
  rw [getD_map hql]
  refine Steps.fin rfl (by simp) (Tr.retX rfl rfl rfl ?_ trivial)
  simp [packR, pickI, hq, List.getElem?_eq_getElem hql]

/-! ### Samples within their bounds -/
theorem c_inside (a : Bx) (l l' : List (Int × Int)) (hl : l.length ≤ 4096) (hll : l.length = l'.length) (hi : ∀ i (h : i < l.length) (h' : i < l'.length), ins l[i] l'[i]) :
    C Tryz.prog F.law10_inside [.agg [I a.x, I a.y, I a.z, I a.a, I a.b, I a.c, .slice 0 2 (l.map eB)], .agg [I a.x, I a.y, I a.z, I a.a, I a.b, I a.c, .slice 0 2 (l'.map eB)]] (.bool true) := by
  refine C_of mixed chk.law10_inside (by simp) fun S ok => ?_
  refine Tr.seqR rfl (by simp) (Tr.seq (Tr.seqR rfl (by simp) ?_))
  have hc : ∀ c : Bool, (bif (bif (!(a.x == a.x && (a.y == a.y && (a.z == a.z && true)))) then true else !(a.a == a.a && (a.b == a.b && (a.c == a.c && true)))) then true else ((l.map eB).length : Int) != ((l'.map eB).length : Int)) = c → c = false := by
    rintro c rfl
    simp [hll]
  refine Tr.cond rfl rfl (fun h1 => ?_) (fun h1 => Tr.skip ?_)
  · have := hc true h1; cases this
  refine Tr.seq (Tr.seqR rfl (by simp) (Tr.block ?_))
  refine Tr.loop (fun k st => k ≤ l.length ∧ st = { env := [(2, .ptr 2 0), (3, .ptr 3 0), (5, I k)], bx := [(2, ⟨[I a.x, I a.y, I a.z, I a.a, I a.b, I a.c, .slice 0 2 (l.map eB)], false⟩), (3, ⟨[I a.x, I a.y, I a.z, I a.a, I a.b, I a.c, .slice 0 2 (l'.map eB)], false⟩)], rw := [], log := [], stp := false }) (fun k => l.length - k) 0
    (Wk.le (.cons rfl (.refl _) (.cons rfl (.refl _) (.cons rfl (.refl _) .nil))) (.cons rfl (LLe.refl _) (.cons rfl (LLe.refl _) .nil)) .nil rfl rfl) ⟨by omega, rfl⟩ ?_
  rintro k st ⟨hk, rfl⟩
  refine Tr.seq (Tr.seqR rfl (by simp) (Tr.cond rfl rfl (fun h3 => Tr.skip ?_) (fun h3 => Tr.exit (Tr.seqR rfl (by simp) (Tr.retX rfl rfl rfl rfl trivial)))))
  have h3 : k < l.length := by simpa using h3
  have h4 : k < l'.length := by omega
  have hik := hi k h3 h4
  refine Tr.seq (Tr.block (Tr.seq (Tr.drawK (TraceK.runN 4 rfl (by simp; omega) ?_))))
  rw [getD_map h3]
  refine TraceK.runN 6 rfl (by simp [eB]; omega) ?_
  rw [getD_map h4]
  refine TraceK.runN 8 rfl (by simp [eB] <;> (intros; omega)) ?_
  rw [getD_map h3]
  refine TraceK.runN 6 rfl (by simp [eB] <;> (intros; omega)) ?_
  rw [getD_map h4]
  refine TraceK.run rfl (by simp [eB]) (.done ⟨by kernel_rfl, by kernel_rfl, ?_⟩)
  refine Tr.cond rfl rfl (fun h5 => ?_) (fun h5 => Tr.skip (Tr.regR rfl (by simp) ?_))
  · have h5 : (bif decide (l[k].1 < l'[k].1) then true else decide (l[k].2 > l'[k].2)) = true := h5
    unfold ins at hik
    have e1 : decide (l[k].1 < l'[k].1) = false := by simp; omega
    have e2 : decide (l[k].2 > l'[k].2) = false := by simp; omega
    rw [e1, e2] at h5
    cases h5
  · exact ⟨k + 1, _, Wk.le (.cons rfl (.refl _) (.cons rfl (.refl _) (.cons rfl (VLe.i (w64 (by omega) (by omega))) .nil))) (.cons rfl (LLe.refl _) (.cons rfl (LLe.refl _) .nil)) .nil rfl rfl, ⟨h3, rfl⟩, by omega⟩

end Go.Proofs.YtggifklgpdladaaGreat


/-! Plain facts for VolumeFar: what is named among all echoes, and among the near ones; contracts: Equal, Verify. -/
set_option linter.unusedVariables false
set_option linter.unusedSimpArgs false
set_option maxRecDepth 20000
set_option maxHeartbeats 2000000
namespace Go.Proofs.YtggifklgpdladaaGreat
open Go.Am

/-- What is named among all, and among the near ones. -/
structure FarR (l : List Echo) (aper slow x y z : Int) (nl : List Echo) (wh : List Int) (A B : List (Int × Int)) : Prop where
  len : A.length = B.length
  each : ∀ i (h : i < A.length) (h' : i < B.length), ∃ (q t j : Nat) (hq : q < l.length) (ht : t < l[q].s.length) (hj : j < wh.length), A[i] = ((q : Int), (t : Int)) ∧ B[i] = ((j : Int), (t : Int)) ∧ wh[j] = (q : Int) ∧ boundAt ⟨l, aper, (slow, slow)⟩ A[i] = l[q].s[t]
  up : ∀ i j (h : i < A.length) (h' : j < A.length), i < j → A[i].1 < A[j].1
  named : namedL ⟨l, aper, (slow, slow)⟩ x y z = A
  namedN : namedL ⟨nl, aper, (slow, slow)⟩ x y z = B
  value : valueB ⟨nl, aper, (slow, slow)⟩ x y z = valueB ⟨l, aper, (slow, slow)⟩ x y z

/-! ### Contracts -/
attribute [local simp] cells scalar mkv splice under2 under dem dem1 eB
end Go.Proofs.YtggifklgpdladaaGreat


/-! The law VolumeLinear. -/
set_option linter.unusedVariables false
set_option linter.unusedSimpArgs false
set_option maxRecDepth 20000
set_option maxHeartbeats 4000000
namespace Go.Proofs.YtggifklgpdladaaGreat
open Go.Am
attribute [local simp] cells scalar mkv splice under2 under dem dem1 boxC cellC eE sB eB
theorem sane_of {l : List Echo} (h : echoesOk l = true) : sane l := by
  obtain ⟨h1, h2⟩ := echoesOk_spec h
  exact ⟨by omega, fun e he => by have := (echoOk_spec (h2 e he)).2.1; omega⟩

end Go.Proofs.YtggifklgpdladaaGreat


/-! The law VolumeFilled: what is heard, and what of it is seen. -/
set_option linter.unusedVariables false
set_option linter.unusedSimpArgs false
set_option maxRecDepth 20000
set_option maxHeartbeats 4000000
namespace Go.Proofs.YtggifklgpdladaaGreat
open Go.Am
attribute [local simp] cells scalar mkv splice under2 under dem dem1 boxC cellC eE sB eB
structure Heard where
  pl : List (Int × Int)
  st : List Int
  ms : List Int
  sl : Int
def hearC (x : Heard) : List V := [sB x.pl, intsV x.st, intsV x.ms, I x.sl]
def slN (x : Heard) : Int := restI x.sl 100
def dN (x : Heard) (i k : Nat) : Int := restI (pickI x.st (3 * (i : Int) + (k : Int))) (2 * slN x + 1) - slN x
def cum (x : Heard) (i : Nat) : Nat → Int
  | 0 => 0
  | k + 1 => cum x i k + dN x i k
def trueL (x : Heard) (i n : Nat) : List Int := (List.range n).map fun k => cum x i (k + 1)
def missB (x : Heard) (i k : Nat) : Bool := restI (pickI x.ms ((i : Int) + (k : Int))) 2 == 1
def seenN (x : Heard) (i m k : Nat) : Int := if 1 ≤ k ∧ k < m ∧ missB x i k = true then 40000 else cum x i (k + 1)
def seenL (x : Heard) (i m : Nat) : List Int := (List.range 20).map (seenN x i m)
def hX (x : Heard) (i : Nat) : Int := restI (x.pl.getD i (0, 0)).1 41 - 20
def hY (x : Heard) (i : Nat) : Int := restI (x.pl.getD i (0, 0)).2 41 - 20
def lE (x : Heard) (i : Nat) : Echo := ⟨hX x i, hY x i, fillL (seenL x i 20) (slN x)⟩
def aE (x : Heard) (i : Nat) : Echo := ⟨hX x i, hY x i, (trueL x i 20).map fun n => (n, n)⟩

theorem slN_bd (x : Heard) : 0 ≤ slN x ∧ slN x ≤ 99 := by
  have := restI_bd (n := x.sl) (m := 100) (by omega)
  unfold slN; omega

theorem dN_bd (x : Heard) (i k : Nat) : -slN x ≤ dN x i k ∧ dN x i k ≤ slN x := by
  have h := slN_bd x
  have := restI_bd (n := pickI x.st (3 * (i : Int) + (k : Int))) (m := 2 * slN x + 1) (by omega)
  unfold dN; omega

theorem cum_diff (x : Heard) (i : Nat) : ∀ (d k : Nat), cum x i k - slN x * (d : Int) ≤ cum x i (k + d) ∧ cum x i (k + d) ≤ cum x i k + slN x * (d : Int)
  | 0, k => by simp
  | d + 1, k => by
    have h1 := cum_diff x i d k
    have h2 := dN_bd x i (k + d)
    have e : cum x i (k + (d + 1)) = cum x i (k + d) + dN x i (k + d) := rfl
    rw [e]
    push_cast
    rw [Int.mul_add, Int.mul_one]
    omega

theorem cum_bd (x : Heard) (i : Nat) {k : Nat} (hk : k ≤ 20) : -1980 ≤ cum x i k ∧ cum x i k ≤ 1980 := by
  have h1 := cum_diff x i k 0
  have h2 := slN_bd x
  have h3 : slN x * (k : Int) ≤ 99 * 20 := Int.mul_le_mul h2.2 (by omega) (by omega) (by omega)
  rw [Nat.zero_add] at h1
  have h0 : cum x i 0 = 0 := rfl
  omega

theorem seen_ok (x : Heard) (i : Nat) : Seen (trueL x i 20) (seenL x i 20) (slN x) where
  len := by simp [trueL, seenL]
  many := by simp [trueL]
  sl := by have := slN_bd x; omega
  is k h h' := by
    simp only [seenL, trueL, List.getElem_map, List.getElem_range, seenN]
    split
    · exact .inr rfl
    · exact .inl rfl
  lip a k h h' := by
    simp only [trueL, List.getElem_map, List.getElem_range, List.length_map, List.length_range] at h h' ⊢
    unfold awayI
    rcases Nat.le_total a k with hh | hh
    · obtain ⟨d, rfl⟩ : ∃ d, k = a + d := ⟨k - a, by omega⟩
      have h1 := cum_diff x i d (a + 1)
      have e : max ((a : Int) - ((a + d : Nat) : Int)) (((a + d : Nat) : Int) - (a : Int)) = (d : Int) := by omega
      rw [e, show a + d + 1 = a + 1 + d by omega]
      omega
    · obtain ⟨d, rfl⟩ : ∃ d, a = k + d := ⟨a - k, by omega⟩
      have h1 := cum_diff x i d (k + 1)
      have e : max (((k + d : Nat) : Int) - (k : Int)) ((k : Int) - ((k + d : Nat) : Int)) = (d : Int) := by omega
      rw [e, show k + d + 1 = k + 1 + d by omega]
      omega
  small k h := by
    simp only [trueL, List.getElem_map, List.getElem_range, List.length_map, List.length_range] at h ⊢
    have := cum_bd x i (k := k + 1) (by omega)
    omega
  one := by
    have := cum_bd x i (k := 1) (by omega)
    have e : (seenL x i 20).getD 0 40000 = cum x i 1 := by simp [seenL, seenN]
    rw [e]
    exact btw_iff _ _ _ |>.2 (by omega)

theorem l_ok (x : Heard) (i : Nat) : echoOk (lE x i) = true := by
  have h1 := restI_bd (n := (x.pl.getD i (0, 0)).1) (m := 41) (by omega)
  have h2 := restI_bd (n := (x.pl.getD i (0, 0)).2) (m := 41) (by omega)
  have hl : (fillL (seenL x i 20) (slN x)).length = 20 := by simp [fillL, seenL]
  simp only [echoOk, lE, Bool.and_eq_true, List.all_eq_true, btw_iff, hl, hX, hY]
  refine ⟨⟨⟨by omega, by omega⟩, by omega⟩, fun b hb => ?_⟩
  obtain ⟨k, hk, rfl⟩ := List.mem_iff_getElem.1 hb
  have hk20 : k < (trueL x i 20).length := by rw [hl] at hk; simpa [trueL] using hk
  have h := (seen_ok x i).at hk20
  simp only [fillL, List.getElem_map, List.getElem_range, loud, Bool.and_eq_true, decide_eq_true_eq]
  omega

theorem a_ok (x : Heard) (i : Nat) : echoOk (aE x i) = true := by
  have h1 := restI_bd (n := (x.pl.getD i (0, 0)).1) (m := 41) (by omega)
  have h2 := restI_bd (n := (x.pl.getD i (0, 0)).2) (m := 41) (by omega)
  simp only [echoOk, aE, Bool.and_eq_true, List.all_eq_true, btw_iff, hX, hY, List.length_map]
  refine ⟨⟨⟨by omega, by omega⟩, by simp [trueL]⟩, fun b hb => ?_⟩
  obtain ⟨n, hn, rfl⟩ := List.mem_map.1 hb
  obtain ⟨k, hk, rfl⟩ := List.mem_map.1 hn
  have hk : k < 20 := by simpa using hk
  have := cum_bd x i (k := k + 1) (by omega)
  simp only [loud, Bool.and_eq_true, decide_eq_true_eq]
  omega

theorem ls_ok (x : Heard) {n : Nat} (hn : n ≤ 8) : echoesOk ((List.range n).map (lE x)) = true ∧ echoesOk ((List.range n).map (aE x)) = true := by
  simp only [echoesOk, Bool.and_eq_true, decide_eq_true_eq, List.all_eq_true, List.length_map, List.length_range]
  exact ⟨⟨by omega, fun e he => by obtain ⟨i, _, rfl⟩ := List.mem_map.1 he; exact l_ok x i⟩, by omega, fun e he => by obtain ⟨i, _, rfl⟩ := List.mem_map.1 he; exact a_ok x i⟩

end Go.Proofs.YtggifklgpdladaaGreat


/-! The law VolumeFilled: what is told of what is heard. -/
set_option linter.unusedVariables false
set_option linter.unusedSimpArgs false
set_option maxRecDepth 20000
set_option maxHeartbeats 4000000
namespace Go.Proofs.YtggifklgpdladaaGreat
open Go.Am
attribute [local simp] cells scalar mkv splice under2 under dem dem1 boxC cellC eE sB eB intsV
theorem seen_one (x : Heard) (i : Nat) : seenL x i 1 = trueL x i 20 := by
  unfold seenL trueL
  refine List.map_congr_left fun k hk => ?_
  unfold seenN
  rw [if_neg (by omega)]

theorem true_succ (x : Heard) (i k : Nat) : (trueL x i k).map I ++ [I (cum x i (k + 1))] = (trueL x i (k + 1)).map I := by
  unfold trueL
  rw [List.range_succ, List.map_append, List.map_append]
  rfl

theorem seen_hit (x : Heard) (i : Nat) {m : Nat} (h1 : 1 ≤ m) (hm : m < 20) (hb : missB x i m = true) : List.take m ((seenL x i m).map I) ++ [I 40000] ++ List.drop (m + 1) ((seenL x i m).map I) = (seenL x i (m + 1)).map I := by
  refine List.ext_getElem (by simp [seenL]; omega) fun k hk hk' => ?_
  simp only [seenL, List.length_map, List.length_range] at hk'
  rcases Nat.lt_trichotomy k m with h | h | h
  · rw [List.getElem_append_left (by simp [seenL]; omega), List.getElem_append_left (by simp [seenL]; omega)]
    simp only [List.getElem_take, seenL, List.getElem_map, List.getElem_range, seenN]
    congr 1
    by_cases hc : 1 ≤ k ∧ missB x i k = true
    · rw [if_pos ⟨hc.1, h, hc.2⟩, if_pos ⟨hc.1, by omega, hc.2⟩]
    · rw [if_neg (fun c => hc ⟨c.1, c.2.2⟩), if_neg (fun c => hc ⟨c.1, c.2.2⟩)]
  · subst h
    rw [List.getElem_append_left (by simp [seenL]; omega), List.getElem_append_right (by simp [seenL]; omega)]
    simp only [seenL, List.getElem_map, List.getElem_range, seenN]
    rw [if_pos ⟨h1, by omega, hb⟩]
    simp
  · have el : (List.take m (List.map I (seenL x i m)) ++ [I 40000]).length = m + 1 := by simp [seenL]; omega
    rw [List.getElem_append_right (by omega), List.getElem_drop]
    simp only [el]
    simp only [seenL, List.getElem_map, List.getElem_range, seenN, show m + 1 + (k - (m + 1)) = k by omega]
    rw [if_neg (by omega), if_neg (by omega)]

theorem seen_miss (x : Heard) (i : Nat) {m : Nat} (hb : missB x i m = false) : seenL x i m = seenL x i (m + 1) := by
  unfold seenL
  refine List.map_congr_left fun k hk => ?_
  unfold seenN
  by_cases h : k = m
  · subst h
    rw [hb]
    simp
  · by_cases hc : 1 ≤ k ∧ k < m ∧ missB x i k = true
    · rw [if_pos hc, if_pos ⟨hc.1, by omega, hc.2.2⟩]
    · rw [if_neg hc, if_neg (fun c => hc ⟨c.1, by omega, c.2.2⟩)]

theorem c_told (x : Heard) (hpl : x.pl.length ≤ 9223372036854775807) (hst : x.st.length ≤ 9223372036854775807) (hms : x.ms.length ≤ 9223372036854775807) : C Tryz.prog F.law10_told [.agg [sB x.pl, intsV x.st, intsV x.ms, I x.sl]] (.tuple [sE ((List.range (min x.pl.length 8)).map (lE x)), sE ((List.range (min x.pl.length 8)).map (aE x)), .bool true]) := by
  have hsb := slN_bd x
  have kS : C Tryz.prog F.ref00_Rest [I x.sl, I 100] (I (slN x)) := c_Rest x.sl 100 (by omega)
  refine C_of mixed chk.law10_told (by simp) fun S ok => ?_
  refine Tr.seqR rfl (by simp) (Tr.seqC rfl (by simp) (Steps.call rfl rfl kS (Steps.fin rfl (by simp) ?_)))
  refine Tr.seqR rfl (by simp) (Tr.seq (Tr.seqR rfl (by simp) (Tr.block ?_)))
  refine Tr.loop (fun i s => (i ≤ x.pl.length ∧ i ≤ 8) ∧ s = { env := [(1, .ptr 1 0), (5, I (slN x)), (6, .slice 112 3 ((List.range i).map fun i => eE (lE x i))), (7, .slice 120 3 ((List.range i).map fun i => eE (aE x i))), (8, I i)], bx := [(1, ⟨[sB x.pl, intsV x.st, intsV x.ms, I x.sl], false⟩)], rw := [(111, i, 3, 42), (119, i, 3, 42)], log := [], stp := false }) (fun i => 8 - i) 0
    (Wk.le (.cons rfl (.refl _) (.cons rfl (.refl _) (.cons rfl (.nil 112 3) (.cons rfl (.nil 120 3) (.cons rfl (.refl _) .nil))))) (.cons rfl (LLe.refl _) .nil) (.new rfl (.new rfl .nil)) rfl rfl) ⟨by omega, rfl⟩ ?_
  rintro i s ⟨⟨hi, hi8⟩, rfl⟩
  refine Tr.seq (Tr.seqR rfl (by simp) (Tr.cond rfl rfl (fun h3 => Tr.skip ?_) (fun h3 => Tr.exit ?_)))
  rotate_left
  · have h3 : (bif decide ((i : Int) < ((x.pl.map eB).length : Int)) then decide ((i : Int) < 8) else false) = false := h3
    have h3 : i = min x.pl.length 8 := by
      rw [List.length_map] at h3
      by_cases h : (i : Int) < (x.pl.length : Int)
      · rw [decide_eq_true h] at h3
        have h5 : decide ((i : Int) < 8) = false := h3
        rw [decide_eq_false_iff_not] at h5
        omega
      · omega
    obtain ⟨n, hn⟩ : ∃ n, min x.pl.length 8 = n := ⟨_, rfl⟩
    rw [hn] at h3 ⊢
    subst h3
    have e1 : ((List.range i).map fun i => eE (lE x i)) = ((List.range i).map (lE x)).map eE := by rw [List.map_map]; rfl
    have e2 : ((List.range i).map fun i => eE (aE x i)) = ((List.range i).map (aE x)).map eE := by rw [List.map_map]; rfl
    rw [e1, e2]
    refine Tr.weak (s' := { env := [(6, sE ((List.range i).map (lE x))), (7, sE ((List.range i).map (aE x)))], bx := [], rw := [], log := [], stp := false }) (Wk.le (.cons rfl (.dem _ _ _) (.cons rfl (.dem _ _ _) .nil)) .nil .nil rfl rfl) ?_
    exact Tr.seqR rfl (by simp) (Tr.retX rfl rfl rfl rfl trivial)
  have h3 : (bif decide ((i : Int) < ((x.pl.map eB).length : Int)) then decide ((i : Int) < 8) else false) = true := h3
  have h3 : i < x.pl.length ∧ i < 8 := by
    rw [List.length_map] at h3
    cases h : decide ((i : Int) < (x.pl.length : Int)) with
    | false => rw [h] at h3; cases h3
    | true =>
      rw [h] at h3
      have h5 : decide ((i : Int) < 8) = true := h3
      rw [decide_eq_true_eq] at h h5
      omega
  obtain ⟨h3, h8⟩ := h3
  obtain ⟨p, hp⟩ : ∃ p, x.pl[i] = p := ⟨_, rfl⟩
  have hpd : x.pl.getD i (0, 0) = p := by rw [List.getD_eq_getElem?_getD, List.getElem?_eq_getElem h3, hp]; rfl
  have hb1 := restI_bd (n := p.1) (m := 41) (by omega)
  have hb2 := restI_bd (n := p.2) (m := 41) (by omega)
  have hXe : hX x i = restI p.1 41 - 20 := by unfold hX; rw [hpd]
  have hYe : hY x i = restI p.2 41 - 20 := by unfold hY; rw [hpd]
  refine Tr.seq (Tr.block (Tr.seq (Tr.drawK (TraceK.runN 4 rfl (by simp; omega) ?_))))
  rw [getD_map h3, hp]
  refine TraceK.run rfl (by simp) (TraceK.call rfl rfl (c_Rest p.1 41 (by omega)) ?_)
  refine TraceK.runN 5 rfl (by simp; omega) ?_
  rw [getD_map h3, hp]
  refine TraceK.run rfl (by simp) (TraceK.call rfl rfl (c_Rest p.2 41 (by omega)) ?_)
  refine TraceK.run rfl (by simp) (.done ⟨by kernel_rfl, by kernel_rfl, ?_⟩)
  refine Tr.weak (s' := { env := [(1, .ptr 1 0), (5, I (slN x)), (6, .slice 112 3 ((List.range i).map fun i => eE (lE x i))), (7, .slice 120 3 ((List.range i).map fun i => eE (aE x i))), (8, I i), (9, I (hX x i)), (10, I (hY x i))], bx := [(1, ⟨[sB x.pl, intsV x.st, intsV x.ms, I x.sl], false⟩)], rw := [(111, i, 3, 42), (119, i, 3, 42)], log := [], stp := false })
    (Wk.le (.cons rfl (.refl _) (.cons rfl (.refl _) (.cons rfl (.refl _) (.cons rfl (.refl _) (.cons rfl (.refl _) (.cons rfl (VLe.i (by rw [hXe]; exact w64 (by omega) (by omega))) (.cons rfl (VLe.i (by rw [hYe]; exact w64 (by omega) (by omega))) .nil))))))) (.cons rfl (LLe.refl _) .nil) (.cons rfl (.cons rfl .nil)) rfl rfl) ?_
  refine Tr.seqR rfl (by simp) (Tr.seqR rfl (by simp) (Tr.seq (Tr.seqR rfl (by simp) (Tr.block ?_))))
  refine Tr.loop (fun k s => k ≤ 20 ∧ s = { env := [(1, .ptr 1 0), (5, I (slN x)), (6, .slice 112 3 ((List.range i).map fun i => eE (lE x i))), (7, .slice 120 3 ((List.range i).map fun i => eE (aE x i))), (8, I i), (9, I (hX x i)), (10, I (hY x i)), (11, I (cum x i k)), (12, .slice 71 1 ((trueL x i k).map I)), (13, I k)], bx := [(1, ⟨[sB x.pl, intsV x.st, intsV x.ms, I x.sl], false⟩)], rw := [(70, k, 1, 3), (111, i, 3, 42), (119, i, 3, 42)], log := [], stp := false }) (fun k => 20 - k) 0
    (Wk.le (.cons rfl (.refl _) (.cons rfl (.refl _) (.cons rfl (.refl _) (.cons rfl (.refl _) (.cons rfl (.refl _) (.cons rfl (.refl _) (.cons rfl (.refl _) (.cons rfl (.refl _) (.cons rfl (.nil 71 1) (.cons rfl (.refl _) .nil)))))))))) (.cons rfl (LLe.refl _) .nil) (.new rfl (.cons rfl (.cons rfl .nil))) rfl rfl) ⟨by omega, rfl⟩ ?_
  rintro k s ⟨hk, rfl⟩
  refine Tr.seq (Tr.seqR rfl (by simp) (Tr.cond rfl rfl (fun h4 => Tr.skip ?_) (fun h4 => Tr.exit ?_)))
  · have h4 : k < 20 := Int.ofNat_lt.1 (by simpa using h4)
    have hcb := cum_bd x i (k := k) (by omega)
    have hcb1 := cum_bd x i (k := k + 1) (by omega)
    have hdb := dN_bd x i k
    have kP : C Tryz.prog F.ref00_Pick [intsV x.st, I (IntKind.i64.wrap (IntKind.i64.wrap (3 * (i : Int)) + (k : Int)))] (I (pickI x.st (3 * (i : Int) + (k : Int)))) := by
      rw [w64 (n := 3 * (i : Int)) (by omega) (by omega), w64 (n := 3 * (i : Int) + (k : Int)) (by omega) (by omega)]
      exact c_Pick x.st _ hst
    have kR : C Tryz.prog F.ref00_Rest [I (pickI x.st (3 * (i : Int) + (k : Int))), I (IntKind.i64.wrap (IntKind.i64.wrap (2 * slN x) + 1))] (I (restI (pickI x.st (3 * (i : Int) + (k : Int))) (2 * slN x + 1))) := by
      rw [w64 (n := 2 * slN x) (by omega) (by omega), w64 (n := 2 * slN x + 1) (by omega) (by omega)]
      exact c_Rest _ _ (by omega)
    have hd : dN x i k = restI (pickI x.st (3 * (i : Int) + (k : Int))) (2 * slN x + 1) - slN x := rfl
    have hc : cum x i (k + 1) = cum x i k + dN x i k := rfl
    refine Tr.seq (Tr.block (Tr.seqC rfl (by simp) (Steps.call rfl rfl kP (Steps.run rfl (by simp) (Steps.call rfl rfl kR (Steps.fin rfl (by simp) ?_))))))
    generalize restI (pickI x.st (3 * (i : Int) + (k : Int))) (2 * slN x + 1) = R at hd
    refine Tr.weak (s' := { env := [(1, .ptr 1 0), (5, I (slN x)), (6, .slice 112 3 ((List.range i).map fun i => eE (lE x i))), (7, .slice 120 3 ((List.range i).map fun i => eE (aE x i))), (8, I i), (9, I (hX x i)), (10, I (hY x i)), (11, I (cum x i (k + 1))), (12, .slice 71 1 ((trueL x i k).map I)), (13, I k)], bx := [(1, ⟨[sB x.pl, intsV x.st, intsV x.ms, I x.sl], false⟩)], rw := [(70, k, 1, 3), (111, i, 3, 42), (119, i, 3, 42)], log := [], stp := false })
      (Wk.le (.cons rfl (.refl _) (.cons rfl (.refl _) (.cons rfl (.refl _) (.cons rfl (.refl _) (.cons rfl (.refl _) (.cons rfl (.refl _) (.cons rfl (.refl _) (.cons rfl (VLe.i (by rw [w64 (n := R - slN x) (by omega) (by omega), w64 (n := cum x i k + (R - slN x)) (by omega) (by omega)]; omega)) (.cons rfl (.refl _) (.cons rfl (.refl _) .nil)))))))))) (.cons rfl (LLe.refl _) .nil) (.cons rfl (.cons rfl (.cons rfl .nil))) rfl rfl) ?_
    refine Tr.regR rfl (by simp [trueL]; omega) (Tr.regR rfl (by simp) ?_)
    refine ⟨k + 1, _, (Wk.le (.cons rfl (.refl _) (.cons rfl (.refl _) (.cons rfl (.refl _) (.cons rfl (.refl _) (.cons rfl (.refl _) (.cons rfl (.refl _) (.cons rfl (.refl _) (.cons rfl (.refl _) (.cons rfl (.of_eq (by rw [← true_succ])) (.cons rfl (VLe.i (w64 (by omega) (by omega))) .nil)))))))))) (.cons rfl (LLe.refl _) .nil) (.cons ?_ (.cons rfl (.cons rfl .nil))) rfl rfl), ⟨by omega, rfl⟩, by omega⟩
    show some _ = some _
    simp [trueL]
  have h4 : k = 20 := by simp at h4; omega
  subst h4
  refine Tr.weak (s' := { env := [(1, .ptr 1 0), (5, I (slN x)), (6, .slice 112 3 ((List.range i).map fun i => eE (lE x i))), (7, .slice 120 3 ((List.range i).map fun i => eE (aE x i))), (8, I i), (9, I (hX x i)), (10, I (hY x i)), (12, intsV (trueL x i 20))], bx := [(1, ⟨[sB x.pl, intsV x.st, intsV x.ms, I x.sl], false⟩)], rw := [(111, i, 3, 42), (119, i, 3, 42)], log := [], stp := false }) (Wk.le (.cons rfl (.refl _) (.cons rfl (.refl _) (.cons rfl (.refl _) (.cons rfl (.refl _) (.cons rfl (.refl _) (.cons rfl (.refl _) (.cons rfl (.refl _) (.cons rfl (.dem _ _ _) .nil)))))))) (.cons rfl (LLe.refl _) .nil) (.cons rfl (.cons rfl .nil)) rfl rfl) ?_
  have htl : (trueL x i 20).length = 20 := by simp [trueL]
  have hO := c_Own (l := trueL x i 20) (by intro e; rw [e] at htl; cases htl) (by omega)
  refine Tr.seqC rfl (by simp) (Steps.callO rfl (fun _ => rfl) hO rfl (Steps.fin rfl (by simp) ?_))
  refine Tr.weak (s' := { env := [(1, .ptr 1 0), (5, I (slN x)), (6, .slice 112 3 ((List.range i).map fun i => eE (lE x i))), (7, .slice 120 3 ((List.range i).map fun i => eE (aE x i))), (8, I i), (9, I (hX x i)), (10, I (hY x i)), (12, intsV (trueL x i 20)), (14, .bsl 72 0 1 20)], bx := [(72, ⟨(seenL x i 1).map I, false⟩), (1, ⟨[sB x.pl, intsV x.st, intsV x.ms, I x.sl], false⟩)], rw := [(111, i, 3, 42), (119, i, 3, 42)], log := [], stp := false })
    (Wk.le (.cons rfl (.refl _) (.cons rfl (.refl _) (.cons rfl (.refl _) (.cons rfl (.refl _) (.cons rfl (.refl _) (.cons rfl (.refl _) (.cons rfl (.refl _) (.cons rfl (.refl _) (.cons rfl (.of_eq (by simp [htl])) .nil))))))))) (.cons rfl (by rw [seen_one, flat_ints]; exact LLe.refl _) (.cons rfl (LLe.refl _) .nil)) (.cons rfl (.cons rfl .nil)) (okI rfl) rfl) ?_
  refine Tr.seq (Tr.seqR rfl (by simp) (Tr.block ?_))
  refine Tr.loop (fun (m : Nat) s => (1 ≤ m ∧ m ≤ 20) ∧ s = { env := [(1, .ptr 1 0), (5, I (slN x)), (6, .slice 112 3 ((List.range i).map fun i => eE (lE x i))), (7, .slice 120 3 ((List.range i).map fun i => eE (aE x i))), (8, I i), (9, I (hX x i)), (10, I (hY x i)), (12, intsV (trueL x i 20)), (14, .bsl 72 0 1 20), (15, I m)], bx := [(72, ⟨(seenL x i m).map I, false⟩), (1, ⟨[sB x.pl, intsV x.st, intsV x.ms, I x.sl], false⟩)], rw := [(111, i, 3, 42), (119, i, 3, 42)], log := [], stp := false }) (fun (m : Nat) => 20 - m) 1
    (Wk.le (.cons rfl (.refl _) (.cons rfl (.refl _) (.cons rfl (.refl _) (.cons rfl (.refl _) (.cons rfl (.refl _) (.cons rfl (.refl _) (.cons rfl (.refl _) (.cons rfl (.refl _) (.cons rfl (.refl _) (.cons rfl (.refl _) .nil)))))))))) (.cons rfl (LLe.refl _) (.cons rfl (LLe.refl _) .nil)) (.cons rfl (.cons rfl .nil)) (okI rfl) rfl) ⟨by omega, rfl⟩ ?_
  rintro m s ⟨⟨hm1, hm⟩, rfl⟩
  have hsl : ∀ m, (seenL x i m).length = 20 := fun m => by simp [seenL]
  refine Tr.seq (Tr.seqR rfl (by simp) (Tr.cond rfl rfl (fun h4 => Tr.skip ?_) (fun h4 => Tr.exit ?_)))
  · have h4 : m < 20 := Int.ofNat_lt.1 (by simpa using h4)
    have kP : C Tryz.prog F.ref00_Pick [intsV x.ms, I (IntKind.i64.wrap ((i : Int) + (m : Int)))] (I (pickI x.ms ((i : Int) + (m : Int)))) := by
      rw [w64 (by omega) (by omega)]
      exact c_Pick x.ms _ hms
    have kR := c_Rest (pickI x.ms ((i : Int) + (m : Int))) 2 (by omega)
    have hmb : missB x i m = (restI (pickI x.ms ((i : Int) + (m : Int))) 2 == 1) := rfl
    refine Tr.seq (Tr.block (Tr.seqC rfl (by simp) (Steps.call rfl rfl kP (Steps.run rfl (by simp) (Steps.call rfl rfl kR (Steps.fin rfl (by simp) (Tr.cond rfl rfl (fun h => ?_) (fun h => Tr.skip ?_))))))))
    · have hb : missB x i m = true := by rw [hmb]; simpa using h
      have hit := seen_hit x i hm1 h4 hb
      refine Tr.regR rfl (by simp [hsl]; omega) (Tr.regR rfl (by simp) ?_)
      refine ⟨m + 1, _, (Wk.le (.cons rfl (.refl _) (.cons rfl (.refl _) (.cons rfl (.refl _) (.cons rfl (.refl _) (.cons rfl (.refl _) (.cons rfl (.refl _) (.cons rfl (.refl _) (.cons rfl (.refl _) (.cons rfl (.refl _) (.cons rfl (VLe.i (w64 (by omega) (by omega))) .nil)))))))))) (.cons rfl ?_ (.cons rfl (LLe.refl _) .nil)) (.cons rfl (.cons rfl .nil)) (okI rfl) rfl), ⟨by omega, rfl⟩, by omega⟩
      rw [← hit]
      rw [show 0 + ((m : Int)).toNat * 1 = m by omega]
      exact LLe.refl _
    · have hb : missB x i m = false := by rw [hmb]; simpa using h
      have e := seen_miss x i hb
      refine Tr.regR rfl (by simp) ?_
      exact ⟨m + 1, _, (Wk.le (.cons rfl (.refl _) (.cons rfl (.refl _) (.cons rfl (.refl _) (.cons rfl (.refl _) (.cons rfl (.refl _) (.cons rfl (.refl _) (.cons rfl (.refl _) (.cons rfl (.refl _) (.cons rfl (.refl _) (.cons rfl (VLe.i (w64 (by omega) (by omega))) .nil)))))))))) (.cons rfl (by rw [e]; exact LLe.refl _) (.cons rfl (LLe.refl _) .nil)) (.cons rfl (.cons rfl .nil)) (okI rfl) rfl), ⟨by omega, rfl⟩, by omega⟩
  have h4 : m = 20 := by simp at h4; omega
  subst h4
  refine Tr.weak (Wk.bsl (t := 14) rfl rfl (by have h := holds_ints (seenL x i 20); rw [hsl] at h; exact h)) ?_
  refine Tr.weak (s' := { env := [(1, .ptr 1 0), (5, I (slN x)), (6, .slice 112 3 ((List.range i).map fun i => eE (lE x i))), (7, .slice 120 3 ((List.range i).map fun i => eE (aE x i))), (8, I i), (9, I (hX x i)), (10, I (hY x i)), (12, intsV (trueL x i 20)), (14, intsV (seenL x i 20))], bx := [(1, ⟨[sB x.pl, intsV x.st, intsV x.ms, I x.sl], false⟩)], rw := [(111, i, 3, 42), (119, i, 3, 42)], log := [], stp := false }) (Wk.le (.cons rfl (.refl _) (.cons rfl (.refl _) (.cons rfl (.refl _) (.cons rfl (.refl _) (.cons rfl (.refl _) (.cons rfl (.refl _) (.cons rfl (.refl _) (.cons rfl (.refl _) (.cons rfl (.refl _) .nil))))))))) (.cons rfl (LLe.refl _) .nil) (.cons rfl (.cons rfl .nil)) rfl rfl) ?_
  refine Tr.seqC rfl (by simp) (Steps.call rfl rfl (c_Fill (seen_ok x i)) (Steps.fin rfl (by simp) ?_))
  have hfl : (fillL (seenL x i 20) (slN x)).length = 20 := by simp [fillL, hsl]
  refine Tr.seq (Tr.seqR rfl (by simp) (Tr.cond rfl rfl (fun h => ?_) (fun _ => Tr.skip ?_)))
  · exfalso; revert h; simp [hfl, htl]
  refine Tr.weak (s' := { env := [(1, .ptr 1 0), (5, I (slN x)), (6, .slice 112 3 ((List.range i).map fun i => eE (lE x i))), (7, .slice 120 3 ((List.range i).map fun i => eE (aE x i))), (8, I i), (9, I (hX x i)), (10, I (hY x i)), (12, intsV (trueL x i 20)), (16, sB (fillL (seenL x i 20) (slN x)))], bx := [(1, ⟨[sB x.pl, intsV x.st, intsV x.ms, I x.sl], false⟩)], rw := [(111, i, 3, 42), (119, i, 3, 42)], log := [], stp := false }) (Wk.le (.cons rfl (.refl _) (.cons rfl (.refl _) (.cons rfl (.refl _) (.cons rfl (.refl _) (.cons rfl (.refl _) (.cons rfl (.refl _) (.cons rfl (.refl _) (.cons rfl (.refl _) (.cons rfl (.refl _) .nil))))))))) (.cons rfl (LLe.refl _) .nil) (.cons rfl (.cons rfl .nil)) rfl rfl) ?_
  refine Tr.reg (Steps.run rfl (by simp; omega) (Steps.call rfl rfl (c_sure (l := trueL x i 20) (by omega)) (Steps.fin rfl (by simp; omega) ?_)))
  refine Tr.regR rfl (by simp) ?_
  refine ⟨i + 1, _, (Wk.le (.cons rfl (.refl _) (.cons rfl (.refl _) (.cons rfl (.of_eq ?_) (.cons rfl (.of_eq ?_) (.cons rfl (VLe.i (w64 (by omega) (by omega))) .nil))))) (.cons rfl (LLe.refl _) .nil) (.cons ?_ (.cons ?_ .nil)) rfl rfl), ⟨by omega, rfl⟩, by omega⟩
  · rw [List.range_succ, List.map_append]; rfl
  · rw [List.range_succ, List.map_append]; rfl
  · show some _ = some _
    simp
  · show some _ = some _
    simp

end Go.Proofs.YtggifklgpdladaaGreat


/-! AM, part Zq: two strings as one. -/
set_option linter.unusedVariables false
set_option linter.unusedSimpArgs false
namespace Go.Am
open Go.RowKit

theorem opK_add {P : Program} {o : Oper} {os : List Operand} (hk : opK P o.op = some (.bin .add, os)) : ∃ t u p q, o.op = .binOp .add t p q u ∧ os = [p, q] := by
  replace hk := opK0_of hk (by simp [tagOf])
  cases ho : o.op <;> rw [ho] at hk <;> simp only [opK0] at hk <;> (try (cases hk; done)) <;> (try (repeat' (split at hk <;> (try (cases hk; done)))))
  all_goals first
    | (simp only [Option.map_eq_some_iff, Prod.mk.injEq] at hk; obtain ⟨_, _, h1, _⟩ := hk; cases h1; done)
    | (simp only [eqKind] at hk; repeat' (split at hk <;> (try (cases hk; done))))
    | (cases hk; exact ⟨_, _, _, _, rfl, rfl⟩)

theorem str_app (l m : List UInt8) : (⟨l.toArray⟩ : ByteArray) ++ ⟨m.toArray⟩ = ⟨(l ++ m).toArray⟩ := by
  apply ByteArray.ext
  rw [ByteArray.data_append]; simp

section
variable {E : Env}

/-- Two strings as one. -/
theorem Steps.strAdd {s : St} {K : St → Prop} {d : Nat} {x y : X} {l m : List UInt8} {rest : List Ins} (hx : evXs s.env [x, y] = some [.str ⟨l.toArray⟩, .str ⟨m.toArray⟩]) (hl : l.length + m.length ≤ 9223372036854775807)
    (hk : Steps E rest K (s.put (some d) (.str ⟨(l ++ m).toArray⟩))) : Steps E (⟨some d, .bin .add, [x, y], none⟩ :: rest) K s := by
  refine Step1.raw fun slots ops o i ro n a w h hc hs hi R Q next hn => ?_
  obtain ⟨os, cc⟩ := comp_of hc
  obtain ⟨t, u, p, q, ho, rfl⟩ := opK_add cc.op
  obtain ⟨v1, v2, hv, o1, o2⟩ := (opds_of R.1 cc.xs (evXs_ok hx)).two
  simp only [List.cons.injEq, and_true] at hv
  obtain ⟨rfl, rfl⟩ := hv
  have key : (execOp a.eval o).run E.P w = .ok (.value (.string ⟨(l ++ m).toArray⟩)) w := by
    have hadd := run_string_add_sum (P := E.P) (w := w) (⟨l.toArray⟩ : ByteArray) ⟨m.toArray⟩ (by simpa [ByteArray.size] using hl)
    rw [str_app] at hadd
    have hb : (binOp .add t (.string ⟨l.toArray⟩) (.string ⟨m.toArray⟩)).run E.P w = .ok (.string ⟨(l ++ m).toArray⟩) w := by rw [binOp_string_add]; exact hadd
    have hg : (eqGuard .add t p q (.string ⟨l.toArray⟩) (.string ⟨m.toArray⟩)).run E.P w = .ok () w := by simp [eqGuard]
    simp only [execOp, ho, ok_str o1, ok_str o2, Sem.run_bind, hg, hb, Result.andThen_ok]; rfl
  refine wpOp_done hi (wanted_none (guard_none cc rfl)) (opK_defer cc.op) (.inl key) (hn _ _ w h hk ?_ rfl)
  show E.relF _ _ _ _ _ _
  rw [(put_log _ _ _).1, (put_log _ _ _).2, fs_put]
  exact rel_after (eff := { v := _ }) cc R R.1 ⟨.data (.str _), GrowV.of_data (w0 := w) (φ0 := h.φ) (.str _)⟩ rfl

end
end Go.Am


/-! A slice literal that is a frame's own; the law's echoes as the caller's own. -/
set_option linter.unusedVariables false
set_option linter.unusedSimpArgs false
namespace Go.Am
open Go.RowKit

section
variable {P : Program} {nt : Nat} {S : Sur} {log : List (List V)} {stp : Bool} {σ : FSt} {a : Act} {w : World} {h : Gh} {o : Oper}

theorem done_mkOwn {t e len sz d : Nat} {parts : Array (Nat × Operand)} {ie : TypeInfo} {z : Value} {vs us : List V} (R : Rel nt S log stp σ a w h) (hS : S.ok) (ho : o.op = .buildSlice t len parts) (ht : P.underlying t = some (.slice e)) (hi : P.info? e = some ie)
    (hz : ie.zero = some z) (hzs : z.cells.size = ie.size) (hsz : ie.size = sz) (hidx : parts.toList.map (·.1) = List.range len) (hv : Opds σ h w a (parts.toList.map (·.2)) vs) (hu : toDs σ.b vs = some (us, [])) (hd : σ.b d = none)
    (h0 : 0 < sz) (hall : us.all (fun u => (cells u).length.beq sz && (cells u).all scalar) = true) (hcap : us.length * sz ≤ 2 ^ 24) (hpos : 0 < us.length) {pre : Prop} {rb : List Nat} :
    Done P nt S log stp σ a w h o { pre := pre, v := .bsl d 0 sz us.length, wb := [(d, ⟨us.flatMap cells, false⟩)], rb := rb } := by
  subst hsz
  obtain ⟨q1, q2⟩ := hv.get
  obtain ⟨u1, u2⟩ := toDs_nil hu
  have hlen : us.length = len := by
    have := congrArg List.length hidx
    simp at this q1
    omega
  subst hlen
  rw [List.all_eq_true] at hall
  have hus : ∀ u ∈ us, (cells u).length = ie.size ∧ ∀ v ∈ cells u, scalar v = true := fun u hu => by
    have := hall u hu
    rw [Bool.and_eq_true, List.all_eq_true] at this
    exact ⟨by simpa using this.1, this.2⟩
  have rep : ∀ (i : Nat) u x, us[i]? = some u → ((parts.toList.map (·.2)).map a.eval)[i]? = some x → RepD w h.φ u x := fun i u x hui hxi => by
    have hlt : i < vs.length := by have := (List.getElem?_eq_some_iff.1 hui).1; omega
    rw [List.getElem?_map, Option.map_eq_some_iff] at hxi
    obtain ⟨p, hp, rfl⟩ := hxi
    exact (toD_rep R 6 _ u _ [] (u2 i _ u (List.getElem?_eq_getElem hlt) hui) (fun i hi => by cases hi) (q2 i _ p (List.getElem?_eq_getElem hlt) hp).1).1
  obtain ⟨xs, hxs⟩ : ∃ xs, xs = (parts.toList.map (·.2)).map a.eval := ⟨_, rfl⟩
  rw [← hxs] at rep
  have hxl : us.length = xs.length := by rw [hxs]; simp at q1 ⊢; omega
  obtain ⟨cs', g1, g2, g3, g4⟩ := fill_dense h0 us xs 0 ((Array.range (us.length * ie.size)).map (z.cells[· % z.cells.size]!)) hxl (fun i u x hui hxi => by rw [← (repD_cells (rep i u x hui hxi)).1]; exact (hus u (List.mem_of_getElem? hui)).1) (by simp; rw [← hxl]; exact Nat.le_refl _)
  have hzip : (parts.map fun (i, x) => (i, a.eval x)).toList = (List.range' 0 xs.length).zip xs := by
    rw [← zip_parts, hidx, ← hxs, ← hxl, List.range_eq_range']
  have hrun := run_buildSlice (P := P) w t e us.length (parts.map fun (i, x) => (i, a.eval x)) cs' ie z ht hi hz (by omega) (by have := Nat.mul_pos hpos h0; omega) (by rw [hzip]; exact g1)
  have flen := flat_len fun u hu => (hus u hu).1
  have R1 := R.newBox (e := e) (cs := cs') (zs := us.flatMap cells) hS hd (by rw [g2, flen]; simp) (fun j v x hv hx => by
      obtain ⟨i, u, k, h1, h2, h3⟩ := flat_split h0 (fun u hu => (hus u hu).1) j v hv
      have hlt : i < xs.length := by have := (List.getElem?_eq_some_iff.1 h1).1; omega
      obtain ⟨c1, c2⟩ := repD_cells (rep i u _ h1 (List.getElem?_eq_getElem hlt))
      have hk : k < xs[i].cells.size := by have := (List.getElem?_eq_some_iff.1 h2).1; omega
      have hz' := g4 i _ k _ (List.getElem?_eq_getElem hlt) (Array.getElem?_eq_getElem hk)
      rw [Nat.zero_add, ← h3, hx] at hz'
      cases hz'
      have r1 := c2 k v _ h2 (Array.getElem?_eq_getElem hk)
      exact ⟨.data r1, Grow.of_data r1, (hus u (List.mem_of_getElem? h1)).2 v (List.mem_of_getElem? h2)⟩)
  refine ⟨.slice (some ⟨w.heap.size, 0, none⟩) us.length us.length, _, _, .inl ?_, R1, ⟨.bsl d 0 _ us.length us.length w.heap.size (by simp) (Nat.le_refl _), fun j u zz hu hzz => ?_⟩, rfl⟩
  · simp only [execOp, ho, Sem.run_bind, hrun]; rfl
  · cases j with
    | zero => simp [cells] at hu; subst hu; intro r sz xs e; cases e
    | succ j => simp [cells] at hu

theorem opK_mkslice {os : List Operand} {sz e : Nat} (hk : opK P o.op = some (.mkslice sz e, os)) : ∃ t len parts ie z, o.op = .buildSlice t len parts ∧ P.underlying t = some (.slice e) ∧ P.info? e = some ie ∧ ie.zero = some z ∧ z.cells.size = ie.size ∧ ie.size = sz ∧ parts.toList.map (·.1) = List.range len ∧ os = parts.toList.map (·.2) := by
  replace hk := opK0_of hk (by simp [tagOf])
  cases ho : o.op <;> rw [ho] at hk <;> simp only [opK0] at hk <;> (try (cases hk; done)) <;> (try (repeat' (split at hk <;> (try (cases hk; done)))))
  all_goals first
    | (simp only [Option.map_eq_some_iff, Prod.mk.injEq] at hk; obtain ⟨_, _, h1, _⟩ := hk; cases h1; done)
    | (rename_i hz hc; rw [hz] at hc; simp at hc; done)
    | (rename_i t len parts x5 e' ht x4 ie hi x3 z hz hc
       cases hk
       simp only [hz, Option.isSome_some, Bool.true_and, Bool.and_eq_true, beq_iff_eq] at hc
       exact ⟨t, len, parts, ie, z, rfl, ht, hi, hz, hc.1, rfl, hc.2, rfl⟩)
    | (exfalso; simp only [eqKind] at hk; repeat' (split at hk <;> (try (cases hk; done))))

end

section
variable {E : Env} {σ : FSt}

theorem does_mkOwn {d : Nat} {xs : List X} {sz e : Nat} {vs us : List V} (hx : xs.mapM (evX σ) = some vs) (hu : ∀ b, toDs b vs = some (us, [])) (hd : σ.b d = none) (h0 : 0 < sz) (hall : us.all (fun u => (cells u).length.beq sz && (cells u).all scalar) = true) (hcap : us.length * sz ≤ 2 ^ 24) (hpos : 0 < us.length) :
    Does E σ ⟨some d, .mkslice sz e, xs, none⟩ { v := .bsl d 0 sz us.length, wb := [(d, ⟨us.flatMap cells, false⟩)], rb := [d] } (xslots xs ++ [.bx d]) := by
  refine .sem fun τ hτ slots ops i o ro n log stp a w h hc hs hi R Q next hn => ?_
  have hd' : τ.b d = none := by rw [b_eq (hτ (.bx d) (by simp))]; exact hd
  have hx' : xs.mapM (evX τ) = some vs := evX_reads hx fun l hl => hτ l (by simp [hl])
  obtain ⟨os, cc⟩ := comp_of hc
  have hdf := opK_defer cc.op
  have hgo : o.guard = none := by
    rcases cc.guard with ⟨_, e⟩ | ⟨_, _, _, _, _, e⟩
    · exact e
    · cases e
  have hO := opds_of R.1 cc.xs hx'
  obtain ⟨t, len, parts, ie, z, ho, ht, hie, hz, hzs, hsz, hidx, rfl⟩ := opK_mkslice cc.op
  obtain ⟨x1, w', h', hr', R', ok, hy⟩ := done_mkOwn (d := d) (pre := True) (rb := [d]) R.1 E.ok ho ht hie hz hzs hsz hidx hO (hu τ.b) hd' h0 hall hcap hpos
  exact wpOp_done hi (wanted_none hgo) hdf hr' (hn _ _ h' (rel_after cc R R' ok hy) hy)

theorem Steps.mkOwn {s : St} {K : St → Prop} {d : Nat} {xs : List X} {sz e : Nat} {vs us : List V} {rest : List Ins} (hx : evXs s.env xs = some vs) (hu : ∀ b, toDs b vs = some (us, [])) (hd : get s.bx d = none) (h0 : 0 < sz) (hall : us.all (fun u => (cells u).length.beq sz && (cells u).all scalar) = true) (hcap : us.length * sz ≤ 2 ^ 24) (hpos : 0 < us.length)
    (hk : Steps E rest K ((s.setB d ⟨us.flatMap cells, false⟩).put (some d) (.bsl d 0 sz us.length))) : Steps E (⟨some d, .mkslice sz e, xs, none⟩ :: rest) K s :=
  Step1.does (ins := ⟨some d, .mkslice sz e, xs, none⟩) (does_mkOwn (evXs_ok hx) hu (by rw [fs_b]; exact hd) h0 hall hcap hpos) hk

end
end Go.Am

namespace Go.Proofs.YtggifklgpdladaaGreat
open Go.Am
set_option maxRecDepth 20000
attribute [local simp] cells scalar mkv splice under2 under dem dem1
end Go.Proofs.YtggifklgpdladaaGreat


/-! The law VolumeTaped. -/
set_option linter.unusedVariables false
set_option linter.unusedSimpArgs false
set_option maxRecDepth 40000
set_option maxHeartbeats 4000000
namespace Go.Proofs.YtggifklgpdladaaGreat
open Go.Am
attribute [local simp] cells scalar mkv splice under2 under dem dem1
def fE (x : Heard) (i : Nat) : Fm := ⟨i, 0, trueL x i 20⟩
/-- On which of two copies a frame is whole. -/
def sdN (lost : Int) (i : Nat) : Int := restI (restI lost 2 + ((i * i : Nat) : Int)) 2
def tpF (x : Heard) (lost : Int) (i : Nat) (s : Bool) : List Fm := ((List.range i).filter fun j => (sdN lost j == 1) == s).map (fE x)

theorem fE_ok (x : Heard) {i : Nat} (hi : i < 8) : fmOk (fE x i) := by
  refine ⟨by unfold fE; simp only; omega, by unfold fE; simp, by unfold fE trueL; simp, fun n hn => ?_⟩
  unfold fE trueL at hn
  simp only [List.mem_map, List.mem_range] at hn
  obtain ⟨k, hk, rfl⟩ := hn
  have := cum_bd x i (k := k + 1) (by omega)
  unfold knownB
  rw [btw_iff]; omega

theorem mem_tp {x : Heard} {lost : Int} {i : Nat} {s : Bool} {f : Fm} (h : f ∈ tpF x lost i s) : ∃ j, j < i ∧ f = fE x j := by
  unfold tpF at h
  simp only [List.mem_map, List.mem_filter, List.mem_range] at h
  obtain ⟨j, ⟨h1, _⟩, rfl⟩ := h
  exact ⟨j, h1, rfl⟩

theorem tp_succ (x : Heard) (lost : Int) (i : Nat) (s : Bool) : tpF x lost (i + 1) s = if (sdN lost i == 1) = s then tpF x lost i s ++ [fE x i] else tpF x lost i s := by
  unfold tpF
  rw [List.range_succ, List.filter_append, List.map_append]
  by_cases h : (sdN lost i == 1) = s
  · rw [if_pos h]; simp [h]
  · rw [if_neg h]; simp [h]

theorem frameL_len {f : Fm} (hf : fmOk f) : (frameL f).length ≤ 200 := by
  obtain ⟨_, _, ⟨_, h4⟩, _⟩ := hf
  have := enc_len (codesN 0 f.s)
  rw [← encF_codes, codesN_len] at this
  unfold frameL bodyL
  simp [twoL]; omega

theorem tape_len {l : List Fm} (h : ∀ f ∈ l, fmOk f) : (tapeL l).length ≤ 200 * l.length := by
  induction l with
  | nil => simp [tapeL]
  | cons f l ih =>
    have h1 := frameL_len (h f (by simp))
    have h2 := ih fun g hg => h g (by simp [hg])
    unfold tapeL at *
    rw [List.flatMap_cons, List.length_append, List.length_cons]; omega

theorem tp_len (x : Heard) (lost : Int) (i : Nat) (s : Bool) : (tpF x lost i s).length ≤ i := by
  unfold tpF
  rw [List.length_map]
  exact Nat.le_trans (List.length_filter_le _ _) (by simp)

theorem sd_bd (lost : Int) (i : Nat) : sdN lost i = 0 ∨ sdN lost i = 1 := by
  have := restI_bd (n := restI lost 2 + ((i * i : Nat) : Int)) (m := 2) (by omega)
  unfold sdN; omega

theorem holds_two (a b : List UInt8) : Holds [strV a, strV b] 0 1 2 [strV a, strV b] := by
  refine ⟨by omega, by simp, fun x hx => ?_, rfl, fun x hx => ?_⟩
  · simp at hx; rcases hx with rfl | rfl <;> rfl
  · simp [strV] at hx; rcases hx with rfl | rfl <;> rfl

theorem tp_perm (x : Heard) (lost : Int) : ∀ i, (tpF x lost i false ++ tpF x lost i true).Perm ((List.range i).map (fE x))
  | 0 => by simp [tpF]
  | i + 1 => by
    have ih := tp_perm x lost i
    rw [tp_succ, tp_succ, List.range_succ, List.map_append]
    cases h : (sdN lost i == 1) with
    | false =>
      rw [if_pos rfl, if_neg (by decide)]
      rw [List.append_assoc]
      refine List.Perm.trans ?_ (ih.append_right _)
      rw [List.append_assoc]
      exact List.Perm.append_left _ List.perm_append_comm
    | true =>
      rw [if_neg (by decide), if_pos rfl, ← List.append_assoc]
      exact ih.append_right _

theorem keys_range (x : Heard) (n : Nat) : (keysF ((List.range n).map (fE x))).Pairwise befK := by
  unfold keysF
  rw [List.map_map, List.pairwise_map]
  refine List.pairwise_lt_range.imp fun {a b} h => .inl ?_
  show ((a : Nat) : Int) < ((b : Nat) : Int)
  omega

theorem boxR_ok (nl : V) {l : List Echo} (hE : echoesOk l = true) (b : Bx) (aper : Int) (slow : Int × Int) (of : Int × Int × Int → Int × Int) :
    ((earOk aper slow = true ∧ boxOk b = true) ∧ boxR nl l b aper slow of = .tuple [.agg [I b.x, I b.y, I b.z, I b.a, I b.b, I b.c, .slice 0 2 (((boxCells b).map of).map eB)], I 0]) ∨ boxR nl l b aper slow of = errImg nl 102 := by
  unfold boxR
  by_cases h2 : earOk aper slow = true
  · unfold imageR
    by_cases h3 : boxOk b = true
    · exact .inl ⟨⟨h2, h3⟩, by rw [if_pos hE, if_pos h2, if_pos h3, List.map_map]; rfl⟩
    · exact .inr (by rw [if_pos hE, if_pos h2, if_neg h3])
  · exact .inr (by rw [if_pos hE, if_neg h2])

def frV (x : Heard) (i : Nat) : List V := (List.range i).map fun j => .agg (fmC (fE x j))

theorem c_VolumeTaped {x : Heard} (hx : x.pl.length ≤ 9223372036854775807 ∧ x.st.length ≤ 9223372036854775807 ∧ x.ms.length ≤ 9223372036854775807) (b : Bx) (aper : Int) (slow : Int × Int) (lost : Int) : C Tryz.prog F.law10_VolumeTaped [.agg (hearC x), .agg [I b.x, I b.y, I b.z, I b.a, I b.b, I b.c, I aper, I slow.1, I slow.2], I lost] (.bool true) := by
  have k0 := c_told x hx.1 hx.2.1 hx.2.2
  obtain ⟨n, hn⟩ : ∃ n, min x.pl.length 8 = n := ⟨_, rfl⟩
  have hn8 : n ≤ 8 := by omega
  rw [hn] at k0
  obtain ⟨hE, hAE⟩ := ls_ok x hn8
  generalize (List.range n).map (lE x) = l at k0 hE
  obtain ⟨al, hal0⟩ : ∃ al, (List.range n).map (aE x) = al := ⟨_, rfl⟩
  rw [hal0] at k0 hAE
  have hall : al.length = n := by rw [← hal0]; simp
  have halg : ∀ i (h : i < al.length), al[i] = aE x i := fun i h => by subst hal0; simp
  refine C_of mixed chk.law10_VolumeTaped (by simp) fun S ok => ?_
  refine Tr.seqR rfl (by simp [hearC, sB, intsV]) ?_
  refine Tr.seqC rfl (by simp [hearC, sB, intsV]) (Steps.call rfl rfl k0 (Steps.fin rfl (by simp) ?_))
  refine Tr.seq (Tr.seqR rfl (by simp) (Tr.condF rfl (Tr.skip ?_)))
  refine Tr.seqR rfl (by simp) ?_
  refine Tr.seq (Tr.reg (Steps.mkOwn (us := [strV [], strV []]) rfl (fun _ => rfl) rfl (by omega) (by simp [strV]) (by simp) (by simp) (Steps.fin rfl (by simp) ?_)))
  refine Tr.seq (Tr.seqR rfl (by simp) (Tr.block ?_))
  refine Tr.loop (fun (i : Nat) st => i ≤ n ∧ st = { env := [(2, I lost), (4, .ptr 4 0), (8, sE al), (10, .ptr 10 0), (11, .bsl 33 0 1 2), (12, I (i : Nat))], bx := [(4, ⟨[I b.x, I b.y, I b.z, I b.a, I b.b, I b.c, I aper, I slow.1, I slow.2], false⟩), (10, ⟨[strV lineL, .slice 78 3 (frV x i)], false⟩), (33, ⟨[strV (tapeL (tpF x lost i false)), strV (tapeL (tpF x lost i true))], false⟩)], rw := [(77, i, 3, 39)], log := [], stp := false }) (fun i => n - i) 0
    (Wk.le (.cons rfl (.refl _) (.cons rfl (.refl _) (.cons rfl (.refl _) (.cons rfl (.refl _) (.cons rfl (.refl _) (.cons rfl (.refl _) .nil)))))) (.cons rfl (LLe.refl _) (.cons rfl (.cons (.refl _) (.cons (.nil 78 3) .nil)) (.cons rfl (LLe.refl _) .nil))) (.new rfl .nil) rfl rfl) ⟨by omega, rfl⟩ ?_
  rintro i st ⟨hi1, rfl⟩
  refine Tr.seq (Tr.seqR rfl (by simp) (Tr.cond rfl rfl (fun h1 => Tr.skip ?_) (fun h1 => ?_)))
  · have h1 : i < al.length := by simpa [sE] using h1
    have hi : i < n := by omega
    have hag := halg i h1
    obtain ⟨T, hT⟩ : ∃ T, trueL x i 20 = T := ⟨_, rfl⟩
    have hTl : T.length = 20 := by rw [← hT]; simp [trueL]
    have hae : eE (aE x i) = .agg [I (hX x i), I (hY x i), sB (T.map fun n => (n, n))] := by rw [← hT]; rfl
    refine Tr.seq (Tr.block (Tr.seqR rfl (by simp) (Tr.seq (Tr.seqR rfl (by simp) (Tr.block ?_)))))
    refine Tr.loop (fun (k : Nat) st => k ≤ 20 ∧ st = { env := [(2, I lost), (4, .ptr 4 0), (8, sE al), (10, .ptr 10 0), (11, .bsl 33 0 1 2), (12, I (i : Nat)), (13, .ptr 13 0), (14, I (k : Nat))], bx := [(4, ⟨[I b.x, I b.y, I b.z, I b.a, I b.b, I b.c, I aper, I slow.1, I slow.2], false⟩), (10, ⟨[strV lineL, .slice 78 3 (frV x i)], false⟩), (33, ⟨[strV (tapeL (tpF x lost i false)), strV (tapeL (tpF x lost i true))], false⟩), (13, ⟨[I (i : Nat), I 0, .slice 65 1 ((T.take k).map I)], false⟩)], rw := [(77, i, 3, 39), (64, k, 1, 3)], log := [], stp := false }) (fun k => 20 - k) 0
      (Wk.le (.cons rfl (.refl _) (.cons rfl (.refl _) (.cons rfl (.refl _) (.cons rfl (.refl _) (.cons rfl (.refl _) (.cons rfl (.refl _) (.cons rfl (.refl _) (.cons rfl (.refl _) .nil)))))))) (.cons rfl (LLe.refl _) (.cons rfl (LLe.refl _) (.cons rfl (LLe.refl _) (.cons rfl (.cons (.refl _) (.cons (.refl _) (.cons (.nil 65 1) .nil))) .nil)))) (.cons rfl (.new rfl .nil)) rfl rfl) ⟨by omega, rfl⟩ ?_
    rintro k st ⟨hk, rfl⟩
    refine Tr.seq (Tr.seq (Tr.reg (Steps.runN 4 rfl (by simp [sE]; omega) ?_)))
    rw [getD_map h1, hag, hae]
    refine Steps.fin rfl (by simp [sB]) ?_
    have hln : (((T.map fun n => (n, n)).map eB).length : Int) = 20 := by rw [List.length_map, List.length_map, hTl]; rfl
    by_cases hk1 : k < 20
    · refine Tr.condT (congrArg (fun b => some (V.bool b)) (show decide ((k : Int) < (((T.map fun n => (n, n)).map eB).length : Int)) = true by rw [hln]; exact decide_eq_true (by omega))) (Tr.skip ?_)
      have hkT : k < T.length := by omega
      have htk : T.take (k + 1) = T.take k ++ [T[k]] := by rw [List.take_add_one, List.getElem?_eq_getElem hkT]; rfl
      refine Tr.seq (Tr.block (Tr.drawK (TraceK.runN 4 rfl (by simp) ?_)))
      refine TraceK.runN 1 rfl (by simp [sE]; omega) ?_
      rw [getD_map h1, hag, hae]
      refine TraceK.runN 4 rfl (by simp [sB]; omega) ?_
      have hkm : k < (T.map fun n => (n, n)).length := by rw [List.length_map]; exact hkT
      rw [getD_map hkm, List.getElem_map]
      refine TraceK.runN 3 rfl (by simp [eB, I]) (.done ⟨by kernel_rfl, by kernel_rfl, ?_⟩)
      refine Steps.fin rfl (by simp [eB, I]; omega) (Tr.regR rfl (by simp) ?_)
      refine ⟨k + 1, _, Wk.le (.cons rfl (.refl _) (.cons rfl (.refl _) (.cons rfl (.refl _) (.cons rfl (.refl _) (.cons rfl (.refl _) (.cons rfl (.refl _) (.cons rfl (.refl _) (.cons rfl (VLe.i (w64 (by omega) (by omega))) .nil)))))))) (.cons rfl (LLe.refl _) (.cons rfl (LLe.refl _) (.cons rfl (LLe.refl _) (.cons rfl (.cons (.refl _) (.cons (.refl _) (.cons (.of_eq ?_) .nil))) .nil)))) (.cons rfl (.cons ?_ .nil)) rfl rfl, ⟨hk1, rfl⟩, by omega⟩
      · rw [htk, List.map_append]; rfl
      · show some _ = some _
        simp; omega
    · obtain rfl : k = 20 := by omega
      refine Tr.condF (congrArg (fun b => some (V.bool b)) (show decide (((20 : Nat) : Int) < (((T.map fun n => (n, n)).map eB).length : Int)) = false by rw [hln]; rfl)) (Tr.exit ?_)
      rw [List.take_of_length_le (by omega)]
      have kp : C Tryz.prog F.tape_PackFrame [.agg [I (i : Nat), I 0, .slice 0 1 (T.map I)]] (.tuple [strV (frameL (fE x i)), I 0]) := by
        have := c_PackFrame (fE_ok x (show i < 8 by omega))
        have e : fmC (fE x i) = [I (i : Nat), I 0, .slice 0 1 (T.map I)] := by rw [← hT]; rfl
        rw [e] at this; exact this
      have hfr : frV x (i + 1) = frV x i ++ [.agg [I (i : Nat), I 0, .slice 0 1 (T.map I)]] := by
        unfold frV
        rw [List.range_succ, List.map_append, ← hT]; rfl
      have hfl : (frV x i).length = i := by unfold frV; simp
      refine Tr.seq (Tr.reg (Steps.run rfl (by simp) (Steps.call rfl rfl kp (Steps.fin rfl (by simp) ?_))))
      refine Tr.seq (Tr.seqR rfl (by simp) (Tr.condF rfl (Tr.skip ?_)))
      refine Tr.seqR rfl (by simp; omega) ?_
      have er0 := restI_bd (n := lost) (m := 2) (by omega)
      have hii : ((i * i : Nat) : Int) ≤ 64 := by
        have := Nat.mul_le_mul (show i ≤ 8 by omega) (show i ≤ 8 by omega)
        exact_mod_cast this
      have kr2 : C Tryz.prog F.ref00_Rest [I (IntKind.wrap .i64 (restI lost 2 + IntKind.wrap .i64 (((i : Nat) : Int) * ((i : Nat) : Int)))), I 2] (I (sdN lost i)) := by
        have e1 : ((i : Nat) : Int) * ((i : Nat) : Int) = ((i * i : Nat) : Int) := by push_cast; rfl
        rw [e1, w64 (n := ((i * i : Nat) : Int)) (by omega) (by omega), w64 (by omega) (by omega)]
        exact c_Rest _ 2 (by omega)
      refine Tr.reg (Steps.run rfl (by simp) (Steps.call rfl rfl (c_Rest lost 2 (by omega)) (Steps.run rfl (by simp) (Steps.call rfl rfl kr2 ?_))))
      have hb0 := tape_len (l := tpF x lost i false) fun f hf => by obtain ⟨j, hj, rfl⟩ := mem_tp hf; exact fE_ok x (by omega)
      have hb1 := tape_len (l := tpF x lost i true) fun f hf => by obtain ⟨j, hj, rfl⟩ := mem_tp hf; exact fE_ok x (by omega)
      have hn0 := tp_len x lost i false
      have hn1 := tp_len x lost i true
      have hfb := frameL_len (fE_ok x (show i < 8 by omega))
      have ts0 := tp_succ x lost i false
      have ts1 := tp_succ x lost i true
      rcases sd_bd lost i with hs | hs
      · rw [hs] at ts0 ts1 ⊢
        rw [if_pos (by rfl)] at ts0
        rw [if_neg (by decide)] at ts1
        refine Steps.runN 3 rfl (by simp) ?_
        refine Steps.strAdd (l := tapeL (tpF x lost i false)) (m := frameL (fE x i)) rfl (by omega) (Steps.fin rfl (by simp [strV]) (Tr.regR rfl (by simp) ?_))
        refine ⟨i + 1, _, Wk.le (.cons rfl (.refl _) (.cons rfl (.refl _) (.cons rfl (.refl _) (.cons rfl (.refl _) (.cons rfl (.refl _) (.cons rfl (VLe.i (w64 (by omega) (by omega))) .nil)))))) (.cons rfl (LLe.refl _) (.cons rfl (.cons (.refl _) (.cons (.of_eq ?_) .nil)) (.cons rfl (.cons (.of_eq ?_) (.cons (.of_eq ?_) .nil)) .nil))) (.cons ?_ .nil) rfl rfl, ⟨hi, rfl⟩, by omega⟩
        · rw [hfr]
        · rw [ts0]; unfold tapeL; rw [List.flatMap_append]; simp [strV]
        · rw [ts1]
        · show some _ = some _
          simp [hfl]
      · rw [hs] at ts0 ts1 ⊢
        rw [if_neg (by decide)] at ts0
        rw [if_pos (by rfl)] at ts1
        refine Steps.runN 3 rfl (by simp) ?_
        refine Steps.strAdd (l := tapeL (tpF x lost i true)) (m := frameL (fE x i)) rfl (by omega) (Steps.fin rfl (by simp [strV]) (Tr.regR rfl (by simp) ?_))
        refine ⟨i + 1, _, Wk.le (.cons rfl (.refl _) (.cons rfl (.refl _) (.cons rfl (.refl _) (.cons rfl (.refl _) (.cons rfl (.refl _) (.cons rfl (VLe.i (w64 (by omega) (by omega))) .nil)))))) (.cons rfl (LLe.refl _) (.cons rfl (.cons (.refl _) (.cons (.of_eq ?_) .nil)) (.cons rfl (.cons (.of_eq ?_) (.cons (.of_eq ?_) .nil)) .nil))) (.cons ?_ .nil) rfl rfl, ⟨hi, rfl⟩, by omega⟩
        · rw [hfr]
        · rw [ts0]
        · rw [ts1]; unfold tapeL; rw [List.flatMap_append]; simp [strV]
        · show some _ = some _
          simp [hfl]
  · have h1 : i = n := by
      have h1 : ¬ i < al.length := by simpa [sE] using h1
      omega
    subst h1
    refine Tr.exit ?_
    obtain ⟨f0, hf0⟩ : ∃ f0, tpF x lost i false = f0 := ⟨_, rfl⟩
    obtain ⟨f1, hf1⟩ : ∃ f1, tpF x lost i true = f1 := ⟨_, rfl⟩
    obtain ⟨gs, hgs⟩ : ∃ gs, (List.range i).map (fE x) = gs := ⟨_, rfl⟩
    have hperm := tp_perm x lost i
    rw [hf0, hf1, hgs] at hperm
    have hord := keys_range x i
    rw [hgs] at hord
    have hgl : gs.length = i := by rw [← hgs]; simp
    have hgk : ∀ k (h : k < gs.length), gs[k] = fE x k := fun k h => by subst hgs; simp
    have hgo : ∀ f ∈ gs, fmOk f := fun f hf => by
      rw [← hgs] at hf
      obtain ⟨j, hj, rfl⟩ := List.mem_map.1 hf
      exact fE_ok x (by have := List.mem_range.1 hj; omega)
    have hfo : ∀ f ∈ f0 ++ f1, fmOk f := fun f hf => hgo f (hperm.mem_iff.1 hf)
    have hfl : (f0 ++ f1).length = i := by rw [hperm.length_eq, hgl]
    have hl0 : f0.length ≤ i := by rw [← hfl]; simp
    have hl1 : f1.length ≤ i := by rw [← hfl]; simp
    have hb0 := tape_len (l := f0) fun f hf => hfo f (List.mem_append.2 (.inl hf))
    have hb1 := tape_len (l := f1) fun f hf => hfo f (List.mem_append.2 (.inr hf))
    have hkn : (keysF (f0 ++ f1)).Nodup := by
      have h1 : (keysF gs).Nodup := by unfold List.Nodup; exact hord.imp fun {a b} h (e : a = b) => befK_irrefl (by rw [e] at h; exact h)
      unfold keysF at h1 ⊢
      exact (hperm.map keyI).nodup_iff.2 h1
    have kR := c_Repair (f0 := f0) (f1 := f1) (gs := gs) (by omega) (by omega) hfo hkn (by omega) (fun f => hperm.symm.mem_iff) hord (by omega)
    refine Tr.weak (Wk.bsl (t := 11) (i := 33) (xs := [strV (tapeL f0), strV (tapeL f1)]) rfl rfl (by rw [hf0, hf1]; exact holds_two _ _)) ?_
    refine Tr.seq (Tr.reg (Steps.run rfl (by simp) (Steps.call rfl rfl kR (Steps.fin rfl (by simp [strV, framesV]) ?_))))
    refine Tr.seq (Tr.seqR rfl (by simp [strV, framesV, sE]) (Tr.condF (congrArg (fun b => some (V.bool b)) (show (((gs.map fun f => V.agg (fmC f)).length : Int) != ((al.map eE).length : Int)) = false by simp [hgl, hall])) (Tr.skip ?_)))
    refine Tr.seqR rfl (by simp) ?_
    refine Tr.seq (Tr.seqR rfl (by simp) (Tr.block ?_))
    refine Tr.loop (fun (k : Nat) st => k ≤ i ∧ st = { env := [(4, .ptr 4 0), (8, sE al), (17, .ptr 17 0), (19, .slice 135 3 ((al.take k).map eE)), (20, I (k : Nat))], bx := [(4, ⟨[I b.x, I b.y, I b.z, I b.a, I b.b, I b.c, I aper, I slow.1, I slow.2], false⟩), (17, ⟨[strV lineL, framesV gs], false⟩)], rw := [(134, k, 3, 42)], log := [], stp := false }) (fun k => i - k) 0
      (Wk.le (.cons rfl (.refl _) (.cons rfl (.refl _) (.cons rfl (.refl _) (.cons rfl (.nil 135 3) (.cons rfl (.refl _) .nil))))) (.cons rfl (LLe.refl _) (.cons rfl (LLe.refl _) .nil)) (.new rfl .nil) rfl rfl) ⟨by omega, rfl⟩ ?_
    rintro k st ⟨hk, rfl⟩
    have hcl : ((gs.map fun f => V.agg (fmC f)).length : Int) = (i : Nat) := by rw [List.length_map, hgl]
    by_cases h2 : k < i
    · refine Tr.seq (Tr.seqR rfl (by simp [framesV]) (Tr.condT (congrArg (fun b => some (V.bool b)) (show decide ((k : Int) < ((gs.map fun f => V.agg (fmC f)).length : Int)) = true by rw [hcl]; exact decide_eq_true (by omega))) (Tr.skip ?_)))
      have hka : k < al.length := by omega
      have hkg : k < gs.length := by omega
      have hag := halg k hka
      obtain ⟨T, hT⟩ : ∃ T, trueL x k 20 = T := ⟨_, rfl⟩
      have hTl : T.length = 20 := by rw [← hT]; simp [trueL]
      have hae : eE (aE x k) = .agg [I (hX x k), I (hY x k), sB (T.map fun n => (n, n))] := by rw [← hT]; rfl
      have hge : V.agg (fmC gs[k]) = .agg [I (k : Nat), I 0, .slice 0 1 (T.map I)] := by rw [hgk k hkg, ← hT]; rfl
      have htk : al.take (k + 1) = al.take k ++ [aE x k] := by rw [List.take_add_one, List.getElem?_eq_getElem hka, hag]; rfl
      have ks : C Tryz.prog F.law10_sure [.slice 0 1 (T.map I)] (sB (T.map fun n => (n, n))) := c_sure (l := T) (by omega)
      refine Tr.seq (Tr.block (Tr.drawK (TraceK.runN 4 rfl (by simp [sE]; omega) ?_)))
      rw [getD_map hka, hag, hae]
      refine TraceK.runN 5 rfl (by simp [sE]; omega) ?_
      rw [getD_map hka, hag, hae]
      refine TraceK.runN 6 rfl (by simp [framesV]; omega) ?_
      rw [getD_map hkg, hge]
      refine TraceK.run rfl (by simp) (TraceK.call rfl rfl ks (TraceK.run rfl (by simp [sB]; omega) (.done ⟨by kernel_rfl, by kernel_rfl, ?_⟩)))
      refine Steps.fin rfl (by simp) (Tr.regR rfl (by simp) ?_)
      refine ⟨k + 1, _, Wk.le (.cons rfl (.refl _) (.cons rfl (.refl _) (.cons rfl (.refl _) (.cons rfl (.of_eq ?_) (.cons rfl (VLe.i (w64 (by omega) (by omega))) .nil))))) (.cons rfl (LLe.refl _) (.cons rfl (LLe.refl _) .nil)) (.cons ?_ .nil) rfl rfl, ⟨h2, rfl⟩, by omega⟩
      · rw [htk, List.map_append, List.map_cons, hae]; rfl
      · show some _ = some _
        simp; omega
    · obtain rfl : k = i := by omega
      refine Tr.seq (Tr.seqR rfl (by simp [framesV]) (Tr.condF (congrArg (fun b => some (V.bool b)) (show decide ((k : Int) < ((gs.map fun f => V.agg (fmC f)).length : Int)) = false by rw [hcl]; exact decide_eq_false (by omega))) (Tr.exit ?_)))
      rw [List.take_of_length_le (by omega)]
      have hal := sane_of hAE
      have k1 := c_Migrate hal b aper slow.1
      unfold valS at k1
      rcases boxR_ok (.slice 0 2 []) hAE b aper (slow.1, slow.1) (valOf al aper slow.1) with ⟨⟨hA, hB⟩, hr⟩ | hr
      · rw [hr] at k1
        have hbl := boxCells_len (boxOk_spec hB).1
        have i1 := c_inside b ((boxCells b).map (valOf al aper slow.1)) ((boxCells b).map (valOf al aper slow.1)) (by rw [List.length_map]; omega) rfl (fun i h h' => ⟨Int.le_refl _, Int.le_refl _⟩)
        refine Tr.seqC rfl (by simp) (Steps.call rfl rfl k1 (Steps.fin rfl (by simp) ?_))
        refine Tr.seqC rfl (by simp) (Steps.call rfl rfl k1 (Steps.fin rfl (by simp) ?_))
        refine Tr.seq (Tr.reg (Steps.runG rfl (by simp) ?_))
        refine Steps.on rfl rfl (Steps.call rfl rfl i1 (Steps.runG rfl (by simp) ?_))
        refine Steps.on rfl rfl (Steps.call rfl rfl i1 (Steps.runG rfl (by simp) ?_))
        refine Steps.on rfl rfl (Steps.call rfl rfl c_works (Steps.runG rfl (by simp) ?_))
        refine Tr.retX rfl rfl rfl ?_ trivial
        simp [packR]
      · rw [hr] at k1
        unfold errImg at k1
        have i1 := c_inside ⟨0, 0, 0, 0, 0, 0⟩ [] [] (by simp) rfl (fun i h h' => by simp at h)
        refine Tr.seqC rfl (by simp) (Steps.call rfl rfl k1 (Steps.fin rfl (by simp) ?_))
        refine Tr.seqC rfl (by simp) (Steps.call rfl rfl k1 (Steps.fin rfl (by simp) ?_))
        refine Tr.seq (Tr.reg (Steps.runG rfl (by simp) ?_))
        refine Steps.on rfl rfl (Steps.call rfl rfl i1 (Steps.runG rfl (by simp) ?_))
        refine Steps.on rfl rfl (Steps.call rfl rfl i1 (Steps.runG rfl (by simp) ?_))
        refine Steps.on rfl rfl (Steps.call rfl rfl c_works (Steps.runG rfl (by simp) ?_))
        refine Tr.retX rfl rfl rfl ?_ trivial
        simp [packR]

end Go.Proofs.YtggifklgpdladaaGreat


/-! What further arguments of the laws read as. -/
set_option linter.unusedVariables false
set_option linter.unusedSimpArgs false
set_option maxRecDepth 20000
namespace Go.Proofs.YtggifklgpdladaaGreat
open Go.Am Go.ChangeShapes Go.WideShapes Go.ChangeAt Go.RowKit

section
variable {H : Type} {enc : TypeId × Value → H} {W : World}

theorem rd_int2 : Reads enc W 57 (fun vs => ∃ a b : Int, vs = [I a, I b]) := by
  refine (reads_array Tryz.underlying57 (by kernel_rfl) (readsL_cons rd_int (readsL_cons rd_int readsL_nil))).mono ?_
  rintro vs ⟨a, b, ⟨x, rfl, _⟩, ⟨c, d, ⟨y, rfl, _⟩, rfl, rfl⟩, rfl⟩
  exact ⟨x, y, rfl⟩

theorem rd_ints : Reads enc W 23 (fun vs => ∃ l : List Int, l.length ≤ 9223372036854775807 ∧ vs = [intsV l]) := by
  refine (reads_slice (sz := 1) false Tryz.underlying23 (by kernel_rfl) (by decide) (fun _ => rfl) rd_int).mono ?_
  rintro vs ⟨xs, h1, h2, rfl⟩
  obtain ⟨l, rfl, _⟩ := exists_list (R := fun _ => True) (g := fun n : Int => [I n]) fun x hx => by obtain ⟨b, rfl, _⟩ := h1 x hx; exact ⟨b, trivial, rfl⟩
  refine ⟨l, by simpa using h2, ?_⟩
  simp [intsV, wrapV, Function.comp_def]

theorem rd_places : Reads enc W 22 (fun vs => ∃ l : List (Int × Int), l.length ≤ 9223372036854775807 ∧ vs = [sB l]) := by
  refine (reads_slice (sz := 2) true Tryz.underlying22 (by kernel_rfl) (by decide) (by decide) rd_int2).mono ?_
  rintro vs ⟨xs, h1, h2, rfl⟩
  obtain ⟨l, rfl, _⟩ := exists_list (R := fun _ => True) (g := fun b : Int × Int => [I b.1, I b.2]) fun x hx => by obtain ⟨a, b, rfl⟩ := h1 x hx; exact ⟨(a, b), trivial, rfl⟩
  refine ⟨l, by simpa using h2, ?_⟩
  simp [sB, wrapV, Function.comp_def, eB]

theorem rd_box : Reads enc W 30 (fun vs => ∃ (b : Bx) (ap : Int) (sl : Int × Int), vs = [I b.x, I b.y, I b.z, I b.a, I b.b, I b.c, I ap, I sl.1, I sl.2]) := by
  refine (reads_struct Tryz.underlying30 (by kernel_rfl) (readsL_cons rd_int3 (readsL_cons rd_int3 (readsL_cons rd_int (readsL_cons rd_bound readsL_nil))))).mono ?_
  rintro vs ⟨a, b, ⟨x, y, z, rfl⟩, ⟨c, d, ⟨p, q, r, rfl⟩, ⟨e, f, ⟨n, rfl, _⟩, ⟨g, h, ⟨s, rfl⟩, rfl, rfl⟩, rfl⟩, rfl⟩, rfl⟩
  exact ⟨⟨x, y, z, p, q, r⟩, n, s, rfl⟩

end

end Go.Proofs.YtggifklgpdladaaGreat


/-! What is truly heard, as an argument. -/
set_option linter.unusedVariables false
set_option linter.unusedSimpArgs false
set_option maxRecDepth 20000
set_option maxHeartbeats 2000000
namespace Go.Proofs.YtggifklgpdladaaGreat
open Go.Am Go.ChangeShapes Go.WideShapes Go.ChangeAt Go.RowKit

section
variable {H : Type} {enc : TypeId × Value → H} {W : World}
theorem rd_heard : Reads enc W 25 (fun vs => ∃ x : Heard, (x.pl.length ≤ 9223372036854775807 ∧ x.st.length ≤ 9223372036854775807 ∧ x.ms.length ≤ 9223372036854775807) ∧ vs = hearC x) := by
  refine (reads_struct Tryz.underlying25 (by kernel_rfl) (readsL_cons rd_places (readsL_cons rd_ints (readsL_cons rd_ints (readsL_cons rd_int readsL_nil))))).mono ?_
  rintro vs ⟨_, _, ⟨a, ha, rfl⟩, ⟨_, _, ⟨b, hb, rfl⟩, ⟨_, _, ⟨c, hc, rfl⟩, ⟨_, _, ⟨n, rfl, _⟩, rfl, rfl⟩, rfl⟩, rfl⟩, rfl⟩
  exact ⟨⟨a, b, c, n⟩, ⟨ha, hb, hc⟩, rfl⟩
end

end Go.Proofs.YtggifklgpdladaaGreat

