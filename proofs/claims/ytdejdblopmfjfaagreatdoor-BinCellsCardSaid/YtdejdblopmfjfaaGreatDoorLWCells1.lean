/-
  Parts of the proof, 1: the abstract machine, the compiled code, contracts of the functions, plain laws.
-/
import Derived.Test.YtdejdblopmfjfaaGreatDoorZ6


/-! The code of further functions, compiled. -/
set_option maxRecDepth 100000
namespace Go.Proofs.YtdejdblopmfjfaaGreatDoor
open Go.Am
/-- paravane/paravanelaw07.BinCells -/
abbrev F.law07_BinCells : Nat := 3
def ir.law07_BinCells : IC :=
 (.seq (.reg [⟨some 3, .box, [.t 0], none⟩, ⟨some 4, .box, [.t 1], none⟩, ⟨some 5, .box, [.t 2], none⟩, ⟨some 6, .mov, [.c (.bool false)], none⟩])
   (.seq (.seq (.draw [0, 1, 0, 7, 15, 31, 63, 127, 63, 511, 1023, 2047] [⟨some 13, .load 6 true, [.t 3], none⟩, ⟨some 14, .call 10, [.t 13], none⟩, ⟨some 15, .load 6 true, [.t 3], none⟩, ⟨some 16, .call 11, [.t 15], none⟩, ⟨some 17, .bin .neq, [.t 14, .t 16], none⟩, ⟨some 18, .mov, [.t 17], none⟩, ⟨some 19, .load 2 true, [.t 4], (some (18, false))⟩, ⟨some 20, .call 12, [.t 19], (some (18, false))⟩, ⟨some 21, .load 2 true, [.t 4], (some (18, false))⟩, ⟨some 22, .call 13, [.t 21], (some (18, false))⟩, ⟨some 23, .bin .neq, [.t 20, .t 22], (some (18, false))⟩, ⟨some 24, .pick, [.t 18, .c (.bool true), .t 23], none⟩])
   (.cond (.t 24) (.seq (.reg [⟨some 6, .mov, [.c (.bool false)], none⟩])
   .ret) .skip))
   (.seq (.reg [⟨some 26, .load 6 true, [.t 3], none⟩, ⟨some 27, .faddr 0, [.t 5], none⟩, ⟨some 28, .faddr 0, [.t 27], none⟩, ⟨some 29, .load 2 true, [.t 28], none⟩, ⟨some 30, .faddr 0, [.t 5], none⟩, ⟨some 31, .faddr 2, [.t 30], none⟩, ⟨some 32, .load 2 true, [.t 31], none⟩, ⟨some 33, .call 14, [.t 26, .t 29, .t 32], none⟩, ⟨some 25, .mov, [.t 33], none⟩, ⟨some 34, .extract 0, [.t 25], none⟩, ⟨some 35, .extract 1, [.t 25], none⟩, ⟨some 7, .alloc [(.int .i64 0), (.int .i64 0)], [], none⟩, ⟨none, .store 2, [.t 7, .t 34], none⟩, ⟨some 8, .mov, [.t 35], none⟩])
   (.seq (.reg [⟨some 37, .load 6 true, [.t 3], none⟩, ⟨some 38, .faddr 0, [.t 5], none⟩, ⟨some 39, .faddr 0, [.t 38], none⟩, ⟨some 40, .load 2 true, [.t 39], none⟩, ⟨some 41, .faddr 0, [.t 5], none⟩, ⟨some 42, .faddr 2, [.t 41], none⟩, ⟨some 43, .load 2 true, [.t 42], none⟩, ⟨some 44, .call 15, [.t 37, .t 40, .t 43], none⟩, ⟨some 36, .mov, [.t 44], none⟩, ⟨some 45, .extract 0, [.t 36], none⟩, ⟨some 46, .extract 1, [.t 36], none⟩, ⟨some 9, .alloc [(.int .i64 0), (.int .i64 0)], [], none⟩, ⟨none, .store 2, [.t 9, .t 45], none⟩, ⟨some 10, .mov, [.t 46], none⟩])
   (.seq (.seq (.reg [⟨some 47, .load 2 true, [.t 7], none⟩, ⟨some 48, .load 2 true, [.t 9], none⟩, ⟨some 49, .eqs true [0, 0], [.t 47, .t 48], none⟩, ⟨some 50, .mov, [.t 49], none⟩, ⟨some 51, .mov, [.t 8], (some (50, false))⟩, ⟨some 52, .mov, [.t 10], (some (50, false))⟩, ⟨some 53, .bin .neq, [.t 51, .t 52], (some (50, false))⟩, ⟨some 54, .pick, [.t 50, .c (.bool true), .t 53], none⟩])
   (.cond (.t 54) (.seq (.reg [⟨some 6, .mov, [.c (.bool false)], none⟩])
   .ret) .skip))
   (.seq (.reg [⟨some 56, .load 6 true, [.t 3], none⟩, ⟨some 57, .load 2 true, [.t 4], none⟩, ⟨some 58, .faddr 4, [.t 5], none⟩, ⟨some 59, .load 1 false, [.t 58], none⟩, ⟨some 60, .call 16, [.t 56, .t 57, .t 59], none⟩, ⟨some 55, .mov, [.t 60], none⟩, ⟨some 61, .extract 0, [.t 55], none⟩, ⟨some 62, .extract 1, [.t 55], none⟩, ⟨some 11, .mov, [.t 61], none⟩, ⟨some 8, .mov, [.t 62], none⟩])
   (.seq (.reg [⟨some 64, .load 6 true, [.t 3], none⟩, ⟨some 65, .load 2 true, [.t 4], none⟩, ⟨some 66, .faddr 4, [.t 5], none⟩, ⟨some 67, .load 1 false, [.t 66], none⟩, ⟨some 68, .call 17, [.t 64, .t 65, .t 67], none⟩, ⟨some 63, .mov, [.t 68], none⟩, ⟨some 69, .extract 0, [.t 63], none⟩, ⟨some 70, .extract 1, [.t 63], none⟩, ⟨some 12, .mov, [.t 69], none⟩, ⟨some 10, .mov, [.t 70], none⟩])
   (.seq (.reg [⟨some 71, .mov, [.t 11], none⟩, ⟨some 72, .mov, [.t 12], none⟩, ⟨some 73, .call 18, [.t 71, .t 72], none⟩, ⟨some 74, .mov, [.t 73], none⟩, ⟨some 75, .mov, [.t 8], (some (74, true))⟩, ⟨some 76, .mov, [.t 10], (some (74, true))⟩, ⟨some 77, .bin .eql, [.t 75, .t 76], (some (74, true))⟩, ⟨some 78, .pick, [.t 74, .t 77, .c (.bool false)], none⟩, ⟨some 79, .mov, [.t 78], none⟩, ⟨some 80, .call 19, [], (some (79, true))⟩, ⟨some 81, .pick, [.t 79, .t 80, .c (.bool false)], none⟩, ⟨some 6, .mov, [.t 81], none⟩])
   .ret))))))))
theorem chk.law07_BinCells : chkF Tryz.prog 3 = some (82, ir.law07_BinCells, [.tmp 6]) := by kernel_rfl

end Go.Proofs.YtdejdblopmfjfaaGreatDoor

/-! Contract of the law BinCells. -/
set_option linter.unusedVariables false
set_option linter.unusedSimpArgs false
set_option maxRecDepth 40000
set_option maxHeartbeats 4000000
namespace Go.Proofs.YtdejdblopmfjfaaGreatDoor
open Go.Am
attribute [local simp] cells scalar mkv splice under2 under dem dem1 eB gridC sB fourC layC eF
theorem cell_form (g : Gd) (a b : Int × Int) : ∃ c e, (if gridOk g then (if planeB a && planeB b then .tuple [eB (cellN g a b), I 0] else .tuple [.agg [I 0, I 0], I 10]) else .tuple [.agg [I 0, I 0], I 70]) = V.tuple [eB c, I e] := by
  split
  · split
    · exact ⟨_, _, rfl⟩
    · exact ⟨(0, 0), _, rfl⟩
  · exact ⟨(0, 0), _, rfl⟩

theorem hits_form {g : Gd} {s : Ly} (t : Int) : ∃ l e, HitsR g s t = .tuple [sB l, I e] ∧ l.length ≤ 4096 := by
  unfold HitsR
  split
  · split
    · split
      · rename_i hg hs h
        have hL := lay_ok hg hs
        rw [btw_iff] at h
        exact ⟨_, _, rfl, (hits_in hL (t := t.toNat) (by show t.toNat < s.traces.length; omega)).1⟩
      · exact ⟨[], _, rfl, by simp⟩
    · exact ⟨[], _, rfl, by simp⟩
  · exact ⟨[], _, rfl, by simp⟩

theorem c_BinCells {g : Gd} (hl : g.cls.length ≤ 9223372036854775807) {s : Ly} (hn : s.nodes.length ≤ 9223372036854775807) (ht : s.traces.length ≤ 9223372036854775807) (p q : Int × Int) (n : Int) : C Tryz.prog F.law07_BinCells [.agg (gridC g), .agg (layC s), .agg [I p.1, I p.2, I q.1, I q.2, I n]] (.bool true) := by
  have k1 := c_CheckGrid (g := g) hl
  have k2 := c_CheckGrid07 (g := g) hl
  have k3 := c_CheckLayout (s := s) hn ht
  have k4 := c_CheckLayout07 (s := s) hn ht
  have k5 := c_Cell hl p q
  have k6 := c_Cell07 hl p q
  have k7 := c_Hits hl hn ht n
  have k8 := c_Hits07 hl hn ht n
  obtain ⟨c, e, h1⟩ := cell_form g p q
  obtain ⟨l, f, h2, h3⟩ := hits_form (g := g) (s := s) n
  rw [h1] at k5 k6
  rw [h2] at k7 k8
  have k9 := c_cells l l (by omega)
  rw [decide_eq_true rfl] at k9
  generalize (if gridOk g = true then (0 : Int) else 70) = a at k1 k2
  generalize (if layOk s = true then (0 : Int) else 71) = b at k3 k4
  refine C_of mixed chk.law07_BinCells (by simp) fun S ok => ?_
  refine Tr.seqR rfl (by simp) ?_
  refine Tr.seq (Tr.seq (Tr.drawK (TraceK.run rfl (by simp) (TraceK.call rfl rfl k1 (TraceK.run rfl (by simp) (TraceK.call rfl rfl k2 (TraceK.run rfl (by simp) (TraceK.gcall rfl rfl rfl rfl (by simp) (fun _ => k3) (TraceK.run rfl (by simp) (TraceK.gcall rfl rfl rfl rfl (by simp) (fun _ => k4) (TraceK.run rfl (by simp) (.done ⟨by kernel_rfl, by kernel_rfl, ?_⟩))))))))))))
  refine Tr.cond rfl rfl (fun h => ?_) (fun h => Tr.skip ?_)
  · exfalso
    have h : (bif (a != a) then true else (b != b)) = true := h
    simp at h
  refine Tr.seqC rfl (by simp) (Steps.call rfl rfl k5 (Steps.fin rfl (by simp) ?_))
  refine Tr.seqC rfl (by simp) (Steps.call rfl rfl k6 (Steps.fin rfl (by simp) ?_))
  refine Tr.seq (Tr.seqR rfl (by simp) ?_)
  refine Tr.cond rfl rfl (fun h => ?_) (fun h => Tr.skip ?_)
  · exfalso
    have h : (bif (!((c.1 == c.1) && ((c.2 == c.2) && true))) then true else (e != e)) = true := h
    simp at h
  refine Tr.seqC rfl (by simp) (Steps.call rfl rfl k7 (Steps.fin rfl (by simp) ?_))
  refine Tr.seqC rfl (by simp) (Steps.call rfl rfl k8 (Steps.fin rfl (by simp) ?_))
  refine Tr.seqC rfl (by simp) (Steps.call rfl rfl k9 (Steps.run rfl (by simp) (Steps.gcall rfl rfl rfl rfl (by simp) (fun _ => c_works) (Steps.fin rfl (by simp) (Tr.retX rfl rfl rfl ?_ trivial)))))
  show V.bool true = V.bool (bif (bif true then (f == f) else false) then true else false)
  simp

end Go.Proofs.YtdejdblopmfjfaaGreatDoor

