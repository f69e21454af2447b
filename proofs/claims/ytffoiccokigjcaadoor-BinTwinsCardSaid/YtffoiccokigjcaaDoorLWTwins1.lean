/-
  Parts of the proof, 1: the abstract machine, the compiled code, contracts of the functions, plain laws.
-/
import Derived.Test.YtffoiccokigjcaaDoorZ5


/-! The code of further functions, compiled. -/
set_option maxRecDepth 100000
namespace Go.Proofs.YtffoiccokigjcaaDoor
open Go.Am
/-- paravane/paravanelaw07.BinTwins -/
abbrev F.law07_BinTwins : Nat := 4
def ir.law07_BinTwins : IC :=
 (.seq (.reg [⟨(some 3), .box, [.t 0], none⟩,
     ⟨(some 4), .box, [.t 1], none⟩,
     ⟨(some 5), .box, [.t 2], none⟩,
     ⟨(some 6), .mov, [.c (.bool false)], none⟩])
   (.seq (.reg [⟨(some 13), .load 6 true, [.t 3], none⟩,
     ⟨(some 14), .faddr 0, [.t 4], none⟩,
     ⟨(some 15), .load 2 true, [.t 14], none⟩,
     ⟨(some 16), .faddr 2, [.t 4], none⟩,
     ⟨(some 17), .load 2 true, [.t 16], none⟩,
     ⟨(some 18), .call 15, [.t 13, .t 15, .t 17], none⟩,
     ⟨(some 12), .mov, [.t 18], none⟩,
     ⟨(some 19), .extract 0, [.t 12], none⟩,
     ⟨(some 20), .extract 1, [.t 12], none⟩,
     ⟨(some 7), .alloc [(.int .i64 0), (.int .i64 0)], [], none⟩,
     ⟨none, .store 2, [.t 7, .t 19], none⟩,
     ⟨(some 8), .mov, [.t 20], none⟩])
   (.seq (.reg [⟨(some 22), .load 6 true, [.t 3], none⟩,
     ⟨(some 23), .faddr 2, [.t 4], none⟩,
     ⟨(some 24), .load 2 true, [.t 23], none⟩,
     ⟨(some 25), .faddr 0, [.t 4], none⟩,
     ⟨(some 26), .load 2 true, [.t 25], none⟩,
     ⟨(some 27), .call 15, [.t 22, .t 24, .t 26], none⟩,
     ⟨(some 21), .mov, [.t 27], none⟩,
     ⟨(some 28), .extract 0, [.t 21], none⟩,
     ⟨(some 29), .extract 1, [.t 21], none⟩,
     ⟨(some 9), .alloc [(.int .i64 0), (.int .i64 0)], [], none⟩,
     ⟨none, .store 2, [.t 9, .t 28], none⟩,
     ⟨(some 10), .mov, [.t 29], none⟩])
   (.seq (.seq (.reg [⟨(some 30), .mov, [.t 8], none⟩,
     ⟨(some 31), .mov, [.t 10], none⟩,
     ⟨(some 32), .bin .neq, [.t 30, .t 31], none⟩,
     ⟨(some 33), .mov, [.t 32], none⟩,
     ⟨(some 34), .load 2 true, [.t 7], (some (33, false))⟩,
     ⟨(some 35), .load 2 true, [.t 9], (some (33, false))⟩,
     ⟨(some 36), .eqs true [0, 0], [.t 34, .t 35], (some (33, false))⟩,
     ⟨(some 37), .pick, [.t 33, .c (.bool true), .t 36], none⟩])
   (.cond (.t 37) (.seq (.reg [⟨(some 6), .mov, [.c (.bool false)], none⟩])
   .ret) .skip))
   (.seq (.seq (.reg [⟨(some 38), .mov, [.t 8], none⟩,
     ⟨(some 39), .bin .neq, [.t 38, .c (.int .i64 0)], none⟩])
   (.cond (.t 39) (.seq (.reg [⟨(some 40), .load 2 true, [.t 7], none⟩,
     ⟨(some 41), .build [(.int .i64 0), (.int .i64 0)] [], [], none⟩,
     ⟨(some 42), .eqs false [0, 0], [.t 40, .t 41], none⟩,
     ⟨(some 43), .mov, [.t 42], none⟩,
     ⟨(some 44), .call 14, [], (some (43, true))⟩,
     ⟨(some 45), .pick, [.t 43, .t 44, .c (.bool false)], none⟩,
     ⟨(some 6), .mov, [.t 45], none⟩])
   .ret) .skip))
   (.seq (.seq (.draw [0, 0, 3, 0, 8, 0, 32, 0, 128, 480, 992, 2040, 4088, 8184, 16376, 8184, 40952, 106488, 237560, 524280, 1048568, 2097144, 4194303] [⟨(some 46), .load 2 true, [.t 7], none⟩,
     ⟨(some 47), .build [(.int .i64 0), (.int .i64 0)] [(0, 1), (1, 1)], [.c (.int .i64 (-1)), .c (.int .i64 (-1))], none⟩,
     ⟨(some 48), .eqs false [0, 0], [.t 46, .t 47], none⟩,
     ⟨(some 49), .faddr 0, [.t 7], none⟩,
     ⟨(some 50), .load 1 false, [.t 49], none⟩,
     ⟨(some 51), .faddr 3, [.t 3], none⟩,
     ⟨(some 52), .load 1 false, [.t 51], none⟩,
     ⟨(some 53), .faddr 4, [.t 3], none⟩,
     ⟨(some 54), .load 1 false, [.t 53], none⟩,
     ⟨(some 55), .bin .mul, [.t 52, .t 54], none⟩,
     ⟨(some 56), .bin .sub, [.t 55, .c (.int .i64 1)], none⟩,
     ⟨(some 57), .call 16, [.t 50, .c (.int .i64 0), .t 56], none⟩,
     ⟨(some 58), .mov, [.t 57], none⟩,
     ⟨(some 59), .faddr 1, [.t 7], (some (58, true))⟩,
     ⟨(some 60), .load 1 false, [.t 59], (some (58, true))⟩,
     ⟨(some 61), .faddr 5, [.t 3], (some (58, true))⟩,
     ⟨(some 62), .load 1 false, [.t 61], (some (58, true))⟩,
     ⟨(some 63), .len false, [.t 62], (some (58, true))⟩,
     ⟨(some 64), .bin .sub, [.t 63, .c (.int .i64 1)], (some (58, true))⟩,
     ⟨(some 65), .call 16, [.t 60, .c (.int .i64 0), .t 64], (some (58, true))⟩,
     ⟨(some 66), .pick, [.t 58, .t 65, .c (.bool false)], none⟩,
     ⟨(some 67), .un .not, [.t 66], none⟩,
     ⟨(some 68), .binb true, [.t 48, .t 67], none⟩])
   (.cond (.t 68) (.seq (.reg [⟨(some 6), .mov, [.c (.bool false)], none⟩])
   .ret) .skip))
   (.seq (.draw [0, 1, 3, 7, 0, 16, 55, 119, 255, 511] [⟨(some 69), .faddr 0, [.t 5], none⟩,
     ⟨(some 70), .load 1 false, [.t 69], none⟩,
     ⟨(some 71), .call 17, [.t 70, .c (.int .i64 2001)], none⟩,
     ⟨(some 72), .bin .sub, [.t 71, .c (.int .i64 1000)], none⟩,
     ⟨(some 73), .faddr 1, [.t 5], none⟩,
     ⟨(some 74), .load 1 false, [.t 73], none⟩,
     ⟨(some 75), .call 17, [.t 74, .c (.int .i64 2001)], none⟩,
     ⟨(some 76), .bin .sub, [.t 75, .c (.int .i64 1000)], none⟩,
     ⟨(some 77), .build [(.int .i64 0), (.int .i64 0)] [(0, 1), (1, 1)], [.t 72, .t 76], none⟩,
     ⟨none, .store 2, [.t 5, .t 77], none⟩])
   (.seq (.reg [⟨(some 78), .faddr 0, [.t 3], none⟩,
     ⟨(some 79), .faddr 0, [.t 78], none⟩,
     ⟨(some 80), .load 1 false, [.t 79], none⟩,
     ⟨(some 81), .faddr 0, [.t 5], none⟩,
     ⟨(some 82), .load 1 false, [.t 81], none⟩,
     ⟨(some 83), .bin .add, [.t 80, .t 82], none⟩,
     ⟨(some 84), .faddr 0, [.t 3], none⟩,
     ⟨(some 85), .faddr 1, [.t 84], none⟩,
     ⟨(some 86), .load 1 false, [.t 85], none⟩,
     ⟨(some 87), .faddr 1, [.t 5], none⟩,
     ⟨(some 88), .load 1 false, [.t 87], none⟩,
     ⟨(some 89), .bin .add, [.t 86, .t 88], none⟩,
     ⟨(some 90), .build [(.int .i64 0), (.int .i64 0)] [(0, 1), (1, 1)], [.t 83, .t 89], none⟩,
     ⟨(some 91), .faddr 0, [.t 3], none⟩,
     ⟨none, .store 2, [.t 91, .t 90], none⟩])
   (.seq (.reg [⟨(some 93), .load 6 true, [.t 3], none⟩,
     ⟨(some 94), .faddr 0, [.t 4], none⟩,
     ⟨(some 95), .faddr 0, [.t 94], none⟩,
     ⟨(some 96), .load 1 false, [.t 95], none⟩,
     ⟨(some 97), .faddr 0, [.t 5], none⟩,
     ⟨(some 98), .load 1 false, [.t 97], none⟩,
     ⟨(some 99), .bin .add, [.t 96, .t 98], none⟩,
     ⟨(some 100), .faddr 0, [.t 4], none⟩,
     ⟨(some 101), .faddr 1, [.t 100], none⟩,
     ⟨(some 102), .load 1 false, [.t 101], none⟩,
     ⟨(some 103), .faddr 1, [.t 5], none⟩,
     ⟨(some 104), .load 1 false, [.t 103], none⟩,
     ⟨(some 105), .bin .add, [.t 102, .t 104], none⟩,
     ⟨(some 106), .build [(.int .i64 0), (.int .i64 0)] [(0, 1), (1, 1)], [.t 99, .t 105], none⟩,
     ⟨(some 107), .faddr 2, [.t 4], none⟩,
     ⟨(some 108), .faddr 0, [.t 107], none⟩,
     ⟨(some 109), .load 1 false, [.t 108], none⟩,
     ⟨(some 110), .faddr 0, [.t 5], none⟩,
     ⟨(some 111), .load 1 false, [.t 110], none⟩,
     ⟨(some 112), .bin .add, [.t 109, .t 111], none⟩,
     ⟨(some 113), .faddr 2, [.t 4], none⟩,
     ⟨(some 114), .faddr 1, [.t 113], none⟩,
     ⟨(some 115), .load 1 false, [.t 114], none⟩,
     ⟨(some 116), .faddr 1, [.t 5], none⟩,
     ⟨(some 117), .load 1 false, [.t 116], none⟩,
     ⟨(some 118), .bin .add, [.t 115, .t 117], none⟩,
     ⟨(some 119), .build [(.int .i64 0), (.int .i64 0)] [(0, 1), (1, 1)], [.t 112, .t 118], none⟩,
     ⟨(some 120), .call 15, [.t 93, .t 106, .t 119], none⟩,
     ⟨(some 92), .mov, [.t 120], none⟩,
     ⟨(some 121), .extract 0, [.t 92], none⟩,
     ⟨(some 122), .extract 1, [.t 92], none⟩,
     ⟨(some 11), .alloc [(.int .i64 0), (.int .i64 0)], [], none⟩,
     ⟨none, .store 2, [.t 11, .t 121], none⟩,
     ⟨(some 8), .mov, [.t 122], none⟩])
   (.seq (.reg [⟨(some 123), .mov, [.t 8], none⟩,
     ⟨(some 124), .bin .eql, [.t 123, .c (.int .i64 0)], none⟩,
     ⟨(some 125), .mov, [.t 124], none⟩,
     ⟨(some 126), .load 2 true, [.t 11], (some (125, true))⟩,
     ⟨(some 127), .load 2 true, [.t 7], (some (125, true))⟩,
     ⟨(some 128), .eqs false [0, 0], [.t 126, .t 127], (some (125, true))⟩,
     ⟨(some 129), .pick, [.t 125, .t 128, .c (.bool false)], none⟩,
     ⟨(some 130), .mov, [.t 129], none⟩,
     ⟨(some 131), .mov, [.t 8], (some (130, false))⟩,
     ⟨(some 132), .bin .eql, [.t 131, .c (.int .i64 70)], (some (130, false))⟩,
     ⟨(some 133), .pick, [.t 130, .c (.bool true), .t 132], none⟩,
     ⟨(some 134), .mov, [.t 133], none⟩,
     ⟨(some 135), .mov, [.t 8], (some (134, false))⟩,
     ⟨(some 136), .bin .eql, [.t 135, .c (.int .i64 10)], (some (134, false))⟩,
     ⟨(some 137), .pick, [.t 134, .c (.bool true), .t 136], none⟩,
     ⟨(some 138), .mov, [.t 137], none⟩,
     ⟨(some 139), .call 14, [], (some (138, true))⟩,
     ⟨(some 140), .pick, [.t 138, .t 139, .c (.bool false)], none⟩,
     ⟨(some 6), .mov, [.t 140], none⟩])
   .ret))))))))))
theorem chk.law07_BinTwins : chkF Tryd.prog 4 = some (141, ir.law07_BinTwins, [.tmp 6]) := by kernel_rfl

end Go.Proofs.YtffoiccokigjcaaDoor

/-! The statement BinTwins. -/
set_option linter.unusedVariables false
set_option linter.unusedSimpArgs false
set_option maxRecDepth 40000
set_option maxHeartbeats 4000000
namespace Go.Proofs.YtffoiccokigjcaaDoor
open Go.Am
attribute [local simp] cells scalar mkv splice under2 under dem dem1 eB gridC sB

theorem c_BinTwins {g : Gd} (hl : g.cls.length ≤ 9223372036854775807) (p q v : Int × Int) : C Tryd.prog F.law07_BinTwins [.agg (gridC g), .agg [I p.1, I p.2, I q.1, I q.2], .agg [I v.1, I v.2]] (.bool true) := by
  have k1 := c_Cell hl p q
  have k2 := c_Cell hl q p
  refine C_of mixed chk.law07_BinTwins (by simp) fun S ok => ?_
  refine Tr.seqR rfl (by simp) ?_
  by_cases hg : gridOk g = true
  rotate_left
  · rw [if_neg hg] at k1 k2
    refine Tr.seqC rfl (by simp) (Steps.call rfl rfl k1 (Steps.fin rfl (by simp) ?_))
    refine Tr.seqC rfl (by simp) (Steps.call rfl rfl k2 (Steps.fin rfl (by simp) ?_))
    refine Tr.seq (Tr.seqR rfl (by simp) (Tr.condF rfl (Tr.skip ?_)))
    refine Tr.seq (Tr.seqR rfl (by simp) (Tr.condT rfl ?_))
    refine Tr.seqC rfl (by simp) (Steps.gcall rfl rfl rfl rfl (by simp) (fun _ => c_works) (Steps.fin rfl (by simp) (Tr.retX rfl rfl rfl ?_ trivial)))
    rfl
  rw [if_pos hg] at k1 k2
  by_cases hp : (planeB p && planeB q) = true
  rotate_left
  · have hp2 : ¬ (planeB q && planeB p) = true := by rw [Bool.and_comm]; exact hp
    rw [if_neg hp] at k1
    rw [if_neg hp2] at k2
    refine Tr.seqC rfl (by simp) (Steps.call rfl rfl k1 (Steps.fin rfl (by simp) ?_))
    refine Tr.seqC rfl (by simp) (Steps.call rfl rfl k2 (Steps.fin rfl (by simp) ?_))
    refine Tr.seq (Tr.seqR rfl (by simp) (Tr.condF rfl (Tr.skip ?_)))
    refine Tr.seq (Tr.seqR rfl (by simp) (Tr.condT rfl ?_))
    refine Tr.seqC rfl (by simp) (Steps.gcall rfl rfl rfl rfl (by simp) (fun _ => c_works) (Steps.fin rfl (by simp) (Tr.retX rfl rfl rfl ?_ trivial)))
    rfl
  have hp2 : (planeB q && planeB p) = true := by rw [Bool.and_comm]; exact hp
  rw [if_pos hp] at k1
  rw [if_pos hp2, cell_comm] at k2
  obtain ⟨ho, hsz, hga, hgd, hcl, _⟩ := gridOk_spec hg
  have hpl := hp
  rw [Bool.and_eq_true] at hpl
  have hpp := planeB_spec hpl.1
  have hqq := planeB_spec hpl.2
  have hin := cell_in hg p q
  have hgm : 1 ≤ g.a * g.d ∧ g.a * g.d ≤ 256 := by
    have h1 : 1 * 1 ≤ g.a * g.d := Int.mul_le_mul (by omega) (by omega) (by omega) (by omega)
    have h2 : g.a * g.d ≤ 16 * 16 := Int.mul_le_mul (by omega) (by omega) (by omega) (by omega)
    omega
  obtain ⟨c, hc⟩ : ∃ c, cellN g p q = c := ⟨_, rfl⟩
  rw [hc] at k1 k2 hin
  refine Tr.seqC rfl (by simp) (Steps.call rfl rfl k1 (Steps.fin rfl (by simp) ?_))
  refine Tr.seqC rfl (by simp) (Steps.call rfl rfl k2 (Steps.fin rfl (by simp) ?_))
  refine Tr.seq (Tr.seqR rfl (by simp) (Tr.cond rfl rfl (fun h => absurd h (by simp)) (fun _ => Tr.skip ?_)))
  refine Tr.seq (Tr.seqR rfl (by simp) (Tr.condF rfl (Tr.skip ?_)))
  have hw1 : IntKind.wrap .i64 (IntKind.wrap .i64 (g.a * g.d) - 1) = g.a * g.d - 1 := by rw [w64 (n := g.a * g.d) (by omega) (by omega), w64 (by omega) (by omega)]
  have hw2 : IntKind.wrap .i64 (((g.cls.map eB).length : Int) - 1) = (g.cls.length : Int) - 1 := by rw [List.length_map, w64 (by omega) (by omega)]
  have b1 := c_between c.1 0 (IntKind.wrap .i64 (IntKind.wrap .i64 (g.a * g.d) - 1))
  have b2 := c_between c.2 0 (IntKind.wrap .i64 (((g.cls.map eB).length : Int) - 1))
  have hB : (decide (c.1 = -1) && decide (c.2 = -1)) = !(btw c.1 0 (g.a * g.d - 1) && btw c.2 0 ((g.cls.length : Int) - 1)) := by
    rcases hin with h | ⟨⟨h1, h2⟩, h3, h4⟩
    · have e1 : c.1 = -1 := by rw [h]; rfl
      have e2 : c.2 = -1 := by rw [h]; rfl
      rw [e1, e2]; rfl
    · have e1 : btw c.1 0 (g.a * g.d - 1) = true := by rw [btw_iff]; omega
      have e2 : btw c.2 0 ((g.cls.length : Int) - 1) = true := by rw [btw_iff]; omega
      rw [e1, e2, decide_eq_false (by omega)]; rfl
  refine Tr.seq (Tr.seq (Tr.drawK ?_))
  refine TraceK.run rfl (by simp) (TraceK.call rfl rfl b1 (TraceK.run rfl (by simp) ?_))
  refine TraceK.gcall rfl rfl rfl rfl (by simp) (fun _ => b2) (TraceK.run rfl (by simp) (.done ⟨by kernel_rfl, by kernel_rfl, ?_⟩))
  rw [hw1, hw2]
  refine Tr.condF ?_ (Tr.skip ?_)
  · show some (V.bool ((c.1 == -1 && (c.2 == -1 && true)) != !(bif btw c.1 0 (g.a * g.d - 1) then btw c.2 0 ((g.cls.length : Int) - 1) else false))) = _
    rw [Bool.and_true, show (c.1 == -1 && c.2 == -1) = (decide (c.1 = -1) && decide (c.2 = -1)) from rfl, hB]
    cases btw c.1 0 (g.a * g.d - 1) <;> cases btw c.2 0 ((g.cls.length : Int) - 1) <;> rfl
  have r1 := restI_bd (n := v.1) (m := 2001) (by omega)
  have r2 := restI_bd (n := v.2) (m := 2001) (by omega)
  have q1 := c_Rest v.1 2001 (by omega)
  have q2 := c_Rest v.2 2001 (by omega)
  obtain ⟨x, hx⟩ : ∃ x, restI v.1 2001 = x := ⟨_, rfl⟩
  obtain ⟨y, hy⟩ : ∃ y, restI v.2 2001 = y := ⟨_, rfl⟩
  rw [hx] at r1 q1
  rw [hy] at r2 q2
  refine Tr.seq (Tr.drawK ?_)
  refine TraceK.run rfl (by simp) (TraceK.call rfl rfl q1 (TraceK.run rfl (by simp) (TraceK.call rfl rfl q2 (TraceK.run rfl (by simp) (.done ⟨by kernel_rfl, by kernel_rfl, ?_⟩)))))
  rw [w64 (n := x - 1000) (by omega) (by omega), w64 (n := y - 1000) (by omega) (by omega)]
  refine Tr.seqR rfl (by simp) ?_
  rw [w64 (n := g.o.1 + (x - 1000)) (by omega) (by omega), w64 (n := g.o.2 + (y - 1000)) (by omega) (by omega)]
  refine Tr.seqC rfl (by simp) ?_
  rw [w64 (n := p.1 + (x - 1000)) (by omega) (by omega), w64 (n := p.2 + (y - 1000)) (by omega) (by omega), w64 (n := q.1 + (x - 1000)) (by omega) (by omega), w64 (n := q.2 + (y - 1000)) (by omega) (by omega)]
  have k3 := c_Cell (g := movG g (x - 1000, y - 1000)) hl (addP p (x - 1000, y - 1000)) (addP q (x - 1000, y - 1000))
  rw [cell_move, hc] at k3
  by_cases hg3 : gridOk (movG g (x - 1000, y - 1000)) = true
  · rw [if_pos hg3] at k3
    by_cases hp3 : (planeB (addP p (x - 1000, y - 1000)) && planeB (addP q (x - 1000, y - 1000))) = true
    · rw [if_pos hp3] at k3
      refine Steps.call rfl rfl k3 (Steps.fin rfl (by simp) ?_)
      refine Tr.seqC rfl (by simp) (Steps.gcall rfl rfl rfl rfl (by simp) (fun _ => c_works) (Steps.fin rfl (by simp) (Tr.retX rfl rfl rfl ?_ trivial)))
      simp [packR]
    · rw [if_neg hp3] at k3
      refine Steps.call rfl rfl k3 (Steps.fin rfl (by simp) ?_)
      refine Tr.seqC rfl (by simp) (Steps.gcall rfl rfl rfl rfl (by simp) (fun _ => c_works) (Steps.fin rfl (by simp) (Tr.retX rfl rfl rfl ?_ trivial)))
      rfl
  · rw [if_neg hg3] at k3
    refine Steps.call rfl rfl k3 (Steps.fin rfl (by simp) ?_)
    refine Tr.seqC rfl (by simp) (Steps.gcall rfl rfl rfl rfl (by simp) (fun _ => c_works) (Steps.fin rfl (by simp) (Tr.retX rfl rfl rfl ?_ trivial)))
    rfl

end Go.Proofs.YtffoiccokigjcaaDoor
