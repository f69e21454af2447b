/-
  Parts of the proof, 1: the abstract machine, the compiled code, contracts of the functions, plain laws.
-/
import Derived.Test.YtkifejklnpddbaaZ5


/-! The code of further functions, compiled. -/
set_option maxRecDepth 100000
namespace Go.Proofs.Ytkifejklnpddbaa
open Go.Am
/-- paravane/paravanelaw10.VolumeNames -/
abbrev F.law10_VolumeNames : Nat := 4
def ir.law10_VolumeNames : IC :=
 (.seq (.reg [⟨(some 4), .box, [.t 1], none⟩,
     ⟨(some 5), .box, [.t 2], none⟩,
     ⟨(some 6), .mov, [.c (.bool false)], none⟩])
   (.seq (.reg [⟨(some 12), .mov, [.t 0], none⟩,
     ⟨(some 13), .load 3 true, [.t 4], none⟩,
     ⟨(some 14), .iaddrA 2 1, [.t 5, .c (.int .i64 0)], none⟩,
     ⟨(some 15), .load 1 false, [.t 14], none⟩,
     ⟨(some 16), .iaddrA 2 1, [.t 5, .c (.int .i64 1)], none⟩,
     ⟨(some 17), .load 1 false, [.t 16], none⟩,
     ⟨(some 18), .call 31, [.t 12, .t 13, .t 15, .t 17], none⟩,
     ⟨(some 11), .mov, [.t 18], none⟩,
     ⟨(some 19), .extract 0, [.t 11], none⟩,
     ⟨(some 20), .extract 1, [.t 11], none⟩,
     ⟨(some 7), .alloc [(.int .i64 0), (.int .i64 0), (.int .i64 0), .nils, (.int .i64 0), (.int .i64 0)], [], none⟩,
     ⟨none, .store 6, [.t 7, .t 19], none⟩,
     ⟨(some 8), .mov, [.t 20], none⟩])
   (.seq (.reg [⟨(some 22), .mov, [.t 0], none⟩,
     ⟨(some 23), .load 3 true, [.t 4], none⟩,
     ⟨(some 24), .iaddrA 2 1, [.t 5, .c (.int .i64 0)], none⟩,
     ⟨(some 25), .load 1 false, [.t 24], none⟩,
     ⟨(some 26), .iaddrA 2 1, [.t 5, .c (.int .i64 1)], none⟩,
     ⟨(some 27), .load 1 false, [.t 26], none⟩,
     ⟨(some 28), .call 32, [.t 22, .t 23, .t 25, .t 27], none⟩,
     ⟨(some 21), .mov, [.t 28], none⟩,
     ⟨(some 29), .extract 0, [.t 21], none⟩,
     ⟨(some 30), .extract 1, [.t 21], none⟩,
     ⟨(some 9), .alloc [(.int .i64 0), (.int .i64 0), (.int .i64 0), .nils, (.int .i64 0), (.int .i64 0)], [], none⟩,
     ⟨none, .store 6, [.t 9, .t 29], none⟩,
     ⟨(some 10), .mov, [.t 30], none⟩])
   (.seq (.reg [⟨(some 31), .load 6 true, [.t 7], none⟩,
     ⟨(some 32), .load 6 true, [.t 9], none⟩,
     ⟨(some 33), .call 33, [.t 31, .t 32], none⟩,
     ⟨(some 34), .mov, [.t 33], none⟩,
     ⟨(some 35), .mov, [.t 8], (some (34, true))⟩,
     ⟨(some 36), .mov, [.t 10], (some (34, true))⟩,
     ⟨(some 37), .bin .eql, [.t 35, .t 36], (some (34, true))⟩,
     ⟨(some 38), .pick, [.t 34, .t 37, .c (.bool false)], none⟩,
     ⟨(some 39), .mov, [.t 38], none⟩,
     ⟨(some 40), .call 30, [], (some (39, true))⟩,
     ⟨(some 41), .pick, [.t 39, .t 40, .c (.bool false)], none⟩,
     ⟨(some 6), .mov, [.t 41], none⟩])
   .ret))))
theorem chk.law10_VolumeNames : chkF Try.prog 4 = some (42, ir.law10_VolumeNames, [.tmp 6]) := by kernel_rfl

/-- paravane/paravanelaw10.VolumeEncloses -/
abbrev F.law10_VolumeEncloses : Nat := 5
def ir.law10_VolumeEncloses : IC :=
 (.seq (.reg [⟨(some 3), .box, [.t 1], none⟩,
     ⟨(some 4), .mov, [.c (.bool false)], none⟩])
   (.seq (.reg [⟨(some 10), .mov, [.t 0], none⟩,
     ⟨(some 11), .faddr 0, [.t 3], none⟩,
     ⟨(some 12), .load 3 true, [.t 11], none⟩,
     ⟨(some 13), .faddr 3, [.t 3], none⟩,
     ⟨(some 14), .load 3 true, [.t 13], none⟩,
     ⟨(some 15), .faddr 6, [.t 3], none⟩,
     ⟨(some 16), .load 1 false, [.t 15], none⟩,
     ⟨(some 17), .faddr 7, [.t 3], none⟩,
     ⟨(some 18), .load 2 true, [.t 17], none⟩,
     ⟨(some 19), .call 34, [.t 10, .t 12, .t 14, .t 16, .t 18], none⟩,
     ⟨(some 9), .mov, [.t 19], none⟩,
     ⟨(some 20), .extract 0, [.t 9], none⟩,
     ⟨(some 21), .extract 1, [.t 9], none⟩,
     ⟨(some 5), .alloc [(.int .i64 0), (.int .i64 0), (.int .i64 0), (.int .i64 0), (.int .i64 0), (.int .i64 0), .nils], [], none⟩,
     ⟨none, .store 7, [.t 5, .t 20], none⟩,
     ⟨(some 6), .mov, [.t 21], none⟩])
   (.seq (.reg [⟨(some 23), .mov, [.t 0], none⟩,
     ⟨(some 24), .faddr 0, [.t 3], none⟩,
     ⟨(some 25), .load 3 true, [.t 24], none⟩,
     ⟨(some 26), .faddr 3, [.t 3], none⟩,
     ⟨(some 27), .load 3 true, [.t 26], none⟩,
     ⟨(some 28), .faddr 6, [.t 3], none⟩,
     ⟨(some 29), .load 1 false, [.t 28], none⟩,
     ⟨(some 30), .faddr 7, [.t 3], none⟩,
     ⟨(some 31), .load 2 true, [.t 30], none⟩,
     ⟨(some 32), .call 35, [.t 23, .t 25, .t 27, .t 29, .t 31], none⟩,
     ⟨(some 22), .mov, [.t 32], none⟩,
     ⟨(some 33), .extract 0, [.t 22], none⟩,
     ⟨(some 34), .extract 1, [.t 22], none⟩,
     ⟨(some 7), .alloc [(.int .i64 0), (.int .i64 0), (.int .i64 0), (.int .i64 0), (.int .i64 0), (.int .i64 0), .nils], [], none⟩,
     ⟨none, .store 7, [.t 7, .t 33], none⟩,
     ⟨(some 8), .mov, [.t 34], none⟩])
   (.seq (.reg [⟨(some 35), .load 7 true, [.t 5], none⟩,
     ⟨(some 36), .load 7 true, [.t 7], none⟩,
     ⟨(some 37), .call 36, [.t 35, .t 36], none⟩,
     ⟨(some 38), .mov, [.t 37], none⟩,
     ⟨(some 39), .mov, [.t 6], (some (38, true))⟩,
     ⟨(some 40), .mov, [.t 8], (some (38, true))⟩,
     ⟨(some 41), .bin .eql, [.t 39, .t 40], (some (38, true))⟩,
     ⟨(some 42), .pick, [.t 38, .t 41, .c (.bool false)], none⟩,
     ⟨(some 43), .mov, [.t 42], none⟩,
     ⟨(some 44), .call 30, [], (some (43, true))⟩,
     ⟨(some 45), .pick, [.t 43, .t 44, .c (.bool false)], none⟩,
     ⟨(some 4), .mov, [.t 45], none⟩])
   .ret))))
theorem chk.law10_VolumeEncloses : chkF Try.prog 5 = some (46, ir.law10_VolumeEncloses, [.tmp 4]) := by kernel_rfl

/-- paravane/paravanelaw10.VolumeMigrates -/
abbrev F.law10_VolumeMigrates : Nat := 12
def ir.law10_VolumeMigrates : IC :=
 (.seq (.reg [⟨(some 3), .box, [.t 1], none⟩,
     ⟨(some 4), .mov, [.c (.bool false)], none⟩])
   (.seq (.reg [⟨(some 10), .mov, [.t 0], none⟩,
     ⟨(some 11), .faddr 0, [.t 3], none⟩,
     ⟨(some 12), .load 3 true, [.t 11], none⟩,
     ⟨(some 13), .faddr 3, [.t 3], none⟩,
     ⟨(some 14), .load 3 true, [.t 13], none⟩,
     ⟨(some 15), .faddr 6, [.t 3], none⟩,
     ⟨(some 16), .load 1 false, [.t 15], none⟩,
     ⟨(some 17), .faddr 7, [.t 3], none⟩,
     ⟨(some 18), .faddr 0, [.t 17], none⟩,
     ⟨(some 19), .load 1 false, [.t 18], none⟩,
     ⟨(some 20), .call 52, [.t 10, .t 12, .t 14, .t 16, .t 19], none⟩,
     ⟨(some 9), .mov, [.t 20], none⟩,
     ⟨(some 21), .extract 0, [.t 9], none⟩,
     ⟨(some 22), .extract 1, [.t 9], none⟩,
     ⟨(some 5), .alloc [(.int .i64 0), (.int .i64 0), (.int .i64 0), (.int .i64 0), (.int .i64 0), (.int .i64 0), .nils], [], none⟩,
     ⟨none, .store 7, [.t 5, .t 21], none⟩,
     ⟨(some 6), .mov, [.t 22], none⟩])
   (.seq (.reg [⟨(some 24), .mov, [.t 0], none⟩,
     ⟨(some 25), .faddr 0, [.t 3], none⟩,
     ⟨(some 26), .load 3 true, [.t 25], none⟩,
     ⟨(some 27), .faddr 3, [.t 3], none⟩,
     ⟨(some 28), .load 3 true, [.t 27], none⟩,
     ⟨(some 29), .faddr 6, [.t 3], none⟩,
     ⟨(some 30), .load 1 false, [.t 29], none⟩,
     ⟨(some 31), .faddr 7, [.t 3], none⟩,
     ⟨(some 32), .faddr 0, [.t 31], none⟩,
     ⟨(some 33), .load 1 false, [.t 32], none⟩,
     ⟨(some 34), .call 53, [.t 24, .t 26, .t 28, .t 30, .t 33], none⟩,
     ⟨(some 23), .mov, [.t 34], none⟩,
     ⟨(some 35), .extract 0, [.t 23], none⟩,
     ⟨(some 36), .extract 1, [.t 23], none⟩,
     ⟨(some 7), .alloc [(.int .i64 0), (.int .i64 0), (.int .i64 0), (.int .i64 0), (.int .i64 0), (.int .i64 0), .nils], [], none⟩,
     ⟨none, .store 7, [.t 7, .t 35], none⟩,
     ⟨(some 8), .mov, [.t 36], none⟩])
   (.seq (.reg [⟨(some 37), .load 7 true, [.t 5], none⟩,
     ⟨(some 38), .load 7 true, [.t 7], none⟩,
     ⟨(some 39), .call 36, [.t 37, .t 38], none⟩,
     ⟨(some 40), .mov, [.t 39], none⟩,
     ⟨(some 41), .mov, [.t 6], (some (40, true))⟩,
     ⟨(some 42), .mov, [.t 8], (some (40, true))⟩,
     ⟨(some 43), .bin .eql, [.t 41, .t 42], (some (40, true))⟩,
     ⟨(some 44), .pick, [.t 40, .t 43, .c (.bool false)], none⟩,
     ⟨(some 45), .mov, [.t 44], none⟩,
     ⟨(some 46), .call 30, [], (some (45, true))⟩,
     ⟨(some 47), .pick, [.t 45, .t 46, .c (.bool false)], none⟩,
     ⟨(some 4), .mov, [.t 47], none⟩])
   .ret))))
theorem chk.law10_VolumeMigrates : chkF Try.prog 12 = some (48, ir.law10_VolumeMigrates, [.tmp 4]) := by kernel_rfl

/-- paravane/paravaneref10.Migrate -/
abbrev F.ref10_Migrate : Nat := 53
def ir.ref10_Migrate : IC :=
 (.seq (.reg [⟨(some 6), .box, [.t 1], none⟩,
     ⟨(some 7), .box, [.t 2], none⟩,
     ⟨(some 10), .alloc [(.int .i64 0), (.int .i64 0), (.int .i64 0), (.int .i64 0), (.int .i64 0), (.int .i64 0), .nils], [], none⟩,
     ⟨(some 11), .mov, [.c (.int .i64 0)], none⟩])
   (.seq (.seq (.reg [⟨(some 16), .mov, [.t 0], none⟩,
     ⟨(some 17), .call 29, [.t 16], none⟩,
     ⟨(some 12), .mov, [.t 17], none⟩])
   (.seq (.reg [⟨(some 18), .mov, [.t 12], none⟩,
     ⟨(some 19), .bin .neq, [.t 18, .c (.int .i64 0)], none⟩])
   (.cond (.t 19) (.seq (.reg [⟨(some 20), .build [(.int .i64 0), (.int .i64 0), (.int .i64 0), (.int .i64 0), (.int .i64 0), (.int .i64 0), .nils] [], [], none⟩,
     ⟨(some 21), .mov, [.t 12], none⟩,
     ⟨none, .store 7, [.t 10, .t 20], none⟩,
     ⟨(some 11), .mov, [.t 21], none⟩])
   .ret) .skip)))
   (.seq (.seq (.reg [⟨(some 22), .load 3 true, [.t 6], none⟩,
     ⟨(some 23), .load 3 true, [.t 7], none⟩,
     ⟨(some 24), .call 88, [.t 22, .t 23], none⟩,
     ⟨(some 25), .un .not, [.t 24], none⟩,
     ⟨(some 26), .mov, [.t 25], none⟩,
     ⟨(some 27), .mov, [.t 3], (some (26, false))⟩,
     ⟨(some 28), .call 84, [.t 27], (some (26, false))⟩,
     ⟨(some 29), .un .not, [.t 28], (some (26, false))⟩,
     ⟨(some 30), .pick, [.t 26, .c (.bool true), .t 29], none⟩,
     ⟨(some 31), .mov, [.t 30], none⟩,
     ⟨(some 32), .mov, [.t 4], (some (31, false))⟩,
     ⟨(some 33), .call 74, [.t 32], (some (31, false))⟩,
     ⟨(some 34), .un .not, [.t 33], (some (31, false))⟩,
     ⟨(some 35), .pick, [.t 31, .c (.bool true), .t 34], none⟩])
   (.cond (.t 35) (.seq (.reg [⟨(some 36), .build [(.int .i64 0), (.int .i64 0), (.int .i64 0), (.int .i64 0), (.int .i64 0), (.int .i64 0), .nils] [], [], none⟩,
     ⟨none, .store 7, [.t 10, .t 36], none⟩,
     ⟨(some 11), .mov, [.c (.int .i64 102)], none⟩])
   .ret) .skip))
   (.seq (.reg [⟨(some 37), .load 3 true, [.t 6], none⟩,
     ⟨(some 38), .load 3 true, [.t 7], none⟩,
     ⟨(some 39), .build [(.int .i64 0), (.int .i64 0), (.int .i64 0), (.int .i64 0), (.int .i64 0), (.int .i64 0), .nils] [(0, 3), (3, 3)], [.t 37, .t 38], none⟩,
     ⟨(some 13), .alloc [(.int .i64 0), (.int .i64 0), (.int .i64 0), (.int .i64 0), (.int .i64 0), (.int .i64 0), .nils], [], none⟩,
     ⟨none, .store 7, [.t 13, .t 39], none⟩])
   (.seq (.reg [⟨(some 40), .load 3 true, [.t 6], none⟩,
     ⟨(some 41), .load 3 true, [.t 7], none⟩,
     ⟨(some 42), .call 89, [.t 40, .t 41], none⟩,
     ⟨(some 14), .mov, [.t 42], none⟩])
   (.seq (.seq (.reg [⟨(some 15), .mov, [.c (.int .i64 0)], none⟩])
   (.block 0 (.loop (.seq (.seq (.reg [⟨(some 43), .mov, [.t 15], none⟩,
     ⟨(some 44), .mov, [.t 14], none⟩,
     ⟨(some 45), .len false, [.t 44], none⟩,
     ⟨(some 46), .bin .lss, [.t 43, .t 45], none⟩])
   (.cond (.t 46) .skip (.exit 0)))
   (.seq (.block 1 (.draw [0, 1, 0, 0, 0, 24, 56, 0, 0, 508, 1020, 2044, 4095, 8191, 16383] [⟨(some 49), .faddr 6, [.t 13], none⟩,
     ⟨(some 50), .load 1 false, [.t 49], none⟩,
     ⟨(some 51), .mov, [.t 0], none⟩,
     ⟨(some 52), .mov, [.t 14], none⟩,
     ⟨(some 53), .mov, [.t 15], none⟩,
     ⟨(some 54), .iaddrS 3, [.t 52, .t 53], none⟩,
     ⟨(some 55), .load 3 true, [.t 54], none⟩,
     ⟨(some 56), .mov, [.t 3], none⟩,
     ⟨(some 57), .mov, [.t 4], none⟩,
     ⟨(some 58), .call 85, [.t 51, .t 55, .t 56, .t 57], none⟩,
     ⟨(some 59), .field 4 2 true, [.t 58], none⟩,
     ⟨(some 60), .mkslice 2 33, [.t 59], none⟩,
     ⟨(some 61), .append 2 16 33, [.t 50, .t 60], none⟩,
     ⟨(some 62), .faddr 6, [.t 13], none⟩,
     ⟨none, .store 1, [.t 62, .t 61], none⟩]))
   (.reg [⟨(some 47), .mov, [.t 15], none⟩,
     ⟨(some 48), .bin .add, [.t 47, .c (.int .i64 1)], none⟩,
     ⟨(some 15), .mov, [.t 48], none⟩]))))))
   (.seq (.reg [⟨(some 63), .load 7 true, [.t 13], none⟩,
     ⟨none, .store 7, [.t 10, .t 63], none⟩,
     ⟨(some 11), .mov, [.c (.int .i64 0)], none⟩])
   .ret)))))))
theorem chk.ref10_Migrate : chkF Try.prog 53 = some (64, ir.ref10_Migrate, [.cell 10 44, .tmp 11]) := by kernel_rfl

end Go.Proofs.Ytkifejklnpddbaa

/-! The laws VolumeNames and VolumeEncloses, as contracts. -/
set_option linter.unusedVariables false
set_option linter.unusedSimpArgs false
set_option maxRecDepth 20000
namespace Go.Proofs.Ytkifejklnpddbaa
open Go.Am
attribute [local simp] cells scalar mkv splice under2 under dem dem1 boxC cellC volC intsV eB

theorem nameS_form (l : List Echo) (x y z aper slow : Int) : ∃ (a b c : Int) (s : Int × Int) (r : List (Int × Int)) (e : Int), r.length ≤ 32 ∧
    nameS l x y z aper slow = .tuple [.agg [I a, I b, I c, .slice 0 2 (r.map eB), I s.1, I s.2], I e] := by
  unfold nameS nameR
  split
  · rename_i h1
    have h2 := echoesOk_len h1
    split
    · refine ⟨x, y, z, valueB ⟨l, aper, (slow, slow)⟩ x y z, namedL ⟨l, aper, (slow, slow)⟩ x y z, 0, ?_, rfl⟩
      unfold namedL
      exact Nat.le_trans (List.length_filterMap_le _ _) (Nat.le_trans nears_len h2)
    · exact ⟨0, 0, 0, (0, 0), [], 102, by simp, rfl⟩
  · exact ⟨0, 0, 0, (0, 0), [], 100, by simp, rfl⟩

theorem boxS_form (l : List Echo) (b : Bx) (aper : Int) (slow : Int × Int) (of : Int × Int × Int → Int × Int) : ∃ (c : Bx) (r : List (Int × Int)) (e : Int), r.length ≤ 4096 ∧
    boxR (.slice 0 2 []) l b aper slow of = .tuple [.agg [I c.x, I c.y, I c.z, I c.a, I c.b, I c.c, .slice 0 2 (r.map eB)], I e] := by
  unfold boxR
  split
  · split
    · unfold imageR
      split
      · rename_i h1
        refine ⟨b, (boxCells b).map of, 0, ?_, ?_⟩
        · rw [List.length_map]; exact boxCells_len (boxOk_spec h1).1
        · rw [List.map_map]; rfl
      · exact ⟨⟨0, 0, 0, 0, 0, 0⟩, [], 102, by simp, rfl⟩
    · exact ⟨⟨0, 0, 0, 0, 0, 0⟩, [], 102, by simp, rfl⟩
  · exact ⟨⟨0, 0, 0, 0, 0, 0⟩, [], 100, by simp, rfl⟩

theorem c_VolumeNames {l : List Echo} (hl : sane l) (x y z aper slow : Int) : C Try.prog F.law10_VolumeNames [sE l, .agg (cellC x y z), .agg [I aper, I slow]] (.bool true) := by
  refine C_of mixed chk.law10_VolumeNames (by simp) fun S ok => ?_
  obtain ⟨a, b, c, s, r, e, hr, hN⟩ := nameS_form l x y z aper slow
  refine Tr.seqR rfl (by simp) ?_
  refine Tr.seqC rfl (by simp) (Steps.call rfl rfl (hN ▸ c_NameS hl x y z aper slow) (Steps.fin rfl (by simp) ?_))
  refine Tr.seqC rfl (by simp) (Steps.call rfl rfl (hN ▸ c_Name10 hl x y z aper slow) (Steps.fin rfl (by simp) ?_))
  refine Tr.seqC rfl (by simp) (Steps.call rfl rfl (c_SameNamed a b c a b c s s r r (by omega)) (Steps.run rfl (by simp) ?_))
  refine Steps.gcall rfl rfl rfl rfl (by simp) (fun _ => c_works) (Steps.fin rfl (by simp) (Tr.retX rfl rfl rfl ?_ trivial))
  simp [packR]

theorem c_VolumeEncloses {l : List Echo} (hl : sane l) (b : Bx) (aper : Int) (slow : Int × Int) : C Try.prog F.law10_VolumeEncloses [sE l, .agg [I b.x, I b.y, I b.z, I b.a, I b.b, I b.c, I aper, I slow.1, I slow.2]] (.bool true) := by
  refine C_of mixed chk.law10_VolumeEncloses (by simp) fun S ok => ?_
  obtain ⟨c, r, e, hr, hN⟩ := boxS_form l b aper slow (encOf l aper slow)
  have k1 := c_Enclose hl b aper slow
  have k2 := c_Enclose10 hl b aper slow
  unfold encS at k1 k2
  rw [hN] at k1 k2
  refine Tr.seqR rfl (by simp) ?_
  refine Tr.seqC rfl (by simp) (Steps.call rfl rfl k1 (Steps.fin rfl (by simp) ?_))
  refine Tr.seqC rfl (by simp) (Steps.call rfl rfl k2 (Steps.fin rfl (by simp) ?_))
  refine Tr.seqC rfl (by simp) (Steps.call rfl rfl (c_SameImage c c r r (by omega)) (Steps.run rfl (by simp) ?_))
  refine Steps.gcall rfl rfl rfl rfl (by simp) (fun _ => c_works) (Steps.fin rfl (by simp) (Tr.retX rfl rfl rfl ?_ trivial))
  simp [packR]

end Go.Proofs.Ytkifejklnpddbaa

/-! Contracts: images of values in the specification; the law VolumeMigrates. -/
set_option linter.unusedVariables false
set_option linter.unusedSimpArgs false
set_option maxRecDepth 20000
namespace Go.Proofs.Ytkifejklnpddbaa
open Go.Am
attribute [local simp] cells scalar mkv splice under2 under dem dem1 boxC cellC eB

theorem c_Migrate10 {l : List Echo} (hl : sane l) (b : Bx) (aper slow : Int) : C Try.prog F.ref10_Migrate [sE l, .agg (cellC b.x b.y b.z), .agg (cellC b.a b.b b.c), I aper, I slow] (valS l b aper slow) := by
  refine C.le (r := boxR .nils l b aper (slow, slow) (valOf l aper slow)) ?_ fun _ _ _ h => boxR_le h
  refine C_of mixed chk.ref10_Migrate (by simp) fun S ok => ?_
  refine Tr.seqR rfl (by simp) ?_
  refine Tr.seq (Tr.seqC rfl (by simp) (Steps.call rfl rfl (c_CheckEchoes10 hl) (Steps.fin rfl (by simp [CheckR]) (Tr.seqR rfl (by simp [CheckR]) ?_))))
  by_cases hE : echoesOk l = true
  rotate_left
  · have hE : echoesOk l = false := by simpa using hE
    refine Tr.condT (by simp [CheckR, hE]; rfl) (Tr.seqR rfl (by simp) (Tr.retX rfl rfl rfl ?_ trivial))
    simp [packR, boxR, hE, errImg, CheckR]
  have hlen := echoesOk_len hE
  refine Tr.condF (by simp [CheckR, hE]; rfl) (Tr.skip ?_)
  refine Tr.seq (Tr.seqC rfl (by simp) (Steps.call rfl rfl (c_box10 b) (Steps.run rfl (by simp) ?_)))
  refine Steps.gcall rfl rfl rfl rfl (by simp) (fun _ => c_aperture _) (Steps.run rfl (by simp) ?_)
  refine Steps.gcall rfl rfl rfl rfl (by simp) (fun _ => c_slowness _) (Steps.fin rfl (by simp) ?_)
  have hc : ∀ c : Bool, (bif (bif (!boxOk b) then true else !btw aper 0 128) then true else !btw slow 0 4096) = c → c = !(earOk aper (slow, slow) && boxOk b) := by
    rintro c rfl
    rw [earOk_one]
    cases boxOk b <;> cases btw aper 0 128 <;> cases btw slow 0 4096 <;> rfl
  refine Tr.cond rfl rfl (fun h1 => Tr.seqR rfl (by simp) (Tr.retX rfl rfl rfl ?_ trivial)) (fun h1 => Tr.skip ?_)
  · have h2 : (earOk aper (slow, slow) && boxOk b) = false := not_of (hc true h1)
    cases hA : earOk aper (slow, slow)
    · simp [packR, boxR, hE, hA, errImg]
    · have hb : boxOk b = false := by simpa [hA] using h2
      simp [packR, boxR, hE, hA, imageR, hb, errImg]
  have h2 : (earOk aper (slow, slow) && boxOk b) = true := not_of (hc false h1)
  simp only [Bool.and_eq_true] at h2
  obtain ⟨hA, hb⟩ := h2
  obtain ⟨hsm, hmid⟩ := boxOk_spec hb
  have hcell : cellOk b.x b.y b.z = true := by simp only [boxOk, Bool.and_eq_true] at hb; exact hb.1.2
  have hbl := boxCells_len hsm
  refine Tr.seqR rfl (by simp) (Tr.seqC rfl (by simp) (Steps.call rfl rfl (c_places10 b hsm hcell) (Steps.fin rfl (by simp) ?_)))
  refine Tr.seq (Tr.seqR rfl (by simp) (Tr.block ?_))
  refine Tr.loop (fun i s => i ≤ (boxCells b).length ∧ s = { env := [(0, sE l), (3, I aper), (4, I slow), (10, .ptr 10 0), (13, .ptr 13 0), (14, .slice 0 3 ((boxCells b).map fun p => .agg (cellC p.1 p.2.1 p.2.2))), (15, I i)], bx := [(10, ⟨[I 0, I 0, I 0, I 0, I 0, I 0, .nils], false⟩), (13, ⟨[I b.x, I b.y, I b.z, I b.a, I b.b, I b.c, .slice 62 2 (((boxCells b).take i).map fun p => eB (valOf l aper slow p))], false⟩)], rw := [(61, i, 2, 33)], log := [], stp := false }) (fun i => (boxCells b).length - i) 0
    (Wk.le (.cons rfl (.refl _) (.cons rfl (.refl _) (.cons rfl (.refl _) (.cons rfl (.refl _) (.cons rfl (.refl _) (.cons rfl (.refl _) (.cons rfl (.refl _) .nil)))))))
      (.cons rfl (LLe.refl _) (.cons rfl (.cons (.refl _) (.cons (.refl _) (.cons (.refl _) (.cons (.refl _) (.cons (.refl _) (.cons (.refl _) (.cons (.nil 62 2) .nil))))))) .nil)) (.new rfl .nil) rfl rfl) ⟨by omega, rfl⟩ ?_
  rintro i s ⟨hi, rfl⟩
  refine Tr.seq (Tr.seqR rfl (by simp) (Tr.cond rfl rfl (fun h3 => ?_) (fun h3 => ?_)))
  rotate_left
  · have h3 : i = (boxCells b).length := by simp at h3; omega
    subst h3
    refine Tr.exit (Tr.seqR rfl (by simp) (Tr.retX rfl rfl rfl ?_ trivial))
    rw [List.take_length]
    simp [packR, boxR, hE, hA, imageR, hb]
  have h3 : i < (boxCells b).length := by simpa using h3
  obtain ⟨⟨x, y, z⟩, hp⟩ : ∃ p, (boxCells b)[i] = p := ⟨_, rfl⟩
  refine Tr.skip (Tr.seq (Tr.block (Tr.drawK (TraceK.runN 6 rfl (by simp; omega) ?_))))
  rw [getD_map h3, hp]
  refine TraceK.run rfl (by simp) (TraceK.call rfl rfl (c_name10 ⟨l, aper, (slow, slow)⟩ x y z rfl hlen hl.2) ?_)
  refine TraceK.run rfl (by simp [nameC]; omega) (.done ⟨by kernel_rfl, by kernel_rfl, ?_⟩)
  refine Tr.regR rfl (by simp) ?_
  refine ⟨i + 1, _, Wk.le (.cons rfl (.refl _) (.cons rfl (.refl _) (.cons rfl (.refl _) (.cons rfl (.refl _) (.cons rfl (.refl _) (.cons rfl (.refl _) (.cons rfl (VLe.i (w64 (by omega) (by omega))) .nil)))))))
    (.cons rfl (LLe.refl _) (.cons rfl (.cons (.refl _) (.cons (.refl _) (.cons (.refl _) (.cons (.refl _) (.cons (.refl _) (.cons (.refl _) (.cons (.of_eq ?_) .nil))))))) .nil)) (.cons ?_ .nil) rfl rfl, ⟨h3, rfl⟩, by omega⟩
  · rw [List.take_add_one, List.getElem?_eq_getElem h3, hp]; simp [valOf]
  · show some _ = some _
    simp; omega

theorem c_VolumeMigrates {l : List Echo} (hl : sane l) (b : Bx) (aper : Int) (slow : Int × Int) : C Try.prog F.law10_VolumeMigrates [sE l, .agg [I b.x, I b.y, I b.z, I b.a, I b.b, I b.c, I aper, I slow.1, I slow.2]] (.bool true) := by
  refine C_of mixed chk.law10_VolumeMigrates (by simp) fun S ok => ?_
  obtain ⟨c, r, e, hr, hN⟩ := boxS_form l b aper (slow.1, slow.1) (valOf l aper slow.1)
  have k1 := c_Migrate hl b aper slow.1
  have k2 := c_Migrate10 hl b aper slow.1
  unfold valS at k1 k2
  rw [hN] at k1 k2
  refine Tr.seqR rfl (by simp) ?_
  refine Tr.seqC rfl (by simp) (Steps.call rfl rfl k1 (Steps.fin rfl (by simp) ?_))
  refine Tr.seqC rfl (by simp) (Steps.call rfl rfl k2 (Steps.fin rfl (by simp) ?_))
  refine Tr.seqC rfl (by simp) (Steps.call rfl rfl (c_SameImage c c r r (by omega)) (Steps.run rfl (by simp) ?_))
  refine Steps.gcall rfl rfl rfl rfl (by simp) (fun _ => c_works) (Steps.fin rfl (by simp) (Tr.retX rfl rfl rfl ?_ trivial))
  simp [packR]

end Go.Proofs.Ytkifejklnpddbaa
