/-
  Parts of the proof, 1: the abstract machine, the compiled code, contracts of the functions, plain laws.
-/
import Derived.Test.YtkifejklnpddbaaZ5


/-! The code of further functions, compiled. -/
set_option maxRecDepth 100000
namespace Go.Proofs.Ytkifejklnpddbaa
open Go.Am
/-- paravane/paravanelaw10.VolumeJoins -/
abbrev F.law10_VolumeJoins : Nat := 7
def ir.law10_VolumeJoins : IC :=
 (.seq (.reg [⟨(some 2), .box, [.t 0], none⟩,
     ⟨(some 3), .box, [.t 1], none⟩,
     ⟨(some 4), .mov, [.c (.bool false)], none⟩])
   (.seq (.reg [⟨(some 10), .load 7 true, [.t 2], none⟩,
     ⟨(some 11), .load 7 true, [.t 3], none⟩,
     ⟨(some 12), .call 42, [.t 10, .t 11], none⟩,
     ⟨(some 9), .mov, [.t 12], none⟩,
     ⟨(some 13), .extract 0, [.t 9], none⟩,
     ⟨(some 14), .extract 1, [.t 9], none⟩,
     ⟨(some 5), .alloc [(.int .i64 0), (.int .i64 0), (.int .i64 0), (.int .i64 0), (.int .i64 0), (.int .i64 0), .nils], [], none⟩,
     ⟨none, .store 7, [.t 5, .t 13], none⟩,
     ⟨(some 6), .mov, [.t 14], none⟩])
   (.seq (.reg [⟨(some 16), .load 7 true, [.t 2], none⟩,
     ⟨(some 17), .load 7 true, [.t 3], none⟩,
     ⟨(some 18), .call 43, [.t 16, .t 17], none⟩,
     ⟨(some 15), .mov, [.t 18], none⟩,
     ⟨(some 19), .extract 0, [.t 15], none⟩,
     ⟨(some 20), .extract 1, [.t 15], none⟩,
     ⟨(some 7), .alloc [(.int .i64 0), (.int .i64 0), (.int .i64 0), (.int .i64 0), (.int .i64 0), (.int .i64 0), .nils], [], none⟩,
     ⟨none, .store 7, [.t 7, .t 19], none⟩,
     ⟨(some 8), .mov, [.t 20], none⟩])
   (.seq (.reg [⟨(some 21), .load 7 true, [.t 5], none⟩,
     ⟨(some 22), .load 7 true, [.t 7], none⟩,
     ⟨(some 23), .call 44, [.t 21, .t 22], none⟩,
     ⟨(some 24), .mov, [.t 23], none⟩,
     ⟨(some 25), .mov, [.t 6], (some (24, true))⟩,
     ⟨(some 26), .mov, [.t 8], (some (24, true))⟩,
     ⟨(some 27), .bin .eql, [.t 25, .t 26], (some (24, true))⟩,
     ⟨(some 28), .pick, [.t 24, .t 27, .c (.bool false)], none⟩,
     ⟨(some 29), .mov, [.t 28], none⟩,
     ⟨(some 30), .call 30, [], (some (29, true))⟩,
     ⟨(some 31), .pick, [.t 29, .t 30, .c (.bool false)], none⟩,
     ⟨(some 4), .mov, [.t 31], none⟩])
   .ret))))
theorem chk.law10_VolumeJoins : chkF Try.prog 7 = some (32, ir.law10_VolumeJoins, [.tmp 4]) := by kernel_rfl

/-- paravane/paravanelaw10.VolumeAgrees -/
abbrev F.law10_VolumeAgrees : Nat := 18
def ir.law10_VolumeAgrees : IC :=
 (.seq (.reg [⟨(some 2), .box, [.t 0], none⟩,
     ⟨(some 3), .box, [.t 1], none⟩,
     ⟨(some 4), .mov, [.c (.bool false)], none⟩])
   (.seq (.reg [⟨(some 14), .load 7 true, [.t 2], none⟩,
     ⟨(some 15), .load 7 true, [.t 3], none⟩,
     ⟨(some 16), .call 42, [.t 14, .t 15], none⟩,
     ⟨(some 13), .mov, [.t 16], none⟩,
     ⟨(some 17), .extract 0, [.t 13], none⟩,
     ⟨(some 18), .extract 1, [.t 13], none⟩,
     ⟨(some 5), .alloc [(.int .i64 0), (.int .i64 0), (.int .i64 0), (.int .i64 0), (.int .i64 0), (.int .i64 0), .nils], [], none⟩,
     ⟨none, .store 7, [.t 5, .t 17], none⟩,
     ⟨(some 6), .mov, [.t 18], none⟩])
   (.seq (.reg [⟨(some 20), .load 7 true, [.t 3], none⟩,
     ⟨(some 21), .load 7 true, [.t 2], none⟩,
     ⟨(some 22), .call 42, [.t 20, .t 21], none⟩,
     ⟨(some 19), .mov, [.t 22], none⟩,
     ⟨(some 23), .extract 0, [.t 19], none⟩,
     ⟨(some 24), .extract 1, [.t 19], none⟩,
     ⟨(some 7), .alloc [(.int .i64 0), (.int .i64 0), (.int .i64 0), (.int .i64 0), (.int .i64 0), (.int .i64 0), .nils], [], none⟩,
     ⟨none, .store 7, [.t 7, .t 23], none⟩,
     ⟨(some 8), .mov, [.t 24], none⟩])
   (.seq (.seq (.reg [⟨(some 25), .mov, [.t 6], none⟩,
     ⟨(some 26), .bin .neq, [.t 25, .c (.int .i64 0)], none⟩])
   (.cond (.t 26) (.seq (.reg [⟨(some 27), .mov, [.t 8], none⟩,
     ⟨(some 28), .bin .neq, [.t 27, .c (.int .i64 0)], none⟩,
     ⟨(some 29), .mov, [.t 28], none⟩,
     ⟨(some 30), .faddr 6, [.t 5], (some (29, true))⟩,
     ⟨(some 31), .load 1 false, [.t 30], (some (29, true))⟩,
     ⟨(some 32), .len false, [.t 31], (some (29, true))⟩,
     ⟨(some 33), .bin .eql, [.t 32, .c (.int .i64 0)], (some (29, true))⟩,
     ⟨(some 34), .pick, [.t 29, .t 33, .c (.bool false)], none⟩,
     ⟨(some 35), .mov, [.t 34], none⟩,
     ⟨(some 36), .call 30, [], (some (35, true))⟩,
     ⟨(some 37), .pick, [.t 35, .t 36, .c (.bool false)], none⟩,
     ⟨(some 4), .mov, [.t 37], none⟩])
   .ret) .skip))
   (.seq (.reg [⟨(some 39), .load 7 true, [.t 5], none⟩,
     ⟨(some 40), .faddr 0, [.t 2], none⟩,
     ⟨(some 41), .load 3 true, [.t 40], none⟩,
     ⟨(some 42), .faddr 3, [.t 2], none⟩,
     ⟨(some 43), .load 3 true, [.t 42], none⟩,
     ⟨(some 44), .call 59, [.t 39, .t 41, .t 43], none⟩,
     ⟨(some 38), .mov, [.t 44], none⟩,
     ⟨(some 45), .extract 0, [.t 38], none⟩,
     ⟨(some 46), .extract 1, [.t 38], none⟩,
     ⟨(some 9), .alloc [(.int .i64 0), (.int .i64 0), (.int .i64 0), (.int .i64 0), (.int .i64 0), (.int .i64 0), .nils], [], none⟩,
     ⟨none, .store 7, [.t 9, .t 45], none⟩,
     ⟨(some 10), .mov, [.t 46], none⟩])
   (.seq (.reg [⟨(some 48), .load 7 true, [.t 5], none⟩,
     ⟨(some 49), .faddr 0, [.t 3], none⟩,
     ⟨(some 50), .load 3 true, [.t 49], none⟩,
     ⟨(some 51), .faddr 3, [.t 3], none⟩,
     ⟨(some 52), .load 3 true, [.t 51], none⟩,
     ⟨(some 53), .call 59, [.t 48, .t 50, .t 52], none⟩,
     ⟨(some 47), .mov, [.t 53], none⟩,
     ⟨(some 54), .extract 0, [.t 47], none⟩,
     ⟨(some 55), .extract 1, [.t 47], none⟩,
     ⟨(some 11), .alloc [(.int .i64 0), (.int .i64 0), (.int .i64 0), (.int .i64 0), (.int .i64 0), (.int .i64 0), .nils], [], none⟩,
     ⟨none, .store 7, [.t 11, .t 54], none⟩,
     ⟨(some 12), .mov, [.t 55], none⟩])
   (.seq (.reg [⟨(some 56), .mov, [.t 8], none⟩,
     ⟨(some 57), .bin .eql, [.t 56, .c (.int .i64 0)], none⟩,
     ⟨(some 58), .mov, [.t 57], none⟩,
     ⟨(some 59), .mov, [.t 10], (some (58, true))⟩,
     ⟨(some 60), .bin .eql, [.t 59, .c (.int .i64 0)], (some (58, true))⟩,
     ⟨(some 61), .pick, [.t 58, .t 60, .c (.bool false)], none⟩,
     ⟨(some 62), .mov, [.t 61], none⟩,
     ⟨(some 63), .mov, [.t 12], (some (62, true))⟩,
     ⟨(some 64), .bin .eql, [.t 63, .c (.int .i64 0)], (some (62, true))⟩,
     ⟨(some 65), .pick, [.t 62, .t 64, .c (.bool false)], none⟩,
     ⟨(some 66), .mov, [.t 65], none⟩,
     ⟨(some 67), .load 7 true, [.t 5], (some (66, true))⟩,
     ⟨(some 68), .load 7 true, [.t 7], (some (66, true))⟩,
     ⟨(some 69), .call 44, [.t 67, .t 68], (some (66, true))⟩,
     ⟨(some 70), .pick, [.t 66, .t 69, .c (.bool false)], none⟩,
     ⟨(some 71), .mov, [.t 70], none⟩,
     ⟨(some 72), .load 7 true, [.t 9], (some (71, true))⟩,
     ⟨(some 73), .load 7 true, [.t 2], (some (71, true))⟩,
     ⟨(some 74), .call 44, [.t 72, .t 73], (some (71, true))⟩,
     ⟨(some 75), .pick, [.t 71, .t 74, .c (.bool false)], none⟩,
     ⟨(some 76), .mov, [.t 75], none⟩,
     ⟨(some 77), .load 7 true, [.t 11], (some (76, true))⟩,
     ⟨(some 78), .load 7 true, [.t 3], (some (76, true))⟩,
     ⟨(some 79), .call 44, [.t 77, .t 78], (some (76, true))⟩,
     ⟨(some 80), .pick, [.t 76, .t 79, .c (.bool false)], none⟩,
     ⟨(some 81), .mov, [.t 80], none⟩,
     ⟨(some 82), .call 30, [], (some (81, true))⟩,
     ⟨(some 83), .pick, [.t 81, .t 82, .c (.bool false)], none⟩,
     ⟨(some 4), .mov, [.t 83], none⟩])
   .ret)))))))
theorem chk.law10_VolumeAgrees : chkF Try.prog 18 = some (84, ir.law10_VolumeAgrees, [.tmp 4]) := by kernel_rfl

/-- paravane/paravanelaw10.VolumeCuts -/
abbrev F.law10_VolumeCuts : Nat := 24
def ir.law10_VolumeCuts : IC :=
 (.seq (.reg [⟨(some 3), .box, [.t 0], none⟩,
     ⟨(some 4), .box, [.t 1], none⟩,
     ⟨(some 5), .box, [.t 2], none⟩,
     ⟨(some 6), .mov, [.c (.bool false)], none⟩])
   (.seq (.seq (.draw [0, 1, 0, 7, 15] [⟨(some 13), .load 7 true, [.t 3], none⟩,
     ⟨(some 14), .call 65, [.t 13], none⟩,
     ⟨(some 15), .load 7 true, [.t 3], none⟩,
     ⟨(some 16), .call 68, [.t 15], none⟩,
     ⟨(some 17), .bin .neq, [.t 14, .t 16], none⟩])
   (.cond (.t 17) (.seq (.reg [⟨(some 6), .mov, [.c (.bool false)], none⟩])
   .ret) .skip))
   (.seq (.reg [⟨(some 19), .load 7 true, [.t 3], none⟩,
     ⟨(some 20), .load 3 true, [.t 4], none⟩,
     ⟨(some 21), .load 3 true, [.t 5], none⟩,
     ⟨(some 22), .call 59, [.t 19, .t 20, .t 21], none⟩,
     ⟨(some 18), .mov, [.t 22], none⟩,
     ⟨(some 23), .extract 0, [.t 18], none⟩,
     ⟨(some 24), .extract 1, [.t 18], none⟩,
     ⟨(some 7), .alloc [(.int .i64 0), (.int .i64 0), (.int .i64 0), (.int .i64 0), (.int .i64 0), (.int .i64 0), .nils], [], none⟩,
     ⟨none, .store 7, [.t 7, .t 23], none⟩,
     ⟨(some 8), .mov, [.t 24], none⟩])
   (.seq (.reg [⟨(some 26), .load 7 true, [.t 3], none⟩,
     ⟨(some 27), .load 3 true, [.t 4], none⟩,
     ⟨(some 28), .load 3 true, [.t 5], none⟩,
     ⟨(some 29), .call 69, [.t 26, .t 27, .t 28], none⟩,
     ⟨(some 25), .mov, [.t 29], none⟩,
     ⟨(some 30), .extract 0, [.t 25], none⟩,
     ⟨(some 31), .extract 1, [.t 25], none⟩,
     ⟨(some 9), .alloc [(.int .i64 0), (.int .i64 0), (.int .i64 0), (.int .i64 0), (.int .i64 0), (.int .i64 0), .nils], [], none⟩,
     ⟨none, .store 7, [.t 9, .t 30], none⟩,
     ⟨(some 10), .mov, [.t 31], none⟩])
   (.seq (.seq (.reg [⟨(some 32), .load 7 true, [.t 7], none⟩,
     ⟨(some 33), .load 7 true, [.t 9], none⟩,
     ⟨(some 34), .call 44, [.t 32, .t 33], none⟩,
     ⟨(some 35), .un .not, [.t 34], none⟩,
     ⟨(some 36), .mov, [.t 35], none⟩,
     ⟨(some 37), .mov, [.t 8], (some (36, false))⟩,
     ⟨(some 38), .mov, [.t 10], (some (36, false))⟩,
     ⟨(some 39), .bin .neq, [.t 37, .t 38], (some (36, false))⟩,
     ⟨(some 40), .pick, [.t 36, .c (.bool true), .t 39], none⟩])
   (.cond (.t 40) (.seq (.reg [⟨(some 6), .mov, [.c (.bool false)], none⟩])
   .ret) .skip))
   (.seq (.reg [⟨(some 42), .load 7 true, [.t 3], none⟩,
     ⟨(some 43), .call 58, [.t 42], none⟩,
     ⟨(some 41), .mov, [.t 43], none⟩,
     ⟨(some 44), .extract 0, [.t 41], none⟩,
     ⟨(some 45), .extract 1, [.t 41], none⟩,
     ⟨(some 11), .mov, [.t 44], none⟩,
     ⟨(some 8), .mov, [.t 45], none⟩])
   (.seq (.reg [⟨(some 47), .load 7 true, [.t 3], none⟩,
     ⟨(some 48), .call 70, [.t 47], none⟩,
     ⟨(some 46), .mov, [.t 48], none⟩,
     ⟨(some 49), .extract 0, [.t 46], none⟩,
     ⟨(some 50), .extract 1, [.t 46], none⟩,
     ⟨(some 12), .mov, [.t 49], none⟩,
     ⟨(some 10), .mov, [.t 50], none⟩])
   (.seq (.reg [⟨(some 51), .mov, [.t 11], none⟩,
     ⟨(some 52), .mov, [.t 12], none⟩,
     ⟨(some 53), .bin .eql, [.t 51, .t 52], none⟩,
     ⟨(some 54), .mov, [.t 53], none⟩,
     ⟨(some 55), .mov, [.t 8], (some (54, true))⟩,
     ⟨(some 56), .mov, [.t 10], (some (54, true))⟩,
     ⟨(some 57), .bin .eql, [.t 55, .t 56], (some (54, true))⟩,
     ⟨(some 58), .pick, [.t 54, .t 57, .c (.bool false)], none⟩,
     ⟨(some 59), .mov, [.t 58], none⟩,
     ⟨(some 60), .call 30, [], (some (59, true))⟩,
     ⟨(some 61), .pick, [.t 59, .t 60, .c (.bool false)], none⟩,
     ⟨(some 6), .mov, [.t 61], none⟩])
   .ret))))))))
theorem chk.law10_VolumeCuts : chkF Try.prog 24 = some (62, ir.law10_VolumeCuts, [.tmp 6]) := by kernel_rfl

/-- paravane/paravaneref10.Join -/
abbrev F.ref10_Join : Nat := 43
def ir.ref10_Join : IC :=
 (.seq (.reg [⟨(some 2), .box, [.t 0], none⟩,
     ⟨(some 3), .box, [.t 1], none⟩,
     ⟨(some 4), .alloc [(.int .i64 0), (.int .i64 0), (.int .i64 0), (.int .i64 0), (.int .i64 0), (.int .i64 0), .nils], [], none⟩,
     ⟨(some 5), .mov, [.c (.int .i64 0)], none⟩])
   (.seq (.seq (.reg [⟨(some 26), .load 7 true, [.t 2], none⟩,
     ⟨(some 27), .call 68, [.t 26], none⟩,
     ⟨(some 6), .mov, [.t 27], none⟩])
   (.seq (.reg [⟨(some 28), .mov, [.t 6], none⟩,
     ⟨(some 29), .bin .neq, [.t 28, .c (.int .i64 0)], none⟩])
   (.cond (.t 29) (.seq (.reg [⟨(some 30), .build [(.int .i64 0), (.int .i64 0), (.int .i64 0), (.int .i64 0), (.int .i64 0), (.int .i64 0), .nils] [], [], none⟩,
     ⟨(some 31), .mov, [.t 6], none⟩,
     ⟨none, .store 7, [.t 4, .t 30], none⟩,
     ⟨(some 5), .mov, [.t 31], none⟩])
   .ret) .skip)))
   (.seq (.seq (.reg [⟨(some 32), .load 7 true, [.t 3], none⟩,
     ⟨(some 33), .call 68, [.t 32], none⟩,
     ⟨(some 7), .mov, [.t 33], none⟩])
   (.seq (.reg [⟨(some 34), .mov, [.t 7], none⟩,
     ⟨(some 35), .bin .neq, [.t 34, .c (.int .i64 0)], none⟩])
   (.cond (.t 35) (.seq (.reg [⟨(some 36), .build [(.int .i64 0), (.int .i64 0), (.int .i64 0), (.int .i64 0), (.int .i64 0), (.int .i64 0), .nils] [], [], none⟩,
     ⟨(some 37), .mov, [.t 7], none⟩,
     ⟨none, .store 7, [.t 4, .t 36], none⟩,
     ⟨(some 5), .mov, [.t 37], none⟩])
   .ret) .skip)))
   (.seq (.reg [⟨(some 38), .build [(.int .i64 0), (.int .i64 0), (.int .i64 0), (.int .i64 0), (.int .i64 0), (.int .i64 0)] [], [], none⟩,
     ⟨(some 8), .alloc [(.int .i64 0), (.int .i64 0), (.int .i64 0), (.int .i64 0), (.int .i64 0), (.int .i64 0)], [], none⟩,
     ⟨none, .store 6, [.t 8, .t 38], none⟩])
   (.seq (.reg [⟨(some 9), .mov, [.c (.int .i64 1)], none⟩])
   (.seq (.seq (.reg [⟨(some 10), .mov, [.c (.int .i64 0)], none⟩])
   (.block 0 (.loop (.seq (.seq (.reg [⟨(some 39), .mov, [.t 10], none⟩,
     ⟨(some 40), .bin .lss, [.t 39, .c (.int .i64 3)], none⟩])
   (.cond (.t 40) .skip (.exit 0)))
   (.seq (.block 1 (.seq (.draw [0, 0, 3, 7, 0, 0, 48, 112, 255, 0, 0, 1536, 3584, 0, 0, 24576, 57344, 130560, 0, 0, 786432, 1835008, 0, 0, 12582912, 29360128, 66846720, 134217216, 511, 536870911] [⟨(some 43), .mov, [.t 10], none⟩,
     ⟨(some 44), .faddr 0, [.t 2], none⟩,
     ⟨(some 45), .iaddrA 3 1, [.t 44, .t 43], none⟩,
     ⟨(some 46), .load 1 false, [.t 45], none⟩,
     ⟨(some 47), .mov, [.t 10], none⟩,
     ⟨(some 48), .faddr 0, [.t 3], none⟩,
     ⟨(some 49), .iaddrA 3 1, [.t 48, .t 47], none⟩,
     ⟨(some 50), .load 1 false, [.t 49], none⟩,
     ⟨(some 51), .minmax false, [.t 46, .t 50], none⟩,
     ⟨(some 52), .mov, [.t 10], none⟩,
     ⟨(some 53), .faddr 0, [.t 2], none⟩,
     ⟨(some 54), .iaddrA 3 1, [.t 53, .t 52], none⟩,
     ⟨(some 55), .load 1 false, [.t 54], none⟩,
     ⟨(some 56), .mov, [.t 10], none⟩,
     ⟨(some 57), .faddr 3, [.t 2], none⟩,
     ⟨(some 58), .iaddrA 3 1, [.t 57, .t 56], none⟩,
     ⟨(some 59), .load 1 false, [.t 58], none⟩,
     ⟨(some 60), .bin .add, [.t 55, .t 59], none⟩,
     ⟨(some 61), .mov, [.t 10], none⟩,
     ⟨(some 62), .faddr 0, [.t 3], none⟩,
     ⟨(some 63), .iaddrA 3 1, [.t 62, .t 61], none⟩,
     ⟨(some 64), .load 1 false, [.t 63], none⟩,
     ⟨(some 65), .mov, [.t 10], none⟩,
     ⟨(some 66), .faddr 3, [.t 3], none⟩,
     ⟨(some 67), .iaddrA 3 1, [.t 66, .t 65], none⟩,
     ⟨(some 68), .load 1 false, [.t 67], none⟩,
     ⟨(some 69), .bin .add, [.t 64, .t 68], none⟩,
     ⟨(some 70), .minmax true, [.t 60, .t 69], none⟩,
     ⟨(some 11), .mov, [.t 51], none⟩,
     ⟨(some 12), .mov, [.t 70], none⟩])
   (.seq (.reg [⟨(some 71), .load 6 true, [.t 8], none⟩,
     ⟨(some 13), .alloc [(.int .i64 0), (.int .i64 0), (.int .i64 0), (.int .i64 0), (.int .i64 0), (.int .i64 0)], [], none⟩,
     ⟨none, .store 6, [.t 13, .t 71], none⟩])
   (.seq (.reg [⟨(some 72), .mov, [.t 10], none⟩,
     ⟨(some 73), .mov, [.t 11], none⟩,
     ⟨(some 74), .mov, [.t 12], none⟩,
     ⟨(some 75), .mov, [.t 11], none⟩,
     ⟨(some 76), .bin .sub, [.t 74, .t 75], none⟩,
     ⟨(some 77), .build [(.int .i64 0), (.int .i64 0)] [(0, 1), (1, 1)], [.t 73, .t 76], none⟩,
     ⟨(some 78), .iaddrA 3 2, [.t 13, .t 72], none⟩,
     ⟨none, .store 2, [.t 78, .t 77], none⟩])
   (.seq (.reg [⟨(some 79), .load 6 true, [.t 13], none⟩,
     ⟨none, .store 6, [.t 8, .t 79], none⟩])
   (.reg [⟨(some 80), .mov, [.t 9], none⟩,
     ⟨(some 81), .mov, [.t 12], none⟩,
     ⟨(some 82), .mov, [.t 11], none⟩,
     ⟨(some 83), .bin .sub, [.t 81, .t 82], none⟩,
     ⟨(some 84), .bin .mul, [.t 80, .t 83], none⟩,
     ⟨(some 9), .mov, [.t 84], none⟩]))))))
   (.reg [⟨(some 41), .mov, [.t 10], none⟩,
     ⟨(some 42), .bin .add, [.t 41, .c (.int .i64 1)], none⟩,
     ⟨(some 10), .mov, [.t 42], none⟩]))))))
   (.seq (.draw [0, 1, 3, 0, 8, 24, 0, 64, 192, 511, 0, 1024, 3072, 0, 8192, 24576, 0, 65536, 196608, 523264, 0, 0, 3146751, 8388607] [⟨(some 85), .iaddrA 3 2, [.t 8, .c (.int .i64 0)], none⟩,
     ⟨(some 86), .iaddrA 2 1, [.t 85, .c (.int .i64 0)], none⟩,
     ⟨(some 87), .load 1 false, [.t 86], none⟩,
     ⟨(some 88), .iaddrA 3 2, [.t 8, .c (.int .i64 1)], none⟩,
     ⟨(some 89), .iaddrA 2 1, [.t 88, .c (.int .i64 0)], none⟩,
     ⟨(some 90), .load 1 false, [.t 89], none⟩,
     ⟨(some 91), .iaddrA 3 2, [.t 8, .c (.int .i64 2)], none⟩,
     ⟨(some 92), .iaddrA 2 1, [.t 91, .c (.int .i64 0)], none⟩,
     ⟨(some 93), .load 1 false, [.t 92], none⟩,
     ⟨(some 94), .build [(.int .i64 0), (.int .i64 0), (.int .i64 0)] [(0, 1), (1, 1), (2, 1)], [.t 87, .t 90, .t 93], none⟩,
     ⟨(some 95), .iaddrA 3 2, [.t 8, .c (.int .i64 0)], none⟩,
     ⟨(some 96), .iaddrA 2 1, [.t 95, .c (.int .i64 1)], none⟩,
     ⟨(some 97), .load 1 false, [.t 96], none⟩,
     ⟨(some 98), .iaddrA 3 2, [.t 8, .c (.int .i64 1)], none⟩,
     ⟨(some 99), .iaddrA 2 1, [.t 98, .c (.int .i64 1)], none⟩,
     ⟨(some 100), .load 1 false, [.t 99], none⟩,
     ⟨(some 101), .iaddrA 3 2, [.t 8, .c (.int .i64 2)], none⟩,
     ⟨(some 102), .iaddrA 2 1, [.t 101, .c (.int .i64 1)], none⟩,
     ⟨(some 103), .load 1 false, [.t 102], none⟩,
     ⟨(some 104), .build [(.int .i64 0), (.int .i64 0), (.int .i64 0)] [(0, 1), (1, 1), (2, 1)], [.t 97, .t 100, .t 103], none⟩,
     ⟨(some 14), .alloc [(.int .i64 0), (.int .i64 0), (.int .i64 0)], [], none⟩,
     ⟨(some 15), .alloc [(.int .i64 0), (.int .i64 0), (.int .i64 0)], [], none⟩,
     ⟨none, .store 3, [.t 14, .t 94], none⟩,
     ⟨none, .store 3, [.t 15, .t 104], none⟩])
   (.seq (.reg [⟨(some 16), .mov, [.c (.int .i64 0)], none⟩,
     ⟨(some 17), .mov, [.c (.bool false)], none⟩])
   (.seq (.reg [⟨(some 105), .faddr 0, [.t 3], none⟩,
     ⟨(some 106), .load 3 true, [.t 105], none⟩,
     ⟨(some 107), .faddr 3, [.t 3], none⟩,
     ⟨(some 108), .load 3 true, [.t 107], none⟩,
     ⟨(some 109), .call 89, [.t 106, .t 108], none⟩,
     ⟨(some 18), .mov, [.t 109], none⟩])
   (.seq (.seq (.reg [⟨(some 19), .mov, [.c (.int .i64 0)], none⟩])
   (.block 2 (.loop (.seq (.seq (.reg [⟨(some 110), .mov, [.t 19], none⟩,
     ⟨(some 111), .mov, [.t 18], none⟩,
     ⟨(some 112), .len false, [.t 111], none⟩,
     ⟨(some 113), .bin .lss, [.t 110, .t 112], none⟩])
   (.cond (.t 113) .skip (.exit 2)))
   (.seq (.block 3 (.seq (.draw [0, 1, 0, 4, 0, 0, 48, 112, 255, 511] [⟨(some 116), .faddr 0, [.t 2], none⟩,
     ⟨(some 117), .load 3 true, [.t 116], none⟩,
     ⟨(some 118), .faddr 3, [.t 2], none⟩,
     ⟨(some 119), .load 3 true, [.t 118], none⟩,
     ⟨(some 120), .mov, [.t 18], none⟩,
     ⟨(some 121), .mov, [.t 19], none⟩,
     ⟨(some 122), .iaddrS 3, [.t 120, .t 121], none⟩,
     ⟨(some 123), .load 3 true, [.t 122], none⟩,
     ⟨(some 124), .call 105, [.t 117, .t 119, .t 123], none⟩,
     ⟨(some 20), .mov, [.t 124], none⟩])
   (.seq (.reg [⟨(some 125), .mov, [.t 20], none⟩,
     ⟨(some 126), .bin .geq, [.t 125, .c (.int .i64 0)], none⟩])
   (.cond (.t 126) (.seq (.reg [⟨(some 127), .mov, [.t 16], none⟩,
     ⟨(some 128), .bin .add, [.t 127, .c (.int .i64 1)], none⟩,
     ⟨(some 16), .mov, [.t 128], none⟩])
   (.draw [0, 1, 3, 7, 3, 31, 63, 3, 131, 3, 899, 1923, 4095, 8191, 16383] [⟨(some 129), .mov, [.t 17], none⟩,
     ⟨(some 130), .mov, [.t 129], none⟩,
     ⟨(some 131), .faddr 6, [.t 2], (some (130, false))⟩,
     ⟨(some 132), .load 1 false, [.t 131], (some (130, false))⟩,
     ⟨(some 133), .mov, [.t 20], (some (130, false))⟩,
     ⟨(some 134), .iaddrS 1, [.t 132, .t 133], (some (130, false))⟩,
     ⟨(some 135), .load 1 false, [.t 134], (some (130, false))⟩,
     ⟨(some 136), .faddr 6, [.t 3], (some (130, false))⟩,
     ⟨(some 137), .load 1 false, [.t 136], (some (130, false))⟩,
     ⟨(some 138), .mov, [.t 19], (some (130, false))⟩,
     ⟨(some 139), .iaddrS 1, [.t 137, .t 138], (some (130, false))⟩,
     ⟨(some 140), .load 1 false, [.t 139], (some (130, false))⟩,
     ⟨(some 141), .bin .neq, [.t 135, .t 140], (some (130, false))⟩,
     ⟨(some 142), .pick, [.t 130, .c (.bool true), .t 141], none⟩,
     ⟨(some 17), .mov, [.t 142], none⟩])) .skip))))
   (.reg [⟨(some 114), .mov, [.t 19], none⟩,
     ⟨(some 115), .bin .add, [.t 114, .c (.int .i64 1)], none⟩,
     ⟨(some 19), .mov, [.t 115], none⟩]))))))
   (.seq (.seq (.reg [⟨(some 143), .faddr 6, [.t 2], none⟩,
     ⟨(some 144), .load 1 false, [.t 143], none⟩,
     ⟨(some 145), .len false, [.t 144], none⟩,
     ⟨(some 146), .faddr 6, [.t 3], none⟩,
     ⟨(some 147), .load 1 false, [.t 146], none⟩,
     ⟨(some 148), .len false, [.t 147], none⟩,
     ⟨(some 149), .bin .add, [.t 145, .t 148], none⟩,
     ⟨(some 150), .mov, [.t 16], none⟩,
     ⟨(some 151), .bin .sub, [.t 149, .t 150], none⟩,
     ⟨(some 152), .mov, [.t 9], none⟩,
     ⟨(some 153), .bin .neq, [.t 151, .t 152], none⟩])
   (.cond (.t 153) (.seq (.reg [⟨(some 154), .build [(.int .i64 0), (.int .i64 0), (.int .i64 0), (.int .i64 0), (.int .i64 0), (.int .i64 0), .nils] [], [], none⟩,
     ⟨none, .store 7, [.t 4, .t 154], none⟩,
     ⟨(some 5), .mov, [.c (.int .i64 103)], none⟩])
   .ret) .skip))
   (.seq (.seq (.reg [⟨(some 155), .load 3 true, [.t 14], none⟩,
     ⟨(some 156), .load 3 true, [.t 15], none⟩,
     ⟨(some 157), .call 88, [.t 155, .t 156], none⟩,
     ⟨(some 158), .un .not, [.t 157], none⟩])
   (.cond (.t 158) (.seq (.reg [⟨(some 159), .build [(.int .i64 0), (.int .i64 0), (.int .i64 0), (.int .i64 0), (.int .i64 0), (.int .i64 0), .nils] [], [], none⟩,
     ⟨none, .store 7, [.t 4, .t 159], none⟩,
     ⟨(some 5), .mov, [.c (.int .i64 3)], none⟩])
   .ret) .skip))
   (.seq (.seq (.reg [⟨(some 160), .mov, [.t 17], none⟩])
   (.cond (.t 160) (.seq (.reg [⟨(some 161), .build [(.int .i64 0), (.int .i64 0), (.int .i64 0), (.int .i64 0), (.int .i64 0), (.int .i64 0), .nils] [], [], none⟩,
     ⟨none, .store 7, [.t 4, .t 161], none⟩,
     ⟨(some 5), .mov, [.c (.int .i64 104)], none⟩])
   .ret) .skip))
   (.seq (.reg [⟨(some 162), .load 3 true, [.t 14], none⟩,
     ⟨(some 163), .load 3 true, [.t 15], none⟩,
     ⟨(some 164), .build [(.int .i64 0), (.int .i64 0), (.int .i64 0), (.int .i64 0), (.int .i64 0), (.int .i64 0), .nils] [(0, 3), (3, 3)], [.t 162, .t 163], none⟩,
     ⟨(some 21), .alloc [(.int .i64 0), (.int .i64 0), (.int .i64 0), (.int .i64 0), (.int .i64 0), (.int .i64 0), .nils], [], none⟩,
     ⟨none, .store 7, [.t 21, .t 164], none⟩])
   (.seq (.reg [⟨(some 165), .load 3 true, [.t 14], none⟩,
     ⟨(some 166), .load 3 true, [.t 15], none⟩,
     ⟨(some 167), .call 89, [.t 165, .t 166], none⟩,
     ⟨(some 22), .mov, [.t 167], none⟩])
   (.seq (.seq (.reg [⟨(some 23), .mov, [.c (.int .i64 0)], none⟩])
   (.block 4 (.loop (.seq (.seq (.reg [⟨(some 168), .mov, [.t 23], none⟩,
     ⟨(some 169), .mov, [.t 22], none⟩,
     ⟨(some 170), .len false, [.t 169], none⟩,
     ⟨(some 171), .bin .lss, [.t 168, .t 170], none⟩])
   (.cond (.t 171) .skip (.exit 4)))
   (.seq (.block 5 (.seq (.draw [0, 1, 0, 4, 0, 0, 48, 112, 255, 511] [⟨(some 174), .faddr 0, [.t 2], none⟩,
     ⟨(some 175), .load 3 true, [.t 174], none⟩,
     ⟨(some 176), .faddr 3, [.t 2], none⟩,
     ⟨(some 177), .load 3 true, [.t 176], none⟩,
     ⟨(some 178), .mov, [.t 22], none⟩,
     ⟨(some 179), .mov, [.t 23], none⟩,
     ⟨(some 180), .iaddrS 3, [.t 178, .t 179], none⟩,
     ⟨(some 181), .load 3 true, [.t 180], none⟩,
     ⟨(some 182), .call 105, [.t 175, .t 177, .t 181], none⟩,
     ⟨(some 24), .mov, [.t 182], none⟩])
   (.seq (.reg [⟨(some 183), .mov, [.t 24], none⟩,
     ⟨(some 184), .bin .geq, [.t 183, .c (.int .i64 0)], none⟩])
   (.cond (.t 184) (.draw [0, 1, 0, 4, 0, 28, 60, 124, 255, 511, 1023] [⟨(some 185), .faddr 6, [.t 21], none⟩,
     ⟨(some 186), .load 1 false, [.t 185], none⟩,
     ⟨(some 187), .faddr 6, [.t 2], none⟩,
     ⟨(some 188), .load 1 false, [.t 187], none⟩,
     ⟨(some 189), .mov, [.t 24], none⟩,
     ⟨(some 190), .iaddrS 1, [.t 188, .t 189], none⟩,
     ⟨(some 191), .load 1 false, [.t 190], none⟩,
     ⟨(some 192), .mkslice 1 3, [.t 191], none⟩,
     ⟨(some 193), .append 1 8 3, [.t 186, .t 192], none⟩,
     ⟨(some 194), .faddr 6, [.t 21], none⟩,
     ⟨none, .store 1, [.t 194, .t 193], none⟩]) (.seq (.draw [0, 1, 0, 4, 0, 0, 48, 112, 255, 511] [⟨(some 195), .faddr 0, [.t 3], none⟩,
     ⟨(some 196), .load 3 true, [.t 195], none⟩,
     ⟨(some 197), .faddr 3, [.t 3], none⟩,
     ⟨(some 198), .load 3 true, [.t 197], none⟩,
     ⟨(some 199), .mov, [.t 22], none⟩,
     ⟨(some 200), .mov, [.t 23], none⟩,
     ⟨(some 201), .iaddrS 3, [.t 199, .t 200], none⟩,
     ⟨(some 202), .load 3 true, [.t 201], none⟩,
     ⟨(some 203), .call 105, [.t 196, .t 198, .t 202], none⟩,
     ⟨(some 25), .mov, [.t 203], none⟩])
   (.seq (.reg [⟨(some 204), .mov, [.t 25], none⟩,
     ⟨(some 205), .bin .geq, [.t 204, .c (.int .i64 0)], none⟩])
   (.cond (.t 205) (.draw [0, 1, 0, 4, 0, 28, 60, 124, 255, 511, 1023] [⟨(some 206), .faddr 6, [.t 21], none⟩,
     ⟨(some 207), .load 1 false, [.t 206], none⟩,
     ⟨(some 208), .faddr 6, [.t 3], none⟩,
     ⟨(some 209), .load 1 false, [.t 208], none⟩,
     ⟨(some 210), .mov, [.t 25], none⟩,
     ⟨(some 211), .iaddrS 1, [.t 209, .t 210], none⟩,
     ⟨(some 212), .load 1 false, [.t 211], none⟩,
     ⟨(some 213), .mkslice 1 3, [.t 212], none⟩,
     ⟨(some 214), .append 1 8 3, [.t 207, .t 213], none⟩,
     ⟨(some 215), .faddr 6, [.t 21], none⟩,
     ⟨none, .store 1, [.t 215, .t 214], none⟩]) .skip)))))))
   (.reg [⟨(some 172), .mov, [.t 23], none⟩,
     ⟨(some 173), .bin .add, [.t 172, .c (.int .i64 1)], none⟩,
     ⟨(some 23), .mov, [.t 173], none⟩]))))))
   (.seq (.reg [⟨(some 216), .load 7 true, [.t 21], none⟩,
     ⟨none, .store 7, [.t 4, .t 216], none⟩,
     ⟨(some 5), .mov, [.c (.int .i64 0)], none⟩])
   .ret)))))))))))))))))
theorem chk.ref10_Join : chkF Try.prog 43 = some (217, ir.ref10_Join, [.cell 4 55, .tmp 5]) := by kernel_rfl

/-- paravane/volume.Seal -/
abbrev F.volume_Seal : Nat := 58
def ir.volume_Seal : IC :=
 (.seq (.reg [⟨(some 1), .box, [.t 0], none⟩,
     ⟨(some 2), .mov, [.c (.int .i64 0)], none⟩,
     ⟨(some 3), .mov, [.c (.int .i64 0)], none⟩])
   (.seq (.reg [⟨(some 12), .load 7 true, [.t 1], none⟩,
     ⟨(some 13), .call 97, [.t 12], none⟩,
     ⟨(some 11), .mov, [.t 13], none⟩,
     ⟨(some 14), .extract 0, [.t 11], none⟩,
     ⟨(some 15), .extract 1, [.t 11], none⟩,
     ⟨(some 4), .alloc [(.int .i64 0), (.int .i64 0), (.int .i64 0), (.int .i64 0), (.int .i64 0), (.int .i64 0), .nils], [], none⟩,
     ⟨none, .store 7, [.t 4, .t 14], none⟩,
     ⟨(some 5), .mov, [.t 15], none⟩])
   (.seq (.seq (.reg [⟨(some 16), .mov, [.t 5], none⟩,
     ⟨(some 17), .bin .neq, [.t 16, .c (.int .i64 0)], none⟩])
   (.cond (.t 17) (.seq (.reg [⟨(some 18), .mov, [.t 5], none⟩,
     ⟨(some 2), .mov, [.c (.int .i64 0)], none⟩,
     ⟨(some 3), .mov, [.t 18], none⟩])
   .ret) .skip))
   (.seq (.reg [⟨(some 6), .mov, [.c (.int .i64 1)], none⟩])
   (.seq (.seq (.draw [0, 1, 3, 0, 8, 24, 0, 64, 255, 0] [⟨(some 19), .faddr 0, [.t 4], none⟩,
     ⟨(some 20), .faddr 0, [.t 19], none⟩,
     ⟨(some 21), .sla 3 1, [.t 20], none⟩,
     ⟨(some 22), .faddr 0, [.t 4], none⟩,
     ⟨(some 23), .faddr 3, [.t 22], none⟩,
     ⟨(some 24), .sla 3 1, [.t 23], none⟩,
     ⟨(some 25), .faddr 6, [.t 4], none⟩,
     ⟨(some 26), .load 1 false, [.t 25], none⟩,
     ⟨(some 27), .build [.nils, .nils, .nils] [(0, 1), (1, 1), (2, 1)], [.t 21, .t 24, .t 26], none⟩,
     ⟨(some 28), .mov, [.c (.int .i64 0)], none⟩])
   (.block 0 (.loop (.seq (.reg [⟨(some 29), .bin .lss, [.t 28, .c (.int .i64 3)], none⟩])
   (.seq (.cond (.t 29) .skip (.exit 0))
   (.seq (.block 1 (.seq (.reg [⟨(some 30), .idxA 3 1 false, [.t 27, .t 28], none⟩,
     ⟨(some 8), .mov, [.t 30], none⟩])
   (.seq (.reg [⟨(some 31), .mov, [.t 8], none⟩,
     ⟨(some 32), .len false, [.t 31], none⟩,
     ⟨(some 33), .mov, [.c (.int .i64 0)], none⟩])
   (.block 2 (.loop (.seq (.reg [⟨(some 34), .bin .lss, [.t 33, .t 32], none⟩])
   (.seq (.cond (.t 34) .skip (.exit 2))
   (.seq (.block 3 (.seq (.reg [⟨(some 35), .iaddrS 1, [.t 31, .t 33], none⟩,
     ⟨(some 36), .load 1 false, [.t 35], none⟩,
     ⟨(some 10), .mov, [.t 36], none⟩])
   (.reg [⟨(some 37), .mov, [.t 6], none⟩,
     ⟨(some 38), .bin .mul, [.t 37, .c (.int .i64 48271)], none⟩,
     ⟨(some 39), .mov, [.t 10], none⟩,
     ⟨(some 40), .bin .add, [.t 38, .t 39], none⟩,
     ⟨(some 41), .bin .add, [.t 40, .c (.int .i64 2199023255552)], none⟩,
     ⟨(some 42), .bin .rem, [.t 41, .c (.int .i64 2147483647)], none⟩,
     ⟨(some 6), .mov, [.t 42], none⟩])))
   (.reg [⟨(some 43), .bin .add, [.t 33, .c (.int .i64 1)], none⟩,
     ⟨(some 33), .mov, [.t 43], none⟩])))))))))
   (.reg [⟨(some 44), .bin .add, [.t 28, .c (.int .i64 1)], none⟩,
     ⟨(some 28), .mov, [.t 44], none⟩])))))))
   (.seq (.reg [⟨(some 45), .mov, [.t 6], none⟩,
     ⟨(some 2), .mov, [.t 45], none⟩,
     ⟨(some 3), .mov, [.c (.int .i64 0)], none⟩])
   .ret))))))
theorem chk.volume_Seal : chkF Try.prog 58 = some (46, ir.volume_Seal, [.tmp 2, .tmp 3]) := by kernel_rfl

/-- paravane/volume.Cut -/
abbrev F.volume_Cut : Nat := 59
def ir.volume_Cut : IC :=
 (.seq (.reg [⟨(some 3), .box, [.t 0], none⟩,
     ⟨(some 4), .box, [.t 1], none⟩,
     ⟨(some 5), .box, [.t 2], none⟩,
     ⟨(some 6), .alloc [(.int .i64 0), (.int .i64 0), (.int .i64 0), (.int .i64 0), (.int .i64 0), (.int .i64 0), .nils], [], none⟩,
     ⟨(some 7), .mov, [.c (.int .i64 0)], none⟩])
   (.seq (.reg [⟨(some 14), .load 7 true, [.t 3], none⟩,
     ⟨(some 15), .call 97, [.t 14], none⟩,
     ⟨(some 13), .mov, [.t 15], none⟩,
     ⟨(some 16), .extract 0, [.t 13], none⟩,
     ⟨(some 17), .extract 1, [.t 13], none⟩,
     ⟨(some 8), .alloc [(.int .i64 0), (.int .i64 0), (.int .i64 0), (.int .i64 0), (.int .i64 0), (.int .i64 0), .nils], [], none⟩,
     ⟨none, .store 7, [.t 8, .t 16], none⟩,
     ⟨(some 9), .mov, [.t 17], none⟩])
   (.seq (.seq (.reg [⟨(some 18), .mov, [.t 9], none⟩,
     ⟨(some 19), .bin .neq, [.t 18, .c (.int .i64 0)], none⟩])
   (.cond (.t 19) (.seq (.reg [⟨(some 20), .build [(.int .i64 0), (.int .i64 0), (.int .i64 0), (.int .i64 0), (.int .i64 0), (.int .i64 0), .nils] [], [], none⟩,
     ⟨(some 21), .mov, [.t 9], none⟩,
     ⟨none, .store 7, [.t 6, .t 20], none⟩,
     ⟨(some 7), .mov, [.t 21], none⟩])
   .ret) .skip))
   (.seq (.reg [⟨(some 22), .load 3 true, [.t 4], none⟩,
     ⟨(some 23), .load 3 true, [.t 5], none⟩,
     ⟨(some 24), .build [(.int .i64 0), (.int .i64 0), (.int .i64 0), (.int .i64 0), (.int .i64 0), (.int .i64 0)] [(0, 3), (3, 3)], [.t 22, .t 23], none⟩,
     ⟨(some 10), .alloc [(.int .i64 0), (.int .i64 0), (.int .i64 0), (.int .i64 0), (.int .i64 0), (.int .i64 0)], [], none⟩,
     ⟨none, .store 6, [.t 10, .t 24], none⟩])
   (.seq (.seq (.draw [0, 1, 3, 7, 15, 31, 15, 79, 255, 511, 1023, 2047, 4095, 8191, 4095, 20479, 65535, 131071, 262143] [⟨(some 25), .load 6 true, [.t 10], none⟩,
     ⟨(some 26), .call 114, [.t 25], none⟩,
     ⟨(some 27), .un .not, [.t 26], none⟩,
     ⟨(some 28), .mov, [.t 27], none⟩,
     ⟨(some 29), .faddr 0, [.t 8], (some (28, false))⟩,
     ⟨(some 30), .load 6 true, [.t 29], (some (28, false))⟩,
     ⟨(some 31), .faddr 0, [.t 10], (some (28, false))⟩,
     ⟨(some 32), .load 3 true, [.t 31], (some (28, false))⟩,
     ⟨(some 33), .call 103, [.t 30, .t 32], (some (28, false))⟩,
     ⟨(some 34), .un .not, [.t 33], (some (28, false))⟩,
     ⟨(some 35), .pick, [.t 28, .c (.bool true), .t 34], none⟩,
     ⟨(some 36), .mov, [.t 35], none⟩,
     ⟨(some 37), .faddr 0, [.t 8], (some (36, false))⟩,
     ⟨(some 38), .load 6 true, [.t 37], (some (36, false))⟩,
     ⟨(some 39), .load 6 true, [.t 10], (some (36, false))⟩,
     ⟨(some 40), .call 115, [.t 39], (some (36, false))⟩,
     ⟨(some 41), .call 103, [.t 38, .t 40], (some (36, false))⟩,
     ⟨(some 42), .un .not, [.t 41], (some (36, false))⟩,
     ⟨(some 43), .pick, [.t 36, .c (.bool true), .t 42], none⟩])
   (.cond (.t 43) (.seq (.reg [⟨(some 44), .build [(.int .i64 0), (.int .i64 0), (.int .i64 0), (.int .i64 0), (.int .i64 0), (.int .i64 0), .nils] [], [], none⟩,
     ⟨none, .store 7, [.t 6, .t 44], none⟩,
     ⟨(some 7), .mov, [.c (.int .i64 102)], none⟩])
   .ret) .skip))
   (.seq (.reg [⟨(some 45), .load 3 true, [.t 4], none⟩,
     ⟨(some 46), .load 3 true, [.t 5], none⟩,
     ⟨(some 47), .build [(.int .i64 0), (.int .i64 0), (.int .i64 0), (.int .i64 0), (.int .i64 0), (.int .i64 0), .nils] [(0, 3), (3, 3)], [.t 45, .t 46], none⟩,
     ⟨(some 11), .alloc [(.int .i64 0), (.int .i64 0), (.int .i64 0), (.int .i64 0), (.int .i64 0), (.int .i64 0), .nils], [], none⟩,
     ⟨none, .store 7, [.t 11, .t 47], none⟩])
   (.seq (.seq (.reg [⟨(some 48), .load 6 true, [.t 10], none⟩,
     ⟨(some 49), .call 102, [.t 48], none⟩])
   (.block 0 (.range (.t 49) [50] (.reg [⟨(some 12), .alloc [(.int .i64 0), (.int .i64 0), (.int .i64 0)], [], none⟩,
     ⟨none, .store 3, [.t 12, .t 50], none⟩]) (.block 1 (.draw [0, 1, 0, 4, 0, 16, 0, 112, 252, 508, 1020, 2047, 4095, 8191] [⟨(some 51), .faddr 6, [.t 11], none⟩,
     ⟨(some 52), .load 1 false, [.t 51], none⟩,
     ⟨(some 53), .faddr 6, [.t 8], none⟩,
     ⟨(some 54), .load 1 false, [.t 53], none⟩,
     ⟨(some 55), .faddr 0, [.t 8], none⟩,
     ⟨(some 56), .load 6 true, [.t 55], none⟩,
     ⟨(some 57), .load 3 true, [.t 12], none⟩,
     ⟨(some 58), .call 104, [.t 56, .t 57], none⟩,
     ⟨(some 59), .iaddrS 1, [.t 54, .t 58], none⟩,
     ⟨(some 60), .load 1 false, [.t 59], none⟩,
     ⟨(some 61), .mkslice 1 3, [.t 60], none⟩,
     ⟨(some 62), .append 1 8 3, [.t 52, .t 61], none⟩,
     ⟨(some 63), .faddr 6, [.t 11], none⟩,
     ⟨none, .store 1, [.t 63, .t 62], none⟩])))))
   (.seq (.reg [⟨(some 64), .load 7 true, [.t 11], none⟩,
     ⟨none, .store 7, [.t 6, .t 64], none⟩,
     ⟨(some 7), .mov, [.c (.int .i64 0)], none⟩])
   .ret))))))))
theorem chk.volume_Cut : chkF Try.prog 59 = some (65, ir.volume_Cut, [.cell 6 55, .tmp 7]) := by kernel_rfl

/-- paravane/volume.CheckVolume -/
abbrev F.volume_CheckVolume : Nat := 65
def ir.volume_CheckVolume : IC :=
 (.seq (.reg [⟨(some 1), .box, [.t 0], none⟩,
     ⟨(some 2), .mov, [.c (.int .i64 0)], none⟩])
   (.seq (.reg [⟨(some 6), .load 7 true, [.t 1], none⟩,
     ⟨(some 7), .call 97, [.t 6], none⟩,
     ⟨(some 5), .mov, [.t 7], none⟩,
     ⟨(some 8), .extract 0, [.t 5], none⟩,
     ⟨(some 9), .extract 1, [.t 5], none⟩,
     ⟨(some 3), .alloc [(.int .i64 0), (.int .i64 0), (.int .i64 0), (.int .i64 0), (.int .i64 0), (.int .i64 0), .nils], [], none⟩,
     ⟨none, .store 7, [.t 3, .t 8], none⟩,
     ⟨(some 4), .mov, [.t 9], none⟩])
   (.seq (.reg [⟨(some 10), .mov, [.t 4], none⟩,
     ⟨(some 2), .mov, [.t 10], none⟩])
   .ret)))
theorem chk.volume_CheckVolume : chkF Try.prog 65 = some (11, ir.volume_CheckVolume, [.tmp 2]) := by kernel_rfl

/-- paravane/paravaneref10.CheckVolume -/
abbrev F.ref10_CheckVolume : Nat := 68
def ir.ref10_CheckVolume : IC :=
 (.seq (.reg [⟨(some 1), .box, [.t 0], none⟩,
     ⟨(some 2), .mov, [.c (.int .i64 0)], none⟩])
   (.seq (.seq (.reg [⟨(some 4), .faddr 0, [.t 1], none⟩,
     ⟨(some 5), .load 3 true, [.t 4], none⟩,
     ⟨(some 6), .faddr 3, [.t 1], none⟩,
     ⟨(some 7), .load 3 true, [.t 6], none⟩,
     ⟨(some 8), .call 88, [.t 5, .t 7], none⟩,
     ⟨(some 9), .un .not, [.t 8], none⟩,
     ⟨(some 10), .mov, [.t 9], none⟩,
     ⟨(some 11), .faddr 6, [.t 1], (some (10, false))⟩,
     ⟨(some 12), .load 1 false, [.t 11], (some (10, false))⟩,
     ⟨(some 13), .len false, [.t 12], (some (10, false))⟩,
     ⟨(some 14), .faddr 3, [.t 1], (some (10, false))⟩,
     ⟨(some 15), .iaddrA 3 1, [.t 14, .c (.int .i64 0)], (some (10, false))⟩,
     ⟨(some 16), .load 1 false, [.t 15], (some (10, false))⟩,
     ⟨(some 17), .faddr 3, [.t 1], (some (10, false))⟩,
     ⟨(some 18), .iaddrA 3 1, [.t 17, .c (.int .i64 1)], (some (10, false))⟩,
     ⟨(some 19), .load 1 false, [.t 18], (some (10, false))⟩,
     ⟨(some 20), .bin .mul, [.t 16, .t 19], (some (10, false))⟩,
     ⟨(some 21), .faddr 3, [.t 1], (some (10, false))⟩,
     ⟨(some 22), .iaddrA 3 1, [.t 21, .c (.int .i64 2)], (some (10, false))⟩,
     ⟨(some 23), .load 1 false, [.t 22], (some (10, false))⟩,
     ⟨(some 24), .bin .mul, [.t 20, .t 23], (some (10, false))⟩,
     ⟨(some 25), .bin .neq, [.t 13, .t 24], (some (10, false))⟩,
     ⟨(some 26), .pick, [.t 10, .c (.bool true), .t 25], none⟩])
   (.cond (.t 26) (.seq (.reg [⟨(some 2), .mov, [.c (.int .i64 101)], none⟩])
   .ret) .skip))
   (.seq (.seq (.reg [⟨(some 3), .mov, [.c (.int .i64 0)], none⟩])
   (.block 0 (.loop (.seq (.seq (.reg [⟨(some 27), .mov, [.t 3], none⟩,
     ⟨(some 28), .faddr 6, [.t 1], none⟩,
     ⟨(some 29), .load 1 false, [.t 28], none⟩,
     ⟨(some 30), .len false, [.t 29], none⟩,
     ⟨(some 31), .bin .lss, [.t 27, .t 30], none⟩])
   (.cond (.t 31) .skip (.exit 0)))
   (.seq (.block 1 (.seq (.reg [⟨(some 34), .faddr 6, [.t 1], none⟩,
     ⟨(some 35), .load 1 false, [.t 34], none⟩,
     ⟨(some 36), .mov, [.t 3], none⟩,
     ⟨(some 37), .iaddrS 1, [.t 35, .t 36], none⟩,
     ⟨(some 38), .load 1 false, [.t 37], none⟩,
     ⟨(some 39), .call 51, [.t 38, .c (.int .i64 (-1099511627776)), .c (.int .i64 1099511627776)], none⟩,
     ⟨(some 40), .un .not, [.t 39], none⟩])
   (.cond (.t 40) (.seq (.reg [⟨(some 2), .mov, [.c (.int .i64 101)], none⟩])
   .ret) .skip)))
   (.reg [⟨(some 32), .mov, [.t 3], none⟩,
     ⟨(some 33), .bin .add, [.t 32, .c (.int .i64 1)], none⟩,
     ⟨(some 3), .mov, [.t 33], none⟩]))))))
   (.seq (.reg [⟨(some 2), .mov, [.c (.int .i64 0)], none⟩])
   .ret))))
theorem chk.ref10_CheckVolume : chkF Try.prog 68 = some (41, ir.ref10_CheckVolume, [.tmp 2]) := by kernel_rfl

/-- paravane/paravaneref10.Cut -/
abbrev F.ref10_Cut : Nat := 69
def ir.ref10_Cut : IC :=
 (.seq (.reg [⟨(some 3), .box, [.t 0], none⟩,
     ⟨(some 4), .box, [.t 1], none⟩,
     ⟨(some 5), .box, [.t 2], none⟩,
     ⟨(some 6), .alloc [(.int .i64 0), (.int .i64 0), (.int .i64 0), (.int .i64 0), (.int .i64 0), (.int .i64 0), .nils], [], none⟩,
     ⟨(some 7), .mov, [.c (.int .i64 0)], none⟩])
   (.seq (.seq (.reg [⟨(some 13), .load 7 true, [.t 3], none⟩,
     ⟨(some 14), .call 68, [.t 13], none⟩,
     ⟨(some 8), .mov, [.t 14], none⟩])
   (.seq (.reg [⟨(some 15), .mov, [.t 8], none⟩,
     ⟨(some 16), .bin .neq, [.t 15, .c (.int .i64 0)], none⟩])
   (.cond (.t 16) (.seq (.reg [⟨(some 17), .build [(.int .i64 0), (.int .i64 0), (.int .i64 0), (.int .i64 0), (.int .i64 0), (.int .i64 0), .nils] [], [], none⟩,
     ⟨(some 18), .mov, [.t 8], none⟩,
     ⟨none, .store 7, [.t 6, .t 17], none⟩,
     ⟨(some 7), .mov, [.t 18], none⟩])
   .ret) .skip)))
   (.seq (.seq (.reg [⟨(some 19), .load 3 true, [.t 4], none⟩,
     ⟨(some 20), .load 3 true, [.t 5], none⟩,
     ⟨(some 21), .call 88, [.t 19, .t 20], none⟩,
     ⟨(some 22), .un .not, [.t 21], none⟩])
   (.cond (.t 22) (.seq (.reg [⟨(some 23), .build [(.int .i64 0), (.int .i64 0), (.int .i64 0), (.int .i64 0), (.int .i64 0), (.int .i64 0), .nils] [], [], none⟩,
     ⟨none, .store 7, [.t 6, .t 23], none⟩,
     ⟨(some 7), .mov, [.c (.int .i64 102)], none⟩])
   .ret) .skip))
   (.seq (.reg [⟨(some 24), .load 3 true, [.t 4], none⟩,
     ⟨(some 25), .load 3 true, [.t 5], none⟩,
     ⟨(some 26), .build [(.int .i64 0), (.int .i64 0), (.int .i64 0), (.int .i64 0), (.int .i64 0), (.int .i64 0), .nils] [(0, 3), (3, 3)], [.t 24, .t 25], none⟩,
     ⟨(some 9), .alloc [(.int .i64 0), (.int .i64 0), (.int .i64 0), (.int .i64 0), (.int .i64 0), (.int .i64 0), .nils], [], none⟩,
     ⟨none, .store 7, [.t 9, .t 26], none⟩])
   (.seq (.reg [⟨(some 27), .load 3 true, [.t 4], none⟩,
     ⟨(some 28), .load 3 true, [.t 5], none⟩,
     ⟨(some 29), .call 89, [.t 27, .t 28], none⟩,
     ⟨(some 10), .mov, [.t 29], none⟩])
   (.seq (.seq (.reg [⟨(some 11), .mov, [.c (.int .i64 0)], none⟩])
   (.block 0 (.loop (.seq (.seq (.reg [⟨(some 30), .mov, [.t 11], none⟩,
     ⟨(some 31), .mov, [.t 10], none⟩,
     ⟨(some 32), .len false, [.t 31], none⟩,
     ⟨(some 33), .bin .lss, [.t 30, .t 32], none⟩])
   (.cond (.t 33) .skip (.exit 0)))
   (.seq (.block 1 (.seq (.draw [0, 1, 0, 4, 0, 0, 48, 112, 255, 511] [⟨(some 36), .faddr 0, [.t 3], none⟩,
     ⟨(some 37), .load 3 true, [.t 36], none⟩,
     ⟨(some 38), .faddr 3, [.t 3], none⟩,
     ⟨(some 39), .load 3 true, [.t 38], none⟩,
     ⟨(some 40), .mov, [.t 10], none⟩,
     ⟨(some 41), .mov, [.t 11], none⟩,
     ⟨(some 42), .iaddrS 3, [.t 40, .t 41], none⟩,
     ⟨(some 43), .load 3 true, [.t 42], none⟩,
     ⟨(some 44), .call 105, [.t 37, .t 39, .t 43], none⟩,
     ⟨(some 12), .mov, [.t 44], none⟩])
   (.seq (.seq (.reg [⟨(some 45), .mov, [.t 12], none⟩,
     ⟨(some 46), .bin .lss, [.t 45, .c (.int .i64 0)], none⟩])
   (.cond (.t 46) (.seq (.reg [⟨(some 47), .build [(.int .i64 0), (.int .i64 0), (.int .i64 0), (.int .i64 0), (.int .i64 0), (.int .i64 0), .nils] [], [], none⟩,
     ⟨none, .store 7, [.t 6, .t 47], none⟩,
     ⟨(some 7), .mov, [.c (.int .i64 102)], none⟩])
   .ret) .skip))
   (.draw [0, 1, 0, 4, 0, 28, 60, 124, 255, 511, 1023] [⟨(some 48), .faddr 6, [.t 9], none⟩,
     ⟨(some 49), .load 1 false, [.t 48], none⟩,
     ⟨(some 50), .faddr 6, [.t 3], none⟩,
     ⟨(some 51), .load 1 false, [.t 50], none⟩,
     ⟨(some 52), .mov, [.t 12], none⟩,
     ⟨(some 53), .iaddrS 1, [.t 51, .t 52], none⟩,
     ⟨(some 54), .load 1 false, [.t 53], none⟩,
     ⟨(some 55), .mkslice 1 3, [.t 54], none⟩,
     ⟨(some 56), .append 1 8 3, [.t 49, .t 55], none⟩,
     ⟨(some 57), .faddr 6, [.t 9], none⟩,
     ⟨none, .store 1, [.t 57, .t 56], none⟩]))))
   (.reg [⟨(some 34), .mov, [.t 11], none⟩,
     ⟨(some 35), .bin .add, [.t 34, .c (.int .i64 1)], none⟩,
     ⟨(some 11), .mov, [.t 35], none⟩]))))))
   (.seq (.reg [⟨(some 58), .load 7 true, [.t 9], none⟩,
     ⟨none, .store 7, [.t 6, .t 58], none⟩,
     ⟨(some 7), .mov, [.c (.int .i64 0)], none⟩])
   .ret)))))))
theorem chk.ref10_Cut : chkF Try.prog 69 = some (59, ir.ref10_Cut, [.cell 6 55, .tmp 7]) := by kernel_rfl

/-- paravane/paravaneref10.Seal -/
abbrev F.ref10_Seal : Nat := 70
def ir.ref10_Seal : IC :=
 (.seq (.reg [⟨(some 1), .box, [.t 0], none⟩,
     ⟨(some 2), .mov, [.c (.int .i64 0)], none⟩,
     ⟨(some 3), .mov, [.c (.int .i64 0)], none⟩])
   (.seq (.seq (.reg [⟨(some 10), .load 7 true, [.t 1], none⟩,
     ⟨(some 11), .call 68, [.t 10], none⟩,
     ⟨(some 4), .mov, [.t 11], none⟩])
   (.seq (.reg [⟨(some 12), .mov, [.t 4], none⟩,
     ⟨(some 13), .bin .neq, [.t 12, .c (.int .i64 0)], none⟩])
   (.cond (.t 13) (.seq (.reg [⟨(some 14), .mov, [.t 4], none⟩,
     ⟨(some 2), .mov, [.c (.int .i64 0)], none⟩,
     ⟨(some 3), .mov, [.t 14], none⟩])
   .ret) .skip)))
   (.seq (.reg [⟨(some 5), .mov, [.c .nils], none⟩])
   (.seq (.seq (.reg [⟨(some 6), .mov, [.c (.int .i64 0)], none⟩])
   (.block 0 (.loop (.seq (.seq (.reg [⟨(some 15), .mov, [.t 6], none⟩,
     ⟨(some 16), .bin .lss, [.t 15, .c (.int .i64 3)], none⟩])
   (.cond (.t 16) .skip (.exit 0)))
   (.seq (.block 1 (.reg [⟨(some 19), .mov, [.t 5], none⟩,
     ⟨(some 20), .mov, [.t 6], none⟩,
     ⟨(some 21), .faddr 0, [.t 1], none⟩,
     ⟨(some 22), .iaddrA 3 1, [.t 21, .t 20], none⟩,
     ⟨(some 23), .load 1 false, [.t 22], none⟩,
     ⟨(some 24), .mkslice 1 3, [.t 23], none⟩,
     ⟨(some 25), .append 1 8 3, [.t 19, .t 24], none⟩,
     ⟨(some 5), .mov, [.t 25], none⟩]))
   (.reg [⟨(some 17), .mov, [.t 6], none⟩,
     ⟨(some 18), .bin .add, [.t 17, .c (.int .i64 1)], none⟩,
     ⟨(some 6), .mov, [.t 18], none⟩]))))))
   (.seq (.seq (.reg [⟨(some 7), .mov, [.c (.int .i64 0)], none⟩])
   (.block 2 (.loop (.seq (.seq (.reg [⟨(some 26), .mov, [.t 7], none⟩,
     ⟨(some 27), .bin .lss, [.t 26, .c (.int .i64 3)], none⟩])
   (.cond (.t 27) .skip (.exit 2)))
   (.seq (.block 3 (.reg [⟨(some 30), .mov, [.t 5], none⟩,
     ⟨(some 31), .mov, [.t 7], none⟩,
     ⟨(some 32), .faddr 3, [.t 1], none⟩,
     ⟨(some 33), .iaddrA 3 1, [.t 32, .t 31], none⟩,
     ⟨(some 34), .load 1 false, [.t 33], none⟩,
     ⟨(some 35), .mkslice 1 3, [.t 34], none⟩,
     ⟨(some 36), .append 1 8 3, [.t 30, .t 35], none⟩,
     ⟨(some 5), .mov, [.t 36], none⟩]))
   (.reg [⟨(some 28), .mov, [.t 7], none⟩,
     ⟨(some 29), .bin .add, [.t 28, .c (.int .i64 1)], none⟩,
     ⟨(some 7), .mov, [.t 29], none⟩]))))))
   (.seq (.reg [⟨(some 37), .mov, [.t 5], none⟩,
     ⟨(some 38), .faddr 6, [.t 1], none⟩,
     ⟨(some 39), .load 1 false, [.t 38], none⟩,
     ⟨(some 40), .append 1 8 3, [.t 37, .t 39], none⟩,
     ⟨(some 5), .mov, [.t 40], none⟩])
   (.seq (.reg [⟨(some 8), .mov, [.c (.int .i64 1)], none⟩])
   (.seq (.seq (.reg [⟨(some 9), .mov, [.c (.int .i64 0)], none⟩])
   (.block 4 (.loop (.seq (.seq (.reg [⟨(some 41), .mov, [.t 9], none⟩,
     ⟨(some 42), .mov, [.t 5], none⟩,
     ⟨(some 43), .len false, [.t 42], none⟩,
     ⟨(some 44), .bin .lss, [.t 41, .t 43], none⟩])
   (.cond (.t 44) .skip (.exit 4)))
   (.seq (.block 5 (.reg [⟨(some 47), .mov, [.t 8], none⟩,
     ⟨(some 48), .bin .mul, [.t 47, .c (.int .i64 48271)], none⟩,
     ⟨(some 49), .mov, [.t 5], none⟩,
     ⟨(some 50), .mov, [.t 9], none⟩,
     ⟨(some 51), .iaddrS 1, [.t 49, .t 50], none⟩,
     ⟨(some 52), .load 1 false, [.t 51], none⟩,
     ⟨(some 53), .bin .add, [.t 48, .t 52], none⟩,
     ⟨(some 54), .bin .add, [.t 53, .c (.int .i64 2199023255552)], none⟩,
     ⟨(some 55), .bin .rem, [.t 54, .c (.int .i64 2147483647)], none⟩,
     ⟨(some 8), .mov, [.t 55], none⟩]))
   (.reg [⟨(some 45), .mov, [.t 9], none⟩,
     ⟨(some 46), .bin .add, [.t 45, .c (.int .i64 1)], none⟩,
     ⟨(some 9), .mov, [.t 46], none⟩]))))))
   (.seq (.reg [⟨(some 56), .mov, [.t 8], none⟩,
     ⟨(some 2), .mov, [.t 56], none⟩,
     ⟨(some 3), .mov, [.c (.int .i64 0)], none⟩])
   .ret)))))))))
theorem chk.ref10_Seal : chkF Try.prog 70 = some (57, ir.ref10_Seal, [.tmp 2, .tmp 3]) := by kernel_rfl

/-- paravane/paravaneref10.index -/
abbrev F.ref10_index : Nat := 105
def ir.ref10_index : IC :=
 (.seq (.reg [⟨(some 3), .box, [.t 0], none⟩,
     ⟨(some 4), .box, [.t 1], none⟩,
     ⟨(some 5), .box, [.t 2], none⟩,
     ⟨(some 6), .mov, [.c (.int .i64 0)], none⟩])
   (.seq (.reg [⟨(some 7), .mov, [.c (.int .i64 0)], none⟩])
   (.seq (.seq (.reg [⟨(some 8), .mov, [.c (.int .i64 0)], none⟩])
   (.block 0 (.loop (.seq (.seq (.reg [⟨(some 9), .mov, [.t 8], none⟩,
     ⟨(some 10), .bin .lss, [.t 9, .c (.int .i64 3)], none⟩])
   (.cond (.t 10) .skip (.exit 0)))
   (.seq (.block 1 (.seq (.seq (.draw [0, 1, 3, 0, 8, 24, 63, 0, 128, 384, 896, 2047, 4095] [⟨(some 13), .mov, [.t 8], none⟩,
     ⟨(some 14), .iaddrA 3 1, [.t 5, .t 13], none⟩,
     ⟨(some 15), .load 1 false, [.t 14], none⟩,
     ⟨(some 16), .mov, [.t 8], none⟩,
     ⟨(some 17), .iaddrA 3 1, [.t 3, .t 16], none⟩,
     ⟨(some 18), .load 1 false, [.t 17], none⟩,
     ⟨(some 19), .bin .sub, [.t 15, .t 18], none⟩,
     ⟨(some 20), .mov, [.t 8], none⟩,
     ⟨(some 21), .iaddrA 3 1, [.t 4, .t 20], none⟩,
     ⟨(some 22), .load 1 false, [.t 21], none⟩,
     ⟨(some 23), .bin .sub, [.t 22, .c (.int .i64 1)], none⟩,
     ⟨(some 24), .call 51, [.t 19, .c (.int .i64 0), .t 23], none⟩,
     ⟨(some 25), .un .not, [.t 24], none⟩])
   (.cond (.t 25) (.seq (.reg [⟨(some 6), .mov, [.c (.int .i64 (-1))], none⟩])
   .ret) .skip))
   (.draw [0, 1, 3, 0, 15, 0, 32, 96, 255, 0, 512, 1536, 4095, 8191] [⟨(some 26), .mov, [.t 8], none⟩,
     ⟨(some 27), .iaddrA 3 1, [.t 4, .t 26], none⟩,
     ⟨(some 28), .load 1 false, [.t 27], none⟩,
     ⟨(some 29), .mov, [.t 7], none⟩,
     ⟨(some 30), .bin .mul, [.t 28, .t 29], none⟩,
     ⟨(some 31), .mov, [.t 8], none⟩,
     ⟨(some 32), .iaddrA 3 1, [.t 5, .t 31], none⟩,
     ⟨(some 33), .load 1 false, [.t 32], none⟩,
     ⟨(some 34), .bin .add, [.t 30, .t 33], none⟩,
     ⟨(some 35), .mov, [.t 8], none⟩,
     ⟨(some 36), .iaddrA 3 1, [.t 3, .t 35], none⟩,
     ⟨(some 37), .load 1 false, [.t 36], none⟩,
     ⟨(some 38), .bin .sub, [.t 34, .t 37], none⟩,
     ⟨(some 7), .mov, [.t 38], none⟩])))
   (.reg [⟨(some 11), .mov, [.t 8], none⟩,
     ⟨(some 12), .bin .add, [.t 11, .c (.int .i64 1)], none⟩,
     ⟨(some 8), .mov, [.t 12], none⟩]))))))
   (.seq (.reg [⟨(some 39), .mov, [.t 7], none⟩,
     ⟨(some 6), .mov, [.t 39], none⟩])
   .ret))))
theorem chk.ref10_index : chkF Try.prog 105 = some (40, ir.ref10_index, [.tmp 6]) := by kernel_rfl

end Go.Proofs.Ytkifejklnpddbaa

/-! Plain facts: the places of a box by their indices; joins both ways; parts of a volume. -/
set_option linter.unusedVariables false
set_option linter.unusedSimpArgs false
set_option maxRecDepth 20000
namespace Go.Proofs.Ytkifejklnpddbaa
open Go.Am

theorem btw_iff (n lo hi : Int) : btw n lo hi = true ↔ lo ≤ n ∧ n ≤ hi := by
  simp only [btw, Bool.and_eq_true, decide_eq_true_eq, ge_iff_le]

def cidx (b : Bx) (p : Int × Int × Int) : Int := idxOf b p.1 p.2.1 p.2.2
def natI (k : Nat) : Int := (k : Int)

theorem idx_at (b : Bx) (x y z B C : Nat) (hB : b.b = (B : Int)) (hC : b.c = (C : Int)) : idxOf b (b.x + (x : Int)) (b.y + (y : Int)) (b.z + (z : Int)) = (((x * B + y) * C + z : Nat) : Int) := by
  unfold idxOf
  rw [hB, hC, show b.x + (x : Int) - b.x = (x : Int) by omega, show (x : Int) * (B : Int) + (b.y + (y : Int)) - b.y = (x : Int) * (B : Int) + (y : Int) by omega]
  push_cast
  omega

theorem zs_idx (b : Bx) (x y B C : Nat) (hB : b.b = (B : Int)) (hC : b.c = (C : Int)) : ∀ n, (zsC b x y n).map (cidx b) = (List.range' ((x * B + y) * C) n).map natI
  | 0 => by simp [zsC]
  | n + 1 => by
    rw [zsC_succ, List.range'_1_concat, List.map_append, List.map_append, zs_idx b x y B C hB hC n]
    congr 1
    simp only [List.map_cons, List.map_nil, cidx, idx_at b x y n B C hB hC, natI]

theorem ys_idx (b : Bx) (x B C : Nat) (hB : b.b = (B : Int)) (hC : b.c = (C : Int)) : ∀ n, (ysC b x n).map (cidx b) = (List.range' (x * B * C) (n * C)).map natI
  | 0 => by simp [ysC]
  | n + 1 => by
    have e0 : b.c.toNat = C := by omega
    have e : List.range' (x * B * C) ((n + 1) * C) = List.range' (x * B * C) (n * C) ++ List.range' ((x * B + n) * C) C := by
      rw [show (x * B + n) * C = x * B * C + n * C by rw [Nat.add_mul], List.range'_append_1, Nat.succ_mul]
    rw [ysC_succ, List.map_append, ys_idx b x B C hB hC n, e0, zs_idx b x n B C hB hC, e, List.map_append]

theorem xs_idx (b : Bx) (B C : Nat) (hB : b.b = (B : Int)) (hC : b.c = (C : Int)) : ∀ n, (xsC b n).map (cidx b) = (List.range' 0 (n * (B * C))).map natI
  | 0 => by simp [xsC]
  | n + 1 => by
    have e0 : b.b.toNat = B := by omega
    have e : List.range' 0 ((n + 1) * (B * C)) = List.range' 0 (n * (B * C)) ++ List.range' (n * B * C) (B * C) := by
      rw [show n * B * C = 0 + n * (B * C) by rw [Nat.zero_add, Nat.mul_assoc], List.range'_append_1, Nat.succ_mul]
    rw [xsC_succ, List.map_append, xs_idx b B C hB hC n, e0, ys_idx b n B C hB hC, e, List.map_append]

theorem cells_idx (b : Bx) (h : 0 ≤ b.b ∧ 0 ≤ b.c) : (boxCells b).map (cidx b) = (List.range (boxCells b).length).map natI := by
  have e := xs_idx b b.b.toNat b.c.toNat (Int.toNat_of_nonneg h.1).symm (Int.toNat_of_nonneg h.2).symm b.a.toNat
  have hl : (boxCells b).length = b.a.toNat * (b.b.toNat * b.c.toNat) := xsC_len b _
  rw [hl, List.range_eq_range']
  exact e

theorem cell_idx {b : Bx} (h : 0 ≤ b.b ∧ 0 ≤ b.c) {i : Nat} (hi : i < (boxCells b).length) : cidx b (boxCells b)[i] = (i : Int) := by
  have e := congrArg (fun l => l[i]?) (cells_idx b h)
  simp only [List.getElem?_map, List.getElem?_eq_getElem hi, Option.map_some] at e
  rw [List.getElem?_range hi] at e
  simpa [natI] using e

theorem mem_box {b : Bx} {p : Int × Int × Int} : p ∈ boxCells b ↔ hasP b p = true := by
  obtain ⟨x, y, z⟩ := p
  simp only [boxCells, xsC, ysC, zsC, List.mem_flatMap, List.mem_map, List.mem_range, hasP, hasB, btw, Bool.and_eq_true, decide_eq_true_eq, Prod.mk.injEq]
  constructor
  · rintro ⟨i, hi, j, hj, k, hk, h1, h2, h3⟩; omega
  · rintro ⟨⟨⟨h1, h2⟩, h3, h4⟩, h5, h6⟩
    exact ⟨(x - b.x).toNat, by omega, (y - b.y).toNat, by omega, (z - b.z).toNat, by omega, by omega, by omega, by omega⟩

theorem vol_cells {v : Vol} (h : volOk v = true) : (boxCells v.b).map (atV v) = v.v := by
  obtain ⟨hb, hl, _⟩ := volOk_spec h
  have hs := small_spec (boxOk_spec hb).1
  have hlen : (boxCells v.b).length = v.v.length := by
    have := boxCells_len' v.b (by omega)
    unfold manyI at hl; omega
  refine List.ext_getElem (by simpa using hlen) fun i h1 h2 => ?_
  have hi : i < (boxCells v.b).length := by simpa using h1
  rw [List.getElem_map]
  exact atV_eq (cell_idx (by omega) hi) h2

theorem atV_made {u : Bx} (h : 0 ≤ u.b ∧ 0 ≤ u.c) {f : Int × Int × Int → Int} {p : Int × Int × Int} (hp : p ∈ boxCells u) : atV ⟨u, (boxCells u).map f⟩ p = f p := by
  obtain ⟨i, hi, rfl⟩ := List.mem_iff_getElem.1 hp
  have e : idxOf u (boxCells u)[i].1 (boxCells u)[i].2.1 (boxCells u)[i].2.2 = (i : Int) := cell_idx h hi
  unfold atV
  rw [e, Int.toNat_natCast, List.getD_eq_getElem?_getD, List.getElem?_map, List.getElem?_eq_getElem hi]
  rfl

/-! ### Joins -/
def joined (a b : Vol) : Vol := ⟨aroundB a.b b.b, (boxCells (aroundB a.b b.b)).map (pickV a b)⟩
structure joinOk (a b : Vol) : Prop where
  oka : volOk a = true
  okb : volOk b = true
  many : manyI (aroundB a.b b.b) = manyI a.b + manyI b.b - commonI a.b b.b
  small : smallB (aroundB a.b b.b) = true
  same : (boxCells (aroundB a.b b.b)).any (clash a b) = false

theorem join_cases (nl : V) (a b : Vol) : (joinOk a b ∧ joinR nl a b = .tuple [.agg (volC (joined a b)), I 0]) ∨ (¬ joinOk a b ∧ ∃ e, e ≠ 0 ∧ joinR nl a b = errVol nl e) := by
  unfold joinR
  by_cases h1 : volOk a = true
  · by_cases h2 : volOk b = true
    · by_cases h3 : manyI (aroundB a.b b.b) = manyI a.b + manyI b.b - commonI a.b b.b
      · by_cases h4 : smallB (aroundB a.b b.b) = true
        · by_cases h5 : (boxCells (aroundB a.b b.b)).any (clash a b) = true
          · exact .inr ⟨fun h => (by rw [h.same] at h5; cases h5), 104, by omega, by rw [if_pos h1, if_pos h2, if_pos h3, if_pos h4, if_pos h5]⟩
          · exact .inl ⟨⟨h1, h2, h3, h4, by simpa using h5⟩, by rw [if_pos h1, if_pos h2, if_pos h3, if_pos h4, if_neg h5]; rfl⟩
        · exact .inr ⟨fun h => h4 h.small, 3, by omega, by rw [if_pos h1, if_pos h2, if_pos h3, if_neg h4]⟩
      · exact .inr ⟨fun h => h3 h.many, 103, by omega, by rw [if_pos h1, if_pos h2, if_neg h3]⟩
    · exact .inr ⟨fun h => h2 h.okb, 101, by omega, by rw [if_pos h1, if_neg h2]⟩
  · exact .inr ⟨fun h => h1 h.oka, 101, by omega, by rw [if_neg h1]⟩

theorem around_comm (a b : Bx) : aroundB a b = aroundB b a := by
  unfold aroundB
  congr 1 <;> omega

theorem cut1_comm (p q x y : Int) : cut1 p q x y = cut1 q p y x := by unfold cut1; omega

theorem common_comm (a b : Bx) : commonI a b = commonI b a := by
  unfold commonI
  rw [cut1_comm (a.x + a.a - 1), cut1_comm (a.y + a.b - 1), cut1_comm (a.z + a.c - 1)]

theorem clash_comm (a b : Vol) (p : Int × Int × Int) : clash a b p = clash b a p := by
  unfold clash
  have e : (atV a p != atV b p) = (atV b p != atV a p) := bne_comm
  rw [Bool.and_comm (hasP a.b p), e]

theorem joinOk.comm {a b : Vol} (h : joinOk a b) : joinOk b a := by
  refine ⟨h.okb, h.oka, ?_, by rw [around_comm]; exact h.small, ?_⟩
  · rw [around_comm, common_comm, h.many]; omega
  · rw [around_comm, ← h.same]
    congr 1
    funext p; exact clash_comm b a p

theorem joinOk.cov {a b : Vol} (h : joinOk a b) : ∀ p ∈ boxCells (aroundB a.b b.b), hasP a.b p = true ∨ hasP b.b p = true := by
  have ga := small_spec (boxOk_spec (volOk_spec h.oka).1).1
  have gb := small_spec (boxOk_spec (volOk_spec h.okb).1).1
  exact cover (by omega) (by omega) h.many

theorem pick_a {a b : Vol} {p : Int × Int × Int} (hp : hasP a.b p = true) : pickV a b p = atV a p := by
  unfold pickV; rw [if_pos hp]

theorem joinOk.pick_b {a b : Vol} (h : joinOk a b) {p : Int × Int × Int} (hu : p ∈ boxCells (aroundB a.b b.b)) (hp : hasP b.b p = true) : pickV a b p = atV b p := by
  unfold pickV
  by_cases ha : hasP a.b p = true
  · rw [if_pos ha]
    have h1 := List.any_eq_false.1 h.same p hu
    simp only [clash, ha, hp, Bool.and_self, Bool.true_and] at h1
    simpa using h1
  · rw [if_neg ha]

theorem joined_comm {a b : Vol} (h : joinOk a b) : joined a b = joined b a := by
  unfold joined
  rw [around_comm b.b a.b]
  congr 1
  refine List.map_congr_left fun p hp => ?_
  rcases h.cov p hp with h1 | h1
  · rw [pick_a h1]
    have := h.comm.pick_b (p := p) (by rw [around_comm]; exact hp) h1
    rw [this]
  · rw [h.pick_b hp h1, pick_a h1]

theorem atV_bd {v : Vol} (h : volOk v = true) (p : Int × Int × Int) : -1099511627776 ≤ atV v p ∧ atV v p ≤ 1099511627776 := by
  obtain ⟨_, _, hv⟩ := volOk_spec h
  unfold atV
  rw [List.getD_eq_getElem?_getD]
  by_cases hi : (idxOf v.b p.1 p.2.1 p.2.2).toNat < v.v.length
  · rw [List.getElem?_eq_getElem hi]; exact hv _ (List.getElem_mem hi)
  · rw [List.getElem?_eq_none (by omega)]; simp

theorem volOk_made {u : Bx} {f : Int × Int × Int → Int} (hu : boxOk u = true) (hf : ∀ p ∈ boxCells u, -1099511627776 ≤ f p ∧ f p ≤ 1099511627776) : volOk ⟨u, (boxCells u).map f⟩ = true := by
  have hs := small_spec (boxOk_spec hu).1
  have hl := boxCells_len' u (by omega)
  simp only [volOk, hu, Bool.true_and, Bool.and_eq_true, decide_eq_true_eq, List.all_eq_true, List.length_map, btw]
  refine ⟨hl, fun n hn => ?_⟩
  obtain ⟨p, hp, rfl⟩ := List.mem_map.1 hn
  exact hf p hp

theorem around_ok {a b : Bx} (ha : boxOk a = true) (hb : boxOk b = true) (hs : smallB (aroundB a b) = true) : boxOk (aroundB a b) = true := by
  have g := small_spec hs
  simp only [boxOk, Bool.and_eq_true, cellOk, btw, decide_eq_true_eq] at ha hb ⊢
  refine ⟨⟨hs, ?_⟩, ?_⟩ <;> simp only [aroundB] <;> omega

theorem joined_ok {a b : Vol} (h : joinOk a b) : volOk (joined a b) = true := by
  refine volOk_made (around_ok (volOk_spec h.oka).1 (volOk_spec h.okb).1 h.small) fun p _ => ?_
  unfold pickV
  split
  · exact atV_bd h.oka p
  · exact atV_bd h.okb p

/-! ### Parts -/
def lastP (b : Bx) : Int × Int × Int := (b.x + b.a - 1, b.y + b.b - 1, b.z + b.c - 1)
def cutOk (v : Vol) (b : Bx) : Bool := boxOk b && hasP v.b (b.x, b.y, b.z) && hasP v.b (lastP b)
def part (v : Vol) (b : Bx) : Vol := ⟨b, (boxCells b).map (atV v)⟩
def cutR (nl : V) (v : Vol) (b : Bx) : V := if volOk v then (if cutOk v b then .tuple [.agg (volC (part v b)), I 0] else errVol nl 102) else errVol nl 101

theorem cut_in {v : Vol} {b : Bx} (h : cutOk v b = true) {p : Int × Int × Int} (hp : p ∈ boxCells b) : p ∈ boxCells v.b := by
  rw [mem_box] at hp ⊢
  have h2 : hasB v.b (b.x + b.a - 1) (b.y + b.b - 1) (b.z + b.c - 1) = true := by simp only [cutOk, Bool.and_eq_true] at h; exact h.2
  have h1 : hasB v.b b.x b.y b.z = true := by simp only [cutOk, Bool.and_eq_true] at h; exact h.1.2
  have hp : hasB b p.1 p.2.1 p.2.2 = true := hp
  show hasB v.b p.1 p.2.1 p.2.2 = true
  simp only [hasB, Bool.and_eq_true, btw, decide_eq_true_eq] at h1 h2 hp ⊢
  omega

theorem cut_a {a b : Vol} (h : joinOk a b) : cutOk (joined a b) a.b = true ∧ part (joined a b) a.b = a := by
  have hba := (volOk_spec h.oka).1
  have g := small_spec (boxOk_spec hba).1
  have gu := small_spec h.small
  have hc : cutOk (joined a b) a.b = true := by
    have e1 : hasB (aroundB a.b b.b) a.b.x a.b.y a.b.z = true := by simp only [hasB, Bool.and_eq_true, btw_iff, aroundB]; omega
    have e2 : hasB (aroundB a.b b.b) (a.b.x + a.b.a - 1) (a.b.y + a.b.b - 1) (a.b.z + a.b.c - 1) = true := by simp only [hasB, Bool.and_eq_true, btw_iff, aroundB]; omega
    unfold cutOk
    rw [hba, Bool.true_and, Bool.and_eq_true]
    exact ⟨e1, e2⟩
  refine ⟨hc, ?_⟩
  unfold part
  have e : (boxCells a.b).map (atV (joined a b)) = a.v := by
    rw [← vol_cells h.oka]
    refine List.map_congr_left fun p hp => ?_
    rw [show atV (joined a b) p = pickV a b p from atV_made (u := aroundB a.b b.b) (f := pickV a b) (by omega) (cut_in hc hp), pick_a (mem_box.1 hp)]
  rw [e]

theorem cut_b {a b : Vol} (h : joinOk a b) : cutOk (joined a b) b.b = true ∧ part (joined a b) b.b = b := by
  rw [joined_comm h]; exact cut_a h.comm

end Go.Proofs.Ytkifejklnpddbaa

/-! Contracts: a part of a volume; volumes that are checked. -/
set_option linter.unusedVariables false
set_option linter.unusedSimpArgs false
set_option maxRecDepth 20000
set_option maxHeartbeats 2000000
namespace Go.Proofs.Ytkifejklnpddbaa
open Go.Am
attribute [local simp] cells scalar mkv splice under2 under dem dem1 boxC cellC

theorem c_Cut (v : Vol) (b : Bx) (hl : v.v.length ≤ 9223372036854775807) : C Try.prog F.volume_Cut [.agg (volC v), .agg (cellC b.x b.y b.z), .agg (cellC b.a b.b b.c)] (cutR .nils v b) := by
  refine C_of mixed chk.volume_Cut (by simp) fun S ok => ?_
  refine Tr.seqR rfl (by simp [volC, intsV]) ?_
  by_cases hV : volOk v = true
  rotate_left
  · have hV : volOk v = false := by simpa using hV
    have hr : blockR v = .tuple [.agg [I 0, I 0, I 0, I 0, I 0, I 0, .nils], I 101] := by simp [blockR, hV]
    refine Tr.seqC rfl (by simp [volC]) (Steps.call rfl rfl (hr ▸ c_blockOf v hl) (Steps.fin rfl (by simp) ?_))
    refine Tr.seq (Tr.seqR rfl (by simp) (Tr.condT rfl (Tr.seqR rfl (by simp) (Tr.retX rfl rfl rfl ?_ trivial))))
    simp [packR, cutR, hV, errVol]
  have hr : blockR v = .tuple [.agg (volC v), I 0] := by simp [blockR, hV]
  obtain ⟨hbV, hlV, hvV⟩ := volOk_spec hV
  obtain ⟨hsV, hmV⟩ := boxOk_spec hbV
  refine Tr.seqC rfl (by simp [volC]) (Steps.call rfl rfl (hr ▸ c_blockOf v hl) (Steps.fin rfl (by simp [volC, intsV]) ?_))
  refine Tr.seq (Tr.seqR rfl (by simp) (Tr.condF rfl (Tr.skip ?_)))
  refine Tr.seqR rfl (by simp) ?_
  by_cases hB : boxOk b = true
  rotate_left
  · have hB : boxOk b = false := by simpa using hB
    have hcv : C Try.prog F.volume_box_valid [.agg (boxC b)] (.bool false) := hB ▸ c_boxValid b
    refine Tr.seq (Tr.seq (Tr.drawK (TraceK.run rfl (by simp) (TraceK.call rfl rfl hcv (TraceK.run rfl (by simp [volC]) ?_)))))
    refine TraceK.gcall (gb := false) (r := .bool false) rfl rfl rfl rfl (fun e => (by cases e)) (fun e => (by cases e)) (TraceK.run rfl (by simp [volC]) ?_)
    refine TraceK.gcall (gb := false) (r := .agg [I 0, I 0, I 0]) rfl rfl rfl rfl (fun e => (by cases e)) (fun e => (by cases e)) (TraceK.run rfl (by simp) ?_)
    refine TraceK.gcall (gb := false) (r := .bool false) rfl rfl rfl rfl (fun e => (by cases e)) (fun e => (by cases e)) (TraceK.run rfl (by simp) (.done ⟨by kernel_rfl, by kernel_rfl, ?_⟩))
    refine Tr.condT rfl (Tr.seqR rfl (by simp) (Tr.retX rfl rfl rfl ?_ trivial))
    have : cutOk v b = false := by unfold cutOk; rw [hB]; rfl
    simp [packR, cutR, hV, this, errVol]
  obtain ⟨hsB, hmB⟩ := boxOk_spec hB
  have hcv : C Try.prog F.volume_box_valid [.agg (boxC b)] (.bool true) := hB ▸ c_boxValid b
  refine Tr.seq (Tr.seq (Tr.drawK (TraceK.run rfl (by simp) (TraceK.call rfl rfl hcv (TraceK.run rfl (by simp [volC]) ?_)))))
  refine TraceK.gcall rfl rfl rfl rfl (by simp) (fun _ => c_has v.b b.x b.y b.z hmV) (TraceK.run rfl (by simp [volC]) ?_)
  refine TraceK.gcall rfl rfl rfl rfl (by simp) (fun _ => c_last b hmB) (TraceK.run rfl (by simp) ?_)
  refine TraceK.gcall rfl rfl rfl rfl (by simp) (fun _ => c_has v.b _ _ _ hmV) (TraceK.run rfl (by simp) (.done ⟨by kernel_rfl, by kernel_rfl, ?_⟩))
  have hc : ∀ c : Bool, (bif !hasB v.b b.x b.y b.z then true else !hasB v.b (b.x + b.a - 1) (b.y + b.b - 1) (b.z + b.c - 1)) = c → c = !cutOk v b := by
    rintro c rfl
    unfold cutOk
    rw [hB]
    show _ = !(true && hasB v.b b.x b.y b.z && hasB v.b (b.x + b.a - 1) (b.y + b.b - 1) (b.z + b.c - 1))
    cases hasB v.b b.x b.y b.z <;> cases hasB v.b (b.x + b.a - 1) (b.y + b.b - 1) (b.z + b.c - 1) <;> rfl
  refine Tr.cond rfl rfl (fun h1 => Tr.seqR rfl (by simp) (Tr.retX rfl rfl rfl ?_ trivial)) (fun h1 => Tr.skip ?_)
  · have h2 := not_of (hc true h1)
    have h2 : cutOk v b = false := h2
    simp [packR, cutR, hV, h2, errVol]
  have h2 : cutOk v b = true := not_of (hc false h1)
  have hlen := boxCells_len hsB
  refine Tr.seqR rfl (by simp) ?_
  refine Tr.seq (Tr.seqC rfl (by simp) (Steps.call rfl rfl (c_cells b) (Steps.fin rfl (by simp) (Tr.block ?_))))
  refine Tr.weak (s' := { env := [(49, .func (.func F.volume_box_cells_1) [] [.vptr (boxC b) 0]), (6, .ptr 6 0), (8, .ptr 8 0), (11, .ptr 11 0)], bx := [(6, ⟨[I 0, I 0, I 0, I 0, I 0, I 0, .nils], false⟩), (8, ⟨volC v, false⟩), (11, ⟨[I b.x, I b.y, I b.z, I b.a, I b.b, I b.c, .slice 63 1 []], false⟩)], rw := [(62, 0, 1, 3)], log := [], stp := false })
    (Wk.le (.cons rfl (.refl _) (.cons rfl (.refl _) (.cons rfl (.refl _) (.cons rfl (.refl _) .nil)))) (.cons rfl (LLe.refl _) (.cons rfl (LLe.refl _) (.cons rfl (.cons (.refl _) (.cons (.refl _) (.cons (.refl _) (.cons (.refl _) (.cons (.refl _) (.cons (.refl _) (.cons (.nil 63 1) .nil))))))) .nil))) (.new rfl .nil) rfl rfl) ?_
  refine Tr.range rfl rfl (i_cells b hmB) rfl rfl rfl (by intro x hx; obtain ⟨p, _, rfl⟩ := List.mem_map.1 hx; rfl)
    (fun pre t => ∃ m, m ≤ (boxCells b).length ∧ pre = ((boxCells b).take m).map cellV ∧ t.bx = [(6, ⟨[I 0, I 0, I 0, I 0, I 0, I 0, .nils], false⟩), (8, ⟨volC v, false⟩), (11, ⟨[I b.x, I b.y, I b.z, I b.a, I b.b, I b.c, .slice 63 1 (((boxCells b).take m).map fun p => I (atV v p))], false⟩)] ∧ t.rw = [(62, m, 1, 3)] ∧ t.log = [])
    (fun _ _ => False) ⟨0, by omega, rfl, rfl, rfl, rfl⟩ ?_ ?_ ?_
  · rintro a0 L0 rc0 h0 S1 S2 ok1 ok2 pre q t lp hpre ⟨m, hm, rfl, hbx, hrw, hlog⟩ henv hstp
    obtain ⟨env, bx, rw, log, stp⟩ := t
    simp only at hbx hrw hlog henv hstp
    subst hbx hrw hlog henv hstp
    have hmx : m < (boxCells b).length ∧ ∃ p, (boxCells b)[m]? = some p ∧ q = cellV p := by
      have h1 : (((boxCells b).take m).map cellV).length = m := by simp; omega
      have h2 := hpre.length_le
      simp at h2
      have hml : m < (boxCells b).length := by omega
      refine ⟨hml, _, List.getElem?_eq_getElem hml, ?_⟩
      have h3 := List.IsPrefix.getElem hpre (i := m) (by simp; omega)
      simp only [List.getElem_map] at h3
      rw [List.getElem_append_right (by omega)] at h3
      simpa using h3
    obtain ⟨hml, ⟨x, y, z⟩, hp, rfl⟩ := hmx
    have hin := mem_box.1 (cut_in h2 (List.mem_of_getElem? hp))
    have h5 : hasB v.b x y z = true := hin
    obtain ⟨i0, i1⟩ := idx_range h5
    obtain ⟨k, hk⟩ : ∃ k : Nat, idxOf v.b x y z = (k : Int) := ⟨(idxOf v.b x y z).toNat, by omega⟩
    have hkl : k < v.v.length := by unfold manyI at hlV; omega
    have hpk : atV v (x, y, z) = v.v[k] := atV_eq (p := (x, y, z)) hk hkl
    have htk : (boxCells b).take (m + 1) = (boxCells b).take m ++ [(x, y, z)] := by rw [List.take_add_one, hp]; rfl
    have hci : C Try.prog F.volume_box_index [.agg (boxC v.b), .agg (cellC x y z)] (I (k : Int)) := hk ▸ c_index v.b x y z hmV (has_bd' h5 hbV)
    refine Tr.regR rfl (by simp) (Tr.block (Tr.drawK (TraceK.run rfl (by simp [volC]) (TraceK.call rfl rfl hci (TraceK.runN 1 rfl (by simp [intsV]; omega) ?_)))))
    rw [getD_map hkl]
    refine TraceK.run rfl (by simp; omega) (.done ⟨by kernel_rfl, by kernel_rfl, ?_⟩)
    refine ⟨{ env := [], bx := [(6, ⟨[I 0, I 0, I 0, I 0, I 0, I 0, .nils], false⟩), (8, ⟨volC v, false⟩), (11, ⟨[I b.x, I b.y, I b.z, I b.a, I b.b, I b.c, .slice 63 1 ((((boxCells b).take m).map fun p => I (atV v p)) ++ [I v.v[k]])], false⟩)], rw := [(62, m + 1, 1, 3)], log := [], stp := false }, ?_, ⟨m + 1, by omega, ?_, ?_, rfl, rfl⟩, rfl⟩
    · refine Wk.le .nil (.cons rfl (LLe.refl _) (.cons rfl (LLe.refl _) (.cons rfl (LLe.refl _) .nil))) (.cons ?_ .nil) rfl rfl
      show some _ = some _
      simp; omega
    · rw [htk]; simp
    · rw [htk]; simp [hpk]
  · rintro ⟨env, bx, rw, log, stp⟩ henv hstp ⟨m, hm, hpre, hbx, hrw, hlog⟩
    simp only at hbx hrw hlog henv hstp
    subst hbx hrw hlog henv hstp
    have hml : m = (boxCells b).length := by
      have := congrArg List.length hpre
      simp at this; omega
    subst hml
    refine Tr.seqR rfl (by simp) (Tr.retX rfl rfl rfl ?_ trivial)
    rw [List.take_length]
    simp [packR, cutR, hV, h2, part, volC, intsV]
  · intro e t _ h; exact h.elim

theorem cut_le {v : Vol} {b : Bx} {w : World} {φ : Nat → Nat} {x : Value} (h : RepR w φ (cutR .nils v b) x) : RepR w φ (cutR (intsV []) v b) x := by
  unfold cutR at h ⊢
  split
  · split
    · rename_i h1 h2; rw [if_pos h1, if_pos h2] at h; exact h
    · rename_i h1 h2; rw [if_pos h1, if_neg h2] at h; exact repR_nil (l1 := [I 0, I 0, I 0, I 0, I 0, I 0]) h
  · rename_i h1; rw [if_neg h1] at h; exact repR_nil (l1 := [I 0, I 0, I 0, I 0, I 0, I 0]) h

theorem join_err {a b : Vol} (h : ¬ joinOk a b) : ∃ e : Int, e ≠ 0 ∧ ∀ nl, joinR nl a b = errVol nl e := by
  unfold joinR
  by_cases h1 : volOk a = true
  · by_cases h2 : volOk b = true
    · by_cases h3 : manyI (aroundB a.b b.b) = manyI a.b + manyI b.b - commonI a.b b.b
      · by_cases h4 : smallB (aroundB a.b b.b) = true
        · by_cases h5 : (boxCells (aroundB a.b b.b)).any (clash a b) = true
          · exact ⟨104, by omega, fun nl => by rw [if_pos h1, if_pos h2, if_pos h3, if_pos h4, if_pos h5]⟩
          · exact absurd ⟨h1, h2, h3, h4, by simpa using h5⟩ h
        · exact ⟨3, by omega, fun nl => by rw [if_pos h1, if_pos h2, if_pos h3, if_neg h4]⟩
      · exact ⟨103, by omega, fun nl => by rw [if_pos h1, if_pos h2, if_neg h3]⟩
    · exact ⟨101, by omega, fun nl => by rw [if_pos h1, if_neg h2]⟩
  · exact ⟨101, by omega, fun nl => by rw [if_neg h1]⟩

theorem join_le {a b : Vol} {w : World} {φ : Nat → Nat} {x : Value} (h : RepR w φ (joinR .nils a b) x) : RepR w φ (joinR (intsV []) a b) x := by
  by_cases h0 : joinOk a b
  · rcases join_cases (intsV []) a b with ⟨_, h3⟩ | ⟨h3, _⟩
    · rcases join_cases .nils a b with ⟨_, h4⟩ | ⟨h4, _⟩
      · rw [h4] at h; rw [h3]; exact h
      · exact absurd h0 h4
    · exact absurd h0 h3
  · obtain ⟨e, _, h1⟩ := join_err h0
    rw [h1] at h ⊢
    exact repR_nil (l1 := [I 0, I 0, I 0, I 0, I 0, I 0]) h

end Go.Proofs.Ytkifejklnpddbaa

/-! Contracts: checked volumes and the place of a cell, in the specification. -/
set_option linter.unusedVariables false
set_option linter.unusedSimpArgs false
set_option maxRecDepth 20000
set_option maxHeartbeats 2000000
namespace Go.Proofs.Ytkifejklnpddbaa
open Go.Am
attribute [local simp] cells scalar mkv splice under2 under dem dem1 boxC cellC

def idxR (b : Bx) (x y z : Int) : Int := if hasB b x y z then idxOf b x y z else -1

theorem c_index10 (b : Bx) (x y z : Int) (h : b.mid) (hx : (-2000 ≤ x ∧ x ≤ 2000) ∧ (-2000 ≤ y ∧ y ≤ 2000) ∧ (-2000 ≤ z ∧ z ≤ 2000)) : C Try.prog F.ref10_index [.agg (cellC b.x b.y b.z), .agg (cellC b.a b.b b.c), .agg (cellC x y z)] (I (idxR b x y z)) := by
  obtain ⟨h1, h2, h3, h4, h5, h6⟩ := h
  obtain ⟨k1, k2, k3⟩ := hx
  have f : ∀ {p a s : Int}, (-2000 ≤ p ∧ p ≤ 2000) → (-1000 ≤ a ∧ a ≤ 1000) → (0 ≤ s ∧ s ≤ 1000) → ∀ c : Bool, (!btw (IntKind.i64.wrap (p - a)) 0 (IntKind.i64.wrap (s - 1))) = c → c = !btw p a (a + s - 1) := by
    rintro p a s hp ha hs c rfl
    rw [w64 (by omega) (by omega), w64 (by omega) (by omega)]
    congr 1
    rw [Bool.eq_iff_iff, btw_iff, btw_iff]
    omega
  refine C_of mixed chk.ref10_index (by simp) fun S ok => ?_
  refine Tr.seqR rfl (by simp) (Tr.seqR rfl (by simp) (Tr.seq (Tr.seqR rfl (by simp) (Tr.block ?_))))
  refine Tr.rounds 4 (TrN.succ ?_)
  refine Tr.seq (Tr.seqR rfl (by simp) (Tr.condT rfl (Tr.skip ?_)))
  refine Tr.seq (Tr.block (Tr.seq (Tr.seq (Tr.drawK (TraceK.run rfl (by simp) (TraceK.call rfl rfl (c_between _ _ _) (TraceK.run rfl (by simp) (.done ⟨by kernel_rfl, by kernel_rfl, ?_⟩))))))))
  refine Tr.cond rfl rfl (fun q1 => Tr.seqR rfl (by simp) (Tr.retX rfl rfl rfl ?_ trivial)) (fun q1 => Tr.skip (Tr.drawR rfl (by simp) (by kernel_rfl) (Tr.regR rfl (by simp) (TrN.succ ?_))))
  · have q1 := not_of (f (p := x) (a := b.x) (s := b.a) k1 h1 h4 true q1)
    simp [packR, idxR, hasB, q1]
  have q1 := not_of (f (p := x) (a := b.x) (s := b.a) k1 h1 h4 false q1)
  refine Tr.seq (Tr.seqR rfl (by simp) (Tr.condT rfl (Tr.skip ?_)))
  refine Tr.seq (Tr.block (Tr.seq (Tr.seq (Tr.drawK (TraceK.run rfl (by simp) (TraceK.call rfl rfl (c_between _ _ _) (TraceK.run rfl (by simp) (.done ⟨by kernel_rfl, by kernel_rfl, ?_⟩))))))))
  refine Tr.cond rfl rfl (fun q2 => Tr.seqR rfl (by simp) (Tr.retX rfl rfl rfl ?_ trivial)) (fun q2 => Tr.skip (Tr.drawR rfl (by simp) (by kernel_rfl) (Tr.regR rfl (by simp) (TrN.succ ?_))))
  · have q2 := not_of (f (p := y) (a := b.y) (s := b.b) k2 h2 h5 true q2)
    simp [packR, idxR, hasB, q2]
  have q2 := not_of (f (p := y) (a := b.y) (s := b.b) k2 h2 h5 false q2)
  refine Tr.seq (Tr.seqR rfl (by simp) (Tr.condT rfl (Tr.skip ?_)))
  refine Tr.seq (Tr.block (Tr.seq (Tr.seq (Tr.drawK (TraceK.run rfl (by simp) (TraceK.call rfl rfl (c_between _ _ _) (TraceK.run rfl (by simp) (.done ⟨by kernel_rfl, by kernel_rfl, ?_⟩))))))))
  refine Tr.cond rfl rfl (fun q3 => Tr.seqR rfl (by simp) (Tr.retX rfl rfl rfl ?_ trivial)) (fun q3 => Tr.skip (Tr.drawR rfl (by simp) (by kernel_rfl) (Tr.regR rfl (by simp) (TrN.succ ?_))))
  · have q3 := not_of (f (p := z) (a := b.z) (s := b.c) k3 h3 h6 true q3)
    simp [packR, idxR, hasB, q3]
  have q3 := not_of (f (p := z) (a := b.z) (s := b.c) k3 h3 h6 false q3)
  refine Tr.seq (Tr.seqR rfl (by simp) (Tr.condF rfl (Tr.exit ?_)))
  refine Tr.seqR rfl (by simp) (Tr.retX rfl rfl rfl ?_ trivial)
  have e : hasB b x y z = true := by
    have q1 : btw x b.x (b.x + b.a - 1) = true := q1
    have q2 : btw y b.y (b.y + b.b - 1) = true := q2
    have q3 : btw z b.z (b.z + b.c - 1) = true := q3
    simp [hasB, q1, q2, q3]
  have q1 := btw_iff _ _ _ |>.1 (show btw x b.x (b.x + b.a - 1) = true from q1)
  have q2 := btw_iff _ _ _ |>.1 (show btw y b.y (b.y + b.b - 1) = true from q2)
  have b1 := mul_bd (a := x - b.x) (b := b.b) (A := 3000) (B := 1000) (by omega) (by omega)
  have e1 : b.b * (x - b.x) + y - b.y = (x - b.x) * b.b + y - b.y := by rw [Int.mul_comm]
  have b2 := mul_bd (a := (x - b.x) * b.b + y - b.y) (b := b.c) (A := 3100000) (B := 1000) (by omega) (by omega)
  have e2 : b.c * ((x - b.x) * b.b + y - b.y) + z - b.z = ((x - b.x) * b.b + y - b.y) * b.c + z - b.z := by rw [Int.mul_comm b.c]
  simp only [packR]
  rw [show idxR b x y z = b.c * (b.b * (b.a * 0 + x - b.x) + y - b.y) + z - b.z by unfold idxR idxOf; rw [if_pos e, Int.mul_zero, Int.zero_add, e1, e2]]
  simp only [Int.mul_zero, Int.zero_add]
  rw [e1]
  have w0 : IntKind.i64.wrap (x - b.x) = x - b.x := w64 (by omega) (by omega)
  simp (disch := omega) [w64, e1]

theorem c_CheckVolume10 (v : Vol) (hl : v.v.length ≤ 9223372036854775807) : C Try.prog F.ref10_CheckVolume [.agg (volC v)] (I (if volOk v then 0 else 101)) := by
  refine C_of mixed chk.ref10_CheckVolume (by simp) fun S ok => ?_
  refine Tr.seqR rfl (by simp [volC, intsV]) ?_
  refine Tr.seq (Tr.seqC rfl (by simp [volC]) (Steps.call rfl rfl (c_box10 v.b) (Steps.fin rfl (by simp [volC, intsV]) ?_)))
  have hc : ∀ c : Bool, (bif !boxOk v.b then true else (((v.v.map I).length : Int) != IntKind.i64.wrap (IntKind.i64.wrap (v.b.a * v.b.b) * v.b.c))) = c → c = !(boxOk v.b && decide ((v.v.length : Int) = v.b.a * v.b.b * v.b.c)) := by
    rintro c rfl
    cases hB : boxOk v.b with
    | false => rfl
    | true =>
      have g := small_spec (boxOk_spec hB).1
      have m1 := mul_bd (a := v.b.a) (b := v.b.b) (A := 16) (B := 16) (by omega) (by omega)
      have m2 := mul_bd (a := v.b.a * v.b.b) (b := v.b.c) (A := 256) (B := 16) (by omega) (by omega)
      rw [w64 (n := v.b.a * v.b.b) (by omega) (by omega), w64 (by omega) (by omega), List.length_map]
      by_cases h : (v.v.length : Int) = v.b.a * v.b.b * v.b.c <;> simp [h]
  refine Tr.cond rfl rfl (fun h1 => Tr.seqR rfl (by simp) (Tr.retX rfl rfl rfl ?_ trivial)) (fun h1 => Tr.skip ?_)
  · have h1 := not_of (hc true h1)
    have : volOk v = false := by unfold volOk; rw [h1]; rfl
    simp [packR, this]
  have h1 := not_of (hc false h1)
  refine Tr.seq (Tr.seqR rfl (by simp) (Tr.block ?_))
  refine Tr.loop (fun i s => (i ≤ v.v.length ∧ (v.v.take i).all (fun n => btw n (-1099511627776) 1099511627776) = true) ∧ s = { env := [(1, .ptr 1 0), (3, I i)], bx := [(1, ⟨volC v, false⟩)], rw := [], log := [], stp := false }) (fun i => v.v.length - i) 0
    (Wk.le (.cons rfl (.refl _) (.cons rfl (.refl _) .nil)) (.cons rfl (LLe.refl _) .nil) .nil rfl rfl) ⟨⟨by omega, rfl⟩, rfl⟩ ?_
  rintro i s ⟨⟨hi, hA⟩, rfl⟩
  refine Tr.seq (Tr.seqR rfl (by simp [volC, intsV]) (Tr.cond rfl rfl (fun h3 => Tr.skip ?_) (fun h3 => Tr.exit ?_)))
  rotate_left
  · have h3 : i = v.v.length := by simp at h3; omega
    subst h3
    rw [List.take_length] at hA
    have : volOk v = true := by unfold volOk; rw [h1, hA]; rfl
    refine Tr.seqR rfl (by simp) (Tr.retX rfl rfl rfl ?_ trivial)
    simp [packR, this]
  have h3 : i < v.v.length := by simpa using h3
  refine Tr.seq (Tr.block (Tr.seqN 4 rfl (by simp [volC, intsV]; omega) ?_))
  rw [getD_map h3]
  refine Steps.run rfl (by simp) (Steps.call rfl rfl (c_between _ _ _) (Steps.fin rfl (by simp) (Tr.cond rfl rfl (fun h4 => Tr.seqR rfl (by simp) (Tr.retX rfl rfl rfl ?_ trivial)) (fun h4 => Tr.skip (Tr.regR rfl (by simp) ?_)))))
  · have h4 : btw v.v[i] (-1099511627776) 1099511627776 = false := not_of (c := true) h4.symm
    have : volOk v = false := by
      unfold volOk
      rw [List.all_eq_false.2 ⟨_, List.getElem_mem h3, by simp [h4]⟩, Bool.and_false]
    simp [packR, this]
  · have h4 : btw v.v[i] (-1099511627776) 1099511627776 = true := not_of (c := false) h4.symm
    refine ⟨i + 1, _, Wk.le (.cons rfl (.refl _) (.cons rfl (VLe.i (w64 (by omega) (by omega))) .nil)) (.cons rfl (LLe.refl _) .nil) .nil rfl rfl, ⟨⟨h3, ?_⟩, rfl⟩, by omega⟩
    rw [List.take_add_one, List.getElem?_eq_getElem h3, List.all_append, hA]
    simp [h4]

end Go.Proofs.Ytkifejklnpddbaa

/-! Contracts: the join of two volumes in the specification; the law VolumeJoins. -/
set_option linter.unusedVariables false
set_option linter.unusedSimpArgs false
set_option maxRecDepth 20000
set_option maxHeartbeats 2000000
namespace Go.Proofs.Ytkifejklnpddbaa
open Go.Am
attribute [local simp] cells scalar mkv splice under2 under dem dem1 boxC cellC

theorem any_box {a b : Vol} {u : Bx} (h : ∀ p, hasP b.b p = true → hasP u p = true) : (boxCells u).any (clash a b) = (boxCells b.b).any fun p => hasP a.b p && (atV a p != atV b p) := by
  rw [Bool.eq_iff_iff, List.any_eq_true, List.any_eq_true]
  constructor
  · rintro ⟨p, _, h2⟩
    simp only [clash, Bool.and_eq_true] at h2
    exact ⟨p, mem_box.2 h2.1.2, by rw [h2.1.1, h2.2]; rfl⟩
  · rintro ⟨p, h1, h2⟩
    simp only [Bool.and_eq_true] at h2
    have h1 := mem_box.1 h1
    exact ⟨p, mem_box.2 (h p h1), by simp only [clash, h1, h2.1, h2.2, Bool.and_self]⟩

theorem cell_bd {b : Bx} (hb : boxOk b = true) {p : Int × Int × Int} (hp : p ∈ boxCells b) : (-1000 ≤ p.1 ∧ p.1 ≤ 1000) ∧ (-1000 ≤ p.2.1 ∧ p.2.1 ≤ 1000) ∧ (-1000 ≤ p.2.2 ∧ p.2.2 ≤ 1000) := has_bd' (mem_box.1 hp) hb

theorem cell_at {v : Vol} (h : volOk v = true) {i : Nat} (hi : i < (boxCells v.b).length) (hv : i < v.v.length) : atV v (boxCells v.b)[i] = v.v[i] := by
  have hs := small_spec (boxOk_spec (volOk_spec h).1).1
  exact atV_eq (cell_idx (by omega) hi) hv

theorem c_Join10 (a b : Vol) (hla : a.v.length ≤ 9223372036854775807) (hlb : b.v.length ≤ 9223372036854775807) : C Try.prog F.ref10_Join [.agg (volC a), .agg (volC b)] (joinR .nils a b) := by
  refine C_of mixed chk.ref10_Join (by simp) fun S ok => ?_
  refine Tr.seqR rfl (by simp [volC, intsV]) ?_
  by_cases hA : volOk a = true
  rotate_left
  · have hA : volOk a = false := by simpa using hA
    have hr := c_CheckVolume10 a hla
    rw [hA] at hr
    refine Tr.seq (Tr.seqC rfl (by simp [volC]) (Steps.call rfl rfl hr (Steps.fin rfl (by simp) ?_)))
    refine Tr.seqR rfl (by simp) (Tr.condT rfl (Tr.seqR rfl (by simp) (Tr.retX rfl rfl rfl ?_ trivial)))
    simp [packR, joinR, hA, errVol]
  have hr := c_CheckVolume10 a hla
  rw [hA] at hr
  refine Tr.seq (Tr.seqC rfl (by simp [volC]) (Steps.call rfl rfl hr (Steps.fin rfl (by simp [volC, intsV]) ?_)))
  refine Tr.seqR rfl (by simp) (Tr.condF rfl (Tr.skip ?_))
  by_cases hB : volOk b = true
  rotate_left
  · have hB : volOk b = false := by simpa using hB
    have hr := c_CheckVolume10 b hlb
    rw [hB] at hr
    refine Tr.seq (Tr.seqC rfl (by simp [volC]) (Steps.call rfl rfl hr (Steps.fin rfl (by simp) ?_)))
    refine Tr.seqR rfl (by simp) (Tr.condT rfl (Tr.seqR rfl (by simp) (Tr.retX rfl rfl rfl ?_ trivial)))
    simp [packR, joinR, hA, hB, errVol]
  have hr2 := c_CheckVolume10 b hlb
  rw [hB] at hr2
  refine Tr.seq (Tr.seqC rfl (by simp [volC]) (Steps.call rfl rfl hr2 (Steps.fin rfl (by simp [volC, intsV]) ?_)))
  refine Tr.seqR rfl (by simp) (Tr.condF rfl (Tr.skip ?_))
  obtain ⟨hbA, hlA, hvA⟩ := volOk_spec hA
  obtain ⟨hbB, hlB, hvB⟩ := volOk_spec hB
  obtain ⟨hsA, hmA⟩ := boxOk_spec hbA
  obtain ⟨hsB, hmB⟩ := boxOk_spec hbB
  have gA := small_spec hsA
  have gB := small_spec hsB
  have cA : cellOk a.b.x a.b.y a.b.z = true := by simp only [boxOk, Bool.and_eq_true] at hbA; exact hbA.1.2
  have cB : cellOk b.b.x b.b.y b.b.z = true := by simp only [boxOk, Bool.and_eq_true] at hbB; exact hbB.1.2
  have kA : (-64 ≤ a.b.x ∧ a.b.x ≤ 64) ∧ (-64 ≤ a.b.y ∧ a.b.y ≤ 64) ∧ (-64 ≤ a.b.z ∧ a.b.z ≤ 64) := by
    have := cA
    simp only [Bool.and_eq_true, cellOk, btw_iff] at this; omega
  have kB : (-64 ≤ b.b.x ∧ b.b.x ≤ 64) ∧ (-64 ≤ b.b.y ∧ b.b.y ≤ 64) ∧ (-64 ≤ b.b.z ∧ b.b.z ≤ 64) := by
    have := cB
    simp only [Bool.and_eq_true, cellOk, btw_iff] at this; omega
  obtain ⟨u, hu⟩ : ∃ u, u = aroundB a.b b.b := ⟨_, rfl⟩
  have ux : u.x = min a.b.x b.b.x ∧ u.y = min a.b.y b.b.y ∧ u.z = min a.b.z b.b.z := by rw [hu]; exact ⟨rfl, rfl, rfl⟩
  have ua : u.a = max (a.b.x + a.b.a) (b.b.x + b.b.a) - min a.b.x b.b.x ∧ u.b = max (a.b.y + a.b.b) (b.b.y + b.b.b) - min a.b.y b.b.y ∧ u.c = max (a.b.z + a.b.c) (b.b.z + b.b.c) - min a.b.z b.b.z := by rw [hu]; simp only [aroundB]; omega
  have usz : (0 ≤ u.a ∧ u.a ≤ 200) ∧ (0 ≤ u.b ∧ u.b ≤ 200) ∧ (0 ≤ u.c ∧ u.c ≤ 200) := by omega
  have m1 := mul_bd (a := u.a) (b := u.b) (A := 200) (B := 200) (by omega) (by omega)
  have m2 := mul_bd (a := u.a * u.b) (b := u.c) (A := 40000) (B := 200) (by omega) (by omega)
  refine Tr.seqR rfl (by simp) (Tr.seqR rfl (by simp) (Tr.seq (Tr.seqR rfl (by simp) (Tr.block ?_))))
  refine Tr.rounds 4 (TrN.succ ?_)
  refine Tr.seq (Tr.seqR rfl (by simp) (Tr.condT rfl (Tr.skip ?_)))
  refine Tr.seq (Tr.block (Tr.seqD rfl (by simp [volC]) (by kernel_rfl) ?_))
  refine Tr.seqR rfl (by simp) (Tr.seqR rfl (by simp) (Tr.seqR rfl (by simp) (Tr.regR rfl (by simp) (Tr.regR rfl (by simp) ?_))))
  refine TrN.succ (Tr.weak (s' := { env := [(2, .ptr 2 0), (3, .ptr 3 0), (4, .ptr 4 0), (8, .ptr 8 0), (9, I u.a), (10, I 1)], bx := [(2, ⟨volC a, false⟩), (3, ⟨volC b, false⟩), (4, ⟨[I 0, I 0, I 0, I 0, I 0, I 0, .nils], false⟩), (8, ⟨[I u.x, I u.a, I 0, I 0, I 0, I 0], false⟩)], rw := [], log := [], stp := false })
    (Wk.le (.cons rfl (.refl _) (.cons rfl (.refl _) (.cons rfl (.refl _) (.cons rfl (.refl _) (.cons rfl (VLe.i ?_) (.cons rfl (VLe.i (by simp)) .nil))))))
      (.cons rfl (LLe.refl _) (.cons rfl (LLe.refl _) (.cons rfl (LLe.refl _) (.cons rfl (lle6 ?_ ?_ ?_ ?_ ?_ ?_) .nil)))) .nil rfl rfl) ?_)
  iterate 7
    · simp (disch := omega) [ux, ua, w64, ite_max, ite_min] <;> first | (split <;> omega) | (rw [← ua.1, ← ua.2.1, ← ua.2.2]; exact w64 (by omega) (by omega)) | (rw [← ua.1, ← ua.2.1]; exact w64 (by omega) (by omega))
  refine Tr.seq (Tr.seqR rfl (by simp) (Tr.condT rfl (Tr.skip ?_)))
  refine Tr.seq (Tr.block (Tr.seqD rfl (by simp [volC]) (by kernel_rfl) ?_))
  refine Tr.seqR rfl (by simp) (Tr.seqR rfl (by simp) (Tr.seqR rfl (by simp) (Tr.regR rfl (by simp) (Tr.regR rfl (by simp) ?_))))
  refine TrN.succ (Tr.weak (s' := { env := [(2, .ptr 2 0), (3, .ptr 3 0), (4, .ptr 4 0), (8, .ptr 8 0), (9, I (u.a * u.b)), (10, I 2)], bx := [(2, ⟨volC a, false⟩), (3, ⟨volC b, false⟩), (4, ⟨[I 0, I 0, I 0, I 0, I 0, I 0, .nils], false⟩), (8, ⟨[I u.x, I u.a, I u.y, I u.b, I 0, I 0], false⟩)], rw := [], log := [], stp := false })
    (Wk.le (.cons rfl (.refl _) (.cons rfl (.refl _) (.cons rfl (.refl _) (.cons rfl (.refl _) (.cons rfl (VLe.i ?_) (.cons rfl (VLe.i (by simp)) .nil))))))
      (.cons rfl (LLe.refl _) (.cons rfl (LLe.refl _) (.cons rfl (LLe.refl _) (.cons rfl (lle6 ?_ ?_ ?_ ?_ ?_ ?_) .nil)))) .nil rfl rfl) ?_)
  iterate 7
    · simp (disch := omega) [ux, ua, w64, ite_max, ite_min] <;> first | (split <;> omega) | (rw [← ua.1, ← ua.2.1, ← ua.2.2]; exact w64 (by omega) (by omega)) | (rw [← ua.1, ← ua.2.1]; exact w64 (by omega) (by omega))
  refine Tr.seq (Tr.seqR rfl (by simp) (Tr.condT rfl (Tr.skip ?_)))
  refine Tr.seq (Tr.block (Tr.seqD rfl (by simp [volC]) (by kernel_rfl) ?_))
  refine Tr.seqR rfl (by simp) (Tr.seqR rfl (by simp) (Tr.seqR rfl (by simp) (Tr.regR rfl (by simp) (Tr.regR rfl (by simp) ?_))))
  refine TrN.succ (Tr.weak (s' := { env := [(2, .ptr 2 0), (3, .ptr 3 0), (4, .ptr 4 0), (8, .ptr 8 0), (9, I (u.a * u.b * u.c)), (10, I 3)], bx := [(2, ⟨volC a, false⟩), (3, ⟨volC b, false⟩), (4, ⟨[I 0, I 0, I 0, I 0, I 0, I 0, .nils], false⟩), (8, ⟨[I u.x, I u.a, I u.y, I u.b, I u.z, I u.c], false⟩)], rw := [], log := [], stp := false })
    (Wk.le (.cons rfl (.refl _) (.cons rfl (.refl _) (.cons rfl (.refl _) (.cons rfl (.refl _) (.cons rfl (VLe.i ?_) (.cons rfl (VLe.i (by simp)) .nil))))))
      (.cons rfl (LLe.refl _) (.cons rfl (LLe.refl _) (.cons rfl (LLe.refl _) (.cons rfl (lle6 ?_ ?_ ?_ ?_ ?_ ?_) .nil)))) .nil rfl rfl) ?_)
  iterate 7
    · simp (disch := omega) [ux, ua, w64, ite_max, ite_min] <;> first | (split <;> omega) | (rw [← ua.1, ← ua.2.1, ← ua.2.2]; exact w64 (by omega) (by omega)) | (rw [← ua.1, ← ua.2.1]; exact w64 (by omega) (by omega))
  refine Tr.seq (Tr.seqR rfl (by simp) (Tr.condF rfl (Tr.exit ?_)))
  refine Tr.seqD rfl (by simp) (by kernel_rfl) ?_
  refine Tr.seqR rfl (by simp) ?_
  have hlen := boxCells_len' b.b (by omega)
  refine Tr.seqC rfl (by simp [volC]) (Steps.call rfl rfl (c_places10 b.b hsB cB) (Steps.fin rfl (by simp) ?_))
  have hlB' : (boxCells b.b).length = b.v.length := by unfold manyI at hlB; omega
  refine Tr.seq (Tr.seqR rfl (by simp) (Tr.block ?_))
  refine Tr.loop (fun i s => i ≤ (boxCells b.b).length ∧ s = { env := [(2, .ptr 2 0), (3, .ptr 3 0), (4, .ptr 4 0), (9, I (u.a * u.b * u.c)), (14, .ptr 14 0), (15, .ptr 15 0), (16, I (((boxCells b.b).take i).countP (hasP a.b))), (17, .bool (((boxCells b.b).take i).any fun p => hasP a.b p && (atV a p != atV b p))), (18, .slice 0 3 ((boxCells b.b).map fun p => .agg (cellC p.1 p.2.1 p.2.2))), (19, I i)], bx := [(2, ⟨volC a, false⟩), (3, ⟨volC b, false⟩), (4, ⟨[I 0, I 0, I 0, I 0, I 0, I 0, .nils], false⟩), (14, ⟨[I u.x, I u.y, I u.z], false⟩), (15, ⟨[I u.a, I u.b, I u.c], false⟩)], rw := [], log := [], stp := false }) (fun i => (boxCells b.b).length - i) 0
    (Wk.le (.cons rfl (.refl _) (.cons rfl (.refl _) (.cons rfl (.refl _) (.cons rfl (.refl _) (.cons rfl (.refl _) (.cons rfl (.refl _) (.cons rfl (.refl _) (.cons rfl (.refl _) (.cons rfl (.refl _) (.cons rfl (.refl _) .nil))))))))))
      (.cons rfl (LLe.refl _) (.cons rfl (LLe.refl _) (.cons rfl (LLe.refl _) (.cons rfl (LLe.refl _) (.cons rfl (LLe.refl _) .nil))))) .nil rfl rfl) ⟨by omega, rfl⟩ ?_
  rintro i s ⟨hi, rfl⟩
  refine Tr.seq (Tr.seqR rfl (by simp) (Tr.cond rfl rfl (fun h3 => Tr.skip ?_) (fun h3 => Tr.exit ?_)))
  · have h3 : i < (boxCells b.b).length := by simpa using h3
    have h3v : i < b.v.length := by omega
    obtain ⟨⟨x, y, z⟩, hp⟩ : ∃ p, (boxCells b.b)[i] = p := ⟨_, rfl⟩
    have hmem : (x, y, z) ∈ boxCells b.b := hp ▸ List.getElem_mem h3
    have hbd := cell_bd hbB hmem
    have hat : atV b (x, y, z) = b.v[i] := by rw [← hp]; exact cell_at hB h3 h3v
    have hci := c_index10 a.b x y z hmA (by simp only at hbd; omega)
    have hcl := List.countP_le_length (p := hasP a.b) (l := (boxCells b.b).take i)
    have htl : ((boxCells b.b).take i).length ≤ i := by rw [List.length_take]; omega
    have hct : ((boxCells b.b).take (i + 1)).countP (hasP a.b) = ((boxCells b.b).take i).countP (hasP a.b) + if hasB a.b x y z then 1 else 0 := by
      rw [List.take_add_one, List.getElem?_eq_getElem h3, hp, List.countP_append]
      simp [List.countP_cons, hasP]
    have hat2 : (((boxCells b.b).take (i + 1)).any fun p => hasP a.b p && (atV a p != atV b p)) = ((((boxCells b.b).take i).any fun p => hasP a.b p && (atV a p != atV b p)) || (hasB a.b x y z && (atV a (x, y, z) != b.v[i]))) := by
      rw [List.take_add_one, List.getElem?_eq_getElem h3, hp, List.any_append]
      simp [hasP, hat]
    by_cases hh : hasB a.b x y z = true
    · obtain ⟨i0, i1⟩ := idx_range hh
      obtain ⟨k, hk⟩ : ∃ k : Nat, idxOf a.b x y z = (k : Int) := ⟨(idxOf a.b x y z).toNat, by omega⟩
      have hkl : k < a.v.length := by unfold manyI at hlA; omega
      have hpk : atV a (x, y, z) = a.v[k] := atV_eq (p := (x, y, z)) hk hkl
      rw [show idxR a.b x y z = (k : Int) by unfold idxR; rw [if_pos hh, hk]] at hci
      rw [if_pos hh] at hct
      rw [hh, hpk, Bool.true_and] at hat2
      generalize (((boxCells b.b).take i).any fun p => hasP a.b p && (atV a p != atV b p)) = df at hat2 ⊢
      refine Tr.seq (Tr.block (Tr.seq (Tr.drawK (TraceK.runN 7 rfl (by simp [volC]; omega) ?_))))
      rw [getD_map h3, hp]
      refine TraceK.run rfl (by simp) (TraceK.call rfl rfl hci (TraceK.run rfl (by simp) (.done ⟨by kernel_rfl, by kernel_rfl, ?_⟩)))
      refine Tr.seqR rfl (by simp) (Tr.cond rfl rfl (fun h4 => ?_) (fun h4 => ?_))
      rotate_left
      · have h4 : decide ((k : Int) ≥ 0) = false := h4
        rw [decide_eq_false_iff_not] at h4; omega
      refine Tr.seqR rfl (by simp) (Tr.drawK (TraceK.runN 6 rfl (by simp [volC, intsV]; first | omega | exact fun e => ⟨by omega, e⟩ | exact fun e => by omega | trace_state) ?_))
      rw [getD_map hkl]
      refine TraceK.runN 5 rfl (by simp [volC, intsV]; first | omega | exact fun e => ⟨by omega, e⟩ | exact fun e => by omega | trace_state) ?_
      rw [getD_map h3v]
      refine TraceK.run rfl (by simp) (.done ⟨by kernel_rfl, by kernel_rfl, ?_⟩)
      refine Tr.regR rfl (by simp) ?_
      refine ⟨i + 1, _, Wk.le (.cons rfl (.refl _) (.cons rfl (.refl _) (.cons rfl (.refl _) (.cons rfl (.refl _) (.cons rfl (.refl _) (.cons rfl (.refl _) (.cons rfl (VLe.i ?_) (.cons rfl (.of_eq ?_) (.cons rfl (.refl _) (.cons rfl (VLe.i (w64 (by omega) (by omega))) .nil))))))))))
        (.cons rfl (LLe.refl _) (.cons rfl (LLe.refl _) (.cons rfl (LLe.refl _) (.cons rfl (LLe.refl _) (.cons rfl (LLe.refl _) .nil))))) .nil rfl rfl, ⟨h3, rfl⟩, by omega⟩
      · rw [hct]; push_cast; exact w64 (by omega) (by omega)
      · rw [hat2]
        cases df <;> rfl
    · have hh : hasB a.b x y z = false := by simpa using hh
      rw [show idxR a.b x y z = -1 by unfold idxR; rw [if_neg (by simp [hh])]] at hci
      rw [if_neg (by simp [hh])] at hct
      rw [hh, Bool.false_and, Bool.or_false] at hat2
      refine Tr.seq (Tr.block (Tr.seq (Tr.drawK (TraceK.runN 7 rfl (by simp [volC]; omega) ?_))))
      rw [getD_map h3, hp]
      refine TraceK.run rfl (by simp) (TraceK.call rfl rfl hci (TraceK.run rfl (by simp) (.done ⟨by kernel_rfl, by kernel_rfl, ?_⟩)))
      refine Tr.seqR rfl (by simp) (Tr.condF rfl (Tr.skip (Tr.regR rfl (by simp) ?_)))
      refine ⟨i + 1, _, Wk.le (.cons rfl (.refl _) (.cons rfl (.refl _) (.cons rfl (.refl _) (.cons rfl (.refl _) (.cons rfl (.refl _) (.cons rfl (.refl _) (.cons rfl (VLe.i ?_) (.cons rfl (.of_eq ?_) (.cons rfl (.refl _) (.cons rfl (VLe.i (w64 (by omega) (by omega))) .nil))))))))))
        (.cons rfl (LLe.refl _) (.cons rfl (LLe.refl _) (.cons rfl (LLe.refl _) (.cons rfl (LLe.refl _) (.cons rfl (LLe.refl _) .nil))))) .nil rfl rfl, ⟨h3, rfl⟩, by omega⟩
      · rw [hct]; rfl
      · rw [hat2]
  have h3 : i = (boxCells b.b).length := by simp at h3; omega
  subst h3
  rw [List.take_length]
  have hcnt : (((boxCells b.b).countP (hasP a.b) : Nat) : Int) = commonI a.b b.b := by rw [cnt_has b.b a.b (by omega), common_comm]
  rw [hcnt]
  have hany := any_box (a := a) (b := b) (u := u) fun p hp => by
    have hp : hasB b.b p.1 p.2.1 p.2.2 = true := hp
    show hasB u p.1 p.2.1 p.2.2 = true
    simp only [hasB, Bool.and_eq_true, btw_iff] at hp ⊢
    omega
  rw [← hany]
  have hcb : 0 ≤ commonI a.b b.b ∧ commonI a.b b.b ≤ 4096 := by
    have := List.countP_le_length (p := hasP a.b) (l := boxCells b.b)
    have := boxCells_len hsB
    omega
  have hq : 0 ≤ (a.v.length : Int) ∧ (a.v.length : Int) ≤ 4096 ∧ 0 ≤ (b.v.length : Int) ∧ (b.v.length : Int) ≤ 4096 := by
    have m1 := mul_bd (a := a.b.a) (b := a.b.b) (A := 16) (B := 16) (by omega) (by omega)
    have m2 := mul_bd (a := a.b.a * a.b.b) (b := a.b.c) (A := 256) (B := 16) (by omega) (by omega)
    have m3 := mul_bd (a := b.b.a) (b := b.b.b) (A := 16) (B := 16) (by omega) (by omega)
    have m4 := mul_bd (a := b.b.a * b.b.b) (b := b.b.c) (A := 256) (B := 16) (by omega) (by omega)
    unfold manyI at hlA hlB
    omega
  have hcnd : ∀ c : Bool, (IntKind.i64.wrap (IntKind.i64.wrap (((a.v.map I).length : Int) + ((b.v.map I).length : Int)) - commonI a.b b.b) != u.a * u.b * u.c) = c → c = !decide (manyI u = manyI a.b + manyI b.b - commonI a.b b.b) := by
    rintro c rfl
    rw [List.length_map, List.length_map, w64 (n := (a.v.length : Int) + (b.v.length : Int)) (by omega) (by omega), w64 (by omega) (by omega), hlA, hlB]
    show (_ != manyI u) = _
    rw [bne_comm]
    by_cases h : manyI u = manyI a.b + manyI b.b - commonI a.b b.b <;> simp [h]
  refine Tr.seq (Tr.seqR rfl (by simp [volC, intsV]) (Tr.cond rfl rfl (fun h1 => Tr.seqR rfl (by simp) (Tr.retX rfl rfl rfl ?_ trivial)) (fun h1 => Tr.skip ?_)))
  · have h2 := not_of (hcnd true h1)
    have h2 : ¬ manyI u = manyI a.b + manyI b.b - commonI a.b b.b := by simpa using h2
    simp [packR, joinR, hA, hB, ← hu, h2, errVol]
  have h2 := not_of (hcnd false h1)
  have h2 : manyI u = manyI a.b + manyI b.b - commonI a.b b.b := by simpa using h2
  have hcov : ∀ p ∈ boxCells u, hasP a.b p = true ∨ hasP b.b p = true := by
    rw [hu] at h2 ⊢; exact cover (by omega) (by omega) h2
  refine Tr.seq (Tr.seqC rfl (by simp) (Steps.call rfl rfl (c_box10 u) (Steps.fin rfl (by simp) (Tr.cond rfl rfl (fun h3 => Tr.seqR rfl (by simp) (Tr.retX rfl rfl rfl ?_ trivial)) (fun h3 => Tr.skip ?_)))))
  · have h3 : boxOk u = false := by simpa using h3
    have h3 : smallB u = false := by
      cases hs : smallB u with
      | false => rfl
      | true => rw [hu] at h3 hs; rw [around_ok hbA hbB hs] at h3; cases h3
    simp [packR, joinR, hA, hB, ← hu, h2, h3, errVol]
  have h3 : boxOk u = true := by simpa using h3
  obtain ⟨hsU, hmU⟩ := boxOk_spec h3
  have cU : cellOk u.x u.y u.z = true := by simp only [boxOk, Bool.and_eq_true] at h3; exact h3.1.2
  refine Tr.seq (Tr.seqR rfl (by simp) (Tr.cond rfl rfl (fun h4 => Tr.seqR rfl (by simp) (Tr.retX rfl rfl rfl ?_ trivial)) (fun h4 => Tr.skip ?_)))
  · simp [packR, joinR, hA, hB, ← hu, h2, hsU, h4, errVol]
  have hulen := boxCells_len hsU
  refine Tr.seqR rfl (by simp) (Tr.seqC rfl (by simp) (Steps.call rfl rfl (c_places10 u hsU cU) (Steps.fin rfl (by simp) ?_)))
  refine Tr.seq (Tr.seqR rfl (by simp) (Tr.block ?_))
  refine Tr.loop (fun i s => i ≤ (boxCells u).length ∧ s = { env := [(2, .ptr 2 0), (3, .ptr 3 0), (4, .ptr 4 0), (21, .ptr 21 0), (22, .slice 0 3 ((boxCells u).map fun p => .agg (cellC p.1 p.2.1 p.2.2))), (23, I i)], bx := [(2, ⟨volC a, false⟩), (3, ⟨volC b, false⟩), (4, ⟨[I 0, I 0, I 0, I 0, I 0, I 0, .nils], false⟩), (21, ⟨[I u.x, I u.y, I u.z, I u.a, I u.b, I u.c, .slice 194 1 (((boxCells u).take i).map fun p => I (pickV a b p))], false⟩)], rw := [(193, i, 1, 3)], log := [], stp := false }) (fun i => (boxCells u).length - i) 0
    (Wk.le (.cons rfl (.refl _) (.cons rfl (.refl _) (.cons rfl (.refl _) (.cons rfl (.refl _) (.cons rfl (.refl _) (.cons rfl (.refl _) .nil))))))
      (.cons rfl (LLe.refl _) (.cons rfl (LLe.refl _) (.cons rfl (LLe.refl _) (.cons rfl (.cons (.refl _) (.cons (.refl _) (.cons (.refl _) (.cons (.refl _) (.cons (.refl _) (.cons (.refl _) (.cons (.nil 194 1) .nil))))))) .nil)))) (.new rfl .nil) rfl rfl) ⟨by omega, rfl⟩ ?_
  rintro i s ⟨hi, rfl⟩
  refine Tr.seq (Tr.seqR rfl (by simp) (Tr.cond rfl rfl (fun h5 => Tr.skip ?_) (fun h5 => Tr.exit ?_)))
  rotate_left
  · have h5 : i = (boxCells u).length := by simp at h5; omega
    subst h5
    rw [List.take_length]
    refine Tr.seqR rfl (by simp) (Tr.retX rfl rfl rfl ?_ trivial)
    simp [packR, joinR, hA, hB, ← hu, h2, hsU, h4, volC, intsV]
  have h5 : i < (boxCells u).length := by simpa using h5
  obtain ⟨⟨x, y, z⟩, hp⟩ : ∃ p, (boxCells u)[i] = p := ⟨_, rfl⟩
  have hmem : (x, y, z) ∈ boxCells u := hp ▸ List.getElem_mem h5
  have hbd := cell_bd h3 hmem
  have hca := c_index10 a.b x y z hmA (by simp only at hbd; omega)
  have hcb := c_index10 b.b x y z hmB (by simp only at hbd; omega)
  have htk : (boxCells u).take (i + 1) = (boxCells u).take i ++ [(x, y, z)] := by rw [List.take_add_one, List.getElem?_eq_getElem h5, hp]; rfl
  by_cases hh : hasB a.b x y z = true
  · obtain ⟨i0, i1⟩ := idx_range hh
    obtain ⟨k, hk⟩ : ∃ k : Nat, idxOf a.b x y z = (k : Int) := ⟨(idxOf a.b x y z).toNat, by omega⟩
    have hkl : k < a.v.length := by unfold manyI at hlA; omega
    have hpk : pickV a b (x, y, z) = a.v[k] := by rw [pick_a (p := (x, y, z)) hh]; exact atV_eq (p := (x, y, z)) hk hkl
    rw [show idxR a.b x y z = (k : Int) by unfold idxR; rw [if_pos hh, hk]] at hca
    refine Tr.seq (Tr.block (Tr.seq (Tr.drawK (TraceK.runN 7 rfl (by simp [volC]; omega) ?_))))
    rw [getD_map h5, hp]
    refine TraceK.run rfl (by simp) (TraceK.call rfl rfl hca (TraceK.run rfl (by simp) (.done ⟨by kernel_rfl, by kernel_rfl, ?_⟩)))
    refine Tr.seqR rfl (by simp) (Tr.cond rfl rfl (fun h6 => ?_) (fun h6 => ?_))
    rotate_left
    · have h6 : decide ((k : Int) ≥ 0) = false := h6
      rw [decide_eq_false_iff_not] at h6; omega
    refine Tr.drawK (TraceK.runN 6 rfl (by simp [volC, intsV]; omega) ?_)
    rw [getD_map hkl]
    refine TraceK.run rfl (by simp; omega) (.done ⟨by kernel_rfl, by kernel_rfl, ?_⟩)
    refine Tr.regR rfl (by simp) ?_
    refine ⟨i + 1, _, Wk.le (.cons rfl (.refl _) (.cons rfl (.refl _) (.cons rfl (.refl _) (.cons rfl (.refl _) (.cons rfl (.refl _) (.cons rfl (VLe.i (w64 (by omega) (by omega))) .nil))))))
      (.cons rfl (LLe.refl _) (.cons rfl (LLe.refl _) (.cons rfl (LLe.refl _) (.cons rfl (.cons (.refl _) (.cons (.refl _) (.cons (.refl _) (.cons (.refl _) (.cons (.refl _) (.cons (.refl _) (.cons (.of_eq ?_) .nil))))))) .nil)))) (.cons ?_ .nil) rfl rfl, ⟨h5, rfl⟩, by omega⟩
    · rw [htk]; simp [hpk]
    · show some _ = some _
      simp; omega
  · have hh : hasB a.b x y z = false := by simpa using hh
    have hh2 : hasB b.b x y z = true := by
      rcases hcov _ hmem with h | h
      · have h : hasB a.b x y z = true := h
        rw [hh] at h; cases h
      · exact h
    obtain ⟨i0, i1⟩ := idx_range hh2
    obtain ⟨k, hk⟩ : ∃ k : Nat, idxOf b.b x y z = (k : Int) := ⟨(idxOf b.b x y z).toNat, by omega⟩
    have hkl : k < b.v.length := by unfold manyI at hlB; omega
    have hpk : pickV a b (x, y, z) = b.v[k] := by
      unfold pickV
      rw [if_neg (by simp [hasP, hh])]; exact atV_eq (p := (x, y, z)) hk hkl
    rw [show idxR a.b x y z = -1 by unfold idxR; rw [if_neg (by simp [hh])]] at hca
    rw [show idxR b.b x y z = (k : Int) by unfold idxR; rw [if_pos hh2, hk]] at hcb
    refine Tr.seq (Tr.block (Tr.seq (Tr.drawK (TraceK.runN 7 rfl (by simp [volC]; omega) ?_))))
    rw [getD_map h5, hp]
    refine TraceK.run rfl (by simp) (TraceK.call rfl rfl hca (TraceK.run rfl (by simp) (.done ⟨by kernel_rfl, by kernel_rfl, ?_⟩)))
    refine Tr.seqR rfl (by simp) (Tr.condF rfl ?_)
    refine Tr.seq (Tr.drawK (TraceK.runN 7 rfl (by simp [volC]; omega) ?_))
    rw [getD_map h5, hp]
    refine TraceK.run rfl (by simp) (TraceK.call rfl rfl hcb (TraceK.run rfl (by simp) (.done ⟨by kernel_rfl, by kernel_rfl, ?_⟩)))
    refine Tr.seqR rfl (by simp) (Tr.cond rfl rfl (fun h6 => ?_) (fun h6 => ?_))
    rotate_left
    · have h6 : decide ((k : Int) ≥ 0) = false := h6
      rw [decide_eq_false_iff_not] at h6; omega
    refine Tr.drawK (TraceK.runN 6 rfl (by simp [volC, intsV]; omega) ?_)
    rw [getD_map hkl]
    refine TraceK.run rfl (by simp; omega) (.done ⟨by kernel_rfl, by kernel_rfl, ?_⟩)
    refine Tr.regR rfl (by simp) ?_
    refine ⟨i + 1, _, Wk.le (.cons rfl (.refl _) (.cons rfl (.refl _) (.cons rfl (.refl _) (.cons rfl (.refl _) (.cons rfl (.refl _) (.cons rfl (VLe.i (w64 (by omega) (by omega))) .nil))))))
      (.cons rfl (LLe.refl _) (.cons rfl (LLe.refl _) (.cons rfl (LLe.refl _) (.cons rfl (.cons (.refl _) (.cons (.refl _) (.cons (.refl _) (.cons (.refl _) (.cons (.refl _) (.cons (.refl _) (.cons (.of_eq ?_) .nil))))))) .nil)))) (.cons ?_ .nil) rfl rfl, ⟨h5, rfl⟩, by omega⟩
    · rw [htk]; simp [hpk]
    · show some _ = some _
      simp; omega

end Go.Proofs.Ytkifejklnpddbaa

/-! The law VolumeJoins. -/
set_option linter.unusedVariables false
set_option linter.unusedSimpArgs false
set_option maxRecDepth 20000
set_option maxHeartbeats 2000000
namespace Go.Proofs.Ytkifejklnpddbaa
open Go.Am
attribute [local simp] cells scalar mkv splice under2 under dem dem1 boxC cellC volC

def noVol : Vol := ⟨⟨0, 0, 0, 0, 0, 0⟩, []⟩

theorem joined_len {a b : Vol} (h : joinOk a b) : (joined a b).v.length ≤ 4096 := by
  have := boxCells_len h.small
  simp only [joined, List.length_map]
  omega

theorem join_form (a b : Vol) : ∃ (w : Vol) (e : Int), joinR (intsV []) a b = .tuple [.agg (volC w), I e] ∧ w.v.length ≤ 9223372036854775807 := by
  by_cases h : joinOk a b
  · rcases join_cases (intsV []) a b with ⟨_, h1⟩ | ⟨h1, _⟩
    · exact ⟨_, _, h1, by have := joined_len h; omega⟩
    · exact absurd h h1
  · obtain ⟨e, _, h1⟩ := join_err h
    exact ⟨noVol, e, h1 _, by simp [noVol]⟩

theorem c_VolumeJoins (a b : Vol) (hla : a.v.length ≤ 9223372036854775807) (hlb : b.v.length ≤ 9223372036854775807) : C Try.prog F.law10_VolumeJoins [.agg (volC a), .agg (volC b)] (.bool true) := by
  obtain ⟨w, e, hr, hw⟩ := join_form a b
  have k1 := (c_Join a b hla hlb).le fun _ _ _ h => join_le h
  have k2 := (c_Join10 a b hla hlb).le fun _ _ _ h => join_le h
  rw [hr] at k1 k2
  refine C_of mixed chk.law10_VolumeJoins (by simp) fun S ok => ?_
  refine Tr.seqR rfl (by simp [intsV]) ?_
  refine Tr.seqC rfl (by simp) (Steps.call rfl rfl k1 (Steps.fin rfl (by simp [intsV]) ?_))
  refine Tr.seqC rfl (by simp) (Steps.call rfl rfl k2 (Steps.fin rfl (by simp [intsV]) ?_))
  refine Tr.seqC rfl (by simp) (Steps.call rfl rfl (c_SameVolume w w hw) (Steps.run rfl (by simp) ?_))
  refine Steps.gcall rfl rfl rfl rfl (by simp) (fun _ => c_works) (Steps.fin rfl (by simp) (Tr.retX rfl rfl rfl ?_ trivial))
  simp [packR]

end Go.Proofs.Ytkifejklnpddbaa

/-! The law VolumeAgrees. -/
set_option linter.unusedVariables false
set_option linter.unusedSimpArgs false
set_option maxRecDepth 20000
set_option maxHeartbeats 2000000
namespace Go.Proofs.Ytkifejklnpddbaa
open Go.Am
attribute [local simp] cells scalar mkv splice under2 under dem dem1 boxC cellC volC

theorem c_same (w : Vol) (hw : w.v.length ≤ 9223372036854775807) : C Try.prog F.ref10_SameVolume [.agg (volC w), .agg (volC w)] (.bool true) := by
  have h := c_SameVolume w w hw
  rw [decide_eq_true (by simp)] at h
  exact h

theorem cut_to {v w : Vol} {b : Bx} (hl : v.v.length ≤ 9223372036854775807) (hv : volOk v = true) (hc : cutOk v b = true) (hw : part v b = w) : C Try.prog F.volume_Cut [.agg (volC v), .agg (cellC b.x b.y b.z), .agg (cellC b.a b.b b.c)] (.tuple [.agg (volC w), I 0]) := by
  have h := c_Cut v b hl
  rw [show cutR .nils v b = .tuple [.agg (volC w), I 0] by unfold cutR; rw [if_pos hv, if_pos hc, hw]] at h
  exact h

theorem c_VolumeAgrees (a b : Vol) (hla : a.v.length ≤ 9223372036854775807) (hlb : b.v.length ≤ 9223372036854775807) : C Try.prog F.law10_VolumeAgrees [.agg (volC a), .agg (volC b)] (.bool true) := by
  have k1 := (c_Join a b hla hlb).le fun _ _ _ h => join_le h
  have k2 := (c_Join b a hlb hla).le fun _ _ _ h => join_le h
  refine C_of mixed chk.law10_VolumeAgrees (by simp) fun S ok => ?_
  refine Tr.seqR rfl (by simp [intsV]) ?_
  by_cases h : joinOk a b
  · rcases join_cases (intsV []) a b with ⟨_, h1⟩ | ⟨h1, _⟩
    rotate_left
    · exact absurd h h1
    rcases join_cases (intsV []) b a with ⟨_, h2⟩ | ⟨h2, _⟩
    rotate_left
    · exact absurd h.comm h2
    rw [h1] at k1
    rw [h2, ← joined_comm h] at k2
    have hxl : (joined a b).v.length ≤ 9223372036854775807 := by have := joined_len h; omega
    have k3 := cut_to hxl (joined_ok h) (cut_a h).1 (cut_a h).2
    have k4 := cut_to hxl (joined_ok h) (cut_b h).1 (cut_b h).2
    generalize joined a b = w at k1 k2 k3 k4 hxl
    refine Tr.seqC rfl (by simp) (Steps.call rfl rfl k1 (Steps.fin rfl (by simp [intsV]) ?_))
    refine Tr.seqC rfl (by simp) (Steps.call rfl rfl k2 (Steps.fin rfl (by simp [intsV]) ?_))
    refine Tr.seq (Tr.seqR rfl (by simp) (Tr.condF rfl (Tr.skip ?_)))
    refine Tr.seqC rfl (by simp) (Steps.call rfl rfl k3 (Steps.fin rfl (by simp [intsV]) ?_))
    refine Tr.seqC rfl (by simp) (Steps.call rfl rfl k4 (Steps.fin rfl (by simp [intsV]) ?_))
    refine Tr.seqC rfl (by simp) (Steps.gcall rfl rfl rfl rfl (by simp) (fun _ => c_same w hxl) (Steps.run rfl (by simp) ?_))
    refine Steps.gcall rfl rfl rfl rfl (by simp) (fun _ => c_same a hla) (Steps.run rfl (by simp) ?_)
    refine Steps.gcall rfl rfl rfl rfl (by simp) (fun _ => c_same b hlb) (Steps.run rfl (by simp) ?_)
    refine Steps.gcall rfl rfl rfl rfl (by simp) (fun _ => c_works) (Steps.fin rfl (by simp) (Tr.retX rfl rfl rfl ?_ trivial))
    simp [packR]
  · obtain ⟨e, he, h1⟩ := join_err h
    obtain ⟨f, hf, h2⟩ := join_err (a := b) (b := a) (fun h' => h h'.comm)
    rw [h1] at k1
    rw [h2] at k2
    refine Tr.seqC rfl (by simp) (Steps.call rfl rfl k1 (Steps.fin rfl (by simp [intsV]) ?_))
    refine Tr.seqC rfl (by simp) (Steps.call rfl rfl k2 (Steps.fin rfl (by simp [intsV]) ?_))
    refine Tr.seq (Tr.seqR rfl (by simp) (Tr.cond rfl rfl (fun h3 => ?_) (fun h3 => ?_)))
    rotate_left
    · have h3 : (e != 0) = false := h3
      simp at h3; exact absurd h3 he
    refine Tr.seqC rfl (by simp [intsV]) (Steps.gcall rfl rfl rfl rfl (by simp) (fun _ => c_works) (Steps.fin rfl (by simp) (Tr.retX rfl rfl rfl ?_ trivial)))
    simp [packR, hf, intsV]

end Go.Proofs.Ytkifejklnpddbaa

/-! Contracts: volumes that are checked, and their parts in the specification. -/
set_option linter.unusedVariables false
set_option linter.unusedSimpArgs false
set_option maxRecDepth 20000
set_option maxHeartbeats 2000000
namespace Go.Proofs.Ytkifejklnpddbaa
open Go.Am
attribute [local simp] cells scalar mkv splice under2 under dem dem1 boxC cellC

theorem c_CheckVolume (v : Vol) (hl : v.v.length ≤ 9223372036854775807) : C Try.prog F.volume_CheckVolume [.agg (volC v)] (I (if volOk v then 0 else 101)) := by
  refine C_of mixed chk.volume_CheckVolume (by simp) fun S ok => ?_
  refine Tr.seqR rfl (by simp [volC, intsV]) ?_
  have h := c_blockOf v hl
  unfold blockR at h
  cases hv : volOk v with
  | true =>
    rw [hv] at h
    exact Tr.seqC rfl (by simp [volC]) (Steps.call rfl rfl h (Steps.fin rfl (by simp [volC, intsV]) (Tr.seqR rfl (by simp) (Tr.retX rfl rfl rfl rfl trivial))))
  | false =>
    rw [hv] at h
    exact Tr.seqC rfl (by simp [volC]) (Steps.call rfl rfl h (Steps.fin rfl (by simp [volC, intsV]) (Tr.seqR rfl (by simp) (Tr.retX rfl rfl rfl rfl trivial))))

theorem cut_all {v : Vol} {b : Bx} (hb : boxOk b = true) (h : ∀ p ∈ boxCells b, hasP v.b p = true) : cutOk v b = true := by
  have g := small_spec (boxOk_spec hb).1
  unfold cutOk
  rw [hb, Bool.true_and, Bool.and_eq_true]
  constructor
  · refine h _ (mem_box.2 ?_)
    show hasB b b.x b.y b.z = true
    simp only [hasB, Bool.and_eq_true, btw_iff]; omega
  · refine h _ (mem_box.2 ?_)
    show hasB b (b.x + b.a - 1) (b.y + b.b - 1) (b.z + b.c - 1) = true
    simp only [hasB, Bool.and_eq_true, btw_iff]; omega

theorem c_Cut10 (v : Vol) (b : Bx) (hl : v.v.length ≤ 9223372036854775807) : C Try.prog F.ref10_Cut [.agg (volC v), .agg (cellC b.x b.y b.z), .agg (cellC b.a b.b b.c)] (cutR .nils v b) := by
  refine C_of mixed chk.ref10_Cut (by simp) fun S ok => ?_
  refine Tr.seqR rfl (by simp [volC, intsV]) ?_
  have hr := c_CheckVolume10 v hl
  by_cases hV : volOk v = true
  rotate_left
  · have hV : volOk v = false := by simpa using hV
    rw [hV] at hr
    refine Tr.seq (Tr.seqC rfl (by simp [volC]) (Steps.call rfl rfl hr (Steps.fin rfl (by simp) ?_)))
    refine Tr.seqR rfl (by simp) (Tr.condT rfl (Tr.seqR rfl (by simp) (Tr.retX rfl rfl rfl ?_ trivial)))
    simp [packR, cutR, hV, errVol]
  rw [hV] at hr
  refine Tr.seq (Tr.seqC rfl (by simp [volC]) (Steps.call rfl rfl hr (Steps.fin rfl (by simp [volC, intsV]) ?_)))
  refine Tr.seqR rfl (by simp) (Tr.condF rfl (Tr.skip ?_))
  obtain ⟨hbV, hlV, hvV⟩ := volOk_spec hV
  obtain ⟨hsV, hmV⟩ := boxOk_spec hbV
  refine Tr.seq (Tr.seqC rfl (by simp) (Steps.call rfl rfl (c_box10 b) (Steps.fin rfl (by simp) (Tr.cond rfl rfl (fun h3 => Tr.seqR rfl (by simp) (Tr.retX rfl rfl rfl ?_ trivial)) (fun h3 => Tr.skip ?_)))))
  · have h3 : boxOk b = false := by simpa using h3
    have : cutOk v b = false := by unfold cutOk; rw [h3]; rfl
    simp [packR, cutR, hV, this, errVol]
  have h3 : boxOk b = true := by simpa using h3
  obtain ⟨hsB, hmB⟩ := boxOk_spec h3
  have cB : cellOk b.x b.y b.z = true := by have := h3; simp only [boxOk, Bool.and_eq_true] at this; exact this.1.2
  have hlen := boxCells_len hsB
  refine Tr.seqR rfl (by simp) (Tr.seqC rfl (by simp) (Steps.call rfl rfl (c_places10 b hsB cB) (Steps.fin rfl (by simp) ?_)))
  refine Tr.seq (Tr.seqR rfl (by simp) (Tr.block ?_))
  refine Tr.loop (fun i s => (i ≤ (boxCells b).length ∧ ∀ p ∈ (boxCells b).take i, hasP v.b p = true) ∧ s = { env := [(3, .ptr 3 0), (6, .ptr 6 0), (9, .ptr 9 0), (10, .slice 0 3 ((boxCells b).map fun p => .agg (cellC p.1 p.2.1 p.2.2))), (11, I i)], bx := [(3, ⟨volC v, false⟩), (6, ⟨[I 0, I 0, I 0, I 0, I 0, I 0, .nils], false⟩), (9, ⟨[I b.x, I b.y, I b.z, I b.a, I b.b, I b.c, .slice 57 1 (((boxCells b).take i).map fun p => I (atV v p))], false⟩)], rw := [(56, i, 1, 3)], log := [], stp := false }) (fun i => (boxCells b).length - i) 0
    (Wk.le (.cons rfl (.refl _) (.cons rfl (.refl _) (.cons rfl (.refl _) (.cons rfl (.refl _) (.cons rfl (.refl _) .nil)))))
      (.cons rfl (LLe.refl _) (.cons rfl (LLe.refl _) (.cons rfl (.cons (.refl _) (.cons (.refl _) (.cons (.refl _) (.cons (.refl _) (.cons (.refl _) (.cons (.refl _) (.cons (.nil 57 1) .nil))))))) .nil))) (.new rfl .nil) rfl rfl) ⟨⟨by omega, by simp⟩, rfl⟩ ?_
  rintro i s ⟨⟨hi, hAll⟩, rfl⟩
  refine Tr.seq (Tr.seqR rfl (by simp) (Tr.cond rfl rfl (fun h5 => Tr.skip ?_) (fun h5 => Tr.exit ?_)))
  rotate_left
  · have h5 : i = (boxCells b).length := by simp at h5; omega
    subst h5
    rw [List.take_length] at hAll ⊢
    have hc := cut_all h3 hAll
    refine Tr.seqR rfl (by simp) (Tr.retX rfl rfl rfl ?_ trivial)
    simp [packR, cutR, hV, hc, part, volC, intsV]
  have h5 : i < (boxCells b).length := by simpa using h5
  obtain ⟨⟨x, y, z⟩, hp⟩ : ∃ p, (boxCells b)[i] = p := ⟨_, rfl⟩
  have hmem : (x, y, z) ∈ boxCells b := hp ▸ List.getElem_mem h5
  have hbd := cell_bd h3 hmem
  have hca := c_index10 v.b x y z hmV (by simp only at hbd; omega)
  have htk : (boxCells b).take (i + 1) = (boxCells b).take i ++ [(x, y, z)] := by rw [List.take_add_one, List.getElem?_eq_getElem h5, hp]; rfl
  by_cases hh : hasB v.b x y z = true
  · obtain ⟨i0, i1⟩ := idx_range hh
    obtain ⟨k, hk⟩ : ∃ k : Nat, idxOf v.b x y z = (k : Int) := ⟨(idxOf v.b x y z).toNat, by omega⟩
    have hkl : k < v.v.length := by unfold manyI at hlV; omega
    have hpk : atV v (x, y, z) = v.v[k] := atV_eq (p := (x, y, z)) hk hkl
    rw [show idxR v.b x y z = (k : Int) by unfold idxR; rw [if_pos hh, hk]] at hca
    refine Tr.seq (Tr.block (Tr.seq (Tr.drawK (TraceK.runN 7 rfl (by simp [volC]; omega) ?_))))
    rw [getD_map h5, hp]
    refine TraceK.run rfl (by simp) (TraceK.call rfl rfl hca (TraceK.run rfl (by simp) (.done ⟨by kernel_rfl, by kernel_rfl, ?_⟩)))
    refine Tr.seq (Tr.seqR rfl (by simp) (Tr.cond rfl rfl (fun h6 => ?_) (fun h6 => Tr.skip ?_)))
    · have h6 : decide ((k : Int) < 0) = true := h6
      rw [decide_eq_true_eq] at h6; omega
    refine Tr.drawK (TraceK.runN 6 rfl (by simp [volC, intsV]; omega) ?_)
    rw [getD_map hkl]
    refine TraceK.run rfl (by simp; omega) (.done ⟨by kernel_rfl, by kernel_rfl, ?_⟩)
    refine Tr.regR rfl (by simp) ?_
    refine ⟨i + 1, _, Wk.le (.cons rfl (.refl _) (.cons rfl (.refl _) (.cons rfl (.refl _) (.cons rfl (.refl _) (.cons rfl (VLe.i (w64 (by omega) (by omega))) .nil)))))
      (.cons rfl (LLe.refl _) (.cons rfl (LLe.refl _) (.cons rfl (.cons (.refl _) (.cons (.refl _) (.cons (.refl _) (.cons (.refl _) (.cons (.refl _) (.cons (.refl _) (.cons (.of_eq ?_) .nil))))))) .nil))) (.cons ?_ .nil) rfl rfl, ⟨⟨h5, ?_⟩, rfl⟩, by omega⟩
    · rw [htk]; simp [hpk]
    · show some _ = some _
      simp; omega
    · intro p hp'
      rw [htk, List.mem_append] at hp'
      rcases hp' with h | h
      · exact hAll p h
      · rw [List.mem_singleton] at h
        subst h; exact hh
  · have hh : hasB v.b x y z = false := by simpa using hh
    have hc : cutOk v b = false := by
      cases hcc : cutOk v b with
      | false => rfl
      | true =>
        have h : hasB v.b x y z = true := mem_box.1 (cut_in hcc hmem)
        rw [hh] at h; cases h
    rw [show idxR v.b x y z = -1 by unfold idxR; rw [if_neg (by simp [hh])]] at hca
    refine Tr.seq (Tr.block (Tr.seq (Tr.drawK (TraceK.runN 7 rfl (by simp [volC]; omega) ?_))))
    rw [getD_map h5, hp]
    refine TraceK.run rfl (by simp) (TraceK.call rfl rfl hca (TraceK.run rfl (by simp) (.done ⟨by kernel_rfl, by kernel_rfl, ?_⟩)))
    refine Tr.seq (Tr.seqR rfl (by simp) (Tr.condT rfl (Tr.seqR rfl (by simp) (Tr.retX rfl rfl rfl ?_ trivial))))
    simp [packR, cutR, hV, hc, errVol]

end Go.Proofs.Ytkifejklnpddbaa

/-! Contracts: seals of volumes. -/
set_option linter.unusedVariables false
set_option linter.unusedSimpArgs false
set_option maxRecDepth 20000
set_option maxHeartbeats 2000000
namespace Go.Proofs.Ytkifejklnpddbaa
open Go.Am
attribute [local simp] cells scalar mkv splice under2 under dem dem1 boxC cellC

def stepS (n x : Int) : Int := (n * 48271 + x + 2199023255552) % 2147483647
def boxL (b : Bx) : List Int := [b.x, b.y, b.z, b.a, b.b, b.c]
def sealOf (v : Vol) : Int := (boxL v.b ++ v.v).foldl stepS 1
def sealR (v : Vol) : V := if volOk v then .tuple [I (sealOf v), I 0] else .tuple [I 0, I 101]

theorem stepS_bd (n x : Int) : 0 ≤ stepS n x ∧ stepS n x < 2147483647 := ⟨Int.emod_nonneg _ (by omega), Int.emod_lt_of_pos _ (by omega)⟩

theorem stepS_eq {n x : Int} (hn : 0 ≤ n ∧ n < 2147483647) (hx : -1099511627776 ≤ x ∧ x ≤ 1099511627776) :
    (IntKind.i64.wrap (IntKind.i64.wrap (IntKind.i64.wrap (n * 48271) + x) + 2199023255552)).tmod 2147483647 = stepS n x := by
  rw [w64 (n := n * 48271) (by omega) (by omega), w64 (n := n * 48271 + x) (by omega) (by omega), w64 (by omega) (by omega)]
  exact Int.tmod_eq_emod_of_nonneg (by omega)

theorem fold_bd (l : List Int) (n : Int) (hn : 0 ≤ n ∧ n < 2147483647) : 0 ≤ l.foldl stepS n ∧ l.foldl stepS n < 2147483647 := by
  induction l generalizing n with
  | nil => exact hn
  | cons x r ih => exact ih _ (stepS_bd n x)

theorem boxL_bd {b : Bx} (h : boxOk b = true) : ∀ x ∈ boxL b, -1099511627776 ≤ x ∧ x ≤ 1099511627776 := by
  have g := small_spec (boxOk_spec h).1
  simp only [boxOk, Bool.and_eq_true, cellOk, btw_iff] at h
  intro x hx
  simp only [boxL, List.mem_cons, List.not_mem_nil, or_false] at hx
  omega

theorem c_Seal10 (v : Vol) (hl : v.v.length ≤ 9223372036854775807) : C Try.prog F.ref10_Seal [.agg (volC v)] (sealR v) := by
  refine C_of mixed chk.ref10_Seal (by simp) fun S ok => ?_
  refine Tr.seqR rfl (by simp [volC, intsV]) ?_
  have hr := c_CheckVolume10 v hl
  by_cases hV : volOk v = true
  rotate_left
  · have hV : volOk v = false := by simpa using hV
    rw [hV] at hr
    refine Tr.seq (Tr.seqC rfl (by simp [volC]) (Steps.call rfl rfl hr (Steps.fin rfl (by simp) ?_)))
    refine Tr.seqR rfl (by simp) (Tr.condT rfl (Tr.seqR rfl (by simp) (Tr.retX rfl rfl rfl ?_ trivial)))
    simp [packR, sealR, hV]
  rw [hV] at hr
  refine Tr.seq (Tr.seqC rfl (by simp [volC]) (Steps.call rfl rfl hr (Steps.fin rfl (by simp [volC, intsV]) ?_)))
  refine Tr.seqR rfl (by simp) (Tr.condF rfl (Tr.skip ?_))
  obtain ⟨hbV, hlV, hvV⟩ := volOk_spec hV
  have hlen := boxCells_len (boxOk_spec hbV).1
  have hl4 : v.v.length ≤ 4096 := by
    have g := small_spec (boxOk_spec hbV).1
    have := boxCells_len' v.b (by omega)
    unfold manyI at hlV; omega
  refine Tr.seqR rfl (by simp) (Tr.seq (Tr.seqR rfl (by simp) (Tr.block ?_)))
  refine Tr.weak (s' := { env := [(1, .ptr 1 0), (5, .slice 26 1 []), (6, I 0)], bx := [(1, ⟨[I v.b.x, I v.b.y, I v.b.z, I v.b.a, I v.b.b, I v.b.c, intsV v.v], false⟩)], rw := [(25, 0, 1, 3)], log := [], stp := false })
    (Wk.le (.cons rfl (.refl _) (.cons rfl (.nil 26 1) (.cons rfl (.refl _) .nil))) (.cons rfl (LLe.refl _) .nil) (.new rfl .nil) rfl rfl) ?_
  refine Tr.rounds 4 (TrN.succ ?_)
  refine Tr.seq (Tr.seqR rfl (by simp) (Tr.condT rfl (Tr.skip ?_)))
  refine Tr.seq (Tr.block ?_)
  refine Tr.regR rfl (by simp [volC]) (Tr.regR rfl (by simp) (TrN.succ ?_))
  refine Tr.weak (s' := { env := [(1, .ptr 1 0), (5, .slice 26 1 [I v.b.x]), (6, I 1)], bx := [(1, ⟨volC v, false⟩)], rw := [(25, 1, 1, 3)], log := [], stp := false })
    (Wk.le (.cons rfl (.refl _) (.cons rfl (.refl _) (.cons rfl (.refl _) .nil))) (.cons rfl (LLe.refl _) .nil) (.cons rfl .nil) rfl rfl) ?_
  refine Tr.seq (Tr.seqR rfl (by simp) (Tr.condT rfl (Tr.skip ?_)))
  refine Tr.seq (Tr.block ?_)
  refine Tr.regR rfl (by simp [volC]) (Tr.regR rfl (by simp) (TrN.succ ?_))
  refine Tr.weak (s' := { env := [(1, .ptr 1 0), (5, .slice 26 1 [I v.b.x, I v.b.y]), (6, I 2)], bx := [(1, ⟨volC v, false⟩)], rw := [(25, 2, 1, 3)], log := [], stp := false })
    (Wk.le (.cons rfl (.refl _) (.cons rfl (.refl _) (.cons rfl (.refl _) .nil))) (.cons rfl (LLe.refl _) .nil) (.cons rfl .nil) rfl rfl) ?_
  refine Tr.seq (Tr.seqR rfl (by simp) (Tr.condT rfl (Tr.skip ?_)))
  refine Tr.seq (Tr.block ?_)
  refine Tr.regR rfl (by simp [volC]) (Tr.regR rfl (by simp) (TrN.succ ?_))
  refine Tr.weak (s' := { env := [(1, .ptr 1 0), (5, .slice 26 1 [I v.b.x, I v.b.y, I v.b.z]), (6, I 3)], bx := [(1, ⟨volC v, false⟩)], rw := [(25, 3, 1, 3)], log := [], stp := false })
    (Wk.le (.cons rfl (.refl _) (.cons rfl (.refl _) (.cons rfl (.refl _) .nil))) (.cons rfl (LLe.refl _) .nil) (.cons rfl .nil) rfl rfl) ?_
  refine Tr.seq (Tr.seqR rfl (by simp) (Tr.condF rfl (Tr.exit ?_)))
  refine Tr.seq (Tr.seqR rfl (by simp) (Tr.block ?_))
  refine Tr.rounds 4 (TrN.succ ?_)
  refine Tr.seq (Tr.seqR rfl (by simp) (Tr.condT rfl (Tr.skip ?_)))
  refine Tr.seq (Tr.block ?_)
  refine Tr.regR rfl (by simp [volC]) (Tr.regR rfl (by simp) (TrN.succ ?_))
  refine Tr.weak (s' := { env := [(1, .ptr 1 0), (5, .slice 26 1 [I v.b.x, I v.b.y, I v.b.z, I v.b.a]), (7, I 1)], bx := [(1, ⟨volC v, false⟩)], rw := [(25, 4, 1, 3)], log := [], stp := false })
    (Wk.le (.cons rfl (.refl _) (.cons rfl (.refl _) (.cons rfl (.refl _) .nil))) (.cons rfl (LLe.refl _) .nil) (.cons rfl .nil) rfl rfl) ?_
  refine Tr.seq (Tr.seqR rfl (by simp) (Tr.condT rfl (Tr.skip ?_)))
  refine Tr.seq (Tr.block ?_)
  refine Tr.regR rfl (by simp [volC]) (Tr.regR rfl (by simp) (TrN.succ ?_))
  refine Tr.weak (s' := { env := [(1, .ptr 1 0), (5, .slice 26 1 [I v.b.x, I v.b.y, I v.b.z, I v.b.a, I v.b.b]), (7, I 2)], bx := [(1, ⟨volC v, false⟩)], rw := [(25, 5, 1, 3)], log := [], stp := false })
    (Wk.le (.cons rfl (.refl _) (.cons rfl (.refl _) (.cons rfl (.refl _) .nil))) (.cons rfl (LLe.refl _) .nil) (.cons rfl .nil) rfl rfl) ?_
  refine Tr.seq (Tr.seqR rfl (by simp) (Tr.condT rfl (Tr.skip ?_)))
  refine Tr.seq (Tr.block ?_)
  refine Tr.regR rfl (by simp [volC]) (Tr.regR rfl (by simp) (TrN.succ ?_))
  refine Tr.weak (s' := { env := [(1, .ptr 1 0), (5, .slice 26 1 [I v.b.x, I v.b.y, I v.b.z, I v.b.a, I v.b.b, I v.b.c]), (7, I 3)], bx := [(1, ⟨volC v, false⟩)], rw := [(25, 6, 1, 3)], log := [], stp := false })
    (Wk.le (.cons rfl (.refl _) (.cons rfl (.refl _) (.cons rfl (.refl _) .nil))) (.cons rfl (LLe.refl _) .nil) (.cons rfl .nil) rfl rfl) ?_
  refine Tr.seq (Tr.seqR rfl (by simp) (Tr.condF rfl (Tr.exit ?_)))
  refine Tr.seqR rfl (by simp [volC, intsV]; omega) ?_
  have hb6 : (boxL v.b ++ v.v).length = 6 + v.v.length := by simp [boxL]; omega
  have hbd : ∀ x ∈ boxL v.b ++ v.v, -1099511627776 ≤ x ∧ x ≤ 1099511627776 := by
    intro x hx
    rcases List.mem_append.1 hx with h | h
    · exact boxL_bd hbV x h
    · exact hvV x h
  have el : (([I v.b.x, I v.b.y, I v.b.z, I v.b.a, I v.b.b, I v.b.c] : List V) ++ v.v.map I) = (boxL v.b ++ v.v).map I := by simp [boxL]
  refine Tr.seqR rfl (by simp) (Tr.seq (Tr.seqR rfl (by simp) (Tr.block ?_)))
  refine Tr.loop (fun i s => i ≤ (boxL v.b ++ v.v).length ∧ s = { env := [(5, .slice 0 1 ((boxL v.b ++ v.v).map I)), (8, I (((boxL v.b ++ v.v).take i).foldl stepS 1)), (9, I i)], bx := [], rw := [], log := [], stp := false }) (fun i => (boxL v.b ++ v.v).length - i) 0
    (Wk.le (.cons rfl (by rw [← el]; exact .dem _ _ _) (.cons rfl (.refl _) (.cons rfl (.refl _) .nil))) .nil .nil rfl rfl) ⟨by omega, rfl⟩ ?_
  rintro i s ⟨hi, rfl⟩
  refine Tr.seq (Tr.seqR rfl (by simp) (Tr.cond rfl rfl (fun h5 => Tr.skip ?_) (fun h5 => Tr.exit ?_)))
  rotate_left
  · have h5 : i = (boxL v.b ++ v.v).length := by simp at h5; simp at hi; simp; omega
    subst h5
    rw [List.take_length]
    refine Tr.seqR rfl (by simp) (Tr.retX rfl rfl rfl ?_ trivial)
    simp only [packR, sealR, hV]; rfl
  have h5 : i < (boxL v.b ++ v.v).length := by simp at h5 ⊢; omega
  refine Tr.seq (Tr.block (Tr.reg (Steps.runN 5 rfl (by simp; simp at h5; omega) ?_)))
  rw [getD_map h5]
  refine Steps.fin rfl (by simp) (Tr.regR rfl (by simp) ?_)
  obtain ⟨x, hx⟩ : ∃ x, (boxL v.b ++ v.v)[i] = x := ⟨_, rfl⟩
  have hxb := hbd x (hx ▸ List.getElem_mem h5)
  have hfb := fold_bd ((boxL v.b ++ v.v).take i) 1 (by omega)
  refine ⟨i + 1, _, Wk.le (.cons rfl (.refl _) (.cons rfl (VLe.i ?_) (.cons rfl (VLe.i (w64 (by omega) (by omega))) .nil))) .nil .nil rfl rfl, ⟨h5, rfl⟩, by omega⟩
  rw [hx, List.take_add_one, List.getElem?_eq_getElem h5, hx, List.foldl_append]
  exact stepS_eq hfb hxb

theorem c_Seal (v : Vol) (hl : v.v.length ≤ 9223372036854775807) : C Try.prog F.volume_Seal [.agg (volC v)] (sealR v) := by
  refine C_of mixed chk.volume_Seal (by simp) fun S ok => ?_
  refine Tr.seqR rfl (by simp [volC, intsV]) ?_
  have hr := c_blockOf v hl
  unfold blockR at hr
  by_cases hV : volOk v = true
  rotate_left
  · have hV : volOk v = false := by simpa using hV
    rw [hV] at hr
    refine Tr.seqC rfl (by simp [volC]) (Steps.call rfl rfl hr (Steps.fin rfl (by simp) ?_))
    refine Tr.seq (Tr.seqR rfl (by simp) (Tr.condT rfl (Tr.seqR rfl (by simp) (Tr.retX rfl rfl rfl ?_ trivial))))
    simp [packR, sealR, hV]
  rw [hV] at hr
  obtain ⟨hbV, hlV, hvV⟩ := volOk_spec hV
  have hl4 : v.v.length ≤ 4096 := by
    have hlen := boxCells_len (boxOk_spec hbV).1
    have g := small_spec (boxOk_spec hbV).1
    have := boxCells_len' v.b (by omega)
    unfold manyI at hlV; omega
  have hb := boxL_bd hbV
  simp only [boxL, List.mem_cons, List.not_mem_nil, or_false, forall_eq_or_imp, forall_eq] at hb
  obtain ⟨b0, b1, b2, b3, b4, b5⟩ := hb
  refine Tr.seqC rfl (by simp [volC]) (Steps.call rfl rfl hr (Steps.fin rfl (by simp [volC, intsV]) ?_))
  refine Tr.seq (Tr.seqR rfl (by simp) (Tr.condF rfl (Tr.skip ?_)))
  refine Tr.seqR rfl (by simp) (Tr.seq (Tr.seqD rfl (by simp [volC, intsV]) (by kernel_rfl) (Tr.block ?_)))
  obtain ⟨s0, h0⟩ : ∃ s0 : Int, s0 = 1 := ⟨_, rfl⟩
  have g0 : 0 ≤ s0 ∧ s0 < 2147483647 := by omega
  obtain ⟨s1, h1⟩ : ∃ s1, s1 = stepS s0 v.b.x := ⟨_, rfl⟩
  have g1 : 0 ≤ s1 ∧ s1 < 2147483647 := h1 ▸ stepS_bd _ _
  obtain ⟨s2, h2⟩ : ∃ s2, s2 = stepS s1 v.b.y := ⟨_, rfl⟩
  have g2 : 0 ≤ s2 ∧ s2 < 2147483647 := h2 ▸ stepS_bd _ _
  obtain ⟨s3, h3⟩ : ∃ s3, s3 = stepS s2 v.b.z := ⟨_, rfl⟩
  have g3 : 0 ≤ s3 ∧ s3 < 2147483647 := h3 ▸ stepS_bd _ _
  obtain ⟨s4, h4⟩ : ∃ s4, s4 = stepS s3 v.b.a := ⟨_, rfl⟩
  have g4 : 0 ≤ s4 ∧ s4 < 2147483647 := h4 ▸ stepS_bd _ _
  obtain ⟨s5, h5⟩ : ∃ s5, s5 = stepS s4 v.b.b := ⟨_, rfl⟩
  have g5 : 0 ≤ s5 ∧ s5 < 2147483647 := h5 ▸ stepS_bd _ _
  obtain ⟨s6, h6⟩ : ∃ s6, s6 = stepS s5 v.b.c := ⟨_, rfl⟩
  have g6 : 0 ≤ s6 ∧ s6 < 2147483647 := h6 ▸ stepS_bd _ _
  have hseal : sealOf v = v.v.foldl stepS s6 := by
    rw [h6, h5, h4, h3, h2, h1, h0]
    unfold sealOf
    rw [List.foldl_append]
    rfl
  refine Tr.weak (s' := { env := [(6, I s0), (27, .agg [.bsl 4 0 1 3, .bsl 4 3 1 3, intsV v.v]), (28, I 0)], bx := [(4, ⟨volC v, false⟩)], rw := [], log := [], stp := false })
    (Wk.le (.cons rfl (VLe.i h0.symm) (.cons rfl (.refl _) (.cons rfl (.refl _) .nil))) (.cons rfl (LLe.refl _) .nil) .nil rfl rfl) ?_
  refine Tr.rounds 4 (TrN.succ ?_)
  refine Tr.seqR rfl (by simp) (Tr.seq (Tr.condT rfl (Tr.skip ?_)))
  refine Tr.seq (Tr.block (Tr.seqR rfl (by simp [intsV]) (Tr.seqR rfl (by simp) (Tr.block ?_))))
  refine Tr.rounds 4 (TrN.succ ?_)
  refine Tr.seqR rfl (by simp) (Tr.seq (Tr.condT rfl (Tr.skip ?_)))
  refine Tr.seq (Tr.block ?_)
  refine Tr.seqR rfl (by simp [volC]) (Tr.regR rfl (by simp) (Tr.regR rfl (by simp) (TrN.succ ?_)))
  refine Tr.weak (s' := { env := [(6, I s1), (27, .agg [.bsl 4 0 1 3, .bsl 4 3 1 3, intsV v.v]), (28, I 0), (31, .bsl 4 0 1 3), (32, I 3), (33, I 1)], bx := [(4, ⟨volC v, false⟩)], rw := [], log := [], stp := false })
    (Wk.le (.cons rfl (VLe.i (h1 ▸ stepS_eq g0 b0)) (.cons rfl (.refl _) (.cons rfl (.refl _) (.cons rfl (.refl _) (.cons rfl (.refl _) (.cons rfl (VLe.i (by simp)) .nil)))))) (.cons rfl (LLe.refl _) .nil) .nil rfl rfl) ?_
  refine Tr.seqR rfl (by simp) (Tr.seq (Tr.condT rfl (Tr.skip ?_)))
  refine Tr.seq (Tr.block ?_)
  refine Tr.seqR rfl (by simp [volC]) (Tr.regR rfl (by simp) (Tr.regR rfl (by simp) (TrN.succ ?_)))
  refine Tr.weak (s' := { env := [(6, I s2), (27, .agg [.bsl 4 0 1 3, .bsl 4 3 1 3, intsV v.v]), (28, I 0), (31, .bsl 4 0 1 3), (32, I 3), (33, I 2)], bx := [(4, ⟨volC v, false⟩)], rw := [], log := [], stp := false })
    (Wk.le (.cons rfl (VLe.i (h2 ▸ stepS_eq g1 b1)) (.cons rfl (.refl _) (.cons rfl (.refl _) (.cons rfl (.refl _) (.cons rfl (.refl _) (.cons rfl (VLe.i (by simp)) .nil)))))) (.cons rfl (LLe.refl _) .nil) .nil rfl rfl) ?_
  refine Tr.seqR rfl (by simp) (Tr.seq (Tr.condT rfl (Tr.skip ?_)))
  refine Tr.seq (Tr.block ?_)
  refine Tr.seqR rfl (by simp [volC]) (Tr.regR rfl (by simp) (Tr.regR rfl (by simp) (TrN.succ ?_)))
  refine Tr.weak (s' := { env := [(6, I s3), (27, .agg [.bsl 4 0 1 3, .bsl 4 3 1 3, intsV v.v]), (28, I 0), (31, .bsl 4 0 1 3), (32, I 3), (33, I 3)], bx := [(4, ⟨volC v, false⟩)], rw := [], log := [], stp := false })
    (Wk.le (.cons rfl (VLe.i (h3 ▸ stepS_eq g2 b2)) (.cons rfl (.refl _) (.cons rfl (.refl _) (.cons rfl (.refl _) (.cons rfl (.refl _) (.cons rfl (VLe.i (by simp)) .nil)))))) (.cons rfl (LLe.refl _) .nil) .nil rfl rfl) ?_
  refine Tr.seqR rfl (by simp) (Tr.seq (Tr.condF rfl (Tr.exit ?_)))
  refine Tr.regR rfl (by simp) (TrN.succ ?_)
  refine Tr.weak (s' := { env := [(6, I s3), (27, .agg [.bsl 4 0 1 3, .bsl 4 3 1 3, intsV v.v]), (28, I 1)], bx := [(4, ⟨volC v, false⟩)], rw := [], log := [], stp := false })
    (Wk.le (.cons rfl (.refl _) (.cons rfl (.refl _) (.cons rfl (VLe.i (by simp)) .nil))) (.cons rfl (LLe.refl _) .nil) .nil rfl rfl) ?_
  refine Tr.seqR rfl (by simp) (Tr.seq (Tr.condT rfl (Tr.skip ?_)))
  refine Tr.seq (Tr.block (Tr.seqR rfl (by simp [intsV]) (Tr.seqR rfl (by simp) (Tr.block ?_))))
  refine Tr.rounds 4 (TrN.succ ?_)
  refine Tr.seqR rfl (by simp) (Tr.seq (Tr.condT rfl (Tr.skip ?_)))
  refine Tr.seq (Tr.block ?_)
  refine Tr.seqR rfl (by simp [volC]) (Tr.regR rfl (by simp) (Tr.regR rfl (by simp) (TrN.succ ?_)))
  refine Tr.weak (s' := { env := [(6, I s4), (27, .agg [.bsl 4 0 1 3, .bsl 4 3 1 3, intsV v.v]), (28, I 1), (31, .bsl 4 3 1 3), (32, I 3), (33, I 1)], bx := [(4, ⟨volC v, false⟩)], rw := [], log := [], stp := false })
    (Wk.le (.cons rfl (VLe.i (h4 ▸ stepS_eq g3 b3)) (.cons rfl (.refl _) (.cons rfl (.refl _) (.cons rfl (.refl _) (.cons rfl (.refl _) (.cons rfl (VLe.i (by simp)) .nil)))))) (.cons rfl (LLe.refl _) .nil) .nil rfl rfl) ?_
  refine Tr.seqR rfl (by simp) (Tr.seq (Tr.condT rfl (Tr.skip ?_)))
  refine Tr.seq (Tr.block ?_)
  refine Tr.seqR rfl (by simp [volC]) (Tr.regR rfl (by simp) (Tr.regR rfl (by simp) (TrN.succ ?_)))
  refine Tr.weak (s' := { env := [(6, I s5), (27, .agg [.bsl 4 0 1 3, .bsl 4 3 1 3, intsV v.v]), (28, I 1), (31, .bsl 4 3 1 3), (32, I 3), (33, I 2)], bx := [(4, ⟨volC v, false⟩)], rw := [], log := [], stp := false })
    (Wk.le (.cons rfl (VLe.i (h5 ▸ stepS_eq g4 b4)) (.cons rfl (.refl _) (.cons rfl (.refl _) (.cons rfl (.refl _) (.cons rfl (.refl _) (.cons rfl (VLe.i (by simp)) .nil)))))) (.cons rfl (LLe.refl _) .nil) .nil rfl rfl) ?_
  refine Tr.seqR rfl (by simp) (Tr.seq (Tr.condT rfl (Tr.skip ?_)))
  refine Tr.seq (Tr.block ?_)
  refine Tr.seqR rfl (by simp [volC]) (Tr.regR rfl (by simp) (Tr.regR rfl (by simp) (TrN.succ ?_)))
  refine Tr.weak (s' := { env := [(6, I s6), (27, .agg [.bsl 4 0 1 3, .bsl 4 3 1 3, intsV v.v]), (28, I 1), (31, .bsl 4 3 1 3), (32, I 3), (33, I 3)], bx := [(4, ⟨volC v, false⟩)], rw := [], log := [], stp := false })
    (Wk.le (.cons rfl (VLe.i (h6 ▸ stepS_eq g5 b5)) (.cons rfl (.refl _) (.cons rfl (.refl _) (.cons rfl (.refl _) (.cons rfl (.refl _) (.cons rfl (VLe.i (by simp)) .nil)))))) (.cons rfl (LLe.refl _) .nil) .nil rfl rfl) ?_
  refine Tr.seqR rfl (by simp) (Tr.seq (Tr.condF rfl (Tr.exit ?_)))
  refine Tr.regR rfl (by simp) (TrN.succ ?_)
  refine Tr.weak (s' := { env := [(6, I s6), (27, .agg [.bsl 4 0 1 3, .bsl 4 3 1 3, intsV v.v]), (28, I 2)], bx := [(4, ⟨volC v, false⟩)], rw := [], log := [], stp := false })
    (Wk.le (.cons rfl (.refl _) (.cons rfl (.refl _) (.cons rfl (VLe.i (by simp)) .nil))) (.cons rfl (LLe.refl _) .nil) .nil rfl rfl) ?_
  refine Tr.seqR rfl (by simp) (Tr.seq (Tr.condT rfl (Tr.skip ?_)))
  refine Tr.seq (Tr.block (Tr.seqR rfl (by simp [intsV]) (Tr.seqR rfl (by simp) (Tr.block ?_))))
  refine Tr.loop (fun i s => i ≤ v.v.length ∧ s = { env := [(6, I ((v.v.take i).foldl stepS s6)), (27, .agg [.bsl 4 0 1 3, .bsl 4 3 1 3, intsV v.v]), (28, I 2), (31, intsV v.v), (32, I v.v.length), (33, I i)], bx := [(4, ⟨volC v, false⟩)], rw := [], log := [], stp := false }) (fun i => v.v.length - i) 0
    (Wk.le (.cons rfl (.refl _) (.cons rfl (.refl _) (.cons rfl (.refl _) (.cons rfl (.refl _) (.cons rfl (VLe.i (by simp)) (.cons rfl (.refl _) .nil)))))) (.cons rfl (LLe.refl _) .nil) .nil rfl rfl) ⟨by omega, rfl⟩ ?_
  rintro i s ⟨hi, rfl⟩
  refine Tr.seqR rfl (by simp) (Tr.seq (Tr.cond rfl rfl (fun h5 => Tr.skip ?_) (fun h5 => Tr.exit ?_)))
  rotate_left
  · have h5 : i = v.v.length := by simp at h5; omega
    subst h5
    rw [List.take_length]
    refine Tr.regR rfl (by simp) (TrN.succ ?_)
    refine Tr.seqR rfl (by simp) (Tr.seq (Tr.condF rfl (Tr.exit ?_)))
    refine Tr.seqR rfl (by simp) (Tr.retX rfl rfl rfl ?_ trivial)
    simp [packR, sealR, hV, hseal]
  have h5 : i < v.v.length := by simpa using h5
  refine Tr.seq (Tr.block (Tr.seqN 1 rfl (by simp [intsV]; omega) ?_))
  rw [getD_map h5]
  refine Steps.fin rfl (by simp) (Tr.regR rfl (by simp) (Tr.regR rfl (by simp) ?_))
  have hfb := fold_bd (v.v.take i) s6 g6
  refine ⟨i + 1, _, Wk.le (.cons rfl (VLe.i ?_) (.cons rfl (.refl _) (.cons rfl (.refl _) (.cons rfl (.refl _) (.cons rfl (.refl _) (.cons rfl (VLe.i (w64 (by omega) (by omega))) .nil)))))) (.cons rfl (LLe.refl _) .nil) .nil rfl rfl, ⟨h5, rfl⟩, by omega⟩
  rw [List.take_add_one, List.getElem?_eq_getElem h5, List.foldl_append]
  exact stepS_eq hfb (hvV _ (List.getElem_mem h5))

end Go.Proofs.Ytkifejklnpddbaa

/-! The law VolumeCuts. -/
set_option linter.unusedVariables false
set_option linter.unusedSimpArgs false
set_option maxRecDepth 20000
set_option maxHeartbeats 2000000
namespace Go.Proofs.Ytkifejklnpddbaa
open Go.Am
attribute [local simp] cells scalar mkv splice under2 under dem dem1 boxC cellC volC

theorem cut_form (v : Vol) (b : Bx) : ∃ (w : Vol) (e : Int), cutR (intsV []) v b = .tuple [.agg (volC w), I e] ∧ w.v.length ≤ 9223372036854775807 := by
  unfold cutR
  by_cases h1 : volOk v = true
  · rw [if_pos h1]
    by_cases h2 : cutOk v b = true
    · rw [if_pos h2]
      refine ⟨_, _, rfl, ?_⟩
      have hb : boxOk b = true := by unfold cutOk at h2; simp only [Bool.and_eq_true] at h2; exact h2.1.1
      have := boxCells_len (boxOk_spec hb).1
      simp only [part, List.length_map]; omega
    · rw [if_neg h2]
      exact ⟨noVol, _, rfl, by simp [noVol]⟩
  · rw [if_neg h1]
    exact ⟨noVol, _, rfl, by simp [noVol]⟩

theorem seal_form (v : Vol) : ∃ n e : Int, sealR v = .tuple [I n, I e] := by
  unfold sealR
  split
  · exact ⟨_, _, rfl⟩
  · exact ⟨_, _, rfl⟩

theorem c_VolumeCuts (v : Vol) (x y z a b c : Int) (hl : v.v.length ≤ 9223372036854775807) : C Try.prog F.law10_VolumeCuts [.agg (volC v), .agg [I x, I y, I z], .agg [I a, I b, I c]] (.bool true) := by
  obtain ⟨w, e, hr, hw⟩ := cut_form v ⟨x, y, z, a, b, c⟩
  obtain ⟨n, f, hs⟩ := seal_form v
  have k1 := (c_Cut v ⟨x, y, z, a, b, c⟩ hl).le fun _ _ _ h => cut_le h
  have k2 := (c_Cut10 v ⟨x, y, z, a, b, c⟩ hl).le fun _ _ _ h => cut_le h
  have k3 := c_Seal v hl
  have k4 := c_Seal10 v hl
  rw [hr] at k1 k2
  rw [hs] at k3 k4
  have k5 := c_CheckVolume v hl
  have k6 := c_CheckVolume10 v hl
  generalize (if volOk v then (0 : Int) else 101) = q at k5 k6
  refine C_of mixed chk.law10_VolumeCuts (by simp) fun S ok => ?_
  refine Tr.seqR rfl (by simp [intsV]) ?_
  refine Tr.seq (Tr.seq (Tr.drawK (TraceK.run rfl (by simp) (TraceK.call rfl rfl k5 (TraceK.run rfl (by simp) (TraceK.call rfl rfl k6 (TraceK.run rfl (by simp) (.done ⟨by kernel_rfl, by kernel_rfl, ?_⟩))))))))
  refine Tr.cond rfl rfl (fun h => ?_) (fun _ => Tr.skip ?_)
  · have h : (q != q) = true := h
    simp at h
  refine Tr.seqC rfl (by simp) (Steps.call rfl rfl k1 (Steps.fin rfl (by simp [intsV]) ?_))
  refine Tr.seqC rfl (by simp) (Steps.call rfl rfl k2 (Steps.fin rfl (by simp [intsV]) ?_))
  refine Tr.seq (Tr.seqC rfl (by simp) (Steps.call rfl rfl (c_same w hw) (Steps.fin rfl (by simp) ?_)))
  refine Tr.cond rfl rfl (fun h => ?_) (fun _ => Tr.skip ?_)
  · have h : (bif !true then true else (e != e)) = true := h
    simp at h
  refine Tr.seqC rfl (by simp) (Steps.call rfl rfl k3 (Steps.fin rfl (by simp) ?_))
  refine Tr.seqC rfl (by simp) (Steps.call rfl rfl k4 (Steps.fin rfl (by simp) ?_))
  refine Tr.seqC rfl (by simp) (Steps.gcall rfl rfl rfl rfl (by simp) (fun _ => c_works) (Steps.fin rfl (by simp) (Tr.retX rfl rfl rfl ?_ trivial)))
  simp [packR]

end Go.Proofs.Ytkifejklnpddbaa
