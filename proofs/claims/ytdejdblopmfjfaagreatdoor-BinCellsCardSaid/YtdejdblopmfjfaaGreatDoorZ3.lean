/-
  Parts of the proof, 3: the abstract machine, the compiled code, contracts of the functions, plain laws.
-/
import Derived.Test.YtdejdblopmfjfaaGreatDoorZ2
import Derived.Test.YtdejdblopmfjfaaGreatDoorProg
import Derived.Maps.RangeRun
import Derived.Carry
import Derived.WalkSpells


/-! The code of the loaded functions, compiled. -/
set_option maxRecDepth 100000
namespace Go.Proofs.YtdejdblopmfjfaaGreatDoor
open Go.Am
theorem mixed : Tryz.prog.follows .mixedOrders = true := by kernel_rfl
/-- paravane/bin.CheckGrid -/
abbrev F.bin_CheckGrid : Nat := 10
def ir.bin_CheckGrid : IC :=
 (.seq (.reg [⟨some 1, .box, [.t 0], none⟩, ⟨some 2, .mov, [.c (.int .i64 0)], none⟩])
   (.seq (.seq (.reg [⟨some 6, .faddr 0, [.t 1], none⟩, ⟨some 7, .load 2 true, [.t 6], none⟩, ⟨some 8, .call 43, [.t 7], none⟩, ⟨some 9, .bin .neq, [.t 8, .c (.int .i64 0)], none⟩, ⟨some 10, .mov, [.t 9], none⟩, ⟨some 11, .faddr 2, [.t 1], (some (10, false))⟩, ⟨some 12, .load 1 false, [.t 11], (some (10, false))⟩, ⟨some 13, .call 44, [.t 12, .c (.int .i64 1), .c (.int .i64 1000)], (some (10, false))⟩, ⟨some 14, .un .not, [.t 13], (some (10, false))⟩, ⟨some 15, .pick, [.t 10, .c (.bool true), .t 14], none⟩, ⟨some 16, .mov, [.t 15], none⟩, ⟨some 17, .faddr 3, [.t 1], (some (16, false))⟩, ⟨some 18, .load 1 false, [.t 17], (some (16, false))⟩, ⟨some 19, .call 44, [.t 18, .c (.int .i64 1), .c (.int .i64 16)], (some (16, false))⟩, ⟨some 20, .un .not, [.t 19], (some (16, false))⟩, ⟨some 21, .pick, [.t 16, .c (.bool true), .t 20], none⟩, ⟨some 22, .mov, [.t 21], none⟩, ⟨some 23, .faddr 4, [.t 1], (some (22, false))⟩, ⟨some 24, .load 1 false, [.t 23], (some (22, false))⟩, ⟨some 25, .call 44, [.t 24, .c (.int .i64 1), .c (.int .i64 16)], (some (22, false))⟩, ⟨some 26, .un .not, [.t 25], (some (22, false))⟩, ⟨some 27, .pick, [.t 22, .c (.bool true), .t 26], none⟩, ⟨some 28, .mov, [.t 27], none⟩, ⟨some 29, .faddr 5, [.t 1], (some (28, false))⟩, ⟨some 30, .load 1 false, [.t 29], (some (28, false))⟩, ⟨some 31, .len false, [.t 30], (some (28, false))⟩, ⟨some 32, .call 44, [.t 31, .c (.int .i64 1), .c (.int .i64 4)], (some (28, false))⟩, ⟨some 33, .un .not, [.t 32], (some (28, false))⟩, ⟨some 34, .pick, [.t 28, .c (.bool true), .t 33], none⟩])
   (.cond (.t 34) (.seq (.reg [⟨some 2, .mov, [.c (.int .i64 70)], none⟩])
   .ret) .skip))
   (.seq (.reg [⟨some 3, .mov, [.c (.int .i64 (-1))], none⟩])
   (.seq (.seq (.reg [⟨some 35, .faddr 5, [.t 1], none⟩, ⟨some 36, .load 1 false, [.t 35], none⟩, ⟨some 37, .len false, [.t 36], none⟩, ⟨some 38, .mov, [.c (.int .i64 0)], none⟩])
   (.block 0 (.loop (.seq (.reg [⟨some 39, .bin .lss, [.t 38, .t 37], none⟩])
   (.seq (.cond (.t 39) .skip (.exit 0))
   (.seq (.block 1 (.seq (.reg [⟨some 40, .iaddrS 2, [.t 36, .t 38], none⟩, ⟨some 41, .load 2 true, [.t 40], none⟩, ⟨some 5, .alloc [(.int .i64 0), (.int .i64 0)], [], none⟩, ⟨none, .store 2, [.t 5, .t 41], none⟩])
   (.seq (.seq (.reg [⟨some 42, .faddr 0, [.t 5], none⟩, ⟨some 43, .load 1 false, [.t 42], none⟩, ⟨some 44, .mov, [.t 3], none⟩, ⟨some 45, .bin .leq, [.t 43, .t 44], none⟩, ⟨some 46, .mov, [.t 45], none⟩, ⟨some 47, .faddr 0, [.t 5], (some (46, false))⟩, ⟨some 48, .load 1 false, [.t 47], (some (46, false))⟩, ⟨some 49, .faddr 1, [.t 5], (some (46, false))⟩, ⟨some 50, .load 1 false, [.t 49], (some (46, false))⟩, ⟨some 51, .bin .gtr, [.t 48, .t 50], (some (46, false))⟩, ⟨some 52, .pick, [.t 46, .c (.bool true), .t 51], none⟩, ⟨some 53, .mov, [.t 52], none⟩, ⟨some 54, .faddr 1, [.t 5], (some (53, false))⟩, ⟨some 55, .load 1 false, [.t 54], (some (53, false))⟩, ⟨some 56, .bin .gtr, [.t 55, .c (.int .i64 17179869184)], (some (53, false))⟩, ⟨some 57, .pick, [.t 53, .c (.bool true), .t 56], none⟩])
   (.cond (.t 57) (.seq (.reg [⟨some 2, .mov, [.c (.int .i64 70)], none⟩])
   .ret) .skip))
   (.reg [⟨some 58, .faddr 1, [.t 5], none⟩, ⟨some 59, .load 1 false, [.t 58], none⟩, ⟨some 3, .mov, [.t 59], none⟩]))))
   (.reg [⟨some 60, .bin .add, [.t 38, .c (.int .i64 1)], none⟩, ⟨some 38, .mov, [.t 60], none⟩])))))))
   (.seq (.reg [⟨some 2, .mov, [.c (.int .i64 0)], none⟩])
   .ret)))))
theorem chk.bin_CheckGrid : chkF Tryz.prog 10 = some (61, ir.bin_CheckGrid, [.tmp 2]) := by kernel_rfl

/-- paravane/paravaneref07.CheckGrid -/
abbrev F.ref07_CheckGrid : Nat := 11
def ir.ref07_CheckGrid : IC :=
 (.seq (.reg [⟨some 1, .box, [.t 0], none⟩, ⟨some 2, .mov, [.c (.int .i64 0)], none⟩])
   (.seq (.reg [⟨some 6, .faddr 0, [.t 1], none⟩, ⟨some 7, .load 2 true, [.t 6], none⟩, ⟨some 8, .call 45, [.t 7], none⟩, ⟨some 9, .bin .eql, [.t 8, .c (.int .i64 0)], none⟩, ⟨some 10, .mov, [.t 9], none⟩, ⟨some 11, .faddr 2, [.t 1], (some (10, true))⟩, ⟨some 12, .load 1 false, [.t 11], (some (10, true))⟩, ⟨some 13, .call 39, [.t 12, .c (.int .i64 1), .c (.int .i64 1000)], (some (10, true))⟩, ⟨some 14, .pick, [.t 10, .t 13, .c (.bool false)], none⟩, ⟨some 15, .mov, [.t 14], none⟩, ⟨some 16, .faddr 3, [.t 1], (some (15, true))⟩, ⟨some 17, .load 1 false, [.t 16], (some (15, true))⟩, ⟨some 18, .call 39, [.t 17, .c (.int .i64 1), .c (.int .i64 16)], (some (15, true))⟩, ⟨some 19, .pick, [.t 15, .t 18, .c (.bool false)], none⟩, ⟨some 20, .mov, [.t 19], none⟩, ⟨some 21, .faddr 4, [.t 1], (some (20, true))⟩, ⟨some 22, .load 1 false, [.t 21], (some (20, true))⟩, ⟨some 23, .call 39, [.t 22, .c (.int .i64 1), .c (.int .i64 16)], (some (20, true))⟩, ⟨some 24, .pick, [.t 20, .t 23, .c (.bool false)], none⟩, ⟨some 25, .mov, [.t 24], none⟩, ⟨some 26, .faddr 5, [.t 1], (some (25, true))⟩, ⟨some 27, .load 1 false, [.t 26], (some (25, true))⟩, ⟨some 28, .len false, [.t 27], (some (25, true))⟩, ⟨some 29, .call 39, [.t 28, .c (.int .i64 1), .c (.int .i64 4)], (some (25, true))⟩, ⟨some 30, .pick, [.t 25, .t 29, .c (.bool false)], none⟩, ⟨some 3, .mov, [.t 30], none⟩])
   (.seq (.seq (.reg [⟨some 4, .mov, [.c (.int .i64 0)], none⟩])
   (.block 0 (.loop (.seq (.seq (.reg [⟨some 31, .mov, [.t 4], none⟩, ⟨some 32, .faddr 5, [.t 1], none⟩, ⟨some 33, .load 1 false, [.t 32], none⟩, ⟨some 34, .len false, [.t 33], none⟩, ⟨some 35, .bin .lss, [.t 31, .t 34], none⟩])
   (.cond (.t 35) .skip (.exit 0)))
   (.seq (.block 1 (.seq (.reg [⟨some 38, .faddr 5, [.t 1], none⟩, ⟨some 39, .load 1 false, [.t 38], none⟩, ⟨some 40, .mov, [.t 4], none⟩, ⟨some 41, .iaddrS 2, [.t 39, .t 40], none⟩, ⟨some 42, .load 2 true, [.t 41], none⟩, ⟨some 5, .alloc [(.int .i64 0), (.int .i64 0)], [], none⟩, ⟨none, .store 2, [.t 5, .t 42], none⟩])
   (.draw [0, 1, 3, 7, 15, 31, 63, 127, 255, 127, 639, 2047, 4095, 8191, 16383, 32767, 65535, 131071, 262143, 524287, 1048575, 2097151, 4194303, 8388607, 4194303, 20971519, 4194303, 71303167, 255852543, 524287999, 1061158911, 2147483647, 4294967295, 8589934591, 17179869183] [⟨some 43, .mov, [.t 3], none⟩, ⟨some 44, .mov, [.t 43], none⟩, ⟨some 45, .faddr 0, [.t 5], (some (44, true))⟩, ⟨some 46, .load 1 false, [.t 45], (some (44, true))⟩, ⟨some 47, .bin .geq, [.t 46, .c (.int .i64 0)], (some (44, true))⟩, ⟨some 48, .pick, [.t 44, .t 47, .c (.bool false)], none⟩, ⟨some 49, .mov, [.t 48], none⟩, ⟨some 50, .faddr 0, [.t 5], (some (49, true))⟩, ⟨some 51, .load 1 false, [.t 50], (some (49, true))⟩, ⟨some 52, .faddr 1, [.t 5], (some (49, true))⟩, ⟨some 53, .load 1 false, [.t 52], (some (49, true))⟩, ⟨some 54, .bin .leq, [.t 51, .t 53], (some (49, true))⟩, ⟨some 55, .pick, [.t 49, .t 54, .c (.bool false)], none⟩, ⟨some 56, .mov, [.t 55], none⟩, ⟨some 57, .faddr 1, [.t 5], (some (56, true))⟩, ⟨some 58, .load 1 false, [.t 57], (some (56, true))⟩, ⟨some 59, .bin .leq, [.t 58, .c (.int .i64 17179869184)], (some (56, true))⟩, ⟨some 60, .pick, [.t 56, .t 59, .c (.bool false)], none⟩, ⟨some 61, .mov, [.t 60], none⟩, ⟨some 62, .mov, [.t 4], (some (61, true))⟩, ⟨some 63, .bin .eql, [.t 62, .c (.int .i64 0)], (some (61, true))⟩, ⟨some 64, .mov, [.t 63], (some (61, true))⟩, ⟨some 65, .faddr 0, [.t 5], (some (64, false))⟩, ⟨some 66, .load 1 false, [.t 65], (some (64, false))⟩, ⟨some 67, .faddr 5, [.t 1], (some (64, false))⟩, ⟨some 68, .load 1 false, [.t 67], (some (64, false))⟩, ⟨some 69, .mov, [.t 4], (some (64, false))⟩, ⟨some 70, .bin .sub, [.t 69, .c (.int .i64 1)], (some (64, false))⟩, ⟨some 71, .iaddrS 2, [.t 68, .t 70], (some (64, false))⟩, ⟨some 72, .faddr 1, [.t 71], (some (64, false))⟩, ⟨some 73, .load 1 false, [.t 72], (some (64, false))⟩, ⟨some 74, .bin .gtr, [.t 66, .t 73], (some (64, false))⟩, ⟨some 75, .pick, [.t 64, .c (.bool true), .t 74], (some (61, true))⟩, ⟨some 76, .pick, [.t 61, .t 75, .c (.bool false)], none⟩, ⟨some 3, .mov, [.t 76], none⟩])))
   (.reg [⟨some 36, .mov, [.t 4], none⟩, ⟨some 37, .bin .add, [.t 36, .c (.int .i64 1)], none⟩, ⟨some 4, .mov, [.t 37], none⟩]))))))
   (.seq (.seq (.reg [⟨some 77, .mov, [.t 3], none⟩, ⟨some 78, .un .not, [.t 77], none⟩])
   (.cond (.t 78) (.seq (.reg [⟨some 2, .mov, [.c (.int .i64 70)], none⟩])
   .ret) .skip))
   (.seq (.reg [⟨some 2, .mov, [.c (.int .i64 0)], none⟩])
   .ret)))))
theorem chk.ref07_CheckGrid : chkF Tryz.prog 11 = some (79, ir.ref07_CheckGrid, [.tmp 2]) := by kernel_rfl

/-- paravane/bin.CheckLayout -/
abbrev F.bin_CheckLayout : Nat := 12
def ir.bin_CheckLayout : IC :=
 (.seq (.reg [⟨some 1, .box, [.t 0], none⟩, ⟨some 2, .mov, [.c (.int .i64 0)], none⟩])
   (.seq (.seq (.reg [⟨some 9, .faddr 0, [.t 1], none⟩, ⟨some 10, .load 1 false, [.t 9], none⟩, ⟨some 11, .len false, [.t 10], none⟩, ⟨some 12, .bin .gtr, [.t 11, .c (.int .i64 16)], none⟩, ⟨some 13, .mov, [.t 12], none⟩, ⟨some 14, .faddr 1, [.t 1], (some (13, false))⟩, ⟨some 15, .load 1 false, [.t 14], (some (13, false))⟩, ⟨some 16, .len false, [.t 15], (some (13, false))⟩, ⟨some 17, .bin .gtr, [.t 16, .c (.int .i64 64)], (some (13, false))⟩, ⟨some 18, .pick, [.t 13, .c (.bool true), .t 17], none⟩])
   (.cond (.t 18) (.seq (.reg [⟨some 2, .mov, [.c (.int .i64 71)], none⟩])
   .ret) .skip))
   (.seq (.seq (.reg [⟨some 19, .faddr 0, [.t 1], none⟩, ⟨some 20, .load 1 false, [.t 19], none⟩, ⟨some 21, .len false, [.t 20], none⟩, ⟨some 22, .mov, [.c (.int .i64 0)], none⟩])
   (.block 0 (.loop (.seq (.reg [⟨some 23, .bin .lss, [.t 22, .t 21], none⟩])
   (.seq (.cond (.t 23) .skip (.exit 0))
   (.seq (.block 1 (.seq (.reg [⟨some 24, .iaddrS 8, [.t 20, .t 22], none⟩, ⟨some 25, .load 8 true, [.t 24], none⟩, ⟨some 4, .alloc [(.int .i64 0), (.int .i64 0), (.int .i64 0), (.int .i64 0), (.int .i64 0), (.int .i64 0), (.int .i64 0), (.int .i64 0)], [], none⟩, ⟨none, .store 8, [.t 4, .t 25], none⟩])
   (.seq (.reg [⟨some 27, .load 8 true, [.t 4], none⟩, ⟨some 28, .call 46, [.t 27], none⟩, ⟨some 26, .mov, [.t 28], none⟩, ⟨some 29, .extract 0, [.t 26], none⟩, ⟨some 30, .extract 1, [.t 26], none⟩, ⟨some 5, .mov, [.t 29], none⟩, ⟨some 6, .mov, [.t 30], none⟩])
   (.seq (.reg [⟨some 31, .mov, [.t 6], none⟩, ⟨some 32, .bin .neq, [.t 31, .c (.int .i64 0)], none⟩, ⟨some 33, .mov, [.t 32], none⟩, ⟨some 34, .mov, [.t 5], (some (33, false))⟩, ⟨some 35, .call 44, [.t 34, .c (.int .i64 1), .c (.int .i64 64)], (some (33, false))⟩, ⟨some 36, .un .not, [.t 35], (some (33, false))⟩, ⟨some 37, .pick, [.t 33, .c (.bool true), .t 36], none⟩])
   (.cond (.t 37) (.seq (.reg [⟨some 2, .mov, [.c (.int .i64 71)], none⟩])
   .ret) .skip)))))
   (.reg [⟨some 38, .bin .add, [.t 22, .c (.int .i64 1)], none⟩, ⟨some 22, .mov, [.t 38], none⟩])))))))
   (.seq (.seq (.reg [⟨some 39, .faddr 1, [.t 1], none⟩, ⟨some 40, .load 1 false, [.t 39], none⟩, ⟨some 41, .len false, [.t 40], none⟩, ⟨some 42, .mov, [.c (.int .i64 0)], none⟩])
   (.block 2 (.loop (.seq (.reg [⟨some 43, .bin .lss, [.t 42, .t 41], none⟩])
   (.seq (.cond (.t 43) .skip (.exit 2))
   (.seq (.block 3 (.seq (.reg [⟨some 44, .iaddrS 2, [.t 40, .t 42], none⟩, ⟨some 45, .load 2 true, [.t 44], none⟩, ⟨some 8, .alloc [(.int .i64 0), (.int .i64 0)], [], none⟩, ⟨none, .store 2, [.t 8, .t 45], none⟩])
   (.seq (.reg [⟨some 46, .iaddrA 2 1, [.t 8, .c (.int .i64 0)], none⟩, ⟨some 47, .load 1 false, [.t 46], none⟩, ⟨some 48, .faddr 0, [.t 1], none⟩, ⟨some 49, .load 1 false, [.t 48], none⟩, ⟨some 50, .len false, [.t 49], none⟩, ⟨some 51, .bin .sub, [.t 50, .c (.int .i64 1)], none⟩, ⟨some 52, .call 44, [.t 47, .c (.int .i64 0), .t 51], none⟩, ⟨some 53, .un .not, [.t 52], none⟩, ⟨some 54, .mov, [.t 53], none⟩, ⟨some 55, .iaddrA 2 1, [.t 8, .c (.int .i64 1)], (some (54, false))⟩, ⟨some 56, .load 1 false, [.t 55], (some (54, false))⟩, ⟨some 57, .faddr 0, [.t 1], (some (54, false))⟩, ⟨some 58, .load 1 false, [.t 57], (some (54, false))⟩, ⟨some 59, .len false, [.t 58], (some (54, false))⟩, ⟨some 60, .bin .sub, [.t 59, .c (.int .i64 1)], (some (54, false))⟩, ⟨some 61, .call 44, [.t 56, .c (.int .i64 0), .t 60], (some (54, false))⟩, ⟨some 62, .un .not, [.t 61], (some (54, false))⟩, ⟨some 63, .pick, [.t 54, .c (.bool true), .t 62], none⟩, ⟨some 64, .mov, [.t 63], none⟩, ⟨some 65, .iaddrA 2 1, [.t 8, .c (.int .i64 0)], (some (64, false))⟩, ⟨some 66, .load 1 false, [.t 65], (some (64, false))⟩, ⟨some 67, .iaddrA 2 1, [.t 8, .c (.int .i64 1)], (some (64, false))⟩, ⟨some 68, .load 1 false, [.t 67], (some (64, false))⟩, ⟨some 69, .bin .eql, [.t 66, .t 68], (some (64, false))⟩, ⟨some 70, .pick, [.t 64, .c (.bool true), .t 69], none⟩])
   (.cond (.t 70) (.seq (.reg [⟨some 2, .mov, [.c (.int .i64 71)], none⟩])
   .ret) .skip))))
   (.reg [⟨some 71, .bin .add, [.t 42, .c (.int .i64 1)], none⟩, ⟨some 42, .mov, [.t 71], none⟩])))))))
   (.seq (.reg [⟨some 2, .mov, [.c (.int .i64 0)], none⟩])
   .ret)))))
theorem chk.bin_CheckLayout : chkF Tryz.prog 12 = some (72, ir.bin_CheckLayout, [.tmp 2]) := by kernel_rfl

/-- paravane/paravaneref07.CheckLayout -/
abbrev F.ref07_CheckLayout : Nat := 13
def ir.ref07_CheckLayout : IC :=
 (.seq (.reg [⟨some 1, .box, [.t 0], none⟩, ⟨some 2, .mov, [.c (.int .i64 0)], none⟩])
   (.seq (.reg [⟨some 9, .faddr 0, [.t 1], none⟩, ⟨some 10, .load 1 false, [.t 9], none⟩, ⟨some 11, .len false, [.t 10], none⟩, ⟨some 12, .bin .leq, [.t 11, .c (.int .i64 16)], none⟩, ⟨some 13, .mov, [.t 12], none⟩, ⟨some 14, .faddr 1, [.t 1], (some (13, true))⟩, ⟨some 15, .load 1 false, [.t 14], (some (13, true))⟩, ⟨some 16, .len false, [.t 15], (some (13, true))⟩, ⟨some 17, .bin .leq, [.t 16, .c (.int .i64 64)], (some (13, true))⟩, ⟨some 18, .pick, [.t 13, .t 17, .c (.bool false)], none⟩, ⟨some 3, .mov, [.t 18], none⟩])
   (.seq (.seq (.reg [⟨some 4, .mov, [.c (.int .i64 0)], none⟩])
   (.block 0 (.loop (.seq (.seq (.reg [⟨some 19, .mov, [.t 3], none⟩, ⟨some 20, .mov, [.t 19], none⟩, ⟨some 21, .mov, [.t 4], (some (20, true))⟩, ⟨some 22, .faddr 0, [.t 1], (some (20, true))⟩, ⟨some 23, .load 1 false, [.t 22], (some (20, true))⟩, ⟨some 24, .len false, [.t 23], (some (20, true))⟩, ⟨some 25, .bin .lss, [.t 21, .t 24], (some (20, true))⟩, ⟨some 26, .pick, [.t 20, .t 25, .c (.bool false)], none⟩])
   (.cond (.t 26) .skip (.exit 0)))
   (.seq (.block 1 (.seq (.reg [⟨some 30, .faddr 0, [.t 1], none⟩, ⟨some 31, .load 1 false, [.t 30], none⟩, ⟨some 32, .mov, [.t 4], none⟩, ⟨some 33, .iaddrS 8, [.t 31, .t 32], none⟩, ⟨some 34, .load 8 true, [.t 33], none⟩, ⟨some 35, .call 47, [.t 34], none⟩, ⟨some 29, .mov, [.t 35], none⟩, ⟨some 36, .extract 0, [.t 29], none⟩, ⟨some 37, .extract 1, [.t 29], none⟩, ⟨some 5, .mov, [.t 36], none⟩, ⟨some 6, .mov, [.t 37], none⟩])
   (.reg [⟨some 38, .mov, [.t 6], none⟩, ⟨some 39, .bin .eql, [.t 38, .c (.int .i64 0)], none⟩, ⟨some 40, .mov, [.t 39], none⟩, ⟨some 41, .mov, [.t 5], (some (40, true))⟩, ⟨some 42, .call 39, [.t 41, .c (.int .i64 1), .c (.int .i64 64)], (some (40, true))⟩, ⟨some 43, .pick, [.t 40, .t 42, .c (.bool false)], none⟩, ⟨some 3, .mov, [.t 43], none⟩])))
   (.reg [⟨some 27, .mov, [.t 4], none⟩, ⟨some 28, .bin .add, [.t 27, .c (.int .i64 1)], none⟩, ⟨some 4, .mov, [.t 28], none⟩]))))))
   (.seq (.seq (.reg [⟨some 7, .mov, [.c (.int .i64 0)], none⟩])
   (.block 2 (.loop (.seq (.seq (.reg [⟨some 44, .mov, [.t 7], none⟩, ⟨some 45, .faddr 1, [.t 1], none⟩, ⟨some 46, .load 1 false, [.t 45], none⟩, ⟨some 47, .len false, [.t 46], none⟩, ⟨some 48, .bin .lss, [.t 44, .t 47], none⟩])
   (.cond (.t 48) .skip (.exit 2)))
   (.seq (.block 3 (.seq (.reg [⟨some 51, .faddr 1, [.t 1], none⟩, ⟨some 52, .load 1 false, [.t 51], none⟩, ⟨some 53, .mov, [.t 7], none⟩, ⟨some 54, .iaddrS 2, [.t 52, .t 53], none⟩, ⟨some 55, .load 2 true, [.t 54], none⟩, ⟨some 8, .alloc [(.int .i64 0), (.int .i64 0)], [], none⟩, ⟨none, .store 2, [.t 8, .t 55], none⟩])
   (.reg [⟨some 56, .mov, [.t 3], none⟩, ⟨some 57, .mov, [.t 56], none⟩, ⟨some 58, .iaddrA 2 1, [.t 8, .c (.int .i64 0)], (some (57, true))⟩, ⟨some 59, .load 1 false, [.t 58], (some (57, true))⟩, ⟨some 60, .faddr 0, [.t 1], (some (57, true))⟩, ⟨some 61, .load 1 false, [.t 60], (some (57, true))⟩, ⟨some 62, .len false, [.t 61], (some (57, true))⟩, ⟨some 63, .bin .sub, [.t 62, .c (.int .i64 1)], (some (57, true))⟩, ⟨some 64, .call 39, [.t 59, .c (.int .i64 0), .t 63], (some (57, true))⟩, ⟨some 65, .pick, [.t 57, .t 64, .c (.bool false)], none⟩, ⟨some 66, .mov, [.t 65], none⟩, ⟨some 67, .iaddrA 2 1, [.t 8, .c (.int .i64 1)], (some (66, true))⟩, ⟨some 68, .load 1 false, [.t 67], (some (66, true))⟩, ⟨some 69, .faddr 0, [.t 1], (some (66, true))⟩, ⟨some 70, .load 1 false, [.t 69], (some (66, true))⟩, ⟨some 71, .len false, [.t 70], (some (66, true))⟩, ⟨some 72, .bin .sub, [.t 71, .c (.int .i64 1)], (some (66, true))⟩, ⟨some 73, .call 39, [.t 68, .c (.int .i64 0), .t 72], (some (66, true))⟩, ⟨some 74, .pick, [.t 66, .t 73, .c (.bool false)], none⟩, ⟨some 75, .mov, [.t 74], none⟩, ⟨some 76, .iaddrA 2 1, [.t 8, .c (.int .i64 0)], (some (75, true))⟩, ⟨some 77, .load 1 false, [.t 76], (some (75, true))⟩, ⟨some 78, .iaddrA 2 1, [.t 8, .c (.int .i64 1)], (some (75, true))⟩, ⟨some 79, .load 1 false, [.t 78], (some (75, true))⟩, ⟨some 80, .bin .neq, [.t 77, .t 79], (some (75, true))⟩, ⟨some 81, .pick, [.t 75, .t 80, .c (.bool false)], none⟩, ⟨some 3, .mov, [.t 81], none⟩])))
   (.reg [⟨some 49, .mov, [.t 7], none⟩, ⟨some 50, .bin .add, [.t 49, .c (.int .i64 1)], none⟩, ⟨some 7, .mov, [.t 50], none⟩]))))))
   (.seq (.seq (.reg [⟨some 82, .mov, [.t 3], none⟩, ⟨some 83, .un .not, [.t 82], none⟩])
   (.cond (.t 83) (.seq (.reg [⟨some 2, .mov, [.c (.int .i64 71)], none⟩])
   .ret) .skip))
   (.seq (.reg [⟨some 2, .mov, [.c (.int .i64 0)], none⟩])
   .ret))))))
theorem chk.ref07_CheckLayout : chkF Tryz.prog 13 = some (84, ir.ref07_CheckLayout, [.tmp 2]) := by kernel_rfl

/-- paravane/bin.Cell -/
abbrev F.bin_Cell : Nat := 14
def ir.bin_Cell : IC :=
 (.seq (.reg [⟨some 3, .box, [.t 0], none⟩, ⟨some 4, .box, [.t 1], none⟩, ⟨some 5, .box, [.t 2], none⟩, ⟨some 6, .alloc [(.int .i64 0), (.int .i64 0)], [], none⟩, ⟨some 7, .mov, [.c (.int .i64 0)], none⟩])
   (.seq (.seq (.reg [⟨some 9, .load 6 true, [.t 3], none⟩, ⟨some 10, .call 10, [.t 9], none⟩, ⟨some 8, .mov, [.t 10], none⟩])
   (.seq (.reg [⟨some 11, .mov, [.t 8], none⟩, ⟨some 12, .bin .neq, [.t 11, .c (.int .i64 0)], none⟩])
   (.cond (.t 12) (.seq (.reg [⟨some 13, .build [(.int .i64 0), (.int .i64 0)] [], [], none⟩, ⟨some 14, .mov, [.t 8], none⟩, ⟨none, .store 2, [.t 6, .t 13], none⟩, ⟨some 7, .mov, [.t 14], none⟩])
   .ret) .skip)))
   (.seq (.seq (.reg [⟨some 15, .load 2 true, [.t 4], none⟩, ⟨some 16, .call 43, [.t 15], none⟩, ⟨some 17, .bin .neq, [.t 16, .c (.int .i64 0)], none⟩, ⟨some 18, .mov, [.t 17], none⟩, ⟨some 19, .load 2 true, [.t 5], (some (18, false))⟩, ⟨some 20, .call 43, [.t 19], (some (18, false))⟩, ⟨some 21, .bin .neq, [.t 20, .c (.int .i64 0)], (some (18, false))⟩, ⟨some 22, .pick, [.t 18, .c (.bool true), .t 21], none⟩])
   (.cond (.t 22) (.seq (.reg [⟨some 23, .build [(.int .i64 0), (.int .i64 0)] [], [], none⟩, ⟨none, .store 2, [.t 6, .t 23], none⟩, ⟨some 7, .mov, [.c (.int .i64 10)], none⟩])
   .ret) .skip))
   (.seq (.reg [⟨some 24, .load 6 true, [.t 3], none⟩, ⟨some 25, .load 2 true, [.t 4], none⟩, ⟨some 26, .load 2 true, [.t 5], none⟩, ⟨some 27, .call 48, [.t 24, .t 25, .t 26], none⟩, ⟨none, .store 2, [.t 6, .t 27], none⟩, ⟨some 7, .mov, [.c (.int .i64 0)], none⟩])
   .ret))))
theorem chk.bin_Cell : chkF Tryz.prog 14 = some (28, ir.bin_Cell, [.cell 6 39, .tmp 7]) := by kernel_rfl

/-- paravane/paravaneref07.Cell -/
abbrev F.ref07_Cell : Nat := 15
def ir.ref07_Cell : IC :=
 (.seq (.reg [⟨some 3, .box, [.t 0], none⟩, ⟨some 4, .box, [.t 1], none⟩, ⟨some 5, .box, [.t 2], none⟩, ⟨some 6, .alloc [(.int .i64 0), (.int .i64 0)], [], none⟩, ⟨some 7, .mov, [.c (.int .i64 0)], none⟩])
   (.seq (.seq (.reg [⟨some 9, .load 6 true, [.t 3], none⟩, ⟨some 10, .call 11, [.t 9], none⟩, ⟨some 8, .mov, [.t 10], none⟩])
   (.seq (.reg [⟨some 11, .mov, [.t 8], none⟩, ⟨some 12, .bin .neq, [.t 11, .c (.int .i64 0)], none⟩])
   (.cond (.t 12) (.seq (.reg [⟨some 13, .build [(.int .i64 0), (.int .i64 0)] [], [], none⟩, ⟨some 14, .mov, [.t 8], none⟩, ⟨none, .store 2, [.t 6, .t 13], none⟩, ⟨some 7, .mov, [.t 14], none⟩])
   .ret) .skip)))
   (.seq (.seq (.reg [⟨some 15, .load 2 true, [.t 4], none⟩, ⟨some 16, .call 45, [.t 15], none⟩, ⟨some 17, .bin .neq, [.t 16, .c (.int .i64 0)], none⟩, ⟨some 18, .mov, [.t 17], none⟩, ⟨some 19, .load 2 true, [.t 5], (some (18, false))⟩, ⟨some 20, .call 45, [.t 19], (some (18, false))⟩, ⟨some 21, .bin .neq, [.t 20, .c (.int .i64 0)], (some (18, false))⟩, ⟨some 22, .pick, [.t 18, .c (.bool true), .t 21], none⟩])
   (.cond (.t 22) (.seq (.reg [⟨some 23, .build [(.int .i64 0), (.int .i64 0)] [], [], none⟩, ⟨none, .store 2, [.t 6, .t 23], none⟩, ⟨some 7, .mov, [.c (.int .i64 10)], none⟩])
   .ret) .skip))
   (.seq (.reg [⟨some 24, .load 6 true, [.t 3], none⟩, ⟨some 25, .load 2 true, [.t 4], none⟩, ⟨some 26, .load 2 true, [.t 5], none⟩, ⟨some 27, .call 49, [.t 24, .t 25, .t 26], none⟩, ⟨none, .store 2, [.t 6, .t 27], none⟩, ⟨some 7, .mov, [.c (.int .i64 0)], none⟩])
   .ret))))
theorem chk.ref07_Cell : chkF Tryz.prog 15 = some (28, ir.ref07_Cell, [.cell 6 39, .tmp 7]) := by kernel_rfl

/-- paravane/bin.Hits -/
abbrev F.bin_Hits : Nat := 16
def ir.bin_Hits : IC :=
 (.seq (.reg [⟨some 3, .box, [.t 0], none⟩, ⟨some 4, .box, [.t 1], none⟩, ⟨some 6, .mov, [.c .nils], none⟩, ⟨some 7, .mov, [.c (.int .i64 0)], none⟩])
   (.seq (.reg [⟨some 11, .load 6 true, [.t 3], none⟩, ⟨some 12, .load 2 true, [.t 4], none⟩, ⟨some 13, .call 50, [.t 11, .t 12], none⟩, ⟨some 10, .mov, [.t 13], none⟩, ⟨some 14, .extract 0, [.t 10], none⟩, ⟨some 15, .extract 1, [.t 10], none⟩, ⟨some 8, .alloc [(.int .i64 0), (.int .i64 0), (.int .i64 0), (.int .i64 0), (.int .i64 0), .nils, .nils, .nils], [], none⟩, ⟨none, .store 8, [.t 8, .t 14], none⟩, ⟨some 9, .mov, [.t 15], none⟩])
   (.seq (.seq (.reg [⟨some 16, .mov, [.t 9], none⟩, ⟨some 17, .bin .neq, [.t 16, .c (.int .i64 0)], none⟩])
   (.cond (.t 17) (.seq (.reg [⟨some 18, .mov, [.t 9], none⟩, ⟨some 6, .mov, [.c .nils], none⟩, ⟨some 7, .mov, [.t 18], none⟩])
   .ret) .skip))
   (.seq (.seq (.reg [⟨some 19, .mov, [.t 2], none⟩, ⟨some 20, .faddr 1, [.t 4], none⟩, ⟨some 21, .load 1 false, [.t 20], none⟩, ⟨some 22, .len false, [.t 21], none⟩, ⟨some 23, .bin .sub, [.t 22, .c (.int .i64 1)], none⟩, ⟨some 24, .call 44, [.t 19, .c (.int .i64 0), .t 23], none⟩, ⟨some 25, .un .not, [.t 24], none⟩])
   (.cond (.t 25) (.seq (.reg [⟨some 6, .mov, [.c .nils], none⟩, ⟨some 7, .mov, [.c (.int .i64 72)], none⟩])
   .ret) .skip))
   (.seq (.reg [⟨some 26, .load 8 true, [.t 8], none⟩, ⟨some 27, .mov, [.t 2], none⟩, ⟨some 28, .call 51, [.t 26, .t 27], none⟩, ⟨some 6, .mov, [.t 28], none⟩, ⟨some 7, .mov, [.c (.int .i64 0)], none⟩])
   .ret)))))
theorem chk.bin_Hits : chkF Tryz.prog 16 = some (29, ir.bin_Hits, [.tmp 6, .tmp 7]) := by kernel_rfl

/-- paravane/paravaneref07.Hits -/
abbrev F.ref07_Hits : Nat := 17
def ir.ref07_Hits : IC :=
 (.seq (.reg [⟨some 3, .box, [.t 0], none⟩, ⟨some 4, .box, [.t 1], none⟩, ⟨some 6, .mov, [.c .nils], none⟩, ⟨some 7, .mov, [.c (.int .i64 0)], none⟩])
   (.seq (.seq (.reg [⟨some 10, .load 6 true, [.t 3], none⟩, ⟨some 11, .load 2 true, [.t 4], none⟩, ⟨some 12, .call 52, [.t 10, .t 11], none⟩, ⟨some 8, .mov, [.t 12], none⟩])
   (.seq (.reg [⟨some 13, .mov, [.t 8], none⟩, ⟨some 14, .bin .neq, [.t 13, .c (.int .i64 0)], none⟩])
   (.cond (.t 14) (.seq (.reg [⟨some 15, .mov, [.t 8], none⟩, ⟨some 6, .mov, [.c .nils], none⟩, ⟨some 7, .mov, [.t 15], none⟩])
   .ret) .skip)))
   (.seq (.seq (.reg [⟨some 16, .mov, [.t 2], none⟩, ⟨some 17, .faddr 1, [.t 4], none⟩, ⟨some 18, .load 1 false, [.t 17], none⟩, ⟨some 19, .len false, [.t 18], none⟩, ⟨some 20, .bin .sub, [.t 19, .c (.int .i64 1)], none⟩, ⟨some 21, .call 39, [.t 16, .c (.int .i64 0), .t 20], none⟩, ⟨some 22, .un .not, [.t 21], none⟩])
   (.cond (.t 22) (.seq (.reg [⟨some 6, .mov, [.c .nils], none⟩, ⟨some 7, .mov, [.c (.int .i64 72)], none⟩])
   .ret) .skip))
   (.seq (.reg [⟨some 23, .faddr 1, [.t 4], none⟩, ⟨some 24, .load 1 false, [.t 23], none⟩, ⟨some 25, .mov, [.t 2], none⟩, ⟨some 26, .iaddrS 2, [.t 24, .t 25], none⟩, ⟨some 27, .load 2 true, [.t 26], none⟩, ⟨some 9, .alloc [(.int .i64 0), (.int .i64 0)], [], none⟩, ⟨none, .store 2, [.t 9, .t 27], none⟩])
   (.seq (.draw [0, 0, 2, 0, 8, 30, 62, 126, 0, 256, 0, 1024, 3840, 7936, 16382, 32767, 65535, 131071] [⟨some 28, .load 6 true, [.t 3], none⟩, ⟨some 29, .faddr 0, [.t 4], none⟩, ⟨some 30, .load 1 false, [.t 29], none⟩, ⟨some 31, .iaddrA 2 1, [.t 9, .c (.int .i64 0)], none⟩, ⟨some 32, .load 1 false, [.t 31], none⟩, ⟨some 33, .iaddrS 8, [.t 30, .t 32], none⟩, ⟨some 34, .load 8 true, [.t 33], none⟩, ⟨some 35, .call 54, [.t 34], none⟩, ⟨some 36, .faddr 0, [.t 4], none⟩, ⟨some 37, .load 1 false, [.t 36], none⟩, ⟨some 38, .iaddrA 2 1, [.t 9, .c (.int .i64 1)], none⟩, ⟨some 39, .load 1 false, [.t 38], none⟩, ⟨some 40, .iaddrS 8, [.t 37, .t 39], none⟩, ⟨some 41, .load 8 true, [.t 40], none⟩, ⟨some 42, .call 54, [.t 41], none⟩, ⟨some 43, .call 53, [.t 28, .t 35, .t 42], none⟩, ⟨some 6, .mov, [.t 43], none⟩, ⟨some 7, .mov, [.c (.int .i64 0)], none⟩])
   .ret)))))
theorem chk.ref07_Hits : chkF Tryz.prog 17 = some (44, ir.ref07_Hits, [.tmp 6, .tmp 7]) := by kernel_rfl

/-- paravane/paravanelaw07.cells -/
abbrev F.law07_cells : Nat := 18
def ir.law07_cells : IC :=
 (.seq (.reg [⟨some 4, .mov, [.c (.bool false)], none⟩])
   (.seq (.seq (.reg [⟨some 6, .mov, [.t 0], none⟩, ⟨some 7, .len false, [.t 6], none⟩, ⟨some 8, .mov, [.t 1], none⟩, ⟨some 9, .len false, [.t 8], none⟩, ⟨some 10, .bin .neq, [.t 7, .t 9], none⟩])
   (.cond (.t 10) (.seq (.reg [⟨some 4, .mov, [.c (.bool false)], none⟩])
   .ret) .skip))
   (.seq (.seq (.reg [⟨some 5, .mov, [.c (.int .i64 0)], none⟩])
   (.block 0 (.loop (.seq (.seq (.reg [⟨some 11, .mov, [.t 5], none⟩, ⟨some 12, .mov, [.t 0], none⟩, ⟨some 13, .len false, [.t 12], none⟩, ⟨some 14, .bin .lss, [.t 11, .t 13], none⟩])
   (.cond (.t 14) .skip (.exit 0)))
   (.seq (.block 1 (.seq (.draw [0, 0, 3, 7, 0, 0, 48, 112, 255] [⟨some 17, .mov, [.t 0], none⟩, ⟨some 18, .mov, [.t 5], none⟩, ⟨some 19, .iaddrS 2, [.t 17, .t 18], none⟩, ⟨some 20, .load 2 true, [.t 19], none⟩, ⟨some 21, .mov, [.t 1], none⟩, ⟨some 22, .mov, [.t 5], none⟩, ⟨some 23, .iaddrS 2, [.t 21, .t 22], none⟩, ⟨some 24, .load 2 true, [.t 23], none⟩, ⟨some 25, .eqs true [0, 0], [.t 20, .t 24], none⟩])
   (.cond (.t 25) (.seq (.reg [⟨some 4, .mov, [.c (.bool false)], none⟩])
   .ret) .skip)))
   (.reg [⟨some 15, .mov, [.t 5], none⟩, ⟨some 16, .bin .add, [.t 15, .c (.int .i64 1)], none⟩, ⟨some 5, .mov, [.t 16], none⟩]))))))
   (.seq (.reg [⟨some 4, .mov, [.c (.bool true)], none⟩])
   .ret))))
theorem chk.law07_cells : chkF Tryz.prog 18 = some (26, ir.law07_cells, [.tmp 4]) := by kernel_rfl

/-- paravane/paravanelaw07.works -/
abbrev F.law07_works : Nat := 19
def ir.law07_works : IC :=
 (.seq (.reg [⟨some 0, .mov, [.c (.bool false)], none⟩])
   (.seq (.reg [⟨some 19, .call 55, [], none⟩, ⟨some 20, .build [(.int .i64 0), (.int .i64 0)] [(0, 1), (1, 1)], [.c (.int .i64 1), .c (.int .i64 1)], none⟩, ⟨some 21, .build [(.int .i64 0), (.int .i64 0)] [(0, 1), (1, 1)], [.c (.int .i64 9), .c (.int .i64 3)], none⟩, ⟨some 22, .call 14, [.t 19, .t 20, .t 21], none⟩, ⟨some 18, .mov, [.t 22], none⟩, ⟨some 23, .extract 0, [.t 18], none⟩, ⟨some 24, .extract 1, [.t 18], none⟩, ⟨some 1, .alloc [(.int .i64 0), (.int .i64 0)], [], none⟩, ⟨none, .store 2, [.t 1, .t 23], none⟩, ⟨some 2, .mov, [.t 24], none⟩])
   (.seq (.reg [⟨some 26, .call 55, [], none⟩, ⟨some 27, .call 56, [], none⟩, ⟨some 28, .call 16, [.t 26, .t 27, .c (.int .i64 2)], none⟩, ⟨some 25, .mov, [.t 28], none⟩, ⟨some 29, .extract 0, [.t 25], none⟩, ⟨some 30, .extract 1, [.t 25], none⟩, ⟨some 3, .mov, [.t 29], none⟩, ⟨some 4, .mov, [.t 30], none⟩])
   (.seq (.reg [⟨some 32, .call 55, [], none⟩, ⟨some 33, .call 56, [], none⟩, ⟨some 34, .call 20, [.t 32, .t 33], none⟩, ⟨some 31, .mov, [.t 34], none⟩, ⟨some 35, .extract 0, [.t 31], none⟩, ⟨some 36, .extract 1, [.t 31], none⟩, ⟨some 37, .extract 2, [.t 31], none⟩, ⟨some 5, .mov, [.t 35], none⟩, ⟨some 6, .mov, [.t 36], none⟩, ⟨some 7, .mov, [.t 37], none⟩])
   (.seq (.seq (.reg [⟨some 38, .mov, [.t 2], none⟩, ⟨some 39, .bin .neq, [.t 38, .c (.int .i64 0)], none⟩, ⟨some 40, .mov, [.t 39], none⟩, ⟨some 41, .mov, [.t 4], (some (40, false))⟩, ⟨some 42, .bin .neq, [.t 41, .c (.int .i64 0)], (some (40, false))⟩, ⟨some 43, .pick, [.t 40, .c (.bool true), .t 42], none⟩, ⟨some 44, .mov, [.t 43], none⟩, ⟨some 45, .mov, [.t 7], (some (44, false))⟩, ⟨some 46, .bin .neq, [.t 45, .c (.int .i64 0)], (some (44, false))⟩, ⟨some 47, .pick, [.t 44, .c (.bool true), .t 46], none⟩, ⟨some 48, .mov, [.t 47], none⟩, ⟨some 49, .load 2 true, [.t 1], (some (48, false))⟩, ⟨some 50, .build [(.int .i64 0), (.int .i64 0)] [(0, 1), (1, 1)], [.c (.int .i64 5), .c (.int .i64 1)], (some (48, false))⟩, ⟨some 51, .eqs true [0, 0], [.t 49, .t 50], (some (48, false))⟩, ⟨some 52, .pick, [.t 48, .c (.bool true), .t 51], none⟩, ⟨some 53, .mov, [.t 52], none⟩, ⟨some 54, .mov, [.t 3], (some (53, false))⟩, ⟨some 55, .build [(.int .i64 0), (.int .i64 0)] [(0, 1), (1, 1)], [.c (.int .i64 (-1)), .c (.int .i64 (-1))], (some (53, false))⟩, ⟨some 56, .build [(.int .i64 0), (.int .i64 0)] [(0, 1)], [.c (.int .i64 5)], (some (53, false))⟩, ⟨some 57, .mkslice 2 39, [.t 55, .t 56], (some (53, false))⟩, ⟨some 58, .call 18, [.t 54, .t 57], (some (53, false))⟩, ⟨some 59, .un .not, [.t 58], (some (53, false))⟩, ⟨some 60, .pick, [.t 53, .c (.bool true), .t 59], none⟩, ⟨some 61, .mov, [.t 60], none⟩, ⟨some 62, .mov, [.t 5], (some (61, false))⟩, ⟨some 63, .mkslice 1 3, [.c (.int .i64 0), .c (.int .i64 0)], (some (61, false))⟩, ⟨some 64, .mkslice 1 3, [.c (.int .i64 0), .c (.int .i64 0)], (some (61, false))⟩, ⟨some 65, .mkslice 1 3, [.c (.int .i64 0), .c (.int .i64 0)], (some (61, false))⟩, ⟨some 66, .mkslice 1 3, [.c (.int .i64 0), .c (.int .i64 0)], (some (61, false))⟩, ⟨some 67, .mkslice 1 3, [.c (.int .i64 1), .c (.int .i64 0)], (some (61, false))⟩, ⟨some 68, .mkslice 1 3, [.c (.int .i64 0), .c (.int .i64 1)], (some (61, false))⟩, ⟨some 69, .mkslice 1 48, [.t 63, .t 64, .t 65, .t 66, .t 67, .t 68], (some (61, false))⟩, ⟨some 70, .call 22, [.t 62, .t 69], (some (61, false))⟩, ⟨some 71, .un .not, [.t 70], (some (61, false))⟩, ⟨some 72, .pick, [.t 61, .c (.bool true), .t 71], none⟩, ⟨some 73, .mov, [.t 72], none⟩, ⟨some 74, .mov, [.t 6], (some (73, false))⟩, ⟨some 75, .mkslice 1 3, [.c (.int .i64 0), .c (.int .i64 0)], (some (73, false))⟩, ⟨some 76, .mkslice 1 3, [.c (.int .i64 0), .c (.int .i64 0)], (some (73, false))⟩, ⟨some 77, .mkslice 1 3, [.c (.int .i64 0), .c (.int .i64 0)], (some (73, false))⟩, ⟨some 78, .mkslice 1 3, [.c (.int .i64 0), .c (.int .i64 0)], (some (73, false))⟩, ⟨some 79, .mkslice 1 3, [.c (.int .i64 1), .c (.int .i64 0)], (some (73, false))⟩, ⟨some 80, .mkslice 1 3, [.c (.int .i64 1), .c (.int .i64 1)], (some (73, false))⟩, ⟨some 81, .mkslice 1 48, [.t 75, .t 76, .t 77, .t 78, .t 79, .t 80], (some (73, false))⟩, ⟨some 82, .call 22, [.t 74, .t 81], (some (73, false))⟩, ⟨some 83, .un .not, [.t 82], (some (73, false))⟩, ⟨some 84, .pick, [.t 73, .c (.bool true), .t 83], none⟩])
   (.cond (.t 84) (.seq (.reg [⟨some 0, .mov, [.c (.bool false)], none⟩])
   .ret) .skip))
   (.seq (.reg [⟨some 86, .call 55, [], none⟩, ⟨some 87, .mov, [.t 5], none⟩, ⟨some 88, .call 57, [.t 86, .t 87, .c (.int .i64 0)], none⟩, ⟨some 85, .mov, [.t 88], none⟩, ⟨some 89, .extract 0, [.t 85], none⟩, ⟨some 90, .extract 1, [.t 85], none⟩, ⟨some 8, .mov, [.t 89], none⟩, ⟨some 2, .mov, [.t 90], none⟩])
   (.seq (.reg [⟨some 92, .call 55, [], none⟩, ⟨some 93, .call 56, [], none⟩, ⟨some 94, .mkslice 1 3, [.c (.int .i64 0), .c (.int .i64 2)], none⟩, ⟨some 95, .call 23, [.t 92, .t 93, .t 94], none⟩, ⟨some 91, .mov, [.t 95], none⟩, ⟨some 96, .extract 0, [.t 91], none⟩, ⟨some 97, .extract 1, [.t 91], none⟩, ⟨some 9, .mov, [.t 96], none⟩, ⟨some 4, .mov, [.t 97], none⟩])
   (.seq (.reg [⟨some 99, .call 55, [], none⟩, ⟨some 100, .call 56, [], none⟩, ⟨some 101, .call 26, [.t 99, .t 100, .c (.int .i64 2)], none⟩, ⟨some 98, .mov, [.t 101], none⟩, ⟨some 102, .extract 0, [.t 98], none⟩, ⟨some 103, .extract 1, [.t 98], none⟩, ⟨some 10, .mov, [.t 102], none⟩, ⟨some 7, .mov, [.t 103], none⟩])
   (.seq (.reg [⟨some 105, .call 58, [], none⟩, ⟨some 106, .call 40, [.t 105], none⟩, ⟨some 104, .mov, [.t 106], none⟩, ⟨some 107, .extract 0, [.t 104], none⟩, ⟨some 108, .extract 1, [.t 104], none⟩, ⟨some 109, .extract 2, [.t 104], none⟩, ⟨some 11, .mov, [.t 107], none⟩, ⟨some 12, .mov, [.t 108], none⟩, ⟨some 13, .mov, [.t 109], none⟩])
   (.seq (.reg [⟨some 111, .call 58, [], none⟩, ⟨some 112, .call 59, [.t 111, .c (.int .i64 3)], none⟩, ⟨some 110, .mov, [.t 112], none⟩, ⟨some 113, .extract 0, [.t 110], none⟩, ⟨some 114, .extract 1, [.t 110], none⟩, ⟨some 14, .mov, [.t 113], none⟩, ⟨some 15, .mov, [.t 114], none⟩])
   (.seq (.reg [⟨some 116, .call 58, [], none⟩, ⟨some 117, .mkslice 1 3, [.c (.int .i64 2), .c (.int .i64 2)], none⟩, ⟨some 118, .build [(.int .i64 0), .nils] [(0, 1), (1, 1)], [.c (.int .i64 (-1)), .t 117], none⟩, ⟨some 119, .mkslice 2 115, [.t 118], none⟩, ⟨some 120, .call 31, [.t 116, .t 119], none⟩, ⟨some 115, .mov, [.t 120], none⟩, ⟨some 121, .extract 0, [.t 115], none⟩, ⟨some 122, .extract 1, [.t 115], none⟩, ⟨some 16, .mov, [.t 121], none⟩, ⟨some 17, .mov, [.t 122], none⟩])
   (.seq (.reg [⟨some 123, .mov, [.t 2], none⟩, ⟨some 124, .bin .eql, [.t 123, .c (.int .i64 0)], none⟩, ⟨some 125, .mov, [.t 124], none⟩, ⟨some 126, .mov, [.t 4], (some (125, true))⟩, ⟨some 127, .bin .eql, [.t 126, .c (.int .i64 0)], (some (125, true))⟩, ⟨some 128, .pick, [.t 125, .t 127, .c (.bool false)], none⟩, ⟨some 129, .mov, [.t 128], none⟩, ⟨some 130, .mov, [.t 7], (some (129, true))⟩, ⟨some 131, .bin .eql, [.t 130, .c (.int .i64 0)], (some (129, true))⟩, ⟨some 132, .pick, [.t 129, .t 131, .c (.bool false)], none⟩, ⟨some 133, .mov, [.t 132], none⟩, ⟨some 134, .mov, [.t 13], (some (133, true))⟩, ⟨some 135, .bin .eql, [.t 134, .c (.int .i64 0)], (some (133, true))⟩, ⟨some 136, .pick, [.t 133, .t 135, .c (.bool false)], none⟩, ⟨some 137, .mov, [.t 136], none⟩, ⟨some 138, .mov, [.t 15], (some (137, true))⟩, ⟨some 139, .bin .eql, [.t 138, .c (.int .i64 0)], (some (137, true))⟩, ⟨some 140, .pick, [.t 137, .t 139, .c (.bool false)], none⟩, ⟨some 141, .mov, [.t 140], none⟩, ⟨some 142, .mov, [.t 17], (some (141, true))⟩, ⟨some 143, .bin .eql, [.t 142, .c (.int .i64 0)], (some (141, true))⟩, ⟨some 144, .pick, [.t 141, .t 143, .c (.bool false)], none⟩, ⟨some 145, .mov, [.t 144], none⟩, ⟨some 146, .mov, [.t 8], (some (145, true))⟩, ⟨some 147, .bin .eql, [.t 146, .c (.str ⟨#[46, 49, 46, 10, 46, 46, 46, 10]⟩)], (some (145, true))⟩, ⟨some 148, .pick, [.t 145, .t 147, .c (.bool false)], none⟩, ⟨some 149, .mov, [.t 148], none⟩, ⟨some 150, .mov, [.t 9], (some (149, true))⟩, ⟨some 151, .len false, [.t 150], (some (149, true))⟩, ⟨some 152, .bin .eql, [.t 151, .c (.int .i64 6)], (some (149, true))⟩, ⟨some 153, .pick, [.t 149, .t 152, .c (.bool false)], none⟩, ⟨some 154, .mov, [.t 153], none⟩, ⟨some 155, .mov, [.t 9], (some (154, true))⟩, ⟨some 156, .iaddrS 3, [.t 155, .c (.int .i64 5)], (some (154, true))⟩, ⟨some 157, .load 3 true, [.t 156], (some (154, true))⟩, ⟨some 158, .build [(.int .i64 0), (.int .i64 0), (.int .i64 0)] [(0, 1), (1, 1), (2, 1)], [.c (.int .i64 5), .c (.int .i64 1), .c (.int .i64 1)], (some (154, true))⟩, ⟨some 159, .eqs false [0, 0, 0], [.t 157, .t 158], (some (154, true))⟩, ⟨some 160, .pick, [.t 154, .t 159, .c (.bool false)], none⟩, ⟨some 161, .mov, [.t 160], none⟩, ⟨some 162, .mov, [.t 10], (some (161, true))⟩, ⟨some 163, .bin .eql, [.t 162, .c (.int .i64 0)], (some (161, true))⟩, ⟨some 164, .pick, [.t 161, .t 163, .c (.bool false)], none⟩, ⟨some 165, .mov, [.t 164], none⟩, ⟨some 166, .mov, [.t 11], (some (165, true))⟩, ⟨some 167, .mkslice 1 3, [.c (.int .i64 3)], (some (165, true))⟩, ⟨some 168, .call 60, [.t 166, .t 167], (some (165, true))⟩, ⟨some 169, .pick, [.t 165, .t 168, .c (.bool false)], none⟩, ⟨some 170, .mov, [.t 169], none⟩, ⟨some 171, .mov, [.t 12], (some (170, true))⟩, ⟨some 172, .bin .eql, [.t 171, .c (.int .i64 6)], (some (170, true))⟩, ⟨some 173, .pick, [.t 170, .t 172, .c (.bool false)], none⟩, ⟨some 174, .mov, [.t 173], none⟩, ⟨some 175, .mov, [.t 14], (some (174, true))⟩, ⟨some 176, .bin .eql, [.t 175, .c (.int .i64 1)], (some (174, true))⟩, ⟨some 177, .pick, [.t 174, .t 176, .c (.bool false)], none⟩, ⟨some 178, .mov, [.t 177], none⟩, ⟨some 179, .mov, [.t 16], (some (178, true))⟩, ⟨some 180, .bin .eql, [.t 179, .c (.int .i64 6)], (some (178, true))⟩, ⟨some 181, .pick, [.t 178, .t 180, .c (.bool false)], none⟩, ⟨some 0, .mov, [.t 181], none⟩])
   .ret))))))))))))
theorem chk.law07_works : chkF Tryz.prog 19 = some (182, ir.law07_works, [.tmp 0]) := by kernel_rfl

/-- paravane/bin.Fold -/
abbrev F.bin_Fold : Nat := 20
def ir.bin_Fold : IC :=
 (.seq (.reg [⟨some 2, .box, [.t 0], none⟩, ⟨some 3, .box, [.t 1], none⟩, ⟨some 4, .mov, [.c .nils], none⟩, ⟨some 5, .mov, [.c .nils], none⟩, ⟨some 6, .mov, [.c (.int .i64 0)], none⟩])
   (.seq (.reg [⟨some 11, .load 6 true, [.t 2], none⟩, ⟨some 12, .load 2 true, [.t 3], none⟩, ⟨some 13, .call 50, [.t 11, .t 12], none⟩, ⟨some 10, .mov, [.t 13], none⟩, ⟨some 14, .extract 0, [.t 10], none⟩, ⟨some 15, .extract 1, [.t 10], none⟩, ⟨some 7, .alloc [(.int .i64 0), (.int .i64 0), (.int .i64 0), (.int .i64 0), (.int .i64 0), .nils, .nils, .nils], [], none⟩, ⟨none, .store 8, [.t 7, .t 14], none⟩, ⟨some 6, .mov, [.t 15], none⟩])
   (.seq (.seq (.reg [⟨some 16, .mov, [.t 6], none⟩, ⟨some 17, .bin .neq, [.t 16, .c (.int .i64 0)], none⟩])
   (.cond (.t 17) (.seq (.reg [⟨some 18, .mov, [.t 6], none⟩, ⟨some 4, .mov, [.c .nils], none⟩, ⟨some 5, .mov, [.c .nils], none⟩, ⟨some 6, .mov, [.t 18], none⟩])
   .ret) .skip))
   (.seq (.draw [0, 1, 0, 4, 3, 31] [⟨some 19, .load 8 true, [.t 7], none⟩, ⟨some 20, .mkfunc (.func 61) 1, [.t 19], none⟩, ⟨some 21, .load 8 true, [.t 7], none⟩, ⟨some 22, .mkfunc (.func 51) 1, [.t 21], none⟩, ⟨some 8, .mov, [.t 20], none⟩, ⟨some 9, .mov, [.t 22], none⟩])
   (.seq (.draw [0, 0, 3, 0, 0, 31, 63, 127, 255] [⟨some 23, .load 8 true, [.t 7], none⟩, ⟨some 24, .mov, [.t 8], none⟩, ⟨some 25, .call 62, [.t 23, .t 24], none⟩, ⟨some 26, .load 8 true, [.t 7], none⟩, ⟨some 27, .mov, [.t 9], none⟩, ⟨some 28, .call 62, [.t 26, .t 27], none⟩, ⟨some 4, .mov, [.t 25], none⟩, ⟨some 5, .mov, [.t 28], none⟩, ⟨some 6, .mov, [.c (.int .i64 0)], none⟩])
   .ret)))))
theorem chk.bin_Fold : chkF Tryz.prog 20 = some (29, ir.bin_Fold, [.tmp 4, .tmp 5, .tmp 6]) := by kernel_rfl

/-- paravane/paravaneref00.AlikeLists -/
abbrev F.ref00_AlikeLists : Nat := 22
def ir.ref00_AlikeLists : IC :=
 (.seq (.reg [⟨some 4, .mov, [.c (.bool false)], none⟩])
   (.seq (.seq (.reg [⟨some 6, .mov, [.t 0], none⟩, ⟨some 7, .len false, [.t 6], none⟩, ⟨some 8, .mov, [.t 1], none⟩, ⟨some 9, .len false, [.t 8], none⟩, ⟨some 10, .bin .neq, [.t 7, .t 9], none⟩])
   (.cond (.t 10) (.seq (.reg [⟨some 4, .mov, [.c (.bool false)], none⟩])
   .ret) .skip))
   (.seq (.seq (.reg [⟨some 5, .mov, [.c (.int .i64 0)], none⟩])
   (.block 0 (.loop (.seq (.seq (.reg [⟨some 11, .mov, [.t 5], none⟩, ⟨some 12, .mov, [.t 0], none⟩, ⟨some 13, .len false, [.t 12], none⟩, ⟨some 14, .bin .lss, [.t 11, .t 13], none⟩])
   (.cond (.t 14) .skip (.exit 0)))
   (.seq (.block 1 (.seq (.draw [0, 0, 3, 7, 0, 0, 48, 112, 255, 511] [⟨some 17, .mov, [.t 0], none⟩, ⟨some 18, .mov, [.t 5], none⟩, ⟨some 19, .iaddrS 1, [.t 17, .t 18], none⟩, ⟨some 20, .load 1 false, [.t 19], none⟩, ⟨some 21, .mov, [.t 1], none⟩, ⟨some 22, .mov, [.t 5], none⟩, ⟨some 23, .iaddrS 1, [.t 21, .t 22], none⟩, ⟨some 24, .load 1 false, [.t 23], none⟩, ⟨some 25, .call 60, [.t 20, .t 24], none⟩, ⟨some 26, .un .not, [.t 25], none⟩])
   (.cond (.t 26) (.seq (.reg [⟨some 4, .mov, [.c (.bool false)], none⟩])
   .ret) .skip)))
   (.reg [⟨some 15, .mov, [.t 5], none⟩, ⟨some 16, .bin .add, [.t 15, .c (.int .i64 1)], none⟩, ⟨some 5, .mov, [.t 16], none⟩]))))))
   (.seq (.reg [⟨some 4, .mov, [.c (.bool true)], none⟩])
   .ret))))
theorem chk.ref00_AlikeLists : chkF Tryz.prog 22 = some (27, ir.ref00_AlikeLists, [.tmp 4]) := by kernel_rfl

/-- paravane/bin.Lacks -/
abbrev F.bin_Lacks : Nat := 23
def ir.bin_Lacks : IC :=
 (.seq (.reg [⟨some 3, .box, [.t 0], none⟩, ⟨some 4, .box, [.t 1], none⟩, ⟨some 6, .mov, [.c .nils], none⟩, ⟨some 7, .mov, [.c (.int .i64 0)], none⟩])
   (.seq (.reg [⟨some 11, .load 6 true, [.t 3], none⟩, ⟨some 12, .load 2 true, [.t 4], none⟩, ⟨some 13, .call 50, [.t 11, .t 12], none⟩, ⟨some 10, .mov, [.t 13], none⟩, ⟨some 14, .extract 0, [.t 10], none⟩, ⟨some 15, .extract 1, [.t 10], none⟩, ⟨some 8, .alloc [(.int .i64 0), (.int .i64 0), (.int .i64 0), (.int .i64 0), (.int .i64 0), .nils, .nils, .nils], [], none⟩, ⟨none, .store 8, [.t 8, .t 14], none⟩, ⟨some 9, .mov, [.t 15], none⟩])
   (.seq (.seq (.reg [⟨some 16, .mov, [.t 9], none⟩, ⟨some 17, .bin .neq, [.t 16, .c (.int .i64 0)], none⟩])
   (.cond (.t 17) (.seq (.reg [⟨some 18, .mov, [.t 9], none⟩, ⟨some 6, .mov, [.c .nils], none⟩, ⟨some 7, .mov, [.t 18], none⟩])
   .ret) .skip))
   (.seq (.seq (.reg [⟨some 19, .load 6 true, [.t 3], none⟩, ⟨some 20, .mov, [.t 2], none⟩, ⟨some 21, .call 64, [.t 19, .t 20], none⟩, ⟨some 22, .un .not, [.t 21], none⟩])
   (.cond (.t 22) (.seq (.reg [⟨some 6, .mov, [.c .nils], none⟩, ⟨some 7, .mov, [.c (.int .i64 73)], none⟩])
   .ret) .skip))
   (.seq (.reg [⟨some 23, .load 8 true, [.t 8], none⟩, ⟨some 24, .mov, [.t 2], none⟩, ⟨some 25, .call 65, [.t 23, .t 24], none⟩, ⟨some 6, .mov, [.t 25], none⟩, ⟨some 7, .mov, [.c (.int .i64 0)], none⟩])
   .ret)))))
theorem chk.bin_Lacks : chkF Tryz.prog 23 = some (26, ir.bin_Lacks, [.tmp 6, .tmp 7]) := by kernel_rfl

/-- paravane/bin.Gain -/
abbrev F.bin_Gain : Nat := 26
def ir.bin_Gain : IC :=
 (.seq (.reg [⟨some 3, .box, [.t 0], none⟩, ⟨some 4, .box, [.t 1], none⟩, ⟨some 6, .mov, [.c (.int .i64 0)], none⟩, ⟨some 7, .mov, [.c (.int .i64 0)], none⟩])
   (.seq (.reg [⟨some 17, .load 6 true, [.t 3], none⟩, ⟨some 18, .load 2 true, [.t 4], none⟩, ⟨some 19, .call 50, [.t 17, .t 18], none⟩, ⟨some 16, .mov, [.t 19], none⟩, ⟨some 20, .extract 0, [.t 16], none⟩, ⟨some 21, .extract 1, [.t 16], none⟩, ⟨some 8, .alloc [(.int .i64 0), (.int .i64 0), (.int .i64 0), (.int .i64 0), (.int .i64 0), .nils, .nils, .nils], [], none⟩, ⟨none, .store 8, [.t 8, .t 20], none⟩, ⟨some 9, .mov, [.t 21], none⟩])
   (.seq (.seq (.reg [⟨some 22, .mov, [.t 9], none⟩, ⟨some 23, .bin .neq, [.t 22, .c (.int .i64 0)], none⟩])
   (.cond (.t 23) (.seq (.reg [⟨some 24, .mov, [.t 9], none⟩, ⟨some 6, .mov, [.c (.int .i64 0)], none⟩, ⟨some 7, .mov, [.t 24], none⟩])
   .ret) .skip))
   (.seq (.seq (.reg [⟨some 25, .mov, [.t 2], none⟩, ⟨some 26, .faddr 0, [.t 4], none⟩, ⟨some 27, .load 1 false, [.t 26], none⟩, ⟨some 28, .len false, [.t 27], none⟩, ⟨some 29, .bin .sub, [.t 28, .c (.int .i64 1)], none⟩, ⟨some 30, .call 44, [.t 25, .c (.int .i64 0), .t 29], none⟩, ⟨some 31, .un .not, [.t 30], none⟩])
   (.cond (.t 31) (.seq (.reg [⟨some 6, .mov, [.c (.int .i64 0)], none⟩, ⟨some 7, .mov, [.c (.int .i64 72)], none⟩])
   .ret) .skip))
   (.seq (.reg [⟨some 32, .load 8 true, [.t 8], none⟩, ⟨some 33, .call 68, [.t 32], none⟩, ⟨some 10, .mov, [.t 33], none⟩])
   (.seq (.reg [⟨some 11, .mov, [.c (.int .i64 (-1))], none⟩])
   (.seq (.seq (.reg [⟨some 34, .faddr 7, [.t 8], none⟩, ⟨some 35, .load 1 false, [.t 34], none⟩, ⟨some 36, .mov, [.t 2], none⟩, ⟨some 37, .iaddrS 1, [.t 35, .t 36], none⟩, ⟨some 38, .load 1 false, [.t 37], none⟩, ⟨some 39, .len false, [.t 38], none⟩, ⟨some 40, .mov, [.c (.int .i64 0)], none⟩])
   (.block 0 (.loop (.seq (.reg [⟨some 41, .bin .lss, [.t 40, .t 39], none⟩])
   (.seq (.cond (.t 41) .skip (.exit 0))
   (.seq (.block 1 (.seq (.reg [⟨some 42, .iaddrS 2, [.t 38, .t 40], none⟩, ⟨some 43, .load 2 true, [.t 42], none⟩, ⟨some 13, .alloc [(.int .i64 0), (.int .i64 0)], [], none⟩, ⟨none, .store 2, [.t 13, .t 43], none⟩])
   (.seq (.reg [⟨some 44, .load 8 true, [.t 8], none⟩, ⟨some 14, .alloc [(.int .i64 0), (.int .i64 0), (.int .i64 0), (.int .i64 0), (.int .i64 0), .nils, .nils, .nils], [], none⟩, ⟨none, .store 8, [.t 14, .t 44], none⟩])
   (.seq (.reg [⟨some 45, .faddr 7, [.t 8], none⟩, ⟨some 46, .load 1 false, [.t 45], none⟩, ⟨some 47, .call 69, [.t 46], none⟩, ⟨some 48, .faddr 7, [.t 14], none⟩, ⟨none, .store 1, [.t 48, .t 47], none⟩])
   (.seq (.reg [⟨some 49, .faddr 7, [.t 14], none⟩, ⟨some 50, .load 1 false, [.t 49], none⟩, ⟨some 51, .mov, [.t 2], none⟩, ⟨some 52, .load 2 true, [.t 13], none⟩, ⟨some 53, .mkslice 2 23, [.t 52], none⟩, ⟨some 54, .iaddrS 1, [.t 50, .t 51], none⟩, ⟨none, .store 1, [.t 54, .t 53], none⟩])
   (.seq (.reg [⟨some 55, .load 8 true, [.t 14], none⟩, ⟨some 56, .call 68, [.t 55], none⟩, ⟨some 15, .mov, [.t 56], none⟩])
   (.seq (.reg [⟨some 57, .mov, [.t 11], none⟩, ⟨some 58, .bin .lss, [.t 57, .c (.int .i64 0)], none⟩, ⟨some 59, .mov, [.t 58], none⟩, ⟨some 60, .mov, [.t 15], (some (59, false))⟩, ⟨some 61, .mov, [.t 11], (some (59, false))⟩, ⟨some 62, .bin .lss, [.t 60, .t 61], (some (59, false))⟩, ⟨some 63, .pick, [.t 59, .c (.bool true), .t 62], none⟩])
   (.cond (.t 63) (.reg [⟨some 64, .mov, [.t 15], none⟩, ⟨some 11, .mov, [.t 64], none⟩]) .skip))))))))
   (.reg [⟨some 65, .bin .add, [.t 40, .c (.int .i64 1)], none⟩, ⟨some 40, .mov, [.t 65], none⟩])))))))
   (.seq (.reg [⟨some 66, .mov, [.t 11], none⟩, ⟨some 67, .mov, [.t 10], none⟩, ⟨some 68, .bin .sub, [.t 66, .t 67], none⟩, ⟨some 6, .mov, [.t 68], none⟩, ⟨some 7, .mov, [.c (.int .i64 0)], none⟩])
   .ret))))))))
theorem chk.bin_Gain : chkF Tryz.prog 26 = some (69, ir.bin_Gain, [.tmp 6, .tmp 7]) := by kernel_rfl

/-- paravane/bin.Bound -/
abbrev F.bin_Bound : Nat := 31
def ir.bin_Bound : IC :=
 (.seq (.reg [⟨some 2, .box, [.t 0], none⟩, ⟨some 3, .box, [.t 1], none⟩, ⟨some 4, .mov, [.c (.int .i64 0)], none⟩, ⟨some 5, .mov, [.c (.int .i64 0)], none⟩])
   (.seq (.seq (.reg [⟨some 12, .load 2 true, [.t 2], none⟩, ⟨some 13, .call 73, [.t 12], none⟩, ⟨some 6, .mov, [.t 13], none⟩])
   (.seq (.reg [⟨some 14, .mov, [.t 6], none⟩, ⟨some 15, .bin .neq, [.t 14, .c (.int .i64 0)], none⟩])
   (.cond (.t 15) (.seq (.reg [⟨some 16, .mov, [.t 6], none⟩, ⟨some 4, .mov, [.c (.int .i64 0)], none⟩, ⟨some 5, .mov, [.t 16], none⟩])
   .ret) .skip)))
   (.seq (.seq (.reg [⟨some 17, .load 1 false, [.t 3], none⟩, ⟨some 18, .len false, [.t 17], none⟩, ⟨some 19, .bin .gtr, [.t 18, .c (.int .i64 2048)], none⟩])
   (.cond (.t 19) (.seq (.reg [⟨some 4, .mov, [.c (.int .i64 0)], none⟩, ⟨some 5, .mov, [.c (.int .i64 76)], none⟩])
   .ret) .skip))
   (.seq (.reg [⟨some 7, .alloc [(.int .i64 0)], [], none⟩, ⟨some 8, .alloc [(.bool false)], [], none⟩, ⟨some 9, .alloc [(.bool false)], [], none⟩, ⟨some 10, .alloc [(.int .i64 0)], [], none⟩, ⟨none, .store 1, [.t 7, .c (.int .i64 0)], none⟩, ⟨none, .store 1, [.t 8, .c (.bool false)], none⟩, ⟨none, .store 1, [.t 9, .c (.bool true)], none⟩, ⟨none, .store 1, [.t 10, .c (.int .i64 0)], none⟩])
   (.seq (.reg [⟨some 11, .alloc [.nilf], [], none⟩])
   (.seq (.reg [⟨some 20, .mkfunc (.func 79) 0, [.t 9, .t 10, .t 3, .t 2, .t 11, .t 8, .t 7], none⟩, ⟨none, .store 1, [.t 11, .t 20], none⟩])
   (.seq (.reg [⟨some 21, .load 1 false, [.t 11], none⟩, ⟨some 22, .callv, [.t 21, .c (.int .i64 0), .c (.int .i64 0)], none⟩])
   (.seq (.seq (.reg [⟨some 23, .load 1 false, [.t 9], none⟩, ⟨some 24, .un .not, [.t 23], none⟩, ⟨some 25, .mov, [.t 24], none⟩, ⟨some 26, .load 1 false, [.t 10], (some (25, false))⟩, ⟨some 27, .load 1 false, [.t 3], (some (25, false))⟩, ⟨some 28, .len false, [.t 27], (some (25, false))⟩, ⟨some 29, .bin .neq, [.t 26, .t 28], (some (25, false))⟩, ⟨some 30, .pick, [.t 25, .c (.bool true), .t 29], none⟩])
   (.cond (.t 30) (.seq (.reg [⟨some 4, .mov, [.c (.int .i64 0)], none⟩, ⟨some 5, .mov, [.c (.int .i64 76)], none⟩])
   .ret) .skip))
   (.seq (.reg [⟨some 31, .load 1 false, [.t 7], none⟩, ⟨some 4, .mov, [.t 31], none⟩, ⟨some 5, .mov, [.c (.int .i64 0)], none⟩])
   .ret)))))))))
theorem chk.bin_Bound : chkF Tryz.prog 31 = some (32, ir.bin_Bound, [.tmp 4, .tmp 5]) := by kernel_rfl

/-- paravane/paravaneref00.Rest -/
abbrev F.ref00_Rest : Nat := 35
def ir.ref00_Rest : IC :=
 (.seq (.reg [⟨some 4, .mov, [.c (.int .i64 0)], none⟩])
   (.seq (.seq (.reg [⟨some 5, .mov, [.t 1], none⟩, ⟨some 6, .bin .lss, [.t 5, .c (.int .i64 1)], none⟩])
   (.cond (.t 6) (.seq (.reg [⟨some 4, .mov, [.c (.int .i64 0)], none⟩])
   .ret) .skip))
   (.seq (.reg [⟨some 7, .mov, [.t 0], none⟩, ⟨some 8, .mov, [.t 1], none⟩, ⟨some 9, .bin .rem, [.t 7, .t 8], none⟩, ⟨some 0, .mov, [.t 9], none⟩])
   (.seq (.seq (.reg [⟨some 10, .mov, [.t 0], none⟩, ⟨some 11, .bin .lss, [.t 10, .c (.int .i64 0)], none⟩])
   (.cond (.t 11) (.reg [⟨some 12, .mov, [.t 0], none⟩, ⟨some 13, .mov, [.t 1], none⟩, ⟨some 14, .bin .add, [.t 12, .t 13], none⟩, ⟨some 0, .mov, [.t 14], none⟩]) .skip))
   (.seq (.reg [⟨some 15, .mov, [.t 0], none⟩, ⟨some 4, .mov, [.t 15], none⟩])
   .ret)))))
theorem chk.ref00_Rest : chkF Tryz.prog 35 = some (16, ir.ref00_Rest, [.tmp 4]) := by kernel_rfl

/-- paravane/paravaneref00.Pick -/
abbrev F.ref00_Pick : Nat := 36
def ir.ref00_Pick : IC :=
 (.seq (.reg [⟨some 4, .mov, [.c (.int .i64 0)], none⟩])
   (.seq (.seq (.reg [⟨some 5, .mov, [.t 0], none⟩, ⟨some 6, .len false, [.t 5], none⟩, ⟨some 7, .bin .eql, [.t 6, .c (.int .i64 0)], none⟩])
   (.cond (.t 7) (.seq (.reg [⟨some 4, .mov, [.c (.int .i64 0)], none⟩])
   .ret) .skip))
   (.seq (.reg [⟨some 8, .mov, [.t 0], none⟩, ⟨some 9, .mov, [.t 1], none⟩, ⟨some 10, .mov, [.t 0], none⟩, ⟨some 11, .len false, [.t 10], none⟩, ⟨some 12, .call 35, [.t 9, .t 11], none⟩, ⟨some 13, .iaddrS 1, [.t 8, .t 12], none⟩, ⟨some 14, .load 1 false, [.t 13], none⟩, ⟨some 4, .mov, [.t 14], none⟩])
   .ret)))
theorem chk.ref00_Pick : chkF Tryz.prog 36 = some (15, ir.ref00_Pick, [.tmp 4]) := by kernel_rfl

/-- paravane/paravanelaw07.chosen -/
abbrev F.law07_chosen : Nat := 37
def ir.law07_chosen : IC :=
 (.seq (.reg [⟨some 3, .box, [.t 0], none⟩, ⟨some 6, .alloc [(.int .i64 0), (.int .i64 0)], [], none⟩, ⟨some 7, .mov, [.c (.bool false)], none⟩])
   (.seq (.reg [⟨some 14, .load 8 true, [.t 3], none⟩, ⟨some 15, .call 84, [.t 14], none⟩, ⟨some 13, .mov, [.t 15], none⟩, ⟨some 16, .extract 0, [.t 13], none⟩, ⟨some 17, .extract 1, [.t 13], none⟩, ⟨some 8, .alloc [(.int .i64 0), (.int .i64 0), (.int .i64 0), (.int .i64 0), (.int .i64 0), (.int .i64 0), (.int .i64 0), (.int .i64 0)], [], none⟩, ⟨none, .store 8, [.t 8, .t 16], none⟩, ⟨some 9, .mov, [.t 17], none⟩])
   (.seq (.seq (.reg [⟨some 18, .mov, [.t 9], none⟩, ⟨some 19, .bin .neq, [.t 18, .c (.int .i64 0)], none⟩])
   (.cond (.t 19) (.seq (.reg [⟨some 20, .build [(.int .i64 0), (.int .i64 0)] [], [], none⟩, ⟨none, .store 2, [.t 6, .t 20], none⟩, ⟨some 7, .mov, [.c (.bool false)], none⟩])
   .ret) .skip))
   (.seq (.draw [0, 1, 3, 0, 0, 16, 48, 0, 128, 384, 1008, 2032, 4088, 8191, 16383] [⟨some 21, .faddr 0, [.t 8], none⟩, ⟨some 22, .faddr 0, [.t 21], none⟩, ⟨some 23, .load 1 false, [.t 22], none⟩, ⟨some 24, .mov, [.t 1], none⟩, ⟨some 25, .faddr 0, [.t 8], none⟩, ⟨some 26, .faddr 1, [.t 25], none⟩, ⟨some 27, .load 1 false, [.t 26], none⟩, ⟨some 28, .faddr 0, [.t 8], none⟩, ⟨some 29, .faddr 0, [.t 28], none⟩, ⟨some 30, .load 1 false, [.t 29], none⟩, ⟨some 31, .bin .sub, [.t 27, .t 30], none⟩, ⟨some 32, .bin .add, [.t 31, .c (.int .i64 1)], none⟩, ⟨some 33, .call 35, [.t 24, .t 32], none⟩, ⟨some 34, .bin .add, [.t 23, .t 33], none⟩, ⟨some 10, .mov, [.t 34], none⟩])
   (.seq (.draw [0, 1, 3, 0, 8, 24, 0, 120, 0, 0, 512, 1536, 3840, 8191, 0, 16384, 49152, 0, 131072, 393216, 0, 1966080, 0, 0, 8388608, 25165824, 62914560, 134201344, 16383, 536870911] [⟨some 35, .faddr 2, [.t 8], none⟩, ⟨some 36, .faddr 0, [.t 35], none⟩, ⟨some 37, .load 1 false, [.t 36], none⟩, ⟨some 38, .faddr 4, [.t 8], none⟩, ⟨some 39, .faddr 0, [.t 38], none⟩, ⟨some 40, .load 1 false, [.t 39], none⟩, ⟨some 41, .mov, [.t 10], none⟩, ⟨some 42, .bin .sub, [.t 40, .t 41], none⟩, ⟨some 43, .mov, [.t 10], none⟩, ⟨some 44, .faddr 6, [.t 8], none⟩, ⟨some 45, .faddr 1, [.t 44], none⟩, ⟨some 46, .load 1 false, [.t 45], none⟩, ⟨some 47, .bin .sub, [.t 43, .t 46], none⟩, ⟨some 48, .minmax true, [.t 37, .t 42, .t 47], none⟩, ⟨some 49, .faddr 2, [.t 8], none⟩, ⟨some 50, .faddr 1, [.t 49], none⟩, ⟨some 51, .load 1 false, [.t 50], none⟩, ⟨some 52, .faddr 4, [.t 8], none⟩, ⟨some 53, .faddr 1, [.t 52], none⟩, ⟨some 54, .load 1 false, [.t 53], none⟩, ⟨some 55, .mov, [.t 10], none⟩, ⟨some 56, .bin .sub, [.t 54, .t 55], none⟩, ⟨some 57, .mov, [.t 10], none⟩, ⟨some 58, .faddr 6, [.t 8], none⟩, ⟨some 59, .faddr 0, [.t 58], none⟩, ⟨some 60, .load 1 false, [.t 59], none⟩, ⟨some 61, .bin .sub, [.t 57, .t 60], none⟩, ⟨some 62, .minmax false, [.t 51, .t 56, .t 61], none⟩, ⟨some 11, .mov, [.t 48], none⟩, ⟨some 12, .mov, [.t 62], none⟩])
   (.seq (.reg [⟨some 63, .mov, [.t 10], none⟩, ⟨some 64, .mov, [.t 11], none⟩, ⟨some 65, .mov, [.t 2], none⟩, ⟨some 66, .mov, [.t 12], none⟩, ⟨some 67, .mov, [.t 11], none⟩, ⟨some 68, .bin .sub, [.t 66, .t 67], none⟩, ⟨some 69, .bin .add, [.t 68, .c (.int .i64 1)], none⟩, ⟨some 70, .call 35, [.t 65, .t 69], none⟩, ⟨some 71, .bin .add, [.t 64, .t 70], none⟩, ⟨some 72, .build [(.int .i64 0), (.int .i64 0)] [(0, 1), (1, 1)], [.t 63, .t 71], none⟩, ⟨some 73, .mov, [.t 11], none⟩, ⟨some 74, .mov, [.t 12], none⟩, ⟨some 75, .bin .leq, [.t 73, .t 74], none⟩, ⟨none, .store 2, [.t 6, .t 72], none⟩, ⟨some 7, .mov, [.t 75], none⟩])
   .ret))))))
theorem chk.law07_chosen : chkF Tryz.prog 37 = some (76, ir.law07_chosen, [.cell 6 23, .tmp 7]) := by kernel_rfl

/-- paravane/paravaneref00.Between -/
abbrev F.ref00_Between : Nat := 39
def ir.ref00_Between : IC :=
 (.seq (.reg [⟨some 6, .mov, [.c (.bool false)], none⟩])
   (.seq (.reg [⟨some 7, .mov, [.t 0], none⟩, ⟨some 8, .mov, [.t 1], none⟩, ⟨some 9, .bin .geq, [.t 7, .t 8], none⟩, ⟨some 10, .mov, [.t 9], none⟩, ⟨some 11, .mov, [.t 0], (some (10, true))⟩, ⟨some 12, .mov, [.t 2], (some (10, true))⟩, ⟨some 13, .bin .leq, [.t 11, .t 12], (some (10, true))⟩, ⟨some 14, .pick, [.t 10, .t 13, .c (.bool false)], none⟩, ⟨some 6, .mov, [.t 14], none⟩])
   .ret))
theorem chk.ref00_Between : chkF Tryz.prog 39 = some (15, ir.ref00_Between, [.tmp 6]) := by kernel_rfl

/-- paravane/bin.Best -/
abbrev F.bin_Best : Nat := 40
def ir.bin_Best : IC :=
 (.seq (.reg [⟨some 1, .box, [.t 0], none⟩, ⟨some 2, .mov, [.c .nils], none⟩, ⟨some 3, .mov, [.c (.int .i64 0)], none⟩, ⟨some 4, .mov, [.c (.int .i64 0)], none⟩])
   (.seq (.seq (.reg [⟨some 8, .load 2 true, [.t 1], none⟩, ⟨some 9, .call 73, [.t 8], none⟩, ⟨some 5, .mov, [.t 9], none⟩])
   (.seq (.reg [⟨some 10, .mov, [.t 5], none⟩, ⟨some 11, .bin .neq, [.t 10, .c (.int .i64 0)], none⟩])
   (.cond (.t 11) (.seq (.reg [⟨some 12, .mov, [.t 5], none⟩, ⟨some 2, .mov, [.c .nils], none⟩, ⟨some 3, .mov, [.c (.int .i64 0)], none⟩, ⟨some 4, .mov, [.t 12], none⟩])
   .ret) .skip)))
   (.seq (.reg [⟨some 14, .load 2 true, [.t 1], none⟩, ⟨some 15, .call 90, [.t 14, .c (.int .i64 0)], none⟩, ⟨some 13, .mov, [.t 15], none⟩, ⟨some 16, .extract 0, [.t 13], none⟩, ⟨some 17, .extract 1, [.t 13], none⟩, ⟨some 6, .mov, [.t 16], none⟩, ⟨some 7, .mov, [.t 17], none⟩])
   (.seq (.seq (.reg [⟨some 18, .mov, [.t 7], none⟩, ⟨some 19, .un .not, [.t 18], none⟩])
   (.cond (.t 19) (.seq (.reg [⟨some 2, .mov, [.c .nils], none⟩, ⟨some 3, .mov, [.c (.int .i64 0)], none⟩, ⟨some 4, .mov, [.c (.int .i64 4)], none⟩])
   .ret) .skip))
   (.seq (.draw [0, 1, 0, 0, 15, 31, 63, 127] [⟨some 20, .mov, [.t 6], none⟩, ⟨some 21, .call 91, [.t 20], none⟩, ⟨some 22, .load 2 true, [.t 1], none⟩, ⟨some 23, .mov, [.t 6], none⟩, ⟨some 24, .call 92, [.t 22, .t 23], none⟩, ⟨some 2, .mov, [.t 21], none⟩, ⟨some 3, .mov, [.t 24], none⟩, ⟨some 4, .mov, [.c (.int .i64 0)], none⟩])
   .ret)))))
theorem chk.bin_Best : chkF Tryz.prog 40 = some (25, ir.bin_Best, [.tmp 2, .tmp 3, .tmp 4]) := by kernel_rfl

/-- paravane/paravanelaw07.stood -/
abbrev F.law07_stood : Nat := 41
def ir.law07_stood : IC :=
 (.seq (.reg [⟨some 4, .mov, [.c .nils], none⟩, ⟨some 5, .mov, [.c (.bool false)], none⟩])
   (.seq (.reg [⟨some 6, .mov, [.c .nils], none⟩])
   (.seq (.seq (.reg [⟨some 7, .mov, [.c (.int .i64 0)], none⟩])
   (.block 0 (.loop (.seq (.seq (.reg [⟨some 10, .mov, [.t 7], none⟩, ⟨some 11, .mov, [.t 0], none⟩, ⟨some 12, .len false, [.t 11], none⟩, ⟨some 13, .bin .lss, [.t 10, .t 12], none⟩])
   (.cond (.t 13) .skip (.exit 0)))
   (.seq (.block 1 (.seq (.draw [0, 0, 3, 7, 0, 0, 32, 112, 0, 0, 512, 1536, 4080, 8191, 16383, 32767, 32767, 0, 196607, 524287] [⟨some 17, .mov, [.t 0], none⟩, ⟨some 18, .mov, [.t 7], none⟩, ⟨some 19, .iaddrS 8, [.t 17, .t 18], none⟩, ⟨some 20, .load 8 true, [.t 19], none⟩, ⟨some 21, .mov, [.t 1], none⟩, ⟨some 22, .mov, [.t 7], none⟩, ⟨some 23, .bin .mul, [.c (.int .i64 2), .t 22], none⟩, ⟨some 24, .call 36, [.t 21, .t 23], none⟩, ⟨some 25, .mov, [.t 1], none⟩, ⟨some 26, .mov, [.t 7], none⟩, ⟨some 27, .bin .mul, [.c (.int .i64 2), .t 26], none⟩, ⟨some 28, .bin .add, [.t 27, .c (.int .i64 1)], none⟩, ⟨some 29, .call 36, [.t 25, .t 28], none⟩, ⟨some 30, .call 37, [.t 20, .t 24, .t 29], none⟩, ⟨some 16, .mov, [.t 30], none⟩, ⟨some 31, .extract 0, [.t 16], none⟩, ⟨some 32, .extract 1, [.t 16], none⟩, ⟨some 8, .alloc [(.int .i64 0), (.int .i64 0)], [], none⟩, ⟨none, .store 2, [.t 8, .t 31], none⟩, ⟨some 9, .mov, [.t 32], none⟩])
   (.seq (.seq (.reg [⟨some 33, .mov, [.t 9], none⟩, ⟨some 34, .un .not, [.t 33], none⟩])
   (.cond (.t 34) (.seq (.reg [⟨some 4, .mov, [.c .nils], none⟩, ⟨some 5, .mov, [.c (.bool false)], none⟩])
   .ret) .skip))
   (.reg [⟨some 35, .mov, [.t 6], none⟩, ⟨some 36, .load 2 true, [.t 8], none⟩, ⟨some 37, .mkslice 2 23, [.t 36], none⟩, ⟨some 38, .append 2 16 23, [.t 35, .t 37], none⟩, ⟨some 6, .mov, [.t 38], none⟩]))))
   (.reg [⟨some 14, .mov, [.t 7], none⟩, ⟨some 15, .bin .add, [.t 14, .c (.int .i64 1)], none⟩, ⟨some 7, .mov, [.t 15], none⟩]))))))
   (.seq (.reg [⟨some 39, .mov, [.t 6], none⟩, ⟨some 4, .mov, [.t 39], none⟩, ⟨some 5, .mov, [.c (.bool true)], none⟩])
   .ret))))
theorem chk.law07_stood : chkF Tryz.prog 41 = some (40, ir.law07_stood, [.tmp 4, .tmp 5]) := by kernel_rfl

/-- paravane/region.CheckPoint -/
abbrev F.region_CheckPoint : Nat := 43
def ir.region_CheckPoint : IC :=
 (.seq (.reg [⟨some 1, .box, [.t 0], none⟩, ⟨some 2, .mov, [.c (.int .i64 0)], none⟩])
   (.seq (.seq (.reg [⟨some 5, .faddr 0, [.t 1], none⟩, ⟨some 6, .load 1 false, [.t 5], none⟩, ⟨some 7, .faddr 1, [.t 1], none⟩, ⟨some 8, .load 1 false, [.t 7], none⟩, ⟨some 9, .build [(.int .i64 0), (.int .i64 0)] [(0, 1), (1, 1)], [.t 6, .t 8], none⟩, ⟨some 10, .mov, [.c (.int .i64 0)], none⟩])
   (.block 0 (.loop (.seq (.reg [⟨some 11, .bin .lss, [.t 10, .c (.int .i64 2)], none⟩])
   (.seq (.cond (.t 11) .skip (.exit 0))
   (.seq (.block 1 (.seq (.reg [⟨some 12, .idxA 2 1 false, [.t 9, .t 10], none⟩, ⟨some 4, .mov, [.t 12], none⟩])
   (.seq (.reg [⟨some 13, .mov, [.t 4], none⟩, ⟨some 14, .call 93, [.c (.int .i64 32768), .t 13], none⟩, ⟨some 15, .mov, [.t 4], none⟩, ⟨some 16, .bin .neq, [.t 14, .t 15], none⟩])
   (.cond (.t 16) (.seq (.reg [⟨some 2, .mov, [.c (.int .i64 10)], none⟩])
   .ret) .skip))))
   (.reg [⟨some 17, .bin .add, [.t 10, .c (.int .i64 1)], none⟩, ⟨some 10, .mov, [.t 17], none⟩])))))))
   (.seq (.reg [⟨some 2, .mov, [.c (.int .i64 0)], none⟩])
   .ret)))
theorem chk.region_CheckPoint : chkF Tryz.prog 43 = some (18, ir.region_CheckPoint, [.tmp 2]) := by kernel_rfl

/-- paravane/bin.within -/
abbrev F.bin_within : Nat := 44
def ir.bin_within : IC :=
 (.seq (.reg [⟨some 6, .mov, [.c (.bool false)], none⟩])
   (.seq (.reg [⟨some 7, .mov, [.t 0], none⟩, ⟨some 8, .mov, [.t 1], none⟩, ⟨some 9, .bin .geq, [.t 7, .t 8], none⟩, ⟨some 10, .mov, [.t 9], none⟩, ⟨some 11, .mov, [.t 0], (some (10, true))⟩, ⟨some 12, .mov, [.t 2], (some (10, true))⟩, ⟨some 13, .bin .leq, [.t 11, .t 12], (some (10, true))⟩, ⟨some 14, .pick, [.t 10, .t 13, .c (.bool false)], none⟩, ⟨some 6, .mov, [.t 14], none⟩])
   .ret))
theorem chk.bin_within : chkF Tryz.prog 44 = some (15, ir.bin_within, [.tmp 6]) := by kernel_rfl

/-- paravane/paravaneref01.CheckPoint -/
abbrev F.ref01_CheckPoint : Nat := 45
def ir.ref01_CheckPoint : IC :=
 (.seq (.reg [⟨some 1, .box, [.t 0], none⟩, ⟨some 2, .mov, [.c (.int .i64 0)], none⟩])
   (.seq (.seq (.reg [⟨some 3, .load 2 true, [.t 1], none⟩, ⟨some 4, .call 94, [.t 3], none⟩, ⟨some 5, .un .not, [.t 4], none⟩])
   (.cond (.t 5) (.seq (.reg [⟨some 2, .mov, [.c (.int .i64 10)], none⟩])
   .ret) .skip))
   (.seq (.reg [⟨some 2, .mov, [.c (.int .i64 0)], none⟩])
   .ret)))
theorem chk.ref01_CheckPoint : chkF Tryz.prog 45 = some (6, ir.ref01_CheckPoint, [.tmp 2]) := by kernel_rfl

/-- paravane/region.Count -/
abbrev F.region_Count : Nat := 46
def ir.region_Count : IC :=
 (.seq (.reg [⟨some 1, .box, [.t 0], none⟩, ⟨some 2, .mov, [.c (.int .i64 0)], none⟩, ⟨some 3, .mov, [.c (.int .i64 0)], none⟩])
   (.seq (.seq (.reg [⟨some 7, .load 8 true, [.t 1], none⟩, ⟨some 8, .call 95, [.t 7], none⟩, ⟨some 4, .mov, [.t 8], none⟩])
   (.seq (.reg [⟨some 9, .mov, [.t 4], none⟩, ⟨some 10, .bin .neq, [.t 9, .c (.int .i64 0)], none⟩])
   (.cond (.t 10) (.seq (.reg [⟨some 11, .mov, [.t 4], none⟩, ⟨some 2, .mov, [.c (.int .i64 0)], none⟩, ⟨some 3, .mov, [.t 11], none⟩])
   .ret) .skip)))
   (.seq (.reg [⟨some 5, .alloc [(.int .i64 0)], [], none⟩, ⟨none, .store 1, [.t 5, .c (.int .i64 0)], none⟩])
   (.seq (.seq (.reg [⟨some 12, .load 8 true, [.t 1], none⟩, ⟨some 13, .call 96, [.t 12], none⟩, ⟨some 14, .call 97, [.t 13], none⟩])
   (.block 0 (.range (.t 14) [15] (.reg [⟨some 6, .alloc [(.int .i64 0), (.int .i64 0), (.int .i64 0)], [], none⟩, ⟨none, .store 3, [.t 6, .t 15], none⟩]) (.block 1 (.reg [⟨some 16, .load 1 false, [.t 5], none⟩, ⟨some 17, .faddr 2, [.t 6], none⟩, ⟨some 18, .load 1 false, [.t 17], none⟩, ⟨some 19, .faddr 1, [.t 6], none⟩, ⟨some 20, .load 1 false, [.t 19], none⟩, ⟨some 21, .bin .sub, [.t 18, .t 20], none⟩, ⟨some 22, .bin .add, [.t 21, .c (.int .i64 1)], none⟩, ⟨some 23, .bin .add, [.t 16, .t 22], none⟩, ⟨none, .store 1, [.t 5, .t 23], none⟩])))))
   (.seq (.reg [⟨some 24, .load 1 false, [.t 5], none⟩, ⟨some 2, .mov, [.t 24], none⟩, ⟨some 3, .mov, [.c (.int .i64 0)], none⟩])
   .ret)))))
theorem chk.region_Count : chkF Tryz.prog 46 = some (25, ir.region_Count, [.tmp 2, .tmp 3]) := by kernel_rfl

/-- paravane/paravaneref01.Count -/
abbrev F.ref01_Count : Nat := 47
def ir.ref01_Count : IC :=
 (.seq (.reg [⟨some 1, .box, [.t 0], none⟩, ⟨some 2, .mov, [.c (.int .i64 0)], none⟩, ⟨some 3, .mov, [.c (.int .i64 0)], none⟩])
   (.seq (.seq (.reg [⟨some 8, .load 8 true, [.t 1], none⟩, ⟨some 9, .call 98, [.t 8], none⟩, ⟨some 4, .mov, [.t 9], none⟩])
   (.seq (.reg [⟨some 10, .mov, [.t 4], none⟩, ⟨some 11, .bin .neq, [.t 10, .c (.int .i64 0)], none⟩])
   (.cond (.t 11) (.seq (.reg [⟨some 12, .mov, [.t 4], none⟩, ⟨some 2, .mov, [.c (.int .i64 0)], none⟩, ⟨some 3, .mov, [.t 12], none⟩])
   .ret) .skip)))
   (.seq (.reg [⟨some 5, .mov, [.c (.int .i64 0)], none⟩])
   (.seq (.seq (.reg [⟨some 13, .faddr 0, [.t 1], none⟩, ⟨some 14, .faddr 0, [.t 13], none⟩, ⟨some 15, .load 1 false, [.t 14], none⟩, ⟨some 6, .mov, [.t 15], none⟩])
   (.block 0 (.loop (.seq (.seq (.reg [⟨some 16, .mov, [.t 6], none⟩, ⟨some 17, .faddr 0, [.t 1], none⟩, ⟨some 18, .faddr 1, [.t 17], none⟩, ⟨some 19, .load 1 false, [.t 18], none⟩, ⟨some 20, .bin .leq, [.t 16, .t 19], none⟩])
   (.cond (.t 20) .skip (.exit 0)))
   (.seq (.block 1 (.seq (.reg [⟨some 23, .load 8 true, [.t 1], none⟩, ⟨some 24, .mov, [.t 6], none⟩, ⟨some 25, .call 99, [.t 23, .t 24], none⟩, ⟨some 7, .alloc [(.int .i64 0), (.int .i64 0), (.int .i64 0)], [], none⟩, ⟨none, .store 3, [.t 7, .t 25], none⟩])
   (.reg [⟨some 26, .mov, [.t 5], none⟩, ⟨some 27, .faddr 2, [.t 7], none⟩, ⟨some 28, .load 1 false, [.t 27], none⟩, ⟨some 29, .faddr 1, [.t 7], none⟩, ⟨some 30, .load 1 false, [.t 29], none⟩, ⟨some 31, .bin .sub, [.t 28, .t 30], none⟩, ⟨some 32, .bin .add, [.t 31, .c (.int .i64 1)], none⟩, ⟨some 33, .minmax true, [.c (.int .i64 0), .t 32], none⟩, ⟨some 34, .bin .add, [.t 26, .t 33], none⟩, ⟨some 5, .mov, [.t 34], none⟩])))
   (.reg [⟨some 21, .mov, [.t 6], none⟩, ⟨some 22, .bin .add, [.t 21, .c (.int .i64 1)], none⟩, ⟨some 6, .mov, [.t 22], none⟩]))))))
   (.seq (.reg [⟨some 35, .mov, [.t 5], none⟩, ⟨some 2, .mov, [.t 35], none⟩, ⟨some 3, .mov, [.c (.int .i64 0)], none⟩])
   .ret)))))
theorem chk.ref01_Count : chkF Tryz.prog 47 = some (36, ir.ref01_Count, [.tmp 2, .tmp 3]) := by kernel_rfl

/-- paravane/bin.cell -/
abbrev F.bin_cell : Nat := 48
def ir.bin_cell : IC :=
 (.seq (.reg [⟨some 3, .box, [.t 0], none⟩, ⟨some 4, .box, [.t 1], none⟩, ⟨some 5, .box, [.t 2], none⟩, ⟨some 6, .alloc [(.int .i64 0), (.int .i64 0)], [], none⟩])
   (.seq (.draw [0, 1, 0, 4, 15, 0, 32, 96, 224, 511, 0, 1024, 3072, 8191, 0, 16384, 0, 65536, 245760, 0, 524288, 1572864, 3670016, 8372224, 0, 16777216, 50331648, 134217727, 268435455, 536870911] [⟨some 13, .faddr 0, [.t 4], none⟩, ⟨some 14, .load 1 false, [.t 13], none⟩, ⟨some 15, .faddr 0, [.t 5], none⟩, ⟨some 16, .load 1 false, [.t 15], none⟩, ⟨some 17, .bin .add, [.t 14, .t 16], none⟩, ⟨some 18, .faddr 0, [.t 3], none⟩, ⟨some 19, .faddr 0, [.t 18], none⟩, ⟨some 20, .load 1 false, [.t 19], none⟩, ⟨some 21, .bin .mul, [.c (.int .i64 2), .t 20], none⟩, ⟨some 22, .bin .sub, [.t 17, .t 21], none⟩, ⟨some 23, .faddr 2, [.t 3], none⟩, ⟨some 24, .load 1 false, [.t 23], none⟩, ⟨some 25, .bin .mul, [.c (.int .i64 2), .t 24], none⟩, ⟨some 26, .call 100, [.t 22, .t 25], none⟩, ⟨some 27, .faddr 1, [.t 4], none⟩, ⟨some 28, .load 1 false, [.t 27], none⟩, ⟨some 29, .faddr 1, [.t 5], none⟩, ⟨some 30, .load 1 false, [.t 29], none⟩, ⟨some 31, .bin .add, [.t 28, .t 30], none⟩, ⟨some 32, .faddr 0, [.t 3], none⟩, ⟨some 33, .faddr 1, [.t 32], none⟩, ⟨some 34, .load 1 false, [.t 33], none⟩, ⟨some 35, .bin .mul, [.c (.int .i64 2), .t 34], none⟩, ⟨some 36, .bin .sub, [.t 31, .t 35], none⟩, ⟨some 37, .faddr 2, [.t 3], none⟩, ⟨some 38, .load 1 false, [.t 37], none⟩, ⟨some 39, .bin .mul, [.c (.int .i64 2), .t 38], none⟩, ⟨some 40, .call 100, [.t 36, .t 39], none⟩, ⟨some 7, .mov, [.t 26], none⟩, ⟨some 8, .mov, [.t 40], none⟩])
   (.seq (.seq (.reg [⟨some 41, .mov, [.t 7], none⟩, ⟨some 42, .faddr 3, [.t 3], none⟩, ⟨some 43, .load 1 false, [.t 42], none⟩, ⟨some 44, .bin .sub, [.t 43, .c (.int .i64 1)], none⟩, ⟨some 45, .call 44, [.t 41, .c (.int .i64 0), .t 44], none⟩, ⟨some 46, .un .not, [.t 45], none⟩, ⟨some 47, .mov, [.t 46], none⟩, ⟨some 48, .mov, [.t 8], (some (47, false))⟩, ⟨some 49, .faddr 4, [.t 3], (some (47, false))⟩, ⟨some 50, .load 1 false, [.t 49], (some (47, false))⟩, ⟨some 51, .bin .sub, [.t 50, .c (.int .i64 1)], (some (47, false))⟩, ⟨some 52, .call 44, [.t 48, .c (.int .i64 0), .t 51], (some (47, false))⟩, ⟨some 53, .un .not, [.t 52], (some (47, false))⟩, ⟨some 54, .pick, [.t 47, .c (.bool true), .t 53], none⟩])
   (.cond (.t 54) (.seq (.reg [⟨some 55, .load 2 true, [.c (.rptr 0 0)], none⟩, ⟨none, .store 2, [.t 6, .t 55], none⟩])
   .ret) .skip))
   (.seq (.draw [0, 1, 0, 4, 15, 0, 32, 0, 128, 480, 31, 2047] [⟨some 56, .faddr 0, [.t 4], none⟩, ⟨some 57, .load 1 false, [.t 56], none⟩, ⟨some 58, .faddr 0, [.t 5], none⟩, ⟨some 59, .load 1 false, [.t 58], none⟩, ⟨some 60, .bin .sub, [.t 57, .t 59], none⟩, ⟨some 61, .faddr 1, [.t 4], none⟩, ⟨some 62, .load 1 false, [.t 61], none⟩, ⟨some 63, .faddr 1, [.t 5], none⟩, ⟨some 64, .load 1 false, [.t 63], none⟩, ⟨some 65, .bin .sub, [.t 62, .t 64], none⟩, ⟨some 9, .mov, [.t 60], none⟩, ⟨some 10, .mov, [.t 65], none⟩])
   (.seq (.seq (.reg [⟨some 66, .faddr 5, [.t 3], none⟩, ⟨some 67, .load 1 false, [.t 66], none⟩, ⟨some 68, .len false, [.t 67], none⟩, ⟨some 69, .mov, [.c (.int .i64 0)], none⟩])
   (.block 0 (.loop (.seq (.reg [⟨some 70, .bin .lss, [.t 69, .t 68], none⟩])
   (.seq (.cond (.t 70) .skip (.exit 0))
   (.seq (.block 1 (.seq (.reg [⟨some 71, .mov, [.t 69], none⟩, ⟨some 72, .iaddrS 2, [.t 67, .t 69], none⟩, ⟨some 73, .load 2 true, [.t 72], none⟩, ⟨some 12, .alloc [(.int .i64 0), (.int .i64 0)], [], none⟩, ⟨some 11, .mov, [.t 71], none⟩, ⟨none, .store 2, [.t 12, .t 73], none⟩])
   (.seq (.reg [⟨some 74, .mov, [.t 9], none⟩, ⟨some 75, .mov, [.t 9], none⟩, ⟨some 76, .bin .mul, [.t 74, .t 75], none⟩, ⟨some 77, .mov, [.t 10], none⟩, ⟨some 78, .mov, [.t 10], none⟩, ⟨some 79, .bin .mul, [.t 77, .t 78], none⟩, ⟨some 80, .bin .add, [.t 76, .t 79], none⟩, ⟨some 81, .faddr 0, [.t 12], none⟩, ⟨some 82, .load 1 false, [.t 81], none⟩, ⟨some 83, .faddr 1, [.t 12], none⟩, ⟨some 84, .load 1 false, [.t 83], none⟩, ⟨some 85, .call 44, [.t 80, .t 82, .t 84], none⟩])
   (.cond (.t 85) (.seq (.reg [⟨some 86, .mov, [.t 8], none⟩, ⟨some 87, .faddr 3, [.t 3], none⟩, ⟨some 88, .load 1 false, [.t 87], none⟩, ⟨some 89, .bin .mul, [.t 86, .t 88], none⟩, ⟨some 90, .mov, [.t 7], none⟩, ⟨some 91, .bin .add, [.t 89, .t 90], none⟩, ⟨some 92, .mov, [.t 11], none⟩, ⟨some 93, .build [(.int .i64 0), (.int .i64 0)] [(0, 1), (1, 1)], [.t 91, .t 92], none⟩, ⟨none, .store 2, [.t 6, .t 93], none⟩])
   .ret) .skip))))
   (.reg [⟨some 94, .bin .add, [.t 69, .c (.int .i64 1)], none⟩, ⟨some 69, .mov, [.t 94], none⟩])))))))
   (.seq (.reg [⟨some 95, .load 2 true, [.c (.rptr 0 0)], none⟩, ⟨none, .store 2, [.t 6, .t 95], none⟩])
   .ret))))))
theorem chk.bin_cell : chkF Tryz.prog 48 = some (96, ir.bin_cell, [.cell 6 39]) := by kernel_rfl

/-- paravane/paravaneref07.cell -/
abbrev F.ref07_cell : Nat := 49
def ir.ref07_cell : IC :=
 (.seq (.reg [⟨some 3, .box, [.t 0], none⟩, ⟨some 4, .box, [.t 1], none⟩, ⟨some 5, .box, [.t 2], none⟩, ⟨some 6, .alloc [(.int .i64 0), (.int .i64 0)], [], none⟩])
   (.seq (.draw [0, 1, 0, 4, 15, 0, 32, 96, 224, 511, 0, 1024, 3072, 8191, 0, 16384, 0, 65536, 245760, 0, 524288, 1572864, 3670016, 8372224, 0, 16777216, 50331648, 134217727, 268435455, 536870911] [⟨some 11, .faddr 0, [.t 4], none⟩, ⟨some 12, .load 1 false, [.t 11], none⟩, ⟨some 13, .faddr 0, [.t 5], none⟩, ⟨some 14, .load 1 false, [.t 13], none⟩, ⟨some 15, .bin .add, [.t 12, .t 14], none⟩, ⟨some 16, .faddr 0, [.t 3], none⟩, ⟨some 17, .faddr 0, [.t 16], none⟩, ⟨some 18, .load 1 false, [.t 17], none⟩, ⟨some 19, .bin .mul, [.c (.int .i64 2), .t 18], none⟩, ⟨some 20, .bin .sub, [.t 15, .t 19], none⟩, ⟨some 21, .faddr 2, [.t 3], none⟩, ⟨some 22, .load 1 false, [.t 21], none⟩, ⟨some 23, .bin .mul, [.c (.int .i64 2), .t 22], none⟩, ⟨some 24, .call 101, [.t 20, .t 23], none⟩, ⟨some 25, .faddr 1, [.t 4], none⟩, ⟨some 26, .load 1 false, [.t 25], none⟩, ⟨some 27, .faddr 1, [.t 5], none⟩, ⟨some 28, .load 1 false, [.t 27], none⟩, ⟨some 29, .bin .add, [.t 26, .t 28], none⟩, ⟨some 30, .faddr 0, [.t 3], none⟩, ⟨some 31, .faddr 1, [.t 30], none⟩, ⟨some 32, .load 1 false, [.t 31], none⟩, ⟨some 33, .bin .mul, [.c (.int .i64 2), .t 32], none⟩, ⟨some 34, .bin .sub, [.t 29, .t 33], none⟩, ⟨some 35, .faddr 2, [.t 3], none⟩, ⟨some 36, .load 1 false, [.t 35], none⟩, ⟨some 37, .bin .mul, [.c (.int .i64 2), .t 36], none⟩, ⟨some 38, .call 101, [.t 34, .t 37], none⟩, ⟨some 7, .mov, [.t 24], none⟩, ⟨some 8, .mov, [.t 38], none⟩])
   (.seq (.seq (.reg [⟨some 39, .mov, [.t 7], none⟩, ⟨some 40, .faddr 3, [.t 3], none⟩, ⟨some 41, .load 1 false, [.t 40], none⟩, ⟨some 42, .bin .sub, [.t 41, .c (.int .i64 1)], none⟩, ⟨some 43, .call 39, [.t 39, .c (.int .i64 0), .t 42], none⟩, ⟨some 44, .un .not, [.t 43], none⟩, ⟨some 45, .mov, [.t 44], none⟩, ⟨some 46, .mov, [.t 8], (some (45, false))⟩, ⟨some 47, .faddr 4, [.t 3], (some (45, false))⟩, ⟨some 48, .load 1 false, [.t 47], (some (45, false))⟩, ⟨some 49, .bin .sub, [.t 48, .c (.int .i64 1)], (some (45, false))⟩, ⟨some 50, .call 39, [.t 46, .c (.int .i64 0), .t 49], (some (45, false))⟩, ⟨some 51, .un .not, [.t 50], (some (45, false))⟩, ⟨some 52, .pick, [.t 45, .c (.bool true), .t 51], none⟩])
   (.cond (.t 52) (.seq (.reg [⟨some 53, .call 102, [], none⟩, ⟨none, .store 2, [.t 6, .t 53], none⟩])
   .ret) .skip))
   (.seq (.reg [⟨some 54, .faddr 0, [.t 4], none⟩, ⟨some 55, .load 1 false, [.t 54], none⟩, ⟨some 56, .faddr 0, [.t 5], none⟩, ⟨some 57, .load 1 false, [.t 56], none⟩, ⟨some 58, .bin .sub, [.t 55, .t 57], none⟩, ⟨some 59, .faddr 0, [.t 4], none⟩, ⟨some 60, .load 1 false, [.t 59], none⟩, ⟨some 61, .faddr 0, [.t 5], none⟩, ⟨some 62, .load 1 false, [.t 61], none⟩, ⟨some 63, .bin .sub, [.t 60, .t 62], none⟩, ⟨some 64, .bin .mul, [.t 58, .t 63], none⟩, ⟨some 65, .faddr 1, [.t 4], none⟩, ⟨some 66, .load 1 false, [.t 65], none⟩, ⟨some 67, .faddr 1, [.t 5], none⟩, ⟨some 68, .load 1 false, [.t 67], none⟩, ⟨some 69, .bin .sub, [.t 66, .t 68], none⟩, ⟨some 70, .faddr 1, [.t 4], none⟩, ⟨some 71, .load 1 false, [.t 70], none⟩, ⟨some 72, .faddr 1, [.t 5], none⟩, ⟨some 73, .load 1 false, [.t 72], none⟩, ⟨some 74, .bin .sub, [.t 71, .t 73], none⟩, ⟨some 75, .bin .mul, [.t 69, .t 74], none⟩, ⟨some 76, .bin .add, [.t 64, .t 75], none⟩, ⟨some 9, .mov, [.t 76], none⟩])
   (.seq (.seq (.reg [⟨some 10, .mov, [.c (.int .i64 0)], none⟩])
   (.block 0 (.loop (.seq (.seq (.reg [⟨some 77, .mov, [.t 10], none⟩, ⟨some 78, .faddr 5, [.t 3], none⟩, ⟨some 79, .load 1 false, [.t 78], none⟩, ⟨some 80, .len false, [.t 79], none⟩, ⟨some 81, .bin .lss, [.t 77, .t 80], none⟩])
   (.cond (.t 81) .skip (.exit 0)))
   (.seq (.block 1 (.seq (.draw [0, 0, 2, 0, 14, 30, 62, 0, 128, 0, 896, 1920, 3968, 8191] [⟨some 84, .mov, [.t 9], none⟩, ⟨some 85, .faddr 5, [.t 3], none⟩, ⟨some 86, .load 1 false, [.t 85], none⟩, ⟨some 87, .mov, [.t 10], none⟩, ⟨some 88, .iaddrS 2, [.t 86, .t 87], none⟩, ⟨some 89, .faddr 0, [.t 88], none⟩, ⟨some 90, .load 1 false, [.t 89], none⟩, ⟨some 91, .faddr 5, [.t 3], none⟩, ⟨some 92, .load 1 false, [.t 91], none⟩, ⟨some 93, .mov, [.t 10], none⟩, ⟨some 94, .iaddrS 2, [.t 92, .t 93], none⟩, ⟨some 95, .faddr 1, [.t 94], none⟩, ⟨some 96, .load 1 false, [.t 95], none⟩, ⟨some 97, .call 39, [.t 84, .t 90, .t 96], none⟩])
   (.cond (.t 97) (.seq (.reg [⟨some 98, .mov, [.t 8], none⟩, ⟨some 99, .faddr 3, [.t 3], none⟩, ⟨some 100, .load 1 false, [.t 99], none⟩, ⟨some 101, .bin .mul, [.t 98, .t 100], none⟩, ⟨some 102, .mov, [.t 7], none⟩, ⟨some 103, .bin .add, [.t 101, .t 102], none⟩, ⟨some 104, .mov, [.t 10], none⟩, ⟨some 105, .build [(.int .i64 0), (.int .i64 0)] [(0, 1), (1, 1)], [.t 103, .t 104], none⟩, ⟨none, .store 2, [.t 6, .t 105], none⟩])
   .ret) .skip)))
   (.reg [⟨some 82, .mov, [.t 10], none⟩, ⟨some 83, .bin .add, [.t 82, .c (.int .i64 1)], none⟩, ⟨some 10, .mov, [.t 83], none⟩]))))))
   (.seq (.reg [⟨some 106, .call 102, [], none⟩, ⟨none, .store 2, [.t 6, .t 106], none⟩])
   .ret))))))
theorem chk.ref07_cell : chkF Tryz.prog 49 = some (107, ir.ref07_cell, [.cell 6 39]) := by kernel_rfl

/-- paravane/bin.begun -/
abbrev F.bin_begun : Nat := 50
def ir.bin_begun : IC :=
 (.seq (.reg [⟨some 2, .box, [.t 0], none⟩, ⟨some 3, .box, [.t 1], none⟩, ⟨some 4, .alloc [(.int .i64 0), (.int .i64 0), (.int .i64 0), (.int .i64 0), (.int .i64 0), .nils, .nils, .nils], [], none⟩, ⟨some 5, .mov, [.c (.int .i64 0)], none⟩])
   (.seq (.seq (.reg [⟨some 8, .load 6 true, [.t 2], none⟩, ⟨some 9, .call 10, [.t 8], none⟩, ⟨some 6, .mov, [.t 9], none⟩])
   (.seq (.reg [⟨some 10, .mov, [.t 6], none⟩, ⟨some 11, .bin .neq, [.t 10, .c (.int .i64 0)], none⟩])
   (.cond (.t 11) (.seq (.reg [⟨some 12, .build [(.int .i64 0), (.int .i64 0), (.int .i64 0), (.int .i64 0), (.int .i64 0), .nils, .nils, .nils] [], [], none⟩, ⟨some 13, .mov, [.t 6], none⟩, ⟨none, .store 8, [.t 4, .t 12], none⟩, ⟨some 5, .mov, [.t 13], none⟩])
   .ret) .skip)))
   (.seq (.seq (.reg [⟨some 14, .load 2 true, [.t 3], none⟩, ⟨some 15, .call 12, [.t 14], none⟩, ⟨some 7, .mov, [.t 15], none⟩])
   (.seq (.reg [⟨some 16, .mov, [.t 7], none⟩, ⟨some 17, .bin .neq, [.t 16, .c (.int .i64 0)], none⟩])
   (.cond (.t 17) (.seq (.reg [⟨some 18, .build [(.int .i64 0), (.int .i64 0), (.int .i64 0), (.int .i64 0), (.int .i64 0), .nils, .nils, .nils] [], [], none⟩, ⟨some 19, .mov, [.t 7], none⟩, ⟨none, .store 8, [.t 4, .t 18], none⟩, ⟨some 5, .mov, [.t 19], none⟩])
   .ret) .skip)))
   (.seq (.reg [⟨some 20, .load 6 true, [.t 2], none⟩, ⟨some 21, .load 2 true, [.t 3], none⟩, ⟨some 22, .call 83, [.t 20, .t 21], none⟩, ⟨none, .store 8, [.t 4, .t 22], none⟩, ⟨some 5, .mov, [.c (.int .i64 0)], none⟩])
   .ret))))
theorem chk.bin_begun : chkF Tryz.prog 50 = some (23, ir.bin_begun, [.cell 4 101, .tmp 5]) := by kernel_rfl

/-- (paravane/bin.laid).hits -/
abbrev F.bin_laid_hits : Nat := 51
def ir.bin_laid_hits : IC :=
 (.seq (.reg [⟨some 2, .box, [.t 0], none⟩, ⟨some 4, .mov, [.c .nils], none⟩])
   (.seq (.reg [⟨some 11, .raw 0 173 0, [], none⟩, ⟨some 5, .alloc [.nilm], [], none⟩, ⟨none, .store 1, [.t 5, .t 11], none⟩])
   (.seq (.reg [⟨some 12, .faddr 6, [.t 2], none⟩, ⟨some 13, .load 1 false, [.t 12], none⟩, ⟨some 14, .mov, [.t 1], none⟩, ⟨some 15, .iaddrS 2, [.t 13, .t 14], none⟩, ⟨some 16, .load 2 true, [.t 15], none⟩, ⟨some 6, .alloc [(.int .i64 0), (.int .i64 0)], [], none⟩, ⟨none, .store 2, [.t 6, .t 16], none⟩])
   (.seq (.seq (.draw [0, 1, 0, 4, 15, 31, 0, 64, 0, 256, 960, 1984, 4095] [⟨some 17, .faddr 7, [.t 2], none⟩, ⟨some 18, .load 1 false, [.t 17], none⟩, ⟨some 19, .iaddrA 2 1, [.t 6, .c (.int .i64 0)], none⟩, ⟨some 20, .load 1 false, [.t 19], none⟩, ⟨some 21, .iaddrS 1, [.t 18, .t 20], none⟩, ⟨some 22, .load 1 false, [.t 21], none⟩, ⟨some 23, .faddr 7, [.t 2], none⟩, ⟨some 24, .load 1 false, [.t 23], none⟩, ⟨some 25, .iaddrA 2 1, [.t 6, .c (.int .i64 1)], none⟩, ⟨some 26, .load 1 false, [.t 25], none⟩, ⟨some 27, .iaddrS 1, [.t 24, .t 26], none⟩, ⟨some 28, .load 1 false, [.t 27], none⟩, ⟨some 29, .call 103, [.t 22, .t 28], none⟩])
   (.block 0 (.range (.t 29) [30, 31] (.seq (.reg [⟨some 7, .alloc [(.int .i64 0), (.int .i64 0)], [], none⟩, ⟨none, .store 2, [.t 7, .t 30], none⟩])
   (.reg [⟨some 8, .alloc [(.int .i64 0), (.int .i64 0)], [], none⟩, ⟨none, .store 2, [.t 8, .t 31], none⟩])) (.block 1 (.draw [0, 0, 2, 0, 0, 30, 63] [⟨some 32, .load 1 false, [.t 5], none⟩, ⟨some 33, .faddr 0, [.t 2], none⟩, ⟨some 34, .load 6 true, [.t 33], none⟩, ⟨some 35, .load 2 true, [.t 7], none⟩, ⟨some 36, .load 2 true, [.t 8], none⟩, ⟨some 37, .call 48, [.t 34, .t 35, .t 36], none⟩, ⟨none, .raw 1 173 0, [.t 32, .t 37, .c (.bool true)], none⟩])))))
   (.seq (.reg [⟨some 9, .mov, [.c .nils], none⟩])
   (.seq (.seq (.reg [⟨some 38, .load 1 false, [.t 5], none⟩, ⟨some 39, .raw 2 173 0, [.t 38], none⟩])
   (.block 2 (.loop (.seq (.reg [⟨some 40, .raw 3 0 0, [.t 39], none⟩, ⟨some 41, .extract 0, [.t 40], none⟩])
   (.seq (.cond (.t 41) .skip (.exit 2))
   (.block 3 (.seq (.reg [⟨some 42, .raw 4 0 0, [.t 39], none⟩, ⟨some 43, .extract 0, [.t 42], none⟩, ⟨some 10, .alloc [(.int .i64 0), (.int .i64 0)], [], none⟩, ⟨none, .store 2, [.t 10, .t 43], none⟩])
   (.reg [⟨some 44, .mov, [.t 9], none⟩, ⟨some 45, .load 2 true, [.t 10], none⟩, ⟨some 46, .mkslice 2 39, [.t 45], none⟩, ⟨some 47, .append 2 16 39, [.t 44, .t 46], none⟩, ⟨some 9, .mov, [.t 47], none⟩]))))))))
   (.seq (.reg [⟨some 48, .mov, [.t 9], none⟩, ⟨some 49, .call 104, [.t 48, .c (.func (.func 105) [] [])], none⟩])
   (.seq (.reg [⟨some 50, .mov, [.t 9], none⟩, ⟨some 4, .mov, [.t 50], none⟩])
   .ret))))))))
theorem chk.bin_laid_hits : chkF Tryz.prog 51 = some (51, ir.bin_laid_hits, [.tmp 4]) := by kernel_rfl

/-- paravane/paravaneref07.both -/
abbrev F.ref07_both : Nat := 52
def ir.ref07_both : IC :=
 (.seq (.reg [⟨some 2, .box, [.t 0], none⟩, ⟨some 3, .box, [.t 1], none⟩, ⟨some 4, .mov, [.c (.int .i64 0)], none⟩])
   (.seq (.seq (.reg [⟨some 6, .load 6 true, [.t 2], none⟩, ⟨some 7, .call 11, [.t 6], none⟩, ⟨some 5, .mov, [.t 7], none⟩])
   (.seq (.reg [⟨some 8, .mov, [.t 5], none⟩, ⟨some 9, .bin .neq, [.t 8, .c (.int .i64 0)], none⟩])
   (.cond (.t 9) (.seq (.reg [⟨some 10, .mov, [.t 5], none⟩, ⟨some 4, .mov, [.t 10], none⟩])
   .ret) .skip)))
   (.seq (.reg [⟨some 11, .load 2 true, [.t 3], none⟩, ⟨some 12, .call 13, [.t 11], none⟩, ⟨some 4, .mov, [.t 12], none⟩])
   .ret)))
theorem chk.ref07_both : chkF Tryz.prog 52 = some (13, ir.ref07_both, [.tmp 4]) := by kernel_rfl

/-- paravane/paravaneref07.hits -/
abbrev F.ref07_hits : Nat := 53
def ir.ref07_hits : IC :=
 (.seq (.reg [⟨some 3, .box, [.t 0], none⟩, ⟨some 6, .mov, [.c .nils], none⟩])
   (.seq (.reg [⟨some 7, .mov, [.c .nils], none⟩])
   (.seq (.seq (.reg [⟨some 8, .mov, [.c (.int .i64 0)], none⟩])
   (.block 0 (.loop (.seq (.seq (.reg [⟨some 10, .mov, [.t 8], none⟩, ⟨some 11, .mov, [.t 1], none⟩, ⟨some 12, .len false, [.t 11], none⟩, ⟨some 13, .bin .lss, [.t 10, .t 12], none⟩])
   (.cond (.t 13) .skip (.exit 0)))
   (.seq (.block 1 (.seq (.reg [⟨some 9, .mov, [.c (.int .i64 0)], none⟩])
   (.block 2 (.loop (.seq (.seq (.reg [⟨some 16, .mov, [.t 9], none⟩, ⟨some 17, .mov, [.t 2], none⟩, ⟨some 18, .len false, [.t 17], none⟩, ⟨some 19, .bin .lss, [.t 16, .t 18], none⟩])
   (.cond (.t 19) .skip (.exit 2)))
   (.seq (.block 3 (.draw [0, 0, 0, 0, 12, 28, 0, 0, 192, 448, 1022, 2047, 4095] [⟨some 22, .mov, [.t 7], none⟩, ⟨some 23, .load 6 true, [.t 3], none⟩, ⟨some 24, .mov, [.t 1], none⟩, ⟨some 25, .mov, [.t 8], none⟩, ⟨some 26, .iaddrS 2, [.t 24, .t 25], none⟩, ⟨some 27, .load 2 true, [.t 26], none⟩, ⟨some 28, .mov, [.t 2], none⟩, ⟨some 29, .mov, [.t 9], none⟩, ⟨some 30, .iaddrS 2, [.t 28, .t 29], none⟩, ⟨some 31, .load 2 true, [.t 30], none⟩, ⟨some 32, .call 49, [.t 23, .t 27, .t 31], none⟩, ⟨some 33, .call 106, [.t 22, .t 32], none⟩, ⟨some 7, .mov, [.t 33], none⟩]))
   (.reg [⟨some 20, .mov, [.t 9], none⟩, ⟨some 21, .bin .add, [.t 20, .c (.int .i64 1)], none⟩, ⟨some 9, .mov, [.t 21], none⟩])))))))
   (.reg [⟨some 14, .mov, [.t 8], none⟩, ⟨some 15, .bin .add, [.t 14, .c (.int .i64 1)], none⟩, ⟨some 8, .mov, [.t 15], none⟩]))))))
   (.seq (.reg [⟨some 34, .mov, [.t 7], none⟩, ⟨some 6, .mov, [.t 34], none⟩])
   .ret))))
theorem chk.ref07_hits : chkF Tryz.prog 53 = some (35, ir.ref07_hits, [.tmp 6]) := by kernel_rfl

/-- paravane/paravaneref07.places -/
abbrev F.ref07_places : Nat := 54
def ir.ref07_places : IC :=
 (.seq (.reg [⟨some 1, .box, [.t 0], none⟩, ⟨some 2, .mov, [.c .nils], none⟩])
   (.seq (.reg [⟨some 3, .mov, [.c .nils], none⟩])
   (.seq (.reg [⟨some 12, .load 8 true, [.t 1], none⟩, ⟨some 13, .call 107, [.t 12], none⟩, ⟨some 11, .mov, [.t 13], none⟩, ⟨some 14, .extract 0, [.t 11], none⟩, ⟨some 15, .extract 1, [.t 11], none⟩, ⟨some 4, .alloc [(.int .i64 0), (.int .i64 0), (.int .i64 0), (.int .i64 0), (.int .i64 0), (.int .i64 0), (.int .i64 0), (.int .i64 0)], [], none⟩, ⟨none, .store 8, [.t 4, .t 14], none⟩, ⟨some 5, .mov, [.t 15], none⟩])
   (.seq (.seq (.reg [⟨some 16, .faddr 0, [.t 4], none⟩, ⟨some 17, .faddr 0, [.t 16], none⟩, ⟨some 18, .load 1 false, [.t 17], none⟩, ⟨some 6, .mov, [.t 18], none⟩])
   (.block 0 (.loop (.seq (.seq (.reg [⟨some 19, .mov, [.t 6], none⟩, ⟨some 20, .faddr 0, [.t 4], none⟩, ⟨some 21, .faddr 1, [.t 20], none⟩, ⟨some 22, .load 1 false, [.t 21], none⟩, ⟨some 23, .bin .leq, [.t 19, .t 22], none⟩])
   (.cond (.t 23) .skip (.exit 0)))
   (.seq (.block 1 (.seq (.reg [⟨some 26, .faddr 2, [.t 4], none⟩, ⟨some 27, .faddr 0, [.t 26], none⟩, ⟨some 28, .load 1 false, [.t 27], none⟩, ⟨some 7, .mov, [.t 28], none⟩])
   (.block 2 (.loop (.seq (.seq (.reg [⟨some 29, .mov, [.t 7], none⟩, ⟨some 30, .faddr 2, [.t 4], none⟩, ⟨some 31, .faddr 1, [.t 30], none⟩, ⟨some 32, .load 1 false, [.t 31], none⟩, ⟨some 33, .bin .leq, [.t 29, .t 32], none⟩])
   (.cond (.t 33) .skip (.exit 2)))
   (.seq (.block 3 (.seq (.reg [⟨some 36, .mov, [.t 6], none⟩, ⟨some 37, .mov, [.t 7], none⟩, ⟨some 38, .build [(.int .i64 0), (.int .i64 0)] [(0, 1), (1, 1)], [.t 36, .t 37], none⟩, ⟨some 8, .alloc [(.int .i64 0), (.int .i64 0)], [], none⟩, ⟨none, .store 2, [.t 8, .t 38], none⟩])
   (.seq (.reg [⟨some 40, .load 8 true, [.t 4], none⟩, ⟨some 41, .load 2 true, [.t 8], none⟩, ⟨some 42, .call 108, [.t 40, .t 41], none⟩, ⟨some 39, .mov, [.t 42], none⟩, ⟨some 43, .extract 0, [.t 39], none⟩, ⟨some 44, .extract 1, [.t 39], none⟩, ⟨some 9, .mov, [.t 43], none⟩, ⟨some 10, .mov, [.t 44], none⟩])
   (.seq (.reg [⟨some 45, .mov, [.t 9], none⟩, ⟨some 46, .mov, [.t 45], none⟩, ⟨some 47, .mov, [.t 10], (some (46, true))⟩, ⟨some 48, .bin .eql, [.t 47, .c (.int .i64 0)], (some (46, true))⟩, ⟨some 49, .pick, [.t 46, .t 48, .c (.bool false)], none⟩])
   (.cond (.t 49) (.reg [⟨some 50, .mov, [.t 3], none⟩, ⟨some 51, .load 2 true, [.t 8], none⟩, ⟨some 52, .mkslice 2 23, [.t 51], none⟩, ⟨some 53, .append 2 16 23, [.t 50, .t 52], none⟩, ⟨some 3, .mov, [.t 53], none⟩]) .skip)))))
   (.reg [⟨some 34, .mov, [.t 7], none⟩, ⟨some 35, .bin .add, [.t 34, .c (.int .i64 1)], none⟩, ⟨some 7, .mov, [.t 35], none⟩])))))))
   (.reg [⟨some 24, .mov, [.t 6], none⟩, ⟨some 25, .bin .add, [.t 24, .c (.int .i64 1)], none⟩, ⟨some 6, .mov, [.t 25], none⟩]))))))
   (.seq (.reg [⟨some 54, .mov, [.t 3], none⟩, ⟨some 2, .mov, [.t 54], none⟩])
   .ret)))))
theorem chk.ref07_places : chkF Tryz.prog 54 = some (55, ir.ref07_places, [.tmp 2]) := by kernel_rfl

/-- paravane/paravanelaw07.grid -/
abbrev F.law07_grid : Nat := 55
def ir.law07_grid : IC :=
 (.seq (.reg [⟨some 0, .alloc [(.int .i64 0), (.int .i64 0), (.int .i64 0), (.int .i64 0), (.int .i64 0), .nils], [], none⟩])
   (.seq (.reg [⟨some 1, .call 109, [.c (.int .i64 0), .c (.int .i64 25)], none⟩, ⟨some 2, .call 109, [.c (.int .i64 26), .c (.int .i64 400)], none⟩, ⟨some 3, .mkslice 2 83, [.t 1, .t 2], none⟩, ⟨some 4, .build [(.int .i64 0), (.int .i64 0), (.int .i64 0), (.int .i64 0), (.int .i64 0), .nils] [(2, 1), (3, 1), (4, 1), (5, 1)], [.c (.int .i64 2), .c (.int .i64 3), .c (.int .i64 2), .t 3], none⟩, ⟨none, .store 6, [.t 0, .t 4], none⟩])
   .ret))
theorem chk.law07_grid : chkF Tryz.prog 55 = some (5, ir.law07_grid, [.cell 0 26]) := by kernel_rfl

/-- paravane/paravanelaw07.lines -/
abbrev F.law07_lines : Nat := 56
def ir.law07_lines : IC :=
 (.seq (.reg [⟨some 0, .alloc [.nils, .nils], [], none⟩])
   (.seq (.reg [⟨some 1, .call 110, [.c (.int .i64 1), .c (.int .i64 1)], none⟩, ⟨some 2, .call 110, [.c (.int .i64 3), .c (.int .i64 3)], none⟩, ⟨some 3, .call 109, [.c (.int .i64 7), .c (.int .i64 9)], none⟩, ⟨some 4, .call 109, [.c (.int .i64 3), .c (.int .i64 3)], none⟩, ⟨some 5, .call 109, [.c (.int .i64 10), .c (.int .i64 12)], none⟩, ⟨some 6, .call 109, [.c (.int .i64 4), .c (.int .i64 6)], none⟩, ⟨some 7, .build [(.int .i64 0), (.int .i64 0), (.int .i64 0), (.int .i64 0), (.int .i64 0), (.int .i64 0), (.int .i64 0), (.int .i64 0)] [(0, 2), (2, 2), (4, 2), (6, 2)], [.t 3, .t 4, .t 5, .t 6], none⟩, ⟨some 8, .mkslice 8 85, [.t 1, .t 2, .t 7], none⟩, ⟨some 9, .build [(.int .i64 0), (.int .i64 0)] [(0, 1), (1, 1)], [.c (.int .i64 0), .c (.int .i64 1)], none⟩, ⟨some 10, .build [(.int .i64 0), (.int .i64 0)] [(0, 1), (1, 1)], [.c (.int .i64 0), .c (.int .i64 2)], none⟩, ⟨some 11, .build [(.int .i64 0), (.int .i64 0)] [(0, 1), (1, 1)], [.c (.int .i64 1), .c (.int .i64 2)], none⟩, ⟨some 12, .mkslice 2 97, [.t 9, .t 10, .t 11], none⟩, ⟨some 13, .build [.nils, .nils] [(0, 1), (1, 1)], [.t 8, .t 12], none⟩, ⟨none, .store 2, [.t 0, .t 13], none⟩])
   .ret))
theorem chk.law07_lines : chkF Tryz.prog 56 = some (14, ir.law07_lines, [.cell 0 30]) := by kernel_rfl

/-- paravane/bin.Map -/
abbrev F.bin_Map : Nat := 57
def ir.bin_Map : IC :=
 (.seq (.reg [⟨some 3, .box, [.t 0], none⟩, ⟨some 6, .mov, [.c (.str ⟨#[]⟩)], none⟩, ⟨some 7, .mov, [.c (.int .i64 0)], none⟩])
   (.seq (.seq (.reg [⟨some 16, .load 6 true, [.t 3], none⟩, ⟨some 17, .call 10, [.t 16], none⟩, ⟨some 8, .mov, [.t 17], none⟩])
   (.seq (.reg [⟨some 18, .mov, [.t 8], none⟩, ⟨some 19, .bin .neq, [.t 18, .c (.int .i64 0)], none⟩])
   (.cond (.t 19) (.seq (.reg [⟨some 20, .mov, [.t 8], none⟩, ⟨some 6, .mov, [.c (.str ⟨#[]⟩)], none⟩, ⟨some 7, .mov, [.t 20], none⟩])
   .ret) .skip)))
   (.seq (.reg [⟨some 21, .mov, [.t 1], none⟩, ⟨some 22, .len false, [.t 21], none⟩, ⟨some 23, .faddr 3, [.t 3], none⟩, ⟨some 24, .load 1 false, [.t 23], none⟩, ⟨some 25, .faddr 4, [.t 3], none⟩, ⟨some 26, .load 1 false, [.t 25], none⟩, ⟨some 27, .bin .mul, [.t 24, .t 26], none⟩, ⟨some 28, .bin .eql, [.t 22, .t 27], none⟩, ⟨some 9, .mov, [.t 28], none⟩])
   (.seq (.seq (.reg [⟨some 29, .mov, [.t 1], none⟩, ⟨some 30, .len false, [.t 29], none⟩, ⟨some 31, .mov, [.c (.int .i64 0)], none⟩])
   (.block 0 (.loop (.seq (.reg [⟨some 32, .bin .lss, [.t 31, .t 30], none⟩])
   (.seq (.cond (.t 32) .skip (.exit 0))
   (.seq (.block 1 (.seq (.reg [⟨some 33, .iaddrS 1, [.t 29, .t 31], none⟩, ⟨some 34, .load 1 false, [.t 33], none⟩, ⟨some 11, .mov, [.t 34], none⟩])
   (.reg [⟨some 35, .mov, [.t 9], none⟩, ⟨some 36, .mov, [.t 35], none⟩, ⟨some 37, .mov, [.t 11], (some (36, true))⟩, ⟨some 38, .len false, [.t 37], (some (36, true))⟩, ⟨some 39, .faddr 5, [.t 3], (some (36, true))⟩, ⟨some 40, .load 1 false, [.t 39], (some (36, true))⟩, ⟨some 41, .len false, [.t 40], (some (36, true))⟩, ⟨some 42, .bin .eql, [.t 38, .t 41], (some (36, true))⟩, ⟨some 43, .pick, [.t 36, .t 42, .c (.bool false)], none⟩, ⟨some 44, .mov, [.t 43], none⟩, ⟨some 45, .mov, [.t 11], (some (44, true))⟩, ⟨some 46, .call 81, [.t 45, .c (.func (.func 111) [] [])], (some (44, true))⟩, ⟨some 47, .un .not, [.t 46], (some (44, true))⟩, ⟨some 48, .pick, [.t 44, .t 47, .c (.bool false)], none⟩, ⟨some 9, .mov, [.t 48], none⟩])))
   (.reg [⟨some 49, .bin .add, [.t 31, .c (.int .i64 1)], none⟩, ⟨some 31, .mov, [.t 49], none⟩])))))))
   (.seq (.seq (.reg [⟨some 50, .mov, [.t 9], none⟩, ⟨some 51, .un .not, [.t 50], none⟩])
   (.cond (.t 51) (.seq (.reg [⟨some 6, .mov, [.c (.str ⟨#[]⟩)], none⟩, ⟨some 7, .mov, [.c (.int .i64 73)], none⟩])
   .ret) .skip))
   (.seq (.seq (.reg [⟨some 52, .mov, [.t 2], none⟩, ⟨some 53, .faddr 5, [.t 3], none⟩, ⟨some 54, .load 1 false, [.t 53], none⟩, ⟨some 55, .len false, [.t 54], none⟩, ⟨some 56, .bin .sub, [.t 55, .c (.int .i64 1)], none⟩, ⟨some 57, .call 44, [.t 52, .c (.int .i64 0), .t 56], none⟩, ⟨some 58, .un .not, [.t 57], none⟩])
   (.cond (.t 58) (.seq (.reg [⟨some 6, .mov, [.c (.str ⟨#[]⟩)], none⟩, ⟨some 7, .mov, [.c (.int .i64 72)], none⟩])
   .ret) .skip))
   (.seq (.reg [⟨some 12, .mov, [.c .nils], none⟩])
   (.seq (.seq (.reg [⟨some 59, .faddr 4, [.t 3], none⟩, ⟨some 60, .load 1 false, [.t 59], none⟩, ⟨some 61, .bin .sub, [.t 60, .c (.int .i64 1)], none⟩, ⟨some 13, .mov, [.t 61], none⟩])
   (.block 2 (.loop (.seq (.seq (.reg [⟨some 62, .mov, [.t 13], none⟩, ⟨some 63, .bin .geq, [.t 62, .c (.int .i64 0)], none⟩])
   (.cond (.t 63) .skip (.exit 2)))
   (.seq (.block 3 (.seq (.seq (.reg [⟨some 66, .faddr 3, [.t 3], none⟩, ⟨some 67, .load 1 false, [.t 66], none⟩, ⟨some 68, .mov, [.c (.int .i64 0)], none⟩])
   (.block 4 (.loop (.seq (.reg [⟨some 69, .bin .lss, [.t 68, .t 67], none⟩])
   (.seq (.cond (.t 69) .skip (.exit 4))
   (.seq (.block 5 (.seq (.reg [⟨some 70, .mov, [.t 68], none⟩, ⟨some 14, .mov, [.t 70], none⟩])
   (.seq (.reg [⟨some 71, .mov, [.t 1], none⟩, ⟨some 72, .mov, [.t 13], none⟩, ⟨some 73, .faddr 3, [.t 3], none⟩, ⟨some 74, .load 1 false, [.t 73], none⟩, ⟨some 75, .bin .mul, [.t 72, .t 74], none⟩, ⟨some 76, .mov, [.t 14], none⟩, ⟨some 77, .bin .add, [.t 75, .t 76], none⟩, ⟨some 78, .iaddrS 1, [.t 71, .t 77], none⟩, ⟨some 79, .load 1 false, [.t 78], none⟩, ⟨some 80, .mov, [.t 2], none⟩, ⟨some 81, .iaddrS 1, [.t 79, .t 80], none⟩, ⟨some 82, .load 1 false, [.t 81], none⟩, ⟨some 15, .mov, [.t 82], none⟩])
   (.block 6 (.seq (.reg [⟨some 87, .mov, [.t 15], none⟩, ⟨some 88, .bin .eql, [.t 87, .c (.int .i64 0)], none⟩, ⟨some 86, .mov, [.t 88], none⟩])
   (.cond (.t 86) (.reg [⟨some 89, .mov, [.t 12], none⟩, ⟨some 90, .mkslice 1 5, [.c (.int .u8 46)], none⟩, ⟨some 91, .append 1 1 5, [.t 89, .t 90], none⟩, ⟨some 12, .mov, [.t 91], none⟩]) (.seq (.reg [⟨some 93, .mov, [.t 15], none⟩, ⟨some 94, .bin .leq, [.t 93, .c (.int .i64 9)], none⟩, ⟨some 92, .mov, [.t 94], none⟩])
   (.cond (.t 92) (.reg [⟨some 95, .mov, [.t 12], none⟩, ⟨some 96, .mov, [.t 15], none⟩, ⟨some 97, .bin .add, [.c (.int .i64 48), .t 96], none⟩, ⟨some 98, .conv .u8, [.t 97], none⟩, ⟨some 99, .mkslice 1 5, [.t 98], none⟩, ⟨some 100, .append 1 1 5, [.t 95, .t 99], none⟩, ⟨some 12, .mov, [.t 100], none⟩]) (.reg [⟨some 83, .mov, [.t 12], none⟩, ⟨some 84, .mkslice 1 5, [.c (.int .u8 43)], none⟩, ⟨some 85, .append 1 1 5, [.t 83, .t 84], none⟩, ⟨some 12, .mov, [.t 85], none⟩])))))))))
   (.reg [⟨some 101, .bin .add, [.t 68, .c (.int .i64 1)], none⟩, ⟨some 68, .mov, [.t 101], none⟩])))))))
   (.reg [⟨some 102, .mov, [.t 12], none⟩, ⟨some 103, .mkslice 1 5, [.c (.int .u8 10)], none⟩, ⟨some 104, .append 1 1 5, [.t 102, .t 103], none⟩, ⟨some 12, .mov, [.t 104], none⟩])))
   (.reg [⟨some 64, .mov, [.t 13], none⟩, ⟨some 65, .bin .sub, [.t 64, .c (.int .i64 1)], none⟩, ⟨some 13, .mov, [.t 65], none⟩]))))))
   (.seq (.reg [⟨some 105, .mov, [.t 12], none⟩, ⟨some 106, .raw 5 183 9, [.t 105], none⟩, ⟨some 6, .mov, [.t 106], none⟩, ⟨some 7, .mov, [.c (.int .i64 0)], none⟩])
   .ret)))))))))
theorem chk.bin_Map : chkF Tryz.prog 57 = some (107, ir.bin_Map, [.tmp 6, .tmp 7]) := by kernel_rfl

/-- paravane/paravanelaw07.gaps -/
abbrev F.law07_gaps : Nat := 58
def ir.law07_gaps : IC :=
 (.seq (.reg [⟨some 0, .alloc [.nils, .nils], [], none⟩])
   (.seq (.reg [⟨some 1, .mkslice 1 3, [.c (.int .i64 2), .c (.int .i64 1)], none⟩, ⟨some 2, .mkslice 1 3, [.c (.int .i64 2), .c (.int .i64 0)], none⟩, ⟨some 3, .build [(.int .i64 0), .nils] [(0, 1), (1, 1)], [.c (.int .i64 4), .t 2], none⟩, ⟨some 4, .mkslice 1 3, [.c (.int .i64 0), .c (.int .i64 1)], none⟩, ⟨some 5, .build [(.int .i64 0), .nils] [(0, 1), (1, 1)], [.c (.int .i64 3), .t 4], none⟩, ⟨some 6, .mkslice 1 3, [.c (.int .i64 1), .c (.int .i64 1)], none⟩, ⟨some 7, .build [(.int .i64 0), .nils] [(0, 1), (1, 1)], [.c (.int .i64 5), .t 6], none⟩, ⟨some 8, .mkslice 1 3, [.c (.int .i64 2), .c (.int .i64 1)], none⟩, ⟨some 9, .build [(.int .i64 0), .nils] [(0, 1), (1, 1)], [.c (.int .i64 6), .t 8], none⟩, ⟨some 10, .mkslice 2 147, [.t 3, .t 5, .t 7, .t 9], none⟩, ⟨some 11, .build [.nils, .nils] [(0, 1), (1, 1)], [.t 1, .t 10], none⟩, ⟨none, .store 2, [.t 0, .t 11], none⟩])
   .ret))
theorem chk.law07_gaps : chkF Tryz.prog 58 = some (12, ir.law07_gaps, [.cell 0 63]) := by kernel_rfl

/-- paravane/bin.Without -/
abbrev F.bin_Without : Nat := 59
def ir.bin_Without : IC :=
 (.seq (.reg [⟨some 2, .box, [.t 0], none⟩, ⟨some 4, .mov, [.c (.int .i64 0)], none⟩, ⟨some 5, .mov, [.c (.int .i64 0)], none⟩])
   (.seq (.seq (.reg [⟨some 11, .load 2 true, [.t 2], none⟩, ⟨some 12, .call 73, [.t 11], none⟩, ⟨some 6, .mov, [.t 12], none⟩])
   (.seq (.reg [⟨some 13, .mov, [.t 6], none⟩, ⟨some 14, .bin .neq, [.t 13, .c (.int .i64 0)], none⟩])
   (.cond (.t 14) (.seq (.reg [⟨some 15, .mov, [.t 6], none⟩, ⟨some 4, .mov, [.c (.int .i64 0)], none⟩, ⟨some 5, .mov, [.t 15], none⟩])
   .ret) .skip)))
   (.seq (.seq (.reg [⟨some 16, .mov, [.t 1], none⟩, ⟨some 17, .faddr 1, [.t 2], none⟩, ⟨some 18, .load 1 false, [.t 17], none⟩, ⟨some 19, .len false, [.t 18], none⟩, ⟨some 20, .bin .sub, [.t 19, .c (.int .i64 1)], none⟩, ⟨some 21, .call 44, [.t 16, .c (.int .i64 0), .t 20], none⟩, ⟨some 22, .un .not, [.t 21], none⟩])
   (.cond (.t 22) (.seq (.reg [⟨some 4, .mov, [.c (.int .i64 0)], none⟩, ⟨some 5, .mov, [.c (.int .i64 75)], none⟩])
   .ret) .skip))
   (.seq (.draw [0, 0, 2, 7, 15, 31, 31, 63, 255] [⟨some 24, .load 2 true, [.t 2], none⟩, ⟨some 25, .mov, [.t 1], none⟩, ⟨some 26, .bin .shl, [.c (.int .i64 1), .t 25], none⟩, ⟨some 27, .call 90, [.t 24, .t 26], none⟩, ⟨some 23, .mov, [.t 27], none⟩, ⟨some 28, .extract 0, [.t 23], none⟩, ⟨some 29, .extract 1, [.t 23], none⟩, ⟨some 7, .mov, [.t 28], none⟩, ⟨some 8, .mov, [.t 29], none⟩])
   (.seq (.seq (.reg [⟨some 30, .mov, [.t 8], none⟩, ⟨some 31, .un .not, [.t 30], none⟩])
   (.cond (.t 31) (.seq (.reg [⟨some 4, .mov, [.c (.int .i64 0)], none⟩, ⟨some 5, .mov, [.c (.int .i64 4)], none⟩])
   .ret) .skip))
   (.seq (.reg [⟨some 33, .load 2 true, [.t 2], none⟩, ⟨some 34, .call 90, [.t 33, .c (.int .i64 0)], none⟩, ⟨some 32, .mov, [.t 34], none⟩, ⟨some 35, .extract 0, [.t 32], none⟩, ⟨some 36, .extract 1, [.t 32], none⟩, ⟨some 9, .mov, [.t 35], none⟩, ⟨some 10, .mov, [.t 36], none⟩])
   (.seq (.draw [0, 0, 3, 0, 0, 31, 63, 127, 255] [⟨some 37, .load 2 true, [.t 2], none⟩, ⟨some 38, .mov, [.t 7], none⟩, ⟨some 39, .call 92, [.t 37, .t 38], none⟩, ⟨some 40, .load 2 true, [.t 2], none⟩, ⟨some 41, .mov, [.t 9], none⟩, ⟨some 42, .call 92, [.t 40, .t 41], none⟩, ⟨some 43, .bin .sub, [.t 39, .t 42], none⟩, ⟨some 4, .mov, [.t 43], none⟩, ⟨some 5, .mov, [.c (.int .i64 0)], none⟩])
   .ret)))))))
theorem chk.bin_Without : chkF Tryz.prog 59 = some (44, ir.bin_Without, [.tmp 4, .tmp 5]) := by kernel_rfl

/-- paravane/paravaneref00.Alike -/
abbrev F.ref00_Alike : Nat := 60
def ir.ref00_Alike : IC :=
 (.seq (.reg [⟨some 4, .mov, [.c (.bool false)], none⟩])
   (.seq (.seq (.reg [⟨some 6, .mov, [.t 0], none⟩, ⟨some 7, .len false, [.t 6], none⟩, ⟨some 8, .mov, [.t 1], none⟩, ⟨some 9, .len false, [.t 8], none⟩, ⟨some 10, .bin .neq, [.t 7, .t 9], none⟩])
   (.cond (.t 10) (.seq (.reg [⟨some 4, .mov, [.c (.bool false)], none⟩])
   .ret) .skip))
   (.seq (.seq (.reg [⟨some 5, .mov, [.c (.int .i64 0)], none⟩])
   (.block 0 (.loop (.seq (.seq (.reg [⟨some 11, .mov, [.t 5], none⟩, ⟨some 12, .mov, [.t 0], none⟩, ⟨some 13, .len false, [.t 12], none⟩, ⟨some 14, .bin .lss, [.t 11, .t 13], none⟩])
   (.cond (.t 14) .skip (.exit 0)))
   (.seq (.block 1 (.seq (.draw [0, 0, 3, 7, 0, 0, 48, 112, 255] [⟨some 17, .mov, [.t 0], none⟩, ⟨some 18, .mov, [.t 5], none⟩, ⟨some 19, .iaddrS 1, [.t 17, .t 18], none⟩, ⟨some 20, .load 1 false, [.t 19], none⟩, ⟨some 21, .mov, [.t 1], none⟩, ⟨some 22, .mov, [.t 5], none⟩, ⟨some 23, .iaddrS 1, [.t 21, .t 22], none⟩, ⟨some 24, .load 1 false, [.t 23], none⟩, ⟨some 25, .bin .neq, [.t 20, .t 24], none⟩])
   (.cond (.t 25) (.seq (.reg [⟨some 4, .mov, [.c (.bool false)], none⟩])
   .ret) .skip)))
   (.reg [⟨some 15, .mov, [.t 5], none⟩, ⟨some 16, .bin .add, [.t 15, .c (.int .i64 1)], none⟩, ⟨some 5, .mov, [.t 16], none⟩]))))))
   (.seq (.reg [⟨some 4, .mov, [.c (.bool true)], none⟩])
   .ret))))
theorem chk.ref00_Alike : chkF Tryz.prog 60 = some (26, ir.ref00_Alike, [.tmp 4]) := by kernel_rfl

/-- (paravane/bin.laid).surely -/
abbrev F.bin_laid_surely : Nat := 61
def ir.bin_laid_surely : IC :=
 (.seq (.reg [⟨some 2, .box, [.t 0], none⟩, ⟨some 4, .mov, [.c .nils], none⟩])
   (.seq (.seq (.reg [⟨some 6, .load 8 true, [.t 2], none⟩, ⟨some 7, .mov, [.t 1], none⟩, ⟨some 8, .call 51, [.t 6, .t 7], none⟩, ⟨some 5, .mov, [.t 8], none⟩])
   (.seq (.draw [0, 1, 3, 7, 15, 31, 63, 15, 255, 511] [⟨some 9, .mov, [.t 5], none⟩, ⟨some 10, .len false, [.t 9], none⟩, ⟨some 11, .bin .eql, [.t 10, .c (.int .i64 1)], none⟩, ⟨some 12, .mov, [.t 11], none⟩, ⟨some 13, .mov, [.t 5], (some (12, true))⟩, ⟨some 14, .iaddrS 2, [.t 13, .c (.int .i64 0)], (some (12, true))⟩, ⟨some 15, .load 2 true, [.t 14], (some (12, true))⟩, ⟨some 16, .load 2 true, [.c (.rptr 0 0)], (some (12, true))⟩, ⟨some 17, .eqs true [0, 0], [.t 15, .t 16], (some (12, true))⟩, ⟨some 18, .pick, [.t 12, .t 17, .c (.bool false)], none⟩])
   (.cond (.t 18) (.seq (.reg [⟨some 19, .mov, [.t 5], none⟩, ⟨some 4, .mov, [.t 19], none⟩])
   .ret) .skip)))
   (.seq (.reg [⟨some 4, .mov, [.c .nils], none⟩])
   .ret)))
theorem chk.bin_laid_surely : chkF Tryz.prog 61 = some (20, ir.bin_laid_surely, [.tmp 4]) := by kernel_rfl

/-- (paravane/bin.laid).count -/
abbrev F.bin_laid_count : Nat := 62
def ir.bin_laid_count : IC :=
 (.seq (.reg [⟨some 2, .box, [.t 0], none⟩, ⟨some 4, .mov, [.c .nils], none⟩])
   (.seq (.reg [⟨some 10, .faddr 0, [.t 2], none⟩, ⟨some 11, .faddr 3, [.t 10], none⟩, ⟨some 12, .load 1 false, [.t 11], none⟩, ⟨some 13, .faddr 0, [.t 2], none⟩, ⟨some 14, .faddr 4, [.t 13], none⟩, ⟨some 15, .load 1 false, [.t 14], none⟩, ⟨some 16, .bin .mul, [.t 12, .t 15], none⟩, ⟨some 17, .mkbox 1 24 [.nils], [.t 16, .t 16], none⟩, ⟨some 5, .mov, [.t 17], none⟩])
   (.seq (.seq (.reg [⟨some 18, .mov, [.t 5], none⟩, ⟨some 19, .len false, [.t 18], none⟩, ⟨some 20, .mov, [.c (.int .i64 0)], none⟩])
   (.block 0 (.loop (.seq (.reg [⟨some 21, .bin .lss, [.t 20, .t 19], none⟩])
   (.seq (.cond (.t 21) .skip (.exit 0))
   (.seq (.block 1 (.seq (.reg [⟨some 22, .mov, [.t 20], none⟩, ⟨some 6, .mov, [.t 22], none⟩])
   (.reg [⟨some 23, .mov, [.t 5], none⟩, ⟨some 24, .mov, [.t 6], none⟩, ⟨some 25, .faddr 0, [.t 2], none⟩, ⟨some 26, .faddr 5, [.t 25], none⟩, ⟨some 27, .load 1 false, [.t 26], none⟩, ⟨some 28, .len false, [.t 27], none⟩, ⟨some 29, .mkbox 1 8 [(.int .i64 0)], [.t 28, .t 28], none⟩, ⟨some 30, .iaddrS 1, [.t 23, .t 24], none⟩, ⟨none, .store 1, [.t 30, .t 29], none⟩])))
   (.reg [⟨some 31, .bin .add, [.t 20, .c (.int .i64 1)], none⟩, ⟨some 20, .mov, [.t 31], none⟩])))))))
   (.seq (.seq (.reg [⟨some 32, .faddr 6, [.t 2], none⟩, ⟨some 33, .load 1 false, [.t 32], none⟩, ⟨some 34, .len false, [.t 33], none⟩, ⟨some 35, .mov, [.c (.int .i64 0)], none⟩])
   (.block 2 (.loop (.seq (.reg [⟨some 36, .bin .lss, [.t 35, .t 34], none⟩])
   (.seq (.cond (.t 36) .skip (.exit 2))
   (.seq (.block 3 (.seq (.reg [⟨some 37, .mov, [.t 35], none⟩, ⟨some 7, .mov, [.t 37], none⟩])
   (.seq (.reg [⟨some 38, .mov, [.t 1], none⟩, ⟨some 39, .mov, [.t 7], none⟩, ⟨some 40, .callv, [.t 38, .t 39], none⟩, ⟨some 41, .len false, [.t 40], none⟩, ⟨some 42, .mov, [.c (.int .i64 0)], none⟩])
   (.block 4 (.loop (.seq (.reg [⟨some 43, .bin .lss, [.t 42, .t 41], none⟩])
   (.seq (.cond (.t 43) .skip (.exit 4))
   (.seq (.block 5 (.seq (.reg [⟨some 44, .iaddrS 2, [.t 40, .t 42], none⟩, ⟨some 45, .load 2 true, [.t 44], none⟩, ⟨some 9, .alloc [(.int .i64 0), (.int .i64 0)], [], none⟩, ⟨none, .store 2, [.t 9, .t 45], none⟩])
   (.seq (.reg [⟨some 46, .load 2 true, [.t 9], none⟩, ⟨some 47, .load 2 true, [.c (.rptr 0 0)], none⟩, ⟨some 48, .eqs true [0, 0], [.t 46, .t 47], none⟩])
   (.cond (.t 48) (.draw [0, 0, 2, 7, 15, 0, 32, 127, 255, 511, 1023, 2047] [⟨some 49, .mov, [.t 5], none⟩, ⟨some 50, .faddr 0, [.t 9], none⟩, ⟨some 51, .load 1 false, [.t 50], none⟩, ⟨some 52, .iaddrS 1, [.t 49, .t 51], none⟩, ⟨some 53, .load 1 false, [.t 52], none⟩, ⟨some 54, .faddr 1, [.t 9], none⟩, ⟨some 55, .load 1 false, [.t 54], none⟩, ⟨some 56, .iaddrS 1, [.t 53, .t 55], none⟩, ⟨some 57, .load 1 false, [.t 56], none⟩, ⟨some 58, .bin .add, [.t 57, .c (.int .i64 1)], none⟩, ⟨some 59, .iaddrS 1, [.t 53, .t 55], none⟩, ⟨none, .store 1, [.t 59, .t 58], none⟩]) .skip))))
   (.reg [⟨some 60, .bin .add, [.t 42, .c (.int .i64 1)], none⟩, ⟨some 42, .mov, [.t 60], none⟩])))))))))
   (.reg [⟨some 61, .bin .add, [.t 35, .c (.int .i64 1)], none⟩, ⟨some 35, .mov, [.t 61], none⟩])))))))
   (.seq (.reg [⟨some 62, .mov, [.t 5], none⟩, ⟨some 4, .mov, [.t 62], none⟩])
   .ret)))))
theorem chk.bin_laid_count : chkF Tryz.prog 62 = some (63, ir.bin_laid_count, [.tmp 4]) := by kernel_rfl

/-- paravane/bin.needed -/
abbrev F.bin_needed : Nat := 64
def ir.bin_needed : IC :=
 (.seq (.reg [⟨some 2, .box, [.t 0], none⟩, ⟨some 4, .mov, [.c (.bool false)], none⟩])
   (.seq (.reg [⟨some 5, .mov, [.t 1], none⟩, ⟨some 6, .len false, [.t 5], none⟩, ⟨some 7, .faddr 5, [.t 2], none⟩, ⟨some 8, .load 1 false, [.t 7], none⟩, ⟨some 9, .len false, [.t 8], none⟩, ⟨some 10, .bin .eql, [.t 6, .t 9], none⟩, ⟨some 11, .mov, [.t 10], none⟩, ⟨some 12, .mov, [.t 1], (some (11, true))⟩, ⟨some 13, .call 81, [.t 12, .c (.func (.func 113) [] [])], (some (11, true))⟩, ⟨some 14, .un .not, [.t 13], (some (11, true))⟩, ⟨some 15, .pick, [.t 11, .t 14, .c (.bool false)], none⟩, ⟨some 4, .mov, [.t 15], none⟩])
   .ret))
theorem chk.bin_needed : chkF Tryz.prog 64 = some (16, ir.bin_needed, [.tmp 4]) := by kernel_rfl

/-- (paravane/bin.laid).lacks -/
abbrev F.bin_laid_lacks : Nat := 65
def ir.bin_laid_lacks : IC :=
 (.seq (.reg [⟨some 2, .box, [.t 0], none⟩, ⟨some 4, .mov, [.c .nils], none⟩])
   (.seq (.reg [⟨some 5, .mov, [.c .nils], none⟩])
   (.seq (.seq (.reg [⟨some 10, .load 8 true, [.t 2], none⟩, ⟨some 11, .load 8 true, [.t 2], none⟩, ⟨some 12, .mkfunc (.func 61) 1, [.t 11], none⟩, ⟨some 13, .call 62, [.t 10, .t 12], none⟩, ⟨some 14, .len false, [.t 13], none⟩, ⟨some 15, .mov, [.c (.int .i64 0)], none⟩])
   (.block 0 (.loop (.seq (.reg [⟨some 16, .bin .lss, [.t 15, .t 14], none⟩])
   (.seq (.cond (.t 16) .skip (.exit 0))
   (.seq (.block 1 (.seq (.reg [⟨some 17, .mov, [.t 15], none⟩, ⟨some 18, .iaddrS 1, [.t 13, .t 15], none⟩, ⟨some 19, .load 1 false, [.t 18], none⟩, ⟨some 6, .mov, [.t 17], none⟩, ⟨some 7, .mov, [.t 19], none⟩])
   (.seq (.reg [⟨some 20, .mov, [.t 7], none⟩, ⟨some 21, .len false, [.t 20], none⟩, ⟨some 22, .mov, [.c (.int .i64 0)], none⟩])
   (.block 2 (.loop (.seq (.reg [⟨some 23, .bin .lss, [.t 22, .t 21], none⟩])
   (.seq (.cond (.t 23) .skip (.exit 2))
   (.seq (.block 3 (.seq (.reg [⟨some 24, .mov, [.t 22], none⟩, ⟨some 25, .iaddrS 1, [.t 20, .t 22], none⟩, ⟨some 26, .load 1 false, [.t 25], none⟩, ⟨some 8, .mov, [.t 24], none⟩, ⟨some 9, .mov, [.t 26], none⟩])
   (.seq (.reg [⟨some 27, .mov, [.t 9], none⟩, ⟨some 28, .mov, [.t 1], none⟩, ⟨some 29, .mov, [.t 8], none⟩, ⟨some 30, .iaddrS 1, [.t 28, .t 29], none⟩, ⟨some 31, .load 1 false, [.t 30], none⟩, ⟨some 32, .bin .lss, [.t 27, .t 31], none⟩])
   (.cond (.t 32) (.reg [⟨some 33, .mov, [.t 5], none⟩, ⟨some 34, .mov, [.t 6], none⟩, ⟨some 35, .mov, [.t 8], none⟩, ⟨some 36, .mov, [.t 1], none⟩, ⟨some 37, .mov, [.t 8], none⟩, ⟨some 38, .iaddrS 1, [.t 36, .t 37], none⟩, ⟨some 39, .load 1 false, [.t 38], none⟩, ⟨some 40, .mov, [.t 9], none⟩, ⟨some 41, .bin .sub, [.t 39, .t 40], none⟩, ⟨some 42, .build [(.int .i64 0), (.int .i64 0), (.int .i64 0)] [(0, 1), (1, 1), (2, 1)], [.t 34, .t 35, .t 41], none⟩, ⟨some 43, .mkslice 3 117, [.t 42], none⟩, ⟨some 44, .append 3 24 117, [.t 33, .t 43], none⟩, ⟨some 5, .mov, [.t 44], none⟩]) .skip))))
   (.reg [⟨some 45, .bin .add, [.t 22, .c (.int .i64 1)], none⟩, ⟨some 22, .mov, [.t 45], none⟩])))))))))
   (.reg [⟨some 46, .bin .add, [.t 15, .c (.int .i64 1)], none⟩, ⟨some 15, .mov, [.t 46], none⟩])))))))
   (.seq (.reg [⟨some 47, .mov, [.t 5], none⟩, ⟨some 4, .mov, [.t 47], none⟩])
   .ret))))
theorem chk.bin_laid_lacks : chkF Tryz.prog 65 = some (48, ir.bin_laid_lacks, [.tmp 4]) := by kernel_rfl

/-- (paravane/bin.laid).sure -/
abbrev F.bin_laid_sure : Nat := 68
def ir.bin_laid_sure : IC :=
 (.seq (.reg [⟨some 1, .box, [.t 0], none⟩, ⟨some 2, .mov, [.c (.int .i64 0)], none⟩])
   (.seq (.reg [⟨some 3, .mov, [.c (.int .i64 0)], none⟩])
   (.seq (.seq (.reg [⟨some 5, .faddr 6, [.t 1], none⟩, ⟨some 6, .load 1 false, [.t 5], none⟩, ⟨some 7, .len false, [.t 6], none⟩, ⟨some 8, .mov, [.c (.int .i64 0)], none⟩])
   (.block 0 (.loop (.seq (.reg [⟨some 9, .bin .lss, [.t 8, .t 7], none⟩])
   (.seq (.cond (.t 9) .skip (.exit 0))
   (.seq (.block 1 (.seq (.reg [⟨some 10, .mov, [.t 8], none⟩, ⟨some 4, .mov, [.t 10], none⟩])
   (.reg [⟨some 11, .mov, [.t 3], none⟩, ⟨some 12, .load 8 true, [.t 1], none⟩, ⟨some 13, .mov, [.t 4], none⟩, ⟨some 14, .call 61, [.t 12, .t 13], none⟩, ⟨some 15, .len false, [.t 14], none⟩, ⟨some 16, .bin .add, [.t 11, .t 15], none⟩, ⟨some 3, .mov, [.t 16], none⟩])))
   (.reg [⟨some 17, .bin .add, [.t 8, .c (.int .i64 1)], none⟩, ⟨some 8, .mov, [.t 17], none⟩])))))))
   (.seq (.reg [⟨some 18, .mov, [.t 3], none⟩, ⟨some 2, .mov, [.t 18], none⟩])
   .ret))))
theorem chk.bin_laid_sure : chkF Tryz.prog 68 = some (19, ir.bin_laid_sure, [.tmp 2]) := by kernel_rfl

/-- slices.Clone[[][]paravane/api.Point,[]paravane/api.Point] -/
abbrev F.slices_Clone_api_Point_api_Point : Nat := 69
def ir.slices_Clone_api_Point_api_Point : IC :=
 (.seq (.reg [⟨some 2, .mov, [.c .nils], none⟩])
   (.seq (.seq (.reg [⟨some 3, .mov, [.t 0], none⟩, ⟨some 4, .raw 8 0 99, [.t 3, .c .nils], none⟩])
   (.cond (.t 4) (.seq (.reg [⟨some 2, .mov, [.c .nils], none⟩])
   .ret) .skip))
   (.seq (.reg [⟨some 5, .mkslice 1 88, [], none⟩, ⟨some 6, .mov, [.t 0], none⟩, ⟨some 7, .append 1 24 88, [.t 5, .t 6], none⟩, ⟨some 2, .mov, [.t 7], none⟩])
   .ret)))
theorem chk.slices_Clone_api_Point_api_Point : chkF Tryz.prog 69 = some (8, ir.slices_Clone_api_Point_api_Point, [.tmp 2]) := by kernel_rfl

/-- paravane/bin.CheckInfill -/
abbrev F.bin_CheckInfill : Nat := 73
def ir.bin_CheckInfill : IC :=
 (.seq (.reg [⟨some 1, .box, [.t 0], none⟩, ⟨some 2, .mov, [.c (.int .i64 0)], none⟩])
   (.seq (.seq (.reg [⟨some 7, .faddr 0, [.t 1], none⟩, ⟨some 8, .load 1 false, [.t 7], none⟩, ⟨some 9, .len false, [.t 8], none⟩, ⟨some 10, .bin .gtr, [.t 9, .c (.int .i64 16)], none⟩, ⟨some 11, .mov, [.t 10], none⟩, ⟨some 12, .faddr 1, [.t 1], (some (11, false))⟩, ⟨some 13, .load 1 false, [.t 12], (some (11, false))⟩, ⟨some 14, .len false, [.t 13], (some (11, false))⟩, ⟨some 15, .bin .gtr, [.t 14, .c (.int .i64 10)], (some (11, false))⟩, ⟨some 16, .pick, [.t 11, .c (.bool true), .t 15], none⟩])
   (.cond (.t 16) (.seq (.reg [⟨some 2, .mov, [.c (.int .i64 74)], none⟩])
   .ret) .skip))
   (.seq (.seq (.reg [⟨some 17, .faddr 0, [.t 1], none⟩, ⟨some 18, .load 1 false, [.t 17], none⟩, ⟨some 19, .len false, [.t 18], none⟩, ⟨some 20, .mov, [.c (.int .i64 0)], none⟩])
   (.block 0 (.loop (.seq (.reg [⟨some 21, .bin .lss, [.t 20, .t 19], none⟩])
   (.seq (.cond (.t 21) .skip (.exit 0))
   (.seq (.block 1 (.seq (.reg [⟨some 22, .iaddrS 1, [.t 18, .t 20], none⟩, ⟨some 23, .load 1 false, [.t 22], none⟩, ⟨some 4, .mov, [.t 23], none⟩])
   (.seq (.reg [⟨some 24, .mov, [.t 4], none⟩, ⟨some 25, .call 44, [.t 24, .c (.int .i64 1), .c (.int .i64 100)], none⟩, ⟨some 26, .un .not, [.t 25], none⟩])
   (.cond (.t 26) (.seq (.reg [⟨some 2, .mov, [.c (.int .i64 74)], none⟩])
   .ret) .skip))))
   (.reg [⟨some 27, .bin .add, [.t 20, .c (.int .i64 1)], none⟩, ⟨some 20, .mov, [.t 27], none⟩])))))))
   (.seq (.seq (.reg [⟨some 28, .faddr 1, [.t 1], none⟩, ⟨some 29, .load 1 false, [.t 28], none⟩, ⟨some 30, .len false, [.t 29], none⟩, ⟨some 31, .mov, [.c (.int .i64 0)], none⟩])
   (.block 2 (.loop (.seq (.reg [⟨some 32, .bin .lss, [.t 31, .t 30], none⟩])
   (.seq (.cond (.t 32) .skip (.exit 2))
   (.seq (.block 3 (.seq (.reg [⟨some 33, .iaddrS 2, [.t 29, .t 31], none⟩, ⟨some 34, .load 2 true, [.t 33], none⟩, ⟨some 6, .alloc [(.int .i64 0), .nils], [], none⟩, ⟨none, .store 2, [.t 6, .t 34], none⟩])
   (.seq (.reg [⟨some 35, .faddr 0, [.t 6], none⟩, ⟨some 36, .load 1 false, [.t 35], none⟩, ⟨some 37, .call 44, [.t 36, .c (.int .i64 1), .c (.int .i64 1000)], none⟩, ⟨some 38, .un .not, [.t 37], none⟩, ⟨some 39, .mov, [.t 38], none⟩, ⟨some 40, .faddr 1, [.t 6], (some (39, false))⟩, ⟨some 41, .load 1 false, [.t 40], (some (39, false))⟩, ⟨some 42, .len false, [.t 41], (some (39, false))⟩, ⟨some 43, .faddr 0, [.t 1], (some (39, false))⟩, ⟨some 44, .load 1 false, [.t 43], (some (39, false))⟩, ⟨some 45, .len false, [.t 44], (some (39, false))⟩, ⟨some 46, .bin .neq, [.t 42, .t 45], (some (39, false))⟩, ⟨some 47, .pick, [.t 39, .c (.bool true), .t 46], none⟩, ⟨some 48, .mov, [.t 47], none⟩, ⟨some 49, .faddr 1, [.t 6], (some (48, false))⟩, ⟨some 50, .load 1 false, [.t 49], (some (48, false))⟩, ⟨some 51, .call 81, [.t 50, .c (.func (.func 114) [] [])], (some (48, false))⟩, ⟨some 52, .pick, [.t 48, .c (.bool true), .t 51], none⟩])
   (.cond (.t 52) (.seq (.reg [⟨some 2, .mov, [.c (.int .i64 74)], none⟩])
   .ret) .skip))))
   (.reg [⟨some 53, .bin .add, [.t 31, .c (.int .i64 1)], none⟩, ⟨some 31, .mov, [.t 53], none⟩])))))))
   (.seq (.reg [⟨some 2, .mov, [.c (.int .i64 0)], none⟩])
   .ret)))))
theorem chk.bin_CheckInfill : chkF Tryz.prog 73 = some (54, ir.bin_CheckInfill, [.tmp 2]) := by kernel_rfl

/-- paravane/bin.covers -/
abbrev F.bin_covers : Nat := 74
def ir.bin_covers : IC :=
 (.seq (.reg [⟨some 2, .box, [.t 0], none⟩, ⟨some 4, .mov, [.c (.bool false)], none⟩])
   (.seq (.reg [⟨some 5, .load 2 true, [.t 2], none⟩, ⟨some 6, .mov, [.t 1], none⟩, ⟨some 7, .call 116, [.t 5, .t 6], none⟩, ⟨some 8, .call 115, [.t 7, .c (.func (.func 117) [] [])], none⟩, ⟨some 9, .bin .eql, [.t 8, .c (.int .i64 0)], none⟩, ⟨some 4, .mov, [.t 9], none⟩])
   .ret))
theorem chk.bin_covers : chkF Tryz.prog 74 = some (10, ir.bin_covers, [.tmp 4]) := by kernel_rfl

/-- paravane/bin.Bound$1 -/
abbrev F.bin_Bound_1 : Nat := 79
def ir.bin_Bound_1 : IC :=
 (.scope (.seq (.seq (.reg [⟨some 15, .load 1 false, [.t 2], none⟩, ⟨some 16, .un .not, [.t 15], none⟩, ⟨some 17, .mov, [.t 16], none⟩, ⟨some 18, .load 1 false, [.t 3], (some (17, false))⟩, ⟨some 19, .load 1 false, [.t 4], (some (17, false))⟩, ⟨some 20, .len false, [.t 19], (some (17, false))⟩, ⟨some 21, .bin .geq, [.t 18, .t 20], (some (17, false))⟩, ⟨some 22, .pick, [.t 17, .c (.bool true), .t 21], none⟩])
   (.cond (.t 22) (.seq (.reg [⟨none, .store 1, [.t 2, .c (.bool false)], none⟩])
   .ret) .skip))
   (.seq (.reg [⟨some 23, .load 1 false, [.t 4], none⟩, ⟨some 24, .load 1 false, [.t 3], none⟩, ⟨some 25, .iaddrS 2, [.t 23, .t 24], none⟩, ⟨some 26, .load 2 true, [.t 25], none⟩, ⟨some 11, .alloc [(.int .i64 0), .nils], [], none⟩, ⟨none, .store 2, [.t 11, .t 26], none⟩])
   (.seq (.reg [⟨some 27, .load 1 false, [.t 3], none⟩, ⟨some 28, .bin .add, [.t 27, .c (.int .i64 1)], none⟩, ⟨none, .store 1, [.t 3, .t 28], none⟩])
   (.seq (.seq (.reg [⟨some 29, .faddr 0, [.t 11], none⟩, ⟨some 30, .load 1 false, [.t 29], none⟩, ⟨some 31, .bin .neq, [.t 30, .c (.int .i64 (-1))], none⟩])
   (.cond (.t 31) (.seq (.seq (.reg [⟨some 32, .faddr 0, [.t 11], none⟩, ⟨some 33, .load 1 false, [.t 32], none⟩, ⟨some 34, .faddr 1, [.t 5], none⟩, ⟨some 35, .load 1 false, [.t 34], none⟩, ⟨some 36, .len false, [.t 35], none⟩, ⟨some 37, .bin .sub, [.t 36, .c (.int .i64 1)], none⟩, ⟨some 38, .call 44, [.t 33, .c (.int .i64 0), .t 37], none⟩, ⟨some 39, .mov, [.t 38], none⟩, ⟨some 40, .mov, [.t 1], (some (39, true))⟩, ⟨some 41, .faddr 0, [.t 11], (some (39, true))⟩, ⟨some 42, .load 1 false, [.t 41], (some (39, true))⟩, ⟨some 43, .bin .shr, [.t 40, .t 42], (some (39, true))⟩, ⟨some 44, .bin .rem, [.t 43, .c (.int .i64 2)], (some (39, true))⟩, ⟨some 45, .bin .eql, [.t 44, .c (.int .i64 0)], (some (39, true))⟩, ⟨some 46, .pick, [.t 39, .t 45, .c (.bool false)], none⟩, ⟨some 47, .mov, [.t 46], none⟩, ⟨some 48, .faddr 1, [.t 11], (some (47, true))⟩, ⟨some 49, .load 1 false, [.t 48], (some (47, true))⟩, ⟨some 50, .len false, [.t 49], (some (47, true))⟩, ⟨some 51, .bin .eql, [.t 50, .c (.int .i64 0)], (some (47, true))⟩, ⟨some 52, .pick, [.t 47, .t 51, .c (.bool false)], none⟩, ⟨none, .store 1, [.t 2, .t 52], none⟩])
   (.seq (.reg [⟨some 53, .load 1 false, [.t 2], none⟩])
   (.cond (.t 53) (.seq (.draw [0, 0, 0, 4, 12, 30, 0, 0, 128, 384, 960, 2047] [⟨some 54, .load 1 false, [.t 6], none⟩, ⟨some 55, .mov, [.t 0], none⟩, ⟨some 56, .faddr 0, [.t 11], none⟩, ⟨some 57, .load 1 false, [.t 56], none⟩, ⟨some 58, .bin .shl, [.c (.int .i64 1), .t 57], none⟩, ⟨some 59, .bin .or, [.t 55, .t 58], none⟩, ⟨some 60, .mov, [.t 1], none⟩, ⟨some 61, .faddr 0, [.t 11], none⟩, ⟨some 62, .load 1 false, [.t 61], none⟩, ⟨some 63, .bin .shl, [.c (.int .i64 1), .t 62], none⟩, ⟨some 64, .bin .or, [.t 60, .t 63], none⟩, ⟨some 65, .callv, [.t 54, .t 59, .t 64], none⟩])
   (.draw [0, 0, 0, 0, 8, 24, 60, 127] [⟨some 66, .load 1 false, [.t 6], none⟩, ⟨some 67, .mov, [.t 0], none⟩, ⟨some 68, .mov, [.t 1], none⟩, ⟨some 69, .faddr 0, [.t 11], none⟩, ⟨some 70, .load 1 false, [.t 69], none⟩, ⟨some 71, .bin .shl, [.c (.int .i64 1), .t 70], none⟩, ⟨some 72, .bin .or, [.t 68, .t 71], none⟩, ⟨some 73, .callv, [.t 66, .t 67, .t 72], none⟩])) .skip)))
   .ret) .skip))
   (.seq (.reg [⟨some 74, .faddr 1, [.t 11], none⟩, ⟨some 75, .load 1 false, [.t 74], none⟩, ⟨some 76, .len false, [.t 75], none⟩, ⟨some 77, .faddr 0, [.t 5], none⟩, ⟨some 78, .load 1 false, [.t 77], none⟩, ⟨some 79, .len false, [.t 78], none⟩, ⟨some 80, .bin .eql, [.t 76, .t 79], none⟩, ⟨none, .store 1, [.t 2, .t 80], none⟩])
   (.seq (.label 0)
   (.seq (.seq (.reg [⟨some 81, .faddr 1, [.t 11], none⟩, ⟨some 82, .load 1 false, [.t 81], none⟩, ⟨some 83, .len false, [.t 82], none⟩, ⟨some 84, .mov, [.c (.int .i64 0)], none⟩])
   (.block 0 (.loop (.seq (.reg [⟨some 85, .bin .lss, [.t 84, .t 83], none⟩])
   (.seq (.cond (.t 85) .skip (.exit 0))
   (.seq (.block 1 (.seq (.reg [⟨some 86, .iaddrS 1, [.t 82, .t 84], none⟩, ⟨some 87, .load 1 false, [.t 86], none⟩, ⟨some 13, .mov, [.t 87], none⟩])
   (.seq (.reg [⟨some 88, .load 1 false, [.t 2], none⟩, ⟨some 89, .mov, [.t 88], none⟩, ⟨some 90, .mov, [.t 13], (some (89, true))⟩, ⟨some 91, .call 44, [.t 90, .c (.int .i64 0), .c (.int .i64 1000000)], (some (89, true))⟩, ⟨some 92, .pick, [.t 89, .t 91, .c (.bool false)], none⟩, ⟨none, .store 1, [.t 2, .t 92], none⟩])
   (.seq (.reg [⟨some 93, .load 1 false, [.t 2], none⟩, ⟨some 94, .un .not, [.t 93], none⟩])
   (.cond (.t 94) (.exit 0) .skip)))))
   (.reg [⟨some 95, .bin .add, [.t 84, .c (.int .i64 1)], none⟩, ⟨some 84, .mov, [.t 95], none⟩])))))))
   (.seq (.reg [⟨some 96, .load 1 false, [.t 2], none⟩])
   (.cond (.t 96) (.seq (.reg [⟨some 97, .load 2 true, [.t 5], none⟩, ⟨some 98, .faddr 1, [.t 11], none⟩, ⟨some 99, .load 1 false, [.t 98], none⟩, ⟨some 100, .mov, [.t 0], none⟩, ⟨some 101, .mov, [.t 1], none⟩, ⟨some 102, .call 80, [.t 97, .t 99, .t 100, .t 101], none⟩, ⟨some 14, .mov, [.t 102], none⟩])
   (.seq (.reg [⟨some 103, .load 1 false, [.t 7], none⟩, ⟨some 104, .un .not, [.t 103], none⟩, ⟨some 105, .mov, [.t 104], none⟩, ⟨some 106, .mov, [.t 14], (some (105, false))⟩, ⟨some 107, .load 1 false, [.t 8], (some (105, false))⟩, ⟨some 108, .bin .lss, [.t 106, .t 107], (some (105, false))⟩, ⟨some 109, .pick, [.t 105, .c (.bool true), .t 108], none⟩])
   (.cond (.t 109) (.reg [⟨some 110, .mov, [.t 14], none⟩, ⟨none, .store 1, [.t 8, .t 110], none⟩, ⟨none, .store 1, [.t 7, .c (.bool true)], none⟩]) .skip))) .skip))))))))))
theorem chk.bin_Bound_1 : chkF Tryz.prog 79 = some (111, ir.bin_Bound_1, []) := by kernel_rfl

/-- paravane/bin.leaf -/
abbrev F.bin_leaf : Nat := 80
def ir.bin_leaf : IC :=
 (.seq (.reg [⟨some 4, .box, [.t 0], none⟩, ⟨some 8, .mov, [.c (.int .i64 0)], none⟩])
   (.seq (.reg [⟨some 18, .load 2 true, [.t 4], none⟩, ⟨some 19, .mov, [.t 2], none⟩, ⟨some 20, .call 116, [.t 18, .t 19], none⟩, ⟨some 9, .mov, [.t 20], none⟩])
   (.seq (.reg [⟨some 21, .load 2 true, [.t 4], none⟩, ⟨some 22, .mov, [.t 2], none⟩, ⟨some 23, .call 92, [.t 21, .t 22], none⟩, ⟨some 10, .mov, [.t 23], none⟩])
   (.seq (.seq (.reg [⟨some 24, .mov, [.t 1], none⟩, ⟨some 25, .len false, [.t 24], none⟩, ⟨some 26, .mov, [.c (.int .i64 0)], none⟩])
   (.block 0 (.loop (.seq (.reg [⟨some 27, .bin .lss, [.t 26, .t 25], none⟩])
   (.seq (.cond (.t 27) .skip (.exit 0))
   (.seq (.block 1 (.seq (.reg [⟨some 28, .mov, [.t 26], none⟩, ⟨some 29, .iaddrS 1, [.t 24, .t 26], none⟩, ⟨some 30, .load 1 false, [.t 29], none⟩, ⟨some 11, .mov, [.t 28], none⟩, ⟨some 12, .mov, [.t 30], none⟩])
   (.reg [⟨some 31, .mov, [.t 10], none⟩, ⟨some 32, .mov, [.t 12], none⟩, ⟨some 33, .mov, [.t 9], none⟩, ⟨some 34, .mov, [.t 11], none⟩, ⟨some 35, .iaddrS 1, [.t 33, .t 34], none⟩, ⟨some 36, .load 1 false, [.t 35], none⟩, ⟨some 37, .bin .mul, [.t 32, .t 36], none⟩, ⟨some 38, .bin .add, [.t 31, .t 37], none⟩, ⟨some 10, .mov, [.t 38], none⟩])))
   (.reg [⟨some 39, .bin .add, [.t 26, .c (.int .i64 1)], none⟩, ⟨some 26, .mov, [.t 39], none⟩])))))))
   (.seq (.seq (.reg [⟨some 40, .faddr 1, [.t 4], none⟩, ⟨some 41, .load 1 false, [.t 40], none⟩, ⟨some 42, .len false, [.t 41], none⟩, ⟨some 43, .mov, [.c (.int .i64 0)], none⟩])
   (.block 2 (.loop (.seq (.reg [⟨some 44, .bin .lss, [.t 43, .t 42], none⟩])
   (.seq (.cond (.t 44) .skip (.exit 2))
   (.seq (.block 3 (.seq (.reg [⟨some 45, .mov, [.t 43], none⟩, ⟨some 46, .iaddrS 2, [.t 41, .t 43], none⟩, ⟨some 47, .load 2 true, [.t 46], none⟩, ⟨some 14, .alloc [(.int .i64 0), .nils], [], none⟩, ⟨some 13, .mov, [.t 45], none⟩, ⟨none, .store 2, [.t 14, .t 47], none⟩])
   (.seq (.seq (.reg [⟨some 48, .mov, [.t 3], none⟩, ⟨some 49, .mov, [.t 13], none⟩, ⟨some 50, .bin .shr, [.t 48, .t 49], none⟩, ⟨some 51, .bin .rem, [.t 50, .c (.int .i64 2)], none⟩, ⟨some 52, .bin .eql, [.t 51, .c (.int .i64 1)], none⟩])
   (.cond (.t 52) (.exit 3) .skip))
   (.seq (.reg [⟨some 53, .faddr 0, [.t 14], none⟩, ⟨some 54, .load 1 false, [.t 53], none⟩, ⟨some 55, .un .neg, [.t 54], none⟩, ⟨some 15, .mov, [.t 55], none⟩])
   (.seq (.seq (.reg [⟨some 56, .faddr 1, [.t 14], none⟩, ⟨some 57, .load 1 false, [.t 56], none⟩, ⟨some 58, .len false, [.t 57], none⟩, ⟨some 59, .mov, [.c (.int .i64 0)], none⟩])
   (.block 4 (.loop (.seq (.reg [⟨some 60, .bin .lss, [.t 59, .t 58], none⟩])
   (.seq (.cond (.t 60) .skip (.exit 4))
   (.seq (.block 5 (.seq (.reg [⟨some 61, .mov, [.t 59], none⟩, ⟨some 62, .iaddrS 1, [.t 57, .t 59], none⟩, ⟨some 63, .load 1 false, [.t 62], none⟩, ⟨some 16, .mov, [.t 61], none⟩, ⟨some 17, .mov, [.t 63], none⟩])
   (.draw [0, 0, 0, 6, 14, 0, 0, 0, 192, 448, 992, 2046, 4095, 8191] [⟨some 64, .mov, [.t 15], none⟩, ⟨some 65, .mov, [.t 1], none⟩, ⟨some 66, .mov, [.t 16], none⟩, ⟨some 67, .iaddrS 1, [.t 65, .t 66], none⟩, ⟨some 68, .load 1 false, [.t 67], none⟩, ⟨some 69, .mov, [.t 17], none⟩, ⟨some 70, .mov, [.t 9], none⟩, ⟨some 71, .mov, [.t 16], none⟩, ⟨some 72, .iaddrS 1, [.t 70, .t 71], none⟩, ⟨some 73, .load 1 false, [.t 72], none⟩, ⟨some 74, .minmax false, [.t 69, .t 73], none⟩, ⟨some 75, .bin .mul, [.t 68, .t 74], none⟩, ⟨some 76, .bin .add, [.t 64, .t 75], none⟩, ⟨some 15, .mov, [.t 76], none⟩])))
   (.reg [⟨some 77, .bin .add, [.t 59, .c (.int .i64 1)], none⟩, ⟨some 59, .mov, [.t 77], none⟩])))))))
   (.reg [⟨some 78, .mov, [.t 10], none⟩, ⟨some 79, .mov, [.t 15], none⟩, ⟨some 80, .minmax true, [.c (.int .i64 0), .t 79], none⟩, ⟨some 81, .bin .sub, [.t 78, .t 80], none⟩, ⟨some 10, .mov, [.t 81], none⟩]))))))
   (.reg [⟨some 82, .bin .add, [.t 43, .c (.int .i64 1)], none⟩, ⟨some 43, .mov, [.t 82], none⟩])))))))
   (.seq (.reg [⟨some 83, .mov, [.t 10], none⟩, ⟨some 8, .mov, [.t 83], none⟩])
   .ret))))))
theorem chk.bin_leaf : chkF Tryz.prog 80 = some (84, ir.bin_leaf, [.tmp 8]) := by kernel_rfl

/-- slices.ContainsFunc[[]int,int] -/
abbrev F.slices_ContainsFunc_int_int : Nat := 81
def ir.slices_ContainsFunc_int_int : IC :=
 (.seq (.reg [⟨some 4, .mov, [.c (.bool false)], none⟩])
   (.seq (.reg [⟨some 5, .mov, [.t 0], none⟩, ⟨some 6, .mov, [.t 1], none⟩, ⟨some 7, .call 123, [.t 5, .t 6], none⟩, ⟨some 8, .bin .geq, [.t 7, .c (.int .i64 0)], none⟩, ⟨some 4, .mov, [.t 8], none⟩])
   .ret))
theorem chk.slices_ContainsFunc_int_int : chkF Tryz.prog 81 = some (9, ir.slices_ContainsFunc_int_int, [.tmp 4]) := by kernel_rfl

/-- paravane/bin.lay -/
abbrev F.bin_lay : Nat := 83
def ir.bin_lay : IC :=
 (.seq (.reg [⟨some 2, .box, [.t 0], none⟩, ⟨some 3, .box, [.t 1], none⟩, ⟨some 4, .alloc [(.int .i64 0), (.int .i64 0), (.int .i64 0), (.int .i64 0), (.int .i64 0), .nils, .nils, .nils], [], none⟩])
   (.seq (.reg [⟨some 8, .load 6 true, [.t 2], none⟩, ⟨some 9, .faddr 1, [.t 3], none⟩, ⟨some 10, .load 1 false, [.t 9], none⟩, ⟨some 11, .build [(.int .i64 0), (.int .i64 0), (.int .i64 0), (.int .i64 0), (.int .i64 0), .nils, .nils, .nils] [(0, 6), (6, 1)], [.t 8, .t 10], none⟩, ⟨some 5, .alloc [(.int .i64 0), (.int .i64 0), (.int .i64 0), (.int .i64 0), (.int .i64 0), .nils, .nils, .nils], [], none⟩, ⟨none, .store 8, [.t 5, .t 11], none⟩])
   (.seq (.seq (.reg [⟨some 12, .faddr 0, [.t 3], none⟩, ⟨some 13, .load 1 false, [.t 12], none⟩, ⟨some 14, .len false, [.t 13], none⟩, ⟨some 15, .mov, [.c (.int .i64 0)], none⟩])
   (.block 0 (.loop (.seq (.reg [⟨some 16, .bin .lss, [.t 15, .t 14], none⟩])
   (.seq (.cond (.t 16) .skip (.exit 0))
   (.seq (.block 1 (.seq (.reg [⟨some 17, .iaddrS 8, [.t 13, .t 15], none⟩, ⟨some 18, .load 8 true, [.t 17], none⟩, ⟨some 7, .alloc [(.int .i64 0), (.int .i64 0), (.int .i64 0), (.int .i64 0), (.int .i64 0), (.int .i64 0), (.int .i64 0), (.int .i64 0)], [], none⟩, ⟨none, .store 8, [.t 7, .t 18], none⟩])
   (.draw [0, 1, 0, 4, 12, 31, 63, 127] [⟨some 19, .faddr 7, [.t 5], none⟩, ⟨some 20, .load 1 false, [.t 19], none⟩, ⟨some 21, .load 8 true, [.t 7], none⟩, ⟨some 22, .call 124, [.t 21], none⟩, ⟨some 23, .mkslice 1 88, [.t 22], none⟩, ⟨some 24, .append 1 24 88, [.t 20, .t 23], none⟩, ⟨some 25, .faddr 7, [.t 5], none⟩, ⟨none, .store 1, [.t 25, .t 24], none⟩])))
   (.reg [⟨some 26, .bin .add, [.t 15, .c (.int .i64 1)], none⟩, ⟨some 15, .mov, [.t 26], none⟩])))))))
   (.seq (.reg [⟨some 27, .load 8 true, [.t 5], none⟩, ⟨none, .store 8, [.t 4, .t 27], none⟩])
   .ret))))
theorem chk.bin_lay : chkF Tryz.prog 83 = some (28, ir.bin_lay, [.cell 4 101]) := by kernel_rfl

/-- paravane/region.Tight -/
abbrev F.region_Tight : Nat := 84
def ir.region_Tight : IC :=
 (.seq (.reg [⟨some 1, .box, [.t 0], none⟩, ⟨some 2, .alloc [(.int .i64 0), (.int .i64 0), (.int .i64 0), (.int .i64 0), (.int .i64 0), (.int .i64 0), (.int .i64 0), (.int .i64 0)], [], none⟩, ⟨some 3, .mov, [.c (.int .i64 0)], none⟩])
   (.seq (.seq (.reg [⟨some 5, .load 8 true, [.t 1], none⟩, ⟨some 6, .call 95, [.t 5], none⟩, ⟨some 4, .mov, [.t 6], none⟩])
   (.seq (.reg [⟨some 7, .mov, [.t 4], none⟩, ⟨some 8, .bin .neq, [.t 7, .c (.int .i64 0)], none⟩])
   (.cond (.t 8) (.seq (.reg [⟨some 9, .build [(.int .i64 0), (.int .i64 0), (.int .i64 0), (.int .i64 0), (.int .i64 0), (.int .i64 0), (.int .i64 0), (.int .i64 0)] [], [], none⟩, ⟨some 10, .mov, [.t 4], none⟩, ⟨none, .store 8, [.t 2, .t 9], none⟩, ⟨some 3, .mov, [.t 10], none⟩])
   .ret) .skip)))
   (.seq (.reg [⟨some 11, .load 8 true, [.t 1], none⟩, ⟨some 12, .call 96, [.t 11], none⟩, ⟨some 13, .call 126, [.t 12], none⟩, ⟨some 14, .extract 0, [.t 13], none⟩, ⟨some 15, .extract 1, [.t 13], none⟩, ⟨some 16, .call 125, [.t 14, .t 15], none⟩, ⟨some 17, .extract 0, [.t 16], none⟩, ⟨some 18, .extract 1, [.t 16], none⟩, ⟨none, .store 8, [.t 2, .t 17], none⟩, ⟨some 3, .mov, [.t 18], none⟩])
   .ret)))
theorem chk.region_Tight : chkF Tryz.prog 84 = some (19, ir.region_Tight, [.cell 2 85, .tmp 3]) := by kernel_rfl

/-- paravane/region.hull -/
abbrev F.region_hull : Nat := 87
def ir.region_hull : IC :=
 (.seq (.reg [⟨some 2, .alloc [(.int .i64 0), (.int .i64 0), (.int .i64 0), (.int .i64 0), (.int .i64 0), (.int .i64 0), (.int .i64 0), (.int .i64 0)], [], none⟩, ⟨some 3, .alloc [(.bool false)], [], none⟩])
   (.seq (.seq (.reg [⟨some 7, .mov, [.t 0], none⟩, ⟨some 8, .len false, [.t 7], none⟩, ⟨some 9, .mov, [.c (.int .i64 0)], none⟩])
   (.block 0 (.loop (.seq (.reg [⟨some 10, .bin .lss, [.t 9, .t 8], none⟩])
   (.seq (.cond (.t 10) .skip (.exit 0))
   (.seq (.block 1 (.seq (.reg [⟨some 11, .iaddrS 1, [.t 7, .t 9], none⟩, ⟨some 12, .load 1 false, [.t 11], none⟩, ⟨some 5, .mov, [.t 12], none⟩])
   (.seq (.reg [⟨some 13, .mov, [.t 5], none⟩])
   (.block 2 (.range (.t 13) [14] (.reg [⟨some 6, .alloc [(.int .i64 0), (.int .i64 0)], [], none⟩, ⟨none, .store 2, [.t 6, .t 14], none⟩]) (.block 3 (.seq (.seq (.reg [⟨some 15, .load 1 false, [.t 3], none⟩, ⟨some 16, .un .not, [.t 15], none⟩])
   (.cond (.t 16) (.reg [⟨some 17, .load 2 true, [.t 6], none⟩, ⟨some 18, .call 128, [.t 17], none⟩, ⟨none, .store 8, [.t 2, .t 18], none⟩, ⟨none, .store 1, [.t 3, .c (.bool true)], none⟩]) .skip))
   (.draw [0, 0, 2, 7, 15] [⟨some 19, .load 8 true, [.t 2], none⟩, ⟨some 20, .load 2 true, [.t 6], none⟩, ⟨some 21, .call 128, [.t 20], none⟩, ⟨some 22, .call 129, [.t 19, .t 21, .c (.func (.func 130) [] [])], none⟩, ⟨none, .store 8, [.t 2, .t 22], none⟩]))))))))
   (.reg [⟨some 23, .bin .add, [.t 9, .c (.int .i64 1)], none⟩, ⟨some 9, .mov, [.t 23], none⟩])))))))
   (.seq (.draw [0, 0, 1, 7] [⟨some 24, .load 8 true, [.t 2], none⟩, ⟨some 25, .load 1 false, [.t 3], none⟩, ⟨none, .store 8, [.t 2, .t 24], none⟩, ⟨none, .store 1, [.t 3, .t 25], none⟩])
   .ret)))
theorem chk.region_hull : chkF Tryz.prog 87 = some (26, ir.region_hull, [.cell 2 152, .cell 3 4]) := by kernel_rfl

/-- (paravane/region.four).region -/
abbrev F.region_four_region : Nat := 89
def ir.region_four_region : IC :=
 (.seq (.reg [⟨some 1, .box, [.t 0], none⟩, ⟨some 2, .alloc [(.int .i64 0), (.int .i64 0), (.int .i64 0), (.int .i64 0), (.int .i64 0), (.int .i64 0), (.int .i64 0), (.int .i64 0)], [], none⟩])
   (.seq (.reg [⟨some 3, .iaddrA 4 2, [.t 1, .c (.int .i64 0)], none⟩, ⟨some 4, .load 2 true, [.t 3], none⟩, ⟨some 5, .iaddrA 4 2, [.t 1, .c (.int .i64 1)], none⟩, ⟨some 6, .load 2 true, [.t 5], none⟩, ⟨some 7, .iaddrA 4 2, [.t 1, .c (.int .i64 2)], none⟩, ⟨some 8, .load 2 true, [.t 7], none⟩, ⟨some 9, .iaddrA 4 2, [.t 1, .c (.int .i64 3)], none⟩, ⟨some 10, .load 2 true, [.t 9], none⟩, ⟨some 11, .build [(.int .i64 0), (.int .i64 0), (.int .i64 0), (.int .i64 0), (.int .i64 0), (.int .i64 0), (.int .i64 0), (.int .i64 0)] [(0, 2), (2, 2), (4, 2), (6, 2)], [.t 4, .t 6, .t 8, .t 10], none⟩, ⟨none, .store 8, [.t 2, .t 11], none⟩])
   .ret))
theorem chk.region_four_region : chkF Tryz.prog 89 = some (12, ir.region_four_region, [.cell 2 85]) := by kernel_rfl

/-- paravane/bin.best -/
abbrev F.bin_best : Nat := 90
def ir.bin_best : IC :=
 (.seq (.reg [⟨some 2, .box, [.t 0], none⟩, ⟨some 4, .mov, [.c (.int .i64 0)], none⟩, ⟨some 5, .mov, [.c (.bool false)], none⟩])
   (.seq (.reg [⟨some 6, .alloc [(.int .i64 0), (.int .i64 0), (.int .i64 0), (.int .i64 0), (.int .i64 0), (.int .i64 0), (.int .i64 0), (.int .i64 0), (.int .i64 0), (.int .i64 0), (.int .i64 0), (.int .i64 0), (.int .i64 0), (.int .i64 0), (.int .i64 0), (.int .i64 0), (.int .i64 0), (.int .i64 0), (.int .i64 0), (.int .i64 0), (.int .i64 0), (.int .i64 0), (.int .i64 0), (.int .i64 0), (.int .i64 0), (.int .i64 0), (.int .i64 0), (.int .i64 0), (.int .i64 0), (.int .i64 0), (.int .i64 0), (.int .i64 0), (.int .i64 0), (.int .i64 0), (.int .i64 0), (.int .i64 0), (.int .i64 0), (.int .i64 0), (.int .i64 0), (.int .i64 0), (.int .i64 0), (.int .i64 0), (.int .i64 0), (.int .i64 0), (.int .i64 0), (.int .i64 0), (.int .i64 0), (.int .i64 0), (.int .i64 0), (.int .i64 0), (.int .i64 0), (.int .i64 0), (.int .i64 0), (.int .i64 0), (.int .i64 0), (.int .i64 0), (.int .i64 0), (.int .i64 0), (.int .i64 0), (.int .i64 0), (.int .i64 0), (.int .i64 0), (.int .i64 0), (.int .i64 0), (.int .i64 0), (.int .i64 0), (.int .i64 0), (.int .i64 0), (.int .i64 0), (.int .i64 0), (.int .i64 0), (.int .i64 0), (.int .i64 0), (.int .i64 0), (.int .i64 0), (.int .i64 0), (.int .i64 0), (.int .i64 0), (.int .i64 0), (.int .i64 0), (.int .i64 0), (.int .i64 0), (.int .i64 0), (.int .i64 0), (.int .i64 0), (.int .i64 0), (.int .i64 0), (.int .i64 0), (.int .i64 0), (.int .i64 0), (.int .i64 0), (.int .i64 0), (.int .i64 0), (.int .i64 0), (.int .i64 0), (.int .i64 0), (.int .i64 0), (.int .i64 0), (.int .i64 0), (.int .i64 0), (.int .i64 0), (.int .i64 0), (.int .i64 0), (.int .i64 0), (.int .i64 0), (.int .i64 0), (.int .i64 0), (.int .i64 0), (.int .i64 0), (.int .i64 0), (.int .i64 0), (.int .i64 0), (.int .i64 0), (.int .i64 0), (.int .i64 0), (.int .i64 0), (.int .i64 0), (.int .i64 0), (.int .i64 0), (.int .i64 0), (.int .i64 0), (.int .i64 0), (.int .i64 0), (.int .i64 0), (.int .i64 0), (.int .i64 0), (.int .i64 0), (.int .i64 0), (.int .i64 0), (.int .i64 0), (.int .i64 0), (.int .i64 0), (.int .i64 0), (.int .i64 0), (.int .i64 0), (.int .i64 0), (.int .i64 0), (.int .i64 0), (.int .i64 0), (.int .i64 0), (.int .i64 0), (.int .i64 0), (.int .i64 0), (.int .i64 0), (.int .i64 0), (.int .i64 0), (.int .i64 0), (.int .i64 0), (.int .i64 0), (.int .i64 0), (.int .i64 0), (.int .i64 0), (.int .i64 0), (.int .i64 0), (.int .i64 0), (.int .i64 0), (.int .i64 0), (.int .i64 0), (.int .i64 0), (.int .i64 0), (.int .i64 0), (.int .i64 0), (.int .i64 0), (.int .i64 0), (.int .i64 0), (.int .i64 0), (.int .i64 0), (.int .i64 0), (.int .i64 0), (.int .i64 0), (.int .i64 0), (.int .i64 0), (.int .i64 0), (.int .i64 0), (.int .i64 0), (.int .i64 0), (.int .i64 0), (.int .i64 0), (.int .i64 0), (.int .i64 0), (.int .i64 0), (.int .i64 0), (.int .i64 0), (.int .i64 0), (.int .i64 0), (.int .i64 0), (.int .i64 0), (.int .i64 0), (.int .i64 0), (.int .i64 0), (.int .i64 0), (.int .i64 0), (.int .i64 0), (.int .i64 0), (.int .i64 0), (.int .i64 0), (.int .i64 0), (.int .i64 0), (.int .i64 0), (.int .i64 0), (.int .i64 0), (.int .i64 0), (.int .i64 0), (.int .i64 0), (.int .i64 0), (.int .i64 0), (.int .i64 0), (.int .i64 0), (.int .i64 0), (.int .i64 0), (.int .i64 0), (.int .i64 0), (.int .i64 0), (.int .i64 0), (.int .i64 0), (.int .i64 0), (.int .i64 0), (.int .i64 0), (.int .i64 0), (.int .i64 0), (.int .i64 0), (.int .i64 0), (.int .i64 0), (.int .i64 0), (.int .i64 0), (.int .i64 0), (.int .i64 0), (.int .i64 0), (.int .i64 0), (.int .i64 0), (.int .i64 0), (.int .i64 0), (.int .i64 0), (.int .i64 0), (.int .i64 0), (.int .i64 0), (.int .i64 0), (.int .i64 0), (.int .i64 0), (.int .i64 0), (.int .i64 0), (.int .i64 0), (.int .i64 0), (.int .i64 0), (.int .i64 0), (.int .i64 0), (.int .i64 0), (.int .i64 0), (.int .i64 0), (.int .i64 0), (.int .i64 0), (.int .i64 0), (.int .i64 0), (.int .i64 0), (.int .i64 0), (.int .i64 0), (.int .i64 0), (.int .i64 0), (.int .i64 0), (.int .i64 0), (.int .i64 0), (.int .i64 0), (.int .i64 0), (.int .i64 0), (.int .i64 0), (.int .i64 0), (.int .i64 0), (.int .i64 0), (.int .i64 0), (.int .i64 0), (.int .i64 0), (.int .i64 0), (.int .i64 0), (.int .i64 0), (.int .i64 0), (.int .i64 0), (.int .i64 0), (.int .i64 0), (.int .i64 0), (.int .i64 0), (.int .i64 0), (.int .i64 0), (.int .i64 0), (.int .i64 0), (.int .i64 0), (.int .i64 0), (.int .i64 0), (.int .i64 0), (.int .i64 0), (.int .i64 0), (.int .i64 0), (.int .i64 0), (.int .i64 0), (.int .i64 0), (.int .i64 0), (.int .i64 0), (.int .i64 0), (.int .i64 0), (.int .i64 0), (.int .i64 0), (.int .i64 0), (.int .i64 0), (.int .i64 0), (.int .i64 0), (.int .i64 0), (.int .i64 0), (.int .i64 0), (.int .i64 0), (.int .i64 0), (.int .i64 0), (.int .i64 0), (.int .i64 0), (.int .i64 0), (.int .i64 0), (.int .i64 0), (.int .i64 0), (.int .i64 0), (.int .i64 0), (.int .i64 0), (.int .i64 0), (.int .i64 0), (.int .i64 0), (.int .i64 0), (.int .i64 0), (.int .i64 0), (.int .i64 0), (.int .i64 0), (.int .i64 0), (.int .i64 0), (.int .i64 0), (.int .i64 0), (.int .i64 0), (.int .i64 0), (.int .i64 0), (.int .i64 0), (.int .i64 0), (.int .i64 0), (.int .i64 0), (.int .i64 0), (.int .i64 0), (.int .i64 0), (.int .i64 0), (.int .i64 0), (.int .i64 0), (.int .i64 0), (.int .i64 0), (.int .i64 0), (.int .i64 0), (.int .i64 0), (.int .i64 0), (.int .i64 0), (.int .i64 0), (.int .i64 0), (.int .i64 0), (.int .i64 0), (.int .i64 0), (.int .i64 0), (.int .i64 0), (.int .i64 0), (.int .i64 0), (.int .i64 0), (.int .i64 0), (.int .i64 0), (.int .i64 0), (.int .i64 0), (.int .i64 0), (.int .i64 0), (.int .i64 0), (.int .i64 0), (.int .i64 0), (.int .i64 0), (.int .i64 0), (.int .i64 0), (.int .i64 0), (.int .i64 0), (.int .i64 0), (.int .i64 0), (.int .i64 0), (.int .i64 0), (.int .i64 0), (.int .i64 0), (.int .i64 0), (.int .i64 0), (.int .i64 0), (.int .i64 0), (.int .i64 0), (.int .i64 0), (.int .i64 0), (.int .i64 0), (.int .i64 0), (.int .i64 0), (.int .i64 0), (.int .i64 0), (.int .i64 0), (.int .i64 0), (.int .i64 0), (.int .i64 0), (.int .i64 0), (.int .i64 0), (.int .i64 0), (.int .i64 0), (.int .i64 0), (.int .i64 0), (.int .i64 0), (.int .i64 0), (.int .i64 0), (.int .i64 0), (.int .i64 0), (.int .i64 0), (.int .i64 0), (.int .i64 0), (.int .i64 0), (.int .i64 0), (.int .i64 0), (.int .i64 0), (.int .i64 0), (.int .i64 0), (.int .i64 0), (.int .i64 0), (.int .i64 0), (.int .i64 0), (.int .i64 0), (.int .i64 0), (.int .i64 0), (.int .i64 0), (.int .i64 0), (.int .i64 0), (.int .i64 0), (.int .i64 0), (.int .i64 0), (.int .i64 0), (.int .i64 0), (.int .i64 0), (.int .i64 0), (.int .i64 0), (.int .i64 0), (.int .i64 0), (.int .i64 0), (.int .i64 0), (.int .i64 0), (.int .i64 0), (.int .i64 0), (.int .i64 0), (.int .i64 0), (.int .i64 0), (.int .i64 0), (.int .i64 0), (.int .i64 0), (.int .i64 0), (.int .i64 0), (.int .i64 0), (.int .i64 0), (.int .i64 0), (.int .i64 0), (.int .i64 0), (.int .i64 0), (.int .i64 0), (.int .i64 0), (.int .i64 0), (.int .i64 0), (.int .i64 0), (.int .i64 0), (.int .i64 0), (.int .i64 0), (.int .i64 0), (.int .i64 0), (.int .i64 0), (.int .i64 0), (.int .i64 0), (.int .i64 0), (.int .i64 0), (.int .i64 0), (.int .i64 0), (.int .i64 0), (.int .i64 0), (.int .i64 0), (.int .i64 0), (.int .i64 0), (.int .i64 0), (.int .i64 0), (.int .i64 0), (.int .i64 0), (.int .i64 0), (.int .i64 0), (.int .i64 0), (.int .i64 0), (.int .i64 0), (.int .i64 0), (.int .i64 0), (.int .i64 0), (.int .i64 0), (.int .i64 0), (.int .i64 0), (.int .i64 0), (.int .i64 0), (.int .i64 0), (.int .i64 0), (.int .i64 0), (.int .i64 0), (.int .i64 0), (.int .i64 0), (.int .i64 0), (.int .i64 0), (.int .i64 0), (.int .i64 0), (.int .i64 0), (.int .i64 0), (.int .i64 0), (.int .i64 0), (.int .i64 0), (.int .i64 0), (.int .i64 0), (.int .i64 0), (.int .i64 0), (.int .i64 0), (.int .i64 0), (.int .i64 0), (.int .i64 0), (.int .i64 0), (.int .i64 0), (.int .i64 0), (.int .i64 0), (.int .i64 0), (.int .i64 0), (.int .i64 0), (.int .i64 0), (.int .i64 0), (.int .i64 0), (.int .i64 0), (.int .i64 0), (.int .i64 0), (.int .i64 0), (.int .i64 0), (.int .i64 0), (.int .i64 0), (.int .i64 0), (.int .i64 0), (.int .i64 0), (.int .i64 0), (.int .i64 0), (.int .i64 0), (.int .i64 0), (.int .i64 0), (.int .i64 0), (.int .i64 0), (.int .i64 0), (.int .i64 0), (.int .i64 0), (.int .i64 0), (.int .i64 0), (.int .i64 0), (.int .i64 0), (.int .i64 0), (.int .i64 0), (.int .i64 0), (.int .i64 0), (.int .i64 0), (.int .i64 0), (.int .i64 0), (.int .i64 0), (.int .i64 0), (.int .i64 0), (.int .i64 0), (.int .i64 0), (.int .i64 0), (.int .i64 0), (.int .i64 0), (.int .i64 0), (.int .i64 0), (.int .i64 0), (.int .i64 0), (.int .i64 0), (.int .i64 0), (.int .i64 0), (.int .i64 0), (.int .i64 0), (.int .i64 0), (.int .i64 0), (.int .i64 0), (.int .i64 0), (.int .i64 0), (.int .i64 0), (.int .i64 0), (.int .i64 0), (.int .i64 0), (.int .i64 0), (.int .i64 0), (.int .i64 0), (.int .i64 0), (.int .i64 0), (.int .i64 0), (.int .i64 0), (.int .i64 0), (.int .i64 0), (.int .i64 0), (.int .i64 0), (.int .i64 0), (.int .i64 0), (.int .i64 0), (.int .i64 0), (.int .i64 0), (.int .i64 0), (.int .i64 0), (.int .i64 0), (.int .i64 0), (.int .i64 0), (.int .i64 0), (.int .i64 0), (.int .i64 0), (.int .i64 0), (.int .i64 0), (.int .i64 0), (.int .i64 0), (.int .i64 0), (.int .i64 0), (.int .i64 0), (.int .i64 0), (.int .i64 0), (.int .i64 0), (.int .i64 0), (.int .i64 0), (.int .i64 0), (.int .i64 0), (.int .i64 0), (.int .i64 0), (.int .i64 0), (.int .i64 0), (.int .i64 0), (.int .i64 0), (.int .i64 0), (.int .i64 0), (.int .i64 0), (.int .i64 0), (.int .i64 0), (.int .i64 0), (.int .i64 0), (.int .i64 0), (.int .i64 0), (.int .i64 0), (.int .i64 0), (.int .i64 0), (.int .i64 0), (.int .i64 0), (.int .i64 0), (.int .i64 0), (.int .i64 0), (.int .i64 0), (.int .i64 0), (.int .i64 0), (.int .i64 0), (.int .i64 0), (.int .i64 0), (.int .i64 0), (.int .i64 0), (.int .i64 0), (.int .i64 0), (.int .i64 0), (.int .i64 0), (.int .i64 0), (.int .i64 0), (.int .i64 0), (.int .i64 0), (.int .i64 0), (.int .i64 0), (.int .i64 0), (.int .i64 0), (.int .i64 0), (.int .i64 0), (.int .i64 0), (.int .i64 0), (.int .i64 0), (.int .i64 0), (.int .i64 0), (.int .i64 0), (.int .i64 0), (.int .i64 0), (.int .i64 0), (.int .i64 0), (.int .i64 0), (.int .i64 0), (.int .i64 0), (.int .i64 0), (.int .i64 0), (.int .i64 0), (.int .i64 0), (.int .i64 0), (.int .i64 0), (.int .i64 0), (.int .i64 0), (.int .i64 0), (.int .i64 0), (.int .i64 0), (.int .i64 0), (.int .i64 0), (.int .i64 0), (.int .i64 0), (.int .i64 0), (.int .i64 0), (.int .i64 0), (.int .i64 0), (.int .i64 0), (.int .i64 0), (.int .i64 0), (.int .i64 0), (.int .i64 0), (.int .i64 0), (.int .i64 0), (.int .i64 0), (.int .i64 0), (.int .i64 0), (.int .i64 0), (.int .i64 0), (.int .i64 0), (.int .i64 0), (.int .i64 0), (.int .i64 0), (.int .i64 0), (.int .i64 0), (.int .i64 0), (.int .i64 0), (.int .i64 0), (.int .i64 0), (.int .i64 0), (.int .i64 0), (.int .i64 0), (.int .i64 0), (.int .i64 0), (.int .i64 0), (.int .i64 0), (.int .i64 0), (.int .i64 0), (.int .i64 0), (.int .i64 0), (.int .i64 0), (.int .i64 0), (.int .i64 0), (.int .i64 0), (.int .i64 0), (.int .i64 0), (.int .i64 0), (.int .i64 0), (.int .i64 0), (.int .i64 0), (.int .i64 0), (.int .i64 0), (.int .i64 0), (.int .i64 0), (.int .i64 0), (.int .i64 0), (.int .i64 0), (.int .i64 0), (.int .i64 0), (.int .i64 0), (.int .i64 0), (.int .i64 0), (.int .i64 0), (.int .i64 0), (.int .i64 0), (.int .i64 0), (.int .i64 0), (.int .i64 0), (.int .i64 0), (.int .i64 0), (.int .i64 0), (.int .i64 0), (.int .i64 0), (.int .i64 0), (.int .i64 0), (.int .i64 0), (.int .i64 0), (.int .i64 0), (.int .i64 0), (.int .i64 0), (.int .i64 0), (.int .i64 0), (.int .i64 0), (.int .i64 0), (.int .i64 0), (.int .i64 0), (.int .i64 0), (.int .i64 0), (.int .i64 0), (.int .i64 0), (.int .i64 0), (.int .i64 0), (.int .i64 0), (.int .i64 0), (.int .i64 0), (.int .i64 0), (.int .i64 0), (.int .i64 0), (.int .i64 0), (.int .i64 0), (.int .i64 0), (.int .i64 0), (.int .i64 0), (.int .i64 0), (.int .i64 0), (.int .i64 0), (.int .i64 0), (.int .i64 0), (.int .i64 0), (.int .i64 0), (.int .i64 0), (.int .i64 0), (.int .i64 0), (.int .i64 0), (.int .i64 0), (.int .i64 0), (.int .i64 0), (.int .i64 0), (.int .i64 0), (.int .i64 0), (.int .i64 0), (.int .i64 0), (.int .i64 0), (.int .i64 0), (.int .i64 0), (.int .i64 0), (.int .i64 0), (.int .i64 0), (.int .i64 0), (.int .i64 0), (.int .i64 0), (.int .i64 0), (.int .i64 0), (.int .i64 0), (.int .i64 0), (.int .i64 0), (.int .i64 0), (.int .i64 0), (.int .i64 0), (.int .i64 0), (.int .i64 0), (.int .i64 0), (.int .i64 0), (.int .i64 0), (.int .i64 0), (.int .i64 0), (.int .i64 0), (.int .i64 0), (.int .i64 0), (.int .i64 0), (.int .i64 0), (.int .i64 0), (.int .i64 0), (.int .i64 0), (.int .i64 0), (.int .i64 0), (.int .i64 0), (.int .i64 0), (.int .i64 0), (.int .i64 0), (.int .i64 0), (.int .i64 0), (.int .i64 0), (.int .i64 0), (.int .i64 0), (.int .i64 0), (.int .i64 0), (.int .i64 0), (.int .i64 0), (.int .i64 0), (.int .i64 0), (.int .i64 0), (.int .i64 0), (.int .i64 0), (.int .i64 0), (.int .i64 0), (.int .i64 0), (.int .i64 0), (.int .i64 0), (.int .i64 0), (.int .i64 0), (.int .i64 0), (.int .i64 0), (.int .i64 0), (.int .i64 0), (.int .i64 0), (.int .i64 0), (.int .i64 0), (.int .i64 0), (.int .i64 0), (.int .i64 0), (.int .i64 0), (.int .i64 0), (.int .i64 0), (.int .i64 0), (.int .i64 0), (.int .i64 0), (.int .i64 0), (.int .i64 0), (.int .i64 0), (.int .i64 0), (.int .i64 0), (.int .i64 0), (.int .i64 0), (.int .i64 0), (.int .i64 0), (.int .i64 0), (.int .i64 0), (.int .i64 0), (.int .i64 0), (.int .i64 0), (.int .i64 0), (.int .i64 0), (.int .i64 0), (.int .i64 0), (.int .i64 0), (.int .i64 0), (.int .i64 0), (.int .i64 0), (.int .i64 0), (.int .i64 0), (.int .i64 0), (.int .i64 0), (.int .i64 0), (.int .i64 0), (.int .i64 0), (.int .i64 0), (.int .i64 0), (.int .i64 0), (.int .i64 0), (.int .i64 0), (.int .i64 0), (.int .i64 0), (.int .i64 0), (.int .i64 0), (.int .i64 0), (.int .i64 0), (.int .i64 0), (.int .i64 0), (.int .i64 0), (.int .i64 0), (.int .i64 0), (.int .i64 0), (.int .i64 0), (.int .i64 0), (.int .i64 0), (.int .i64 0), (.int .i64 0), (.int .i64 0), (.int .i64 0), (.int .i64 0), (.int .i64 0), (.int .i64 0), (.int .i64 0), (.int .i64 0), (.int .i64 0), (.int .i64 0), (.int .i64 0), (.int .i64 0), (.int .i64 0), (.int .i64 0), (.int .i64 0), (.int .i64 0), (.int .i64 0), (.int .i64 0), (.int .i64 0), (.int .i64 0), (.int .i64 0), (.int .i64 0), (.int .i64 0), (.int .i64 0), (.int .i64 0), (.int .i64 0), (.int .i64 0), (.int .i64 0), (.int .i64 0), (.int .i64 0), (.int .i64 0), (.int .i64 0), (.int .i64 0), (.int .i64 0), (.int .i64 0), (.int .i64 0), (.int .i64 0), (.int .i64 0), (.int .i64 0), (.int .i64 0), (.int .i64 0), (.int .i64 0), (.int .i64 0), (.int .i64 0), (.int .i64 0), (.int .i64 0), (.int .i64 0), (.int .i64 0), (.int .i64 0), (.int .i64 0), (.int .i64 0), (.int .i64 0), (.int .i64 0), (.int .i64 0), (.int .i64 0), (.int .i64 0), (.int .i64 0), (.int .i64 0), (.int .i64 0), (.int .i64 0), (.int .i64 0), (.int .i64 0), (.int .i64 0), (.int .i64 0), (.int .i64 0), (.int .i64 0), (.int .i64 0), (.int .i64 0), (.int .i64 0), (.int .i64 0), (.int .i64 0), (.int .i64 0), (.int .i64 0), (.int .i64 0), (.int .i64 0), (.int .i64 0), (.int .i64 0), (.int .i64 0), (.int .i64 0), (.int .i64 0), (.int .i64 0), (.int .i64 0), (.int .i64 0), (.int .i64 0)], [], none⟩])
   (.seq (.reg [⟨some 7, .mov, [.c (.int .i64 0)], none⟩, ⟨some 8, .mov, [.c (.bool false)], none⟩])
   (.seq (.seq (.reg [⟨some 12, .faddr 1, [.t 2], none⟩, ⟨some 13, .load 1 false, [.t 12], none⟩, ⟨some 14, .len false, [.t 13], none⟩, ⟨some 15, .bin .shl, [.c (.int .i64 1), .t 14], none⟩, ⟨some 16, .mov, [.c (.int .i64 0)], none⟩])
   (.block 0 (.loop (.seq (.reg [⟨some 17, .bin .lss, [.t 16, .t 15], none⟩])
   (.seq (.cond (.t 17) .skip (.exit 0))
   (.seq (.block 1 (.seq (.reg [⟨some 18, .mov, [.t 16], none⟩, ⟨some 9, .mov, [.t 18], none⟩])
   (.seq (.seq (.reg [⟨some 19, .mov, [.t 9], none⟩, ⟨some 20, .mov, [.t 1], none⟩, ⟨some 21, .bin .and, [.t 19, .t 20], none⟩, ⟨some 22, .bin .neq, [.t 21, .c (.int .i64 0)], none⟩, ⟨some 23, .mov, [.t 22], none⟩, ⟨some 24, .load 2 true, [.t 2], (some (23, false))⟩, ⟨some 25, .mov, [.t 9], (some (23, false))⟩, ⟨some 26, .call 74, [.t 24, .t 25], (some (23, false))⟩, ⟨some 27, .un .not, [.t 26], (some (23, false))⟩, ⟨some 28, .pick, [.t 23, .c (.bool true), .t 27], none⟩])
   (.cond (.t 28) (.exit 1) .skip))
   (.seq (.reg [⟨some 29, .mov, [.t 9], none⟩, ⟨some 30, .load 2 true, [.t 2], none⟩, ⟨some 31, .mov, [.t 9], none⟩, ⟨some 32, .call 92, [.t 30, .t 31], none⟩, ⟨some 33, .iaddrA 1024 1, [.t 6, .t 29], none⟩, ⟨none, .store 1, [.t 33, .t 32], none⟩])
   (.seq (.seq (.reg [⟨some 34, .mov, [.t 8], none⟩, ⟨some 35, .un .not, [.t 34], none⟩])
   (.cond (.t 35) (.seq (.reg [⟨some 36, .mov, [.t 9], none⟩, ⟨some 7, .mov, [.t 36], none⟩, ⟨some 8, .mov, [.c (.bool true)], none⟩])
   (.exit 1)) .skip))
   (.seq (.reg [⟨some 37, .mov, [.t 9], none⟩, ⟨some 38, .call 91, [.t 37], none⟩, ⟨some 39, .mov, [.t 7], none⟩, ⟨some 40, .call 91, [.t 39], none⟩, ⟨some 10, .mov, [.t 38], none⟩, ⟨some 11, .mov, [.t 40], none⟩])
   (.block 2 (.seq (.draw [0, 1, 3, 0, 8, 24, 63, 127] [⟨some 42, .mov, [.t 9], none⟩, ⟨some 43, .iaddrA 1024 1, [.t 6, .t 42], none⟩, ⟨some 44, .load 1 false, [.t 43], none⟩, ⟨some 45, .mov, [.t 7], none⟩, ⟨some 46, .iaddrA 1024 1, [.t 6, .t 45], none⟩, ⟨some 47, .load 1 false, [.t 46], none⟩, ⟨some 48, .bin .neq, [.t 44, .t 47], none⟩, ⟨some 41, .mov, [.t 48], none⟩])
   (.cond (.t 41) (.seq (.draw [0, 1, 3, 0, 8, 24, 63] [⟨some 49, .mov, [.t 9], none⟩, ⟨some 50, .iaddrA 1024 1, [.t 6, .t 49], none⟩, ⟨some 51, .load 1 false, [.t 50], none⟩, ⟨some 52, .mov, [.t 7], none⟩, ⟨some 53, .iaddrA 1024 1, [.t 6, .t 52], none⟩, ⟨some 54, .load 1 false, [.t 53], none⟩, ⟨some 55, .bin .lss, [.t 51, .t 54], none⟩])
   (.cond (.t 55) (.reg [⟨some 56, .mov, [.t 9], none⟩, ⟨some 7, .mov, [.t 56], none⟩]) .skip)) (.seq (.reg [⟨some 58, .mov, [.t 10], none⟩, ⟨some 59, .len false, [.t 58], none⟩, ⟨some 60, .mov, [.t 11], none⟩, ⟨some 61, .len false, [.t 60], none⟩, ⟨some 62, .bin .neq, [.t 59, .t 61], none⟩, ⟨some 57, .mov, [.t 62], none⟩])
   (.cond (.t 57) (.seq (.reg [⟨some 63, .mov, [.t 10], none⟩, ⟨some 64, .len false, [.t 63], none⟩, ⟨some 65, .mov, [.t 11], none⟩, ⟨some 66, .len false, [.t 65], none⟩, ⟨some 67, .bin .lss, [.t 64, .t 66], none⟩])
   (.cond (.t 67) (.reg [⟨some 68, .mov, [.t 9], none⟩, ⟨some 7, .mov, [.t 68], none⟩]) .skip)) (.seq (.reg [⟨some 70, .mov, [.t 10], none⟩, ⟨some 71, .mov, [.t 11], none⟩, ⟨some 72, .call 131, [.t 70, .t 71], none⟩, ⟨some 73, .bin .lss, [.t 72, .c (.int .i64 0)], none⟩, ⟨some 69, .mov, [.t 73], none⟩])
   (.cond (.t 69) (.reg [⟨some 74, .mov, [.t 9], none⟩, ⟨some 7, .mov, [.t 74], none⟩]) .skip)))))))))))))
   (.reg [⟨some 75, .bin .add, [.t 16, .c (.int .i64 1)], none⟩, ⟨some 16, .mov, [.t 75], none⟩])))))))
   (.seq (.reg [⟨some 76, .mov, [.t 7], none⟩, ⟨some 77, .mov, [.t 8], none⟩, ⟨some 4, .mov, [.t 76], none⟩, ⟨some 5, .mov, [.t 77], none⟩])
   .ret)))))
theorem chk.bin_best : chkF Tryz.prog 90 = some (78, ir.bin_best, [.tmp 4, .tmp 5]) := by kernel_rfl

/-- paravane/bin.choice -/
abbrev F.bin_choice : Nat := 91
def ir.bin_choice : IC :=
 (.seq (.reg [⟨some 2, .mov, [.c .nils], none⟩])
   (.seq (.reg [⟨some 3, .mov, [.c .nils], none⟩])
   (.seq (.seq (.reg [⟨some 5, .mov, [.c (.int .i64 0)], none⟩])
   (.block 0 (.loop (.seq (.reg [⟨some 6, .bin .lss, [.t 5, .c (.int .i64 10)], none⟩])
   (.seq (.cond (.t 6) .skip (.exit 0))
   (.seq (.block 1 (.seq (.reg [⟨some 7, .mov, [.t 5], none⟩, ⟨some 4, .mov, [.t 7], none⟩])
   (.seq (.reg [⟨some 8, .mov, [.t 0], none⟩, ⟨some 9, .mov, [.t 4], none⟩, ⟨some 10, .bin .shr, [.t 8, .t 9], none⟩, ⟨some 11, .bin .rem, [.t 10, .c (.int .i64 2)], none⟩, ⟨some 12, .bin .eql, [.t 11, .c (.int .i64 1)], none⟩])
   (.cond (.t 12) (.reg [⟨some 13, .mov, [.t 3], none⟩, ⟨some 14, .mov, [.t 4], none⟩, ⟨some 15, .mkslice 1 3, [.t 14], none⟩, ⟨some 16, .append 1 8 3, [.t 13, .t 15], none⟩, ⟨some 3, .mov, [.t 16], none⟩]) .skip))))
   (.reg [⟨some 17, .bin .add, [.t 5, .c (.int .i64 1)], none⟩, ⟨some 5, .mov, [.t 17], none⟩])))))))
   (.seq (.reg [⟨some 18, .mov, [.t 3], none⟩, ⟨some 2, .mov, [.t 18], none⟩])
   .ret))))
theorem chk.bin_choice : chkF Tryz.prog 91 = some (19, ir.bin_choice, [.tmp 2]) := by kernel_rfl

/-- paravane/bin.cost -/
abbrev F.bin_cost : Nat := 92
def ir.bin_cost : IC :=
 (.seq (.reg [⟨some 2, .box, [.t 0], none⟩, ⟨some 4, .mov, [.c (.int .i64 0)], none⟩])
   (.seq (.reg [⟨some 5, .mov, [.t 1], none⟩, ⟨some 6, .call 91, [.t 5], none⟩, ⟨some 7, .mkfunc (.func 132) 0, [.t 2], none⟩, ⟨some 8, .call 115, [.t 6, .t 7], none⟩, ⟨some 4, .mov, [.t 8], none⟩])
   .ret))
theorem chk.bin_cost : chkF Tryz.prog 92 = some (9, ir.bin_cost, [.tmp 4]) := by kernel_rfl

/-- (paravane/region.limit).into -/
abbrev F.region_limit_into : Nat := 93
def ir.region_limit_into : IC :=
 (.seq (.reg [⟨some 4, .mov, [.c (.int .i64 0)], none⟩])
   (.seq (.reg [⟨some 5, .mov, [.t 0], none⟩, ⟨some 6, .un .neg, [.t 5], none⟩, ⟨some 7, .mov, [.t 1], none⟩, ⟨some 8, .mov, [.t 0], none⟩, ⟨some 9, .minmax false, [.t 7, .t 8], none⟩, ⟨some 10, .minmax true, [.t 6, .t 9], none⟩, ⟨some 4, .mov, [.t 10], none⟩])
   .ret))
theorem chk.region_limit_into : chkF Tryz.prog 93 = some (11, ir.region_limit_into, [.tmp 4]) := by kernel_rfl

/-- paravane/paravaneref01.place -/
abbrev F.ref01_place : Nat := 94
def ir.ref01_place : IC :=
 (.seq (.reg [⟨some 1, .box, [.t 0], none⟩, ⟨some 2, .mov, [.c (.bool false)], none⟩])
   (.seq (.reg [⟨some 3, .faddr 0, [.t 1], none⟩, ⟨some 4, .load 1 false, [.t 3], none⟩, ⟨some 5, .call 39, [.t 4, .c (.int .i64 (-32768)), .c (.int .i64 32768)], none⟩, ⟨some 6, .mov, [.t 5], none⟩, ⟨some 7, .faddr 1, [.t 1], (some (6, true))⟩, ⟨some 8, .load 1 false, [.t 7], (some (6, true))⟩, ⟨some 9, .call 39, [.t 8, .c (.int .i64 (-32768)), .c (.int .i64 32768)], (some (6, true))⟩, ⟨some 10, .pick, [.t 6, .t 9, .c (.bool false)], none⟩, ⟨some 2, .mov, [.t 10], none⟩])
   .ret))
theorem chk.ref01_place : chkF Tryz.prog 94 = some (11, ir.ref01_place, [.tmp 2]) := by kernel_rfl

/-- paravane/region.Check -/
abbrev F.region_Check : Nat := 95
def ir.region_Check : IC :=
 (.seq (.reg [⟨some 1, .box, [.t 0], none⟩, ⟨some 2, .mov, [.c (.int .i64 0)], none⟩])
   (.seq (.reg [⟨some 6, .mkfunc (.func 133) 1, [.c (.int .i64 32768)], none⟩, ⟨some 7, .mkfunc (.func 133) 1, [.c (.int .i64 32768)], none⟩, ⟨some 8, .mkfunc (.func 133) 1, [.c (.int .i64 65536)], none⟩, ⟨some 9, .mkfunc (.func 133) 1, [.c (.int .i64 65536)], none⟩, ⟨some 10, .build [.nilf, .nilf, .nilf, .nilf] [(0, 1), (1, 1), (2, 1), (3, 1)], [.t 6, .t 7, .t 8, .t 9], none⟩, ⟨some 3, .alloc [.nilf, .nilf, .nilf, .nilf], [], none⟩, ⟨none, .store 4, [.t 3, .t 10], none⟩])
   (.seq (.seq (.reg [⟨some 11, .load 8 true, [.t 1], none⟩, ⟨some 12, .call 96, [.t 11], none⟩, ⟨some 13, .mov, [.c (.int .i64 0)], none⟩])
   (.block 0 (.loop (.seq (.reg [⟨some 14, .bin .lss, [.t 13, .c (.int .i64 4)], none⟩])
   (.seq (.cond (.t 14) .skip (.exit 0))
   (.seq (.block 1 (.seq (.reg [⟨some 15, .mov, [.t 13], none⟩, ⟨some 16, .idxA 4 2 true, [.t 12, .t 13], none⟩, ⟨some 5, .alloc [(.int .i64 0), (.int .i64 0)], [], none⟩, ⟨some 4, .mov, [.t 15], none⟩, ⟨none, .store 2, [.t 5, .t 16], none⟩])
   (.seq (.draw [0, 1, 3, 0, 15, 31] [⟨some 17, .mov, [.t 4], none⟩, ⟨some 18, .iaddrA 4 1, [.t 3, .t 17], none⟩, ⟨some 19, .load 1 false, [.t 18], none⟩, ⟨some 20, .load 2 true, [.t 5], none⟩, ⟨some 21, .callv, [.t 19, .t 20], none⟩, ⟨some 22, .un .not, [.t 21], none⟩])
   (.cond (.t 22) (.seq (.reg [⟨some 2, .mov, [.c (.int .i64 11)], none⟩])
   .ret) .skip))))
   (.reg [⟨some 23, .bin .add, [.t 13, .c (.int .i64 1)], none⟩, ⟨some 13, .mov, [.t 23], none⟩])))))))
   (.seq (.reg [⟨some 2, .mov, [.c (.int .i64 0)], none⟩])
   .ret))))
theorem chk.region_Check : chkF Tryz.prog 95 = some (24, ir.region_Check, [.tmp 2]) := by kernel_rfl

/-- paravane/region.bounds -/
abbrev F.region_bounds : Nat := 96
def ir.region_bounds : IC :=
 (.seq (.reg [⟨some 1, .box, [.t 0], none⟩, ⟨some 2, .alloc [(.int .i64 0), (.int .i64 0), (.int .i64 0), (.int .i64 0), (.int .i64 0), (.int .i64 0), (.int .i64 0), (.int .i64 0)], [], none⟩])
   (.seq (.reg [⟨some 3, .faddr 0, [.t 1], none⟩, ⟨some 4, .load 2 true, [.t 3], none⟩, ⟨some 5, .faddr 2, [.t 1], none⟩, ⟨some 6, .load 2 true, [.t 5], none⟩, ⟨some 7, .faddr 4, [.t 1], none⟩, ⟨some 8, .load 2 true, [.t 7], none⟩, ⟨some 9, .faddr 6, [.t 1], none⟩, ⟨some 10, .load 2 true, [.t 9], none⟩, ⟨some 11, .build [(.int .i64 0), (.int .i64 0), (.int .i64 0), (.int .i64 0), (.int .i64 0), (.int .i64 0), (.int .i64 0), (.int .i64 0)] [(0, 2), (2, 2), (4, 2), (6, 2)], [.t 4, .t 6, .t 8, .t 10], none⟩, ⟨none, .store 8, [.t 2, .t 11], none⟩])
   .ret))
theorem chk.region_bounds : chkF Tryz.prog 96 = some (12, ir.region_bounds, [.cell 2 152]) := by kernel_rfl

/-- (paravane/region.four).rows -/
abbrev F.region_four_rows : Nat := 97
def ir.region_four_rows : IC :=
 (.seq (.reg [⟨some 1, .box, [.t 0], none⟩, ⟨some 2, .mov, [.c .nilf], none⟩])
   (.seq (.reg [⟨some 3, .mkfunc (.func 134) 0, [.t 1], none⟩, ⟨some 2, .mov, [.t 3], none⟩])
   .ret))
theorem chk.region_four_rows : chkF Tryz.prog 97 = some (4, ir.region_four_rows, [.tmp 2]) := by kernel_rfl

/-- paravane/paravaneref01.Check -/
abbrev F.ref01_Check : Nat := 98
def ir.ref01_Check : IC :=
 (.seq (.reg [⟨some 1, .box, [.t 0], none⟩, ⟨some 2, .mov, [.c (.int .i64 0)], none⟩])
   (.seq (.seq (.reg [⟨some 3, .faddr 0, [.t 1], none⟩, ⟨some 4, .load 2 true, [.t 3], none⟩, ⟨some 5, .call 135, [.t 4, .c (.int .i64 32768)], none⟩, ⟨some 6, .un .not, [.t 5], none⟩, ⟨some 7, .mov, [.t 6], none⟩, ⟨some 8, .faddr 2, [.t 1], (some (7, false))⟩, ⟨some 9, .load 2 true, [.t 8], (some (7, false))⟩, ⟨some 10, .call 135, [.t 9, .c (.int .i64 32768)], (some (7, false))⟩, ⟨some 11, .un .not, [.t 10], (some (7, false))⟩, ⟨some 12, .pick, [.t 7, .c (.bool true), .t 11], none⟩, ⟨some 13, .mov, [.t 12], none⟩, ⟨some 14, .faddr 4, [.t 1], (some (13, false))⟩, ⟨some 15, .load 2 true, [.t 14], (some (13, false))⟩, ⟨some 16, .call 135, [.t 15, .c (.int .i64 65536)], (some (13, false))⟩, ⟨some 17, .un .not, [.t 16], (some (13, false))⟩, ⟨some 18, .pick, [.t 13, .c (.bool true), .t 17], none⟩, ⟨some 19, .mov, [.t 18], none⟩, ⟨some 20, .faddr 6, [.t 1], (some (19, false))⟩, ⟨some 21, .load 2 true, [.t 20], (some (19, false))⟩, ⟨some 22, .call 135, [.t 21, .c (.int .i64 65536)], (some (19, false))⟩, ⟨some 23, .un .not, [.t 22], (some (19, false))⟩, ⟨some 24, .pick, [.t 19, .c (.bool true), .t 23], none⟩])
   (.cond (.t 24) (.seq (.reg [⟨some 2, .mov, [.c (.int .i64 11)], none⟩])
   .ret) .skip))
   (.seq (.reg [⟨some 2, .mov, [.c (.int .i64 0)], none⟩])
   .ret)))
theorem chk.ref01_Check : chkF Tryz.prog 98 = some (25, ir.ref01_Check, [.tmp 2]) := by kernel_rfl

/-- paravane/paravaneref01.row -/
abbrev F.ref01_row : Nat := 99
def ir.ref01_row : IC :=
 (.seq (.reg [⟨some 2, .box, [.t 0], none⟩, ⟨some 4, .alloc [(.int .i64 0), (.int .i64 0), (.int .i64 0)], [], none⟩])
   (.seq (.reg [⟨some 5, .mov, [.t 1], none⟩, ⟨some 6, .faddr 2, [.t 2], none⟩, ⟨some 7, .faddr 0, [.t 6], none⟩, ⟨some 8, .load 1 false, [.t 7], none⟩, ⟨some 9, .faddr 4, [.t 2], none⟩, ⟨some 10, .faddr 0, [.t 9], none⟩, ⟨some 11, .load 1 false, [.t 10], none⟩, ⟨some 12, .mov, [.t 1], none⟩, ⟨some 13, .bin .sub, [.t 11, .t 12], none⟩, ⟨some 14, .mov, [.t 1], none⟩, ⟨some 15, .faddr 6, [.t 2], none⟩, ⟨some 16, .faddr 1, [.t 15], none⟩, ⟨some 17, .load 1 false, [.t 16], none⟩, ⟨some 18, .bin .sub, [.t 14, .t 17], none⟩, ⟨some 19, .minmax true, [.t 8, .t 13, .t 18], none⟩, ⟨some 20, .faddr 2, [.t 2], none⟩, ⟨some 21, .faddr 1, [.t 20], none⟩, ⟨some 22, .load 1 false, [.t 21], none⟩, ⟨some 23, .faddr 4, [.t 2], none⟩, ⟨some 24, .faddr 1, [.t 23], none⟩, ⟨some 25, .load 1 false, [.t 24], none⟩, ⟨some 26, .mov, [.t 1], none⟩, ⟨some 27, .bin .sub, [.t 25, .t 26], none⟩, ⟨some 28, .mov, [.t 1], none⟩, ⟨some 29, .faddr 6, [.t 2], none⟩, ⟨some 30, .faddr 0, [.t 29], none⟩, ⟨some 31, .load 1 false, [.t 30], none⟩, ⟨some 32, .bin .sub, [.t 28, .t 31], none⟩, ⟨some 33, .minmax false, [.t 22, .t 27, .t 32], none⟩, ⟨some 34, .build [(.int .i64 0), (.int .i64 0), (.int .i64 0)] [(0, 1), (1, 1), (2, 1)], [.t 5, .t 19, .t 33], none⟩, ⟨none, .store 3, [.t 4, .t 34], none⟩])
   .ret))
theorem chk.ref01_row : chkF Tryz.prog 99 = some (35, ir.ref01_row, [.cell 4 170]) := by kernel_rfl

/-- paravane/bin.floor -/
abbrev F.bin_floor : Nat := 100
def ir.bin_floor : IC :=
 (.seq (.reg [⟨some 4, .mov, [.c (.int .i64 0)], none⟩])
   (.seq (.reg [⟨some 6, .mov, [.t 0], none⟩, ⟨some 7, .mov, [.t 1], none⟩, ⟨some 8, .bin .quo, [.t 6, .t 7], none⟩, ⟨some 5, .mov, [.t 8], none⟩])
   (.seq (.seq (.reg [⟨some 9, .mov, [.t 0], none⟩, ⟨some 10, .mov, [.t 1], none⟩, ⟨some 11, .bin .rem, [.t 9, .t 10], none⟩, ⟨some 12, .bin .lss, [.t 11, .c (.int .i64 0)], none⟩])
   (.cond (.t 12) (.reg [⟨some 13, .mov, [.t 5], none⟩, ⟨some 14, .bin .sub, [.t 13, .c (.int .i64 1)], none⟩, ⟨some 5, .mov, [.t 14], none⟩]) .skip))
   (.seq (.reg [⟨some 15, .mov, [.t 5], none⟩, ⟨some 4, .mov, [.t 15], none⟩])
   .ret))))
theorem chk.bin_floor : chkF Tryz.prog 100 = some (16, ir.bin_floor, [.tmp 4]) := by kernel_rfl

/-- paravane/paravaneref00.Down -/
abbrev F.ref00_Down : Nat := 101
def ir.ref00_Down : IC :=
 (.seq (.reg [⟨some 4, .mov, [.c (.int .i64 0)], none⟩])
   (.seq (.reg [⟨some 6, .mov, [.t 0], none⟩, ⟨some 7, .mov, [.t 1], none⟩, ⟨some 8, .bin .quo, [.t 6, .t 7], none⟩, ⟨some 5, .mov, [.t 8], none⟩])
   (.seq (.seq (.reg [⟨some 9, .mov, [.t 0], none⟩, ⟨some 10, .mov, [.t 1], none⟩, ⟨some 11, .bin .rem, [.t 9, .t 10], none⟩, ⟨some 12, .bin .neq, [.t 11, .c (.int .i64 0)], none⟩, ⟨some 13, .mov, [.t 12], none⟩, ⟨some 14, .mov, [.t 0], (some (13, true))⟩, ⟨some 15, .bin .lss, [.t 14, .c (.int .i64 0)], (some (13, true))⟩, ⟨some 16, .mov, [.t 1], (some (13, true))⟩, ⟨some 17, .bin .lss, [.t 16, .c (.int .i64 0)], (some (13, true))⟩, ⟨some 18, .binb true, [.t 15, .t 17], (some (13, true))⟩, ⟨some 19, .pick, [.t 13, .t 18, .c (.bool false)], none⟩])
   (.cond (.t 19) (.reg [⟨some 20, .mov, [.t 5], none⟩, ⟨some 21, .bin .sub, [.t 20, .c (.int .i64 1)], none⟩, ⟨some 5, .mov, [.t 21], none⟩]) .skip))
   (.seq (.reg [⟨some 22, .mov, [.t 5], none⟩, ⟨some 4, .mov, [.t 22], none⟩])
   .ret))))
theorem chk.ref00_Down : chkF Tryz.prog 101 = some (23, ir.ref00_Down, [.tmp 4]) := by kernel_rfl

/-- paravane/paravaneref07.none -/
abbrev F.ref07_none : Nat := 102
def ir.ref07_none : IC :=
 (.seq (.reg [⟨some 0, .alloc [(.int .i64 0), (.int .i64 0)], [], none⟩])
   (.seq (.reg [⟨some 1, .build [(.int .i64 0), (.int .i64 0)] [(0, 1), (1, 1)], [.c (.int .i64 (-1)), .c (.int .i64 (-1))], none⟩, ⟨none, .store 2, [.t 0, .t 1], none⟩])
   .ret))
theorem chk.ref07_none : chkF Tryz.prog 102 = some (2, ir.ref07_none, [.cell 0 39]) := by kernel_rfl

/-- paravane/bin.pairs -/
abbrev F.bin_pairs : Nat := 103
def ir.bin_pairs : IC :=
 (.seq (.reg [⟨some 2, .box, [.t 0], none⟩, ⟨some 3, .box, [.t 1], none⟩, ⟨some 4, .mov, [.c .nilf], none⟩])
   (.seq (.reg [⟨some 5, .mkfunc (.func 136) 0, [.t 2, .t 3], none⟩, ⟨some 4, .mov, [.t 5], none⟩])
   .ret))
theorem chk.bin_pairs : chkF Tryz.prog 103 = some (6, ir.bin_pairs, [.tmp 4]) := by kernel_rfl

/-- slices.SortFunc[[]paravane/api.Cell,paravane/api.Cell] -/
abbrev F.slices_SortFunc_api_Cell_api_Cell : Nat := 104
def ir.slices_SortFunc_api_Cell_api_Cell : IC :=
 (.seq (.reg [⟨some 5, .mov, [.t 0], none⟩, ⟨some 6, .len false, [.t 5], none⟩, ⟨some 4, .mov, [.t 6], none⟩])
   (.reg [⟨some 7, .mov, [.t 0], none⟩, ⟨some 8, .mov, [.t 4], none⟩, ⟨some 9, .mov, [.t 4], none⟩, ⟨some 10, .conv .u64, [.t 9], none⟩, ⟨some 11, .call 138, [.t 10], none⟩, ⟨some 12, .mov, [.t 1], none⟩, ⟨some 13, .call 137, [.t 7, .c (.int .i64 0), .t 8, .t 11, .t 12], none⟩]))
theorem chk.slices_SortFunc_api_Cell_api_Cell : chkF Tryz.prog 104 = some (14, ir.slices_SortFunc_api_Cell_api_Cell, []) := by kernel_rfl

/-- paravane/bin.ordered -/
abbrev F.bin_ordered : Nat := 105
def ir.bin_ordered : IC :=
 (.seq (.reg [⟨some 2, .box, [.t 0], none⟩, ⟨some 3, .box, [.t 1], none⟩, ⟨some 4, .mov, [.c (.int .i64 0)], none⟩])
   (.seq (.seq (.reg [⟨some 5, .faddr 0, [.t 2], none⟩, ⟨some 6, .load 1 false, [.t 5], none⟩, ⟨some 7, .faddr 0, [.t 3], none⟩, ⟨some 8, .load 1 false, [.t 7], none⟩, ⟨some 9, .bin .neq, [.t 6, .t 8], none⟩])
   (.cond (.t 9) (.seq (.reg [⟨some 10, .faddr 0, [.t 2], none⟩, ⟨some 11, .load 1 false, [.t 10], none⟩, ⟨some 12, .faddr 0, [.t 3], none⟩, ⟨some 13, .load 1 false, [.t 12], none⟩, ⟨some 14, .bin .sub, [.t 11, .t 13], none⟩, ⟨some 4, .mov, [.t 14], none⟩])
   .ret) .skip))
   (.seq (.reg [⟨some 15, .faddr 1, [.t 2], none⟩, ⟨some 16, .load 1 false, [.t 15], none⟩, ⟨some 17, .faddr 1, [.t 3], none⟩, ⟨some 18, .load 1 false, [.t 17], none⟩, ⟨some 19, .bin .sub, [.t 16, .t 18], none⟩, ⟨some 4, .mov, [.t 19], none⟩])
   .ret)))
theorem chk.bin_ordered : chkF Tryz.prog 105 = some (20, ir.bin_ordered, [.tmp 4]) := by kernel_rfl

/-- paravane/paravaneref07.with -/
abbrev F.ref07_with : Nat := 106
def ir.ref07_with : IC :=
 (.seq (.reg [⟨some 3, .box, [.t 1], none⟩, ⟨some 4, .mov, [.c .nils], none⟩])
   (.seq (.reg [⟨some 5, .mov, [.c (.int .i64 0)], none⟩])
   (.seq (.block 0 (.loop (.seq (.seq (.draw [0, 0, 2, 7, 15, 31, 31, 127, 255, 31, 1023, 2047] [⟨some 7, .mov, [.t 5], none⟩, ⟨some 8, .mov, [.t 0], none⟩, ⟨some 9, .len false, [.t 8], none⟩, ⟨some 10, .bin .lss, [.t 7, .t 9], none⟩, ⟨some 11, .mov, [.t 10], none⟩, ⟨some 12, .mov, [.t 0], (some (11, true))⟩, ⟨some 13, .mov, [.t 5], (some (11, true))⟩, ⟨some 14, .iaddrS 2, [.t 12, .t 13], (some (11, true))⟩, ⟨some 15, .load 2 true, [.t 14], (some (11, true))⟩, ⟨some 16, .load 2 true, [.t 3], (some (11, true))⟩, ⟨some 17, .call 139, [.t 15, .t 16], (some (11, true))⟩, ⟨some 18, .pick, [.t 11, .t 17, .c (.bool false)], none⟩])
   (.cond (.t 18) .skip (.exit 0)))
   (.block 1 (.reg [⟨some 19, .mov, [.t 5], none⟩, ⟨some 20, .bin .add, [.t 19, .c (.int .i64 1)], none⟩, ⟨some 5, .mov, [.t 20], none⟩])))))
   (.seq (.seq (.draw [0, 0, 2, 7, 15, 31, 31, 127, 255, 31, 1023, 2047] [⟨some 21, .mov, [.t 5], none⟩, ⟨some 22, .mov, [.t 0], none⟩, ⟨some 23, .len false, [.t 22], none⟩, ⟨some 24, .bin .lss, [.t 21, .t 23], none⟩, ⟨some 25, .mov, [.t 24], none⟩, ⟨some 26, .mov, [.t 0], (some (25, true))⟩, ⟨some 27, .mov, [.t 5], (some (25, true))⟩, ⟨some 28, .iaddrS 2, [.t 26, .t 27], (some (25, true))⟩, ⟨some 29, .load 2 true, [.t 28], (some (25, true))⟩, ⟨some 30, .load 2 true, [.t 3], (some (25, true))⟩, ⟨some 31, .eqs false [0, 0], [.t 29, .t 30], (some (25, true))⟩, ⟨some 32, .pick, [.t 25, .t 31, .c (.bool false)], none⟩])
   (.cond (.t 32) (.seq (.reg [⟨some 33, .mov, [.t 0], none⟩, ⟨some 4, .mov, [.t 33], none⟩])
   .ret) .skip))
   (.seq (.reg [⟨some 6, .mov, [.c .nils], none⟩])
   (.seq (.draw [0, 0, 0, 6, 15, 0, 32, 127, 255] [⟨some 34, .mov, [.t 6], none⟩, ⟨some 35, .mov, [.t 0], none⟩, ⟨some 36, .mov, [.t 5], none⟩, ⟨some 37, .slx 2 false true, [.t 35, .t 36], none⟩, ⟨some 38, .append 2 16 39, [.t 34, .t 37], none⟩, ⟨some 39, .load 2 true, [.t 3], none⟩, ⟨some 40, .mkslice 2 39, [.t 39], none⟩, ⟨some 41, .append 2 16 39, [.t 38, .t 40], none⟩, ⟨some 6, .mov, [.t 41], none⟩])
   (.seq (.reg [⟨some 42, .mov, [.t 6], none⟩, ⟨some 43, .mov, [.t 0], none⟩, ⟨some 44, .mov, [.t 5], none⟩, ⟨some 45, .slx 2 true false, [.t 43, .t 44], none⟩, ⟨some 46, .append 2 16 39, [.t 42, .t 45], none⟩, ⟨some 4, .mov, [.t 46], none⟩])
   .ret)))))))
theorem chk.ref07_with : chkF Tryz.prog 106 = some (47, ir.ref07_with, [.tmp 4]) := by kernel_rfl

/-- paravane/paravaneref01.Tight -/
abbrev F.ref01_Tight : Nat := 107
def ir.ref01_Tight : IC :=
 (.seq (.reg [⟨some 1, .box, [.t 0], none⟩, ⟨some 2, .alloc [(.int .i64 0), (.int .i64 0), (.int .i64 0), (.int .i64 0), (.int .i64 0), (.int .i64 0), (.int .i64 0), (.int .i64 0)], [], none⟩, ⟨some 3, .mov, [.c (.int .i64 0)], none⟩])
   (.seq (.seq (.reg [⟨some 5, .load 8 true, [.t 1], none⟩, ⟨some 6, .call 98, [.t 5], none⟩, ⟨some 4, .mov, [.t 6], none⟩])
   (.seq (.reg [⟨some 7, .mov, [.t 4], none⟩, ⟨some 8, .bin .neq, [.t 7, .c (.int .i64 0)], none⟩])
   (.cond (.t 8) (.seq (.reg [⟨some 9, .build [(.int .i64 0), (.int .i64 0), (.int .i64 0), (.int .i64 0), (.int .i64 0), (.int .i64 0), (.int .i64 0), (.int .i64 0)] [], [], none⟩, ⟨some 10, .mov, [.t 4], none⟩, ⟨none, .store 8, [.t 2, .t 9], none⟩, ⟨some 3, .mov, [.t 10], none⟩])
   .ret) .skip)))
   (.seq (.reg [⟨some 11, .load 8 true, [.t 1], none⟩, ⟨some 12, .mkslice 8 85, [.t 11], none⟩, ⟨some 13, .call 140, [.t 12], none⟩, ⟨some 14, .extract 0, [.t 13], none⟩, ⟨some 15, .extract 1, [.t 13], none⟩, ⟨none, .store 8, [.t 2, .t 14], none⟩, ⟨some 3, .mov, [.t 15], none⟩])
   .ret)))
theorem chk.ref01_Tight : chkF Tryz.prog 107 = some (16, ir.ref01_Tight, [.cell 2 85, .tmp 3]) := by kernel_rfl

/-- paravane/paravaneref01.Has -/
abbrev F.ref01_Has : Nat := 108
def ir.ref01_Has : IC :=
 (.seq (.reg [⟨some 2, .box, [.t 0], none⟩, ⟨some 3, .box, [.t 1], none⟩, ⟨some 4, .mov, [.c (.bool false)], none⟩, ⟨some 5, .mov, [.c (.int .i64 0)], none⟩])
   (.seq (.seq (.reg [⟨some 7, .load 8 true, [.t 2], none⟩, ⟨some 8, .call 98, [.t 7], none⟩, ⟨some 6, .mov, [.t 8], none⟩])
   (.seq (.reg [⟨some 9, .mov, [.t 6], none⟩, ⟨some 10, .bin .neq, [.t 9, .c (.int .i64 0)], none⟩])
   (.cond (.t 10) (.seq (.reg [⟨some 11, .mov, [.t 6], none⟩, ⟨some 4, .mov, [.c (.bool false)], none⟩, ⟨some 5, .mov, [.t 11], none⟩])
   .ret) .skip)))
   (.seq (.seq (.reg [⟨some 12, .load 2 true, [.t 3], none⟩, ⟨some 13, .call 94, [.t 12], none⟩, ⟨some 14, .un .not, [.t 13], none⟩])
   (.cond (.t 14) (.seq (.reg [⟨some 4, .mov, [.c (.bool false)], none⟩, ⟨some 5, .mov, [.c (.int .i64 10)], none⟩])
   .ret) .skip))
   (.seq (.reg [⟨some 15, .load 8 true, [.t 2], none⟩, ⟨some 16, .load 2 true, [.t 3], none⟩, ⟨some 17, .call 141, [.t 15, .t 16], none⟩, ⟨some 4, .mov, [.t 17], none⟩, ⟨some 5, .mov, [.c (.int .i64 0)], none⟩])
   .ret))))
theorem chk.ref01_Has : chkF Tryz.prog 108 = some (18, ir.ref01_Has, [.tmp 4, .tmp 5]) := by kernel_rfl

/-- paravane/paravanelaw07.bound -/
abbrev F.law07_bound : Nat := 109
def ir.law07_bound : IC :=
 (.seq (.reg [⟨some 4, .alloc [(.int .i64 0), (.int .i64 0)], [], none⟩])
   (.seq (.reg [⟨some 5, .mov, [.t 0], none⟩, ⟨some 6, .mov, [.t 1], none⟩, ⟨some 7, .build [(.int .i64 0), (.int .i64 0)] [(0, 1), (1, 1)], [.t 5, .t 6], none⟩, ⟨none, .store 2, [.t 4, .t 7], none⟩])
   .ret))
theorem chk.law07_bound : chkF Tryz.prog 109 = some (8, ir.law07_bound, [.cell 4 83]) := by kernel_rfl

/-- paravane/paravanelaw07.spot -/
abbrev F.law07_spot : Nat := 110
def ir.law07_spot : IC :=
 (.seq (.reg [⟨some 4, .alloc [(.int .i64 0), (.int .i64 0), (.int .i64 0), (.int .i64 0), (.int .i64 0), (.int .i64 0), (.int .i64 0), (.int .i64 0)], [], none⟩])
   (.seq (.reg [⟨some 5, .mov, [.t 0], none⟩, ⟨some 6, .mov, [.t 0], none⟩, ⟨some 7, .call 109, [.t 5, .t 6], none⟩, ⟨some 8, .mov, [.t 1], none⟩, ⟨some 9, .mov, [.t 1], none⟩, ⟨some 10, .call 109, [.t 8, .t 9], none⟩, ⟨some 11, .mov, [.t 0], none⟩, ⟨some 12, .mov, [.t 1], none⟩, ⟨some 13, .bin .add, [.t 11, .t 12], none⟩, ⟨some 14, .mov, [.t 0], none⟩, ⟨some 15, .mov, [.t 1], none⟩, ⟨some 16, .bin .add, [.t 14, .t 15], none⟩, ⟨some 17, .call 109, [.t 13, .t 16], none⟩, ⟨some 18, .mov, [.t 0], none⟩, ⟨some 19, .mov, [.t 1], none⟩, ⟨some 20, .bin .sub, [.t 18, .t 19], none⟩, ⟨some 21, .mov, [.t 0], none⟩, ⟨some 22, .mov, [.t 1], none⟩, ⟨some 23, .bin .sub, [.t 21, .t 22], none⟩, ⟨some 24, .call 109, [.t 20, .t 23], none⟩, ⟨some 25, .build [(.int .i64 0), (.int .i64 0), (.int .i64 0), (.int .i64 0), (.int .i64 0), (.int .i64 0), (.int .i64 0), (.int .i64 0)] [(0, 2), (2, 2), (4, 2), (6, 2)], [.t 7, .t 10, .t 17, .t 24], none⟩, ⟨none, .store 8, [.t 4, .t 25], none⟩])
   .ret))
theorem chk.law07_spot : chkF Tryz.prog 110 = some (26, ir.law07_spot, [.cell 4 85]) := by kernel_rfl

/-- paravane/bin.Map$1 -/
abbrev F.bin_Map_1 : Nat := 111
def ir.bin_Map_1 : IC :=
 (.seq (.reg [⟨some 2, .mov, [.c (.bool false)], none⟩])
   (.seq (.reg [⟨some 3, .mov, [.t 0], none⟩, ⟨some 4, .bin .lss, [.t 3, .c (.int .i64 0)], none⟩, ⟨some 2, .mov, [.t 4], none⟩])
   .ret))
theorem chk.bin_Map_1 : chkF Tryz.prog 111 = some (5, ir.bin_Map_1, [.tmp 2]) := by kernel_rfl

/-- paravane/bin.needed$1 -/
abbrev F.bin_needed_1 : Nat := 113
def ir.bin_needed_1 : IC :=
 (.seq (.reg [⟨some 2, .mov, [.c (.bool false)], none⟩])
   (.seq (.reg [⟨some 3, .mov, [.t 0], none⟩, ⟨some 4, .call 44, [.t 3, .c (.int .i64 0), .c (.int .i64 100)], none⟩, ⟨some 5, .un .not, [.t 4], none⟩, ⟨some 2, .mov, [.t 5], none⟩])
   .ret))
theorem chk.bin_needed_1 : chkF Tryz.prog 113 = some (6, ir.bin_needed_1, [.tmp 2]) := by kernel_rfl

/-- paravane/bin.CheckInfill$1 -/
abbrev F.bin_CheckInfill_1 : Nat := 114
def ir.bin_CheckInfill_1 : IC :=
 (.seq (.reg [⟨some 2, .mov, [.c (.bool false)], none⟩])
   (.seq (.reg [⟨some 3, .mov, [.t 0], none⟩, ⟨some 4, .call 44, [.t 3, .c (.int .i64 0), .c (.int .i64 100)], none⟩, ⟨some 5, .un .not, [.t 4], none⟩, ⟨some 2, .mov, [.t 5], none⟩])
   .ret))
theorem chk.bin_CheckInfill_1 : chkF Tryz.prog 114 = some (6, ir.bin_CheckInfill_1, [.tmp 2]) := by kernel_rfl

/-- paravane/bin.sum[int] -/
abbrev F.bin_sum_int : Nat := 115
def ir.bin_sum_int : IC :=
 (.seq (.reg [⟨some 4, .mov, [.c (.int .i64 0)], none⟩])
   (.seq (.reg [⟨some 5, .mov, [.c (.int .i64 0)], none⟩])
   (.seq (.seq (.reg [⟨some 8, .mov, [.t 0], none⟩, ⟨some 9, .len false, [.t 8], none⟩, ⟨some 10, .mov, [.c (.int .i64 0)], none⟩])
   (.block 0 (.loop (.seq (.reg [⟨some 11, .bin .lss, [.t 10, .t 9], none⟩])
   (.seq (.cond (.t 11) .skip (.exit 0))
   (.seq (.block 1 (.seq (.reg [⟨some 12, .iaddrS 1, [.t 8, .t 10], none⟩, ⟨some 13, .load 1 false, [.t 12], none⟩, ⟨some 7, .mov, [.t 13], none⟩])
   (.reg [⟨some 14, .mov, [.t 5], none⟩, ⟨some 15, .mov, [.t 1], none⟩, ⟨some 16, .mov, [.t 7], none⟩, ⟨some 17, .callv, [.t 15, .t 16], none⟩, ⟨some 18, .bin .add, [.t 14, .t 17], none⟩, ⟨some 5, .mov, [.t 18], none⟩])))
   (.reg [⟨some 19, .bin .add, [.t 10, .c (.int .i64 1)], none⟩, ⟨some 10, .mov, [.t 19], none⟩])))))))
   (.seq (.reg [⟨some 20, .mov, [.t 5], none⟩, ⟨some 4, .mov, [.t 20], none⟩])
   .ret))))
theorem chk.bin_sum_int : chkF Tryz.prog 115 = some (21, ir.bin_sum_int, [.tmp 4]) := by kernel_rfl

/-- paravane/bin.rests -/
abbrev F.bin_rests : Nat := 116
def ir.bin_rests : IC :=
 (.seq (.reg [⟨some 2, .box, [.t 0], none⟩, ⟨some 4, .mov, [.c .nils], none⟩])
   (.seq (.reg [⟨some 10, .faddr 0, [.t 2], none⟩, ⟨some 11, .load 1 false, [.t 10], none⟩, ⟨some 12, .call 142, [.t 11], none⟩, ⟨some 5, .mov, [.t 12], none⟩])
   (.seq (.seq (.reg [⟨some 13, .mov, [.t 1], none⟩, ⟨some 14, .call 91, [.t 13], none⟩, ⟨some 15, .len false, [.t 14], none⟩, ⟨some 16, .mov, [.c (.int .i64 0)], none⟩])
   (.block 0 (.loop (.seq (.reg [⟨some 17, .bin .lss, [.t 16, .t 15], none⟩])
   (.seq (.cond (.t 17) .skip (.exit 0))
   (.seq (.block 1 (.seq (.reg [⟨some 18, .iaddrS 1, [.t 14, .t 16], none⟩, ⟨some 19, .load 1 false, [.t 18], none⟩, ⟨some 7, .mov, [.t 19], none⟩])
   (.seq (.reg [⟨some 20, .faddr 1, [.t 2], none⟩, ⟨some 21, .load 1 false, [.t 20], none⟩, ⟨some 22, .mov, [.t 7], none⟩, ⟨some 23, .iaddrS 2, [.t 21, .t 22], none⟩, ⟨some 24, .faddr 1, [.t 23], none⟩, ⟨some 25, .load 1 false, [.t 24], none⟩, ⟨some 26, .len false, [.t 25], none⟩, ⟨some 27, .mov, [.c (.int .i64 0)], none⟩])
   (.block 2 (.loop (.seq (.reg [⟨some 28, .bin .lss, [.t 27, .t 26], none⟩])
   (.seq (.cond (.t 28) .skip (.exit 2))
   (.seq (.block 3 (.seq (.reg [⟨some 29, .mov, [.t 27], none⟩, ⟨some 30, .iaddrS 1, [.t 25, .t 27], none⟩, ⟨some 31, .load 1 false, [.t 30], none⟩, ⟨some 8, .mov, [.t 29], none⟩, ⟨some 9, .mov, [.t 31], none⟩])
   (.reg [⟨some 32, .mov, [.t 5], none⟩, ⟨some 33, .mov, [.t 8], none⟩, ⟨some 34, .mov, [.t 5], none⟩, ⟨some 35, .mov, [.t 8], none⟩, ⟨some 36, .iaddrS 1, [.t 34, .t 35], none⟩, ⟨some 37, .load 1 false, [.t 36], none⟩, ⟨some 38, .mov, [.t 9], none⟩, ⟨some 39, .bin .sub, [.t 37, .t 38], none⟩, ⟨some 40, .minmax true, [.c (.int .i64 0), .t 39], none⟩, ⟨some 41, .iaddrS 1, [.t 32, .t 33], none⟩, ⟨none, .store 1, [.t 41, .t 40], none⟩])))
   (.reg [⟨some 42, .bin .add, [.t 27, .c (.int .i64 1)], none⟩, ⟨some 27, .mov, [.t 42], none⟩])))))))))
   (.reg [⟨some 43, .bin .add, [.t 16, .c (.int .i64 1)], none⟩, ⟨some 16, .mov, [.t 43], none⟩])))))))
   (.seq (.reg [⟨some 44, .mov, [.t 5], none⟩, ⟨some 4, .mov, [.t 44], none⟩])
   .ret))))
theorem chk.bin_rests : chkF Tryz.prog 116 = some (45, ir.bin_rests, [.tmp 4]) := by kernel_rfl

/-- paravane/bin.covers$1 -/
abbrev F.bin_covers_1 : Nat := 117
def ir.bin_covers_1 : IC :=
 (.seq (.reg [⟨some 2, .mov, [.c (.int .i64 0)], none⟩])
   (.seq (.reg [⟨some 3, .mov, [.t 0], none⟩, ⟨some 2, .mov, [.t 3], none⟩])
   .ret))
theorem chk.bin_covers_1 : chkF Tryz.prog 117 = some (4, ir.bin_covers_1, [.tmp 2]) := by kernel_rfl

/-- slices.IndexFunc[[]int,int] -/
abbrev F.slices_IndexFunc_int_int : Nat := 123
def ir.slices_IndexFunc_int_int : IC :=
 (.seq (.reg [⟨some 4, .mov, [.c (.int .i64 0)], none⟩])
   (.seq (.seq (.reg [⟨some 6, .mov, [.t 0], none⟩, ⟨some 7, .len false, [.t 6], none⟩, ⟨some 8, .mov, [.c (.int .i64 0)], none⟩])
   (.block 0 (.loop (.seq (.reg [⟨some 9, .bin .lss, [.t 8, .t 7], none⟩])
   (.seq (.cond (.t 9) .skip (.exit 0))
   (.seq (.block 1 (.seq (.reg [⟨some 10, .mov, [.t 8], none⟩, ⟨some 5, .mov, [.t 10], none⟩])
   (.seq (.reg [⟨some 11, .mov, [.t 1], none⟩, ⟨some 12, .mov, [.t 0], none⟩, ⟨some 13, .mov, [.t 5], none⟩, ⟨some 14, .iaddrS 1, [.t 12, .t 13], none⟩, ⟨some 15, .load 1 false, [.t 14], none⟩, ⟨some 16, .callv, [.t 11, .t 15], none⟩])
   (.cond (.t 16) (.seq (.reg [⟨some 17, .mov, [.t 5], none⟩, ⟨some 4, .mov, [.t 17], none⟩])
   .ret) .skip))))
   (.reg [⟨some 18, .bin .add, [.t 8, .c (.int .i64 1)], none⟩, ⟨some 8, .mov, [.t 18], none⟩])))))))
   (.seq (.reg [⟨some 4, .mov, [.c (.int .i64 (-1))], none⟩])
   .ret)))
theorem chk.slices_IndexFunc_int_int : chkF Tryz.prog 123 = some (19, ir.slices_IndexFunc_int_int, [.tmp 4]) := by kernel_rfl

/-- paravane/bin.places -/
abbrev F.bin_places : Nat := 124
def ir.bin_places : IC :=
 (.seq (.reg [⟨some 1, .box, [.t 0], none⟩, ⟨some 2, .mov, [.c .nils], none⟩])
   (.seq (.reg [⟨some 3, .mov, [.c .nils], none⟩])
   (.seq (.seq (.reg [⟨some 6, .faddr 0, [.t 1], none⟩, ⟨some 7, .faddr 0, [.t 6], none⟩, ⟨some 8, .load 1 false, [.t 7], none⟩, ⟨some 4, .mov, [.t 8], none⟩])
   (.block 0 (.loop (.seq (.seq (.reg [⟨some 9, .mov, [.t 4], none⟩, ⟨some 10, .faddr 0, [.t 1], none⟩, ⟨some 11, .faddr 1, [.t 10], none⟩, ⟨some 12, .load 1 false, [.t 11], none⟩, ⟨some 13, .bin .leq, [.t 9, .t 12], none⟩])
   (.cond (.t 13) .skip (.exit 0)))
   (.seq (.block 1 (.seq (.reg [⟨some 16, .faddr 2, [.t 1], none⟩, ⟨some 17, .faddr 0, [.t 16], none⟩, ⟨some 18, .load 1 false, [.t 17], none⟩, ⟨some 19, .faddr 4, [.t 1], none⟩, ⟨some 20, .faddr 0, [.t 19], none⟩, ⟨some 21, .load 1 false, [.t 20], none⟩, ⟨some 22, .mov, [.t 4], none⟩, ⟨some 23, .bin .sub, [.t 21, .t 22], none⟩, ⟨some 24, .mov, [.t 4], none⟩, ⟨some 25, .faddr 6, [.t 1], none⟩, ⟨some 26, .faddr 1, [.t 25], none⟩, ⟨some 27, .load 1 false, [.t 26], none⟩, ⟨some 28, .bin .sub, [.t 24, .t 27], none⟩, ⟨some 29, .minmax true, [.t 18, .t 23, .t 28], none⟩, ⟨some 5, .mov, [.t 29], none⟩])
   (.block 2 (.loop (.seq (.seq (.reg [⟨some 30, .mov, [.t 5], none⟩, ⟨some 31, .faddr 2, [.t 1], none⟩, ⟨some 32, .faddr 1, [.t 31], none⟩, ⟨some 33, .load 1 false, [.t 32], none⟩, ⟨some 34, .faddr 4, [.t 1], none⟩, ⟨some 35, .faddr 1, [.t 34], none⟩, ⟨some 36, .load 1 false, [.t 35], none⟩, ⟨some 37, .mov, [.t 4], none⟩, ⟨some 38, .bin .sub, [.t 36, .t 37], none⟩, ⟨some 39, .mov, [.t 4], none⟩, ⟨some 40, .faddr 6, [.t 1], none⟩, ⟨some 41, .faddr 0, [.t 40], none⟩, ⟨some 42, .load 1 false, [.t 41], none⟩, ⟨some 43, .bin .sub, [.t 39, .t 42], none⟩, ⟨some 44, .minmax false, [.t 33, .t 38, .t 43], none⟩, ⟨some 45, .bin .leq, [.t 30, .t 44], none⟩])
   (.cond (.t 45) .skip (.exit 2)))
   (.seq (.block 3 (.reg [⟨some 48, .mov, [.t 3], none⟩, ⟨some 49, .mov, [.t 4], none⟩, ⟨some 50, .mov, [.t 5], none⟩, ⟨some 51, .build [(.int .i64 0), (.int .i64 0)] [(0, 1), (1, 1)], [.t 49, .t 50], none⟩, ⟨some 52, .mkslice 2 23, [.t 51], none⟩, ⟨some 53, .append 2 16 23, [.t 48, .t 52], none⟩, ⟨some 3, .mov, [.t 53], none⟩]))
   (.reg [⟨some 46, .mov, [.t 5], none⟩, ⟨some 47, .bin .add, [.t 46, .c (.int .i64 1)], none⟩, ⟨some 5, .mov, [.t 47], none⟩])))))))
   (.reg [⟨some 14, .mov, [.t 4], none⟩, ⟨some 15, .bin .add, [.t 14, .c (.int .i64 1)], none⟩, ⟨some 4, .mov, [.t 15], none⟩]))))))
   (.seq (.reg [⟨some 54, .mov, [.t 3], none⟩, ⟨some 2, .mov, [.t 54], none⟩])
   .ret))))
theorem chk.bin_places : chkF Tryz.prog 124 = some (55, ir.bin_places, [.tmp 2]) := by kernel_rfl

/-- paravane/region.done -/
abbrev F.region_done : Nat := 125
def ir.region_done : IC :=
 (.seq (.reg [⟨some 2, .box, [.t 0], none⟩, ⟨some 4, .alloc [(.int .i64 0), (.int .i64 0), (.int .i64 0), (.int .i64 0), (.int .i64 0), (.int .i64 0), (.int .i64 0), (.int .i64 0)], [], none⟩, ⟨some 5, .mov, [.c (.int .i64 0)], none⟩])
   (.seq (.seq (.reg [⟨some 6, .mov, [.t 1], none⟩, ⟨some 7, .bin .neq, [.t 6, .c (.int .i64 0)], none⟩])
   (.cond (.t 7) (.seq (.reg [⟨some 8, .build [(.int .i64 0), (.int .i64 0), (.int .i64 0), (.int .i64 0), (.int .i64 0), (.int .i64 0), (.int .i64 0), (.int .i64 0)] [], [], none⟩, ⟨some 9, .mov, [.t 1], none⟩, ⟨none, .store 8, [.t 4, .t 8], none⟩, ⟨some 5, .mov, [.t 9], none⟩])
   .ret) .skip))
   (.seq (.reg [⟨some 10, .load 8 true, [.t 2], none⟩, ⟨some 11, .call 89, [.t 10], none⟩, ⟨none, .store 8, [.t 4, .t 11], none⟩, ⟨some 5, .mov, [.c (.int .i64 0)], none⟩])
   .ret)))
theorem chk.region_done : chkF Tryz.prog 125 = some (12, ir.region_done, [.cell 4 85, .tmp 5]) := by kernel_rfl

/-- (paravane/region.four).tight -/
abbrev F.region_four_tight : Nat := 126
def ir.region_four_tight : IC :=
 (.seq (.reg [⟨some 1, .box, [.t 0], none⟩, ⟨some 2, .alloc [(.int .i64 0), (.int .i64 0), (.int .i64 0), (.int .i64 0), (.int .i64 0), (.int .i64 0), (.int .i64 0), (.int .i64 0)], [], none⟩, ⟨some 3, .mov, [.c (.int .i64 0)], none⟩])
   (.seq (.reg [⟨some 7, .load 8 true, [.t 1], none⟩, ⟨some 8, .call 147, [.t 7], none⟩, ⟨some 9, .mkslice 1 155, [.t 8], none⟩, ⟨some 10, .call 87, [.t 9], none⟩, ⟨some 6, .mov, [.t 10], none⟩, ⟨some 11, .extract 0, [.t 6], none⟩, ⟨some 12, .extract 1, [.t 6], none⟩, ⟨some 4, .alloc [(.int .i64 0), (.int .i64 0), (.int .i64 0), (.int .i64 0), (.int .i64 0), (.int .i64 0), (.int .i64 0), (.int .i64 0)], [], none⟩, ⟨none, .store 8, [.t 4, .t 11], none⟩, ⟨some 5, .mov, [.t 12], none⟩])
   (.seq (.seq (.reg [⟨some 13, .mov, [.t 5], none⟩, ⟨some 14, .un .not, [.t 13], none⟩])
   (.cond (.t 14) (.seq (.reg [⟨some 15, .build [(.int .i64 0), (.int .i64 0), (.int .i64 0), (.int .i64 0), (.int .i64 0), (.int .i64 0), (.int .i64 0), (.int .i64 0)] [], [], none⟩, ⟨none, .store 8, [.t 2, .t 15], none⟩, ⟨some 3, .mov, [.c (.int .i64 4)], none⟩])
   .ret) .skip))
   (.seq (.reg [⟨some 16, .load 8 true, [.t 4], none⟩, ⟨none, .store 8, [.t 2, .t 16], none⟩, ⟨some 3, .mov, [.c (.int .i64 0)], none⟩])
   .ret))))
theorem chk.region_four_tight : chkF Tryz.prog 126 = some (17, ir.region_four_tight, [.cell 2 152, .tmp 3]) := by kernel_rfl

/-- paravane/region.of -/
abbrev F.region_of : Nat := 128
def ir.region_of : IC :=
 (.seq (.reg [⟨some 1, .box, [.t 0], none⟩, ⟨some 2, .alloc [(.int .i64 0), (.int .i64 0), (.int .i64 0), (.int .i64 0), (.int .i64 0), (.int .i64 0), (.int .i64 0), (.int .i64 0)], [], none⟩])
   (.seq (.reg [⟨some 3, .alloc [(.int .i64 0), (.int .i64 0), (.int .i64 0), (.int .i64 0), (.int .i64 0), (.int .i64 0), (.int .i64 0), (.int .i64 0)], [], none⟩])
   (.seq (.seq (.reg [⟨some 6, .faddr 0, [.t 1], none⟩, ⟨some 7, .load 1 false, [.t 6], none⟩, ⟨some 8, .faddr 1, [.t 1], none⟩, ⟨some 9, .load 1 false, [.t 8], none⟩, ⟨some 10, .faddr 0, [.t 1], none⟩, ⟨some 11, .load 1 false, [.t 10], none⟩, ⟨some 12, .faddr 1, [.t 1], none⟩, ⟨some 13, .load 1 false, [.t 12], none⟩, ⟨some 14, .bin .add, [.t 11, .t 13], none⟩, ⟨some 15, .faddr 0, [.t 1], none⟩, ⟨some 16, .load 1 false, [.t 15], none⟩, ⟨some 17, .faddr 1, [.t 1], none⟩, ⟨some 18, .load 1 false, [.t 17], none⟩, ⟨some 19, .bin .sub, [.t 16, .t 18], none⟩, ⟨some 20, .build [(.int .i64 0), (.int .i64 0), (.int .i64 0), (.int .i64 0)] [(0, 1), (1, 1), (2, 1), (3, 1)], [.t 7, .t 9, .t 14, .t 19], none⟩, ⟨some 21, .mov, [.c (.int .i64 0)], none⟩])
   (.block 0 (.loop (.seq (.reg [⟨some 22, .bin .lss, [.t 21, .c (.int .i64 4)], none⟩])
   (.seq (.cond (.t 22) .skip (.exit 0))
   (.seq (.block 1 (.seq (.reg [⟨some 23, .mov, [.t 21], none⟩, ⟨some 24, .idxA 4 1 false, [.t 20, .t 21], none⟩, ⟨some 4, .mov, [.t 23], none⟩, ⟨some 5, .mov, [.t 24], none⟩])
   (.reg [⟨some 25, .mov, [.t 4], none⟩, ⟨some 26, .mov, [.t 5], none⟩, ⟨some 27, .mov, [.t 5], none⟩, ⟨some 28, .build [(.int .i64 0), (.int .i64 0)] [(0, 1), (1, 1)], [.t 26, .t 27], none⟩, ⟨some 29, .iaddrA 4 2, [.t 3, .t 25], none⟩, ⟨none, .store 2, [.t 29, .t 28], none⟩])))
   (.reg [⟨some 30, .bin .add, [.t 21, .c (.int .i64 1)], none⟩, ⟨some 21, .mov, [.t 30], none⟩])))))))
   (.seq (.reg [⟨some 31, .load 8 true, [.t 3], none⟩, ⟨none, .store 8, [.t 2, .t 31], none⟩])
   .ret))))
theorem chk.region_of : chkF Tryz.prog 128 = some (32, ir.region_of, [.cell 2 152]) := by kernel_rfl

/-- (paravane/region.four).combined -/
abbrev F.region_four_combined : Nat := 129
def ir.region_four_combined : IC :=
 (.seq (.reg [⟨some 3, .box, [.t 0], none⟩, ⟨some 4, .box, [.t 1], none⟩, ⟨some 6, .alloc [(.int .i64 0), (.int .i64 0), (.int .i64 0), (.int .i64 0), (.int .i64 0), (.int .i64 0), (.int .i64 0), (.int .i64 0)], [], none⟩])
   (.seq (.seq (.reg [⟨some 8, .mov, [.c (.int .i64 0)], none⟩])
   (.block 0 (.loop (.seq (.reg [⟨some 9, .bin .lss, [.t 8, .c (.int .i64 4)], none⟩])
   (.seq (.cond (.t 9) .skip (.exit 0))
   (.seq (.block 1 (.seq (.reg [⟨some 10, .mov, [.t 8], none⟩, ⟨some 7, .mov, [.t 10], none⟩])
   (.draw [0, 0, 0, 4, 12, 0, 32, 96, 254, 511, 1023] [⟨some 11, .mov, [.t 7], none⟩, ⟨some 12, .mov, [.t 2], none⟩, ⟨some 13, .mov, [.t 7], none⟩, ⟨some 14, .iaddrA 4 2, [.t 3, .t 13], none⟩, ⟨some 15, .load 2 true, [.t 14], none⟩, ⟨some 16, .mov, [.t 7], none⟩, ⟨some 17, .iaddrA 4 2, [.t 4, .t 16], none⟩, ⟨some 18, .load 2 true, [.t 17], none⟩, ⟨some 19, .callv, [.t 12, .t 15, .t 18], none⟩, ⟨some 20, .iaddrA 4 2, [.t 3, .t 11], none⟩, ⟨none, .store 2, [.t 20, .t 19], none⟩])))
   (.reg [⟨some 21, .bin .add, [.t 8, .c (.int .i64 1)], none⟩, ⟨some 8, .mov, [.t 21], none⟩])))))))
   (.seq (.reg [⟨some 22, .load 8 true, [.t 3], none⟩, ⟨none, .store 8, [.t 6, .t 22], none⟩])
   .ret)))
theorem chk.region_four_combined : chkF Tryz.prog 129 = some (23, ir.region_four_combined, [.cell 6 152]) := by kernel_rfl

/-- paravane/region.span -/
abbrev F.region_span : Nat := 130
def ir.region_span : IC :=
 (.seq (.reg [⟨some 2, .box, [.t 0], none⟩, ⟨some 3, .box, [.t 1], none⟩, ⟨some 4, .alloc [(.int .i64 0), (.int .i64 0)], [], none⟩])
   (.seq (.reg [⟨some 5, .faddr 0, [.t 2], none⟩, ⟨some 6, .load 1 false, [.t 5], none⟩, ⟨some 7, .faddr 0, [.t 3], none⟩, ⟨some 8, .load 1 false, [.t 7], none⟩, ⟨some 9, .minmax false, [.t 6, .t 8], none⟩, ⟨some 10, .faddr 1, [.t 2], none⟩, ⟨some 11, .load 1 false, [.t 10], none⟩, ⟨some 12, .faddr 1, [.t 3], none⟩, ⟨some 13, .load 1 false, [.t 12], none⟩, ⟨some 14, .minmax true, [.t 11, .t 13], none⟩, ⟨some 15, .build [(.int .i64 0), (.int .i64 0)] [(0, 1), (1, 1)], [.t 9, .t 14], none⟩, ⟨none, .store 2, [.t 4, .t 15], none⟩])
   .ret))
theorem chk.region_span : chkF Tryz.prog 130 = some (16, ir.region_span, [.cell 4 83]) := by kernel_rfl

/-- slices.Compare[[]int,int] -/
abbrev F.slices_Compare_int_int : Nat := 131
def ir.slices_Compare_int_int : IC :=
 (.seq (.reg [⟨some 4, .mov, [.c (.int .i64 0)], none⟩])
   (.seq (.seq (.reg [⟨some 9, .mov, [.t 0], none⟩, ⟨some 10, .len false, [.t 9], none⟩, ⟨some 11, .mov, [.c (.int .i64 0)], none⟩])
   (.block 0 (.loop (.seq (.reg [⟨some 12, .bin .lss, [.t 11, .t 10], none⟩])
   (.seq (.cond (.t 12) .skip (.exit 0))
   (.seq (.block 1 (.seq (.reg [⟨some 13, .mov, [.t 11], none⟩, ⟨some 14, .iaddrS 1, [.t 9, .t 11], none⟩, ⟨some 15, .load 1 false, [.t 14], none⟩, ⟨some 5, .mov, [.t 13], none⟩, ⟨some 6, .mov, [.t 15], none⟩])
   (.seq (.seq (.reg [⟨some 16, .mov, [.t 5], none⟩, ⟨some 17, .mov, [.t 1], none⟩, ⟨some 18, .len false, [.t 17], none⟩, ⟨some 19, .bin .geq, [.t 16, .t 18], none⟩])
   (.cond (.t 19) (.seq (.reg [⟨some 4, .mov, [.c (.int .i64 1)], none⟩])
   .ret) .skip))
   (.seq (.reg [⟨some 20, .mov, [.t 1], none⟩, ⟨some 21, .mov, [.t 5], none⟩, ⟨some 22, .iaddrS 1, [.t 20, .t 21], none⟩, ⟨some 23, .load 1 false, [.t 22], none⟩, ⟨some 7, .mov, [.t 23], none⟩])
   (.seq (.reg [⟨some 24, .mov, [.t 6], none⟩, ⟨some 25, .mov, [.t 7], none⟩, ⟨some 26, .call 148, [.t 24, .t 25], none⟩, ⟨some 8, .mov, [.t 26], none⟩])
   (.seq (.reg [⟨some 27, .mov, [.t 8], none⟩, ⟨some 28, .bin .neq, [.t 27, .c (.int .i64 0)], none⟩])
   (.cond (.t 28) (.seq (.reg [⟨some 29, .mov, [.t 8], none⟩, ⟨some 4, .mov, [.t 29], none⟩])
   .ret) .skip)))))))
   (.reg [⟨some 30, .bin .add, [.t 11, .c (.int .i64 1)], none⟩, ⟨some 11, .mov, [.t 30], none⟩])))))))
   (.seq (.seq (.reg [⟨some 31, .mov, [.t 0], none⟩, ⟨some 32, .len false, [.t 31], none⟩, ⟨some 33, .mov, [.t 1], none⟩, ⟨some 34, .len false, [.t 33], none⟩, ⟨some 35, .bin .lss, [.t 32, .t 34], none⟩])
   (.cond (.t 35) (.seq (.reg [⟨some 4, .mov, [.c (.int .i64 (-1))], none⟩])
   .ret) .skip))
   (.seq (.reg [⟨some 4, .mov, [.c (.int .i64 0)], none⟩])
   .ret))))
theorem chk.slices_Compare_int_int : chkF Tryz.prog 131 = some (36, ir.slices_Compare_int_int, [.tmp 4]) := by kernel_rfl

/-- paravane/bin.cost$1 -/
abbrev F.bin_cost_1 : Nat := 132
def ir.bin_cost_1 : IC :=
 (.seq (.reg [⟨some 3, .mov, [.c (.int .i64 0)], none⟩])
   (.seq (.reg [⟨some 4, .faddr 1, [.t 1], none⟩, ⟨some 5, .load 1 false, [.t 4], none⟩, ⟨some 6, .mov, [.t 0], none⟩, ⟨some 7, .iaddrS 2, [.t 5, .t 6], none⟩, ⟨some 8, .faddr 0, [.t 7], none⟩, ⟨some 9, .load 1 false, [.t 8], none⟩, ⟨some 3, .mov, [.t 9], none⟩])
   .ret))
theorem chk.bin_cost_1 : chkF Tryz.prog 132 = some (10, ir.bin_cost_1, [.tmp 3]) := by kernel_rfl

/-- (paravane/region.limit).fits -/
abbrev F.region_limit_fits : Nat := 133
def ir.region_limit_fits : IC :=
 (.seq (.reg [⟨some 3, .box, [.t 1], none⟩, ⟨some 4, .mov, [.c (.bool false)], none⟩])
   (.seq (.reg [⟨some 5, .faddr 0, [.t 3], none⟩, ⟨some 6, .load 1 false, [.t 5], none⟩, ⟨some 7, .mov, [.t 0], none⟩, ⟨some 8, .un .neg, [.t 7], none⟩, ⟨some 9, .bin .geq, [.t 6, .t 8], none⟩, ⟨some 10, .mov, [.t 9], none⟩, ⟨some 11, .faddr 0, [.t 3], (some (10, true))⟩, ⟨some 12, .load 1 false, [.t 11], (some (10, true))⟩, ⟨some 13, .faddr 1, [.t 3], (some (10, true))⟩, ⟨some 14, .load 1 false, [.t 13], (some (10, true))⟩, ⟨some 15, .bin .leq, [.t 12, .t 14], (some (10, true))⟩, ⟨some 16, .pick, [.t 10, .t 15, .c (.bool false)], none⟩, ⟨some 17, .mov, [.t 16], none⟩, ⟨some 18, .faddr 1, [.t 3], (some (17, true))⟩, ⟨some 19, .load 1 false, [.t 18], (some (17, true))⟩, ⟨some 20, .mov, [.t 0], (some (17, true))⟩, ⟨some 21, .bin .leq, [.t 19, .t 20], (some (17, true))⟩, ⟨some 22, .pick, [.t 17, .t 21, .c (.bool false)], none⟩, ⟨some 4, .mov, [.t 22], none⟩])
   .ret))
theorem chk.region_limit_fits : chkF Tryz.prog 133 = some (23, ir.region_limit_fits, [.tmp 4]) := by kernel_rfl

/-- (paravane/region.four).rows$1 -/
abbrev F.region_four_rows_1 : Nat := 134
def ir.region_four_rows_1 : IC :=
 (.seq (.reg [⟨some 5, .iaddrA 4 2, [.t 1, .c (.int .i64 0)], none⟩, ⟨some 6, .faddr 0, [.t 5], none⟩, ⟨some 7, .load 1 false, [.t 6], none⟩, ⟨some 3, .mov, [.t 7], none⟩])
   (.block 0 (.loop (.seq (.seq (.reg [⟨some 8, .mov, [.t 3], none⟩, ⟨some 9, .iaddrA 4 2, [.t 1, .c (.int .i64 0)], none⟩, ⟨some 10, .faddr 1, [.t 9], none⟩, ⟨some 11, .load 1 false, [.t 10], none⟩, ⟨some 12, .bin .leq, [.t 8, .t 11], none⟩])
   (.cond (.t 12) .skip (.exit 0)))
   (.seq (.block 1 (.seq (.reg [⟨some 15, .mov, [.t 3], none⟩, ⟨some 16, .iaddrA 4 2, [.t 1, .c (.int .i64 1)], none⟩, ⟨some 17, .faddr 0, [.t 16], none⟩, ⟨some 18, .load 1 false, [.t 17], none⟩, ⟨some 19, .iaddrA 4 2, [.t 1, .c (.int .i64 2)], none⟩, ⟨some 20, .faddr 0, [.t 19], none⟩, ⟨some 21, .load 1 false, [.t 20], none⟩, ⟨some 22, .mov, [.t 3], none⟩, ⟨some 23, .bin .sub, [.t 21, .t 22], none⟩, ⟨some 24, .mov, [.t 3], none⟩, ⟨some 25, .iaddrA 4 2, [.t 1, .c (.int .i64 3)], none⟩, ⟨some 26, .faddr 1, [.t 25], none⟩, ⟨some 27, .load 1 false, [.t 26], none⟩, ⟨some 28, .bin .sub, [.t 24, .t 27], none⟩, ⟨some 29, .minmax true, [.t 18, .t 23, .t 28], none⟩, ⟨some 30, .iaddrA 4 2, [.t 1, .c (.int .i64 1)], none⟩, ⟨some 31, .faddr 1, [.t 30], none⟩, ⟨some 32, .load 1 false, [.t 31], none⟩, ⟨some 33, .iaddrA 4 2, [.t 1, .c (.int .i64 2)], none⟩, ⟨some 34, .faddr 1, [.t 33], none⟩, ⟨some 35, .load 1 false, [.t 34], none⟩, ⟨some 36, .mov, [.t 3], none⟩, ⟨some 37, .bin .sub, [.t 35, .t 36], none⟩, ⟨some 38, .mov, [.t 3], none⟩, ⟨some 39, .iaddrA 4 2, [.t 1, .c (.int .i64 3)], none⟩, ⟨some 40, .faddr 0, [.t 39], none⟩, ⟨some 41, .load 1 false, [.t 40], none⟩, ⟨some 42, .bin .sub, [.t 38, .t 41], none⟩, ⟨some 43, .minmax false, [.t 32, .t 37, .t 42], none⟩, ⟨some 44, .build [(.int .i64 0), (.int .i64 0), (.int .i64 0)] [(0, 1), (1, 1), (2, 1)], [.t 15, .t 29, .t 43], none⟩, ⟨some 4, .alloc [(.int .i64 0), (.int .i64 0), (.int .i64 0)], [], none⟩, ⟨none, .store 3, [.t 4, .t 44], none⟩])
   (.seq (.reg [⟨some 45, .faddr 1, [.t 4], none⟩, ⟨some 46, .load 1 false, [.t 45], none⟩, ⟨some 47, .faddr 2, [.t 4], none⟩, ⟨some 48, .load 1 false, [.t 47], none⟩, ⟨some 49, .bin .leq, [.t 46, .t 48], none⟩, ⟨some 50, .mov, [.t 49], none⟩, ⟨some 51, .mov, [.t 0], (some (50, true))⟩, ⟨some 52, .load 3 true, [.t 4], (some (50, true))⟩, ⟨some 53, .callv, [.t 51, .t 52], (some (50, true))⟩, ⟨some 54, .un .not, [.t 53], (some (50, true))⟩, ⟨some 55, .pick, [.t 50, .t 54, .c (.bool false)], none⟩])
   (.cond (.t 55) .ret .skip))))
   (.reg [⟨some 13, .mov, [.t 3], none⟩, ⟨some 14, .bin .add, [.t 13, .c (.int .i64 1)], none⟩, ⟨some 3, .mov, [.t 14], none⟩]))))))
theorem chk.region_four_rows_1 : chkF Tryz.prog 134 = some (56, ir.region_four_rows_1, []) := by kernel_rfl

/-- paravane/paravaneref01.ends -/
abbrev F.ref01_ends : Nat := 135
def ir.ref01_ends : IC :=
 (.seq (.reg [⟨some 2, .box, [.t 0], none⟩, ⟨some 4, .mov, [.c (.bool false)], none⟩])
   (.seq (.reg [⟨some 5, .faddr 0, [.t 2], none⟩, ⟨some 6, .load 1 false, [.t 5], none⟩, ⟨some 7, .mov, [.t 1], none⟩, ⟨some 8, .un .neg, [.t 7], none⟩, ⟨some 9, .bin .geq, [.t 6, .t 8], none⟩, ⟨some 10, .mov, [.t 9], none⟩, ⟨some 11, .faddr 0, [.t 2], (some (10, true))⟩, ⟨some 12, .load 1 false, [.t 11], (some (10, true))⟩, ⟨some 13, .faddr 1, [.t 2], (some (10, true))⟩, ⟨some 14, .load 1 false, [.t 13], (some (10, true))⟩, ⟨some 15, .bin .leq, [.t 12, .t 14], (some (10, true))⟩, ⟨some 16, .pick, [.t 10, .t 15, .c (.bool false)], none⟩, ⟨some 17, .mov, [.t 16], none⟩, ⟨some 18, .faddr 1, [.t 2], (some (17, true))⟩, ⟨some 19, .load 1 false, [.t 18], (some (17, true))⟩, ⟨some 20, .mov, [.t 1], (some (17, true))⟩, ⟨some 21, .bin .leq, [.t 19, .t 20], (some (17, true))⟩, ⟨some 22, .pick, [.t 17, .t 21, .c (.bool false)], none⟩, ⟨some 4, .mov, [.t 22], none⟩])
   .ret))
theorem chk.ref01_ends : chkF Tryz.prog 135 = some (23, ir.ref01_ends, [.tmp 4]) := by kernel_rfl

/-- paravane/bin.pairs$1 -/
abbrev F.bin_pairs_1 : Nat := 136
def ir.bin_pairs_1 : IC :=
 (.seq (.reg [⟨some 8, .load 1 false, [.t 1], none⟩, ⟨some 9, .len false, [.t 8], none⟩, ⟨some 10, .mov, [.c (.int .i64 0)], none⟩])
   (.block 0 (.loop (.seq (.reg [⟨some 11, .bin .lss, [.t 10, .t 9], none⟩])
   (.seq (.cond (.t 11) .skip (.exit 0))
   (.seq (.block 1 (.seq (.reg [⟨some 12, .iaddrS 2, [.t 8, .t 10], none⟩, ⟨some 13, .load 2 true, [.t 12], none⟩, ⟨some 5, .alloc [(.int .i64 0), (.int .i64 0)], [], none⟩, ⟨none, .store 2, [.t 5, .t 13], none⟩])
   (.seq (.reg [⟨some 14, .load 1 false, [.t 2], none⟩, ⟨some 15, .len false, [.t 14], none⟩, ⟨some 16, .mov, [.c (.int .i64 0)], none⟩])
   (.block 2 (.loop (.seq (.reg [⟨some 17, .bin .lss, [.t 16, .t 15], none⟩])
   (.seq (.cond (.t 17) .skip (.exit 2))
   (.seq (.block 3 (.seq (.reg [⟨some 18, .iaddrS 2, [.t 14, .t 16], none⟩, ⟨some 19, .load 2 true, [.t 18], none⟩, ⟨some 7, .alloc [(.int .i64 0), (.int .i64 0)], [], none⟩, ⟨none, .store 2, [.t 7, .t 19], none⟩])
   (.seq (.reg [⟨some 20, .mov, [.t 0], none⟩, ⟨some 21, .load 2 true, [.t 5], none⟩, ⟨some 22, .load 2 true, [.t 7], none⟩, ⟨some 23, .callv, [.t 20, .t 21, .t 22], none⟩, ⟨some 24, .un .not, [.t 23], none⟩])
   (.cond (.t 24) .ret .skip))))
   (.reg [⟨some 25, .bin .add, [.t 16, .c (.int .i64 1)], none⟩, ⟨some 16, .mov, [.t 25], none⟩])))))))))
   (.reg [⟨some 26, .bin .add, [.t 10, .c (.int .i64 1)], none⟩, ⟨some 10, .mov, [.t 26], none⟩])))))))
theorem chk.bin_pairs_1 : chkF Tryz.prog 136 = some (27, ir.bin_pairs_1, []) := by kernel_rfl

/-- paravane/paravaneref07.before -/
abbrev F.ref07_before : Nat := 139
def ir.ref07_before : IC :=
 (.seq (.reg [⟨some 2, .box, [.t 0], none⟩, ⟨some 3, .box, [.t 1], none⟩, ⟨some 4, .mov, [.c (.bool false)], none⟩])
   (.seq (.reg [⟨some 5, .faddr 0, [.t 2], none⟩, ⟨some 6, .load 1 false, [.t 5], none⟩, ⟨some 7, .faddr 0, [.t 3], none⟩, ⟨some 8, .load 1 false, [.t 7], none⟩, ⟨some 9, .bin .lss, [.t 6, .t 8], none⟩, ⟨some 10, .mov, [.t 9], none⟩, ⟨some 11, .faddr 0, [.t 2], (some (10, false))⟩, ⟨some 12, .load 1 false, [.t 11], (some (10, false))⟩, ⟨some 13, .faddr 0, [.t 3], (some (10, false))⟩, ⟨some 14, .load 1 false, [.t 13], (some (10, false))⟩, ⟨some 15, .bin .eql, [.t 12, .t 14], (some (10, false))⟩, ⟨some 16, .mov, [.t 15], (some (10, false))⟩, ⟨some 17, .faddr 1, [.t 2], (some (16, true))⟩, ⟨some 18, .load 1 false, [.t 17], (some (16, true))⟩, ⟨some 19, .faddr 1, [.t 3], (some (16, true))⟩, ⟨some 20, .load 1 false, [.t 19], (some (16, true))⟩, ⟨some 21, .bin .lss, [.t 18, .t 20], (some (16, true))⟩, ⟨some 22, .pick, [.t 16, .t 21, .c (.bool false)], (some (10, false))⟩, ⟨some 23, .pick, [.t 10, .c (.bool true), .t 22], none⟩, ⟨some 4, .mov, [.t 23], none⟩])
   .ret))
theorem chk.ref07_before : chkF Tryz.prog 139 = some (24, ir.ref07_before, [.tmp 4]) := by kernel_rfl

/-- paravane/paravaneref01.hulls -/
abbrev F.ref01_hulls : Nat := 140
def ir.ref01_hulls : IC :=
 (.seq (.reg [⟨some 2, .alloc [(.int .i64 0), (.int .i64 0), (.int .i64 0), (.int .i64 0), (.int .i64 0), (.int .i64 0), (.int .i64 0), (.int .i64 0)], [], none⟩, ⟨some 3, .mov, [.c (.int .i64 0)], none⟩])
   (.seq (.reg [⟨some 6, .build [(.int .i64 0), (.int .i64 0), (.int .i64 0), (.int .i64 0), (.int .i64 0), (.int .i64 0), (.int .i64 0), (.int .i64 0), (.bool false)] [], [], none⟩, ⟨some 7, .box, [.t 6], none⟩, ⟨some 4, .mov, [.t 7], none⟩])
   (.seq (.seq (.reg [⟨some 5, .mov, [.c (.int .i64 0)], none⟩])
   (.block 0 (.loop (.seq (.seq (.reg [⟨some 8, .mov, [.t 5], none⟩, ⟨some 9, .mov, [.t 0], none⟩, ⟨some 10, .len false, [.t 9], none⟩, ⟨some 11, .bin .lss, [.t 8, .t 10], none⟩])
   (.cond (.t 11) .skip (.exit 0)))
   (.seq (.block 1 (.reg [⟨some 14, .mov, [.t 4], none⟩, ⟨some 15, .mov, [.t 0], none⟩, ⟨some 16, .mov, [.t 5], none⟩, ⟨some 17, .iaddrS 8, [.t 15, .t 16], none⟩, ⟨some 18, .load 8 true, [.t 17], none⟩, ⟨some 19, .call 159, [.t 14, .t 18], none⟩]))
   (.reg [⟨some 12, .mov, [.t 5], none⟩, ⟨some 13, .bin .add, [.t 12, .c (.int .i64 1)], none⟩, ⟨some 5, .mov, [.t 13], none⟩]))))))
   (.seq (.seq (.reg [⟨some 20, .mov, [.t 4], none⟩, ⟨some 21, .nilck, [.t 20], none⟩, ⟨some 22, .faddr 8, [.t 21], none⟩, ⟨some 23, .load 1 false, [.t 22], none⟩, ⟨some 24, .un .not, [.t 23], none⟩])
   (.cond (.t 24) (.seq (.reg [⟨some 25, .build [(.int .i64 0), (.int .i64 0), (.int .i64 0), (.int .i64 0), (.int .i64 0), (.int .i64 0), (.int .i64 0), (.int .i64 0)] [], [], none⟩, ⟨none, .store 8, [.t 2, .t 25], none⟩, ⟨some 3, .mov, [.c (.int .i64 4)], none⟩])
   .ret) .skip))
   (.seq (.reg [⟨some 26, .mov, [.t 4], none⟩, ⟨some 27, .nilck, [.t 26], none⟩, ⟨some 28, .faddr 0, [.t 27], none⟩, ⟨some 29, .load 8 true, [.t 28], none⟩, ⟨none, .store 8, [.t 2, .t 29], none⟩, ⟨some 3, .mov, [.c (.int .i64 0)], none⟩])
   .ret)))))
theorem chk.ref01_hulls : chkF Tryz.prog 140 = some (30, ir.ref01_hulls, [.cell 2 85, .tmp 3]) := by kernel_rfl

/-- paravane/paravaneref01.lies -/
abbrev F.ref01_lies : Nat := 141
def ir.ref01_lies : IC :=
 (.seq (.reg [⟨some 2, .box, [.t 0], none⟩, ⟨some 3, .box, [.t 1], none⟩, ⟨some 4, .mov, [.c (.bool false)], none⟩])
   (.seq (.reg [⟨some 5, .faddr 0, [.t 3], none⟩, ⟨some 6, .load 1 false, [.t 5], none⟩, ⟨some 7, .faddr 0, [.t 2], none⟩, ⟨some 8, .faddr 0, [.t 7], none⟩, ⟨some 9, .load 1 false, [.t 8], none⟩, ⟨some 10, .faddr 0, [.t 2], none⟩, ⟨some 11, .faddr 1, [.t 10], none⟩, ⟨some 12, .load 1 false, [.t 11], none⟩, ⟨some 13, .call 39, [.t 6, .t 9, .t 12], none⟩, ⟨some 14, .mov, [.t 13], none⟩, ⟨some 15, .faddr 1, [.t 3], (some (14, true))⟩, ⟨some 16, .load 1 false, [.t 15], (some (14, true))⟩, ⟨some 17, .faddr 2, [.t 2], (some (14, true))⟩, ⟨some 18, .faddr 0, [.t 17], (some (14, true))⟩, ⟨some 19, .load 1 false, [.t 18], (some (14, true))⟩, ⟨some 20, .faddr 2, [.t 2], (some (14, true))⟩, ⟨some 21, .faddr 1, [.t 20], (some (14, true))⟩, ⟨some 22, .load 1 false, [.t 21], (some (14, true))⟩, ⟨some 23, .call 39, [.t 16, .t 19, .t 22], (some (14, true))⟩, ⟨some 24, .pick, [.t 14, .t 23, .c (.bool false)], none⟩, ⟨some 25, .mov, [.t 24], none⟩, ⟨some 26, .faddr 0, [.t 3], (some (25, true))⟩, ⟨some 27, .load 1 false, [.t 26], (some (25, true))⟩, ⟨some 28, .faddr 1, [.t 3], (some (25, true))⟩, ⟨some 29, .load 1 false, [.t 28], (some (25, true))⟩, ⟨some 30, .bin .add, [.t 27, .t 29], (some (25, true))⟩, ⟨some 31, .faddr 4, [.t 2], (some (25, true))⟩, ⟨some 32, .faddr 0, [.t 31], (some (25, true))⟩, ⟨some 33, .load 1 false, [.t 32], (some (25, true))⟩, ⟨some 34, .faddr 4, [.t 2], (some (25, true))⟩, ⟨some 35, .faddr 1, [.t 34], (some (25, true))⟩, ⟨some 36, .load 1 false, [.t 35], (some (25, true))⟩, ⟨some 37, .call 39, [.t 30, .t 33, .t 36], (some (25, true))⟩, ⟨some 38, .pick, [.t 25, .t 37, .c (.bool false)], none⟩, ⟨some 39, .mov, [.t 38], none⟩, ⟨some 40, .faddr 0, [.t 3], (some (39, true))⟩, ⟨some 41, .load 1 false, [.t 40], (some (39, true))⟩, ⟨some 42, .faddr 1, [.t 3], (some (39, true))⟩, ⟨some 43, .load 1 false, [.t 42], (some (39, true))⟩, ⟨some 44, .bin .sub, [.t 41, .t 43], (some (39, true))⟩, ⟨some 45, .faddr 6, [.t 2], (some (39, true))⟩, ⟨some 46, .faddr 0, [.t 45], (some (39, true))⟩, ⟨some 47, .load 1 false, [.t 46], (some (39, true))⟩, ⟨some 48, .faddr 6, [.t 2], (some (39, true))⟩, ⟨some 49, .faddr 1, [.t 48], (some (39, true))⟩, ⟨some 50, .load 1 false, [.t 49], (some (39, true))⟩, ⟨some 51, .call 39, [.t 44, .t 47, .t 50], (some (39, true))⟩, ⟨some 52, .pick, [.t 39, .t 51, .c (.bool false)], none⟩, ⟨some 4, .mov, [.t 52], none⟩])
   .ret))
theorem chk.ref01_lies : chkF Tryz.prog 141 = some (53, ir.ref01_lies, [.tmp 4]) := by kernel_rfl

/-- slices.Clone[[]int,int] -/
abbrev F.slices_Clone_int_int : Nat := 142
def ir.slices_Clone_int_int : IC :=
 (.seq (.reg [⟨some 2, .mov, [.c .nils], none⟩])
   (.seq (.seq (.reg [⟨some 3, .mov, [.t 0], none⟩, ⟨some 4, .raw 8 0 48, [.t 3, .c .nils], none⟩])
   (.cond (.t 4) (.seq (.reg [⟨some 2, .mov, [.c .nils], none⟩])
   .ret) .skip))
   (.seq (.reg [⟨some 5, .mkslice 1 3, [], none⟩, ⟨some 6, .mov, [.t 0], none⟩, ⟨some 7, .append 1 8 3, [.t 5, .t 6], none⟩, ⟨some 2, .mov, [.t 7], none⟩])
   .ret)))
theorem chk.slices_Clone_int_int : chkF Tryz.prog 142 = some (8, ir.slices_Clone_int_int, [.tmp 2]) := by kernel_rfl

/-- (paravane/region.four).ends -/
abbrev F.region_four_ends : Nat := 147
def ir.region_four_ends : IC :=
 (.seq (.reg [⟨some 1, .box, [.t 0], none⟩, ⟨some 2, .mov, [.c .nilf], none⟩])
   (.seq (.reg [⟨some 3, .mkfunc (.func 160) 0, [.t 1], none⟩, ⟨some 2, .mov, [.t 3], none⟩])
   .ret))
theorem chk.region_four_ends : chkF Tryz.prog 147 = some (4, ir.region_four_ends, [.tmp 2]) := by kernel_rfl

/-- cmp.Compare[int] -/
abbrev F.cmp_Compare_int : Nat := 148
def ir.cmp_Compare_int : IC :=
 (.seq (.reg [⟨some 4, .mov, [.c (.int .i64 0)], none⟩])
   (.seq (.reg [⟨some 7, .mov, [.t 0], none⟩, ⟨some 8, .call 161, [.t 7], none⟩, ⟨some 5, .mov, [.t 8], none⟩])
   (.seq (.reg [⟨some 9, .mov, [.t 1], none⟩, ⟨some 10, .call 161, [.t 9], none⟩, ⟨some 6, .mov, [.t 10], none⟩])
   (.seq (.seq (.reg [⟨some 11, .mov, [.t 5], none⟩])
   (.cond (.t 11) (.seq (.seq (.reg [⟨some 12, .mov, [.t 6], none⟩])
   (.cond (.t 12) (.seq (.reg [⟨some 4, .mov, [.c (.int .i64 0)], none⟩])
   .ret) .skip))
   (.seq (.reg [⟨some 4, .mov, [.c (.int .i64 (-1))], none⟩])
   .ret)) .skip))
   (.seq (.seq (.reg [⟨some 13, .mov, [.t 6], none⟩])
   (.cond (.t 13) (.seq (.reg [⟨some 4, .mov, [.c (.int .i64 1)], none⟩])
   .ret) .skip))
   (.seq (.seq (.reg [⟨some 14, .mov, [.t 0], none⟩, ⟨some 15, .mov, [.t 1], none⟩, ⟨some 16, .bin .lss, [.t 14, .t 15], none⟩])
   (.cond (.t 16) (.seq (.reg [⟨some 4, .mov, [.c (.int .i64 (-1))], none⟩])
   .ret) .skip))
   (.seq (.seq (.reg [⟨some 17, .mov, [.t 0], none⟩, ⟨some 18, .mov, [.t 1], none⟩, ⟨some 19, .bin .gtr, [.t 17, .t 18], none⟩])
   (.cond (.t 19) (.seq (.reg [⟨some 4, .mov, [.c (.int .i64 1)], none⟩])
   .ret) .skip))
   (.seq (.reg [⟨some 4, .mov, [.c (.int .i64 0)], none⟩])
   .ret))))))))
theorem chk.cmp_Compare_int : chkF Tryz.prog 148 = some (20, ir.cmp_Compare_int, [.tmp 4]) := by kernel_rfl

/-- (*paravane/paravaneref01.Hull).fill -/
abbrev F.ref01_Hull_fill : Nat := 159
def ir.ref01_Hull_fill : IC :=
 (.seq (.reg [⟨some 3, .box, [.t 1], none⟩])
   (.seq (.reg [⟨some 6, .faddr 0, [.t 3], none⟩, ⟨some 7, .faddr 0, [.t 6], none⟩, ⟨some 8, .load 1 false, [.t 7], none⟩, ⟨some 4, .mov, [.t 8], none⟩])
   (.block 0 (.loop (.seq (.seq (.reg [⟨some 9, .mov, [.t 4], none⟩, ⟨some 10, .faddr 0, [.t 3], none⟩, ⟨some 11, .faddr 1, [.t 10], none⟩, ⟨some 12, .load 1 false, [.t 11], none⟩, ⟨some 13, .bin .leq, [.t 9, .t 12], none⟩])
   (.cond (.t 13) .skip (.exit 0)))
   (.seq (.block 1 (.seq (.reg [⟨some 16, .load 8 true, [.t 3], none⟩, ⟨some 17, .mov, [.t 4], none⟩, ⟨some 18, .call 99, [.t 16, .t 17], none⟩, ⟨some 5, .alloc [(.int .i64 0), (.int .i64 0), (.int .i64 0)], [], none⟩, ⟨none, .store 3, [.t 5, .t 18], none⟩])
   (.seq (.reg [⟨some 19, .faddr 1, [.t 5], none⟩, ⟨some 20, .load 1 false, [.t 19], none⟩, ⟨some 21, .faddr 2, [.t 5], none⟩, ⟨some 22, .load 1 false, [.t 21], none⟩, ⟨some 23, .bin .leq, [.t 20, .t 22], none⟩])
   (.cond (.t 23) (.seq (.reg [⟨some 24, .mov, [.t 0], none⟩, ⟨some 25, .mov, [.t 4], none⟩, ⟨some 26, .faddr 1, [.t 5], none⟩, ⟨some 27, .load 1 false, [.t 26], none⟩, ⟨some 28, .build [(.int .i64 0), (.int .i64 0)] [(0, 1), (1, 1)], [.t 25, .t 27], none⟩, ⟨some 29, .call 167, [.t 24, .t 28], none⟩])
   (.reg [⟨some 30, .mov, [.t 0], none⟩, ⟨some 31, .mov, [.t 4], none⟩, ⟨some 32, .faddr 2, [.t 5], none⟩, ⟨some 33, .load 1 false, [.t 32], none⟩, ⟨some 34, .build [(.int .i64 0), (.int .i64 0)] [(0, 1), (1, 1)], [.t 31, .t 33], none⟩, ⟨some 35, .call 167, [.t 30, .t 34], none⟩])) .skip))))
   (.reg [⟨some 14, .mov, [.t 4], none⟩, ⟨some 15, .bin .add, [.t 14, .c (.int .i64 1)], none⟩, ⟨some 4, .mov, [.t 15], none⟩])))))))
theorem chk.ref01_Hull_fill : chkF Tryz.prog 159 = some (36, ir.ref01_Hull_fill, []) := by kernel_rfl

/-- (paravane/region.four).ends$1 -/
abbrev F.region_four_ends_1 : Nat := 160
def ir.region_four_ends_1 : IC :=
 (.seq (.reg [⟨some 2, .box, [.t 0], none⟩])
   (.seq (.reg [⟨some 6, .load 8 true, [.t 1], none⟩, ⟨some 7, .call 97, [.t 6], none⟩])
   (.block 0 (.range (.t 7) [8] (.reg [⟨some 3, .alloc [(.int .i64 0), (.int .i64 0), (.int .i64 0)], [], none⟩, ⟨none, .store 3, [.t 3, .t 8], none⟩]) (.block 1 (.seq (.draw [0, 1, 0, 4, 15, 0, 32, 0, 128, 480, 0, 0, 3103, 8191] [⟨some 9, .faddr 0, [.t 3], none⟩, ⟨some 10, .load 1 false, [.t 9], none⟩, ⟨some 11, .faddr 1, [.t 3], none⟩, ⟨some 12, .load 1 false, [.t 11], none⟩, ⟨some 13, .build [(.int .i64 0), (.int .i64 0)] [(0, 1), (1, 1)], [.t 10, .t 12], none⟩, ⟨some 14, .faddr 0, [.t 3], none⟩, ⟨some 15, .load 1 false, [.t 14], none⟩, ⟨some 16, .faddr 2, [.t 3], none⟩, ⟨some 17, .load 1 false, [.t 16], none⟩, ⟨some 18, .build [(.int .i64 0), (.int .i64 0)] [(0, 1), (1, 1)], [.t 15, .t 17], none⟩, ⟨some 4, .alloc [(.int .i64 0), (.int .i64 0)], [], none⟩, ⟨some 5, .alloc [(.int .i64 0), (.int .i64 0)], [], none⟩, ⟨none, .store 2, [.t 4, .t 13], none⟩, ⟨none, .store 2, [.t 5, .t 18], none⟩])
   (.seq (.reg [⟨some 19, .load 1 false, [.t 2], none⟩, ⟨some 20, .load 2 true, [.t 4], none⟩, ⟨some 21, .callv, [.t 19, .t 20], none⟩, ⟨some 22, .un .not, [.t 21], none⟩, ⟨some 23, .mov, [.t 22], none⟩, ⟨some 24, .load 2 true, [.t 4], (some (23, false))⟩, ⟨some 25, .load 2 true, [.t 5], (some (23, false))⟩, ⟨some 26, .eqs true [0, 0], [.t 24, .t 25], (some (23, false))⟩, ⟨some 27, .mov, [.t 26], (some (23, false))⟩, ⟨some 28, .load 1 false, [.t 2], (some (27, true))⟩, ⟨some 29, .load 2 true, [.t 5], (some (27, true))⟩, ⟨some 30, .callv, [.t 28, .t 29], (some (27, true))⟩, ⟨some 31, .un .not, [.t 30], (some (27, true))⟩, ⟨some 32, .pick, [.t 27, .t 31, .c (.bool false)], (some (23, false))⟩, ⟨some 33, .pick, [.t 23, .c (.bool true), .t 32], none⟩])
   (.cond (.t 33) .ret .skip))))))))
theorem chk.region_four_ends_1 : chkF Tryz.prog 160 = some (34, ir.region_four_ends_1, []) := by kernel_rfl

/-- cmp.isNaN[int] -/
abbrev F.cmp_isNaN_int : Nat := 161
def ir.cmp_isNaN_int : IC :=
 (.seq (.reg [⟨some 2, .mov, [.c (.bool false)], none⟩])
   (.seq (.reg [⟨some 3, .mov, [.t 0], none⟩, ⟨some 4, .mov, [.t 0], none⟩, ⟨some 5, .bin .neq, [.t 3, .t 4], none⟩, ⟨some 2, .mov, [.t 5], none⟩])
   .ret))
theorem chk.cmp_isNaN_int : chkF Tryz.prog 161 = some (6, ir.cmp_isNaN_int, [.tmp 2]) := by kernel_rfl

/-- (*paravane/paravaneref01.Hull).add -/
abbrev F.ref01_Hull_add : Nat := 167
def ir.ref01_Hull_add : IC :=
 (.seq (.reg [⟨some 3, .box, [.t 1], none⟩])
   (.seq (.draw [0, 1, 0, 4, 15, 0, 32, 0, 128, 480, 31, 2047] [⟨some 6, .faddr 0, [.t 3], none⟩, ⟨some 7, .load 1 false, [.t 6], none⟩, ⟨some 8, .faddr 1, [.t 3], none⟩, ⟨some 9, .load 1 false, [.t 8], none⟩, ⟨some 10, .bin .add, [.t 7, .t 9], none⟩, ⟨some 11, .faddr 0, [.t 3], none⟩, ⟨some 12, .load 1 false, [.t 11], none⟩, ⟨some 13, .faddr 1, [.t 3], none⟩, ⟨some 14, .load 1 false, [.t 13], none⟩, ⟨some 15, .bin .sub, [.t 12, .t 14], none⟩, ⟨some 4, .mov, [.t 10], none⟩, ⟨some 5, .mov, [.t 15], none⟩])
   (.seq (.seq (.reg [⟨some 16, .mov, [.t 0], none⟩, ⟨some 17, .nilck, [.t 16], none⟩, ⟨some 18, .faddr 8, [.t 17], none⟩, ⟨some 19, .load 1 false, [.t 18], none⟩, ⟨some 20, .un .not, [.t 19], none⟩])
   (.cond (.t 20) (.reg [⟨some 21, .mov, [.t 0], none⟩, ⟨some 22, .mov, [.t 0], none⟩, ⟨some 23, .faddr 0, [.t 3], none⟩, ⟨some 24, .load 1 false, [.t 23], none⟩, ⟨some 25, .faddr 0, [.t 3], none⟩, ⟨some 26, .load 1 false, [.t 25], none⟩, ⟨some 27, .build [(.int .i64 0), (.int .i64 0)] [(0, 1), (1, 1)], [.t 24, .t 26], none⟩, ⟨some 28, .faddr 1, [.t 3], none⟩, ⟨some 29, .load 1 false, [.t 28], none⟩, ⟨some 30, .faddr 1, [.t 3], none⟩, ⟨some 31, .load 1 false, [.t 30], none⟩, ⟨some 32, .build [(.int .i64 0), (.int .i64 0)] [(0, 1), (1, 1)], [.t 29, .t 31], none⟩, ⟨some 33, .mov, [.t 4], none⟩, ⟨some 34, .mov, [.t 4], none⟩, ⟨some 35, .build [(.int .i64 0), (.int .i64 0)] [(0, 1), (1, 1)], [.t 33, .t 34], none⟩, ⟨some 36, .mov, [.t 5], none⟩, ⟨some 37, .mov, [.t 5], none⟩, ⟨some 38, .build [(.int .i64 0), (.int .i64 0)] [(0, 1), (1, 1)], [.t 36, .t 37], none⟩, ⟨some 39, .build [(.int .i64 0), (.int .i64 0), (.int .i64 0), (.int .i64 0), (.int .i64 0), (.int .i64 0), (.int .i64 0), (.int .i64 0)] [(0, 2), (2, 2), (4, 2), (6, 2)], [.t 27, .t 32, .t 35, .t 38], none⟩, ⟨some 40, .nilck, [.t 21], none⟩, ⟨some 41, .faddr 0, [.t 40], none⟩, ⟨none, .store 8, [.t 41, .t 39], none⟩, ⟨some 42, .nilck, [.t 22], none⟩, ⟨some 43, .faddr 8, [.t 42], none⟩, ⟨none, .store 1, [.t 43, .c (.bool true)], none⟩]) .skip))
   (.draw [0, 0, 2, 6, 14, 30, 0, 64, 254, 0, 512, 1536, 3584, 7680, 0, 16384, 65534, 0, 131072, 393216, 917504, 1966080, 0, 8388606, 0, 16777216, 50331648, 117440512, 251658240, 0, 1073741822, 2147483646, 4294967295, 8589934591, 17179869183] [⟨some 44, .mov, [.t 0], none⟩, ⟨some 45, .mov, [.t 0], none⟩, ⟨some 46, .nilck, [.t 45], none⟩, ⟨some 47, .faddr 0, [.t 46], none⟩, ⟨some 48, .faddr 0, [.t 47], none⟩, ⟨some 49, .load 2 true, [.t 48], none⟩, ⟨some 50, .faddr 0, [.t 3], none⟩, ⟨some 51, .load 1 false, [.t 50], none⟩, ⟨some 52, .call 169, [.t 49, .t 51], none⟩, ⟨some 53, .mov, [.t 0], none⟩, ⟨some 54, .nilck, [.t 53], none⟩, ⟨some 55, .faddr 0, [.t 54], none⟩, ⟨some 56, .faddr 2, [.t 55], none⟩, ⟨some 57, .load 2 true, [.t 56], none⟩, ⟨some 58, .faddr 1, [.t 3], none⟩, ⟨some 59, .load 1 false, [.t 58], none⟩, ⟨some 60, .call 169, [.t 57, .t 59], none⟩, ⟨some 61, .mov, [.t 0], none⟩, ⟨some 62, .nilck, [.t 61], none⟩, ⟨some 63, .faddr 0, [.t 62], none⟩, ⟨some 64, .faddr 4, [.t 63], none⟩, ⟨some 65, .load 2 true, [.t 64], none⟩, ⟨some 66, .mov, [.t 4], none⟩, ⟨some 67, .call 169, [.t 65, .t 66], none⟩, ⟨some 68, .mov, [.t 0], none⟩, ⟨some 69, .nilck, [.t 68], none⟩, ⟨some 70, .faddr 0, [.t 69], none⟩, ⟨some 71, .faddr 6, [.t 70], none⟩, ⟨some 72, .load 2 true, [.t 71], none⟩, ⟨some 73, .mov, [.t 5], none⟩, ⟨some 74, .call 169, [.t 72, .t 73], none⟩, ⟨some 75, .build [(.int .i64 0), (.int .i64 0), (.int .i64 0), (.int .i64 0), (.int .i64 0), (.int .i64 0), (.int .i64 0), (.int .i64 0)] [(0, 2), (2, 2), (4, 2), (6, 2)], [.t 52, .t 60, .t 67, .t 74], none⟩, ⟨some 76, .nilck, [.t 44], none⟩, ⟨some 77, .faddr 0, [.t 76], none⟩, ⟨none, .store 8, [.t 77, .t 75], none⟩]))))
theorem chk.ref01_Hull_add : chkF Tryz.prog 167 = some (78, ir.ref01_Hull_add, []) := by kernel_rfl

/-- paravane/paravaneref01.with -/
abbrev F.ref01_with : Nat := 169
def ir.ref01_with : IC :=
 (.seq (.reg [⟨some 2, .box, [.t 0], none⟩, ⟨some 4, .alloc [(.int .i64 0), (.int .i64 0)], [], none⟩])
   (.seq (.reg [⟨some 5, .faddr 0, [.t 2], none⟩, ⟨some 6, .load 1 false, [.t 5], none⟩, ⟨some 7, .mov, [.t 1], none⟩, ⟨some 8, .minmax false, [.t 6, .t 7], none⟩, ⟨some 9, .faddr 1, [.t 2], none⟩, ⟨some 10, .load 1 false, [.t 9], none⟩, ⟨some 11, .mov, [.t 1], none⟩, ⟨some 12, .minmax true, [.t 10, .t 11], none⟩, ⟨some 13, .build [(.int .i64 0), (.int .i64 0)] [(0, 1), (1, 1)], [.t 8, .t 12], none⟩, ⟨none, .store 2, [.t 4, .t 13], none⟩])
   .ret))
theorem chk.ref01_with : chkF Tryz.prog 169 = some (14, ir.ref01_with, [.cell 4 83]) := by kernel_rfl

end Go.Proofs.YtdejdblopmfjfaaGreatDoor

/-! AM, part Zg: sets of pairs of numbers in an arena: made, filled, gone through in whatever order. -/
set_option linter.unusedVariables false
set_option linter.unusedSimpArgs false
namespace Go.Am
open Go.RowKit

theorem setOk_law {P : Program} {kt e : TypeId} (hm : setOk P kt e = true) : Maps.Keyed P kt ∧ P.underlying e = some .bool ∧
    ∀ a b : Int, (-9223372036854775808 ≤ a ∧ a < 9223372036854775808) → (-9223372036854775808 ≤ b ∧ b < 9223372036854775808) → ∃ l, keyOf P kt (.agg #[.int .i64 a, .int .i64 b]) = some l := by
  unfold setOk at hm
  simp only [Bool.and_eq_true, decide_eq_true_eq, beq_iff_eq] at hm
  obtain ⟨⟨⟨⟨⟨⟨⟨h1, h2⟩, h3⟩, h4⟩, h5⟩, h6⟩, h7⟩, h8⟩ := hm
  have i64 : ∀ {t : TypeId}, isI64 P t = true → P.underlying t = some (.int .i64) := by
    intro t h
    unfold isI64 at h
    split at h
    · assumption
    · cases h
  refine ⟨Maps.Keyed.of_law (deep_law_laid h1 (m := 2) (by omega) h2 h3 ?_), ?_, ?_⟩
  · split at h8
    · rename_i fs hfs; rw [hfs]
    · cases h8
  · split at h5
    · assumption
    · cases h5
  · intro a b ha hb
    split at h8
    · rename_i fs hfs
      split at h8
      · rename_i f g hfg
        simp only [Bool.and_eq_true, beq_iff_eq, bne_iff_ne, ne_eq] at h8
        obtain ⟨⟨⟨⟨⟨⟨⟨g1, g2⟩, g3⟩, g4⟩, g5⟩, g6⟩, g7⟩, g8⟩ := h8
        have wf : ∀ n : Int, (-9223372036854775808 ≤ n ∧ n < 9223372036854775808) → (Lit.int .i64 n).wf = true := fun n hn => WalkArith.wf_i64 ⟨hn.1, by omega⟩
        obtain ⟨n, hn⟩ : ∃ n, P.types.size = n + 1 := by
          cases hs : P.types.size with
          | zero => rw [hs] at h2; exact absurd h2 (Nat.not_lt_zero _)
          | succ n => exact ⟨n, rfl⟩
        have hall : fs.all (fun f => f.name != "_") = true := by
          rw [← Array.all_toList, hfg]; simp [g1, g2]
        refine ⟨_, by
          unfold keyOf
          rw [hfs]
          simp only [h4, Value.formed, hfs, h7, Bool.true_and]
          rw [if_pos (by simp)]
          rw [hn]
          simp only [Program.keyLits, hfs, Value.cells]
          rw [if_pos ⟨by simp [h7], hall⟩, hfg]
          simp [g3, g4, g7, g8, i64 g5, i64 g6, wf a ha, wf b hb]
          rfl⟩
      · cases h8
    · cases h8

theorem setB_same {w : World} {b : Nat} {x : Obj} (h : w.heap[b]? = some x) (o : Obj) : (ChangeMaps.setBlock w b o).heap[b]? = some o := by
  have := (Array.getElem?_eq_some_iff.1 h).1
  simp [ChangeMaps.setBlock, this]

theorem setB_other {w : World} {b k : Nat} (o : Obj) (h : k ≠ b) : (ChangeMaps.setBlock w b o).heap[k]? = w.heap[k]? := by
  simp only [ChangeMaps.setBlock]
  rw [Array.getElem?_setIfInBounds_ne (fun e => h e.symm)]

def keyV (k : Int × Int) : Value := .agg #[.int .i64 k.1, .int .i64 k.2]

theorem keyV_inj {a b : Int × Int} (h : keyV a = keyV b) : a = b := by
  unfold keyV at h
  simp only [Value.agg.injEq, Array.mk.injEq, List.cons.injEq, Value.int.injEq, true_and, and_true] at h
  exact Prod.ext h.1 h.2

/-- A map that holds just these keys, each with 'true'. -/
structure SetIs (es : Array MapEntry) (clock : Nat) (ks : List (Int × Int)) : Prop where
  st : MapKept.Stamped es clock
  max : es.size ≤ 100000
  ent : ∀ e ∈ es.toList, ∃ k ∈ ks, e.key = keyV k ∧ e.val = .bool true
  all : ∀ k ∈ ks, (inI k.1 ∧ inI k.2) ∧ ∃ e ∈ es.toList, e.key = keyV k
  nd : es.toList.Pairwise fun x y => x.key ≠ y.key

theorem SetIs.made : SetIs #[] 0 [] := ⟨MapKept.stamped_empty 0, by simp, by simp, by simp, by simp⟩

theorem SetIs.fit {P : Program} {kt e : TypeId} {es : Array MapEntry} {clock : Nat} {ks : List (Int × Int)} (hm : setOk P kt e = true) (h : SetIs es clock ks) : WideElems.Fit (H := Unit) P kt (Go.plainElem P e) es clock := by
  obtain ⟨K, hu, hkey⟩ := setOk_law hm
  refine ⟨by have := h.max; unfold maxLen; omega, h.st, fun x hx => ?_⟩
  obtain ⟨k, hk, k1, k2⟩ := h.ent x hx
  obtain ⟨⟨i1, i2⟩, _⟩ := h.all k hk
  obtain ⟨kl, hkl⟩ := hkey k.1 k.2 i1 i2
  unfold WideElems.rd
  rw [k1, keyV, hkl, k2, Go.plainElem_bool hu]
  exact ⟨_, rfl⟩

/-- A key is put. -/
theorem SetIs.put {P : Program} {t kt e : TypeId} {w : World} {mb : Nat} {es : Array MapEntry} {clock : Nat} {ks : List (Int × Int)} (hm : setOk P kt e = true) (ht : P.underlying t = some (.map kt e)) (hb : w.heap[mb]? = some (.map es clock)) (h : SetIs es clock ks) {k : Int × Int} (hk : inI k.1 ∧ inI k.2) (hroom : es.size < 100000) :
    ∃ es' clock', (Instr.mapUpdate t (.map (some mb)) (keyV k) (.bool true)).run P w = .ok () (ChangeMaps.setBlock w mb (.map es' clock')) ∧ SetIs es' clock' (ks ++ [k]) ∧ es'.size ≤ es.size + 1 := by
  obtain ⟨K, hu, hkey⟩ := setOk_law hm
  obtain ⟨kl, hkl⟩ := hkey k.1 k.2 hk.1 hk.2
  have F := h.fit hm
  obtain ⟨es', clock', hrun, F', hput, _, _, hall⟩ := Maps.fit_store (R' := Go.plainElem (H := Unit) P e) K ht hb F (by have := h.max; unfold maxLen; omega) (fun _ _ _ _ hz => hz) hkl (Go.plainElem_bool hu true)
  have hsz : es'.size ≤ es.size + 1 := by
    have e1 : es'.size = ((es'.toList.map (WideElems.rg P kt (Go.plainElem (H := Unit) P e))).foldr DataW.insert []).length := by rw [Go.length_sorted]; simp
    rw [e1, hput]
    unfold ChangeMaps.putKey
    rw [Go.length_insert]
    have e2 := List.length_filter_le (ChangeMaps.notKey kl) ((es.toList.map (WideElems.rg P kt (Go.plainElem (H := Unit) P e))).foldr DataW.insert [])
    rw [Go.length_sorted] at e2
    simp at e2
    omega
  have hnd' : es'.toList.Pairwise fun x y => x.key ≠ y.key := by
    have key1 : ∀ x ∈ es.toList, keyOf P kt x.key = some (WideElems.rg P kt (Go.plainElem (H := Unit) P e) x).1 := fun x hx => by
      obtain ⟨y, hy⟩ := F.reads x hx
      rw [WideElems.rg_of hy]; exact WideElems.rd_key hy
    have key2 : ∀ x ∈ es'.toList, keyOf P kt x.key = some (WideElems.rg P kt (Go.plainElem (H := Unit) P e) x).1 := fun x hx => by
      obtain ⟨y, hy⟩ := F'.reads x hx
      rw [WideElems.rg_of hy]; exact WideElems.rd_key hy
    have n1 : ((es.toList.map (WideElems.rg P kt (Go.plainElem (H := Unit) P e))).map (·.1)).Nodup := by
      rw [List.map_map]
      unfold List.Nodup
      rw [List.pairwise_map]
      refine h.nd.imp_of_mem fun {x y} hx hy hne e => hne ?_
      exact K.inj (key1 x hx) (by rw [key1 y hy]; exact congrArg some e.symm)
    have n2 : (((es.toList.map (WideElems.rg P kt (Go.plainElem (H := Unit) P e))).foldr DataW.insert []).map (·.1)).Nodup := (((WideShapes.sorted_perm _).map _).nodup_iff).2 n1
    have n3 : (((es'.toList.map (WideElems.rg P kt (Go.plainElem (H := Unit) P e))).foldr DataW.insert []).map (·.1)).Nodup := by
      rw [hput]
      unfold ChangeMaps.putKey
      refine (((WideShapes.insert_perm _ _).map _).nodup_iff).2 ?_
      rw [List.map_cons, List.nodup_cons]
      refine ⟨fun hm => ?_, n2.sublist (List.Sublist.map _ List.filter_sublist)⟩
      obtain ⟨q, hq, e⟩ := List.mem_map.1 hm
      exact (Maps.notKey_iff (K.key hkl)).1 (List.mem_filter.1 hq).2 e
    have n4 : ((es'.toList.map (WideElems.rg P kt (Go.plainElem (H := Unit) P e))).map (·.1)).Nodup := (((WideShapes.sorted_perm _).map _).nodup_iff).1 n3
    rw [List.map_map] at n4
    unfold List.Nodup at n4
    rw [List.pairwise_map] at n4
    refine n4.imp_of_mem fun {x y} hx hy hne e => hne ?_
    have e1 := key2 x hx
    rw [e, key2 y hy] at e1
    exact (Option.some.inj e1).symm
  refine ⟨es', clock', hrun, ⟨F'.stamped, by omega, fun x hx => ?_, fun j hj => ?_, hnd'⟩, hsz⟩
  · rcases hall x hx with ⟨hx1, _⟩ | ⟨hx1, hx2⟩
    · obtain ⟨j, hj, j1, j2⟩ := h.ent x hx1
      exact ⟨j, by simp [hj], j1, j2⟩
    · exact ⟨k, by simp, hx1, hx2⟩
  · have hmem : ∀ q, q ∈ es'.toList.map (WideElems.rg P kt (Go.plainElem (H := Unit) P e)) ↔ q ∈ ChangeMaps.putKey kl (.lit (.bool true)) ((es.toList.map (WideElems.rg P kt (Go.plainElem (H := Unit) P e))).foldr DataW.insert []) := fun q => by
      rw [← hput, (WideShapes.sorted_perm _).mem_iff]
    have key_of : ∀ x ∈ es'.toList, ∀ l d, WideElems.rg P kt (Go.plainElem (H := Unit) P e) x = (l, d) → keyOf P kt x.key = some l := fun x hx l d hxe => by
      obtain ⟨y, hy⟩ := F'.reads x hx
      have := WideElems.rd_key hy
      rw [WideElems.rg_of hy] at hxe
      rw [this, hxe]
    have last : ∃ x ∈ es'.toList, x.key = keyV k := by
      have : (kl, DataW.lit (.bool true)) ∈ es'.toList.map (WideElems.rg P kt (Go.plainElem (H := Unit) P e)) := by
        rw [hmem]; unfold ChangeMaps.putKey; rw [ChangeMaps.mem_insert_iff]; exact .inl rfl
      obtain ⟨x, hx, hxe⟩ := List.mem_map.1 this
      exact ⟨x, hx, K.inj (key_of x hx _ _ hxe) hkl⟩
    rcases List.mem_append.1 hj with hj | hj
    · obtain ⟨hi, x0, hx0, hk0⟩ := h.all j hj
      refine ⟨hi, ?_⟩
      by_cases ejk : j = k
      · subst ejk; exact last
      obtain ⟨y0, hy0⟩ := F.reads x0 hx0
      have hk1 := WideElems.rd_key hy0
      have hne : y0.1 ≠ kl := fun he => by
        rw [he] at hk1
        have := K.inj hk1 hkl
        rw [hk0] at this
        exact ejk (keyV_inj this)
      have : y0 ∈ es'.toList.map (WideElems.rg P kt (Go.plainElem (H := Unit) P e)) := by
        rw [hmem]; unfold ChangeMaps.putKey; rw [ChangeMaps.mem_insert_iff]
        refine .inr (List.mem_filter.2 ⟨?_, ?_⟩)
        · rw [(WideShapes.sorted_perm _).mem_iff]
          exact List.mem_map.2 ⟨x0, hx0, WideElems.rg_of hy0⟩
        · exact (Maps.notKey_iff (K.key hkl)).2 hne
      obtain ⟨x1, hx1, hxe⟩ := List.mem_map.1 this
      refine ⟨x1, hx1, ?_⟩
      have := K.inj (key_of x1 hx1 y0.1 y0.2 hxe) hk1
      rw [this, hk0]
    · obtain rfl : j = k := by simpa using hj
      exact ⟨hk, last⟩

theorem opK_raw0 {P : Program} {o : Oper} {os : List Operand} {t u : Nat} (hk : opK P o.op = some (.raw 0 t u, os)) : ∃ kt e, o.op = .makeMap t none ∧ P.underlying t = some (.map kt e) ∧ setOk P kt e = true ∧ os = [] := by
  cases ho : o.op <;> rw [ho] at hk <;> simp only [opK] at hk <;> (try (cases hk; done)) <;> (try (repeat' (split at hk <;> (try (cases hk; done)))))
  all_goals first
    | (simp only [Option.map_eq_some_iff, Prod.mk.injEq] at hk; obtain ⟨_, _, h1, _⟩ := hk; cases h1; done)
    | (simp only [eqKind] at hk; repeat' (split at hk <;> (try (cases hk; done))))
    | (cases hk; exact ⟨_, _, rfl, by assumption, by assumption, rfl⟩)

theorem opK_raw1 {P : Program} {o : Oper} {os : List Operand} {t u : Nat} (hk : opK P o.op = some (.raw 1 t u, os)) : ∃ p q r kt e, o.op = .mapUpdate t p q r ∧ P.underlying t = some (.map kt e) ∧ setOk P kt e = true ∧ os = [p, q, r] := by
  cases ho : o.op <;> rw [ho] at hk <;> simp only [opK] at hk <;> (try (cases hk; done)) <;> (try (repeat' (split at hk <;> (try (cases hk; done)))))
  all_goals first
    | (simp only [Option.map_eq_some_iff, Prod.mk.injEq] at hk; obtain ⟨_, _, h1, _⟩ := hk; cases h1; done)
    | (simp only [eqKind] at hk; repeat' (split at hk <;> (try (cases hk; done))))
    | (cases hk; exact ⟨_, _, _, _, _, rfl, by assumption, by assumption, rfl⟩)

theorem opK_raw2 {P : Program} {o : Oper} {os : List Operand} {t u : Nat} (hk : opK P o.op = some (.raw 2 t u, os)) : ∃ p kt e, o.op = .range t p ∧ P.underlying t = some (.map kt e) ∧ setOk P kt e = true ∧ os = [p] := by
  cases ho : o.op <;> rw [ho] at hk <;> simp only [opK] at hk <;> (try (cases hk; done)) <;> (try (repeat' (split at hk <;> (try (cases hk; done)))))
  all_goals first
    | (simp only [Option.map_eq_some_iff, Prod.mk.injEq] at hk; obtain ⟨_, _, h1, _⟩ := hk; cases h1; done)
    | (simp only [eqKind] at hk; repeat' (split at hk <;> (try (cases hk; done))))
    | (cases hk; exact ⟨_, _, _, rfl, by assumption, by assumption, rfl⟩)

theorem opK_raw3 {P : Program} {o : Oper} {os : List Operand} {t u : Nat} (hk : opK P o.op = some (.raw 3 t u, os)) : ∃ p, o.op = .next p false ∧ os = [p] := by
  cases ho : o.op <;> rw [ho] at hk <;> simp only [opK] at hk <;> (try (cases hk; done)) <;> (try (repeat' (split at hk <;> (try (cases hk; done)))))
  all_goals first
    | (simp only [Option.map_eq_some_iff, Prod.mk.injEq] at hk; obtain ⟨_, _, h1, _⟩ := hk; cases h1; done)
    | (simp only [eqKind] at hk; repeat' (split at hk <;> (try (cases hk; done))))
    | (cases hk; exact ⟨_, by simp_all, rfl⟩)

theorem opK_raw4 {P : Program} {o : Oper} {os : List Operand} {t u : Nat} (hk : opK P o.op = some (.raw 4 t u, os)) : ∃ p, o.op = .entry p ∧ os = [p] := by
  cases ho : o.op <;> rw [ho] at hk <;> simp only [opK] at hk <;> (try (cases hk; done)) <;> (try (repeat' (split at hk <;> (try (cases hk; done)))))
  all_goals first
    | (simp only [Option.map_eq_some_iff, Prod.mk.injEq] at hk; obtain ⟨_, _, h1, _⟩ := hk; cases h1; done)
    | (simp only [eqKind] at hk; repeat' (split at hk <;> (try (cases hk; done))))
    | (cases hk; exact ⟨_, rfl, rfl⟩)

section
variable {E : Env} {S0 : Sur} {l0 : List (List V)} {s0 : Bool} {A : Arena}

theorem ok_rmap {σ : FSt} {h : Gh} {w : World} {blk : Nat} {x : Value} (o : Ok σ h w (.rmap blk) x) : x = .map (some blk) := by
  obtain ⟨r, _⟩ := o
  cases r with
  | data r => cases r; rfl

theorem ok_pair {σ : FSt} {h : Gh} {w : World} {a b : Int} {x : Value} (o : Ok σ h w (.agg [.int .i64 a, .int .i64 b]) x) : x = keyV (a, b) := by
  obtain ⟨ws, hw, hlen, hh⟩ := ok_agg o
  rw [hw]
  obtain ⟨ws⟩ := ws
  match ws, hlen with
  | [y, z], _ => rw [rep_int (hh 0 _ y rfl rfl).1, rep_int (hh 1 _ z rfl rfl).1]; rfl

theorem rel_putA {B : Arena} {s : St} {a : Act} {w' : World} {h : Gh} {o : Oper} {os : List Operand} {slots : List (Option Nat)} {ins : Ins} {v : V} {x : Value} (cc : Comp E.P E.nt slots o ins os) (R2 : E.relF (encA B) s.stp s.fs a w' h) (ok : Ok s.fs h w' v x) {d : Nat} (hd : ins.d = some d) : E.rel { s.put (some d) v with log := encA B } (a.put o.dst x) w' h := by
  have R3 := rel_after (eff := { v := v }) cc R2 R2.1 ok rfl
  rw [hd] at R3
  show E.relF (encA B) s.stp (s.put (some d) v).fs _ _ _
  rw [fs_put]
  exact R3

/-- A new object in the arena. -/
theorem InA.fresh (hE : InA E S0 l0 s0) {stp : Bool} {σ : FSt} {a : Act} {w : World} {h : Gh} (R : E.relF (encA A) stp σ a w h) (ob : Obj) (o : Ob) (ho : Ext w h.φ (w.alloc ob) h.φ → ObOk (w.alloc ob) h.φ w.heap.size o) : E.relF (encA ((w.heap.size, o) :: A)) stp σ a (w.alloc ob) h ∧ w.heap.size ∉ A.map (·.1) := by
  have hAr := hE.ar R
  have hn : w.heap.size ∉ A.map (·.1) := fun hm => by
    obtain ⟨p, hp, e⟩ := List.mem_map.1 hm
    have := hAr.lt p hp; omega
  have hsz : (w.alloc ob).heap.size = w.heap.size + 1 := by
    show (w.heap.push ob).size = _
    rw [Array.size_push]
  refine ⟨hE.step R (fun b hb _ => heap_alloc_old w ob hb) (by omega) rfl rfl rfl (fun p hp => ?_) (fun p hp => by simp; exact .inr ⟨p.2, hp⟩) (by simp only [List.map_cons, List.nodup_cons]; exact ⟨hn, hAr.nd⟩) (fun ext p hp => ?_) (fun p hp => ?_), hn⟩
  · rcases List.mem_cons.1 hp with rfl | hp
    · exact .inr (Nat.le_refl _)
    · exact .inl (List.mem_map.2 ⟨p, hp, rfl⟩)
  · rcases List.mem_cons.1 hp with rfl | hp
    · exact ho ext
    · exact (hAr.ok p hp).mono (heap_alloc_old w ob (hAr.lt p hp)) ext
  · rcases List.mem_cons.1 hp with rfl | hp
    · simp only; omega
    · have := hAr.lt p hp; omega

/-- One object is turned. -/
theorem InA.turn (hE : InA E S0 l0 s0) {stp : Bool} {σ : FSt} {a : Act} {w w' : World} {h : Gh} (R : E.relF (encA A) stp σ a w h) {b : Nat} {o1 : Ob} (hA : (b, o1) ∈ A) (o : Ob) (hold : ∀ k, k ≠ b → w'.heap[k]? = w.heap[k]?) (hsz : w'.heap.size = w.heap.size) (hos : w'.os = w.os) (htp : w'.tape = w.tape) (hou : w'.output = w.output)
    (ho : Ext w h.φ w' h.φ → ObOk w' h.φ b o) : E.relF (encA (setA A b o)) stp σ a w' h := by
  have hAr := hE.ar R
  have key : ∀ p ∈ setA A b o, p.1 ∈ A.map (·.1) := fun p hp => by rw [← setA_keys A b o]; exact List.mem_map.2 ⟨p, hp, rfl⟩
  refine hE.step R (fun k hk hn => hold k fun e => hn (e ▸ List.mem_map.2 ⟨_, hA, rfl⟩)) (by omega) hos htp hou (fun p hp => .inl (key p hp)) (fun p hp => by rw [setA_keys]; exact List.mem_map.2 ⟨p, hp, rfl⟩) (by rw [setA_keys]; exact hAr.nd) (fun ext p hp => ?_) (fun p hp => ?_)
  · rcases setA_mem hp with ⟨e, e'⟩ | ⟨hne, hp⟩
    · rw [e, e']; exact ho ext
    · exact (hAr.ok p hp).mono (hold _ hne) ext
  · obtain ⟨q, hq, e⟩ := List.mem_map.1 (key p hp)
    have := hAr.lt q hq
    rw [← e]; omega

/-- A set is made. -/
theorem Steps.mkset (hE : InA E S0 l0 s0) {K : St → Prop} {s : St} {d t u : Nat} {rest : List Ins} (hl : s.log = encA A)
    (hk : ∀ mb, mb ∉ A.map (·.1) → Steps E rest K { s.put (some d) (.rmap mb) with log := encA ((mb, .raw (.map #[] 0)) :: A) }) : Steps E (⟨some d, .raw 0 t u, [], none⟩ :: rest) K s := by
  refine Step1.raw fun slots ops o i ro n a w h hc hs hi R Q next hn => ?_
  obtain ⟨os, cc⟩ := comp_of hc
  obtain ⟨kt, e, e1, e2, e3, rfl⟩ := opK_raw0 cc.op
  have R' : E.relF (encA A) s.stp s.fs a w h := by rw [← hl]; exact R
  obtain ⟨R2, hnm⟩ := hE.fresh R' (.map #[] 0) (.raw (.map #[] 0)) (fun _ => heap_alloc_new w _)
  refine wpOp_done hi (wanted_none (guard_none cc rfl)) (opK_defer cc.op) (.inl ?_) (hn _ _ _ h (hk _ hnm) (rel_putA cc R2 (.data (.rmap _)) rfl) rfl)
  simp only [execOp, e1, Sem.run_bind]
  rfl

/-- A key is put. -/
theorem Steps.setput (hE : InA E S0 l0 s0) {K : St → Prop} {s : St} {t u : Nat} {x y z : X} {rest : List Ins} {mb : Nat} {es : Array MapEntry} {clock : Nat} {ks : List (Int × Int)} {k : Int × Int} (hx : evXs s.env [x, y, z] = some [.rmap mb, .agg [.int .i64 k.1, .int .i64 k.2], .bool true]) (hl : s.log = encA A)
    (hA : (mb, .raw (.map es clock)) ∈ A) (hS : SetIs es clock ks) (hi64 : inI k.1 ∧ inI k.2) (hroom : es.size < 100000)
    (hk : ∀ es' clock', SetIs es' clock' (ks ++ [k]) → es'.size ≤ es.size + 1 → Steps E rest K { s with log := encA (setA A mb (.raw (.map es' clock'))) }) : Steps E (⟨none, .raw 1 t u, [x, y, z], none⟩ :: rest) K s := by
  refine Step1.raw fun slots ops o i ro n a w h hc hs hi R Q next hn => ?_
  obtain ⟨os, cc⟩ := comp_of hc
  obtain ⟨p, q, r, kt, e, e1, e2, e3, rfl⟩ := opK_raw1 cc.op
  obtain ⟨v1, v2, v3, hu, o1, o2, o3⟩ := (opds_of R.1 cc.xs (evXs_ok hx)).three
  simp only [List.cons.injEq, and_true] at hu
  obtain ⟨hu1, hu2, hu3⟩ := hu
  subst hu1 hu2 hu3
  have R' : E.relF (encA A) s.stp s.fs a w h := by rw [← hl]; exact R
  have hb : w.heap[mb]? = some (.map es clock) := (hE.ar R').ok _ hA
  obtain ⟨es', clock', hrun, hS', hsz⟩ := hS.put e3 e2 hb hi64 hroom
  have R2 := hE.turn R' hA (.raw (.map es' clock')) (w' := ChangeMaps.setBlock w mb (.map es' clock')) (fun k hk => setB_other _ hk) (by simp [ChangeMaps.setBlock]) rfl rfl rfl (fun _ => setB_same hb _)
  have hd : o.dst = none := cc.d.symm
  have R3 : E.rel { s with log := encA (setA A mb (.raw (.map es' clock'))) } (a.put o.dst undef) (ChangeMaps.setBlock w mb (.map es' clock')) h := by rw [hd]; exact R2
  have o3' : a.eval r = .bool true := by
    obtain ⟨rr, _⟩ := o3
    revert rr
    generalize a.eval r = zz
    intro rr
    cases rr with
    | data rr => cases rr; rfl
  refine wpOp_done (x := undef) hi (wanted_none (guard_none cc rfl)) (opK_defer cc.op) (.inr ⟨?_, rfl⟩) (hn _ _ _ h (hk _ _ hS' hsz) R3 rfl)
  simp only [execOp, e1, ok_rmap o1, ok_pair o2, o3', Sem.run_bind]
  rw [hrun]; rfl

/-- A set is gone through. -/
theorem Steps.mrange (hE : InA E S0 l0 s0) {K : St → Prop} {s : St} {d t u : Nat} {x : X} {rest : List Ins} {mb : Nat} {es : Array MapEntry} {clock : Nat} (hx : evXs s.env [x] = some [.rmap mb]) (hl : s.log = encA A) (hA : (mb, .raw (.map es clock)) ∈ A)
    (hk : ∀ ib, ib ∉ A.map (·.1) → Steps E rest K { s.put (some d) (.rptr ib 0) with log := encA ((ib, .raw (.mapIter (some mb) clock #[] clock)) :: A) }) : Steps E (⟨some d, .raw 2 t u, [x], none⟩ :: rest) K s := by
  refine Step1.raw fun slots ops o i ro n a w h hc hs hi R Q next hn => ?_
  obtain ⟨os, cc⟩ := comp_of hc
  obtain ⟨p, kt, e, e1, e2, e3, rfl⟩ := opK_raw2 cc.op
  obtain ⟨v, hu, o1⟩ := (opds_of R.1 cc.xs (evXs_ok hx)).one
  simp only [List.cons.injEq, and_true] at hu
  subst hu
  have R' : E.relF (encA A) s.stp s.fs a w h := by rw [← hl]; exact R
  have hb : w.heap[mb]? = some (.map es clock) := (hE.ar R').ok _ hA
  obtain ⟨R2, hnm⟩ := hE.fresh R' (.mapIter (some mb) clock #[] clock) (.raw (.mapIter (some mb) clock #[] clock)) (fun _ => heap_alloc_new w _)
  refine wpOp_done hi (wanted_none (guard_none cc rfl)) (opK_defer cc.op) (.inl ?_) (hn _ _ _ h (hk _ hnm) (rel_putA cc R2 (.data (.rptr _ _)) rfl) rfl)
  simp only [execOp, e1, ok_rmap o1, Sem.run_bind]
  rw [run_range_map w t kt e mb es clock e2 hb]; rfl

theorem relF_drew {σ : FSt} {a : Act} {w : World} {h : Gh} (R : E.relF l0 s0 σ a w h) : E.relF l0 s0 σ a w.drew h := ⟨R.1.drew E.ok, R.2⟩

/-- The next one, whichever it is. -/
theorem Steps.mnext (hE : InA E S0 l0 s0) {K : St → Prop} {s : St} {d t u : Nat} {x : X} {rest : List Ins} {ib mb since c0 : Nat} {seen : Array Nat} {es : Array MapEntry} {clock : Nat} {ks : List (Int × Int)} (hx : evXs s.env [x] = some [.rptr ib 0]) (hl : s.log = encA A)
    (hI : (ib, .raw (.mapIter (some mb) since seen c0)) ∈ A) (hM : (mb, .raw (.map es clock)) ∈ A) (hS : SetIs es clock ks) (hold : ∀ e ∈ es.toList, e.born < since) (hsc : since ≤ c0)
    (h0 : (leftOf es seen).size = 0 → Steps E rest K (s.put (some d) (.tuple [.bool false])))
    (h1 : ∀ e ∈ (leftOf es seen).toList, ∀ k ∈ ks, e.key = keyV k → e.val = .bool true → Steps E rest K { s.put (some d) (.tuple [.bool true, .agg [.int .i64 k.1, .int .i64 k.2], .bool true]) with log := encA (setA A ib (.raw (.mapIter (some mb) since (seen.push e.born) clock))) }) : Steps E (⟨some d, .raw 3 t u, [x], none⟩ :: rest) K s := by
  refine Step1.raw fun slots ops o i ro n a w h hc hs hi R Q next hn => ?_
  obtain ⟨os, cc⟩ := comp_of hc
  obtain ⟨p, e1, rfl⟩ := opK_raw3 cc.op
  obtain ⟨v, hu, o1⟩ := (opds_of R.1 cc.xs (evXs_ok hx)).one
  simp only [List.cons.injEq, and_true] at hu
  subst hu
  have R' : E.relF (encA A) s.stp s.fs a w h := by rw [← hl]; exact R
  have hb : w.heap[mb]? = some (.map es clock) := (hE.ar R').ok _ hM
  have hr : w.heap[ib]? = some (.mapIter (some mb) since seen c0) := (hE.ar R').ok _ hI
  rcases run_next_at (P := E.P) w o.type ib mb since c0 seen es clock hr hb hold hsc with ⟨hz, hrun⟩ | ⟨e, he, w1, hal, hrun⟩
  · have ok : Ok s.fs h w (.tuple [.bool false]) (.tuple #[.bool false]) := ⟨.tuple _ _ rfl (fun i v x h1 h2 => by
      match i with
      | 0 => cases h1; cases h2; exact .bool _), fun j u z hu hz => by
      cases j with
      | zero => simp [cells] at hu; subst hu; intro r sz xs e; cases e
      | succ j => simp [cells] at hu⟩
    refine wpOp_done (x := .tuple #[.bool false]) (w' := w) hi (wanted_none (guard_none cc rfl)) (opK_defer cc.op) (.inl ?_) (hn _ _ w h (h0 hz) ?_ rfl)
    · simp only [execOp, e1, ok_rptr o1, Sem.run_bind]
      rw [hrun]; rfl
    · show E.relF _ _ _ _ _ _
      rw [(put_log _ _ _).1, (put_log _ _ _).2, fs_put]
      exact rel_after (eff := { v := _ }) cc R R.1 ok rfl
  · have hee : e ∈ es.toList := by
      unfold leftOf at he; simp at he; simpa using he.1
    obtain ⟨k, hk, k1, k2⟩ := hS.ent e hee
    have R1 : E.relF (encA A) s.stp s.fs a w1 h := by
      rcases hal with rfl | rfl
      · exact R'
      · exact relF_drew R'
    have hr1 : w1.heap[ib]? = some (.mapIter (some mb) since seen c0) := (hE.ar R1).ok _ hI
    have R2 := hE.turn R1 hI (.raw (.mapIter (some mb) since (seen.push e.born) clock)) (w' := ChangeMaps.setBlock w1 ib (.mapIter (some mb) since (seen.push e.born) clock)) (fun k hk => setB_other _ hk) (by simp [ChangeMaps.setBlock]) rfl rfl rfl (fun _ => setB_same hr1 _)
    have ok : ∀ w2, Ok s.fs h w2 (.tuple [.bool true, .agg [.int .i64 k.1, .int .i64 k.2], .bool true]) (.tuple #[.bool true, e.key, e.val]) := fun w2 => ⟨.tuple _ _ rfl (fun i v x h1 h2 => by
      match i with
      | 0 => cases h1; cases h2; exact .bool _
      | 1 =>
        cases h1; cases h2; rw [k1]
        exact .agg _ _ rfl fun j u z g1 g2 => by
          match j with
          | 0 => cases g1; cases g2; exact .int _ _
          | 1 => cases g1; cases g2; exact .int _ _
      | 2 => cases h1; cases h2; rw [k2]; exact .bool _), fun j u z hu hz => by
      cases j with
      | zero => simp [cells] at hu; subst hu; intro r sz xs e; cases e
      | succ j => simp [cells] at hu⟩
    refine wpOp_done (x := .tuple #[.bool true, e.key, e.val]) hi (wanted_none (guard_none cc rfl)) (opK_defer cc.op) (.inl ?_) (hn _ _ _ h (h1 e he k hk k1 k2) (rel_putA cc R2 (ok _) rfl) rfl)
    simp only [execOp, e1, ok_rptr o1, Sem.run_bind]
    rw [hrun]; rfl

/-- The entry at hand. -/
theorem Steps.mentry (hE : InA E S0 l0 s0) {K : St → Prop} {s : St} {d t u : Nat} {x : X} {rest : List Ins} {ib mb since : Nat} {seen : Array Nat} {es : Array MapEntry} {clock : Nat} {e : MapEntry} {k : Int × Int} (hx : evXs s.env [x] = some [.rptr ib 0]) (hl : s.log = encA A)
    (hI : (ib, .raw (.mapIter (some mb) since (seen.push e.born) clock)) ∈ A) (hM : (mb, .raw (.map es clock)) ∈ A) (hst : MapKept.Stamped es clock) (he : e ∈ es.toList) (hkey : e.key = keyV k) (hval : e.val = .bool true)
    (hk : Steps E rest K (s.put (some d) (.tuple [.agg [.int .i64 k.1, .int .i64 k.2], .bool true]))) : Steps E (⟨some d, .raw 4 t u, [x], none⟩ :: rest) K s := by
  refine Step1.raw fun slots ops o i ro n a w h hc hs hi R Q next hn => ?_
  obtain ⟨os, cc⟩ := comp_of hc
  obtain ⟨p, e1, rfl⟩ := opK_raw4 cc.op
  obtain ⟨v, hu, o1⟩ := (opds_of R.1 cc.xs (evXs_ok hx)).one
  simp only [List.cons.injEq, and_true] at hu
  subst hu
  have R' : E.relF (encA A) s.stp s.fs a w h := by rw [← hl]; exact R
  have hb : w.heap[mb]? = some (.map es clock) := (hE.ar R').ok _ hM
  have hr : w.heap[ib]? = some (.mapIter (some mb) since (seen.push e.born) clock) := (hE.ar R').ok _ hI
  have hrun := run_entry_at (P := E.P) w ib mb since seen es clock e hr hb he hst.2.1
  have ok : Ok s.fs h w (.tuple [.agg [.int .i64 k.1, .int .i64 k.2], .bool true]) (.tuple #[e.key, e.val]) := ⟨.tuple _ _ rfl (fun i v x h1 h2 => by
    match i with
    | 0 =>
      cases h1; cases h2; rw [hkey]
      exact .agg _ _ rfl fun j u z g1 g2 => by
        match j with
        | 0 => cases g1; cases g2; exact .int _ _
        | 1 => cases g1; cases g2; exact .int _ _
    | 1 => cases h1; cases h2; rw [hval]; exact .bool _), fun j u z hu hz => by
    cases j with
    | zero => simp [cells] at hu; subst hu; intro r sz xs e; cases e
    | succ j => simp [cells] at hu⟩
  refine wpOp_done (x := .tuple #[e.key, e.val]) (w' := w) hi (wanted_none (guard_none cc rfl)) (opK_defer cc.op) (.inl ?_) (hn _ _ w h hk ?_ rfl)
  · simp only [execOp, e1, ok_rptr o1, Sem.run_bind]
    rw [hrun]; rfl
  · show E.relF _ _ _ _ _ _
    rw [(put_log _ _ _).1, (put_log _ _ _).2, fs_put]
    exact rel_after (eff := { v := _ }) cc R R.1 ok rfl

end

end Go.Am


/-! AM, part Zh: the package's variables are read. -/
set_option linter.unusedVariables false
set_option linter.unusedSimpArgs false
namespace Go.Am
open Go.RowKit

theorem rptr_value {σ : FSt} {h : Gh} {w : World} {blk off : Nat} {x : Value} (o : Ok σ h w (.rptr blk off) x) : x = .pointer (some ⟨blk, off, none⟩) := by
  obtain ⟨r, _⟩ := o
  cases r with
  | data r => cases r; rfl

/-- A load from a package's variable. -/
theorem does_gload {E : Env} {σ : FSt} {d n g : Nat} {agg : Bool} {cs : List V} {x : X} (hg : (g, cs) ∈ globalsV) (hx : [x].mapM (evX σ) = some [.rptr g 0]) (hn : n ≤ cs.length) : Does E σ ⟨some d, .load n agg, [x], none⟩ { v := mkv agg n cs } (xslots [x]) := by
  refine .sem fun τ hτ slots ops j o ro nn log stp a w h hc hs hi R Q next hnx => ?_
  have hx' : [x].mapM (evX τ) = some [.rptr g 0] := evX_reads hx fun l hl => hτ l hl
  obtain ⟨os, cc⟩ := comp_of hc
  have hdf := opK_defer cc.op
  have hgo : o.guard = none := by
    rcases cc.guard with ⟨_, e⟩ | ⟨_, _, _, _, _, e⟩
    · exact e
    · cases e
  have hO := opds_of R.1 cc.xs hx'
  cases hO with
  | cons o1 r1 =>
    cases r1
    have e1 := rptr_value o1
    have rd : RepD w h.φ (.vptr cs 0) _ := E.ok.gl _ _ _ _ _ R.1.sur (g, cs) hg
    rename_i p
    have hO2 : Opds τ h w a [p] [.vptr cs 0] := .cons (by rw [e1]; exact .data rd) .nil
    obtain ⟨x', w', h', hr, R', ok, hy⟩ := evalK_ok (d := d) (eff := { pre := 0 + n ≤ cs.length, v := mkv agg n (cs.drop 0) }) R.1 E.ok cc.op hO2 (fun e => by cases e) rfl (by simpa using hn)
    exact wpOp_done hi (wanted_none hgo) hdf hr (hnx _ _ h' (rel_after (eff := { v := mkv agg n cs }) cc R R' ok hy) hy)

/-- The same, under a guard. -/
theorem does_ggload {E : Env} {σ : FSt} {d n g t : Nat} {agg want gb : Bool} {gv : V} {cs : List V} {x : X} (hg : (g, cs) ∈ globalsV) (hgv : σ.g t = some gv) (hgb : guardOf want gv = some gb) (hx : [x].mapM (evX σ) = some [.rptr g 0]) (hn : n ≤ cs.length) : Does E σ ⟨some d, .load n agg, [x], some (t, want)⟩ { v := .cond gb (mkv agg n cs) } (.slot t :: xslots [x]) := by
  refine .sem fun τ hτ slots ops j o ro nn log stp a w h hc hs hi R Q next hnx => ?_
  have hx' : [x].mapM (evX τ) = some [.rptr g 0] := evX_reads hx fun l hl => hτ l (by simp [hl])
  have hgv' : τ.g t = some gv := by rw [g_eq (hτ (.slot t) (by simp))]; exact hgv
  obtain ⟨os, cc⟩ := comp_of hc
  have hdf := opK_defer cc.op
  obtain ⟨j', want', t', g1, g2, g3⟩ : ∃ j want t, o.guard = some (j, want) ∧ slots[j]? = some (some t) ∧ (some (t, want) : Option (Nat × Bool)) = some (t, want) ∧ True := by
    rcases cc.guard with ⟨e, _⟩ | ⟨j, want, t, e1, e2, e3⟩
    · cases e
    · exact ⟨j, want, t, e1, e2, rfl, trivial⟩
  have g3' : (some (t, want) : Option (Nat × Bool)) = some (t', want') := by
    rcases cc.guard with ⟨e, _⟩ | ⟨j, want1, t1, e1, e2, e3⟩
    · cases e
    · rw [g1] at e1; cases e1; rw [g2] at e2; cases e2; exact e3
  cases g3'
  obtain ⟨wt, wf⟩ := guard_wanted R hs g1 g2 hgv' hgb
  have hO := opds_of R.1 cc.xs hx'
  cases hO with
  | cons o1 r1 =>
    cases r1
    have e1 := rptr_value o1
    have rd : RepD w h.φ (.vptr cs 0) _ := E.ok.gl _ _ _ _ _ R.1.sur (g, cs) hg
    rename_i p
    have hO2 : Opds τ h w a [p] [.vptr cs 0] := .cons (by rw [e1]; exact .data rd) .nil
    cases gb with
    | true =>
      obtain ⟨x', w', h', hr, R', ok, hy⟩ := evalK_ok (d := d) (eff := { pre := 0 + n ≤ cs.length, v := mkv agg n (cs.drop 0) }) R.1 E.ok cc.op hO2 (fun e => by cases e) rfl (by simpa using hn)
      refine wpOp_done hi (wt rfl) hdf hr (hnx _ _ h' (rel_after (eff := { v := .cond true (mkv agg n cs) }) cc R R' ⟨.cond true _ _ (fun _ => ok.1) (fun e => (by cases e)), fun j u z hu hz => ?_⟩ hy) hy)
      cases j with
      | zero => simp [cells] at hu; subst hu; intro r' sz xs' e; cases e
      | succ j => simp [cells] at hu
    | false => exact wp_unwanted cc R hi (wf rfl) R.1 rfl (mkv agg n cs) hnx

theorem Steps.gload {E : Env} {s : St} {K : St → Prop} {d n g : Nat} {agg : Bool} {cs : List V} {x : X} {rest : List Ins} (hg : (g, cs) ∈ globalsV) (hx : evXs s.env [x] = some [.rptr g 0]) (hn : n ≤ cs.length) (hk : Steps E rest K (s.put (some d) (mkv agg n cs))) : Steps E (⟨some d, .load n agg, [x], none⟩ :: rest) K s :=
  Step1.does (ins := ⟨some d, .load n agg, [x], none⟩) (does_gload hg (evXs_ok hx) hn) hk

theorem TraceK.gload {E : Env} {s : St} {K : List (List Loc × List Loc) → St → List Ins → Prop} {d n g : Nat} {agg : Bool} {cs : List V} {x : X} {rest : List Ins} (hg : (g, cs) ∈ globalsV) (hx : evXs s.env [x] = some [.rptr g 0]) (hn : n ≤ cs.length)
    (tr : TraceK E (s.put (some d) (mkv agg n cs)) rest fun fp s' r' => K (([.slot d], xslots [x]) :: fp) s' r') : TraceK E s (⟨some d, .load n agg, [x], none⟩ :: rest) K :=
  .step (ins := ⟨some d, .load n agg, [x], none⟩) (eff := { v := mkv agg n cs }) (does_gload hg (evXs_ok hx) hn) tr

theorem TraceK.ggload {E : Env} {s : St} {K : List (List Loc × List Loc) → St → List Ins → Prop} {d n g t : Nat} {agg want gb : Bool} {gv : V} {cs : List V} {x : X} {rest : List Ins} (hg : (g, cs) ∈ globalsV) (hgv : get s.env t = some gv) (hgb : guardOf want gv = some gb) (hx : evXs s.env [x] = some [.rptr g 0]) (hn : n ≤ cs.length)
    (tr : TraceK E (s.put (some d) (.cond gb (mkv agg n cs))) rest fun fp s' r' => K (([.slot d], .slot t :: xslots [x]) :: fp) s' r') : TraceK E s (⟨some d, .load n agg, [x], some (t, want)⟩ :: rest) K :=
  .step (ins := ⟨some d, .load n agg, [x], some (t, want)⟩) (eff := { v := .cond gb (mkv agg n cs) }) (does_ggload hg (by rw [fs_g]; exact hgv) hgb (evXs_ok hx) hn) tr

end Go.Am


/-! AM, part Zi: copies: a test for nil, an empty slice that is made, what is appended to it. -/
set_option linter.unusedVariables false
set_option linter.unusedSimpArgs false
namespace Go.Am
open Go.RowKit

theorem opK_nilS {P : Program} {o : Oper} {os : List Operand} {t : Nat} (hk : opK P o.op = some (.raw 8 0 t, os)) : ∃ p q u e, o.op = .binOp .eql t p q u ∧ P.underlying t = some (.slice e) ∧ os = [p, q] := by
  cases ho : o.op <;> rw [ho] at hk <;> simp only [opK] at hk <;> (try (cases hk; done)) <;> (try (repeat' (split at hk <;> (try (cases hk; done)))))
  all_goals first
    | (simp only [Option.map_eq_some_iff, Prod.mk.injEq] at hk; obtain ⟨_, _, h1, _⟩ := hk; cases h1; done)
    | (simp only [eqKind] at hk
       split at hk <;> (try (cases hk; done)) <;> (try (split at hk <;> (try (cases hk; done)))) <;> (try (cases hk; done))
       all_goals first
         | (simp at hk; done)
         | (simp at hk
            obtain ⟨rfl, rfl⟩ := hk
            exact ⟨_, _, _, _, rfl, by assumption, rfl⟩))

section
variable {E : Env}

/-- Is a slice nil? -/
theorem Steps.nilS {s : St} {K : St → Prop} {d t r sz : Nat} {x y : X} {xs : List V} {rest : List Ins} (hx : evXs s.env [x, y] = some [.slice r sz xs, .nils]) (hk : ∀ b, (xs ≠ [] → b = false) → Steps E rest K (s.put (some d) (.bool b))) : Steps E (⟨some d, .raw 8 0 t, [x, y], none⟩ :: rest) K s := by
  refine Step1.raw fun slots ops o i ro n a w h hc hs hi R Q next hn => ?_
  obtain ⟨os, cc⟩ := comp_of hc
  have hgo : o.guard = none := by
    rcases cc.guard with ⟨_, e⟩ | ⟨j, want, t, _, _, e⟩
    · exact e
    · cases e
  obtain ⟨p, q, u, e, e1, e2, rfl⟩ := opK_nilS cc.op
  obtain ⟨v1, v2, hu, o1, o2⟩ := (opds_of R.1 cc.xs (evXs_ok hx)).two
  simp only [List.cons.injEq, and_true] at hu
  obtain ⟨hu1, hu2⟩ := hu
  subst hu1 hu2
  have hq := ok_nils o2
  have key : ∃ (ad : Option Addr) (m c : Nat), a.eval p = .slice ad m c ∧ (xs ≠ [] → ad.isSome = true) := by
    have r := ok_slice o1
    generalize a.eval p = z at r
    rcases slice_at r with ⟨⟨ad, cap, rfl⟩, e0⟩ | ⟨blk, off, cap, cv, rfl, _⟩
    · exact ⟨ad, 0, cap, rfl, fun h => absurd e0 h⟩
    · exact ⟨_, _, _, rfl, fun _ => rfl⟩
  obtain ⟨ad, m, c, ep, had⟩ := key
  have hex : (execOp a.eval o).run E.P w = .ok (.value (.bool ad.isNone)) w := by
    have g1 : (eqGuard .eql t p q (.slice ad m c) (.slice none 0 0)).run E.P w = .ok () w := by
      cases ad <;> rfl
    have g2 : (binOp .eql t (.slice ad m c) (.slice none 0 0)).run E.P w = .ok (.bool ad.isNone) w := Lib.run_eql_slice_nil w t e ad m c 0 0 e2
    simp only [execOp, e1, ep, hq, Sem.run_bind, g1, g2, Result.andThen_ok, Sem.run_pure]
  refine wpOp_done (x := .bool ad.isNone) (w' := w) hi (wanted_none hgo) (opK_defer cc.op) (.inl hex) (hn _ _ w h (hk ad.isNone fun hne => by have := had hne; cases ad <;> simp_all) ?_ rfl)
  show E.relF _ _ _ _ _ _
  rw [(put_log _ _ _).1, (put_log _ _ _).2, fs_put]
  exact rel_after (eff := { v := .bool ad.isNone }) cc R R.1 (.data (.bool _)) rfl

end

section
variable {P : Program} {nt : Nat} {S : Sur} {log : List (List V)} {stp : Bool} {σ : FSt} {a : Act} {w : World} {h : Gh} {o : Oper}

theorem opK_mksliceE {os : List Operand} {sz e : Nat} (hk : opK P o.op = some (.mkslice sz e, os)) : ∃ t len parts ie z, o.op = .buildSlice t len parts ∧ P.underlying t = some (.slice e) ∧ P.info? e = some ie ∧ ie.zero = some z ∧ z.cells.size = ie.size ∧ ie.size = sz ∧ parts.toList.map (·.1) = List.range len ∧ os = parts.toList.map (·.2) := by
  cases ho : o.op <;> rw [ho] at hk <;> simp only [opK] at hk <;> (try (cases hk; done)) <;> (try (repeat' (split at hk <;> (try (cases hk; done)))))
  all_goals first
    | (simp only [Option.map_eq_some_iff, Prod.mk.injEq] at hk; obtain ⟨_, _, h1, _⟩ := hk; cases h1; done)
    | (rename_i hz hc; rw [hz] at hc; simp at hc; done)
    | (rename_i t len parts x5 e' ht x4 ie hi x3 z hz hc
       cases hk
       simp only [hz, Option.isSome_some, Bool.true_and, Bool.and_eq_true, beq_iff_eq] at hc
       exact ⟨t, len, parts, ie, z, rfl, ht, hi, hz, hc.1, rfl, hc.2, rfl⟩)
    | (exfalso; simp only [eqKind] at hk; repeat' (split at hk <;> (try (cases hk; done))))

end

section
variable {E : Env}

/-- An empty slice that is made. -/
theorem Steps.mkE {s : St} {K : St → Prop} {d sz e : Nat} {rest : List Ins} (hd : get s.bx d = none)
    (hk : ∀ blk, Steps E rest K ((s.setB d ⟨[], false⟩).put (some d) (.sref blk 0 0 0))) : Steps E (⟨some d, .mkslice sz e, [], none⟩ :: rest) K s := by
  refine Step1.raw fun slots ops o i ro n a w h hc hs hi R Q next hn => ?_
  obtain ⟨os, cc⟩ := comp_of hc
  have hgo := guard_none cc rfl
  obtain ⟨t, len, parts, ie, z, ho, ht, hie, hz, hzs, hsz, hidx, rfl⟩ := opK_mksliceE cc.op
  have hO := opds_of R.1 cc.xs (vs := []) rfl
  have hlen : len = 0 := by
    have h1 := hO.get.1
    have h2 := congrArg List.length hidx
    simp at h1 h2
    omega
  subst hlen
  have hp : parts = #[] := by
    have h1 := hO.get.1
    simp at h1
    exact Array.size_eq_zero_iff.1 h1.symm
  have hrun : (Instr.buildSlice t 0 (parts.map fun (i, x) => (i, a.eval x))).run E.P w = .ok (.slice (some ⟨w.heap.size, 0, none⟩) 0 0) (w.alloc (.cells #[] e)) := by
    subst hp
    have hr0 : Array.range 0 = #[] := rfl
    simp [Instr.buildSlice, run_underlying ht, sizeOf, typeInfo, zeroValue, hie, hz, newRow, Instr.fill, hr0]
  have R1 := R.1.newBox (e := e) (cs := #[]) (zs := []) (d := d) E.ok (by rw [fs_b]; exact hd) (by simp) (fun j v x hv hx => by simp at hv)
  have hex : (execOp a.eval o).run E.P w = .ok (.value (.slice (some ⟨w.heap.size, 0, none⟩) 0 0)) (w.alloc (.cells #[] e)) := by
    simp only [execOp, ho, Sem.run_bind, hrun]; rfl
  have key := rel_after (eff := { v := .sref w.heap.size 0 0 0, wb := [(d, ⟨[], false⟩)] }) cc R R1 ⟨.data (.sref _ _ _ _), GrowV.of_data (w0 := w) (φ0 := h.φ) (.sref _ _ _ _)⟩ rfl
  refine wpOp_done hi (wanted_none hgo) (opK_defer cc.op) (.inl hex) (hn _ _ _ { h with M := fun b => h.M b ∨ b = w.heap.size, β := fun i => if i = d then some w.heap.size else h.β i } (hk w.heap.size) ?_ rfl)
  show E.relF _ _ _ _ _ _
  rw [(put_log _ _ _).1, (put_log _ _ _).2, fs_put, fs_setB]
  exact key

theorem done_appendE {P : Program} {nt : Nat} {S : Sur} {log : List (List V)} {stp : Bool} {σ : FSt} {a : Act} {w : World} {h : Gh} {o : Oper} {t e sz bytes d blk : Nat} {p q : Operand} {c : Call} {ie : TypeInfo} {z : Value} {ys : List V} {y : Value} (R : Rel nt S log stp σ a w h) (hS : S.ok) (ho : o.op = .call c) (hc : c.callee = .builtin .append) (hca : c.args.toList = [p, q]) (hct : c.argTypes.toList = [t, t])
    (ht : P.underlying t = some (.slice e)) (hi : P.info? e = some ie) (hz : ie.zero = some z) (hzs : z.cells.size = ie.size) (hsz : ie.size = sz) (hby : ie.bytes = bytes) (hx : a.eval p = .slice (some ⟨blk, 0, none⟩) 0 0) (hy : a.eval q = y)
    (ry : RepD w h.φ (.slice 0 sz ys) y) (hd : σ.b d = none) (h0 : 0 < sz) (hb : ys.length * bytes ≤ 2 ^ 47) (hm : ys.length ≤ 2 ^ 47) (hne : ys ≠ []) {pre : Prop} {rb : List Nat} :
    Done P nt S log stp σ a w h o { pre := pre, v := .bsl d 0 sz ys.length, wb := [(d, ⟨ys.flatMap cells, false⟩)], rb := rb } := by
  subst hsz hby
  have ea : c.args = #[p, q] := by rw [← Array.toList_inj]; simpa using hca
  have et : c.argTypes = #[t, t] := by rw [← Array.toList_inj]; simpa using hct
  have hexec : ∀ v w', (Builtin.append_ #[t, t] o.type #[.slice (some ⟨blk, 0, none⟩) 0 0, y]).run P w = .ok v w' → (execOp a.eval o).run P w = .ok (.value v) w' := fun v w' hr => by
    simp only [execOp, ho, resolve, hc, ea, et, Sem.run_bind, Sem.run_pure, Result.andThen_ok, invoke, builtin]
    simp [hx, hy, hr]
  have hml : ys.length ≤ maxLen := by unfold maxLen; omega
  have hpos : 0 < ys.length := List.length_pos_iff.2 hne
  rcases slice_at ry with ⟨_, e0⟩ | ⟨yb, yo, ycap, cvy, rfl, _, _, hys, ay⟩
  · exact absurd e0 hne
  have ylen := flat_len hys
  obtain ⟨news, hnews⟩ : ∃ news, news = (List.range (ys.length * ie.size)).map cvy := ⟨_, rfl⟩
  have nl : news.length = ys.length * ie.size := by rw [hnews]; simp
  have nget : ∀ j, j < ys.length * ie.size → news[j]? = some (cvy j) := fun j hj => by rw [hnews]; simp [hj]
  have ncell : ∀ j u, news[j]? = some u → w.cell? ((⟨yb, yo, none⟩ : Addr).add j) = some u := fun j u hu => by
    have hj : j < ys.length * ie.size := by have := (List.getElem?_eq_some_iff.1 hu).1; omega
    rw [nget j hj] at hu
    cases hu
    rw [Addr.add_lit]
    exact (ay j _ (List.getElem?_eq_getElem (by omega))).2.1
  have hrun := run_append_grow (P := P) w t o.type e ie z ht hi hz ⟨blk, 0, none⟩ 0 0 [] (by simp) (fun j v hv => by simp at hv) ⟨yb, yo, none⟩ ys.length ycap news nl ncell (by omega) (by omega) (by rw [Nat.zero_add, nextslicecap_zero hpos]; omega)
  have hge := grownCap_ge w (0 + ys.length) 0 e
  have R1 := (R.drew hS).newBox (e := e) (cs := [].toArray ++ news.toArray ++ Builtin.zeroCells z.cells (grownCap w (0 + ys.length) 0 e - (0 + ys.length))) (zs := ys.flatMap cells) hS hd
    (by rw [Array.size_append, Array.size_append]; simp only [List.size_toArray, nl, List.length_nil]; omega) (fun j v x hv hx => by
      have hlt := (List.getElem?_eq_some_iff.1 hv).1
      rw [Array.getElem?_append_left (by simp [nl]; omega)] at hx
      simp only [Array.empty_append, List.getElem?_toArray] at hx
      rw [nget j (by omega)] at hx
      cases hx
      obtain ⟨_, _, k3, k4⟩ := ay j v hv
      have r1 : RepD w.drew h.φ v (cvy j) := k3.mono (fun _ _ ho => ⟨ho, rfl, rfl⟩)
      exact ⟨.data r1, Grow.of_data r1, k4⟩)
  refine ⟨_, _, _, .inl (hexec _ _ hrun), R1, ⟨?_, fun j u zz hu hzz => ?_⟩, rfl⟩
  · rw [Nat.zero_add]
    exact .bsl d 0 _ ys.length _ w.heap.size (by simp) (by simpa using hge)
  cases j with
  | zero => simp [cells] at hu; subst hu; intro r sz xs e; cases e
  | succ j => simp [cells] at hu

/-- An append to an empty slice makes a box. -/
theorem Steps.appendE {s : St} {K : St → Prop} {d : Nat} {x y : X} {sz bytes e r blk : Nat} {ys : List V} {rest : List Ins} (hx : evXs s.env [x, y] = some [.sref blk 0 0 0, .slice r sz ys]) (hd : get s.bx d = none) (h0 : 0 < sz) (hb : ys.length * bytes ≤ 2 ^ 47) (hm : ys.length ≤ 2 ^ 47) (hne : ys ≠ [])
    (hk : Steps E rest K ((s.setB d ⟨ys.flatMap cells, false⟩).put (some d) (.bsl d 0 sz ys.length))) : Steps E (⟨some d, .append sz bytes e, [x, y], none⟩ :: rest) K s := by
  refine Step1.raw fun slots ops o i ro n a w h hc hs hi R Q next hn => ?_
  obtain ⟨os, cc⟩ := comp_of hc
  have hgo := guard_none cc rfl
  obtain ⟨c, p, q, t, ie, z, ho, hcal, hca, hct, ht, hie, hz, hzs, hsz, hby, rfl⟩ := opK_append cc.op
  obtain ⟨u, v, huv, hu, hv'⟩ := (opds_of R.1 cc.xs (evXs_ok hx)).two
  cases huv
  obtain ⟨x1, w', h', hr', R', ok, hy⟩ := done_appendE (d := d) (pre := True) (rb := [d]) R.1 E.ok ho hcal hca hct ht hie hz hzs hsz hby (ok_sref hu) rfl (ok_slice hv') (by rw [fs_b]; exact hd) h0 hb hm hne
  have key := rel_after cc R R' ok hy
  refine wpOp_done hi (wanted_none hgo) (opK_defer cc.op) hr' (hn _ _ _ h' hk ?_ hy)
  show E.relF _ _ _ _ _ _
  rw [(put_log _ _ _).1, (put_log _ _ _).2, fs_put, fs_setB]
  exact key

/-- Nothing is appended to an empty slice. -/
theorem Steps.appendE0 {s : St} {K : St → Prop} {d : Nat} {x y : X} {sz bytes e r blk : Nat} {rest : List Ins} (hx : evXs s.env [x, y] = some [.sref blk 0 0 0, .slice r sz []])
    (hk : Steps E rest K (s.put (some d) (.slice 0 sz []))) : Steps E (⟨some d, .append sz bytes e, [x, y], none⟩ :: rest) K s := by
  refine Step1.raw fun slots ops o i ro n a w h hc hs hi R Q next hn => ?_
  obtain ⟨os, cc⟩ := comp_of hc
  have hgo := guard_none cc rfl
  obtain ⟨c, p, q, t, ie, z, ho, hcal, hca, hct, ht, hie, hz, hzs, hsz, hby, rfl⟩ := opK_append cc.op
  obtain ⟨u, v, huv, hu, hv'⟩ := (opds_of R.1 cc.xs (evXs_ok hx)).two
  cases huv
  have hp := ok_sref hu
  have key : ∃ (ad : Option Addr) (cp : Nat), a.eval q = .slice ad 0 cp := by
    have r := ok_slice hv'
    generalize a.eval q = z at r
    rcases slice_at r with ⟨⟨ad, cap, rfl⟩, e0⟩ | ⟨blk, off, cap, cv, rfl, _⟩
    · exact ⟨ad, cap, rfl⟩
    · exact ⟨_, _, rfl⟩
  obtain ⟨ad, cp, eq⟩ := key
  have ea : c.args = #[p, q] := by rw [← Array.toList_inj]; simpa using hca
  have et : c.argTypes = #[t, t] := by rw [← Array.toList_inj]; simpa using hct
  have hex : (execOp a.eval o).run E.P w = .ok (.value (.slice (some ⟨blk, 0, none⟩) 0 0)) w := by
    simp only [execOp, ho, resolve, hcal, ea, et, Sem.run_bind, Sem.run_pure, Result.andThen_ok, invoke, builtin]
    cases ad with
    | none => simp [hp, eq, Builtin.append_, run_underlying ht, sizeOf, typeInfo, hie, Builtin.lenOf, run_firstCells_none, storeCells]
    | some ad =>
      have hf := run_firstCells_some (P := E.P) w ie.size 0 ad 0 cp [] (by simp) (fun j v hv => by simp at hv)
      simp [hp, eq, Builtin.append_, run_underlying ht, sizeOf, typeInfo, hie, Builtin.lenOf, hf, storeCells]
  have key := rel_after (eff := { v := .slice 0 sz [] }) cc R R.1 (x := .slice (some ⟨blk, 0, none⟩) 0 0) ⟨.data (.slice0 _ _ _), GrowV.of_data (w0 := w) (φ0 := h.φ) (.slice0 _ _ _)⟩ rfl
  refine wpOp_done hi (wanted_none hgo) (opK_defer cc.op) (.inl hex) (hn _ _ _ h hk ?_ rfl)
  show E.relF _ _ _ _ _ _
  rw [(put_log _ _ _).1, (put_log _ _ _).2, fs_put]
  exact key

end
end Go.Am

