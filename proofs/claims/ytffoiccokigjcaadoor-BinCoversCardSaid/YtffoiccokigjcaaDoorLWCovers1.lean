/-
  Parts of the proof, 1: the abstract machine, the compiled code, contracts of the functions, plain laws.
-/
import Derived.Test.YtffoiccokigjcaaDoorZ5


/-! The code of further functions, compiled. -/
set_option maxRecDepth 100000
namespace Go.Proofs.YtffoiccokigjcaaDoor
open Go.Am
/-- paravane/paravanelaw07.BinCovers -/
abbrev F.law07_BinCovers : Nat := 7
def ir.law07_BinCovers : IC :=
 (.seq (.reg [⟨(some 3), .box, [.t 0], none⟩,
     ⟨(some 6), .mov, [.c (.bool false)], none⟩])
   (.seq (.reg [⟨(some 16), .load 2 true, [.t 3], none⟩,
     ⟨(some 17), .mov, [.t 1], none⟩,
     ⟨(some 18), .call 22, [.t 16, .t 17], none⟩,
     ⟨(some 15), .mov, [.t 18], none⟩,
     ⟨(some 19), .extract 0, [.t 15], none⟩,
     ⟨(some 20), .extract 1, [.t 15], none⟩,
     ⟨(some 7), .mov, [.t 19], none⟩,
     ⟨(some 8), .mov, [.t 20], none⟩])
   (.seq (.reg [⟨(some 22), .load 2 true, [.t 3], none⟩,
     ⟨(some 23), .mov, [.t 1], none⟩,
     ⟨(some 24), .call 23, [.t 22, .t 23], none⟩,
     ⟨(some 21), .mov, [.t 24], none⟩,
     ⟨(some 25), .extract 0, [.t 21], none⟩,
     ⟨(some 26), .extract 1, [.t 21], none⟩,
     ⟨(some 9), .mov, [.t 25], none⟩,
     ⟨(some 10), .mov, [.t 26], none⟩])
   (.seq (.seq (.draw [0, 0, 3, 7, 15, 15, 63, 127, 255, 511, 1023, 511, 4095, 8191, 16383] [⟨(some 27), .mov, [.t 7], none⟩,
     ⟨(some 28), .mov, [.t 9], none⟩,
     ⟨(some 29), .binb true, [.t 27, .t 28], none⟩,
     ⟨(some 30), .mov, [.t 29], none⟩,
     ⟨(some 31), .mov, [.t 8], (some (30, false))⟩,
     ⟨(some 32), .mov, [.t 10], (some (30, false))⟩,
     ⟨(some 33), .bin .neq, [.t 31, .t 32], (some (30, false))⟩,
     ⟨(some 34), .pick, [.t 30, .c (.bool true), .t 33], none⟩,
     ⟨(some 35), .mov, [.t 34], none⟩,
     ⟨(some 36), .load 2 true, [.t 3], (some (35, false))⟩,
     ⟨(some 37), .call 24, [.t 36], (some (35, false))⟩,
     ⟨(some 38), .load 2 true, [.t 3], (some (35, false))⟩,
     ⟨(some 39), .call 25, [.t 38], (some (35, false))⟩,
     ⟨(some 40), .bin .neq, [.t 37, .t 39], (some (35, false))⟩,
     ⟨(some 41), .pick, [.t 35, .c (.bool true), .t 40], none⟩])
   (.cond (.t 41) (.seq (.reg [⟨(some 6), .mov, [.c (.bool false)], none⟩])
   .ret) .skip))
   (.seq (.reg [⟨(some 43), .load 2 true, [.t 3], none⟩,
     ⟨(some 44), .call 26, [.t 43], none⟩,
     ⟨(some 42), .mov, [.t 44], none⟩,
     ⟨(some 45), .extract 0, [.t 42], none⟩,
     ⟨(some 46), .extract 1, [.t 42], none⟩,
     ⟨(some 47), .extract 2, [.t 42], none⟩,
     ⟨(some 11), .mov, [.t 45], none⟩,
     ⟨(some 12), .mov, [.t 46], none⟩,
     ⟨(some 8), .mov, [.t 47], none⟩])
   (.seq (.reg [⟨(some 49), .load 2 true, [.t 3], none⟩,
     ⟨(some 50), .call 27, [.t 49], none⟩,
     ⟨(some 48), .mov, [.t 50], none⟩,
     ⟨(some 51), .extract 0, [.t 48], none⟩,
     ⟨(some 52), .extract 1, [.t 48], none⟩,
     ⟨(some 53), .extract 2, [.t 48], none⟩,
     ⟨(some 13), .mov, [.t 51], none⟩,
     ⟨(some 14), .mov, [.t 52], none⟩,
     ⟨(some 10), .mov, [.t 53], none⟩])
   (.seq (.seq (.reg [⟨(some 54), .mov, [.t 11], none⟩,
     ⟨(some 55), .mov, [.t 13], none⟩,
     ⟨(some 56), .call 28, [.t 54, .t 55], none⟩,
     ⟨(some 57), .un .not, [.t 56], none⟩,
     ⟨(some 58), .mov, [.t 57], none⟩,
     ⟨(some 59), .mov, [.t 12], (some (58, false))⟩,
     ⟨(some 60), .mov, [.t 14], (some (58, false))⟩,
     ⟨(some 61), .bin .neq, [.t 59, .t 60], (some (58, false))⟩,
     ⟨(some 62), .pick, [.t 58, .c (.bool true), .t 61], none⟩,
     ⟨(some 63), .mov, [.t 62], none⟩,
     ⟨(some 64), .mov, [.t 8], (some (63, false))⟩,
     ⟨(some 65), .mov, [.t 10], (some (63, false))⟩,
     ⟨(some 66), .bin .neq, [.t 64, .t 65], (some (63, false))⟩,
     ⟨(some 67), .pick, [.t 63, .c (.bool true), .t 66], none⟩])
   (.cond (.t 67) (.seq (.reg [⟨(some 6), .mov, [.c (.bool false)], none⟩])
   .ret) .skip))
   (.seq (.reg [⟨(some 69), .load 2 true, [.t 3], none⟩,
     ⟨(some 70), .mov, [.t 2], none⟩,
     ⟨(some 71), .call 29, [.t 69, .t 70], none⟩,
     ⟨(some 68), .mov, [.t 71], none⟩,
     ⟨(some 72), .extract 0, [.t 68], none⟩,
     ⟨(some 73), .extract 1, [.t 68], none⟩,
     ⟨(some 12), .mov, [.t 72], none⟩,
     ⟨(some 8), .mov, [.t 73], none⟩])
   (.seq (.reg [⟨(some 75), .load 2 true, [.t 3], none⟩,
     ⟨(some 76), .mov, [.t 2], none⟩,
     ⟨(some 77), .call 30, [.t 75, .t 76], none⟩,
     ⟨(some 74), .mov, [.t 77], none⟩,
     ⟨(some 78), .extract 0, [.t 74], none⟩,
     ⟨(some 79), .extract 1, [.t 74], none⟩,
     ⟨(some 14), .mov, [.t 78], none⟩,
     ⟨(some 10), .mov, [.t 79], none⟩])
   (.seq (.reg [⟨(some 80), .mov, [.t 12], none⟩,
     ⟨(some 81), .mov, [.t 14], none⟩,
     ⟨(some 82), .bin .eql, [.t 80, .t 81], none⟩,
     ⟨(some 83), .mov, [.t 82], none⟩,
     ⟨(some 84), .mov, [.t 8], (some (83, true))⟩,
     ⟨(some 85), .mov, [.t 10], (some (83, true))⟩,
     ⟨(some 86), .bin .eql, [.t 84, .t 85], (some (83, true))⟩,
     ⟨(some 87), .pick, [.t 83, .t 86, .c (.bool false)], none⟩,
     ⟨(some 88), .mov, [.t 87], none⟩,
     ⟨(some 89), .call 14, [], (some (88, true))⟩,
     ⟨(some 90), .pick, [.t 88, .t 89, .c (.bool false)], none⟩,
     ⟨(some 6), .mov, [.t 90], none⟩])
   .ret))))))))))
theorem chk.law07_BinCovers : chkF Tryd.prog 7 = some (91, ir.law07_BinCovers, [.tmp 6]) := by kernel_rfl

/-- paravane/bin.Covers -/
abbrev F.bin_Covers : Nat := 22
def ir.bin_Covers : IC :=
 (.seq (.reg [⟨(some 2), .box, [.t 0], none⟩,
     ⟨(some 4), .mov, [.c (.bool false)], none⟩,
     ⟨(some 5), .mov, [.c (.int .i64 0)], none⟩])
   (.seq (.seq (.reg [⟨(some 9), .load 2 true, [.t 2], none⟩,
     ⟨(some 10), .call 24, [.t 9], none⟩,
     ⟨(some 6), .mov, [.t 10], none⟩])
   (.seq (.reg [⟨(some 11), .mov, [.t 6], none⟩,
     ⟨(some 12), .bin .neq, [.t 11, .c (.int .i64 0)], none⟩])
   (.cond (.t 12) (.seq (.reg [⟨(some 13), .mov, [.t 6], none⟩,
     ⟨(some 4), .mov, [.c (.bool false)], none⟩,
     ⟨(some 5), .mov, [.t 13], none⟩])
   .ret) .skip)))
   (.seq (.reg [⟨(some 15), .load 2 true, [.t 2], none⟩,
     ⟨(some 16), .mov, [.t 1], none⟩,
     ⟨(some 17), .call 59, [.t 15, .t 16], none⟩,
     ⟨(some 14), .mov, [.t 17], none⟩,
     ⟨(some 18), .extract 0, [.t 14], none⟩,
     ⟨(some 19), .extract 1, [.t 14], none⟩,
     ⟨(some 7), .mov, [.t 18], none⟩,
     ⟨(some 8), .mov, [.t 19], none⟩])
   (.seq (.seq (.reg [⟨(some 20), .mov, [.t 8], none⟩,
     ⟨(some 21), .un .not, [.t 20], none⟩])
   (.cond (.t 21) (.seq (.reg [⟨(some 4), .mov, [.c (.bool false)], none⟩,
     ⟨(some 5), .mov, [.c (.int .i64 75)], none⟩])
   .ret) .skip))
   (.seq (.reg [⟨(some 22), .load 2 true, [.t 2], none⟩,
     ⟨(some 23), .mov, [.t 7], none⟩,
     ⟨(some 24), .call 60, [.t 22, .t 23], none⟩,
     ⟨(some 4), .mov, [.t 24], none⟩,
     ⟨(some 5), .mov, [.c (.int .i64 0)], none⟩])
   .ret)))))
theorem chk.bin_Covers : chkF Tryd.prog 22 = some (25, ir.bin_Covers, [.tmp 4, .tmp 5]) := by kernel_rfl

/-- paravane/paravaneref07.Covers -/
abbrev F.ref07_Covers : Nat := 23
def ir.ref07_Covers : IC :=
 (.seq (.reg [⟨(some 2), .box, [.t 0], none⟩,
     ⟨(some 4), .mov, [.c (.bool false)], none⟩,
     ⟨(some 5), .mov, [.c (.int .i64 0)], none⟩])
   (.seq (.seq (.reg [⟨(some 7), .load 2 true, [.t 2], none⟩,
     ⟨(some 8), .call 25, [.t 7], none⟩,
     ⟨(some 6), .mov, [.t 8], none⟩])
   (.seq (.reg [⟨(some 9), .mov, [.t 6], none⟩,
     ⟨(some 10), .bin .neq, [.t 9, .c (.int .i64 0)], none⟩])
   (.cond (.t 10) (.seq (.reg [⟨(some 11), .mov, [.t 6], none⟩,
     ⟨(some 4), .mov, [.c (.bool false)], none⟩,
     ⟨(some 5), .mov, [.t 11], none⟩])
   .ret) .skip)))
   (.seq (.seq (.reg [⟨(some 12), .load 2 true, [.t 2], none⟩,
     ⟨(some 13), .mov, [.t 1], none⟩,
     ⟨(some 14), .call 61, [.t 12, .t 13], none⟩,
     ⟨(some 15), .un .not, [.t 14], none⟩])
   (.cond (.t 15) (.seq (.reg [⟨(some 4), .mov, [.c (.bool false)], none⟩,
     ⟨(some 5), .mov, [.c (.int .i64 75)], none⟩])
   .ret) .skip))
   (.seq (.reg [⟨(some 16), .load 2 true, [.t 2], none⟩,
     ⟨(some 17), .mov, [.t 1], none⟩,
     ⟨(some 18), .call 62, [.t 16, .t 17], none⟩,
     ⟨(some 4), .mov, [.t 18], none⟩,
     ⟨(some 5), .mov, [.c (.int .i64 0)], none⟩])
   .ret))))
theorem chk.ref07_Covers : chkF Tryd.prog 23 = some (19, ir.ref07_Covers, [.tmp 4, .tmp 5]) := by kernel_rfl

/-- paravane/paravaneref07.CheckInfill -/
abbrev F.ref07_CheckInfill : Nat := 25
def ir.ref07_CheckInfill : IC :=
 (.seq (.reg [⟨(some 1), .box, [.t 0], none⟩,
     ⟨(some 2), .mov, [.c (.int .i64 0)], none⟩])
   (.seq (.reg [⟨(some 8), .faddr 0, [.t 1], none⟩,
     ⟨(some 9), .load 1 false, [.t 8], none⟩,
     ⟨(some 10), .len false, [.t 9], none⟩,
     ⟨(some 11), .bin .leq, [.t 10, .c (.int .i64 16)], none⟩,
     ⟨(some 12), .mov, [.t 11], none⟩,
     ⟨(some 13), .faddr 1, [.t 1], (some (12, true))⟩,
     ⟨(some 14), .load 1 false, [.t 13], (some (12, true))⟩,
     ⟨(some 15), .len false, [.t 14], (some (12, true))⟩,
     ⟨(some 16), .bin .leq, [.t 15, .c (.int .i64 10)], (some (12, true))⟩,
     ⟨(some 17), .pick, [.t 12, .t 16, .c (.bool false)], none⟩,
     ⟨(some 3), .mov, [.t 17], none⟩])
   (.seq (.seq (.reg [⟨(some 4), .mov, [.c (.int .i64 0)], none⟩])
   (.block 0 (.loop (.seq (.seq (.reg [⟨(some 18), .mov, [.t 4], none⟩,
     ⟨(some 19), .faddr 0, [.t 1], none⟩,
     ⟨(some 20), .load 1 false, [.t 19], none⟩,
     ⟨(some 21), .len false, [.t 20], none⟩,
     ⟨(some 22), .bin .lss, [.t 18, .t 21], none⟩])
   (.cond (.t 22) .skip (.exit 0)))
   (.seq (.block 1 (.reg [⟨(some 25), .mov, [.t 3], none⟩,
     ⟨(some 26), .mov, [.t 25], none⟩,
     ⟨(some 27), .faddr 0, [.t 1], (some (26, true))⟩,
     ⟨(some 28), .load 1 false, [.t 27], (some (26, true))⟩,
     ⟨(some 29), .mov, [.t 4], (some (26, true))⟩,
     ⟨(some 30), .iaddrS 1, [.t 28, .t 29], (some (26, true))⟩,
     ⟨(some 31), .load 1 false, [.t 30], (some (26, true))⟩,
     ⟨(some 32), .call 16, [.t 31, .c (.int .i64 1), .c (.int .i64 100)], (some (26, true))⟩,
     ⟨(some 33), .pick, [.t 26, .t 32, .c (.bool false)], none⟩,
     ⟨(some 3), .mov, [.t 33], none⟩]))
   (.reg [⟨(some 23), .mov, [.t 4], none⟩,
     ⟨(some 24), .bin .add, [.t 23, .c (.int .i64 1)], none⟩,
     ⟨(some 4), .mov, [.t 24], none⟩]))))))
   (.seq (.seq (.reg [⟨(some 5), .mov, [.c (.int .i64 0)], none⟩])
   (.block 2 (.loop (.seq (.seq (.reg [⟨(some 34), .mov, [.t 5], none⟩,
     ⟨(some 35), .faddr 1, [.t 1], none⟩,
     ⟨(some 36), .load 1 false, [.t 35], none⟩,
     ⟨(some 37), .len false, [.t 36], none⟩,
     ⟨(some 38), .bin .lss, [.t 34, .t 37], none⟩])
   (.cond (.t 38) .skip (.exit 2)))
   (.seq (.block 3 (.seq (.reg [⟨(some 41), .faddr 1, [.t 1], none⟩,
     ⟨(some 42), .load 1 false, [.t 41], none⟩,
     ⟨(some 43), .mov, [.t 5], none⟩,
     ⟨(some 44), .iaddrS 2, [.t 42, .t 43], none⟩,
     ⟨(some 45), .load 2 true, [.t 44], none⟩,
     ⟨(some 6), .alloc [(.int .i64 0), .nils], [], none⟩,
     ⟨none, .store 2, [.t 6, .t 45], none⟩])
   (.seq (.reg [⟨(some 46), .mov, [.t 3], none⟩,
     ⟨(some 47), .mov, [.t 46], none⟩,
     ⟨(some 48), .faddr 0, [.t 6], (some (47, true))⟩,
     ⟨(some 49), .load 1 false, [.t 48], (some (47, true))⟩,
     ⟨(some 50), .call 16, [.t 49, .c (.int .i64 1), .c (.int .i64 1000)], (some (47, true))⟩,
     ⟨(some 51), .pick, [.t 47, .t 50, .c (.bool false)], none⟩,
     ⟨(some 52), .mov, [.t 51], none⟩,
     ⟨(some 53), .faddr 1, [.t 6], (some (52, true))⟩,
     ⟨(some 54), .load 1 false, [.t 53], (some (52, true))⟩,
     ⟨(some 55), .len false, [.t 54], (some (52, true))⟩,
     ⟨(some 56), .faddr 0, [.t 1], (some (52, true))⟩,
     ⟨(some 57), .load 1 false, [.t 56], (some (52, true))⟩,
     ⟨(some 58), .len false, [.t 57], (some (52, true))⟩,
     ⟨(some 59), .bin .eql, [.t 55, .t 58], (some (52, true))⟩,
     ⟨(some 60), .pick, [.t 52, .t 59, .c (.bool false)], none⟩,
     ⟨(some 3), .mov, [.t 60], none⟩])
   (.seq (.reg [⟨(some 7), .mov, [.c (.int .i64 0)], none⟩])
   (.block 4 (.loop (.seq (.seq (.reg [⟨(some 61), .mov, [.t 7], none⟩,
     ⟨(some 62), .faddr 1, [.t 6], none⟩,
     ⟨(some 63), .load 1 false, [.t 62], none⟩,
     ⟨(some 64), .len false, [.t 63], none⟩,
     ⟨(some 65), .bin .lss, [.t 61, .t 64], none⟩])
   (.cond (.t 65) .skip (.exit 4)))
   (.seq (.block 5 (.reg [⟨(some 68), .mov, [.t 3], none⟩,
     ⟨(some 69), .mov, [.t 68], none⟩,
     ⟨(some 70), .faddr 1, [.t 6], (some (69, true))⟩,
     ⟨(some 71), .load 1 false, [.t 70], (some (69, true))⟩,
     ⟨(some 72), .mov, [.t 7], (some (69, true))⟩,
     ⟨(some 73), .iaddrS 1, [.t 71, .t 72], (some (69, true))⟩,
     ⟨(some 74), .load 1 false, [.t 73], (some (69, true))⟩,
     ⟨(some 75), .call 16, [.t 74, .c (.int .i64 0), .c (.int .i64 100)], (some (69, true))⟩,
     ⟨(some 76), .pick, [.t 69, .t 75, .c (.bool false)], none⟩,
     ⟨(some 3), .mov, [.t 76], none⟩]))
   (.reg [⟨(some 66), .mov, [.t 7], none⟩,
     ⟨(some 67), .bin .add, [.t 66, .c (.int .i64 1)], none⟩,
     ⟨(some 7), .mov, [.t 67], none⟩])))))))))
   (.reg [⟨(some 39), .mov, [.t 5], none⟩,
     ⟨(some 40), .bin .add, [.t 39, .c (.int .i64 1)], none⟩,
     ⟨(some 5), .mov, [.t 40], none⟩]))))))
   (.seq (.seq (.reg [⟨(some 77), .mov, [.t 3], none⟩,
     ⟨(some 78), .un .not, [.t 77], none⟩])
   (.cond (.t 78) (.seq (.reg [⟨(some 2), .mov, [.c (.int .i64 74)], none⟩])
   .ret) .skip))
   (.seq (.reg [⟨(some 2), .mov, [.c (.int .i64 0)], none⟩])
   .ret))))))
theorem chk.ref07_CheckInfill : chkF Tryd.prog 25 = some (79, ir.ref07_CheckInfill, [.tmp 2]) := by kernel_rfl

/-- paravane/paravaneref07.Best -/
abbrev F.ref07_Best : Nat := 27
def ir.ref07_Best : IC :=
 (.seq (.reg [⟨(some 1), .box, [.t 0], none⟩,
     ⟨(some 2), .mov, [.c .nils], none⟩,
     ⟨(some 3), .mov, [.c (.int .i64 0)], none⟩,
     ⟨(some 4), .mov, [.c (.int .i64 0)], none⟩])
   (.seq (.seq (.reg [⟨(some 7), .load 2 true, [.t 1], none⟩,
     ⟨(some 8), .call 25, [.t 7], none⟩,
     ⟨(some 5), .mov, [.t 8], none⟩])
   (.seq (.reg [⟨(some 9), .mov, [.t 5], none⟩,
     ⟨(some 10), .bin .neq, [.t 9, .c (.int .i64 0)], none⟩])
   (.cond (.t 10) (.seq (.reg [⟨(some 11), .mov, [.t 5], none⟩,
     ⟨(some 2), .mov, [.c .nils], none⟩,
     ⟨(some 3), .mov, [.c (.int .i64 0)], none⟩,
     ⟨(some 4), .mov, [.t 11], none⟩])
   .ret) .skip)))
   (.seq (.reg [⟨(some 12), .load 2 true, [.t 1], none⟩,
     ⟨(some 13), .call 67, [.t 12, .c (.int .i64 (-1))], none⟩,
     ⟨(some 6), .mov, [.t 13], none⟩])
   (.seq (.seq (.reg [⟨(some 14), .mov, [.t 6], none⟩,
     ⟨(some 15), .nilck, [.t 14], none⟩,
     ⟨(some 16), .faddr 5, [.t 15], none⟩,
     ⟨(some 17), .load 1 false, [.t 16], none⟩,
     ⟨(some 18), .un .not, [.t 17], none⟩])
   (.cond (.t 18) (.seq (.reg [⟨(some 2), .mov, [.c .nils], none⟩,
     ⟨(some 3), .mov, [.c (.int .i64 0)], none⟩,
     ⟨(some 4), .mov, [.c (.int .i64 4)], none⟩])
   .ret) .skip))
   (.seq (.draw [0, 1, 3, 7, 0, 16, 48, 112, 15, 511, 1023] [⟨(some 19), .mov, [.t 6], none⟩,
     ⟨(some 20), .nilck, [.t 19], none⟩,
     ⟨(some 21), .faddr 3, [.t 20], none⟩,
     ⟨(some 22), .load 1 false, [.t 21], none⟩,
     ⟨(some 23), .mov, [.t 6], none⟩,
     ⟨(some 24), .nilck, [.t 23], none⟩,
     ⟨(some 25), .faddr 4, [.t 24], none⟩,
     ⟨(some 26), .load 1 false, [.t 25], none⟩,
     ⟨(some 2), .mov, [.t 22], none⟩,
     ⟨(some 3), .mov, [.t 26], none⟩,
     ⟨(some 4), .mov, [.c (.int .i64 0)], none⟩])
   .ret)))))
theorem chk.ref07_Best : chkF Tryd.prog 27 = some (27, ir.ref07_Best, [.tmp 2, .tmp 3, .tmp 4]) := by kernel_rfl

/-- paravane/paravaneref07.Without -/
abbrev F.ref07_Without : Nat := 30
def ir.ref07_Without : IC :=
 (.seq (.reg [⟨(some 2), .box, [.t 0], none⟩,
     ⟨(some 4), .mov, [.c (.int .i64 0)], none⟩,
     ⟨(some 5), .mov, [.c (.int .i64 0)], none⟩])
   (.seq (.seq (.reg [⟨(some 8), .load 2 true, [.t 2], none⟩,
     ⟨(some 9), .call 25, [.t 8], none⟩,
     ⟨(some 6), .mov, [.t 9], none⟩])
   (.seq (.reg [⟨(some 10), .mov, [.t 6], none⟩,
     ⟨(some 11), .bin .neq, [.t 10, .c (.int .i64 0)], none⟩])
   (.cond (.t 11) (.seq (.reg [⟨(some 12), .mov, [.t 6], none⟩,
     ⟨(some 4), .mov, [.c (.int .i64 0)], none⟩,
     ⟨(some 5), .mov, [.t 12], none⟩])
   .ret) .skip)))
   (.seq (.seq (.reg [⟨(some 13), .mov, [.t 1], none⟩,
     ⟨(some 14), .faddr 1, [.t 2], none⟩,
     ⟨(some 15), .load 1 false, [.t 14], none⟩,
     ⟨(some 16), .len false, [.t 15], none⟩,
     ⟨(some 17), .bin .sub, [.t 16, .c (.int .i64 1)], none⟩,
     ⟨(some 18), .call 16, [.t 13, .c (.int .i64 0), .t 17], none⟩,
     ⟨(some 19), .un .not, [.t 18], none⟩])
   (.cond (.t 19) (.seq (.reg [⟨(some 4), .mov, [.c (.int .i64 0)], none⟩,
     ⟨(some 5), .mov, [.c (.int .i64 75)], none⟩])
   .ret) .skip))
   (.seq (.reg [⟨(some 20), .load 2 true, [.t 2], none⟩,
     ⟨(some 21), .mov, [.t 1], none⟩,
     ⟨(some 22), .call 67, [.t 20, .t 21], none⟩,
     ⟨(some 7), .mov, [.t 22], none⟩])
   (.seq (.seq (.reg [⟨(some 23), .mov, [.t 7], none⟩,
     ⟨(some 24), .nilck, [.t 23], none⟩,
     ⟨(some 25), .faddr 5, [.t 24], none⟩,
     ⟨(some 26), .load 1 false, [.t 25], none⟩,
     ⟨(some 27), .un .not, [.t 26], none⟩])
   (.cond (.t 27) (.seq (.reg [⟨(some 4), .mov, [.c (.int .i64 0)], none⟩,
     ⟨(some 5), .mov, [.c (.int .i64 4)], none⟩])
   .ret) .skip))
   (.seq (.draw [0, 1, 3, 7, 0, 16, 48, 112, 240, 511, 1023, 2047] [⟨(some 28), .mov, [.t 7], none⟩,
     ⟨(some 29), .nilck, [.t 28], none⟩,
     ⟨(some 30), .faddr 4, [.t 29], none⟩,
     ⟨(some 31), .load 1 false, [.t 30], none⟩,
     ⟨(some 32), .load 2 true, [.t 2], none⟩,
     ⟨(some 33), .call 67, [.t 32, .c (.int .i64 (-1))], none⟩,
     ⟨(some 34), .nilck, [.t 33], none⟩,
     ⟨(some 35), .faddr 4, [.t 34], none⟩,
     ⟨(some 36), .load 1 false, [.t 35], none⟩,
     ⟨(some 37), .bin .sub, [.t 31, .t 36], none⟩,
     ⟨(some 4), .mov, [.t 37], none⟩,
     ⟨(some 5), .mov, [.c (.int .i64 0)], none⟩])
   .ret))))))
theorem chk.ref07_Without : chkF Tryd.prog 30 = some (38, ir.ref07_Without, [.tmp 4, .tmp 5]) := by kernel_rfl

/-- paravane/paravaneref00.Own -/
abbrev F.ref00_Own : Nat := 31
def ir.ref00_Own : IC :=
 (.seq (.reg [⟨(some 2), .mov, [.c .nils], none⟩])
   (.seq (.reg [⟨(some 3), .mov, [.c .nils], none⟩])
   (.seq (.reg [⟨(some 4), .mov, [.t 3], none⟩,
     ⟨(some 5), .mov, [.t 0], none⟩,
     ⟨(some 6), .append 1 8 3, [.t 4, .t 5], none⟩,
     ⟨(some 2), .mov, [.t 6], none⟩])
   .ret)))
theorem chk.ref00_Own : chkF Tryd.prog 31 = some (7, ir.ref00_Own, [.tmp 2]) := by kernel_rfl

/-- paravane/bin.bits -/
abbrev F.bin_bits : Nat := 59
def ir.bin_bits : IC :=
 (.seq (.reg [⟨(some 2), .box, [.t 0], none⟩,
     ⟨(some 4), .mov, [.c (.int .i64 0)], none⟩,
     ⟨(some 5), .mov, [.c (.bool false)], none⟩])
   (.seq (.reg [⟨(some 6), .mov, [.c (.int .i64 0)], none⟩,
     ⟨(some 7), .mov, [.c (.int .i64 (-1))], none⟩])
   (.seq (.seq (.reg [⟨(some 10), .mov, [.t 1], none⟩,
     ⟨(some 11), .len false, [.t 10], none⟩,
     ⟨(some 12), .mov, [.c (.int .i64 0)], none⟩])
   (.block 0 (.loop (.seq (.reg [⟨(some 13), .bin .lss, [.t 12, .t 11], none⟩])
   (.seq (.cond (.t 13) .skip (.exit 0))
   (.seq (.block 1 (.seq (.reg [⟨(some 14), .iaddrS 1, [.t 10, .t 12], none⟩,
     ⟨(some 15), .load 1 false, [.t 14], none⟩,
     ⟨(some 9), .mov, [.t 15], none⟩])
   (.seq (.seq (.reg [⟨(some 16), .mov, [.t 9], none⟩,
     ⟨(some 17), .mov, [.t 7], none⟩,
     ⟨(some 18), .bin .add, [.t 17, .c (.int .i64 1)], none⟩,
     ⟨(some 19), .faddr 1, [.t 2], none⟩,
     ⟨(some 20), .load 1 false, [.t 19], none⟩,
     ⟨(some 21), .len false, [.t 20], none⟩,
     ⟨(some 22), .bin .sub, [.t 21, .c (.int .i64 1)], none⟩,
     ⟨(some 23), .call 47, [.t 16, .t 18, .t 22], none⟩,
     ⟨(some 24), .un .not, [.t 23], none⟩])
   (.cond (.t 24) (.seq (.reg [⟨(some 4), .mov, [.c (.int .i64 0)], none⟩,
     ⟨(some 5), .mov, [.c (.bool false)], none⟩])
   .ret) .skip))
   (.reg [⟨(some 25), .mov, [.t 6], none⟩,
     ⟨(some 26), .mov, [.t 9], none⟩,
     ⟨(some 27), .bin .shl, [.c (.int .i64 1), .t 26], none⟩,
     ⟨(some 28), .bin .or, [.t 25, .t 27], none⟩,
     ⟨(some 29), .mov, [.t 9], none⟩,
     ⟨(some 6), .mov, [.t 28], none⟩,
     ⟨(some 7), .mov, [.t 29], none⟩]))))
   (.reg [⟨(some 30), .bin .add, [.t 12, .c (.int .i64 1)], none⟩,
     ⟨(some 12), .mov, [.t 30], none⟩])))))))
   (.seq (.reg [⟨(some 31), .mov, [.t 6], none⟩,
     ⟨(some 4), .mov, [.t 31], none⟩,
     ⟨(some 5), .mov, [.c (.bool true)], none⟩])
   .ret))))
theorem chk.bin_bits : chkF Tryd.prog 59 = some (32, ir.bin_bits, [.tmp 4, .tmp 5]) := by kernel_rfl

/-- paravane/paravaneref07.choice -/
abbrev F.ref07_choice : Nat := 61
def ir.ref07_choice : IC :=
 (.seq (.reg [⟨(some 2), .box, [.t 0], none⟩,
     ⟨(some 4), .mov, [.c (.bool false)], none⟩])
   (.seq (.seq (.reg [⟨(some 5), .mov, [.c (.int .i64 0)], none⟩])
   (.block 0 (.loop (.seq (.seq (.reg [⟨(some 6), .mov, [.t 5], none⟩,
     ⟨(some 7), .mov, [.t 1], none⟩,
     ⟨(some 8), .len false, [.t 7], none⟩,
     ⟨(some 9), .bin .lss, [.t 6, .t 8], none⟩])
   (.cond (.t 9) .skip (.exit 0)))
   (.seq (.block 1 (.seq (.draw [0, 0, 3, 7, 0, 16, 48, 112, 255, 511, 1023, 2047, 4095, 8191, 16383, 16383, 49151, 131071, 262143, 16383, 16383, 1589247, 3686399, 8388607, 16777215, 33554431] [⟨(some 12), .mov, [.t 1], none⟩,
     ⟨(some 13), .mov, [.t 5], none⟩,
     ⟨(some 14), .iaddrS 1, [.t 12, .t 13], none⟩,
     ⟨(some 15), .load 1 false, [.t 14], none⟩,
     ⟨(some 16), .faddr 1, [.t 2], none⟩,
     ⟨(some 17), .load 1 false, [.t 16], none⟩,
     ⟨(some 18), .len false, [.t 17], none⟩,
     ⟨(some 19), .bin .sub, [.t 18, .c (.int .i64 1)], none⟩,
     ⟨(some 20), .call 16, [.t 15, .c (.int .i64 0), .t 19], none⟩,
     ⟨(some 21), .un .not, [.t 20], none⟩,
     ⟨(some 22), .mov, [.t 21], none⟩,
     ⟨(some 23), .mov, [.t 5], (some (22, false))⟩,
     ⟨(some 24), .bin .gtr, [.t 23, .c (.int .i64 0)], (some (22, false))⟩,
     ⟨(some 25), .mov, [.t 24], (some (22, false))⟩,
     ⟨(some 26), .mov, [.t 1], (some (25, true))⟩,
     ⟨(some 27), .mov, [.t 5], (some (25, true))⟩,
     ⟨(some 28), .bin .sub, [.t 27, .c (.int .i64 1)], (some (25, true))⟩,
     ⟨(some 29), .iaddrS 1, [.t 26, .t 28], (some (25, true))⟩,
     ⟨(some 30), .load 1 false, [.t 29], (some (25, true))⟩,
     ⟨(some 31), .mov, [.t 1], (some (25, true))⟩,
     ⟨(some 32), .mov, [.t 5], (some (25, true))⟩,
     ⟨(some 33), .iaddrS 1, [.t 31, .t 32], (some (25, true))⟩,
     ⟨(some 34), .load 1 false, [.t 33], (some (25, true))⟩,
     ⟨(some 35), .bin .geq, [.t 30, .t 34], (some (25, true))⟩,
     ⟨(some 36), .pick, [.t 25, .t 35, .c (.bool false)], (some (22, false))⟩,
     ⟨(some 37), .pick, [.t 22, .c (.bool true), .t 36], none⟩])
   (.cond (.t 37) (.seq (.reg [⟨(some 4), .mov, [.c (.bool false)], none⟩])
   .ret) .skip)))
   (.reg [⟨(some 10), .mov, [.t 5], none⟩,
     ⟨(some 11), .bin .add, [.t 10, .c (.int .i64 1)], none⟩,
     ⟨(some 5), .mov, [.t 11], none⟩]))))))
   (.seq (.reg [⟨(some 4), .mov, [.c (.bool true)], none⟩])
   .ret)))
theorem chk.ref07_choice : chkF Tryd.prog 61 = some (38, ir.ref07_choice, [.tmp 4]) := by kernel_rfl

/-- paravane/paravaneref07.covers -/
abbrev F.ref07_covers : Nat := 62
def ir.ref07_covers : IC :=
 (.seq (.reg [⟨(some 2), .box, [.t 0], none⟩,
     ⟨(some 4), .mov, [.c (.bool false)], none⟩])
   (.seq (.seq (.reg [⟨(some 5), .mov, [.c (.int .i64 0)], none⟩])
   (.block 0 (.loop (.seq (.seq (.reg [⟨(some 6), .mov, [.t 5], none⟩,
     ⟨(some 7), .faddr 0, [.t 2], none⟩,
     ⟨(some 8), .load 1 false, [.t 7], none⟩,
     ⟨(some 9), .len false, [.t 8], none⟩,
     ⟨(some 10), .bin .lss, [.t 6, .t 9], none⟩])
   (.cond (.t 10) .skip (.exit 0)))
   (.seq (.block 1 (.seq (.reg [⟨(some 13), .load 2 true, [.t 2], none⟩,
     ⟨(some 14), .mov, [.t 1], none⟩,
     ⟨(some 15), .mov, [.t 5], none⟩,
     ⟨(some 16), .call 90, [.t 13, .t 14, .t 15], none⟩,
     ⟨(some 17), .bin .gtr, [.t 16, .c (.int .i64 0)], none⟩])
   (.cond (.t 17) (.seq (.reg [⟨(some 4), .mov, [.c (.bool false)], none⟩])
   .ret) .skip)))
   (.reg [⟨(some 11), .mov, [.t 5], none⟩,
     ⟨(some 12), .bin .add, [.t 11, .c (.int .i64 1)], none⟩,
     ⟨(some 5), .mov, [.t 12], none⟩]))))))
   (.seq (.reg [⟨(some 4), .mov, [.c (.bool true)], none⟩])
   .ret)))
theorem chk.ref07_covers : chkF Tryd.prog 62 = some (18, ir.ref07_covers, [.tmp 4]) := by kernel_rfl

/-- paravane/paravaneref07.best -/
abbrev F.ref07_best : Nat := 67
def ir.ref07_best : IC :=
 (.seq (.reg [⟨(some 2), .box, [.t 0], none⟩,
     ⟨(some 4), .mov, [.c .nilp], none⟩])
   (.seq (.reg [⟨(some 6), .load 2 true, [.t 2], none⟩,
     ⟨(some 7), .mov, [.t 1], none⟩,
     ⟨(some 8), .build [.nils, .nils, (.int .i64 0), .nils, (.int .i64 0), (.bool false)] [(0, 2), (2, 1)], [.t 6, .t 7], none⟩,
     ⟨(some 9), .box, [.t 8], none⟩,
     ⟨(some 5), .mov, [.t 9], none⟩])
   (.seq (.reg [⟨(some 10), .mov, [.t 5], none⟩,
     ⟨(some 11), .call 93, [.t 10, .c .nils, .c (.int .i64 0)], none⟩])
   (.seq (.reg [⟨(some 12), .mov, [.t 5], none⟩,
     ⟨(some 4), .mov, [.t 12], none⟩])
   .ret))))
theorem chk.ref07_best : chkF Tryd.prog 67 = some (13, ir.ref07_best, [.tmp 4]) := by kernel_rfl

/-- paravane/paravaneref07.rest -/
abbrev F.ref07_rest : Nat := 90
def ir.ref07_rest : IC :=
 (.seq (.reg [⟨(some 3), .box, [.t 0], none⟩,
     ⟨(some 6), .mov, [.c (.int .i64 0)], none⟩])
   (.seq (.reg [⟨(some 9), .faddr 0, [.t 3], none⟩,
     ⟨(some 10), .load 1 false, [.t 9], none⟩,
     ⟨(some 11), .mov, [.t 2], none⟩,
     ⟨(some 12), .iaddrS 1, [.t 10, .t 11], none⟩,
     ⟨(some 13), .load 1 false, [.t 12], none⟩,
     ⟨(some 7), .mov, [.t 13], none⟩])
   (.seq (.seq (.reg [⟨(some 8), .mov, [.c (.int .i64 0)], none⟩])
   (.block 0 (.loop (.seq (.seq (.reg [⟨(some 14), .mov, [.t 8], none⟩,
     ⟨(some 15), .mov, [.t 1], none⟩,
     ⟨(some 16), .len false, [.t 15], none⟩,
     ⟨(some 17), .bin .lss, [.t 14, .t 16], none⟩])
   (.cond (.t 17) .skip (.exit 0)))
   (.seq (.block 1 (.draw [0, 0, 2, 0, 0, 24, 56, 126, 254, 510, 0, 2046, 4094, 8191, 16383] [⟨(some 20), .mov, [.t 7], none⟩,
     ⟨(some 21), .faddr 1, [.t 3], none⟩,
     ⟨(some 22), .load 1 false, [.t 21], none⟩,
     ⟨(some 23), .mov, [.t 1], none⟩,
     ⟨(some 24), .mov, [.t 8], none⟩,
     ⟨(some 25), .iaddrS 1, [.t 23, .t 24], none⟩,
     ⟨(some 26), .load 1 false, [.t 25], none⟩,
     ⟨(some 27), .iaddrS 2, [.t 22, .t 26], none⟩,
     ⟨(some 28), .faddr 1, [.t 27], none⟩,
     ⟨(some 29), .load 1 false, [.t 28], none⟩,
     ⟨(some 30), .mov, [.t 2], none⟩,
     ⟨(some 31), .iaddrS 1, [.t 29, .t 30], none⟩,
     ⟨(some 32), .load 1 false, [.t 31], none⟩,
     ⟨(some 33), .bin .sub, [.t 20, .t 32], none⟩,
     ⟨(some 7), .mov, [.t 33], none⟩]))
   (.reg [⟨(some 18), .mov, [.t 8], none⟩,
     ⟨(some 19), .bin .add, [.t 18, .c (.int .i64 1)], none⟩,
     ⟨(some 8), .mov, [.t 19], none⟩]))))))
   (.seq (.reg [⟨(some 34), .mov, [.t 7], none⟩,
     ⟨(some 35), .minmax true, [.c (.int .i64 0), .t 34], none⟩,
     ⟨(some 6), .mov, [.t 35], none⟩])
   .ret))))
theorem chk.ref07_rest : chkF Tryd.prog 90 = some (36, ir.ref07_rest, [.tmp 6]) := by kernel_rfl

/-- (*paravane/paravaneref07.Search).try -/
abbrev F.ref07_Search_try : Nat := 93
def ir.ref07_Search_try : IC :=
 (.seq (.seq (.reg [⟨(some 8), .mov, [.t 0], none⟩,
     ⟨(some 9), .nilck, [.t 8], none⟩,
     ⟨(some 10), .faddr 0, [.t 9], none⟩,
     ⟨(some 11), .load 2 true, [.t 10], none⟩,
     ⟨(some 12), .mov, [.t 1], none⟩,
     ⟨(some 13), .call 62, [.t 11, .t 12], none⟩])
   (.cond (.t 13) (.seq (.reg [⟨(some 14), .mov, [.t 0], none⟩,
     ⟨(some 15), .nilck, [.t 14], none⟩,
     ⟨(some 16), .faddr 0, [.t 15], none⟩,
     ⟨(some 17), .load 2 true, [.t 16], none⟩,
     ⟨(some 18), .mov, [.t 1], none⟩,
     ⟨(some 19), .call 106, [.t 17, .t 18], none⟩,
     ⟨(some 6), .mov, [.t 19], none⟩])
   (.seq (.reg [⟨(some 20), .mov, [.t 0], none⟩,
     ⟨(some 21), .nilck, [.t 20], none⟩,
     ⟨(some 22), .faddr 5, [.t 21], none⟩,
     ⟨(some 23), .load 1 false, [.t 22], none⟩,
     ⟨(some 24), .un .not, [.t 23], none⟩,
     ⟨(some 25), .mov, [.t 24], none⟩,
     ⟨(some 26), .mov, [.t 6], (some (25, false))⟩,
     ⟨(some 27), .mov, [.t 0], (some (25, false))⟩,
     ⟨(some 28), .nilck, [.t 27], (some (25, false))⟩,
     ⟨(some 29), .faddr 4, [.t 28], (some (25, false))⟩,
     ⟨(some 30), .load 1 false, [.t 29], (some (25, false))⟩,
     ⟨(some 31), .bin .lss, [.t 26, .t 30], (some (25, false))⟩,
     ⟨(some 32), .pick, [.t 25, .c (.bool true), .t 31], none⟩,
     ⟨(some 33), .mov, [.t 32], none⟩,
     ⟨(some 34), .mov, [.t 6], (some (33, false))⟩,
     ⟨(some 35), .mov, [.t 0], (some (33, false))⟩,
     ⟨(some 36), .nilck, [.t 35], (some (33, false))⟩,
     ⟨(some 37), .faddr 4, [.t 36], (some (33, false))⟩,
     ⟨(some 38), .load 1 false, [.t 37], (some (33, false))⟩,
     ⟨(some 39), .bin .eql, [.t 34, .t 38], (some (33, false))⟩,
     ⟨(some 40), .mov, [.t 39], (some (33, false))⟩,
     ⟨(some 41), .mov, [.t 1], (some (40, true))⟩,
     ⟨(some 42), .len false, [.t 41], (some (40, true))⟩,
     ⟨(some 43), .mov, [.t 0], (some (40, true))⟩,
     ⟨(some 44), .nilck, [.t 43], (some (40, true))⟩,
     ⟨(some 45), .faddr 3, [.t 44], (some (40, true))⟩,
     ⟨(some 46), .load 1 false, [.t 45], (some (40, true))⟩,
     ⟨(some 47), .len false, [.t 46], (some (40, true))⟩,
     ⟨(some 48), .bin .lss, [.t 42, .t 47], (some (40, true))⟩,
     ⟨(some 49), .mov, [.t 48], (some (40, true))⟩,
     ⟨(some 50), .mov, [.t 1], (some (49, false))⟩,
     ⟨(some 51), .len false, [.t 50], (some (49, false))⟩,
     ⟨(some 52), .mov, [.t 0], (some (49, false))⟩,
     ⟨(some 53), .nilck, [.t 52], (some (49, false))⟩,
     ⟨(some 54), .faddr 3, [.t 53], (some (49, false))⟩,
     ⟨(some 55), .load 1 false, [.t 54], (some (49, false))⟩,
     ⟨(some 56), .len false, [.t 55], (some (49, false))⟩,
     ⟨(some 57), .bin .eql, [.t 51, .t 56], (some (49, false))⟩,
     ⟨(some 58), .mov, [.t 57], (some (49, false))⟩,
     ⟨(some 59), .mov, [.t 1], (some (58, true))⟩,
     ⟨(some 60), .mov, [.t 0], (some (58, true))⟩,
     ⟨(some 61), .nilck, [.t 60], (some (58, true))⟩,
     ⟨(some 62), .faddr 3, [.t 61], (some (58, true))⟩,
     ⟨(some 63), .load 1 false, [.t 62], (some (58, true))⟩,
     ⟨(some 64), .call 107, [.t 59, .t 63], (some (58, true))⟩,
     ⟨(some 65), .pick, [.t 58, .t 64, .c (.bool false)], (some (49, false))⟩,
     ⟨(some 66), .pick, [.t 49, .c (.bool true), .t 65], (some (40, true))⟩,
     ⟨(some 67), .pick, [.t 40, .t 66, .c (.bool false)], (some (33, false))⟩,
     ⟨(some 68), .pick, [.t 33, .c (.bool true), .t 67], none⟩])
   (.cond (.t 68) (.reg [⟨(some 69), .mov, [.t 0], none⟩,
     ⟨(some 70), .mov, [.t 0], none⟩,
     ⟨(some 71), .mov, [.t 0], none⟩,
     ⟨(some 72), .mov, [.t 1], none⟩,
     ⟨(some 73), .call 31, [.t 72], none⟩,
     ⟨(some 74), .mov, [.t 6], none⟩,
     ⟨(some 75), .nilck, [.t 69], none⟩,
     ⟨(some 76), .faddr 3, [.t 75], none⟩,
     ⟨none, .store 1, [.t 76, .t 73], none⟩,
     ⟨(some 77), .nilck, [.t 70], none⟩,
     ⟨(some 78), .faddr 4, [.t 77], none⟩,
     ⟨none, .store 1, [.t 78, .t 74], none⟩,
     ⟨(some 79), .nilck, [.t 71], none⟩,
     ⟨(some 80), .faddr 5, [.t 79], none⟩,
     ⟨none, .store 1, [.t 80, .c (.bool true)], none⟩]) .skip))) .skip))
   (.seq (.reg [⟨(some 81), .mov, [.t 2], none⟩,
     ⟨(some 7), .mov, [.t 81], none⟩])
   (.block 0 (.loop (.seq (.seq (.reg [⟨(some 82), .mov, [.t 7], none⟩,
     ⟨(some 83), .mov, [.t 0], none⟩,
     ⟨(some 84), .nilck, [.t 83], none⟩,
     ⟨(some 85), .faddr 0, [.t 84], none⟩,
     ⟨(some 86), .faddr 1, [.t 85], none⟩,
     ⟨(some 87), .load 1 false, [.t 86], none⟩,
     ⟨(some 88), .len false, [.t 87], none⟩,
     ⟨(some 89), .bin .lss, [.t 82, .t 88], none⟩])
   (.cond (.t 89) .skip (.exit 0)))
   (.seq (.block 1 (.seq (.reg [⟨(some 92), .mov, [.t 7], none⟩,
     ⟨(some 93), .mov, [.t 0], none⟩,
     ⟨(some 94), .nilck, [.t 93], none⟩,
     ⟨(some 95), .faddr 2, [.t 94], none⟩,
     ⟨(some 96), .load 1 false, [.t 95], none⟩,
     ⟨(some 97), .bin .neq, [.t 92, .t 96], none⟩])
   (.cond (.t 97) (.reg [⟨(some 98), .mov, [.t 0], none⟩,
     ⟨(some 99), .mov, [.t 1], none⟩,
     ⟨(some 100), .call 31, [.t 99], none⟩,
     ⟨(some 101), .mov, [.t 7], none⟩,
     ⟨(some 102), .mkslice 1 3, [.t 101], none⟩,
     ⟨(some 103), .append 1 8 3, [.t 100, .t 102], none⟩,
     ⟨(some 104), .mov, [.t 7], none⟩,
     ⟨(some 105), .bin .add, [.t 104, .c (.int .i64 1)], none⟩,
     ⟨(some 106), .call 93, [.t 98, .t 103, .t 105], none⟩]) .skip)))
   (.reg [⟨(some 90), .mov, [.t 7], none⟩,
     ⟨(some 91), .bin .add, [.t 90, .c (.int .i64 1)], none⟩,
     ⟨(some 7), .mov, [.t 91], none⟩])))))))
theorem chk.ref07_Search_try : chkF Tryd.prog 93 = some (107, ir.ref07_Search_try, []) := by kernel_rfl

/-- paravane/paravaneref07.cost -/
abbrev F.ref07_cost : Nat := 106
def ir.ref07_cost : IC :=
 (.seq (.reg [⟨(some 2), .box, [.t 0], none⟩,
     ⟨(some 4), .mov, [.c (.int .i64 0)], none⟩])
   (.seq (.reg [⟨(some 5), .mov, [.c (.int .i64 0)], none⟩])
   (.seq (.seq (.reg [⟨(some 6), .mov, [.c (.int .i64 0)], none⟩])
   (.block 0 (.loop (.seq (.seq (.reg [⟨(some 7), .mov, [.t 6], none⟩,
     ⟨(some 8), .mov, [.t 1], none⟩,
     ⟨(some 9), .len false, [.t 8], none⟩,
     ⟨(some 10), .bin .lss, [.t 7, .t 9], none⟩])
   (.cond (.t 10) .skip (.exit 0)))
   (.seq (.block 1 (.draw [0, 0, 2, 0, 0, 24, 56, 126, 254, 510, 1023, 2047] [⟨(some 13), .mov, [.t 5], none⟩,
     ⟨(some 14), .faddr 1, [.t 2], none⟩,
     ⟨(some 15), .load 1 false, [.t 14], none⟩,
     ⟨(some 16), .mov, [.t 1], none⟩,
     ⟨(some 17), .mov, [.t 6], none⟩,
     ⟨(some 18), .iaddrS 1, [.t 16, .t 17], none⟩,
     ⟨(some 19), .load 1 false, [.t 18], none⟩,
     ⟨(some 20), .iaddrS 2, [.t 15, .t 19], none⟩,
     ⟨(some 21), .faddr 0, [.t 20], none⟩,
     ⟨(some 22), .load 1 false, [.t 21], none⟩,
     ⟨(some 23), .bin .add, [.t 13, .t 22], none⟩,
     ⟨(some 5), .mov, [.t 23], none⟩]))
   (.reg [⟨(some 11), .mov, [.t 6], none⟩,
     ⟨(some 12), .bin .add, [.t 11, .c (.int .i64 1)], none⟩,
     ⟨(some 6), .mov, [.t 12], none⟩]))))))
   (.seq (.reg [⟨(some 24), .mov, [.t 5], none⟩,
     ⟨(some 4), .mov, [.t 24], none⟩])
   .ret))))
theorem chk.ref07_cost : chkF Tryd.prog 106 = some (25, ir.ref07_cost, [.tmp 4]) := by kernel_rfl

/-- paravane/paravaneref00.Earlier -/
abbrev F.ref00_Earlier : Nat := 107
def ir.ref00_Earlier : IC :=
 (.seq (.reg [⟨(some 4), .mov, [.c (.bool false)], none⟩])
   (.seq (.seq (.reg [⟨(some 5), .mov, [.c (.int .i64 0)], none⟩])
   (.block 0 (.loop (.seq (.seq (.reg [⟨(some 6), .mov, [.t 5], none⟩,
     ⟨(some 7), .mov, [.t 0], none⟩,
     ⟨(some 8), .len false, [.t 7], none⟩,
     ⟨(some 9), .bin .lss, [.t 6, .t 8], none⟩,
     ⟨(some 10), .mov, [.t 9], none⟩,
     ⟨(some 11), .mov, [.t 5], (some (10, true))⟩,
     ⟨(some 12), .mov, [.t 1], (some (10, true))⟩,
     ⟨(some 13), .len false, [.t 12], (some (10, true))⟩,
     ⟨(some 14), .bin .lss, [.t 11, .t 13], (some (10, true))⟩,
     ⟨(some 15), .pick, [.t 10, .t 14, .c (.bool false)], none⟩])
   (.cond (.t 15) .skip (.exit 0)))
   (.seq (.block 1 (.seq (.draw [0, 0, 3, 7, 0, 0, 48, 112, 255] [⟨(some 18), .mov, [.t 0], none⟩,
     ⟨(some 19), .mov, [.t 5], none⟩,
     ⟨(some 20), .iaddrS 1, [.t 18, .t 19], none⟩,
     ⟨(some 21), .load 1 false, [.t 20], none⟩,
     ⟨(some 22), .mov, [.t 1], none⟩,
     ⟨(some 23), .mov, [.t 5], none⟩,
     ⟨(some 24), .iaddrS 1, [.t 22, .t 23], none⟩,
     ⟨(some 25), .load 1 false, [.t 24], none⟩,
     ⟨(some 26), .bin .neq, [.t 21, .t 25], none⟩])
   (.cond (.t 26) (.seq (.draw [0, 0, 3, 7, 0, 0, 48, 112, 255, 511] [⟨(some 27), .mov, [.t 0], none⟩,
     ⟨(some 28), .mov, [.t 5], none⟩,
     ⟨(some 29), .iaddrS 1, [.t 27, .t 28], none⟩,
     ⟨(some 30), .load 1 false, [.t 29], none⟩,
     ⟨(some 31), .mov, [.t 1], none⟩,
     ⟨(some 32), .mov, [.t 5], none⟩,
     ⟨(some 33), .iaddrS 1, [.t 31, .t 32], none⟩,
     ⟨(some 34), .load 1 false, [.t 33], none⟩,
     ⟨(some 35), .bin .lss, [.t 30, .t 34], none⟩,
     ⟨(some 4), .mov, [.t 35], none⟩])
   .ret) .skip)))
   (.reg [⟨(some 16), .mov, [.t 5], none⟩,
     ⟨(some 17), .bin .add, [.t 16, .c (.int .i64 1)], none⟩,
     ⟨(some 5), .mov, [.t 17], none⟩]))))))
   (.seq (.reg [⟨(some 36), .mov, [.t 0], none⟩,
     ⟨(some 37), .len false, [.t 36], none⟩,
     ⟨(some 38), .mov, [.t 1], none⟩,
     ⟨(some 39), .len false, [.t 38], none⟩,
     ⟨(some 40), .bin .lss, [.t 37, .t 39], none⟩,
     ⟨(some 4), .mov, [.t 40], none⟩])
   .ret)))
theorem chk.ref00_Earlier : chkF Tryd.prog 107 = some (41, ir.ref00_Earlier, [.tmp 4]) := by kernel_rfl

end Go.Proofs.YtffoiccokigjcaaDoor

/-! Weakening inside a region. -/
set_option linter.unusedVariables false
set_option linter.unusedSimpArgs false
namespace Go.Proofs.YtffoiccokigjcaaDoor
open Go.Am

theorem stepsWeak {E : Env} {s s' : St} {i : Ins} {r : List Ins} {K : St → Prop} (h : Wk E s s') (k : Am.Steps E (i :: r) K s') : Am.Steps E (i :: r) K s := by
  refine Step1.raw fun slots ops o j ro n a w hh hc hs hi R Q next hn => ?_
  obtain ⟨h', R', hy⟩ := h a w hh R
  exact step_ok (k : Step1 E i (Am.Steps E r K) s') hc hs hi R' fun s'' a' w' h'' k R ey => hn s'' a' w' h'' k R (ey.trans hy)

theorem VLe.agg2 {a b c d : V} (h : VLe a c) (k : VLe b d) : VLe (.agg [a, b]) (.agg [c, d]) := .agg rfl fun i v u h1 h2 => by
  match i with
  | 0 => cases h1; cases h2; exact h
  | 1 => cases h1; cases h2; exact k
  | i + 2 => simp at h1

end Go.Proofs.YtffoiccokigjcaaDoor

/-! Plain laws of choices: the best one; a lack less, a pass more; choices as numbers. -/
set_option linter.unusedVariables false
set_option linter.unusedSimpArgs false
set_option maxRecDepth 40000
set_option maxHeartbeats 4000000
namespace Go.Proofs.YtffoiccokigjcaaDoor
open Go.Am

/-! ### The best choice -/
def bestTo (x : Nf) (wo k : Nat) : Nat × Bool := (List.range k).foldl (bestStep x wo) (0, false)

theorem bestTo_spec (x : Nf) (wo : Nat) : ∀ k, ((bestTo x wo k).2 = true → (bestTo x wo k).1 < k ∧ skips x wo (bestTo x wo k).1 = false) ∧ ∀ b < k, skips x wo b = false → (bestTo x wo k).2 = true ∧ costB x (bestTo x wo k).1 ≤ costB x b
  | 0 => ⟨fun h => by simp [bestTo] at h, fun b h => by omega⟩
  | k + 1 => by
    obtain ⟨h1, h2⟩ := bestTo_spec x wo k
    have e : bestTo x wo (k + 1) = bestStep x wo (bestTo x wo k) k := by unfold bestTo; rw [List.range_succ, List.foldl_append]; rfl
    rw [e]
    obtain ⟨⟨o, so⟩, hos⟩ : ∃ p, bestTo x wo k = p := ⟨_, rfl⟩
    rw [hos] at h1 h2 ⊢
    unfold bestStep
    by_cases hk : skips x wo k = true
    · rw [if_pos hk]
      refine ⟨fun h => ⟨by have := (h1 h).1; omega, (h1 h).2⟩, fun b hb hs => ?_⟩
      rcases Nat.lt_succ_iff_lt_or_eq.1 hb with hb | rfl
      · exact h2 b hb hs
      · rw [hk] at hs; cases hs
    have hk : skips x wo k = false := by simpa using hk
    rw [hk, if_neg (by simp)]
    cases so with
    | false =>
      rw [if_pos (show (!(o, false).2) = true from rfl)]
      refine ⟨fun _ => ⟨by simp, hk⟩, fun b hb hs => ?_⟩
      rcases Nat.lt_succ_iff_lt_or_eq.1 hb with hb | rfl
      · have := (h2 b hb hs).1; cases this
      · exact ⟨rfl, Int.le_refl _⟩
    | true =>
      rw [if_neg (by simp)]
      obtain ⟨a1, a2⟩ := h1 rfl
      by_cases hb : better x k o = true
      · rw [if_pos hb]
        have hle : costB x k ≤ costB x o := by
          unfold better at hb
          split at hb
          · have := of_decide_eq_true hb; omega
          · rename_i h; have := Classical.not_not.1 h; omega
        refine ⟨fun _ => ⟨by simp, hk⟩, fun b hb hs => ?_⟩
        rcases Nat.lt_succ_iff_lt_or_eq.1 hb with hb | rfl
        · exact ⟨rfl, Int.le_trans hle (h2 b hb hs).2⟩
        · exact ⟨rfl, Int.le_refl _⟩
      · rw [if_neg hb]
        have hle : costB x o ≤ costB x k := by
          have hb : better x k o = false := by simpa using hb
          unfold better at hb
          split at hb
          · have := of_decide_eq_false hb; omega
          · rename_i h; have := Classical.not_not.1 h; omega
        refine ⟨fun _ => ⟨by simp only at a1 ⊢; omega, a2⟩, fun b hb hs => ?_⟩
        rcases Nat.lt_succ_iff_lt_or_eq.1 hb with hb | rfl
        · exact h2 b hb hs
        · exact ⟨rfl, hle⟩

theorem skips0 (x : Nf) (b : Nat) : skips x 0 b = !coversB x b := by simp [skips]

theorem best_some {x : Nf} (h : (bestN x 0).2 = true) : (bestN x 0).1 < 2 ^ x.passes.length ∧ coversB x (bestN x 0).1 = true := by
  have := (bestTo_spec x 0 (2 ^ x.passes.length)).1 h
  rw [skips0] at this
  exact ⟨this.1, (Bool.not_eq_eq_eq_not.1 this.2)⟩
theorem best_least {x : Nf} {b : Nat} (hb : b < 2 ^ x.passes.length) (hc : coversB x b = true) : (bestN x 0).2 = true ∧ costB x (bestN x 0).1 ≤ costB x b :=
  (bestTo_spec x 0 (2 ^ x.passes.length)).2 b hb (by rw [skips0, hc]; rfl)

/-! ### A lack less -/
def LeI : List Int → List Int → Prop
  | [], [] => True
  | a :: l, b :: m => a ≤ b ∧ LeI l m
  | _, _ => False

theorem LeI.refl : ∀ l, LeI l l
  | [] => trivial
  | a :: l => ⟨Int.le_refl a, LeI.refl l⟩
theorem LeI.rest : ∀ {c d : List Int} (a : List Int), LeI c d → LeI (restN c a) (restN d a)
  | [], [], a, _ => by simp [restN, LeI]
  | x :: c, y :: d, [], _ => trivial
  | x :: c, y :: d, z :: a, h => by
    have := LeI.rest a h.2
    have h1 := h.1
    have e : max 0 (x - z) ≤ max 0 (y - z) := by omega
    exact ⟨e, this⟩
  | [], _ :: _, _, h => h.elim
  | _ :: _, [], _, h => h.elim
theorem LeI.rests {p : Nat → List Int} : ∀ (l : List Nat) {c d : List Int}, LeI c d → LeI (l.foldl (fun c i => restN c (p i)) c) (l.foldl (fun c i => restN c (p i)) d)
  | [], c, d, h => h
  | i :: l, c, d, h => LeI.rests l (h.rest (p i))
theorem LeI.sum : ∀ {c d : List Int} (z w : Int), LeI c d → z ≤ w → c.foldl (· + ·) z ≤ d.foldl (· + ·) w
  | [], [], _, _, _, h => h
  | x :: c, y :: d, z, w, h, h2 => LeI.sum (z + x) (w + y) h.2 (by have := h.1; omega)
  | [], _ :: _, _, _, h, _ => h.elim
  | _ :: _, [], _, _, h, _ => h.elim
theorem sum_nonneg : ∀ (l : List Int) (z : Int), 0 ≤ z → (∀ n ∈ l, 0 ≤ n) → 0 ≤ l.foldl (· + ·) z
  | [], z, h, _ => h
  | a :: l, z, h, k => sum_nonneg l (z + a) (by have := k a (by simp); omega) fun n hn => k n (by simp [hn])
theorem restN_nonneg {n : Int} : ∀ (c a : List Int), n ∈ restN c a → 0 ≤ n
  | [], a, h => by simp [restN] at h
  | x :: c, [], h => by simp [restN] at h
  | x :: c, y :: a, h => by
    have e : restN (x :: c) (y :: a) = max 0 (x - y) :: restN c a := rfl
    rw [e] at h
    rcases List.mem_cons.1 h with rfl | h
    · omega
    · exact restN_nonneg c a h
theorem rests_nonneg {p : Nat → List Int} : ∀ (l : List Nat) {c : List Int}, (∀ n ∈ c, 0 ≤ n) → ∀ n ∈ l.foldl (fun c i => restN c (p i)) c, 0 ≤ n
  | [], c, h => h
  | i :: l, c, h => rests_nonneg l (c := restN c (p i)) fun n hn => restN_nonneg _ _ hn

theorem covers_mono {x y : Nf} (hp : x.passes = y.passes) (hl : LeI y.lacks x.lacks) (hn : ∀ n ∈ y.lacks, 0 ≤ n) {b : Nat} (h : coversB x b = true) : coversB y b = true := by
  unfold coversB at h ⊢
  have h := of_decide_eq_true h
  refine decide_eq_true ?_
  have e : ∀ z : Nf, restsL z (choiceN b) = (choiceN b).foldl (fun c i => restN c (addsOf z i)) z.lacks := fun z => rfl
  have ea : addsOf y = addsOf x := by unfold addsOf; rw [hp]
  have h1 := (LeI.rests (p := addsOf x) (choiceN b) hl).sum 0 0 (Int.le_refl 0)
  have h2 := sum_nonneg _ 0 (Int.le_refl 0) (rests_nonneg (p := addsOf x) (choiceN b) hn)
  unfold sumF at h ⊢
  rw [List.map_id] at h ⊢
  rw [e] at h ⊢
  rw [ea]
  omega

theorem less_best {x y : Nf} (hp : x.passes = y.passes) (hl : LeI y.lacks x.lacks) (hn : ∀ n ∈ y.lacks, 0 ≤ n) (h : (bestN x 0).2 = true) : (bestN y 0).2 = true ∧ costB y (bestN y 0).1 ≤ costB x (bestN x 0).1 := by
  obtain ⟨h1, h2⟩ := best_some h
  have := best_least (x := y) (by rw [← hp]; exact h1) (covers_mono hp hl hn h2)
  have ec : costB y (bestN x 0).1 = costB x (bestN x 0).1 := by unfold costB costOf; rw [hp]
  rw [ec] at this
  exact this

/-! ### A pass more -/
theorem mem_choiceN {b i : Nat} (h : i ∈ choiceN b) : b.testBit i = true := (List.mem_filter.1 h).2
theorem rests_app {x y : Nf} (hl : y.lacks = x.lacks) {p : Ps} (hp : y.passes = x.passes ++ [p]) {b : Nat} (hb : b < 2 ^ x.passes.length) : restsL y (choiceN b) = restsL x (choiceN b) ∧ costB y b = costB x b := by
  have hlt : ∀ i ∈ choiceN b, i < x.passes.length := fun i hi => by
    have := mem_choiceN hi
    by_cases h : i < x.passes.length
    · exact h
    · have h2 := Nat.testBit_lt_two_pow (x := b) (i := i) (Nat.lt_of_lt_of_le hb (Nat.pow_le_pow_right (by omega) (by omega)))
      rw [h2] at this; cases this
  have hg : ∀ i ∈ choiceN b, y.passes.getD i p0 = x.passes.getD i p0 := fun i hi => by
    have := hlt i hi
    rw [hp, List.getD_eq_getElem?_getD, List.getElem?_append_left this, ← List.getD_eq_getElem?_getD]
  constructor
  · unfold restsL
    rw [hl]
    have : ∀ (l : List Nat) (c : List Int), (∀ i ∈ l, y.passes.getD i p0 = x.passes.getD i p0) → l.foldl (fun c i => restN c (addsOf y i)) c = l.foldl (fun c i => restN c (addsOf x i)) c := by
      intro l
      induction l with
      | nil => intros; rfl
      | cons i l ih =>
        intro c h
        rw [List.foldl_cons, List.foldl_cons, ih _ fun j hj => h j (by simp [hj])]
        unfold addsOf
        rw [h i (by simp)]
    exact this _ _ hg
  · unfold costB sumF choiceL castL
    congr 1
    rw [List.map_map, List.map_map]
    refine List.map_congr_left fun i hi => ?_
    simp only [Function.comp, Int.toNat_natCast]
    unfold costOf
    rw [hg i hi]

theorem more_best {x y : Nf} (hl : y.lacks = x.lacks) {p : Ps} (hp : y.passes = x.passes ++ [p]) (h : (bestN x 0).2 = true) : (bestN y 0).2 = true ∧ costB y (bestN y 0).1 ≤ costB x (bestN x 0).1 := by
  obtain ⟨h1, h2⟩ := best_some h
  obtain ⟨e1, e2⟩ := rests_app hl hp h1
  have hlt : (bestN x 0).1 < 2 ^ y.passes.length := by
    rw [hp, List.length_append]
    exact Nat.lt_of_lt_of_le h1 (Nat.pow_le_pow_right (by omega) (by omega))
  have := best_least (x := y) hlt (by unfold coversB at h2 ⊢; rw [e1]; exact h2)
  rw [e2] at this
  exact this

/-! ### A choice as a number -/
def bitsG (n : Nat) : List Int → Nat → Int → Option Nat
  | [], out, _ => some out
  | i :: l, out, last => if btw i (last + 1) ((n : Int) - 1) then bitsG n l (out ||| 2 ^ i.toNat) i else none

theorem choice_or : ∀ i < 10, ∀ b < 2 ^ i, choiceN (b ||| 2 ^ i) = choiceN b ++ [i] := by decide +kernel

theorem bitsG_spec {n : Nat} (hn : n ≤ 10) : ∀ (l : List Int) (out : Nat) (last : Nat) (r : Nat), last ≤ n → out < 2 ^ last → bitsG n l out ((last : Int) - 1) = some r → r < 2 ^ n ∧ choiceL r = choiceL out ++ l
  | [], out, last, r, hl, ho, h => by
    obtain rfl := Option.some.inj h
    exact ⟨Nat.lt_of_lt_of_le ho (Nat.pow_le_pow_right (by omega) hl), by simp⟩
  | i :: l, out, last, r, hl, ho, h => by
    simp only [bitsG] at h
    split at h
    · rename_i hb
      rw [btw_iff] at hb
      obtain ⟨k, rfl⟩ : ∃ k : Nat, i = k := ⟨i.toNat, by omega⟩
      rw [Int.toNat_natCast] at h
      have hk : k < n := by omega
      have hok : out < 2 ^ k := Nat.lt_of_lt_of_le ho (Nat.pow_le_pow_right (by omega) (by omega))
      have ho2 : out ||| 2 ^ k < 2 ^ (k + 1) := Nat.or_lt_two_pow (Nat.lt_of_lt_of_le hok (Nat.pow_le_pow_right (by omega) (by omega))) (Nat.pow_lt_pow_right (by omega) (by omega))
      obtain ⟨h1, h2⟩ := bitsG_spec hn l (out ||| 2 ^ k) (k + 1) r (by omega) ho2 (by rw [show ((k + 1 : Nat) : Int) - 1 = k by omega]; exact h)
      refine ⟨h1, ?_⟩
      rw [h2]
      unfold choiceL castL
      rw [choice_or k (by omega) out hok]
      simp
    · cases h

theorem bitsG_choice : ∀ n < 11, ∀ b < 2 ^ n, bitsG n (choiceL b) 0 (-1) = some b := by decide +kernel

end Go.Proofs.YtffoiccokigjcaaDoor

/-! Contracts: bits, Covers, Own. -/
set_option linter.unusedVariables false
set_option linter.unusedSimpArgs false
set_option maxRecDepth 40000
set_option maxHeartbeats 4000000
namespace Go.Proofs.YtffoiccokigjcaaDoor
open Go.Am
attribute [local simp] cells scalar mkv splice under2 under dem dem1 eQ nfC intsV

def bitsR : Option Nat → V
  | some b => .tuple [I (b : Nat), .bool true]
  | none => .tuple [I 0, .bool false]

theorem bitsG_drop {n : Nat} {l : List Int} {k : Nat} (h : k < l.length) (out : Nat) (last : Int) : bitsG n (l.drop k) out last = if btw l[k] (last + 1) ((n : Int) - 1) then bitsG n (l.drop (k + 1)) (out ||| 2 ^ l[k].toNat) l[k] else none := by
  rw [List.drop_eq_getElem_cons h]; rfl

theorem c_bits {x : Nf} (hx : nfOk x = true) {l : List Int} (hl : l.length ≤ 9223372036854775807) : C Tryd.prog F.bin_bits [.agg (nfC x), intsV l] (bitsR (bitsG x.passes.length l 0 (-1))) := by
  have h10 := (nfOk_spec hx).1.2
  refine C_of mixed chk.bin_bits (by simp) fun S ok => ?_
  refine Tr.seqR rfl (by simp) (Tr.seqR rfl (by simp) (Tr.seq (Tr.seqR rfl (by simp) (Tr.block ?_))))
  refine Tr.loop (α := Nat × Nat × Int) (fun p st => (p.1 ≤ l.length ∧ p.2.1 < 1024 ∧ (-1 ≤ p.2.2 ∧ p.2.2 ≤ 10) ∧ bitsG x.passes.length l 0 (-1) = bitsG x.passes.length (l.drop p.1) p.2.1 p.2.2) ∧ st = { env := [(2, .ptr 2 0), (6, I (p.2.1 : Nat)), (7, I p.2.2), (10, intsV l), (11, I (l.length : Nat)), (12, I (p.1 : Nat))], bx := [(2, ⟨nfC x, false⟩)], rw := [], log := [], stp := false }) (fun p => l.length - p.1) (0, 0, -1)
    (Wk.le (.cons rfl (.refl _) (.cons rfl (.refl _) (.cons rfl (.refl _) (.cons rfl (.refl _) (.cons rfl (VLe.i (by simp)) (.cons rfl (.refl _) .nil)))))) (.cons rfl (LLe.refl _) .nil) .nil rfl rfl) ⟨⟨by simp, by simp, by simp, rfl⟩, rfl⟩ ?_
  rintro ⟨k, out, last⟩ st ⟨⟨hk, ho, hla, hG⟩, rfl⟩
  simp only at hk ho hla hG
  refine Tr.seqR rfl (by simp) (Tr.seqI rfl (fun h1 => ?_) (fun h1 => ?_))
  · have h1 : k < l.length := by simpa using h1
    rw [bitsG_drop h1] at hG
    have hw1 : IntKind.wrap .i64 (last + 1) = last + 1 := w64 (by omega) (by omega)
    have hw2 : IntKind.wrap .i64 (((x.passes.map eQ).length : Int) - 1) = (x.passes.length : Int) - 1 := by rw [List.length_map, w64 (by omega) (by omega)]
    have kw := c_within l[k] (IntKind.wrap .i64 (last + 1)) (IntKind.wrap .i64 (((x.passes.map eQ).length : Int) - 1))
    refine Tr.skipT (Tr.seq (Tr.block ?_))
    refine Tr.seqN 1 rfl (by simp; omega) ?_
    rw [getD_map h1]
    refine Steps.fin rfl (by simp) ?_
    refine Tr.seq (Tr.seqC rfl (by simp) (Steps.call rfl rfl kw (Steps.fin rfl (by simp) ?_)))
    rw [hw1, hw2]
    refine Tr.cond rfl rfl (fun h2 => ?_) (fun h2 => Tr.skip ?_)
    · have h2 : (!btw l[k] (last + 1) ((x.passes.length : Int) - 1)) = true := h2
      have h2 : btw l[k] (last + 1) ((x.passes.length : Int) - 1) = false := by simpa using h2
      rw [h2] at hG
      refine Tr.seqR rfl (by simp) (Tr.retX rfl rfl rfl ?_ trivial)
      rw [hG]; rfl
    · have h2 : (!btw l[k] (last + 1) ((x.passes.length : Int) - 1)) = false := h2
      have h2 : btw l[k] (last + 1) ((x.passes.length : Int) - 1) = true := by simpa using h2
      rw [h2, if_pos rfl] at hG
      rw [btw_iff] at h2
      obtain ⟨q, hq⟩ : ∃ q : Nat, l[k] = (q : Int) := ⟨l[k].toNat, by omega⟩
      rw [hq] at h2 hG ⊢
      rw [Int.toNat_natCast] at hG
      have hq9 : q < 10 := by omega
      have hp : 2 ^ q < 1024 := Nat.lt_of_lt_of_le (Nat.pow_lt_pow_right (by omega) hq9) (Nat.le_refl _)
      have hor : out ||| 2 ^ q < 1024 := Nat.or_lt_two_pow (n := 10) ho hp
      refine Tr.reg (Steps.run rfl (by simp) ?_)
      refine Tr.regR rfl (by simp) ?_
      refine ⟨(k + 1, out ||| 2 ^ q, (q : Int)), _, Wk.le (.cons rfl (.refl _) (.cons rfl (VLe.i ?_) (.cons rfl (.refl _) (.cons rfl (.refl _) (.cons rfl (.refl _) (.cons rfl (VLe.i (w64 (by omega) (by omega))) .nil)))))) (.cons rfl (LLe.refl _) .nil) .nil rfl rfl, ⟨⟨by simp only; omega, hor, ⟨by simp only; omega, by simp only; omega⟩, hG⟩, rfl⟩, by simp only; omega⟩
      show bitsV .or .i64 (out : Int) (IntKind.wrap .i64 (1 * 2 ^ (min (q : Int).toNat 64))) = _
      rw [bit_shl q (by omega), bits_or out (2 ^ q) (by omega) (by omega)]
  · have h1 : k = l.length := by simp at h1; omega
    subst h1
    rw [List.drop_length] at hG
    refine Tr.exit (Tr.seqR rfl (by simp) (Tr.retX rfl rfl rfl ?_ trivial))
    rw [hG]; rfl

def CoversR (x : Nf) (l : List Int) : V := if nfOk x then (match bitsG x.passes.length l 0 (-1) with | some b => .tuple [.bool (coversB x b), I 0] | none => .tuple [.bool false, I 75]) else .tuple [.bool false, I 74]

theorem c_Covers {x : Nf} (hx : ∀ p ∈ x.passes, p.adds.length ≤ 9223372036854775807) {l : List Int} (hl : l.length ≤ 9223372036854775807) : C Tryd.prog F.bin_Covers [.agg (nfC x), intsV l] (CoversR x l) := by
  have kc := c_CheckInfill hx
  unfold CoversR
  refine C_of mixed chk.bin_Covers (by simp) fun S ok => ?_
  refine Tr.seqR rfl (by simp) ?_
  by_cases hk : nfOk x = true
  rotate_left
  · rw [if_neg hk] at kc ⊢
    refine Tr.seq (Tr.seqC rfl (by simp) (Steps.call rfl rfl kc (Steps.fin rfl (by simp) (Tr.seqR rfl (by simp) (Tr.condT rfl (Tr.seqR rfl (by simp) ?_))))))
    exact Tr.retX rfl rfl rfl rfl trivial
  rw [if_pos hk] at kc ⊢
  refine Tr.seq (Tr.seqC rfl (by simp) (Steps.call rfl rfl kc (Steps.fin rfl (by simp) (Tr.seqR rfl (by simp) (Tr.condF rfl (Tr.skip ?_))))))
  have kb := c_bits hk hl
  have h10 := (nfOk_spec hk).1.2
  cases hb : bitsG x.passes.length l 0 (-1) with
  | none =>
    rw [hb] at kb
    refine Tr.seqC rfl (by simp) (Steps.call rfl rfl kb (Steps.fin rfl (by simp) ?_))
    exact Tr.seq (Tr.seqR rfl (by simp) (Tr.condT rfl (Tr.seqR rfl (by simp) (Tr.retX rfl rfl rfl rfl trivial))))
  | some b =>
    rw [hb] at kb
    have hlt := (bitsG_spec h10 l 0 0 b (by omega) (by simp) hb).1
    refine Tr.seqC rfl (by simp) (Steps.call rfl rfl kb (Steps.fin rfl (by simp) ?_))
    refine Tr.seq (Tr.seqR rfl (by simp) (Tr.condF rfl (Tr.skip ?_)))
    exact Tr.seqC rfl (by simp) (Steps.call rfl rfl (c_covers hk hlt) (Steps.fin rfl (by simp) (Tr.retX rfl rfl rfl rfl trivial)))

theorem c_Own {l : List Int} (h0 : l ≠ []) (hl : l.length ≤ 1000000) : CO Tryd.prog F.ref00_Own [intsV l] 1 (l.map I) := by
  refine CO_of mixed chk.ref00_Own (by simp) fun S ok => ?_
  refine Tr.seqR rfl (by simp) (Tr.seqR rfl (by simp) ?_)
  refine Tr.seqN 2 rfl (by simp) ?_
  refine Steps.appendBox (r := 0) (ys := l.map I) rfl rfl (by omega) (by simp; omega) (by simp; omega) (by simpa using h0) ?_
  refine Steps.fin rfl (by simp) (Tr.ret ?_)
  exact ⟨6, rfl, rfl, by rw [flat_ints]; exact ints_isD l⟩

theorem c_Own0 : C Tryd.prog F.ref00_Own [intsV []] (intsV []) := by
  refine C_of mixed chk.ref00_Own (by simp) fun S ok => ?_
  refine Tr.seqR rfl (by simp) (Tr.seqR rfl (by simp) ?_)
  refine Tr.seqR rfl (by simp) ?_
  exact Tr.weak (s' := { env := [(2, intsV [])], bx := [], rw := [], log := [], stp := false }) (Wk.le (.cons rfl (.dem _ _ _) .nil) .nil .nil rfl rfl) (Tr.retX rfl rfl rfl rfl trivial)

end Go.Proofs.YtffoiccokigjcaaDoor

/-! Contracts of the specification: CheckInfill, choice, cost, rest, covers, Covers. -/
set_option linter.unusedVariables false
set_option linter.unusedSimpArgs false
set_option maxRecDepth 40000
set_option maxHeartbeats 4000000
namespace Go.Proofs.YtffoiccokigjcaaDoor
open Go.Am
attribute [local simp] cells scalar mkv splice under2 under dem dem1 eQ nfC intsV

theorem bool_any (l : List Int) : (l.all fun n => btw n 0 100) = !(l.any fun n => !btw n 0 100) := by
  induction l with
  | nil => rfl
  | cons a l ih => rw [List.all_cons, List.any_cons, ih]; cases btw a 0 100 <;> simp

theorem c_CheckInfill07 {x : Nf} (hl : x.lacks.length ≤ 9223372036854775807) (hp : x.passes.length ≤ 9223372036854775807) (hx : ∀ p ∈ x.passes, p.adds.length ≤ 9223372036854775807) : C Tryd.prog F.ref07_CheckInfill [.agg (nfC x)] (I (if nfOk x then 0 else 74)) := by
  refine C_of mixed chk.ref07_CheckInfill (by simp) fun S ok => ?_
  refine Tr.seqR rfl (by simp) (Tr.seqR rfl (by simp) ?_)
  have h0 : (bif decide (((x.lacks.map I).length : Int) ≤ 16) then decide (((x.passes.map eQ).length : Int) ≤ 10) else false) = (decide (x.lacks.length ≤ 16) && decide (x.passes.length ≤ 10)) := by
    rw [List.length_map, List.length_map]
    have e1 : decide ((x.lacks.length : Int) ≤ 16) = decide (x.lacks.length ≤ 16) := by simp only [decide_eq_decide]; omega
    have e2 : decide ((x.passes.length : Int) ≤ 10) = decide (x.passes.length ≤ 10) := by simp only [decide_eq_decide]; omega
    rw [e1, e2]; cases decide (x.lacks.length ≤ 16) <;> rfl
  obtain ⟨B0, hB0⟩ : ∃ B, (decide (x.lacks.length ≤ 16) && decide (x.passes.length ≤ 10)) = B := ⟨_, rfl⟩
  rw [hB0] at h0
  have hok : nfOk x = (B0 && x.lacks.all (btw · 1 100) && x.passes.all (passOk x.lacks.length)) := by unfold nfOk; rw [hB0]
  rw [hok]
  refine Tr.seq (Tr.seqR rfl (by simp) (Tr.block ?_))
  refine Tr.loop (fun (k : Nat) st => k ≤ x.lacks.length ∧ st = { env := [(1, .ptr 1 0), (3, .bool (B0 && (x.lacks.take k).all (btw · 1 100))), (4, I (k : Nat))], bx := [(1, ⟨nfC x, false⟩)], rw := [], log := [], stp := false }) (fun k => x.lacks.length - k) 0
    (Wk.le (.cons rfl (.refl _) (.cons rfl (.of_eq ?_) (.cons rfl (.refl _) .nil))) (.cons rfl (LLe.refl _) .nil) .nil rfl rfl) ⟨by omega, rfl⟩ ?_
  · rw [List.take_zero, List.all_nil, Bool.and_true, ← h0]
  rintro k st ⟨hk, rfl⟩
  refine Tr.seq (Tr.seqR rfl (by simp) (Tr.cond rfl rfl (fun h1 => Tr.skip ?_) (fun h1 => Tr.exit ?_)))
  · have h1 : k < x.lacks.length := by simpa using h1
    obtain ⟨X, hX⟩ : ∃ X, (B0 && (x.lacks.take k).all (btw · 1 100)) = X := ⟨_, rfl⟩
    rw [hX]
    refine Tr.seq (Tr.block (Tr.reg (Steps.runN 6 rfl (by simp; intro a; exact ⟨by omega, a⟩) ?_)))
    rw [getD_map h1]
    refine Steps.run rfl (by simp) (Steps.gcall rfl rfl rfl rfl (by simp) (fun _ => c_between x.lacks[k] 1 100) (Steps.fin rfl (by simp) ?_))
    refine Tr.regR rfl (by simp) ?_
    refine ⟨k + 1, _, Wk.le (.cons rfl (.refl _) (.cons rfl (.of_eq ?_) (.cons rfl (VLe.i (w64 (by omega) (by omega))) .nil))) (.cons rfl (LLe.refl _) .nil) .nil rfl rfl, ⟨h1, rfl⟩, by omega⟩
    rw [all_take_succ h1, ← Bool.and_assoc, hX]
    show V.bool (bif X then btw x.lacks[k] 1 100 else false) = _
    cases X <;> rfl
  have h1 : k = x.lacks.length := by simp at h1; omega
  subst h1
  rw [List.take_length]
  obtain ⟨B1, hB1⟩ : ∃ B, (B0 && x.lacks.all (btw · 1 100)) = B := ⟨_, rfl⟩
  rw [hB1]
  refine Tr.seq (Tr.seqR rfl (by simp) (Tr.block ?_))
  refine Tr.loop (fun (k : Nat) st => k ≤ x.passes.length ∧ st = { env := [(1, .ptr 1 0), (3, .bool (B1 && (x.passes.take k).all (passOk x.lacks.length))), (5, I (k : Nat))], bx := [(1, ⟨nfC x, false⟩)], rw := [], log := [], stp := false }) (fun k => x.passes.length - k) 0
    (Wk.le (.cons rfl (.refl _) (.cons rfl (.of_eq (by simp)) (.cons rfl (.refl _) .nil))) (.cons rfl (LLe.refl _) .nil) .nil rfl rfl) ⟨by omega, rfl⟩ ?_
  rintro k st ⟨hk, rfl⟩
  refine Tr.seq (Tr.seqR rfl (by simp) (Tr.cond rfl rfl (fun h1 => Tr.skip ?_) (fun h1 => Tr.exit ?_)))
  · have h1 : k < x.passes.length := by simpa using h1
    have hnx : (B1 && (x.passes.take (k + 1)).all (passOk x.lacks.length)) = ((B1 && (x.passes.take k).all (passOk x.lacks.length)) && passOk x.lacks.length x.passes[k]) := by rw [all_take_succ h1, Bool.and_assoc]
    have hal := hx _ (List.getElem_mem h1)
    obtain ⟨X, hX⟩ : ∃ X, (B1 && (x.passes.take k).all (passOk x.lacks.length)) = X := ⟨_, rfl⟩
    rw [hX] at hnx ⊢
    obtain ⟨p, hpk⟩ : ∃ p, x.passes[k] = p := ⟨_, rfl⟩
    rw [hpk] at hal hnx
    refine Tr.seq (Tr.block ?_)
    refine Tr.seqN 4 rfl (by simp; omega) ?_
    rw [getD_map h1, hpk]
    refine Steps.fin rfl (by simp) ?_
    refine Tr.seqC rfl (by simp) (Steps.gcall rfl rfl rfl rfl (by simp) (fun _ => c_between p.cost 1 1000) (Steps.fin rfl (by simp) ?_))
    have e1 : (((p.adds.map I).length : Int) == ((x.lacks.map I).length : Int)) = decide (p.adds.length = x.lacks.length) := by
      rw [List.length_map, List.length_map]
      by_cases h : p.adds.length = x.lacks.length
      · rw [h]; simp
      · have : ¬ ((p.adds.length : Int) = (x.lacks.length : Int)) := by omega
        simp [h, this]
    obtain ⟨B2, hB2⟩ : ∃ B, (X && (btw p.cost 1 1000 && decide (p.adds.length = x.lacks.length))) = B := ⟨_, rfl⟩
    refine Tr.seqR rfl (by simp) (Tr.block ?_)
    refine Tr.loop (fun (c : Nat) st => c ≤ p.adds.length ∧ st = { env := [(1, .ptr 1 0), (3, .bool (B2 && (p.adds.take c).all fun n => btw n 0 100)), (5, I (k : Nat)), (6, .ptr 6 0), (7, I (c : Nat))], bx := [(6, ⟨[I p.cost, intsV p.adds], false⟩), (1, ⟨nfC x, false⟩)], rw := [], log := [], stp := false }) (fun c => p.adds.length - c) 0
      (Wk.le (.cons rfl (.refl _) (.cons rfl (.of_eq ?_) (.cons rfl (.refl _) (.cons rfl (.refl _) (.cons rfl (.refl _) .nil))))) (.cons rfl (LLe.refl _) (.cons rfl (LLe.refl _) .nil)) .nil rfl rfl) ⟨by omega, rfl⟩ ?_
    · rw [List.take_zero, List.all_nil, Bool.and_true, ← hB2, ← e1]
      show V.bool (bif (bif X then btw p.cost 1 1000 else false) then (((p.adds.map I).length : Int) == ((x.lacks.map I).length : Int)) else false) = _
      cases X <;> cases btw p.cost 1 1000 <;> rfl
    rintro c st ⟨hc, rfl⟩
    refine Tr.seq (Tr.seqR rfl (by simp) (Tr.cond rfl rfl (fun h2 => Tr.skip ?_) (fun h2 => Tr.exit ?_)))
    · have h2 : c < p.adds.length := by simpa using h2
      obtain ⟨Y, hY⟩ : ∃ Y, (B2 && (p.adds.take c).all fun n => btw n 0 100) = Y := ⟨_, rfl⟩
      rw [hY]
      refine Tr.seq (Tr.block (Tr.reg (Steps.runN 6 rfl (by simp; intro a; exact ⟨by omega, a⟩) ?_)))
      rw [getD_map h2]
      refine Steps.run rfl (by simp) (Steps.gcall rfl rfl rfl rfl (by simp) (fun _ => c_between p.adds[c] 0 100) (Steps.fin rfl (by simp) ?_))
      refine Tr.regR rfl (by simp) ?_
      refine ⟨c + 1, _, Wk.le (.cons rfl (.refl _) (.cons rfl (.of_eq ?_) (.cons rfl (.refl _) (.cons rfl (.refl _) (.cons rfl (VLe.i (w64 (by omega) (by omega))) .nil))))) (.cons rfl (LLe.refl _) (.cons rfl (LLe.refl _) .nil)) .nil rfl rfl, ⟨h2, rfl⟩, by omega⟩
      rw [all_take_succ h2, ← Bool.and_assoc, hY]
      show V.bool (bif Y then btw p.adds[c] 0 100 else false) = _
      cases Y <;> rfl
    · have h2 : c = p.adds.length := by simp at h2; omega
      subst h2
      rw [List.take_length]
      refine Tr.regR rfl (by simp) ?_
      refine ⟨k + 1, _, Wk.le (.cons rfl (.refl _) (.cons rfl (.of_eq ?_) (.cons rfl (VLe.i (w64 (by omega) (by omega))) .nil))) (.cons rfl (LLe.refl _) .nil) .nil rfl rfl, ⟨h1, rfl⟩, by omega⟩
      rw [hnx, bool_any, ← hB2]
      unfold passOk
      cases X <;> simp [Bool.and_assoc]
  have h1 : k = x.passes.length := by simp at h1; omega
  subst h1
  rw [List.take_length]
  obtain ⟨B3, hB3⟩ : ∃ B, (B1 && x.passes.all (passOk x.lacks.length)) = B := ⟨_, rfl⟩
  rw [hB3]
  refine Tr.seq (Tr.seqR rfl (by simp) (Tr.cond rfl rfl (fun h3 => ?_) (fun h3 => Tr.skip ?_)))
  · have h3 : (!B3) = true := h3
    obtain rfl : B3 = false := by simpa using h3
    exact Tr.seqR rfl (by simp) (Tr.retX rfl rfl rfl rfl trivial)
  · have h3 : (!B3) = false := h3
    obtain rfl : B3 = true := by simpa using h3
    exact Tr.seqR rfl (by simp) (Tr.retX rfl rfl rfl rfl trivial)

/-! ### Choices -/
def inPs (x : Nf) (l : List Int) : Prop := ∀ n ∈ l, ∃ i : Nat, n = (i : Int) ∧ i < x.passes.length
def subTo (x : Nf) (l : List Int) (q k : Nat) : Int := ((l.take k).map fun i => (addsOf x i.toNat).getD q 0).foldl (· - ·) (x.lacks.getD q 0)
def restQ (x : Nf) (l : List Int) (q : Nat) : Int := max 0 (subTo x l q l.length)
def sumTo (x : Nf) (l : List Int) (k : Nat) : Int := ((l.take k).map fun i => costOf x i.toNat).foldl (· + ·) 0
def covQ (x : Nf) (l : List Int) : Bool := (List.range x.lacks.length).all fun q => !decide (restQ x l q > 0)

theorem sumTo_succ {x : Nf} {l : List Int} {k : Nat} (h : k < l.length) : sumTo x l (k + 1) = sumTo x l k + costOf x l[k].toNat := by
  unfold sumTo
  rw [List.take_add_one, List.getElem?_eq_getElem h, List.map_append, List.foldl_append]; rfl
theorem subTo_succ {x : Nf} {l : List Int} {q k : Nat} (h : k < l.length) : subTo x l q (k + 1) = subTo x l q k - (addsOf x l[k].toNat).getD q 0 := by
  unfold subTo
  rw [List.take_add_one, List.getElem?_eq_getElem h, List.map_append, List.foldl_append]; rfl

theorem c_cost07 {x : Nf} (hx : nfOk x = true) {l : List Int} (hl : l.length ≤ 10) (hi : inPs x l) : C Tryd.prog F.ref07_cost [.agg (nfC x), intsV l] (I (sumTo x l l.length)) := by
  have hp1 := (nfOk_spec hx).2.2
  have h10 := (nfOk_spec hx).1.2
  refine C_of mixed chk.ref07_cost (by simp) fun S ok => ?_
  refine Tr.seqR rfl (by simp) (Tr.seqR rfl (by simp) (Tr.seq (Tr.seqR rfl (by simp) (Tr.block ?_))))
  refine Tr.loop (fun (k : Nat) st => (k ≤ l.length ∧ 0 ≤ sumTo x l k ∧ sumTo x l k ≤ k * 1000) ∧ st = { env := [(1, intsV l), (2, .ptr 2 0), (5, I (sumTo x l k)), (6, I (k : Nat))], bx := [(2, ⟨nfC x, false⟩)], rw := [], log := [], stp := false }) (fun k => l.length - k) 0
    (Wk.le (.cons rfl (.refl _) (.cons rfl (.refl _) (.cons rfl (.refl _) (.cons rfl (.refl _) .nil)))) (.cons rfl (LLe.refl _) .nil) .nil rfl rfl) ⟨⟨by omega, by simp [sumTo], by simp [sumTo]⟩, rfl⟩ ?_
  rintro k st ⟨⟨hk1, hs1, hs2⟩, rfl⟩
  refine Tr.seq (Tr.seqR rfl (by simp) (Tr.cond rfl rfl (fun h1 => Tr.skip ?_) (fun h1 => Tr.exit ?_)))
  · have h1 : k < l.length := by simpa using h1
    obtain ⟨i, hi, hil⟩ := hi _ (List.getElem_mem h1)
    have hci : costOf x i = x.passes[i].cost := by simp [costOf, hil]
    have hcb := (hp1 _ (List.getElem_mem hil)).1
    have hss := sumTo_succ (x := x) h1
    rw [hi, Int.toNat_natCast, hci] at hss
    refine Tr.seq (Tr.block (Tr.drawK (TraceK.runN 6 rfl (by simp; omega) ?_)))
    rw [getD_map h1, hi]
    refine TraceK.runN 2 rfl (by simp; omega) ?_
    rw [getD_map hil]
    refine TraceK.run rfl (by simp) (.done ⟨by kernel_rfl, by kernel_rfl, ?_⟩)
    refine Tr.regR rfl (by simp) ?_
    refine ⟨k + 1, _, Wk.le (.cons rfl (.refl _) (.cons rfl (.refl _) (.cons rfl (VLe.i ?_) (.cons rfl (VLe.i (w64 (by omega) (by omega))) .nil)))) (.cons rfl (LLe.refl _) .nil) .nil rfl rfl, ⟨⟨h1, by omega, by omega⟩, rfl⟩, by omega⟩
    show IntKind.wrap .i64 (sumTo x l k + x.passes[i].cost) = _
    rw [hss, w64 (by omega) (by omega)]
  · have h1 : k = l.length := by simp at h1; omega
    subst h1
    exact Tr.seqR rfl (by simp) (Tr.retX rfl rfl rfl rfl trivial)

theorem c_rest07 {x : Nf} (hx : nfOk x = true) {l : List Int} (hl : l.length ≤ 10) (hi : inPs x l) {q : Nat} (hq : q < x.lacks.length) : C Tryd.prog F.ref07_rest [.agg (nfC x), intsV l, I (q : Nat)] (I (restQ x l q)) := by
  obtain ⟨⟨h16, h10⟩, hl1, hp1⟩ := nfOk_spec hx
  have hlq := hl1 _ (List.getElem_mem hq)
  have s0 : subTo x l q 0 = x.lacks[q] := by simp [subTo, hq]
  refine C_of mixed chk.ref07_rest (by simp) fun S ok => ?_
  refine Tr.seqR rfl (by simp) ?_
  refine Tr.seqN 4 rfl (by simp; omega) ?_
  rw [getD_map hq]
  refine Steps.fin rfl (by simp) (Tr.seq (Tr.seqR rfl (by simp) (Tr.block ?_)))
  refine Tr.loop (fun (k : Nat) st => (k ≤ l.length ∧ subTo x l q k ≤ 100 ∧ -(k * 100) ≤ subTo x l q k) ∧ st = { env := [(1, intsV l), (2, I (q : Nat)), (3, .ptr 3 0), (7, I (subTo x l q k)), (8, I (k : Nat))], bx := [(3, ⟨nfC x, false⟩)], rw := [], log := [], stp := false }) (fun k => l.length - k) 0
    (Wk.le (.cons rfl (.refl _) (.cons rfl (.refl _) (.cons rfl (.refl _) (.cons rfl (VLe.i s0.symm) (.cons rfl (.refl _) .nil))))) (.cons rfl (LLe.refl _) .nil) .nil rfl rfl) ⟨⟨by omega, by omega, by omega⟩, rfl⟩ ?_
  rintro k st ⟨⟨hk1, hs1, hs2⟩, rfl⟩
  refine Tr.seq (Tr.seqR rfl (by simp) (Tr.cond rfl rfl (fun h1 => Tr.skip ?_) (fun h1 => Tr.exit ?_)))
  · have h1 : k < l.length := by simpa using h1
    obtain ⟨i, hi, hil⟩ := hi _ (List.getElem_mem h1)
    have hpi := hp1 _ (List.getElem_mem hil)
    have hqa : q < x.passes[i].adds.length := by omega
    have hab := hpi.2.2 _ (List.getElem_mem hqa)
    have hss := subTo_succ (x := x) (q := q) h1
    rw [hi, Int.toNat_natCast] at hss
    have eA : (addsOf x i).getD q 0 = x.passes[i].adds[q] := by simp [addsOf, hil, hqa]
    rw [eA] at hss
    refine Tr.seq (Tr.block (Tr.drawK (TraceK.runN 6 rfl (by simp; omega) ?_)))
    rw [getD_map h1, hi]
    refine TraceK.runN 2 rfl (by simp; omega) ?_
    rw [getD_map hil]
    refine TraceK.runN 4 rfl (by simp; omega) ?_
    rw [getD_map hqa]
    refine TraceK.run rfl (by simp) (.done ⟨by kernel_rfl, by kernel_rfl, ?_⟩)
    refine Tr.regR rfl (by simp) ?_
    refine ⟨k + 1, _, Wk.le (.cons rfl (.refl _) (.cons rfl (.refl _) (.cons rfl (.refl _) (.cons rfl (VLe.i ?_) (.cons rfl (VLe.i (w64 (by omega) (by omega))) .nil))))) (.cons rfl (LLe.refl _) .nil) .nil rfl rfl, ⟨⟨h1, by omega, by omega⟩, rfl⟩, by omega⟩
    show IntKind.wrap .i64 (subTo x l q k - x.passes[i].adds[q]) = _
    rw [hss, w64 (by omega) (by omega)]
  · have h1 : k = l.length := by simp at h1; omega
    subst h1
    refine Tr.seqR rfl (by simp) (Tr.retX rfl rfl rfl ?_ trivial)
    show I (restQ x l q) = I (bif true then (if subTo x l q l.length > 0 then subTo x l q l.length else 0) else _)
    rw [cond_true, ite_max]; rfl

theorem c_covers07 {x : Nf} (hx : nfOk x = true) {l : List Int} (hl : l.length ≤ 10) (hi : inPs x l) : C Tryd.prog F.ref07_covers [.agg (nfC x), intsV l] (.bool (covQ x l)) := by
  have h16 := (nfOk_spec hx).1.1
  refine C_of mixed chk.ref07_covers (by simp) fun S ok => ?_
  refine Tr.seqR rfl (by simp) (Tr.seq (Tr.seqR rfl (by simp) (Tr.block ?_)))
  refine Tr.loop (fun (k : Nat) st => (k ≤ x.lacks.length ∧ ∀ q < k, ¬ restQ x l q > 0) ∧ st = { env := [(1, intsV l), (2, .ptr 2 0), (5, I (k : Nat))], bx := [(2, ⟨nfC x, false⟩)], rw := [], log := [], stp := false }) (fun k => x.lacks.length - k) 0
    (Wk.le (.cons rfl (.refl _) (.cons rfl (.refl _) (.cons rfl (.refl _) .nil))) (.cons rfl (LLe.refl _) .nil) .nil rfl rfl) ⟨⟨by omega, by omega⟩, rfl⟩ ?_
  rintro k st ⟨⟨hk, ha⟩, rfl⟩
  refine Tr.seq (Tr.seqR rfl (by simp) (Tr.cond rfl rfl (fun h1 => Tr.skip ?_) (fun h1 => Tr.exit ?_)))
  · have h1 : k < x.lacks.length := by simpa using h1
    refine Tr.seq (Tr.block (Tr.seqC rfl (by simp) (Steps.call rfl rfl (c_rest07 hx hl hi h1) (Steps.fin rfl (by simp) (Tr.cond rfl rfl (fun h2 => ?_) (fun h2 => Tr.skip (Tr.regR rfl (by simp) ?_)))))))
    · have h2 : decide (restQ x l k > 0) = true := h2
      refine Tr.seqR rfl (by simp) (Tr.retX rfl rfl rfl ?_ trivial)
      have : covQ x l = false := by
        unfold covQ
        rw [List.all_eq_false]
        exact ⟨k, List.mem_range.2 h1, by rw [h2]; simp⟩
      rw [this]; rfl
    · have h2 : decide (restQ x l k > 0) = false := h2
      have h2 := of_decide_eq_false h2
      exact ⟨k + 1, _, Wk.le (.cons rfl (.refl _) (.cons rfl (.refl _) (.cons rfl (VLe.i (w64 (by omega) (by omega))) .nil))) (.cons rfl (LLe.refl _) .nil) .nil rfl rfl, ⟨⟨h1, fun q hq => by
        rcases Nat.lt_succ_iff_lt_or_eq.1 hq with h | rfl
        · exact ha q h
        · exact h2⟩, rfl⟩, by omega⟩
  · have h1 : k = x.lacks.length := by simp at h1; omega
    subst h1
    refine Tr.seqR rfl (by simp) (Tr.retX rfl rfl rfl ?_ trivial)
    have : covQ x l = true := by
      unfold covQ
      rw [List.all_eq_true]
      intro q hq
      have := ha q (List.mem_range.1 hq)
      rw [decide_eq_false this]; rfl
    rw [this]; rfl

end Go.Proofs.YtffoiccokigjcaaDoor

/-! Structs that lie in an arena: addresses, fields, a new one; what lies there becomes data. -/
set_option linter.unusedVariables false
set_option linter.unusedSimpArgs false
set_option maxRecDepth 20000
namespace Go.Am
open Go.RowKit

theorem opK_nilck0 {P : Program} {o : Oper} {os : List Operand} (hk : opK P o.op = some (.nilck, os)) : ∃ p, o.op = .nilCheck p ∧ os = [p] := by
  cases ho : o.op <;> rw [ho] at hk <;> simp only [opK] at hk <;> (try (cases hk; done)) <;> (try (repeat' (split at hk <;> (try (cases hk; done)))))
  all_goals first
    | (simp only [Option.map_eq_some_iff, Prod.mk.injEq] at hk; obtain ⟨_, _, h1, _⟩ := hk; cases h1; done)
    | (simp only [eqKind] at hk; repeat' (split at hk <;> (try (cases hk; done))))
    | (cases hk; exact ⟨_, rfl, rfl⟩)

theorem opK_faddr0 {P : Program} {o : Oper} {os : List Operand} {off : Nat} (hk : opK P o.op = some (.faddr off, os)) : ∃ t p f fs fd n, o.op = .fieldAddr t p f ∧ P.underlying t = some (.struct fs) ∧ fs[f]? = some fd ∧ szOf P fd.type = some n ∧ n ≠ 0 ∧ fd.offset = off ∧ os = [p] := by
  cases ho : o.op <;> rw [ho] at hk <;> simp only [opK] at hk <;> (try (cases hk; done)) <;> (try (repeat' (split at hk <;> (try (cases hk; done)))))
  all_goals first
    | (simp only [Option.map_eq_some_iff, Prod.mk.injEq] at hk; obtain ⟨_, _, h1, _⟩ := hk; cases h1; done)
    | (simp only [eqKind] at hk; repeat' (split at hk <;> (try (cases hk; done))))
    | (cases hk; exact ⟨_, _, _, _, _, _, rfl, by assumption, by assumption, by assumption, by assumption, rfl, rfl⟩)

theorem opK_box0 {P : Program} {o : Oper} {os : List Operand} (hk : opK P o.op = some (.box, os)) : ∃ e p, o.op = .box e p ∧ os = [p] := by
  cases ho : o.op <;> rw [ho] at hk <;> simp only [opK] at hk <;> (try (cases hk; done)) <;> (try (repeat' (split at hk <;> (try (cases hk; done)))))
  all_goals first
    | (simp only [Option.map_eq_some_iff, Prod.mk.injEq] at hk; obtain ⟨_, _, h1, _⟩ := hk; cases h1; done)
    | (simp only [eqKind] at hk; repeat' (split at hk <;> (try (cases hk; done))))
    | (cases hk; exact ⟨_, _, rfl, rfl⟩)

theorem opK_loadT {P : Program} {o : Oper} {os : List Operand} {n : Nat} (hk : opK P o.op = some (.load n true, os)) : ∃ t p d, o.op = .load t p ∧ szOf P t = some n ∧ P.underlying t = some d ∧ aggB P t = true ∧ os = [p] := by
  cases ho : o.op <;> rw [ho] at hk <;> simp only [opK] at hk <;> (try (cases hk; done)) <;> (try (repeat' (split at hk <;> (try (cases hk; done)))))
  all_goals first
    | (simp only [Option.map_eq_some_iff, Prod.mk.injEq] at hk; obtain ⟨_, _, h1, _⟩ := hk; cases h1; done)
    | (simp only [eqKind] at hk; repeat' (split at hk <;> (try (cases hk; done))))
    | (cases hk; exact ⟨_, _, _, rfl, by assumption, by assumption, by assumption, rfl⟩)

section
variable {E : Env} {S0 : Sur} {l0 : List (List V)} {s0 : Bool} {A : Arena}

/-- A pointer of an arena is not nil. -/
theorem Steps.rnil {K : St → Prop} {s : St} {d : Nat} {x : X} {rest : List Ins} {blk off : Nat} (hx : evXs s.env [x] = some [.rptr blk off]) (hk : Steps E rest K (s.put (some d) (.rptr blk off))) : Steps E (⟨some d, .nilck, [x], none⟩ :: rest) K s := by
  refine Step1.raw fun slots ops o i ro n a w h hc hs hi R Q next hn => ?_
  obtain ⟨os, cc⟩ := comp_of hc
  obtain ⟨p, ho, rfl⟩ := opK_nilck0 cc.op
  obtain ⟨u, hu, o1⟩ := (opds_of R.1 cc.xs (evXs_ok hx)).one
  simp only [List.cons.injEq, and_true] at hu
  subst hu
  have ep := ok_rptr o1
  have hex : (execOp a.eval o).run E.P w = .ok (.value (.pointer (some ⟨blk, off, none⟩))) w := by simp [execOp, ho, ep]
  refine wpOp_done hi (wanted_none (guard_none cc rfl)) (opK_defer cc.op) (.inl hex) (hn _ _ _ h hk ?_ rfl)
  show E.relF _ _ _ _ _ _
  rw [(put_log _ _ _).1, (put_log _ _ _).2, fs_put]
  exact rel_after (eff := { v := _ }) cc R R.1 (.data (.rptr _ _)) rfl

/-- The address of a field. -/
theorem Steps.rfaddr {K : St → Prop} {s : St} {d f : Nat} {x : X} {rest : List Ins} {blk off : Nat} (hx : evXs s.env [x] = some [.rptr blk off]) (hk : Steps E rest K (s.put (some d) (.rptr blk (off + f)))) : Steps E (⟨some d, .faddr f, [x], none⟩ :: rest) K s := by
  refine Step1.raw fun slots ops o i ro n a w h hc hs hi R Q next hn => ?_
  obtain ⟨os, cc⟩ := comp_of hc
  obtain ⟨t, p, g, fs, fd, m, ho, h1, h2, h3, h4, rfl, rfl⟩ := opK_faddr0 cc.op
  obtain ⟨u, hu, o1⟩ := (opds_of R.1 cc.xs (evXs_ok hx)).one
  simp only [List.cons.injEq, and_true] at hu
  subst hu
  have ep := ok_rptr o1
  have hex : (execOp a.eval o).run E.P w = .ok (.value (.pointer (some ⟨blk, off + fd.offset, none⟩))) w := by
    simp only [execOp, ho, ep, Sem.run_bind, run_fieldAt h1 h2 h3 h4]; rfl
  refine wpOp_done hi (wanted_none (guard_none cc rfl)) (opK_defer cc.op) (.inl hex) (hn _ _ _ h hk ?_ rfl)
  show E.relF _ _ _ _ _ _
  rw [(put_log _ _ _).1, (put_log _ _ _).2, fs_put]
  exact rel_after (eff := { v := _ }) cc R R.1 (.data (.rptr _ _)) rfl

/-- Several cells of an arena's block are read. -/
theorem Steps.aloadT (hE : InA E S0 l0 s0) {K : St → Prop} {s : St} {d n : Nat} {x : X} {rest : List Ins} {blk off : Nat} {cs : List V} (hx : evXs s.env [x] = some [.rptr blk off]) (hl : s.log = encA A) (hA : (blk, .cells cs) ∈ A) (hv : off + n ≤ cs.length)
    (hk : Steps E rest K (s.put (some d) (.agg ((cs.drop off).take n)))) : Steps E (⟨some d, .load n true, [x], none⟩ :: rest) K s := by
  refine Step1.raw fun slots ops o i ro n' a w h hc hs hi R Q next hn => ?_
  obtain ⟨os, cc⟩ := comp_of hc
  obtain ⟨t, p, dd, e1, e2, e3, e4, rfl⟩ := opK_loadT cc.op
  obtain ⟨u, hu, o1⟩ := (opds_of R.1 cc.xs (evXs_ok hx)).one
  simp only [List.cons.injEq, and_true] at hu
  subst hu
  have ep := ok_rptr o1
  have R' : E.relF (encA A) s.stp s.fs a w h := by rw [← hl]; exact R
  obtain ⟨vs, et, h1, h2, h3⟩ := (hE.ar R').ok _ hA
  obtain ⟨y, hy1, hy2⟩ := ok_mkv (σ := s.fs) (h := h) (w := w) (agg := true) (n := n) (l := cs.drop off) (f := fun j => vs.getD (off + j) undef) (by simp; omega) (by simp) (fun j v hv => by
    rw [List.getElem?_drop] at hv
    have hlt : off + j < vs.size := by
      have := (List.getElem?_eq_some_iff.1 hv).1; omega
    have := h3 (off + j) v vs[off + j] hv (by simp [hlt])
    have e : vs.getD (off + j) undef = vs[off + j] := by simp [hlt]
    rw [e]
    exact ⟨.data this.1, Grow.of_data this.1, this.2⟩)
  have hex : (execOp a.eval o).run E.P w = .ok (.value y) w := by
    simp only [execOp, e1, ep, Sem.run_bind]
    rw [run_loadAt (cs := (List.range n).map fun j => vs.getD (off + j) undef) e2 e3 (by simp) (fun j v hv => by
      obtain ⟨hj, rfl⟩ := range_map_get hv
      rw [cell_of_row w blk (off + j) vs et (0, 0) h1]
      have : off + j < vs.size := by omega
      simp [this]) (by rw [e4]; exact hy1)]
    rfl
  refine wpOp_done hi (wanted_none (guard_none cc rfl)) (opK_defer cc.op) (.inl hex) (hn _ _ _ h hk ?_ rfl)
  show E.relF _ _ _ _ _ _
  rw [(put_log _ _ _).1, (put_log _ _ _).2, fs_put]
  exact rel_after (eff := { v := _ }) cc R R.1 hy2 rfl

/-- A new struct of an arena. -/
theorem Steps.abox (hE : InA E S0 l0 s0) {K : St → Prop} {s : St} {d : Nat} {x : X} {rest : List Ins} {v : V} (hx : evXs s.env [x] = some [v]) (hl : s.log = encA A) (hs : (cells v).all scalar = true) (hd : (cells v).all isD = true)
    (hk : ∀ b, b ∉ A.map (·.1) → Steps E rest K { s.put (some d) (.rptr b 0) with log := encA ((b, .cells (cells v)) :: A) }) : Steps E (⟨some d, .box, [x], none⟩ :: rest) K s := by
  refine Step1.raw fun slots ops o i ro n a w h hc hsl hi R Q next hn => ?_
  obtain ⟨os, cc⟩ := comp_of hc
  obtain ⟨e, p, ho, rfl⟩ := opK_box0 cc.op
  obtain ⟨u, hu, o1⟩ := (opds_of R.1 cc.xs (evXs_ok hx)).one
  simp only [List.cons.injEq, and_true] at hu
  subst hu
  have R' : E.relF (encA A) s.stp s.fs a w h := by rw [← hl]; exact R
  obtain ⟨q1, q2⟩ := o1.cells hs
  obtain ⟨R2, hnm⟩ := hE.fresh R' (.cells (a.eval p).cells e) (.cells (cells v)) (fun ext => ⟨(a.eval p).cells, e, heap_alloc_new w _, by omega, fun j u z hu hz => by
    obtain ⟨r1, _, r3⟩ := q2 j u z hu hz
    have hD : isD u = true := by
      rw [List.all_eq_true] at hd
      exact hd u (List.mem_of_getElem? hu)
    exact ⟨(rep_isD hD r1).mono ext, r3⟩⟩)
  refine wpOp_done hi (wanted_none (guard_none cc rfl)) (opK_defer cc.op) (.inl ?_) (hn _ _ _ h (hk _ hnm) (rel_putA cc R2 (.data (.rptr _ _)) rfl) rfl)
  simp [execOp, ho, Instr.box, newVar, newRow]

/-- A struct of an arena becomes data. -/
theorem Wk.closeP (hE : InA E S0 l0 s0) {s : St} {t blk : Nat} {cs : List V} (ht : get s.env t = some (.rptr blk 0)) (hl : s.log = encA A) (hA : (blk, Ob.cells cs) ∈ A) :
    Wk E s { s.put (some t) (.vptr cs 0) with log := encA (dropA A blk) } := by
  intro a w h R
  obtain ⟨q1, q2, _⟩ := R.1.env t _ (by rw [fs_g]; exact ht)
  have R' : E.relF (encA A) s.stp s.fs a w h := by rw [← hl]; exact R
  have hAr := hE.ar R'
  obtain ⟨ext, R2⟩ := hE.close R' hA cs.length (B := dropA A blk) (fun p hp => ⟨List.mem_map.2 ⟨p, (dropA_mem.1 hp).1, rfl⟩, (dropA_mem.1 hp).2⟩) (dropA_nd hAr.nd) (fun ext p hp => (hAr.ok p (dropA_mem.1 hp).1).mono rfl ext)
  obtain ⟨vs, et, h1, h2, h3⟩ := hAr.ok _ hA
  have e : a.tmps.getD t undef = .pointer (some ⟨blk, 0, none⟩) := by
    revert q2
    generalize a.tmps.getD t undef = x1
    intro q2
    cases q2 with
    | data r => cases r; rfl
  have rd : RepD w (cut h.φ blk cs.length) (.vptr cs 0) (.pointer (some ⟨blk, 0, none⟩)) := by
    refine .vptr cs 0 blk 0 (fun j => vs.getD j undef) (fun j v hv => ?_) (fun j v hv => ?_)
    · have hj := (List.getElem?_eq_some_iff.1 hv).1
      have e : vs[j]? = some (vs.getD j undef) := by
        have : j < vs.size := by omega
        simp [this]
      refine ⟨by unfold cut; rw [if_pos rfl]; omega, ?_, (h3 j v _ hv e).2⟩
      rw [Nat.zero_add, cell_of_row w blk j vs et (0, 0) h1, e]
    · have hj := (List.getElem?_eq_some_iff.1 hv).1
      have e : vs[j]? = some (vs.getD j undef) := by
        have : j < vs.size := by omega
        simp [this]
      exact (h3 j v _ hv e).1.mono ext
  have R3 := R2.1.put (d := t) (v := .vptr cs 0) (x := a.tmps.getD t undef) q1 (by rw [e]; exact .data rd) (by rw [e]; exact GrowV.of_data rd)
  rw [put_self (by rw [R.1.size]; exact q1)] at R3
  refine ⟨_, ⟨?_, R2.2⟩, rfl⟩
  show Rel E.nt E.S _ s.stp (s.put (some t) (.vptr cs 0)).fs _ _ _
  rw [fs_put]
  exact R3

theorem Steps.mov {K : St → Prop} {s : St} {d : Nat} {x : X} {rest : List Ins} {v : V} (hx : evXs s.env [x] = some [v]) (hk : Steps E rest K (s.put (some d) v)) : Steps E (⟨some d, .mov, [x], none⟩ :: rest) K s :=
  Step1.does (ins := ⟨some d, .mov, [x], none⟩) (eff := { v := v }) (.op rfl (evXs_ok hx) rfl trivial (fun e => by cases e)) hk

/-- A guard that is known to hold. -/
def onG (s : St) : Option (Nat × Bool) → Prop
  | none => True
  | some (t, want) => ∃ gv, get s.env t = some gv ∧ guardOf want gv = some true

theorem Steps.onG {K : St → Prop} {s : St} {d : Option Nat} {k : Am.K} {xs : List X} {g : Option (Nat × Bool)} {rest : List Ins} (hg : onG s g) (h : Steps E (⟨d, k, xs, none⟩ :: rest) K s) : Steps E (⟨d, k, xs, g⟩ :: rest) K s := by
  cases g with
  | none => exact h
  | some p => obtain ⟨gv, h1, h2⟩ := hg; exact Steps.on h1 h2 h

def offT (t : Nat) : Option (Nat × Bool) → Bool
  | none => true
  | some (t', _) => !(t'.beq t)

theorem onG.put {s : St} {g : Option (Nat × Bool)} {t : Nat} {v : V} (h : onG s g) (hne : offT t g = true) : onG (s.put (some t) v) g := by
  cases g with
  | none => trivial
  | some p =>
    obtain ⟨gv, h1, h2⟩ := h
    refine ⟨gv, ?_, h2⟩
    show get (s.put (some t) v).env p.1 = some gv
    unfold St.put
    simp only
    rw [get_cons, if_neg (fun e => by simp [offT, e] at hne)]
    exact h1

theorem get_put (s : St) (t : Nat) (v : V) : get (s.put (some t) v).env t = some v := by
  unfold St.put
  simp only
  rw [get_cons, if_pos rfl]

theorem evX1 {env : List (Nat × V)} {t : Nat} {v : V} (h : get env t = some v) : evXs env [.t t] = some [v] := by simp [evXs, h]

/-- A field is read, in four steps. -/
theorem Steps.ldF (hE : InA E S0 l0 s0) {K : St → Prop} {s : St} {t0 t1 t2 t3 t4 off : Nat} {blk : Nat} {cs : List V} {v : V} {rest : List Ins} {g : Option (Nat × Bool)} (hl : s.log = encA A) (hx : get s.env t0 = some (.rptr blk 0)) (hA : (blk, .cells cs) ∈ A) (hv : cs[off]? = some v) (hg : Am.onG s g) (hne : (offT t1 g && offT t2 g && offT t3 g) = true)
    (hk : Steps E rest K ((((s.put (some t1) (.rptr blk 0)).put (some t2) (.rptr blk 0)).put (some t3) (.rptr blk off)).put (some t4) v)) :
    Steps E (⟨some t1, .mov, [.t t0], g⟩ :: ⟨some t2, .nilck, [.t t1], g⟩ :: ⟨some t3, .faddr off, [.t t2], g⟩ :: ⟨some t4, .load 1 false, [.t t3], g⟩ :: rest) K s := by
  simp only [Bool.and_eq_true] at hne
  obtain ⟨⟨n1, n2⟩, n3⟩ := hne
  refine Steps.onG hg (Steps.mov (evX1 hx) ?_)
  refine Steps.onG (hg.put n1) (Steps.rnil (evX1 (get_put _ _ _)) ?_)
  refine Steps.onG ((hg.put n1).put n2) (Steps.rfaddr (evX1 (get_put _ _ _)) ?_)
  rw [Nat.zero_add]
  refine Steps.onG (((hg.put n1).put n2).put n3) (Steps.aload hE (evX1 (get_put _ _ _)) (by simpa [put_log] using hl) hA hv hk)

end
end Go.Am

/-! AM, part Zr: an empty slice that is made, as a row that grows. -/
set_option linter.unusedVariables false
set_option linter.unusedSimpArgs false
namespace Go.Am
open Go.RowKit

theorem does_mkRow {E : Env} {σ : FSt} {d sz e : Nat} (hd : σ.r d = none) : Does E σ ⟨some d, .mkslice sz e, [], none⟩ { v := .slice (d + 1) sz [], wr := [(d, 0, sz, e)], rr := [d] } [.row d] := by
  refine .sem fun τ hτ slots ops j o ro nn log stp a w h hc hs hi R Q next hnx => ?_
  have hd' : τ.r d = none := by rw [r_eq (hτ (.row d) (by simp))]; exact hd
  obtain ⟨os, cc⟩ := comp_of hc
  have hdf := opK_defer cc.op
  have hgo : o.guard = none := by
    rcases cc.guard with ⟨_, e⟩ | ⟨_, _, _, _, _, e⟩
    · exact e
    · cases e
  obtain ⟨t, len, parts, ie, z, ho, ht, hie, hz, hzs, hsz, hidx, rfl⟩ := opK_mksliceE cc.op
  have hO := opds_of R.1 cc.xs (vs := []) rfl
  have hlen : len = 0 := by
    have h1 := hO.get.1
    have h2 := congrArg List.length hidx
    simp at h1 h2
    omega
  subst hlen
  have hp : parts = #[] := by
    have h1 := hO.get.1
    simp at h1
    exact Array.size_eq_zero_iff.1 h1.symm
  have hrun : (Instr.buildSlice t 0 (parts.map fun (i, x) => (i, a.eval x))).run E.P w = .ok (.slice (some ⟨w.heap.size, 0, none⟩) 0 0) (w.alloc (.cells #[] e)) := by
    subst hp
    have hr0 : Array.range 0 = #[] := rfl
    simp [Instr.buildSlice, run_underlying ht, sizeOf, typeInfo, zeroValue, hie, hz, newRow, Instr.fill, hr0]
  have hex : (execOp a.eval o).run E.P w = .ok (.value (.slice (some ⟨w.heap.size, 0, none⟩) 0 0)) (w.alloc (.cells #[] e)) := by
    simp only [execOp, ho, Sem.run_bind, hrun]; rfl
  obtain ⟨R1, ext⟩ := R.1.setRow (r := d) (n := 0) (sz := sz) (e := e) (blk := w.heap.size) (cs := #[]) (w' := w.alloc (.cells #[] e)) E.ok (.inl hd') (.inl (Nat.le_refl _)) (by rw [heap_push]; simp) (fun b hb _ => Below.heap_alloc w _ b hb) (by simp) rfl rfl rfl
    (fun o' ho' => by rw [R.1.top _ (Nat.le_refl _)] at ho'; omega) (by simp) (by simp)
  have hg := growOk (σ' := τ.set (.row d) (.r 0 sz e)) (h' := { h with φ := fun b => if b = w.heap.size then 0 * sz else h.φ b, M := fun b => h.M b ∨ b = w.heap.size, γ := fun k => if k = d then some w.heap.size else h.γ k })
    (w' := w.alloc (.cells #[] e)) (r := d) (n := 0) (sz := sz) (e := e) (blk := w.heap.size) (cap := 0) (xs := []) (cs := #[]) (by simp) rfl (by simp) (by rw [heap_push]; simp) (by simp) (by omega) (by unfold maxLen; omega)
  have key := rel_after (eff := { v := .slice (d + 1) sz [], wr := [(d, 0, sz, e)], rr := [d] }) cc R R1 ⟨.named d sz [] _ (.slice0 _ _ _), hg⟩ rfl
  exact wpOp_done hi (wanted_none hgo) hdf (.inl hex) (hnx _ _ _ key rfl)

theorem Steps.mkRow {E : Env} {s : St} {K : St → Prop} {d sz e : Nat} {rest : List Ins} (hd : get s.rw d = none)
    (hk : Steps E rest K ((s.eff { v := .slice (d + 1) sz [], wr := [(d, 0, sz, e)], rr := [d] }).put (some d) (.slice (d + 1) sz []))) : Steps E (⟨some d, .mkslice sz e, [], none⟩ :: rest) K s :=
  Step1.does (ins := ⟨some d, .mkslice sz e, [], none⟩) (does_mkRow (by rw [fs_r]; exact hd)) hk

theorem TraceK.mkRow {E : Env} {s : St} {K : List (List Loc × List Loc) → St → List Ins → Prop} {d sz e : Nat} {rest : List Ins} (hd : get s.rw d = none)
    (tr : TraceK E ((s.eff { v := .slice (d + 1) sz [], wr := [(d, 0, sz, e)], rr := [d] }).put (some d) (.slice (d + 1) sz [])) rest fun fp s' r' => K ((wrOf ⟨some d, .mkslice sz e, [], none⟩ { v := .slice (d + 1) sz [], wr := [(d, 0, sz, e)], rr := [d] }, [.row d]) :: fp) s' r') : TraceK E s (⟨some d, .mkslice sz e, [], none⟩ :: rest) K :=
  .step (ins := ⟨some d, .mkslice sz e, [], none⟩) (does_mkRow (by rw [fs_r]; exact hd)) tr

end Go.Am

/-! AM, part Zs: calls that return a slice of numbers that may grow. -/
set_option linter.unusedVariables false
set_option linter.unusedSimpArgs false
namespace Go.Am
open Go.RowKit

abbrev intV (n : Int) : V := .int .i64 n

/-- **A CONTRACT WITH A SLICE THAT MAY GROW**: called with these data it returns a slice of these numbers that fills its block, which nothing else refers to. -/
def CG (P : Program) (f : FuncId) (args : List V) (e : Nat) (l : List Int) : Prop :=
  callable P f = true ∧ ∀ (w : World) (φ : Nat → Nat) (vs : Array Value), (∀ b, w.heap.size ≤ b → φ b = 0) → Gl w φ → RepL w φ args vs →
    Calls P f vs w fun er w' => ((l = [] ∧ er = .returned (.slice none 0 0)) ∨ ∃ blk cap cs, er = .returned (.slice (some ⟨blk, 0, none⟩) l.length cap) ∧ l.length ≤ cap ∧ cap ≤ maxLen ∧ cs.size = cap ∧ w.heap.size ≤ blk ∧ blk < w'.heap.size ∧ w'.heap[blk]? = some (.cells cs e (0, 0)) ∧
      ∀ (j : Nat) n, l[j]? = some n → cs[j]? = some (.int .i64 n)) ∧ Below w.heap.size w w'

theorem flat_intV (l : List Int) : (l.map intV).flatMap cells = l.map intV := by
  induction l with
  | nil => rfl
  | cons a l ih => rw [List.map_cons, List.flatMap_cons, ih]; rfl

def qRow (t e : Nat) (l : List Int) : Exit → St → Prop
  | .ret, s | .normal, s => ∃ r, get s.env t = some (.slice (r + 1) 1 (l.map intV)) ∧ get s.rw r = some (l.length, 1, e)
  | _, _ => False

theorem CG_of {P : Program} {f nt t e : Nat} {ic : IC} (hmix : P.follows .mixedOrders = true) (hch : chkF P f = some (nt, ic, [.tmp t])) {args : List V} {l : List Int} (hlen : args.length ≤ nt)
    (hT : ∀ (S : Sur) (ok : S.ok), Tr (env0 P hmix nt S ok) none ic (qRow t e l) (entry args)) : CG P f args e l := by
  obtain ⟨fn, c, hf, hb, hnt, hc, hres, hcall⟩ := chkF_ok hch
  refine ⟨hcall, fun w φ vs htop hgl hrep => ?_⟩
  have hT := hT (S0 w φ) (S0_ok w φ hgl)
  rw [← callsIn_wide (n := 0)]
  refine callsIn_of_wp_marks hf hb trivial ?_
  have R0 : (env0 P hmix nt (S0 w φ) (S0_ok w φ hgl)).rel (entry args) { tmps := vs ++ Array.replicate (fn.ntmps - vs.size) undef, defers := [] } w { φ := φ, β := fun _ => none, γ := fun _ => none, M := fun _ => False, y := ⟨none, fun _ => none⟩ } := by
    have hl := hrep.1
    refine ⟨{ size := by simp; omega, env := fun t v hv => ?_, bx := fun i bo hb => ?_, dom := fun _ _ h => ((by cases h)), inj := fun _ _ _ h => ((by cases h)), rows := fun r n sz e hr => ?_, rdom := fun _ _ h => ((by cases h)), rinj := fun _ _ _ h => ((by cases h)), apart := fun _ _ _ h => ((by cases h)), pins := fun _ _ h => ((by cases h)), mine := fun _ h => ((by cases h)), top := htop, marks := trivial, sur := Moved.refl _ htop }, fun _ h => ((by cases h)), fun _ h => ((by cases h))⟩
    · rw [fs_g] at hv
      obtain ⟨_, h1⟩ := get_entryL 0 args t v hv
      simp only [Nat.sub_zero] at h1
      have ht : t < args.length := (List.getElem?_eq_some_iff.1 h1).1
      have ht' : t < vs.size := by omega
      have e : (vs ++ Array.replicate (fn.ntmps - vs.size) undef).getD t undef = vs[t] := by
        simp [Array.getElem?_append_left ht', ht']
      rw [e]
      have h2 := hrep.2 t v _ h1 (Array.getElem?_eq_getElem ht')
      exact ⟨by show t < nt; omega, .data h2, GrowV.of_data h2⟩
    · rw [fs_b] at hb; simp [entry, get] at hb
    · rw [fs_r] at hr; simp [entry, get] at hr
  refine hT c hc 0 _ w _ R0 _ fun ex s' a' w' h' k R' ey => ?_
  have fin : (∃ r, get s'.env t = some (.slice (r + 1) 1 (l.map intV)) ∧ get s'.rw r = some (l.length, 1, e)) → LeavesInM Fence.wide 0 P fn a'.tmps
      (fun er w' => ((l = [] ∧ er = .returned (.slice none 0 0)) ∨ ∃ blk cap cs, er = .returned (.slice (some ⟨blk, 0, none⟩) l.length cap) ∧ l.length ≤ cap ∧ cap ≤ maxLen ∧ cs.size = cap ∧ w.heap.size ≤ blk ∧ blk < w'.heap.size ∧ w'.heap[blk]? = some (.cells cs e (0, 0)) ∧
        ∀ (j : Nat) n, l[j]? = some n → cs[j]? = some (.int .i64 n)) ∧ Below w.heap.size w w') a'.defers .returning w' := by
    rintro ⟨r, htr, hrr⟩
    refine leave (E := env0 P hmix nt (S0 w φ) (S0_ok w φ hgl)) a'.defers a' w' rfl R' fun a2 w2 ht R2 => ?_
    obtain ⟨g1, g2, g3⟩ := R2.1.env t _ (by rw [fs_g]; exact htr)
    obtain ⟨x, hx⟩ : ∃ x, a2.tmps.getD t undef = x := ⟨_, rfl⟩
    rw [hx] at g2 g3
    have hS : Moved (fun _ => False) w φ h'.M w2 h'.φ := R2.1.sur
    have hbel : Below w.heap.size w w2 := ⟨hS.os, hS.tape, hS.output, hS.size, fun k hk => (hS.old k hk (fun h => h)).1⟩
    have hrl : h'.γ = h'.γ := rfl
    cases g2 with
    | data rr => cases rr
    | named _ _ _ _ hrep =>
      have hxc : x.cells[0]? = some x := by rcases slice_at hrep with ⟨⟨_, _, rfl⟩, _⟩ | ⟨_, _, _, _, rfl, _⟩ <;> rfl
      obtain ⟨n, e', hr', hle, himp⟩ := g3 0 _ x rfl hxc r 1 (l.map intV) rfl
      rw [fs_r, hrr] at hr'
      cases hr'
      have hrun := run_results (P := P) (w := w2) (fn := fn) (tmps := a2.tmps) (xs := [x]) (by rw [hres]; rfl) (fun j r z h1 h2 => by
        rw [hres] at h1
        cases j with
        | zero => simp at h1 h2; subst h1 h2; simp only [hx]; rfl
        | succ j => simp at h1)
      rw [ht] at hrun
      rcases himp (by simp) with ⟨h1, rfl⟩ | ⟨blk, cap, cs, hγ, rfl, hheap, hsz, hcap, hmax⟩
      · exact ⟨_, hrun, .inl ⟨by simpa using h1, rfl⟩, hbel⟩
      · have hM : h'.M blk := R2.1.rowM hγ
        refine ⟨_, hrun, .inr ⟨blk, cap, cs, by rw [List.length_map], by simpa using hcap, hmax, by omega, (hS.mine _ hM).elim (fun h => h.elim) id, R2.1.mine _ hM, hheap, fun j m hj => ?_⟩, hbel⟩
        have hjl : ((l.map intV).flatMap cells)[j]? = some (intV m) := by
          rw [flat_intV, List.getElem?_map, hj]; rfl
        have hne : l.map intV ≠ [] := fun e => by
          rw [e] at hjl; simp at hjl
        rcases slice_at hrep with ⟨_, e0⟩ | ⟨blk2, off2, cap2, cv, e2, _, _, _, ay⟩
        · exact absurd e0 hne
        · cases e2
          obtain ⟨_, k2, k3, _⟩ := ay j _ hjl
          have k4 : cv j = .int .i64 m := by
            generalize cv j = z at k3
            cases k3; rfl
          rw [k4] at k2
          unfold World.cell? at k2
          rw [hheap] at k2
          simpa using k2
  cases ex with
  | normal => exact fin k
  | ret => exact fin k
  | _ => exact k.elim

section
variable {E : Env} {σ : FSt}

/-- Such a call: the slice is a row that grows. -/
theorem does_callG {d : Nat} {f : FuncId} {xs : List X} {vs us : List V} {e : Nat} {l : List Int} (hx : xs.mapM (evX σ) = some vs) (hd : ∀ b, toDs b vs = some (us, [])) (hC : CG E.P f us e l) (hrd : σ.r d = none) :
    Does E σ ⟨some d, .call f, xs, none⟩ { v := .slice (d + 1) 1 (l.map intV), wr := [(d, l.length, 1, e)], rr := [d] } (xslots xs ++ [.row d]) := by
  refine .sem fun τ hτ slots ops i o ro n log stp a w h hc hs hi R Q next hn => ?_
  have hrd' : τ.r d = none := by rw [r_eq (hτ (.row d) (by simp))]; exact hrd
  have hx' : xs.mapM (evX τ) = some vs := evX_reads hx fun l hl => hτ l (by simp [hl])
  obtain ⟨os, cc⟩ := comp_of hc
  have hdf := opK_defer cc.op
  have hgo : o.guard = none := by
    rcases cc.guard with ⟨_, e⟩ | ⟨_, _, _, _, _, e⟩
    · exact e
    · cases e
  obtain ⟨c, e1, e2, e3⟩ := opK_call cc.op
  have hO := opds_of R.1 cc.xs hx'
  obtain ⟨q1, q2⟩ := hO.get
  subst e3
  have hw := wanted_none (ops := ops) (a := a) hgo
  have hrun := run_call (E := E) (a := a) (w := w) hC.1 e2 e1
  unfold wpOpIn
  simp only [hi, hw, if_true, Oper.wpIn]
  refine ⟨fun _ _ => trivial, ?_⟩
  rw [Oper.semAt_eq _ _ _ hdf, hrun]
  simp only [Oper.uponIn]
  refine ⟨fun e => by simp [wideR, Fence.wide] at e, ?_⟩
  obtain ⟨h1, R1, ext1, p1, p2, p3, hrep⟩ := args_data R.1 (hd τ.b)
  have hRL : RepL w h1.φ us (c.args.map a.eval) := hrep _ (by simpa using q1) (fun i v x hv hx => by
    simp only [Array.getElem?_map, Option.map_eq_some_iff] at hx
    obtain ⟨p, hp, rfl⟩ := hx
    exact (q2 i v p hv (by simpa using hp)).1)
  refine (callsIn_wideR (hC.2 w h1.φ _ R1.top (E.ok.gl _ _ _ _ _ R1.sur) hRL)).mono ?_
  rintro er w' ⟨hcase, hbel⟩
  have R1 : Rel E.nt E.S log stp τ a w h1 := R1
  rcases hcase with ⟨hl0, rfl⟩ | ⟨blk, cap, cs, rfl, hcap, hmax, hsz, hge, hlt, hheap, hcells⟩
  · subst hl0
    have ex : Ext w h1.φ w' h1.φ := fun b o ho => by
      have hlt : b < w.heap.size := by
        rcases Nat.lt_or_ge b w.heap.size with h1 | h1
        · exact h1
        · rw [R1.top b h1] at ho; omega
      exact ⟨ho, hbel.cell (p := ⟨b, o, none⟩) hlt, mapAt_of_block (hbel.block b hlt)⟩
    have R2 := R1.move E.ok (w' := w') (h' := h1) rfl rfl rfl (fun _ h => h)
      ⟨ex, fun b hlt _ => ⟨hbel.block b hlt, rfl⟩, hbel.size, hbel.os, hbel.tape, hbel.output, fun b hb => .inl hb, fun b hb => R1.top b (Nat.le_trans hbel.size hb)⟩
      (fun b hM => ⟨hbel.block b (R1.mine b hM), rfl⟩) (fun b hM => Nat.lt_of_lt_of_le (R1.mine b hM) hbel.size) (fun b hb => R1.top b (Nat.le_trans hbel.size hb))
    have R3 := R2.row0 (r := d) (sz := 1) (e := e) hrd'
    have hg := growOk0 (r := d) (n := 0) (sz := 1) (e := e) (σ' := τ.set (.row d) (.r 0 1 e)) (h' := h1) (w' := w') (by simp)
    exact hn _ _ _ (rel_after (eff := { v := .slice (d + 1) 1 [], wr := [(d, 0, 1, e)], rr := [d] }) cc R R3 ⟨.named d 1 [] _ (.slice0 _ _ _), hg⟩ (by simpa using p3)) (by simpa using p3)
  · obtain ⟨R3, ext⟩ := R1.setRow (r := d) (n := l.length) (sz := 1) (e := e) (blk := blk) (cs := cs) (w' := w') E.ok (.inl hrd') (.inl hge) hheap (fun b hb _ => hbel.block b hb) hbel.size hbel.os hbel.tape hbel.output
      (fun o' ho' => by rw [R1.top _ hge] at ho'; omega) (by omega) hlt
    have hrow := rep_row (w' := w') (φ' := fun b => if b = blk then l.length * 1 else h1.φ b) (sz := 1) (blk := blk) (cap := cap) (e := e) (us := l.map intV) (cs := cs) (by omega) (by rw [List.length_map]; exact hcap) (fun u hu => by obtain ⟨_, _, rfl⟩ := List.mem_map.1 hu; rfl) hheap (by rw [List.length_map, if_pos rfl]; exact Nat.le_refl _) (fun j v hv => by
      rw [flat_intV, List.getElem?_map, Option.map_eq_some_iff] at hv
      obtain ⟨m, hm, rfl⟩ := hv
      exact ⟨_, hcells j m hm, .int _ _, rfl⟩)
    rw [List.length_map] at hrow
    have hg := growOk (σ' := τ.set (.row d) (.r l.length 1 e)) (h' := { h1 with φ := fun b => if b = blk then l.length * 1 else h1.φ b, M := fun b => h1.M b ∨ b = blk, γ := fun k => if k = d then some blk else h1.γ k })
      (w' := w') (r := d) (n := l.length) (sz := 1) (e := e) (blk := blk) (cap := cap) (xs := l.map intV) (cs := cs) (by simp) (by rw [List.length_map]) (if_pos rfl) hheap (by omega) hcap hmax
    exact hn _ _ _ (rel_after (eff := { v := .slice (d + 1) 1 (l.map intV), wr := [(d, l.length, 1, e)], rr := [d] }) cc R R3 ⟨.named d 1 (l.map intV) _ hrow, hg⟩ (by simpa using p3)) (by simpa using p3)

theorem Steps.callG {s : St} {K : St → Prop} {d : Nat} {f : FuncId} {xs : List X} {vs us : List V} {e : Nat} {l : List Int} {rest : List Ins} (hx : evXs s.env xs = some vs) (hd : ∀ b, toDs b vs = some (us, [])) (hC : CG E.P f us e l) (hrd : get s.rw d = none)
    (hk : Steps E rest K ((s.eff { v := .slice (d + 1) 1 (l.map intV), wr := [(d, l.length, 1, e)], rr := [d] }).put (some d) (.slice (d + 1) 1 (l.map intV)))) : Steps E (⟨some d, .call f, xs, none⟩ :: rest) K s :=
  Step1.does (ins := ⟨some d, .call f, xs, none⟩) (does_callG (evXs_ok hx) hd hC (by rw [fs_r]; exact hrd)) hk

end
end Go.Am

/-! Contracts: Own as a slice that may grow; the specification's choice, Covers, Earlier. -/
set_option linter.unusedVariables false
set_option linter.unusedSimpArgs false
set_option maxRecDepth 40000
set_option maxHeartbeats 4000000
namespace Go.Proofs.YtffoiccokigjcaaDoor
open Go.Am
attribute [local simp] cells scalar mkv splice under2 under dem dem1 eQ nfC intsV

theorem c_OwnG {l : List Int} (hl : l.length ≤ 1000000) : CG Tryd.prog F.ref00_Own [intsV l] 3 l := by
  refine CG_of mixed chk.ref00_Own (by simp) fun S ok => ?_
  refine Tr.seqR rfl (by simp) (Tr.seqR rfl (by simp) (Tr.seqR rfl (by simp; omega) (Tr.ret ?_)))
  refine ⟨6, rfl, ?_⟩
  show some ((l.map I).length, 1, 3) = _
  rw [List.length_map]

theorem c_OwnC {l : List Int} (hl : l.length ≤ 1000000) : C Tryd.prog F.ref00_Own [intsV l] (intsV l) := by
  refine C_of mixed chk.ref00_Own (by simp) fun S ok => ?_
  refine Tr.seqR rfl (by simp) (Tr.seqR rfl (by simp) (Tr.seqR rfl (by simp; omega) ?_))
  exact Tr.weak (s' := { env := [(2, intsV l)], bx := [], rw := [], log := [], stp := false }) (Wk.le (.cons rfl (.dem _ _ _) .nil) .nil .nil rfl rfl) (Tr.retX rfl rfl rfl rfl trivial)

theorem c_choice07 {x : Nf} (hx : nfOk x = true) {l : List Int} (hl : l.length ≤ 9223372036854775807) : C Tryd.prog F.ref07_choice [.agg (nfC x), intsV l] (.bool (bitsG x.passes.length l 0 (-1)).isSome) := by
  have h10 := (nfOk_spec hx).1.2
  refine C_of mixed chk.ref07_choice (by simp) fun S ok => ?_
  refine Tr.seqR rfl (by simp) (Tr.seq (Tr.seqR rfl (by simp) (Tr.block ?_)))
  refine Tr.loop (α := Nat × Nat × Int) (fun p st => (p.1 ≤ l.length ∧ -1 ≤ p.2.2 ∧ (p.1 = 0 → p.2.2 = -1) ∧ (0 < p.1 → p.2.2 = l.getD (p.1 - 1) 0 ∧ 0 ≤ p.2.2) ∧ bitsG x.passes.length l 0 (-1) = bitsG x.passes.length (l.drop p.1) p.2.1 p.2.2) ∧ st = { env := [(1, intsV l), (2, .ptr 2 0), (5, I (p.1 : Nat))], bx := [(2, ⟨nfC x, false⟩)], rw := [], log := [], stp := false }) (fun p => l.length - p.1) (0, 0, -1)
    (Wk.le (.cons rfl (.refl _) (.cons rfl (.refl _) (.cons rfl (.refl _) .nil))) (.cons rfl (LLe.refl _) .nil) .nil rfl rfl) ⟨⟨by simp, by simp, by simp, by simp, rfl⟩, rfl⟩ ?_
  rintro ⟨k, out, last⟩ st ⟨⟨hk, hla, hk0, hk1, hG⟩, rfl⟩
  simp only at hk hla hk0 hk1 hG
  refine Tr.seq (Tr.seqR rfl (by simp) (Tr.cond rfl rfl (fun h1 => Tr.skip ?_) (fun h1 => Tr.exit ?_)))
  rotate_left
  · have h1 : k = l.length := by simp at h1; omega
    subst h1
    rw [List.drop_length] at hG
    refine Tr.seqR rfl (by simp) (Tr.retX rfl rfl rfl ?_ trivial)
    rw [hG]; rfl
  have h1 : k < l.length := by simpa using h1
  rw [bitsG_drop h1] at hG
  have hw2 : IntKind.wrap .i64 (((x.passes.map eQ).length : Int) - 1) = (x.passes.length : Int) - 1 := by rw [List.length_map, w64 (by omega) (by omega)]
  have kb := c_between l[k] 0 (IntKind.wrap .i64 (((x.passes.map eQ).length : Int) - 1))
  obtain ⟨j, hj⟩ : ∃ j, (IntKind.wrap .i64 ((k : Int) - 1)).toNat = j := ⟨_, rfl⟩
  have hj2 : j < l.length ∧ (0 < k → j = k - 1 ∧ IntKind.wrap .i64 ((k : Int) - 1) = (k : Int) - 1) := by
    rw [← hj, w64 (by omega) (by omega)]
    constructor
    · omega
    · intro h; exact ⟨by omega, rfl⟩
  refine Tr.seq (Tr.block (Tr.seq (Tr.drawK (TraceK.runN 3 rfl (by simp; omega) ?_))))
  rw [getD_map h1]
  refine TraceK.run rfl (by simp) (TraceK.call rfl rfl kb ?_)
  rw [hw2]
  obtain ⟨W, hW⟩ : ∃ W, btw l[k] 0 ((x.passes.length : Int) - 1) = W := ⟨_, rfl⟩
  rw [hW]
  refine TraceK.runN 9 rfl ?_ ?_
  · simp
    intro m1 m2
    have h9 := hj2.2 m2
    exact ⟨⟨by omega, by omega⟩, m1, m2⟩
  rw [show (IntKind.wrap .i64 ((k : Int) - 1)).toNat = ((j : Nat) : Int).toNat by omega, getD_map hj2.1]
  refine TraceK.runN 4 rfl (by simp; intro m1 m2; exact ⟨by omega, m1, m2⟩) ?_
  rw [getD_map h1]
  refine TraceK.runN 2 rfl (by simp) ?_
  refine TraceK.gpick rfl rfl rfl (fun _ => rfl) rfl rfl ?_ ?_
  · simp
    exact fun a => ⟨fun b => ⟨a, b⟩, a⟩
  refine TraceK.run rfl (by simp) (.done ⟨by kernel_rfl, by kernel_rfl, ?_⟩)
  have hgo : (bif !W then true else bif decide ((k : Int) > 0) then decide (l[j] ≥ l[k]) else false) = !btw l[k] (last + 1) ((x.passes.length : Int) - 1) := by
    have e1 : btw l[k] (last + 1) ((x.passes.length : Int) - 1) = (W && decide (last + 1 ≤ l[k])) := by
      rw [← hW]
      unfold btw
      by_cases a : last + 1 ≤ l[k]
      · have : (0 : Int) ≤ l[k] := by omega
        simp [a, this]
      · simp [a]
    rw [e1]
    cases W with
    | false => rfl
    | true =>
      show (bif decide ((k : Int) > 0) then decide (l[j] ≥ l[k]) else false) = !(true && decide (last + 1 ≤ l[k]))
      have hb : 0 ≤ l[k] := ((btw_iff _ _ _).1 hW).1
      by_cases h0 : k = 0
      · subst h0
        have := hk0 rfl
        rw [this]
        simp; omega
      · obtain ⟨a1, a2⟩ := hk1 (by omega)
        have e2 := (hj2.2 (by omega)).1
        have e3 : l[j] = last := by
          rw [a1, ← e2]; simp [hj2.1]
        rw [e3]
        have : decide ((k : Int) > 0) = true := by simp; omega
        rw [this, cond_true, Bool.true_and, ← decide_not, decide_eq_decide]
        omega
  refine Tr.cond rfl rfl (fun h2 => ?_) (fun h2 => Tr.skip ?_)
  · have h2 := hgo.symm.trans h2
    have h2 : btw l[k] (last + 1) ((x.passes.length : Int) - 1) = false := by simpa using h2
    rw [h2] at hG
    refine Tr.seqR rfl (by simp) (Tr.retX rfl rfl rfl ?_ trivial)
    rw [hG]; rfl
  · have h2 := hgo.symm.trans h2
    have h2 : btw l[k] (last + 1) ((x.passes.length : Int) - 1) = true := by simpa using h2
    rw [h2, if_pos rfl] at hG
    have hb := (btw_iff _ _ _).1 h2
    refine Tr.regR rfl (by simp) ?_
    exact ⟨(k + 1, out ||| 2 ^ l[k].toNat, l[k]), _, Wk.le (.cons rfl (.refl _) (.cons rfl (.refl _) (.cons rfl (VLe.i (w64 (by omega) (by omega))) .nil))) (.cons rfl (LLe.refl _) .nil) .nil rfl rfl, ⟨⟨h1, by simp only; omega, by simp, fun _ => ⟨by simp [h1], by simp only; omega⟩, hG⟩, rfl⟩, by simp only; omega⟩

def Covers07R (x : Nf) (l : List Int) : V := if nfOk x then (if (bitsG x.passes.length l 0 (-1)).isSome then .tuple [.bool (covQ x l), I 0] else .tuple [.bool false, I 75]) else .tuple [.bool false, I 74]

theorem inPs_of {x : Nf} (h10 : x.passes.length ≤ 10) {l : List Int} (h : (bitsG x.passes.length l 0 (-1)).isSome = true) : inPs x l ∧ l.length ≤ 10 := by
  obtain ⟨b, hb⟩ := Option.isSome_iff_exists.1 h
  obtain ⟨h1, h2⟩ := bitsG_spec h10 l 0 0 b (by omega) (by simp) hb
  have e : choiceL b = l := by rw [h2]; rfl
  rw [← e]
  exact ⟨fun n hn => choice_lt h1 hn, choiceL_len b⟩

theorem c_Covers07 {x : Nf} (hs1 : x.lacks.length ≤ 9223372036854775807) (hs2 : x.passes.length ≤ 9223372036854775807) (hx : ∀ p ∈ x.passes, p.adds.length ≤ 9223372036854775807) {l : List Int} (hl : l.length ≤ 9223372036854775807) : C Tryd.prog F.ref07_Covers [.agg (nfC x), intsV l] (Covers07R x l) := by
  have kc := c_CheckInfill07 hs1 hs2 hx
  unfold Covers07R
  refine C_of mixed chk.ref07_Covers (by simp) fun S ok => ?_
  refine Tr.seqR rfl (by simp) ?_
  by_cases hk : nfOk x = true
  rotate_left
  · rw [if_neg hk] at kc ⊢
    refine Tr.seq (Tr.seqC rfl (by simp) (Steps.call rfl rfl kc (Steps.fin rfl (by simp) (Tr.seqR rfl (by simp) (Tr.condT rfl (Tr.seqR rfl (by simp) ?_))))))
    exact Tr.retX rfl rfl rfl rfl trivial
  rw [if_pos hk] at kc ⊢
  refine Tr.seq (Tr.seqC rfl (by simp) (Steps.call rfl rfl kc (Steps.fin rfl (by simp) (Tr.seqR rfl (by simp) (Tr.condF rfl (Tr.skip ?_))))))
  have kb := c_choice07 hk hl
  have h10 := (nfOk_spec hk).1.2
  by_cases hb : (bitsG x.passes.length l 0 (-1)).isSome = true
  rotate_left
  · rw [if_neg hb]
    have hb : (bitsG x.passes.length l 0 (-1)).isSome = false := by simpa using hb
    rw [hb] at kb
    refine Tr.seq (Tr.seqC rfl (by simp) (Steps.call rfl rfl kb (Steps.fin rfl (by simp) (Tr.condT rfl ?_))))
    exact Tr.seqR rfl (by simp) (Tr.retX rfl rfl rfl rfl trivial)
  · rw [if_pos hb]
    obtain ⟨a1, a2⟩ := inPs_of h10 hb
    rw [hb] at kb
    refine Tr.seq (Tr.seqC rfl (by simp) (Steps.call rfl rfl kb (Steps.fin rfl (by simp) (Tr.condF rfl (Tr.skip ?_)))))
    exact Tr.seqC rfl (by simp) (Steps.call rfl rfl (c_covers07 hk a2 a1) (Steps.fin rfl (by simp) (Tr.retX rfl rfl rfl rfl trivial)))

/-! ### Earlier -/
def earlB : List Int → List Int → Bool
  | [], m => decide (0 < m.length)
  | _ :: _, [] => false
  | a :: l, b :: m => if a = b then earlB l m else decide (a < b)

theorem earlB_drop {l m : List Int} {k : Nat} (h : k < l.length) (h' : k < m.length) : earlB (l.drop k) (m.drop k) = if l[k] = m[k] then earlB (l.drop (k + 1)) (m.drop (k + 1)) else decide (l[k] < m[k]) := by
  rw [List.drop_eq_getElem_cons h, List.drop_eq_getElem_cons h']; rfl

theorem c_Earlier {l m : List Int} (hl : l.length ≤ 1000000) : C Tryd.prog F.ref00_Earlier [intsV l, intsV m] (.bool (earlB l m)) := by
  refine C_of mixed chk.ref00_Earlier (by simp) fun S ok => ?_
  refine Tr.seqR rfl (by simp) (Tr.seq (Tr.seqR rfl (by simp) (Tr.block ?_)))
  refine Tr.loop (fun (k : Nat) st => ((k ≤ l.length ∧ k ≤ m.length) ∧ earlB l m = earlB (l.drop k) (m.drop k)) ∧ st = { env := [(0, intsV l), (1, intsV m), (5, I (k : Nat))], bx := [], rw := [], log := [], stp := false }) (fun k => l.length - k) 0
    (Wk.le (.cons rfl (.refl _) (.cons rfl (.refl _) (.cons rfl (.refl _) .nil))) .nil .nil rfl rfl) ⟨⟨by simp, by simp⟩, rfl⟩ ?_
  rintro k st ⟨⟨⟨hk, hk'⟩, he⟩, rfl⟩
  refine Tr.seq (Tr.seqR rfl (by simp) (Tr.cond rfl rfl (fun h1 => Tr.skip ?_) (fun h1 => Tr.exit ?_)))
  rotate_left
  · have h1 : (bif decide ((k : Int) < ((l.map I).length : Int)) then decide ((k : Int) < ((m.map I).length : Int)) else false) = false := h1
    refine Tr.seqR rfl (by simp) (Tr.retX rfl rfl rfl ?_ trivial)
    rw [he]
    show _ = V.bool (decide (((l.map I).length : Int) < ((m.map I).length : Int)))
    rw [List.length_map, List.length_map] at h1 ⊢
    congr 1
    by_cases hkl : k < l.length
    · have : ¬ k < m.length := fun h => by
        have e1 : decide ((k : Int) < (l.length : Int)) = true := by simp; omega
        have e2 : decide ((k : Int) < (m.length : Int)) = true := by simp; omega
        rw [e1, e2] at h1; cases h1
      rw [List.drop_eq_getElem_cons hkl, List.drop_eq_nil_of_le (show m.length ≤ k by omega)]
      show false = _
      simp; omega
    · rw [List.drop_eq_nil_of_le (show l.length ≤ k by omega)]
      show decide (0 < (m.drop k).length) = _
      rw [List.length_drop, decide_eq_decide]; omega
  have h1 : (bif decide ((k : Int) < ((l.map I).length : Int)) then decide ((k : Int) < ((m.map I).length : Int)) else false) = true := h1
  rw [List.length_map, List.length_map] at h1
  have hkl : k < l.length := by
    by_cases h : k < l.length
    · exact h
    · rw [decide_eq_false (by omega)] at h1; cases h1
  have hkm : k < m.length := by
    by_cases h : k < m.length
    · exact h
    · rw [decide_eq_false (p := (k : Int) < (m.length : Int)) (by omega)] at h1
      cases h2 : decide ((k : Int) < (l.length : Int)) <;> rw [h2] at h1 <;> cases h1
  rw [earlB_drop hkl hkm] at he
  refine Tr.seq (Tr.block (Tr.seq (Tr.drawK (TraceK.runN 3 rfl (by simp; omega) ?_))))
  rw [getD_map hkl]
  refine TraceK.runN 4 rfl (by simp; omega) ?_
  rw [getD_map hkm]
  refine TraceK.run rfl (by simp) (.done ⟨by kernel_rfl, by kernel_rfl, ?_⟩)
  refine Tr.cond rfl rfl (fun h2 => ?_) (fun h2 => Tr.skip ?_)
  · have h2 : (l[k] != m[k]) = true := h2
    have h2 : l[k] ≠ m[k] := by simpa using h2
    rw [if_neg h2] at he
    refine Tr.seq (Tr.drawK (TraceK.runN 3 rfl (by simp; omega) ?_))
    rw [getD_map hkl]
    refine TraceK.runN 4 rfl (by simp; omega) ?_
    rw [getD_map hkm]
    refine TraceK.run rfl (by simp) (.done ⟨by kernel_rfl, by kernel_rfl, Tr.retX rfl rfl rfl ?_ trivial⟩)
    rw [he]; rfl
  · have h2 : (l[k] != m[k]) = false := h2
    have h2 : l[k] = m[k] := by simpa using h2
    rw [if_pos h2] at he
    exact Tr.regR rfl (by simp) ⟨k + 1, _, Wk.le (.cons rfl (.refl _) (.cons rfl (.refl _) (.cons rfl (VLe.i (w64 (by omega) (by omega))) .nil))) .nil .nil rfl rfl, ⟨⟨⟨hkl, hkm⟩, he⟩, rfl⟩, by omega⟩

end Go.Proofs.YtffoiccokigjcaaDoor

/-! Contract: the specification's search. -/
set_option linter.unusedVariables false
set_option linter.unusedSimpArgs false
set_option maxRecDepth 40000
set_option maxHeartbeats 4000000
namespace Go.Am
/-- Instructions whose guards are known not to hold. -/
def offG (ins : Ins) (s : St) : Bool :=
  match ins.g with
  | some (t, want) => match get s.env t with
    | some gv => match guardOf want gv with
      | some false => true
      | _ => false
    | none => false
  | none => false

def runOff : Nat → List Ins → St → Option (St × List Ins)
  | 0, il, s => some (s, il)
  | _ + 1, [], _ => none
  | n + 1, i :: r, s => match offG i s with
    | true => runOff n r (s.put i.d (.cond false (.bool true)))
    | false => none

theorem Steps.offN {E : Env} {K : St → Prop} : ∀ (n : Nat) {s s' : St} {il rest : List Ins} (_ : runOff n il s = some (s', rest)) (_ : Steps E rest K s'), Steps E il K s
  | 0, s, s', il, rest, h, hs => by cases h; exact hs
  | n + 1, s, s', [], rest, h, hs => by cases h
  | n + 1, s, s', i :: r, rest, h, hs => by
    unfold runOff at h
    split at h
    · rename_i ho
      unfold offG at ho
      split at ho
      · rename_i t want hg
        split at ho
        · rename_i gv hgv
          split at ho
          · rename_i hgb
            exact Steps.off _ hg hgv hgb (Steps.offN n h hs)
          · cases ho
        · cases ho
      · cases ho
    · cases h
end Go.Am

namespace Go.Proofs.YtffoiccokigjcaaDoor
open Go.Am
attribute [local simp] cells scalar mkv splice under2 under dem dem1 eQ nfC intsV

structure Sr where
  ch : List Int
  co : Int
  is : Bool

def srV (x : Nf) (pass : Int) (s : Sr) : List V := [intsV x.lacks, .slice 0 2 (x.passes.map eQ), I pass, intsV s.ch, I s.co, .bool s.is]
def betterQ (x : Nf) (l : List Int) (s : Sr) : Bool := decide (sumTo x l l.length < s.co) || ((sumTo x l l.length == s.co) && (decide (l.length < s.ch.length) || (((l.length : Int) == (s.ch.length : Int)) && earlB l s.ch)))
def updQ (x : Nf) (s : Sr) (l : List Int) : Sr := if covQ x l then (if (!s.is || betterQ x l s) = true then ⟨l, sumTo x l l.length, true⟩ else s) else s
def subs (n : Nat) (pass : Int) : Nat → List Int → List (List Int)
  | 0, _ => []
  | m + 1, l => (if ((n - (m + 1) : Nat) : Int) ≠ pass then (l ++ [((n - (m + 1) : Nat) : Int)]) :: subs n pass m (l ++ [((n - (m + 1) : Nat) : Int)]) else []) ++ subs n pass m l

theorem setA1 (b : Nat) (o o' : Ob) : setA [(b, o)] b o' = [(b, o')] := by simp [setA]

abbrev srA (x : Nf) (pass : Int) (blk : Nat) (s : Sr) : Arena := [(blk, .cells (srV x pass s))]

theorem sr_co (x : Nf) (pass : Int) (s : Sr) : (srV x pass s)[4]? = some (I s.co) := rfl

theorem c_try {x : Nf} (hx : nfOk x = true) {pass : Int} {blk : Nat} : ∀ (m : Nat), m ≤ x.passes.length → ∀ (l : List Int) (s : Sr), inPs x l → l.length + m ≤ x.passes.length →
    CA Tryd.prog F.ref07_Search_try (srA x pass blk s) [] [.rptr blk 0, intsV l, I ((x.passes.length - m : Nat) : Int)] (.tuple []) (srA x pass blk ((l :: subs x.passes.length pass m l).foldl (updQ x) s)) := by
  have h10 := (nfOk_spec hx).1.2
  intro m
  induction m using Nat.strongRecOn with
  | ind m ih =>
  intro hm l s hi hlm
  have hl : l.length ≤ 10 := by omega
  refine CA_of mixed chk.ref07_Search_try (by simp) fun S ok S1 hA hK => ?_
  have hmem : ∀ s, (blk, Ob.cells (srV x pass s)) ∈ srA x pass blk s := fun s => List.mem_singleton.2 rfl
  obtain ⟨s1, hs1⟩ : ∃ s1, updQ x s l = s1 := ⟨_, rfl⟩
  rw [List.foldl_cons, hs1]
  refine Tr.meet { env := [(0, .rptr blk 0), (1, intsV l), (2, I ((x.passes.length - m : Nat) : Int))], bx := [], rw := [], log := encA (srA x pass blk s1), stp := false } ?_ ?_
  · refine Tr.seq (Tr.reg (Steps.runN 1 rfl (by simp) (Steps.rnil rfl (Steps.rfaddr rfl (Steps.aloadT hA rfl rfl (hmem s) (by simp [srV]) (Steps.run rfl (by simp) ?_))))))
    refine Steps.call rfl rfl (c_covers07 hx hl hi) (Steps.fin rfl (by simp) ?_)
    refine Tr.cond rfl rfl (fun h1 => ?_) (fun h1 => Tr.skip ?_)
    rotate_left
    · have h1 : covQ x l = false := h1
      have e : s1 = s := by rw [← hs1]; unfold updQ; rw [if_neg (by rw [h1]; simp)]
      rw [e]
      exact Wk.le (.cons rfl (.refl _) (.cons rfl (.refl _) (.cons rfl (.refl _) .nil))) .nil .nil rfl rfl
    have h1 : covQ x l = true := h1
    have e1 : s1 = if (!s.is || betterQ x l s) = true then ⟨l, sumTo x l l.length, true⟩ else s := by rw [← hs1]; unfold updQ; rw [if_pos h1]
    obtain ⟨n, hn⟩ : ∃ n, sumTo x l l.length = n := ⟨_, rfl⟩
    have hbq : betterQ x l s = (decide (n < s.co) || ((n == s.co) && (decide (l.length < s.ch.length) || (((l.length : Int) == (s.ch.length : Int)) && earlB l s.ch)))) := by unfold betterQ; rw [hn]
    refine Tr.seq (Tr.reg (Steps.runN 1 rfl (by simp) (Steps.rnil rfl (Steps.rfaddr rfl (Steps.aloadT hA rfl rfl (hmem s) (by simp [srV]) (Steps.run rfl (by simp) ?_))))))
    refine Steps.call rfl rfl (c_cost07 hx hl hi) (Steps.fin rfl (by simp) ?_)
    rw [hn] at e1 ⊢
    obtain ⟨B, hB⟩ : ∃ B, (!s.is || betterQ x l s) = B := ⟨_, rfl⟩
    rw [hB] at e1
    refine Tr.weak (s' := { env := [(0, .rptr blk 0), (1, intsV l), (2, I ((x.passes.length - m : Nat) : Int)), (6, I n)], bx := [], rw := [], log := encA (srA x pass blk s), stp := false }) (Wk.le (.cons rfl (.refl _) (.cons rfl (.refl _) (.cons rfl (.refl _) (.cons rfl (.refl _) .nil)))) .nil .nil rfl rfl) ?_
    refine Tr.meet { env := [(0, .rptr blk 0), (1, intsV l), (2, I ((x.passes.length - m : Nat) : Int)), (6, I n), (68, .bool B)], bx := [], rw := [], log := encA (srA x pass blk s), stp := false } ?_ ?_
    · have fin : ∀ {v : V}, v = .bool B → VLe v (.bool B) := fun h => .of_eq h
      refine Tr.reg (Steps.ldF hA (off := 5) rfl rfl (hmem s) rfl trivial rfl ?_)
      cases hsi : s.is with
      | false =>
        rw [hsi] at hB
        refine Steps.runN 2 rfl (by simp) (Steps.offN 6 rfl (Steps.runN 2 rfl (by simp) (Steps.offN 34 rfl (Steps.fin rfl (by simp) ?_))))
        exact Wk.le (.cons rfl (.refl _) (.cons rfl (.refl _) (.cons rfl (.refl _) (.cons rfl (.refl _) (.cons rfl (fin (by rw [← hB]; rfl)) .nil))))) .nil .nil rfl rfl
      | true =>
        rw [hsi, Bool.not_true, Bool.false_or, hbq] at hB
        refine Steps.runN 2 rfl (by simp) (Steps.runGN 1 rfl (by simp) (Steps.ldF hA (off := 4) rfl rfl (hmem s) rfl ⟨_, rfl, rfl⟩ rfl (Steps.runGN 3 rfl (by simp) ?_)))
        obtain ⟨c1, hc1⟩ : ∃ c, decide (n < s.co) = c := ⟨_, rfl⟩
        rw [hc1] at hB ⊢
        cases c1 with
        | true =>
          refine Steps.offN 34 rfl (Steps.fin rfl (by simp) ?_)
          exact Wk.le (.cons rfl (.refl _) (.cons rfl (.refl _) (.cons rfl (.refl _) (.cons rfl (.refl _) (.cons rfl (fin (by rw [← hB]; rfl)) .nil))))) .nil .nil rfl rfl
        | false =>
          rw [Bool.false_or] at hB
          refine Steps.runGN 1 rfl (by simp) (Steps.ldF hA (off := 4) rfl rfl (hmem s) rfl ⟨_, rfl, rfl⟩ rfl (Steps.runGN 2 rfl (by simp) ?_))
          obtain ⟨c2, hc2⟩ : ∃ c, (n == s.co) = c := ⟨_, rfl⟩
          rw [hc2] at hB ⊢
          cases c2 with
          | false =>
            refine Steps.offN 26 rfl (Steps.runGN 1 rfl (by simp) (Steps.fin rfl (by simp) ?_))
            exact Wk.le (.cons rfl (.refl _) (.cons rfl (.refl _) (.cons rfl (.refl _) (.cons rfl (.refl _) (.cons rfl (fin (by rw [← hB]; rfl)) .nil))))) .nil .nil rfl rfl
          | true =>
            rw [Bool.true_and] at hB
            refine Steps.runGN 2 rfl (by simp) (Steps.ldF hA (off := 3) rfl rfl (hmem s) rfl ⟨_, rfl, rfl⟩ rfl (Steps.runGN 3 rfl (by simp) ?_))
            obtain ⟨c3, hc3⟩ : ∃ c, decide (((l.map I).length : Int) < ((s.ch.map I).length : Int)) = c := ⟨_, rfl⟩
            have hc3' : decide (l.length < s.ch.length) = c3 := by rw [← hc3, List.length_map, List.length_map, decide_eq_decide]; omega
            rw [hc3'] at hB
            rw [hc3]
            cases c3 with
            | true =>
              refine Steps.offN 16 rfl (Steps.runGN 3 rfl (by simp) (Steps.fin rfl trivial ?_))
              exact Wk.le (.cons rfl (.refl _) (.cons rfl (.refl _) (.cons rfl (.refl _) (.cons rfl (.refl _) (.cons rfl (fin (by rw [← hB]; rfl)) .nil))))) .nil .nil rfl rfl
            | false =>
              rw [Bool.false_or] at hB
              refine Steps.runGN 2 rfl (by simp) (Steps.ldF hA (off := 3) rfl rfl (hmem s) rfl ⟨_, rfl, rfl⟩ rfl (Steps.runGN 3 rfl (by simp) ?_))
              obtain ⟨c4, hc4⟩ : ∃ c, (((l.map I).length : Int) == ((s.ch.map I).length : Int)) = c := ⟨_, rfl⟩
              have hc4' : ((l.length : Int) == (s.ch.length : Int)) = c4 := by rw [← hc4, List.length_map, List.length_map]
              rw [hc4'] at hB
              rw [hc4]
              cases c4 with
              | false =>
                refine Steps.offN 6 rfl (Steps.runGN 4 rfl (by simp) (Steps.fin rfl trivial ?_))
                exact Wk.le (.cons rfl (.refl _) (.cons rfl (.refl _) (.cons rfl (.refl _) (.cons rfl (.refl _) (.cons rfl (fin (by rw [← hB]; rfl)) .nil))))) .nil .nil rfl rfl
              | true =>
                refine Steps.runGN 1 rfl (by simp) (Steps.ldF hA (off := 3) rfl rfl (hmem s) rfl ⟨_, rfl, rfl⟩ rfl ?_)
                refine Steps.onG ⟨_, rfl, rfl⟩ (Steps.call rfl rfl (c_Earlier (by omega)) (Steps.runGN 4 rfl (by simp) (Steps.fin rfl trivial ?_)))
                exact Wk.le (.cons rfl (.refl _) (.cons rfl (.refl _) (.cons rfl (.refl _) (.cons rfl (.refl _) (.cons rfl (fin (by rw [← hB]; rfl)) .nil))))) .nil .nil rfl rfl
    · cases B with
      | false =>
        refine Tr.condF rfl (Tr.skip ?_)
        rw [e1]
        exact Wk.le (.cons rfl (.refl _) (.cons rfl (.refl _) (.cons rfl (.refl _) .nil))) .nil .nil rfl rfl
      | true =>
        refine Tr.condT rfl (Tr.reg (Steps.runN 4 rfl (by simp) (Steps.call rfl rfl (c_OwnC (by omega)) (Steps.runN 1 rfl (by simp) ?_))))
        refine Steps.rnil rfl (Steps.rfaddr rfl (Steps.astore hA rfl rfl (hmem s) (by simp [srV]) rfl rfl ?_))
        rw [setA1]
        refine Steps.rnil rfl (Steps.rfaddr rfl (Steps.astore hA rfl rfl (List.mem_singleton.2 rfl) (by simp [srV]) rfl rfl ?_))
        rw [setA1]
        refine Steps.rnil rfl (Steps.rfaddr rfl (Steps.astore hA rfl rfl (List.mem_singleton.2 rfl) (by simp [srV]) rfl rfl ?_))
        rw [setA1, e1]
        refine Steps.fin rfl (by simp) ?_
        exact Wk.le (.cons rfl (.refl _) (.cons rfl (.refl _) (.cons rfl (.refl _) .nil))) .nil .nil rfl rfl
  refine Tr.seqR rfl (by simp) (Tr.block ?_)
  refine Tr.loop (α := Nat × Sr) (fun p st => (p.1 ≤ m ∧ (subs x.passes.length pass p.1 l).foldl (updQ x) p.2 = (subs x.passes.length pass m l).foldl (updQ x) s1) ∧ st = { env := [(0, .rptr blk 0), (1, intsV l), (7, I ((x.passes.length - p.1 : Nat) : Int))], bx := [], rw := [], log := encA (srA x pass blk p.2), stp := false }) (fun p => p.1) (m, s1)
    (Wk.le (.cons rfl (.refl _) (.cons rfl (.refl _) (.cons rfl (.refl _) .nil))) .nil .nil rfl rfl) ⟨⟨Nat.le_refl _, rfl⟩, rfl⟩ ?_
  rintro ⟨q, s2⟩ st ⟨⟨hq, hf⟩, rfl⟩
  simp only at hq hf
  refine Tr.seq (Tr.seq (Tr.reg (Steps.runN 2 rfl (by simp) (Steps.rnil rfl (Steps.rfaddr rfl (Steps.rfaddr rfl (Steps.aload hA rfl rfl (hmem s2) rfl (Steps.fin rfl (by simp) ?_))))))))
  refine Tr.cond rfl rfl (fun h1 => Tr.skip ?_) (fun h1 => Tr.exit ?_)
  rotate_left
  · have h1 : decide (((x.passes.length - q : Nat) : Int) < ((x.passes.map eQ).length : Int)) = false := h1
    rw [List.length_map] at h1
    have h1 := of_decide_eq_false h1
    obtain rfl : q = 0 := by omega
    refine ⟨?_, [], [], [], rfl, rfl, rfl⟩
    rw [← hf]; rfl
  have h1 : decide (((x.passes.length - q : Nat) : Int) < ((x.passes.map eQ).length : Int)) = true := h1
  rw [List.length_map] at h1
  have h1 := of_decide_eq_true h1
  obtain ⟨q, rfl⟩ : ∃ q', q = q' + 1 := ⟨q - 1, by omega⟩
  obtain ⟨i, hi0⟩ : ∃ i, x.passes.length - (q + 1) = i := ⟨_, rfl⟩
  have hi1 : x.passes.length - q = i + 1 := by omega
  have hlast : inPs x (l ++ [(i : Int)]) := fun k hk => by
    rcases List.mem_append.1 hk with h | h
    · exact hi k h
    · obtain rfl := List.mem_singleton.1 h
      exact ⟨i, rfl, by omega⟩
  have hsb : subs x.passes.length pass (q + 1) l = (if (i : Int) ≠ pass then (l ++ [(i : Int)]) :: subs x.passes.length pass q (l ++ [(i : Int)]) else []) ++ subs x.passes.length pass q l := by
    rw [subs, hi0]
  obtain ⟨s3, hs3⟩ : ∃ s3, (if (i : Int) ≠ pass then (l ++ [(i : Int)]) :: subs x.passes.length pass q (l ++ [(i : Int)]) else []).foldl (updQ x) s2 = s3 := ⟨_, rfl⟩
  rw [hsb, List.foldl_append, hs3] at hf
  rw [hi0]
  refine Tr.meet { env := [(0, .rptr blk 0), (1, intsV l), (7, I (i : Nat))], bx := [], rw := [], log := encA (srA x pass blk s3), stp := false } (Tr.block ?_) (Tr.regR rfl (by simp) ?_)
  rotate_left
  · refine ⟨(q, s3), _, Wk.le (.cons rfl (.refl _) (.cons rfl (.refl _) (.cons rfl (VLe.i ?_) .nil))) .nil .nil rfl rfl, ⟨⟨by simp only; omega, hf⟩, rfl⟩, by simp only; omega⟩
    rw [hi1]; exact w64 (by omega) (by omega)
  refine Tr.seq (Tr.reg (Steps.runN 1 rfl (by simp) (Steps.ldF hA (off := 2) rfl rfl (hmem s2) rfl trivial rfl (Steps.fin rfl (by simp) ?_))))
  refine Tr.cond rfl rfl (fun h2 => ?_) (fun h2 => Tr.skip ?_)
  rotate_left
  · have h2 : ((i : Int) != pass) = false := h2
    have h2 : ¬ (i : Int) ≠ pass := by simpa using h2
    rw [if_neg h2] at hs3
    obtain rfl : s2 = s3 := hs3
    exact Wk.le (.cons rfl (.refl _) (.cons rfl (.refl _) (.cons rfl (.refl _) .nil))) .nil .nil rfl rfl
  have h2 : ((i : Int) != pass) = true := h2
  have h2 : (i : Int) ≠ pass := by simpa using h2
  rw [if_pos h2] at hs3
  have hmap : l.map I ++ [I (i : Nat)] = (l ++ [(i : Int)]).map I := by simp
  have kt := ih q (by omega) (by omega) (l ++ [(i : Int)]) s2 hlast (by simp; omega)
  rw [hs3, hi1] at kt
  refine Tr.reg (Steps.runN 2 rfl (by simp) (Steps.callG rfl (fun _ => rfl) (c_OwnG (by omega)) rfl (Steps.runN 2 rfl (by simp) ?_)))
  refine Steps.runN 1 rfl (by simp; omega) (Steps.run rfl (by simp) ?_)
  rw [w64 (n := (i : Int) + 1) (by omega) (by omega), hmap]
  refine Steps.callA (F := []) hA rfl rfl rfl kt (.inl (by simp)) (Steps.fin rfl (by simp) ?_)
  exact Wk.le (.cons rfl (.refl _) (.cons rfl (.refl _) (.cons rfl (.refl _) .nil))) .nil .nil rfl rfl

end Go.Proofs.YtffoiccokigjcaaDoor

/-! Contracts: the specification's best, Best, Without. -/
set_option linter.unusedVariables false
set_option linter.unusedSimpArgs false
set_option maxRecDepth 40000
set_option maxHeartbeats 4000000
namespace Go.Am
open Go.RowKit
/-- Nil slices, or empty ones in their place. -/
def nilsLe : List V → List V → Prop
  | [], [] => True
  | u :: us, v :: vs => (v = u ∨ u = .nils ∧ ∃ sz, v = .slice 0 sz []) ∧ nilsLe us vs
  | _, _ => False

theorem nilsLe_len : ∀ {us vs : List V}, nilsLe us vs → us.length = vs.length
  | [], [], _ => rfl
  | _ :: us, _ :: vs, h => by rw [List.length_cons, List.length_cons, nilsLe_len h.2]
  | [], _ :: _, h => h.elim
  | _ :: _, [], h => h.elim

theorem nilsLe_get : ∀ {us vs : List V} (_ : nilsLe us vs) (i : Nat) (u v : V), us[i]? = some u → vs[i]? = some v → (v = u ∨ u = .nils ∧ ∃ sz, v = .slice 0 sz [])
  | u :: us, v :: vs, h, 0, a, b, h1, h2 => by cases h1; cases h2; exact h.1
  | u :: us, v :: vs, h, i + 1, a, b, h1, h2 => nilsLe_get h.2 i a b h1 h2
  | [], [], _, i, a, b, h1, _ => by simp at h1
  | [], _ :: _, h, _, _, _, _, _ => h.elim
  | _ :: _, [], h, _, _, _, _, _ => h.elim

theorem nils_rep {w : World} {φ : Nat → Nat} {u v : V} {x : Value} (h : v = u ∨ u = .nils ∧ ∃ sz, v = .slice 0 sz []) (r : RepD w φ u x) : RepD w φ v x := by
  rcases h with rfl | ⟨rfl, sz, rfl⟩
  · exact r
  · cases r; exact .slice0 _ _ _

/-- A contract over an arena takes nil slices where it takes empty ones. -/
theorem CA.nils {P : Program} {f : FuncId} {A B : Arena} {K : List (Nat × List V)} {us vs : List V} {r : V} (h : CA P f A K vs r B) (hle : nilsLe us vs) : CA P f A K us r B :=
  ⟨h.1, fun w φ xs h1 h2 h3 h4 h5 hr => h.2 w φ xs h1 h2 h3 h4 h5 ⟨by rw [← nilsLe_len hle]; exact hr.1, fun i v x hv hx => by
    have hi : i < us.length := by rw [nilsLe_len hle]; exact (List.getElem?_eq_some_iff.1 hv).1
    exact nils_rep (nilsLe_get hle i _ v (List.getElem?_eq_getElem hi) hv) (hr.2 i _ x (List.getElem?_eq_getElem hi) hx)⟩⟩

/-- A new struct of an arena, its nil slices taken as empty ones. -/
theorem Steps.aboxN {E : Env} {S0 : Sur} {l0 : List (List V)} {s0 : Bool} {A : Arena} (hE : InA E S0 l0 s0) {K : St → Prop} {s : St} {d : Nat} {x : X} {rest : List Ins} {v : V} {cs : List V} (hx : evXs s.env [x] = some [v]) (hl : s.log = encA A) (hs : (cells v).all scalar = true) (hd : (cells v).all isD = true) (hle : nilsLe (cells v) cs)
    (hk : ∀ b, b ∉ A.map (·.1) → Steps E rest K { s.put (some d) (.rptr b 0) with log := encA ((b, .cells cs) :: A) }) : Steps E (⟨some d, .box, [x], none⟩ :: rest) K s := by
  refine Step1.raw fun slots ops o i ro n a w h hc hsl hi R Q next hn => ?_
  obtain ⟨os, cc⟩ := comp_of hc
  obtain ⟨e, p, ho, rfl⟩ := opK_box0 cc.op
  obtain ⟨u, hu, o1⟩ := (opds_of R.1 cc.xs (evXs_ok hx)).one
  simp only [List.cons.injEq, and_true] at hu
  subst hu
  have R' : E.relF (encA A) s.stp s.fs a w h := by rw [← hl]; exact R
  obtain ⟨q1, q2⟩ := o1.cells hs
  have q0 := nilsLe_len hle
  obtain ⟨R2, hnm⟩ := hE.fresh R' (.cells (a.eval p).cells e) (.cells cs) (fun ext => ⟨(a.eval p).cells, e, heap_alloc_new w _, by omega, fun j u z hu hz => by
    have hj : j < (cells v).length := by rw [q0]; exact (List.getElem?_eq_some_iff.1 hu).1
    have hu' := List.getElem?_eq_getElem hj
    obtain ⟨r1, _, r3⟩ := q2 j _ z hu' hz
    have hD : isD (cells v)[j] = true := by
      rw [List.all_eq_true] at hd
      exact hd _ (List.getElem_mem hj)
    have hn := nilsLe_get hle j _ u hu' hu
    refine ⟨(nils_rep hn (rep_isD hD r1)).mono ext, ?_⟩
    rcases hn with rfl | ⟨_, sz, rfl⟩
    · exact r3
    · rfl⟩)
  refine wpOp_done hi (wanted_none (guard_none cc rfl)) (opK_defer cc.op) (.inl ?_) (hn _ _ _ h (hk _ hnm) (rel_putA cc R2 (.data (.rptr _ _)) rfl) rfl)
  simp [execOp, ho, Instr.box, newVar, newRow]
end Go.Am

namespace Go.Proofs.YtffoiccokigjcaaDoor
open Go.Am
attribute [local simp] cells scalar mkv splice under2 under dem dem1 eQ nfC intsV

/-- What the search ends with. -/
def srF (x : Nf) (pass : Int) : Sr := ([] :: subs x.passes.length pass x.passes.length []).foldl (updQ x) ⟨[], 0, false⟩

theorem c_best07 {x : Nf} (hx : nfOk x = true) (pass : Int) : C Tryd.prog F.ref07_best [.agg (nfC x), I pass] (.vptr (srV x pass (srF x pass)) 0) := by
  refine C_of mixed chk.ref07_best (by simp) fun S ok => ?_
  refine Tr.seqR rfl (by simp) ?_
  refine Tr.arena rfl rfl ?_
  have hA := InA.main (E := env0 Tryd.prog mixed 13 S ok) [] false
  refine Tr.seq (Tr.reg (Steps.runN 3 rfl (by simp) (Steps.aboxN hA (cs := srV x pass ⟨[], 0, false⟩) rfl rfl rfl rfl ⟨.inl rfl, .inl rfl, .inl rfl, .inr ⟨rfl, 1, rfl⟩, .inl rfl, .inl rfl, trivial⟩ fun b nb => Steps.fin rfl (by simp) ?_)))
  have kt := c_try (blk := b) (pass := pass) hx x.passes.length (Nat.le_refl _) [] ⟨[], 0, false⟩ (fun n hn => by simp at hn) (by simp)
  rw [Nat.sub_self] at kt
  have kt := kt.nils (us := [.rptr b 0, .nils, I 0]) ⟨.inl rfl, .inr ⟨rfl, 1, rfl⟩, .inl rfl, trivial⟩
  refine Tr.seq (Tr.reg (Steps.runN 1 rfl (by simp) (Steps.callA (F := []) hA rfl rfl rfl kt (.inl (by simp)) (Steps.fin rfl (by simp) ?_))))
  refine Tr.seqR rfl (by simp) ?_
  refine Tr.weak (Wk.closeP hA (t := 4) (blk := b) (cs := srV x pass (srF x pass)) (A := srA x pass b (srF x pass)) rfl rfl (List.mem_singleton.2 rfl)) ?_
  exact Tr.retX rfl rfl rfl rfl trivial

def Best07R (x : Nf) : V := if nfOk x then (if (srF x (-1)).is then .tuple [intsV (srF x (-1)).ch, I (srF x (-1)).co, I 0] else .tuple [intsV [], I 0, I 4]) else .tuple [intsV [], I 0, I 74]

theorem c_Best07 {x : Nf} (hs1 : x.lacks.length ≤ 9223372036854775807) (hs2 : x.passes.length ≤ 9223372036854775807) (hx : ∀ p ∈ x.passes, p.adds.length ≤ 9223372036854775807) : C Tryd.prog F.ref07_Best [.agg (nfC x)] (Best07R x) := by
  have kc := c_CheckInfill07 hs1 hs2 hx
  unfold Best07R
  refine C_of mixed chk.ref07_Best (by simp) fun S ok => ?_
  refine Tr.seqR rfl (by simp) ?_
  by_cases hk : nfOk x = true
  rotate_left
  · rw [if_neg hk] at kc ⊢
    refine Tr.seq (Tr.seqC rfl (by simp) (Steps.call rfl rfl kc (Steps.fin rfl (by simp) (Tr.seqR rfl (by simp) (Tr.condT rfl (Tr.seqR rfl (by simp) ?_))))))
    exact Tr.weak (s' := { env := [(2, intsV []), (3, I 0), (4, I 74)], bx := [], rw := [], log := [], stp := false }) (Wk.le (.cons rfl (.nil 0 1) (.cons rfl (.refl _) (.cons rfl (.refl _) .nil))) .nil .nil rfl rfl) (Tr.retX rfl rfl rfl rfl trivial)
  rw [if_pos hk] at kc ⊢
  refine Tr.seq (Tr.seqC rfl (by simp) (Steps.call rfl rfl kc (Steps.fin rfl (by simp) (Tr.seqR rfl (by simp) (Tr.condF rfl (Tr.skip ?_))))))
  have kb := c_best07 hk (-1)
  generalize srF x (-1) = s at kb ⊢
  refine Tr.seqC rfl (by simp) (Steps.call rfl rfl kb (Steps.fin rfl (by simp) ?_))
  refine Tr.seq (Tr.seqR rfl (by simp [srV]) (Tr.cond rfl rfl (fun h => ?_) (fun h => Tr.skip ?_)))
  · have h : (!s.is) = true := h
    rw [if_neg (by simpa using h)]
    refine Tr.seqR rfl (by simp) ?_
    exact Tr.weak (s' := { env := [(2, intsV []), (3, I 0), (4, I 4)], bx := [], rw := [], log := [], stp := false }) (Wk.le (.cons rfl (.nil 0 1) (.cons rfl (.refl _) (.cons rfl (.refl _) .nil))) .nil .nil rfl rfl) (Tr.retX rfl rfl rfl rfl trivial)
  · have h : (!s.is) = false := h
    rw [if_pos (by simpa using h)]
    refine Tr.seq (Tr.drawK (TraceK.run rfl (by simp [srV]) (.done ⟨by kernel_rfl, by kernel_rfl, ?_⟩)))
    exact Tr.retX rfl rfl rfl rfl trivial

def Without07R (x : Nf) (p : Int) : V := if nfOk x then (if btw p 0 ((x.passes.length : Int) - 1) then (if (srF x p).is then .tuple [I (IntKind.wrap .i64 ((srF x p).co - (srF x (-1)).co)), I 0] else .tuple [I 0, I 4]) else .tuple [I 0, I 75]) else .tuple [I 0, I 74]

theorem c_Without07 {x : Nf} (hs1 : x.lacks.length ≤ 9223372036854775807) (hs2 : x.passes.length ≤ 9223372036854775807) (hx : ∀ p ∈ x.passes, p.adds.length ≤ 9223372036854775807) (p : Int) : C Tryd.prog F.ref07_Without [.agg (nfC x), I p] (Without07R x p) := by
  have kc := c_CheckInfill07 hs1 hs2 hx
  unfold Without07R
  refine C_of mixed chk.ref07_Without (by simp) fun S ok => ?_
  refine Tr.seqR rfl (by simp) ?_
  by_cases hk : nfOk x = true
  rotate_left
  · rw [if_neg hk] at kc ⊢
    refine Tr.seq (Tr.seqC rfl (by simp) (Steps.call rfl rfl kc (Steps.fin rfl (by simp) (Tr.seqR rfl (by simp) (Tr.condT rfl (Tr.seqR rfl (by simp) ?_))))))
    exact Tr.retX rfl rfl rfl rfl trivial
  rw [if_pos hk] at kc ⊢
  have hm := (nfOk_spec hk).1.2
  refine Tr.seq (Tr.seqC rfl (by simp) (Steps.call rfl rfl kc (Steps.fin rfl (by simp) (Tr.seqR rfl (by simp) (Tr.condF rfl (Tr.skip ?_))))))
  have kw := c_between p 0 (IntKind.wrap .i64 (((x.passes.map eQ).length : Int) - 1))
  have hw1 : IntKind.wrap .i64 (((x.passes.map eQ).length : Int) - 1) = (x.passes.length : Int) - 1 := by rw [List.length_map, w64 (by omega) (by omega)]
  refine Tr.seq (Tr.seqC rfl (by simp) (Steps.call rfl rfl kw (Steps.fin rfl (by simp) (Tr.cond rfl rfl (fun h => ?_) (fun h => Tr.skip ?_)))))
  · have h : (!btw p 0 (IntKind.wrap .i64 (((x.passes.map eQ).length : Int) - 1))) = true := h
    rw [hw1] at h
    rw [if_neg (by simpa using h)]
    exact Tr.seqR rfl (by simp) (Tr.retX rfl rfl rfl rfl trivial)
  have h : (!btw p 0 (IntKind.wrap .i64 (((x.passes.map eQ).length : Int) - 1))) = false := h
  rw [hw1] at h
  have h : btw p 0 ((x.passes.length : Int) - 1) = true := by simpa using h
  rw [if_pos h]
  have kb := c_best07 hk p
  have kb0 := c_best07 hk (-1)
  generalize srF x p = s at kb ⊢
  generalize srF x (-1) = s0 at kb0 ⊢
  refine Tr.seqC rfl (by simp) (Steps.call rfl rfl kb (Steps.fin rfl (by simp) ?_))
  refine Tr.seq (Tr.seqR rfl (by simp [srV]) (Tr.cond rfl rfl (fun h => ?_) (fun h => Tr.skip ?_)))
  · have h : (!s.is) = true := h
    rw [if_neg (by simpa using h)]
    exact Tr.seqR rfl (by simp) (Tr.retX rfl rfl rfl rfl trivial)
  · have h : (!s.is) = false := h
    rw [if_pos (by simpa using h)]
    refine Tr.seq (Tr.drawK (TraceK.run rfl (by simp [srV]) (TraceK.call rfl rfl kb0 (TraceK.run rfl (by simp [srV]) (.done ⟨by kernel_rfl, by kernel_rfl, ?_⟩)))))
    exact Tr.retX rfl rfl rfl rfl trivial

end Go.Proofs.YtffoiccokigjcaaDoor

/-! Plain laws: the search of the specification and the search over bits find the same choice. -/
set_option linter.unusedVariables false
set_option linter.unusedSimpArgs false
set_option maxRecDepth 40000
set_option maxHeartbeats 4000000
namespace Go.Proofs.YtffoiccokigjcaaDoor
open Go.Am

/-! ### The best of a list -/
theorem snocInd {α : Type} {P : List α → Prop} (h0 : P []) (h1 : ∀ L b, P L → P (L ++ [b])) (L : List α) : P L := by
  rw [← List.reverse_reverse L]
  generalize L.reverse = l
  induction l with
  | nil => exact h0
  | cons b l ih => rw [List.reverse_cons]; exact h1 _ _ ih

section
variable {α : Type} (cov : α → Bool) (lt : α → α → Bool)
def gstep (p : α × Bool) (b : α) : α × Bool := if !cov b then p else if !p.2 then (b, true) else if lt b p.1 then (b, true) else p

theorem gfold_spec (tr : ∀ a b c, lt a b = true → lt b c = true → lt a c = true) (tot : ∀ a b, a = b ∨ lt a b = true ∨ lt b a = true) (a0 : α) : ∀ (L : List α),
    ((L.foldl (gstep cov lt) (a0, false)).2 = true → (L.foldl (gstep cov lt) (a0, false)).1 ∈ L ∧ cov (L.foldl (gstep cov lt) (a0, false)).1 = true) ∧
    ∀ v ∈ L, cov v = true → (L.foldl (gstep cov lt) (a0, false)).2 = true ∧ (v = (L.foldl (gstep cov lt) (a0, false)).1 ∨ lt (L.foldl (gstep cov lt) (a0, false)).1 v = true) := by
  refine snocInd ?_ ?_
  · exact ⟨fun h => by simp at h, fun v h => by simp at h⟩
  · intro L b ih
    rw [List.foldl_append, List.foldl_cons, List.foldl_nil]
    generalize L.foldl (gstep cov lt) (a0, false) = p at ih ⊢
    obtain ⟨o, so⟩ := p
    obtain ⟨h1, h2⟩ := ih
    simp only at h1 h2
    unfold gstep
    by_cases hc : cov b = true
    rotate_left
    · have hc : cov b = false := by simpa using hc
      rw [hc, if_pos (show (!false) = true from rfl)]
      refine ⟨fun h => ⟨by simp [(h1 h).1], (h1 h).2⟩, fun v hv hcv => ?_⟩
      rcases List.mem_append.1 hv with hv | hv
      · exact h2 v hv hcv
      · obtain rfl := List.mem_singleton.1 hv
        rw [hc] at hcv; cases hcv
    rw [hc, if_neg (by simp)]
    cases so with
    | false =>
      rw [if_pos (show (!(o, false).2) = true from rfl)]
      refine ⟨fun _ => ⟨by simp, hc⟩, fun v hv hcv => ?_⟩
      rcases List.mem_append.1 hv with hv | hv
      · have := (h2 v hv hcv).1; cases this
      · obtain rfl := List.mem_singleton.1 hv
        exact ⟨rfl, .inl rfl⟩
    | true =>
      rw [if_neg (by simp)]
      obtain ⟨a1, a2⟩ := h1 rfl
      by_cases hb : lt b o = true
      · rw [if_pos hb]
        refine ⟨fun _ => ⟨by simp, hc⟩, fun v hv hcv => ⟨rfl, ?_⟩⟩
        rcases List.mem_append.1 hv with hv | hv
        · rcases (h2 v hv hcv).2 with rfl | h
          · exact .inr hb
          · exact .inr (tr _ _ _ hb h)
        · exact .inl (List.mem_singleton.1 hv)
      · rw [if_neg hb]
        refine ⟨fun _ => ⟨by simp [a1], a2⟩, fun v hv hcv => ⟨rfl, ?_⟩⟩
        rcases List.mem_append.1 hv with hv | hv
        · exact (h2 v hv hcv).2
        · obtain rfl := List.mem_singleton.1 hv
          rcases tot v o with h | h | h
          · exact .inl h
          · exact absurd h hb
          · exact .inr h

/-- The same candidates, the same best. -/
theorem gfold_eq (tr : ∀ a b c, lt a b = true → lt b c = true → lt a c = true) (tot : ∀ a b, a = b ∨ lt a b = true ∨ lt b a = true) (asy : ∀ a b, lt a b = true → lt b a = true → False) (a0 b0 : α) {L M : List α} (h1 : ∀ v ∈ L, cov v = true → v ∈ M) (h2 : ∀ v ∈ M, cov v = true → v ∈ L) :
    (L.foldl (gstep cov lt) (a0, false)).2 = (M.foldl (gstep cov lt) (b0, false)).2 ∧ ((L.foldl (gstep cov lt) (a0, false)).2 = true → (L.foldl (gstep cov lt) (a0, false)).1 = (M.foldl (gstep cov lt) (b0, false)).1) := by
  obtain ⟨p1, p2⟩ := gfold_spec cov lt tr tot a0 L
  obtain ⟨q1, q2⟩ := gfold_spec cov lt tr tot b0 M
  generalize L.foldl (gstep cov lt) (a0, false) = p at p1 p2 ⊢
  generalize M.foldl (gstep cov lt) (b0, false) = q at q1 q2 ⊢
  have hpq : p.2 = true → q.2 = true ∧ p.1 = q.1 := fun h => by
    obtain ⟨a1, a2⟩ := p1 h
    obtain ⟨c1, c2⟩ := q2 _ (h1 _ a1 a2) a2
    obtain ⟨d1, d2⟩ := q1 c1
    obtain ⟨_, e2⟩ := p2 _ (h2 _ d1 d2) d2
    refine ⟨c1, ?_⟩
    rcases c2 with h | h
    · exact h
    · rcases e2 with h' | h'
      · exact h'.symm
      · exact (asy _ _ h h').elim
  refine ⟨?_, fun h => (hpq h).2⟩
  cases hp : p.2 with
  | true => exact (hpq hp).1.symm
  | false =>
    cases hq : q.2 with
    | false => rfl
    | true =>
      obtain ⟨d1, d2⟩ := q1 hq
      rw [(p2 _ (h2 _ d1 d2) d2).1] at hp; cases hp

end

/-! ### The order of choices -/
theorem earl_irr : ∀ l, earlB l l = false
  | [] => rfl
  | a :: l => by simp only [earlB, if_pos]; exact earl_irr l
theorem earl_tr : ∀ {l m k : List Int}, l.length = m.length → m.length = k.length → earlB l m = true → earlB m k = true → earlB l k = true
  | [], [], [], _, _, h, _ => by simp [earlB] at h
  | a :: l, b :: m, c :: k, h1, h2, e1, e2 => by
    simp only [List.length_cons, Nat.add_right_cancel_iff] at h1 h2
    unfold earlB at e1 e2 ⊢
    by_cases hab : a = b
    · subst hab
      rw [if_pos rfl] at e1
      by_cases hac : a = c
      · rw [if_pos hac] at e2 ⊢; exact earl_tr h1 h2 e1 e2
      · rw [if_neg hac] at e2 ⊢; exact e2
    · rw [if_neg hab] at e1
      have e1 := of_decide_eq_true e1
      by_cases hbc : b = c
      · subst hbc
        rw [if_neg hab]; exact decide_eq_true e1
      · rw [if_neg hbc] at e2
        have e2 := of_decide_eq_true e2
        rw [if_neg (by omega)]; exact decide_eq_true (by omega)
theorem earl_tot : ∀ {l m : List Int}, l.length = m.length → l = m ∨ earlB l m = true ∨ earlB m l = true
  | [], [], _ => .inl rfl
  | a :: l, b :: m, h => by
    simp only [List.length_cons, Nat.add_right_cancel_iff] at h
    unfold earlB
    by_cases hab : a = b
    · subst hab
      rw [if_pos rfl, if_pos rfl]
      rcases earl_tot h with rfl | h | h
      · exact .inl rfl
      · exact .inr (.inl h)
      · exact .inr (.inr h)
    · rw [if_neg hab, if_neg (fun e => hab e.symm)]
      rcases Int.lt_or_gt_of_ne hab with h | h
      · exact .inr (.inl (decide_eq_true h))
      · exact .inr (.inr (decide_eq_true h))
theorem earl_cmp : ∀ {l m : List Int}, l.length = m.length → earlB l m = decide (cmpL l m < 0)
  | [], [], _ => by simp [earlB, cmpL]
  | a :: l, b :: m, h => by
    simp only [List.length_cons, Nat.add_right_cancel_iff] at h
    have ih := earl_cmp h
    unfold earlB cmpL cmpI
    by_cases hab : a = b
    · subst hab
      simp [ih]
    · rw [if_neg hab]
      by_cases h1 : a < b
      · simp [h1]
      · have : b < a := by omega
        simp [h1, this]

def ltL (x : Nf) (l m : List Int) : Bool := betterQ x l ⟨m, sumTo x m m.length, true⟩

theorem ltL_iff {x : Nf} {l m : List Int} : ltL x l m = true ↔ sumTo x l l.length < sumTo x m m.length ∨ sumTo x l l.length = sumTo x m m.length ∧ (l.length < m.length ∨ l.length = m.length ∧ earlB l m = true) := by
  unfold ltL betterQ
  simp only [Bool.or_eq_true, decide_eq_true_eq, Bool.and_eq_true, beq_iff_eq]
  constructor
  · rintro (h | ⟨h, h2 | ⟨h3, h4⟩⟩)
    · exact .inl h
    · exact .inr ⟨h, .inl h2⟩
    · exact .inr ⟨h, .inr ⟨by omega, h4⟩⟩
  · rintro (h | ⟨h, h2 | ⟨h3, h4⟩⟩)
    · exact .inl h
    · exact .inr ⟨h, .inl h2⟩
    · exact .inr ⟨h, .inr ⟨by omega, h4⟩⟩

theorem ltL_tr (x : Nf) (a b c : List Int) (h1 : ltL x a b = true) (h2 : ltL x b c = true) : ltL x a c = true := by
  rw [ltL_iff] at h1 h2 ⊢
  rcases h1 with h1 | ⟨h1, h1'⟩
  · rcases h2 with h2 | ⟨h2, _⟩
    · exact .inl (by omega)
    · exact .inl (by omega)
  · rcases h2 with h2 | ⟨h2, h2'⟩
    · exact .inl (by omega)
    · refine .inr ⟨by omega, ?_⟩
      rcases h1' with h3 | ⟨h3, h3'⟩
      · rcases h2' with h4 | ⟨h4, _⟩
        · exact .inl (by omega)
        · exact .inl (by omega)
      · rcases h2' with h4 | ⟨h4, h4'⟩
        · exact .inl (by omega)
        · exact .inr ⟨by omega, earl_tr h3 h4 h3' h4'⟩
theorem ltL_irr (x : Nf) (a : List Int) (h : ltL x a a = true) : False := by
  rw [ltL_iff, earl_irr] at h
  rcases h with h | ⟨_, h | ⟨_, h⟩⟩
  · omega
  · omega
  · cases h
theorem ltL_asy (x : Nf) (a b : List Int) (h1 : ltL x a b = true) (h2 : ltL x b a = true) : False := ltL_irr x a (ltL_tr x a b a h1 h2)
theorem ltL_tot (x : Nf) (a b : List Int) : a = b ∨ ltL x a b = true ∨ ltL x b a = true := by
  rw [ltL_iff, ltL_iff]
  rcases Int.lt_trichotomy (sumTo x a a.length) (sumTo x b b.length) with h | h | h
  · exact .inr (.inl (.inl h))
  · rcases Nat.lt_trichotomy a.length b.length with h2 | h2 | h2
    · exact .inr (.inl (.inr ⟨h, .inl h2⟩))
    · rcases earl_tot h2 with h3 | h3 | h3
      · exact .inl h3
      · exact .inr (.inl (.inr ⟨h, .inr ⟨h2, h3⟩⟩))
      · exact .inr (.inr (.inr ⟨h.symm, .inr ⟨h2.symm, h3⟩⟩))
    · exact .inr (.inr (.inr ⟨h.symm, .inl h2⟩))
  · exact .inr (.inr (.inl h))

theorem sumTo_cost (x : Nf) (b : Nat) : sumTo x (choiceL b) (choiceL b).length = costB x b := by
  unfold sumTo costB sumF
  rw [List.take_length]

theorem better_lt (x : Nf) (b o : Nat) : better x b o = ltL x (choiceL b) (choiceL o) := by
  rw [Bool.eq_iff_iff, ltL_iff, sumTo_cost, sumTo_cost]
  unfold better
  by_cases h1 : costB x b ≠ costB x o
  · rw [if_pos h1, decide_eq_true_eq]
    constructor
    · exact fun h => .inl h
    · rintro (h | ⟨h, _⟩)
      · exact h
      · exact absurd h h1
  · rw [if_neg h1]
    have h1 := Classical.not_not.1 h1
    by_cases h2 : (choiceL b).length ≠ (choiceL o).length
    · rw [if_pos h2, decide_eq_true_eq]
      constructor
      · exact fun h => .inr ⟨h1, .inl h⟩
      · rintro (h | ⟨_, h | ⟨h, _⟩⟩)
        · omega
        · exact h
        · exact absurd h h2
    · rw [if_neg h2]
      have h2 := Classical.not_not.1 h2
      rw [earl_cmp h2, decide_eq_true_eq]
      constructor
      · exact fun h => .inr ⟨h1, .inr ⟨h2, h⟩⟩
      · rintro (h | ⟨_, h | ⟨_, h⟩⟩)
        · omega
        · omega
        · exact h

/-! ### Visits -/
def Inc (n : Nat) : Int → List Int → Prop
  | _, [] => True
  | a, i :: t => (a ≤ i ∧ i < (n : Int)) ∧ Inc n (i + 1) t

theorem Inc.mono {n : Nat} {a b : Int} (h : a ≤ b) : ∀ {t : List Int}, Inc n b t → Inc n a t
  | [], _ => trivial
  | i :: t, h2 => ⟨⟨by have := h2.1.1; omega, h2.1.2⟩, h2.2⟩

theorem inc_bits {n : Nat} : ∀ (t : List Int) (out : Nat) (last : Int), (bitsG n t out last).isSome = true ↔ Inc n (last + 1) t
  | [], out, last => by simp [bitsG, Inc]
  | i :: t, out, last => by
    unfold bitsG Inc
    by_cases h : btw i (last + 1) ((n : Int) - 1) = true
    · rw [if_pos h, inc_bits t]
      rw [btw_iff] at h
      constructor
      · exact fun h2 => ⟨⟨h.1, by omega⟩, h2⟩
      · exact fun h2 => h2.2
    · rw [if_neg h]
      rw [btw_iff] at h
      constructor
      · intro h2; cases h2
      · rintro ⟨⟨a, b⟩, _⟩
        exact absurd ⟨a, by omega⟩ h

theorem mem_visits {n : Nat} {pass : Int} : ∀ (m : Nat), m ≤ n → ∀ (l v : List Int), v ∈ l :: subs n pass m l ↔ ∃ t, v = l ++ t ∧ Inc n ((n - m : Nat) : Int) t ∧ pass ∉ t
  | 0, _, l, v => by
    simp only [subs, List.mem_singleton]
    constructor
    · rintro rfl; exact ⟨[], by simp, trivial, by simp⟩
    · rintro ⟨t, rfl, h, _⟩
      cases t with
      | nil => simp
      | cons i t => have := h.1; omega
  | m + 1, hm, l, v => by
    obtain ⟨i, hi⟩ : ∃ i, n - (m + 1) = i := ⟨_, rfl⟩
    have hi1 : n - m = i + 1 := by omega
    have ih1 := mem_visits m (n := n) (pass := pass) (by omega) l v
    have ih2 := mem_visits m (n := n) (pass := pass) (by omega) (l ++ [(i : Int)]) v
    rw [hi1] at ih1 ih2
    unfold subs
    rw [hi]
    constructor
    · intro hv
      rcases List.mem_cons.1 hv with rfl | hv
      · exact ⟨[], by simp, trivial, by simp⟩
      rcases List.mem_append.1 hv with hv | hv
      · by_cases hp : (i : Int) ≠ pass
        · rw [if_pos hp] at hv
          obtain ⟨t, rfl, h1, h2⟩ := ih2.1 hv
          exact ⟨(i : Int) :: t, by simp, ⟨⟨Int.le_refl _, by omega⟩, by push_cast at h1; exact h1⟩, by simp [h2]; exact fun e => hp e.symm⟩
        · rw [if_neg hp] at hv; simp at hv
      · obtain ⟨t, rfl, h1, h2⟩ := ih1.1 (List.mem_cons.2 (.inr hv))
        exact ⟨t, rfl, h1.mono (by omega), h2⟩
    · rintro ⟨t, rfl, h1, h2⟩
      cases t with
      | nil => simp
      | cons j t =>
        obtain ⟨⟨a1, a2⟩, a3⟩ := h1
        simp only [List.mem_cons, not_or] at h2
        by_cases hj : j = (i : Int)
        · subst hj
          refine List.mem_cons.2 (.inr (List.mem_append.2 (.inl ?_)))
          rw [if_pos (fun e => h2.1 e.symm)]
          exact ih2.2 ⟨t, by simp, by push_cast; exact a3, h2.2⟩
        · have := ih1.2 ⟨j :: t, rfl, ⟨⟨by push_cast; omega, a2⟩, a3⟩, by simp [h2.1, h2.2]⟩
          rcases List.mem_cons.1 this with h | h
          · rw [h]; exact List.mem_cons.2 (.inl rfl)
          · exact List.mem_cons.2 (.inr (List.mem_append.2 (.inr h)))

theorem visits_bits {n : Nat} (hn : n ≤ 10) {pass : Int} {v : List Int} : v ∈ [] :: subs n pass n [] ↔ pass ∉ v ∧ ∃ b < 2 ^ n, choiceL b = v := by
  rw [mem_visits n (Nat.le_refl _)]
  rw [Nat.sub_self]
  constructor
  · rintro ⟨t, ht, h1, h2⟩
    have ht : v = t := ht
    rw [ht]
    have h3 := (inc_bits t 0 (-1)).2 h1
    obtain ⟨b, hb⟩ := Option.isSome_iff_exists.1 h3
    obtain ⟨q1, q2⟩ := bitsG_spec hn t 0 0 b (by omega) (by simp) hb
    exact ⟨h2, b, q1, by rw [q2]; rfl⟩
  · rintro ⟨h1, b, hb, rfl⟩
    have h3 := bitsG_choice n (by omega) b hb
    exact ⟨choiceL b, rfl, (inc_bits _ 0 (-1)).1 (by rw [h3]; rfl), h1⟩

theorem and_pow : ∀ p < 10, ∀ b < 1024, decide (b &&& 2 ^ p ≠ 0) = b.testBit p := by decide +kernel

theorem choice_inj {n : Nat} (hn : n ≤ 10) {b c : Nat} (hb : b < 2 ^ n) (hc : c < 2 ^ n) (h : choiceL b = choiceL c) : b = c := by
  have h1 := bitsG_choice n (by omega) b hb
  have h2 := bitsG_choice n (by omega) c hc
  rw [h, h2] at h1
  exact (Option.some.inj h1).symm

/-! ### Covering -/
theorem fold_max : ∀ (l : List Int) (c : Int), (∀ a ∈ l, 0 ≤ a) → l.foldl (fun c a => max 0 (c - a)) (max 0 c) = max 0 (l.foldl (· - ·) c)
  | [], c, _ => rfl
  | a :: l, c, h => by
    have ha := h a (by simp)
    rw [List.foldl_cons, List.foldl_cons, ← fold_max l (c - a) fun b hb => h b (by simp [hb])]
    congr 1
    omega

theorem restN_get {c a : List Int} {q : Nat} (h : q < c.length) (h' : q < a.length) : (restN c a).getD q 0 = max 0 (c.getD q 0 - a.getD q 0) := by
  unfold restN
  have hlt : q < (List.zipWith (fun m n => max 0 (m - n)) c a).length := by simp; omega
  rw [List.getD_eq_getElem?_getD, List.getElem?_eq_getElem hlt, List.getElem_zipWith]
  simp [h, h']

theorem rests_get {x : Nf} (hx : nfOk x = true) {q : Nat} : ∀ (l : List Nat) (c : List Int), c.length = x.lacks.length → q < c.length → (∀ i ∈ l, i < x.passes.length) → (l.foldl (fun c i => restN c (addsOf x i)) c).getD q 0 = (l.map fun i => (addsOf x i).getD q 0).foldl (fun c a => max 0 (c - a)) (c.getD q 0)
  | [], c, _, _, _ => rfl
  | i :: l, c, hc, hq, hl => by
    have ha := adds_small hx (hl i (by simp))
    have hlen : (restN c (addsOf x i)).length = c.length := by simp [restN, ha.1, hc]
    rw [List.foldl_cons, List.map_cons, List.foldl_cons, rests_get hx l _ (by rw [hlen, hc]) (by rw [hlen]; exact hq) fun j hj => hl j (by simp [hj]), restN_get hq (by rw [ha.1, ← hc]; exact hq)]

theorem sum_zero : ∀ (l : List Int), (∀ n ∈ l, 0 ≤ n) → ∀ z, 0 ≤ z → (l.foldl (· + ·) z = 0 ↔ z = 0 ∧ ∀ n ∈ l, n = 0)
  | [], _, z, hz => by simp
  | a :: l, h, z, hz => by
    have ha := h a (by simp)
    rw [List.foldl_cons, sum_zero l (fun n hn => h n (by simp [hn])) (z + a) (by omega)]
    constructor
    · rintro ⟨h1, h2⟩
      refine ⟨by omega, fun n hn => ?_⟩
      rcases List.mem_cons.1 hn with rfl | hn
      · omega
      · exact h2 n hn
    · rintro ⟨h1, h2⟩
      exact ⟨by have := h2 a (by simp); omega, fun n hn => h2 n (by simp [hn])⟩

theorem cov_eq {x : Nf} (hx : nfOk x = true) {b : Nat} (hb : b < 2 ^ x.passes.length) : covQ x (choiceL b) = coversB x b := by
  have hw := choiceN_lt hb
  have hsm := restsL_small hx hw
  have hl1 := (nfOk_spec hx).2.1
  have key : ∀ q, q < x.lacks.length → restQ x (choiceL b) q = (restsL x (choiceN b)).getD q 0 := fun q hq => by
    unfold restsL
    rw [rests_get hx _ _ rfl hq hw]
    have h0 : 0 ≤ x.lacks.getD q 0 := by
      have := hl1 _ (List.getElem_mem hq)
      simp [hq]; omega
    have e0 : x.lacks.getD q 0 = max 0 (x.lacks.getD q 0) := by omega
    rw [e0, fold_max]
    · unfold restQ subTo
      rw [List.take_length]
      unfold choiceL castL
      rw [List.map_map]
      rfl
    · intro a ha
      obtain ⟨i, hi, rfl⟩ := List.mem_map.1 ha
      have := adds_small hx (hw i hi)
      have hqa : q < (addsOf x i).length := by rw [this.1]; exact hq
      have h2 := this.2 _ (List.getElem_mem hqa)
      simp [hqa]; omega
  rw [Bool.eq_iff_iff]
  unfold covQ coversB sumF
  rw [List.all_eq_true, decide_eq_true_eq, List.map_id, sum_zero _ (fun n hn => (hsm.2 n hn).1) 0 (Int.le_refl 0)]
  constructor
  · intro h
    refine ⟨rfl, fun n hn => ?_⟩
    obtain ⟨q, hq, rfl⟩ := List.getElem_of_mem hn
    have hq' : q < x.lacks.length := by rw [← hsm.1]; exact hq
    have h1 := h q (List.mem_range.2 hq')
    rw [key q hq'] at h1
    have h2 := (hsm.2 _ (List.getElem_mem hq)).1
    simp [hq] at h1
    omega
  · rintro ⟨_, h⟩ q hq
    have hq' := List.mem_range.1 hq
    have hq2 : q < (restsL x (choiceN b)).length := by rw [hsm.1]; exact hq'
    rw [key q hq']
    have := h _ (List.getElem_mem hq2)
    simp [hq2, this]

/-! ### The same choice -/
def covW (x : Nf) (pass : Int) (l : List Int) : Bool := covQ x l && !l.contains pass

theorem upd_fold (x : Nf) (pass : Int) : ∀ (L : List (List Int)), (∀ v ∈ L, pass ∉ v) → ∀ (s : Sr) (p : List Int × Bool), s.is = p.2 → (p.2 = true → s.ch = p.1 ∧ s.co = sumTo x p.1 p.1.length) →
    (L.foldl (updQ x) s).is = (L.foldl (gstep (covW x pass) (ltL x)) p).2 ∧ ((L.foldl (gstep (covW x pass) (ltL x)) p).2 = true → (L.foldl (updQ x) s).ch = (L.foldl (gstep (covW x pass) (ltL x)) p).1 ∧ (L.foldl (updQ x) s).co = sumTo x (L.foldl (gstep (covW x pass) (ltL x)) p).1 (L.foldl (gstep (covW x pass) (ltL x)) p).1.length)
  | [], _, s, p, h1, h2 => ⟨h1, h2⟩
  | l :: L, hL, s, p, h1, h2 => by
    rw [List.foldl_cons, List.foldl_cons]
    have hc : covW x pass l = covQ x l := by
      have := hL l (by simp)
      simp [covW, this]
    have key : (updQ x s l).is = (gstep (covW x pass) (ltL x) p l).2 ∧ ((gstep (covW x pass) (ltL x) p l).2 = true → (updQ x s l).ch = (gstep (covW x pass) (ltL x) p l).1 ∧ (updQ x s l).co = sumTo x (gstep (covW x pass) (ltL x) p l).1 (gstep (covW x pass) (ltL x) p l).1.length) := by
      obtain ⟨o, so⟩ := p
      simp only at h1 h2
      unfold updQ gstep
      rw [hc]
      cases hq : covQ x l with
      | false => exact ⟨h1, h2⟩
      | true =>
        cases so with
        | false =>
          rw [h1]
          exact ⟨rfl, fun _ => ⟨rfl, rfl⟩⟩
        | true =>
          obtain ⟨e1, e2⟩ := h2 rfl
          have hb : betterQ x l s = ltL x l o := by unfold ltL betterQ; rw [e1, e2]
          rw [h1, hb]
          cases ltL x l o with
          | true => exact ⟨rfl, fun _ => ⟨rfl, rfl⟩⟩
          | false => exact ⟨h1, fun _ => ⟨e1, e2⟩⟩
    exact upd_fold x pass L (fun v hv => hL v (by simp [hv])) _ _ key.1 key.2

theorem best_fold {x : Nf} (hx : nfOk x = true) {pass : Int} {wo : Nat} (hw : ∀ b < 2 ^ x.passes.length, decide (b &&& wo ≠ 0) = (choiceL b).contains pass) : ∀ (L : List Nat), (∀ b ∈ L, b < 2 ^ x.passes.length) → ∀ p : Nat × Bool,
    (L.map choiceL).foldl (gstep (covW x pass) (ltL x)) (choiceL p.1, p.2) = (choiceL (L.foldl (bestStep x wo) p).1, (L.foldl (bestStep x wo) p).2)
  | [], _, p => rfl
  | b :: L, hL, p => by
    rw [List.map_cons, List.foldl_cons, List.foldl_cons]
    have hb := hL b (by simp)
    have key : gstep (covW x pass) (ltL x) (choiceL p.1, p.2) (choiceL b) = (choiceL (bestStep x wo p b).1, (bestStep x wo p b).2) := by
      unfold gstep bestStep
      have hs : skips x wo b = !covW x pass (choiceL b) := by
        unfold skips covW
        rw [hw b hb, cov_eq hx hb]
        cases (choiceL b).contains pass <;> cases coversB x b <;> rfl
      rw [hs, better_lt]
      obtain ⟨o, so⟩ := p
      simp only
      cases covW x pass (choiceL b) <;> cases so <;> cases ltL x (choiceL b) (choiceL o) <;> simp
    rw [key]
    exact best_fold hx hw L (fun c hc => hL c (by simp [hc])) _

theorem same_best {x : Nf} (hx : nfOk x = true) {pass : Int} {wo : Nat} (hw : ∀ b < 2 ^ x.passes.length, decide (b &&& wo ≠ 0) = (choiceL b).contains pass) :
    (srF x pass).is = (bestN x wo).2 ∧ ((bestN x wo).2 = true → (srF x pass).ch = choiceL (bestN x wo).1 ∧ (srF x pass).co = costB x (bestN x wo).1) := by
  have h10 := (nfOk_spec hx).1.2
  obtain ⟨a1, a2⟩ := upd_fold x pass ([] :: subs x.passes.length pass x.passes.length []) (fun v hv => ((visits_bits h10).1 hv).1) ⟨[], 0, false⟩ ([], false) rfl (fun h => by cases h)
  have hb := best_fold hx hw (List.range (2 ^ x.passes.length)) (fun b hb => List.mem_range.1 hb) (0, false)
  obtain ⟨c1, c2⟩ := gfold_eq (covW x pass) (ltL x) (ltL_tr x) (ltL_tot x) (ltL_asy x) [] (choiceL 0) (L := [] :: subs x.passes.length pass x.passes.length []) (M := (List.range (2 ^ x.passes.length)).map choiceL)
    (fun v hv _ => by
      obtain ⟨_, b, q1, q2⟩ := (visits_bits h10).1 hv
      exact List.mem_map.2 ⟨b, List.mem_range.2 q1, q2⟩)
    (fun v hv hc => by
      obtain ⟨b, q1, rfl⟩ := List.mem_map.1 hv
      refine (visits_bits h10).2 ⟨?_, b, List.mem_range.1 q1, rfl⟩
      simp only [covW, Bool.and_eq_true, Bool.not_eq_eq_eq_not, Bool.not_true] at hc
      intro h
      have := List.contains_iff_mem.2 h
      rw [this] at hc
      cases hc.2)
  have e : (List.range (2 ^ x.passes.length)).foldl (bestStep x wo) (0, false) = bestN x wo := rfl
  rw [e] at hb
  simp only at hb
  rw [hb] at c1 c2
  simp only at c1 c2
  have e2 : srF x pass = ([] :: subs x.passes.length pass x.passes.length []).foldl (updQ x) ⟨[], 0, false⟩ := rfl
  rw [e2]
  refine ⟨a1.trans c1, fun h => ?_⟩
  have h2 := c1.trans h
  obtain ⟨d1, d2⟩ := a2 h2
  have h3 := c2 h2
  rw [d1, d2, h3]
  exact ⟨rfl, sumTo_cost x _⟩

theorem wo_none {n : Nat} : ∀ b < 2 ^ n, decide (b &&& 0 ≠ 0) = (choiceL b).contains (-1) := fun b _ => by
  have : ¬ (-1 : Int) ∈ choiceL b := fun h => by
    unfold choiceL castL at h
    obtain ⟨i, _, e⟩ := List.mem_map.1 h
    omega
  simp [this]

theorem wo_pass {n : Nat} (hn : n ≤ 10) {p : Nat} (hp : p < 10) : ∀ b < 2 ^ n, decide (b &&& 2 ^ p ≠ 0) = (choiceL b).contains (p : Int) := fun b hb => by
  have h2 : b < 1024 := Nat.lt_of_lt_of_le hb (Nat.pow_le_pow_right (n := 2) (by omega) hn)
  rw [and_pow p hp b h2, Bool.eq_iff_iff, List.contains_iff_mem]
  unfold choiceL castL
  rw [List.mem_map]
  constructor
  · exact fun h => ⟨p, mem_choice.2 ⟨hp, h⟩, rfl⟩
  · rintro ⟨i, hi, e⟩
    obtain rfl : i = p := by omega
    exact (mem_choice.1 hi).2

theorem best_same {x : Nf} : Best07R x = BestR x := by
  unfold Best07R BestR
  by_cases hx : nfOk x = true
  · rw [if_pos hx, if_pos hx]
    obtain ⟨h1, h2⟩ := same_best hx (pass := -1) (wo := 0) wo_none
    rw [h1]
    by_cases hb : (bestN x 0).2 = true
    · rw [if_pos hb, if_pos hb, (h2 hb).1, (h2 hb).2]
    · rw [if_neg hb, if_neg hb]
  · rw [if_neg hx, if_neg hx]

theorem without_same {x : Nf} (p : Int) : Without07R x p = WithoutR x p := by
  unfold Without07R WithoutR
  by_cases hx : nfOk x = true
  · rw [if_pos hx, if_pos hx]
    have h10 := (nfOk_spec hx).1.2
    by_cases hp : btw p 0 ((x.passes.length : Int) - 1) = true
    · rw [if_pos hp, if_pos hp]
      rw [btw_iff] at hp
      obtain ⟨q, rfl⟩ : ∃ q : Nat, p = (q : Int) := ⟨p.toNat, by omega⟩
      rw [Int.toNat_natCast]
      obtain ⟨h1, h2⟩ := same_best hx (pass := (q : Int)) (wo := 2 ^ q) (wo_pass h10 (by omega))
      obtain ⟨h3, h4⟩ := same_best hx (pass := -1) (wo := 0) wo_none
      rw [h1]
      by_cases hb : (bestN x (2 ^ q)).2 = true
      · rw [if_pos hb, if_pos hb, (h2 hb).2]
        have hb1 := (bestTo_spec x (2 ^ q) (2 ^ x.passes.length)).1 hb
        have hs : skips x 0 (bestN x (2 ^ q)).1 = false := by
          have h5 : skips x (2 ^ q) (bestN x (2 ^ q)).1 = false := hb1.2
          unfold skips at h5 ⊢
          rw [Bool.or_eq_false_iff] at h5 ⊢
          exact ⟨by simp, h5.2⟩
        have hb0 := ((bestTo_spec x 0 (2 ^ x.passes.length)).2 _ hb1.1 hs).1
        rw [(h4 hb0).2]
        have b1 := costB_bd hx (bestN_lt x (2 ^ q))
        have b2 := costB_bd hx (bestN_lt x 0)
        rw [w64 (by omega) (by omega)]
      · rw [if_neg hb, if_neg hb]
    · rw [if_neg hp, if_neg hp]
  · rw [if_neg hx, if_neg hx]

theorem covers_same {x : Nf} (l : List Int) : Covers07R x l = CoversR x l := by
  unfold Covers07R CoversR
  by_cases hx : nfOk x = true
  · rw [if_pos hx, if_pos hx]
    have h10 := (nfOk_spec hx).1.2
    cases hb : bitsG x.passes.length l 0 (-1) with
    | none => rfl
    | some b =>
      obtain ⟨q1, q2⟩ := bitsG_spec h10 l 0 0 b (by omega) (by simp) hb
      have e : choiceL b = l := by rw [q2]; rfl
      show V.tuple [.bool (covQ x l), I 0] = V.tuple [.bool (coversB x b), I 0]
      rw [← cov_eq hx q1, e]
  · rw [if_neg hx, if_neg hx]

end Go.Proofs.YtffoiccokigjcaaDoor

/-! Contract of the law BinCovers. -/
set_option linter.unusedVariables false
set_option linter.unusedSimpArgs false
set_option maxRecDepth 40000
set_option maxHeartbeats 4000000
namespace Go.Proofs.YtffoiccokigjcaaDoor
open Go.Am
attribute [local simp] cells scalar mkv splice under2 under dem dem1 eQ nfC intsV

theorem covers_form (x : Nf) (l : List Int) : ∃ a e, CoversR x l = .tuple [.bool a, I e] := by
  unfold CoversR
  split
  · split
    · exact ⟨_, _, rfl⟩
    · exact ⟨_, _, rfl⟩
  · exact ⟨_, _, rfl⟩
theorem best_form (x : Nf) : ∃ c n e, BestR x = .tuple [intsV c, I n, I e] ∧ c.length ≤ 10 := by
  unfold BestR
  split
  · split
    · exact ⟨_, _, _, rfl, choiceL_len _⟩
    · exact ⟨_, _, _, rfl, by simp⟩
  · exact ⟨_, _, _, rfl, by simp⟩
theorem without_form (x : Nf) (p : Int) : ∃ n e, WithoutR x p = .tuple [I n, I e] := by
  unfold WithoutR
  split
  · split
    · split
      · exact ⟨_, _, rfl⟩
      · exact ⟨_, _, rfl⟩
    · exact ⟨_, _, rfl⟩
  · exact ⟨_, _, rfl⟩

theorem c_BinCovers {x : Nf} (hx : nfSane x) {l : List Int} (hl : l.length ≤ 9223372036854775807) (p : Int) : C Tryd.prog F.law07_BinCovers [.agg (nfC x), intsV l, I p] (.bool true) := by
  have k1 := c_Covers hx.2 hl
  have k2 := c_Covers07 hx.1.1 hx.1.2 hx.2 hl
  have k3 := c_CheckInfill hx.2
  have k4 := c_CheckInfill07 hx.1.1 hx.1.2 hx.2
  have k5 := c_Best hx.2
  have k6 := c_Best07 hx.1.1 hx.1.2 hx.2
  have k7 := c_Without hx.2 p
  have k8 := c_Without07 hx.1.1 hx.1.2 hx.2 p
  rw [covers_same] at k2
  rw [best_same] at k6
  rw [without_same] at k8
  obtain ⟨a, e, h1⟩ := covers_form x l
  obtain ⟨c, n, f, h2, hc⟩ := best_form x
  obtain ⟨q, g, h3⟩ := without_form x p
  rw [h1] at k1 k2
  rw [h2] at k5 k6
  rw [h3] at k7 k8
  have k9 := c_Alike c c (by omega)
  rw [decide_eq_true rfl] at k9
  generalize (if nfOk x = true then (0 : Int) else 74) = z at k3 k4
  refine C_of mixed chk.law07_BinCovers (by simp) fun S ok => ?_
  refine Tr.seqR rfl (by simp) ?_
  refine Tr.seqC rfl (by simp) (Steps.call rfl rfl k1 (Steps.fin rfl (by simp) ?_))
  refine Tr.seqC rfl (by simp) (Steps.call rfl rfl k2 (Steps.fin rfl (by simp) ?_))
  refine Tr.seq (Tr.seq (Tr.drawK (TraceK.run rfl (by simp) (TraceK.gcall rfl rfl rfl rfl (by simp) (fun _ => k3) (TraceK.run rfl (by simp) (TraceK.gcall rfl rfl rfl rfl (by simp) (fun _ => k4) (TraceK.run rfl (by simp) (.done ⟨by kernel_rfl, by kernel_rfl, ?_⟩))))))))
  refine Tr.cond rfl rfl (fun h => ?_) (fun h => Tr.skip ?_)
  · exfalso
    have h : (bif (bif (a != a) then true else (e != e)) then true else (z != z)) = true := h
    simp at h
  refine Tr.seqC rfl (by simp) (Steps.call rfl rfl k5 (Steps.fin rfl (by simp) ?_))
  refine Tr.seqC rfl (by simp) (Steps.call rfl rfl k6 (Steps.fin rfl (by simp) ?_))
  refine Tr.seq (Tr.seqC rfl (by simp) (Steps.call rfl rfl k9 (Steps.fin rfl (by simp) ?_)))
  refine Tr.cond rfl rfl (fun h => ?_) (fun h => Tr.skip ?_)
  · exfalso
    have h : (bif (bif (!true) then true else (n != n)) then true else (f != f)) = true := h
    simp at h
  refine Tr.seqC rfl (by simp) (Steps.call rfl rfl k7 (Steps.fin rfl (by simp) ?_))
  refine Tr.seqC rfl (by simp) (Steps.call rfl rfl k8 (Steps.fin rfl (by simp) ?_))
  refine Tr.seqC rfl (by simp) (Steps.gcall rfl rfl rfl rfl (by simp) (fun _ => c_works) (Steps.fin rfl (by simp) (Tr.retX rfl rfl rfl ?_ trivial)))
  show V.bool true = V.bool (bif (bif (q == q) then (g == g) else false) then true else false)
  simp

end Go.Proofs.YtffoiccokigjcaaDoor
