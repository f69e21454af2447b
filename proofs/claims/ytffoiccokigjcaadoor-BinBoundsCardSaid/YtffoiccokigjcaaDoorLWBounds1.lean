/-
  Parts of the proof, 1: the abstract machine, the compiled code, contracts of the functions, plain laws.
-/
import Derived.Test.YtffoiccokigjcaaDoorZ5


/-! The code of further functions, compiled. -/
set_option maxRecDepth 100000
namespace Go.Proofs.YtffoiccokigjcaaDoor
open Go.Am
/-- paravane/paravanelaw07.BinBounds -/
abbrev F.law07_BinBounds : Nat := 9
def ir.law07_BinBounds : IC :=
 (.seq (.reg [⟨(some 3), .box, [.t 0], none⟩,
     ⟨(some 6), .mov, [.c (.bool false)], none⟩])
   (.seq (.reg [⟨(some 23), .load 2 true, [.t 3], none⟩,
     ⟨(some 24), .call 32, [.t 23], none⟩,
     ⟨(some 22), .mov, [.t 24], none⟩,
     ⟨(some 25), .extract 0, [.t 22], none⟩,
     ⟨(some 26), .extract 1, [.t 22], none⟩,
     ⟨(some 7), .mov, [.t 25], none⟩,
     ⟨(some 8), .mov, [.t 26], none⟩])
   (.seq (.reg [⟨(some 28), .load 2 true, [.t 3], none⟩,
     ⟨(some 29), .call 26, [.t 28], none⟩,
     ⟨(some 27), .mov, [.t 29], none⟩,
     ⟨(some 30), .extract 0, [.t 27], none⟩,
     ⟨(some 31), .extract 1, [.t 27], none⟩,
     ⟨(some 32), .extract 2, [.t 27], none⟩,
     ⟨(some 9), .mov, [.t 30], none⟩,
     ⟨(some 10), .mov, [.t 31], none⟩,
     ⟨(some 11), .mov, [.t 32], none⟩])
   (.seq (.seq (.reg [⟨(some 33), .mov, [.t 8], none⟩,
     ⟨(some 34), .mov, [.t 11], none⟩,
     ⟨(some 35), .bin .neq, [.t 33, .t 34], none⟩])
   (.cond (.t 35) (.seq (.reg [⟨(some 6), .mov, [.c (.bool false)], none⟩])
   .ret) .skip))
   (.seq (.seq (.reg [⟨(some 36), .mov, [.t 8], none⟩,
     ⟨(some 37), .bin .eql, [.t 36, .c (.int .i64 0)], none⟩])
   (.cond (.t 37) (.seq (.reg [⟨(some 39), .load 2 true, [.t 3], none⟩,
     ⟨(some 40), .mov, [.t 7], none⟩,
     ⟨(some 41), .call 21, [.t 39, .t 40], none⟩,
     ⟨(some 38), .mov, [.t 41], none⟩,
     ⟨(some 42), .extract 0, [.t 38], none⟩,
     ⟨(some 43), .extract 1, [.t 38], none⟩,
     ⟨(some 12), .mov, [.t 42], none⟩,
     ⟨(some 13), .mov, [.t 43], none⟩])
   (.seq (.reg [⟨(some 44), .mov, [.t 12], none⟩,
     ⟨(some 45), .mov, [.t 10], none⟩,
     ⟨(some 46), .bin .neq, [.t 44, .t 45], none⟩,
     ⟨(some 47), .mov, [.t 46], none⟩,
     ⟨(some 48), .mov, [.t 13], (some (47, false))⟩,
     ⟨(some 49), .bin .neq, [.t 48, .c (.int .i64 0)], (some (47, false))⟩,
     ⟨(some 50), .pick, [.t 47, .c (.bool true), .t 49], none⟩])
   (.cond (.t 50) (.seq (.reg [⟨(some 6), .mov, [.c (.bool false)], none⟩])
   .ret) .skip))) .skip))
   (.seq (.reg [⟨(some 52), .load 2 true, [.t 3], none⟩,
     ⟨(some 53), .mov, [.t 2], none⟩,
     ⟨(some 54), .call 21, [.t 52, .t 53], none⟩,
     ⟨(some 51), .mov, [.t 54], none⟩,
     ⟨(some 55), .extract 0, [.t 51], none⟩,
     ⟨(some 56), .extract 1, [.t 51], none⟩,
     ⟨(some 14), .mov, [.t 55], none⟩,
     ⟨(some 15), .mov, [.t 56], none⟩])
   (.seq (.seq (.reg [⟨(some 57), .mov, [.t 15], none⟩,
     ⟨(some 58), .bin .neq, [.t 57, .c (.int .i64 0)], none⟩])
   (.cond (.t 58) (.seq (.reg [⟨(some 59), .mov, [.t 14], none⟩,
     ⟨(some 60), .bin .eql, [.t 59, .c (.int .i64 0)], none⟩,
     ⟨(some 61), .mov, [.t 60], none⟩,
     ⟨(some 62), .call 14, [], (some (61, true))⟩,
     ⟨(some 63), .pick, [.t 61, .t 62, .c (.bool false)], none⟩,
     ⟨(some 6), .mov, [.t 63], none⟩])
   .ret) .skip))
   (.seq (.seq (.reg [⟨(some 64), .mov, [.t 9], none⟩,
     ⟨(some 65), .mov, [.t 1], none⟩,
     ⟨(some 66), .build [.nils, .nils] [(0, 1), (1, 1)], [.t 64, .t 65], none⟩,
     ⟨(some 67), .mov, [.c (.int .i64 0)], none⟩])
   (.block 0 (.loop (.seq (.reg [⟨(some 68), .bin .lss, [.t 67, .c (.int .i64 2)], none⟩])
   (.seq (.cond (.t 68) .skip (.exit 0))
   (.seq (.block 1 (.seq (.reg [⟨(some 69), .idxA 2 1 false, [.t 66, .t 67], none⟩,
     ⟨(some 17), .mov, [.t 69], none⟩])
   (.seq (.reg [⟨(some 71), .load 2 true, [.t 3], none⟩,
     ⟨(some 72), .mov, [.t 17], none⟩,
     ⟨(some 73), .call 22, [.t 71, .t 72], none⟩,
     ⟨(some 70), .mov, [.t 73], none⟩,
     ⟨(some 74), .extract 0, [.t 70], none⟩,
     ⟨(some 75), .extract 1, [.t 70], none⟩,
     ⟨(some 18), .mov, [.t 74], none⟩,
     ⟨(some 19), .mov, [.t 75], none⟩])
   (.seq (.seq (.reg [⟨(some 76), .mov, [.t 19], none⟩,
     ⟨(some 77), .bin .neq, [.t 76, .c (.int .i64 0)], none⟩,
     ⟨(some 78), .mov, [.t 77], none⟩,
     ⟨(some 79), .mov, [.t 18], (some (78, false))⟩,
     ⟨(some 80), .un .not, [.t 79], (some (78, false))⟩,
     ⟨(some 81), .pick, [.t 78, .c (.bool true), .t 80], none⟩,
     ⟨(some 82), .mov, [.t 81], none⟩,
     ⟨(some 83), .mov, [.t 11], (some (82, false))⟩,
     ⟨(some 84), .bin .neq, [.t 83, .c (.int .i64 0)], (some (82, false))⟩,
     ⟨(some 85), .pick, [.t 82, .c (.bool true), .t 84], none⟩])
   (.cond (.t 85) (.exit 1) .skip))
   (.seq (.reg [⟨(some 20), .mov, [.c (.int .i64 0)], none⟩])
   (.seq (.seq (.reg [⟨(some 21), .mov, [.c (.int .i64 0)], none⟩])
   (.block 2 (.loop (.seq (.seq (.reg [⟨(some 86), .mov, [.t 21], none⟩,
     ⟨(some 87), .mov, [.t 17], none⟩,
     ⟨(some 88), .len false, [.t 87], none⟩,
     ⟨(some 89), .bin .lss, [.t 86, .t 88], none⟩])
   (.cond (.t 89) .skip (.exit 2)))
   (.seq (.block 3 (.seq (.seq (.draw [0, 0, 3, 7, 0, 16, 48, 112, 255, 511] [⟨(some 92), .mov, [.t 17], none⟩,
     ⟨(some 93), .mov, [.t 21], none⟩,
     ⟨(some 94), .iaddrS 1, [.t 92, .t 93], none⟩,
     ⟨(some 95), .load 1 false, [.t 94], none⟩,
     ⟨(some 96), .faddr 1, [.t 3], none⟩,
     ⟨(some 97), .load 1 false, [.t 96], none⟩,
     ⟨(some 98), .len false, [.t 97], none⟩,
     ⟨(some 99), .bin .sub, [.t 98, .c (.int .i64 1)], none⟩,
     ⟨(some 100), .call 16, [.t 95, .c (.int .i64 0), .t 99], none⟩,
     ⟨(some 101), .un .not, [.t 100], none⟩])
   (.cond (.t 101) (.seq (.reg [⟨(some 6), .mov, [.c (.bool false)], none⟩])
   .ret) .skip))
   (.draw [0, 0, 2, 0, 0, 24, 56, 126, 254, 510, 1023, 2047] [⟨(some 102), .mov, [.t 20], none⟩,
     ⟨(some 103), .faddr 1, [.t 3], none⟩,
     ⟨(some 104), .load 1 false, [.t 103], none⟩,
     ⟨(some 105), .mov, [.t 17], none⟩,
     ⟨(some 106), .mov, [.t 21], none⟩,
     ⟨(some 107), .iaddrS 1, [.t 105, .t 106], none⟩,
     ⟨(some 108), .load 1 false, [.t 107], none⟩,
     ⟨(some 109), .iaddrS 2, [.t 104, .t 108], none⟩,
     ⟨(some 110), .faddr 0, [.t 109], none⟩,
     ⟨(some 111), .load 1 false, [.t 110], none⟩,
     ⟨(some 112), .bin .add, [.t 102, .t 111], none⟩,
     ⟨(some 20), .mov, [.t 112], none⟩])))
   (.reg [⟨(some 90), .mov, [.t 21], none⟩,
     ⟨(some 91), .bin .add, [.t 90, .c (.int .i64 1)], none⟩,
     ⟨(some 21), .mov, [.t 91], none⟩]))))))
   (.seq (.reg [⟨(some 113), .mov, [.t 20], none⟩,
     ⟨(some 114), .mov, [.t 14], none⟩,
     ⟨(some 115), .bin .lss, [.t 113, .t 114], none⟩])
   (.cond (.t 115) (.seq (.reg [⟨(some 6), .mov, [.c (.bool false)], none⟩])
   .ret) .skip))))))))
   (.reg [⟨(some 116), .bin .add, [.t 67, .c (.int .i64 1)], none⟩,
     ⟨(some 67), .mov, [.t 116], none⟩])))))))
   (.seq (.reg [⟨(some 117), .call 14, [], none⟩,
     ⟨(some 6), .mov, [.t 117], none⟩])
   .ret)))))))))
theorem chk.law07_BinBounds : chkF Tryd.prog 9 = some (118, ir.law07_BinBounds, [.tmp 6]) := by kernel_rfl

/-- paravane/bin.Covers -/
abbrev F.bin_Covers : Nat := 22
def ir.bin_Covers : IC :=
 (.seq (.reg [⟨(some 2), .box, [.t 0], none⟩,
     ⟨(some 4), .mov, [.c (.bool false)], none⟩,
     ⟨(some 5), .mov, [.c (.int .i64 0)], none⟩])
   (.seq (.seq (.reg [⟨(some 9), .load 2 true, [.t 2], none⟩,
     ⟨(some 10), .call 24, [.t 9], none⟩,
     ⟨(some 6), .mov, [.t 10], none⟩])
   (.seq (.reg [⟨(some 11), .mov, [.t 6], none⟩,
     ⟨(some 12), .bin .neq, [.t 11, .c (.int .i64 0)], none⟩])
   (.cond (.t 12) (.seq (.reg [⟨(some 13), .mov, [.t 6], none⟩,
     ⟨(some 4), .mov, [.c (.bool false)], none⟩,
     ⟨(some 5), .mov, [.t 13], none⟩])
   .ret) .skip)))
   (.seq (.reg [⟨(some 15), .load 2 true, [.t 2], none⟩,
     ⟨(some 16), .mov, [.t 1], none⟩,
     ⟨(some 17), .call 59, [.t 15, .t 16], none⟩,
     ⟨(some 14), .mov, [.t 17], none⟩,
     ⟨(some 18), .extract 0, [.t 14], none⟩,
     ⟨(some 19), .extract 1, [.t 14], none⟩,
     ⟨(some 7), .mov, [.t 18], none⟩,
     ⟨(some 8), .mov, [.t 19], none⟩])
   (.seq (.seq (.reg [⟨(some 20), .mov, [.t 8], none⟩,
     ⟨(some 21), .un .not, [.t 20], none⟩])
   (.cond (.t 21) (.seq (.reg [⟨(some 4), .mov, [.c (.bool false)], none⟩,
     ⟨(some 5), .mov, [.c (.int .i64 75)], none⟩])
   .ret) .skip))
   (.seq (.reg [⟨(some 22), .load 2 true, [.t 2], none⟩,
     ⟨(some 23), .mov, [.t 7], none⟩,
     ⟨(some 24), .call 60, [.t 22, .t 23], none⟩,
     ⟨(some 4), .mov, [.t 24], none⟩,
     ⟨(some 5), .mov, [.c (.int .i64 0)], none⟩])
   .ret)))))
theorem chk.bin_Covers : chkF Tryd.prog 22 = some (25, ir.bin_Covers, [.tmp 4, .tmp 5]) := by kernel_rfl

/-- paravane/paravaneref07.CheckInfill -/
abbrev F.ref07_CheckInfill : Nat := 25
def ir.ref07_CheckInfill : IC :=
 (.seq (.reg [⟨(some 1), .box, [.t 0], none⟩,
     ⟨(some 2), .mov, [.c (.int .i64 0)], none⟩])
   (.seq (.reg [⟨(some 8), .faddr 0, [.t 1], none⟩,
     ⟨(some 9), .load 1 false, [.t 8], none⟩,
     ⟨(some 10), .len false, [.t 9], none⟩,
     ⟨(some 11), .bin .leq, [.t 10, .c (.int .i64 16)], none⟩,
     ⟨(some 12), .mov, [.t 11], none⟩,
     ⟨(some 13), .faddr 1, [.t 1], (some (12, true))⟩,
     ⟨(some 14), .load 1 false, [.t 13], (some (12, true))⟩,
     ⟨(some 15), .len false, [.t 14], (some (12, true))⟩,
     ⟨(some 16), .bin .leq, [.t 15, .c (.int .i64 10)], (some (12, true))⟩,
     ⟨(some 17), .pick, [.t 12, .t 16, .c (.bool false)], none⟩,
     ⟨(some 3), .mov, [.t 17], none⟩])
   (.seq (.seq (.reg [⟨(some 4), .mov, [.c (.int .i64 0)], none⟩])
   (.block 0 (.loop (.seq (.seq (.reg [⟨(some 18), .mov, [.t 4], none⟩,
     ⟨(some 19), .faddr 0, [.t 1], none⟩,
     ⟨(some 20), .load 1 false, [.t 19], none⟩,
     ⟨(some 21), .len false, [.t 20], none⟩,
     ⟨(some 22), .bin .lss, [.t 18, .t 21], none⟩])
   (.cond (.t 22) .skip (.exit 0)))
   (.seq (.block 1 (.reg [⟨(some 25), .mov, [.t 3], none⟩,
     ⟨(some 26), .mov, [.t 25], none⟩,
     ⟨(some 27), .faddr 0, [.t 1], (some (26, true))⟩,
     ⟨(some 28), .load 1 false, [.t 27], (some (26, true))⟩,
     ⟨(some 29), .mov, [.t 4], (some (26, true))⟩,
     ⟨(some 30), .iaddrS 1, [.t 28, .t 29], (some (26, true))⟩,
     ⟨(some 31), .load 1 false, [.t 30], (some (26, true))⟩,
     ⟨(some 32), .call 16, [.t 31, .c (.int .i64 1), .c (.int .i64 100)], (some (26, true))⟩,
     ⟨(some 33), .pick, [.t 26, .t 32, .c (.bool false)], none⟩,
     ⟨(some 3), .mov, [.t 33], none⟩]))
   (.reg [⟨(some 23), .mov, [.t 4], none⟩,
     ⟨(some 24), .bin .add, [.t 23, .c (.int .i64 1)], none⟩,
     ⟨(some 4), .mov, [.t 24], none⟩]))))))
   (.seq (.seq (.reg [⟨(some 5), .mov, [.c (.int .i64 0)], none⟩])
   (.block 2 (.loop (.seq (.seq (.reg [⟨(some 34), .mov, [.t 5], none⟩,
     ⟨(some 35), .faddr 1, [.t 1], none⟩,
     ⟨(some 36), .load 1 false, [.t 35], none⟩,
     ⟨(some 37), .len false, [.t 36], none⟩,
     ⟨(some 38), .bin .lss, [.t 34, .t 37], none⟩])
   (.cond (.t 38) .skip (.exit 2)))
   (.seq (.block 3 (.seq (.reg [⟨(some 41), .faddr 1, [.t 1], none⟩,
     ⟨(some 42), .load 1 false, [.t 41], none⟩,
     ⟨(some 43), .mov, [.t 5], none⟩,
     ⟨(some 44), .iaddrS 2, [.t 42, .t 43], none⟩,
     ⟨(some 45), .load 2 true, [.t 44], none⟩,
     ⟨(some 6), .alloc [(.int .i64 0), .nils], [], none⟩,
     ⟨none, .store 2, [.t 6, .t 45], none⟩])
   (.seq (.reg [⟨(some 46), .mov, [.t 3], none⟩,
     ⟨(some 47), .mov, [.t 46], none⟩,
     ⟨(some 48), .faddr 0, [.t 6], (some (47, true))⟩,
     ⟨(some 49), .load 1 false, [.t 48], (some (47, true))⟩,
     ⟨(some 50), .call 16, [.t 49, .c (.int .i64 1), .c (.int .i64 1000)], (some (47, true))⟩,
     ⟨(some 51), .pick, [.t 47, .t 50, .c (.bool false)], none⟩,
     ⟨(some 52), .mov, [.t 51], none⟩,
     ⟨(some 53), .faddr 1, [.t 6], (some (52, true))⟩,
     ⟨(some 54), .load 1 false, [.t 53], (some (52, true))⟩,
     ⟨(some 55), .len false, [.t 54], (some (52, true))⟩,
     ⟨(some 56), .faddr 0, [.t 1], (some (52, true))⟩,
     ⟨(some 57), .load 1 false, [.t 56], (some (52, true))⟩,
     ⟨(some 58), .len false, [.t 57], (some (52, true))⟩,
     ⟨(some 59), .bin .eql, [.t 55, .t 58], (some (52, true))⟩,
     ⟨(some 60), .pick, [.t 52, .t 59, .c (.bool false)], none⟩,
     ⟨(some 3), .mov, [.t 60], none⟩])
   (.seq (.reg [⟨(some 7), .mov, [.c (.int .i64 0)], none⟩])
   (.block 4 (.loop (.seq (.seq (.reg [⟨(some 61), .mov, [.t 7], none⟩,
     ⟨(some 62), .faddr 1, [.t 6], none⟩,
     ⟨(some 63), .load 1 false, [.t 62], none⟩,
     ⟨(some 64), .len false, [.t 63], none⟩,
     ⟨(some 65), .bin .lss, [.t 61, .t 64], none⟩])
   (.cond (.t 65) .skip (.exit 4)))
   (.seq (.block 5 (.reg [⟨(some 68), .mov, [.t 3], none⟩,
     ⟨(some 69), .mov, [.t 68], none⟩,
     ⟨(some 70), .faddr 1, [.t 6], (some (69, true))⟩,
     ⟨(some 71), .load 1 false, [.t 70], (some (69, true))⟩,
     ⟨(some 72), .mov, [.t 7], (some (69, true))⟩,
     ⟨(some 73), .iaddrS 1, [.t 71, .t 72], (some (69, true))⟩,
     ⟨(some 74), .load 1 false, [.t 73], (some (69, true))⟩,
     ⟨(some 75), .call 16, [.t 74, .c (.int .i64 0), .c (.int .i64 100)], (some (69, true))⟩,
     ⟨(some 76), .pick, [.t 69, .t 75, .c (.bool false)], none⟩,
     ⟨(some 3), .mov, [.t 76], none⟩]))
   (.reg [⟨(some 66), .mov, [.t 7], none⟩,
     ⟨(some 67), .bin .add, [.t 66, .c (.int .i64 1)], none⟩,
     ⟨(some 7), .mov, [.t 67], none⟩])))))))))
   (.reg [⟨(some 39), .mov, [.t 5], none⟩,
     ⟨(some 40), .bin .add, [.t 39, .c (.int .i64 1)], none⟩,
     ⟨(some 5), .mov, [.t 40], none⟩]))))))
   (.seq (.seq (.reg [⟨(some 77), .mov, [.t 3], none⟩,
     ⟨(some 78), .un .not, [.t 77], none⟩])
   (.cond (.t 78) (.seq (.reg [⟨(some 2), .mov, [.c (.int .i64 74)], none⟩])
   .ret) .skip))
   (.seq (.reg [⟨(some 2), .mov, [.c (.int .i64 0)], none⟩])
   .ret))))))
theorem chk.ref07_CheckInfill : chkF Tryd.prog 25 = some (79, ir.ref07_CheckInfill, [.tmp 2]) := by kernel_rfl

/-- paravane/paravaneref00.Own -/
abbrev F.ref00_Own : Nat := 31
def ir.ref00_Own : IC :=
 (.seq (.reg [⟨(some 2), .mov, [.c .nils], none⟩])
   (.seq (.reg [⟨(some 3), .mov, [.c .nils], none⟩])
   (.seq (.reg [⟨(some 4), .mov, [.t 3], none⟩,
     ⟨(some 5), .mov, [.t 0], none⟩,
     ⟨(some 6), .append 1 8 3, [.t 4, .t 5], none⟩,
     ⟨(some 2), .mov, [.t 6], none⟩])
   .ret)))
theorem chk.ref00_Own : chkF Tryd.prog 31 = some (7, ir.ref00_Own, [.tmp 2]) := by kernel_rfl

/-- paravane/bin.Prove -/
abbrev F.bin_Prove : Nat := 32
def ir.bin_Prove : IC :=
 (.seq (.reg [⟨(some 1), .box, [.t 0], none⟩,
     ⟨(some 2), .mov, [.c .nils], none⟩,
     ⟨(some 3), .mov, [.c (.int .i64 0)], none⟩])
   (.seq (.seq (.reg [⟨(some 7), .load 2 true, [.t 1], none⟩,
     ⟨(some 8), .call 24, [.t 7], none⟩,
     ⟨(some 4), .mov, [.t 8], none⟩])
   (.seq (.reg [⟨(some 9), .mov, [.t 4], none⟩,
     ⟨(some 10), .bin .neq, [.t 9, .c (.int .i64 0)], none⟩])
   (.cond (.t 10) (.seq (.reg [⟨(some 11), .mov, [.t 4], none⟩,
     ⟨(some 2), .mov, [.c .nils], none⟩,
     ⟨(some 3), .mov, [.t 11], none⟩])
   .ret) .skip)))
   (.seq (.seq (.draw [0, 0, 2, 6, 14, 30, 63, 127] [⟨(some 12), .load 2 true, [.t 1], none⟩,
     ⟨(some 13), .faddr 1, [.t 1], none⟩,
     ⟨(some 14), .load 1 false, [.t 13], none⟩,
     ⟨(some 15), .len false, [.t 14], none⟩,
     ⟨(some 16), .bin .shl, [.c (.int .i64 1), .t 15], none⟩,
     ⟨(some 17), .bin .sub, [.t 16, .c (.int .i64 1)], none⟩,
     ⟨(some 18), .call 60, [.t 12, .t 17], none⟩,
     ⟨(some 19), .un .not, [.t 18], none⟩])
   (.cond (.t 19) (.seq (.reg [⟨(some 2), .mov, [.c .nils], none⟩,
     ⟨(some 3), .mov, [.c (.int .i64 4)], none⟩])
   .ret) .skip))
   (.seq (.reg [⟨(some 5), .alloc [.nils], [], none⟩])
   (.seq (.reg [⟨(some 6), .alloc [.nilf], [], none⟩])
   (.seq (.reg [⟨(some 20), .mkfunc (.func 68) 0, [.t 1, .t 5, .t 6], none⟩,
     ⟨none, .store 1, [.t 6, .t 20], none⟩])
   (.seq (.reg [⟨(some 21), .load 1 false, [.t 6], none⟩,
     ⟨(some 22), .callv, [.t 21, .c (.int .i64 0), .c (.int .i64 0)], none⟩])
   (.seq (.reg [⟨(some 23), .load 1 false, [.t 5], none⟩,
     ⟨(some 2), .mov, [.t 23], none⟩,
     ⟨(some 3), .mov, [.c (.int .i64 0)], none⟩])
   .ret))))))))
theorem chk.bin_Prove : chkF Tryd.prog 32 = some (24, ir.bin_Prove, [.tmp 2, .tmp 3]) := by kernel_rfl

/-- paravane/bin.bits -/
abbrev F.bin_bits : Nat := 59
def ir.bin_bits : IC :=
 (.seq (.reg [⟨(some 2), .box, [.t 0], none⟩,
     ⟨(some 4), .mov, [.c (.int .i64 0)], none⟩,
     ⟨(some 5), .mov, [.c (.bool false)], none⟩])
   (.seq (.reg [⟨(some 6), .mov, [.c (.int .i64 0)], none⟩,
     ⟨(some 7), .mov, [.c (.int .i64 (-1))], none⟩])
   (.seq (.seq (.reg [⟨(some 10), .mov, [.t 1], none⟩,
     ⟨(some 11), .len false, [.t 10], none⟩,
     ⟨(some 12), .mov, [.c (.int .i64 0)], none⟩])
   (.block 0 (.loop (.seq (.reg [⟨(some 13), .bin .lss, [.t 12, .t 11], none⟩])
   (.seq (.cond (.t 13) .skip (.exit 0))
   (.seq (.block 1 (.seq (.reg [⟨(some 14), .iaddrS 1, [.t 10, .t 12], none⟩,
     ⟨(some 15), .load 1 false, [.t 14], none⟩,
     ⟨(some 9), .mov, [.t 15], none⟩])
   (.seq (.seq (.reg [⟨(some 16), .mov, [.t 9], none⟩,
     ⟨(some 17), .mov, [.t 7], none⟩,
     ⟨(some 18), .bin .add, [.t 17, .c (.int .i64 1)], none⟩,
     ⟨(some 19), .faddr 1, [.t 2], none⟩,
     ⟨(some 20), .load 1 false, [.t 19], none⟩,
     ⟨(some 21), .len false, [.t 20], none⟩,
     ⟨(some 22), .bin .sub, [.t 21, .c (.int .i64 1)], none⟩,
     ⟨(some 23), .call 47, [.t 16, .t 18, .t 22], none⟩,
     ⟨(some 24), .un .not, [.t 23], none⟩])
   (.cond (.t 24) (.seq (.reg [⟨(some 4), .mov, [.c (.int .i64 0)], none⟩,
     ⟨(some 5), .mov, [.c (.bool false)], none⟩])
   .ret) .skip))
   (.reg [⟨(some 25), .mov, [.t 6], none⟩,
     ⟨(some 26), .mov, [.t 9], none⟩,
     ⟨(some 27), .bin .shl, [.c (.int .i64 1), .t 26], none⟩,
     ⟨(some 28), .bin .or, [.t 25, .t 27], none⟩,
     ⟨(some 29), .mov, [.t 9], none⟩,
     ⟨(some 6), .mov, [.t 28], none⟩,
     ⟨(some 7), .mov, [.t 29], none⟩]))))
   (.reg [⟨(some 30), .bin .add, [.t 12, .c (.int .i64 1)], none⟩,
     ⟨(some 12), .mov, [.t 30], none⟩])))))))
   (.seq (.reg [⟨(some 31), .mov, [.t 6], none⟩,
     ⟨(some 4), .mov, [.t 31], none⟩,
     ⟨(some 5), .mov, [.c (.bool true)], none⟩])
   .ret))))
theorem chk.bin_bits : chkF Tryd.prog 59 = some (32, ir.bin_bits, [.tmp 4, .tmp 5]) := by kernel_rfl

/-- paravane/paravaneref07.covers -/
abbrev F.ref07_covers : Nat := 62
def ir.ref07_covers : IC :=
 (.seq (.reg [⟨(some 2), .box, [.t 0], none⟩,
     ⟨(some 4), .mov, [.c (.bool false)], none⟩])
   (.seq (.seq (.reg [⟨(some 5), .mov, [.c (.int .i64 0)], none⟩])
   (.block 0 (.loop (.seq (.seq (.reg [⟨(some 6), .mov, [.t 5], none⟩,
     ⟨(some 7), .faddr 0, [.t 2], none⟩,
     ⟨(some 8), .load 1 false, [.t 7], none⟩,
     ⟨(some 9), .len false, [.t 8], none⟩,
     ⟨(some 10), .bin .lss, [.t 6, .t 9], none⟩])
   (.cond (.t 10) .skip (.exit 0)))
   (.seq (.block 1 (.seq (.reg [⟨(some 13), .load 2 true, [.t 2], none⟩,
     ⟨(some 14), .mov, [.t 1], none⟩,
     ⟨(some 15), .mov, [.t 5], none⟩,
     ⟨(some 16), .call 90, [.t 13, .t 14, .t 15], none⟩,
     ⟨(some 17), .bin .gtr, [.t 16, .c (.int .i64 0)], none⟩])
   (.cond (.t 17) (.seq (.reg [⟨(some 4), .mov, [.c (.bool false)], none⟩])
   .ret) .skip)))
   (.reg [⟨(some 11), .mov, [.t 5], none⟩,
     ⟨(some 12), .bin .add, [.t 11, .c (.int .i64 1)], none⟩,
     ⟨(some 5), .mov, [.t 12], none⟩]))))))
   (.seq (.reg [⟨(some 4), .mov, [.c (.bool true)], none⟩])
   .ret)))
theorem chk.ref07_covers : chkF Tryd.prog 62 = some (18, ir.ref07_covers, [.tmp 4]) := by kernel_rfl

/-- paravane/bin.Prove$1 -/
abbrev F.bin_Prove_1 : Nat := 68
def ir.bin_Prove_1 : IC :=
 (.seq (.reg [⟨(some 10), .load 2 true, [.t 2], none⟩,
     ⟨(some 11), .mov, [.t 1], none⟩,
     ⟨(some 12), .call 60, [.t 10, .t 11], none⟩,
     ⟨(some 7), .mov, [.t 12], none⟩])
   (.seq (.seq (.reg [⟨(some 13), .mov, [.t 7], none⟩,
     ⟨(some 14), .un .not, [.t 13], none⟩,
     ⟨(some 15), .mov, [.t 14], none⟩,
     ⟨(some 16), .mov, [.t 0], (some (15, true))⟩,
     ⟨(some 17), .faddr 1, [.t 2], (some (15, true))⟩,
     ⟨(some 18), .load 1 false, [.t 17], (some (15, true))⟩,
     ⟨(some 19), .len false, [.t 18], (some (15, true))⟩,
     ⟨(some 20), .bin .lss, [.t 16, .t 19], (some (15, true))⟩,
     ⟨(some 21), .pick, [.t 15, .t 20, .c (.bool false)], none⟩])
   (.cond (.t 21) (.seq (.reg [⟨(some 22), .load 1 false, [.t 3], none⟩,
     ⟨(some 23), .mov, [.t 0], none⟩,
     ⟨(some 24), .build [(.int .i64 0), .nils] [(0, 1)], [.t 23], none⟩,
     ⟨(some 25), .mkslice 2 60, [.t 24], none⟩,
     ⟨(some 26), .append 2 32 60, [.t 22, .t 25], none⟩,
     ⟨none, .store 1, [.t 3, .t 26], none⟩])
   (.seq (.draw [0, 0, 2, 0, 0, 16, 56, 127] [⟨(some 27), .load 1 false, [.t 4], none⟩,
     ⟨(some 28), .mov, [.t 0], none⟩,
     ⟨(some 29), .bin .add, [.t 28, .c (.int .i64 1)], none⟩,
     ⟨(some 30), .mov, [.t 1], none⟩,
     ⟨(some 31), .mov, [.t 0], none⟩,
     ⟨(some 32), .bin .shl, [.c (.int .i64 1), .t 31], none⟩,
     ⟨(some 33), .bin .or, [.t 30, .t 32], none⟩,
     ⟨(some 34), .callv, [.t 27, .t 29, .t 33], none⟩])
   (.seq (.reg [⟨(some 35), .load 1 false, [.t 4], none⟩,
     ⟨(some 36), .mov, [.t 0], none⟩,
     ⟨(some 37), .bin .add, [.t 36, .c (.int .i64 1)], none⟩,
     ⟨(some 38), .mov, [.t 1], none⟩,
     ⟨(some 39), .callv, [.t 35, .t 37, .t 38], none⟩])
   .ret))) .skip))
   (.seq (.reg [⟨(some 40), .faddr 0, [.t 2], none⟩,
     ⟨(some 41), .load 1 false, [.t 40], none⟩,
     ⟨(some 42), .len false, [.t 41], none⟩,
     ⟨(some 43), .mkbox 1 8 [(.int .i64 0)], [.t 42, .t 42], none⟩,
     ⟨(some 8), .mov, [.t 43], none⟩])
   (.seq (.seq (.reg [⟨(some 44), .mov, [.t 8], none⟩,
     ⟨(some 45), .len false, [.t 44], none⟩,
     ⟨(some 46), .mov, [.c (.int .i64 0)], none⟩])
   (.block 0 (.loop (.seq (.reg [⟨(some 47), .bin .lss, [.t 46, .t 45], none⟩])
   (.seq (.cond (.t 47) .skip (.exit 0))
   (.seq (.block 1 (.seq (.reg [⟨(some 48), .mov, [.t 46], none⟩,
     ⟨(some 9), .mov, [.t 48], none⟩])
   (.seq (.reg [⟨(some 49), .mov, [.t 7], none⟩,
     ⟨(some 50), .un .not, [.t 49], none⟩])
   (.cond (.t 50) (.reg [⟨(some 51), .mov, [.t 8], none⟩,
     ⟨(some 52), .mov, [.t 9], none⟩,
     ⟨(some 53), .iaddrS 1, [.t 51, .t 52], none⟩,
     ⟨none, .store 1, [.t 53, .c (.int .i64 1000000)], none⟩]) .skip))))
   (.reg [⟨(some 54), .bin .add, [.t 46, .c (.int .i64 1)], none⟩,
     ⟨(some 46), .mov, [.t 54], none⟩])))))))
   (.reg [⟨(some 55), .load 1 false, [.t 3], none⟩,
     ⟨(some 56), .mov, [.t 8], none⟩,
     ⟨(some 57), .build [(.int .i64 0), .nils] [(0, 1), (1, 1)], [.c (.int .i64 (-1)), .t 56], none⟩,
     ⟨(some 58), .mkslice 2 60, [.t 57], none⟩,
     ⟨(some 59), .append 2 32 60, [.t 55, .t 58], none⟩,
     ⟨none, .store 1, [.t 3, .t 59], none⟩])))))
theorem chk.bin_Prove_1 : chkF Tryd.prog 68 = some (60, ir.bin_Prove_1, []) := by kernel_rfl

/-- paravane/paravaneref07.rest -/
abbrev F.ref07_rest : Nat := 90
def ir.ref07_rest : IC :=
 (.seq (.reg [⟨(some 3), .box, [.t 0], none⟩,
     ⟨(some 6), .mov, [.c (.int .i64 0)], none⟩])
   (.seq (.reg [⟨(some 9), .faddr 0, [.t 3], none⟩,
     ⟨(some 10), .load 1 false, [.t 9], none⟩,
     ⟨(some 11), .mov, [.t 2], none⟩,
     ⟨(some 12), .iaddrS 1, [.t 10, .t 11], none⟩,
     ⟨(some 13), .load 1 false, [.t 12], none⟩,
     ⟨(some 7), .mov, [.t 13], none⟩])
   (.seq (.seq (.reg [⟨(some 8), .mov, [.c (.int .i64 0)], none⟩])
   (.block 0 (.loop (.seq (.seq (.reg [⟨(some 14), .mov, [.t 8], none⟩,
     ⟨(some 15), .mov, [.t 1], none⟩,
     ⟨(some 16), .len false, [.t 15], none⟩,
     ⟨(some 17), .bin .lss, [.t 14, .t 16], none⟩])
   (.cond (.t 17) .skip (.exit 0)))
   (.seq (.block 1 (.draw [0, 0, 2, 0, 0, 24, 56, 126, 254, 510, 0, 2046, 4094, 8191, 16383] [⟨(some 20), .mov, [.t 7], none⟩,
     ⟨(some 21), .faddr 1, [.t 3], none⟩,
     ⟨(some 22), .load 1 false, [.t 21], none⟩,
     ⟨(some 23), .mov, [.t 1], none⟩,
     ⟨(some 24), .mov, [.t 8], none⟩,
     ⟨(some 25), .iaddrS 1, [.t 23, .t 24], none⟩,
     ⟨(some 26), .load 1 false, [.t 25], none⟩,
     ⟨(some 27), .iaddrS 2, [.t 22, .t 26], none⟩,
     ⟨(some 28), .faddr 1, [.t 27], none⟩,
     ⟨(some 29), .load 1 false, [.t 28], none⟩,
     ⟨(some 30), .mov, [.t 2], none⟩,
     ⟨(some 31), .iaddrS 1, [.t 29, .t 30], none⟩,
     ⟨(some 32), .load 1 false, [.t 31], none⟩,
     ⟨(some 33), .bin .sub, [.t 20, .t 32], none⟩,
     ⟨(some 7), .mov, [.t 33], none⟩]))
   (.reg [⟨(some 18), .mov, [.t 8], none⟩,
     ⟨(some 19), .bin .add, [.t 18, .c (.int .i64 1)], none⟩,
     ⟨(some 8), .mov, [.t 19], none⟩]))))))
   (.seq (.reg [⟨(some 34), .mov, [.t 7], none⟩,
     ⟨(some 35), .minmax true, [.c (.int .i64 0), .t 34], none⟩,
     ⟨(some 6), .mov, [.t 35], none⟩])
   .ret))))
theorem chk.ref07_rest : chkF Tryd.prog 90 = some (36, ir.ref07_rest, [.tmp 6]) := by kernel_rfl

/-- paravane/paravaneref07.cost -/
abbrev F.ref07_cost : Nat := 106
def ir.ref07_cost : IC :=
 (.seq (.reg [⟨(some 2), .box, [.t 0], none⟩,
     ⟨(some 4), .mov, [.c (.int .i64 0)], none⟩])
   (.seq (.reg [⟨(some 5), .mov, [.c (.int .i64 0)], none⟩])
   (.seq (.seq (.reg [⟨(some 6), .mov, [.c (.int .i64 0)], none⟩])
   (.block 0 (.loop (.seq (.seq (.reg [⟨(some 7), .mov, [.t 6], none⟩,
     ⟨(some 8), .mov, [.t 1], none⟩,
     ⟨(some 9), .len false, [.t 8], none⟩,
     ⟨(some 10), .bin .lss, [.t 7, .t 9], none⟩])
   (.cond (.t 10) .skip (.exit 0)))
   (.seq (.block 1 (.draw [0, 0, 2, 0, 0, 24, 56, 126, 254, 510, 1023, 2047] [⟨(some 13), .mov, [.t 5], none⟩,
     ⟨(some 14), .faddr 1, [.t 2], none⟩,
     ⟨(some 15), .load 1 false, [.t 14], none⟩,
     ⟨(some 16), .mov, [.t 1], none⟩,
     ⟨(some 17), .mov, [.t 6], none⟩,
     ⟨(some 18), .iaddrS 1, [.t 16, .t 17], none⟩,
     ⟨(some 19), .load 1 false, [.t 18], none⟩,
     ⟨(some 20), .iaddrS 2, [.t 15, .t 19], none⟩,
     ⟨(some 21), .faddr 0, [.t 20], none⟩,
     ⟨(some 22), .load 1 false, [.t 21], none⟩,
     ⟨(some 23), .bin .add, [.t 13, .t 22], none⟩,
     ⟨(some 5), .mov, [.t 23], none⟩]))
   (.reg [⟨(some 11), .mov, [.t 6], none⟩,
     ⟨(some 12), .bin .add, [.t 11, .c (.int .i64 1)], none⟩,
     ⟨(some 6), .mov, [.t 12], none⟩]))))))
   (.seq (.reg [⟨(some 24), .mov, [.t 5], none⟩,
     ⟨(some 4), .mov, [.t 24], none⟩])
   .ret))))
theorem chk.ref07_cost : chkF Tryd.prog 106 = some (25, ir.ref07_cost, [.tmp 4]) := by kernel_rfl

end Go.Proofs.YtffoiccokigjcaaDoor

/-! AM, part Zt: calls that leave an arena of which something is known. -/
set_option linter.unusedVariables false
set_option linter.unusedSimpArgs false
namespace Go.Am
open Go.RowKit

/-- **A CONTRACT OVER AN ARENA, OF WHICH SOMETHING IS KNOWN THEN**. -/
def CE (P : Program) (f : FuncId) (A : Arena) (K : List (Nat × List V)) (args : List V) (r : V) (Φ : Arena → Prop) : Prop :=
  callable P f = true ∧ ∀ (w : World) (φ : Nat → Nat) (xs : Array Value), (∀ b, w.heap.size ≤ b → φ b = 0) → Gl w φ → Ar w φ (fun _ => False) A → Kons w φ K → (∀ p ∈ K, p.1 ∉ A.map (·.1)) → RepL w φ args xs →
    Calls P f xs w fun e w' => ∃ φ' x B, Φ B ∧ e = .returned x ∧ RepR w' φ' r x ∧ Ar w' φ' (fun _ => False) B ∧ Moved (fun b => b ∈ A.map (·.1)) w φ (fun b => b ∈ B.map (·.1)) w' φ'

/-- Constants lie outside of the arena. -/
def InKD (E : Env) (K : List (Nat × List V)) : Prop := ∀ B stp M w φ, E.S (encA B) stp M w φ → ∀ p ∈ K, p.1 ∉ B.map (·.1)

theorem CE_of {P : Program} {f nt : Nat} {ic : IC} {rs : List ResultVar} (hmix : P.follows .mixedOrders = true) (hch : chkF P f = some (nt, ic, rs)) {A : Arena} {K : List (Nat × List V)} {args : List V} {r : V} {Φ : Arena → Prop} (hlen : args.length ≤ nt)
    (hT : ∀ (S : Sur) (ok : S.ok) (S1 : Sur), InA (env0 P hmix nt S ok) S1 [] false → InK (env0 P hmix nt S ok) K → InKD (env0 P hmix nt S ok) K → Tr (env0 P hmix nt S ok) none ic (qRet P rs r fun s => ∃ B, s.log = encA B ∧ Φ B) { entry args with log := encA A }) : CE P f A K args r Φ := by
  obtain ⟨fn, c, hf, hb, hnt, hc, rfl, hcall⟩ := chkF_ok hch
  refine ⟨hcall, fun w φ xs htop hgl hA hK hKA hrep => ?_⟩
  have okI := SQ_ok w φ A hgl
  have hInK : InK (env0 P hmix nt (SA (SQ w φ A) [] false) (SA_ok okI [] false)) K := by
    rintro log stp M w' φ' ⟨B', _, _, _, hm⟩ p hp
    obtain ⟨h1, h2⟩ := hK p hp
    have := hm.old p.1 h2 (hKA p hp)
    exact ⟨h1.mono this.1 hm.ext, Nat.lt_of_lt_of_le h2 hm.size⟩
  have hKD : InKD (env0 P hmix nt (SA (SQ w φ A) [] false) (SA_ok okI [] false)) K := by
    rintro B stp M w' φ' ⟨B', e, _, _, hm⟩ p hp hb
    obtain rfl := encA_inj e
    rcases hm.mine p.1 (.inr hb) with h | h
    · exact hKA p hp h
    · have := (hK p hp).2; omega
  have hT1 := hT (SA (SQ w φ A) [] false) (SA_ok okI [] false) (SQ w φ A) (⟨Sub.refl _, okI⟩) hInK hKD
  have e0 : (fun b => False ∨ b ∈ A.map (·.1)) = fun b => b ∈ A.map (·.1) := by funext b; simp
  have hT2 : Tr (env0 P hmix nt (SQ1 w φ A) (SQ1_ok w φ A hgl)) none ic (qRet P fn.results.toList r fun s => ∃ B, s.log = encA B ∧ Φ B) (entry args) := by
    intro c hc n a w1 g R Q' hq
    obtain ⟨B0, h1, h2, h3, h4⟩ := R.1.sur
    have hB0 : B0 = A := by
      rcases h1 with ⟨_, h⟩ | h
      · exact h
      · exact absurd h.symm (encA_ne _)
    subst hB0
    have R1 : (env0 P hmix nt (SA (SQ w φ B0) [] false) (SA_ok okI [] false)).rel { entry args with log := encA B0 } a w1 g := by
      refine ⟨{ R.1 with sur := ⟨B0, rfl, rfl, h3, h4⟩ }, fun l hl => ⟨?_, trivial⟩, R.2.2⟩
      intro log x M w φ xs hp
      exact absurd hp.length_le (by simp)
    refine hT1 c hc n a w1 g R1 Q' fun e t a' w' h' hQ R' hy => ?_
    refine hq e t a' w' h' hQ ?_ hy
    obtain ⟨B', k1, k2, k3, k4⟩ := R'.1.sur
    refine ⟨{ R'.1 with sur := ⟨B', .inr k1, k2, k3, k4⟩ }, fun l hl => ⟨?_, trivial⟩, R'.2.2⟩
    intro log x M w φ xs hp
    exact absurd hp.length_le (by simp)
  refine (calls_body (E := env0 P hmix nt (SQ1 w φ A) (SQ1_ok w φ A hgl)) (φ := φ) (y := none) hf hb hc hnt hlen hrep.1 (fun i v x h1 h2 => ⟨.data (hrep.2 i v x h1 h2), fun σ h => GrowV.of_data (hrep.2 i v x h1 h2)⟩)
    ⟨A, .inl ⟨rfl, rfl⟩, rfl, hA, by rw [e0]; exact Moved.refl _ htop⟩ htop (fun _ h => ((by cases h))) hT2).mono ?_
  rintro e w' ⟨s', h', x, rfl, hr, ⟨B', k1, k2, k3, k4⟩, ht, hk⟩
  obtain ⟨B, hk, hΦ⟩ := hk
  have hB : B' = B := by
    rw [hk] at k1
    rcases k1 with ⟨h, _⟩ | h
    · exact absurd h (encA_ne _)
    · exact (encA_inj h).symm
  subst hB
  exact ⟨h'.φ, x, B', hΦ, rfl, hr, ⟨k3.nd, k3.ok, fun _ _ h => h, k3.lt, k3.z⟩, ⟨k4.ext, k4.old, k4.size, k4.os, k4.tape, k4.output, fun b hb => k4.mine b (.inr hb), k4.top⟩⟩

section
variable {E : Env} {S0 : Sur} {l0 : List (List V)} {s0 : Bool} {A : Arena} {stp : Bool} {σ : FSt} {a : Act} {w : World} {h : Gh}

/-- A call over an arena. -/
theorem wp_callE (hE : InA E S0 l0 s0) {F A1 : Arena} {K : List (Nat × List V)} {ro : Option Nat} {n i : Nat} {ops : Array Oper} {slots : List (Option Nat)} {o : Oper} {ins : Ins} (R : E.relF (encA (F ++ A1)) stp σ a w h) {f : FuncId} {vs us : List V} {ids : List Nat} {r : V} {Φ : Arena → Prop} {os : List Operand} (cc : Comp E.P E.nt slots o ins os) (hd : toDs σ.b vs = some (us, ids)) (hC : CE E.P f A1 K us r Φ)
    (hK : ∀ h', E.relF (encA (F ++ A1)) stp ((freeze σ.b ids).foldl (fun τ p => τ.set (.bx p.1) (.b p.2)) σ) a w h' → Kons w h'.φ K) (hKA : ∀ p ∈ K, p.1 ∉ A1.map (·.1)) (xs : Array Value) (hl : vs.length = xs.size)
    (hr : ∀ (i : Nat) v x, vs[i]? = some v → xs[i]? = some x → Rep w h.φ h.β h.y.l v x) (hi : ops[i]? = some o) (hw : Region.wanted o (yielded ops a.tmps) = true) (hrun : (execOp a.eval o).run E.P w = .ok (.enter f xs) w)
    {Q : Exit → Act → World → Prop} {next : Act → World → Prop} (hn : ∀ B, Φ B → ∀ a' w' h', E.relF (encA (F ++ B)) stp ((σ.eff { v := r, wb := freeze σ.b ids }).put ins.d r) a' w' h' → h'.y = h.y → next a' w') : wpOpIn (wideR ro) n E.P ops Q i next a w := by
  unfold wpOpIn
  simp only [hi, hw, if_true, Oper.wpIn]
  refine ⟨fun _ _ => trivial, ?_⟩
  rw [Oper.semAt_eq _ _ _ (opK_defer cc.op), hrun]
  simp only [Oper.uponIn]
  refine ⟨fun e => by simp [wideR, Fence.wide] at e, ?_⟩
  obtain ⟨h1, R1, ext1, q1, q2, q3, hrep⟩ := args_data R.1 hd
  have R1' : E.relF (encA (F ++ A1)) stp ((freeze σ.b ids).foldl (fun τ p => τ.set (.bx p.1) (.b p.2)) σ) a w h1 := ⟨R1, by rw [q3]; exact R.2⟩
  have hAr := hE.ar R1'
  have hnd := hAr.nd
  rw [List.map_append, List.nodup_append] at hnd
  have arA : Ar w h1.φ (fun _ => False) A1 := ⟨hnd.2.1, fun p hp => hAr.ok p (List.mem_append.2 (.inr hp)), fun _ _ h => h, fun p hp => hAr.lt p (List.mem_append.2 (.inr hp)), fun p hp => hAr.z p (List.mem_append.2 (.inr hp))⟩
  refine (callsIn_wideR (hC.2 w h1.φ xs R1.top (E.ok.gl _ _ _ _ _ R1.sur) arA (hK h1 R1') hKA (hrep xs hl hr))).mono ?_
  rintro e w' ⟨φ', x, B, hΦ, rfl, hres, hB, hm⟩
  have R2 := hE.moved R1' hm hB
  have hx : Rep w' φ' h1.β h1.y.l r x ∧ ∀ σ h w0, GrowV σ h w0 r x := by
    cases hres with
    | data hh => exact ⟨.data hh, fun σ h w0 => GrowV.of_data hh⟩
    | tuple vs xs hl hh =>
      refine ⟨.tuple vs xs hl hh, fun σ h w0 j u z hu hz => ?_⟩
      cases j with
      | zero => simp [cells] at hu; subst hu; intro r' sz xs' e; cases e
      | succ j => simp [cells] at hu
  have fin : Ok (σ.eff { v := r, wb := freeze σ.b ids }) { h1 with φ := φ' } w' r x := ⟨hx.1, hx.2 _ _ _⟩
  refine hn B hΦ _ _ { h1 with φ := φ' } ⟨?_, ?_⟩ (by simpa using q3)
  · rw [cc.d]
    cases hd : o.dst with
    | none => exact R2.1
    | some d => exact R2.1.put (cc.dst d hd) fin.1 fin.2
  · exact R2.2

theorem Steps.callvE (hE : InA E S0 l0 s0) {K : St → Prop} {Ks : List (Nat × List V)} {s : St} {d : Option Nat} {f : FuncId} {xs : List X} {rest : List Ins} {vs first cap us : List V} {ids : List Nat} {r : V} {Φ : Arena → Prop} {F A1 : Arena} (hx : evXs s.env xs = some (.func (.func f) first cap :: vs)) (hd : toDs s.fs.b (first ++ vs ++ cap) = some (us, ids)) (hl : s.log = encA (F ++ A1))
    (hC : CE E.P f A1 Ks us r Φ) (hKs : (∀ p ∈ Ks, (p.1, Ob.cells p.2) ∈ F) ∨ InK E Ks ∧ ∀ p ∈ Ks, p.1 ∉ A1.map (·.1))
    (hk : ∀ B, Φ B → Steps E rest K { (s.eff { v := r, wb := freeze s.fs.b ids }).put d r with log := encA (F ++ B) }) : Steps E (⟨d, .callv, xs, none⟩ :: rest) K s := by
  refine Step1.raw fun slots ops o i ro n a w h hc hs hi R Q next hn => ?_
  obtain ⟨os, cc⟩ := comp_of hc
  have hgo := guard_none cc rfl
  obtain ⟨c, t, e1, e2, rfl⟩ := opK_callv cc.op
  have hO := opds_of R.1 cc.xs (evXs_ok hx)
  have R' : E.relF (encA (F ++ A1)) s.stp s.fs a w h := by rw [← hl]; exact R
  have hAr := hE.ar R'
  have hnd := hAr.nd
  rw [List.map_append, List.nodup_append] at hnd
  cases hO with
  | cons o1 o2 =>
    obtain ⟨f', c', ef, hf, hc', h1, h2⟩ := ok_func o1
    obtain ⟨l1, l2⟩ := opds_args o2
    obtain ⟨m1, m2⟩ := arr3 hf hc' l1 h1 h2 l2
    refine wp_callE hE R' cc hd hC (fun h' R1 => ?_) (fun p hp => ?_) _ m1 m2 hi (wanted_none hgo) (run_callv hC.1 e2 e1 ef) fun B hΦ a' w' h' R2 hy => hn _ a' w' h' (hk B hΦ) ?_ hy
    · rcases hKs with hKs | hKs
      · intro p hp
        have := (hE.ar R1)
        exact ⟨this.ok _ (List.mem_append.2 (.inl (hKs p hp))), this.lt _ (List.mem_append.2 (.inl (hKs p hp)))⟩
      · exact hKs.1 _ _ _ _ _ R1.1.sur
    · rcases hKs with hKs | hKs
      · exact fun h => hnd.2.2 _ (List.mem_map.2 ⟨_, hKs p hp, rfl⟩) _ h rfl
      · exact hKs.2 p hp
    · show E.relF _ _ _ _ _ _
      have e : ({ (s.eff { v := r, wb := freeze s.fs.b ids }).put d r with log := encA (F ++ B) } : St).fs = ((s.fs.eff { v := r, wb := freeze s.fs.b ids }).put d r) := by
        cases d with
        | none => exact fs_eff s _
        | some d => show ((s.eff _).put (some d) r).fs = _; rw [fs_put, fs_eff]; rfl
      have e2 : ({ (s.eff { v := r, wb := freeze s.fs.b ids }).put d r with log := encA (F ++ B) } : St).stp = s.stp := by
        show ((s.eff _).put d r).stp = _
        rw [(put_log _ _ _).2, (eff_log _ _).2]
      rw [e, e2]
      exact R2

/-- That is known at each step. -/
theorem Steps.know {K : List (Nat × List V)} {Kt : St → Prop} {s : St} {i : Ins} {r : List Ins} (hD : InKD E K) (hl : s.log = encA A) (k : (∀ p ∈ K, p.1 ∉ A.map (·.1)) → Steps E (i :: r) Kt s) : Steps E (i :: r) Kt s := by
  refine Step1.raw fun slots ops o j ro n a w h hc hs hi R Q next hn => ?_
  have R1 := R.1.sur
  rw [hl] at R1
  exact step_ok (k (hD _ _ _ _ _ R1) : Step1 E i (Steps E r Kt) s) hc hs hi R hn

end
end Go.Am

/-! Weakening inside a region. -/
set_option linter.unusedVariables false
set_option linter.unusedSimpArgs false
namespace Go.Proofs.YtffoiccokigjcaaDoor
open Go.Am

theorem stepsWeak {E : Env} {s s' : St} {i : Ins} {r : List Ins} {K : St → Prop} (h : Wk E s s') (k : Am.Steps E (i :: r) K s') : Am.Steps E (i :: r) K s := by
  refine Step1.raw fun slots ops o j ro n a w hh hc hs hi R Q next hn => ?_
  obtain ⟨h', R', hy⟩ := h a w hh R
  exact step_ok (k : Step1 E i (Am.Steps E r K) s') hc hs hi R' fun s'' a' w' h'' k R ey => hn s'' a' w' h'' k R (ey.trans hy)

theorem VLe.agg2 {a b c d : V} (h : VLe a c) (k : VLe b d) : VLe (.agg [a, b]) (.agg [c, d]) := .agg rfl fun i v u h1 h2 => by
  match i with
  | 0 => cases h1; cases h2; exact h
  | 1 => cases h1; cases h2; exact k
  | i + 2 => simp at h1

end Go.Proofs.YtffoiccokigjcaaDoor

/-! Contract: Prove. -/
set_option linter.unusedVariables false
set_option linter.unusedSimpArgs false
set_option maxRecDepth 40000
set_option maxHeartbeats 4000000
namespace Go.Proofs.YtffoiccokigjcaaDoor
open Go.Am
attribute [local simp] cells scalar mkv splice under2 under dem dem1 eB eQ nfC intsV eC cutsV

def leafZ (x : Nf) (c : Nat) : Int := if coversB x c then 0 else 1000000
def leafC (x : Nf) (c : Nat) : Ct := ⟨-1, List.replicate x.lacks.length (leafZ x c)⟩
def splitL (x : Nf) : Nat → Nat → Nat → List Ct
  | 0, _, c => [leafC x c]
  | m + 1, i, c => if coversB x c then [leafC x c] else ⟨(i : Int), []⟩ :: (splitL x m (i + 1) (c ||| 2 ^ i) ++ splitL x m (i + 1) c)

theorem splitL_len (x : Nf) : ∀ (m i c : Nat), 1 ≤ (splitL x m i c).length ∧ (splitL x m i c).length + 1 ≤ 2 ^ (m + 1)
  | 0, i, c => by simp [splitL]
  | m + 1, i, c => by
    have h1 := splitL_len x m (i + 1) (c ||| 2 ^ i)
    have h2 := splitL_len x m (i + 1) c
    have e : 2 ^ (m + 1 + 1) = 2 ^ (m + 1) + 2 ^ (m + 1) := by rw [Nat.pow_succ 2 (m + 1)]; omega
    have h3 : 1 ≤ 2 ^ (m + 1) := Nat.one_le_two_pow
    unfold splitL
    split
    · simp only [List.length_singleton]; omega
    · simp only [List.length_cons, List.length_append]; omega

def proveV (x : Nf) (b5 b6 : Nat) : V := .func (.func F.bin_Prove_1) [] [.vptr (nfC x) 0, .rptr b5 0, .rptr b6 0]
def prQ (b5 : Nat) (xs : List Ct) (B : Arena) : Prop := ∃ v, (b5, Ob.cells [v]) ∈ B ∧ OwnS B 2 (xs.map eC) v ∧ offS v b5

/-- The variable is stored. -/
theorem prQ_store {b5 : Nat} {xs : List Ct} {B : Arena} {v w : V} (h1 : (b5, Ob.cells [w]) ∈ B) (h2 : OwnS B 2 (xs.map eC) v) (h3 : offS v b5) : prQ b5 xs (setA B b5 (.cells [v])) := by
  refine ⟨v, mem_setA_self h1, ?_, h3⟩
  rcases h2 with h2 | ⟨blk, cap, cs, rfl, a1, a2, a3, a4⟩
  · exact .inl h2
  · exact .inr ⟨blk, cap, cs, rfl, mem_setA_ne a1 (fun e => h3 _ _ _ _ rfl e.symm), a2, a3, a4⟩

theorem ownS_isD {B : Arena} {xs : List V} {v : V} (h : OwnS B 2 xs v) : isD v = true ∧ scalar v = true := by
  rcases h with ⟨_, rfl⟩ | ⟨_, _, _, rfl, _⟩ <;> exact ⟨rfl, rfl⟩

theorem rep_flat (n : Nat) (a : V) : (List.replicate n [a]).flatten = List.replicate n a := by
  induction n with
  | zero => rfl
  | succ n ih => rw [List.replicate_succ, List.replicate_succ, List.flatten_cons, ih]; rfl

theorem fill_set (z : Int) {L k : Nat} (h : k < L) : (List.replicate k z ++ List.replicate (L - k) 0).set k z = List.replicate (k + 1) z ++ List.replicate (L - (k + 1)) 0 := by
  obtain ⟨d, hd⟩ : ∃ d, L - k = d + 1 := ⟨L - k - 1, by omega⟩
  have e : L - (k + 1) = d := by omega
  rw [hd, e, List.set_append_right _ _ (by simp), List.length_replicate, Nat.sub_self, List.replicate_succ, List.set_cons_zero, List.replicate_succ' , List.append_assoc]; rfl

theorem c_prove1 {x : Nf} (hx : nfOk x = true) {b5 b6 : Nat} : ∀ (m i c : Nat) (xs : List Ct) (v : V) (A : Arena), i + m = x.passes.length → c < 2 ^ x.passes.length → xs.length + 2 ^ (m + 1) ≤ 4096 → (b5, Ob.cells [v]) ∈ A → OwnS A 2 (xs.map eC) v → offS v b5 →
    CE Tryd.prog F.bin_Prove_1 A [(b6, [proveV x b5 b6])] [I (i : Nat), I (c : Nat), .vptr (nfC x) 0, .rptr b5 0, .rptr b6 0] (.tuple []) (prQ b5 (xs ++ splitL x m i c)) := by
  obtain ⟨⟨h16, h10⟩, hl1, hp1⟩ := nfOk_spec hx
  intro m
  induction m using Nat.strongRecOn with
  | ind m ih =>
  intro i c xs v A him hc hlen hv hO hoff
  have hm2 : 2 ^ x.passes.length ≤ 1024 := Nat.pow_le_pow_right (n := 2) (by omega) h10
  have hxl : xs.length ≤ 4096 := by have := Nat.two_pow_pos (m + 1); omega
  refine CE_of mixed chk.bin_Prove_1 (by simp) fun S ok S1 hA hK hD => ?_
  refine Tr.seq (Tr.reg (Steps.run rfl (by simp) (Steps.call rfl rfl (c_covers hx hc) (Steps.fin rfl (by simp) ?_))))
  obtain ⟨done, hdone⟩ : ∃ d, coversB x c = d := ⟨_, rfl⟩
  rw [hdone]
  refine Tr.seq (Tr.seqR rfl (by simp) (Tr.cond rfl rfl (fun h1 => ?_) (fun h1 => Tr.skip ?_)))
  · have h1 : (bif !done then decide ((i : Int) < ((x.passes.map eQ).length : Int)) else false) = true := h1
    rw [List.length_map] at h1
    obtain rfl : done = false := by cases done with | false => rfl | true => cases h1
    have h1 : decide ((i : Int) < (x.passes.length : Int)) = true := h1
    have h1 := of_decide_eq_true h1
    obtain ⟨m, rfl⟩ : ∃ m', m = m' + 1 := ⟨m - 1, by omega⟩
    have hsp : splitL x (m + 1) i c = ⟨(i : Int), []⟩ :: (splitL x m (i + 1) (c ||| 2 ^ i) ++ splitL x m (i + 1) c) := by
      rw [splitL, hdone]; rfl
    have hp : 2 ^ i < 2 ^ x.passes.length := Nat.pow_lt_pow_right (by omega) (by omega)
    have hc2 : c ||| 2 ^ i < 2 ^ x.passes.length := Nat.or_lt_two_pow hc hp
    have e2 : 2 ^ (m + 1 + 1) = 2 ^ (m + 1) + 2 ^ (m + 1) := by rw [Nat.pow_succ 2 (m + 1)]; omega
    have h1p : 1 ≤ 2 ^ (m + 1) := Nat.one_le_two_pow
    have l1 := splitL_len x m (i + 1) (c ||| 2 ^ i)
    refine Tr.seq (Tr.reg (Steps.aload hA rfl rfl hv rfl (Steps.runN 2 rfl (by simp) ?_)))
    refine stepsWeak (s' := { env := [(0, I (i : Nat)), (1, I (c : Nat)), (2, .vptr (nfC x) 0), (3, .rptr b5 0), (4, .rptr b6 0), (22, v), (24, .agg [I (i : Nat), intsV []])], bx := [], rw := [], log := encA A, stp := false })
      (Wk.le (.cons rfl (.refl _) (.cons rfl (.refl _) (.cons rfl (.refl _) (.cons rfl (.refl _) (.cons rfl (.refl _) (.cons rfl (.refl _) (.cons rfl (VLe.agg2 (.refl _) (.nil 0 1)) .nil))))))) .nil .nil (by simp only [okRefs, List.all_cons, ownS_refs hO]; rfl) rfl) ?_
    refine Steps.runN 1 rfl (by simp) ?_
    refine Steps.appendOwn (A := A) (v := v) (xs := xs.map eC) (ys := [eC ⟨(i : Int), []⟩]) (zs := [I 0, .nils]) hA rfl rfl hO (by kernel_rfl) (by omega) (by simp only [List.length_cons, List.length_nil, List.length_map]; omega) (by simp only [List.length_cons, List.length_nil, List.length_map]; omega) (by simp) fun v' A' hO' hkeep => ?_
    obtain ⟨d1, d2⟩ := ownS_isD hO'
    obtain ⟨k1, k2⟩ := hkeep _ hv hoff
    have hO2 : OwnS A' 2 ((xs ++ [(⟨(i : Int), []⟩ : Ct)]).map eC) v' := by rw [List.map_append]; exact hO'
    have hq := prQ_store (v := v') k1 hO2 k2
    refine Steps.astore hA rfl rfl k1 (by simp) d1 d2 (Steps.fin rfl (by simp) ?_)
    have eset : ([v] : List V).set 0 v' = [v'] := rfl
    rw [eset]
    obtain ⟨A2, hA2⟩ : ∃ A2, setA A' b5 (.cells [v']) = A2 := ⟨_, rfl⟩
    rw [hA2] at hq ⊢
    obtain ⟨v2, q1, q2, q3⟩ := hq
    have hsh := bit_shl i (by omega)
    have hw1 : IntKind.wrap .i64 ((i : Int) + 1) = ((i + 1 : Nat) : Int) := by rw [w64 (by omega) (by omega)]; rfl
    have k1 := ih m (by omega) (i + 1) (c ||| 2 ^ i) (xs ++ [⟨(i : Int), []⟩]) v2 A2 (by omega) hc2 (by simp only [List.length_append, List.length_singleton]; omega) q1 q2 q3
    rw [← bits_or c (2 ^ i) (by omega) (by omega), ← hsh, ← hw1] at k1
    refine Tr.seq (Tr.drawK (TraceK.kload hK (cs := [proveV x b5 b6]) rfl (by simp) rfl (TraceK.runN 6 rfl (by simp) (.done ⟨by kernel_rfl, by kernel_rfl, ?_⟩))))
    refine Steps.know hD rfl fun hdis => ?_
    refine Steps.callvE (F := []) hA rfl rfl rfl k1 (.inr ⟨hK, hdis⟩) fun B hB => Steps.fin rfl (by simp) ?_
    obtain ⟨v3, q1, q2, q3⟩ := hB
    have k2 := ih m (by omega) (i + 1) c ((xs ++ [⟨(i : Int), []⟩]) ++ splitL x m (i + 1) (c ||| 2 ^ i)) v3 B (by omega) hc (by simp only [List.length_append, List.length_singleton]; omega) q1 q2 q3
    rw [← hw1] at k2
    refine Tr.seq (Tr.reg (Steps.kload hK (cs := [proveV x b5 b6]) rfl (by simp) rfl (Steps.runN 3 rfl (by simp) ?_)))
    refine Steps.know hD rfl fun hdis => ?_
    refine Steps.callvE (F := []) hA rfl rfl rfl k2 (.inr ⟨hK, hdis⟩) fun B2 hB2 => Steps.fin rfl (by simp) ?_
    refine Tr.retX rfl rfl rfl rfl ⟨B2, rfl, ?_⟩
    rw [hsp]
    have e : xs ++ (⟨(i : Int), []⟩ :: (splitL x m (i + 1) (c ||| 2 ^ i) ++ splitL x m (i + 1) c)) = ((xs ++ [⟨(i : Int), []⟩]) ++ splitL x m (i + 1) (c ||| 2 ^ i)) ++ splitL x m (i + 1) c := by simp
    rw [e]; exact hB2
  have h1 : (bif !done then decide ((i : Int) < ((x.passes.map eQ).length : Int)) else false) = false := h1
  rw [List.length_map] at h1
  have hsp : splitL x m i c = [leafC x c] := by
    cases m with
    | zero => rfl
    | succ m =>
      have : done = true := by
        cases done with
        | true => rfl
        | false =>
          have h1 : decide ((i : Int) < (x.passes.length : Int)) = false := h1
          have h1 := of_decide_eq_false h1
          omega
      rw [splitL, hdone, this]; rfl
  rw [hsp]
  have hz : leafZ x c = if done then 0 else 1000000 := by unfold leafZ; rw [hdone]
  obtain ⟨z, ez⟩ : ∃ z, leafZ x c = z := ⟨_, rfl⟩
  have hleaf : leafC x c = ⟨-1, List.replicate x.lacks.length z⟩ := by unfold leafC; rw [ez]
  rw [ez] at hz
  rw [hleaf]
  obtain ⟨L, hL⟩ : ∃ L, x.lacks.length = L := ⟨_, rfl⟩
  rw [hL]
  refine Tr.seqR rfl (by simp; omega) ?_
  refine Tr.seq (Tr.seqR rfl (by simp) (Tr.block ?_))
  refine Tr.loop (fun (k : Nat) st => k ≤ L ∧ st = { env := [(3, .rptr b5 0), (7, .bool done), (8, .bsl 43 0 1 L), (45, I (L : Nat)), (46, I (k : Nat))], bx := [(43, ⟨(List.replicate k z ++ List.replicate (L - k) 0).map I, false⟩)], rw := [], log := encA A, stp := false }) (fun k => L - k) 0
    (Wk.le (.cons rfl (.refl _) (.cons rfl (.refl _) (.cons rfl (.of_eq ?_) (.cons rfl (VLe.i ?_) (.cons rfl (.refl _) .nil))))) (.cons rfl ?_ .nil) .nil (okI rfl) rfl) ⟨by omega, rfl⟩ ?_
  · show V.bsl 43 0 1 (((x.lacks.map I).length : Int)).toNat = _
    rw [List.length_map, hL]; rfl
  · show (((((x.lacks.map I).length : Int)).toNat : Nat) : Int) = _
    rw [List.length_map, hL]; rfl
  · show LLe (List.replicate (((x.lacks.map I).length : Int)).toNat [I 0]).flatten _
    rw [List.length_map, hL, rep_flat]
    simp
    exact LLe.refl _
  rintro k st ⟨hk, rfl⟩
  refine Tr.seqR rfl (by simp) (Tr.seqI rfl (fun h2 => ?_) (fun h2 => ?_))
  · have h2 : k < L := by simpa using h2
    refine Tr.skipT (Tr.meet { env := [(3, .rptr b5 0), (7, .bool done), (8, .bsl 43 0 1 L), (45, I (L : Nat)), (46, I (k : Nat))], bx := [(43, ⟨(List.replicate (k + 1) z ++ List.replicate (L - (k + 1)) 0).map I, false⟩)], rw := [], log := encA A, stp := false } (Tr.block ?_) (Tr.regR rfl (by simp) ?_))
    rotate_left
    · exact ⟨k + 1, _, Wk.le (.cons rfl (.refl _) (.cons rfl (.refl _) (.cons rfl (.refl _) (.cons rfl (.refl _) (.cons rfl (VLe.i (w64 (by omega) (by omega))) .nil))))) (.cons rfl (LLe.refl _) .nil) .nil (okI rfl) rfl, ⟨h2, rfl⟩, by omega⟩
    refine Tr.seqR rfl (by simp) (Tr.seqR rfl (by simp) ?_)
    cases done with
    | true =>
      have hz : z = 0 := hz
      subst hz
      refine Tr.condF rfl (Tr.skip ?_)
      refine Wk.le (.cons rfl (.refl _) (.cons rfl (.refl _) (.cons rfl (.refl _) (.cons rfl (.refl _) (.cons rfl (.refl _) .nil))))) (.cons rfl ?_ .nil) .nil (okI rfl) rfl
      have e : List.replicate k (0 : Int) ++ List.replicate (L - k) 0 = List.replicate (k + 1) 0 ++ List.replicate (L - (k + 1)) 0 := by
        rw [List.replicate_append_replicate, List.replicate_append_replicate]
        congr 1; omega
      rw [e]; exact LLe.refl _
    | false =>
      have hz : z = 1000000 := hz
      refine Tr.condT rfl (Tr.regR rfl (by simp; omega) ?_)
      refine Wk.le (.cons rfl (.refl _) (.cons rfl (.refl _) (.cons rfl (.refl _) (.cons rfl (.refl _) (.cons rfl (.refl _) .nil))))) (.cons rfl ?_ .nil) .nil (okI rfl) rfl
      have e0 : 0 + (k : Int).toNat * 1 = k := by omega
      show LLe (splice ((List.replicate k z ++ List.replicate (L - k) 0).map I) (0 + (k : Int).toNat * 1) [I 1000000]) _
      rw [e0, splice_ints (by simp; omega), ← hz, fill_set z h2]
      exact LLe.refl _
  · have h2 : k = L := by simp at h2; omega
    subst h2
    refine Tr.exit ?_
    have eP : List.replicate k z ++ List.replicate (k - k) 0 = List.replicate k z := by simp
    rw [eP]
    refine Tr.weak (Wk.bsl (t := 8) (xs := (List.replicate k z).map I) rfl rfl (by have := holds_ints (List.replicate k z); rwa [List.length_replicate] at this)) ?_
    refine Tr.reg (Steps.aload hA rfl rfl hv rfl (Steps.runN 3 rfl (by simp) ?_))
    refine Steps.appendOwn (A := A) (v := v) (xs := xs.map eC) (ys := [eC ⟨-1, List.replicate k z⟩]) (zs := [I 0, .nils]) hA rfl rfl hO (by kernel_rfl) (by omega) (by simp only [List.length_cons, List.length_nil, List.length_map]; omega) (by simp only [List.length_cons, List.length_nil, List.length_map]; omega) (by simp) fun v' A' hO' hkeep => ?_
    obtain ⟨d1, d2⟩ := ownS_isD hO'
    obtain ⟨k1, k2⟩ := hkeep _ hv hoff
    have hO2 : OwnS A' 2 ((xs ++ [(⟨-1, List.replicate k z⟩ : Ct)]).map eC) v' := by rw [List.map_append]; exact hO'
    have hq := prQ_store (v := v') k1 hO2 k2
    refine Steps.astore hA rfl rfl k1 (by simp) d1 d2 (Steps.fin rfl (by simp) ?_)
    exact And.intro ⟨_, rfl, hq⟩ ⟨[], [], [], rfl, rfl, rfl⟩

end Go.Proofs.YtffoiccokigjcaaDoor

/-! Plain laws of bounds: a leaf that is split bounds no less. -/
set_option linter.unusedVariables false
set_option linter.unusedSimpArgs false
set_option maxRecDepth 40000
set_option maxHeartbeats 4000000
namespace Go.Proofs.YtffoiccokigjcaaDoor
open Go.Am

theorem foldl_addI : ∀ (l : List Int) (z : Int), l.foldl (· + ·) z = l.foldl (· + ·) 0 + z
  | [], z => by simp
  | a :: l, z => by
    rw [List.foldl_cons, List.foldl_cons, foldl_addI l (z + a), foldl_addI l (0 + a)]; omega

theorem dotL_z (a b : List Int) (z : Int) : dotL a b z = dotL a b 0 + z := foldl_addI _ _
theorem dotL_cons (p b : Int) (pr bs : List Int) (z : Int) : dotL (p :: pr) (b :: bs) z = dotL pr bs 0 + p * b + z := by
  unfold dotL
  rw [List.zipWith_cons_cons, List.foldl_cons, foldl_addI]; omega
theorem dotL_nil (b : List Int) (z : Int) : dotL [] b z = z := rfl
theorem dotL_nil2 (b : List Int) (z : Int) : dotL b [] z = z := by unfold dotL; simp

theorem dot_rest : ∀ (pr R S : List Int), S.length = R.length → dotL pr (restN R S) 0 = dotL pr R 0 - dotL pr (minL S R) 0
  | [], R, S, _ => by simp [dotL_nil]
  | p :: pr, [], S, h => by
    obtain rfl : S = [] := List.eq_nil_of_length_eq_zero h
    simp [restN, minL, dotL_nil2]
  | p :: pr, r :: R, [], h => by simp at h
  | p :: pr, r :: R, s :: S, h => by
    have ih := dot_rest pr R S (by simpa using h)
    have e : restN (r :: R) (s :: S) = max 0 (r - s) :: restN R S := rfl
    have e2 : minL (s :: S) (r :: R) = min s r :: minL S R := rfl
    rw [e, e2, dotL_cons, dotL_cons, dotL_cons, ih, show max 0 (r - s) = r - min s r by omega, Int.mul_sub]
    omega

theorem dot_min : ∀ (pr A R S : List Int), (∀ p ∈ pr, 0 ≤ p) → S.length = R.length → (∀ r ∈ R, 0 ≤ r) → (∀ s ∈ S, 0 ≤ s) → dotL pr (minL A (restN R S)) 0 ≤ dotL pr (minL A R) 0
  | [], A, R, S, _, _, _, _ => by simp [dotL_nil]
  | p :: pr, A, [], S, _, h, _, _ => by
    obtain rfl : S = [] := List.eq_nil_of_length_eq_zero h
    simp [restN]
  | p :: pr, A, r :: R, [], _, h, _, _ => by simp at h
  | p :: pr, [], r :: R, s :: S, _, h, _, _ => by simp [minL, dotL_nil2]
  | p :: pr, a :: A, r :: R, s :: S, hp, h, hr, hs => by
    have ih := dot_min pr A R S (fun q hq => hp q (by simp [hq])) (by simpa using h) (fun q hq => hr q (by simp [hq])) (fun q hq => hs q (by simp [hq]))
    have e : restN (r :: R) (s :: S) = max 0 (r - s) :: restN R S := rfl
    have e2 : minL (a :: A) (max 0 (r - s) :: restN R S) = min a (max 0 (r - s)) :: minL A (restN R S) := rfl
    have e3 : minL (a :: A) (r :: R) = min a r :: minL A R := rfl
    have hp0 := hp p (by simp)
    have hr0 := hr r (by simp)
    have hs0 := hs s (by simp)
    have : p * min a (max 0 (r - s)) ≤ p * min a r := Int.mul_le_mul_of_nonneg_left (by omega) hp0
    rw [e, e2, e3, dotL_cons, dotL_cons]
    omega

theorem gain_le {x : Nf} {pr R S : List Int} (hp : ∀ p ∈ pr, 0 ≤ p) (h : S.length = R.length) (hr : ∀ r ∈ R, 0 ≤ r) (hs : ∀ s ∈ S, 0 ≤ s) (j : Nat) : gainN x pr (restN R S) j ≤ gainN x pr R j := by
  unfold gainN
  rw [dotL_z, dotL_z pr (minL _ R)]
  have := dot_min pr (addsOf x j) R S hp h hr hs
  omega

theorem leaf_right (x : Nf) (pr R : List Int) (d : Nat) : ∀ (l : List Nat) (z1 z2 : Int), z1 ≤ z2 → l.foldl (leafStep x pr R 0) z1 ≤ l.foldl (leafStep x pr R d) z2
  | [], _, _, h => h
  | j :: l, z1, z2, h => by
    refine leaf_right x pr R d l _ _ ?_
    unfold leafStep
    rw [Nat.zero_testBit]
    simp only [Bool.false_eq_true, if_false]
    split <;> omega

theorem leaf_left {x : Nf} {pr R R' : List Int} {i : Nat} (hg : ∀ j, gainN x pr R' j ≤ gainN x pr R j) {z1 z2 : Int} (hz : z1 ≤ z2 + max 0 (gainN x pr R i)) : ∀ n, (List.range n).foldl (leafStep x pr R 0) z1 ≤ (List.range n).foldl (leafStep x pr R' (2 ^ i)) z2 + (if i < n then 0 else max 0 (gainN x pr R i))
  | 0 => by simpa using hz
  | n + 1 => by
    have ih := leaf_left hg hz n
    rw [List.range_succ, List.foldl_append, List.foldl_append]
    generalize (List.range n).foldl (leafStep x pr R 0) z1 = A at ih ⊢
    generalize (List.range n).foldl (leafStep x pr R' (2 ^ i)) z2 = B at ih ⊢
    simp only [List.foldl_cons, List.foldl_nil]
    unfold leafStep
    rw [Nat.zero_testBit, Nat.testBit_two_pow]
    have := hg n
    by_cases h : i = n
    · subst h
      simp only [Bool.false_eq_true, if_false, decide_true, if_true, Nat.lt_irrefl] at ih ⊢
      rw [if_pos (by omega)]
      omega
    · simp only [Bool.false_eq_true, if_false, h, decide_false] at ih ⊢
      by_cases h2 : i < n
      · rw [if_pos h2] at ih
        rw [if_pos (by omega)]
        omega
      · rw [if_neg h2] at ih
        rw [if_neg (by omega)]
        omega

theorem choice_one : ∀ i, i < 10 → choiceN (2 ^ i) = [i] := by decide
theorem choice_zero : choiceN 0 = [] := by decide

theorem leaf_split {x : Nf} (hx : nfOk x = true) {pr : List Int} (hp : pricesOk x pr = true) {i : Nat} (hi : i < x.passes.length) :
    leafN x pr 0 0 ≤ leafN x pr (2 ^ i) (2 ^ i) ∧ leafN x pr 0 0 ≤ leafN x pr 0 (2 ^ i) := by
  obtain ⟨⟨h16, h10⟩, hl, hps⟩ := nfOk_spec hx
  have hpr : ∀ p ∈ pr, 0 ≤ p := fun p h => by
    unfold pricesOk at hp
    rw [Bool.and_eq_true, List.all_eq_true] at hp
    have := hp.2 p h
    rw [btw_iff] at this; exact this.1
  have hi10 : i < 10 := by omega
  have ep : x.passes.getD i p0 = x.passes[i] := by simp [hi]
  have hpi := hps _ (List.getElem_mem hi)
  have hal : (addsOf x i).length = x.lacks.length := by unfold addsOf; rw [ep]; exact hpi.2.1
  have han : ∀ s ∈ addsOf x i, 0 ≤ s := by unfold addsOf; rw [ep]; exact fun s h => (hpi.2.2 s h).1
  have hln : ∀ s ∈ x.lacks, 0 ≤ s := fun s h => by have := hl s h; omega
  unfold leafN
  rw [choice_zero, choice_one i hi10]
  have e0 : restsL x [] = x.lacks := rfl
  have e1 : restsL x [i] = restN x.lacks (addsOf x i) := rfl
  have c0 : costB x 0 = 0 := by unfold costB choiceL; rw [choice_zero]; rfl
  have c1 : costB x (2 ^ i) = costOf x i := by
    unfold costB choiceL; rw [choice_one i hi10]
    simp [castL, sumF]
  rw [e0, e1, c0, c1]
  constructor
  · have hz : dotL pr x.lacks 0 ≤ dotL pr (restN x.lacks (addsOf x i)) (costOf x i) + max 0 (gainN x pr x.lacks i) := by
      rw [dotL_z _ _ (costOf x i), dot_rest _ _ _ hal]
      unfold gainN
      rw [dotL_z _ _ (-costOf x i)]
      omega
    have := leaf_left (x := x) (pr := pr) (R := x.lacks) (R' := restN x.lacks (addsOf x i)) (i := i) (fun j => gain_le hpr hal hln han j) hz x.passes.length
    rw [if_pos hi] at this
    omega
  · exact leaf_right x pr x.lacks (2 ^ i) _ _ _ (Int.le_refl _)

end Go.Proofs.YtffoiccokigjcaaDoor

/-! Plain laws of choices: the best one; a lack less, a pass more; choices as numbers. -/
set_option linter.unusedVariables false
set_option linter.unusedSimpArgs false
set_option maxRecDepth 40000
set_option maxHeartbeats 4000000
namespace Go.Proofs.YtffoiccokigjcaaDoor
open Go.Am

/-! ### The best choice -/
def bestTo (x : Nf) (wo k : Nat) : Nat × Bool := (List.range k).foldl (bestStep x wo) (0, false)

theorem bestTo_spec (x : Nf) (wo : Nat) : ∀ k, ((bestTo x wo k).2 = true → (bestTo x wo k).1 < k ∧ skips x wo (bestTo x wo k).1 = false) ∧ ∀ b < k, skips x wo b = false → (bestTo x wo k).2 = true ∧ costB x (bestTo x wo k).1 ≤ costB x b
  | 0 => ⟨fun h => by simp [bestTo] at h, fun b h => by omega⟩
  | k + 1 => by
    obtain ⟨h1, h2⟩ := bestTo_spec x wo k
    have e : bestTo x wo (k + 1) = bestStep x wo (bestTo x wo k) k := by unfold bestTo; rw [List.range_succ, List.foldl_append]; rfl
    rw [e]
    obtain ⟨⟨o, so⟩, hos⟩ : ∃ p, bestTo x wo k = p := ⟨_, rfl⟩
    rw [hos] at h1 h2 ⊢
    unfold bestStep
    by_cases hk : skips x wo k = true
    · rw [if_pos hk]
      refine ⟨fun h => ⟨by have := (h1 h).1; omega, (h1 h).2⟩, fun b hb hs => ?_⟩
      rcases Nat.lt_succ_iff_lt_or_eq.1 hb with hb | rfl
      · exact h2 b hb hs
      · rw [hk] at hs; cases hs
    have hk : skips x wo k = false := by simpa using hk
    rw [hk, if_neg (by simp)]
    cases so with
    | false =>
      rw [if_pos (show (!(o, false).2) = true from rfl)]
      refine ⟨fun _ => ⟨by simp, hk⟩, fun b hb hs => ?_⟩
      rcases Nat.lt_succ_iff_lt_or_eq.1 hb with hb | rfl
      · have := (h2 b hb hs).1; cases this
      · exact ⟨rfl, Int.le_refl _⟩
    | true =>
      rw [if_neg (by simp)]
      obtain ⟨a1, a2⟩ := h1 rfl
      by_cases hb : better x k o = true
      · rw [if_pos hb]
        have hle : costB x k ≤ costB x o := by
          unfold better at hb
          split at hb
          · have := of_decide_eq_true hb; omega
          · rename_i h; have := Classical.not_not.1 h; omega
        refine ⟨fun _ => ⟨by simp, hk⟩, fun b hb hs => ?_⟩
        rcases Nat.lt_succ_iff_lt_or_eq.1 hb with hb | rfl
        · exact ⟨rfl, Int.le_trans hle (h2 b hb hs).2⟩
        · exact ⟨rfl, Int.le_refl _⟩
      · rw [if_neg hb]
        have hle : costB x o ≤ costB x k := by
          have hb : better x k o = false := by simpa using hb
          unfold better at hb
          split at hb
          · have := of_decide_eq_false hb; omega
          · rename_i h; have := Classical.not_not.1 h; omega
        refine ⟨fun _ => ⟨by simp only at a1 ⊢; omega, a2⟩, fun b hb hs => ?_⟩
        rcases Nat.lt_succ_iff_lt_or_eq.1 hb with hb | rfl
        · exact h2 b hb hs
        · exact ⟨rfl, hle⟩

theorem skips0 (x : Nf) (b : Nat) : skips x 0 b = !coversB x b := by simp [skips]

theorem best_some {x : Nf} (h : (bestN x 0).2 = true) : (bestN x 0).1 < 2 ^ x.passes.length ∧ coversB x (bestN x 0).1 = true := by
  have := (bestTo_spec x 0 (2 ^ x.passes.length)).1 h
  rw [skips0] at this
  exact ⟨this.1, (Bool.not_eq_eq_eq_not.1 this.2)⟩
theorem best_least {x : Nf} {b : Nat} (hb : b < 2 ^ x.passes.length) (hc : coversB x b = true) : (bestN x 0).2 = true ∧ costB x (bestN x 0).1 ≤ costB x b :=
  (bestTo_spec x 0 (2 ^ x.passes.length)).2 b hb (by rw [skips0, hc]; rfl)

/-! ### A lack less -/
def LeI : List Int → List Int → Prop
  | [], [] => True
  | a :: l, b :: m => a ≤ b ∧ LeI l m
  | _, _ => False

theorem LeI.refl : ∀ l, LeI l l
  | [] => trivial
  | a :: l => ⟨Int.le_refl a, LeI.refl l⟩
theorem LeI.rest : ∀ {c d : List Int} (a : List Int), LeI c d → LeI (restN c a) (restN d a)
  | [], [], a, _ => by simp [restN, LeI]
  | x :: c, y :: d, [], _ => trivial
  | x :: c, y :: d, z :: a, h => by
    have := LeI.rest a h.2
    have h1 := h.1
    have e : max 0 (x - z) ≤ max 0 (y - z) := by omega
    exact ⟨e, this⟩
  | [], _ :: _, _, h => h.elim
  | _ :: _, [], _, h => h.elim
theorem LeI.rests {p : Nat → List Int} : ∀ (l : List Nat) {c d : List Int}, LeI c d → LeI (l.foldl (fun c i => restN c (p i)) c) (l.foldl (fun c i => restN c (p i)) d)
  | [], c, d, h => h
  | i :: l, c, d, h => LeI.rests l (h.rest (p i))
theorem LeI.sum : ∀ {c d : List Int} (z w : Int), LeI c d → z ≤ w → c.foldl (· + ·) z ≤ d.foldl (· + ·) w
  | [], [], _, _, _, h => h
  | x :: c, y :: d, z, w, h, h2 => LeI.sum (z + x) (w + y) h.2 (by have := h.1; omega)
  | [], _ :: _, _, _, h, _ => h.elim
  | _ :: _, [], _, _, h, _ => h.elim
theorem sum_nonneg : ∀ (l : List Int) (z : Int), 0 ≤ z → (∀ n ∈ l, 0 ≤ n) → 0 ≤ l.foldl (· + ·) z
  | [], z, h, _ => h
  | a :: l, z, h, k => sum_nonneg l (z + a) (by have := k a (by simp); omega) fun n hn => k n (by simp [hn])
theorem restN_nonneg {n : Int} : ∀ (c a : List Int), n ∈ restN c a → 0 ≤ n
  | [], a, h => by simp [restN] at h
  | x :: c, [], h => by simp [restN] at h
  | x :: c, y :: a, h => by
    have e : restN (x :: c) (y :: a) = max 0 (x - y) :: restN c a := rfl
    rw [e] at h
    rcases List.mem_cons.1 h with rfl | h
    · omega
    · exact restN_nonneg c a h
theorem rests_nonneg {p : Nat → List Int} : ∀ (l : List Nat) {c : List Int}, (∀ n ∈ c, 0 ≤ n) → ∀ n ∈ l.foldl (fun c i => restN c (p i)) c, 0 ≤ n
  | [], c, h => h
  | i :: l, c, h => rests_nonneg l (c := restN c (p i)) fun n hn => restN_nonneg _ _ hn

theorem covers_mono {x y : Nf} (hp : x.passes = y.passes) (hl : LeI y.lacks x.lacks) (hn : ∀ n ∈ y.lacks, 0 ≤ n) {b : Nat} (h : coversB x b = true) : coversB y b = true := by
  unfold coversB at h ⊢
  have h := of_decide_eq_true h
  refine decide_eq_true ?_
  have e : ∀ z : Nf, restsL z (choiceN b) = (choiceN b).foldl (fun c i => restN c (addsOf z i)) z.lacks := fun z => rfl
  have ea : addsOf y = addsOf x := by unfold addsOf; rw [hp]
  have h1 := (LeI.rests (p := addsOf x) (choiceN b) hl).sum 0 0 (Int.le_refl 0)
  have h2 := sum_nonneg _ 0 (Int.le_refl 0) (rests_nonneg (p := addsOf x) (choiceN b) hn)
  unfold sumF at h ⊢
  rw [List.map_id] at h ⊢
  rw [e] at h ⊢
  rw [ea]
  omega

theorem less_best {x y : Nf} (hp : x.passes = y.passes) (hl : LeI y.lacks x.lacks) (hn : ∀ n ∈ y.lacks, 0 ≤ n) (h : (bestN x 0).2 = true) : (bestN y 0).2 = true ∧ costB y (bestN y 0).1 ≤ costB x (bestN x 0).1 := by
  obtain ⟨h1, h2⟩ := best_some h
  have := best_least (x := y) (by rw [← hp]; exact h1) (covers_mono hp hl hn h2)
  have ec : costB y (bestN x 0).1 = costB x (bestN x 0).1 := by unfold costB costOf; rw [hp]
  rw [ec] at this
  exact this

/-! ### A pass more -/
theorem mem_choiceN {b i : Nat} (h : i ∈ choiceN b) : b.testBit i = true := (List.mem_filter.1 h).2
theorem rests_app {x y : Nf} (hl : y.lacks = x.lacks) {p : Ps} (hp : y.passes = x.passes ++ [p]) {b : Nat} (hb : b < 2 ^ x.passes.length) : restsL y (choiceN b) = restsL x (choiceN b) ∧ costB y b = costB x b := by
  have hlt : ∀ i ∈ choiceN b, i < x.passes.length := fun i hi => by
    have := mem_choiceN hi
    by_cases h : i < x.passes.length
    · exact h
    · have h2 := Nat.testBit_lt_two_pow (x := b) (i := i) (Nat.lt_of_lt_of_le hb (Nat.pow_le_pow_right (by omega) (by omega)))
      rw [h2] at this; cases this
  have hg : ∀ i ∈ choiceN b, y.passes.getD i p0 = x.passes.getD i p0 := fun i hi => by
    have := hlt i hi
    rw [hp, List.getD_eq_getElem?_getD, List.getElem?_append_left this, ← List.getD_eq_getElem?_getD]
  constructor
  · unfold restsL
    rw [hl]
    have : ∀ (l : List Nat) (c : List Int), (∀ i ∈ l, y.passes.getD i p0 = x.passes.getD i p0) → l.foldl (fun c i => restN c (addsOf y i)) c = l.foldl (fun c i => restN c (addsOf x i)) c := by
      intro l
      induction l with
      | nil => intros; rfl
      | cons i l ih =>
        intro c h
        rw [List.foldl_cons, List.foldl_cons, ih _ fun j hj => h j (by simp [hj])]
        unfold addsOf
        rw [h i (by simp)]
    exact this _ _ hg
  · unfold costB sumF choiceL castL
    congr 1
    rw [List.map_map, List.map_map]
    refine List.map_congr_left fun i hi => ?_
    simp only [Function.comp, Int.toNat_natCast]
    unfold costOf
    rw [hg i hi]

theorem more_best {x y : Nf} (hl : y.lacks = x.lacks) {p : Ps} (hp : y.passes = x.passes ++ [p]) (h : (bestN x 0).2 = true) : (bestN y 0).2 = true ∧ costB y (bestN y 0).1 ≤ costB x (bestN x 0).1 := by
  obtain ⟨h1, h2⟩ := best_some h
  obtain ⟨e1, e2⟩ := rests_app hl hp h1
  have hlt : (bestN x 0).1 < 2 ^ y.passes.length := by
    rw [hp, List.length_append]
    exact Nat.lt_of_lt_of_le h1 (Nat.pow_le_pow_right (by omega) (by omega))
  have := best_least (x := y) hlt (by unfold coversB at h2 ⊢; rw [e1]; exact h2)
  rw [e2] at this
  exact this

/-! ### A choice as a number -/
def bitsG (n : Nat) : List Int → Nat → Int → Option Nat
  | [], out, _ => some out
  | i :: l, out, last => if btw i (last + 1) ((n : Int) - 1) then bitsG n l (out ||| 2 ^ i.toNat) i else none

theorem choice_or : ∀ i < 10, ∀ b < 2 ^ i, choiceN (b ||| 2 ^ i) = choiceN b ++ [i] := by decide +kernel

theorem bitsG_spec {n : Nat} (hn : n ≤ 10) : ∀ (l : List Int) (out : Nat) (last : Nat) (r : Nat), last ≤ n → out < 2 ^ last → bitsG n l out ((last : Int) - 1) = some r → r < 2 ^ n ∧ choiceL r = choiceL out ++ l
  | [], out, last, r, hl, ho, h => by
    obtain rfl := Option.some.inj h
    exact ⟨Nat.lt_of_lt_of_le ho (Nat.pow_le_pow_right (by omega) hl), by simp⟩
  | i :: l, out, last, r, hl, ho, h => by
    simp only [bitsG] at h
    split at h
    · rename_i hb
      rw [btw_iff] at hb
      obtain ⟨k, rfl⟩ : ∃ k : Nat, i = k := ⟨i.toNat, by omega⟩
      rw [Int.toNat_natCast] at h
      have hk : k < n := by omega
      have hok : out < 2 ^ k := Nat.lt_of_lt_of_le ho (Nat.pow_le_pow_right (by omega) (by omega))
      have ho2 : out ||| 2 ^ k < 2 ^ (k + 1) := Nat.or_lt_two_pow (Nat.lt_of_lt_of_le hok (Nat.pow_le_pow_right (by omega) (by omega))) (Nat.pow_lt_pow_right (by omega) (by omega))
      obtain ⟨h1, h2⟩ := bitsG_spec hn l (out ||| 2 ^ k) (k + 1) r (by omega) ho2 (by rw [show ((k + 1 : Nat) : Int) - 1 = k by omega]; exact h)
      refine ⟨h1, ?_⟩
      rw [h2]
      unfold choiceL castL
      rw [choice_or k (by omega) out hok]
      simp
    · cases h

theorem bitsG_choice : ∀ n < 11, ∀ b < 2 ^ n, bitsG n (choiceL b) 0 (-1) = some b := by decide +kernel

end Go.Proofs.YtffoiccokigjcaaDoor

/-! Plain laws: no choice that covers costs less than a proof's bound; the bound of Prove's proof is the best cost. -/
set_option linter.unusedVariables false
set_option linter.unusedSimpArgs false
set_option maxRecDepth 40000
set_option maxHeartbeats 4000000
namespace Go.Proofs.YtffoiccokigjcaaDoor
open Go.Am

def sumS (f : Nat → Int) : List Nat → Int
  | [] => 0
  | i :: l => f i + sumS f l

theorem sumS_app (f : Nat → Int) : ∀ (l m : List Nat), sumS f (l ++ m) = sumS f l + sumS f m
  | [], m => by simp [sumS]
  | i :: l, m => by simp only [List.cons_append, sumS, sumS_app f l m]; omega
theorem sumS_perm {f : Nat → Int} {l m : List Nat} (h : l.Perm m) : sumS f l = sumS f m := by
  induction h with
  | nil => rfl
  | cons a _ ih => simp only [sumS, ih]
  | swap a b l => simp only [sumS]; omega
  | trans _ _ h1 h2 => exact h1.trans h2
theorem sumS_le {f g : Nat → Int} : ∀ {l : List Nat}, (∀ i ∈ l, f i ≤ g i) → sumS f l ≤ sumS g l
  | [], _ => Int.le_refl 0
  | i :: l, h => by
    have h1 := h i (by simp)
    have h2 := sumS_le (f := f) (g := g) (l := l) fun j hj => h j (by simp [hj])
    simp only [sumS]; omega

theorem foldl_sumS (f : Nat → Int) : ∀ (l : List Nat) (z : Int), (l.map f).foldl (· + ·) z = z + sumS f l
  | [], z => by simp [sumS]
  | i :: l, z => by
    rw [List.map_cons, List.foldl_cons, foldl_sumS f l]; simp only [sumS]; omega

theorem costB_sum (x : Nf) (b : Nat) : costB x b = sumS (costOf x) (choiceN b) := by
  unfold costB sumF choiceL castL
  rw [List.map_map]
  have e : ((fun i : Int => costOf x i.toNat) ∘ fun (i : Nat) => (i : Int)) = costOf x := by
    funext i; simp
  rw [e, foldl_sumS]; omega

/-! ### What is left, in whatever order -/
theorem restN_comm : ∀ (c a b : List Int), (∀ n ∈ a, 0 ≤ n) → (∀ n ∈ b, 0 ≤ n) → restN (restN c a) b = restN (restN c b) a
  | [], a, b, _, _ => by simp [restN]
  | z :: c, [], b, _, _ => by simp [restN]
  | z :: c, p :: a, [], _, _ => by simp [restN]
  | z :: c, p :: a, q :: b, ha, hb => by
    have ih := restN_comm c a b (fun n hn => ha n (by simp [hn])) (fun n hn => hb n (by simp [hn]))
    have h1 := ha p (by simp)
    have h2 := hb q (by simp)
    have e : ∀ (u v : Int) (s t : List Int), restN (u :: s) (v :: t) = max 0 (u - v) :: restN s t := fun _ _ _ _ => rfl
    rw [e, e, e, e, ih]
    congr 1; omega

theorem fold_perm {x : Nf} (hx : nfOk x = true) {l m : List Nat} (h : l.Perm m) : (∀ i ∈ l, i < x.passes.length) → ∀ c : List Int, l.foldl (fun c i => restN c (addsOf x i)) c = m.foldl (fun c i => restN c (addsOf x i)) c := by
  induction h with
  | nil => exact fun _ _ => rfl
  | cons a h ih =>
    intro hl c
    rw [List.foldl_cons, List.foldl_cons]
    exact ih (fun i hi => hl i (by simp [hi])) _
  | swap a b l =>
    intro hl c
    rw [List.foldl_cons, List.foldl_cons, List.foldl_cons, List.foldl_cons, restN_comm _ _ _ (fun n hn => ((adds_small hx (hl b (by simp))).2 n hn).1) (fun n hn => ((adds_small hx (hl a (by simp))).2 n hn).1)]
  | trans h1 h2 i1 i2 =>
    intro hl c
    exact (i1 hl c).trans (i2 (fun i hi => hl i (h1.mem_iff.2 hi)) c)

/-- The passes of a choice that are not decided. -/
def openN (b d : Nat) : List Nat := (choiceN b).filter fun i => !d.testBit i

theorem choice_perm (b d : Nat) : (choiceN (b &&& d) ++ openN b d).Perm (choiceN b) := by
  have e : choiceN (b &&& d) = (choiceN b).filter fun i => d.testBit i := by
    unfold choiceN
    rw [List.filter_filter]
    congr 1
    funext i
    rw [Nat.testBit_and, Bool.and_comm]
  rw [e]
  exact List.filter_append_perm _ _

theorem rests_split {x : Nf} (hx : nfOk x = true) {b d : Nat} (hb : b < 2 ^ x.passes.length) : restsL x (choiceN b) = (openN b d).foldl (fun c i => restN c (addsOf x i)) (restsL x (choiceN (b &&& d))) := by
  have h := fold_perm hx (choice_perm b d).symm (choiceN_lt hb) x.lacks
  unfold restsL
  rw [h, List.foldl_append]

theorem cost_split (x : Nf) (b d : Nat) : costB x b = costB x (b &&& d) + sumS (costOf x) (openN b d) := by
  rw [costB_sum, costB_sum, ← sumS_app, sumS_perm (choice_perm b d)]

/-! ### A leaf -/
theorem dot_fold {x : Nf} (hx : nfOk x = true) {pr : List Int} (hp : ∀ p ∈ pr, 0 ≤ p) : ∀ (l : List Nat) (R : List Int), (∀ i ∈ l, i < x.passes.length) → small x.lacks.length R → dotL pr R 0 ≤ dotL pr (l.foldl (fun c i => restN c (addsOf x i)) R) 0 + sumS (fun i => dotL pr (minL (addsOf x i) R) 0) l
  | [], R, _, _ => by simp [sumS]
  | i :: l, R, hl, hR => by
    have ha := adds_small hx (hl i (by simp))
    have hlen : (addsOf x i).length = R.length := by rw [ha.1, hR.1]
    have ih := dot_fold hx hp l (restN R (addsOf x i)) (fun j hj => hl j (by simp [hj])) (restN_small hR ha)
    rw [dot_rest pr R (addsOf x i) hlen] at ih
    have hle : sumS (fun j => dotL pr (minL (addsOf x j) (restN R (addsOf x i))) 0) l ≤ sumS (fun j => dotL pr (minL (addsOf x j) R) 0) l := sumS_le fun j _ => dot_min pr _ R (addsOf x i) hp hlen (fun r hr => (hR.2 r hr).1) (fun s hs => (ha.2 s hs).1)
    rw [List.foldl_cons]
    simp only [sumS]
    omega

theorem leaf_le {x : Nf} {pr R : List Int} {d : Nat} {z : Int} {q : Nat → Bool} (hq : ∀ i, q i = true → d.testBit i = false) : ∀ n, (List.range n).foldl (leafStep x pr R d) z ≤ z - sumS (gainN x pr R) ((List.range n).filter q)
  | 0 => by simp [sumS]
  | n + 1 => by
    have ih := leaf_le (x := x) (pr := pr) (R := R) (z := z) hq n
    rw [List.range_succ, List.foldl_append, List.filter_append, sumS_app]
    generalize (List.range n).foldl (leafStep x pr R d) z = A at ih ⊢
    simp only [List.foldl_cons, List.foldl_nil]
    unfold leafStep
    cases hqn : q n with
    | true =>
      rw [hq n hqn, if_neg (by simp)]
      have e : [n].filter q = [n] := by simp [hqn]
      rw [e]
      simp only [sumS]; omega
    | false =>
      have e : [n].filter q = [] := by simp [hqn]
      rw [e]
      simp only [sumS]
      split <;> omega

theorem open_range {b d n : Nat} (hn : n ≤ 10) (hb : b < 2 ^ n) : openN b d = (List.range n).filter fun i => b.testBit i && !d.testBit i := by
  unfold openN choiceN
  rw [List.filter_filter]
  obtain ⟨k, hk⟩ : ∃ k, 10 = n + k := ⟨10 - n, by omega⟩
  have e : (fun i => (!d.testBit i) && b.testBit i) = fun i => b.testBit i && !d.testBit i := by funext i; rw [Bool.and_comm]
  rw [e, hk, List.range_add, List.filter_append]
  have : ((List.range k).map (n + ·)).filter (fun i => b.testBit i && !d.testBit i) = [] := by
    rw [List.filter_eq_nil_iff]
    intro i hi
    obtain ⟨j, _, rfl⟩ := List.mem_map.1 hi
    have := Nat.testBit_lt_two_pow (x := b) (i := n + j) (Nat.lt_of_lt_of_le hb (Nat.pow_le_pow_right (by omega) (by omega)))
    rw [this]; simp
  rw [this, List.append_nil]

theorem dot_zero : ∀ (pr R : List Int) (z : Int), (∀ r ∈ R, r = 0) → dotL pr R z = z
  | [], R, z, _ => rfl
  | p :: pr, [], z, _ => dotL_nil2 _ _
  | p :: pr, r :: R, z, h => by
    rw [dotL_cons, dot_zero pr R 0 fun s hs => h s (by simp [hs]), h r (by simp)]; simp

theorem covers_zero {x : Nf} (hx : nfOk x = true) {b : Nat} (hb : b < 2 ^ x.passes.length) : coversB x b = true ↔ ∀ r ∈ restsL x (choiceN b), r = 0 := by
  have hR := restsL_small hx (choiceN_lt hb)
  unfold coversB sumF
  rw [decide_eq_true_eq, List.map_id]
  generalize restsL x (choiceN b) = R at hR ⊢
  have key : ∀ (l : List Int) (z : Int), (∀ n ∈ l, 0 ≤ n) → 0 ≤ z → (l.foldl (· + ·) z = 0 ↔ z = 0 ∧ ∀ n ∈ l, n = 0) := by
    intro l
    induction l with
    | nil => intro z _ _; simp
    | cons a l ih =>
      intro z h hz
      have ha := h a (by simp)
      rw [List.foldl_cons, ih (z + a) (fun n hn => h n (by simp [hn])) (by omega)]
      constructor
      · rintro ⟨h1, h2⟩
        refine ⟨by omega, fun n hn => ?_⟩
        rcases List.mem_cons.1 hn with rfl | hn
        · omega
        · exact h2 n hn
      · rintro ⟨h1, h2⟩
        exact ⟨by have := h2 a (by simp); omega, fun n hn => h2 n (by simp [hn])⟩
  rw [key R 0 (fun n hn => (hR.2 n hn).1) (Int.le_refl 0)]
  simp

/-- A leaf bounds what covers and agrees with what is decided. -/
theorem leaf_weak {x : Nf} (hx : nfOk x = true) {pr : List Int} (hp : pricesOk x pr = true) {b c d : Nat} (hb : b < 2 ^ x.passes.length) (hcov : coversB x b = true) (hbd : b &&& d = c) : leafN x pr c d ≤ costB x b := by
  have h10 := (nfOk_spec hx).1.2
  have hpr : ∀ p ∈ pr, 0 ≤ p := fun p h => ((pricesOk_spec hp).2 p h).1
  have hc : c < 2 ^ x.passes.length := by rw [← hbd]; exact Nat.lt_of_le_of_lt Nat.and_le_left hb
  have hR := restsL_small hx (choiceN_lt hc)
  have hol : ∀ i ∈ openN b d, i < x.passes.length := fun i hi => choiceN_lt hb i (List.mem_filter.1 hi).1
  have h0 := (covers_zero hx hb).1 hcov
  rw [rests_split hx (d := d) hb, hbd] at h0
  have h1 := dot_fold hx hpr (openN b d) _ hol hR
  rw [dot_zero pr _ 0 h0] at h1
  have h2 := leaf_le (x := x) (pr := pr) (R := restsL x (choiceN c)) (d := d) (z := dotL pr (restsL x (choiceN c)) (costB x c)) (q := fun i => b.testBit i && !d.testBit i) (fun i h => by
    rw [Bool.and_eq_true] at h
    simpa using h.2) x.passes.length
  rw [← open_range h10 hb] at h2
  have h3 := cost_split x b d
  rw [hbd] at h3
  have h4 : sumS (gainN x pr (restsL x (choiceN c))) (openN b d) = sumS (fun i => dotL pr (minL (addsOf x i) (restsL x (choiceN c))) 0) (openN b d) - sumS (costOf x) (openN b d) := by
    generalize openN b d = l
    induction l with
    | nil => simp [sumS]
    | cons i l ih =>
      simp only [sumS, ih]
      unfold gainN
      rw [dotL_z _ _ (-costOf x i)]
      omega
  unfold leafN
  rw [dotL_z _ _ (costB x c)] at h2 ⊢
  omega

/-! ### A proof -/
theorem readN_ok {x : Nf} {pf : List Ct} : ∀ (n c d : Nat) (s : Rd), (readN x pf n c d s).ok = true → s.ok = true
  | 0, c, d, s, h => by simp [readN] at h
  | n + 1, c, d, s, h => by
    simp only [readN] at h
    split at h
    · rename_i h1; exact h1.1
    · cases h

theorem readN_mono {x : Nf} {pf : List Ct} : ∀ (n c d : Nat) (s : Rd), s.some = true → (readN x pf n c d s).some = true ∧ (readN x pf n c d s).least ≤ s.least
  | 0, c, d, s, h => ⟨h, Int.le_refl _⟩
  | n + 1, c, d, s, h => by
    simp only [readN]
    split
    · split
      · split
        · obtain ⟨a1, a2⟩ := readN_mono (x := x) (pf := pf) n (c ||| 2 ^ (pf[s.at_]'(by rename_i h1 _ _; exact h1.2)).split.toNat) (d ||| 2 ^ (pf[s.at_]'(by rename_i h1 _ _; exact h1.2)).split.toNat) { s with at_ := s.at_ + 1, ok := true } h
          obtain ⟨b1, b2⟩ := readN_mono (x := x) (pf := pf) n c (d ||| 2 ^ (pf[s.at_]'(by rename_i h1 _ _; exact h1.2)).split.toNat) _ a1
          exact ⟨b1, Int.le_trans b2 a2⟩
        · exact ⟨h, Int.le_refl _⟩
      · split
        · split
          · rename_i h5
            refine ⟨rfl, ?_⟩
            rw [h] at h5
            simp only [Bool.not_true, Bool.false_or] at h5
            have := of_decide_eq_true h5
            simp only
            omega
          · exact ⟨h, Int.le_refl _⟩
        · exact ⟨h, Int.le_refl _⟩
    · exact ⟨h, Int.le_refl _⟩

theorem bit_in {b d c i : Nat} (hbd : b &&& d = c) (h : b.testBit i = true) : b &&& (d ||| 2 ^ i) = c ||| 2 ^ i := by
  rw [Nat.and_or_distrib_left, hbd]
  congr 1
  apply Nat.eq_of_testBit_eq
  intro j
  rw [Nat.testBit_and, Nat.testBit_two_pow]
  by_cases e : i = j
  · subst e; simp [h]
  · simp [e]
theorem bit_out {b d c i : Nat} (hbd : b &&& d = c) (h : b.testBit i = false) : b &&& (d ||| 2 ^ i) = c := by
  rw [Nat.and_or_distrib_left, hbd]
  have : b &&& 2 ^ i = 0 := by
    apply Nat.eq_of_testBit_eq
    intro j
    rw [Nat.testBit_and, Nat.testBit_two_pow, Nat.zero_testBit]
    by_cases e : i = j
    · subst e; simp [h]
    · simp [e]
  rw [this]; simp

/-- **WEAK DUALITY**. -/
theorem read_weak {x : Nf} (hx : nfOk x = true) {pf : List Ct} {b : Nat} (hb : b < 2 ^ x.passes.length) (hcov : coversB x b = true) : ∀ (n c d : Nat) (s : Rd), b &&& d = c → (readN x pf n c d s).ok = true → (readN x pf n c d s).some = true ∧ (readN x pf n c d s).least ≤ costB x b
  | 0, c, d, s, _, h => by simp [readN] at h
  | n + 1, c, d, s, hbd, h => by
    simp only [readN] at h ⊢
    split at h
    · rename_i h1
      rw [dif_pos h1]
      split at h
      · rename_i h2
        rw [if_pos h2]
        split at h
        · rename_i h3
          rw [if_pos h3]
          obtain ⟨i, hi⟩ : ∃ i, (pf[s.at_]'h1.2).split.toNat = i := ⟨_, rfl⟩
          rw [hi] at h ⊢
          have hok := readN_ok _ _ _ _ h
          cases ht : b.testBit i with
          | true =>
            obtain ⟨a1, a2⟩ := read_weak hx hb hcov n (c ||| 2 ^ i) (d ||| 2 ^ i) { s with at_ := s.at_ + 1, ok := true } (bit_in hbd ht) hok
            obtain ⟨b1, b2⟩ := readN_mono (x := x) (pf := pf) n c (d ||| 2 ^ i) _ a1
            exact ⟨b1, Int.le_trans b2 a2⟩
          | false => exact read_weak hx hb hcov n c (d ||| 2 ^ i) _ (bit_out hbd ht) h
        · cases h
      · rename_i h2
        rw [if_neg h2]
        split at h
        · rename_i h3
          rw [if_pos h3]
          have hlf := leaf_weak hx h3 hb hcov hbd
          split
          · exact ⟨rfl, hlf⟩
          · rename_i h5
            simp only [Bool.or_eq_true, Bool.not_eq_eq_eq_not, Bool.not_true, decide_eq_true_eq, not_or, Bool.not_eq_false] at h5
            exact ⟨h5.1, by simp only; omega⟩
        · cases h
    · cases h

/-! ### The proof that Prove returns -/
theorem low_bits : ∀ i < 10, (2 ^ i - 1) ||| 2 ^ i = 2 ^ (i + 1) - 1 := by decide

theorem gain_zero {x : Nf} (hx : nfOk x = true) {k : Nat} {R : List Int} {i : Nat} (hi : i < x.passes.length) : gainN x (List.replicate k 0) R i ≤ 0 := by
  have hc := ((nfOk_spec hx).2.2 _ (List.getElem_mem hi)).1
  have e : costOf x i = x.passes[i].cost := by simp [costOf, hi]
  unfold gainN
  have : ∀ (k : Nat) (S : List Int) (z : Int), dotL (List.replicate k 0) S z = z := by
    intro k
    induction k with
    | zero => intro S z; rfl
    | succ k ih =>
      intro S z
      cases S with
      | nil => exact dotL_nil2 _ _
      | cons s S => rw [List.replicate_succ, dotL_cons, ih]; simp
  rw [this, e]; omega

theorem dot_zeros : ∀ (k : Nat) (S : List Int) (z : Int), dotL (List.replicate k 0) S z = z
  | 0, S, z => rfl
  | k + 1, [], z => dotL_nil2 _ _
  | k + 1, s :: S, z => by rw [List.replicate_succ, dotL_cons, dot_zeros k]; simp

theorem dot_most : ∀ (S : List Int) (z : Int), dotL (List.replicate S.length 1000000) S z = z + 1000000 * S.foldl (· + ·) 0
  | [], z => by simp [dotL_nil]
  | s :: S, z => by
    rw [List.length_cons, List.replicate_succ, dotL_cons, dot_most S 0, List.foldl_cons, foldl_addI S (0 + s)]
    omega

theorem leaf_skip {x : Nf} {pr R : List Int} {d : Nat} : ∀ (n : Nat) (z : Int), (∀ i < n, d.testBit i = true ∨ gainN x pr R i ≤ 0) → (List.range n).foldl (leafStep x pr R d) z = z
  | 0, z, _ => rfl
  | n + 1, z, h => by
    rw [List.range_succ, List.foldl_append, leaf_skip n z fun i hi => h i (by omega)]
    simp only [List.foldl_cons, List.foldl_nil]
    unfold leafStep
    rcases h n (by omega) with h | h
    · rw [if_pos h]
    · split
      · rfl
      · omega

theorem leafC_ge {x : Nf} (hx : nfOk x = true) {c d : Nat} (hc : c < 2 ^ x.passes.length) {B : Int} (hB : ∀ b < 2 ^ x.passes.length, coversB x b = true → B ≤ costB x b) (hB2 : B ≤ 10000) (hd : coversB x c = true ∨ ∀ i < x.passes.length, d.testBit i = true) : B ≤ leafN x (leafC x c).prices c d := by
  have hR := restsL_small hx (choiceN_lt hc)
  have hcb := costB_bd hx hc
  unfold leafN leafC leafZ
  simp only
  by_cases hcov : coversB x c = true
  · rw [if_pos hcov, leaf_skip _ _ fun i hi => .inr (gain_zero hx hi), dot_zeros]
    exact hB c hc hcov
  · rw [if_neg hcov, leaf_skip _ _ fun i hi => .inl ((hd.resolve_left hcov) i hi), ← hR.1, dot_most]
    unfold coversB sumF at hcov
    rw [List.map_id] at hcov
    have h0 := sum_nonneg (restsL x (choiceN c)) 0 (Int.le_refl 0) (fun n hn => (hR.2 n hn).1)
    have h1 : (restsL x (choiceN c)).foldl (· + ·) 0 ≠ 0 := fun h => hcov (decide_eq_true h)
    omega

theorem leafC_prices (x : Nf) (c : Nat) : pricesOk x (leafC x c).prices = true := by
  unfold pricesOk leafC
  simp only [List.length_replicate, decide_true, Bool.true_and, List.all_eq_true]
  intro n hn
  have := (List.mem_replicate.1 hn).2
  rw [btw_iff, this]
  unfold leafZ
  split <;> omega

theorem read_split {x : Nf} (hx : nfOk x = true) {B : Int} (hB : ∀ b < 2 ^ x.passes.length, coversB x b = true → B ≤ costB x b) (hB2 : B ≤ 10000) : ∀ (m i c fuel : Nat) (pre post : List Ct) (s : Rd), i + m = x.passes.length → c < 2 ^ x.passes.length → s.at_ = pre.length → s.ok = true → (pre ++ splitL x m i c ++ post).length - s.at_ ≤ fuel → (s.some = true → B ≤ s.least) →
    (readN x (pre ++ splitL x m i c ++ post) fuel c (2 ^ i - 1) s).ok = true ∧ (readN x (pre ++ splitL x m i c ++ post) fuel c (2 ^ i - 1) s).at_ = (pre ++ splitL x m i c).length ∧ (readN x (pre ++ splitL x m i c ++ post) fuel c (2 ^ i - 1) s).some = true ∧ B ≤ (readN x (pre ++ splitL x m i c ++ post) fuel c (2 ^ i - 1) s).least := by
  have h10 := (nfOk_spec hx).1.2
  intro m
  have leaf : ∀ (i c fuel : Nat) (pre post : List Ct) (s : Rd), c < 2 ^ x.passes.length → s.at_ = pre.length → s.ok = true → (pre ++ [leafC x c] ++ post).length - s.at_ ≤ fuel → (s.some = true → B ≤ s.least) → (coversB x c = true ∨ ∀ j < x.passes.length, (2 ^ i - 1).testBit j = true) →
      (readN x (pre ++ [leafC x c] ++ post) fuel c (2 ^ i - 1) s).ok = true ∧ (readN x (pre ++ [leafC x c] ++ post) fuel c (2 ^ i - 1) s).at_ = (pre ++ [leafC x c]).length ∧ (readN x (pre ++ [leafC x c] ++ post) fuel c (2 ^ i - 1) s).some = true ∧ B ≤ (readN x (pre ++ [leafC x c] ++ post) fuel c (2 ^ i - 1) s).least := by
    intro i c fuel pre post s hc hat hok hf hs hd
    have hlt : s.at_ < (pre ++ [leafC x c] ++ post).length := by rw [hat]; simp
    obtain ⟨fuel, rfl⟩ : ∃ f, fuel = f + 1 := ⟨fuel - 1, by omega⟩
    have hk : (pre ++ [leafC x c] ++ post)[s.at_]'hlt = leafC x c := by
      simp [hat]
    have hge := leafC_ge hx (d := 2 ^ i - 1) hc hB hB2 hd
    simp only [readN, dif_pos (And.intro hok hlt), hk]
    rw [if_neg (by simp [leafC]), if_pos (leafC_prices x c)]
    split
    · exact ⟨rfl, by simp [hat], rfl, hge⟩
    · rename_i h5
      simp only [Bool.or_eq_true, Bool.not_eq_eq_eq_not, Bool.not_true, decide_eq_true_eq, not_or, Bool.not_eq_false] at h5
      exact ⟨rfl, by simp [hat], h5.1, hs h5.1⟩
  induction m with
  | zero =>
    intro i c fuel pre post s him hc hat hok hf hs
    exact leaf i c fuel pre post s hc hat hok hf hs (.inr fun j hj => by rw [Nat.testBit_two_pow_sub_one]; simp; omega)
  | succ m ih =>
    intro i c fuel pre post s him hc hat hok hf hs
    by_cases hcov : coversB x c = true
    · have e : splitL x (m + 1) i c = [leafC x c] := by rw [splitL, if_pos hcov]
      rw [e] at hf ⊢
      exact leaf i c fuel pre post s hc hat hok hf hs (.inl hcov)
    have e : splitL x (m + 1) i c = ⟨(i : Int), []⟩ :: (splitL x m (i + 1) (c ||| 2 ^ i) ++ splitL x m (i + 1) c) := by rw [splitL, if_neg hcov]
    rw [e] at hf ⊢
    obtain ⟨P, hP⟩ : ∃ P, splitL x m (i + 1) (c ||| 2 ^ i) = P := ⟨_, rfl⟩
    obtain ⟨Q, hQ⟩ : ∃ Q, splitL x m (i + 1) c = Q := ⟨_, rfl⟩
    have ih1 := ih (i + 1) (c ||| 2 ^ i)
    have ih2 := ih (i + 1) c
    rw [hP] at ih1 hf ⊢
    rw [hQ] at ih2 hf ⊢
    have e1 : pre ++ (⟨(i : Int), []⟩ :: (P ++ Q)) ++ post = (pre ++ [(⟨(i : Int), []⟩ : Ct)]) ++ P ++ (Q ++ post) := by simp
    have e2 : pre ++ (⟨(i : Int), []⟩ :: (P ++ Q)) ++ post = ((pre ++ [(⟨(i : Int), []⟩ : Ct)]) ++ P) ++ Q ++ post := by simp
    obtain ⟨pf, hpf⟩ : ∃ pf, pre ++ (⟨(i : Int), []⟩ :: (P ++ Q)) ++ post = pf := ⟨_, rfl⟩
    have hlt : s.at_ < pf.length := by rw [hat, ← hpf]; simp
    have hk : pf[s.at_]'hlt = ⟨(i : Int), []⟩ := by
      subst hpf; simp [hat]
    rw [hpf] at hf ⊢
    obtain ⟨fuel, rfl⟩ : ∃ f, fuel = f + 1 := ⟨fuel - 1, by omega⟩
    have him2 : i < x.passes.length := by omega
    have hp : 2 ^ i < 2 ^ x.passes.length := Nat.pow_lt_pow_right (by omega) him2
    have hc2 : c ||| 2 ^ i < 2 ^ x.passes.length := Nat.or_lt_two_pow hc hp
    have hso : splitOk x ⟨(i : Int), []⟩ (2 ^ i - 1) = true := by
      unfold splitOk
      simp only [Int.toNat_natCast, Nat.testBit_two_pow_sub_one, List.length_nil, decide_true, Bool.and_true, Nat.lt_irrefl, decide_false, Bool.not_false]
      rw [btw_iff]; omega
    simp only [readN, dif_pos (And.intro hok hlt), hk]
    rw [if_pos (by omega), if_pos hso]
    simp only [Int.toNat_natCast]
    rw [low_bits i (by omega)]
    have r1 := ih1 fuel (pre ++ [(⟨(i : Int), []⟩ : Ct)]) (Q ++ post) { s with at_ := s.at_ + 1, ok := true } (by omega) hc2 (by simp [hat]) rfl (by rw [← e1, hpf]; simp only; omega) hs
    rw [← e1, hpf] at r1
    generalize readN x pf fuel (c ||| 2 ^ i) (2 ^ (i + 1) - 1) { s with at_ := s.at_ + 1, ok := true } = s2 at r1 ⊢
    obtain ⟨a1, a2, a3, a4⟩ := r1
    have r2 := ih2 fuel ((pre ++ [(⟨(i : Int), []⟩ : Ct)]) ++ P) post s2 (by omega) hc a2 a1 (by rw [← e2, hpf, a2]; simp only [List.length_append, List.length_singleton]; omega) (fun _ => a4)
    rw [← e2, hpf] at r2
    refine ⟨r2.1, ?_, r2.2.2⟩
    rw [r2.2.1]
    simp

theorem prove_bound {x : Nf} (hx : nfOk x = true) (hs : (bestN x 0).2 = true) : BoundR x (splitL x x.passes.length 0 0) = .tuple [I (costB x (bestN x 0).1), I 0] := by
  have h10 := (nfOk_spec hx).1.2
  obtain ⟨hlt, hcov⟩ := best_some hs
  have hB : ∀ b < 2 ^ x.passes.length, coversB x b = true → costB x (bestN x 0).1 ≤ costB x b := fun b h1 h2 => (best_least h1 h2).2
  have hbd := costB_bd hx hlt
  have hlen := (splitL_len x x.passes.length 0 0).2
  have hp11 : 2 ^ (x.passes.length + 1) ≤ 2 ^ 11 := Nat.pow_le_pow_right (by omega) (by omega)
  have r := read_split hx hB hbd.2 x.passes.length 0 0 (splitL x x.passes.length 0 0).length [] [] ⟨true, 0, false, 0⟩ (by omega) (Nat.two_pow_pos _) rfl rfl (by simp) (fun h => by cases h)
  simp only [List.nil_append, List.append_nil] at r
  obtain ⟨a1, a2, a3, a4⟩ := r
  have w := read_weak hx hlt hcov (splitL x x.passes.length 0 0).length 0 0 ⟨true, 0, false, 0⟩ (by simp) a1
  have e : boundN x (splitL x x.passes.length 0 0) = readN x (splitL x x.passes.length 0 0) (splitL x x.passes.length 0 0).length 0 (2 ^ 0 - 1) ⟨true, 0, false, 0⟩ := rfl
  have e2 : boundN x (splitL x x.passes.length 0 0) = readN x (splitL x x.passes.length 0 0) (splitL x x.passes.length 0 0).length 0 0 ⟨true, 0, false, 0⟩ := rfl
  rw [← e] at a1 a2 a3 a4
  rw [← e2] at w
  unfold BoundR
  rw [if_pos hx, if_pos (by omega), a1, a2]
  rw [if_pos (by simp)]
  have : (boundN x (splitL x x.passes.length 0 0)).least = costB x (bestN x 0).1 := by omega
  rw [this]

/-- All passes cover if some do. -/
theorem covers_all {x : Nf} (hx : nfOk x = true) {b : Nat} (hb : b < 2 ^ x.passes.length) (hc : coversB x b = true) : coversB x (2 ^ x.passes.length - 1) = true := by
  have hf : 2 ^ x.passes.length - 1 < 2 ^ x.passes.length := by have := Nat.two_pow_pos x.passes.length; omega
  have e : (2 ^ x.passes.length - 1) &&& b = b := by
    rw [Nat.and_comm, Nat.and_two_pow_sub_one_eq_mod, Nat.mod_eq_of_lt hb]
  rw [covers_zero hx hf, rests_split hx (d := b) hf, e]
  have h0 := (covers_zero hx hb).1 hc
  have hol : ∀ i ∈ openN (2 ^ x.passes.length - 1) b, i < x.passes.length := fun i hi => choiceN_lt hf i (List.mem_filter.1 hi).1
  generalize openN (2 ^ x.passes.length - 1) b = l at hol
  generalize restsL x (choiceN b) = R at h0
  revert R
  induction l with
  | nil => exact fun R h => h
  | cons i l ih =>
    intro R h
    refine ih (fun j hj => hol j (by simp [hj])) _ fun r hr => ?_
    have ha := (adds_small hx (hol i (by simp))).2
    unfold restN at hr
    obtain ⟨q, hq, rfl⟩ := List.getElem_of_mem hr
    rw [List.getElem_zipWith]
    simp only [List.length_zipWith] at hq
    have h1 := h _ (List.getElem_mem (show q < R.length by omega))
    have h2 := ha _ (List.getElem_mem (show q < (addsOf x i).length by omega))
    omega

theorem some_all {x : Nf} (hx : nfOk x = true) : (bestN x 0).2 = coversB x (2 ^ x.passes.length - 1) := by
  have hf : 2 ^ x.passes.length - 1 < 2 ^ x.passes.length := by have := Nat.two_pow_pos x.passes.length; omega
  cases hs : (bestN x 0).2 with
  | true =>
    obtain ⟨h1, h2⟩ := best_some hs
    exact (covers_all hx h1 h2).symm
  | false =>
    cases hc : coversB x (2 ^ x.passes.length - 1) with
    | false => rfl
    | true => rw [(best_least hf hc).1] at hs; cases hs

end Go.Proofs.YtffoiccokigjcaaDoor

/-! Contract: Prove. -/
set_option linter.unusedVariables false
set_option linter.unusedSimpArgs false
set_option maxRecDepth 40000
set_option maxHeartbeats 4000000
namespace Go.Proofs.YtffoiccokigjcaaDoor
open Go.Am
attribute [local simp] cells scalar mkv splice under2 under dem dem1 eB eQ nfC intsV eC cutsV

def ProveR (x : Nf) : V := if nfOk x then (if coversB x (2 ^ x.passes.length - 1) then .tuple [cutsV (splitL x x.passes.length 0 0), I 0] else .tuple [cutsV [], I 4]) else .tuple [cutsV [], I 74]

theorem c_Prove {x : Nf} (hx : ∀ p ∈ x.passes, p.adds.length ≤ 9223372036854775807) : C Tryd.prog F.bin_Prove [.agg (nfC x)] (ProveR x) := by
  have kc := c_CheckInfill hx
  unfold ProveR
  refine C_of mixed chk.bin_Prove (by simp) fun S ok => ?_
  refine Tr.seqR rfl (by simp) ?_
  by_cases hk : nfOk x = true
  rotate_left
  · rw [if_neg hk] at kc ⊢
    refine Tr.seq (Tr.seqC rfl (by simp) (Steps.call rfl rfl kc (Steps.fin rfl (by simp) (Tr.seqR rfl (by simp) (Tr.condT rfl (Tr.seqR rfl (by simp) ?_))))))
    exact Tr.weak (s' := { env := [(2, cutsV []), (3, I 74)], bx := [], rw := [], log := [], stp := false }) (Wk.le (.cons rfl (.nil 0 2) (.cons rfl (.refl _) .nil)) .nil .nil rfl rfl) (Tr.retX rfl rfl rfl rfl trivial)
  rw [if_pos hk] at kc ⊢
  refine Tr.seq (Tr.seqC rfl (by simp) (Steps.call rfl rfl kc (Steps.fin rfl (by simp) (Tr.seqR rfl (by simp) (Tr.condF rfl (Tr.skip ?_))))))
  obtain ⟨⟨h16, h10⟩, hl1, hp1⟩ := nfOk_spec hk
  have hp10 : 2 ^ x.passes.length ≤ 1024 := Nat.pow_le_pow_right (n := 2) (by omega) h10
  have hpos := Nat.two_pow_pos x.passes.length
  have hf : 2 ^ x.passes.length - 1 < 2 ^ x.passes.length := by omega
  have kv := c_covers hk hf
  have ew : IntKind.wrap .i64 (IntKind.wrap .i64 (1 * 2 ^ (min (((x.passes.map eQ).length : Int)).toNat 64)) - 1) = ((2 ^ x.passes.length - 1 : Nat) : Int) := by
    rw [List.length_map, bit_shl x.passes.length (by omega), w64 (by omega) (by omega)]
    omega
  rw [← ew] at kv
  refine Tr.seq (Tr.seq (Tr.drawK (TraceK.run rfl (by simp) (TraceK.call rfl rfl kv (TraceK.run rfl (by simp) (.done ⟨by kernel_rfl, by kernel_rfl, ?_⟩))))))
  by_cases hc : coversB x (2 ^ x.passes.length - 1) = true
  rotate_left
  · rw [if_neg hc]
    have hc : coversB x (2 ^ x.passes.length - 1) = false := by simpa using hc
    rw [hc]
    refine Tr.condT rfl (Tr.seqR rfl (by simp) ?_)
    exact Tr.weak (s' := { env := [(2, cutsV []), (3, I 4)], bx := [], rw := [], log := [], stp := false }) (Wk.le (.cons rfl (.nil 0 2) (.cons rfl (.refl _) .nil)) .nil .nil rfl rfl) (Tr.retX rfl rfl rfl rfl trivial)
  rw [if_pos hc, hc]
  refine Tr.condF rfl (Tr.skip ?_)
  refine Tr.weak (s' := { env := [(1, .ptr 1 0)], bx := [(1, ⟨nfC x, false⟩)], rw := [], log := [], stp := false }) (Wk.le (.cons rfl (.refl _) .nil) (.cons rfl (LLe.refl _) .nil) .nil rfl rfl) ?_
  refine Tr.weak (wkData (t := 1) (u := .vptr (nfC x) 0) (ids := [1]) rfl rfl) ?_
  refine Tr.weak (s' := { env := [(1, .vptr (nfC x) 0)], bx := [], rw := [], log := [], stp := false }) (Wk.le (.cons rfl (.refl _) .nil) .nil .nil rfl rfl) ?_
  refine Tr.arena rfl rfl ?_
  have hA := InA.main (E := env0 Tryd.prog mixed 24 S ok) [] false
  refine Tr.seq (Tr.reg (Steps.aalloc hA rfl fun b5 n5 => Steps.fin rfl (by simp) ?_))
  refine Tr.seq (Tr.reg (Steps.aalloc hA rfl fun b6 n6 => Steps.fin rfl (by simp) ?_))
  have h56 : b6 ≠ b5 := by simpa using n6
  refine Tr.seq (Tr.reg (Steps.runN 1 rfl (by simp) ?_))
  refine Steps.astoreD (blk := b6) (off := 0) (cs := [.nilf]) (v := proveV x b5 b6) hA rfl rfl (by simp) (by simp) rfl rfl ?_
  rw [setA_head n6]
  refine Steps.fin rfl (by simp) ?_
  have hlen := (splitL_len x x.passes.length 0 0).2
  have hp11 : 2 ^ (x.passes.length + 1) ≤ 2 ^ 11 := Nat.pow_le_pow_right (by omega) (by omega)
  have ka := c_prove1 (b5 := b5) (b6 := b6) hk x.passes.length 0 0 [] .nils [(b5, .cells [.nils])] (by omega) (Nat.two_pow_pos _) (by simp; omega) (by simp) (.inl ⟨rfl, rfl⟩) (fun _ _ _ _ e => by cases e)
  refine Tr.seq (Tr.reg (Steps.aload (blk := b6) (off := 0) (cs := [proveV x b5 b6]) hA rfl rfl (by simp) rfl ?_))
  refine Steps.callvE (F := [(b6, .cells [proveV x b5 b6])]) hA rfl rfl rfl ka (.inl (by simp)) fun B hB => Steps.fin rfl (by simp) ?_
  obtain ⟨v, q1, q2, q3⟩ := hB
  rw [List.nil_append] at q2
  have hm : (b5, Ob.cells [v]) ∈ [(b6, Ob.cells [proveV x b5 b6])] ++ B := List.mem_append.2 (.inr q1)
  refine Tr.seq (Tr.reg (Steps.aload (off := 0) hA rfl rfl hm rfl (Steps.fin rfl (by simp) ?_)))
  have hne := (splitL_len x x.passes.length 0 0).1
  generalize splitL x x.passes.length 0 0 = cuts at q2 hne ⊢
  rcases q2 with ⟨h, _⟩ | ⟨blk, cap, cs, rfl, a1, a2, a3, a4⟩
  · rw [List.map_eq_nil_iff] at h
    rw [h] at hne; simp at hne
  refine Tr.weak (Wk.close hA (t := 2) (blk := blk) (cap := cap) (sz := 2) (cs := cs) (xs := cuts.map eC) rfl rfl (List.mem_append.2 (.inr a1)) (by omega) a3 (fun u hu => by obtain ⟨k, _, rfl⟩ := List.mem_map.1 hu; rfl) a4) ?_
  exact Tr.retX rfl rfl rfl rfl trivial

theorem prove_form {x : Nf} : ∃ P e c a f, ProveR x = .tuple [cutsV P, I e] ∧ BestR x = .tuple [intsV a, I c, I f] ∧ e = f ∧ (e = 0 → BoundR x P = .tuple [I c, I 0]) ∧ (e ≠ 0 → P = []) ∧ (∀ k ∈ P, k.prices.length ≤ 9223372036854775807) ∧ a.length ≤ 10 := by
  unfold ProveR BestR
  by_cases hx : nfOk x = true
  rotate_left
  · rw [if_neg hx, if_neg hx]
    exact ⟨[], 74, 0, [], 74, rfl, rfl, rfl, fun h => by omega, fun _ => rfl, fun k h => by simp at h, by simp⟩
  rw [if_pos hx, if_pos hx, ← some_all hx]
  have h16 := (nfOk_spec hx).1.1
  by_cases hs : (bestN x 0).2 = true
  · rw [if_pos hs, if_pos hs]
    refine ⟨_, 0, _, _, 0, rfl, rfl, rfl, fun _ => prove_bound hx hs, fun h => absurd rfl h, fun k hk => ?_, choiceL_len _⟩
    have key : ∀ (m i c : Nat), ∀ k ∈ splitL x m i c, k.prices.length ≤ 16 := by
      intro m
      induction m with
      | zero =>
        intro i c k hk
        obtain rfl := List.mem_singleton.1 hk
        simp [leafC]; exact h16
      | succ m ih =>
        intro i c k hk
        unfold splitL at hk
        split at hk
        · obtain rfl := List.mem_singleton.1 hk
          simp [leafC]; exact h16
        · rcases List.mem_cons.1 hk with rfl | hk
          · simp
          · rcases List.mem_append.1 hk with hk | hk
            · exact ih _ _ k hk
            · exact ih _ _ k hk
    have := key _ _ _ k hk
    omega
  · rw [if_neg hs, if_neg hs]
    exact ⟨[], 4, 0, [], 4, rfl, rfl, rfl, fun h => by omega, fun _ => rfl, fun k h => by simp at h, by simp⟩

theorem bound_form {x : Nf} (pf : List Ct) : ∃ n g, BoundR x pf = .tuple [I n, I g] ∧ (g ≠ 0 → n = 0) ∧ (g = 0 → nfOk x = true ∧ ∀ b < 2 ^ x.passes.length, coversB x b = true → n ≤ costB x b) := by
  unfold BoundR
  by_cases hx : nfOk x = true
  rotate_left
  · rw [if_neg hx]; exact ⟨0, 74, rfl, fun _ => rfl, fun h => by omega⟩
  rw [if_pos hx]
  split
  rotate_left
  · exact ⟨0, 76, rfl, fun _ => rfl, fun h => by omega⟩
  split
  rotate_left
  · exact ⟨0, 76, rfl, fun _ => rfl, fun h => by omega⟩
  rename_i h
  rw [Bool.and_eq_true] at h
  exact ⟨_, 0, rfl, fun h => absurd rfl h, fun _ => ⟨hx, fun b hb hc => (read_weak hx hb hc pf.length 0 0 ⟨true, 0, false, 0⟩ (by simp) h.1).2⟩⟩

end Go.Proofs.YtffoiccokigjcaaDoor

/-! Contracts: bits, Covers, Own. -/
set_option linter.unusedVariables false
set_option linter.unusedSimpArgs false
set_option maxRecDepth 40000
set_option maxHeartbeats 4000000
namespace Go.Proofs.YtffoiccokigjcaaDoor
open Go.Am
attribute [local simp] cells scalar mkv splice under2 under dem dem1 eQ nfC intsV

def bitsR : Option Nat → V
  | some b => .tuple [I (b : Nat), .bool true]
  | none => .tuple [I 0, .bool false]

theorem bitsG_drop {n : Nat} {l : List Int} {k : Nat} (h : k < l.length) (out : Nat) (last : Int) : bitsG n (l.drop k) out last = if btw l[k] (last + 1) ((n : Int) - 1) then bitsG n (l.drop (k + 1)) (out ||| 2 ^ l[k].toNat) l[k] else none := by
  rw [List.drop_eq_getElem_cons h]; rfl

theorem c_bits {x : Nf} (hx : nfOk x = true) {l : List Int} (hl : l.length ≤ 9223372036854775807) : C Tryd.prog F.bin_bits [.agg (nfC x), intsV l] (bitsR (bitsG x.passes.length l 0 (-1))) := by
  have h10 := (nfOk_spec hx).1.2
  refine C_of mixed chk.bin_bits (by simp) fun S ok => ?_
  refine Tr.seqR rfl (by simp) (Tr.seqR rfl (by simp) (Tr.seq (Tr.seqR rfl (by simp) (Tr.block ?_))))
  refine Tr.loop (α := Nat × Nat × Int) (fun p st => (p.1 ≤ l.length ∧ p.2.1 < 1024 ∧ (-1 ≤ p.2.2 ∧ p.2.2 ≤ 10) ∧ bitsG x.passes.length l 0 (-1) = bitsG x.passes.length (l.drop p.1) p.2.1 p.2.2) ∧ st = { env := [(2, .ptr 2 0), (6, I (p.2.1 : Nat)), (7, I p.2.2), (10, intsV l), (11, I (l.length : Nat)), (12, I (p.1 : Nat))], bx := [(2, ⟨nfC x, false⟩)], rw := [], log := [], stp := false }) (fun p => l.length - p.1) (0, 0, -1)
    (Wk.le (.cons rfl (.refl _) (.cons rfl (.refl _) (.cons rfl (.refl _) (.cons rfl (.refl _) (.cons rfl (VLe.i (by simp)) (.cons rfl (.refl _) .nil)))))) (.cons rfl (LLe.refl _) .nil) .nil rfl rfl) ⟨⟨by simp, by simp, by simp, rfl⟩, rfl⟩ ?_
  rintro ⟨k, out, last⟩ st ⟨⟨hk, ho, hla, hG⟩, rfl⟩
  simp only at hk ho hla hG
  refine Tr.seqR rfl (by simp) (Tr.seqI rfl (fun h1 => ?_) (fun h1 => ?_))
  · have h1 : k < l.length := by simpa using h1
    rw [bitsG_drop h1] at hG
    have hw1 : IntKind.wrap .i64 (last + 1) = last + 1 := w64 (by omega) (by omega)
    have hw2 : IntKind.wrap .i64 (((x.passes.map eQ).length : Int) - 1) = (x.passes.length : Int) - 1 := by rw [List.length_map, w64 (by omega) (by omega)]
    have kw := c_within l[k] (IntKind.wrap .i64 (last + 1)) (IntKind.wrap .i64 (((x.passes.map eQ).length : Int) - 1))
    refine Tr.skipT (Tr.seq (Tr.block ?_))
    refine Tr.seqN 1 rfl (by simp; omega) ?_
    rw [getD_map h1]
    refine Steps.fin rfl (by simp) ?_
    refine Tr.seq (Tr.seqC rfl (by simp) (Steps.call rfl rfl kw (Steps.fin rfl (by simp) ?_)))
    rw [hw1, hw2]
    refine Tr.cond rfl rfl (fun h2 => ?_) (fun h2 => Tr.skip ?_)
    · have h2 : (!btw l[k] (last + 1) ((x.passes.length : Int) - 1)) = true := h2
      have h2 : btw l[k] (last + 1) ((x.passes.length : Int) - 1) = false := by simpa using h2
      rw [h2] at hG
      refine Tr.seqR rfl (by simp) (Tr.retX rfl rfl rfl ?_ trivial)
      rw [hG]; rfl
    · have h2 : (!btw l[k] (last + 1) ((x.passes.length : Int) - 1)) = false := h2
      have h2 : btw l[k] (last + 1) ((x.passes.length : Int) - 1) = true := by simpa using h2
      rw [h2, if_pos rfl] at hG
      rw [btw_iff] at h2
      obtain ⟨q, hq⟩ : ∃ q : Nat, l[k] = (q : Int) := ⟨l[k].toNat, by omega⟩
      rw [hq] at h2 hG ⊢
      rw [Int.toNat_natCast] at hG
      have hq9 : q < 10 := by omega
      have hp : 2 ^ q < 1024 := Nat.lt_of_lt_of_le (Nat.pow_lt_pow_right (by omega) hq9) (Nat.le_refl _)
      have hor : out ||| 2 ^ q < 1024 := Nat.or_lt_two_pow (n := 10) ho hp
      refine Tr.reg (Steps.run rfl (by simp) ?_)
      refine Tr.regR rfl (by simp) ?_
      refine ⟨(k + 1, out ||| 2 ^ q, (q : Int)), _, Wk.le (.cons rfl (.refl _) (.cons rfl (VLe.i ?_) (.cons rfl (.refl _) (.cons rfl (.refl _) (.cons rfl (.refl _) (.cons rfl (VLe.i (w64 (by omega) (by omega))) .nil)))))) (.cons rfl (LLe.refl _) .nil) .nil rfl rfl, ⟨⟨by simp only; omega, hor, ⟨by simp only; omega, by simp only; omega⟩, hG⟩, rfl⟩, by simp only; omega⟩
      show bitsV .or .i64 (out : Int) (IntKind.wrap .i64 (1 * 2 ^ (min (q : Int).toNat 64))) = _
      rw [bit_shl q (by omega), bits_or out (2 ^ q) (by omega) (by omega)]
  · have h1 : k = l.length := by simp at h1; omega
    subst h1
    rw [List.drop_length] at hG
    refine Tr.exit (Tr.seqR rfl (by simp) (Tr.retX rfl rfl rfl ?_ trivial))
    rw [hG]; rfl

def CoversR (x : Nf) (l : List Int) : V := if nfOk x then (match bitsG x.passes.length l 0 (-1) with | some b => .tuple [.bool (coversB x b), I 0] | none => .tuple [.bool false, I 75]) else .tuple [.bool false, I 74]

theorem c_Covers {x : Nf} (hx : ∀ p ∈ x.passes, p.adds.length ≤ 9223372036854775807) {l : List Int} (hl : l.length ≤ 9223372036854775807) : C Tryd.prog F.bin_Covers [.agg (nfC x), intsV l] (CoversR x l) := by
  have kc := c_CheckInfill hx
  unfold CoversR
  refine C_of mixed chk.bin_Covers (by simp) fun S ok => ?_
  refine Tr.seqR rfl (by simp) ?_
  by_cases hk : nfOk x = true
  rotate_left
  · rw [if_neg hk] at kc ⊢
    refine Tr.seq (Tr.seqC rfl (by simp) (Steps.call rfl rfl kc (Steps.fin rfl (by simp) (Tr.seqR rfl (by simp) (Tr.condT rfl (Tr.seqR rfl (by simp) ?_))))))
    exact Tr.retX rfl rfl rfl rfl trivial
  rw [if_pos hk] at kc ⊢
  refine Tr.seq (Tr.seqC rfl (by simp) (Steps.call rfl rfl kc (Steps.fin rfl (by simp) (Tr.seqR rfl (by simp) (Tr.condF rfl (Tr.skip ?_))))))
  have kb := c_bits hk hl
  have h10 := (nfOk_spec hk).1.2
  cases hb : bitsG x.passes.length l 0 (-1) with
  | none =>
    rw [hb] at kb
    refine Tr.seqC rfl (by simp) (Steps.call rfl rfl kb (Steps.fin rfl (by simp) ?_))
    exact Tr.seq (Tr.seqR rfl (by simp) (Tr.condT rfl (Tr.seqR rfl (by simp) (Tr.retX rfl rfl rfl rfl trivial))))
  | some b =>
    rw [hb] at kb
    have hlt := (bitsG_spec h10 l 0 0 b (by omega) (by simp) hb).1
    refine Tr.seqC rfl (by simp) (Steps.call rfl rfl kb (Steps.fin rfl (by simp) ?_))
    refine Tr.seq (Tr.seqR rfl (by simp) (Tr.condF rfl (Tr.skip ?_)))
    exact Tr.seqC rfl (by simp) (Steps.call rfl rfl (c_covers hk hlt) (Steps.fin rfl (by simp) (Tr.retX rfl rfl rfl rfl trivial)))

theorem c_Own {l : List Int} (h0 : l ≠ []) (hl : l.length ≤ 1000000) : CO Tryd.prog F.ref00_Own [intsV l] 1 (l.map I) := by
  refine CO_of mixed chk.ref00_Own (by simp) fun S ok => ?_
  refine Tr.seqR rfl (by simp) (Tr.seqR rfl (by simp) ?_)
  refine Tr.seqN 2 rfl (by simp) ?_
  refine Steps.appendBox (r := 0) (ys := l.map I) rfl rfl (by omega) (by simp; omega) (by simp; omega) (by simpa using h0) ?_
  refine Steps.fin rfl (by simp) (Tr.ret ?_)
  exact ⟨6, rfl, rfl, by rw [flat_ints]; exact ints_isD l⟩

theorem c_Own0 : C Tryd.prog F.ref00_Own [intsV []] (intsV []) := by
  refine C_of mixed chk.ref00_Own (by simp) fun S ok => ?_
  refine Tr.seqR rfl (by simp) (Tr.seqR rfl (by simp) ?_)
  refine Tr.seqR rfl (by simp) ?_
  exact Tr.weak (s' := { env := [(2, intsV [])], bx := [], rw := [], log := [], stp := false }) (Wk.le (.cons rfl (.dem _ _ _) .nil) .nil .nil rfl rfl) (Tr.retX rfl rfl rfl rfl trivial)

end Go.Proofs.YtffoiccokigjcaaDoor

/-! Contracts of the specification: CheckInfill, choice, cost, rest, covers, Covers. -/
set_option linter.unusedVariables false
set_option linter.unusedSimpArgs false
set_option maxRecDepth 40000
set_option maxHeartbeats 4000000
namespace Go.Proofs.YtffoiccokigjcaaDoor
open Go.Am
attribute [local simp] cells scalar mkv splice under2 under dem dem1 eQ nfC intsV

theorem bool_any (l : List Int) : (l.all fun n => btw n 0 100) = !(l.any fun n => !btw n 0 100) := by
  induction l with
  | nil => rfl
  | cons a l ih => rw [List.all_cons, List.any_cons, ih]; cases btw a 0 100 <;> simp

theorem c_CheckInfill07 {x : Nf} (hl : x.lacks.length ≤ 9223372036854775807) (hp : x.passes.length ≤ 9223372036854775807) (hx : ∀ p ∈ x.passes, p.adds.length ≤ 9223372036854775807) : C Tryd.prog F.ref07_CheckInfill [.agg (nfC x)] (I (if nfOk x then 0 else 74)) := by
  refine C_of mixed chk.ref07_CheckInfill (by simp) fun S ok => ?_
  refine Tr.seqR rfl (by simp) (Tr.seqR rfl (by simp) ?_)
  have h0 : (bif decide (((x.lacks.map I).length : Int) ≤ 16) then decide (((x.passes.map eQ).length : Int) ≤ 10) else false) = (decide (x.lacks.length ≤ 16) && decide (x.passes.length ≤ 10)) := by
    rw [List.length_map, List.length_map]
    have e1 : decide ((x.lacks.length : Int) ≤ 16) = decide (x.lacks.length ≤ 16) := by simp only [decide_eq_decide]; omega
    have e2 : decide ((x.passes.length : Int) ≤ 10) = decide (x.passes.length ≤ 10) := by simp only [decide_eq_decide]; omega
    rw [e1, e2]; cases decide (x.lacks.length ≤ 16) <;> rfl
  obtain ⟨B0, hB0⟩ : ∃ B, (decide (x.lacks.length ≤ 16) && decide (x.passes.length ≤ 10)) = B := ⟨_, rfl⟩
  rw [hB0] at h0
  have hok : nfOk x = (B0 && x.lacks.all (btw · 1 100) && x.passes.all (passOk x.lacks.length)) := by unfold nfOk; rw [hB0]
  rw [hok]
  refine Tr.seq (Tr.seqR rfl (by simp) (Tr.block ?_))
  refine Tr.loop (fun (k : Nat) st => k ≤ x.lacks.length ∧ st = { env := [(1, .ptr 1 0), (3, .bool (B0 && (x.lacks.take k).all (btw · 1 100))), (4, I (k : Nat))], bx := [(1, ⟨nfC x, false⟩)], rw := [], log := [], stp := false }) (fun k => x.lacks.length - k) 0
    (Wk.le (.cons rfl (.refl _) (.cons rfl (.of_eq ?_) (.cons rfl (.refl _) .nil))) (.cons rfl (LLe.refl _) .nil) .nil rfl rfl) ⟨by omega, rfl⟩ ?_
  · rw [List.take_zero, List.all_nil, Bool.and_true, ← h0]
  rintro k st ⟨hk, rfl⟩
  refine Tr.seq (Tr.seqR rfl (by simp) (Tr.cond rfl rfl (fun h1 => Tr.skip ?_) (fun h1 => Tr.exit ?_)))
  · have h1 : k < x.lacks.length := by simpa using h1
    obtain ⟨X, hX⟩ : ∃ X, (B0 && (x.lacks.take k).all (btw · 1 100)) = X := ⟨_, rfl⟩
    rw [hX]
    refine Tr.seq (Tr.block (Tr.reg (Steps.runN 6 rfl (by simp; intro a; exact ⟨by omega, a⟩) ?_)))
    rw [getD_map h1]
    refine Steps.run rfl (by simp) (Steps.gcall rfl rfl rfl rfl (by simp) (fun _ => c_between x.lacks[k] 1 100) (Steps.fin rfl (by simp) ?_))
    refine Tr.regR rfl (by simp) ?_
    refine ⟨k + 1, _, Wk.le (.cons rfl (.refl _) (.cons rfl (.of_eq ?_) (.cons rfl (VLe.i (w64 (by omega) (by omega))) .nil))) (.cons rfl (LLe.refl _) .nil) .nil rfl rfl, ⟨h1, rfl⟩, by omega⟩
    rw [all_take_succ h1, ← Bool.and_assoc, hX]
    show V.bool (bif X then btw x.lacks[k] 1 100 else false) = _
    cases X <;> rfl
  have h1 : k = x.lacks.length := by simp at h1; omega
  subst h1
  rw [List.take_length]
  obtain ⟨B1, hB1⟩ : ∃ B, (B0 && x.lacks.all (btw · 1 100)) = B := ⟨_, rfl⟩
  rw [hB1]
  refine Tr.seq (Tr.seqR rfl (by simp) (Tr.block ?_))
  refine Tr.loop (fun (k : Nat) st => k ≤ x.passes.length ∧ st = { env := [(1, .ptr 1 0), (3, .bool (B1 && (x.passes.take k).all (passOk x.lacks.length))), (5, I (k : Nat))], bx := [(1, ⟨nfC x, false⟩)], rw := [], log := [], stp := false }) (fun k => x.passes.length - k) 0
    (Wk.le (.cons rfl (.refl _) (.cons rfl (.of_eq (by simp)) (.cons rfl (.refl _) .nil))) (.cons rfl (LLe.refl _) .nil) .nil rfl rfl) ⟨by omega, rfl⟩ ?_
  rintro k st ⟨hk, rfl⟩
  refine Tr.seq (Tr.seqR rfl (by simp) (Tr.cond rfl rfl (fun h1 => Tr.skip ?_) (fun h1 => Tr.exit ?_)))
  · have h1 : k < x.passes.length := by simpa using h1
    have hnx : (B1 && (x.passes.take (k + 1)).all (passOk x.lacks.length)) = ((B1 && (x.passes.take k).all (passOk x.lacks.length)) && passOk x.lacks.length x.passes[k]) := by rw [all_take_succ h1, Bool.and_assoc]
    have hal := hx _ (List.getElem_mem h1)
    obtain ⟨X, hX⟩ : ∃ X, (B1 && (x.passes.take k).all (passOk x.lacks.length)) = X := ⟨_, rfl⟩
    rw [hX] at hnx ⊢
    obtain ⟨p, hpk⟩ : ∃ p, x.passes[k] = p := ⟨_, rfl⟩
    rw [hpk] at hal hnx
    refine Tr.seq (Tr.block ?_)
    refine Tr.seqN 4 rfl (by simp; omega) ?_
    rw [getD_map h1, hpk]
    refine Steps.fin rfl (by simp) ?_
    refine Tr.seqC rfl (by simp) (Steps.gcall rfl rfl rfl rfl (by simp) (fun _ => c_between p.cost 1 1000) (Steps.fin rfl (by simp) ?_))
    have e1 : (((p.adds.map I).length : Int) == ((x.lacks.map I).length : Int)) = decide (p.adds.length = x.lacks.length) := by
      rw [List.length_map, List.length_map]
      by_cases h : p.adds.length = x.lacks.length
      · rw [h]; simp
      · have : ¬ ((p.adds.length : Int) = (x.lacks.length : Int)) := by omega
        simp [h, this]
    obtain ⟨B2, hB2⟩ : ∃ B, (X && (btw p.cost 1 1000 && decide (p.adds.length = x.lacks.length))) = B := ⟨_, rfl⟩
    refine Tr.seqR rfl (by simp) (Tr.block ?_)
    refine Tr.loop (fun (c : Nat) st => c ≤ p.adds.length ∧ st = { env := [(1, .ptr 1 0), (3, .bool (B2 && (p.adds.take c).all fun n => btw n 0 100)), (5, I (k : Nat)), (6, .ptr 6 0), (7, I (c : Nat))], bx := [(6, ⟨[I p.cost, intsV p.adds], false⟩), (1, ⟨nfC x, false⟩)], rw := [], log := [], stp := false }) (fun c => p.adds.length - c) 0
      (Wk.le (.cons rfl (.refl _) (.cons rfl (.of_eq ?_) (.cons rfl (.refl _) (.cons rfl (.refl _) (.cons rfl (.refl _) .nil))))) (.cons rfl (LLe.refl _) (.cons rfl (LLe.refl _) .nil)) .nil rfl rfl) ⟨by omega, rfl⟩ ?_
    · rw [List.take_zero, List.all_nil, Bool.and_true, ← hB2, ← e1]
      show V.bool (bif (bif X then btw p.cost 1 1000 else false) then (((p.adds.map I).length : Int) == ((x.lacks.map I).length : Int)) else false) = _
      cases X <;> cases btw p.cost 1 1000 <;> rfl
    rintro c st ⟨hc, rfl⟩
    refine Tr.seq (Tr.seqR rfl (by simp) (Tr.cond rfl rfl (fun h2 => Tr.skip ?_) (fun h2 => Tr.exit ?_)))
    · have h2 : c < p.adds.length := by simpa using h2
      obtain ⟨Y, hY⟩ : ∃ Y, (B2 && (p.adds.take c).all fun n => btw n 0 100) = Y := ⟨_, rfl⟩
      rw [hY]
      refine Tr.seq (Tr.block (Tr.reg (Steps.runN 6 rfl (by simp; intro a; exact ⟨by omega, a⟩) ?_)))
      rw [getD_map h2]
      refine Steps.run rfl (by simp) (Steps.gcall rfl rfl rfl rfl (by simp) (fun _ => c_between p.adds[c] 0 100) (Steps.fin rfl (by simp) ?_))
      refine Tr.regR rfl (by simp) ?_
      refine ⟨c + 1, _, Wk.le (.cons rfl (.refl _) (.cons rfl (.of_eq ?_) (.cons rfl (.refl _) (.cons rfl (.refl _) (.cons rfl (VLe.i (w64 (by omega) (by omega))) .nil))))) (.cons rfl (LLe.refl _) (.cons rfl (LLe.refl _) .nil)) .nil rfl rfl, ⟨h2, rfl⟩, by omega⟩
      rw [all_take_succ h2, ← Bool.and_assoc, hY]
      show V.bool (bif Y then btw p.adds[c] 0 100 else false) = _
      cases Y <;> rfl
    · have h2 : c = p.adds.length := by simp at h2; omega
      subst h2
      rw [List.take_length]
      refine Tr.regR rfl (by simp) ?_
      refine ⟨k + 1, _, Wk.le (.cons rfl (.refl _) (.cons rfl (.of_eq ?_) (.cons rfl (VLe.i (w64 (by omega) (by omega))) .nil))) (.cons rfl (LLe.refl _) .nil) .nil rfl rfl, ⟨h1, rfl⟩, by omega⟩
      rw [hnx, bool_any, ← hB2]
      unfold passOk
      cases X <;> simp [Bool.and_assoc]
  have h1 : k = x.passes.length := by simp at h1; omega
  subst h1
  rw [List.take_length]
  obtain ⟨B3, hB3⟩ : ∃ B, (B1 && x.passes.all (passOk x.lacks.length)) = B := ⟨_, rfl⟩
  rw [hB3]
  refine Tr.seq (Tr.seqR rfl (by simp) (Tr.cond rfl rfl (fun h3 => ?_) (fun h3 => Tr.skip ?_)))
  · have h3 : (!B3) = true := h3
    obtain rfl : B3 = false := by simpa using h3
    exact Tr.seqR rfl (by simp) (Tr.retX rfl rfl rfl rfl trivial)
  · have h3 : (!B3) = false := h3
    obtain rfl : B3 = true := by simpa using h3
    exact Tr.seqR rfl (by simp) (Tr.retX rfl rfl rfl rfl trivial)

/-! ### Choices -/
def inPs (x : Nf) (l : List Int) : Prop := ∀ n ∈ l, ∃ i : Nat, n = (i : Int) ∧ i < x.passes.length
def subTo (x : Nf) (l : List Int) (q k : Nat) : Int := ((l.take k).map fun i => (addsOf x i.toNat).getD q 0).foldl (· - ·) (x.lacks.getD q 0)
def restQ (x : Nf) (l : List Int) (q : Nat) : Int := max 0 (subTo x l q l.length)
def sumTo (x : Nf) (l : List Int) (k : Nat) : Int := ((l.take k).map fun i => costOf x i.toNat).foldl (· + ·) 0
def covQ (x : Nf) (l : List Int) : Bool := (List.range x.lacks.length).all fun q => !decide (restQ x l q > 0)

theorem sumTo_succ {x : Nf} {l : List Int} {k : Nat} (h : k < l.length) : sumTo x l (k + 1) = sumTo x l k + costOf x l[k].toNat := by
  unfold sumTo
  rw [List.take_add_one, List.getElem?_eq_getElem h, List.map_append, List.foldl_append]; rfl
theorem subTo_succ {x : Nf} {l : List Int} {q k : Nat} (h : k < l.length) : subTo x l q (k + 1) = subTo x l q k - (addsOf x l[k].toNat).getD q 0 := by
  unfold subTo
  rw [List.take_add_one, List.getElem?_eq_getElem h, List.map_append, List.foldl_append]; rfl

theorem c_cost07 {x : Nf} (hx : nfOk x = true) {l : List Int} (hl : l.length ≤ 10) (hi : inPs x l) : C Tryd.prog F.ref07_cost [.agg (nfC x), intsV l] (I (sumTo x l l.length)) := by
  have hp1 := (nfOk_spec hx).2.2
  have h10 := (nfOk_spec hx).1.2
  refine C_of mixed chk.ref07_cost (by simp) fun S ok => ?_
  refine Tr.seqR rfl (by simp) (Tr.seqR rfl (by simp) (Tr.seq (Tr.seqR rfl (by simp) (Tr.block ?_))))
  refine Tr.loop (fun (k : Nat) st => (k ≤ l.length ∧ 0 ≤ sumTo x l k ∧ sumTo x l k ≤ k * 1000) ∧ st = { env := [(1, intsV l), (2, .ptr 2 0), (5, I (sumTo x l k)), (6, I (k : Nat))], bx := [(2, ⟨nfC x, false⟩)], rw := [], log := [], stp := false }) (fun k => l.length - k) 0
    (Wk.le (.cons rfl (.refl _) (.cons rfl (.refl _) (.cons rfl (.refl _) (.cons rfl (.refl _) .nil)))) (.cons rfl (LLe.refl _) .nil) .nil rfl rfl) ⟨⟨by omega, by simp [sumTo], by simp [sumTo]⟩, rfl⟩ ?_
  rintro k st ⟨⟨hk1, hs1, hs2⟩, rfl⟩
  refine Tr.seq (Tr.seqR rfl (by simp) (Tr.cond rfl rfl (fun h1 => Tr.skip ?_) (fun h1 => Tr.exit ?_)))
  · have h1 : k < l.length := by simpa using h1
    obtain ⟨i, hi, hil⟩ := hi _ (List.getElem_mem h1)
    have hci : costOf x i = x.passes[i].cost := by simp [costOf, hil]
    have hcb := (hp1 _ (List.getElem_mem hil)).1
    have hss := sumTo_succ (x := x) h1
    rw [hi, Int.toNat_natCast, hci] at hss
    refine Tr.seq (Tr.block (Tr.drawK (TraceK.runN 6 rfl (by simp; omega) ?_)))
    rw [getD_map h1, hi]
    refine TraceK.runN 2 rfl (by simp; omega) ?_
    rw [getD_map hil]
    refine TraceK.run rfl (by simp) (.done ⟨by kernel_rfl, by kernel_rfl, ?_⟩)
    refine Tr.regR rfl (by simp) ?_
    refine ⟨k + 1, _, Wk.le (.cons rfl (.refl _) (.cons rfl (.refl _) (.cons rfl (VLe.i ?_) (.cons rfl (VLe.i (w64 (by omega) (by omega))) .nil)))) (.cons rfl (LLe.refl _) .nil) .nil rfl rfl, ⟨⟨h1, by omega, by omega⟩, rfl⟩, by omega⟩
    show IntKind.wrap .i64 (sumTo x l k + x.passes[i].cost) = _
    rw [hss, w64 (by omega) (by omega)]
  · have h1 : k = l.length := by simp at h1; omega
    subst h1
    exact Tr.seqR rfl (by simp) (Tr.retX rfl rfl rfl rfl trivial)

theorem c_rest07 {x : Nf} (hx : nfOk x = true) {l : List Int} (hl : l.length ≤ 10) (hi : inPs x l) {q : Nat} (hq : q < x.lacks.length) : C Tryd.prog F.ref07_rest [.agg (nfC x), intsV l, I (q : Nat)] (I (restQ x l q)) := by
  obtain ⟨⟨h16, h10⟩, hl1, hp1⟩ := nfOk_spec hx
  have hlq := hl1 _ (List.getElem_mem hq)
  have s0 : subTo x l q 0 = x.lacks[q] := by simp [subTo, hq]
  refine C_of mixed chk.ref07_rest (by simp) fun S ok => ?_
  refine Tr.seqR rfl (by simp) ?_
  refine Tr.seqN 4 rfl (by simp; omega) ?_
  rw [getD_map hq]
  refine Steps.fin rfl (by simp) (Tr.seq (Tr.seqR rfl (by simp) (Tr.block ?_)))
  refine Tr.loop (fun (k : Nat) st => (k ≤ l.length ∧ subTo x l q k ≤ 100 ∧ -(k * 100) ≤ subTo x l q k) ∧ st = { env := [(1, intsV l), (2, I (q : Nat)), (3, .ptr 3 0), (7, I (subTo x l q k)), (8, I (k : Nat))], bx := [(3, ⟨nfC x, false⟩)], rw := [], log := [], stp := false }) (fun k => l.length - k) 0
    (Wk.le (.cons rfl (.refl _) (.cons rfl (.refl _) (.cons rfl (.refl _) (.cons rfl (VLe.i s0.symm) (.cons rfl (.refl _) .nil))))) (.cons rfl (LLe.refl _) .nil) .nil rfl rfl) ⟨⟨by omega, by omega, by omega⟩, rfl⟩ ?_
  rintro k st ⟨⟨hk1, hs1, hs2⟩, rfl⟩
  refine Tr.seq (Tr.seqR rfl (by simp) (Tr.cond rfl rfl (fun h1 => Tr.skip ?_) (fun h1 => Tr.exit ?_)))
  · have h1 : k < l.length := by simpa using h1
    obtain ⟨i, hi, hil⟩ := hi _ (List.getElem_mem h1)
    have hpi := hp1 _ (List.getElem_mem hil)
    have hqa : q < x.passes[i].adds.length := by omega
    have hab := hpi.2.2 _ (List.getElem_mem hqa)
    have hss := subTo_succ (x := x) (q := q) h1
    rw [hi, Int.toNat_natCast] at hss
    have eA : (addsOf x i).getD q 0 = x.passes[i].adds[q] := by simp [addsOf, hil, hqa]
    rw [eA] at hss
    refine Tr.seq (Tr.block (Tr.drawK (TraceK.runN 6 rfl (by simp; omega) ?_)))
    rw [getD_map h1, hi]
    refine TraceK.runN 2 rfl (by simp; omega) ?_
    rw [getD_map hil]
    refine TraceK.runN 4 rfl (by simp; omega) ?_
    rw [getD_map hqa]
    refine TraceK.run rfl (by simp) (.done ⟨by kernel_rfl, by kernel_rfl, ?_⟩)
    refine Tr.regR rfl (by simp) ?_
    refine ⟨k + 1, _, Wk.le (.cons rfl (.refl _) (.cons rfl (.refl _) (.cons rfl (.refl _) (.cons rfl (VLe.i ?_) (.cons rfl (VLe.i (w64 (by omega) (by omega))) .nil))))) (.cons rfl (LLe.refl _) .nil) .nil rfl rfl, ⟨⟨h1, by omega, by omega⟩, rfl⟩, by omega⟩
    show IntKind.wrap .i64 (subTo x l q k - x.passes[i].adds[q]) = _
    rw [hss, w64 (by omega) (by omega)]
  · have h1 : k = l.length := by simp at h1; omega
    subst h1
    refine Tr.seqR rfl (by simp) (Tr.retX rfl rfl rfl ?_ trivial)
    show I (restQ x l q) = I (bif true then (if subTo x l q l.length > 0 then subTo x l q l.length else 0) else _)
    rw [cond_true, ite_max]; rfl

theorem c_covers07 {x : Nf} (hx : nfOk x = true) {l : List Int} (hl : l.length ≤ 10) (hi : inPs x l) : C Tryd.prog F.ref07_covers [.agg (nfC x), intsV l] (.bool (covQ x l)) := by
  have h16 := (nfOk_spec hx).1.1
  refine C_of mixed chk.ref07_covers (by simp) fun S ok => ?_
  refine Tr.seqR rfl (by simp) (Tr.seq (Tr.seqR rfl (by simp) (Tr.block ?_)))
  refine Tr.loop (fun (k : Nat) st => (k ≤ x.lacks.length ∧ ∀ q < k, ¬ restQ x l q > 0) ∧ st = { env := [(1, intsV l), (2, .ptr 2 0), (5, I (k : Nat))], bx := [(2, ⟨nfC x, false⟩)], rw := [], log := [], stp := false }) (fun k => x.lacks.length - k) 0
    (Wk.le (.cons rfl (.refl _) (.cons rfl (.refl _) (.cons rfl (.refl _) .nil))) (.cons rfl (LLe.refl _) .nil) .nil rfl rfl) ⟨⟨by omega, by omega⟩, rfl⟩ ?_
  rintro k st ⟨⟨hk, ha⟩, rfl⟩
  refine Tr.seq (Tr.seqR rfl (by simp) (Tr.cond rfl rfl (fun h1 => Tr.skip ?_) (fun h1 => Tr.exit ?_)))
  · have h1 : k < x.lacks.length := by simpa using h1
    refine Tr.seq (Tr.block (Tr.seqC rfl (by simp) (Steps.call rfl rfl (c_rest07 hx hl hi h1) (Steps.fin rfl (by simp) (Tr.cond rfl rfl (fun h2 => ?_) (fun h2 => Tr.skip (Tr.regR rfl (by simp) ?_)))))))
    · have h2 : decide (restQ x l k > 0) = true := h2
      refine Tr.seqR rfl (by simp) (Tr.retX rfl rfl rfl ?_ trivial)
      have : covQ x l = false := by
        unfold covQ
        rw [List.all_eq_false]
        exact ⟨k, List.mem_range.2 h1, by rw [h2]; simp⟩
      rw [this]; rfl
    · have h2 : decide (restQ x l k > 0) = false := h2
      have h2 := of_decide_eq_false h2
      exact ⟨k + 1, _, Wk.le (.cons rfl (.refl _) (.cons rfl (.refl _) (.cons rfl (VLe.i (w64 (by omega) (by omega))) .nil))) (.cons rfl (LLe.refl _) .nil) .nil rfl rfl, ⟨⟨h1, fun q hq => by
        rcases Nat.lt_succ_iff_lt_or_eq.1 hq with h | rfl
        · exact ha q h
        · exact h2⟩, rfl⟩, by omega⟩
  · have h1 : k = x.lacks.length := by simp at h1; omega
    subst h1
    refine Tr.seqR rfl (by simp) (Tr.retX rfl rfl rfl ?_ trivial)
    have : covQ x l = true := by
      unfold covQ
      rw [List.all_eq_true]
      intro q hq
      have := ha q (List.mem_range.1 hq)
      rw [decide_eq_false this]; rfl
    rw [this]; rfl

end Go.Proofs.YtffoiccokigjcaaDoor

/-! Contract of the law BinBounds. -/
set_option linter.unusedVariables false
set_option linter.unusedSimpArgs false
set_option maxRecDepth 40000
set_option maxHeartbeats 4000000
namespace Go.Proofs.YtffoiccokigjcaaDoor
open Go.Am
attribute [local simp] cells scalar mkv splice under2 under dem dem1 eB eQ nfC intsV eC cutsV

theorem sumTo_cb (x : Nf) (b : Nat) : sumTo x (choiceL b) (choiceL b).length = costB x b := by
  unfold sumTo costB sumF
  rw [List.take_length]

theorem c_BinBounds {x : Nf} (hx : nfSane x) {l : List Int} (hl : l.length ≤ 9223372036854775807) {pf : List Ct} (hpf : pf.length ≤ 9223372036854775807) (hpl : ∀ k ∈ pf, k.prices.length ≤ 9223372036854775807) : C Tryd.prog F.law07_BinBounds [.agg (nfC x), intsV l, cutsV pf] (.bool true) := by
  have kP := c_Prove hx.2
  have kB := c_Best hx.2
  obtain ⟨P, e, c, a, f, h1, h2, hef, h4, _, h6, h7⟩ := prove_form (x := x)
  obtain ⟨n, g, h8, h9, h10⟩ := bound_form (x := x) pf
  rw [h1] at kP
  rw [h2] at kB
  have kQ := c_Bound hx.2 h6
  have kR := c_Bound hx.2 hpl
  rw [h8] at kR
  refine C_of mixed chk.law07_BinBounds (by simp) fun S ok => ?_
  refine Tr.seqR rfl (by simp) ?_
  refine Tr.seqC rfl (by simp) (Steps.call rfl rfl kP (Steps.fin rfl (by simp) ?_))
  refine Tr.seqC rfl (by simp) (Steps.call rfl rfl kB (Steps.fin rfl (by simp) ?_))
  subst hef
  refine Tr.seq (Tr.seqR rfl (by simp) (Tr.condF (by show some (V.bool (e != e)) = _; simp) (Tr.skip ?_)))
  refine Tr.meet { env := [(1, intsV l), (2, cutsV pf), (3, .ptr 3 0), (9, intsV a), (11, I e)], bx := [(3, ⟨nfC x, false⟩)], rw := [], log := [], stp := false } (Tr.seqR rfl (by simp) (Tr.cond rfl rfl (fun h => ?_) (fun h => Tr.skip ?_))) ?_
  · have h : (e == 0) = true := h
    have he : e = 0 := by simpa using h
    have h5 := h4 he
    rw [h5] at kQ
    refine Tr.seqC rfl (by simp) (Steps.call rfl rfl kQ (Steps.fin rfl (by simp) ?_))
    refine Tr.seqR rfl (by simp) (Tr.condF ?_ (Tr.skip ?_))
    · show some (V.bool (bif (c != c) then true else ((0 : Int) != 0))) = _
      simp
    · exact Wk.le (.cons rfl (.refl _) (.cons rfl (.refl _) (.cons rfl (.refl _) (.cons rfl (.refl _) (.cons rfl (.refl _) .nil))))) (.cons rfl (LLe.refl _) .nil) .nil rfl rfl
  · exact Wk.le (.cons rfl (.refl _) (.cons rfl (.refl _) (.cons rfl (.refl _) (.cons rfl (.refl _) (.cons rfl (.refl _) .nil))))) (.cons rfl (LLe.refl _) .nil) .nil rfl rfl
  refine Tr.seqC rfl (by simp) (Steps.call rfl rfl kR (Steps.fin rfl (by simp) ?_))
  refine Tr.seq (Tr.seqR rfl (by simp) (Tr.cond rfl rfl (fun h => ?_) (fun h => Tr.skip ?_)))
  · have h : (g != 0) = true := h
    have hn := h9 (by simpa using h)
    subst hn
    exact Tr.seqC rfl (by simp) (Steps.gcall rfl rfl rfl rfl (by simp) (fun _ => c_works) (Steps.fin rfl (by simp) (Tr.retX rfl rfl rfl rfl trivial)))
  have h : (g != 0) = false := h
  obtain ⟨hk, hdual⟩ := h10 (by simpa using h)
  obtain ⟨⟨h16, hp10⟩, hl1, hp1⟩ := nfOk_spec hk
  refine Tr.seq (Tr.seqR rfl (by simp) (Tr.block ?_))
  refine Tr.loop (fun (k : Nat) st => k ≤ 2 ∧ st = { env := [(3, .ptr 3 0), (11, I e), (14, I n), (66, .agg [intsV a, intsV l]), (67, I (k : Nat))], bx := [(3, ⟨nfC x, false⟩)], rw := [], log := [], stp := false }) (fun k => 2 - k) 0
    (Wk.le (.cons rfl (.refl _) (.cons rfl (.refl _) (.cons rfl (.refl _) (.cons rfl (.refl _) (.cons rfl (.refl _) .nil))))) (.cons rfl (LLe.refl _) .nil) .nil rfl rfl) ⟨by omega, rfl⟩ ?_
  rintro k st ⟨hk2, rfl⟩
  refine Tr.seqR rfl (by simp) (Tr.seqI rfl (fun h3 => ?_) (fun h3 => ?_))
  rotate_left
  · exact Tr.exit (Tr.seqC rfl (by simp) (Steps.call rfl rfl c_works (Steps.fin rfl (by simp) (Tr.retX rfl rfl rfl rfl trivial))))
  have h3 : k < 2 := by
    have h3 : decide ((k : Int) < 2) = true := h3
    have := of_decide_eq_true h3
    omega
  refine Tr.skipT (Tr.meet { env := [(3, .ptr 3 0), (11, I e), (14, I n), (66, .agg [intsV a, intsV l]), (67, I (k : Nat))], bx := [(3, ⟨nfC x, false⟩)], rw := [], log := [], stp := false } (Tr.block ?_) (Tr.regR rfl (by simp) ?_))
  rotate_left
  · exact ⟨k + 1, _, Wk.le (.cons rfl (.refl _) (.cons rfl (.refl _) (.cons rfl (.refl _) (.cons rfl (.refl _) (.cons rfl (VLe.i (w64 (by omega) (by omega))) .nil))))) (.cons rfl (LLe.refl _) .nil) .nil rfl rfl, ⟨h3, rfl⟩, by omega⟩
  obtain ⟨L, hL, hLl⟩ : ∃ L : List Int, mkv false 1 (([intsV a, intsV l] : List V).drop (((k : Nat) : Int).toNat * 1)) = intsV L ∧ L.length ≤ 9223372036854775807 := by
    rcases Nat.lt_succ_iff_lt_or_eq.1 h3 with h | rfl
    · obtain rfl : k = 0 := by omega
      exact ⟨a, rfl, by omega⟩
    · exact ⟨l, rfl, hl⟩
  refine Tr.seq (Tr.reg (Steps.runN 1 rfl (by simp; omega) ?_))
  rw [hL]
  have kC := c_Covers hx.2 hLl
  unfold CoversR at kC
  rw [if_pos hk] at kC
  refine Steps.fin rfl (by simp) ?_
  cases hb : bitsG x.passes.length L 0 (-1) with
  | none =>
    rw [hb] at kC
    refine Tr.seqC rfl (by simp) (Steps.call rfl rfl kC (Steps.fin rfl (by simp) ?_))
    refine Tr.seq (Tr.seqR rfl (by simp) (Tr.condT rfl (Tr.exit ?_)))
    exact Wk.le (.cons rfl (.refl _) (.cons rfl (.refl _) (.cons rfl (.refl _) (.cons rfl (.refl _) (.cons rfl (.refl _) .nil))))) (.cons rfl (LLe.refl _) .nil) .nil rfl rfl
  | some b =>
    rw [hb] at kC
    obtain ⟨hblt, hbL⟩ := bitsG_spec hp10 L 0 0 b (by omega) (by simp) hb
    have eL : choiceL b = L := by rw [hbL]; rfl
    have hLb : ∀ q ∈ L, ∃ i : Nat, q = (i : Nat) ∧ i < x.passes.length := fun q hq => choice_lt hblt (eL ▸ hq)
    have hL10 : L.length ≤ 10 := by rw [← eL]; exact choiceL_len b
    have hsum : sumTo x L L.length = costB x b := by rw [← eL]; exact sumTo_cb x b
    simp only at kC
    refine Tr.seqC rfl (by simp) (Steps.call rfl rfl kC (Steps.fin rfl (by simp) ?_))
    refine Tr.seq (Tr.seqR rfl (by simp) (Tr.cond rfl rfl (fun h5 => Tr.exit ?_) (fun h5 => Tr.skip ?_)))
    · exact Wk.le (.cons rfl (.refl _) (.cons rfl (.refl _) (.cons rfl (.refl _) (.cons rfl (.refl _) (.cons rfl (.refl _) .nil))))) (.cons rfl (LLe.refl _) .nil) .nil rfl rfl
    have h5 : (bif (bif ((0 : Int) != 0) then true else !coversB x b) then true else (e != 0)) = false := h5
    have hcv : coversB x b = true := by
      cases hcb : coversB x b with
      | true => rfl
      | false => rw [hcb] at h5; cases h5
    have hge := hdual b hblt hcv
    refine Tr.seqR rfl (by simp) ?_
    refine Tr.seq (Tr.seqR rfl (by simp) (Tr.block ?_))
    refine Tr.loop (fun (q : Nat) st => (q ≤ L.length ∧ 0 ≤ sumTo x L q ∧ sumTo x L q ≤ q * 1000) ∧ st = { env := [(3, .ptr 3 0), (11, I e), (14, I n), (17, intsV L), (20, I (sumTo x L q)), (21, I (q : Nat)), (66, .agg [intsV a, intsV l]), (67, I (k : Nat))], bx := [(3, ⟨nfC x, false⟩)], rw := [], log := [], stp := false }) (fun q => L.length - q) 0
      (Wk.le (.cons rfl (.refl _) (.cons rfl (.refl _) (.cons rfl (.refl _) (.cons rfl (.refl _) (.cons rfl (.refl _) (.cons rfl (.refl _) (.cons rfl (.refl _) (.cons rfl (.refl _) .nil)))))))) (.cons rfl (LLe.refl _) .nil) .nil rfl rfl) ⟨⟨by omega, by simp [sumTo], by simp [sumTo]⟩, rfl⟩ ?_
    rintro q st ⟨⟨hq1, hs1, hs2⟩, rfl⟩
    refine Tr.seq (Tr.seqR rfl (by simp) (Tr.cond rfl rfl (fun h6 => Tr.skip ?_) (fun h6 => Tr.exit ?_)))
    · have h6 : q < L.length := by simpa using h6
      obtain ⟨i, hi, hil⟩ := hLb _ (List.getElem_mem h6)
      have hci : costOf x i = x.passes[i].cost := by simp [costOf, hil]
      have hcb := (hp1 _ (List.getElem_mem hil)).1
      have hss := sumTo_succ (x := x) h6
      rw [hi, Int.toNat_natCast, hci] at hss
      have hw1 : IntKind.wrap .i64 (((x.passes.map eQ).length : Int) - 1) = (x.passes.length : Int) - 1 := by rw [List.length_map, w64 (by omega) (by omega)]
      have kb := c_between (i : Int) 0 (IntKind.wrap .i64 (((x.passes.map eQ).length : Int) - 1))
      have hbt : btw (i : Int) 0 (IntKind.wrap .i64 (((x.passes.map eQ).length : Int) - 1)) = true := by rw [hw1, btw_iff]; omega
      rw [hbt] at kb
      refine Tr.seq (Tr.block (Tr.seq (Tr.seq (Tr.drawK (TraceK.runN 3 rfl (by simp; omega) ?_)))))
      rw [getD_map h6, hi]
      refine TraceK.run rfl (by simp) (TraceK.call rfl rfl kb (TraceK.run rfl (by simp) (.done ⟨by kernel_rfl, by kernel_rfl, ?_⟩)))
      refine Tr.condF rfl (Tr.skip (Tr.drawK (TraceK.runN 6 rfl (by simp; omega) ?_)))
      rw [getD_map h6, hi]
      refine TraceK.runN 2 rfl (by simp; omega) ?_
      rw [getD_map hil]
      refine TraceK.run rfl (by simp) (.done ⟨by kernel_rfl, by kernel_rfl, ?_⟩)
      refine Tr.regR rfl (by simp) ?_
      refine ⟨q + 1, _, Wk.le (.cons rfl (.refl _) (.cons rfl (.refl _) (.cons rfl (.refl _) (.cons rfl (.refl _) (.cons rfl (VLe.i ?_) (.cons rfl (VLe.i (w64 (by omega) (by omega))) (.cons rfl (.refl _) (.cons rfl (.refl _) .nil)))))))) (.cons rfl (LLe.refl _) .nil) .nil rfl rfl, ⟨⟨h6, by omega, by omega⟩, rfl⟩, by omega⟩
      show IntKind.wrap .i64 (sumTo x L q + x.passes[i].cost) = _
      rw [hss, w64 (by omega) (by omega)]
    · have h6 : q = L.length := by simp at h6; omega
      subst h6
      refine Tr.seqR rfl (by simp) (Tr.condF ?_ (Tr.skip ?_))
      · show some (V.bool (decide (sumTo x L L.length < n))) = _
        rw [decide_eq_false (by omega)]
      · exact Wk.le (.cons rfl (.refl _) (.cons rfl (.refl _) (.cons rfl (.refl _) (.cons rfl (.refl _) (.cons rfl (.refl _) .nil))))) (.cons rfl (LLe.refl _) .nil) .nil rfl rfl

end Go.Proofs.YtffoiccokigjcaaDoor
