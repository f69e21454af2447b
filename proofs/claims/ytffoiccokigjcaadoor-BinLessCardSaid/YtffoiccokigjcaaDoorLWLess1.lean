/-
  Parts of the proof, 1: the abstract machine, the compiled code, contracts of the functions, plain laws.
-/
import Derived.Test.YtffoiccokigjcaaDoorZ5


/-! The code of further functions, compiled. -/
set_option maxRecDepth 100000
namespace Go.Proofs.YtffoiccokigjcaaDoor
open Go.Am
/-- paravane/paravanelaw07.BinLess -/
abbrev F.law07_BinLess : Nat := 8
def ir.law07_BinLess : IC :=
 (.seq (.reg [⟨(some 3), .box, [.t 0], none⟩,
     ⟨(some 5), .box, [.t 2], none⟩,
     ⟨(some 6), .mov, [.c (.bool false)], none⟩])
   (.seq (.reg [⟨(some 23), .load 2 true, [.t 3], none⟩,
     ⟨(some 24), .call 26, [.t 23], none⟩,
     ⟨(some 22), .mov, [.t 24], none⟩,
     ⟨(some 25), .extract 0, [.t 22], none⟩,
     ⟨(some 26), .extract 1, [.t 22], none⟩,
     ⟨(some 27), .extract 2, [.t 22], none⟩,
     ⟨(some 7), .mov, [.t 25], none⟩,
     ⟨(some 8), .mov, [.t 26], none⟩,
     ⟨(some 9), .mov, [.t 27], none⟩])
   (.seq (.seq (.reg [⟨(some 28), .mov, [.t 9], none⟩,
     ⟨(some 29), .bin .neq, [.t 28, .c (.int .i64 0)], none⟩,
     ⟨(some 30), .mov, [.t 29], none⟩,
     ⟨(some 31), .mov, [.t 9], (some (30, true))⟩,
     ⟨(some 32), .bin .neq, [.t 31, .c (.int .i64 4)], (some (30, true))⟩,
     ⟨(some 33), .pick, [.t 30, .t 32, .c (.bool false)], none⟩])
   (.cond (.t 33) (.seq (.reg [⟨(some 34), .mov, [.t 7], none⟩,
     ⟨(some 35), .len false, [.t 34], none⟩,
     ⟨(some 36), .bin .eql, [.t 35, .c (.int .i64 0)], none⟩,
     ⟨(some 37), .mov, [.t 36], none⟩,
     ⟨(some 38), .mov, [.t 8], (some (37, true))⟩,
     ⟨(some 39), .bin .eql, [.t 38, .c (.int .i64 0)], (some (37, true))⟩,
     ⟨(some 40), .pick, [.t 37, .t 39, .c (.bool false)], none⟩,
     ⟨(some 41), .mov, [.t 40], none⟩,
     ⟨(some 42), .call 14, [], (some (41, true))⟩,
     ⟨(some 43), .pick, [.t 41, .t 42, .c (.bool false)], none⟩,
     ⟨(some 6), .mov, [.t 43], none⟩])
   .ret) .skip))
   (.seq (.reg [⟨(some 45), .load 2 true, [.t 3], none⟩,
     ⟨(some 46), .mov, [.t 1], none⟩,
     ⟨(some 47), .call 22, [.t 45, .t 46], none⟩,
     ⟨(some 44), .mov, [.t 47], none⟩,
     ⟨(some 48), .extract 0, [.t 44], none⟩,
     ⟨(some 49), .extract 1, [.t 44], none⟩,
     ⟨(some 10), .mov, [.t 48], none⟩,
     ⟨(some 11), .mov, [.t 49], none⟩])
   (.seq (.seq (.reg [⟨(some 50), .mov, [.t 11], none⟩,
     ⟨(some 51), .bin .eql, [.t 50, .c (.int .i64 0)], none⟩,
     ⟨(some 52), .mov, [.t 51], none⟩,
     ⟨(some 53), .mov, [.t 10], (some (52, true))⟩,
     ⟨(some 54), .pick, [.t 52, .t 53, .c (.bool false)], none⟩])
   (.cond (.t 54) (.seq (.reg [⟨(some 12), .mov, [.c (.int .i64 0)], none⟩])
   (.seq (.seq (.reg [⟨(some 13), .mov, [.c (.int .i64 0)], none⟩])
   (.block 0 (.loop (.seq (.seq (.reg [⟨(some 55), .mov, [.t 13], none⟩,
     ⟨(some 56), .mov, [.t 1], none⟩,
     ⟨(some 57), .len false, [.t 56], none⟩,
     ⟨(some 58), .bin .lss, [.t 55, .t 57], none⟩])
   (.cond (.t 58) .skip (.exit 0)))
   (.seq (.block 1 (.seq (.seq (.draw [0, 0, 3, 7, 0, 16, 48, 112, 255, 511] [⟨(some 61), .mov, [.t 1], none⟩,
     ⟨(some 62), .mov, [.t 13], none⟩,
     ⟨(some 63), .iaddrS 1, [.t 61, .t 62], none⟩,
     ⟨(some 64), .load 1 false, [.t 63], none⟩,
     ⟨(some 65), .faddr 1, [.t 3], none⟩,
     ⟨(some 66), .load 1 false, [.t 65], none⟩,
     ⟨(some 67), .len false, [.t 66], none⟩,
     ⟨(some 68), .bin .sub, [.t 67, .c (.int .i64 1)], none⟩,
     ⟨(some 69), .call 16, [.t 64, .c (.int .i64 0), .t 68], none⟩,
     ⟨(some 70), .un .not, [.t 69], none⟩])
   (.cond (.t 70) (.seq (.reg [⟨(some 6), .mov, [.c (.bool false)], none⟩])
   .ret) .skip))
   (.draw [0, 0, 2, 0, 0, 24, 56, 126, 254, 510, 1023, 2047] [⟨(some 71), .mov, [.t 12], none⟩,
     ⟨(some 72), .faddr 1, [.t 3], none⟩,
     ⟨(some 73), .load 1 false, [.t 72], none⟩,
     ⟨(some 74), .mov, [.t 1], none⟩,
     ⟨(some 75), .mov, [.t 13], none⟩,
     ⟨(some 76), .iaddrS 1, [.t 74, .t 75], none⟩,
     ⟨(some 77), .load 1 false, [.t 76], none⟩,
     ⟨(some 78), .iaddrS 2, [.t 73, .t 77], none⟩,
     ⟨(some 79), .faddr 0, [.t 78], none⟩,
     ⟨(some 80), .load 1 false, [.t 79], none⟩,
     ⟨(some 81), .bin .add, [.t 71, .t 80], none⟩,
     ⟨(some 12), .mov, [.t 81], none⟩])))
   (.reg [⟨(some 59), .mov, [.t 13], none⟩,
     ⟨(some 60), .bin .add, [.t 59, .c (.int .i64 1)], none⟩,
     ⟨(some 13), .mov, [.t 60], none⟩]))))))
   (.seq (.reg [⟨(some 82), .mov, [.t 9], none⟩,
     ⟨(some 83), .bin .neq, [.t 82, .c (.int .i64 0)], none⟩,
     ⟨(some 84), .mov, [.t 83], none⟩,
     ⟨(some 85), .mov, [.t 12], (some (84, false))⟩,
     ⟨(some 86), .mov, [.t 8], (some (84, false))⟩,
     ⟨(some 87), .bin .lss, [.t 85, .t 86], (some (84, false))⟩,
     ⟨(some 88), .pick, [.t 84, .c (.bool true), .t 87], none⟩])
   (.cond (.t 88) (.seq (.reg [⟨(some 6), .mov, [.c (.bool false)], none⟩])
   .ret) .skip)))) .skip))
   (.seq (.seq (.reg [⟨(some 89), .mov, [.t 9], none⟩,
     ⟨(some 90), .bin .neq, [.t 89, .c (.int .i64 0)], none⟩])
   (.cond (.t 90) (.seq (.reg [⟨(some 91), .call 14, [], none⟩,
     ⟨(some 6), .mov, [.t 91], none⟩])
   .ret) .skip))
   (.seq (.reg [⟨(some 93), .load 2 true, [.t 3], none⟩,
     ⟨(some 94), .mov, [.t 7], none⟩,
     ⟨(some 95), .call 22, [.t 93, .t 94], none⟩,
     ⟨(some 92), .mov, [.t 95], none⟩,
     ⟨(some 96), .extract 0, [.t 92], none⟩,
     ⟨(some 97), .extract 1, [.t 92], none⟩,
     ⟨(some 14), .mov, [.t 96], none⟩,
     ⟨(some 11), .mov, [.t 97], none⟩])
   (.seq (.seq (.reg [⟨(some 98), .mov, [.t 14], none⟩,
     ⟨(some 99), .un .not, [.t 98], none⟩,
     ⟨(some 100), .mov, [.t 99], none⟩,
     ⟨(some 101), .mov, [.t 11], (some (100, false))⟩,
     ⟨(some 102), .bin .neq, [.t 101, .c (.int .i64 0)], (some (100, false))⟩,
     ⟨(some 103), .pick, [.t 100, .c (.bool true), .t 102], none⟩])
   (.cond (.t 103) (.seq (.reg [⟨(some 6), .mov, [.c (.bool false)], none⟩])
   .ret) .skip))
   (.seq (.draw [0, 1, 0, 4, 12, 31, 0, 127] [⟨(some 104), .faddr 1, [.t 3], none⟩,
     ⟨(some 105), .load 1 false, [.t 104], none⟩,
     ⟨(some 106), .faddr 0, [.t 3], none⟩,
     ⟨(some 107), .load 1 false, [.t 106], none⟩,
     ⟨(some 108), .call 31, [.t 107], none⟩,
     ⟨(some 109), .build [.nils, .nils] [(1, 1), (0, 1)], [.t 105, .t 108], none⟩,
     ⟨(some 15), .alloc [.nils, .nils], [], none⟩,
     ⟨none, .store 2, [.t 15, .t 109], none⟩])
   (.seq (.seq (.reg [⟨(some 110), .faddr 0, [.t 15], none⟩,
     ⟨(some 111), .load 1 false, [.t 110], none⟩,
     ⟨(some 112), .len false, [.t 111], none⟩,
     ⟨(some 113), .bin .gtr, [.t 112, .c (.int .i64 0)], none⟩])
   (.cond (.t 113) (.seq (.reg [⟨(some 114), .iaddrA 2 1, [.t 5, .c (.int .i64 0)], none⟩,
     ⟨(some 115), .load 1 false, [.t 114], none⟩,
     ⟨(some 116), .faddr 0, [.t 15], none⟩,
     ⟨(some 117), .load 1 false, [.t 116], none⟩,
     ⟨(some 118), .len false, [.t 117], none⟩,
     ⟨(some 119), .call 17, [.t 115, .t 118], none⟩,
     ⟨(some 16), .mov, [.t 119], none⟩])
   (.draw [0, 1, 0, 0, 8, 0, 56, 120, 248, 504, 1023, 2047] [⟨(some 120), .faddr 0, [.t 15], none⟩,
     ⟨(some 121), .load 1 false, [.t 120], none⟩,
     ⟨(some 122), .mov, [.t 16], none⟩,
     ⟨(some 123), .faddr 0, [.t 15], none⟩,
     ⟨(some 124), .load 1 false, [.t 123], none⟩,
     ⟨(some 125), .mov, [.t 16], none⟩,
     ⟨(some 126), .iaddrS 1, [.t 124, .t 125], none⟩,
     ⟨(some 127), .load 1 false, [.t 126], none⟩,
     ⟨(some 128), .bin .sub, [.t 127, .c (.int .i64 1)], none⟩,
     ⟨(some 129), .minmax true, [.c (.int .i64 1), .t 128], none⟩,
     ⟨(some 130), .iaddrS 1, [.t 121, .t 122], none⟩,
     ⟨none, .store 1, [.t 130, .t 129], none⟩])) .skip))
   (.seq (.reg [⟨(some 132), .load 2 true, [.t 15], none⟩,
     ⟨(some 133), .call 26, [.t 132], none⟩,
     ⟨(some 131), .mov, [.t 133], none⟩,
     ⟨(some 134), .extract 0, [.t 131], none⟩,
     ⟨(some 135), .extract 1, [.t 131], none⟩,
     ⟨(some 136), .extract 2, [.t 131], none⟩,
     ⟨(some 17), .mov, [.t 134], none⟩,
     ⟨(some 18), .mov, [.t 135], none⟩,
     ⟨(some 11), .mov, [.t 136], none⟩])
   (.seq (.seq (.reg [⟨(some 137), .mov, [.t 11], none⟩,
     ⟨(some 138), .bin .neq, [.t 137, .c (.int .i64 0)], none⟩,
     ⟨(some 139), .mov, [.t 138], none⟩,
     ⟨(some 140), .mov, [.t 18], (some (139, false))⟩,
     ⟨(some 141), .mov, [.t 8], (some (139, false))⟩,
     ⟨(some 142), .bin .gtr, [.t 140, .t 141], (some (139, false))⟩,
     ⟨(some 143), .pick, [.t 139, .c (.bool true), .t 142], none⟩])
   (.cond (.t 143) (.seq (.reg [⟨(some 6), .mov, [.c (.bool false)], none⟩])
   .ret) .skip))
   (.seq (.draw [0, 1, 0, 0, 8, 28, 63, 0, 255] [⟨(some 144), .faddr 0, [.t 3], none⟩,
     ⟨(some 145), .load 1 false, [.t 144], none⟩,
     ⟨(some 146), .mkslice 2 72, [], none⟩,
     ⟨(some 147), .faddr 1, [.t 3], none⟩,
     ⟨(some 148), .load 1 false, [.t 147], none⟩,
     ⟨(some 149), .append 2 32 72, [.t 146, .t 148], none⟩,
     ⟨(some 150), .build [.nils, .nils] [(0, 1), (1, 1)], [.t 145, .t 149], none⟩,
     ⟨(some 19), .alloc [.nils, .nils], [], none⟩,
     ⟨none, .store 2, [.t 19, .t 150], none⟩])
   (.seq (.reg [⟨(some 151), .iaddrA 2 1, [.t 5, .c (.int .i64 1)], none⟩,
     ⟨(some 152), .load 1 false, [.t 151], none⟩,
     ⟨(some 153), .call 17, [.t 152, .c (.int .i64 20)], none⟩,
     ⟨(some 154), .bin .add, [.c (.int .i64 1), .t 153], none⟩,
     ⟨(some 155), .build [(.int .i64 0), .nils] [(0, 1)], [.t 154], none⟩,
     ⟨(some 20), .alloc [(.int .i64 0), .nils], [], none⟩,
     ⟨none, .store 2, [.t 20, .t 155], none⟩])
   (.seq (.seq (.reg [⟨(some 21), .mov, [.c (.int .i64 0)], none⟩])
   (.block 2 (.loop (.seq (.seq (.reg [⟨(some 156), .mov, [.t 21], none⟩,
     ⟨(some 157), .faddr 0, [.t 3], none⟩,
     ⟨(some 158), .load 1 false, [.t 157], none⟩,
     ⟨(some 159), .len false, [.t 158], none⟩,
     ⟨(some 160), .bin .lss, [.t 156, .t 159], none⟩])
   (.cond (.t 160) .skip (.exit 2)))
   (.seq (.block 3 (.draw [0, 1, 0, 4, 12, 0, 60, 124, 252, 511, 1023, 2047] [⟨(some 163), .faddr 1, [.t 20], none⟩,
     ⟨(some 164), .load 1 false, [.t 163], none⟩,
     ⟨(some 165), .iaddrA 2 1, [.t 5, .c (.int .i64 0)], none⟩,
     ⟨(some 166), .load 1 false, [.t 165], none⟩,
     ⟨(some 167), .call 17, [.t 166, .c (.int .i64 3)], none⟩,
     ⟨(some 168), .mov, [.t 21], none⟩,
     ⟨(some 169), .bin .add, [.t 167, .t 168], none⟩,
     ⟨(some 170), .call 17, [.t 169, .c (.int .i64 3)], none⟩,
     ⟨(some 171), .mkslice 1 3, [.t 170], none⟩,
     ⟨(some 172), .append 1 8 3, [.t 164, .t 171], none⟩,
     ⟨(some 173), .faddr 1, [.t 20], none⟩,
     ⟨none, .store 1, [.t 173, .t 172], none⟩]))
   (.reg [⟨(some 161), .mov, [.t 21], none⟩,
     ⟨(some 162), .bin .add, [.t 161, .c (.int .i64 1)], none⟩,
     ⟨(some 21), .mov, [.t 162], none⟩]))))))
   (.seq (.reg [⟨(some 174), .faddr 1, [.t 19], none⟩,
     ⟨(some 175), .load 1 false, [.t 174], none⟩,
     ⟨(some 176), .load 2 true, [.t 20], none⟩,
     ⟨(some 177), .mkslice 2 72, [.t 176], none⟩,
     ⟨(some 178), .append 2 32 72, [.t 175, .t 177], none⟩,
     ⟨(some 179), .faddr 1, [.t 19], none⟩,
     ⟨none, .store 1, [.t 179, .t 178], none⟩])
   (.seq (.reg [⟨(some 181), .load 2 true, [.t 19], none⟩,
     ⟨(some 182), .call 26, [.t 181], none⟩,
     ⟨(some 180), .mov, [.t 182], none⟩,
     ⟨(some 183), .extract 0, [.t 180], none⟩,
     ⟨(some 184), .extract 1, [.t 180], none⟩,
     ⟨(some 185), .extract 2, [.t 180], none⟩,
     ⟨(some 18), .mov, [.t 184], none⟩,
     ⟨(some 11), .mov, [.t 185], none⟩])
   (.seq (.reg [⟨(some 186), .mov, [.t 11], none⟩,
     ⟨(some 187), .bin .eql, [.t 186, .c (.int .i64 74)], none⟩,
     ⟨(some 188), .mov, [.t 187], none⟩,
     ⟨(some 189), .faddr 1, [.t 3], (some (188, true))⟩,
     ⟨(some 190), .load 1 false, [.t 189], (some (188, true))⟩,
     ⟨(some 191), .len false, [.t 190], (some (188, true))⟩,
     ⟨(some 192), .bin .eql, [.t 191, .c (.int .i64 10)], (some (188, true))⟩,
     ⟨(some 193), .pick, [.t 188, .t 192, .c (.bool false)], none⟩,
     ⟨(some 194), .mov, [.t 193], none⟩,
     ⟨(some 195), .mov, [.t 11], (some (194, false))⟩,
     ⟨(some 196), .bin .eql, [.t 195, .c (.int .i64 0)], (some (194, false))⟩,
     ⟨(some 197), .mov, [.t 196], (some (194, false))⟩,
     ⟨(some 198), .mov, [.t 18], (some (197, true))⟩,
     ⟨(some 199), .mov, [.t 8], (some (197, true))⟩,
     ⟨(some 200), .bin .leq, [.t 198, .t 199], (some (197, true))⟩,
     ⟨(some 201), .pick, [.t 197, .t 200, .c (.bool false)], (some (194, false))⟩,
     ⟨(some 202), .pick, [.t 194, .c (.bool true), .t 201], none⟩,
     ⟨(some 203), .mov, [.t 202], none⟩,
     ⟨(some 204), .call 14, [], (some (203, true))⟩,
     ⟨(some 205), .pick, [.t 203, .t 204, .c (.bool false)], none⟩,
     ⟨(some 6), .mov, [.t 205], none⟩])
   .ret))))))))))))))))))
theorem chk.law07_BinLess : chkF Tryd.prog 8 = some (206, ir.law07_BinLess, [.tmp 6]) := by kernel_rfl

/-- paravane/bin.Covers -/
abbrev F.bin_Covers : Nat := 22
def ir.bin_Covers : IC :=
 (.seq (.reg [⟨(some 2), .box, [.t 0], none⟩,
     ⟨(some 4), .mov, [.c (.bool false)], none⟩,
     ⟨(some 5), .mov, [.c (.int .i64 0)], none⟩])
   (.seq (.seq (.reg [⟨(some 9), .load 2 true, [.t 2], none⟩,
     ⟨(some 10), .call 24, [.t 9], none⟩,
     ⟨(some 6), .mov, [.t 10], none⟩])
   (.seq (.reg [⟨(some 11), .mov, [.t 6], none⟩,
     ⟨(some 12), .bin .neq, [.t 11, .c (.int .i64 0)], none⟩])
   (.cond (.t 12) (.seq (.reg [⟨(some 13), .mov, [.t 6], none⟩,
     ⟨(some 4), .mov, [.c (.bool false)], none⟩,
     ⟨(some 5), .mov, [.t 13], none⟩])
   .ret) .skip)))
   (.seq (.reg [⟨(some 15), .load 2 true, [.t 2], none⟩,
     ⟨(some 16), .mov, [.t 1], none⟩,
     ⟨(some 17), .call 59, [.t 15, .t 16], none⟩,
     ⟨(some 14), .mov, [.t 17], none⟩,
     ⟨(some 18), .extract 0, [.t 14], none⟩,
     ⟨(some 19), .extract 1, [.t 14], none⟩,
     ⟨(some 7), .mov, [.t 18], none⟩,
     ⟨(some 8), .mov, [.t 19], none⟩])
   (.seq (.seq (.reg [⟨(some 20), .mov, [.t 8], none⟩,
     ⟨(some 21), .un .not, [.t 20], none⟩])
   (.cond (.t 21) (.seq (.reg [⟨(some 4), .mov, [.c (.bool false)], none⟩,
     ⟨(some 5), .mov, [.c (.int .i64 75)], none⟩])
   .ret) .skip))
   (.seq (.reg [⟨(some 22), .load 2 true, [.t 2], none⟩,
     ⟨(some 23), .mov, [.t 7], none⟩,
     ⟨(some 24), .call 60, [.t 22, .t 23], none⟩,
     ⟨(some 4), .mov, [.t 24], none⟩,
     ⟨(some 5), .mov, [.c (.int .i64 0)], none⟩])
   .ret)))))
theorem chk.bin_Covers : chkF Tryd.prog 22 = some (25, ir.bin_Covers, [.tmp 4, .tmp 5]) := by kernel_rfl

/-- paravane/paravaneref00.Own -/
abbrev F.ref00_Own : Nat := 31
def ir.ref00_Own : IC :=
 (.seq (.reg [⟨(some 2), .mov, [.c .nils], none⟩])
   (.seq (.reg [⟨(some 3), .mov, [.c .nils], none⟩])
   (.seq (.reg [⟨(some 4), .mov, [.t 3], none⟩,
     ⟨(some 5), .mov, [.t 0], none⟩,
     ⟨(some 6), .append 1 8 3, [.t 4, .t 5], none⟩,
     ⟨(some 2), .mov, [.t 6], none⟩])
   .ret)))
theorem chk.ref00_Own : chkF Tryd.prog 31 = some (7, ir.ref00_Own, [.tmp 2]) := by kernel_rfl

/-- paravane/bin.bits -/
abbrev F.bin_bits : Nat := 59
def ir.bin_bits : IC :=
 (.seq (.reg [⟨(some 2), .box, [.t 0], none⟩,
     ⟨(some 4), .mov, [.c (.int .i64 0)], none⟩,
     ⟨(some 5), .mov, [.c (.bool false)], none⟩])
   (.seq (.reg [⟨(some 6), .mov, [.c (.int .i64 0)], none⟩,
     ⟨(some 7), .mov, [.c (.int .i64 (-1))], none⟩])
   (.seq (.seq (.reg [⟨(some 10), .mov, [.t 1], none⟩,
     ⟨(some 11), .len false, [.t 10], none⟩,
     ⟨(some 12), .mov, [.c (.int .i64 0)], none⟩])
   (.block 0 (.loop (.seq (.reg [⟨(some 13), .bin .lss, [.t 12, .t 11], none⟩])
   (.seq (.cond (.t 13) .skip (.exit 0))
   (.seq (.block 1 (.seq (.reg [⟨(some 14), .iaddrS 1, [.t 10, .t 12], none⟩,
     ⟨(some 15), .load 1 false, [.t 14], none⟩,
     ⟨(some 9), .mov, [.t 15], none⟩])
   (.seq (.seq (.reg [⟨(some 16), .mov, [.t 9], none⟩,
     ⟨(some 17), .mov, [.t 7], none⟩,
     ⟨(some 18), .bin .add, [.t 17, .c (.int .i64 1)], none⟩,
     ⟨(some 19), .faddr 1, [.t 2], none⟩,
     ⟨(some 20), .load 1 false, [.t 19], none⟩,
     ⟨(some 21), .len false, [.t 20], none⟩,
     ⟨(some 22), .bin .sub, [.t 21, .c (.int .i64 1)], none⟩,
     ⟨(some 23), .call 47, [.t 16, .t 18, .t 22], none⟩,
     ⟨(some 24), .un .not, [.t 23], none⟩])
   (.cond (.t 24) (.seq (.reg [⟨(some 4), .mov, [.c (.int .i64 0)], none⟩,
     ⟨(some 5), .mov, [.c (.bool false)], none⟩])
   .ret) .skip))
   (.reg [⟨(some 25), .mov, [.t 6], none⟩,
     ⟨(some 26), .mov, [.t 9], none⟩,
     ⟨(some 27), .bin .shl, [.c (.int .i64 1), .t 26], none⟩,
     ⟨(some 28), .bin .or, [.t 25, .t 27], none⟩,
     ⟨(some 29), .mov, [.t 9], none⟩,
     ⟨(some 6), .mov, [.t 28], none⟩,
     ⟨(some 7), .mov, [.t 29], none⟩]))))
   (.reg [⟨(some 30), .bin .add, [.t 12, .c (.int .i64 1)], none⟩,
     ⟨(some 12), .mov, [.t 30], none⟩])))))))
   (.seq (.reg [⟨(some 31), .mov, [.t 6], none⟩,
     ⟨(some 4), .mov, [.t 31], none⟩,
     ⟨(some 5), .mov, [.c (.bool true)], none⟩])
   .ret))))
theorem chk.bin_bits : chkF Tryd.prog 59 = some (32, ir.bin_bits, [.tmp 4, .tmp 5]) := by kernel_rfl

end Go.Proofs.YtffoiccokigjcaaDoor

/-! AM, part Zr: an empty slice that is made, as a row that grows. -/
set_option linter.unusedVariables false
set_option linter.unusedSimpArgs false
namespace Go.Am
open Go.RowKit

theorem does_mkRow {E : Env} {σ : FSt} {d sz e : Nat} (hd : σ.r d = none) : Does E σ ⟨some d, .mkslice sz e, [], none⟩ { v := .slice (d + 1) sz [], wr := [(d, 0, sz, e)], rr := [d] } [.row d] := by
  refine .sem fun τ hτ slots ops j o ro nn log stp a w h hc hs hi R Q next hnx => ?_
  have hd' : τ.r d = none := by rw [r_eq (hτ (.row d) (by simp))]; exact hd
  obtain ⟨os, cc⟩ := comp_of hc
  have hdf := opK_defer cc.op
  have hgo : o.guard = none := by
    rcases cc.guard with ⟨_, e⟩ | ⟨_, _, _, _, _, e⟩
    · exact e
    · cases e
  obtain ⟨t, len, parts, ie, z, ho, ht, hie, hz, hzs, hsz, hidx, rfl⟩ := opK_mksliceE cc.op
  have hO := opds_of R.1 cc.xs (vs := []) rfl
  have hlen : len = 0 := by
    have h1 := hO.get.1
    have h2 := congrArg List.length hidx
    simp at h1 h2
    omega
  subst hlen
  have hp : parts = #[] := by
    have h1 := hO.get.1
    simp at h1
    exact Array.size_eq_zero_iff.1 h1.symm
  have hrun : (Instr.buildSlice t 0 (parts.map fun (i, x) => (i, a.eval x))).run E.P w = .ok (.slice (some ⟨w.heap.size, 0, none⟩) 0 0) (w.alloc (.cells #[] e)) := by
    subst hp
    have hr0 : Array.range 0 = #[] := rfl
    simp [Instr.buildSlice, run_underlying ht, sizeOf, typeInfo, zeroValue, hie, hz, newRow, Instr.fill, hr0]
  have hex : (execOp a.eval o).run E.P w = .ok (.value (.slice (some ⟨w.heap.size, 0, none⟩) 0 0)) (w.alloc (.cells #[] e)) := by
    simp only [execOp, ho, Sem.run_bind, hrun]; rfl
  obtain ⟨R1, ext⟩ := R.1.setRow (r := d) (n := 0) (sz := sz) (e := e) (blk := w.heap.size) (cs := #[]) (w' := w.alloc (.cells #[] e)) E.ok (.inl hd') (.inl (Nat.le_refl _)) (by rw [heap_push]; simp) (fun b hb _ => Below.heap_alloc w _ b hb) (by simp) rfl rfl rfl
    (fun o' ho' => by rw [R.1.top _ (Nat.le_refl _)] at ho'; omega) (by simp) (by simp)
  have hg := growOk (σ' := τ.set (.row d) (.r 0 sz e)) (h' := { h with φ := fun b => if b = w.heap.size then 0 * sz else h.φ b, M := fun b => h.M b ∨ b = w.heap.size, γ := fun k => if k = d then some w.heap.size else h.γ k })
    (w' := w.alloc (.cells #[] e)) (r := d) (n := 0) (sz := sz) (e := e) (blk := w.heap.size) (cap := 0) (xs := []) (cs := #[]) (by simp) rfl (by simp) (by rw [heap_push]; simp) (by simp) (by omega) (by unfold maxLen; omega)
  have key := rel_after (eff := { v := .slice (d + 1) sz [], wr := [(d, 0, sz, e)], rr := [d] }) cc R R1 ⟨.named d sz [] _ (.slice0 _ _ _), hg⟩ rfl
  exact wpOp_done hi (wanted_none hgo) hdf (.inl hex) (hnx _ _ _ key rfl)

theorem Steps.mkRow {E : Env} {s : St} {K : St → Prop} {d sz e : Nat} {rest : List Ins} (hd : get s.rw d = none)
    (hk : Steps E rest K ((s.eff { v := .slice (d + 1) sz [], wr := [(d, 0, sz, e)], rr := [d] }).put (some d) (.slice (d + 1) sz []))) : Steps E (⟨some d, .mkslice sz e, [], none⟩ :: rest) K s :=
  Step1.does (ins := ⟨some d, .mkslice sz e, [], none⟩) (does_mkRow (by rw [fs_r]; exact hd)) hk

theorem TraceK.mkRow {E : Env} {s : St} {K : List (List Loc × List Loc) → St → List Ins → Prop} {d sz e : Nat} {rest : List Ins} (hd : get s.rw d = none)
    (tr : TraceK E ((s.eff { v := .slice (d + 1) sz [], wr := [(d, 0, sz, e)], rr := [d] }).put (some d) (.slice (d + 1) sz [])) rest fun fp s' r' => K ((wrOf ⟨some d, .mkslice sz e, [], none⟩ { v := .slice (d + 1) sz [], wr := [(d, 0, sz, e)], rr := [d] }, [.row d]) :: fp) s' r') : TraceK E s (⟨some d, .mkslice sz e, [], none⟩ :: rest) K :=
  .step (ins := ⟨some d, .mkslice sz e, [], none⟩) (does_mkRow (by rw [fs_r]; exact hd)) tr

end Go.Am

/-! Weakening inside a region. -/
set_option linter.unusedVariables false
set_option linter.unusedSimpArgs false
namespace Go.Proofs.YtffoiccokigjcaaDoor
open Go.Am

theorem stepsWeak {E : Env} {s s' : St} {i : Ins} {r : List Ins} {K : St → Prop} (h : Wk E s s') (k : Am.Steps E (i :: r) K s') : Am.Steps E (i :: r) K s := by
  refine Step1.raw fun slots ops o j ro n a w hh hc hs hi R Q next hn => ?_
  obtain ⟨h', R', hy⟩ := h a w hh R
  exact step_ok (k : Step1 E i (Am.Steps E r K) s') hc hs hi R' fun s'' a' w' h'' k R ey => hn s'' a' w' h'' k R (ey.trans hy)

theorem VLe.agg2 {a b c d : V} (h : VLe a c) (k : VLe b d) : VLe (.agg [a, b]) (.agg [c, d]) := .agg rfl fun i v u h1 h2 => by
  match i with
  | 0 => cases h1; cases h2; exact h
  | 1 => cases h1; cases h2; exact k
  | i + 2 => simp at h1

end Go.Proofs.YtffoiccokigjcaaDoor

/-! Plain laws of choices: the best one; a lack less, a pass more; choices as numbers. -/
set_option linter.unusedVariables false
set_option linter.unusedSimpArgs false
set_option maxRecDepth 40000
set_option maxHeartbeats 4000000
namespace Go.Proofs.YtffoiccokigjcaaDoor
open Go.Am

/-! ### The best choice -/
def bestTo (x : Nf) (wo k : Nat) : Nat × Bool := (List.range k).foldl (bestStep x wo) (0, false)

theorem bestTo_spec (x : Nf) (wo : Nat) : ∀ k, ((bestTo x wo k).2 = true → (bestTo x wo k).1 < k ∧ skips x wo (bestTo x wo k).1 = false) ∧ ∀ b < k, skips x wo b = false → (bestTo x wo k).2 = true ∧ costB x (bestTo x wo k).1 ≤ costB x b
  | 0 => ⟨fun h => by simp [bestTo] at h, fun b h => by omega⟩
  | k + 1 => by
    obtain ⟨h1, h2⟩ := bestTo_spec x wo k
    have e : bestTo x wo (k + 1) = bestStep x wo (bestTo x wo k) k := by unfold bestTo; rw [List.range_succ, List.foldl_append]; rfl
    rw [e]
    obtain ⟨⟨o, so⟩, hos⟩ : ∃ p, bestTo x wo k = p := ⟨_, rfl⟩
    rw [hos] at h1 h2 ⊢
    unfold bestStep
    by_cases hk : skips x wo k = true
    · rw [if_pos hk]
      refine ⟨fun h => ⟨by have := (h1 h).1; omega, (h1 h).2⟩, fun b hb hs => ?_⟩
      rcases Nat.lt_succ_iff_lt_or_eq.1 hb with hb | rfl
      · exact h2 b hb hs
      · rw [hk] at hs; cases hs
    have hk : skips x wo k = false := by simpa using hk
    rw [hk, if_neg (by simp)]
    cases so with
    | false =>
      rw [if_pos (show (!(o, false).2) = true from rfl)]
      refine ⟨fun _ => ⟨by simp, hk⟩, fun b hb hs => ?_⟩
      rcases Nat.lt_succ_iff_lt_or_eq.1 hb with hb | rfl
      · have := (h2 b hb hs).1; cases this
      · exact ⟨rfl, Int.le_refl _⟩
    | true =>
      rw [if_neg (by simp)]
      obtain ⟨a1, a2⟩ := h1 rfl
      by_cases hb : better x k o = true
      · rw [if_pos hb]
        have hle : costB x k ≤ costB x o := by
          unfold better at hb
          split at hb
          · have := of_decide_eq_true hb; omega
          · rename_i h; have := Classical.not_not.1 h; omega
        refine ⟨fun _ => ⟨by simp, hk⟩, fun b hb hs => ?_⟩
        rcases Nat.lt_succ_iff_lt_or_eq.1 hb with hb | rfl
        · exact ⟨rfl, Int.le_trans hle (h2 b hb hs).2⟩
        · exact ⟨rfl, Int.le_refl _⟩
      · rw [if_neg hb]
        have hle : costB x o ≤ costB x k := by
          have hb : better x k o = false := by simpa using hb
          unfold better at hb
          split at hb
          · have := of_decide_eq_false hb; omega
          · rename_i h; have := Classical.not_not.1 h; omega
        refine ⟨fun _ => ⟨by simp only at a1 ⊢; omega, a2⟩, fun b hb hs => ?_⟩
        rcases Nat.lt_succ_iff_lt_or_eq.1 hb with hb | rfl
        · exact h2 b hb hs
        · exact ⟨rfl, hle⟩

theorem skips0 (x : Nf) (b : Nat) : skips x 0 b = !coversB x b := by simp [skips]

theorem best_some {x : Nf} (h : (bestN x 0).2 = true) : (bestN x 0).1 < 2 ^ x.passes.length ∧ coversB x (bestN x 0).1 = true := by
  have := (bestTo_spec x 0 (2 ^ x.passes.length)).1 h
  rw [skips0] at this
  exact ⟨this.1, (Bool.not_eq_eq_eq_not.1 this.2)⟩
theorem best_least {x : Nf} {b : Nat} (hb : b < 2 ^ x.passes.length) (hc : coversB x b = true) : (bestN x 0).2 = true ∧ costB x (bestN x 0).1 ≤ costB x b :=
  (bestTo_spec x 0 (2 ^ x.passes.length)).2 b hb (by rw [skips0, hc]; rfl)

/-! ### A lack less -/
def LeI : List Int → List Int → Prop
  | [], [] => True
  | a :: l, b :: m => a ≤ b ∧ LeI l m
  | _, _ => False

theorem LeI.refl : ∀ l, LeI l l
  | [] => trivial
  | a :: l => ⟨Int.le_refl a, LeI.refl l⟩
theorem LeI.rest : ∀ {c d : List Int} (a : List Int), LeI c d → LeI (restN c a) (restN d a)
  | [], [], a, _ => by simp [restN, LeI]
  | x :: c, y :: d, [], _ => trivial
  | x :: c, y :: d, z :: a, h => by
    have := LeI.rest a h.2
    have h1 := h.1
    have e : max 0 (x - z) ≤ max 0 (y - z) := by omega
    exact ⟨e, this⟩
  | [], _ :: _, _, h => h.elim
  | _ :: _, [], _, h => h.elim
theorem LeI.rests {p : Nat → List Int} : ∀ (l : List Nat) {c d : List Int}, LeI c d → LeI (l.foldl (fun c i => restN c (p i)) c) (l.foldl (fun c i => restN c (p i)) d)
  | [], c, d, h => h
  | i :: l, c, d, h => LeI.rests l (h.rest (p i))
theorem LeI.sum : ∀ {c d : List Int} (z w : Int), LeI c d → z ≤ w → c.foldl (· + ·) z ≤ d.foldl (· + ·) w
  | [], [], _, _, _, h => h
  | x :: c, y :: d, z, w, h, h2 => LeI.sum (z + x) (w + y) h.2 (by have := h.1; omega)
  | [], _ :: _, _, _, h, _ => h.elim
  | _ :: _, [], _, _, h, _ => h.elim
theorem sum_nonneg : ∀ (l : List Int) (z : Int), 0 ≤ z → (∀ n ∈ l, 0 ≤ n) → 0 ≤ l.foldl (· + ·) z
  | [], z, h, _ => h
  | a :: l, z, h, k => sum_nonneg l (z + a) (by have := k a (by simp); omega) fun n hn => k n (by simp [hn])
theorem restN_nonneg {n : Int} : ∀ (c a : List Int), n ∈ restN c a → 0 ≤ n
  | [], a, h => by simp [restN] at h
  | x :: c, [], h => by simp [restN] at h
  | x :: c, y :: a, h => by
    have e : restN (x :: c) (y :: a) = max 0 (x - y) :: restN c a := rfl
    rw [e] at h
    rcases List.mem_cons.1 h with rfl | h
    · omega
    · exact restN_nonneg c a h
theorem rests_nonneg {p : Nat → List Int} : ∀ (l : List Nat) {c : List Int}, (∀ n ∈ c, 0 ≤ n) → ∀ n ∈ l.foldl (fun c i => restN c (p i)) c, 0 ≤ n
  | [], c, h => h
  | i :: l, c, h => rests_nonneg l (c := restN c (p i)) fun n hn => restN_nonneg _ _ hn

theorem covers_mono {x y : Nf} (hp : x.passes = y.passes) (hl : LeI y.lacks x.lacks) (hn : ∀ n ∈ y.lacks, 0 ≤ n) {b : Nat} (h : coversB x b = true) : coversB y b = true := by
  unfold coversB at h ⊢
  have h := of_decide_eq_true h
  refine decide_eq_true ?_
  have e : ∀ z : Nf, restsL z (choiceN b) = (choiceN b).foldl (fun c i => restN c (addsOf z i)) z.lacks := fun z => rfl
  have ea : addsOf y = addsOf x := by unfold addsOf; rw [hp]
  have h1 := (LeI.rests (p := addsOf x) (choiceN b) hl).sum 0 0 (Int.le_refl 0)
  have h2 := sum_nonneg _ 0 (Int.le_refl 0) (rests_nonneg (p := addsOf x) (choiceN b) hn)
  unfold sumF at h ⊢
  rw [List.map_id] at h ⊢
  rw [e] at h ⊢
  rw [ea]
  omega

theorem less_best {x y : Nf} (hp : x.passes = y.passes) (hl : LeI y.lacks x.lacks) (hn : ∀ n ∈ y.lacks, 0 ≤ n) (h : (bestN x 0).2 = true) : (bestN y 0).2 = true ∧ costB y (bestN y 0).1 ≤ costB x (bestN x 0).1 := by
  obtain ⟨h1, h2⟩ := best_some h
  have := best_least (x := y) (by rw [← hp]; exact h1) (covers_mono hp hl hn h2)
  have ec : costB y (bestN x 0).1 = costB x (bestN x 0).1 := by unfold costB costOf; rw [hp]
  rw [ec] at this
  exact this

/-! ### A pass more -/
theorem mem_choiceN {b i : Nat} (h : i ∈ choiceN b) : b.testBit i = true := (List.mem_filter.1 h).2
theorem rests_app {x y : Nf} (hl : y.lacks = x.lacks) {p : Ps} (hp : y.passes = x.passes ++ [p]) {b : Nat} (hb : b < 2 ^ x.passes.length) : restsL y (choiceN b) = restsL x (choiceN b) ∧ costB y b = costB x b := by
  have hlt : ∀ i ∈ choiceN b, i < x.passes.length := fun i hi => by
    have := mem_choiceN hi
    by_cases h : i < x.passes.length
    · exact h
    · have h2 := Nat.testBit_lt_two_pow (x := b) (i := i) (Nat.lt_of_lt_of_le hb (Nat.pow_le_pow_right (by omega) (by omega)))
      rw [h2] at this; cases this
  have hg : ∀ i ∈ choiceN b, y.passes.getD i p0 = x.passes.getD i p0 := fun i hi => by
    have := hlt i hi
    rw [hp, List.getD_eq_getElem?_getD, List.getElem?_append_left this, ← List.getD_eq_getElem?_getD]
  constructor
  · unfold restsL
    rw [hl]
    have : ∀ (l : List Nat) (c : List Int), (∀ i ∈ l, y.passes.getD i p0 = x.passes.getD i p0) → l.foldl (fun c i => restN c (addsOf y i)) c = l.foldl (fun c i => restN c (addsOf x i)) c := by
      intro l
      induction l with
      | nil => intros; rfl
      | cons i l ih =>
        intro c h
        rw [List.foldl_cons, List.foldl_cons, ih _ fun j hj => h j (by simp [hj])]
        unfold addsOf
        rw [h i (by simp)]
    exact this _ _ hg
  · unfold costB sumF choiceL castL
    congr 1
    rw [List.map_map, List.map_map]
    refine List.map_congr_left fun i hi => ?_
    simp only [Function.comp, Int.toNat_natCast]
    unfold costOf
    rw [hg i hi]

theorem more_best {x y : Nf} (hl : y.lacks = x.lacks) {p : Ps} (hp : y.passes = x.passes ++ [p]) (h : (bestN x 0).2 = true) : (bestN y 0).2 = true ∧ costB y (bestN y 0).1 ≤ costB x (bestN x 0).1 := by
  obtain ⟨h1, h2⟩ := best_some h
  obtain ⟨e1, e2⟩ := rests_app hl hp h1
  have hlt : (bestN x 0).1 < 2 ^ y.passes.length := by
    rw [hp, List.length_append]
    exact Nat.lt_of_lt_of_le h1 (Nat.pow_le_pow_right (by omega) (by omega))
  have := best_least (x := y) hlt (by unfold coversB at h2 ⊢; rw [e1]; exact h2)
  rw [e2] at this
  exact this

/-! ### A choice as a number -/
def bitsG (n : Nat) : List Int → Nat → Int → Option Nat
  | [], out, _ => some out
  | i :: l, out, last => if btw i (last + 1) ((n : Int) - 1) then bitsG n l (out ||| 2 ^ i.toNat) i else none

theorem choice_or : ∀ i < 10, ∀ b < 2 ^ i, choiceN (b ||| 2 ^ i) = choiceN b ++ [i] := by decide +kernel

theorem bitsG_spec {n : Nat} (hn : n ≤ 10) : ∀ (l : List Int) (out : Nat) (last : Nat) (r : Nat), last ≤ n → out < 2 ^ last → bitsG n l out ((last : Int) - 1) = some r → r < 2 ^ n ∧ choiceL r = choiceL out ++ l
  | [], out, last, r, hl, ho, h => by
    obtain rfl := Option.some.inj h
    exact ⟨Nat.lt_of_lt_of_le ho (Nat.pow_le_pow_right (by omega) hl), by simp⟩
  | i :: l, out, last, r, hl, ho, h => by
    simp only [bitsG] at h
    split at h
    · rename_i hb
      rw [btw_iff] at hb
      obtain ⟨k, rfl⟩ : ∃ k : Nat, i = k := ⟨i.toNat, by omega⟩
      rw [Int.toNat_natCast] at h
      have hk : k < n := by omega
      have hok : out < 2 ^ k := Nat.lt_of_lt_of_le ho (Nat.pow_le_pow_right (by omega) (by omega))
      have ho2 : out ||| 2 ^ k < 2 ^ (k + 1) := Nat.or_lt_two_pow (Nat.lt_of_lt_of_le hok (Nat.pow_le_pow_right (by omega) (by omega))) (Nat.pow_lt_pow_right (by omega) (by omega))
      obtain ⟨h1, h2⟩ := bitsG_spec hn l (out ||| 2 ^ k) (k + 1) r (by omega) ho2 (by rw [show ((k + 1 : Nat) : Int) - 1 = k by omega]; exact h)
      refine ⟨h1, ?_⟩
      rw [h2]
      unfold choiceL castL
      rw [choice_or k (by omega) out hok]
      simp
    · cases h

theorem bitsG_choice : ∀ n < 11, ∀ b < 2 ^ n, bitsG n (choiceL b) 0 (-1) = some b := by decide +kernel

end Go.Proofs.YtffoiccokigjcaaDoor

/-! Contracts: bits, Covers, Own. -/
set_option linter.unusedVariables false
set_option linter.unusedSimpArgs false
set_option maxRecDepth 40000
set_option maxHeartbeats 4000000
namespace Go.Proofs.YtffoiccokigjcaaDoor
open Go.Am
attribute [local simp] cells scalar mkv splice under2 under dem dem1 eQ nfC intsV

def bitsR : Option Nat → V
  | some b => .tuple [I (b : Nat), .bool true]
  | none => .tuple [I 0, .bool false]

theorem bitsG_drop {n : Nat} {l : List Int} {k : Nat} (h : k < l.length) (out : Nat) (last : Int) : bitsG n (l.drop k) out last = if btw l[k] (last + 1) ((n : Int) - 1) then bitsG n (l.drop (k + 1)) (out ||| 2 ^ l[k].toNat) l[k] else none := by
  rw [List.drop_eq_getElem_cons h]; rfl

theorem c_bits {x : Nf} (hx : nfOk x = true) {l : List Int} (hl : l.length ≤ 9223372036854775807) : C Tryd.prog F.bin_bits [.agg (nfC x), intsV l] (bitsR (bitsG x.passes.length l 0 (-1))) := by
  have h10 := (nfOk_spec hx).1.2
  refine C_of mixed chk.bin_bits (by simp) fun S ok => ?_
  refine Tr.seqR rfl (by simp) (Tr.seqR rfl (by simp) (Tr.seq (Tr.seqR rfl (by simp) (Tr.block ?_))))
  refine Tr.loop (α := Nat × Nat × Int) (fun p st => (p.1 ≤ l.length ∧ p.2.1 < 1024 ∧ (-1 ≤ p.2.2 ∧ p.2.2 ≤ 10) ∧ bitsG x.passes.length l 0 (-1) = bitsG x.passes.length (l.drop p.1) p.2.1 p.2.2) ∧ st = { env := [(2, .ptr 2 0), (6, I (p.2.1 : Nat)), (7, I p.2.2), (10, intsV l), (11, I (l.length : Nat)), (12, I (p.1 : Nat))], bx := [(2, ⟨nfC x, false⟩)], rw := [], log := [], stp := false }) (fun p => l.length - p.1) (0, 0, -1)
    (Wk.le (.cons rfl (.refl _) (.cons rfl (.refl _) (.cons rfl (.refl _) (.cons rfl (.refl _) (.cons rfl (VLe.i (by simp)) (.cons rfl (.refl _) .nil)))))) (.cons rfl (LLe.refl _) .nil) .nil rfl rfl) ⟨⟨by simp, by simp, by simp, rfl⟩, rfl⟩ ?_
  rintro ⟨k, out, last⟩ st ⟨⟨hk, ho, hla, hG⟩, rfl⟩
  simp only at hk ho hla hG
  refine Tr.seqR rfl (by simp) (Tr.seqI rfl (fun h1 => ?_) (fun h1 => ?_))
  · have h1 : k < l.length := by simpa using h1
    rw [bitsG_drop h1] at hG
    have hw1 : IntKind.wrap .i64 (last + 1) = last + 1 := w64 (by omega) (by omega)
    have hw2 : IntKind.wrap .i64 (((x.passes.map eQ).length : Int) - 1) = (x.passes.length : Int) - 1 := by rw [List.length_map, w64 (by omega) (by omega)]
    have kw := c_within l[k] (IntKind.wrap .i64 (last + 1)) (IntKind.wrap .i64 (((x.passes.map eQ).length : Int) - 1))
    refine Tr.skipT (Tr.seq (Tr.block ?_))
    refine Tr.seqN 1 rfl (by simp; omega) ?_
    rw [getD_map h1]
    refine Steps.fin rfl (by simp) ?_
    refine Tr.seq (Tr.seqC rfl (by simp) (Steps.call rfl rfl kw (Steps.fin rfl (by simp) ?_)))
    rw [hw1, hw2]
    refine Tr.cond rfl rfl (fun h2 => ?_) (fun h2 => Tr.skip ?_)
    · have h2 : (!btw l[k] (last + 1) ((x.passes.length : Int) - 1)) = true := h2
      have h2 : btw l[k] (last + 1) ((x.passes.length : Int) - 1) = false := by simpa using h2
      rw [h2] at hG
      refine Tr.seqR rfl (by simp) (Tr.retX rfl rfl rfl ?_ trivial)
      rw [hG]; rfl
    · have h2 : (!btw l[k] (last + 1) ((x.passes.length : Int) - 1)) = false := h2
      have h2 : btw l[k] (last + 1) ((x.passes.length : Int) - 1) = true := by simpa using h2
      rw [h2, if_pos rfl] at hG
      rw [btw_iff] at h2
      obtain ⟨q, hq⟩ : ∃ q : Nat, l[k] = (q : Int) := ⟨l[k].toNat, by omega⟩
      rw [hq] at h2 hG ⊢
      rw [Int.toNat_natCast] at hG
      have hq9 : q < 10 := by omega
      have hp : 2 ^ q < 1024 := Nat.lt_of_lt_of_le (Nat.pow_lt_pow_right (by omega) hq9) (Nat.le_refl _)
      have hor : out ||| 2 ^ q < 1024 := Nat.or_lt_two_pow (n := 10) ho hp
      refine Tr.reg (Steps.run rfl (by simp) ?_)
      refine Tr.regR rfl (by simp) ?_
      refine ⟨(k + 1, out ||| 2 ^ q, (q : Int)), _, Wk.le (.cons rfl (.refl _) (.cons rfl (VLe.i ?_) (.cons rfl (.refl _) (.cons rfl (.refl _) (.cons rfl (.refl _) (.cons rfl (VLe.i (w64 (by omega) (by omega))) .nil)))))) (.cons rfl (LLe.refl _) .nil) .nil rfl rfl, ⟨⟨by simp only; omega, hor, ⟨by simp only; omega, by simp only; omega⟩, hG⟩, rfl⟩, by simp only; omega⟩
      show bitsV .or .i64 (out : Int) (IntKind.wrap .i64 (1 * 2 ^ (min (q : Int).toNat 64))) = _
      rw [bit_shl q (by omega), bits_or out (2 ^ q) (by omega) (by omega)]
  · have h1 : k = l.length := by simp at h1; omega
    subst h1
    rw [List.drop_length] at hG
    refine Tr.exit (Tr.seqR rfl (by simp) (Tr.retX rfl rfl rfl ?_ trivial))
    rw [hG]; rfl

def CoversR (x : Nf) (l : List Int) : V := if nfOk x then (match bitsG x.passes.length l 0 (-1) with | some b => .tuple [.bool (coversB x b), I 0] | none => .tuple [.bool false, I 75]) else .tuple [.bool false, I 74]

theorem c_Covers {x : Nf} (hx : ∀ p ∈ x.passes, p.adds.length ≤ 9223372036854775807) {l : List Int} (hl : l.length ≤ 9223372036854775807) : C Tryd.prog F.bin_Covers [.agg (nfC x), intsV l] (CoversR x l) := by
  have kc := c_CheckInfill hx
  unfold CoversR
  refine C_of mixed chk.bin_Covers (by simp) fun S ok => ?_
  refine Tr.seqR rfl (by simp) ?_
  by_cases hk : nfOk x = true
  rotate_left
  · rw [if_neg hk] at kc ⊢
    refine Tr.seq (Tr.seqC rfl (by simp) (Steps.call rfl rfl kc (Steps.fin rfl (by simp) (Tr.seqR rfl (by simp) (Tr.condT rfl (Tr.seqR rfl (by simp) ?_))))))
    exact Tr.retX rfl rfl rfl rfl trivial
  rw [if_pos hk] at kc ⊢
  refine Tr.seq (Tr.seqC rfl (by simp) (Steps.call rfl rfl kc (Steps.fin rfl (by simp) (Tr.seqR rfl (by simp) (Tr.condF rfl (Tr.skip ?_))))))
  have kb := c_bits hk hl
  have h10 := (nfOk_spec hk).1.2
  cases hb : bitsG x.passes.length l 0 (-1) with
  | none =>
    rw [hb] at kb
    refine Tr.seqC rfl (by simp) (Steps.call rfl rfl kb (Steps.fin rfl (by simp) ?_))
    exact Tr.seq (Tr.seqR rfl (by simp) (Tr.condT rfl (Tr.seqR rfl (by simp) (Tr.retX rfl rfl rfl rfl trivial))))
  | some b =>
    rw [hb] at kb
    have hlt := (bitsG_spec h10 l 0 0 b (by omega) (by simp) hb).1
    refine Tr.seqC rfl (by simp) (Steps.call rfl rfl kb (Steps.fin rfl (by simp) ?_))
    refine Tr.seq (Tr.seqR rfl (by simp) (Tr.condF rfl (Tr.skip ?_)))
    exact Tr.seqC rfl (by simp) (Steps.call rfl rfl (c_covers hk hlt) (Steps.fin rfl (by simp) (Tr.retX rfl rfl rfl rfl trivial)))

theorem c_Own {l : List Int} (h0 : l ≠ []) (hl : l.length ≤ 1000000) : CO Tryd.prog F.ref00_Own [intsV l] 1 (l.map I) := by
  refine CO_of mixed chk.ref00_Own (by simp) fun S ok => ?_
  refine Tr.seqR rfl (by simp) (Tr.seqR rfl (by simp) ?_)
  refine Tr.seqN 2 rfl (by simp) ?_
  refine Steps.appendBox (r := 0) (ys := l.map I) rfl rfl (by omega) (by simp; omega) (by simp; omega) (by simpa using h0) ?_
  refine Steps.fin rfl (by simp) (Tr.ret ?_)
  exact ⟨6, rfl, rfl, by rw [flat_ints]; exact ints_isD l⟩

theorem c_Own0 : C Tryd.prog F.ref00_Own [intsV []] (intsV []) := by
  refine C_of mixed chk.ref00_Own (by simp) fun S ok => ?_
  refine Tr.seqR rfl (by simp) (Tr.seqR rfl (by simp) ?_)
  refine Tr.seqR rfl (by simp) ?_
  exact Tr.weak (s' := { env := [(2, intsV [])], bx := [], rw := [], log := [], stp := false }) (Wk.le (.cons rfl (.dem _ _ _) .nil) .nil .nil rfl rfl) (Tr.retX rfl rfl rfl rfl trivial)

end Go.Proofs.YtffoiccokigjcaaDoor

/-! The statement BinLess. -/
set_option linter.unusedVariables false
set_option linter.unusedSimpArgs false
set_option maxRecDepth 40000
set_option maxHeartbeats 4000000
namespace Go.Proofs.YtffoiccokigjcaaDoor
open Go.Am
attribute [local simp] cells scalar mkv splice under2 under dem dem1 eQ nfC intsV

theorem meet2 {E : Env} {ro : Option Nat} {Q : Exit → St → Prop} {s : St} {x y z : IC} (st : St) (h : Tr E ro x (qThen (Tr E ro y (qThen (fun s' => Wk E s' st) Q)) Q) s) (k : Tr E ro z Q st) : Tr E ro (.seq x (.seq y z)) Q s :=
  Tr.seq (h.mono fun e s' hq => by
    cases e with
    | normal => exact ⟨s', Wk.refl _, Tr.meet st hq k⟩
    | _ => exact ⟨s', Wk.refl _, hq⟩)

/-! ### What is changed -/
def easyN (l : List Int) (n : Int) : Nat := (restI n l.length).toNat
def easyL (l : List Int) (n : Int) : List Int := l.set (easyN l n) (max 1 (l.getD (easyN l n) 0 - 1))

theorem easy_le : ∀ (l : List Int) (k : Nat) (v : Int), (∀ h : k < l.length, v ≤ l[k]) → LeI (l.set k v) l
  | [], k, v, h => by simp [LeI]
  | a :: l, 0, v, h => ⟨h (by simp), LeI.refl l⟩
  | a :: l, k + 1, v, h => ⟨Int.le_refl a, easy_le l k v fun hk => by have := h (by simp; omega); rw [List.getElem_cons_succ] at this; exact this⟩

def addsN (n : Int) (m : Nat) : List Int := (List.range m).map fun (k : Nat) => restI (restI n 3 + k) 3
def moreP (n0 n1 : Int) (m : Nat) : Ps := ⟨1 + restI n1 20, addsN n0 m⟩

theorem nf_easy {x : Nf} (hx : nfOk x = true) (n : Int) : nfOk ⟨easyL x.lacks n, x.passes⟩ = true ∧ LeI (easyL x.lacks n) x.lacks := by
  have hx' := hx
  obtain ⟨h1, h2, h3⟩ := nfOk_spec hx
  have hle : LeI (easyL x.lacks n) x.lacks := easy_le _ _ _ fun h => by
    have := h2 _ (List.getElem_mem h)
    simp [h]; omega
  refine ⟨?_, hle⟩
  simp only [nfOk, Bool.and_eq_true, List.all_eq_true] at hx ⊢
  have hlen : (easyL x.lacks n).length = x.lacks.length := by simp [easyL]
  rw [hlen]
  refine ⟨⟨⟨hx.1.1.1, hx.1.1.2⟩, fun m hm => ?_⟩, hx.2⟩
  rcases List.mem_or_eq_of_mem_set hm with hm | rfl
  · exact hx.1.2 m hm
  · rw [btw_iff]
    by_cases h : easyN x.lacks n < x.lacks.length
    · have := h2 _ (List.getElem_mem h)
      simp [h]; omega
    · simp [h]; omega

theorem nf_more {x : Nf} (hx : nfOk x = true) (n0 n1 : Int) : nfOk ⟨x.lacks, x.passes ++ [moreP n0 n1 x.lacks.length]⟩ = decide (x.passes.length < 10) := by
  obtain ⟨h1, h2, h3⟩ := nfOk_spec hx
  have hp : passOk x.lacks.length (moreP n0 n1 x.lacks.length) = true := by
    have r1 := restI_bd (n := n1) (m := 20) (by omega)
    simp only [passOk, moreP, Bool.and_eq_true, decide_eq_true_eq, Bool.not_eq_true', List.any_eq_false]
    refine ⟨⟨by rw [btw_iff]; omega, by simp [addsN]⟩, fun m hm => ?_⟩
    obtain ⟨k, _, rfl⟩ := List.mem_map.1 hm
    have r2 := restI_bd (n := restI n0 3 + k) (m := 3) (by omega)
    have : btw (restI (restI n0 3 + (k : Int)) 3) 0 100 = true := by rw [btw_iff]; omega
    rw [this]; simp
  have hx' := hx
  simp only [nfOk, Bool.and_eq_true] at hx
  simp only [nfOk, List.length_append, List.length_singleton, List.all_append, List.all_cons, List.all_nil, hp, hx.1.1.1, hx.1.2, hx.2, Bool.and_true, Bool.true_and]
  by_cases h : x.passes.length < 10
  · rw [decide_eq_true h, decide_eq_true (by omega)]
  · rw [decide_eq_false h, decide_eq_false (by omega)]

def sumTo (x : Nf) (l : List Int) (k : Nat) : Int := ((l.take k).map fun i => costOf x i.toNat).foldl (· + ·) 0

theorem sumTo_succ {x : Nf} {l : List Int} {k : Nat} (h : k < l.length) : sumTo x l (k + 1) = sumTo x l k + costOf x l[k].toNat := by
  unfold sumTo
  rw [List.take_add_one, List.getElem?_eq_getElem h, List.map_append, List.foldl_append]; rfl

theorem c_BinLess {x : Nf} (hx : nfSane x) {ch : List Int} (hch : ch.length ≤ 9223372036854775807) (n0 n1 : Int) : C Tryd.prog F.law07_BinLess [.agg (nfC x), intsV ch, .agg [I n0, I n1]] (.bool true) := by
  have kb := c_Best hx.2
  have kc := c_Covers hx.2 hch
  unfold BestR at kb
  unfold CoversR at kc
  refine C_of mixed chk.law07_BinLess (by simp) fun S ok => ?_
  refine Tr.seqR rfl (by simp) ?_
  by_cases hk : nfOk x = true
  rotate_left
  · rw [if_neg hk] at kb
    refine Tr.seqC rfl (by simp) (Steps.call rfl rfl kb (Steps.fin rfl (by simp) ?_))
    refine Tr.seq (Tr.seqR rfl (by simp) (Tr.condT rfl ?_))
    exact Tr.seqC rfl (by simp) (Steps.gcall rfl rfl rfl rfl (by simp) (fun _ => c_works) (Steps.fin rfl (by simp) (Tr.retX rfl rfl rfl rfl trivial)))
  rw [if_pos hk] at kb kc
  obtain ⟨⟨h16, h10⟩, hl1, hp1⟩ := nfOk_spec hk
  by_cases hs : (bestN x 0).2 = true
  rotate_left
  · rw [if_neg hs] at kb
    refine Tr.seqC rfl (by simp) (Steps.call rfl rfl kb (Steps.fin rfl (by simp) ?_))
    refine Tr.seq (Tr.seqR rfl (by simp) (Tr.condF rfl (Tr.skip ?_)))
    cases hb : bitsG x.passes.length ch 0 (-1) with
    | none =>
      rw [hb] at kc
      refine Tr.seqC rfl (by simp) (Steps.call rfl rfl kc (Steps.fin rfl (by simp) ?_))
      refine Tr.seq (Tr.seqR rfl (by simp) (Tr.condF rfl (Tr.skip ?_)))
      refine Tr.seq (Tr.seqR rfl (by simp) (Tr.condT rfl ?_))
      exact Tr.seqC rfl (by simp) (Steps.call rfl rfl c_works (Steps.fin rfl (by simp) (Tr.retX rfl rfl rfl rfl trivial)))
    | some b =>
      rw [hb] at kc
      have hlt := (bitsG_spec h10 ch 0 0 b (by omega) (by simp) hb).1
      have hcv : coversB x b = false := by
        cases h : coversB x b with
        | false => rfl
        | true => exact absurd (best_least hlt h).1 hs
      simp only [hcv] at kc
      refine Tr.seqC rfl (by simp) (Steps.call rfl rfl kc (Steps.fin rfl (by simp) ?_))
      refine Tr.seq (Tr.seqR rfl (by simp) (Tr.condF rfl (Tr.skip ?_)))
      refine Tr.seq (Tr.seqR rfl (by simp) (Tr.condT rfl ?_))
      exact Tr.seqC rfl (by simp) (Steps.call rfl rfl c_works (Steps.fin rfl (by simp) (Tr.retX rfl rfl rfl rfl trivial)))
  rw [if_pos hs] at kb
  obtain ⟨hblt, hbcv⟩ := best_some hs
  have hcbd := costB_bd hk hblt
  have hleast : ∀ b < 2 ^ x.passes.length, coversB x b = true → costB x (bestN x 0).1 ≤ costB x b := fun b h1 h2 => (best_least h1 h2).2
  have hless : ∀ y : Nf, x.passes = y.passes → LeI y.lacks x.lacks → (∀ n ∈ y.lacks, 0 ≤ n) → (bestN y 0).2 = true ∧ costB y (bestN y 0).1 ≤ costB x (bestN x 0).1 := fun y a b c => less_best a b c hs
  have hmore : ∀ (y : Nf) (p : Ps), y.lacks = x.lacks → y.passes = x.passes ++ [p] → (bestN y 0).2 = true ∧ costB y (bestN y 0).1 ≤ costB x (bestN x 0).1 := fun y p a b => more_best a b hs
  obtain ⟨o, ho⟩ : ∃ o, (bestN x 0).1 = o := ⟨_, rfl⟩
  rw [ho] at kb hblt hbcv hcbd hleast hless hmore
  have ka := c_Covers hx.2 (l := choiceL o) (by have := choiceL_len o; omega)
  unfold CoversR at ka
  rw [if_pos hk, bitsG_choice x.passes.length (by omega) o hblt] at ka
  simp only [hbcv] at ka
  obtain ⟨A, hA⟩ : ∃ A, choiceL o = A := ⟨_, rfl⟩
  obtain ⟨c0, hc0⟩ : ∃ c0, costB x o = c0 := ⟨_, rfl⟩
  rw [hA] at ka kb
  rw [hc0] at kb hcbd hleast hless hmore
  refine Tr.seqC rfl (by simp) (Steps.call rfl rfl kb (Steps.fin rfl (by simp) ?_))
  refine Tr.seq (Tr.seqR rfl (by simp) (Tr.condF rfl (Tr.skip ?_)))
  refine meet2 { env := [(3, .ptr 3 0), (5, .ptr 5 0), (7, intsV A), (8, I c0), (9, I 0)], bx := [(5, ⟨[I n0, I n1], false⟩), (3, ⟨nfC x, false⟩)], rw := [], log := [], stp := false } ?_ ?_
  · cases hb : bitsG x.passes.length ch 0 (-1) with
    | none =>
      rw [hb] at kc
      refine Tr.reg (Steps.run rfl (by simp) (Steps.call rfl rfl kc (Steps.fin rfl (by simp) ?_)))
      refine Tr.seqR rfl (by simp) (Tr.condF rfl (Tr.skip ?_))
      exact Wk.le (.cons rfl (.refl _) (.cons rfl (.refl _) (.cons rfl (.refl _) (.cons rfl (.refl _) (.cons rfl (.refl _) .nil))))) (.cons rfl (LLe.refl _) (.cons rfl (LLe.refl _) .nil)) .nil rfl rfl
    | some b =>
      rw [hb] at kc
      obtain ⟨hlt, hcl⟩ := bitsG_spec h10 ch 0 0 b (by omega) (by simp) hb
      rw [show choiceL 0 = [] by decide, List.nil_append] at hcl
      cases hcv : coversB x b with
      | false =>
        simp only [hcv] at kc
        refine Tr.reg (Steps.run rfl (by simp) (Steps.call rfl rfl kc (Steps.fin rfl (by simp) ?_)))
        refine Tr.seqR rfl (by simp) (Tr.condF rfl (Tr.skip ?_))
        exact Wk.le (.cons rfl (.refl _) (.cons rfl (.refl _) (.cons rfl (.refl _) (.cons rfl (.refl _) (.cons rfl (.refl _) .nil))))) (.cons rfl (LLe.refl _) (.cons rfl (LLe.refl _) .nil)) .nil rfl rfl
      | true =>
        simp only [hcv] at kc
        have hch10 : ch.length ≤ 10 := by rw [← hcl]; exact choiceL_len b
        have hmem : ∀ n ∈ ch, ∃ i : Nat, n = (i : Int) ∧ i < x.passes.length := fun n hn => by
          rw [← hcl] at hn
          obtain ⟨i, e, hi⟩ := choice_lt hlt hn
          exact ⟨i, e, hi⟩
        have hsum : sumTo x ch ch.length = costB x b := by
          unfold sumTo costB sumF
          rw [List.take_length, hcl]
        have hge := hleast b hlt hcv
        refine Tr.reg (Steps.run rfl (by simp) (Steps.call rfl rfl kc (Steps.fin rfl (by simp) ?_)))
        refine Tr.seqR rfl (by simp) (Tr.condT rfl ?_)
        refine Tr.seqR rfl (by simp) (Tr.seq (Tr.seqR rfl (by simp) (Tr.block ?_)))
        refine Tr.loop (fun (k : Nat) st => (k ≤ ch.length ∧ 0 ≤ sumTo x ch k ∧ sumTo x ch k ≤ k * 1000) ∧ st = { env := [(1, intsV ch), (3, .ptr 3 0), (5, .ptr 5 0), (7, intsV A), (8, I c0), (9, I 0), (12, I (sumTo x ch k)), (13, I (k : Nat))], bx := [(5, ⟨[I n0, I n1], false⟩), (3, ⟨nfC x, false⟩)], rw := [], log := [], stp := false }) (fun k => ch.length - k) 0
          (Wk.le (.cons rfl (.refl _) (.cons rfl (.refl _) (.cons rfl (.refl _) (.cons rfl (.refl _) (.cons rfl (.refl _) (.cons rfl (.refl _) (.cons rfl (.refl _) (.cons rfl (.refl _) .nil)))))))) (.cons rfl (LLe.refl _) (.cons rfl (LLe.refl _) .nil)) .nil rfl rfl) ⟨⟨by omega, by simp [sumTo], by simp [sumTo]⟩, rfl⟩ ?_
        rintro k st ⟨⟨hk1, hs1, hs2⟩, rfl⟩
        refine Tr.seq (Tr.seqR rfl (by simp) (Tr.cond rfl rfl (fun h1 => Tr.skip ?_) (fun h1 => Tr.exit ?_)))
        · have h1 : k < ch.length := by simpa using h1
          obtain ⟨i, hi, hil⟩ := hmem _ (List.getElem_mem h1)
          have hci : costOf x i = x.passes[i].cost := by simp [costOf, hil]
          have hcb := (hp1 _ (List.getElem_mem hil)).1
          have hss := sumTo_succ (x := x) h1
          rw [hi, Int.toNat_natCast, hci] at hss
          have kbt : C Tryd.prog F.ref00_Between [I (i : Nat), I 0, I (IntKind.wrap .i64 (((x.passes.map eQ).length : Int) - 1))] (.bool true) := by
            have : btw (i : Int) 0 (IntKind.wrap .i64 (((x.passes.map eQ).length : Int) - 1)) = true := by rw [List.length_map, w64 (by omega) (by omega), btw_iff]; omega
            exact this ▸ c_between _ _ _
          refine Tr.seq (Tr.block ?_)
          refine Tr.seq (Tr.seq (Tr.drawK (TraceK.runN 3 rfl (by simp; omega) ?_)))
          rw [getD_map h1, hi]
          refine TraceK.run rfl (by simp) (TraceK.call rfl rfl kbt (TraceK.run rfl (by simp) (.done ⟨by kernel_rfl, by kernel_rfl, ?_⟩)))
          refine Tr.condF rfl (Tr.skip ?_)
          refine Tr.drawK (TraceK.runN 6 rfl (by simp; omega) ?_)
          rw [getD_map h1, hi]
          refine TraceK.runN 2 rfl (by simp; omega) ?_
          rw [getD_map hil]
          refine TraceK.run rfl (by simp) (.done ⟨by kernel_rfl, by kernel_rfl, ?_⟩)
          refine Tr.regR rfl (by simp) ?_
          refine ⟨k + 1, _, Wk.le (.cons rfl (.refl _) (.cons rfl (.refl _) (.cons rfl (.refl _) (.cons rfl (.refl _) (.cons rfl (.refl _) (.cons rfl (.refl _) (.cons rfl (VLe.i ?_) (.cons rfl (VLe.i (w64 (by omega) (by omega))) .nil)))))))) (.cons rfl (LLe.refl _) (.cons rfl (LLe.refl _) .nil)) .nil rfl rfl, ⟨⟨h1, by omega, by omega⟩, rfl⟩, by omega⟩
          show IntKind.wrap .i64 (sumTo x ch k + x.passes[i].cost) = _
          rw [hss, w64 (by omega) (by omega)]
        · have h1 : k = ch.length := by simp at h1; omega
          subst h1
          rw [hsum]
          refine Tr.seqR rfl (by simp) (Tr.cond rfl rfl (fun h2 => ?_) (fun h2 => Tr.skip ?_))
          · exfalso
            have h2 : decide (costB x b < c0) = true := h2
            have := of_decide_eq_true h2
            omega
          · exact Wk.le (.cons rfl (.refl _) (.cons rfl (.refl _) (.cons rfl (.refl _) (.cons rfl (.refl _) (.cons rfl (.refl _) .nil))))) (.cons rfl (LLe.refl _) (.cons rfl (LLe.refl _) .nil)) .nil rfl rfl
  refine Tr.seq (Tr.seqR rfl (by simp) (Tr.condF rfl (Tr.skip ?_)))
  refine Tr.seqC rfl (by simp) (Steps.call rfl rfl ka (Steps.fin rfl (by simp) ?_))
  refine Tr.seq (Tr.seqR rfl (by simp) (Tr.condF rfl (Tr.skip ?_)))
  obtain ⟨hnE, hleE⟩ := nf_easy hk n0
  obtain ⟨E1, hE1⟩ : ∃ l, easyL x.lacks n0 = l := ⟨_, rfl⟩
  rw [hE1] at hnE hleE
  refine meet2 { env := [(3, .ptr 3 0), (5, .ptr 5 0), (8, I c0), (15, .ptr 15 0)], bx := [(15, ⟨nfC ⟨E1, x.passes⟩, false⟩), (5, ⟨[I n0, I n1], false⟩), (3, ⟨nfC x, false⟩)], rw := [], log := [], stp := false } ?_ ?_
  · by_cases h0 : x.lacks = []
    · have kO : C Tryd.prog F.ref00_Own [intsV x.lacks] (intsV x.lacks) := by rw [h0]; exact c_Own0
      have eE : E1 = x.lacks := by rw [← hE1, h0]; rfl
      refine Tr.drawK (TraceK.run rfl (by simp) (TraceK.call rfl rfl kO (TraceK.run rfl (by simp) (.done ⟨by kernel_rfl, by kernel_rfl, ?_⟩))))
      refine Tr.seqR rfl (by simp) (Tr.condF ?_ (Tr.skip ?_))
      · show some (V.bool (decide (((x.lacks.map I).length : Int) > 0))) = _
        rw [h0]; rfl
      · rw [eE]
        exact Wk.le (.cons rfl (.refl _) (.cons rfl (.refl _) (.cons rfl (.refl _) (.cons rfl (.refl _) .nil)))) (.cons rfl (LLe.refl _) (.cons rfl (LLe.refl _) (.cons rfl (LLe.refl _) .nil))) .nil rfl rfl
    · have hlp : 0 < x.lacks.length := List.length_pos_iff.2 h0
      have hr := restI_bd (n := n0) (m := (x.lacks.length : Int)) (by omega)
      have kr := c_Rest n0 (x.lacks.length : Int) (by omega)
      obtain ⟨k, hk2⟩ : ∃ k : Nat, restI n0 (x.lacks.length : Int) = k := ⟨(restI n0 (x.lacks.length : Int)).toNat, by omega⟩
      rw [hk2] at hr kr
      have hkl : k < x.lacks.length := by omega
      have hv := hl1 _ (List.getElem_mem hkl)
      have eE : E1 = x.lacks.set k (max 1 (x.lacks[k] - 1)) := by
        have e3 : easyN x.lacks n0 = k := by unfold easyN; rw [hk2]; rfl
        rw [← hE1, easyL, e3]; simp [hkl]
      have kr2 : C Tryd.prog F.ref00_Rest [I n0, I ((x.lacks.map I).length : Nat)] (I (k : Nat)) := by rw [List.length_map]; exact kr
      refine Tr.drawK (TraceK.run rfl (by simp) ?_)
      refine TraceK.callO (ys := x.lacks.map I) (sz := 1) rfl (fun _ => rfl) (c_Own h0 (by omega)) rfl ?_
      rw [flat_ints]
      refine TraceK.run rfl (by simp) (.done ⟨by kernel_rfl, by kernel_rfl, ?_⟩)
      refine Tr.seqR rfl (by simp) (Tr.condT ?_ ?_)
      · show some (V.bool (decide (((x.lacks.map I).length : Int) > 0))) = _
        rw [List.length_map, decide_eq_true (by omega)]
      refine Tr.seqC rfl (by simp) (Steps.call rfl rfl kr2 (Steps.fin rfl (by simp) ?_))
      have hk0 : 0 + ((k : Nat) : Int).toNat * 1 = k := by omega
      refine Tr.drawK (TraceK.runN 7 rfl (by simp; omega) ?_)
      rw [hk0]
      refine TraceK.runN 1 rfl (by simp; omega) ?_
      rw [drop_ints hkl rfl]
      refine TraceK.runN 3 rfl (by simp; omega) ?_
      rw [hk0]
      refine TraceK.run rfl (by simp; omega) (.done ⟨by kernel_rfl, by kernel_rfl, ?_⟩)
      have hH : Holds (E1.map I) 0 1 x.lacks.length (E1.map I) := by
        have := holds_ints E1
        rw [show E1.length = x.lacks.length by rw [eE]; simp] at this
        exact this
      refine Wk.trans (Wk.le (env := [(3, .ptr 3 0), (5, .ptr 5 0), (8, I c0), (15, .ptr 15 0)]) (bx := [(108, ⟨E1.map I, false⟩), (15, ⟨[.bsl 108 0 1 x.lacks.length, .slice 0 2 (x.passes.map eQ)], false⟩), (5, ⟨[I n0, I n1], false⟩), (3, ⟨nfC x, false⟩)]) (rw := [])
        (.cons rfl (.refl _) (.cons rfl (.refl _) (.cons rfl (.refl _) (.cons rfl (.refl _) .nil)))) (.cons rfl ?_ (.cons rfl ?_ (.cons rfl (LLe.refl _) (.cons rfl (LLe.refl _) .nil)))) .nil (okI rfl) rfl)
        (Wk.trans (Wk.bslB (k := 15) (j := 0) (i := 108) (by decide) rfl rfl rfl hH) (Wk.le (.cons rfl (.refl _) (.cons rfl (.refl _) (.cons rfl (.refl _) (.cons rfl (.refl _) .nil)))) (.cons rfl (LLe.refl _) (.cons rfl (LLe.refl _) (.cons rfl (LLe.refl _) .nil))) .nil rfl rfl))
      · show LLe (splice (x.lacks.map I) k [I (bif true then (if IntKind.wrap .i64 (x.lacks[k] - 1) > 1 then IntKind.wrap .i64 (x.lacks[k] - 1) else 1) else _)]) _
        rw [cond_true, ite_max, w64 (n := x.lacks[k] - 1) (by omega) (by omega), splice_ints hkl, eE]
        exact LLe.refl _
      · exact .cons (.of_eq (by simp)) (LLe.refl _)
  have kE := c_Best (x := ⟨E1, x.passes⟩) hx.2
  unfold BestR at kE
  rw [if_pos hnE] at kE
  obtain ⟨e1, e2⟩ := hless ⟨E1, x.passes⟩ rfl hleE (fun n hn => by have := (nfOk_spec hnE).2.1 n hn; omega)
  rw [if_pos e1] at kE
  have hcE := (costB_bd hnE (best_some e1).1)
  obtain ⟨c1, hc1⟩ : ∃ c1, costB ⟨E1, x.passes⟩ (bestN ⟨E1, x.passes⟩ 0).1 = c1 := ⟨_, rfl⟩
  rw [hc1] at kE e2
  refine Tr.seqC rfl (by simp) (Steps.call rfl rfl kE (Steps.fin rfl (by simp) ?_))
  refine Tr.seq (Tr.seqR rfl (by simp) (Tr.condF ?_ (Tr.skip ?_)))
  · show some (V.bool (decide (c1 > c0))) = _
    rw [decide_eq_false (by omega)]
  obtain ⟨P, hP⟩ : ∃ P, moreP n0 n1 x.lacks.length = P := ⟨_, rfl⟩
  have rr1 := restI_bd (n := n1) (m := 20) (by omega)
  have rr0 := restI_bd (n := n0) (m := 3) (by omega)
  refine Tr.seq (Tr.drawK (TraceK.runN 2 rfl (by simp) (TraceK.mkRow rfl (TraceK.run rfl (by simp; omega) (.done ⟨by kernel_rfl, by kernel_rfl, ?_⟩)))))
  refine Tr.seqC rfl (by simp) (Steps.call rfl rfl (c_Rest n1 20 (by omega)) (Steps.fin rfl (by simp) ?_))
  rw [w64 (n := 1 + restI n1 20) (by omega) (by omega)]
  refine Tr.seq (Tr.seqR rfl (by simp) (Tr.block ?_))
  refine Tr.loop (fun (k : Nat) st => k ≤ x.lacks.length ∧ st = { env := [(3, .ptr 3 0), (5, .ptr 5 0), (8, I c0), (19, .ptr 19 0), (20, .ptr 20 0), (21, I (k : Nat))], bx := [(20, ⟨[I (1 + restI n1 20), .slice 173 1 ((addsN n0 k).map I)], false⟩), (19, ⟨[intsV x.lacks, .slice 147 2 (x.passes.map eQ)], false⟩), (5, ⟨[I n0, I n1], false⟩), (3, ⟨nfC x, false⟩)], rw := [(172, k, 1, 3), (146, x.passes.length, 2, 72)], log := [], stp := false }) (fun k => x.lacks.length - k) 0
    (Wk.le (.cons rfl (.refl _) (.cons rfl (.refl _) (.cons rfl (.refl _) (.cons rfl (.refl _) (.cons rfl (.refl _) (.cons rfl (.refl _) .nil)))))) (.cons rfl (.cons (.refl _) (.cons (.nil 173 1) .nil)) (.cons rfl (LLe.refl _) (.cons rfl (LLe.refl _) (.cons rfl (LLe.refl _) .nil)))) (.new rfl (.cons ?_ .nil)) rfl rfl) ⟨by omega, rfl⟩ ?_
  · show some _ = some _
    simp
  rintro k st ⟨hk1, rfl⟩
  refine Tr.seq (Tr.seqR rfl (by simp) (Tr.cond rfl rfl (fun h1 => Tr.skip ?_) (fun h1 => Tr.exit ?_)))
  · have h1 : k < x.lacks.length := by simpa using h1
    have hal : (addsN n0 k).length = k := by simp [addsN]
    have q1 := c_Rest n0 3 (by omega)
    have q2 : C Tryd.prog F.ref00_Rest [I (IntKind.wrap .i64 (restI n0 3 + (k : Int))), I 3] (I (restI (restI n0 3 + (k : Int)) 3)) := by
      rw [w64 (by omega) (by omega)]; exact c_Rest _ 3 (by omega)
    refine Tr.seq (Tr.block (Tr.drawK (TraceK.run rfl (by simp) (TraceK.call rfl rfl q1 (TraceK.run rfl (by simp) (TraceK.call rfl rfl q2 (TraceK.run rfl (by simp; omega) (.done ⟨by kernel_rfl, by kernel_rfl, ?_⟩))))))))
    refine Tr.regR rfl (by simp) ?_
    refine ⟨k + 1, _, Wk.le (.cons rfl (.refl _) (.cons rfl (.refl _) (.cons rfl (.refl _) (.cons rfl (.refl _) (.cons rfl (.refl _) (.cons rfl (VLe.i (w64 (by omega) (by omega))) .nil)))))) (.cons rfl (.cons (.refl _) (.cons (.of_eq ?_) .nil)) (.cons rfl (LLe.refl _) (.cons rfl (LLe.refl _) (.cons rfl (LLe.refl _) .nil)))) (.cons ?_ (.cons rfl .nil)) rfl rfl, ⟨h1, rfl⟩, by omega⟩
    · have : addsN n0 (k + 1) = addsN n0 k ++ [restI (restI n0 3 + (k : Int)) 3] := by simp [addsN, List.range_succ]
      rw [this, List.map_append]; rfl
    · show some _ = some _
      simp [hal]
  have h1 : k = x.lacks.length := by simp at h1; omega
  subst h1
  have eP : V.agg [I (1 + restI n1 20), .slice 0 1 ((addsN n0 x.lacks.length).map I)] = eQ P := by rw [← hP]; rfl
  refine Tr.weak (s' := { env := [(3, .ptr 3 0), (8, I c0), (19, .ptr 19 0), (20, .ptr 20 0)], bx := [(20, ⟨[I (1 + restI n1 20), .slice 0 1 ((addsN n0 x.lacks.length).map I)], false⟩), (19, ⟨[intsV x.lacks, .slice 147 2 (x.passes.map eQ)], false⟩), (3, ⟨nfC x, false⟩)], rw := [(146, x.passes.length, 2, 72)], log := [], stp := false })
    (Wk.le (.cons rfl (.refl _) (.cons rfl (.refl _) (.cons rfl (.refl _) (.cons rfl (.refl _) .nil)))) (.cons rfl (.cons (.refl _) (.cons (.dem _ _ _) .nil)) (.cons rfl (LLe.refl _) (.cons rfl (LLe.refl _) .nil))) (.cons rfl .nil) rfl rfl) ?_
  refine Tr.seqR rfl (by simp; omega) ?_
  have hlM : ∀ p ∈ x.passes ++ [P], p.adds.length ≤ 9223372036854775807 := fun p hp => by
    rcases List.mem_append.1 hp with hp | hp
    · exact hx.2 p hp
    · rw [List.mem_singleton.1 hp, ← hP]; simp [moreP, addsN]; omega
  have kM := c_Best (x := ⟨x.lacks, x.passes ++ [P]⟩) hlM
  have hnM := nf_more hk n0 n1
  rw [hP] at hnM
  unfold BestR at kM
  refine Tr.weak (s' := { env := [(3, .ptr 3 0), (8, I c0), (19, .ptr 19 0)], bx := [(19, ⟨nfC ⟨x.lacks, x.passes ++ [P]⟩, false⟩), (3, ⟨nfC x, false⟩)], rw := [], log := [], stp := false })
    (Wk.le (.cons rfl (.refl _) (.cons rfl (.refl _) (.cons rfl (.refl _) .nil))) (.cons rfl ?_ (.cons rfl (LLe.refl _) .nil)) .nil rfl rfl) ?_
  · have : (x.passes ++ [P]).map eQ = x.passes.map eQ ++ [eQ P] := by simp
    show LLe [intsV x.lacks, .slice 147 2 (x.passes.map eQ ++ [V.agg [I (1 + restI n1 20), .slice 0 1 ((addsN n0 x.lacks.length).map I)]])] [intsV x.lacks, .slice 0 2 ((x.passes ++ [P]).map eQ)]
    rw [this, eP]
    exact .cons (.refl _) (.cons (.dem _ _ _) .nil)
  by_cases hle : x.passes.length < 10
  · rw [if_pos (by rw [hnM]; exact decide_eq_true hle)] at kM
    obtain ⟨m1, m2⟩ := hmore ⟨x.lacks, x.passes ++ [P]⟩ P rfl rfl
    rw [if_pos m1] at kM
    obtain ⟨c2, hc2⟩ : ∃ c2, costB ⟨x.lacks, x.passes ++ [P]⟩ (bestN ⟨x.lacks, x.passes ++ [P]⟩ 0).1 = c2 := ⟨_, rfl⟩
    rw [hc2] at kM m2
    refine Tr.seqC rfl (by simp) (Steps.call rfl rfl kM (Steps.fin rfl (by simp) ?_))
    refine Tr.seqC rfl (by simp) (Steps.gcall rfl rfl rfl rfl (by simp) (fun _ => c_works) (Steps.fin rfl (by simp) (Tr.retX rfl rfl rfl ?_ trivial)))
    simp [packR, m2]
  · rw [if_neg (by rw [hnM]; simpa using hle)] at kM
    have hl10 : x.passes.length = 10 := by omega
    refine Tr.seqC rfl (by simp) (Steps.call rfl rfl kM (Steps.fin rfl (by simp) ?_))
    refine Tr.seqC rfl (by simp; omega) (Steps.gcall rfl rfl rfl rfl (by simp) (fun _ => c_works) (Steps.fin rfl (by simp) (Tr.retX rfl rfl rfl ?_ trivial)))
    simp [packR]; omega

end Go.Proofs.YtffoiccokigjcaaDoor
