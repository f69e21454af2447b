/-
  Parts of the proof, 1: the abstract machine, the compiled code, contracts of the functions, plain laws.
-/
import Derived.Test.YtffoiccokigjcaaDoorZ5


/-! The code of further functions, compiled. -/
set_option maxRecDepth 100000
namespace Go.Proofs.YtffoiccokigjcaaDoor
open Go.Am
/-- paravane/paravanelaw07.BinMaps -/
abbrev F.law07_BinMaps : Nat := 3
def ir.law07_BinMaps : IC :=
 (.seq (.reg [⟨(some 3), .box, [.t 0], none⟩,
     ⟨(some 6), .mov, [.c (.bool false)], none⟩])
   (.seq (.reg [⟨(some 12), .load 6 true, [.t 3], none⟩,
     ⟨(some 13), .mov, [.t 1], none⟩,
     ⟨(some 14), .mov, [.t 2], none⟩,
     ⟨(some 15), .call 12, [.t 12, .t 13, .t 14], none⟩,
     ⟨(some 11), .mov, [.t 15], none⟩,
     ⟨(some 16), .extract 0, [.t 11], none⟩,
     ⟨(some 17), .extract 1, [.t 11], none⟩,
     ⟨(some 7), .mov, [.t 16], none⟩,
     ⟨(some 8), .mov, [.t 17], none⟩])
   (.seq (.reg [⟨(some 19), .load 6 true, [.t 3], none⟩,
     ⟨(some 20), .mov, [.t 1], none⟩,
     ⟨(some 21), .mov, [.t 2], none⟩,
     ⟨(some 22), .call 13, [.t 19, .t 20, .t 21], none⟩,
     ⟨(some 18), .mov, [.t 22], none⟩,
     ⟨(some 23), .extract 0, [.t 18], none⟩,
     ⟨(some 24), .extract 1, [.t 18], none⟩,
     ⟨(some 9), .mov, [.t 23], none⟩,
     ⟨(some 10), .mov, [.t 24], none⟩])
   (.seq (.reg [⟨(some 25), .mov, [.t 7], none⟩,
     ⟨(some 26), .mov, [.t 9], none⟩,
     ⟨(some 27), .bin .eql, [.t 25, .t 26], none⟩,
     ⟨(some 28), .mov, [.t 27], none⟩,
     ⟨(some 29), .mov, [.t 8], (some (28, true))⟩,
     ⟨(some 30), .mov, [.t 10], (some (28, true))⟩,
     ⟨(some 31), .bin .eql, [.t 29, .t 30], (some (28, true))⟩,
     ⟨(some 32), .pick, [.t 28, .t 31, .c (.bool false)], none⟩,
     ⟨(some 33), .mov, [.t 32], none⟩,
     ⟨(some 34), .call 14, [], (some (33, true))⟩,
     ⟨(some 35), .pick, [.t 33, .t 34, .c (.bool false)], none⟩,
     ⟨(some 6), .mov, [.t 35], none⟩])
   .ret))))
theorem chk.law07_BinMaps : chkF Tryd.prog 3 = some (36, ir.law07_BinMaps, [.tmp 6]) := by kernel_rfl

/-- paravane/paravaneref07.Map -/
abbrev F.ref07_Map : Nat := 13
def ir.ref07_Map : IC :=
 (.seq (.reg [⟨(some 3), .box, [.t 0], none⟩,
     ⟨(some 6), .mov, [.c (.str ⟨#[]⟩)], none⟩,
     ⟨(some 7), .mov, [.c (.int .i64 0)], none⟩])
   (.seq (.seq (.reg [⟨(some 16), .load 6 true, [.t 3], none⟩,
     ⟨(some 17), .call 48, [.t 16], none⟩,
     ⟨(some 8), .mov, [.t 17], none⟩])
   (.seq (.reg [⟨(some 18), .mov, [.t 8], none⟩,
     ⟨(some 19), .bin .neq, [.t 18, .c (.int .i64 0)], none⟩])
   (.cond (.t 19) (.seq (.reg [⟨(some 20), .mov, [.t 8], none⟩,
     ⟨(some 6), .mov, [.c (.str ⟨#[]⟩)], none⟩,
     ⟨(some 7), .mov, [.t 20], none⟩])
   .ret) .skip)))
   (.seq (.reg [⟨(some 21), .mov, [.t 1], none⟩,
     ⟨(some 22), .len false, [.t 21], none⟩,
     ⟨(some 23), .faddr 3, [.t 3], none⟩,
     ⟨(some 24), .load 1 false, [.t 23], none⟩,
     ⟨(some 25), .faddr 4, [.t 3], none⟩,
     ⟨(some 26), .load 1 false, [.t 25], none⟩,
     ⟨(some 27), .bin .mul, [.t 24, .t 26], none⟩,
     ⟨(some 28), .bin .eql, [.t 22, .t 27], none⟩,
     ⟨(some 9), .mov, [.t 28], none⟩])
   (.seq (.seq (.reg [⟨(some 10), .mov, [.c (.int .i64 0)], none⟩])
   (.block 0 (.loop (.seq (.seq (.reg [⟨(some 29), .mov, [.t 10], none⟩,
     ⟨(some 30), .mov, [.t 1], none⟩,
     ⟨(some 31), .len false, [.t 30], none⟩,
     ⟨(some 32), .bin .lss, [.t 29, .t 31], none⟩])
   (.cond (.t 32) .skip (.exit 0)))
   (.seq (.block 1 (.seq (.draw [0, 1, 3, 3, 15, 31, 63, 3, 131, 387, 1023, 2047, 4095] [⟨(some 35), .mov, [.t 9], none⟩,
     ⟨(some 36), .mov, [.t 35], none⟩,
     ⟨(some 37), .mov, [.t 1], (some (36, true))⟩,
     ⟨(some 38), .mov, [.t 10], (some (36, true))⟩,
     ⟨(some 39), .iaddrS 1, [.t 37, .t 38], (some (36, true))⟩,
     ⟨(some 40), .load 1 false, [.t 39], (some (36, true))⟩,
     ⟨(some 41), .len false, [.t 40], (some (36, true))⟩,
     ⟨(some 42), .faddr 5, [.t 3], (some (36, true))⟩,
     ⟨(some 43), .load 1 false, [.t 42], (some (36, true))⟩,
     ⟨(some 44), .len false, [.t 43], (some (36, true))⟩,
     ⟨(some 45), .bin .eql, [.t 41, .t 44], (some (36, true))⟩,
     ⟨(some 46), .pick, [.t 36, .t 45, .c (.bool false)], none⟩,
     ⟨(some 9), .mov, [.t 46], none⟩])
   (.seq (.reg [⟨(some 11), .mov, [.c (.int .i64 0)], none⟩])
   (.block 2 (.loop (.seq (.seq (.reg [⟨(some 47), .mov, [.t 11], none⟩,
     ⟨(some 48), .mov, [.t 1], none⟩,
     ⟨(some 49), .mov, [.t 10], none⟩,
     ⟨(some 50), .iaddrS 1, [.t 48, .t 49], none⟩,
     ⟨(some 51), .load 1 false, [.t 50], none⟩,
     ⟨(some 52), .len false, [.t 51], none⟩,
     ⟨(some 53), .bin .lss, [.t 47, .t 52], none⟩])
   (.cond (.t 53) .skip (.exit 2)))
   (.seq (.block 3 (.reg [⟨(some 56), .mov, [.t 9], none⟩,
     ⟨(some 57), .mov, [.t 56], none⟩,
     ⟨(some 58), .mov, [.t 1], (some (57, true))⟩,
     ⟨(some 59), .mov, [.t 10], (some (57, true))⟩,
     ⟨(some 60), .iaddrS 1, [.t 58, .t 59], (some (57, true))⟩,
     ⟨(some 61), .load 1 false, [.t 60], (some (57, true))⟩,
     ⟨(some 62), .mov, [.t 11], (some (57, true))⟩,
     ⟨(some 63), .iaddrS 1, [.t 61, .t 62], (some (57, true))⟩,
     ⟨(some 64), .load 1 false, [.t 63], (some (57, true))⟩,
     ⟨(some 65), .bin .geq, [.t 64, .c (.int .i64 0)], (some (57, true))⟩,
     ⟨(some 66), .pick, [.t 57, .t 65, .c (.bool false)], none⟩,
     ⟨(some 9), .mov, [.t 66], none⟩]))
   (.reg [⟨(some 54), .mov, [.t 11], none⟩,
     ⟨(some 55), .bin .add, [.t 54, .c (.int .i64 1)], none⟩,
     ⟨(some 11), .mov, [.t 55], none⟩]))))))))
   (.reg [⟨(some 33), .mov, [.t 10], none⟩,
     ⟨(some 34), .bin .add, [.t 33, .c (.int .i64 1)], none⟩,
     ⟨(some 10), .mov, [.t 34], none⟩]))))))
   (.seq (.seq (.reg [⟨(some 67), .mov, [.t 9], none⟩,
     ⟨(some 68), .un .not, [.t 67], none⟩])
   (.cond (.t 68) (.seq (.reg [⟨(some 6), .mov, [.c (.str ⟨#[]⟩)], none⟩,
     ⟨(some 7), .mov, [.c (.int .i64 73)], none⟩])
   .ret) .skip))
   (.seq (.seq (.reg [⟨(some 69), .mov, [.t 2], none⟩,
     ⟨(some 70), .faddr 5, [.t 3], none⟩,
     ⟨(some 71), .load 1 false, [.t 70], none⟩,
     ⟨(some 72), .len false, [.t 71], none⟩,
     ⟨(some 73), .bin .sub, [.t 72, .c (.int .i64 1)], none⟩,
     ⟨(some 74), .call 16, [.t 69, .c (.int .i64 0), .t 73], none⟩,
     ⟨(some 75), .un .not, [.t 74], none⟩])
   (.cond (.t 75) (.seq (.reg [⟨(some 6), .mov, [.c (.str ⟨#[]⟩)], none⟩,
     ⟨(some 7), .mov, [.c (.int .i64 72)], none⟩])
   .ret) .skip))
   (.seq (.reg [⟨(some 12), .mov, [.c (.str ⟨#[]⟩)], none⟩])
   (.seq (.seq (.reg [⟨(some 76), .faddr 4, [.t 3], none⟩,
     ⟨(some 77), .load 1 false, [.t 76], none⟩,
     ⟨(some 78), .bin .sub, [.t 77, .c (.int .i64 1)], none⟩,
     ⟨(some 13), .mov, [.t 78], none⟩])
   (.block 4 (.loop (.seq (.seq (.reg [⟨(some 79), .mov, [.t 13], none⟩,
     ⟨(some 80), .bin .geq, [.t 79, .c (.int .i64 0)], none⟩])
   (.cond (.t 80) .skip (.exit 4)))
   (.seq (.block 5 (.seq (.seq (.reg [⟨(some 14), .mov, [.c (.int .i64 0)], none⟩])
   (.block 6 (.loop (.seq (.seq (.reg [⟨(some 83), .mov, [.t 14], none⟩,
     ⟨(some 84), .faddr 3, [.t 3], none⟩,
     ⟨(some 85), .load 1 false, [.t 84], none⟩,
     ⟨(some 86), .bin .lss, [.t 83, .t 85], none⟩])
   (.cond (.t 86) .skip (.exit 6)))
   (.seq (.block 7 (.seq (.reg [⟨(some 89), .mov, [.t 1], none⟩,
     ⟨(some 90), .mov, [.t 13], none⟩,
     ⟨(some 91), .faddr 3, [.t 3], none⟩,
     ⟨(some 92), .load 1 false, [.t 91], none⟩,
     ⟨(some 93), .bin .mul, [.t 90, .t 92], none⟩,
     ⟨(some 94), .mov, [.t 14], none⟩,
     ⟨(some 95), .bin .add, [.t 93, .t 94], none⟩,
     ⟨(some 96), .iaddrS 1, [.t 89, .t 95], none⟩,
     ⟨(some 97), .load 1 false, [.t 96], none⟩,
     ⟨(some 98), .mov, [.t 2], none⟩,
     ⟨(some 99), .iaddrS 1, [.t 97, .t 98], none⟩,
     ⟨(some 100), .load 1 false, [.t 99], none⟩,
     ⟨(some 15), .mov, [.t 100], none⟩])
   (.block 8 (.seq (.reg [⟨(some 104), .mov, [.t 15], none⟩,
     ⟨(some 105), .bin .eql, [.t 104, .c (.int .i64 0)], none⟩,
     ⟨(some 103), .mov, [.t 105], none⟩])
   (.cond (.t 103) (.reg [⟨(some 106), .mov, [.t 12], none⟩,
     ⟨(some 107), .bin .add, [.t 106, .c (.str ⟨#[46]⟩)], none⟩,
     ⟨(some 12), .mov, [.t 107], none⟩]) (.seq (.reg [⟨(some 109), .mov, [.t 15], none⟩,
     ⟨(some 110), .bin .leq, [.t 109, .c (.int .i64 9)], none⟩,
     ⟨(some 108), .mov, [.t 110], none⟩])
   (.cond (.t 108) (.reg [⟨(some 111), .mov, [.t 12], none⟩,
     ⟨(some 112), .mov, [.t 15], none⟩,
     ⟨(some 113), .call 49, [.t 112], none⟩,
     ⟨(some 114), .bin .add, [.t 111, .t 113], none⟩,
     ⟨(some 12), .mov, [.t 114], none⟩]) (.reg [⟨(some 101), .mov, [.t 12], none⟩,
     ⟨(some 102), .bin .add, [.t 101, .c (.str ⟨#[43]⟩)], none⟩,
     ⟨(some 12), .mov, [.t 102], none⟩]))))))))
   (.reg [⟨(some 87), .mov, [.t 14], none⟩,
     ⟨(some 88), .bin .add, [.t 87, .c (.int .i64 1)], none⟩,
     ⟨(some 14), .mov, [.t 88], none⟩]))))))
   (.reg [⟨(some 115), .mov, [.t 12], none⟩,
     ⟨(some 116), .bin .add, [.t 115, .c (.str ⟨#[10]⟩)], none⟩,
     ⟨(some 12), .mov, [.t 116], none⟩])))
   (.reg [⟨(some 81), .mov, [.t 13], none⟩,
     ⟨(some 82), .bin .sub, [.t 81, .c (.int .i64 1)], none⟩,
     ⟨(some 13), .mov, [.t 82], none⟩]))))))
   (.seq (.reg [⟨(some 117), .mov, [.t 12], none⟩,
     ⟨(some 6), .mov, [.t 117], none⟩,
     ⟨(some 7), .mov, [.c (.int .i64 0)], none⟩])
   .ret)))))))))
theorem chk.ref07_Map : chkF Tryd.prog 13 = some (118, ir.ref07_Map, [.tmp 6, .tmp 7]) := by kernel_rfl

/-- paravane/paravaneref07.CheckGrid -/
abbrev F.ref07_CheckGrid : Nat := 48
def ir.ref07_CheckGrid : IC :=
 (.seq (.reg [⟨(some 1), .box, [.t 0], none⟩,
     ⟨(some 2), .mov, [.c (.int .i64 0)], none⟩])
   (.seq (.reg [⟨(some 6), .faddr 0, [.t 1], none⟩,
     ⟨(some 7), .load 2 true, [.t 6], none⟩,
     ⟨(some 8), .call 80, [.t 7], none⟩,
     ⟨(some 9), .bin .eql, [.t 8, .c (.int .i64 0)], none⟩,
     ⟨(some 10), .mov, [.t 9], none⟩,
     ⟨(some 11), .faddr 2, [.t 1], (some (10, true))⟩,
     ⟨(some 12), .load 1 false, [.t 11], (some (10, true))⟩,
     ⟨(some 13), .call 16, [.t 12, .c (.int .i64 1), .c (.int .i64 1000)], (some (10, true))⟩,
     ⟨(some 14), .pick, [.t 10, .t 13, .c (.bool false)], none⟩,
     ⟨(some 15), .mov, [.t 14], none⟩,
     ⟨(some 16), .faddr 3, [.t 1], (some (15, true))⟩,
     ⟨(some 17), .load 1 false, [.t 16], (some (15, true))⟩,
     ⟨(some 18), .call 16, [.t 17, .c (.int .i64 1), .c (.int .i64 16)], (some (15, true))⟩,
     ⟨(some 19), .pick, [.t 15, .t 18, .c (.bool false)], none⟩,
     ⟨(some 20), .mov, [.t 19], none⟩,
     ⟨(some 21), .faddr 4, [.t 1], (some (20, true))⟩,
     ⟨(some 22), .load 1 false, [.t 21], (some (20, true))⟩,
     ⟨(some 23), .call 16, [.t 22, .c (.int .i64 1), .c (.int .i64 16)], (some (20, true))⟩,
     ⟨(some 24), .pick, [.t 20, .t 23, .c (.bool false)], none⟩,
     ⟨(some 25), .mov, [.t 24], none⟩,
     ⟨(some 26), .faddr 5, [.t 1], (some (25, true))⟩,
     ⟨(some 27), .load 1 false, [.t 26], (some (25, true))⟩,
     ⟨(some 28), .len false, [.t 27], (some (25, true))⟩,
     ⟨(some 29), .call 16, [.t 28, .c (.int .i64 1), .c (.int .i64 4)], (some (25, true))⟩,
     ⟨(some 30), .pick, [.t 25, .t 29, .c (.bool false)], none⟩,
     ⟨(some 3), .mov, [.t 30], none⟩])
   (.seq (.seq (.reg [⟨(some 4), .mov, [.c (.int .i64 0)], none⟩])
   (.block 0 (.loop (.seq (.seq (.reg [⟨(some 31), .mov, [.t 4], none⟩,
     ⟨(some 32), .faddr 5, [.t 1], none⟩,
     ⟨(some 33), .load 1 false, [.t 32], none⟩,
     ⟨(some 34), .len false, [.t 33], none⟩,
     ⟨(some 35), .bin .lss, [.t 31, .t 34], none⟩])
   (.cond (.t 35) .skip (.exit 0)))
   (.seq (.block 1 (.seq (.reg [⟨(some 38), .faddr 5, [.t 1], none⟩,
     ⟨(some 39), .load 1 false, [.t 38], none⟩,
     ⟨(some 40), .mov, [.t 4], none⟩,
     ⟨(some 41), .iaddrS 2, [.t 39, .t 40], none⟩,
     ⟨(some 42), .load 2 true, [.t 41], none⟩,
     ⟨(some 5), .alloc [(.int .i64 0), (.int .i64 0)], [], none⟩,
     ⟨none, .store 2, [.t 5, .t 42], none⟩])
   (.draw [0, 1, 3, 7, 15, 31, 63, 127, 255, 127, 639, 2047, 4095, 8191, 16383, 32767, 65535, 131071, 262143, 524287, 1048575, 2097151, 4194303, 8388607, 4194303, 20971519, 4194303, 71303167, 255852543, 524287999, 1061158911, 2147483647, 4294967295, 8589934591, 17179869183] [⟨(some 43), .mov, [.t 3], none⟩,
     ⟨(some 44), .mov, [.t 43], none⟩,
     ⟨(some 45), .faddr 0, [.t 5], (some (44, true))⟩,
     ⟨(some 46), .load 1 false, [.t 45], (some (44, true))⟩,
     ⟨(some 47), .bin .geq, [.t 46, .c (.int .i64 0)], (some (44, true))⟩,
     ⟨(some 48), .pick, [.t 44, .t 47, .c (.bool false)], none⟩,
     ⟨(some 49), .mov, [.t 48], none⟩,
     ⟨(some 50), .faddr 0, [.t 5], (some (49, true))⟩,
     ⟨(some 51), .load 1 false, [.t 50], (some (49, true))⟩,
     ⟨(some 52), .faddr 1, [.t 5], (some (49, true))⟩,
     ⟨(some 53), .load 1 false, [.t 52], (some (49, true))⟩,
     ⟨(some 54), .bin .leq, [.t 51, .t 53], (some (49, true))⟩,
     ⟨(some 55), .pick, [.t 49, .t 54, .c (.bool false)], none⟩,
     ⟨(some 56), .mov, [.t 55], none⟩,
     ⟨(some 57), .faddr 1, [.t 5], (some (56, true))⟩,
     ⟨(some 58), .load 1 false, [.t 57], (some (56, true))⟩,
     ⟨(some 59), .bin .leq, [.t 58, .c (.int .i64 17179869184)], (some (56, true))⟩,
     ⟨(some 60), .pick, [.t 56, .t 59, .c (.bool false)], none⟩,
     ⟨(some 61), .mov, [.t 60], none⟩,
     ⟨(some 62), .mov, [.t 4], (some (61, true))⟩,
     ⟨(some 63), .bin .eql, [.t 62, .c (.int .i64 0)], (some (61, true))⟩,
     ⟨(some 64), .mov, [.t 63], (some (61, true))⟩,
     ⟨(some 65), .faddr 0, [.t 5], (some (64, false))⟩,
     ⟨(some 66), .load 1 false, [.t 65], (some (64, false))⟩,
     ⟨(some 67), .faddr 5, [.t 1], (some (64, false))⟩,
     ⟨(some 68), .load 1 false, [.t 67], (some (64, false))⟩,
     ⟨(some 69), .mov, [.t 4], (some (64, false))⟩,
     ⟨(some 70), .bin .sub, [.t 69, .c (.int .i64 1)], (some (64, false))⟩,
     ⟨(some 71), .iaddrS 2, [.t 68, .t 70], (some (64, false))⟩,
     ⟨(some 72), .faddr 1, [.t 71], (some (64, false))⟩,
     ⟨(some 73), .load 1 false, [.t 72], (some (64, false))⟩,
     ⟨(some 74), .bin .gtr, [.t 66, .t 73], (some (64, false))⟩,
     ⟨(some 75), .pick, [.t 64, .c (.bool true), .t 74], (some (61, true))⟩,
     ⟨(some 76), .pick, [.t 61, .t 75, .c (.bool false)], none⟩,
     ⟨(some 3), .mov, [.t 76], none⟩])))
   (.reg [⟨(some 36), .mov, [.t 4], none⟩,
     ⟨(some 37), .bin .add, [.t 36, .c (.int .i64 1)], none⟩,
     ⟨(some 4), .mov, [.t 37], none⟩]))))))
   (.seq (.seq (.reg [⟨(some 77), .mov, [.t 3], none⟩,
     ⟨(some 78), .un .not, [.t 77], none⟩])
   (.cond (.t 78) (.seq (.reg [⟨(some 2), .mov, [.c (.int .i64 70)], none⟩])
   .ret) .skip))
   (.seq (.reg [⟨(some 2), .mov, [.c (.int .i64 0)], none⟩])
   .ret)))))
theorem chk.ref07_CheckGrid : chkF Tryd.prog 48 = some (79, ir.ref07_CheckGrid, [.tmp 2]) := by kernel_rfl

/-- paravane/paravaneref00.Digits -/
abbrev F.ref00_Digits : Nat := 49
def ir.ref00_Digits : IC :=
 (.seq (.reg [⟨(some 2), .mov, [.c (.str ⟨#[]⟩)], none⟩])
   (.seq (.reg [⟨(some 3), .mov, [.c (.str ⟨#[]⟩)], none⟩])
   (.seq (.seq (.reg [⟨(some 5), .mov, [.t 0], none⟩,
     ⟨(some 6), .bin .lss, [.t 5, .c (.int .i64 0)], none⟩])
   (.cond (.t 6) (.reg [⟨(some 3), .mov, [.c (.str ⟨#[45]⟩)], none⟩]) .skip))
   (.seq (.reg [⟨(some 4), .mov, [.c .nils], none⟩])
   (.block 0 (.loop (.block 1 (.seq (.reg [⟨(some 7), .mov, [.t 0], none⟩,
     ⟨(some 8), .bin .rem, [.t 7, .c (.int .i64 10)], none⟩,
     ⟨(some 9), .call 81, [.t 8], none⟩,
     ⟨(some 10), .bin .add, [.c (.int .i64 48), .t 9], none⟩,
     ⟨(some 11), .conv .u8, [.t 10], none⟩,
     ⟨(some 12), .mkslice 1 5, [.t 11], none⟩,
     ⟨(some 13), .mov, [.t 4], none⟩,
     ⟨(some 14), .append 1 1 5, [.t 12, .t 13], none⟩,
     ⟨(some 4), .mov, [.t 14], none⟩])
   (.seq (.reg [⟨(some 15), .mov, [.t 0], none⟩,
     ⟨(some 16), .bin .quo, [.t 15, .c (.int .i64 10)], none⟩,
     ⟨(some 0), .mov, [.t 16], none⟩])
   (.seq (.reg [⟨(some 17), .mov, [.t 0], none⟩,
     ⟨(some 18), .bin .eql, [.t 17, .c (.int .i64 0)], none⟩])
   (.cond (.t 18) (.seq (.reg [⟨(some 19), .mov, [.t 3], none⟩,
     ⟨(some 20), .mov, [.t 4], none⟩,
     ⟨(some 21), .raw 5 106 9, [.t 20], none⟩,
     ⟨(some 22), .bin .add, [.t 19, .t 21], none⟩,
     ⟨(some 2), .mov, [.t 22], none⟩])
   .ret) .skip)))))))))))
theorem chk.ref00_Digits : chkF Tryd.prog 49 = some (23, ir.ref00_Digits, [.tmp 2]) := by kernel_rfl

/-- paravane/paravaneref01.CheckPoint -/
abbrev F.ref01_CheckPoint : Nat := 80
def ir.ref01_CheckPoint : IC :=
 (.seq (.reg [⟨(some 1), .box, [.t 0], none⟩,
     ⟨(some 2), .mov, [.c (.int .i64 0)], none⟩])
   (.seq (.seq (.reg [⟨(some 3), .load 2 true, [.t 1], none⟩,
     ⟨(some 4), .call 100, [.t 3], none⟩,
     ⟨(some 5), .un .not, [.t 4], none⟩])
   (.cond (.t 5) (.seq (.reg [⟨(some 2), .mov, [.c (.int .i64 10)], none⟩])
   .ret) .skip))
   (.seq (.reg [⟨(some 2), .mov, [.c (.int .i64 0)], none⟩])
   .ret)))
theorem chk.ref01_CheckPoint : chkF Tryd.prog 80 = some (6, ir.ref01_CheckPoint, [.tmp 2]) := by kernel_rfl

/-- paravane/paravaneref00.Magnitude -/
abbrev F.ref00_Magnitude : Nat := 81
def ir.ref00_Magnitude : IC :=
 (.seq (.reg [⟨(some 2), .mov, [.c (.int .i64 0)], none⟩])
   (.seq (.reg [⟨(some 3), .mov, [.t 0], none⟩,
     ⟨(some 4), .mov, [.t 0], none⟩,
     ⟨(some 5), .un .neg, [.t 4], none⟩,
     ⟨(some 6), .minmax true, [.t 3, .t 5], none⟩,
     ⟨(some 2), .mov, [.t 6], none⟩])
   .ret))
theorem chk.ref00_Magnitude : chkF Tryd.prog 81 = some (7, ir.ref00_Magnitude, [.tmp 2]) := by kernel_rfl

/-- paravane/paravaneref01.place -/
abbrev F.ref01_place : Nat := 100
def ir.ref01_place : IC :=
 (.seq (.reg [⟨(some 1), .box, [.t 0], none⟩,
     ⟨(some 2), .mov, [.c (.bool false)], none⟩])
   (.seq (.reg [⟨(some 3), .faddr 0, [.t 1], none⟩,
     ⟨(some 4), .load 1 false, [.t 3], none⟩,
     ⟨(some 5), .call 16, [.t 4, .c (.int .i64 (-32768)), .c (.int .i64 32768)], none⟩,
     ⟨(some 6), .mov, [.t 5], none⟩,
     ⟨(some 7), .faddr 1, [.t 1], (some (6, true))⟩,
     ⟨(some 8), .load 1 false, [.t 7], (some (6, true))⟩,
     ⟨(some 9), .call 16, [.t 8, .c (.int .i64 (-32768)), .c (.int .i64 32768)], (some (6, true))⟩,
     ⟨(some 10), .pick, [.t 6, .t 9, .c (.bool false)], none⟩,
     ⟨(some 2), .mov, [.t 10], none⟩])
   .ret))
theorem chk.ref01_place : chkF Tryd.prog 100 = some (11, ir.ref01_place, [.tmp 2]) := by kernel_rfl

end Go.Proofs.YtffoiccokigjcaaDoor

/-! Contracts of the specification: CheckPoint, CheckGrid, Digits. -/
set_option linter.unusedVariables false
set_option linter.unusedSimpArgs false
set_option maxRecDepth 40000
set_option maxHeartbeats 4000000
namespace Go.Proofs.YtffoiccokigjcaaDoor
open Go.Am
attribute [local simp] cells scalar mkv splice under2 under dem dem1 eB gridC sB

theorem c_place01 (p : Int × Int) : C Tryd.prog F.ref01_place [eB p] (.bool (planeB p)) := by
  refine C_of mixed chk.ref01_place (by simp) fun S ok => ?_
  refine Tr.seqR rfl (by simp) (Tr.seqC rfl (by simp) (Steps.call rfl rfl (c_between p.1 (-32768) 32768) (Steps.run rfl (by simp) ?_)))
  refine Steps.gcall rfl rfl rfl rfl (by simp) (fun _ => c_between p.2 (-32768) 32768) (Steps.fin rfl (by simp) (Tr.retX rfl rfl rfl ?_ trivial))
  unfold planeB
  cases btw p.1 (-32768) 32768 <;> rfl

theorem c_CheckPoint01 (p : Int × Int) : C Tryd.prog F.ref01_CheckPoint [eB p] (I (if planeB p then 0 else 10)) := by
  refine C_of mixed chk.ref01_CheckPoint (by simp) fun S ok => ?_
  refine Tr.seqR rfl (by simp) (Tr.seq (Tr.seqC rfl (by simp) (Steps.call rfl rfl (c_place01 p) (Steps.fin rfl (by simp) (Tr.cond rfl rfl (fun h1 => ?_) (fun h1 => Tr.skip ?_))))))
  · have h1 : (!planeB p) = true := h1
    have h1 : planeB p = false := by simpa using h1
    refine Tr.seqR rfl (by simp) (Tr.retX rfl rfl rfl ?_ trivial)
    rw [h1]; rfl
  · have h1 : (!planeB p) = false := h1
    have h1 : planeB p = true := by simpa using h1
    refine Tr.seqR rfl (by simp) (Tr.retX rfl rfl rfl ?_ trivial)
    rw [h1]; rfl

theorem c_CheckGrid07 {g : Gd} (hl : g.cls.length ≤ 9223372036854775807) : C Tryd.prog F.ref07_CheckGrid [.agg (gridC g)] (I (if gridOk g then 0 else 70)) := by
  refine C_of mixed chk.ref07_CheckGrid (by simp) fun S ok => ?_
  refine Tr.seqR rfl (by simp) ?_
  refine Tr.seqC rfl (by simp) (Steps.call rfl rfl (c_CheckPoint01 g.o) (Steps.run rfl (by simp) ?_))
  refine Steps.gcall rfl rfl rfl rfl (by simp) (fun _ => c_between g.size 1 1000) (Steps.run rfl (by simp) ?_)
  refine Steps.gcall rfl rfl rfl rfl (by simp) (fun _ => c_between g.a 1 16) (Steps.run rfl (by simp) ?_)
  refine Steps.gcall rfl rfl rfl rfl (by simp) (fun _ => c_between g.d 1 16) (Steps.run rfl (by simp) ?_)
  refine Steps.gcall rfl rfl rfl rfl (by simp) (fun _ => c_between ((g.cls.map eB).length : Int) 1 4) (Steps.fin rfl (by simp) ?_)
  have hlen : (((g.cls.map eB).length : Int)) = (g.cls.length : Int) := by simp
  obtain ⟨B0, hB0⟩ : ∃ B, (planeB g.o && btw g.size 1 1000 && btw g.a 1 16 && btw g.d 1 16 && btw g.cls.length 1 4) = B := ⟨_, rfl⟩
  have hok : gridOk g = (B0 && clsOk (-1) g.cls) := by unfold gridOk; rw [hB0]
  rw [hok]
  refine Tr.seq (Tr.seqR rfl (by simp) (Tr.block ?_))
  refine Tr.loop (α := Nat × Bool × Int) (fun p s => (p.1 ≤ g.cls.length ∧ (B0 && clsOk (-1) g.cls) = (p.2.1 && clsOk p.2.2 (g.cls.drop p.1)) ∧ (p.2.1 = true → -1 ≤ p.2.2) ∧ (p.1 = 0 → p.2.2 = -1) ∧ (0 < p.1 → p.2.2 = (g.cls.getD (p.1 - 1) (0, 0)).2)) ∧ s = { env := [(1, .ptr 1 0), (3, .bool p.2.1), (4, I (p.1 : Nat))], bx := [(1, ⟨gridC g, false⟩)], rw := [], log := [], stp := false }) (fun p => g.cls.length - p.1) (0, B0, -1)
    (Wk.le (.cons rfl (.refl _) (.cons rfl (.of_eq ?_) (.cons rfl (.refl _) .nil))) (.cons rfl (LLe.refl _) .nil) .nil rfl rfl) ⟨⟨by simp, by simp, by simp, by simp, by simp⟩, rfl⟩ ?_
  · rw [← hB0, ← hlen]
    cases planeB g.o <;> cases btw g.size 1 1000 <;> cases btw g.a 1 16 <;> cases btw g.d 1 16 <;> rfl
  rintro ⟨k, B, last⟩ s ⟨⟨hk, hf, hlast, hk0, hk1⟩, rfl⟩
  simp only at hk hf hlast hk0 hk1
  refine Tr.seq (Tr.seqR rfl (by simp) (Tr.cond rfl rfl (fun h2 => Tr.skip ?_) (fun h2 => Tr.exit ?_)))
  rotate_left
  · have h2 : k = g.cls.length := by simp at h2; omega
    subst h2
    rw [List.drop_length] at hf
    have hf : (B0 && clsOk (-1) g.cls) = B := by rw [hf]; simp [clsOk]
    rw [hf]
    refine Tr.seq (Tr.seqR rfl (by simp) (Tr.cond rfl rfl (fun h3 => ?_) (fun h3 => Tr.skip ?_)))
    · have h3 : (!B) = true := h3
      obtain rfl : B = false := by simpa using h3
      exact Tr.seqR rfl (by simp) (Tr.retX rfl rfl rfl rfl trivial)
    · have h3 : (!B) = false := h3
      obtain rfl : B = true := by simpa using h3
      exact Tr.seqR rfl (by simp) (Tr.retX rfl rfl rfl rfl trivial)
  have h2 : k < g.cls.length := by simpa using h2
  rw [cls_drop h2] at hf
  obtain ⟨j, hj⟩ : ∃ j, (IntKind.wrap .i64 ((k : Int) - 1)).toNat = j := ⟨_, rfl⟩
  have hj2 : j < g.cls.length ∧ (0 < k → j = k - 1 ∧ IntKind.wrap .i64 ((k : Int) - 1) = (k : Int) - 1) := by
    rw [← hj, w64 (by omega) (by omega)]
    constructor
    · omega
    · intro h; exact ⟨by omega, rfl⟩
  refine Tr.seq (Tr.block (Tr.seq (Tr.reg (Steps.runN 4 rfl (by simp; omega) ?_))))
  rw [getD_map h2]
  refine Steps.fin rfl (by simp) ?_
  refine Tr.drawK (TraceK.runN 29 rfl ?_ ?_)
  · simp
    intro m1 m2 m3 m4 m5
    have h9 := hj2.2 (by omega)
    exact ⟨by omega, ⟨⟨⟨m1, m2⟩, m3⟩, m4⟩, m5⟩
  rw [show (IntKind.wrap .i64 ((k : Int) - 1)).toNat = ((j : Nat) : Int).toNat by omega, getD_map hj2.1]
  refine TraceK.runN 3 rfl (by simp) ?_
  refine TraceK.gpick rfl rfl rfl (fun _ => rfl) rfl rfl ?_ ?_
  · simp
    exact fun a b c d => ⟨fun e => ⟨⟨⟨⟨a, b⟩, c⟩, d⟩, e⟩, ⟨⟨a, b⟩, c⟩, d⟩
  refine TraceK.run rfl (by simp) ?_
  refine .done ⟨by kernel_rfl, by kernel_rfl, ?_⟩
  refine Tr.regR rfl (by simp) ?_
  refine ⟨(k + 1, B && (decide (g.cls[k].1 ≥ 0) && decide (g.cls[k].1 ≤ g.cls[k].2) && decide (g.cls[k].2 ≤ 17179869184) && (decide (k = 0) || decide (g.cls[k].1 > g.cls[j].2))), g.cls[k].2), _, Wk.le (.cons rfl (.refl _) (.cons rfl (.of_eq ?_) (.cons rfl (VLe.i (w64 (by omega) (by omega))) .nil))) (.cons rfl (LLe.refl _) .nil) .nil rfl rfl, ⟨⟨h2, ?_, ?_, by simp, ?_⟩, rfl⟩, by simp; omega⟩
  · show V.bool (bif (bif (bif (bif B then decide (g.cls[k].1 ≥ 0) else false) then decide (g.cls[k].1 ≤ g.cls[k].2) else false) then decide (g.cls[k].2 ≤ 17179869184) else false) then (bif ((k : Int) == 0) then true else decide (g.cls[k].1 > g.cls[j].2)) else false) = _
    have e0 : ((k : Int) == 0) = decide (k = 0) := by
      by_cases h : k = 0
      · subst h; rfl
      · rw [decide_eq_false h]; simp; omega
    rw [e0]
    congr 1
    generalize decide (g.cls[k].1 ≥ 0) = a1
    generalize decide (g.cls[k].1 ≤ g.cls[k].2) = a2
    generalize decide (g.cls[k].2 ≤ 17179869184) = a3
    generalize decide (g.cls[k].1 > g.cls[j].2) = a4
    generalize decide (k = 0) = a5
    cases B <;> cases a1 <;> cases a2 <;> cases a3 <;> cases a5 <;> rfl
  · simp only
    rw [hf]
    cases B with
    | false => simp
    | true =>
      have h7 := hlast rfl
      have e1 : (decide (last < g.cls[k].1) && decide (g.cls[k].1 ≤ g.cls[k].2) && decide (g.cls[k].2 ≤ 17179869184)) = (decide (g.cls[k].1 ≥ 0) && decide (g.cls[k].1 ≤ g.cls[k].2) && decide (g.cls[k].2 ≤ 17179869184) && (decide (k = 0) || decide (g.cls[k].1 > g.cls[j].2))) := by
        by_cases h : k = 0
        · have := hk0 h
          subst this
          rw [decide_eq_true h, Bool.true_or, Bool.and_true]
          rfl
        · have h8 := hk1 (by omega)
          have h9 := (hj2.2 (by omega)).1
          have h10 : last = g.cls[j].2 := by
            rw [h8]; subst h9; simp [show k - 1 < g.cls.length by omega]
          rw [decide_eq_false h, Bool.false_or, ← h10]
          by_cases a : last < g.cls[k].1
          · rw [decide_eq_true a, decide_eq_true (show g.cls[k].1 ≥ 0 by omega)]; simp
          · rw [decide_eq_false a]; simp
      rw [Bool.true_and, Bool.true_and, ← e1]
  · simp only
    intro h
    simp only [Bool.and_eq_true, decide_eq_true_eq] at h
    omega
  · intro _
    simp [h2]

def digB (n : Int) : UInt8 := UInt8.ofNat (48 + n).toNat

theorem c_Mag (n : Int) (h : 0 ≤ n ∧ n ≤ 1000) : C Tryd.prog F.ref00_Magnitude [I n] (I n) := by
  refine C_of mixed chk.ref00_Magnitude (by simp) fun S ok => ?_
  refine Tr.seqR rfl (by simp) (Tr.seqR rfl (by simp) (Tr.retX rfl rfl rfl ?_ trivial))
  show I n = I (bif true then (if IntKind.i64.wrap (0 - n) > n then IntKind.i64.wrap (0 - n) else n) else _)
  rw [cond_true, ite_max, w64 (n := 0 - n) (by omega) (by omega)]
  congr 1; omega

theorem c_Digits {n : Int} (h : 1 ≤ n ∧ n ≤ 9) : C Tryd.prog F.ref00_Digits [I n] (.str ⟨[charB n].toArray⟩) := by
  have hc : byteV (charB n) = .int .u8 (IntKind.wrap .u8 (IntKind.wrap .i64 (48 + n.tmod 10))) ∧ n.tmod 10 = n := by
    have h8 : n = 1 ∨ n = 2 ∨ n = 3 ∨ n = 4 ∨ n = 5 ∨ n = 6 ∨ n = 7 ∨ n = 8 ∨ n = 9 := by omega
    rcases h8 with rfl | rfl | rfl | rfl | rfl | rfl | rfl | rfl | rfl <;> exact ⟨rfl, rfl⟩
  have hq : IntKind.wrap .i64 (n.tdiv 10) = 0 := by
    have h8 : n = 1 ∨ n = 2 ∨ n = 3 ∨ n = 4 ∨ n = 5 ∨ n = 6 ∨ n = 7 ∨ n = 8 ∨ n = 9 := by omega
    rcases h8 with rfl | rfl | rfl | rfl | rfl | rfl | rfl | rfl | rfl <;> rfl
  have hm : C Tryd.prog F.ref00_Magnitude [I (n.tmod 10)] (I (n.tmod 10)) := by rw [hc.2]; exact c_Mag n (by omega)
  refine C_of mixed chk.ref00_Digits (by simp) fun S ok => ?_
  refine Tr.seqR rfl (by simp) (Tr.seqR rfl (by simp) (Tr.seq (Tr.seqR rfl (by simp) (Tr.condF (by show some (V.bool (decide (n < 0))) = _; rw [decide_eq_false (by omega)]) (Tr.skip ?_)))))
  refine Tr.seqR rfl (by simp) (Tr.block ?_)
  refine Tr.loop (fun (_ : Unit) s => s = { env := [(0, I n), (3, .str ⟨#[]⟩), (4, .nils)], bx := [], rw := [], log := [], stp := false }) (fun _ => 0) ()
    (Wk.le (.cons rfl (.refl _) (.cons rfl (.refl _) (.cons rfl (.refl _) .nil))) .nil .nil rfl rfl) rfl ?_
  rintro ⟨⟩ s rfl
  refine Tr.block (Tr.seqC rfl (by simp) (Steps.call rfl rfl hm (Steps.fin rfl (by simp) ?_)))
  refine Tr.seqR rfl (by simp) ?_
  refine Tr.seqR rfl (by simp) (Tr.condT ?_ ?_)
  · show some (V.bool (IntKind.wrap .i64 (n.tdiv 10) == 0)) = _
    rw [hq]; rfl
  refine Tr.seq (Tr.reg (Steps.run rfl (by simp) ?_))
  refine Steps.toStr (E := env0 Tryd.prog mixed 23 S ok) (t := 106) (u := 9) (e := 5) (r := 13) (bs := [charB n]) (by kernel_rfl) (by kernel_rfl) (by kernel_rfl) (by show some _ = some _; simp [hc.1]) ?_
  refine Steps.strAdd (l := []) (m := [charB n]) rfl (by simp) ?_
  exact Steps.fin rfl (by simp) (Tr.retX rfl rfl rfl rfl trivial)

end Go.Proofs.YtffoiccokigjcaaDoor

/-! Contracts of the specification: Map; the statement BinMaps. -/
set_option linter.unusedVariables false
set_option linter.unusedSimpArgs false
set_option maxRecDepth 40000
set_option maxHeartbeats 4000000
namespace Go.Proofs.YtffoiccokigjcaaDoor
open Go.Am
attribute [local simp] cells scalar mkv splice under2 under dem dem1 eB gridC sB foldV intsV

theorem all_ge (l : List Int) : (l.all fun n => decide (n ≥ 0)) = !(l.any fun n => decide (n < 0)) := by
  induction l with
  | nil => rfl
  | cons a l ih =>
    rw [List.all_cons, List.any_cons, ih]
    by_cases h : a < 0
    · rw [decide_eq_true h, decide_eq_false (by omega)]; simp
    · rw [decide_eq_false h, decide_eq_true (by omega)]; simp

theorem c_Map07 {g : Gd} (hl : g.cls.length ≤ 9223372036854775807) {f : List (List Int)} (hf : ∀ l ∈ f, l.length ≤ 9223372036854775807) (hf2 : f.length ≤ 9223372036854775807) (k : Int) : C Tryd.prog F.ref07_Map [.agg (gridC g), foldV f, I k] (MapR g f k) := by
  have kg := c_CheckGrid07 (g := g) hl
  unfold MapR
  refine C_of mixed chk.ref07_Map (by simp) fun S ok => ?_
  refine Tr.seqR rfl (by simp) ?_
  by_cases hg : gridOk g = true
  rotate_left
  · rw [if_neg hg] at kg ⊢
    refine Tr.seq (Tr.seqC rfl (by simp) (Steps.call rfl rfl kg (Steps.fin rfl (by simp) (Tr.seqR rfl (by simp) (Tr.condT rfl (Tr.seqR rfl (by simp) ?_))))))
    exact Tr.retX rfl rfl rfl rfl trivial
  rw [if_pos hg] at kg ⊢
  obtain ⟨_, _, ha, hd, hc, _⟩ := gridOk_sp hg
  have had : 0 ≤ g.a * g.d ∧ g.a * g.d ≤ 256 := ⟨Int.mul_nonneg (by omega) (by omega), by have := Int.mul_le_mul ha.2 hd.2 (by omega) (by omega); omega⟩
  refine Tr.seq (Tr.seqC rfl (by simp) (Steps.call rfl rfl kg (Steps.fin rfl (by simp) (Tr.seqR rfl (by simp) (Tr.condF rfl (Tr.skip ?_))))))
  refine Tr.seqR rfl (by simp) ?_
  have hok0 : (((f.map intsV).length : Int) == IntKind.wrap .i64 (g.a * g.d)) = decide ((f.length : Int) = g.a * g.d) := by
    rw [List.length_map, w64 (by omega) (by omega)]
    by_cases h : (f.length : Int) = g.a * g.d
    · rw [h]; simp
    · simp [h]
  refine Tr.seq (Tr.seqR rfl (by simp) (Tr.block ?_))
  refine Tr.loop (fun (j : Nat) st => j ≤ f.length ∧ st = { env := [(1, foldV f), (2, I k), (3, .ptr 3 0), (9, .bool (decide ((f.length : Int) = g.a * g.d) && (f.take j).all (rowOk g))), (10, I (j : Nat))], bx := [(3, ⟨gridC g, false⟩)], rw := [], log := [], stp := false }) (fun j => f.length - j) 0
    (Wk.le (.cons rfl (.refl _) (.cons rfl (.refl _) (.cons rfl (.refl _) (.cons rfl (.of_eq ?_) (.cons rfl (.refl _) .nil))))) (.cons rfl (LLe.refl _) .nil) .nil rfl rfl) ⟨Nat.zero_le _, rfl⟩ ?_
  · rw [List.take_zero, List.all_nil, Bool.and_true, ← hok0]
  rintro j st ⟨hj, rfl⟩
  refine Tr.seq (Tr.seqR rfl (by simp) (Tr.cond rfl rfl (fun h1 => Tr.skip ?_) (fun h1 => Tr.exit ?_)))
  · have h1 : j < f.length := by simpa using h1
    have hnx : (decide ((f.length : Int) = g.a * g.d) && (f.take (j + 1)).all (rowOk g)) = ((decide ((f.length : Int) = g.a * g.d) && (f.take j).all (rowOk g)) && rowOk g f[j]) := by
      rw [all_take_succ h1, Bool.and_assoc]
    have hlj := hf _ (List.getElem_mem h1)
    generalize (decide ((f.length : Int) = g.a * g.d) && (f.take j).all (rowOk g)) = B0 at hnx ⊢
    obtain ⟨B1, hB1⟩ : ∃ B1, (B0 && decide (f[j].length = g.cls.length)) = B1 := ⟨_, rfl⟩
    have e1 : (((f[j].map I).length : Int) == ((g.cls.map eB).length : Int)) = decide (f[j].length = g.cls.length) := by
      rw [List.length_map, List.length_map]
      by_cases h : f[j].length = g.cls.length
      · rw [h]; simp
      · have : ¬ ((f[j].length : Int) = (g.cls.length : Int)) := by omega
        simp [h, this]
    refine Tr.seq (Tr.block (Tr.seq (Tr.drawK (TraceK.runN 5 rfl (by simp; intro a; exact ⟨by omega, a⟩) ?_))))
    rw [getD_map h1]
    refine TraceK.run rfl (by simp) (.done ⟨by kernel_rfl, by kernel_rfl, ?_⟩)
    refine Tr.seqR rfl (by simp) (Tr.block ?_)
    refine Tr.loop (fun (c : Nat) st => c ≤ f[j].length ∧ st = { env := [(1, foldV f), (2, I k), (3, .ptr 3 0), (9, .bool (B1 && (f[j].take c).all fun n => decide (n ≥ 0))), (10, I (j : Nat)), (11, I (c : Nat))], bx := [(3, ⟨gridC g, false⟩)], rw := [], log := [], stp := false }) (fun c => f[j].length - c) 0
      (Wk.le (.cons rfl (.refl _) (.cons rfl (.refl _) (.cons rfl (.refl _) (.cons rfl (.of_eq ?_) (.cons rfl (.refl _) (.cons rfl (.refl _) .nil)))))) (.cons rfl (LLe.refl _) .nil) .nil rfl rfl) ⟨Nat.zero_le _, rfl⟩ ?_
    · rw [List.take_zero, List.all_nil, Bool.and_true, ← hB1, ← e1]
      show V.bool (bif B0 then (((f[j].map I).length : Int) == ((g.cls.map eB).length : Int)) else false) = _
      cases B0 <;> rfl
    rintro c st ⟨hc1, rfl⟩
    refine Tr.seq (Tr.seq (Tr.reg (Steps.runN 4 rfl (by simp; omega) ?_)))
    rw [getD_map h1]
    refine Steps.fin rfl (by simp) (Tr.cond rfl rfl (fun h2 => Tr.skip ?_) (fun h2 => Tr.exit ?_))
    · have h2 : c < f[j].length := by simpa using h2
      obtain ⟨X, hX⟩ : ∃ X, (B1 && (f[j].take c).all fun n => decide (n ≥ 0)) = X := ⟨_, rfl⟩
      rw [hX]
      refine Tr.seq (Tr.block (Tr.reg (Steps.runN 5 rfl (by simp; intro a; exact ⟨by omega, a⟩) ?_)))
      rw [getD_map h1]
      refine Steps.runN 3 rfl (by simp; intro a; exact ⟨by omega, a⟩) ?_
      rw [getD_map h2]
      refine Steps.fin rfl (by simp) (Tr.regR rfl (by simp) ?_)
      refine ⟨c + 1, _, Wk.le (.cons rfl (.refl _) (.cons rfl (.refl _) (.cons rfl (.refl _) (.cons rfl (.of_eq ?_) (.cons rfl (.refl _) (.cons rfl (VLe.i (w64 (by omega) (by omega))) .nil)))))) (.cons rfl (LLe.refl _) .nil) .nil rfl rfl, ⟨h2, rfl⟩, by omega⟩
      rw [all_take_succ h2, ← Bool.and_assoc, hX]
      show V.bool (bif X then decide (f[j][c] ≥ 0) else false) = _
      cases X <;> rfl
    · have h2 : c = f[j].length := by simp at h2; omega
      subst h2
      rw [List.take_length]
      refine Tr.regR rfl (by simp) ?_
      refine ⟨j + 1, _, Wk.le (.cons rfl (.refl _) (.cons rfl (.refl _) (.cons rfl (.refl _) (.cons rfl (.of_eq ?_) (.cons rfl (VLe.i (w64 (by omega) (by omega))) .nil))))) (.cons rfl (LLe.refl _) .nil) .nil rfl rfl, ⟨h1, rfl⟩, by omega⟩
      rw [hnx, all_ge, ← hB1]
      unfold rowOk
      rw [Bool.and_assoc]
  have h1 : j = f.length := by simp at h1; omega
  subst h1
  rw [List.take_length]
  have hmo : (decide ((f.length : Int) = g.a * g.d) && f.all (rowOk g)) = mapOk g f := rfl
  rw [hmo]
  refine Tr.seq (Tr.seqR rfl (by simp) (Tr.cond rfl rfl (fun h2 => ?_) (fun h2 => Tr.skip ?_)))
  · have h2 : (!mapOk g f) = true := h2
    rw [if_neg (by simpa using h2)]
    exact Tr.seqR rfl (by simp) (Tr.retX rfl rfl rfl rfl trivial)
  have h2 : (!mapOk g f) = false := h2
  have h2 : mapOk g f = true := by simpa using h2
  rw [if_pos h2]
  have kw := c_between k 0 (IntKind.wrap .i64 (((g.cls.map eB).length : Int) - 1))
  have hw1 : IntKind.wrap .i64 (((g.cls.map eB).length : Int) - 1) = (g.cls.length : Int) - 1 := by rw [List.length_map, w64 (by omega) (by omega)]
  refine Tr.seq (Tr.seqC rfl (by simp) (Steps.call rfl rfl kw (Steps.fin rfl (by simp) (Tr.cond rfl rfl (fun h3 => ?_) (fun h3 => Tr.skip ?_)))))
  · have h3 : (!btw k 0 (IntKind.wrap .i64 (((g.cls.map eB).length : Int) - 1))) = true := h3
    rw [hw1] at h3
    rw [if_neg (by simpa using h3)]
    exact Tr.seqR rfl (by simp) (Tr.retX rfl rfl rfl rfl trivial)
  have h3 : (!btw k 0 (IntKind.wrap .i64 (((g.cls.map eB).length : Int) - 1))) = false := h3
  rw [hw1] at h3
  have h3 : btw k 0 ((g.cls.length : Int) - 1) = true := by simpa using h3
  rw [if_pos h3]
  rw [btw_iff] at h3
  obtain ⟨q, rfl⟩ : ∃ q : Nat, k = (q : Int) := ⟨k.toNat, by omega⟩
  have eq2 : ((q : Int)).toNat = q := by omega
  rw [eq2]
  have hqc : q < g.cls.length := by omega
  simp only [mapOk, rowOk, Bool.and_eq_true, decide_eq_true_eq, List.all_eq_true, Bool.not_eq_true', List.any_eq_false, decide_eq_false_iff_not, Bool.not_eq_true, Int.not_lt] at h2
  obtain ⟨hfl, hrow⟩ := h2
  obtain ⟨na, hna⟩ : ∃ n : Nat, g.a = (n : Int) := ⟨g.a.toNat, by omega⟩
  obtain ⟨nd, hnd⟩ : ∃ n : Nat, g.d = (n : Int) := ⟨g.d.toNat, by omega⟩
  have ena : g.a.toNat = na := by omega
  have end' : g.d.toNat = nd := by omega
  have hfl2 : f.length = na * nd := by rw [hna, hnd] at hfl; exact_mod_cast hfl
  have hlenB : ∀ j, j ≤ nd → ((List.range j).flatMap fun i => rowB g f q (g.d.toNat - 1 - i) ++ [10]).length = j * (na + 1) := fun j _ => by
    induction j with
    | zero => simp
    | succ j ih => rw [List.range_succ, List.flatMap_append, List.length_append, ih (by omega)]; simp [rowB, ena, Nat.add_mul]
  refine Tr.seqR rfl (by simp) (Tr.seq (Tr.seqR rfl (by simp) (Tr.block ?_)))
  refine Tr.loop (fun (j : Nat) st => j ≤ nd ∧ st = { env := [(1, foldV f), (2, I (q : Nat)), (3, .ptr 3 0), (12, .str ⟨((List.range j).flatMap fun i => rowB g f q (g.d.toNat - 1 - i) ++ [10]).toArray⟩), (13, I ((nd : Int) - 1 - j))], bx := [(3, ⟨gridC g, false⟩)], rw := [], log := [], stp := false }) (fun j => nd - j) 0
    (Wk.le (.cons rfl (.refl _) (.cons rfl (.refl _) (.cons rfl (.refl _) (.cons rfl (.of_eq ?_) (.cons rfl (VLe.i ?_) .nil))))) (.cons rfl (LLe.refl _) .nil) .nil rfl rfl) ⟨Nat.zero_le _, rfl⟩ ?_
  · rfl
  · show IntKind.wrap .i64 (g.d - 1) = _
    rw [w64 (by omega) (by omega), hnd]; simp
  rintro j st ⟨hj, rfl⟩
  have hlj := hlenB j hj
  have hsz : j * (na + 1) ≤ 1000 := by
    have : j * (na + 1) ≤ 16 * 17 := Nat.mul_le_mul (by omega) (by omega)
    omega
  have hnx : ((List.range (j + 1)).flatMap fun i => rowB g f q (g.d.toNat - 1 - i) ++ [10]) = ((List.range j).flatMap fun i => rowB g f q (g.d.toNat - 1 - i) ++ [10]) ++ (rowB g f q (g.d.toNat - 1 - j) ++ [10]) := by
    rw [List.range_succ, List.flatMap_append]; simp
  generalize hpre : ((List.range j).flatMap fun i => rowB g f q (g.d.toNat - 1 - i) ++ [10]) = pre at hlj hnx ⊢
  refine Tr.seq (Tr.seqR rfl (by simp) (Tr.cond rfl rfl (fun h4 => Tr.skip ?_) (fun h4 => Tr.exit ?_)))
  rotate_left
  · have h4 : decide ((nd : Int) - 1 - j ≥ 0) = false := h4
    have h4 : j = nd := by simp at h4; omega
    subst h4
    have hm : mapB g f q = pre := by unfold mapB; rw [← hpre, end']
    rw [hm]
    exact Tr.seqR rfl (by simp) (Tr.retX rfl rfl rfl rfl trivial)
  have h4 : decide ((nd : Int) - 1 - j ≥ 0) = true := h4
  have h4 : j < nd := by simp at h4; omega
  obtain ⟨rr, hrr⟩ : ∃ rr : Nat, rr = nd - 1 - j := ⟨_, rfl⟩
  have hrI : (nd : Int) - 1 - j = (rr : Int) := by omega
  rw [end', ← hrr] at hnx
  rw [hrI]
  refine Tr.seq (Tr.block (Tr.seq (Tr.seqR rfl (by simp) (Tr.block ?_))))
  refine Tr.loop (fun (c : Nat) st => c ≤ na ∧ st = { env := [(1, foldV f), (2, I (q : Nat)), (3, .ptr 3 0), (12, .str ⟨(pre ++ (rowB g f q rr).take c).toArray⟩), (13, I (rr : Nat)), (14, I (c : Nat))], bx := [(3, ⟨gridC g, false⟩)], rw := [], log := [], stp := false }) (fun c => na - c) 0
    (Wk.le (.cons rfl (.refl _) (.cons rfl (.refl _) (.cons rfl (.refl _) (.cons rfl (.of_eq ?_) (.cons rfl (.refl _) (.cons rfl (.refl _) .nil)))))) (.cons rfl (LLe.refl _) .nil) .nil rfl rfl) ⟨Nat.zero_le _, rfl⟩ ?_
  · simp
  rintro c st ⟨hc4, rfl⟩
  have hrl : (rowB g f q rr).length = na := by simp [rowB, ena]
  refine Tr.seq (Tr.seqR rfl (by simp) (Tr.cond rfl rfl (fun h5 => Tr.skip ?_) (fun h5 => Tr.exit ?_)))
  rotate_left
  · have h5 : c = na := by
      have h5 : decide ((c : Int) < g.a) = false := h5
      simp at h5; omega
    subst h5
    rw [List.take_of_length_le (by omega)]
    refine Tr.reg (Steps.run rfl (by simp) (Steps.strAdd (l := pre ++ rowB g f q rr) (m := [10]) rfl (by simp; omega) (Steps.fin rfl (by simp) ?_)))
    refine Tr.regR rfl (by simp) ?_
    refine ⟨j + 1, _, Wk.le (.cons rfl (.refl _) (.cons rfl (.refl _) (.cons rfl (.refl _) (.cons rfl (.of_eq ?_) (.cons rfl (VLe.i ?_) .nil))))) (.cons rfl (LLe.refl _) .nil) .nil rfl rfl, ⟨h4, rfl⟩, by omega⟩
    · rw [end', hnx, List.append_assoc]
    · show IntKind.wrap .i64 ((rr : Int) - 1) = _
      rw [w64 (by omega) (by omega)]; omega
  have h5 : c < na := by
    have h5 : decide ((c : Int) < g.a) = true := h5
    simp at h5; omega
  have hix : rr * na + c < f.length := by
    rw [hfl2]
    have : rr * na + na ≤ na * nd := by
      have : (rr + 1) * na ≤ nd * na := Nat.mul_le_mul_right _ (by omega)
      rw [Nat.mul_comm na nd, ← Nat.succ_mul]; exact this
    omega
  have hbig : rr * na + c ≤ 256 := by
    have h6 : f.length ≤ 256 := by omega
    omega
  have hidx : IntKind.wrap .i64 (IntKind.wrap .i64 ((rr : Int) * g.a) + c) = ((rr * na + c : Nat) : Int) := by
    have e1 : (rr : Int) * g.a = ((rr * na : Nat) : Int) := by rw [hna]; push_cast; rfl
    rw [e1, w64 (n := ((rr * na : Nat) : Int)) (by omega) (by omega), w64 (by omega) (by omega)]; push_cast; rfl
  have hql : q < f[rr * na + c].length := by
    have := (hrow _ (List.getElem_mem hix)).1
    omega
  have hv0 := (hrow _ (List.getElem_mem hix)).2 _ (List.getElem_mem hql)
  have hat : at2 f (rr * na + c) q = f[rr * na + c][q] := by simp [at2, hix, hql]
  have hch : (rowB g f q rr)[c]'(by omega) = charB f[rr * na + c][q] := by simp [rowB, ena, hat]
  have hst : pre ++ (rowB g f q rr).take (c + 1) = (pre ++ (rowB g f q rr).take c) ++ [charB f[rr * na + c][q]] := by
    rw [List.take_add_one, List.getElem?_eq_getElem (by omega), hch]; simp
  have hpl : (pre ++ (rowB g f q rr).take c).length ≤ 1100 := by
    rw [List.length_append, List.length_take]; omega
  generalize pre ++ (rowB g f q rr).take c = P at hst hpl ⊢
  obtain ⟨v, hv⟩ : ∃ v, f[rr * na + c][q] = v := ⟨_, rfl⟩
  refine (Tr.meet { env := [(1, foldV f), (2, I (q : Nat)), (3, .ptr 3 0), (12, .str ⟨(P ++ [charB v]).toArray⟩), (13, I (rr : Nat)), (14, I (c : Nat))], bx := [(3, ⟨gridC g, false⟩)], rw := [], log := [], stp := false } (Tr.block ?_) ?_)
  rotate_left
  · refine Tr.regR rfl (by simp) ?_
    refine ⟨c + 1, _, Wk.le (.cons rfl (.refl _) (.cons rfl (.refl _) (.cons rfl (.refl _) (.cons rfl (.of_eq (by rw [hst, hv])) (.cons rfl (.refl _) (.cons rfl (VLe.i (w64 (by omega) (by omega))) .nil)))))) (.cons rfl (LLe.refl _) .nil) .nil rfl rfl, ⟨h5, rfl⟩, by omega⟩
  refine Tr.seq (Tr.reg (Steps.runN 8 rfl (by simp [hidx]; omega) ?_))
  rw [hidx, getD_map hix]
  refine Steps.runN 3 rfl (by simp; omega) ?_
  rw [getD_map hql, hv]
  refine Steps.fin rfl (by simp) (Tr.block ?_)
  rw [hv] at hv0
  refine Tr.seqR rfl (by simp) (Tr.cond rfl rfl (fun h6 => ?_) (fun h6 => ?_))
  · have h6 : (v == 0) = true := h6
    have h6 : v = 0 := by simpa using h6
    refine Tr.reg (Steps.run rfl (by simp) (Steps.strAdd (l := P) (m := [46]) rfl (by simp; omega) (Steps.fin rfl (by simp) ?_)))
    refine Wk.le (.cons rfl (.refl _) (.cons rfl (.refl _) (.cons rfl (.refl _) (.cons rfl (.of_eq ?_) (.cons rfl (.refl _) (.cons rfl (.refl _) .nil)))))) (.cons rfl (LLe.refl _) .nil) .nil rfl rfl
    rw [h6]; rfl
  have h6 : (v == 0) = false := h6
  have h6 : v ≠ 0 := by simpa using h6
  refine Tr.seqR rfl (by simp) (Tr.cond rfl rfl (fun h7 => ?_) (fun h7 => ?_))
  · have h7 : decide (v ≤ 9) = true := h7
    have h7 : v ≤ 9 := by simpa using h7
    refine Tr.reg (Steps.run rfl (by simp) (Steps.call rfl rfl (c_Digits (n := v) (by omega)) (Steps.strAdd (l := P) (m := [charB v]) rfl (by simp; omega) (Steps.fin rfl (by simp) ?_))))
    exact Wk.le (.cons rfl (.refl _) (.cons rfl (.refl _) (.cons rfl (.refl _) (.cons rfl (.refl _) (.cons rfl (.refl _) (.cons rfl (.refl _) .nil)))))) (.cons rfl (LLe.refl _) .nil) .nil rfl rfl
  · have h7 : decide (v ≤ 9) = false := h7
    have h7 : ¬ v ≤ 9 := by simpa using h7
    refine Tr.reg (Steps.run rfl (by simp) (Steps.strAdd (l := P) (m := [43]) rfl (by simp; omega) (Steps.fin rfl (by simp) ?_)))
    refine Wk.le (.cons rfl (.refl _) (.cons rfl (.refl _) (.cons rfl (.refl _) (.cons rfl (.of_eq ?_) (.cons rfl (.refl _) (.cons rfl (.refl _) .nil)))))) (.cons rfl (LLe.refl _) .nil) .nil rfl rfl
    have : charB v = 43 := by unfold charB; rw [if_neg h6, if_neg h7]
    rw [this]

theorem map_form (g : Gd) (f : List (List Int)) (k : Int) : ∃ (b : ByteArray) (e : Int), MapR g f k = .tuple [.str b, I e] := by
  unfold MapR
  split
  · split
    · split
      · exact ⟨_, _, rfl⟩
      · exact ⟨_, _, rfl⟩
    · exact ⟨_, _, rfl⟩
  · exact ⟨_, _, rfl⟩

theorem c_BinMaps {g : Gd} (hl : g.cls.length ≤ 9223372036854775807) {f : List (List Int)} (hf : ∀ l ∈ f, l.length ≤ 9223372036854775807) (hf2 : f.length ≤ 9223372036854775807) (k : Int) : C Tryd.prog F.law07_BinMaps [.agg (gridC g), foldV f, I k] (.bool true) := by
  obtain ⟨b, e, hM⟩ := map_form g f k
  refine C_of mixed chk.law07_BinMaps (by simp) fun S ok => ?_
  refine Tr.seqR rfl (by simp) ?_
  refine Tr.seqC rfl (by simp) (Steps.call rfl rfl (hM ▸ c_Map hl hf hf2 k) (Steps.fin rfl (by simp) ?_))
  refine Tr.seqC rfl (by simp) (Steps.call rfl rfl (hM ▸ c_Map07 hl hf hf2 k) (Steps.fin rfl (by simp) ?_))
  refine Tr.seq (Tr.reg (Steps.runN 2 rfl (by simp) (Steps.strEq rfl (Steps.run rfl (by simp) ?_))))
  refine Steps.gcall rfl rfl rfl rfl (by simp) (fun _ => c_works) (Steps.fin rfl (by simp) (Tr.retX rfl rfl rfl ?_ trivial))
  simp [packR]

end Go.Proofs.YtffoiccokigjcaaDoor
