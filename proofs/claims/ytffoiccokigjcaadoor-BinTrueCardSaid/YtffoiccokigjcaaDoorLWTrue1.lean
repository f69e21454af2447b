/-
  Parts of the proof, 1: the abstract machine, the compiled code, contracts of the functions, plain laws.
-/
import Derived.Test.YtffoiccokigjcaaDoorZ5


/-! The code of further functions, compiled. -/
set_option maxRecDepth 100000
namespace Go.Proofs.YtffoiccokigjcaaDoor
open Go.Am
/-- paravane/paravanelaw07.BinTrue -/
abbrev F.law07_BinTrue : Nat := 11
def ir.law07_BinTrue : IC :=
 (.seq (.reg [⟨(some 3), .box, [.t 0], none⟩,
     ⟨(some 4), .box, [.t 1], none⟩,
     ⟨(some 6), .mov, [.c (.bool false)], none⟩])
   (.seq (.reg [⟨(some 17), .load 6 true, [.t 3], none⟩,
     ⟨(some 18), .load 2 true, [.t 4], none⟩,
     ⟨(some 19), .call 18, [.t 17, .t 18], none⟩,
     ⟨(some 16), .mov, [.t 19], none⟩,
     ⟨(some 20), .extract 0, [.t 16], none⟩,
     ⟨(some 21), .extract 1, [.t 16], none⟩,
     ⟨(some 22), .extract 2, [.t 16], none⟩,
     ⟨(some 7), .mov, [.t 20], none⟩,
     ⟨(some 8), .mov, [.t 21], none⟩,
     ⟨(some 9), .mov, [.t 22], none⟩])
   (.seq (.seq (.reg [⟨(some 23), .mov, [.t 9], none⟩,
     ⟨(some 24), .bin .neq, [.t 23, .c (.int .i64 0)], none⟩])
   (.cond (.t 24) (.seq (.reg [⟨(some 25), .mov, [.t 7], none⟩,
     ⟨(some 26), .len false, [.t 25], none⟩,
     ⟨(some 27), .bin .eql, [.t 26, .c (.int .i64 0)], none⟩,
     ⟨(some 28), .mov, [.t 27], none⟩,
     ⟨(some 29), .mov, [.t 8], (some (28, true))⟩,
     ⟨(some 30), .len false, [.t 29], (some (28, true))⟩,
     ⟨(some 31), .bin .eql, [.t 30, .c (.int .i64 0)], (some (28, true))⟩,
     ⟨(some 32), .pick, [.t 28, .t 31, .c (.bool false)], none⟩,
     ⟨(some 33), .mov, [.t 32], none⟩,
     ⟨(some 34), .call 14, [], (some (33, true))⟩,
     ⟨(some 35), .pick, [.t 33, .t 34, .c (.bool false)], none⟩,
     ⟨(some 6), .mov, [.t 35], none⟩])
   .ret) .skip))
   (.seq (.reg [⟨(some 37), .faddr 0, [.t 4], none⟩,
     ⟨(some 38), .load 1 false, [.t 37], none⟩,
     ⟨(some 39), .mov, [.t 2], none⟩,
     ⟨(some 40), .call 43, [.t 38, .t 39], none⟩,
     ⟨(some 36), .mov, [.t 40], none⟩,
     ⟨(some 41), .extract 0, [.t 36], none⟩,
     ⟨(some 42), .extract 1, [.t 36], none⟩,
     ⟨(some 10), .mov, [.t 41], none⟩,
     ⟨(some 11), .mov, [.t 42], none⟩])
   (.seq (.reg [⟨(some 44), .load 6 true, [.t 3], none⟩,
     ⟨(some 45), .load 2 true, [.t 4], none⟩,
     ⟨(some 46), .mov, [.t 10], none⟩,
     ⟨(some 47), .call 44, [.t 44, .t 45, .t 46], none⟩,
     ⟨(some 43), .mov, [.t 47], none⟩,
     ⟨(some 48), .extract 0, [.t 43], none⟩,
     ⟨(some 49), .extract 1, [.t 43], none⟩,
     ⟨(some 12), .mov, [.t 48], none⟩,
     ⟨(some 13), .mov, [.t 49], none⟩])
   (.seq (.seq (.reg [⟨(some 50), .mov, [.t 11], none⟩,
     ⟨(some 51), .un .not, [.t 50], none⟩,
     ⟨(some 52), .mov, [.t 51], none⟩,
     ⟨(some 53), .mov, [.t 13], (some (52, false))⟩,
     ⟨(some 54), .un .not, [.t 53], (some (52, false))⟩,
     ⟨(some 55), .pick, [.t 52, .c (.bool true), .t 54], none⟩,
     ⟨(some 56), .mov, [.t 55], none⟩,
     ⟨(some 57), .mov, [.t 7], (some (56, false))⟩,
     ⟨(some 58), .len false, [.t 57], (some (56, false))⟩,
     ⟨(some 59), .mov, [.t 12], (some (56, false))⟩,
     ⟨(some 60), .len false, [.t 59], (some (56, false))⟩,
     ⟨(some 61), .bin .neq, [.t 58, .t 60], (some (56, false))⟩,
     ⟨(some 62), .pick, [.t 56, .c (.bool true), .t 61], none⟩,
     ⟨(some 63), .mov, [.t 62], none⟩,
     ⟨(some 64), .mov, [.t 8], (some (63, false))⟩,
     ⟨(some 65), .len false, [.t 64], (some (63, false))⟩,
     ⟨(some 66), .mov, [.t 12], (some (63, false))⟩,
     ⟨(some 67), .len false, [.t 66], (some (63, false))⟩,
     ⟨(some 68), .bin .neq, [.t 65, .t 67], (some (63, false))⟩,
     ⟨(some 69), .pick, [.t 63, .c (.bool true), .t 68], none⟩])
   (.cond (.t 69) (.seq (.reg [⟨(some 6), .mov, [.c (.bool false)], none⟩])
   .ret) .skip))
   (.seq (.seq (.reg [⟨(some 14), .mov, [.c (.int .i64 0)], none⟩])
   (.block 0 (.loop (.seq (.seq (.reg [⟨(some 70), .mov, [.t 14], none⟩,
     ⟨(some 71), .mov, [.t 12], none⟩,
     ⟨(some 72), .len false, [.t 71], none⟩,
     ⟨(some 73), .bin .lss, [.t 70, .t 72], none⟩])
   (.cond (.t 73) .skip (.exit 0)))
   (.seq (.block 1 (.seq (.seq (.draw [0, 0, 3, 7, 15, 0, 0, 96, 224, 480, 1023, 2047, 4095, 4095, 16383, 32767, 65535, 4095, 4095, 397311, 921599, 1970175, 4194303, 8388607] [⟨(some 76), .mov, [.t 7], none⟩,
     ⟨(some 77), .mov, [.t 14], none⟩,
     ⟨(some 78), .iaddrS 1, [.t 76, .t 77], none⟩,
     ⟨(some 79), .load 1 false, [.t 78], none⟩,
     ⟨(some 80), .len false, [.t 79], none⟩,
     ⟨(some 81), .mov, [.t 12], none⟩,
     ⟨(some 82), .mov, [.t 14], none⟩,
     ⟨(some 83), .iaddrS 1, [.t 81, .t 82], none⟩,
     ⟨(some 84), .load 1 false, [.t 83], none⟩,
     ⟨(some 85), .len false, [.t 84], none⟩,
     ⟨(some 86), .bin .neq, [.t 80, .t 85], none⟩,
     ⟨(some 87), .mov, [.t 86], none⟩,
     ⟨(some 88), .mov, [.t 8], (some (87, false))⟩,
     ⟨(some 89), .mov, [.t 14], (some (87, false))⟩,
     ⟨(some 90), .iaddrS 1, [.t 88, .t 89], (some (87, false))⟩,
     ⟨(some 91), .load 1 false, [.t 90], (some (87, false))⟩,
     ⟨(some 92), .len false, [.t 91], (some (87, false))⟩,
     ⟨(some 93), .mov, [.t 12], (some (87, false))⟩,
     ⟨(some 94), .mov, [.t 14], (some (87, false))⟩,
     ⟨(some 95), .iaddrS 1, [.t 93, .t 94], (some (87, false))⟩,
     ⟨(some 96), .load 1 false, [.t 95], (some (87, false))⟩,
     ⟨(some 97), .len false, [.t 96], (some (87, false))⟩,
     ⟨(some 98), .bin .neq, [.t 92, .t 97], (some (87, false))⟩,
     ⟨(some 99), .pick, [.t 87, .c (.bool true), .t 98], none⟩])
   (.cond (.t 99) (.seq (.reg [⟨(some 6), .mov, [.c (.bool false)], none⟩])
   .ret) .skip))
   (.seq (.reg [⟨(some 15), .mov, [.c (.int .i64 0)], none⟩])
   (.block 2 (.loop (.seq (.seq (.reg [⟨(some 100), .mov, [.t 15], none⟩,
     ⟨(some 101), .mov, [.t 12], none⟩,
     ⟨(some 102), .mov, [.t 14], none⟩,
     ⟨(some 103), .iaddrS 1, [.t 101, .t 102], none⟩,
     ⟨(some 104), .load 1 false, [.t 103], none⟩,
     ⟨(some 105), .len false, [.t 104], none⟩,
     ⟨(some 106), .bin .lss, [.t 100, .t 105], none⟩])
   (.cond (.t 106) .skip (.exit 2)))
   (.seq (.block 3 (.seq (.draw [0, 0, 3, 7, 0, 31, 63, 0, 0, 384, 896, 0, 3968, 8064, 0, 0, 49152, 114688, 0, 507904, 1032192, 2097151, 4194303] [⟨(some 109), .mov, [.t 12], none⟩,
     ⟨(some 110), .mov, [.t 14], none⟩,
     ⟨(some 111), .iaddrS 1, [.t 109, .t 110], none⟩,
     ⟨(some 112), .load 1 false, [.t 111], none⟩,
     ⟨(some 113), .mov, [.t 15], none⟩,
     ⟨(some 114), .iaddrS 1, [.t 112, .t 113], none⟩,
     ⟨(some 115), .load 1 false, [.t 114], none⟩,
     ⟨(some 116), .mov, [.t 7], none⟩,
     ⟨(some 117), .mov, [.t 14], none⟩,
     ⟨(some 118), .iaddrS 1, [.t 116, .t 117], none⟩,
     ⟨(some 119), .load 1 false, [.t 118], none⟩,
     ⟨(some 120), .mov, [.t 15], none⟩,
     ⟨(some 121), .iaddrS 1, [.t 119, .t 120], none⟩,
     ⟨(some 122), .load 1 false, [.t 121], none⟩,
     ⟨(some 123), .mov, [.t 8], none⟩,
     ⟨(some 124), .mov, [.t 14], none⟩,
     ⟨(some 125), .iaddrS 1, [.t 123, .t 124], none⟩,
     ⟨(some 126), .load 1 false, [.t 125], none⟩,
     ⟨(some 127), .mov, [.t 15], none⟩,
     ⟨(some 128), .iaddrS 1, [.t 126, .t 127], none⟩,
     ⟨(some 129), .load 1 false, [.t 128], none⟩,
     ⟨(some 130), .call 16, [.t 115, .t 122, .t 129], none⟩,
     ⟨(some 131), .un .not, [.t 130], none⟩])
   (.cond (.t 131) (.seq (.reg [⟨(some 6), .mov, [.c (.bool false)], none⟩])
   .ret) .skip)))
   (.reg [⟨(some 107), .mov, [.t 15], none⟩,
     ⟨(some 108), .bin .add, [.t 107, .c (.int .i64 1)], none⟩,
     ⟨(some 15), .mov, [.t 108], none⟩]))))))))
   (.reg [⟨(some 74), .mov, [.t 14], none⟩,
     ⟨(some 75), .bin .add, [.t 74, .c (.int .i64 1)], none⟩,
     ⟨(some 14), .mov, [.t 75], none⟩]))))))
   (.seq (.reg [⟨(some 132), .call 14, [], none⟩,
     ⟨(some 6), .mov, [.t 132], none⟩])
   .ret))))))))
theorem chk.law07_BinTrue : chkF Tryd.prog 11 = some (133, ir.law07_BinTrue, [.tmp 6]) := by kernel_rfl

/-- paravane/paravanelaw07.stood -/
abbrev F.law07_stood : Nat := 43
def ir.law07_stood : IC :=
 (.seq (.reg [⟨(some 4), .mov, [.c .nils], none⟩,
     ⟨(some 5), .mov, [.c (.bool false)], none⟩])
   (.seq (.reg [⟨(some 6), .mov, [.c .nils], none⟩])
   (.seq (.seq (.reg [⟨(some 7), .mov, [.c (.int .i64 0)], none⟩])
   (.block 0 (.loop (.seq (.seq (.reg [⟨(some 10), .mov, [.t 7], none⟩,
     ⟨(some 11), .mov, [.t 0], none⟩,
     ⟨(some 12), .len false, [.t 11], none⟩,
     ⟨(some 13), .bin .lss, [.t 10, .t 12], none⟩])
   (.cond (.t 13) .skip (.exit 0)))
   (.seq (.block 1 (.seq (.draw [0, 0, 3, 7, 0, 0, 32, 112, 0, 0, 512, 1536, 4080, 8191, 16383, 32767, 32767, 0, 196607, 524287] [⟨(some 17), .mov, [.t 0], none⟩,
     ⟨(some 18), .mov, [.t 7], none⟩,
     ⟨(some 19), .iaddrS 8, [.t 17, .t 18], none⟩,
     ⟨(some 20), .load 8 true, [.t 19], none⟩,
     ⟨(some 21), .mov, [.t 1], none⟩,
     ⟨(some 22), .mov, [.t 7], none⟩,
     ⟨(some 23), .bin .mul, [.c (.int .i64 2), .t 22], none⟩,
     ⟨(some 24), .call 78, [.t 21, .t 23], none⟩,
     ⟨(some 25), .mov, [.t 1], none⟩,
     ⟨(some 26), .mov, [.t 7], none⟩,
     ⟨(some 27), .bin .mul, [.c (.int .i64 2), .t 26], none⟩,
     ⟨(some 28), .bin .add, [.t 27, .c (.int .i64 1)], none⟩,
     ⟨(some 29), .call 78, [.t 25, .t 28], none⟩,
     ⟨(some 30), .call 77, [.t 20, .t 24, .t 29], none⟩,
     ⟨(some 16), .mov, [.t 30], none⟩,
     ⟨(some 31), .extract 0, [.t 16], none⟩,
     ⟨(some 32), .extract 1, [.t 16], none⟩,
     ⟨(some 8), .alloc [(.int .i64 0), (.int .i64 0)], [], none⟩,
     ⟨none, .store 2, [.t 8, .t 31], none⟩,
     ⟨(some 9), .mov, [.t 32], none⟩])
   (.seq (.seq (.reg [⟨(some 33), .mov, [.t 9], none⟩,
     ⟨(some 34), .un .not, [.t 33], none⟩])
   (.cond (.t 34) (.seq (.reg [⟨(some 4), .mov, [.c .nils], none⟩,
     ⟨(some 5), .mov, [.c (.bool false)], none⟩])
   .ret) .skip))
   (.reg [⟨(some 35), .mov, [.t 6], none⟩,
     ⟨(some 36), .load 2 true, [.t 8], none⟩,
     ⟨(some 37), .mkslice 2 23, [.t 36], none⟩,
     ⟨(some 38), .append 2 16 23, [.t 35, .t 37], none⟩,
     ⟨(some 6), .mov, [.t 38], none⟩]))))
   (.reg [⟨(some 14), .mov, [.t 7], none⟩,
     ⟨(some 15), .bin .add, [.t 14, .c (.int .i64 1)], none⟩,
     ⟨(some 7), .mov, [.t 15], none⟩]))))))
   (.seq (.reg [⟨(some 39), .mov, [.t 6], none⟩,
     ⟨(some 4), .mov, [.t 39], none⟩,
     ⟨(some 5), .mov, [.c (.bool true)], none⟩])
   .ret))))
theorem chk.law07_stood : chkF Tryd.prog 43 = some (40, ir.law07_stood, [.tmp 4, .tmp 5]) := by kernel_rfl

/-- paravane/paravanelaw07.counted -/
abbrev F.law07_counted : Nat := 44
def ir.law07_counted : IC :=
 (.seq (.reg [⟨(some 3), .box, [.t 0], none⟩,
     ⟨(some 4), .box, [.t 1], none⟩,
     ⟨(some 6), .mov, [.c .nils], none⟩,
     ⟨(some 7), .mov, [.c (.bool false)], none⟩])
   (.seq (.reg [⟨(some 8), .mov, [.c .nils], none⟩])
   (.seq (.seq (.reg [⟨(some 15), .faddr 3, [.t 3], none⟩,
     ⟨(some 16), .load 1 false, [.t 15], none⟩,
     ⟨(some 17), .call 16, [.t 16, .c (.int .i64 1), .c (.int .i64 16)], none⟩,
     ⟨(some 18), .un .not, [.t 17], none⟩,
     ⟨(some 19), .mov, [.t 18], none⟩,
     ⟨(some 20), .faddr 4, [.t 3], (some (19, false))⟩,
     ⟨(some 21), .load 1 false, [.t 20], (some (19, false))⟩,
     ⟨(some 22), .call 16, [.t 21, .c (.int .i64 1), .c (.int .i64 16)], (some (19, false))⟩,
     ⟨(some 23), .un .not, [.t 22], (some (19, false))⟩,
     ⟨(some 24), .pick, [.t 19, .c (.bool true), .t 23], none⟩])
   (.cond (.t 24) (.seq (.reg [⟨(some 6), .mov, [.c .nils], none⟩,
     ⟨(some 7), .mov, [.c (.bool false)], none⟩])
   .ret) .skip))
   (.seq (.seq (.reg [⟨(some 9), .mov, [.c (.int .i64 0)], none⟩])
   (.block 0 (.loop (.seq (.seq (.reg [⟨(some 25), .mov, [.t 9], none⟩,
     ⟨(some 26), .faddr 3, [.t 3], none⟩,
     ⟨(some 27), .load 1 false, [.t 26], none⟩,
     ⟨(some 28), .faddr 4, [.t 3], none⟩,
     ⟨(some 29), .load 1 false, [.t 28], none⟩,
     ⟨(some 30), .bin .mul, [.t 27, .t 29], none⟩,
     ⟨(some 31), .bin .lss, [.t 25, .t 30], none⟩])
   (.cond (.t 31) .skip (.exit 0)))
   (.seq (.block 1 (.reg [⟨(some 34), .mov, [.t 8], none⟩,
     ⟨(some 35), .faddr 5, [.t 3], none⟩,
     ⟨(some 36), .load 1 false, [.t 35], none⟩,
     ⟨(some 37), .len false, [.t 36], none⟩,
     ⟨(some 38), .mkbox 1 8 [(.int .i64 0)], [.t 37, .t 37], none⟩,
     ⟨(some 39), .mkslice 1 48, [.t 38], none⟩,
     ⟨(some 40), .append 1 24 48, [.t 34, .t 39], none⟩,
     ⟨(some 8), .mov, [.t 40], none⟩]))
   (.reg [⟨(some 32), .mov, [.t 9], none⟩,
     ⟨(some 33), .bin .add, [.t 32, .c (.int .i64 1)], none⟩,
     ⟨(some 9), .mov, [.t 33], none⟩]))))))
   (.seq (.seq (.reg [⟨(some 10), .mov, [.c (.int .i64 0)], none⟩])
   (.block 2 (.loop (.seq (.seq (.reg [⟨(some 41), .mov, [.t 10], none⟩,
     ⟨(some 42), .faddr 1, [.t 4], none⟩,
     ⟨(some 43), .load 1 false, [.t 42], none⟩,
     ⟨(some 44), .len false, [.t 43], none⟩,
     ⟨(some 45), .bin .lss, [.t 41, .t 44], none⟩])
   (.cond (.t 45) .skip (.exit 2)))
   (.seq (.block 3 (.seq (.reg [⟨(some 48), .faddr 1, [.t 4], none⟩,
     ⟨(some 49), .load 1 false, [.t 48], none⟩,
     ⟨(some 50), .mov, [.t 10], none⟩,
     ⟨(some 51), .iaddrS 2, [.t 49, .t 50], none⟩,
     ⟨(some 52), .load 2 true, [.t 51], none⟩,
     ⟨(some 11), .alloc [(.int .i64 0), (.int .i64 0)], [], none⟩,
     ⟨none, .store 2, [.t 11, .t 52], none⟩])
   (.seq (.seq (.reg [⟨(some 53), .iaddrA 2 1, [.t 11, .c (.int .i64 0)], none⟩,
     ⟨(some 54), .load 1 false, [.t 53], none⟩,
     ⟨(some 55), .mov, [.t 2], none⟩,
     ⟨(some 56), .len false, [.t 55], none⟩,
     ⟨(some 57), .bin .sub, [.t 56, .c (.int .i64 1)], none⟩,
     ⟨(some 58), .call 16, [.t 54, .c (.int .i64 0), .t 57], none⟩,
     ⟨(some 59), .un .not, [.t 58], none⟩,
     ⟨(some 60), .mov, [.t 59], none⟩,
     ⟨(some 61), .iaddrA 2 1, [.t 11, .c (.int .i64 1)], (some (60, false))⟩,
     ⟨(some 62), .load 1 false, [.t 61], (some (60, false))⟩,
     ⟨(some 63), .mov, [.t 2], (some (60, false))⟩,
     ⟨(some 64), .len false, [.t 63], (some (60, false))⟩,
     ⟨(some 65), .bin .sub, [.t 64, .c (.int .i64 1)], (some (60, false))⟩,
     ⟨(some 66), .call 16, [.t 62, .c (.int .i64 0), .t 65], (some (60, false))⟩,
     ⟨(some 67), .un .not, [.t 66], (some (60, false))⟩,
     ⟨(some 68), .pick, [.t 60, .c (.bool true), .t 67], none⟩])
   (.cond (.t 68) (.seq (.reg [⟨(some 6), .mov, [.c .nils], none⟩,
     ⟨(some 7), .mov, [.c (.bool false)], none⟩])
   .ret) .skip))
   (.seq (.draw [0, 0, 0, 4, 14, 30, 0, 0, 128, 448, 960, 2047, 4095, 8191, 8191, 0, 49151, 131071] [⟨(some 70), .load 6 true, [.t 3], none⟩,
     ⟨(some 71), .mov, [.t 2], none⟩,
     ⟨(some 72), .iaddrA 2 1, [.t 11, .c (.int .i64 0)], none⟩,
     ⟨(some 73), .load 1 false, [.t 72], none⟩,
     ⟨(some 74), .iaddrS 2, [.t 71, .t 73], none⟩,
     ⟨(some 75), .load 2 true, [.t 74], none⟩,
     ⟨(some 76), .mov, [.t 2], none⟩,
     ⟨(some 77), .iaddrA 2 1, [.t 11, .c (.int .i64 1)], none⟩,
     ⟨(some 78), .load 1 false, [.t 77], none⟩,
     ⟨(some 79), .iaddrS 2, [.t 76, .t 78], none⟩,
     ⟨(some 80), .load 2 true, [.t 79], none⟩,
     ⟨(some 81), .call 15, [.t 70, .t 75, .t 80], none⟩,
     ⟨(some 69), .mov, [.t 81], none⟩,
     ⟨(some 82), .extract 0, [.t 69], none⟩,
     ⟨(some 83), .extract 1, [.t 69], none⟩,
     ⟨(some 12), .alloc [(.int .i64 0), (.int .i64 0)], [], none⟩,
     ⟨none, .store 2, [.t 12, .t 82], none⟩,
     ⟨(some 13), .mov, [.t 83], none⟩])
   (.seq (.seq (.reg [⟨(some 84), .mov, [.t 13], none⟩,
     ⟨(some 85), .bin .neq, [.t 84, .c (.int .i64 0)], none⟩])
   (.cond (.t 85) (.seq (.reg [⟨(some 6), .mov, [.c .nils], none⟩,
     ⟨(some 7), .mov, [.c (.bool false)], none⟩])
   .ret) .skip))
   (.seq (.seq (.reg [⟨(some 86), .faddr 0, [.t 12], none⟩,
     ⟨(some 87), .load 1 false, [.t 86], none⟩,
     ⟨(some 88), .bin .eql, [.t 87, .c (.int .i64 (-1))], none⟩])
   (.cond (.t 88) (.exit 3) .skip))
   (.seq (.seq (.reg [⟨(some 89), .faddr 0, [.t 12], none⟩,
     ⟨(some 90), .load 1 false, [.t 89], none⟩,
     ⟨(some 91), .mov, [.t 8], none⟩,
     ⟨(some 92), .len false, [.t 91], none⟩,
     ⟨(some 93), .bin .sub, [.t 92, .c (.int .i64 1)], none⟩,
     ⟨(some 94), .call 16, [.t 90, .c (.int .i64 0), .t 93], none⟩,
     ⟨(some 95), .un .not, [.t 94], none⟩,
     ⟨(some 96), .mov, [.t 95], none⟩,
     ⟨(some 97), .faddr 1, [.t 12], (some (96, false))⟩,
     ⟨(some 98), .load 1 false, [.t 97], (some (96, false))⟩,
     ⟨(some 99), .faddr 5, [.t 3], (some (96, false))⟩,
     ⟨(some 100), .load 1 false, [.t 99], (some (96, false))⟩,
     ⟨(some 101), .len false, [.t 100], (some (96, false))⟩,
     ⟨(some 102), .bin .sub, [.t 101, .c (.int .i64 1)], (some (96, false))⟩,
     ⟨(some 103), .call 16, [.t 98, .c (.int .i64 0), .t 102], (some (96, false))⟩,
     ⟨(some 104), .un .not, [.t 103], (some (96, false))⟩,
     ⟨(some 105), .pick, [.t 96, .c (.bool true), .t 104], none⟩])
   (.cond (.t 105) (.seq (.reg [⟨(some 6), .mov, [.c .nils], none⟩,
     ⟨(some 7), .mov, [.c (.bool false)], none⟩])
   .ret) .skip))
   (.seq (.reg [⟨(some 106), .mov, [.t 8], none⟩,
     ⟨(some 107), .faddr 0, [.t 12], none⟩,
     ⟨(some 108), .load 1 false, [.t 107], none⟩,
     ⟨(some 109), .iaddrS 1, [.t 106, .t 108], none⟩,
     ⟨(some 110), .load 1 false, [.t 109], none⟩,
     ⟨(some 14), .mov, [.t 110], none⟩])
   (.reg [⟨(some 111), .mov, [.t 14], none⟩,
     ⟨(some 112), .faddr 1, [.t 12], none⟩,
     ⟨(some 113), .load 1 false, [.t 112], none⟩,
     ⟨(some 114), .iaddrS 1, [.t 111, .t 113], none⟩,
     ⟨(some 115), .load 1 false, [.t 114], none⟩,
     ⟨(some 116), .bin .add, [.t 115, .c (.int .i64 1)], none⟩,
     ⟨(some 117), .iaddrS 1, [.t 111, .t 113], none⟩,
     ⟨none, .store 1, [.t 117, .t 116], none⟩])))))))))
   (.reg [⟨(some 46), .mov, [.t 10], none⟩,
     ⟨(some 47), .bin .add, [.t 46, .c (.int .i64 1)], none⟩,
     ⟨(some 10), .mov, [.t 47], none⟩]))))))
   (.seq (.reg [⟨(some 118), .mov, [.t 8], none⟩,
     ⟨(some 6), .mov, [.t 118], none⟩,
     ⟨(some 7), .mov, [.c (.bool true)], none⟩])
   .ret))))))
theorem chk.law07_counted : chkF Tryd.prog 44 = some (119, ir.law07_counted, [.tmp 6, .tmp 7]) := by kernel_rfl

/-- paravane/paravanelaw07.chosen -/
abbrev F.law07_chosen : Nat := 77
def ir.law07_chosen : IC :=
 (.seq (.reg [⟨(some 3), .box, [.t 0], none⟩,
     ⟨(some 6), .alloc [(.int .i64 0), (.int .i64 0)], [], none⟩,
     ⟨(some 7), .mov, [.c (.bool false)], none⟩])
   (.seq (.reg [⟨(some 14), .load 8 true, [.t 3], none⟩,
     ⟨(some 15), .call 99, [.t 14], none⟩,
     ⟨(some 13), .mov, [.t 15], none⟩,
     ⟨(some 16), .extract 0, [.t 13], none⟩,
     ⟨(some 17), .extract 1, [.t 13], none⟩,
     ⟨(some 8), .alloc [(.int .i64 0), (.int .i64 0), (.int .i64 0), (.int .i64 0), (.int .i64 0), (.int .i64 0), (.int .i64 0), (.int .i64 0)], [], none⟩,
     ⟨none, .store 8, [.t 8, .t 16], none⟩,
     ⟨(some 9), .mov, [.t 17], none⟩])
   (.seq (.seq (.reg [⟨(some 18), .mov, [.t 9], none⟩,
     ⟨(some 19), .bin .neq, [.t 18, .c (.int .i64 0)], none⟩])
   (.cond (.t 19) (.seq (.reg [⟨(some 20), .build [(.int .i64 0), (.int .i64 0)] [], [], none⟩,
     ⟨none, .store 2, [.t 6, .t 20], none⟩,
     ⟨(some 7), .mov, [.c (.bool false)], none⟩])
   .ret) .skip))
   (.seq (.draw [0, 1, 3, 0, 0, 16, 48, 0, 128, 384, 1008, 2032, 4088, 8191, 16383] [⟨(some 21), .faddr 0, [.t 8], none⟩,
     ⟨(some 22), .faddr 0, [.t 21], none⟩,
     ⟨(some 23), .load 1 false, [.t 22], none⟩,
     ⟨(some 24), .mov, [.t 1], none⟩,
     ⟨(some 25), .faddr 0, [.t 8], none⟩,
     ⟨(some 26), .faddr 1, [.t 25], none⟩,
     ⟨(some 27), .load 1 false, [.t 26], none⟩,
     ⟨(some 28), .faddr 0, [.t 8], none⟩,
     ⟨(some 29), .faddr 0, [.t 28], none⟩,
     ⟨(some 30), .load 1 false, [.t 29], none⟩,
     ⟨(some 31), .bin .sub, [.t 27, .t 30], none⟩,
     ⟨(some 32), .bin .add, [.t 31, .c (.int .i64 1)], none⟩,
     ⟨(some 33), .call 17, [.t 24, .t 32], none⟩,
     ⟨(some 34), .bin .add, [.t 23, .t 33], none⟩,
     ⟨(some 10), .mov, [.t 34], none⟩])
   (.seq (.draw [0, 1, 3, 0, 8, 24, 0, 120, 0, 0, 512, 1536, 3840, 8191, 0, 16384, 49152, 0, 131072, 393216, 0, 1966080, 0, 0, 8388608, 25165824, 62914560, 134201344, 16383, 536870911] [⟨(some 35), .faddr 2, [.t 8], none⟩,
     ⟨(some 36), .faddr 0, [.t 35], none⟩,
     ⟨(some 37), .load 1 false, [.t 36], none⟩,
     ⟨(some 38), .faddr 4, [.t 8], none⟩,
     ⟨(some 39), .faddr 0, [.t 38], none⟩,
     ⟨(some 40), .load 1 false, [.t 39], none⟩,
     ⟨(some 41), .mov, [.t 10], none⟩,
     ⟨(some 42), .bin .sub, [.t 40, .t 41], none⟩,
     ⟨(some 43), .mov, [.t 10], none⟩,
     ⟨(some 44), .faddr 6, [.t 8], none⟩,
     ⟨(some 45), .faddr 1, [.t 44], none⟩,
     ⟨(some 46), .load 1 false, [.t 45], none⟩,
     ⟨(some 47), .bin .sub, [.t 43, .t 46], none⟩,
     ⟨(some 48), .minmax true, [.t 37, .t 42, .t 47], none⟩,
     ⟨(some 49), .faddr 2, [.t 8], none⟩,
     ⟨(some 50), .faddr 1, [.t 49], none⟩,
     ⟨(some 51), .load 1 false, [.t 50], none⟩,
     ⟨(some 52), .faddr 4, [.t 8], none⟩,
     ⟨(some 53), .faddr 1, [.t 52], none⟩,
     ⟨(some 54), .load 1 false, [.t 53], none⟩,
     ⟨(some 55), .mov, [.t 10], none⟩,
     ⟨(some 56), .bin .sub, [.t 54, .t 55], none⟩,
     ⟨(some 57), .mov, [.t 10], none⟩,
     ⟨(some 58), .faddr 6, [.t 8], none⟩,
     ⟨(some 59), .faddr 0, [.t 58], none⟩,
     ⟨(some 60), .load 1 false, [.t 59], none⟩,
     ⟨(some 61), .bin .sub, [.t 57, .t 60], none⟩,
     ⟨(some 62), .minmax false, [.t 51, .t 56, .t 61], none⟩,
     ⟨(some 11), .mov, [.t 48], none⟩,
     ⟨(some 12), .mov, [.t 62], none⟩])
   (.seq (.reg [⟨(some 63), .mov, [.t 10], none⟩,
     ⟨(some 64), .mov, [.t 11], none⟩,
     ⟨(some 65), .mov, [.t 2], none⟩,
     ⟨(some 66), .mov, [.t 12], none⟩,
     ⟨(some 67), .mov, [.t 11], none⟩,
     ⟨(some 68), .bin .sub, [.t 66, .t 67], none⟩,
     ⟨(some 69), .bin .add, [.t 68, .c (.int .i64 1)], none⟩,
     ⟨(some 70), .call 17, [.t 65, .t 69], none⟩,
     ⟨(some 71), .bin .add, [.t 64, .t 70], none⟩,
     ⟨(some 72), .build [(.int .i64 0), (.int .i64 0)] [(0, 1), (1, 1)], [.t 63, .t 71], none⟩,
     ⟨(some 73), .mov, [.t 11], none⟩,
     ⟨(some 74), .mov, [.t 12], none⟩,
     ⟨(some 75), .bin .leq, [.t 73, .t 74], none⟩,
     ⟨none, .store 2, [.t 6, .t 72], none⟩,
     ⟨(some 7), .mov, [.t 75], none⟩])
   .ret))))))
theorem chk.law07_chosen : chkF Tryd.prog 77 = some (76, ir.law07_chosen, [.cell 6 23, .tmp 7]) := by kernel_rfl

/-- paravane/paravaneref00.Pick -/
abbrev F.ref00_Pick : Nat := 78
def ir.ref00_Pick : IC :=
 (.seq (.reg [⟨(some 4), .mov, [.c (.int .i64 0)], none⟩])
   (.seq (.seq (.reg [⟨(some 5), .mov, [.t 0], none⟩,
     ⟨(some 6), .len false, [.t 5], none⟩,
     ⟨(some 7), .bin .eql, [.t 6, .c (.int .i64 0)], none⟩])
   (.cond (.t 7) (.seq (.reg [⟨(some 4), .mov, [.c (.int .i64 0)], none⟩])
   .ret) .skip))
   (.seq (.reg [⟨(some 8), .mov, [.t 0], none⟩,
     ⟨(some 9), .mov, [.t 1], none⟩,
     ⟨(some 10), .mov, [.t 0], none⟩,
     ⟨(some 11), .len false, [.t 10], none⟩,
     ⟨(some 12), .call 17, [.t 9, .t 11], none⟩,
     ⟨(some 13), .iaddrS 1, [.t 8, .t 12], none⟩,
     ⟨(some 14), .load 1 false, [.t 13], none⟩,
     ⟨(some 4), .mov, [.t 14], none⟩])
   .ret)))
theorem chk.ref00_Pick : chkF Tryd.prog 78 = some (15, ir.ref00_Pick, [.tmp 4]) := by kernel_rfl

/-- paravane/region.Tight -/
abbrev F.region_Tight : Nat := 99
def ir.region_Tight : IC :=
 (.seq (.reg [⟨(some 1), .box, [.t 0], none⟩,
     ⟨(some 2), .alloc [(.int .i64 0), (.int .i64 0), (.int .i64 0), (.int .i64 0), (.int .i64 0), (.int .i64 0), (.int .i64 0), (.int .i64 0)], [], none⟩,
     ⟨(some 3), .mov, [.c (.int .i64 0)], none⟩])
   (.seq (.seq (.reg [⟨(some 5), .load 8 true, [.t 1], none⟩,
     ⟨(some 6), .call 94, [.t 5], none⟩,
     ⟨(some 4), .mov, [.t 6], none⟩])
   (.seq (.reg [⟨(some 7), .mov, [.t 4], none⟩,
     ⟨(some 8), .bin .neq, [.t 7, .c (.int .i64 0)], none⟩])
   (.cond (.t 8) (.seq (.reg [⟨(some 9), .build [(.int .i64 0), (.int .i64 0), (.int .i64 0), (.int .i64 0), (.int .i64 0), (.int .i64 0), (.int .i64 0), (.int .i64 0)] [], [], none⟩,
     ⟨(some 10), .mov, [.t 4], none⟩,
     ⟨none, .store 8, [.t 2, .t 9], none⟩,
     ⟨(some 3), .mov, [.t 10], none⟩])
   .ret) .skip)))
   (.seq (.reg [⟨(some 11), .load 8 true, [.t 1], none⟩,
     ⟨(some 12), .call 95, [.t 11], none⟩,
     ⟨(some 13), .call 111, [.t 12], none⟩,
     ⟨(some 14), .extract 0, [.t 13], none⟩,
     ⟨(some 15), .extract 1, [.t 13], none⟩,
     ⟨(some 16), .call 110, [.t 14, .t 15], none⟩,
     ⟨(some 17), .extract 0, [.t 16], none⟩,
     ⟨(some 18), .extract 1, [.t 16], none⟩,
     ⟨none, .store 8, [.t 2, .t 17], none⟩,
     ⟨(some 3), .mov, [.t 18], none⟩])
   .ret)))
theorem chk.region_Tight : chkF Tryd.prog 99 = some (19, ir.region_Tight, [.cell 2 87, .tmp 3]) := by kernel_rfl

end Go.Proofs.YtffoiccokigjcaaDoor

/-! Weakening inside a region. -/
set_option linter.unusedVariables false
set_option linter.unusedSimpArgs false
namespace Go.Proofs.YtffoiccokigjcaaDoor
open Go.Am

theorem stepsWeak {E : Env} {s s' : St} {i : Ins} {r : List Ins} {K : St → Prop} (h : Wk E s s') (k : Am.Steps E (i :: r) K s') : Am.Steps E (i :: r) K s := by
  refine Step1.raw fun slots ops o j ro n a w hh hc hs hi R Q next hn => ?_
  obtain ⟨h', R', hy⟩ := h a w hh R
  exact step_ok (k : Step1 E i (Am.Steps E r K) s') hc hs hi R' fun s'' a' w' h'' k R ey => hn s'' a' w' h'' k R (ey.trans hy)

theorem VLe.agg2 {a b c d : V} (h : VLe a c) (k : VLe b d) : VLe (.agg [a, b]) (.agg [c, d]) := .agg rfl fun i v u h1 h2 => by
  match i with
  | 0 => cases h1; cases h2; exact h
  | 1 => cases h1; cases h2; exact k
  | i + 2 => simp at h1

end Go.Proofs.YtffoiccokigjcaaDoor

/-! Contracts: Tight, Pick, chosen; a place that numbers choose lies in its region. -/
set_option linter.unusedVariables false
set_option linter.unusedSimpArgs false
set_option maxRecDepth 40000
set_option maxHeartbeats 4000000
namespace Go.Proofs.YtffoiccokigjcaaDoor
open Go.Am
attribute [local simp] cells scalar mkv splice under2 under dem dem1 eB fourC intsV

/-! ### The hull of points of the plane -/
structure HullOk (T : Fr) (l : List (Int × Int)) : Prop where
  i : ∀ p ∈ l, (T.x.1 ≤ p.1 ∧ p.1 ≤ T.x.2) ∧ (T.y.1 ≤ p.2 ∧ p.2 ≤ T.y.2) ∧ (T.s.1 ≤ p.1 + p.2 ∧ p.1 + p.2 ≤ T.s.2) ∧ T.d.1 ≤ p.1 - p.2 ∧ p.1 - p.2 ≤ T.d.2
  a1 : ∃ p ∈ l, p.1 = T.x.1
  a2 : ∃ p ∈ l, p.1 = T.x.2
  b1 : ∃ p ∈ l, p.2 = T.y.1
  b2 : ∃ p ∈ l, p.2 = T.y.2
  c1 : ∃ p ∈ l, p.1 + p.2 = T.s.1
  c2 : ∃ p ∈ l, p.1 + p.2 = T.s.2
  d1 : ∃ p ∈ l, p.1 - p.2 = T.d.1
  d2 : ∃ p ∈ l, p.1 - p.2 = T.d.2

theorem ofF_pl {p : Int × Int} (h : planeB p = true) : ofF p = ⟨(p.1, p.1), (p.2, p.2), (p.1 + p.2, p.1 + p.2), (p.1 - p.2, p.1 - p.2)⟩ := by
  simp only [planeB, Bool.and_eq_true, btw_iff] at h
  unfold ofF w
  rw [w64 (n := p.1 + p.2) (by omega) (by omega), w64 (n := p.1 - p.2) (by omega) (by omega)]

theorem attain {l : List (Int × Int)} {f : Int × Int → Int} {m : Int} {p : Int × Int} (h : ∃ q ∈ l, f q = m) : (∃ q ∈ l ++ [p], f q = min m (f p)) ∧ ∃ q ∈ l ++ [p], f q = max m (f p) := by
  obtain ⟨q, hq, rfl⟩ := h
  constructor
  · by_cases h : f q ≤ f p
    · exact ⟨q, by simp [hq], by omega⟩
    · exact ⟨p, by simp, by omega⟩
  · by_cases h : f q ≤ f p
    · exact ⟨p, by simp, by omega⟩
    · exact ⟨q, by simp [hq], by omega⟩

theorem hull_one {p : Int × Int} (hp : planeB p = true) : hullS [p] = (⟨(p.1, p.1), (p.2, p.2), (p.1 + p.2, p.1 + p.2), (p.1 - p.2, p.1 - p.2)⟩, true) := by
  simp [hullS, hstep, comb, spanB, ofF_pl hp]

theorem hull_ok : ∀ (n : Nat) (l : List (Int × Int)), l.length = n + 1 → (∀ p ∈ l, planeB p = true) → (hullS l).2 = true ∧ HullOk (hullS l).1 l
  | 0, l, hl, hp => by
    match l, hl with
    | [p], _ =>
      rw [hull_one (hp p (by simp))]
      refine ⟨rfl, ⟨?_, ?_, ?_, ?_, ?_, ?_, ?_, ?_, ?_⟩⟩
      · intro q hq
        rw [List.mem_singleton.1 hq]; simp
      all_goals exact ⟨p, by simp, rfl⟩
  | n + 1, l, hl, hp => by
    have hne : l ≠ [] := fun e => by rw [e] at hl; simp at hl
    obtain ⟨m, p, rfl⟩ : ∃ m p, l = m ++ [p] := ⟨l.dropLast, l.getLast hne, (List.dropLast_concat_getLast hne).symm⟩
    obtain ⟨h2, ih⟩ := hull_ok n m (by simpa using hl) fun q hq => hp q (by simp [hq])
    have e : hullS (m ++ [p]) = hstep (hullS m) p := by unfold hullS; rw [List.foldl_append]; rfl
    rw [e]
    obtain ⟨⟨T, b⟩, hT⟩ : ∃ T, hullS m = T := ⟨_, rfl⟩
    rw [hT] at h2 ih ⊢
    simp only at h2 ih
    subst h2
    refine ⟨rfl, ?_⟩
    have eT : (hstep (T, true) p).1 = ⟨(min T.x.1 p.1, max T.x.2 p.1), (min T.y.1 p.2, max T.y.2 p.2), (min T.s.1 (p.1 + p.2), max T.s.2 (p.1 + p.2)), (min T.d.1 (p.1 - p.2), max T.d.2 (p.1 - p.2))⟩ := by
      simp [hstep, comb, spanB, ofF_pl (hp p (by simp))]
    rw [eT]
    refine ⟨?_, (attain (f := fun q => q.1) ih.a1).1, (attain (f := fun q => q.1) ih.a2).2, (attain (f := fun q => q.2) ih.b1).1, (attain (f := fun q => q.2) ih.b2).2, (attain (f := fun q => q.1 + q.2) ih.c1).1, (attain (f := fun q => q.1 + q.2) ih.c2).2, (attain (f := fun q => q.1 - q.2) ih.d1).1, (attain (f := fun q => q.1 - q.2) ih.d2).2⟩
    intro q hq
    simp only
    rcases List.mem_append.1 hq with hq | hq
    · have := ih.i q hq
      omega
    · rw [List.mem_singleton.1 hq]
      omega

theorem rows_mem {f : Fr} {r : Int × Int × Int} : ∀ (n : Nat) (x : Int), r ∈ rowsN f n x → (x ≤ r.1 ∧ r.1 < x + n) ∧ r.2.1 = lowY f r.1 ∧ r.2.2 = highY f r.1 ∧ r.2.1 ≤ r.2.2
  | 0, x, h => by cases h
  | n + 1, x, h => by
    simp only [rowsN] at h
    split at h
    · rename_i h1
      rcases List.mem_cons.1 h with rfl | h
      · exact ⟨⟨by simp, by simp; omega⟩, rfl, rfl, h1⟩
      · have := rows_mem n (x + 1) h
        exact ⟨⟨by omega, by push_cast; omega⟩, this.2⟩
    · have := rows_mem n (x + 1) h
      exact ⟨⟨by omega, by push_cast; omega⟩, this.2⟩

theorem ends_places {f : Fr} {p : Int × Int} (hp : p ∈ endsL f) : p ∈ placesL f := by
  unfold endsL at hp
  obtain ⟨r, hr, hp⟩ := List.mem_flatMap.1 hp
  obtain ⟨h1, h2, h3, h4⟩ := rows_mem _ _ hr
  rw [mem_placesL]
  unfold endsR at hp
  split at hp
  · rw [List.mem_singleton.1 hp]
    exact ⟨⟨by simp only; omega, by simp only; omega⟩, by simp only; omega, by simp only; omega⟩
  · rcases List.mem_cons.1 hp with rfl | hp
    · exact ⟨⟨by simp only; omega, by simp only; omega⟩, by simp only; omega, by simp only; omega⟩
    · rw [List.mem_singleton.1 hp]
      exact ⟨⟨by simp only; omega, by simp only; omega⟩, by simp only; omega, by simp only; omega⟩

def tightF (f : Fr) : Fr := (hullS (endsL f)).1

theorem tight_ok {f : Fr} (h : nodeOk f = true) : (hullS (endsL f)).2 = true ∧ HullOk (tightF f) (endsL f) := by
  have hn2 := h
  simp only [nodeOk, Bool.and_eq_true, btw_iff] at hn2
  have hc := count_len (mid_of hn2.1)
  have hne : endsL f ≠ [] := by
    intro e
    have hr : rowsL f = [] := by
      unfold endsL at e
      cases h4 : rowsL f with
      | nil => rfl
      | cons r l =>
        rw [h4, List.flatMap_cons] at e
        have := (List.append_eq_nil_iff.1 e).1
        unfold endsR at this
        split at this <;> cases this
    have : placesL f = [] := by unfold placesL; rw [hr]; rfl
    rw [this] at hc
    simp at hc; omega
  exact hull_ok ((endsL f).length - 1) _ (by have := List.length_pos_iff.2 hne; omega) fun p hp => node_plane h (ends_places hp)

theorem c_Tight {f : Fr} (h : nodeOk f = true) : C Tryd.prog F.region_Tight [.agg (fourC f)] (.tuple [.agg (fourC (tightF f)), I 0]) := by
  have hn2 := h
  simp only [nodeOk, Bool.and_eq_true, btw_iff] at hn2
  have kc := c_CheckF f
  rw [if_pos hn2.1] at kc
  refine C_of mixed chk.region_Tight (by simp) fun S ok => ?_
  refine Tr.seqR rfl (by simp) (Tr.seq (Tr.seqC rfl (by simp) (Steps.call rfl rfl kc (Steps.fin rfl (by simp) (Tr.seqR rfl (by simp) (Tr.condF rfl (Tr.skip ?_)))))))
  refine Tr.seqC rfl (by simp) (Steps.call rfl rfl (c_bounds f) (Steps.call rfl rfl (c_tight (mid_of hn2.1) (tight_ok h).1) (Steps.run rfl (by simp) ?_)))
  exact Steps.call rfl rfl (c_done (tightF f)) (Steps.fin rfl (by simp) (Tr.retX rfl rfl rfl rfl trivial))

end Go.Proofs.YtffoiccokigjcaaDoor

/-! Contracts: Pick, chosen, stood. -/
set_option linter.unusedVariables false
set_option linter.unusedSimpArgs false
set_option maxRecDepth 40000
set_option maxHeartbeats 4000000
namespace Go.Proofs.YtffoiccokigjcaaDoor
open Go.Am
attribute [local simp] cells scalar mkv splice under2 under dem dem1 eB fourC intsV sB eF

def pickI (l : List Int) (i : Int) : Int := l.getD (restI i l.length).toNat 0

theorem c_Pick (l : List Int) (i : Int) (hl : l.length ≤ 9223372036854775807) : C Tryd.prog F.ref00_Pick [intsV l, I i] (I (pickI l i)) := by
  refine C_of mixed chk.ref00_Pick (by simp) fun S ok => ?_
  refine Tr.seqR rfl (by simp) (Tr.seq (Tr.seqR rfl (by simp [intsV]) (Tr.cond rfl rfl (fun h1 => Tr.seqR rfl (by simp) (Tr.retX rfl rfl rfl ?_ trivial)) (fun h1 => Tr.skip ?_))))
  · have h1 : l = [] := by simpa using h1
    subst h1; rfl
  have h1 : l ≠ [] := by simpa using h1
  have h0 : 0 < l.length := List.length_pos_iff.2 h1
  have hb := restI_bd (n := i) (m := l.length) (by omega)
  obtain ⟨q, hq⟩ : ∃ q : Nat, restI i l.length = (q : Int) := ⟨(restI i l.length).toNat, by omega⟩
  have hql : q < l.length := by omega
  have hc : C Tryd.prog F.ref00_Rest [I i, I ((l.map I).length : Int)] (I (q : Int)) := by
    rw [List.length_map]; exact hq ▸ c_Rest i l.length (by omega)
  refine Tr.seqC rfl (by simp [intsV]) (Steps.call rfl rfl hc (Steps.runN 1 rfl (by simp [intsV]; omega) ?_))
  rw [getD_map hql]
  refine Steps.fin rfl (by simp) (Tr.retX rfl rfl rfl ?_ trivial)
  simp [packR, pickI, hq, List.getElem?_eq_getElem hql]

/-! ### A place that numbers choose -/
def chX (f : Fr) (a : Int) : Int := (tightF f).x.1 + restI a ((tightF f).x.2 - (tightF f).x.1 + 1)
def chosenN (f : Fr) (a b : Int) : Int × Int := (chX f a, lowY (tightF f) (chX f a) + restI b (highY (tightF f) (chX f a) - lowY (tightF f) (chX f a) + 1))

theorem lowY_le {f : Fr} {x y : Int} : lowY f x ≤ y ↔ f.y.1 ≤ y ∧ f.s.1 - x ≤ y ∧ x - f.d.2 ≤ y := by unfold lowY; omega
theorem le_highY {f : Fr} {x y : Int} : y ≤ highY f x ↔ y ≤ f.y.2 ∧ y ≤ f.s.2 - x ∧ y ≤ x - f.d.1 := by unfold highY; omega

theorem tight_bd {f : Fr} (h : nodeOk f = true) : ((-32768 ≤ (tightF f).x.1 ∧ (tightF f).x.1 ≤ (tightF f).x.2 ∧ (tightF f).x.2 ≤ 32768) ∧ (-32768 ≤ (tightF f).y.1 ∧ (tightF f).y.2 ≤ 32768) ∧ (-65536 ≤ (tightF f).s.1 ∧ (tightF f).s.2 ≤ 65536) ∧ -65536 ≤ (tightF f).d.1 ∧ (tightF f).d.2 ≤ 65536) ∧
    ((tightF f).y.1 ≤ 32768 ∧ -32768 ≤ (tightF f).y.2) ∧ ((tightF f).s.1 ≤ 65536 ∧ -65536 ≤ (tightF f).s.2) ∧ (tightF f).d.1 ≤ 65536 ∧ -65536 ≤ (tightF f).d.2 := by
  have H := (tight_ok h).2
  have pl : ∀ p ∈ endsL f, (-32768 ≤ p.1 ∧ p.1 ≤ 32768) ∧ -32768 ≤ p.2 ∧ p.2 ≤ 32768 := fun p hp => by
    have := node_plane h (ends_places hp)
    simpa only [planeB, Bool.and_eq_true, btw_iff] using this
  obtain ⟨p1, m1, e1⟩ := H.a1; obtain ⟨p2, m2, e2⟩ := H.a2; obtain ⟨p3, m3, e3⟩ := H.b1; obtain ⟨p4, m4, e4⟩ := H.b2
  obtain ⟨p5, m5, e5⟩ := H.c1; obtain ⟨p6, m6, e6⟩ := H.c2; obtain ⟨p7, m7, e7⟩ := H.d1; obtain ⟨p8, m8, e8⟩ := H.d2
  have k1 := pl _ m1; have k2 := pl _ m2; have k3 := pl _ m3; have k4 := pl _ m4; have k5 := pl _ m5; have k6 := pl _ m6; have k7 := pl _ m7; have k8 := pl _ m8
  have k9 := H.i _ m1
  refine ⟨⟨⟨?_, ?_, ?_⟩, ⟨?_, ?_⟩, ⟨?_, ?_⟩, ?_, ?_⟩, ⟨?_, ?_⟩, ⟨?_, ?_⟩, ?_, ?_⟩ <;> omega

/-- No column between is empty. -/
theorem tight_col {f : Fr} (h : nodeOk f = true) {x : Int} (h1 : (tightF f).x.1 ≤ x) (h2 : x ≤ (tightF f).x.2) : lowY (tightF f) x ≤ highY (tightF f) x := by
  have H := (tight_ok h).2
  obtain ⟨p1, m1, e1⟩ := H.a1; obtain ⟨p2, m2, e2⟩ := H.a2
  have i1 := H.i _ m1; have i2 := H.i _ m2
  rw [lowY_le, le_highY, le_highY, le_highY]
  refine ⟨⟨?_, ?_, ?_⟩, ⟨?_, ?_, ?_⟩, ⟨?_, ?_, ?_⟩⟩ <;> omega

theorem tight_sub {f : Fr} (h : nodeOk f = true) {q : Int × Int} (h1 : (tightF f).x.1 ≤ q.1) (h2 : q.1 ≤ (tightF f).x.2) (h3 : lowY (tightF f) q.1 ≤ q.2) (h4 : q.2 ≤ highY (tightF f) q.1) : q ∈ placesL f := by
  have H := (tight_ok h).2
  have pl : ∀ p ∈ endsL f, (f.x.1 ≤ p.1 ∧ p.1 ≤ f.x.2) ∧ (f.y.1 ≤ p.2 ∧ f.s.1 - p.1 ≤ p.2 ∧ p.1 - f.d.2 ≤ p.2) ∧ p.2 ≤ f.y.2 ∧ p.2 ≤ f.s.2 - p.1 ∧ p.2 ≤ p.1 - f.d.1 := fun p hp => by
    have := mem_placesL.1 (ends_places hp)
    rw [lowY_le, le_highY] at this; exact this
  obtain ⟨p1, m1, e1⟩ := H.a1; obtain ⟨p2, m2, e2⟩ := H.a2; obtain ⟨p3, m3, e3⟩ := H.b1; obtain ⟨p4, m4, e4⟩ := H.b2
  obtain ⟨p5, m5, e5⟩ := H.c1; obtain ⟨p6, m6, e6⟩ := H.c2; obtain ⟨p7, m7, e7⟩ := H.d1; obtain ⟨p8, m8, e8⟩ := H.d2
  have k1 := pl _ m1; have k2 := pl _ m2; have k3 := pl _ m3; have k4 := pl _ m4; have k5 := pl _ m5; have k6 := pl _ m6; have k7 := pl _ m7; have k8 := pl _ m8
  rw [lowY_le] at h3
  rw [le_highY] at h4
  rw [mem_placesL, lowY_le, le_highY]
  refine ⟨⟨?_, ?_⟩, ⟨?_, ?_, ?_⟩, ⟨?_, ?_, ?_⟩⟩
  · clear k2 k3 k4 k5 k6 k7 k8; omega
  · clear k1 k3 k4 k5 k6 k7 k8; omega
  · clear k1 k2 k4 k5 k6 k7 k8; omega
  · clear k1 k2 k3 k4 k6 k7 k8; omega
  · clear k1 k2 k3 k4 k5 k6 k7; omega
  · clear k1 k2 k3 k5 k6 k7 k8; omega
  · clear k1 k2 k3 k4 k5 k7 k8; omega
  · clear k1 k2 k3 k4 k5 k6 k8; omega

theorem chX_in {f : Fr} (h : nodeOk f = true) (a : Int) : (tightF f).x.1 ≤ chX f a ∧ chX f a ≤ (tightF f).x.2 := by
  have hb := (tight_bd h).1.1
  have := restI_bd (n := a) (m := (tightF f).x.2 - (tightF f).x.1 + 1) (by omega)
  unfold chX; omega

theorem chosen_in {f : Fr} (h : nodeOk f = true) (a b : Int) : chosenN f a b ∈ placesL f := by
  obtain ⟨x1, x2⟩ := chX_in h a
  have hc := tight_col h x1 x2
  have := restI_bd (n := b) (m := highY (tightF f) (chX f a) - lowY (tightF f) (chX f a) + 1) (by omega)
  exact tight_sub h x1 x2 (by simp only [chosenN]; omega) (by simp only [chosenN]; omega)

theorem c_chosen {f : Fr} (h : nodeOk f = true) (a b : Int) : C Tryd.prog F.law07_chosen [.agg (fourC f), I a, I b] (.tuple [eB (chosenN f a b), .bool true]) := by
  obtain ⟨⟨⟨t1, t2, t3⟩, ⟨t4, t5⟩, ⟨t6, t7⟩, t8, t9⟩, ⟨u1, u2⟩, ⟨u3, u4⟩, u5, u6⟩ := tight_bd h
  obtain ⟨x1, x2⟩ := chX_in h a
  have hc := tight_col h x1 x2
  have kt := c_Tight h
  obtain ⟨T, hT⟩ : ∃ T, tightF f = T := ⟨_, rfl⟩
  have hch : chosenN f a b = (chX f a, lowY T (chX f a) + restI b (highY T (chX f a) - lowY T (chX f a) + 1)) := by unfold chosenN; rw [hT]
  have hxx : chX f a = T.x.1 + restI a (T.x.2 - T.x.1 + 1) := by unfold chX; rw [hT]
  rw [hch]
  rw [hT] at kt t1 t2 t3 t4 t5 t6 t7 t8 t9 u1 u2 u3 u4 u5 u6 x1 x2 hc
  have hr1 := restI_bd (n := a) (m := T.x.2 - T.x.1 + 1) (by omega)
  have k1 : C Tryd.prog F.ref00_Rest [I a, I (IntKind.wrap .i64 (IntKind.wrap .i64 (T.x.2 - T.x.1) + 1))] (I (restI a (T.x.2 - T.x.1 + 1))) := by
    rw [w64 (n := T.x.2 - T.x.1) (by omega) (by omega), w64 (by omega) (by omega)]; exact c_Rest _ _ (by omega)
  obtain ⟨x, hx⟩ : ∃ x, chX f a = x := ⟨_, rfl⟩
  rw [hx] at hxx x1 x2 hc ⊢
  have hbl : -200000 ≤ lowY T x ∧ highY T x ≤ 200000 := by
    have l1 : T.y.1 ≤ lowY T x := (lowY_le.1 (Int.le_refl _)).1
    have l2 : highY T x ≤ T.y.2 := (le_highY.1 (Int.le_refl _)).1
    omega
  have hr2 := restI_bd (n := b) (m := highY T x - lowY T x + 1) (by omega)
  have k2 : C Tryd.prog F.ref00_Rest [I b, I (IntKind.wrap .i64 (IntKind.wrap .i64 (highY T x - lowY T x) + 1))] (I (restI b (highY T x - lowY T x + 1))) := by
    rw [w64 (n := highY T x - lowY T x) (by omega) (by omega), w64 (by omega) (by omega)]; exact c_Rest _ _ (by omega)
  refine C_of mixed chk.law07_chosen (by simp) fun S ok => ?_
  refine Tr.seqR rfl (by simp) (Tr.seqC rfl (by simp) (Steps.call rfl rfl kt (Steps.fin rfl (by simp) ?_)))
  refine Tr.seq (Tr.seqR rfl (by simp) (Tr.condF rfl (Tr.skip ?_)))
  refine Tr.seq (Tr.drawK (TraceK.run rfl (by simp) (TraceK.call rfl rfl k1 (TraceK.run rfl (by simp) (.done ⟨by kernel_rfl, by kernel_rfl, ?_⟩)))))
  rw [show IntKind.wrap .i64 (T.x.1 + restI a (T.x.2 - T.x.1 + 1)) = x by rw [w64 (by omega) (by omega)]; exact hxx.symm]
  refine Tr.seq (Tr.drawK (TraceK.run rfl (by simp) (.done ⟨by kernel_rfl, by kernel_rfl, ?_⟩)))
  refine Tr.weak (s' := { env := [(2, I b), (6, .ptr 6 0), (10, I x), (11, I (lowY T x)), (12, I (highY T x))], bx := [(6, ⟨[I 0, I 0], false⟩)], rw := [], log := [], stp := false })
    (Wk.le (.cons rfl (.refl _) (.cons rfl (.refl _) (.cons rfl (.refl _) (.cons rfl (VLe.i ?_) (.cons rfl (VLe.i ?_) .nil))))) (.cons rfl (LLe.refl _) .nil) .nil rfl rfl) ?_
  · show (bif true then (if IntKind.wrap .i64 (x - T.d.2) > (bif true then (if IntKind.wrap .i64 (T.s.1 - x) > T.y.1 then IntKind.wrap .i64 (T.s.1 - x) else T.y.1) else _) then IntKind.wrap .i64 (x - T.d.2) else (bif true then (if IntKind.wrap .i64 (T.s.1 - x) > T.y.1 then IntKind.wrap .i64 (T.s.1 - x) else T.y.1) else _)) else _) = lowY T x
    simp only [cond_true]
    rw [w64 (n := x - T.d.2) (by omega) (by omega), w64 (n := T.s.1 - x) (by omega) (by omega), ifMax, ifMax]; rfl
  · show (bif false then _ else (if IntKind.wrap .i64 (x - T.d.1) < (bif false then _ else (if IntKind.wrap .i64 (T.s.2 - x) < T.y.2 then IntKind.wrap .i64 (T.s.2 - x) else T.y.2)) then IntKind.wrap .i64 (x - T.d.1) else (bif false then _ else (if IntKind.wrap .i64 (T.s.2 - x) < T.y.2 then IntKind.wrap .i64 (T.s.2 - x) else T.y.2)))) = highY T x
    simp only [cond_false]
    rw [w64 (n := x - T.d.1) (by omega) (by omega), w64 (n := T.s.2 - x) (by omega) (by omega), ifMin, ifMin]; rfl
  refine Tr.seqC rfl (by simp) (Steps.call rfl rfl k2 (Steps.fin rfl (by simp) (Tr.retX rfl rfl rfl ?_ trivial)))
  show V.tuple [.agg [I x, I (lowY T x + restI b (highY T x - lowY T x + 1))], .bool true] = .tuple [.agg [I x, I (IntKind.wrap .i64 (lowY T x + restI b (highY T x - lowY T x + 1)))], .bool (decide (lowY T x ≤ highY T x))]
  rw [w64 (by omega) (by omega), decide_eq_true hc]

def stoodL (bits : List Int) (l : List Fr) : List (Int × Int) := (List.range l.length).map fun (i : Nat) => chosenN (l.getD i ⟨(0, 0), (0, 0), (0, 0), (0, 0)⟩) (pickI bits (2 * (i : Int))) (pickI bits (2 * (i : Int) + 1))

theorem stood_get {bits : List Int} {l : List Fr} {i : Nat} (h : i < l.length) : (stoodL bits l)[i]? = some (chosenN l[i] (pickI bits (2 * (i : Int))) (pickI bits (2 * (i : Int) + 1))) := by
  unfold stoodL
  rw [List.getElem?_map, List.getElem?_range h]
  simp [h]

theorem stood_len (bits : List Int) (l : List Fr) : (stoodL bits l).length = l.length := by simp [stoodL]

theorem c_stood {l : List Fr} (hl : l.length ≤ 16) (hn : ∀ f ∈ l, nodeOk f = true) {bits : List Int} (hb : bits.length ≤ 9223372036854775807) : C Tryd.prog F.law07_stood [.slice 0 8 (l.map eF), intsV bits] (.tuple [sB (stoodL bits l), .bool true]) := by
  refine C_of mixed chk.law07_stood (by simp) fun S ok => ?_
  refine Tr.seqR rfl (by simp) (Tr.seqR rfl (by simp) (Tr.seq (Tr.seqR rfl (by simp) (Tr.block ?_))))
  refine Tr.loop (fun (k : Nat) st => k ≤ l.length ∧ st = { env := [(0, .slice 0 8 (l.map eF)), (1, intsV bits), (6, .slice 39 2 (((stoodL bits l).take k).map eB)), (7, I (k : Nat))], bx := [], rw := [(38, k, 2, 23)], log := [], stp := false }) (fun k => l.length - k) 0
    (Wk.le (.cons rfl (.refl _) (.cons rfl (.refl _) (.cons rfl (.nil 39 2) (.cons rfl (.refl _) .nil)))) .nil (.new rfl .nil) rfl rfl) ⟨by omega, rfl⟩ ?_
  rintro k st ⟨hk, rfl⟩
  refine Tr.seq (Tr.seqR rfl (by simp) (Tr.cond rfl rfl (fun h1 => Tr.skip ?_) (fun h1 => Tr.exit ?_)))
  · have h1 : k < l.length := by simpa using h1
    have q1 : C Tryd.prog F.ref00_Pick [intsV bits, I (IntKind.wrap .i64 (2 * (k : Int)))] (I (pickI bits (2 * (k : Int)))) := by rw [w64 (by omega) (by omega)]; exact c_Pick _ _ hb
    have q2 : C Tryd.prog F.ref00_Pick [intsV bits, I (IntKind.wrap .i64 (IntKind.wrap .i64 (2 * (k : Int)) + 1))] (I (pickI bits (2 * (k : Int) + 1))) := by rw [w64 (n := 2 * (k : Int)) (by omega) (by omega), w64 (by omega) (by omega)]; exact c_Pick _ _ hb
    have q3 := c_chosen (hn _ (List.getElem_mem h1)) (pickI bits (2 * (k : Int))) (pickI bits (2 * (k : Int) + 1))
    have hg := stood_get (bits := bits) h1
    obtain ⟨p, hp⟩ : ∃ p, chosenN l[k] (pickI bits (2 * (k : Int))) (pickI bits (2 * (k : Int) + 1)) = p := ⟨_, rfl⟩
    rw [hp] at q3 hg
    refine Tr.seq (Tr.block (Tr.seq (Tr.drawK (TraceK.runN 3 rfl (by simp; omega) ?_))))
    rw [getD_map h1]
    refine TraceK.run rfl (by simp) (TraceK.call rfl rfl q1 (TraceK.run rfl (by simp) (TraceK.call rfl rfl q2 ?_)))
    refine TraceK.call rfl rfl q3 (TraceK.run rfl (by simp) (.done ⟨by kernel_rfl, by kernel_rfl, ?_⟩))
    refine Tr.seq (Tr.seqR rfl (by simp) (Tr.condF rfl (Tr.skip ?_)))
    have hsl := stood_len bits l
    refine Tr.regR rfl (by simp; omega) (Tr.regR rfl (by simp) ?_)
    refine ⟨k + 1, _, Wk.le (.cons rfl (.refl _) (.cons rfl (.refl _) (.cons rfl (.of_eq ?_) (.cons rfl (VLe.i (w64 (by omega) (by omega))) .nil)))) .nil (.cons ?_ .nil) rfl rfl, ⟨h1, rfl⟩, by omega⟩
    · rw [List.take_add_one, hg, List.map_append]; rfl
    · show some _ = some _
      have := stood_len bits l
      simp; omega
  · have h1 : k = l.length := by simp at h1; omega
    subst h1
    rw [List.take_of_length_le (by rw [stood_len]; omega)]
    exact Tr.seqR rfl (by simp) (Tr.retX rfl rfl rfl rfl trivial)

end Go.Proofs.YtffoiccokigjcaaDoor

/-! Contracts: counted. -/
set_option linter.unusedVariables false
set_option linter.unusedSimpArgs false
set_option maxRecDepth 40000
set_option maxHeartbeats 4000000
namespace Go.Proofs.YtffoiccokigjcaaDoor
open Go.Am
attribute [local simp] cells scalar mkv splice under2 under dem dem1 eB gridC sB fourC eF layC

def cellT (g : Gd) (pts : List (Int × Int)) (t : Int × Int) : Int × Int := cellN g (pts.getD t.1.toNat (0, 0)) (pts.getD t.2.toNat (0, 0))
def countedL (g : Gd) (pts ts : List (Int × Int)) : List (List Int) := countL g (ts.map (cellT g pts))

theorem srefs_snoc (m : Nat) (rbs : List Nat) (b : Nat) : srefs m (rbs ++ [b]) = srefs m rbs ++ [.sref b 0 m m] := by simp [srefs]

theorem c_counted {g : Gd} (hg : gridOk g = true) {s : Ly} (ht64 : s.traces.length ≤ 64) {pts : List (Int × Int)} (hp16 : pts.length ≤ 16) (hpl : ∀ p ∈ pts, planeB p = true) (htr : ∀ t ∈ s.traces, ∃ i j : Nat, t = ((i : Int), (j : Int)) ∧ i < pts.length ∧ j < pts.length) :
    C Tryd.prog F.law07_counted [.agg (gridC g), .agg (layC s), sB pts] (.tuple [foldV (countedL g pts s.traces), .bool true]) := by
  obtain ⟨_, hsz, hga, hgd, hcl, _⟩ := gridOk_spec hg
  have nb := nBins_eq hg
  have hab : IntKind.wrap .i64 (g.a * g.d) = (nBins g : Int) := by rw [nb.1]; exact w64 (by omega) (by omega)
  have ba : btw g.a 1 16 = true := by rw [btw_iff]; exact hga
  have bd : btw g.d 1 16 = true := by rw [btw_iff]; exact hgd
  have ka : C Tryd.prog F.ref00_Between [I g.a, I 1, I 16] (.bool true) := ba ▸ c_between _ _ _
  have kd : C Tryd.prog F.ref00_Between [I g.d, I 1, I 16] (.bool true) := bd ▸ c_between _ _ _
  refine C_of mixed chk.law07_counted (by simp) fun S ok => ?_
  refine Tr.arena rfl rfl ?_
  have hA := InA.main (E := env0 Tryd.prog mixed 119 S ok) [] false
  refine Tr.seqR rfl (by simp) (Tr.seqR rfl (by simp) ?_)
  refine Tr.seq (Tr.seqC rfl (by simp) (Steps.call rfl rfl ka (Steps.run rfl (by simp) ?_)))
  refine Steps.gcall rfl rfl rfl rfl (by simp) (fun _ => kd) (Steps.fin rfl (by simp) (Tr.condF rfl (Tr.skip ?_)))
  refine Tr.seq (Tr.seqR rfl (by simp) (Tr.block ?_))
  refine Tr.loop (α := Nat × List Nat) (fun p st => (p.1 ≤ nBins g ∧ p.2.length = p.1 ∧ p.2.Nodup) ∧
      st = { env := [(2, sB pts), (3, .ptr 3 0), (4, .ptr 4 0), (8, .slice 41 1 (srefs g.cls.length p.2)), (9, I (p.1 : Nat))], bx := [(4, ⟨layC s, false⟩), (3, ⟨gridC g, false⟩)], rw := [(40, p.2.length, 1, 48)], log := encA (arn p.2 ((List.range p.1).map (cntRow g.cls.length []))), stp := false }) (fun p => nBins g - p.1) (0, [])
    (Wk.leL (.cons rfl (.refl _) (.cons rfl (.refl _) (.cons rfl (.refl _) (.cons rfl (.nil 41 1) (.cons rfl (.refl _) .nil))))) (.cons rfl (LLe.refl _) (.cons rfl (LLe.refl _) .nil)) (.new rfl .nil) rfl rfl rfl) ⟨⟨by omega, rfl, List.Pairwise.nil⟩, rfl⟩ ?_
  rintro ⟨k, rbs⟩ st ⟨⟨hk, hlen, hnd⟩, rfl⟩
  simp only at hk hlen hnd
  have hlr : rbs.length = ((List.range k).map (cntRow g.cls.length [])).length := by simp [hlen]
  have hsr : (srefs g.cls.length rbs).length = k := by simp [srefs, hlen]
  refine Tr.seq (Tr.seqR rfl (by simp) (Tr.cond rfl rfl (fun h1 => Tr.skip ?_) (fun h1 => Tr.exit ?_)))
  · have h1 : decide ((k : Int) < IntKind.wrap .i64 (g.a * g.d)) = true := h1
    rw [hab] at h1
    have h1 : k < nBins g := by simpa using h1
    refine Tr.seq (Tr.block (Tr.reg ?_))
    refine Steps.runN 4 rfl (by simp) (Steps.amkbox hA (N := g.cls.length) rfl (by simp) (by simp) (by omega) (by omega) (by omega) rfl fun b hb => ?_)
    rw [arn_keys hlr] at hb
    refine Steps.fin rfl (by simp; omega) (Tr.regR rfl (by simp) ?_)
    have ez : (List.replicate g.cls.length [I 0]).flatten = (cntRow g.cls.length [] k).map I := by
      have : cntRow g.cls.length [] k = List.replicate g.cls.length 0 := by
        refine List.ext_getElem (by simp [cntRow]) fun i h1 h2 => by simp [cntRow]
      rw [this]; simp
    have eA : arn (rbs ++ [b]) ((List.range (k + 1)).map (cntRow g.cls.length [])) = arn rbs ((List.range k).map (cntRow g.cls.length [])) ++ [(b, .cells ((cntRow g.cls.length [] k).map I))] := by
      rw [List.range_succ, List.map_append]; exact arn_snoc _ _ hlr
    have hnd2 : (rbs ++ [b]).Nodup := by
      rw [List.nodup_append]
      exact ⟨hnd, by simp, fun x hx y hy e => by rw [List.mem_singleton.1 hy] at e; exact hb (e ▸ hx)⟩
    refine ⟨(k + 1, rbs ++ [b]), _, Wk.trans (Wk.leL (env := [(2, sB pts), (3, .ptr 3 0), (4, .ptr 4 0), (8, .slice 41 1 (srefs g.cls.length (rbs ++ [b]))), (9, I ((k + 1 : Nat) : Int))]) (bx := [(4, ⟨layC s, false⟩), (3, ⟨gridC g, false⟩)]) (rw := [(40, (rbs ++ [b]).length, 1, 48)])
        (.cons rfl (.refl _) (.cons rfl (.refl _) (.cons rfl (.refl _) (.cons rfl (.of_eq ?_) (.cons rfl (VLe.i (w64 (by omega) (by omega))) .nil))))) (.cons rfl (LLe.refl _) (.cons rfl (LLe.refl _) .nil)) (.cons ?_ .nil) rfl rfl rfl) (Wk.keep hA (B := arn (rbs ++ [b]) ((List.range (k + 1)).map (cntRow g.cls.length []))) rfl ?_ ?_), ⟨⟨by simp only; omega, by simp [hlen], hnd2⟩, rfl⟩, by simp only; omega⟩
    · rw [srefs_snoc]
    · show some _ = some _
      simp [hsr, hlen]
    · intro p hp
      rw [eA] at hp
      rcases List.mem_append.1 hp with hp | hp
      · exact List.mem_cons_of_mem _ hp
      · rw [List.mem_singleton.1 hp, ez]; exact List.mem_cons_self
    · rw [arn_keys (by simp [hlen])]; exact hnd2
  have h1 : decide ((k : Int) < IntKind.wrap .i64 (g.a * g.d)) = false := h1
  rw [hab] at h1
  have h1 : k = nBins g := by simp at h1; omega
  subst h1
  clear hlr
  refine Tr.seq (Tr.seqR rfl (by simp) (Tr.block ?_))
  refine Tr.loop (fun (k : Nat) st => k ≤ s.traces.length ∧ st = { env := [(2, sB pts), (3, .ptr 3 0), (4, .ptr 4 0), (8, .slice 0 1 (rbs.map fun b => V.sref b 0 g.cls.length g.cls.length)), (10, I (k : Nat))], bx := [(4, ⟨layC s, false⟩), (3, ⟨gridC g, false⟩)], rw := [], log := encA (arn rbs (countL g ((s.traces.map (cellT g pts)).take k))), stp := false }) (fun k => s.traces.length - k) 0
    (Wk.leL (.cons rfl (.refl _) (.cons rfl (.refl _) (.cons rfl (.refl _) (.cons rfl (.dem _ _ _) (.cons rfl (.refl _) .nil))))) (.cons rfl (LLe.refl _) (.cons rfl (LLe.refl _) .nil)) .nil rfl rfl rfl) ⟨by omega, rfl⟩ ?_
  rintro k st ⟨hk, rfl⟩
  refine Tr.seq (Tr.seqR rfl (by simp) (Tr.cond rfl rfl (fun h1 => Tr.skip ?_) (fun h1 => Tr.exit ?_)))
  rotate_left
  · have h1 : k = s.traces.length := by simp at h1; omega
    subst h1
    rw [List.take_of_length_le (by simp)]
    obtain ⟨s', w1, g1, g2, g3, g4⟩ := closeRows hA (t := 8) (m := g.cls.length) rbs (countedL g pts s.traces) [] { env := [(8, .slice 0 1 (srefs g.cls.length rbs))], bx := [], rw := [], log := encA (arn rbs (countedL g pts s.traces)), stp := false } hnd (by rw [countedL, countL_len, hlen])
      (fun r hr => by obtain ⟨b, _, rfl⟩ := List.mem_map.1 hr; exact cntRow_len _ _ _) (by simp) rfl rfl
    have w2 := Wk.leL (E := (env0 Tryd.prog mixed 119 S ok).withA [] false) (s := s') (env := [(8, foldV (countedL g pts s.traces))]) (bx := []) (rw := []) (.cons g1 (.of_eq rfl) .nil) .nil .nil rfl rfl g2
    refine Tr.weak (s' := { env := [(8, .slice 0 1 (srefs g.cls.length rbs))], bx := [], rw := [], log := encA (arn rbs (countedL g pts s.traces)), stp := false }) (Wk.le (.cons rfl (.refl _) .nil) .nil .nil rfl rfl) ?_
    refine Tr.weak (w1.trans w2) ?_
    refine Tr.seqR rfl (by simp) ?_
    exact Tr.ret ⟨trivial, _, _, _, resVs_ok rfl, rfl, rfl⟩
  have h1 : k < s.traces.length := by simpa using h1
  obtain ⟨i, j, hij, hi, hj⟩ := htr _ (List.getElem_mem h1)
  have hpi := hpl _ (List.getElem_mem hi)
  have hpj := hpl _ (List.getElem_mem hj)
  have eT : (s.traces.map (cellT g pts)).take (k + 1) = (s.traces.map (cellT g pts)).take k ++ [cellN g pts[i] pts[j]] := by
    rw [List.take_add_one, List.getElem?_map, List.getElem?_eq_getElem h1, hij]
    simp [cellT, hi, hj]
  have kc := c_Cell (g := g) (by omega) pts[i] pts[j]
  rw [if_pos hg, if_pos (by rw [hpi, hpj]; rfl)] at kc
  have hin := cell_in hg pts[i] pts[j]
  have hw1 : IntKind.wrap .i64 (((pts.map eB).length : Int) - 1) = (pts.length : Int) - 1 := by rw [List.length_map, w64 (by omega) (by omega)]
  have b1 : C Tryd.prog F.ref00_Between [I (i : Nat), I 0, I (IntKind.wrap .i64 (((pts.map eB).length : Int) - 1))] (.bool true) := by
    have : btw (i : Int) 0 (IntKind.wrap .i64 (((pts.map eB).length : Int) - 1)) = true := by rw [hw1, btw_iff]; omega
    exact this ▸ c_between _ _ _
  have b2 : C Tryd.prog F.ref00_Between [I (j : Nat), I 0, I (IntKind.wrap .i64 (((pts.map eB).length : Int) - 1))] (.bool true) := by
    have : btw (j : Int) 0 (IntKind.wrap .i64 (((pts.map eB).length : Int) - 1)) = true := by rw [hw1, btw_iff]; omega
    exact this ▸ c_between _ _ _
  refine Tr.seq (Tr.block ?_)
  refine Tr.seqN 4 rfl (by simp; omega) ?_
  rw [getD_map h1, hij]
  refine Steps.fin rfl (by simp) ?_
  refine Tr.seq (Tr.seqC rfl (by simp) (Steps.call rfl rfl b1 (Steps.run rfl (by simp) ?_)))
  refine Steps.gcall rfl rfl rfl rfl (by simp) (fun _ => b2) (Steps.fin rfl (by simp) (Tr.condF rfl (Tr.skip ?_)))
  refine Tr.seq (Tr.drawK (TraceK.runN 5 rfl (by simp; omega) ?_))
  rw [getD_map hi]
  refine TraceK.runN 5 rfl (by simp; omega) ?_
  rw [getD_map hj]
  refine TraceK.run rfl (by simp) (TraceK.call rfl rfl kc (TraceK.run rfl (by simp) (.done ⟨by kernel_rfl, by kernel_rfl, ?_⟩)))
  obtain ⟨c, hc⟩ : ∃ c, cellN g pts[i] pts[j] = c := ⟨_, rfl⟩
  rw [hc] at hin eT ⊢
  refine Tr.seq (Tr.seqR rfl (by simp) (Tr.condF rfl (Tr.skip ?_)))
  rcases hin with rfl | hin
  · refine Tr.seq (Tr.seqR rfl (by simp) (Tr.condT rfl (Tr.exit (Tr.regR rfl (by simp) ?_))))
    exact ⟨k + 1, _, Wk.leL (.cons rfl (.refl _) (.cons rfl (.refl _) (.cons rfl (.refl _) (.cons rfl (.refl _) (.cons rfl (VLe.i (w64 (by omega) (by omega))) .nil))))) (.cons rfl (LLe.refl _) (.cons rfl (LLe.refl _) .nil)) .nil rfl rfl (by rw [eT, countL_none]; rfl), ⟨by omega, rfl⟩, by omega⟩
  obtain ⟨b, q, rfl, hbb, hq⟩ := inG_nat hg hin
  have hbl : b < rbs.length := by omega
  obtain ⟨P, hP⟩ : ∃ P, (s.traces.map (cellT g pts)).take k = P := ⟨_, rfl⟩
  have hPl : P.length ≤ 64 := by rw [← hP, List.length_take]; simp; omega
  obtain ⟨n0, hn0⟩ : ∃ n0, P.count ((b : Int), (q : Int)) = n0 := ⟨_, rfl⟩
  have hn1 : n0 ≤ 64 := by rw [← hn0]; exact Nat.le_trans List.count_le_length hPl
  have hcl2 := countL_len g P
  have hrow := countL_get (P := P) hbb
  have hcell : ((cntRow g.cls.length P b).map I)[q]? = some (I n0) := by rw [List.getElem?_map, cntRow_get hq, hn0]; rfl
  have hrb : rbs[b]? = some rbs[b] := List.getElem?_eq_getElem hbl
  have hmA := arn_mem (rbs := rbs) hrb hrow
  rw [hP] at eT ⊢
  have hw2 : IntKind.wrap .i64 (((rbs.map fun b => V.sref b 0 g.cls.length g.cls.length).length : Int) - 1) = (rbs.length : Int) - 1 := by rw [List.length_map, w64 (by omega) (by omega)]
  have hw3 : IntKind.wrap .i64 (((g.cls.map eB).length : Int) - 1) = (g.cls.length : Int) - 1 := by rw [List.length_map, w64 (by omega) (by omega)]
  have b3 : C Tryd.prog F.ref00_Between [I (b : Nat), I 0, I (IntKind.wrap .i64 (((rbs.map fun b => V.sref b 0 g.cls.length g.cls.length).length : Int) - 1))] (.bool true) := by
    have : btw (b : Int) 0 (IntKind.wrap .i64 (((rbs.map fun b => V.sref b 0 g.cls.length g.cls.length).length : Int) - 1)) = true := by rw [hw2, btw_iff]; omega
    exact this ▸ c_between _ _ _
  have b4 : C Tryd.prog F.ref00_Between [I (q : Nat), I 0, I (IntKind.wrap .i64 (((g.cls.map eB).length : Int) - 1))] (.bool true) := by
    have : btw (q : Int) 0 (IntKind.wrap .i64 (((g.cls.map eB).length : Int) - 1)) = true := by rw [hw3, btw_iff]; omega
    exact this ▸ c_between _ _ _
  refine Tr.seq (Tr.seqR rfl (by simp) (Tr.condF ?_ (Tr.skip ?_)))
  · show some (V.bool ((b : Int) == -1)) = _
    congr 2
  refine Tr.seq (Tr.seqC rfl (by simp) (Steps.call rfl rfl b3 (Steps.run rfl (by simp) ?_)))
  refine Steps.gcall rfl rfl rfl rfl (by simp) (fun _ => b4) (Steps.fin rfl (by simp) (Tr.condF rfl (Tr.skip ?_)))
  refine Tr.seqN 4 rfl (by simp; omega) ?_
  rw [getD_map hbl]
  refine Steps.fin rfl (by simp) ?_
  refine Tr.reg (Steps.runN 3 rfl (by simp) ?_)
  refine Steps.sidx (blk := rbs[b]) (off := 0) (j := q) rfl rfl hq ?_
  refine Steps.aload hA (v := I n0) rfl rfl hmA (by simpa using hcell) (Steps.runN 1 rfl (by simp) ?_)
  refine Steps.sidx (blk := rbs[b]) (off := 0) (j := q) rfl rfl hq ?_
  refine Steps.astore hA rfl rfl hmA (by simp [cntRow_len]; omega) rfl rfl (Steps.fin rfl (by simp) ?_)
  have eL : setA (arn rbs (countL g P)) rbs[b] (.cells (((cntRow g.cls.length P b).map I).set (0 + q * 1) (I (IntKind.wrap .i64 ((n0 : Int) + 1))))) = arn rbs (countL g (P ++ [((b : Int), (q : Int))])) := by
    rw [countL_on hbb hq, hn0, w64 (by omega) (by omega), ← arn_set _ hnd (by rw [hcl2, hlen]) hrb, List.map_set, Nat.zero_add, Nat.mul_one]
  refine Tr.regR rfl (by simp) ?_
  exact ⟨k + 1, _, Wk.leL (.cons rfl (.refl _) (.cons rfl (.refl _) (.cons rfl (.refl _) (.cons rfl (.refl _) (.cons rfl (VLe.i (w64 (by omega) (by omega))) .nil))))) (.cons rfl (LLe.refl _) (.cons rfl (LLe.refl _) .nil)) .nil rfl rfl (by rw [eT, ← eL]; rfl), ⟨by omega, rfl⟩, by omega⟩

end Go.Proofs.YtffoiccokigjcaaDoor

/-! The statement BinTrue. -/
set_option linter.unusedVariables false
set_option linter.unusedSimpArgs false
set_option maxRecDepth 40000
set_option maxHeartbeats 4000000
namespace Go.Proofs.YtffoiccokigjcaaDoor
open Go.Am
attribute [local simp] cells scalar mkv splice under2 under dem dem1 eB gridC sB fourC eF layC foldV intsV

/-! ### What is counted is between the folds -/
theorem count_one {x c : Int × Int} : ([c] : List (Int × Int)).count x = if c = x then 1 else 0 := by
  by_cases h : c = x
  · subst h; simp
  · simp [h]

theorem sure_count {l : List (Int × Int)} {c : Int × Int} (h : c ∈ l) (x : Int × Int) : (sureL l).count x ≤ [c].count x ∧ [c].count x ≤ l.count x := by
  constructor
  · rcases l with _ | ⟨d, _ | ⟨e, r⟩⟩
    · simp [sureL]
    · obtain rfl : c = d := by simpa using h
      simp only [sureL]
      split
      · simp
      · exact Nat.le_refl _
    · simp [sureL]
  · rw [count_one]
    split
    · rename_i e; subst e
      exact List.count_pos_iff.2 h
    · exact Nat.zero_le _

section
variable {g : Gd} {s : Ly} {bits : List Int}

theorem trace_in (hs : layOk s = true) {k : Nat} (h1 : k < s.traces.length) : ∃ i j : Nat, s.traces[k] = ((i : Int), (j : Int)) ∧ i < s.nodes.length ∧ j < s.nodes.length := by
  have := (layOk_spec hs).2.2 _ (List.getElem_mem h1)
  simp only [traceOk, Bool.and_eq_true, btw_iff] at this
  exact ⟨s.traces[k].1.toNat, s.traces[k].2.toNat, Prod.ext (by simp; omega) (by simp; omega), by omega, by omega⟩

theorem cell_hit (hs : layOk s = true) {k : Nat} (h1 : k < s.traces.length) : cellT g (stoodL bits s.nodes) s.traces[k] ∈ hitsT (layD g s) k := by
  obtain ⟨i, j, hij, hi, hj⟩ := trace_in hs h1
  have hn := (layOk_spec hs).2.1
  have gi := stood_get (bits := bits) hi
  have gj := stood_get (bits := bits) hj
  have e : (layD g s).traces.getD k (0, 0) = ((i : Int), (j : Int)) := by simp [layD, h1, hij]
  unfold hitsT pl
  rw [e, hij]
  unfold cellT
  simp only [Int.toNat_natCast]
  have e1 : (stoodL bits s.nodes).getD i (0, 0) = chosenN s.nodes[i] (pickI bits (2 * (i : Int))) (pickI bits (2 * (i : Int) + 1)) := by rw [List.getD_eq_getElem?_getD, gi]; rfl
  have e2 : (stoodL bits s.nodes).getD j (0, 0) = chosenN s.nodes[j] (pickI bits (2 * (j : Int))) (pickI bits (2 * (j : Int) + 1)) := by rw [List.getD_eq_getElem?_getD, gj]; rfl
  have e3 : (layD g s).places.getD i [] = placesL s.nodes[i] := by simp [layD, hi]
  have e4 : (layD g s).places.getD j [] = placesL s.nodes[j] := by simp [layD, hj]
  rw [e1, e2, e3, e4]
  refine mem_hitsOf.2 (List.mem_map.2 ⟨(_, _), mem_pairs.2 ⟨chosen_in (hn _ (List.getElem_mem hi)) _ _, chosen_in (hn _ (List.getElem_mem hj)) _ _⟩, rfl⟩)

theorem counts (hs : layOk s = true) (x : Int × Int) : ∀ k ≤ s.traces.length, (allH (sureT (layD g s)) k).count x ≤ ((s.traces.map (cellT g (stoodL bits s.nodes))).take k).count x ∧ ((s.traces.map (cellT g (stoodL bits s.nodes))).take k).count x ≤ (allH (hitsT (layD g s)) k).count x
  | 0, _ => by simp [allH]
  | k + 1, hk => by
    obtain ⟨i1, i2⟩ := counts hs x k (by omega)
    have h1 : k < s.traces.length := by omega
    obtain ⟨j1, j2⟩ := sure_count (cell_hit (g := g) (bits := bits) hs h1) x
    have eT : (s.traces.map (cellT g (stoodL bits s.nodes))).take (k + 1) = (s.traces.map (cellT g (stoodL bits s.nodes))).take k ++ [cellT g (stoodL bits s.nodes) s.traces[k]] := by
      rw [List.take_add_one, List.getElem?_map, List.getElem?_eq_getElem h1]; rfl
    rw [allH_succ, allH_succ, eT, List.count_append, List.count_append, List.count_append]
    unfold sureT at *
    omega
end

theorem c_BinTrue {g : Gd} {s : Ly} (hl : g.cls.length ≤ 9223372036854775807) (hn : s.nodes.length ≤ 9223372036854775807) (ht : s.traces.length ≤ 9223372036854775807) {bits : List Int} (hb : bits.length ≤ 9223372036854775807) : C Tryd.prog F.law07_BinTrue [.agg (gridC g), .agg (layC s), intsV bits] (.bool true) := by
  have kf := c_Fold hl hn ht
  unfold FoldR at kf
  refine C_of mixed chk.law07_BinTrue (by simp) fun S ok => ?_
  refine Tr.seqR rfl (by simp) ?_
  by_cases hg : gridOk g = true
  rotate_left
  · rw [if_neg hg] at kf
    refine Tr.seqC rfl (by simp) (Steps.call rfl rfl kf (Steps.fin rfl (by simp) ?_))
    refine Tr.seq (Tr.seqR rfl (by simp) (Tr.condT rfl ?_))
    exact Tr.seqC rfl (by simp) (Steps.gcall rfl rfl rfl rfl (by simp) (fun _ => c_works) (Steps.fin rfl (by simp) (Tr.retX rfl rfl rfl rfl trivial)))
  rw [if_pos hg] at kf
  by_cases hs : layOk s = true
  rotate_left
  · rw [if_neg hs] at kf
    refine Tr.seqC rfl (by simp) (Steps.call rfl rfl kf (Steps.fin rfl (by simp) ?_))
    refine Tr.seq (Tr.seqR rfl (by simp) (Tr.condT rfl ?_))
    exact Tr.seqC rfl (by simp) (Steps.gcall rfl rfl rfl rfl (by simp) (fun _ => c_works) (Steps.fin rfl (by simp) (Tr.retX rfl rfl rfl rfl trivial)))
  rw [if_pos hs] at kf
  obtain ⟨⟨h16, h64⟩, hno, _⟩ := layOk_spec hs
  have ks := c_stood (l := s.nodes) h16 hno hb
  have hsl := stood_len bits s.nodes
  have hpl : ∀ p ∈ stoodL bits s.nodes, planeB p = true := fun p hp => by
    obtain ⟨i, hi, rfl⟩ := List.mem_iff_getElem.1 hp
    have hi2 : i < s.nodes.length := by omega
    have := stood_get (bits := bits) hi2
    rw [List.getElem?_eq_getElem hi] at this
    rw [Option.some.inj this]
    exact node_plane (hno _ (List.getElem_mem hi2)) (chosen_in (hno _ (List.getElem_mem hi2)) _ _)
  have htr : ∀ t ∈ s.traces, ∃ i j : Nat, t = ((i : Int), (j : Int)) ∧ i < (stoodL bits s.nodes).length ∧ j < (stoodL bits s.nodes).length := fun t ht => by
    obtain ⟨k, hk, rfl⟩ := List.mem_iff_getElem.1 ht
    obtain ⟨i, j, e, a, b⟩ := trace_in hs hk
    exact ⟨i, j, e, by omega, by omega⟩
  have kc := c_counted hg h64 (by omega) hpl htr
  have hcnt : ∀ x, (allH (sureT (layD g s)) s.traces.length).count x ≤ (s.traces.map (cellT g (stoodL bits s.nodes))).count x ∧ (s.traces.map (cellT g (stoodL bits s.nodes))).count x ≤ (allH (hitsT (layD g s)) s.traces.length).count x := fun x => by
    have := counts (g := g) (bits := bits) hs x _ (Nat.le_refl _)
    rw [List.take_of_length_le (by simp)] at this
    exact this
  have eA : cntN (layD g s) (sureT (layD g s)) = countL g (allH (sureT (layD g s)) s.traces.length) := rfl
  have eB' : cntN (layD g s) (hitsT (layD g s)) = countL g (allH (hitsT (layD g s)) s.traces.length) := rfl
  have eC' : countedL g (stoodL bits s.nodes) s.traces = countL g (s.traces.map (cellT g (stoodL bits s.nodes))) := rfl
  rw [eA, eB'] at kf
  rw [eC'] at kc
  obtain ⟨PA, hPA⟩ : ∃ P, allH (sureT (layD g s)) s.traces.length = P := ⟨_, rfl⟩
  obtain ⟨PB, hPB⟩ : ∃ P, allH (hitsT (layD g s)) s.traces.length = P := ⟨_, rfl⟩
  obtain ⟨PC, hPC⟩ : ∃ P, s.traces.map (cellT g (stoodL bits s.nodes)) = P := ⟨_, rfl⟩
  rw [hPA, hPB] at kf
  rw [hPC] at kc
  rw [hPA, hPB, hPC] at hcnt
  have lA := countL_len g PA; have lB := countL_len g PB; have lC := countL_len g PC
  have nb := (nBins_eq hg).2
  have hcl4 : g.cls.length ≤ 4 := by obtain ⟨_, _, _, _, h, _⟩ := gridOk_spec hg; exact h.2
  refine Tr.seqC rfl (by simp) (Steps.call rfl rfl kf (Steps.fin rfl (by simp) ?_))
  refine Tr.seq (Tr.seqR rfl (by simp) (Tr.condF rfl (Tr.skip ?_)))
  refine Tr.seqC rfl (by simp) (Steps.call rfl rfl ks (Steps.fin rfl (by simp) ?_))
  refine Tr.seqC rfl (by simp) (Steps.call rfl rfl kc (Steps.fin rfl (by simp) ?_))
  refine Tr.seq (Tr.seqR rfl (by simp) (Tr.condF ?_ (Tr.skip ?_)))
  · show some (V.bool (bif (((countL g PA).map intsV).length : Int) != (((countL g PC).map intsV).length : Int) then true else (((countL g PB).map intsV).length : Int) != (((countL g PC).map intsV).length : Int))) = _
    rw [List.length_map, List.length_map, List.length_map, lA, lB, lC]; simp
  refine Tr.seq (Tr.seqR rfl (by simp) (Tr.block ?_))
  refine Tr.loop (fun (n : Nat) st => n ≤ nBins g ∧ st = { env := [(7, foldV (countL g PA)), (8, foldV (countL g PB)), (12, foldV (countL g PC)), (14, I (n : Nat))], bx := [], rw := [], log := [], stp := false }) (fun n => nBins g - n) 0
    (Wk.le (.cons rfl (.refl _) (.cons rfl (.refl _) (.cons rfl (.refl _) (.cons rfl (.refl _) .nil)))) .nil .nil rfl rfl) ⟨by omega, rfl⟩ ?_
  rintro n st ⟨hn1, rfl⟩
  refine Tr.seq (Tr.seqR rfl (by simp) (Tr.cond rfl rfl (fun h1 => Tr.skip ?_) (fun h1 => Tr.exit ?_)))
  rotate_left
  · exact Tr.seqC rfl (by simp) (Steps.call rfl rfl c_works (Steps.fin rfl (by simp) (Tr.retX rfl rfl rfl rfl trivial)))
  have h1 : n < nBins g := by
    have h1 : decide ((n : Int) < (((countL g PC).map intsV).length : Int)) = true := h1
    rw [List.length_map, lC] at h1
    simpa using h1
  have nA : n < (countL g PA).length := by omega
  have nB : n < (countL g PB).length := by omega
  have nC : n < (countL g PC).length := by omega
  have rA : (countL g PA)[n] = cntRow g.cls.length PA n := by have := countL_get (P := PA) h1; rw [List.getElem?_eq_getElem nA] at this; exact Option.some.inj this
  have rB : (countL g PB)[n] = cntRow g.cls.length PB n := by have := countL_get (P := PB) h1; rw [List.getElem?_eq_getElem nB] at this; exact Option.some.inj this
  have rC : (countL g PC)[n] = cntRow g.cls.length PC n := by have := countL_get (P := PC) h1; rw [List.getElem?_eq_getElem nC] at this; exact Option.some.inj this
  have mA := cntRow_len g.cls.length PA n; have mB := cntRow_len g.cls.length PB n; have mC := cntRow_len g.cls.length PC n
  refine Tr.seq (Tr.block ?_)
  refine Tr.seq (Tr.seq (Tr.drawK (TraceK.runN 3 rfl (by simp; omega) ?_)))
  rw [getD_map nA, rA]
  refine TraceK.runN 5 rfl (by simp; omega) ?_
  rw [getD_map nC, rC]
  refine TraceK.runN 7 rfl (by simp; omega) ?_
  rw [getD_map nB, rB]
  refine TraceK.runN 5 rfl (by simp; omega) ?_
  rw [getD_map nC, rC]
  refine TraceK.run rfl (by simp) (.done ⟨by kernel_rfl, by kernel_rfl, ?_⟩)
  refine Tr.condF ?_ (Tr.skip ?_)
  · show some (V.bool (bif (((cntRow g.cls.length PA n).map I).length : Int) != (((cntRow g.cls.length PC n).map I).length : Int) then true else (((cntRow g.cls.length PB n).map I).length : Int) != (((cntRow g.cls.length PC n).map I).length : Int))) = _
    rw [List.length_map, List.length_map, List.length_map, mA, mB, mC]; simp
  refine Tr.seqR rfl (by simp) (Tr.block ?_)
  refine Tr.loop (fun (c : Nat) st => c ≤ g.cls.length ∧ st = { env := [(7, foldV (countL g PA)), (8, foldV (countL g PB)), (12, foldV (countL g PC)), (14, I (n : Nat)), (15, I (c : Nat))], bx := [], rw := [], log := [], stp := false }) (fun c => g.cls.length - c) 0
    (Wk.le (.cons rfl (.refl _) (.cons rfl (.refl _) (.cons rfl (.refl _) (.cons rfl (.refl _) (.cons rfl (.refl _) .nil))))) .nil .nil rfl rfl) ⟨by omega, rfl⟩ ?_
  rintro c st ⟨hc1, rfl⟩
  refine Tr.seq (Tr.seq (Tr.reg (Steps.runN 4 rfl (by simp; omega) ?_)))
  rw [getD_map nC, rC]
  refine Steps.fin rfl (by simp) (Tr.cond rfl rfl (fun h2 => Tr.skip ?_) (fun h2 => Tr.exit ?_))
  rotate_left
  · refine Tr.regR rfl (by simp) ?_
    exact ⟨n + 1, _, Wk.le (.cons rfl (.refl _) (.cons rfl (.refl _) (.cons rfl (.refl _) (.cons rfl (VLe.i (w64 (by omega) (by omega))) .nil)))) .nil .nil rfl rfl, ⟨h1, rfl⟩, by omega⟩
  have h2 : c < g.cls.length := by
    have h2 : decide ((c : Int) < (((cntRow g.cls.length PC n).map I).length : Int)) = true := h2
    rw [List.length_map, mC] at h2
    simpa using h2
  have cA : c < (cntRow g.cls.length PA n).length := by omega
  have cB : c < (cntRow g.cls.length PB n).length := by omega
  have cC : c < (cntRow g.cls.length PC n).length := by omega
  have vA : (cntRow g.cls.length PA n)[c] = ((PA.count ((n : Int), (c : Int)) : Nat) : Int) := by have := cntRow_get (P := PA) (b := n) h2; rw [List.getElem?_eq_getElem cA] at this; exact Option.some.inj this
  have vB : (cntRow g.cls.length PB n)[c] = ((PB.count ((n : Int), (c : Int)) : Nat) : Int) := by have := cntRow_get (P := PB) (b := n) h2; rw [List.getElem?_eq_getElem cB] at this; exact Option.some.inj this
  have vC : (cntRow g.cls.length PC n)[c] = ((PC.count ((n : Int), (c : Int)) : Nat) : Int) := by have := cntRow_get (P := PC) (b := n) h2; rw [List.getElem?_eq_getElem cC] at this; exact Option.some.inj this
  have hx := hcnt ((n : Int), (c : Int))
  have kb : C Tryd.prog F.ref00_Between [I ((PC.count ((n : Int), (c : Int)) : Nat) : Int), I ((PA.count ((n : Int), (c : Int)) : Nat) : Int), I ((PB.count ((n : Int), (c : Int)) : Nat) : Int)] (.bool true) := by
    have : btw ((PC.count ((n : Int), (c : Int)) : Nat) : Int) ((PA.count ((n : Int), (c : Int)) : Nat) : Int) ((PB.count ((n : Int), (c : Int)) : Nat) : Int) = true := by rw [btw_iff]; omega
    exact this ▸ c_between _ _ _
  refine Tr.seq (Tr.block ?_)
  refine Tr.seq (Tr.drawK (TraceK.runN 3 rfl (by simp; omega) ?_))
  rw [getD_map nC, rC]
  refine TraceK.runN 3 rfl (by simp; omega) ?_
  rw [getD_map cC, vC]
  refine TraceK.runN 4 rfl (by simp; omega) ?_
  rw [getD_map nA, rA]
  refine TraceK.runN 3 rfl (by simp; omega) ?_
  rw [getD_map cA, vA]
  refine TraceK.runN 4 rfl (by simp; omega) ?_
  rw [getD_map nB, rB]
  refine TraceK.runN 3 rfl (by simp; omega) ?_
  rw [getD_map cB, vB]
  refine TraceK.run rfl (by simp) (TraceK.call rfl rfl kb (TraceK.run rfl (by simp) (.done ⟨by kernel_rfl, by kernel_rfl, ?_⟩)))
  refine Tr.condF rfl (Tr.skip (Tr.regR rfl (by simp) ?_))
  exact ⟨c + 1, _, Wk.le (.cons rfl (.refl _) (.cons rfl (.refl _) (.cons rfl (.refl _) (.cons rfl (.refl _) (.cons rfl (VLe.i (w64 (by omega) (by omega))) .nil))))) .nil .nil rfl rfl, ⟨h2, rfl⟩, by omega⟩

end Go.Proofs.YtffoiccokigjcaaDoor
