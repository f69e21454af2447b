/-
  Parts of the proof, 1: the abstract machine, the compiled code, contracts of the functions, plain laws.
-/
import Derived.Test.YtkifejklnpddbaaZ5


/-! The code of further functions, compiled. -/
set_option maxRecDepth 100000
namespace Go.Proofs.Ytkifejklnpddbaa
open Go.Am
/-- paravane/paravanelaw10.VolumeTruth -/
abbrev F.law10_VolumeTruth : Nat := 13
def ir.law10_VolumeTruth : IC :=
 (.seq (.reg [⟨(some 4), .box, [.t 1], none⟩,
     ⟨(some 5), .box, [.t 2], none⟩,
     ⟨(some 6), .mov, [.c (.bool false)], none⟩])
   (.seq (.reg [⟨(some 16), .mov, [.t 0], none⟩,
     ⟨(some 17), .faddr 0, [.t 4], none⟩,
     ⟨(some 18), .load 3 true, [.t 17], none⟩,
     ⟨(some 19), .faddr 3, [.t 4], none⟩,
     ⟨(some 20), .load 3 true, [.t 19], none⟩,
     ⟨(some 21), .faddr 6, [.t 4], none⟩,
     ⟨(some 22), .load 1 false, [.t 21], none⟩,
     ⟨(some 23), .faddr 7, [.t 4], none⟩,
     ⟨(some 24), .load 2 true, [.t 23], none⟩,
     ⟨(some 25), .call 34, [.t 16, .t 18, .t 20, .t 22, .t 24], none⟩,
     ⟨(some 15), .mov, [.t 25], none⟩,
     ⟨(some 26), .extract 0, [.t 15], none⟩,
     ⟨(some 27), .extract 1, [.t 15], none⟩,
     ⟨(some 7), .alloc [(.int .i64 0), (.int .i64 0), (.int .i64 0), (.int .i64 0), (.int .i64 0), (.int .i64 0), .nils], [], none⟩,
     ⟨none, .store 7, [.t 7, .t 26], none⟩,
     ⟨(some 8), .mov, [.t 27], none⟩])
   (.seq (.seq (.reg [⟨(some 28), .mov, [.t 8], none⟩,
     ⟨(some 29), .bin .neq, [.t 28, .c (.int .i64 0)], none⟩])
   (.cond (.t 29) (.seq (.reg [⟨(some 30), .faddr 6, [.t 7], none⟩,
     ⟨(some 31), .load 1 false, [.t 30], none⟩,
     ⟨(some 32), .len false, [.t 31], none⟩,
     ⟨(some 33), .bin .eql, [.t 32, .c (.int .i64 0)], none⟩,
     ⟨(some 34), .mov, [.t 33], none⟩,
     ⟨(some 35), .call 30, [], (some (34, true))⟩,
     ⟨(some 36), .pick, [.t 34, .t 35, .c (.bool false)], none⟩,
     ⟨(some 6), .mov, [.t 36], none⟩])
   .ret) .skip))
   (.seq (.draw [0, 1, 3, 0, 8, 0, 32, 96, 0, 256, 768, 2016, 4064, 8184, 16383, 32767] [⟨(some 37), .faddr 7, [.t 4], none⟩,
     ⟨(some 38), .faddr 0, [.t 37], none⟩,
     ⟨(some 39), .load 1 false, [.t 38], none⟩,
     ⟨(some 40), .faddr 1, [.t 5], none⟩,
     ⟨(some 41), .load 1 false, [.t 40], none⟩,
     ⟨(some 42), .faddr 7, [.t 4], none⟩,
     ⟨(some 43), .faddr 1, [.t 42], none⟩,
     ⟨(some 44), .load 1 false, [.t 43], none⟩,
     ⟨(some 45), .faddr 7, [.t 4], none⟩,
     ⟨(some 46), .faddr 0, [.t 45], none⟩,
     ⟨(some 47), .load 1 false, [.t 46], none⟩,
     ⟨(some 48), .bin .sub, [.t 44, .t 47], none⟩,
     ⟨(some 49), .bin .add, [.t 48, .c (.int .i64 1)], none⟩,
     ⟨(some 50), .call 49, [.t 41, .t 49], none⟩,
     ⟨(some 51), .bin .add, [.t 39, .t 50], none⟩,
     ⟨(some 9), .mov, [.t 51], none⟩])
   (.seq (.reg [⟨(some 52), .mov, [.t 0], none⟩,
     ⟨(some 53), .faddr 0, [.t 5], none⟩,
     ⟨(some 54), .load 1 false, [.t 53], none⟩,
     ⟨(some 55), .call 54, [.t 52, .t 54], none⟩,
     ⟨(some 10), .mov, [.t 55], none⟩])
   (.seq (.reg [⟨(some 57), .mov, [.t 10], none⟩,
     ⟨(some 58), .faddr 0, [.t 4], none⟩,
     ⟨(some 59), .load 3 true, [.t 58], none⟩,
     ⟨(some 60), .faddr 3, [.t 4], none⟩,
     ⟨(some 61), .load 3 true, [.t 60], none⟩,
     ⟨(some 62), .faddr 6, [.t 4], none⟩,
     ⟨(some 63), .load 1 false, [.t 62], none⟩,
     ⟨(some 64), .mov, [.t 9], none⟩,
     ⟨(some 65), .call 52, [.t 57, .t 59, .t 61, .t 63, .t 64], none⟩,
     ⟨(some 56), .mov, [.t 65], none⟩,
     ⟨(some 66), .extract 0, [.t 56], none⟩,
     ⟨(some 67), .extract 1, [.t 56], none⟩,
     ⟨(some 11), .alloc [(.int .i64 0), (.int .i64 0), (.int .i64 0), (.int .i64 0), (.int .i64 0), (.int .i64 0), .nils], [], none⟩,
     ⟨none, .store 7, [.t 11, .t 66], none⟩,
     ⟨(some 8), .mov, [.t 67], none⟩])
   (.seq (.reg [⟨(some 69), .mov, [.t 0], none⟩,
     ⟨(some 70), .faddr 0, [.t 4], none⟩,
     ⟨(some 71), .load 3 true, [.t 70], none⟩,
     ⟨(some 72), .faddr 3, [.t 4], none⟩,
     ⟨(some 73), .load 3 true, [.t 72], none⟩,
     ⟨(some 74), .faddr 6, [.t 4], none⟩,
     ⟨(some 75), .load 1 false, [.t 74], none⟩,
     ⟨(some 76), .mov, [.t 9], none⟩,
     ⟨(some 77), .call 52, [.t 69, .t 71, .t 73, .t 75, .t 76], none⟩,
     ⟨(some 68), .mov, [.t 77], none⟩,
     ⟨(some 78), .extract 0, [.t 68], none⟩,
     ⟨(some 79), .extract 1, [.t 68], none⟩,
     ⟨(some 12), .alloc [(.int .i64 0), (.int .i64 0), (.int .i64 0), (.int .i64 0), (.int .i64 0), (.int .i64 0), .nils], [], none⟩,
     ⟨none, .store 7, [.t 12, .t 78], none⟩,
     ⟨(some 13), .mov, [.t 79], none⟩])
   (.seq (.seq (.reg [⟨(some 80), .mov, [.t 8], none⟩,
     ⟨(some 81), .bin .neq, [.t 80, .c (.int .i64 0)], none⟩,
     ⟨(some 82), .mov, [.t 81], none⟩,
     ⟨(some 83), .mov, [.t 13], (some (82, false))⟩,
     ⟨(some 84), .bin .neq, [.t 83, .c (.int .i64 0)], (some (82, false))⟩,
     ⟨(some 85), .pick, [.t 82, .c (.bool true), .t 84], none⟩,
     ⟨(some 86), .mov, [.t 85], none⟩,
     ⟨(some 87), .load 7 true, [.t 11], (some (86, false))⟩,
     ⟨(some 88), .load 7 true, [.t 7], (some (86, false))⟩,
     ⟨(some 89), .call 55, [.t 87, .t 88], (some (86, false))⟩,
     ⟨(some 90), .un .not, [.t 89], (some (86, false))⟩,
     ⟨(some 91), .pick, [.t 86, .c (.bool true), .t 90], none⟩,
     ⟨(some 92), .mov, [.t 91], none⟩,
     ⟨(some 93), .load 7 true, [.t 11], (some (92, false))⟩,
     ⟨(some 94), .load 7 true, [.t 12], (some (92, false))⟩,
     ⟨(some 95), .call 55, [.t 93, .t 94], (some (92, false))⟩,
     ⟨(some 96), .un .not, [.t 95], (some (92, false))⟩,
     ⟨(some 97), .pick, [.t 92, .c (.bool true), .t 96], none⟩,
     ⟨(some 98), .mov, [.t 97], none⟩,
     ⟨(some 99), .load 7 true, [.t 12], (some (98, false))⟩,
     ⟨(some 100), .load 7 true, [.t 7], (some (98, false))⟩,
     ⟨(some 101), .call 55, [.t 99, .t 100], (some (98, false))⟩,
     ⟨(some 102), .un .not, [.t 101], (some (98, false))⟩,
     ⟨(some 103), .pick, [.t 98, .c (.bool true), .t 102], none⟩])
   (.cond (.t 103) (.seq (.reg [⟨(some 6), .mov, [.c (.bool false)], none⟩])
   .ret) .skip))
   (.seq (.seq (.reg [⟨(some 14), .mov, [.c (.int .i64 0)], none⟩])
   (.block 0 (.loop (.seq (.seq (.reg [⟨(some 104), .mov, [.t 14], none⟩,
     ⟨(some 105), .faddr 6, [.t 11], none⟩,
     ⟨(some 106), .load 1 false, [.t 105], none⟩,
     ⟨(some 107), .len false, [.t 106], none⟩,
     ⟨(some 108), .bin .lss, [.t 104, .t 107], none⟩])
   (.cond (.t 108) .skip (.exit 0)))
   (.seq (.block 1 (.seq (.draw [0, 1, 0, 7, 15, 31, 0, 64, 0, 448, 960, 1984, 4095] [⟨(some 111), .faddr 6, [.t 11], none⟩,
     ⟨(some 112), .load 1 false, [.t 111], none⟩,
     ⟨(some 113), .mov, [.t 14], none⟩,
     ⟨(some 114), .iaddrS 2, [.t 112, .t 113], none⟩,
     ⟨(some 115), .faddr 0, [.t 114], none⟩,
     ⟨(some 116), .load 1 false, [.t 115], none⟩,
     ⟨(some 117), .faddr 6, [.t 11], none⟩,
     ⟨(some 118), .load 1 false, [.t 117], none⟩,
     ⟨(some 119), .mov, [.t 14], none⟩,
     ⟨(some 120), .iaddrS 2, [.t 118, .t 119], none⟩,
     ⟨(some 121), .faddr 1, [.t 120], none⟩,
     ⟨(some 122), .load 1 false, [.t 121], none⟩,
     ⟨(some 123), .bin .neq, [.t 116, .t 122], none⟩])
   (.cond (.t 123) (.seq (.reg [⟨(some 6), .mov, [.c (.bool false)], none⟩])
   .ret) .skip)))
   (.reg [⟨(some 109), .mov, [.t 14], none⟩,
     ⟨(some 110), .bin .add, [.t 109, .c (.int .i64 1)], none⟩,
     ⟨(some 14), .mov, [.t 110], none⟩]))))))
   (.seq (.reg [⟨(some 124), .call 30, [], none⟩,
     ⟨(some 6), .mov, [.t 124], none⟩])
   .ret))))))))))
theorem chk.law10_VolumeTruth : chkF Try.prog 13 = some (125, ir.law10_VolumeTruth, [.tmp 6]) := by kernel_rfl

/-- paravane/paravaneref00.Rest -/
abbrev F.ref00_Rest : Nat := 49
def ir.ref00_Rest : IC :=
 (.seq (.reg [⟨(some 4), .mov, [.c (.int .i64 0)], none⟩])
   (.seq (.seq (.reg [⟨(some 5), .mov, [.t 1], none⟩,
     ⟨(some 6), .bin .lss, [.t 5, .c (.int .i64 1)], none⟩])
   (.cond (.t 6) (.seq (.reg [⟨(some 4), .mov, [.c (.int .i64 0)], none⟩])
   .ret) .skip))
   (.seq (.reg [⟨(some 7), .mov, [.t 0], none⟩,
     ⟨(some 8), .mov, [.t 1], none⟩,
     ⟨(some 9), .bin .rem, [.t 7, .t 8], none⟩,
     ⟨(some 0), .mov, [.t 9], none⟩])
   (.seq (.seq (.reg [⟨(some 10), .mov, [.t 0], none⟩,
     ⟨(some 11), .bin .lss, [.t 10, .c (.int .i64 0)], none⟩])
   (.cond (.t 11) (.reg [⟨(some 12), .mov, [.t 0], none⟩,
     ⟨(some 13), .mov, [.t 1], none⟩,
     ⟨(some 14), .bin .add, [.t 12, .t 13], none⟩,
     ⟨(some 0), .mov, [.t 14], none⟩]) .skip))
   (.seq (.reg [⟨(some 15), .mov, [.t 0], none⟩,
     ⟨(some 4), .mov, [.t 15], none⟩])
   .ret)))))
theorem chk.ref00_Rest : chkF Try.prog 49 = some (16, ir.ref00_Rest, [.tmp 4]) := by kernel_rfl

/-- paravane/paravanelaw10.chosen -/
abbrev F.law10_chosen : Nat := 54
def ir.law10_chosen : IC :=
 (.seq (.reg [⟨(some 4), .mov, [.c .nils], none⟩])
   (.seq (.reg [⟨(some 5), .mov, [.c .nils], none⟩])
   (.seq (.seq (.reg [⟨(some 6), .mov, [.c (.int .i64 0)], none⟩])
   (.block 0 (.loop (.seq (.seq (.reg [⟨(some 11), .mov, [.t 6], none⟩,
     ⟨(some 12), .mov, [.t 0], none⟩,
     ⟨(some 13), .len false, [.t 12], none⟩,
     ⟨(some 14), .bin .lss, [.t 11, .t 13], none⟩])
   (.cond (.t 14) .skip (.exit 0)))
   (.seq (.block 1 (.seq (.draw [0, 0, 3, 7, 15, 0, 0, 96, 224, 480, 1023, 0, 4095] [⟨(some 17), .mov, [.t 0], none⟩,
     ⟨(some 18), .mov, [.t 6], none⟩,
     ⟨(some 19), .iaddrS 3, [.t 17, .t 18], none⟩,
     ⟨(some 20), .faddr 0, [.t 19], none⟩,
     ⟨(some 21), .load 1 false, [.t 20], none⟩,
     ⟨(some 22), .mov, [.t 0], none⟩,
     ⟨(some 23), .mov, [.t 6], none⟩,
     ⟨(some 24), .iaddrS 3, [.t 22, .t 23], none⟩,
     ⟨(some 25), .faddr 1, [.t 24], none⟩,
     ⟨(some 26), .load 1 false, [.t 25], none⟩,
     ⟨(some 27), .build [(.int .i64 0), (.int .i64 0), .nils] [(0, 1), (1, 1)], [.t 21, .t 26], none⟩,
     ⟨(some 7), .alloc [(.int .i64 0), (.int .i64 0), .nils], [], none⟩,
     ⟨none, .store 3, [.t 7, .t 27], none⟩])
   (.seq (.seq (.reg [⟨(some 8), .mov, [.c (.int .i64 0)], none⟩])
   (.block 2 (.loop (.seq (.seq (.reg [⟨(some 28), .mov, [.t 8], none⟩,
     ⟨(some 29), .mov, [.t 0], none⟩,
     ⟨(some 30), .mov, [.t 6], none⟩,
     ⟨(some 31), .iaddrS 3, [.t 29, .t 30], none⟩,
     ⟨(some 32), .faddr 2, [.t 31], none⟩,
     ⟨(some 33), .load 1 false, [.t 32], none⟩,
     ⟨(some 34), .len false, [.t 33], none⟩,
     ⟨(some 35), .bin .lss, [.t 28, .t 34], none⟩])
   (.cond (.t 35) .skip (.exit 2)))
   (.seq (.block 3 (.seq (.reg [⟨(some 38), .mov, [.t 0], none⟩,
     ⟨(some 39), .mov, [.t 6], none⟩,
     ⟨(some 40), .iaddrS 3, [.t 38, .t 39], none⟩,
     ⟨(some 41), .faddr 2, [.t 40], none⟩,
     ⟨(some 42), .load 1 false, [.t 41], none⟩,
     ⟨(some 43), .mov, [.t 8], none⟩,
     ⟨(some 44), .iaddrS 2, [.t 42, .t 43], none⟩,
     ⟨(some 45), .load 2 true, [.t 44], none⟩,
     ⟨(some 9), .alloc [(.int .i64 0), (.int .i64 0)], [], none⟩,
     ⟨none, .store 2, [.t 9, .t 45], none⟩])
   (.seq (.draw [0, 1, 0, 0, 8, 0, 56, 124, 0, 256, 0, 1024, 3840, 7936, 16380, 32767, 65535] [⟨(some 46), .faddr 0, [.t 9], none⟩,
     ⟨(some 47), .load 1 false, [.t 46], none⟩,
     ⟨(some 48), .mov, [.t 1], none⟩,
     ⟨(some 49), .mov, [.t 6], none⟩,
     ⟨(some 50), .bin .mul, [.c (.int .i64 7), .t 49], none⟩,
     ⟨(some 51), .mov, [.t 8], none⟩,
     ⟨(some 52), .bin .add, [.t 50, .t 51], none⟩,
     ⟨(some 53), .call 56, [.t 48, .t 52], none⟩,
     ⟨(some 54), .faddr 1, [.t 9], none⟩,
     ⟨(some 55), .load 1 false, [.t 54], none⟩,
     ⟨(some 56), .faddr 0, [.t 9], none⟩,
     ⟨(some 57), .load 1 false, [.t 56], none⟩,
     ⟨(some 58), .bin .sub, [.t 55, .t 57], none⟩,
     ⟨(some 59), .bin .add, [.t 58, .c (.int .i64 1)], none⟩,
     ⟨(some 60), .call 49, [.t 53, .t 59], none⟩,
     ⟨(some 61), .bin .add, [.t 47, .t 60], none⟩,
     ⟨(some 10), .mov, [.t 61], none⟩])
   (.reg [⟨(some 62), .faddr 2, [.t 7], none⟩,
     ⟨(some 63), .load 1 false, [.t 62], none⟩,
     ⟨(some 64), .mov, [.t 10], none⟩,
     ⟨(some 65), .mov, [.t 10], none⟩,
     ⟨(some 66), .build [(.int .i64 0), (.int .i64 0)] [(0, 1), (1, 1)], [.t 64, .t 65], none⟩,
     ⟨(some 67), .mkslice 2 33, [.t 66], none⟩,
     ⟨(some 68), .append 2 16 33, [.t 63, .t 67], none⟩,
     ⟨(some 69), .faddr 2, [.t 7], none⟩,
     ⟨none, .store 1, [.t 69, .t 68], none⟩]))))
   (.reg [⟨(some 36), .mov, [.t 8], none⟩,
     ⟨(some 37), .bin .add, [.t 36, .c (.int .i64 1)], none⟩,
     ⟨(some 8), .mov, [.t 37], none⟩]))))))
   (.reg [⟨(some 70), .mov, [.t 5], none⟩,
     ⟨(some 71), .load 3 true, [.t 7], none⟩,
     ⟨(some 72), .mkslice 3 79, [.t 71], none⟩,
     ⟨(some 73), .append 3 40 79, [.t 70, .t 72], none⟩,
     ⟨(some 5), .mov, [.t 73], none⟩]))))
   (.reg [⟨(some 15), .mov, [.t 6], none⟩,
     ⟨(some 16), .bin .add, [.t 15, .c (.int .i64 1)], none⟩,
     ⟨(some 6), .mov, [.t 16], none⟩]))))))
   (.seq (.reg [⟨(some 74), .mov, [.t 5], none⟩,
     ⟨(some 4), .mov, [.t 74], none⟩])
   .ret))))
theorem chk.law10_chosen : chkF Try.prog 54 = some (75, ir.law10_chosen, [.tmp 4]) := by kernel_rfl

/-- paravane/paravanelaw10.inside -/
abbrev F.law10_inside : Nat := 55
def ir.law10_inside : IC :=
 (.seq (.reg [⟨(some 2), .box, [.t 0], none⟩,
     ⟨(some 3), .box, [.t 1], none⟩,
     ⟨(some 4), .mov, [.c (.bool false)], none⟩])
   (.seq (.seq (.reg [⟨(some 6), .faddr 0, [.t 2], none⟩,
     ⟨(some 7), .load 3 true, [.t 6], none⟩,
     ⟨(some 8), .faddr 0, [.t 3], none⟩,
     ⟨(some 9), .load 3 true, [.t 8], none⟩,
     ⟨(some 10), .eqs true [0, 0, 0], [.t 7, .t 9], none⟩,
     ⟨(some 11), .mov, [.t 10], none⟩,
     ⟨(some 12), .faddr 3, [.t 2], (some (11, false))⟩,
     ⟨(some 13), .load 3 true, [.t 12], (some (11, false))⟩,
     ⟨(some 14), .faddr 3, [.t 3], (some (11, false))⟩,
     ⟨(some 15), .load 3 true, [.t 14], (some (11, false))⟩,
     ⟨(some 16), .eqs true [0, 0, 0], [.t 13, .t 15], (some (11, false))⟩,
     ⟨(some 17), .pick, [.t 11, .c (.bool true), .t 16], none⟩,
     ⟨(some 18), .mov, [.t 17], none⟩,
     ⟨(some 19), .faddr 6, [.t 2], (some (18, false))⟩,
     ⟨(some 20), .load 1 false, [.t 19], (some (18, false))⟩,
     ⟨(some 21), .len false, [.t 20], (some (18, false))⟩,
     ⟨(some 22), .faddr 6, [.t 3], (some (18, false))⟩,
     ⟨(some 23), .load 1 false, [.t 22], (some (18, false))⟩,
     ⟨(some 24), .len false, [.t 23], (some (18, false))⟩,
     ⟨(some 25), .bin .neq, [.t 21, .t 24], (some (18, false))⟩,
     ⟨(some 26), .pick, [.t 18, .c (.bool true), .t 25], none⟩])
   (.cond (.t 26) (.seq (.reg [⟨(some 4), .mov, [.c (.bool false)], none⟩])
   .ret) .skip))
   (.seq (.seq (.reg [⟨(some 5), .mov, [.c (.int .i64 0)], none⟩])
   (.block 0 (.loop (.seq (.seq (.reg [⟨(some 27), .mov, [.t 5], none⟩,
     ⟨(some 28), .faddr 6, [.t 2], none⟩,
     ⟨(some 29), .load 1 false, [.t 28], none⟩,
     ⟨(some 30), .len false, [.t 29], none⟩,
     ⟨(some 31), .bin .lss, [.t 27, .t 30], none⟩])
   (.cond (.t 31) .skip (.exit 0)))
   (.seq (.block 1 (.seq (.draw [0, 1, 0, 7, 15, 31, 0, 64, 0, 448, 960, 1984, 4095, 8191, 16383, 32767, 16383, 131071, 262143, 524287, 16383, 1064959, 16383, 7356415, 15745023, 32522239, 67108863, 134217727] [⟨(some 34), .faddr 6, [.t 2], none⟩,
     ⟨(some 35), .load 1 false, [.t 34], none⟩,
     ⟨(some 36), .mov, [.t 5], none⟩,
     ⟨(some 37), .iaddrS 2, [.t 35, .t 36], none⟩,
     ⟨(some 38), .faddr 0, [.t 37], none⟩,
     ⟨(some 39), .load 1 false, [.t 38], none⟩,
     ⟨(some 40), .faddr 6, [.t 3], none⟩,
     ⟨(some 41), .load 1 false, [.t 40], none⟩,
     ⟨(some 42), .mov, [.t 5], none⟩,
     ⟨(some 43), .iaddrS 2, [.t 41, .t 42], none⟩,
     ⟨(some 44), .faddr 0, [.t 43], none⟩,
     ⟨(some 45), .load 1 false, [.t 44], none⟩,
     ⟨(some 46), .bin .lss, [.t 39, .t 45], none⟩,
     ⟨(some 47), .mov, [.t 46], none⟩,
     ⟨(some 48), .faddr 6, [.t 2], (some (47, false))⟩,
     ⟨(some 49), .load 1 false, [.t 48], (some (47, false))⟩,
     ⟨(some 50), .mov, [.t 5], (some (47, false))⟩,
     ⟨(some 51), .iaddrS 2, [.t 49, .t 50], (some (47, false))⟩,
     ⟨(some 52), .faddr 1, [.t 51], (some (47, false))⟩,
     ⟨(some 53), .load 1 false, [.t 52], (some (47, false))⟩,
     ⟨(some 54), .faddr 6, [.t 3], (some (47, false))⟩,
     ⟨(some 55), .load 1 false, [.t 54], (some (47, false))⟩,
     ⟨(some 56), .mov, [.t 5], (some (47, false))⟩,
     ⟨(some 57), .iaddrS 2, [.t 55, .t 56], (some (47, false))⟩,
     ⟨(some 58), .faddr 1, [.t 57], (some (47, false))⟩,
     ⟨(some 59), .load 1 false, [.t 58], (some (47, false))⟩,
     ⟨(some 60), .bin .gtr, [.t 53, .t 59], (some (47, false))⟩,
     ⟨(some 61), .pick, [.t 47, .c (.bool true), .t 60], none⟩])
   (.cond (.t 61) (.seq (.reg [⟨(some 4), .mov, [.c (.bool false)], none⟩])
   .ret) .skip)))
   (.reg [⟨(some 32), .mov, [.t 5], none⟩,
     ⟨(some 33), .bin .add, [.t 32, .c (.int .i64 1)], none⟩,
     ⟨(some 5), .mov, [.t 33], none⟩]))))))
   (.seq (.reg [⟨(some 4), .mov, [.c (.bool true)], none⟩])
   .ret))))
theorem chk.law10_inside : chkF Try.prog 55 = some (62, ir.law10_inside, [.tmp 4]) := by kernel_rfl

/-- paravane/paravaneref00.Pick -/
abbrev F.ref00_Pick : Nat := 56
def ir.ref00_Pick : IC :=
 (.seq (.reg [⟨(some 4), .mov, [.c (.int .i64 0)], none⟩])
   (.seq (.seq (.reg [⟨(some 5), .mov, [.t 0], none⟩,
     ⟨(some 6), .len false, [.t 5], none⟩,
     ⟨(some 7), .bin .eql, [.t 6, .c (.int .i64 0)], none⟩])
   (.cond (.t 7) (.seq (.reg [⟨(some 4), .mov, [.c (.int .i64 0)], none⟩])
   .ret) .skip))
   (.seq (.reg [⟨(some 8), .mov, [.t 0], none⟩,
     ⟨(some 9), .mov, [.t 1], none⟩,
     ⟨(some 10), .mov, [.t 0], none⟩,
     ⟨(some 11), .len false, [.t 10], none⟩,
     ⟨(some 12), .call 49, [.t 9, .t 11], none⟩,
     ⟨(some 13), .iaddrS 1, [.t 8, .t 12], none⟩,
     ⟨(some 14), .load 1 false, [.t 13], none⟩,
     ⟨(some 4), .mov, [.t 14], none⟩])
   .ret)))
theorem chk.ref00_Pick : chkF Try.prog 56 = some (15, ir.ref00_Pick, [.tmp 4]) := by kernel_rfl

end Go.Proofs.Ytkifejklnpddbaa

/-! Plain facts: values and enclosures as sums over what is near. -/
set_option linter.unusedVariables false
set_option linter.unusedSimpArgs false
set_option maxRecDepth 20000
namespace Go.Proofs.Ytkifejklnpddbaa
open Go.Am

theorem w_range (n : Int) : -9223372036854775808 ≤ w n ∧ w n < 9223372036854775808 := by
  have e : ∀ m : Int, m = n % 18446744073709551616 → -9223372036854775808 ≤ (if (true && decide (m ≥ 9223372036854775808)) = true then m - 18446744073709551616 else m) ∧ (if (true && decide (m ≥ 9223372036854775808)) = true then m - 18446744073709551616 else m) < 9223372036854775808 := by
    intro m hm
    by_cases h : m ≥ 9223372036854775808
    · simp only [h, decide_true, Bool.and_self, if_true]; omega
    · simp only [h, decide_false, Bool.and_false, Bool.false_eq_true, if_false]; omega
  exact e _ rfl

theorem w_w (n : Int) : w (w n) = w n := w64 (w_range n).1 (w_range n).2

/-- What the sample at a time is; nothing, if there is none. -/
def smp (s : List (Int × Int)) (z d slow : Int) : Int × Int := s.getD (timeN z d slow).toNat (0, 0)
def valC (h : Ear) (z : Int) (p : Int × Int) : Int × Int := smp (sAt h p.1) z p.2 h.slow.1

def nrm (a : Int × Int) : Prop := w a.1 = a.1 ∧ w a.2 = a.2
theorem nrm_plus (a b : Int × Int) : nrm (plusB a b) := ⟨w_w _, w_w _⟩
theorem nrm0 : nrm (0, 0) := ⟨w64 (by omega) (by omega), w64 (by omega) (by omega)⟩
theorem plus0 {a : Int × Int} (h : nrm a) : plusB a (0, 0) = a := by
  obtain ⟨x, y⟩ := a
  obtain ⟨h1, h2⟩ := h
  simp only at h1 h2
  simp only [plusB, Int.add_zero, h1, h2]

theorem fold_filter {α β : Type} (f : α → Option β) (g : β → Int × Int) : ∀ (L : List α) (acc : Int × Int), nrm acc →
    ((L.filterMap f).map g).foldl plusB acc = (L.map fun p => match f p with | some r => g r | none => (0, 0)).foldl plusB acc
  | [], acc, _ => rfl
  | p :: r, acc, h => by
    simp only [List.filterMap_cons, List.map_cons, List.foldl_cons]
    cases hf : f p with
    | none => simp only [plus0 h]; exact fold_filter f g r acc h
    | some q => simp only [List.map_cons, List.foldl_cons]; exact fold_filter f g r _ (nrm_plus _ _)

theorem map_congr' {α β : Type} {f g : α → β} {L : List α} (h : ∀ p ∈ L, f p = g p) : L.map f = L.map g := List.map_congr_left h

theorem value_sum (h : Ear) (x y z : Int) : valueB h x y z = ((nears h.aper x y h.l 0).map (valC h z)).foldl plusB (0, 0) := by
  unfold valueB namedL
  rw [fold_filter _ _ _ _ nrm0]
  congr 1
  refine map_congr' fun p hp => ?_
  obtain ⟨i, h1, h2⟩ := nears_mem hp
  have h1 : p.1 = (i : Int) := by simpa using h1
  have h0 := timeN_nn z p.2 h.slow.1
  have es : sAt h p.1 = h.l[i].s := by simp [sAt, h1, List.getElem?_eq_getElem h2]
  unfold refOf valC smp
  rw [es, h1]
  simp only [Int.toNat_natCast, List.getElem?_eq_getElem h2, Option.map_some, Option.getD_some]
  by_cases hc : timeN z p.2 h.slow.1 < (h.l[i].s.length : Int)
  · rw [if_pos hc]
    simp [boundAt, List.getElem?_eq_getElem h2, List.getD_eq_getElem?_getD]
  · rw [if_neg hc, List.getD_eq_getElem?_getD, List.getElem?_eq_none (by omega)]
    rfl

theorem reach_one (s : List (Int × Int)) (z d q : Int) : reachB s z d (q, q) = smp s z d q := by
  have h0 := timeN_nn z d q
  unfold reachB smp
  simp only
  obtain ⟨t, ht⟩ : ∃ t : Nat, timeN z d q = (t : Int) := ⟨_, (Int.toNat_of_nonneg h0).symm⟩
  rw [ht, Int.toNat_natCast]
  by_cases h1 : t < s.length
  · rw [reachG_drop h1, if_pos (Int.le_refl _), List.getD_eq_getElem?_getD, List.getElem?_eq_getElem h1]
    have e : decide ((t : Int) ≥ (s.length : Int)) = false := by simp; omega
    rw [e]
    simp only [stepB, Bool.false_eq_true, if_false, Option.getD_some]
    by_cases h2 : t + 1 < s.length
    · rw [reachG_drop h2, if_neg (by omega)]
    · rw [List.drop_eq_nil_of_le (by omega)]; rfl
  · rw [List.drop_eq_nil_of_le (by omega), List.getD_eq_getElem?_getD, List.getElem?_eq_none (by omega)]; rfl

/-- **ONE SLOWNESS**: the enclosure is the value. -/
theorem enc_one (l : List Echo) (aper q : Int) (p : Int × Int × Int) : encOf l aper (q, q) p = valOf l aper q p := by
  unfold encOf valOf encB
  rw [value_sum]
  congr 1
  refine map_congr' fun p _ => ?_
  exact reach_one _ _ _ _

/-! ### Bounds within bounds -/
def ins (a b : Int × Int) : Prop := b.1 ≤ a.1 ∧ a.2 ≤ b.2
def bdd (n : Int) (a : Int × Int) : Prop := (-n ≤ a.1 ∧ a.1 ≤ n) ∧ (-n ≤ a.2 ∧ a.2 ≤ n)

theorem fold_ins {α : Type} (f g : α → Int × Int) (L : List α) : ∀ (n : Int) (a b : Int × Int), 0 ≤ n → n + L.length ≤ 1000 → (∀ p ∈ L, bdd 16777216 (f p) ∧ bdd 16777216 (g p) ∧ ins (f p) (g p)) → bdd (n * 16777216) a → bdd (n * 16777216) b → ins a b →
    ins ((L.map f).foldl plusB a) ((L.map g).foldl plusB b) := by
  induction L with
  | nil => intro n a b _ _ _ _ _ h; exact h
  | cons p r ih =>
    intro n a b h0 hn hf ha hb h
    obtain ⟨h1, h2, h3⟩ := hf p (by simp)
    simp only [List.map_cons, List.foldl_cons]
    simp only [List.length_cons] at hn
    unfold bdd at ha hb h1 h2
    have e1 : plusB a (f p) = (a.1 + (f p).1, a.2 + (f p).2) := by
      unfold plusB; rw [show w (a.1 + (f p).1) = a.1 + (f p).1 from w64 (by omega) (by omega), show w (a.2 + (f p).2) = a.2 + (f p).2 from w64 (by omega) (by omega)]
    have e2 : plusB b (g p) = (b.1 + (g p).1, b.2 + (g p).2) := by
      unfold plusB; rw [show w (b.1 + (g p).1) = b.1 + (g p).1 from w64 (by omega) (by omega), show w (b.2 + (g p).2) = b.2 + (g p).2 from w64 (by omega) (by omega)]
    rw [e1, e2]
    unfold ins at h h3
    refine ih (n + 1) _ _ (by omega) (by omega) (fun q hq => hf q (List.mem_cons_of_mem _ hq)) ?_ ?_ ?_
    · unfold bdd; simp only; omega
    · unfold bdd; simp only; omega
    · unfold ins; simp only; omega

theorem fold_diag {α : Type} (f : α → Int × Int) : ∀ (L : List α) (a : Int × Int), (∀ p ∈ L, (f p).1 = (f p).2) → a.1 = a.2 → ((L.map f).foldl plusB a).1 = ((L.map f).foldl plusB a).2
  | [], a, _, h => h
  | p :: r, a, hf, h => by
    simp only [List.map_cons, List.foldl_cons]
    refine fold_diag f r _ (fun q hq => hf q (List.mem_cons_of_mem _ hq)) ?_
    simp only [plusB, h, hf p (by simp)]

theorem ins_refl (a : Int × Int) : ins a a := ⟨Int.le_refl _, Int.le_refl _⟩
theorem ins_trans {a b c : Int × Int} (h : ins a b) (k : ins b c) : ins a c := ⟨Int.le_trans k.1 h.1, Int.le_trans h.2 k.2⟩

theorem reachG_wide (to : Int) : ∀ (r : List (Int × Int)) (t : Nat) (out : Int × Int), ins out (reachG to r t true out)
  | [], t, out => ins_refl _
  | b :: r, t, out => by
    unfold reachG
    split
    · refine ins_trans ?_ (reachG_wide to r (t + 1) _)
      unfold ins stepB; simp only [if_true]; omega
    · exact ins_refl _

theorem reachG_has (to : Int) : ∀ (r : List (Int × Int)) (t : Nat) (is : Bool) (out : Int × Int) (j : Nat) (h : j < r.length), ((t + j : Nat) : Int) ≤ to → ins r[j] (reachG to r t is out)
  | [], t, is, out, j, h, _ => by simp at h
  | b :: r, t, is, out, j, h, hj => by
    unfold reachG
    rw [if_pos (by omega)]
    cases j with
    | zero =>
      refine ins_trans ?_ (reachG_wide to r (t + 1) _)
      unfold ins stepB
      cases is
      · simp
      · simp only [if_true, List.getElem_cons_zero]; omega
    | succ j =>
      rw [List.getElem_cons_succ]
      exact reachG_has to r (t + 1) true _ j (by simpa using h) (by rw [show t + 1 + j = t + (j + 1) by omega]; exact hj)

theorem reachG_bdd {n : Int} (to : Int) : ∀ (r : List (Int × Int)) (t : Nat) (is : Bool) (out : Int × Int), (∀ b ∈ r, bdd n b) → bdd n out → bdd n (reachG to r t is out)
  | [], t, is, out, _, h => h
  | b :: r, t, is, out, hr, h => by
    unfold reachG
    split
    · refine reachG_bdd to r (t + 1) true _ (fun b hb => hr b (List.mem_cons_of_mem _ hb)) ?_
      have hb := hr b (by simp)
      unfold stepB
      split
      · unfold bdd at h hb ⊢; simp only; omega
      · exact hb
    · exact h

/-- A time between the least and the greatest one: the sample lies in what may be reached. -/
theorem smp_reach (s : List (Int × Int)) (z d q : Int) (sl : Int × Int) (h1 : timeN z d sl.1 ≤ timeN z d q) (h2 : timeN z d q ≤ timeN z d sl.2) : ins (smp s z d q) (reachB s z d sl) := by
  have h0 := timeN_nn z d sl.1
  unfold smp reachB
  by_cases h : (timeN z d q).toNat < s.length
  · rw [List.getD_eq_getElem?_getD, List.getElem?_eq_getElem h]
    have hj : (timeN z d q).toNat - (timeN z d sl.1).toNat < (s.drop (timeN z d sl.1).toNat).length := by rw [List.length_drop]; omega
    have := reachG_has (timeN z d sl.2) (s.drop (timeN z d sl.1).toNat) (timeN z d sl.1).toNat (decide (timeN z d sl.2 ≥ s.length)) (0, 0) _ hj (by omega)
    rw [List.getElem_drop] at this
    simpa [show (timeN z d sl.1).toNat + ((timeN z d q).toNat - (timeN z d sl.1).toNat) = (timeN z d q).toNat by omega] using this
  · rw [List.getD_eq_getElem?_getD, List.getElem?_eq_none (by omega)]
    have e : decide (timeN z d sl.2 ≥ (s.length : Int)) = true := by simp; omega
    rw [e]
    exact reachG_wide _ _ _ _

theorem isq_mono {a b : Int} (h0 : 0 ≤ a) (h : a ≤ b) (h1 : b ≤ 1099511627776) : isq a ≤ isq b := by
  obtain ⟨a0, a1, a2⟩ := isq_spec h0 (by omega)
  obtain ⟨b0, b1, b2⟩ := isq_spec (n := b) (by omega) h1
  have := sq_lt a0 (b := isq b + 1) (by omega) (by omega)
  omega

theorem timeN_mono {z d s t : Int} (hz : 0 ≤ z ∧ z ≤ 64) (hd : 0 ≤ d ∧ d ≤ 100000) (hs : 0 ≤ s) (h : s ≤ t) (ht : t ≤ 4096) : timeN z d s ≤ timeN z d t := by
  have m0 : 0 ≤ z * z ∧ z * z ≤ 64 * 64 := ⟨Int.mul_nonneg hz.1 hz.1, Int.mul_le_mul hz.2 hz.2 hz.1 (by omega)⟩
  have m1 : 0 ≤ s * d ∧ s * d ≤ 4096 * 100000 := ⟨Int.mul_nonneg hs hd.1, Int.mul_le_mul (by omega) hd.2 hd.1 (by omega)⟩
  have m2 : 0 ≤ t * d ∧ t * d ≤ 4096 * 100000 := ⟨Int.mul_nonneg (by omega) hd.1, Int.mul_le_mul (by omega) hd.2 hd.1 (by omega)⟩
  have m3 : s * d ≤ t * d := Int.mul_le_mul_of_nonneg_right h hd.1
  have q1 : (s * d).tdiv 64 = s * d / 64 := Int.tdiv_eq_ediv_of_nonneg m1.1
  have q2 : (t * d).tdiv 64 = t * d / 64 := Int.tdiv_eq_ediv_of_nonneg m2.1
  have e1 : IntKind.wrap .i64 (IntKind.wrap .i64 (z * z) + IntKind.wrap .i64 ((IntKind.wrap .i64 (s * d)).tdiv 64)) = z * z + s * d / 64 := by
    rw [w64 (n := z * z) (by omega) (by omega), w64 (n := s * d) (by omega) (by omega), q1, w64 (n := s * d / 64) (by omega) (by omega), w64 (by omega) (by omega)]
  have e2 : IntKind.wrap .i64 (IntKind.wrap .i64 (z * z) + IntKind.wrap .i64 ((IntKind.wrap .i64 (t * d)).tdiv 64)) = z * z + t * d / 64 := by
    rw [w64 (n := z * z) (by omega) (by omega), w64 (n := t * d) (by omega) (by omega), q2, w64 (n := t * d / 64) (by omega) (by omega), w64 (by omega) (by omega)]
  unfold timeN
  rw [e1, e2]
  unfold rootN
  rw [if_pos (by simp [btw]; omega), if_pos (by simp [btw]; omega)]
  exact isq_mono (by omega) (by omega) (by omega)

/-- Distances of echoes. -/
theorem dst_bd {x y : Int} {e : Echo} (hx : -64 ≤ x ∧ x ≤ 64) (hy : -64 ≤ y ∧ y ≤ 64) (he : (-64 ≤ e.x ∧ e.x ≤ 64) ∧ (-64 ≤ e.y ∧ e.y ≤ 64)) : dst x y e = (x - e.x) * (x - e.x) + (y - e.y) * (y - e.y) ∧ 0 ≤ dst x y e ∧ dst x y e ≤ 32768 := by
  have sq : ∀ a : Int, -128 ≤ a → a ≤ 128 → 0 ≤ a * a ∧ a * a ≤ 16384 := fun a h1 h2 => by
    rcases Int.le_total 0 a with h | h
    · exact ⟨Int.mul_nonneg h h, Int.mul_le_mul h2 h2 h (by omega)⟩
    · have e : a * a = (-a) * (-a) := by rw [Int.neg_mul_neg]
      rw [e]
      exact ⟨Int.mul_nonneg (by omega) (by omega), Int.mul_le_mul (c := 128) (d := 128) (by omega) (by omega) (by omega) (by omega)⟩
  have a1 := sq (x - e.x) (by omega) (by omega)
  have a2 := sq (y - e.y) (by omega) (by omega)
  have e1 : dst x y e = (x - e.x) * (x - e.x) + (y - e.y) * (y - e.y) := by
    unfold dst
    rw [show w (x - e.x) = x - e.x from w64 (by omega) (by omega), show w (y - e.y) = y - e.y from w64 (by omega) (by omega), show w ((x - e.x) * (x - e.x)) = _ from w64 (by omega) (by omega), show w ((y - e.y) * (y - e.y)) = _ from w64 (by omega) (by omega)]
    exact w64 (by omega) (by omega)
  omega

theorem nears_dst {aper x y : Int} : ∀ {l : List Echo} {k : Nat} {p : Int × Int}, p ∈ nears aper x y l k → ∃ i : Nat, ∃ h : i < l.length, p.1 = ((k + i : Nat) : Int) ∧ p.2 = dst x y l[i] ∧ hears aper x y l[i] = true
  | [], k, p, h => by simp [nears] at h
  | e :: r, k, p, h => by
    simp only [nears] at h
    have rest : p ∈ nears aper x y r (k + 1) → ∃ i : Nat, ∃ h : i < (e :: r).length, p.1 = ((k + i : Nat) : Int) ∧ p.2 = dst x y (e :: r)[i] ∧ hears aper x y (e :: r)[i] = true := fun h => by
      obtain ⟨i, h1, h2, h3, h4⟩ := nears_dst h
      exact ⟨i + 1, by simpa using h1, by rw [h2]; congr 1; omega, by simpa using h3, by simpa using h4⟩
    split at h
    · rename_i hh
      rcases List.mem_cons.1 h with rfl | h
      · exact ⟨0, by simp, by simp, rfl, hh⟩
      · exact rest h
    · exact rest h

theorem echoOk_spec {e : Echo} (h : echoOk e = true) : ((-64 ≤ e.x ∧ e.x ≤ 64) ∧ (-64 ≤ e.y ∧ e.y ≤ 64)) ∧ (1 ≤ e.s.length ∧ e.s.length ≤ 64) ∧ ∀ b ∈ e.s, -16777216 ≤ b.1 ∧ b.1 ≤ b.2 ∧ b.2 ≤ 16777216 := by
  simp only [echoOk, btw, Bool.and_eq_true, decide_eq_true_eq, List.all_eq_true, loud] at h
  obtain ⟨⟨⟨h1, h2⟩, h3⟩, h4⟩ := h
  exact ⟨by omega, by omega, fun b hb => by have := h4 b hb; omega⟩

theorem echoesOk_spec {l : List Echo} (h : echoesOk l = true) : l.length ≤ 32 ∧ ∀ e ∈ l, echoOk e = true := by
  simp only [echoesOk, Bool.and_eq_true, decide_eq_true_eq, List.all_eq_true] at h
  exact h

end Go.Proofs.Ytkifejklnpddbaa

/-! Plain facts: the places of a box by their indices; joins both ways; parts of a volume. -/
set_option linter.unusedVariables false
set_option linter.unusedSimpArgs false
set_option maxRecDepth 20000
namespace Go.Proofs.Ytkifejklnpddbaa
open Go.Am

theorem btw_iff (n lo hi : Int) : btw n lo hi = true ↔ lo ≤ n ∧ n ≤ hi := by
  simp only [btw, Bool.and_eq_true, decide_eq_true_eq, ge_iff_le]

def cidx (b : Bx) (p : Int × Int × Int) : Int := idxOf b p.1 p.2.1 p.2.2
def natI (k : Nat) : Int := (k : Int)

theorem idx_at (b : Bx) (x y z B C : Nat) (hB : b.b = (B : Int)) (hC : b.c = (C : Int)) : idxOf b (b.x + (x : Int)) (b.y + (y : Int)) (b.z + (z : Int)) = (((x * B + y) * C + z : Nat) : Int) := by
  unfold idxOf
  rw [hB, hC, show b.x + (x : Int) - b.x = (x : Int) by omega, show (x : Int) * (B : Int) + (b.y + (y : Int)) - b.y = (x : Int) * (B : Int) + (y : Int) by omega]
  push_cast
  omega

theorem zs_idx (b : Bx) (x y B C : Nat) (hB : b.b = (B : Int)) (hC : b.c = (C : Int)) : ∀ n, (zsC b x y n).map (cidx b) = (List.range' ((x * B + y) * C) n).map natI
  | 0 => by simp [zsC]
  | n + 1 => by
    rw [zsC_succ, List.range'_1_concat, List.map_append, List.map_append, zs_idx b x y B C hB hC n]
    congr 1
    simp only [List.map_cons, List.map_nil, cidx, idx_at b x y n B C hB hC, natI]

theorem ys_idx (b : Bx) (x B C : Nat) (hB : b.b = (B : Int)) (hC : b.c = (C : Int)) : ∀ n, (ysC b x n).map (cidx b) = (List.range' (x * B * C) (n * C)).map natI
  | 0 => by simp [ysC]
  | n + 1 => by
    have e0 : b.c.toNat = C := by omega
    have e : List.range' (x * B * C) ((n + 1) * C) = List.range' (x * B * C) (n * C) ++ List.range' ((x * B + n) * C) C := by
      rw [show (x * B + n) * C = x * B * C + n * C by rw [Nat.add_mul], List.range'_append_1, Nat.succ_mul]
    rw [ysC_succ, List.map_append, ys_idx b x B C hB hC n, e0, zs_idx b x n B C hB hC, e, List.map_append]

theorem xs_idx (b : Bx) (B C : Nat) (hB : b.b = (B : Int)) (hC : b.c = (C : Int)) : ∀ n, (xsC b n).map (cidx b) = (List.range' 0 (n * (B * C))).map natI
  | 0 => by simp [xsC]
  | n + 1 => by
    have e0 : b.b.toNat = B := by omega
    have e : List.range' 0 ((n + 1) * (B * C)) = List.range' 0 (n * (B * C)) ++ List.range' (n * B * C) (B * C) := by
      rw [show n * B * C = 0 + n * (B * C) by rw [Nat.zero_add, Nat.mul_assoc], List.range'_append_1, Nat.succ_mul]
    rw [xsC_succ, List.map_append, xs_idx b B C hB hC n, e0, ys_idx b n B C hB hC, e, List.map_append]

theorem cells_idx (b : Bx) (h : 0 ≤ b.b ∧ 0 ≤ b.c) : (boxCells b).map (cidx b) = (List.range (boxCells b).length).map natI := by
  have e := xs_idx b b.b.toNat b.c.toNat (Int.toNat_of_nonneg h.1).symm (Int.toNat_of_nonneg h.2).symm b.a.toNat
  have hl : (boxCells b).length = b.a.toNat * (b.b.toNat * b.c.toNat) := xsC_len b _
  rw [hl, List.range_eq_range']
  exact e

theorem cell_idx {b : Bx} (h : 0 ≤ b.b ∧ 0 ≤ b.c) {i : Nat} (hi : i < (boxCells b).length) : cidx b (boxCells b)[i] = (i : Int) := by
  have e := congrArg (fun l => l[i]?) (cells_idx b h)
  simp only [List.getElem?_map, List.getElem?_eq_getElem hi, Option.map_some] at e
  rw [List.getElem?_range hi] at e
  simpa [natI] using e

theorem mem_box {b : Bx} {p : Int × Int × Int} : p ∈ boxCells b ↔ hasP b p = true := by
  obtain ⟨x, y, z⟩ := p
  simp only [boxCells, xsC, ysC, zsC, List.mem_flatMap, List.mem_map, List.mem_range, hasP, hasB, btw, Bool.and_eq_true, decide_eq_true_eq, Prod.mk.injEq]
  constructor
  · rintro ⟨i, hi, j, hj, k, hk, h1, h2, h3⟩; omega
  · rintro ⟨⟨⟨h1, h2⟩, h3, h4⟩, h5, h6⟩
    exact ⟨(x - b.x).toNat, by omega, (y - b.y).toNat, by omega, (z - b.z).toNat, by omega, by omega, by omega, by omega⟩

theorem vol_cells {v : Vol} (h : volOk v = true) : (boxCells v.b).map (atV v) = v.v := by
  obtain ⟨hb, hl, _⟩ := volOk_spec h
  have hs := small_spec (boxOk_spec hb).1
  have hlen : (boxCells v.b).length = v.v.length := by
    have := boxCells_len' v.b (by omega)
    unfold manyI at hl; omega
  refine List.ext_getElem (by simpa using hlen) fun i h1 h2 => ?_
  have hi : i < (boxCells v.b).length := by simpa using h1
  rw [List.getElem_map]
  exact atV_eq (cell_idx (by omega) hi) h2

theorem atV_made {u : Bx} (h : 0 ≤ u.b ∧ 0 ≤ u.c) {f : Int × Int × Int → Int} {p : Int × Int × Int} (hp : p ∈ boxCells u) : atV ⟨u, (boxCells u).map f⟩ p = f p := by
  obtain ⟨i, hi, rfl⟩ := List.mem_iff_getElem.1 hp
  have e : idxOf u (boxCells u)[i].1 (boxCells u)[i].2.1 (boxCells u)[i].2.2 = (i : Int) := cell_idx h hi
  unfold atV
  rw [e, Int.toNat_natCast, List.getD_eq_getElem?_getD, List.getElem?_map, List.getElem?_eq_getElem hi]
  rfl

/-! ### Joins -/
def joined (a b : Vol) : Vol := ⟨aroundB a.b b.b, (boxCells (aroundB a.b b.b)).map (pickV a b)⟩
structure joinOk (a b : Vol) : Prop where
  oka : volOk a = true
  okb : volOk b = true
  many : manyI (aroundB a.b b.b) = manyI a.b + manyI b.b - commonI a.b b.b
  small : smallB (aroundB a.b b.b) = true
  same : (boxCells (aroundB a.b b.b)).any (clash a b) = false

theorem join_cases (nl : V) (a b : Vol) : (joinOk a b ∧ joinR nl a b = .tuple [.agg (volC (joined a b)), I 0]) ∨ (¬ joinOk a b ∧ ∃ e, e ≠ 0 ∧ joinR nl a b = errVol nl e) := by
  unfold joinR
  by_cases h1 : volOk a = true
  · by_cases h2 : volOk b = true
    · by_cases h3 : manyI (aroundB a.b b.b) = manyI a.b + manyI b.b - commonI a.b b.b
      · by_cases h4 : smallB (aroundB a.b b.b) = true
        · by_cases h5 : (boxCells (aroundB a.b b.b)).any (clash a b) = true
          · exact .inr ⟨fun h => (by rw [h.same] at h5; cases h5), 104, by omega, by rw [if_pos h1, if_pos h2, if_pos h3, if_pos h4, if_pos h5]⟩
          · exact .inl ⟨⟨h1, h2, h3, h4, by simpa using h5⟩, by rw [if_pos h1, if_pos h2, if_pos h3, if_pos h4, if_neg h5]; rfl⟩
        · exact .inr ⟨fun h => h4 h.small, 3, by omega, by rw [if_pos h1, if_pos h2, if_pos h3, if_neg h4]⟩
      · exact .inr ⟨fun h => h3 h.many, 103, by omega, by rw [if_pos h1, if_pos h2, if_neg h3]⟩
    · exact .inr ⟨fun h => h2 h.okb, 101, by omega, by rw [if_pos h1, if_neg h2]⟩
  · exact .inr ⟨fun h => h1 h.oka, 101, by omega, by rw [if_neg h1]⟩

theorem around_comm (a b : Bx) : aroundB a b = aroundB b a := by
  unfold aroundB
  congr 1 <;> omega

theorem cut1_comm (p q x y : Int) : cut1 p q x y = cut1 q p y x := by unfold cut1; omega

theorem common_comm (a b : Bx) : commonI a b = commonI b a := by
  unfold commonI
  rw [cut1_comm (a.x + a.a - 1), cut1_comm (a.y + a.b - 1), cut1_comm (a.z + a.c - 1)]

theorem clash_comm (a b : Vol) (p : Int × Int × Int) : clash a b p = clash b a p := by
  unfold clash
  have e : (atV a p != atV b p) = (atV b p != atV a p) := bne_comm
  rw [Bool.and_comm (hasP a.b p), e]

theorem joinOk.comm {a b : Vol} (h : joinOk a b) : joinOk b a := by
  refine ⟨h.okb, h.oka, ?_, by rw [around_comm]; exact h.small, ?_⟩
  · rw [around_comm, common_comm, h.many]; omega
  · rw [around_comm, ← h.same]
    congr 1
    funext p; exact clash_comm b a p

theorem joinOk.cov {a b : Vol} (h : joinOk a b) : ∀ p ∈ boxCells (aroundB a.b b.b), hasP a.b p = true ∨ hasP b.b p = true := by
  have ga := small_spec (boxOk_spec (volOk_spec h.oka).1).1
  have gb := small_spec (boxOk_spec (volOk_spec h.okb).1).1
  exact cover (by omega) (by omega) h.many

theorem pick_a {a b : Vol} {p : Int × Int × Int} (hp : hasP a.b p = true) : pickV a b p = atV a p := by
  unfold pickV; rw [if_pos hp]

theorem joinOk.pick_b {a b : Vol} (h : joinOk a b) {p : Int × Int × Int} (hu : p ∈ boxCells (aroundB a.b b.b)) (hp : hasP b.b p = true) : pickV a b p = atV b p := by
  unfold pickV
  by_cases ha : hasP a.b p = true
  · rw [if_pos ha]
    have h1 := List.any_eq_false.1 h.same p hu
    simp only [clash, ha, hp, Bool.and_self, Bool.true_and] at h1
    simpa using h1
  · rw [if_neg ha]

theorem joined_comm {a b : Vol} (h : joinOk a b) : joined a b = joined b a := by
  unfold joined
  rw [around_comm b.b a.b]
  congr 1
  refine List.map_congr_left fun p hp => ?_
  rcases h.cov p hp with h1 | h1
  · rw [pick_a h1]
    have := h.comm.pick_b (p := p) (by rw [around_comm]; exact hp) h1
    rw [this]
  · rw [h.pick_b hp h1, pick_a h1]

theorem atV_bd {v : Vol} (h : volOk v = true) (p : Int × Int × Int) : -1099511627776 ≤ atV v p ∧ atV v p ≤ 1099511627776 := by
  obtain ⟨_, _, hv⟩ := volOk_spec h
  unfold atV
  rw [List.getD_eq_getElem?_getD]
  by_cases hi : (idxOf v.b p.1 p.2.1 p.2.2).toNat < v.v.length
  · rw [List.getElem?_eq_getElem hi]; exact hv _ (List.getElem_mem hi)
  · rw [List.getElem?_eq_none (by omega)]; simp

theorem volOk_made {u : Bx} {f : Int × Int × Int → Int} (hu : boxOk u = true) (hf : ∀ p ∈ boxCells u, -1099511627776 ≤ f p ∧ f p ≤ 1099511627776) : volOk ⟨u, (boxCells u).map f⟩ = true := by
  have hs := small_spec (boxOk_spec hu).1
  have hl := boxCells_len' u (by omega)
  simp only [volOk, hu, Bool.true_and, Bool.and_eq_true, decide_eq_true_eq, List.all_eq_true, List.length_map, btw]
  refine ⟨hl, fun n hn => ?_⟩
  obtain ⟨p, hp, rfl⟩ := List.mem_map.1 hn
  exact hf p hp

theorem around_ok {a b : Bx} (ha : boxOk a = true) (hb : boxOk b = true) (hs : smallB (aroundB a b) = true) : boxOk (aroundB a b) = true := by
  have g := small_spec hs
  simp only [boxOk, Bool.and_eq_true, cellOk, btw, decide_eq_true_eq] at ha hb ⊢
  refine ⟨⟨hs, ?_⟩, ?_⟩ <;> simp only [aroundB] <;> omega

theorem joined_ok {a b : Vol} (h : joinOk a b) : volOk (joined a b) = true := by
  refine volOk_made (around_ok (volOk_spec h.oka).1 (volOk_spec h.okb).1 h.small) fun p _ => ?_
  unfold pickV
  split
  · exact atV_bd h.oka p
  · exact atV_bd h.okb p

/-! ### Parts -/
def lastP (b : Bx) : Int × Int × Int := (b.x + b.a - 1, b.y + b.b - 1, b.z + b.c - 1)
def cutOk (v : Vol) (b : Bx) : Bool := boxOk b && hasP v.b (b.x, b.y, b.z) && hasP v.b (lastP b)
def part (v : Vol) (b : Bx) : Vol := ⟨b, (boxCells b).map (atV v)⟩
def cutR (nl : V) (v : Vol) (b : Bx) : V := if volOk v then (if cutOk v b then .tuple [.agg (volC (part v b)), I 0] else errVol nl 102) else errVol nl 101

theorem cut_in {v : Vol} {b : Bx} (h : cutOk v b = true) {p : Int × Int × Int} (hp : p ∈ boxCells b) : p ∈ boxCells v.b := by
  rw [mem_box] at hp ⊢
  have h2 : hasB v.b (b.x + b.a - 1) (b.y + b.b - 1) (b.z + b.c - 1) = true := by simp only [cutOk, Bool.and_eq_true] at h; exact h.2
  have h1 : hasB v.b b.x b.y b.z = true := by simp only [cutOk, Bool.and_eq_true] at h; exact h.1.2
  have hp : hasB b p.1 p.2.1 p.2.2 = true := hp
  show hasB v.b p.1 p.2.1 p.2.2 = true
  simp only [hasB, Bool.and_eq_true, btw, decide_eq_true_eq] at h1 h2 hp ⊢
  omega

theorem cut_a {a b : Vol} (h : joinOk a b) : cutOk (joined a b) a.b = true ∧ part (joined a b) a.b = a := by
  have hba := (volOk_spec h.oka).1
  have g := small_spec (boxOk_spec hba).1
  have gu := small_spec h.small
  have hc : cutOk (joined a b) a.b = true := by
    have e1 : hasB (aroundB a.b b.b) a.b.x a.b.y a.b.z = true := by simp only [hasB, Bool.and_eq_true, btw_iff, aroundB]; omega
    have e2 : hasB (aroundB a.b b.b) (a.b.x + a.b.a - 1) (a.b.y + a.b.b - 1) (a.b.z + a.b.c - 1) = true := by simp only [hasB, Bool.and_eq_true, btw_iff, aroundB]; omega
    unfold cutOk
    rw [hba, Bool.true_and, Bool.and_eq_true]
    exact ⟨e1, e2⟩
  refine ⟨hc, ?_⟩
  unfold part
  have e : (boxCells a.b).map (atV (joined a b)) = a.v := by
    rw [← vol_cells h.oka]
    refine List.map_congr_left fun p hp => ?_
    rw [show atV (joined a b) p = pickV a b p from atV_made (u := aroundB a.b b.b) (f := pickV a b) (by omega) (cut_in hc hp), pick_a (mem_box.1 hp)]
  rw [e]

theorem cut_b {a b : Vol} (h : joinOk a b) : cutOk (joined a b) b.b = true ∧ part (joined a b) b.b = b := by
  rw [joined_comm h]; exact cut_a h.comm

end Go.Proofs.Ytkifejklnpddbaa

/-! Contracts: numbers chosen around; samples chosen within bounds; images within images. -/
set_option linter.unusedVariables false
set_option linter.unusedSimpArgs false
set_option maxRecDepth 20000
set_option maxHeartbeats 1000000
namespace Go.Proofs.Ytkifejklnpddbaa
open Go.Am
attribute [local simp] cells scalar mkv splice under2 under dem dem1 eB

def restI (n m : Int) : Int := if m < 1 then 0 else n % m

theorem rest_tmod {n m : Int} (hm : 1 ≤ m) : (n.tmod m < 0 → n.tmod m + m = n % m) ∧ (¬ n.tmod m < 0 → n.tmod m = n % m) := by
  have h1 := Int.emod_nonneg n (show m ≠ 0 by omega)
  have h2 := Int.emod_lt_of_pos n (show 0 < m by omega)
  have h3 := Int.tmod_eq_emod (a := n) (b := m)
  split at h3
  · omega
  · have : (m.natAbs : Int) = m := by omega
    omega

theorem restI_bd {n m : Int} (hm : 1 ≤ m) : 0 ≤ restI n m ∧ restI n m < m := by
  unfold restI
  rw [if_neg (by omega)]
  exact ⟨Int.emod_nonneg n (by omega), Int.emod_lt_of_pos n (by omega)⟩

theorem c_Rest (n m : Int) (hm : m ≤ 9223372036854775807) : C Try.prog F.ref00_Rest [I n, I m] (I (restI n m)) := by
  refine C_of mixed chk.ref00_Rest (by simp) fun S ok => ?_
  refine Tr.seqR rfl (by simp) (Tr.seq (Tr.seqR rfl (by simp) (Tr.cond rfl rfl (fun h1 => Tr.seqR rfl (by simp) (Tr.retX rfl rfl rfl ?_ trivial)) (fun h1 => Tr.skip ?_))))
  · have h1 : m < 1 := by simpa using h1
    simp [packR, restI, h1]
  have h1 : ¬ m < 1 := by simpa using h1
  have hr := restI_bd (n := n) (m := m) (by omega)
  obtain ⟨k1, k2⟩ := rest_tmod (n := n) (m := m) (by omega)
  have e : restI n m = n % m := by unfold restI; rw [if_neg h1]
  refine Tr.seqR rfl (by simp; omega) (Tr.seq (Tr.seqR rfl (by simp) (Tr.cond rfl rfl (fun h2 => Tr.regR rfl (by simp) ?_) (fun h2 => Tr.skip ?_))))
  · have h2 : n.tmod m < 0 := by simpa using h2
    refine Tr.seqR rfl (by simp) (Tr.retX rfl rfl rfl ?_ trivial)
    show I (restI n m) = I (IntKind.i64.wrap (n.tmod m + m))
    rw [e, k1 h2, w64 (by omega) (by omega)]
  · have h2 : ¬ n.tmod m < 0 := by simpa using h2
    refine Tr.seqR rfl (by simp) (Tr.retX rfl rfl rfl ?_ trivial)
    show I (restI n m) = I (n.tmod m)
    rw [e, k2 h2]

def pickI (l : List Int) (i : Int) : Int := l.getD (restI i l.length).toNat 0

theorem c_Pick (l : List Int) (i : Int) (hl : l.length ≤ 9223372036854775807) : C Try.prog F.ref00_Pick [intsV l, I i] (I (pickI l i)) := by
  refine C_of mixed chk.ref00_Pick (by simp) fun S ok => ?_
  refine Tr.seqR rfl (by simp) (Tr.seq (Tr.seqR rfl (by simp [intsV]) (Tr.cond rfl rfl (fun h1 => Tr.seqR rfl (by simp) (Tr.retX rfl rfl rfl ?_ trivial)) (fun h1 => Tr.skip ?_))))
  · have h1 : l = [] := by simpa using h1
    subst h1; rfl
  have h1 : l ≠ [] := by simpa using h1
  have h0 : 0 < l.length := List.length_pos_iff.2 h1
  have hb := restI_bd (n := i) (m := l.length) (by omega)
  obtain ⟨q, hq⟩ : ∃ q : Nat, restI i l.length = (q : Int) := ⟨(restI i l.length).toNat, by omega⟩
  have hql : q < l.length := by omega
  have hc : C Try.prog F.ref00_Rest [I i, I ((l.map I).length : Int)] (I (q : Int)) := by
    rw [List.length_map]; exact hq ▸ c_Rest i l.length (by omega)
  refine Tr.seqC rfl (by simp [intsV]) (Steps.call rfl rfl hc (Steps.runN 1 rfl (by simp [intsV]; omega) ?_))
  rw [getD_map hql]
  refine Steps.fin rfl (by simp) (Tr.retX rfl rfl rfl ?_ trivial)
  simp [packR, pickI, hq, List.getElem?_eq_getElem hql]

/-! ### Samples within their bounds -/
def chN (bits : List Int) (i k : Nat) (b : Int × Int) : Int := b.1 + restI (pickI bits (7 * (i : Int) + (k : Int))) (b.2 - b.1 + 1)
def chS (bits : List Int) (i : Nat) : List (Int × Int) → Nat → List (Int × Int)
  | [], _ => []
  | b :: r, k => (chN bits i k b, chN bits i k b) :: chS bits i r (k + 1)
def chL (bits : List Int) : List Echo → Nat → List Echo
  | [], _ => []
  | e :: r, i => ⟨e.x, e.y, chS bits i e.s 0⟩ :: chL bits r (i + 1)

theorem chS_get (bits : List Int) (i : Nat) : ∀ (s : List (Int × Int)) (k0 k : Nat), (chS bits i s k0)[k]? = (s[k]?).map fun b => (chN bits i (k0 + k) b, chN bits i (k0 + k) b)
  | [], k0, k => by simp [chS]
  | b :: r, k0, k => by
    cases k with
    | zero => simp [chS]
    | succ k =>
      simp only [chS, List.getElem?_cons_succ, chS_get bits i r (k0 + 1) k]
      rw [show k0 + 1 + k = k0 + (k + 1) by omega]

theorem chS_len (bits : List Int) (i : Nat) : ∀ (s : List (Int × Int)) (k : Nat), (chS bits i s k).length = s.length
  | [], k => rfl
  | b :: r, k => by simp [chS, chS_len bits i r (k + 1)]

theorem chL_get (bits : List Int) : ∀ (l : List Echo) (i0 i : Nat), (chL bits l i0)[i]? = (l[i]?).map fun e => ⟨e.x, e.y, chS bits (i0 + i) e.s 0⟩
  | [], i0, i => by simp [chL]
  | e :: r, i0, i => by
    cases i with
    | zero => simp [chL]
    | succ i =>
      simp only [chL, List.getElem?_cons_succ, chL_get bits r (i0 + 1) i]
      rw [show i0 + 1 + i = i0 + (i + 1) by omega]

theorem chL_len (bits : List Int) : ∀ (l : List Echo) (i : Nat), (chL bits l i).length = l.length
  | [], i => rfl
  | e :: r, i => by simp [chL, chL_len bits r (i + 1)]

theorem chN_bd {bits : List Int} {i k : Nat} {b : Int × Int} (h : b.1 ≤ b.2) : b.1 ≤ chN bits i k b ∧ chN bits i k b ≤ b.2 := by
  have := restI_bd (n := pickI bits (7 * (i : Int) + (k : Int))) (m := b.2 - b.1 + 1) (by omega)
  unfold chN; omega

theorem take_succ_of {α : Type} {l : List α} {k : Nat} {x : α} (h : l[k]? = some x) : l.take (k + 1) = l.take k ++ [x] := by
  rw [List.take_add_one, h]; rfl

theorem c_chosen {l : List Echo} (hE : echoesOk l = true) (bits : List Int) (hb : bits.length ≤ 9223372036854775807) : C Try.prog F.law10_chosen [sE l, intsV bits] (sE (chL bits l 0)) := by
  obtain ⟨hl, hall⟩ := echoesOk_spec hE
  refine C_of mixed chk.law10_chosen (by simp) fun S ok => ?_
  refine Tr.seqR rfl (by simp) (Tr.seqR rfl (by simp) (Tr.seq (Tr.seqR rfl (by simp) (Tr.block ?_))))
  refine Tr.loop (fun i st => i ≤ l.length ∧ st = { env := [(0, sE l), (1, intsV bits), (5, .slice 74 3 (((chL bits l 0).take i).map eE)), (6, I i)], bx := [], rw := [(73, i, 3, 79)], log := [], stp := false }) (fun i => l.length - i) 0
    (Wk.le (.cons rfl (.refl _) (.cons rfl (.refl _) (.cons rfl (.nil 74 3) (.cons rfl (.refl _) .nil)))) .nil (.new rfl .nil) rfl rfl) ⟨by omega, rfl⟩ ?_
  rintro i st ⟨hi, rfl⟩
  refine Tr.seq (Tr.seqR rfl (by simp [sE]) (Tr.cond rfl rfl (fun h1 => Tr.skip ?_) (fun h1 => Tr.exit ?_)))
  rotate_left
  · have h1 : i = l.length := by simp at h1; omega
    subst h1
    refine Tr.seqR rfl (by simp) (Tr.retX rfl rfl rfl ?_ trivial)
    rw [List.take_of_length_le (by rw [chL_len]; omega)]
    simp [packR, sE]
  have h1 : i < l.length := by simpa using h1
  obtain ⟨hxy, hsl, hsb⟩ := echoOk_spec (hall _ (List.getElem_mem h1))
  refine Tr.seq (Tr.block (Tr.seq (Tr.drawK (TraceK.runN 3 rfl (by simp [sE]; omega) ?_))))
  rw [getD_map h1]
  refine TraceK.runN 5 rfl (by simp [sE, eE]; omega) ?_
  rw [getD_map h1]
  refine TraceK.run rfl (by simp [eE, sB]) (.done ⟨by kernel_rfl, by kernel_rfl, ?_⟩)
  refine Tr.seq (Tr.seqR rfl (by simp) (Tr.block ?_))
  refine Tr.loop (fun k st => k ≤ l[i].s.length ∧ st = { env := [(0, sE l), (1, intsV bits), (5, .slice 74 3 (((chL bits l 0).take i).map eE)), (6, I i), (7, .ptr 7 0), (8, I k)], bx := [(7, ⟨[I l[i].x, I l[i].y, .slice 69 2 (((chS bits i l[i].s 0).take k).map eB)], false⟩)], rw := [(73, i, 3, 79), (68, k, 2, 33)], log := [], stp := false }) (fun k => l[i].s.length - k) 0
    (Wk.le (.cons rfl (.refl _) (.cons rfl (.refl _) (.cons rfl (.refl _) (.cons rfl (.refl _) (.cons rfl (.refl _) (.cons rfl (.refl _) .nil)))))) (.cons rfl (.cons (.refl _) (.cons (.refl _) (.cons (.nil 69 2) .nil))) .nil) (.cons rfl (.new rfl .nil)) rfl rfl) ⟨by omega, rfl⟩ ?_
  rintro k st ⟨hk, rfl⟩
  refine Tr.seq (Tr.seqN 4 rfl (by simp [sE]; omega) ?_)
  rw [getD_map h1]
  refine Steps.fin rfl (by simp [eE, sB]) (Tr.cond rfl rfl (fun h2 => Tr.skip ?_) (fun h2 => Tr.exit ?_))
  · have h2 : k < l[i].s.length := by simpa using h2
    obtain ⟨⟨b1, b2⟩, hbk⟩ : ∃ b, l[i].s[k] = b := ⟨_, rfl⟩
    have hb3 := hsb _ (List.getElem_mem h2)
    rw [hbk] at hb3
    simp only at hb3
    have hcn := chN_bd (bits := bits) (i := i) (k := k) (b := (b1, b2)) hb3.2.1
    simp only at hcn
    refine Tr.seq (Tr.block (Tr.seqN 3 rfl (by simp [sE]; omega) ?_))
    rw [getD_map h1]
    refine Steps.runN 4 rfl (by simp [eE, sB]; omega) ?_
    rw [getD_map h2, hbk]
    refine Steps.fin rfl (by simp [eB]) ?_
    have w7 : IntKind.i64.wrap (7 * (i : Int)) = 7 * (i : Int) := w64 (by omega) (by omega)
    have w7k : IntKind.i64.wrap (7 * (i : Int) + (k : Int)) = 7 * (i : Int) + (k : Int) := w64 (by omega) (by omega)
    have wd : IntKind.i64.wrap (b2 - b1) = b2 - b1 := w64 (by omega) (by omega)
    have wd1 : IntKind.i64.wrap (b2 - b1 + 1) = b2 - b1 + 1 := w64 (by omega) (by omega)
    have wn : IntKind.i64.wrap (b1 + restI (pickI bits (7 * (i : Int) + (k : Int))) (b2 - b1 + 1)) = chN bits i k (b1, b2) := w64 (by unfold chN at hcn; simp only at hcn; omega) (by unfold chN at hcn; simp only at hcn; omega)
    refine Tr.seq (Tr.drawK (TraceK.run rfl (by simp) ?_))
    rw [w7, w7k]
    refine TraceK.call rfl rfl (c_Pick bits _ hb) (TraceK.run rfl (by simp) ?_)
    rw [wd, wd1]
    refine TraceK.call rfl rfl (c_Rest _ _ (by omega)) (TraceK.run rfl (by simp) (.done ⟨by kernel_rfl, by kernel_rfl, ?_⟩))
    have hget : (chS bits i l[i].s 0)[k]? = some (chN bits i k (b1, b2), chN bits i k (b1, b2)) := by
      rw [chS_get, List.getElem?_eq_getElem h2, hbk]; simp
    have hlen : ((chS bits i l[i].s 0).take k).length = k := by rw [List.length_take, chS_len]; omega
    refine Tr.regR rfl (by simp [chS_len, chL_len] <;> omega) (Tr.regR rfl (by simp) ?_)
    refine ⟨k + 1, _, Wk.le (.cons rfl (.refl _) (.cons rfl (.refl _) (.cons rfl (.refl _) (.cons rfl (.refl _) (.cons rfl (.refl _) (.cons rfl (VLe.i (w64 (by omega) (by omega))) .nil)))))) (.cons rfl (.cons (.refl _) (.cons (.refl _) (.cons (.of_eq ?_) .nil))) .nil) (.cons rfl (.cons ?_ .nil)) rfl rfl, ⟨h2, rfl⟩, by omega⟩
    · rw [take_succ_of hget, wn]; simp [eB]
    · show some _ = some _
      simp [chS_len, chL_len]; omega
  · have h2 : k = l[i].s.length := by simp at h2; omega
    subst h2
    have hget : (chL bits l 0)[i]? = some ⟨l[i].x, l[i].y, chS bits i l[i].s 0⟩ := by
      rw [chL_get, List.getElem?_eq_getElem h1]; simp
    have hlen : ((chL bits l 0).take i).length = i := by rw [List.length_take, chL_len]; omega
    refine Tr.regR rfl (by simp [chS_len, chL_len] <;> omega) (Tr.regR rfl (by simp) ?_)
    refine ⟨i + 1, _, Wk.le (.cons rfl (.refl _) (.cons rfl (.refl _) (.cons rfl (.of_eq ?_) (.cons rfl (VLe.i (w64 (by omega) (by omega))) .nil)))) .nil (.cons ?_ .nil) rfl rfl, ⟨h1, rfl⟩, by omega⟩
    · have hfull : (chS bits i l[i].s 0).take l[i].s.length = chS bits i l[i].s 0 := List.take_of_length_le (by rw [chS_len]; omega)
      rw [take_succ_of hget, hfull]
      simp [eE, sB]
    · show some _ = some _
      simp [chS_len, chL_len]; omega

theorem c_inside (a : Bx) (l l' : List (Int × Int)) (hl : l.length ≤ 4096) (hll : l.length = l'.length) (hi : ∀ i (h : i < l.length) (h' : i < l'.length), ins l[i] l'[i]) :
    C Try.prog F.law10_inside [.agg [I a.x, I a.y, I a.z, I a.a, I a.b, I a.c, .slice 0 2 (l.map eB)], .agg [I a.x, I a.y, I a.z, I a.a, I a.b, I a.c, .slice 0 2 (l'.map eB)]] (.bool true) := by
  refine C_of mixed chk.law10_inside (by simp) fun S ok => ?_
  refine Tr.seqR rfl (by simp) (Tr.seq (Tr.seqR rfl (by simp) ?_))
  have hc : ∀ c : Bool, (bif (bif (!(a.x == a.x && (a.y == a.y && (a.z == a.z && true)))) then true else !(a.a == a.a && (a.b == a.b && (a.c == a.c && true)))) then true else ((l.map eB).length : Int) != ((l'.map eB).length : Int)) = c → c = false := by
    rintro c rfl
    simp [hll]
  refine Tr.cond rfl rfl (fun h1 => ?_) (fun h1 => Tr.skip ?_)
  · have := hc true h1; cases this
  refine Tr.seq (Tr.seqR rfl (by simp) (Tr.block ?_))
  refine Tr.loop (fun k st => k ≤ l.length ∧ st = { env := [(2, .ptr 2 0), (3, .ptr 3 0), (5, I k)], bx := [(2, ⟨[I a.x, I a.y, I a.z, I a.a, I a.b, I a.c, .slice 0 2 (l.map eB)], false⟩), (3, ⟨[I a.x, I a.y, I a.z, I a.a, I a.b, I a.c, .slice 0 2 (l'.map eB)], false⟩)], rw := [], log := [], stp := false }) (fun k => l.length - k) 0
    (Wk.le (.cons rfl (.refl _) (.cons rfl (.refl _) (.cons rfl (.refl _) .nil))) (.cons rfl (LLe.refl _) (.cons rfl (LLe.refl _) .nil)) .nil rfl rfl) ⟨by omega, rfl⟩ ?_
  rintro k st ⟨hk, rfl⟩
  refine Tr.seq (Tr.seqR rfl (by simp) (Tr.cond rfl rfl (fun h3 => Tr.skip ?_) (fun h3 => Tr.exit (Tr.seqR rfl (by simp) (Tr.retX rfl rfl rfl rfl trivial)))))
  have h3 : k < l.length := by simpa using h3
  have h4 : k < l'.length := by omega
  have hik := hi k h3 h4
  refine Tr.seq (Tr.block (Tr.seq (Tr.drawK (TraceK.runN 4 rfl (by simp; omega) ?_))))
  rw [getD_map h3]
  refine TraceK.runN 6 rfl (by simp [eB]; omega) ?_
  rw [getD_map h4]
  refine TraceK.runN 8 rfl (by simp [eB] <;> (intros; omega)) ?_
  rw [getD_map h3]
  refine TraceK.runN 6 rfl (by simp [eB] <;> (intros; omega)) ?_
  rw [getD_map h4]
  refine TraceK.run rfl (by simp [eB]) (.done ⟨by kernel_rfl, by kernel_rfl, ?_⟩)
  refine Tr.cond rfl rfl (fun h5 => ?_) (fun h5 => Tr.skip (Tr.regR rfl (by simp) ?_))
  · have h5 : (bif decide (l[k].1 < l'[k].1) then true else decide (l[k].2 > l'[k].2)) = true := h5
    unfold ins at hik
    have e1 : decide (l[k].1 < l'[k].1) = false := by simp; omega
    have e2 : decide (l[k].2 > l'[k].2) = false := by simp; omega
    rw [e1, e2] at h5
    cases h5
  · exact ⟨k + 1, _, Wk.le (.cons rfl (.refl _) (.cons rfl (.refl _) (.cons rfl (VLe.i (w64 (by omega) (by omega))) .nil))) (.cons rfl (LLe.refl _) (.cons rfl (LLe.refl _) .nil)) .nil rfl rfl, ⟨h3, rfl⟩, by omega⟩

end Go.Proofs.Ytkifejklnpddbaa

/-! The law VolumeTruth. -/
set_option linter.unusedVariables false
set_option linter.unusedSimpArgs false
set_option maxRecDepth 20000
set_option maxHeartbeats 1000000
namespace Go.Proofs.Ytkifejklnpddbaa
open Go.Am
attribute [local simp] cells scalar mkv splice under2 under dem dem1 boxC cellC

theorem boxR_cases (nl : V) (l : List Echo) (b : Bx) (aper : Int) (slow : Int × Int) (of : Int × Int × Int → Int × Int) :
    ((echoesOk l = true ∧ earOk aper slow = true ∧ boxOk b = true) ∧ boxR nl l b aper slow of = .tuple [.agg [I b.x, I b.y, I b.z, I b.a, I b.b, I b.c, .slice 0 2 (((boxCells b).map of).map eB)], I 0]) ∨
      ((¬ (echoesOk l = true ∧ earOk aper slow = true ∧ boxOk b = true)) ∧ ∃ e : Int, (e = 100 ∨ e = 102) ∧ boxR nl l b aper slow of = errImg nl e) := by
  unfold boxR
  by_cases h1 : echoesOk l = true
  · by_cases h2 : earOk aper slow = true
    · unfold imageR
      by_cases h3 : boxOk b = true
      · exact .inl ⟨⟨h1, h2, h3⟩, by rw [if_pos h1, if_pos h2, if_pos h3, List.map_map]; rfl⟩
      · exact .inr ⟨fun h => h3 h.2.2, 102, .inr rfl, by rw [if_pos h1, if_pos h2, if_neg h3]⟩
    · exact .inr ⟨fun h => h2 h.2.1, 102, .inr rfl, by rw [if_pos h1, if_neg h2]⟩
  · exact .inr ⟨fun h => h1 h.1, 100, .inl rfl, by rw [if_neg h1]⟩

def gridP (p : Int × Int × Int) : Prop := (-64 ≤ p.1 ∧ p.1 ≤ 64) ∧ (-64 ≤ p.2.1 ∧ p.2.1 ≤ 64) ∧ 0 ≤ p.2.2 ∧ p.2.2 ≤ 64

theorem cells_grid {b : Bx} (hb : boxOk b = true) {p : Int × Int × Int} (hp : p ∈ boxCells b) : gridP p := by
  have h := mem_box.1 hp
  have h : hasB b p.1 p.2.1 p.2.2 = true := h
  simp only [boxOk, Bool.and_eq_true, cellOk] at hb
  simp only [hasB, Bool.and_eq_true] at h
  simp only [btw_iff] at hb h
  unfold gridP
  omega

theorem nears_ch (bits : List Int) (aper x y : Int) : ∀ (l : List Echo) (i k : Nat), nears aper x y (chL bits l i) k = nears aper x y l k
  | [], i, k => rfl
  | e :: r, i, k => by
    simp only [chL, nears, nears_ch bits aper x y r (i + 1) (k + 1)]
    rfl

theorem bdd_getD {s : List (Int × Int)} (hs : ∀ b ∈ s, -16777216 ≤ b.1 ∧ b.1 ≤ b.2 ∧ b.2 ≤ 16777216) (t : Nat) : bdd 16777216 (s.getD t (0, 0)) ∧ (s.getD t (0, 0)).1 ≤ (s.getD t (0, 0)).2 := by
  rw [List.getD_eq_getElem?_getD]
  by_cases h : t < s.length
  · rw [List.getElem?_eq_getElem h, Option.getD_some]
    have := hs _ (List.getElem_mem h)
    unfold bdd; omega
  · rw [List.getElem?_eq_none (by omega), Option.getD_none]
    unfold bdd; simp

theorem ch_smp {bits : List Int} {i : Nat} {s : List (Int × Int)} (hs : ∀ b ∈ s, -16777216 ≤ b.1 ∧ b.1 ≤ b.2 ∧ b.2 ≤ 16777216) (t : Nat) :
    bdd 16777216 ((chS bits i s 0).getD t (0, 0)) ∧ ins ((chS bits i s 0).getD t (0, 0)) (s.getD t (0, 0)) ∧ ((chS bits i s 0).getD t (0, 0)).1 = ((chS bits i s 0).getD t (0, 0)).2 := by
  rw [List.getD_eq_getElem?_getD, List.getD_eq_getElem?_getD, chS_get]
  by_cases h : t < s.length
  · rw [List.getElem?_eq_getElem h]
    have h1 := hs _ (List.getElem_mem h)
    have h2 := chN_bd (bits := bits) (i := i) (k := 0 + t) (b := s[t]) h1.2.1
    simp only [Option.map_some, Option.getD_some]
    refine ⟨?_, ?_, trivial⟩
    · unfold bdd; simp only; omega
    · unfold ins; simp only; omega
  · rw [List.getElem?_eq_none (by omega)]
    simp only [Option.map_none, Option.getD_none]
    refine ⟨?_, ins_refl _, trivial⟩
    unfold bdd; simp

section
variable {l : List Echo} (hE : echoesOk l = true)
include hE

theorem near_spec {aper x y : Int} {p : Int × Int} (hp : p ∈ nears aper x y l 0) (hx : -64 ≤ x ∧ x ≤ 64) (hy : -64 ≤ y ∧ y ≤ 64) : ∃ i : Nat, ∃ h : i < l.length, p.1 = (i : Int) ∧ (0 ≤ p.2 ∧ p.2 ≤ 100000) ∧ ∀ b ∈ l[i].s, -16777216 ≤ b.1 ∧ b.1 ≤ b.2 ∧ b.2 ≤ 16777216 := by
  obtain ⟨i, h, h1, h2, _⟩ := nears_dst hp
  obtain ⟨e1, _, e3⟩ := echoOk_spec ((echoesOk_spec hE).2 _ (List.getElem_mem h))
  have := dst_bd hx hy e1
  exact ⟨i, h, by simpa using h1, by rw [h2]; omega, e3⟩

theorem val_enc {aper q : Int} {slow : Int × Int} {p : Int × Int × Int} (hp : gridP p) (hq : slow.1 ≤ q ∧ q ≤ slow.2) (hs : 0 ≤ slow.1 ∧ slow.2 ≤ 4096) : ins (valOf l aper q p) (encOf l aper slow p) := by
  obtain ⟨x, y, z⟩ := p
  obtain ⟨hx, hy, hz⟩ := hp
  simp only at hx hy hz
  unfold valOf encOf encB
  rw [value_sum]
  have hl := (echoesOk_spec hE).1
  have hnl := nears_len (aper := aper) (x := x) (y := y) (l := l) (k := 0)
  refine fold_ins (valC ⟨l, aper, (q, q)⟩ z) (reachOf ⟨l, aper, slow⟩ z) _ 0 _ _ (Int.le_refl _) (by simp only; omega) (fun p hp => ?_) (by unfold bdd; simp) (by unfold bdd; simp) (ins_refl _)
  obtain ⟨i, h, h1, h2, h3⟩ := near_spec hE hp hx hy
  have es : ∀ (a : Int) (s : Int × Int), sAt ⟨l, a, s⟩ p.1 = l[i].s := fun a s => by simp [sAt, h1, List.getElem?_eq_getElem h]
  unfold valC reachOf
  rw [es, es]
  show bdd 16777216 (smp l[i].s z p.2 q) ∧ bdd 16777216 (reachB l[i].s z p.2 slow) ∧ ins (smp l[i].s z p.2 q) (reachB l[i].s z p.2 slow)
  refine ⟨(bdd_getD h3 _).1, ?_, smp_reach _ _ _ _ _ (timeN_mono hz h2 hs.1 hq.1 (by omega)) (timeN_mono hz h2 (by omega) hq.2 hs.2)⟩
  unfold reachB
  refine reachG_bdd _ _ _ _ _ (fun b hb => ?_) (by unfold bdd; simp)
  have := h3 b (List.mem_of_mem_drop hb)
  unfold bdd; omega

theorem known_val {bits : List Int} {aper q : Int} {p : Int × Int × Int} (hp : gridP p) : ins (valOf (chL bits l 0) aper q p) (valOf l aper q p) ∧ (valOf (chL bits l 0) aper q p).1 = (valOf (chL bits l 0) aper q p).2 := by
  obtain ⟨x, y, z⟩ := p
  obtain ⟨hx, hy, hz⟩ := hp
  simp only at hx hy hz
  unfold valOf
  rw [value_sum, value_sum]
  simp only [nears_ch]
  have hl := (echoesOk_spec hE).1
  have hnl := nears_len (aper := aper) (x := x) (y := y) (l := l) (k := 0)
  have key : ∀ p ∈ nears aper x y l 0, bdd 16777216 (valC ⟨chL bits l 0, aper, (q, q)⟩ z p) ∧ bdd 16777216 (valC ⟨l, aper, (q, q)⟩ z p) ∧ ins (valC ⟨chL bits l 0, aper, (q, q)⟩ z p) (valC ⟨l, aper, (q, q)⟩ z p) ∧ (valC ⟨chL bits l 0, aper, (q, q)⟩ z p).1 = (valC ⟨chL bits l 0, aper, (q, q)⟩ z p).2 := fun p hp => by
    obtain ⟨i, h, h1, h2, h3⟩ := near_spec hE hp hx hy
    have es : sAt ⟨l, aper, (q, q)⟩ p.1 = l[i].s := by simp [sAt, h1, List.getElem?_eq_getElem h]
    have es2 : sAt ⟨chL bits l 0, aper, (q, q)⟩ p.1 = chS bits i l[i].s 0 := by simp [sAt, h1, chL_get, List.getElem?_eq_getElem h]
    unfold valC smp
    rw [es, es2]
    obtain ⟨g1, g2, g3⟩ := ch_smp (bits := bits) (i := i) h3 (timeN z p.2 q).toNat
    exact ⟨g1, (bdd_getD h3 _).1, g2, g3⟩
  refine ⟨fold_ins _ _ _ 0 _ _ (Int.le_refl _) (by omega) (fun p hp => ⟨(key p hp).1, (key p hp).2.1, (key p hp).2.2.1⟩) (by unfold bdd; simp) (by unfold bdd; simp) (ins_refl _), fold_diag _ _ _ (fun p hp => (key p hp).2.2.2) rfl⟩

theorem ch_ok (bits : List Int) : echoesOk (chL bits l 0) = true := by
  obtain ⟨h1, h2⟩ := echoesOk_spec hE
  simp only [echoesOk, Bool.and_eq_true, decide_eq_true_eq, List.all_eq_true]
  refine ⟨by rw [chL_len]; exact h1, fun e he => ?_⟩
  obtain ⟨i, hi, rfl⟩ := List.mem_iff_getElem.1 he
  have hil : i < l.length := by rw [chL_len] at hi; exact hi
  have e1 : (chL bits l 0)[i] = ⟨l[i].x, l[i].y, chS bits i l[i].s 0⟩ := by
    have := chL_get bits l 0 i
    rw [List.getElem?_eq_getElem hi, List.getElem?_eq_getElem hil] at this
    simpa using this
  have g := h2 _ (List.getElem_mem hil)
  obtain ⟨_, _, hs⟩ := echoOk_spec g
  rw [e1]
  simp only [echoOk, Bool.and_eq_true, chS_len] at g ⊢
  refine ⟨g.1, ?_⟩
  rw [List.all_eq_true]
  intro b hb
  obtain ⟨t, ht, rfl⟩ := List.mem_iff_getElem.1 hb
  obtain ⟨g1, g2, g3⟩ := ch_smp (bits := bits) (i := i) hs t
  rw [List.getD_eq_getElem?_getD, List.getElem?_eq_getElem ht, Option.getD_some] at g1 g3
  unfold bdd at g1
  simp only [loud, Bool.and_eq_true, decide_eq_true_eq]
  omega

end

theorem c_VolumeTruth {l : List Echo} (hl : sane l) (b : Bx) (aper : Int) (slow : Int × Int) {bits : List Int} (hb : bits.length ≤ 9223372036854775807) (n : Int) :
    C Try.prog F.law10_VolumeTruth [sE l, .agg [I b.x, I b.y, I b.z, I b.a, I b.b, I b.c, I aper, I slow.1, I slow.2], .agg [intsV bits, I n]] (.bool true) := by
  refine C_of mixed chk.law10_VolumeTruth (by simp) fun S ok => ?_
  have k1 := c_Enclose hl b aper slow
  unfold encS at k1
  refine Tr.seqR rfl (by simp [intsV]) ?_
  rcases boxR_cases (.slice 0 2 []) l b aper slow (encOf l aper slow) with ⟨⟨hE, hA, hB⟩, hr⟩ | ⟨_, e, he, hr⟩
  rotate_left
  · rw [hr] at k1
    refine Tr.seqC rfl (by simp) (Steps.call rfl rfl k1 (Steps.fin rfl (by simp) ?_))
    refine Tr.seq (Tr.seqR rfl (by simp) (Tr.cond rfl rfl (fun _ => ?_) (fun h1 => ?_)))
    · refine Tr.seqC rfl (by simp) (Steps.gcall rfl rfl rfl rfl (by simp) (fun _ => c_works) (Steps.fin rfl (by simp) (Tr.retX rfl rfl rfl ?_ trivial)))
      simp [packR]
    · have h1 : (e != 0) = false := h1
      rcases he with rfl | rfl <;> cases h1
  rw [hr] at k1
  have hA' : (0 ≤ aper ∧ aper ≤ 128) ∧ 0 ≤ slow.1 ∧ slow.1 ≤ slow.2 ∧ slow.2 ≤ 4096 := by
    simp only [earOk, Bool.and_eq_true, btw_iff, decide_eq_true_eq] at hA
    omega
  have hsm := (boxOk_spec hB).1
  have hbl := boxCells_len hsm
  have hq0 := restI_bd (n := n) (m := slow.2 - slow.1 + 1) (by omega)
  obtain ⟨q, hq⟩ : ∃ q, slow.1 + restI n (slow.2 - slow.1 + 1) = q := ⟨_, rfl⟩
  have hqb : slow.1 ≤ q ∧ q ≤ slow.2 := by omega
  have wd : IntKind.i64.wrap (slow.2 - slow.1) = slow.2 - slow.1 := w64 (by omega) (by omega)
  have wd1 : IntKind.i64.wrap (slow.2 - slow.1 + 1) = slow.2 - slow.1 + 1 := w64 (by omega) (by omega)
  have wq : IntKind.i64.wrap (slow.1 + restI n (slow.2 - slow.1 + 1)) = q := by rw [hq]; exact w64 (by omega) (by omega)
  have hAq : earOk aper (q, q) = true := by
    rw [earOk_one, Bool.and_eq_true]
    simp only [btw_iff]; omega
  have hcE := ch_ok hE bits
  have hcs : sane (chL bits l 0) := by
    refine ⟨by rw [chL_len]; exact hl.1, fun e he => ?_⟩
    have := (echoOk_spec ((echoesOk_spec hcE).2 e he)).2.1
    omega
  have k2 := c_Migrate hcs b aper q
  have k3 := c_Migrate hl b aper q
  unfold valS at k2 k3
  rcases boxR_cases (.slice 0 2 []) (chL bits l 0) b aper (q, q) (valOf (chL bits l 0) aper q) with ⟨_, hr2⟩ | ⟨h, _⟩
  rotate_left
  · exact absurd ⟨hcE, hAq, hB⟩ h
  rcases boxR_cases (.slice 0 2 []) l b aper (q, q) (valOf l aper q) with ⟨_, hr3⟩ | ⟨h, _⟩
  rotate_left
  · exact absurd ⟨hE, hAq, hB⟩ h
  rw [hr2] at k2
  rw [hr3] at k3
  refine Tr.seqC rfl (by simp) (Steps.call rfl rfl k1 (Steps.fin rfl (by simp) ?_))
  refine Tr.seq (Tr.seqR rfl (by simp) (Tr.condF rfl (Tr.skip ?_)))
  refine Tr.seq (Tr.drawK (TraceK.run rfl (by simp) ?_))
  rw [wd, wd1]
  refine TraceK.call rfl rfl (c_Rest n (slow.2 - slow.1 + 1) (by omega)) (TraceK.run rfl (by simp) (.done ⟨by kernel_rfl, by kernel_rfl, ?_⟩))
  refine Tr.seqC rfl (by simp) (Steps.call rfl rfl (c_chosen hE bits hb) (Steps.fin rfl (by simp) ?_))
  refine Tr.seqC rfl (by simp [sE]) ?_
  rw [wq]
  refine Steps.call rfl rfl k2 (Steps.fin rfl (by simp) ?_)
  refine Tr.seqC rfl (by simp) ?_
  refine Steps.call rfl rfl k3 (Steps.fin rfl (by simp) ?_)
  have get : ∀ (f g : Int × Int × Int → Int × Int), (∀ p ∈ boxCells b, ins (f p) (g p)) → ∀ i (h : i < ((boxCells b).map f).length) (h' : i < ((boxCells b).map g).length), ins ((boxCells b).map f)[i] ((boxCells b).map g)[i] := fun f g hfg i h h' => by
    rw [List.getElem_map, List.getElem_map]
    exact hfg _ (List.getElem_mem _)
  have i1 := c_inside b ((boxCells b).map (valOf (chL bits l 0) aper q)) ((boxCells b).map (encOf l aper slow)) (by rw [List.length_map]; omega) (by simp) (get _ _ fun p hp => ins_trans (known_val hE (cells_grid hB hp)).1 (val_enc hE (cells_grid hB hp) hqb (by omega)))
  have i2 := c_inside b ((boxCells b).map (valOf (chL bits l 0) aper q)) ((boxCells b).map (valOf l aper q)) (by rw [List.length_map]; omega) (by simp) (get _ _ fun p hp => (known_val hE (cells_grid hB hp)).1)
  have i3 := c_inside b ((boxCells b).map (valOf l aper q)) ((boxCells b).map (encOf l aper slow)) (by rw [List.length_map]; omega) (by simp) (get _ _ fun p hp => val_enc hE (cells_grid hB hp) hqb (by omega))
  refine Tr.seq (Tr.seq (Tr.reg (Steps.runG rfl (by simp) ?_)))
  refine Steps.on rfl rfl (Steps.call rfl rfl i1 (Steps.runG rfl (by simp) ?_))
  refine Steps.on rfl rfl (Steps.call rfl rfl i2 (Steps.runG rfl (by simp) ?_))
  refine Steps.on rfl rfl (Steps.call rfl rfl i3 (Steps.runG rfl (by simp) ?_))
  refine Tr.condF (by simp; rfl) (Tr.skip ?_)
  obtain ⟨R, hR⟩ : ∃ R, (boxCells b).map (valOf (chL bits l 0) aper q) = R := ⟨_, rfl⟩
  have hRl : R.length ≤ 4096 := by rw [← hR, List.length_map]; exact hbl
  have hRd : ∀ i (h : i < R.length), R[i].1 = R[i].2 := fun i h => by
    subst hR
    rw [List.getElem_map]
    exact (known_val hE (cells_grid hB (List.getElem_mem _))).2
  rw [hR]
  refine Tr.seq (Tr.seqR rfl (by simp) (Tr.block ?_))
  refine Tr.loop (fun k st => k ≤ R.length ∧ st = { env := [(11, .ptr 11 0), (14, I k)], bx := [(11, ⟨[I b.x, I b.y, I b.z, I b.a, I b.b, I b.c, .slice 0 2 (R.map eB)], false⟩)], rw := [], log := [], stp := false }) (fun k => R.length - k) 0
    (Wk.le (.cons rfl (.refl _) (.cons rfl (.refl _) .nil)) (.cons rfl (LLe.refl _) .nil) .nil rfl rfl) ⟨by omega, rfl⟩ ?_
  rintro k st ⟨hk, rfl⟩
  refine Tr.seq (Tr.seqR rfl (by simp) (Tr.cond rfl rfl (fun h3 => Tr.skip ?_) (fun h3 => Tr.exit ?_)))
  · have h3 : k < R.length := by simpa using h3
    have hd := hRd k h3
    refine Tr.seq (Tr.block (Tr.seq (Tr.drawK (TraceK.runN 4 rfl (by simp; omega) ?_))))
    rw [getD_map h3]
    refine TraceK.runN 6 rfl (by simp [eB]; omega) ?_
    rw [getD_map h3]
    refine TraceK.run rfl (by simp [eB]) (.done ⟨by kernel_rfl, by kernel_rfl, ?_⟩)
    refine Tr.cond rfl rfl (fun h5 => ?_) (fun h5 => Tr.skip (Tr.regR rfl (by simp) ?_))
    · have h5 : (R[k].1 != R[k].2) = true := h5
      rw [hd] at h5
      simp at h5
    · exact ⟨k + 1, _, Wk.le (.cons rfl (.refl _) (.cons rfl (VLe.i (w64 (by omega) (by omega))) .nil)) (.cons rfl (LLe.refl _) .nil) .nil rfl rfl, ⟨h3, rfl⟩, by omega⟩
  · refine Tr.seqC rfl (by simp) (Steps.call rfl rfl c_works (Steps.fin rfl (by simp) (Tr.retX rfl rfl rfl rfl trivial)))

end Go.Proofs.Ytkifejklnpddbaa
