/-
  Parts of the proof, 1: the abstract machine, the compiled code, contracts of the functions, plain laws.
-/
import Derived.Test.YtkifejklnpddbaaZ5


/-! The code of further functions, compiled. -/
set_option maxRecDepth 100000
namespace Go.Proofs.Ytkifejklnpddbaa
open Go.Am
/-- paravane/paravanelaw10.VolumeNames -/
abbrev F.law10_VolumeNames : Nat := 4
def ir.law10_VolumeNames : IC :=
 (.seq (.reg [⟨(some 4), .box, [.t 1], none⟩,
     ⟨(some 5), .box, [.t 2], none⟩,
     ⟨(some 6), .mov, [.c (.bool false)], none⟩])
   (.seq (.reg [⟨(some 12), .mov, [.t 0], none⟩,
     ⟨(some 13), .load 3 true, [.t 4], none⟩,
     ⟨(some 14), .iaddrA 2 1, [.t 5, .c (.int .i64 0)], none⟩,
     ⟨(some 15), .load 1 false, [.t 14], none⟩,
     ⟨(some 16), .iaddrA 2 1, [.t 5, .c (.int .i64 1)], none⟩,
     ⟨(some 17), .load 1 false, [.t 16], none⟩,
     ⟨(some 18), .call 31, [.t 12, .t 13, .t 15, .t 17], none⟩,
     ⟨(some 11), .mov, [.t 18], none⟩,
     ⟨(some 19), .extract 0, [.t 11], none⟩,
     ⟨(some 20), .extract 1, [.t 11], none⟩,
     ⟨(some 7), .alloc [(.int .i64 0), (.int .i64 0), (.int .i64 0), .nils, (.int .i64 0), (.int .i64 0)], [], none⟩,
     ⟨none, .store 6, [.t 7, .t 19], none⟩,
     ⟨(some 8), .mov, [.t 20], none⟩])
   (.seq (.reg [⟨(some 22), .mov, [.t 0], none⟩,
     ⟨(some 23), .load 3 true, [.t 4], none⟩,
     ⟨(some 24), .iaddrA 2 1, [.t 5, .c (.int .i64 0)], none⟩,
     ⟨(some 25), .load 1 false, [.t 24], none⟩,
     ⟨(some 26), .iaddrA 2 1, [.t 5, .c (.int .i64 1)], none⟩,
     ⟨(some 27), .load 1 false, [.t 26], none⟩,
     ⟨(some 28), .call 32, [.t 22, .t 23, .t 25, .t 27], none⟩,
     ⟨(some 21), .mov, [.t 28], none⟩,
     ⟨(some 29), .extract 0, [.t 21], none⟩,
     ⟨(some 30), .extract 1, [.t 21], none⟩,
     ⟨(some 9), .alloc [(.int .i64 0), (.int .i64 0), (.int .i64 0), .nils, (.int .i64 0), (.int .i64 0)], [], none⟩,
     ⟨none, .store 6, [.t 9, .t 29], none⟩,
     ⟨(some 10), .mov, [.t 30], none⟩])
   (.seq (.reg [⟨(some 31), .load 6 true, [.t 7], none⟩,
     ⟨(some 32), .load 6 true, [.t 9], none⟩,
     ⟨(some 33), .call 33, [.t 31, .t 32], none⟩,
     ⟨(some 34), .mov, [.t 33], none⟩,
     ⟨(some 35), .mov, [.t 8], (some (34, true))⟩,
     ⟨(some 36), .mov, [.t 10], (some (34, true))⟩,
     ⟨(some 37), .bin .eql, [.t 35, .t 36], (some (34, true))⟩,
     ⟨(some 38), .pick, [.t 34, .t 37, .c (.bool false)], none⟩,
     ⟨(some 39), .mov, [.t 38], none⟩,
     ⟨(some 40), .call 30, [], (some (39, true))⟩,
     ⟨(some 41), .pick, [.t 39, .t 40, .c (.bool false)], none⟩,
     ⟨(some 6), .mov, [.t 41], none⟩])
   .ret))))
theorem chk.law10_VolumeNames : chkF Try.prog 4 = some (42, ir.law10_VolumeNames, [.tmp 6]) := by kernel_rfl

/-- paravane/paravanelaw10.VolumeEncloses -/
abbrev F.law10_VolumeEncloses : Nat := 5
def ir.law10_VolumeEncloses : IC :=
 (.seq (.reg [⟨(some 3), .box, [.t 1], none⟩,
     ⟨(some 4), .mov, [.c (.bool false)], none⟩])
   (.seq (.reg [⟨(some 10), .mov, [.t 0], none⟩,
     ⟨(some 11), .faddr 0, [.t 3], none⟩,
     ⟨(some 12), .load 3 true, [.t 11], none⟩,
     ⟨(some 13), .faddr 3, [.t 3], none⟩,
     ⟨(some 14), .load 3 true, [.t 13], none⟩,
     ⟨(some 15), .faddr 6, [.t 3], none⟩,
     ⟨(some 16), .load 1 false, [.t 15], none⟩,
     ⟨(some 17), .faddr 7, [.t 3], none⟩,
     ⟨(some 18), .load 2 true, [.t 17], none⟩,
     ⟨(some 19), .call 34, [.t 10, .t 12, .t 14, .t 16, .t 18], none⟩,
     ⟨(some 9), .mov, [.t 19], none⟩,
     ⟨(some 20), .extract 0, [.t 9], none⟩,
     ⟨(some 21), .extract 1, [.t 9], none⟩,
     ⟨(some 5), .alloc [(.int .i64 0), (.int .i64 0), (.int .i64 0), (.int .i64 0), (.int .i64 0), (.int .i64 0), .nils], [], none⟩,
     ⟨none, .store 7, [.t 5, .t 20], none⟩,
     ⟨(some 6), .mov, [.t 21], none⟩])
   (.seq (.reg [⟨(some 23), .mov, [.t 0], none⟩,
     ⟨(some 24), .faddr 0, [.t 3], none⟩,
     ⟨(some 25), .load 3 true, [.t 24], none⟩,
     ⟨(some 26), .faddr 3, [.t 3], none⟩,
     ⟨(some 27), .load 3 true, [.t 26], none⟩,
     ⟨(some 28), .faddr 6, [.t 3], none⟩,
     ⟨(some 29), .load 1 false, [.t 28], none⟩,
     ⟨(some 30), .faddr 7, [.t 3], none⟩,
     ⟨(some 31), .load 2 true, [.t 30], none⟩,
     ⟨(some 32), .call 35, [.t 23, .t 25, .t 27, .t 29, .t 31], none⟩,
     ⟨(some 22), .mov, [.t 32], none⟩,
     ⟨(some 33), .extract 0, [.t 22], none⟩,
     ⟨(some 34), .extract 1, [.t 22], none⟩,
     ⟨(some 7), .alloc [(.int .i64 0), (.int .i64 0), (.int .i64 0), (.int .i64 0), (.int .i64 0), (.int .i64 0), .nils], [], none⟩,
     ⟨none, .store 7, [.t 7, .t 33], none⟩,
     ⟨(some 8), .mov, [.t 34], none⟩])
   (.seq (.reg [⟨(some 35), .load 7 true, [.t 5], none⟩,
     ⟨(some 36), .load 7 true, [.t 7], none⟩,
     ⟨(some 37), .call 36, [.t 35, .t 36], none⟩,
     ⟨(some 38), .mov, [.t 37], none⟩,
     ⟨(some 39), .mov, [.t 6], (some (38, true))⟩,
     ⟨(some 40), .mov, [.t 8], (some (38, true))⟩,
     ⟨(some 41), .bin .eql, [.t 39, .t 40], (some (38, true))⟩,
     ⟨(some 42), .pick, [.t 38, .t 41, .c (.bool false)], none⟩,
     ⟨(some 43), .mov, [.t 42], none⟩,
     ⟨(some 44), .call 30, [], (some (43, true))⟩,
     ⟨(some 45), .pick, [.t 43, .t 44, .c (.bool false)], none⟩,
     ⟨(some 4), .mov, [.t 45], none⟩])
   .ret))))
theorem chk.law10_VolumeEncloses : chkF Try.prog 5 = some (46, ir.law10_VolumeEncloses, [.tmp 4]) := by kernel_rfl

/-- paravane/paravanelaw10.VolumeFar -/
abbrev F.law10_VolumeFar : Nat := 21
def ir.law10_VolumeFar : IC :=
 (.seq (.reg [⟨(some 4), .box, [.t 1], none⟩,
     ⟨(some 5), .box, [.t 2], none⟩,
     ⟨(some 6), .mov, [.c (.bool false)], none⟩])
   (.seq (.reg [⟨(some 19), .mov, [.t 0], none⟩,
     ⟨(some 20), .load 3 true, [.t 4], none⟩,
     ⟨(some 21), .iaddrA 2 1, [.t 5, .c (.int .i64 0)], none⟩,
     ⟨(some 22), .load 1 false, [.t 21], none⟩,
     ⟨(some 23), .iaddrA 2 1, [.t 5, .c (.int .i64 1)], none⟩,
     ⟨(some 24), .load 1 false, [.t 23], none⟩,
     ⟨(some 25), .call 31, [.t 19, .t 20, .t 22, .t 24], none⟩,
     ⟨(some 18), .mov, [.t 25], none⟩,
     ⟨(some 26), .extract 0, [.t 18], none⟩,
     ⟨(some 27), .extract 1, [.t 18], none⟩,
     ⟨(some 7), .alloc [(.int .i64 0), (.int .i64 0), (.int .i64 0), .nils, (.int .i64 0), (.int .i64 0)], [], none⟩,
     ⟨none, .store 6, [.t 7, .t 26], none⟩,
     ⟨(some 8), .mov, [.t 27], none⟩])
   (.seq (.seq (.reg [⟨(some 28), .mov, [.t 8], none⟩,
     ⟨(some 29), .bin .neq, [.t 28, .c (.int .i64 0)], none⟩])
   (.cond (.t 29) (.seq (.reg [⟨(some 30), .faddr 3, [.t 7], none⟩,
     ⟨(some 31), .load 1 false, [.t 30], none⟩,
     ⟨(some 32), .len false, [.t 31], none⟩,
     ⟨(some 33), .bin .eql, [.t 32, .c (.int .i64 0)], none⟩,
     ⟨(some 34), .mov, [.t 33], none⟩,
     ⟨(some 35), .call 30, [], (some (34, true))⟩,
     ⟨(some 36), .pick, [.t 34, .t 35, .c (.bool false)], none⟩,
     ⟨(some 6), .mov, [.t 36], none⟩])
   .ret) .skip))
   (.seq (.reg [⟨(some 9), .mov, [.c .nils], none⟩])
   (.seq (.reg [⟨(some 10), .mov, [.c .nils], none⟩])
   (.seq (.seq (.reg [⟨(some 11), .mov, [.c (.int .i64 0)], none⟩])
   (.block 0 (.loop (.seq (.seq (.reg [⟨(some 37), .mov, [.t 11], none⟩,
     ⟨(some 38), .mov, [.t 0], none⟩,
     ⟨(some 39), .len false, [.t 38], none⟩,
     ⟨(some 40), .bin .lss, [.t 37, .t 39], none⟩])
   (.cond (.t 40) .skip (.exit 0)))
   (.seq (.block 1 (.seq (.draw [0, 0, 3, 7, 15, 0, 32, 127, 0, 0, 768, 1792, 3840, 0, 8192, 32512, 65535, 0, 0, 393216, 917504, 1966080, 0, 4194304, 16646144, 0, 0, 100663296, 234881024, 503316480, 0, 1073741824, 4261412864, 8589803520, 17179869183, 0, 34359738368, 0, 137438953472, 515396075520, 1099511627775] [⟨(some 43), .mov, [.t 0], none⟩,
     ⟨(some 44), .mov, [.t 11], none⟩,
     ⟨(some 45), .iaddrS 3, [.t 43, .t 44], none⟩,
     ⟨(some 46), .faddr 0, [.t 45], none⟩,
     ⟨(some 47), .load 1 false, [.t 46], none⟩,
     ⟨(some 48), .iaddrA 3 1, [.t 4, .c (.int .i64 0)], none⟩,
     ⟨(some 49), .load 1 false, [.t 48], none⟩,
     ⟨(some 50), .bin .sub, [.t 47, .t 49], none⟩,
     ⟨(some 51), .mov, [.t 0], none⟩,
     ⟨(some 52), .mov, [.t 11], none⟩,
     ⟨(some 53), .iaddrS 3, [.t 51, .t 52], none⟩,
     ⟨(some 54), .faddr 0, [.t 53], none⟩,
     ⟨(some 55), .load 1 false, [.t 54], none⟩,
     ⟨(some 56), .iaddrA 3 1, [.t 4, .c (.int .i64 0)], none⟩,
     ⟨(some 57), .load 1 false, [.t 56], none⟩,
     ⟨(some 58), .bin .sub, [.t 55, .t 57], none⟩,
     ⟨(some 59), .bin .mul, [.t 50, .t 58], none⟩,
     ⟨(some 60), .mov, [.t 0], none⟩,
     ⟨(some 61), .mov, [.t 11], none⟩,
     ⟨(some 62), .iaddrS 3, [.t 60, .t 61], none⟩,
     ⟨(some 63), .faddr 1, [.t 62], none⟩,
     ⟨(some 64), .load 1 false, [.t 63], none⟩,
     ⟨(some 65), .iaddrA 3 1, [.t 4, .c (.int .i64 1)], none⟩,
     ⟨(some 66), .load 1 false, [.t 65], none⟩,
     ⟨(some 67), .bin .sub, [.t 64, .t 66], none⟩,
     ⟨(some 68), .mov, [.t 0], none⟩,
     ⟨(some 69), .mov, [.t 11], none⟩,
     ⟨(some 70), .iaddrS 3, [.t 68, .t 69], none⟩,
     ⟨(some 71), .faddr 1, [.t 70], none⟩,
     ⟨(some 72), .load 1 false, [.t 71], none⟩,
     ⟨(some 73), .iaddrA 3 1, [.t 4, .c (.int .i64 1)], none⟩,
     ⟨(some 74), .load 1 false, [.t 73], none⟩,
     ⟨(some 75), .bin .sub, [.t 72, .t 74], none⟩,
     ⟨(some 76), .bin .mul, [.t 67, .t 75], none⟩,
     ⟨(some 77), .bin .add, [.t 59, .t 76], none⟩,
     ⟨(some 78), .iaddrA 2 1, [.t 5, .c (.int .i64 0)], none⟩,
     ⟨(some 79), .load 1 false, [.t 78], none⟩,
     ⟨(some 80), .iaddrA 2 1, [.t 5, .c (.int .i64 0)], none⟩,
     ⟨(some 81), .load 1 false, [.t 80], none⟩,
     ⟨(some 82), .bin .mul, [.t 79, .t 81], none⟩,
     ⟨(some 83), .bin .leq, [.t 77, .t 82], none⟩])
   (.cond (.t 83) (.reg [⟨(some 84), .mov, [.t 9], none⟩,
     ⟨(some 85), .mov, [.t 0], none⟩,
     ⟨(some 86), .mov, [.t 11], none⟩,
     ⟨(some 87), .iaddrS 3, [.t 85, .t 86], none⟩,
     ⟨(some 88), .load 3 true, [.t 87], none⟩,
     ⟨(some 89), .mkslice 3 79, [.t 88], none⟩,
     ⟨(some 90), .append 3 40 79, [.t 84, .t 89], none⟩,
     ⟨(some 91), .mov, [.t 10], none⟩,
     ⟨(some 92), .mov, [.t 11], none⟩,
     ⟨(some 93), .mkslice 1 3, [.t 92], none⟩,
     ⟨(some 94), .append 1 8 3, [.t 91, .t 93], none⟩,
     ⟨(some 9), .mov, [.t 90], none⟩,
     ⟨(some 10), .mov, [.t 94], none⟩]) .skip)))
   (.reg [⟨(some 41), .mov, [.t 11], none⟩,
     ⟨(some 42), .bin .add, [.t 41, .c (.int .i64 1)], none⟩,
     ⟨(some 11), .mov, [.t 42], none⟩]))))))
   (.seq (.reg [⟨(some 96), .mov, [.t 9], none⟩,
     ⟨(some 97), .load 3 true, [.t 4], none⟩,
     ⟨(some 98), .iaddrA 2 1, [.t 5, .c (.int .i64 0)], none⟩,
     ⟨(some 99), .load 1 false, [.t 98], none⟩,
     ⟨(some 100), .iaddrA 2 1, [.t 5, .c (.int .i64 1)], none⟩,
     ⟨(some 101), .load 1 false, [.t 100], none⟩,
     ⟨(some 102), .call 31, [.t 96, .t 97, .t 99, .t 101], none⟩,
     ⟨(some 95), .mov, [.t 102], none⟩,
     ⟨(some 103), .extract 0, [.t 95], none⟩,
     ⟨(some 104), .extract 1, [.t 95], none⟩,
     ⟨(some 12), .alloc [(.int .i64 0), (.int .i64 0), (.int .i64 0), .nils, (.int .i64 0), (.int .i64 0)], [], none⟩,
     ⟨none, .store 6, [.t 12, .t 103], none⟩,
     ⟨(some 8), .mov, [.t 104], none⟩])
   (.seq (.reg [⟨(some 106), .mov, [.t 0], none⟩,
     ⟨(some 107), .iaddrA 2 1, [.t 5, .c (.int .i64 0)], none⟩,
     ⟨(some 108), .load 1 false, [.t 107], none⟩,
     ⟨(some 109), .iaddrA 2 1, [.t 5, .c (.int .i64 1)], none⟩,
     ⟨(some 110), .load 1 false, [.t 109], none⟩,
     ⟨(some 111), .load 6 true, [.t 7], none⟩,
     ⟨(some 112), .call 63, [.t 106, .t 108, .t 110, .t 111], none⟩,
     ⟨(some 105), .mov, [.t 112], none⟩,
     ⟨(some 113), .extract 0, [.t 105], none⟩,
     ⟨(some 114), .extract 1, [.t 105], none⟩,
     ⟨(some 13), .mov, [.t 113], none⟩,
     ⟨(some 14), .mov, [.t 114], none⟩])
   (.seq (.seq (.reg [⟨(some 115), .mov, [.t 8], none⟩,
     ⟨(some 116), .bin .neq, [.t 115, .c (.int .i64 0)], none⟩,
     ⟨(some 117), .mov, [.t 116], none⟩,
     ⟨(some 118), .mov, [.t 14], (some (117, false))⟩,
     ⟨(some 119), .bin .neq, [.t 118, .c (.int .i64 0)], (some (117, false))⟩,
     ⟨(some 120), .pick, [.t 117, .c (.bool true), .t 119], none⟩,
     ⟨(some 121), .mov, [.t 120], none⟩,
     ⟨(some 122), .mov, [.t 13], (some (121, false))⟩,
     ⟨(some 123), .un .not, [.t 122], (some (121, false))⟩,
     ⟨(some 124), .pick, [.t 121, .c (.bool true), .t 123], none⟩,
     ⟨(some 125), .mov, [.t 124], none⟩,
     ⟨(some 126), .faddr 4, [.t 7], (some (125, false))⟩,
     ⟨(some 127), .load 2 true, [.t 126], (some (125, false))⟩,
     ⟨(some 128), .faddr 4, [.t 12], (some (125, false))⟩,
     ⟨(some 129), .load 2 true, [.t 128], (some (125, false))⟩,
     ⟨(some 130), .eqs true [0, 0], [.t 127, .t 129], (some (125, false))⟩,
     ⟨(some 131), .pick, [.t 125, .c (.bool true), .t 130], none⟩,
     ⟨(some 132), .mov, [.t 131], none⟩,
     ⟨(some 133), .faddr 0, [.t 7], (some (132, false))⟩,
     ⟨(some 134), .load 3 true, [.t 133], (some (132, false))⟩,
     ⟨(some 135), .load 3 true, [.t 4], (some (132, false))⟩,
     ⟨(some 136), .eqs true [0, 0, 0], [.t 134, .t 135], (some (132, false))⟩,
     ⟨(some 137), .pick, [.t 132, .c (.bool true), .t 136], none⟩,
     ⟨(some 138), .mov, [.t 137], none⟩,
     ⟨(some 139), .faddr 3, [.t 7], (some (138, false))⟩,
     ⟨(some 140), .load 1 false, [.t 139], (some (138, false))⟩,
     ⟨(some 141), .len false, [.t 140], (some (138, false))⟩,
     ⟨(some 142), .faddr 3, [.t 12], (some (138, false))⟩,
     ⟨(some 143), .load 1 false, [.t 142], (some (138, false))⟩,
     ⟨(some 144), .len false, [.t 143], (some (138, false))⟩,
     ⟨(some 145), .bin .neq, [.t 141, .t 144], (some (138, false))⟩,
     ⟨(some 146), .pick, [.t 138, .c (.bool true), .t 145], none⟩])
   (.cond (.t 146) (.seq (.reg [⟨(some 6), .mov, [.c (.bool false)], none⟩])
   .ret) .skip))
   (.seq (.reg [⟨(some 15), .alloc [(.int .i64 0), (.int .i64 0)], [], none⟩])
   (.seq (.seq (.reg [⟨(some 16), .mov, [.c (.int .i64 0)], none⟩])
   (.block 2 (.loop (.seq (.seq (.reg [⟨(some 147), .mov, [.t 16], none⟩,
     ⟨(some 148), .faddr 3, [.t 7], none⟩,
     ⟨(some 149), .load 1 false, [.t 148], none⟩,
     ⟨(some 150), .len false, [.t 149], none⟩,
     ⟨(some 151), .bin .lss, [.t 147, .t 150], none⟩])
   (.cond (.t 151) .skip (.exit 2)))
   (.seq (.block 3 (.seq (.reg [⟨(some 154), .faddr 3, [.t 7], none⟩,
     ⟨(some 155), .load 1 false, [.t 154], none⟩,
     ⟨(some 156), .mov, [.t 16], none⟩,
     ⟨(some 157), .iaddrS 2, [.t 155, .t 156], none⟩,
     ⟨(some 158), .load 2 true, [.t 157], none⟩,
     ⟨(some 17), .alloc [(.int .i64 0), (.int .i64 0)], [], none⟩,
     ⟨none, .store 2, [.t 17, .t 158], none⟩])
   (.seq (.seq (.draw [0, 1, 0, 4, 12, 31, 63, 127, 255, 511, 255, 255, 2303, 7423, 15615, 31999, 64767, 130303, 262143, 524287, 1048575, 2097151, 4194303, 8388607, 16777215, 33554431, 67108863, 33554431, 167772159, 536870911, 1073741823, 2147483647, 33554431, 4328521727, 17179869183, 34359738367, 68719476735, 137438953471, 274877906943, 549755813887, 274877906943, 2199023255551, 4398046511103, 8796093022207, 274877906943, 17867063951359, 53051436040191, 140737488355327, 281474976710655, 562949953421311, 1125899906842623, 2251799813685247, 2251799813685247, 6755399441055743, 2251799813685247, 33776997205278719, 69805794224242687, 141863388262170623, 288230376151711743, 576460752303423487, 2251799813685247, 1155173304420532223, 4611686018427387903, 9223372036854775807, 18446744073709551615, 36893488147419103231, 73786976294838206463, 36893488147419103231, 295147905179352825855, 590295810358705651711, 1180591620717411303423, 36893488147419103231, 2398076729582241710079, 9444732965739290427391, 18889465931478580854783] [⟨(some 159), .faddr 0, [.t 17], none⟩,
     ⟨(some 160), .load 1 false, [.t 159], none⟩,
     ⟨(some 161), .mov, [.t 0], none⟩,
     ⟨(some 162), .len false, [.t 161], none⟩,
     ⟨(some 163), .bin .sub, [.t 162, .c (.int .i64 1)], none⟩,
     ⟨(some 164), .call 51, [.t 160, .c (.int .i64 0), .t 163], none⟩,
     ⟨(some 165), .un .not, [.t 164], none⟩,
     ⟨(some 166), .mov, [.t 165], none⟩,
     ⟨(some 167), .faddr 1, [.t 17], (some (166, false))⟩,
     ⟨(some 168), .load 1 false, [.t 167], (some (166, false))⟩,
     ⟨(some 169), .mov, [.t 0], (some (166, false))⟩,
     ⟨(some 170), .faddr 0, [.t 17], (some (166, false))⟩,
     ⟨(some 171), .load 1 false, [.t 170], (some (166, false))⟩,
     ⟨(some 172), .iaddrS 3, [.t 169, .t 171], (some (166, false))⟩,
     ⟨(some 173), .faddr 2, [.t 172], (some (166, false))⟩,
     ⟨(some 174), .load 1 false, [.t 173], (some (166, false))⟩,
     ⟨(some 175), .len false, [.t 174], (some (166, false))⟩,
     ⟨(some 176), .bin .sub, [.t 175, .c (.int .i64 1)], (some (166, false))⟩,
     ⟨(some 177), .call 51, [.t 168, .c (.int .i64 0), .t 176], (some (166, false))⟩,
     ⟨(some 178), .un .not, [.t 177], (some (166, false))⟩,
     ⟨(some 179), .pick, [.t 166, .c (.bool true), .t 178], none⟩,
     ⟨(some 180), .mov, [.t 179], none⟩,
     ⟨(some 181), .mov, [.t 16], (some (180, false))⟩,
     ⟨(some 182), .bin .gtr, [.t 181, .c (.int .i64 0)], (some (180, false))⟩,
     ⟨(some 183), .mov, [.t 182], (some (180, false))⟩,
     ⟨(some 184), .faddr 3, [.t 7], (some (183, true))⟩,
     ⟨(some 185), .load 1 false, [.t 184], (some (183, true))⟩,
     ⟨(some 186), .mov, [.t 16], (some (183, true))⟩,
     ⟨(some 187), .bin .sub, [.t 186, .c (.int .i64 1)], (some (183, true))⟩,
     ⟨(some 188), .iaddrS 2, [.t 185, .t 187], (some (183, true))⟩,
     ⟨(some 189), .faddr 0, [.t 188], (some (183, true))⟩,
     ⟨(some 190), .load 1 false, [.t 189], (some (183, true))⟩,
     ⟨(some 191), .faddr 0, [.t 17], (some (183, true))⟩,
     ⟨(some 192), .load 1 false, [.t 191], (some (183, true))⟩,
     ⟨(some 193), .bin .geq, [.t 190, .t 192], (some (183, true))⟩,
     ⟨(some 194), .pick, [.t 183, .t 193, .c (.bool false)], (some (180, false))⟩,
     ⟨(some 195), .pick, [.t 180, .c (.bool true), .t 194], none⟩,
     ⟨(some 196), .mov, [.t 195], none⟩,
     ⟨(some 197), .faddr 3, [.t 12], (some (196, false))⟩,
     ⟨(some 198), .load 1 false, [.t 197], (some (196, false))⟩,
     ⟨(some 199), .mov, [.t 16], (some (196, false))⟩,
     ⟨(some 200), .iaddrS 2, [.t 198, .t 199], (some (196, false))⟩,
     ⟨(some 201), .faddr 0, [.t 200], (some (196, false))⟩,
     ⟨(some 202), .load 1 false, [.t 201], (some (196, false))⟩,
     ⟨(some 203), .mov, [.t 10], (some (196, false))⟩,
     ⟨(some 204), .len false, [.t 203], (some (196, false))⟩,
     ⟨(some 205), .bin .sub, [.t 204, .c (.int .i64 1)], (some (196, false))⟩,
     ⟨(some 206), .call 51, [.t 202, .c (.int .i64 0), .t 205], (some (196, false))⟩,
     ⟨(some 207), .un .not, [.t 206], (some (196, false))⟩,
     ⟨(some 208), .pick, [.t 196, .c (.bool true), .t 207], none⟩,
     ⟨(some 209), .mov, [.t 208], none⟩,
     ⟨(some 210), .mov, [.t 10], (some (209, false))⟩,
     ⟨(some 211), .faddr 3, [.t 12], (some (209, false))⟩,
     ⟨(some 212), .load 1 false, [.t 211], (some (209, false))⟩,
     ⟨(some 213), .mov, [.t 16], (some (209, false))⟩,
     ⟨(some 214), .iaddrS 2, [.t 212, .t 213], (some (209, false))⟩,
     ⟨(some 215), .faddr 0, [.t 214], (some (209, false))⟩,
     ⟨(some 216), .load 1 false, [.t 215], (some (209, false))⟩,
     ⟨(some 217), .iaddrS 1, [.t 210, .t 216], (some (209, false))⟩,
     ⟨(some 218), .load 1 false, [.t 217], (some (209, false))⟩,
     ⟨(some 219), .faddr 0, [.t 17], (some (209, false))⟩,
     ⟨(some 220), .load 1 false, [.t 219], (some (209, false))⟩,
     ⟨(some 221), .bin .neq, [.t 218, .t 220], (some (209, false))⟩,
     ⟨(some 222), .pick, [.t 209, .c (.bool true), .t 221], none⟩,
     ⟨(some 223), .mov, [.t 222], none⟩,
     ⟨(some 224), .faddr 3, [.t 12], (some (223, false))⟩,
     ⟨(some 225), .load 1 false, [.t 224], (some (223, false))⟩,
     ⟨(some 226), .mov, [.t 16], (some (223, false))⟩,
     ⟨(some 227), .iaddrS 2, [.t 225, .t 226], (some (223, false))⟩,
     ⟨(some 228), .faddr 1, [.t 227], (some (223, false))⟩,
     ⟨(some 229), .load 1 false, [.t 228], (some (223, false))⟩,
     ⟨(some 230), .faddr 1, [.t 17], (some (223, false))⟩,
     ⟨(some 231), .load 1 false, [.t 230], (some (223, false))⟩,
     ⟨(some 232), .bin .neq, [.t 229, .t 231], (some (223, false))⟩,
     ⟨(some 233), .pick, [.t 223, .c (.bool true), .t 232], none⟩])
   (.cond (.t 233) (.seq (.reg [⟨(some 6), .mov, [.c (.bool false)], none⟩])
   .ret) .skip))
   (.draw [0, 0, 0, 4, 14, 30, 62, 0, 128, 510, 1022, 2047, 4095] [⟨(some 234), .load 2 true, [.t 15], none⟩,
     ⟨(some 235), .mov, [.t 0], none⟩,
     ⟨(some 236), .faddr 0, [.t 17], none⟩,
     ⟨(some 237), .load 1 false, [.t 236], none⟩,
     ⟨(some 238), .iaddrS 3, [.t 235, .t 237], none⟩,
     ⟨(some 239), .faddr 2, [.t 238], none⟩,
     ⟨(some 240), .load 1 false, [.t 239], none⟩,
     ⟨(some 241), .faddr 1, [.t 17], none⟩,
     ⟨(some 242), .load 1 false, [.t 241], none⟩,
     ⟨(some 243), .iaddrS 2, [.t 240, .t 242], none⟩,
     ⟨(some 244), .load 2 true, [.t 243], none⟩,
     ⟨(some 245), .call 57, [.t 234, .t 244], none⟩,
     ⟨none, .store 2, [.t 15, .t 245], none⟩]))))
   (.reg [⟨(some 152), .mov, [.t 16], none⟩,
     ⟨(some 153), .bin .add, [.t 152, .c (.int .i64 1)], none⟩,
     ⟨(some 16), .mov, [.t 153], none⟩]))))))
   (.seq (.reg [⟨(some 246), .load 2 true, [.t 15], none⟩,
     ⟨(some 247), .faddr 4, [.t 7], none⟩,
     ⟨(some 248), .load 2 true, [.t 247], none⟩,
     ⟨(some 249), .eqs false [0, 0], [.t 246, .t 248], none⟩,
     ⟨(some 250), .mov, [.t 249], none⟩,
     ⟨(some 251), .call 30, [], (some (250, true))⟩,
     ⟨(some 252), .pick, [.t 250, .t 251, .c (.bool false)], none⟩,
     ⟨(some 6), .mov, [.t 252], none⟩])
   .ret))))))))))))
theorem chk.law10_VolumeFar : chkF Try.prog 21 = some (253, ir.law10_VolumeFar, [.tmp 6]) := by kernel_rfl

/-- paravane/paravanelaw10.added -/
abbrev F.law10_added : Nat := 57
def ir.law10_added : IC :=
 (.seq (.reg [⟨(some 2), .box, [.t 0], none⟩,
     ⟨(some 3), .box, [.t 1], none⟩,
     ⟨(some 4), .alloc [(.int .i64 0), (.int .i64 0)], [], none⟩])
   (.seq (.reg [⟨(some 5), .faddr 0, [.t 2], none⟩,
     ⟨(some 6), .load 1 false, [.t 5], none⟩,
     ⟨(some 7), .faddr 0, [.t 3], none⟩,
     ⟨(some 8), .load 1 false, [.t 7], none⟩,
     ⟨(some 9), .bin .add, [.t 6, .t 8], none⟩,
     ⟨(some 10), .faddr 1, [.t 2], none⟩,
     ⟨(some 11), .load 1 false, [.t 10], none⟩,
     ⟨(some 12), .faddr 1, [.t 3], none⟩,
     ⟨(some 13), .load 1 false, [.t 12], none⟩,
     ⟨(some 14), .bin .add, [.t 11, .t 13], none⟩,
     ⟨(some 15), .build [(.int .i64 0), (.int .i64 0)] [(0, 1), (1, 1)], [.t 9, .t 14], none⟩,
     ⟨none, .store 2, [.t 4, .t 15], none⟩])
   .ret))
theorem chk.law10_added : chkF Try.prog 57 = some (16, ir.law10_added, [.cell 4 33]) := by kernel_rfl

/-- paravane/volume.Verify -/
abbrev F.volume_Verify : Nat := 63
def ir.volume_Verify : IC :=
 (.seq (.reg [⟨(some 7), .box, [.t 3], none⟩,
     ⟨(some 8), .mov, [.c (.bool false)], none⟩,
     ⟨(some 9), .mov, [.c (.int .i64 0)], none⟩])
   (.seq (.reg [⟨(some 13), .mov, [.t 0], none⟩,
     ⟨(some 14), .faddr 0, [.t 7], none⟩,
     ⟨(some 15), .load 3 true, [.t 14], none⟩,
     ⟨(some 16), .mov, [.t 1], none⟩,
     ⟨(some 17), .mov, [.t 2], none⟩,
     ⟨(some 18), .call 31, [.t 13, .t 15, .t 16, .t 17], none⟩,
     ⟨(some 12), .mov, [.t 18], none⟩,
     ⟨(some 19), .extract 0, [.t 12], none⟩,
     ⟨(some 20), .extract 1, [.t 12], none⟩,
     ⟨(some 10), .alloc [(.int .i64 0), (.int .i64 0), (.int .i64 0), .nils, (.int .i64 0), (.int .i64 0)], [], none⟩,
     ⟨none, .store 6, [.t 10, .t 19], none⟩,
     ⟨(some 11), .mov, [.t 20], none⟩])
   (.seq (.seq (.reg [⟨(some 21), .mov, [.t 11], none⟩,
     ⟨(some 22), .bin .neq, [.t 21, .c (.int .i64 0)], none⟩])
   (.cond (.t 22) (.seq (.reg [⟨(some 23), .mov, [.t 11], none⟩,
     ⟨(some 8), .mov, [.c (.bool false)], none⟩,
     ⟨(some 9), .mov, [.t 23], none⟩])
   .ret) .skip))
   (.seq (.reg [⟨(some 24), .faddr 4, [.t 10], none⟩,
     ⟨(some 25), .load 2 true, [.t 24], none⟩,
     ⟨(some 26), .faddr 4, [.t 7], none⟩,
     ⟨(some 27), .load 2 true, [.t 26], none⟩,
     ⟨(some 28), .eqs false [0, 0], [.t 25, .t 27], none⟩,
     ⟨(some 29), .mov, [.t 28], none⟩,
     ⟨(some 30), .faddr 3, [.t 10], (some (29, true))⟩,
     ⟨(some 31), .load 1 false, [.t 30], (some (29, true))⟩,
     ⟨(some 32), .faddr 3, [.t 7], (some (29, true))⟩,
     ⟨(some 33), .load 1 false, [.t 32], (some (29, true))⟩,
     ⟨(some 34), .call 117, [.t 31, .t 33], (some (29, true))⟩,
     ⟨(some 35), .pick, [.t 29, .t 34, .c (.bool false)], none⟩,
     ⟨(some 8), .mov, [.t 35], none⟩,
     ⟨(some 9), .mov, [.c (.int .i64 0)], none⟩])
   .ret))))
theorem chk.volume_Verify : chkF Try.prog 63 = some (36, ir.volume_Verify, [.tmp 8, .tmp 9]) := by kernel_rfl

/-- slices.Equal[[]paravane/api.Ref,paravane/api.Ref] -/
abbrev F.slices_Equal_api_Ref_api_Ref : Nat := 117
def ir.slices_Equal_api_Ref_api_Ref : IC :=
 (.seq (.reg [⟨(some 4), .mov, [.c (.bool false)], none⟩])
   (.seq (.seq (.reg [⟨(some 6), .mov, [.t 0], none⟩,
     ⟨(some 7), .len false, [.t 6], none⟩,
     ⟨(some 8), .mov, [.t 1], none⟩,
     ⟨(some 9), .len false, [.t 8], none⟩,
     ⟨(some 10), .bin .neq, [.t 7, .t 9], none⟩])
   (.cond (.t 10) (.seq (.reg [⟨(some 4), .mov, [.c (.bool false)], none⟩])
   .ret) .skip))
   (.seq (.seq (.reg [⟨(some 11), .mov, [.t 0], none⟩,
     ⟨(some 12), .len false, [.t 11], none⟩,
     ⟨(some 13), .mov, [.c (.int .i64 0)], none⟩])
   (.block 0 (.loop (.seq (.reg [⟨(some 14), .bin .lss, [.t 13, .t 12], none⟩])
   (.seq (.cond (.t 14) .skip (.exit 0))
   (.seq (.block 1 (.seq (.reg [⟨(some 15), .mov, [.t 13], none⟩,
     ⟨(some 5), .mov, [.t 15], none⟩])
   (.seq (.draw [0, 0, 3, 7, 0, 0, 48, 112, 255] [⟨(some 16), .mov, [.t 0], none⟩,
     ⟨(some 17), .mov, [.t 5], none⟩,
     ⟨(some 18), .iaddrS 2, [.t 16, .t 17], none⟩,
     ⟨(some 19), .load 2 true, [.t 18], none⟩,
     ⟨(some 20), .mov, [.t 1], none⟩,
     ⟨(some 21), .mov, [.t 5], none⟩,
     ⟨(some 22), .iaddrS 2, [.t 20, .t 21], none⟩,
     ⟨(some 23), .load 2 true, [.t 22], none⟩,
     ⟨(some 24), .eqs true [0, 0], [.t 19, .t 23], none⟩])
   (.cond (.t 24) (.seq (.reg [⟨(some 4), .mov, [.c (.bool false)], none⟩])
   .ret) .skip))))
   (.reg [⟨(some 25), .bin .add, [.t 13, .c (.int .i64 1)], none⟩,
     ⟨(some 13), .mov, [.t 25], none⟩])))))))
   (.seq (.reg [⟨(some 4), .mov, [.c (.bool true)], none⟩])
   .ret))))
theorem chk.slices_Equal_api_Ref_api_Ref : chkF Try.prog 117 = some (26, ir.slices_Equal_api_Ref_api_Ref, [.tmp 4]) := by kernel_rfl

end Go.Proofs.Ytkifejklnpddbaa

/-! The laws VolumeNames and VolumeEncloses, as contracts. -/
set_option linter.unusedVariables false
set_option linter.unusedSimpArgs false
set_option maxRecDepth 20000
namespace Go.Proofs.Ytkifejklnpddbaa
open Go.Am
attribute [local simp] cells scalar mkv splice under2 under dem dem1 boxC cellC volC intsV eB

theorem nameS_form (l : List Echo) (x y z aper slow : Int) : ∃ (a b c : Int) (s : Int × Int) (r : List (Int × Int)) (e : Int), r.length ≤ 32 ∧
    nameS l x y z aper slow = .tuple [.agg [I a, I b, I c, .slice 0 2 (r.map eB), I s.1, I s.2], I e] := by
  unfold nameS nameR
  split
  · rename_i h1
    have h2 := echoesOk_len h1
    split
    · refine ⟨x, y, z, valueB ⟨l, aper, (slow, slow)⟩ x y z, namedL ⟨l, aper, (slow, slow)⟩ x y z, 0, ?_, rfl⟩
      unfold namedL
      exact Nat.le_trans (List.length_filterMap_le _ _) (Nat.le_trans nears_len h2)
    · exact ⟨0, 0, 0, (0, 0), [], 102, by simp, rfl⟩
  · exact ⟨0, 0, 0, (0, 0), [], 100, by simp, rfl⟩

theorem boxS_form (l : List Echo) (b : Bx) (aper : Int) (slow : Int × Int) (of : Int × Int × Int → Int × Int) : ∃ (c : Bx) (r : List (Int × Int)) (e : Int), r.length ≤ 4096 ∧
    boxR (.slice 0 2 []) l b aper slow of = .tuple [.agg [I c.x, I c.y, I c.z, I c.a, I c.b, I c.c, .slice 0 2 (r.map eB)], I e] := by
  unfold boxR
  split
  · split
    · unfold imageR
      split
      · rename_i h1
        refine ⟨b, (boxCells b).map of, 0, ?_, ?_⟩
        · rw [List.length_map]; exact boxCells_len (boxOk_spec h1).1
        · rw [List.map_map]; rfl
      · exact ⟨⟨0, 0, 0, 0, 0, 0⟩, [], 102, by simp, rfl⟩
    · exact ⟨⟨0, 0, 0, 0, 0, 0⟩, [], 102, by simp, rfl⟩
  · exact ⟨⟨0, 0, 0, 0, 0, 0⟩, [], 100, by simp, rfl⟩

theorem c_VolumeNames {l : List Echo} (hl : sane l) (x y z aper slow : Int) : C Try.prog F.law10_VolumeNames [sE l, .agg (cellC x y z), .agg [I aper, I slow]] (.bool true) := by
  refine C_of mixed chk.law10_VolumeNames (by simp) fun S ok => ?_
  obtain ⟨a, b, c, s, r, e, hr, hN⟩ := nameS_form l x y z aper slow
  refine Tr.seqR rfl (by simp) ?_
  refine Tr.seqC rfl (by simp) (Steps.call rfl rfl (hN ▸ c_NameS hl x y z aper slow) (Steps.fin rfl (by simp) ?_))
  refine Tr.seqC rfl (by simp) (Steps.call rfl rfl (hN ▸ c_Name10 hl x y z aper slow) (Steps.fin rfl (by simp) ?_))
  refine Tr.seqC rfl (by simp) (Steps.call rfl rfl (c_SameNamed a b c a b c s s r r (by omega)) (Steps.run rfl (by simp) ?_))
  refine Steps.gcall rfl rfl rfl rfl (by simp) (fun _ => c_works) (Steps.fin rfl (by simp) (Tr.retX rfl rfl rfl ?_ trivial))
  simp [packR]

theorem c_VolumeEncloses {l : List Echo} (hl : sane l) (b : Bx) (aper : Int) (slow : Int × Int) : C Try.prog F.law10_VolumeEncloses [sE l, .agg [I b.x, I b.y, I b.z, I b.a, I b.b, I b.c, I aper, I slow.1, I slow.2]] (.bool true) := by
  refine C_of mixed chk.law10_VolumeEncloses (by simp) fun S ok => ?_
  obtain ⟨c, r, e, hr, hN⟩ := boxS_form l b aper slow (encOf l aper slow)
  have k1 := c_Enclose hl b aper slow
  have k2 := c_Enclose10 hl b aper slow
  unfold encS at k1 k2
  rw [hN] at k1 k2
  refine Tr.seqR rfl (by simp) ?_
  refine Tr.seqC rfl (by simp) (Steps.call rfl rfl k1 (Steps.fin rfl (by simp) ?_))
  refine Tr.seqC rfl (by simp) (Steps.call rfl rfl k2 (Steps.fin rfl (by simp) ?_))
  refine Tr.seqC rfl (by simp) (Steps.call rfl rfl (c_SameImage c c r r (by omega)) (Steps.run rfl (by simp) ?_))
  refine Steps.gcall rfl rfl rfl rfl (by simp) (fun _ => c_works) (Steps.fin rfl (by simp) (Tr.retX rfl rfl rfl ?_ trivial))
  simp [packR]

end Go.Proofs.Ytkifejklnpddbaa

/-! Plain facts: values and enclosures as sums over what is near. -/
set_option linter.unusedVariables false
set_option linter.unusedSimpArgs false
set_option maxRecDepth 20000
namespace Go.Proofs.Ytkifejklnpddbaa
open Go.Am

theorem w_range (n : Int) : -9223372036854775808 ≤ w n ∧ w n < 9223372036854775808 := by
  have e : ∀ m : Int, m = n % 18446744073709551616 → -9223372036854775808 ≤ (if (true && decide (m ≥ 9223372036854775808)) = true then m - 18446744073709551616 else m) ∧ (if (true && decide (m ≥ 9223372036854775808)) = true then m - 18446744073709551616 else m) < 9223372036854775808 := by
    intro m hm
    by_cases h : m ≥ 9223372036854775808
    · simp only [h, decide_true, Bool.and_self, if_true]; omega
    · simp only [h, decide_false, Bool.and_false, Bool.false_eq_true, if_false]; omega
  exact e _ rfl

theorem w_w (n : Int) : w (w n) = w n := w64 (w_range n).1 (w_range n).2

/-- What the sample at a time is; nothing, if there is none. -/
def smp (s : List (Int × Int)) (z d slow : Int) : Int × Int := s.getD (timeN z d slow).toNat (0, 0)
def valC (h : Ear) (z : Int) (p : Int × Int) : Int × Int := smp (sAt h p.1) z p.2 h.slow.1

def nrm (a : Int × Int) : Prop := w a.1 = a.1 ∧ w a.2 = a.2
theorem nrm_plus (a b : Int × Int) : nrm (plusB a b) := ⟨w_w _, w_w _⟩
theorem nrm0 : nrm (0, 0) := ⟨w64 (by omega) (by omega), w64 (by omega) (by omega)⟩
theorem plus0 {a : Int × Int} (h : nrm a) : plusB a (0, 0) = a := by
  obtain ⟨x, y⟩ := a
  obtain ⟨h1, h2⟩ := h
  simp only at h1 h2
  simp only [plusB, Int.add_zero, h1, h2]

theorem fold_filter {α β : Type} (f : α → Option β) (g : β → Int × Int) : ∀ (L : List α) (acc : Int × Int), nrm acc →
    ((L.filterMap f).map g).foldl plusB acc = (L.map fun p => match f p with | some r => g r | none => (0, 0)).foldl plusB acc
  | [], acc, _ => rfl
  | p :: r, acc, h => by
    simp only [List.filterMap_cons, List.map_cons, List.foldl_cons]
    cases hf : f p with
    | none => simp only [plus0 h]; exact fold_filter f g r acc h
    | some q => simp only [List.map_cons, List.foldl_cons]; exact fold_filter f g r _ (nrm_plus _ _)

theorem map_congr' {α β : Type} {f g : α → β} {L : List α} (h : ∀ p ∈ L, f p = g p) : L.map f = L.map g := List.map_congr_left h

theorem value_sum (h : Ear) (x y z : Int) : valueB h x y z = ((nears h.aper x y h.l 0).map (valC h z)).foldl plusB (0, 0) := by
  unfold valueB namedL
  rw [fold_filter _ _ _ _ nrm0]
  congr 1
  refine map_congr' fun p hp => ?_
  obtain ⟨i, h1, h2⟩ := nears_mem hp
  have h1 : p.1 = (i : Int) := by simpa using h1
  have h0 := timeN_nn z p.2 h.slow.1
  have es : sAt h p.1 = h.l[i].s := by simp [sAt, h1, List.getElem?_eq_getElem h2]
  unfold refOf valC smp
  rw [es, h1]
  simp only [Int.toNat_natCast, List.getElem?_eq_getElem h2, Option.map_some, Option.getD_some]
  by_cases hc : timeN z p.2 h.slow.1 < (h.l[i].s.length : Int)
  · rw [if_pos hc]
    simp [boundAt, List.getElem?_eq_getElem h2, List.getD_eq_getElem?_getD]
  · rw [if_neg hc, List.getD_eq_getElem?_getD, List.getElem?_eq_none (by omega)]
    rfl

theorem reach_one (s : List (Int × Int)) (z d q : Int) : reachB s z d (q, q) = smp s z d q := by
  have h0 := timeN_nn z d q
  unfold reachB smp
  simp only
  obtain ⟨t, ht⟩ : ∃ t : Nat, timeN z d q = (t : Int) := ⟨_, (Int.toNat_of_nonneg h0).symm⟩
  rw [ht, Int.toNat_natCast]
  by_cases h1 : t < s.length
  · rw [reachG_drop h1, if_pos (Int.le_refl _), List.getD_eq_getElem?_getD, List.getElem?_eq_getElem h1]
    have e : decide ((t : Int) ≥ (s.length : Int)) = false := by simp; omega
    rw [e]
    simp only [stepB, Bool.false_eq_true, if_false, Option.getD_some]
    by_cases h2 : t + 1 < s.length
    · rw [reachG_drop h2, if_neg (by omega)]
    · rw [List.drop_eq_nil_of_le (by omega)]; rfl
  · rw [List.drop_eq_nil_of_le (by omega), List.getD_eq_getElem?_getD, List.getElem?_eq_none (by omega)]; rfl

/-- **ONE SLOWNESS**: the enclosure is the value. -/
theorem enc_one (l : List Echo) (aper q : Int) (p : Int × Int × Int) : encOf l aper (q, q) p = valOf l aper q p := by
  unfold encOf valOf encB
  rw [value_sum]
  congr 1
  refine map_congr' fun p _ => ?_
  exact reach_one _ _ _ _

/-! ### Bounds within bounds -/
def ins (a b : Int × Int) : Prop := b.1 ≤ a.1 ∧ a.2 ≤ b.2
def bdd (n : Int) (a : Int × Int) : Prop := (-n ≤ a.1 ∧ a.1 ≤ n) ∧ (-n ≤ a.2 ∧ a.2 ≤ n)

theorem fold_ins {α : Type} (f g : α → Int × Int) (L : List α) : ∀ (n : Int) (a b : Int × Int), 0 ≤ n → n + L.length ≤ 1000 → (∀ p ∈ L, bdd 16777216 (f p) ∧ bdd 16777216 (g p) ∧ ins (f p) (g p)) → bdd (n * 16777216) a → bdd (n * 16777216) b → ins a b →
    ins ((L.map f).foldl plusB a) ((L.map g).foldl plusB b) := by
  induction L with
  | nil => intro n a b _ _ _ _ _ h; exact h
  | cons p r ih =>
    intro n a b h0 hn hf ha hb h
    obtain ⟨h1, h2, h3⟩ := hf p (by simp)
    simp only [List.map_cons, List.foldl_cons]
    simp only [List.length_cons] at hn
    unfold bdd at ha hb h1 h2
    have e1 : plusB a (f p) = (a.1 + (f p).1, a.2 + (f p).2) := by
      unfold plusB; rw [show w (a.1 + (f p).1) = a.1 + (f p).1 from w64 (by omega) (by omega), show w (a.2 + (f p).2) = a.2 + (f p).2 from w64 (by omega) (by omega)]
    have e2 : plusB b (g p) = (b.1 + (g p).1, b.2 + (g p).2) := by
      unfold plusB; rw [show w (b.1 + (g p).1) = b.1 + (g p).1 from w64 (by omega) (by omega), show w (b.2 + (g p).2) = b.2 + (g p).2 from w64 (by omega) (by omega)]
    rw [e1, e2]
    unfold ins at h h3
    refine ih (n + 1) _ _ (by omega) (by omega) (fun q hq => hf q (List.mem_cons_of_mem _ hq)) ?_ ?_ ?_
    · unfold bdd; simp only; omega
    · unfold bdd; simp only; omega
    · unfold ins; simp only; omega

theorem fold_diag {α : Type} (f : α → Int × Int) : ∀ (L : List α) (a : Int × Int), (∀ p ∈ L, (f p).1 = (f p).2) → a.1 = a.2 → ((L.map f).foldl plusB a).1 = ((L.map f).foldl plusB a).2
  | [], a, _, h => h
  | p :: r, a, hf, h => by
    simp only [List.map_cons, List.foldl_cons]
    refine fold_diag f r _ (fun q hq => hf q (List.mem_cons_of_mem _ hq)) ?_
    simp only [plusB, h, hf p (by simp)]

theorem ins_refl (a : Int × Int) : ins a a := ⟨Int.le_refl _, Int.le_refl _⟩
theorem ins_trans {a b c : Int × Int} (h : ins a b) (k : ins b c) : ins a c := ⟨Int.le_trans k.1 h.1, Int.le_trans h.2 k.2⟩

theorem reachG_wide (to : Int) : ∀ (r : List (Int × Int)) (t : Nat) (out : Int × Int), ins out (reachG to r t true out)
  | [], t, out => ins_refl _
  | b :: r, t, out => by
    unfold reachG
    split
    · refine ins_trans ?_ (reachG_wide to r (t + 1) _)
      unfold ins stepB; simp only [if_true]; omega
    · exact ins_refl _

theorem reachG_has (to : Int) : ∀ (r : List (Int × Int)) (t : Nat) (is : Bool) (out : Int × Int) (j : Nat) (h : j < r.length), ((t + j : Nat) : Int) ≤ to → ins r[j] (reachG to r t is out)
  | [], t, is, out, j, h, _ => by simp at h
  | b :: r, t, is, out, j, h, hj => by
    unfold reachG
    rw [if_pos (by omega)]
    cases j with
    | zero =>
      refine ins_trans ?_ (reachG_wide to r (t + 1) _)
      unfold ins stepB
      cases is
      · simp
      · simp only [if_true, List.getElem_cons_zero]; omega
    | succ j =>
      rw [List.getElem_cons_succ]
      exact reachG_has to r (t + 1) true _ j (by simpa using h) (by rw [show t + 1 + j = t + (j + 1) by omega]; exact hj)

theorem reachG_bdd {n : Int} (to : Int) : ∀ (r : List (Int × Int)) (t : Nat) (is : Bool) (out : Int × Int), (∀ b ∈ r, bdd n b) → bdd n out → bdd n (reachG to r t is out)
  | [], t, is, out, _, h => h
  | b :: r, t, is, out, hr, h => by
    unfold reachG
    split
    · refine reachG_bdd to r (t + 1) true _ (fun b hb => hr b (List.mem_cons_of_mem _ hb)) ?_
      have hb := hr b (by simp)
      unfold stepB
      split
      · unfold bdd at h hb ⊢; simp only; omega
      · exact hb
    · exact h

/-- A time between the least and the greatest one: the sample lies in what may be reached. -/
theorem smp_reach (s : List (Int × Int)) (z d q : Int) (sl : Int × Int) (h1 : timeN z d sl.1 ≤ timeN z d q) (h2 : timeN z d q ≤ timeN z d sl.2) : ins (smp s z d q) (reachB s z d sl) := by
  have h0 := timeN_nn z d sl.1
  unfold smp reachB
  by_cases h : (timeN z d q).toNat < s.length
  · rw [List.getD_eq_getElem?_getD, List.getElem?_eq_getElem h]
    have hj : (timeN z d q).toNat - (timeN z d sl.1).toNat < (s.drop (timeN z d sl.1).toNat).length := by rw [List.length_drop]; omega
    have := reachG_has (timeN z d sl.2) (s.drop (timeN z d sl.1).toNat) (timeN z d sl.1).toNat (decide (timeN z d sl.2 ≥ s.length)) (0, 0) _ hj (by omega)
    rw [List.getElem_drop] at this
    simpa [show (timeN z d sl.1).toNat + ((timeN z d q).toNat - (timeN z d sl.1).toNat) = (timeN z d q).toNat by omega] using this
  · rw [List.getD_eq_getElem?_getD, List.getElem?_eq_none (by omega)]
    have e : decide (timeN z d sl.2 ≥ (s.length : Int)) = true := by simp; omega
    rw [e]
    exact reachG_wide _ _ _ _

theorem isq_mono {a b : Int} (h0 : 0 ≤ a) (h : a ≤ b) (h1 : b ≤ 1099511627776) : isq a ≤ isq b := by
  obtain ⟨a0, a1, a2⟩ := isq_spec h0 (by omega)
  obtain ⟨b0, b1, b2⟩ := isq_spec (n := b) (by omega) h1
  have := sq_lt a0 (b := isq b + 1) (by omega) (by omega)
  omega

theorem timeN_mono {z d s t : Int} (hz : 0 ≤ z ∧ z ≤ 64) (hd : 0 ≤ d ∧ d ≤ 100000) (hs : 0 ≤ s) (h : s ≤ t) (ht : t ≤ 4096) : timeN z d s ≤ timeN z d t := by
  have m0 : 0 ≤ z * z ∧ z * z ≤ 64 * 64 := ⟨Int.mul_nonneg hz.1 hz.1, Int.mul_le_mul hz.2 hz.2 hz.1 (by omega)⟩
  have m1 : 0 ≤ s * d ∧ s * d ≤ 4096 * 100000 := ⟨Int.mul_nonneg hs hd.1, Int.mul_le_mul (by omega) hd.2 hd.1 (by omega)⟩
  have m2 : 0 ≤ t * d ∧ t * d ≤ 4096 * 100000 := ⟨Int.mul_nonneg (by omega) hd.1, Int.mul_le_mul (by omega) hd.2 hd.1 (by omega)⟩
  have m3 : s * d ≤ t * d := Int.mul_le_mul_of_nonneg_right h hd.1
  have q1 : (s * d).tdiv 64 = s * d / 64 := Int.tdiv_eq_ediv_of_nonneg m1.1
  have q2 : (t * d).tdiv 64 = t * d / 64 := Int.tdiv_eq_ediv_of_nonneg m2.1
  have e1 : IntKind.wrap .i64 (IntKind.wrap .i64 (z * z) + IntKind.wrap .i64 ((IntKind.wrap .i64 (s * d)).tdiv 64)) = z * z + s * d / 64 := by
    rw [w64 (n := z * z) (by omega) (by omega), w64 (n := s * d) (by omega) (by omega), q1, w64 (n := s * d / 64) (by omega) (by omega), w64 (by omega) (by omega)]
  have e2 : IntKind.wrap .i64 (IntKind.wrap .i64 (z * z) + IntKind.wrap .i64 ((IntKind.wrap .i64 (t * d)).tdiv 64)) = z * z + t * d / 64 := by
    rw [w64 (n := z * z) (by omega) (by omega), w64 (n := t * d) (by omega) (by omega), q2, w64 (n := t * d / 64) (by omega) (by omega), w64 (by omega) (by omega)]
  unfold timeN
  rw [e1, e2]
  unfold rootN
  rw [if_pos (by simp [btw]; omega), if_pos (by simp [btw]; omega)]
  exact isq_mono (by omega) (by omega) (by omega)

/-- Distances of echoes. -/
theorem dst_bd {x y : Int} {e : Echo} (hx : -64 ≤ x ∧ x ≤ 64) (hy : -64 ≤ y ∧ y ≤ 64) (he : (-64 ≤ e.x ∧ e.x ≤ 64) ∧ (-64 ≤ e.y ∧ e.y ≤ 64)) : dst x y e = (x - e.x) * (x - e.x) + (y - e.y) * (y - e.y) ∧ 0 ≤ dst x y e ∧ dst x y e ≤ 32768 := by
  have sq : ∀ a : Int, -128 ≤ a → a ≤ 128 → 0 ≤ a * a ∧ a * a ≤ 16384 := fun a h1 h2 => by
    rcases Int.le_total 0 a with h | h
    · exact ⟨Int.mul_nonneg h h, Int.mul_le_mul h2 h2 h (by omega)⟩
    · have e : a * a = (-a) * (-a) := by rw [Int.neg_mul_neg]
      rw [e]
      exact ⟨Int.mul_nonneg (by omega) (by omega), Int.mul_le_mul (c := 128) (d := 128) (by omega) (by omega) (by omega) (by omega)⟩
  have a1 := sq (x - e.x) (by omega) (by omega)
  have a2 := sq (y - e.y) (by omega) (by omega)
  have e1 : dst x y e = (x - e.x) * (x - e.x) + (y - e.y) * (y - e.y) := by
    unfold dst
    rw [show w (x - e.x) = x - e.x from w64 (by omega) (by omega), show w (y - e.y) = y - e.y from w64 (by omega) (by omega), show w ((x - e.x) * (x - e.x)) = _ from w64 (by omega) (by omega), show w ((y - e.y) * (y - e.y)) = _ from w64 (by omega) (by omega)]
    exact w64 (by omega) (by omega)
  omega

theorem nears_dst {aper x y : Int} : ∀ {l : List Echo} {k : Nat} {p : Int × Int}, p ∈ nears aper x y l k → ∃ i : Nat, ∃ h : i < l.length, p.1 = ((k + i : Nat) : Int) ∧ p.2 = dst x y l[i] ∧ hears aper x y l[i] = true
  | [], k, p, h => by simp [nears] at h
  | e :: r, k, p, h => by
    simp only [nears] at h
    have rest : p ∈ nears aper x y r (k + 1) → ∃ i : Nat, ∃ h : i < (e :: r).length, p.1 = ((k + i : Nat) : Int) ∧ p.2 = dst x y (e :: r)[i] ∧ hears aper x y (e :: r)[i] = true := fun h => by
      obtain ⟨i, h1, h2, h3, h4⟩ := nears_dst h
      exact ⟨i + 1, by simpa using h1, by rw [h2]; congr 1; omega, by simpa using h3, by simpa using h4⟩
    split at h
    · rename_i hh
      rcases List.mem_cons.1 h with rfl | h
      · exact ⟨0, by simp, by simp, rfl, hh⟩
      · exact rest h
    · exact rest h

theorem echoOk_spec {e : Echo} (h : echoOk e = true) : ((-64 ≤ e.x ∧ e.x ≤ 64) ∧ (-64 ≤ e.y ∧ e.y ≤ 64)) ∧ (1 ≤ e.s.length ∧ e.s.length ≤ 64) ∧ ∀ b ∈ e.s, -16777216 ≤ b.1 ∧ b.1 ≤ b.2 ∧ b.2 ≤ 16777216 := by
  simp only [echoOk, btw, Bool.and_eq_true, decide_eq_true_eq, List.all_eq_true, loud] at h
  obtain ⟨⟨⟨h1, h2⟩, h3⟩, h4⟩ := h
  exact ⟨by omega, by omega, fun b hb => by have := h4 b hb; omega⟩

theorem echoesOk_spec {l : List Echo} (h : echoesOk l = true) : l.length ≤ 32 ∧ ∀ e ∈ l, echoOk e = true := by
  simp only [echoesOk, Bool.and_eq_true, decide_eq_true_eq, List.all_eq_true] at h
  exact h

end Go.Proofs.Ytkifejklnpddbaa

/-! Plain facts for VolumeFar: what is named among all echoes, and among the near ones; contracts: Equal, Verify. -/
set_option linter.unusedVariables false
set_option linter.unusedSimpArgs false
set_option maxRecDepth 20000
set_option maxHeartbeats 2000000
namespace Go.Proofs.Ytkifejklnpddbaa
open Go.Am

/-- The near echoes, with where they are. -/
def pickE (aper x y : Int) : List Echo → Nat → List (Nat × Echo)
  | [], _ => []
  | e :: r, k => if hears aper x y e then (k, e) :: pickE aper x y r (k + 1) else pickE aper x y r (k + 1)

/-- What is named: where it is among all, where among the near ones, and the time. -/
def zipG (z slow x y : Int) : List (Nat × Echo) → Nat → List (Nat × Nat × Int)
  | [], _ => []
  | (q, e) :: r, j => if timeN z (dst x y e) slow < (e.s.length : Int) then (q, j, timeN z (dst x y e) slow) :: zipG z slow x y r (j + 1) else zipG z slow x y r (j + 1)

theorem pickE_spec {aper x y : Int} : ∀ {l : List Echo} {k : Nat} {p : Nat × Echo}, p ∈ pickE aper x y l k → k ≤ p.1 ∧ l[p.1 - k]? = some p.2 ∧ hears aper x y p.2 = true
  | [], k, p, h => by simp [pickE] at h
  | e :: r, k, p, h => by
    have hrec : p ∈ pickE aper x y r (k + 1) → k ≤ p.1 ∧ (e :: r)[p.1 - k]? = some p.2 ∧ hears aper x y p.2 = true := fun h => by
      obtain ⟨h1, h2, h3⟩ := pickE_spec h
      refine ⟨by omega, ?_, h3⟩
      rw [show p.1 - k = (p.1 - (k + 1)) + 1 by omega]; simpa using h2
    unfold pickE at h
    split at h
    · rename_i he
      rcases List.mem_cons.1 h with rfl | h
      · exact ⟨Nat.le_refl _, by simp, he⟩
      · exact hrec h
    · exact hrec h

theorem nears_pick {aper x y : Int} : ∀ {l : List Echo} {k : Nat}, nears aper x y l k = (pickE aper x y l k).map fun p => ((p.1 : Int), dst x y p.2)
  | [], k => rfl
  | e :: r, k => by
    unfold nears pickE
    split
    · rw [nears_pick]; rfl
    · exact nears_pick

theorem named_zip {aper slow x y z : Int} {l : List Echo} : ∀ (P : List (Nat × Echo)) (j : Nat), (∀ p ∈ P, l[p.1]? = some p.2) →
    (P.map fun p => ((p.1 : Int), dst x y p.2)).filterMap (refOf ⟨l, aper, (slow, slow)⟩ z) = (zipG z slow x y P j).map fun a => ((a.1 : Int), a.2.2)
  | [], j, _ => rfl
  | (q, e) :: r, j, h => by
    have h1 := h (q, e) (by simp)
    have ih := named_zip (aper := aper) (slow := slow) (x := x) (y := y) (z := z) r (j + 1) (fun p hp => h p (List.mem_cons_of_mem _ hp))
    simp only [List.map_cons, List.filterMap_cons, refOf, Int.toNat_natCast, h1, Option.map_some, Option.getD_some, zipG]
    by_cases ht : timeN z (dst x y e) slow < (e.s.length : Int)
    · simp only [ht, if_true, List.map_cons]
      rw [← ih]
    · simp only [ht, if_false]
      rw [← ih]

theorem named_near {aper slow x y z : Int} {nl : List Echo} : ∀ (P : List (Nat × Echo)) (j : Nat), (∀ i (h : i < P.length), nl[j + i]? = some P[i].2) → (∀ p ∈ P, hears aper x y p.2 = true) →
    (nears aper x y (P.map (·.2)) j).filterMap (refOf ⟨nl, aper, (slow, slow)⟩ z) = (zipG z slow x y P j).map fun a => ((a.2.1 : Int), a.2.2)
  | [], j, _, _ => rfl
  | (q, e) :: r, j, h, hh => by
    have h0 : hears aper x y e = true := hh (q, e) (by simp)
    have h1 : nl[j]? = some e := h 0 (by simp)
    have ih := named_near (aper := aper) (slow := slow) (x := x) (y := y) (z := z) (nl := nl) r (j + 1) (fun i hi => by
      have := h (i + 1) (by simpa using hi)
      rw [show j + 1 + i = j + (i + 1) by omega]; simpa using this) (fun p hp => hh p (List.mem_cons_of_mem _ hp))
    simp only [List.map_cons, nears, h0, if_true, List.filterMap_cons, refOf, Int.toNat_natCast, h1, Option.map_some, Option.getD_some, zipG]
    by_cases ht : timeN z (dst x y e) slow < (e.s.length : Int)
    · simp only [ht, if_true, List.map_cons]
      rw [← ih]
    · simp only [ht, if_false]
      rw [← ih]

theorem zipG_spec {z slow x y : Int} : ∀ {P : List (Nat × Echo)} {j : Nat} {a : Nat × Nat × Int}, a ∈ zipG z slow x y P j → ∃ e, j ≤ a.2.1 ∧ P[a.2.1 - j]? = some (a.1, e) ∧ a.2.2 = timeN z (dst x y e) slow ∧ a.2.2 < (e.s.length : Int)
  | [], j, a, h => by simp [zipG] at h
  | (q, e) :: r, j, a, h => by
    have hrec : a ∈ zipG z slow x y r (j + 1) → ∃ e', j ≤ a.2.1 ∧ ((q, e) :: r)[a.2.1 - j]? = some (a.1, e') ∧ a.2.2 = timeN z (dst x y e') slow ∧ a.2.2 < (e'.s.length : Int) := fun h => by
      obtain ⟨e', h1, h2, h3, h4⟩ := zipG_spec h
      refine ⟨e', by omega, ?_, h3, h4⟩
      rw [show a.2.1 - j = (a.2.1 - (j + 1)) + 1 by omega]; simpa using h2
    unfold zipG at h
    split at h
    · rename_i ht
      rcases List.mem_cons.1 h with rfl | h
      · exact ⟨e, Nat.le_refl _, by simp, rfl, ht⟩
      · exact hrec h
    · exact hrec h

theorem pick_sorted {aper x y : Int} : ∀ (l : List Echo) (k : Nat), (pickE aper x y l k).Pairwise fun a b => a.1 < b.1
  | [], k => by simp [pickE]
  | e :: r, k => by
    unfold pickE
    split
    · refine List.pairwise_cons.2 ⟨fun p hp => ?_, pick_sorted r (k + 1)⟩
      have := (pickE_spec hp).1
      show k < p.1
      omega
    · exact pick_sorted r (k + 1)

theorem zip_sorted {z slow x y : Int} : ∀ (P : List (Nat × Echo)) (j : Nat), (P.Pairwise fun a b => a.1 < b.1) → (zipG z slow x y P j).Pairwise fun a b => a.1 < b.1
  | [], j, _ => by simp [zipG]
  | (q, e) :: r, j, h => by
    obtain ⟨h1, h2⟩ := List.pairwise_cons.1 h
    unfold zipG
    split
    · refine List.pairwise_cons.2 ⟨fun a ha => ?_, zip_sorted r (j + 1) h2⟩
      obtain ⟨e', _, g, _⟩ := zipG_spec ha
      exact h1 _ (List.mem_of_getElem? g)
    · exact zip_sorted r (j + 1) h2

/-- What is named among all, and among the near ones. -/
structure FarR (l : List Echo) (aper slow x y z : Int) (nl : List Echo) (wh : List Int) (A B : List (Int × Int)) : Prop where
  len : A.length = B.length
  each : ∀ i (h : i < A.length) (h' : i < B.length), ∃ (q t j : Nat) (hq : q < l.length) (ht : t < l[q].s.length) (hj : j < wh.length), A[i] = ((q : Int), (t : Int)) ∧ B[i] = ((j : Int), (t : Int)) ∧ wh[j] = (q : Int) ∧ boundAt ⟨l, aper, (slow, slow)⟩ A[i] = l[q].s[t]
  up : ∀ i j (h : i < A.length) (h' : j < A.length), i < j → A[i].1 < A[j].1
  named : namedL ⟨l, aper, (slow, slow)⟩ x y z = A
  namedN : namedL ⟨nl, aper, (slow, slow)⟩ x y z = B
  value : valueB ⟨nl, aper, (slow, slow)⟩ x y z = valueB ⟨l, aper, (slow, slow)⟩ x y z

theorem far_of (l : List Echo) (aper slow x y z : Int) : ∃ A B, FarR l aper slow x y z ((pickE aper x y l 0).map (·.2)) ((pickE aper x y l 0).map fun p => (p.1 : Int)) A B := by
  have hP : ∀ p ∈ pickE aper x y l 0, l[p.1]? = some p.2 := fun p hp => by simpa using (pickE_spec hp).2.1
  have hH : ∀ p ∈ pickE aper x y l 0, hears aper x y p.2 = true := fun p hp => (pickE_spec hp).2.2
  have e1 : namedL ⟨l, aper, (slow, slow)⟩ x y z = (zipG z slow x y (pickE aper x y l 0) 0).map fun a => ((a.1 : Int), a.2.2) := by
    unfold namedL
    rw [nears_pick]
    exact named_zip (x := x) (y := y) _ 0 hP
  have e2 : namedL ⟨(pickE aper x y l 0).map (·.2), aper, (slow, slow)⟩ x y z = (zipG z slow x y (pickE aper x y l 0) 0).map fun a => ((a.2.1 : Int), a.2.2) := by
    unfold namedL
    exact named_near _ 0 (fun i h => by rw [Nat.zero_add, List.getElem?_map, List.getElem?_eq_getElem h]; rfl) hH
  have hz : ∀ a ∈ zipG z slow x y (pickE aper x y l 0) 0, ∃ (t j : Nat) (e : Echo) (hj : j < (pickE aper x y l 0).length) (ht : t < e.s.length), a = (a.1, j, (t : Int)) ∧ (pickE aper x y l 0)[j] = (a.1, e) := fun a ha => by
    obtain ⟨e, h1, h2, h3, h4⟩ := zipG_spec ha
    have h5 := timeN_nn z (dst x y e) slow
    rw [Nat.sub_zero] at h2
    have hj := (List.getElem?_eq_some_iff.1 h2).1
    obtain ⟨t, ht⟩ : ∃ t : Nat, a.2.2 = (t : Int) := ⟨a.2.2.toNat, by omega⟩
    refine ⟨t, a.2.1, e, hj, by omega, ?_, (List.getElem?_eq_some_iff.1 h2).2⟩
    rw [← ht]
  have bnd : ∀ a ∈ zipG z slow x y (pickE aper x y l 0) 0, boundAt ⟨(pickE aper x y l 0).map (·.2), aper, (slow, slow)⟩ ((a.2.1 : Int), a.2.2) = boundAt ⟨l, aper, (slow, slow)⟩ ((a.1 : Int), a.2.2) := fun a ha => by
    obtain ⟨t, j, e, hj, ht, h1, h2⟩ := hz a ha
    have h3 : (a.1, e) ∈ pickE aper x y l 0 := h2 ▸ List.getElem_mem hj
    have h4 := hP _ h3
    rw [h1]
    simp only [boundAt, Int.toNat_natCast, List.getElem?_map, List.getElem?_eq_getElem hj, h2, h4, Option.map_some]
  refine ⟨_, _, ⟨by rw [List.length_map, List.length_map], fun i h h' => ?_, fun i j h h' hij => ?_, e1, e2, ?_⟩⟩
  · rw [List.length_map] at h
    obtain ⟨t, j, e, hj, ht, h1, h2⟩ := hz _ (List.getElem_mem h)
    obtain ⟨q0, hq0⟩ : ∃ q0, (zipG z slow x y (pickE aper x y l 0) 0)[i].1 = q0 := ⟨_, rfl⟩
    rw [hq0] at h1 h2
    have h3 : l[q0]? = some e := hP _ (h2 ▸ List.getElem_mem hj)
    obtain ⟨hq, h4⟩ := List.getElem?_eq_some_iff.1 h3
    subst h4
    refine ⟨_, t, j, hq, ht, by simpa using hj, ?_, ?_, ?_, ?_⟩
    · rw [List.getElem_map, h1]
    · rw [List.getElem_map, h1]
    · rw [List.getElem_map, h2]
    · rw [List.getElem_map, h1]
      simp only [boundAt, Int.toNat_natCast, h3, Option.map_some, Option.getD_some, List.getElem?_eq_getElem ht]
  · rw [List.length_map] at h h'
    rw [List.getElem_map, List.getElem_map]
    have := List.pairwise_iff_getElem.1 (zip_sorted (z := z) (slow := slow) (x := x) (y := y) _ 0 (pick_sorted l 0 (aper := aper) (x := x) (y := y))) i j h h' hij
    exact Int.ofNat_lt.2 this
  · unfold valueB
    rw [e1, e2, List.map_map, List.map_map]
    congr 1
    exact List.map_congr_left fun a ha => bnd a ha

theorem pickE_append (aper x y : Int) : ∀ (a b : List Echo) (k : Nat), pickE aper x y (a ++ b) k = pickE aper x y a k ++ pickE aper x y b (k + a.length)
  | [], b, k => by simp [pickE]
  | e :: r, b, k => by
    have ih := pickE_append aper x y r b (k + 1)
    simp only [List.cons_append, pickE, ih, List.length_cons]
    rw [show k + 1 + r.length = k + (r.length + 1) by omega]
    split
    · rfl
    · rfl

theorem pickE_take {aper x y : Int} {l : List Echo} {i : Nat} (h : i < l.length) : pickE aper x y (l.take (i + 1)) 0 = pickE aper x y (l.take i) 0 ++ if hears aper x y l[i] then [(i, l[i])] else [] := by
  rw [List.take_add_one, List.getElem?_eq_getElem h, pickE_append]
  simp only [Option.toList, pickE, List.length_take, Nat.zero_add, Nat.min_eq_left (Nat.le_of_lt h)]

theorem pickE_len {aper x y : Int} : ∀ (l : List Echo) (k : Nat), (pickE aper x y l k).length ≤ l.length
  | [], k => by simp [pickE]
  | e :: r, k => by
    have := pickE_len (aper := aper) (x := x) (y := y) r (k + 1)
    unfold pickE
    split <;> simp <;> omega

/-! ### Contracts -/
attribute [local simp] cells scalar mkv splice under2 under dem dem1 eB

theorem c_EqualR (l l' : List (Int × Int)) (hl : l.length ≤ 9223372036854775807) : C Try.prog F.slices_Equal_api_Ref_api_Ref [.slice 0 2 (l.map eB), .slice 0 2 (l'.map eB)] (.bool (decide (l = l'))) := by
  refine C_of mixed chk.slices_Equal_api_Ref_api_Ref (by simp) fun S ok => ?_
  refine Tr.seqR rfl (by simp) (Tr.seq (Tr.seqR rfl (by simp) ?_))
  refine Tr.cond rfl rfl (fun h1 => Tr.seqR rfl (by simp) (Tr.retX rfl rfl rfl ?_ trivial)) (fun h1 => Tr.skip ?_)
  · have h1 : (((l.map eB).length : Int) != ((l'.map eB).length : Int)) = true := h1
    simp only [packR, V.bool.injEq]
    rw [decide_eq_false]
    rintro rfl
    simp at h1
  have h1 : (((l.map eB).length : Int) != ((l'.map eB).length : Int)) = false := h1
  have hll : l.length = l'.length := by simp at h1; omega
  refine Tr.seq (Tr.seqR rfl (by simp) (Tr.block ?_))
  refine Tr.loop (fun k st => (k ≤ l.length ∧ l.take k = l'.take k) ∧ st = { env := [(0, .slice 0 2 (l.map eB)), (1, .slice 0 2 (l'.map eB)), (12, I l.length), (13, I k)], bx := [], rw := [], log := [], stp := false }) (fun k => l.length - k) 0
    (Wk.le (.cons rfl (.refl _) (.cons rfl (.refl _) (.cons rfl (VLe.i (by simp)) (.cons rfl (.refl _) .nil)))) .nil .nil rfl rfl) ⟨⟨by omega, by simp⟩, rfl⟩ ?_
  rintro k st ⟨⟨hk, he⟩, rfl⟩
  refine Tr.seqR rfl (by simp) (Tr.seqI rfl (fun h3 => ?_) (fun h3 => ?_))
  · have h3 : k < l.length := by simpa using h3
    have h4 : k < l'.length := by omega
    refine Tr.skipT (Tr.seq (Tr.block (Tr.seqR rfl (by simp) (Tr.seq (Tr.drawK (TraceK.runN 3 rfl (by simp; omega) ?_))))))
    rw [getD_map h3]
    refine TraceK.runN 4 rfl (by simp; omega) ?_
    rw [getD_map h4]
    refine TraceK.run rfl (by simp) (.done ⟨by kernel_rfl, by kernel_rfl, ?_⟩)
    refine Tr.cond rfl rfl (fun h5 => Tr.seqR rfl (by simp) (Tr.retX rfl rfl rfl ?_ trivial)) (fun h5 => Tr.skip (Tr.regR rfl (by simp) ?_))
    · have h5 : (!(l[k].1 == l'[k].1 && (l[k].2 == l'[k].2 && true))) = true := h5
      rw [eB_inj] at h5
      simp only [packR, V.bool.injEq]
      rw [decide_eq_false]
      rintro rfl
      simp at h5
    · have h5 : (!(l[k].1 == l'[k].1 && (l[k].2 == l'[k].2 && true))) = false := h5
      rw [eB_inj] at h5
      have h5 : l[k] = l'[k] := by simpa using h5
      exact ⟨k + 1, _, Wk.le (.cons rfl (.refl _) (.cons rfl (.refl _) (.cons rfl (.refl _) (.cons rfl (VLe.i (w64 (by omega) (by omega))) .nil)))) .nil .nil rfl rfl, ⟨⟨h3, take_ext h3 h4 he h5⟩, rfl⟩, by omega⟩
  · have h3 : k = l.length := by simp at h3; omega
    subst h3
    refine Tr.exit (Tr.seqR rfl (by simp) (Tr.retX rfl rfl rfl ?_ trivial))
    rw [List.take_length, hll, List.take_length] at he
    simp [packR, he]

theorem c_Verify {l : List Echo} (hl : sane l) (x y z aper slow : Int) {a b c e : Int} {s s' : Int × Int} {r r' : List (Int × Int)} (hN : nameS l x y z aper slow = .tuple [.agg [I a, I b, I c, .slice 0 2 (r.map eB), I s.1, I s.2], I e]) (hr : r.length ≤ 9223372036854775807) :
    C Try.prog F.volume_Verify [sE l, I aper, I slow, .agg [I x, I y, I z, .slice 0 2 (r'.map eB), I s'.1, I s'.2]] (.tuple [.bool (decide (e = 0) && decide (s = s' ∧ r = r')), I e]) := by
  refine C_of mixed chk.volume_Verify (by simp) fun S ok => ?_
  refine Tr.seqR rfl (by simp) ?_
  refine Tr.seqC rfl (by simp) (Steps.call rfl rfl (hN ▸ c_NameS hl x y z aper slow) (Steps.fin rfl (by simp) ?_))
  refine Tr.seq (Tr.seqR rfl (by simp) (Tr.cond rfl rfl (fun h => Tr.seqR rfl (by simp) (Tr.retX rfl rfl rfl ?_ trivial)) (fun h => Tr.skip ?_)))
  · have h : (e != 0) = true := h
    have h : e ≠ 0 := by simpa using h
    simp [packR, h]
  have h : (e != 0) = false := h
  have h : e = 0 := by simpa using h
  subst h
  refine Tr.seqC rfl (by simp) (Steps.gcall rfl rfl rfl rfl (by simp) (fun _ => c_EqualR r r' hr) (Steps.fin rfl (by simp) (Tr.retX rfl rfl rfl ?_ trivial)))
  have e1 : (bif (s.1 == s'.1 && (s.2 == s'.2 && true)) then decide (r = r') else false) = (decide ((0 : Int) = 0) && decide (s = s' ∧ r = r')) := by
    rw [eB_inj]
    by_cases h1 : s = s' <;> by_cases h2 : r = r' <;> simp [h1, h2]
  show _ = V.tuple [.bool (bif (s.1 == s'.1 && (s.2 == s'.2 && true)) then decide (r = r') else false), I 0]
  rw [e1]

theorem c_added (a b : Int × Int) : C Try.prog F.law10_added [eB a, eB b] (eB (plusB a b)) := by
  refine C_of mixed chk.law10_added (by simp) fun S ok => ?_
  refine Tr.seqR rfl (by simp) ?_
  exact Tr.seqR rfl (by simp) (Tr.retQ rfl rfl rfl trivial)

end Go.Proofs.Ytkifejklnpddbaa

/-! Plain facts: the places of a box by their indices; joins both ways; parts of a volume. -/
set_option linter.unusedVariables false
set_option linter.unusedSimpArgs false
set_option maxRecDepth 20000
namespace Go.Proofs.Ytkifejklnpddbaa
open Go.Am

theorem btw_iff (n lo hi : Int) : btw n lo hi = true ↔ lo ≤ n ∧ n ≤ hi := by
  simp only [btw, Bool.and_eq_true, decide_eq_true_eq, ge_iff_le]

def cidx (b : Bx) (p : Int × Int × Int) : Int := idxOf b p.1 p.2.1 p.2.2
def natI (k : Nat) : Int := (k : Int)

theorem idx_at (b : Bx) (x y z B C : Nat) (hB : b.b = (B : Int)) (hC : b.c = (C : Int)) : idxOf b (b.x + (x : Int)) (b.y + (y : Int)) (b.z + (z : Int)) = (((x * B + y) * C + z : Nat) : Int) := by
  unfold idxOf
  rw [hB, hC, show b.x + (x : Int) - b.x = (x : Int) by omega, show (x : Int) * (B : Int) + (b.y + (y : Int)) - b.y = (x : Int) * (B : Int) + (y : Int) by omega]
  push_cast
  omega

theorem zs_idx (b : Bx) (x y B C : Nat) (hB : b.b = (B : Int)) (hC : b.c = (C : Int)) : ∀ n, (zsC b x y n).map (cidx b) = (List.range' ((x * B + y) * C) n).map natI
  | 0 => by simp [zsC]
  | n + 1 => by
    rw [zsC_succ, List.range'_1_concat, List.map_append, List.map_append, zs_idx b x y B C hB hC n]
    congr 1
    simp only [List.map_cons, List.map_nil, cidx, idx_at b x y n B C hB hC, natI]

theorem ys_idx (b : Bx) (x B C : Nat) (hB : b.b = (B : Int)) (hC : b.c = (C : Int)) : ∀ n, (ysC b x n).map (cidx b) = (List.range' (x * B * C) (n * C)).map natI
  | 0 => by simp [ysC]
  | n + 1 => by
    have e0 : b.c.toNat = C := by omega
    have e : List.range' (x * B * C) ((n + 1) * C) = List.range' (x * B * C) (n * C) ++ List.range' ((x * B + n) * C) C := by
      rw [show (x * B + n) * C = x * B * C + n * C by rw [Nat.add_mul], List.range'_append_1, Nat.succ_mul]
    rw [ysC_succ, List.map_append, ys_idx b x B C hB hC n, e0, zs_idx b x n B C hB hC, e, List.map_append]

theorem xs_idx (b : Bx) (B C : Nat) (hB : b.b = (B : Int)) (hC : b.c = (C : Int)) : ∀ n, (xsC b n).map (cidx b) = (List.range' 0 (n * (B * C))).map natI
  | 0 => by simp [xsC]
  | n + 1 => by
    have e0 : b.b.toNat = B := by omega
    have e : List.range' 0 ((n + 1) * (B * C)) = List.range' 0 (n * (B * C)) ++ List.range' (n * B * C) (B * C) := by
      rw [show n * B * C = 0 + n * (B * C) by rw [Nat.zero_add, Nat.mul_assoc], List.range'_append_1, Nat.succ_mul]
    rw [xsC_succ, List.map_append, xs_idx b B C hB hC n, e0, ys_idx b n B C hB hC, e, List.map_append]

theorem cells_idx (b : Bx) (h : 0 ≤ b.b ∧ 0 ≤ b.c) : (boxCells b).map (cidx b) = (List.range (boxCells b).length).map natI := by
  have e := xs_idx b b.b.toNat b.c.toNat (Int.toNat_of_nonneg h.1).symm (Int.toNat_of_nonneg h.2).symm b.a.toNat
  have hl : (boxCells b).length = b.a.toNat * (b.b.toNat * b.c.toNat) := xsC_len b _
  rw [hl, List.range_eq_range']
  exact e

theorem cell_idx {b : Bx} (h : 0 ≤ b.b ∧ 0 ≤ b.c) {i : Nat} (hi : i < (boxCells b).length) : cidx b (boxCells b)[i] = (i : Int) := by
  have e := congrArg (fun l => l[i]?) (cells_idx b h)
  simp only [List.getElem?_map, List.getElem?_eq_getElem hi, Option.map_some] at e
  rw [List.getElem?_range hi] at e
  simpa [natI] using e

theorem mem_box {b : Bx} {p : Int × Int × Int} : p ∈ boxCells b ↔ hasP b p = true := by
  obtain ⟨x, y, z⟩ := p
  simp only [boxCells, xsC, ysC, zsC, List.mem_flatMap, List.mem_map, List.mem_range, hasP, hasB, btw, Bool.and_eq_true, decide_eq_true_eq, Prod.mk.injEq]
  constructor
  · rintro ⟨i, hi, j, hj, k, hk, h1, h2, h3⟩; omega
  · rintro ⟨⟨⟨h1, h2⟩, h3, h4⟩, h5, h6⟩
    exact ⟨(x - b.x).toNat, by omega, (y - b.y).toNat, by omega, (z - b.z).toNat, by omega, by omega, by omega, by omega⟩

theorem vol_cells {v : Vol} (h : volOk v = true) : (boxCells v.b).map (atV v) = v.v := by
  obtain ⟨hb, hl, _⟩ := volOk_spec h
  have hs := small_spec (boxOk_spec hb).1
  have hlen : (boxCells v.b).length = v.v.length := by
    have := boxCells_len' v.b (by omega)
    unfold manyI at hl; omega
  refine List.ext_getElem (by simpa using hlen) fun i h1 h2 => ?_
  have hi : i < (boxCells v.b).length := by simpa using h1
  rw [List.getElem_map]
  exact atV_eq (cell_idx (by omega) hi) h2

theorem atV_made {u : Bx} (h : 0 ≤ u.b ∧ 0 ≤ u.c) {f : Int × Int × Int → Int} {p : Int × Int × Int} (hp : p ∈ boxCells u) : atV ⟨u, (boxCells u).map f⟩ p = f p := by
  obtain ⟨i, hi, rfl⟩ := List.mem_iff_getElem.1 hp
  have e : idxOf u (boxCells u)[i].1 (boxCells u)[i].2.1 (boxCells u)[i].2.2 = (i : Int) := cell_idx h hi
  unfold atV
  rw [e, Int.toNat_natCast, List.getD_eq_getElem?_getD, List.getElem?_map, List.getElem?_eq_getElem hi]
  rfl

/-! ### Joins -/
def joined (a b : Vol) : Vol := ⟨aroundB a.b b.b, (boxCells (aroundB a.b b.b)).map (pickV a b)⟩
structure joinOk (a b : Vol) : Prop where
  oka : volOk a = true
  okb : volOk b = true
  many : manyI (aroundB a.b b.b) = manyI a.b + manyI b.b - commonI a.b b.b
  small : smallB (aroundB a.b b.b) = true
  same : (boxCells (aroundB a.b b.b)).any (clash a b) = false

theorem join_cases (nl : V) (a b : Vol) : (joinOk a b ∧ joinR nl a b = .tuple [.agg (volC (joined a b)), I 0]) ∨ (¬ joinOk a b ∧ ∃ e, e ≠ 0 ∧ joinR nl a b = errVol nl e) := by
  unfold joinR
  by_cases h1 : volOk a = true
  · by_cases h2 : volOk b = true
    · by_cases h3 : manyI (aroundB a.b b.b) = manyI a.b + manyI b.b - commonI a.b b.b
      · by_cases h4 : smallB (aroundB a.b b.b) = true
        · by_cases h5 : (boxCells (aroundB a.b b.b)).any (clash a b) = true
          · exact .inr ⟨fun h => (by rw [h.same] at h5; cases h5), 104, by omega, by rw [if_pos h1, if_pos h2, if_pos h3, if_pos h4, if_pos h5]⟩
          · exact .inl ⟨⟨h1, h2, h3, h4, by simpa using h5⟩, by rw [if_pos h1, if_pos h2, if_pos h3, if_pos h4, if_neg h5]; rfl⟩
        · exact .inr ⟨fun h => h4 h.small, 3, by omega, by rw [if_pos h1, if_pos h2, if_pos h3, if_neg h4]⟩
      · exact .inr ⟨fun h => h3 h.many, 103, by omega, by rw [if_pos h1, if_pos h2, if_neg h3]⟩
    · exact .inr ⟨fun h => h2 h.okb, 101, by omega, by rw [if_pos h1, if_neg h2]⟩
  · exact .inr ⟨fun h => h1 h.oka, 101, by omega, by rw [if_neg h1]⟩

theorem around_comm (a b : Bx) : aroundB a b = aroundB b a := by
  unfold aroundB
  congr 1 <;> omega

theorem cut1_comm (p q x y : Int) : cut1 p q x y = cut1 q p y x := by unfold cut1; omega

theorem common_comm (a b : Bx) : commonI a b = commonI b a := by
  unfold commonI
  rw [cut1_comm (a.x + a.a - 1), cut1_comm (a.y + a.b - 1), cut1_comm (a.z + a.c - 1)]

theorem clash_comm (a b : Vol) (p : Int × Int × Int) : clash a b p = clash b a p := by
  unfold clash
  have e : (atV a p != atV b p) = (atV b p != atV a p) := bne_comm
  rw [Bool.and_comm (hasP a.b p), e]

theorem joinOk.comm {a b : Vol} (h : joinOk a b) : joinOk b a := by
  refine ⟨h.okb, h.oka, ?_, by rw [around_comm]; exact h.small, ?_⟩
  · rw [around_comm, common_comm, h.many]; omega
  · rw [around_comm, ← h.same]
    congr 1
    funext p; exact clash_comm b a p

theorem joinOk.cov {a b : Vol} (h : joinOk a b) : ∀ p ∈ boxCells (aroundB a.b b.b), hasP a.b p = true ∨ hasP b.b p = true := by
  have ga := small_spec (boxOk_spec (volOk_spec h.oka).1).1
  have gb := small_spec (boxOk_spec (volOk_spec h.okb).1).1
  exact cover (by omega) (by omega) h.many

theorem pick_a {a b : Vol} {p : Int × Int × Int} (hp : hasP a.b p = true) : pickV a b p = atV a p := by
  unfold pickV; rw [if_pos hp]

theorem joinOk.pick_b {a b : Vol} (h : joinOk a b) {p : Int × Int × Int} (hu : p ∈ boxCells (aroundB a.b b.b)) (hp : hasP b.b p = true) : pickV a b p = atV b p := by
  unfold pickV
  by_cases ha : hasP a.b p = true
  · rw [if_pos ha]
    have h1 := List.any_eq_false.1 h.same p hu
    simp only [clash, ha, hp, Bool.and_self, Bool.true_and] at h1
    simpa using h1
  · rw [if_neg ha]

theorem joined_comm {a b : Vol} (h : joinOk a b) : joined a b = joined b a := by
  unfold joined
  rw [around_comm b.b a.b]
  congr 1
  refine List.map_congr_left fun p hp => ?_
  rcases h.cov p hp with h1 | h1
  · rw [pick_a h1]
    have := h.comm.pick_b (p := p) (by rw [around_comm]; exact hp) h1
    rw [this]
  · rw [h.pick_b hp h1, pick_a h1]

theorem atV_bd {v : Vol} (h : volOk v = true) (p : Int × Int × Int) : -1099511627776 ≤ atV v p ∧ atV v p ≤ 1099511627776 := by
  obtain ⟨_, _, hv⟩ := volOk_spec h
  unfold atV
  rw [List.getD_eq_getElem?_getD]
  by_cases hi : (idxOf v.b p.1 p.2.1 p.2.2).toNat < v.v.length
  · rw [List.getElem?_eq_getElem hi]; exact hv _ (List.getElem_mem hi)
  · rw [List.getElem?_eq_none (by omega)]; simp

theorem volOk_made {u : Bx} {f : Int × Int × Int → Int} (hu : boxOk u = true) (hf : ∀ p ∈ boxCells u, -1099511627776 ≤ f p ∧ f p ≤ 1099511627776) : volOk ⟨u, (boxCells u).map f⟩ = true := by
  have hs := small_spec (boxOk_spec hu).1
  have hl := boxCells_len' u (by omega)
  simp only [volOk, hu, Bool.true_and, Bool.and_eq_true, decide_eq_true_eq, List.all_eq_true, List.length_map, btw]
  refine ⟨hl, fun n hn => ?_⟩
  obtain ⟨p, hp, rfl⟩ := List.mem_map.1 hn
  exact hf p hp

theorem around_ok {a b : Bx} (ha : boxOk a = true) (hb : boxOk b = true) (hs : smallB (aroundB a b) = true) : boxOk (aroundB a b) = true := by
  have g := small_spec hs
  simp only [boxOk, Bool.and_eq_true, cellOk, btw, decide_eq_true_eq] at ha hb ⊢
  refine ⟨⟨hs, ?_⟩, ?_⟩ <;> simp only [aroundB] <;> omega

theorem joined_ok {a b : Vol} (h : joinOk a b) : volOk (joined a b) = true := by
  refine volOk_made (around_ok (volOk_spec h.oka).1 (volOk_spec h.okb).1 h.small) fun p _ => ?_
  unfold pickV
  split
  · exact atV_bd h.oka p
  · exact atV_bd h.okb p

/-! ### Parts -/
def lastP (b : Bx) : Int × Int × Int := (b.x + b.a - 1, b.y + b.b - 1, b.z + b.c - 1)
def cutOk (v : Vol) (b : Bx) : Bool := boxOk b && hasP v.b (b.x, b.y, b.z) && hasP v.b (lastP b)
def part (v : Vol) (b : Bx) : Vol := ⟨b, (boxCells b).map (atV v)⟩
def cutR (nl : V) (v : Vol) (b : Bx) : V := if volOk v then (if cutOk v b then .tuple [.agg (volC (part v b)), I 0] else errVol nl 102) else errVol nl 101

theorem cut_in {v : Vol} {b : Bx} (h : cutOk v b = true) {p : Int × Int × Int} (hp : p ∈ boxCells b) : p ∈ boxCells v.b := by
  rw [mem_box] at hp ⊢
  have h2 : hasB v.b (b.x + b.a - 1) (b.y + b.b - 1) (b.z + b.c - 1) = true := by simp only [cutOk, Bool.and_eq_true] at h; exact h.2
  have h1 : hasB v.b b.x b.y b.z = true := by simp only [cutOk, Bool.and_eq_true] at h; exact h.1.2
  have hp : hasB b p.1 p.2.1 p.2.2 = true := hp
  show hasB v.b p.1 p.2.1 p.2.2 = true
  simp only [hasB, Bool.and_eq_true, btw, decide_eq_true_eq] at h1 h2 hp ⊢
  omega

theorem cut_a {a b : Vol} (h : joinOk a b) : cutOk (joined a b) a.b = true ∧ part (joined a b) a.b = a := by
  have hba := (volOk_spec h.oka).1
  have g := small_spec (boxOk_spec hba).1
  have gu := small_spec h.small
  have hc : cutOk (joined a b) a.b = true := by
    have e1 : hasB (aroundB a.b b.b) a.b.x a.b.y a.b.z = true := by simp only [hasB, Bool.and_eq_true, btw_iff, aroundB]; omega
    have e2 : hasB (aroundB a.b b.b) (a.b.x + a.b.a - 1) (a.b.y + a.b.b - 1) (a.b.z + a.b.c - 1) = true := by simp only [hasB, Bool.and_eq_true, btw_iff, aroundB]; omega
    unfold cutOk
    rw [hba, Bool.true_and, Bool.and_eq_true]
    exact ⟨e1, e2⟩
  refine ⟨hc, ?_⟩
  unfold part
  have e : (boxCells a.b).map (atV (joined a b)) = a.v := by
    rw [← vol_cells h.oka]
    refine List.map_congr_left fun p hp => ?_
    rw [show atV (joined a b) p = pickV a b p from atV_made (u := aroundB a.b b.b) (f := pickV a b) (by omega) (cut_in hc hp), pick_a (mem_box.1 hp)]
  rw [e]

theorem cut_b {a b : Vol} (h : joinOk a b) : cutOk (joined a b) b.b = true ∧ part (joined a b) b.b = b := by
  rw [joined_comm h]; exact cut_a h.comm

end Go.Proofs.Ytkifejklnpddbaa

/-! The law VolumeFar. -/
set_option linter.unusedVariables false
set_option linter.unusedSimpArgs false
set_option maxRecDepth 20000
set_option maxHeartbeats 4000000
namespace Go.Proofs.Ytkifejklnpddbaa
open Go.Am
attribute [local simp] cells scalar mkv splice under2 under dem dem1 cellC eE sB eB

theorem getD_natF {α : Type} {e : α → V} {l : List α} {k : Nat} (h : k < l.length) : (l.map e).getD k nothing = e l[k] := by
  simp [h]

theorem sq_swap (a b : Int) : (a - b) * (a - b) = (b - a) * (b - a) := by
  rw [← Int.neg_mul_neg (b - a), Int.neg_sub]

theorem sq_bd {a : Int} (h : -128 ≤ a ∧ a ≤ 128) : 0 ≤ a * a ∧ a * a ≤ 16384 := by
  rcases Int.le_total 0 a with h0 | h0
  · have := Int.mul_le_mul h.2 h.2 h0 (show (0 : Int) ≤ 128 by omega)
    exact ⟨Int.mul_nonneg h0 h0, by omega⟩
  · have h1 : 0 ≤ -a := by omega
    have := Int.mul_le_mul (show -a ≤ 128 by omega) (show -a ≤ 128 by omega) h1 (show (0 : Int) ≤ 128 by omega)
    have h2 := Int.mul_nonneg h1 h1
    rw [Int.neg_mul_neg] at this h2
    exact ⟨h2, by omega⟩

theorem near_cond {x y aper : Int} {e : Echo} (hx : -64 ≤ x ∧ x ≤ 64) (hy : -64 ≤ y ∧ y ≤ 64) (he : (-64 ≤ e.x ∧ e.x ≤ 64) ∧ (-64 ≤ e.y ∧ e.y ≤ 64)) :
    decide (IntKind.i64.wrap (IntKind.i64.wrap (IntKind.i64.wrap (e.x - x) * IntKind.i64.wrap (e.x - x)) + IntKind.i64.wrap (IntKind.i64.wrap (e.y - y) * IntKind.i64.wrap (e.y - y))) ≤ IntKind.i64.wrap (aper * aper)) = hears aper x y e := by
  obtain ⟨h1, h2, h3⟩ := dst_bd hx hy he
  have m1 := sq_bd (a := e.x - x) (by omega)
  have m2 := sq_bd (a := e.y - y) (by omega)
  unfold hears
  rw [h1, sq_swap x, sq_swap y, w64 (n := e.x - x) (by omega) (by omega), w64 (n := e.y - y) (by omega) (by omega), w64 (n := (e.x - x) * (e.x - x)) (by omega) (by omega), w64 (n := (e.y - y) * (e.y - y)) (by omega) (by omega), w64 (by omega) (by omega)]

theorem echoesOk_sub {l m : List Echo} (h : echoesOk l = true) (hl : m.length ≤ 32) (hm : ∀ e ∈ m, e ∈ l) : echoesOk m = true := by
  obtain ⟨h1, h2⟩ := echoesOk_spec h
  simp only [echoesOk, Bool.and_eq_true, decide_eq_true_eq, List.all_eq_true] at h ⊢
  exact ⟨hl, fun e he => h.2 e (hm e he)⟩

theorem c_VolumeFar {l : List Echo} (hl : sane l) (x y z aper slow : Int) : C Try.prog F.law10_VolumeFar [sE l, .agg (cellC x y z), .agg [I aper, I slow]] (.bool true) := by
  refine C_of mixed chk.law10_VolumeFar (by simp) fun S ok => ?_
  refine Tr.seqR rfl (by simp) ?_
  have kN := c_NameS hl x y z aper slow
  by_cases hOk : (echoesOk l = true ∧ earOk aper (slow, slow) = true ∧ cellOk x y z = true)
  rotate_left
  · obtain ⟨e, he, hr⟩ : ∃ e : Int, e ≠ 0 ∧ nameS l x y z aper slow = .tuple [.agg [I 0, I 0, I 0, .slice 0 2 [], I 0, I 0], I e] := by
      unfold nameS nameR
      by_cases h1 : echoesOk l = true
      · rw [if_pos h1]
        by_cases h2 : (earOk aper (slow, slow) && cellOk x y z) = true
        · simp only [Bool.and_eq_true] at h2; exact absurd ⟨h1, h2.1, h2.2⟩ hOk
        · rw [if_neg h2]; exact ⟨102, by omega, rfl⟩
      · rw [if_neg h1]; exact ⟨100, by omega, rfl⟩
    rw [hr] at kN
    refine Tr.seqC rfl (by simp) (Steps.call rfl rfl kN (Steps.fin rfl (by simp) ?_))
    refine Tr.seq (Tr.seqR rfl (by simp) (Tr.cond rfl rfl (fun _ => ?_) (fun h => ?_)))
    · refine Tr.seqC rfl (by simp) (Steps.gcall rfl rfl rfl rfl (by simp) (fun _ => c_works) (Steps.fin rfl (by simp) (Tr.retX rfl rfl rfl ?_ trivial)))
      simp [packR]
    · have h : (e != 0) = false := h
      simp at h; exact absurd h he
  obtain ⟨hE, hA, hC⟩ := hOk
  obtain ⟨hE1, hE2⟩ := echoesOk_spec hE
  have hcc := hC
  simp only [cellOk, Bool.and_eq_true, btw_iff] at hcc
  obtain ⟨A, B, hF⟩ := far_of l aper slow x y z
  have hPl := pickE_len (aper := aper) (x := x) (y := y) l 0
  have hEN : echoesOk ((pickE aper x y l 0).map (·.2)) = true := echoesOk_sub hE (by simp; omega) fun e he => by
    obtain ⟨p, hp, rfl⟩ := List.mem_map.1 he
    exact List.mem_of_getElem? (pickE_spec hp).2.1
  have hlN : sane ((pickE aper x y l 0).map (·.2)) := ⟨by simp; omega, fun e he => by
    obtain ⟨p, hp, rfl⟩ := List.mem_map.1 he
    exact hl.2 _ (List.mem_of_getElem? (pickE_spec hp).2.1)⟩
  have kB := c_NameS hlN x y z aper slow
  have eN : nameS l x y z aper slow = .tuple [.agg [I x, I y, I z, .slice 0 2 (A.map eB), I (valueB ⟨l, aper, (slow, slow)⟩ x y z).1, I (valueB ⟨l, aper, (slow, slow)⟩ x y z).2], I 0] := by
    unfold nameS nameR
    rw [if_pos hE, if_pos (by rw [hA, hC]; rfl), nameC, hF.named]
  have eB' : nameS ((pickE aper x y l 0).map (·.2)) x y z aper slow = .tuple [.agg [I x, I y, I z, .slice 0 2 (B.map eB), I (valueB ⟨l, aper, (slow, slow)⟩ x y z).1, I (valueB ⟨l, aper, (slow, slow)⟩ x y z).2], I 0] := by
    unfold nameS nameR
    rw [if_pos hEN, if_pos (by rw [hA, hC]; rfl), nameC, hF.namedN, hF.value]
  have hAl : A.length ≤ 32 := by
    rw [← hF.named]
    unfold namedL
    exact Nat.le_trans (List.length_filterMap_le _ _) (Nat.le_trans nears_len hE1)
  have hval : valueB ⟨l, aper, (slow, slow)⟩ x y z = (A.map (boundAt ⟨l, aper, (slow, slow)⟩)).foldl plusB (0, 0) := by unfold valueB; rw [hF.named]
  have kV := c_Verify hl x y z aper slow (s' := valueB ⟨l, aper, (slow, slow)⟩ x y z) (r' := A) eN (by omega)
  rw [decide_eq_true rfl, decide_eq_true ⟨rfl, rfl⟩] at kV
  rw [eN] at kN
  rw [eB'] at kB
  generalize valueB ⟨l, aper, (slow, slow)⟩ x y z = V0 at kN kB kV hval
  have hAB := hF.len
  have heach := hF.each
  have hup := hF.up
  refine Tr.seqC rfl (by simp) (Steps.call rfl rfl kN (Steps.fin rfl (by simp) ?_))
  refine Tr.seq (Tr.seqR rfl (by simp) (Tr.condF rfl (Tr.skip ?_)))
  refine Tr.seqR rfl (by simp) (Tr.seqR rfl (by simp) (Tr.seq (Tr.seqR rfl (by simp) (Tr.block ?_))))
  refine Tr.loop (fun i s => i ≤ l.length ∧ s = { env := [(0, sE l), (4, .ptr 4 0), (5, .ptr 5 0), (7, .ptr 7 0), (9, .slice 91 3 ((pickE aper x y (l.take i) 0).map fun p => eE p.2)), (10, .slice 95 1 ((pickE aper x y (l.take i) 0).map fun p => I (p.1 : Int))), (11, I i)], bx := [(4, ⟨[I x, I y, I z], false⟩), (5, ⟨[I aper, I slow], false⟩), (7, ⟨[I x, I y, I z, .slice 0 2 (A.map eB), I V0.1, I V0.2], false⟩)], rw := [(90, (pickE aper x y (l.take i) 0).length, 3, 79), (94, (pickE aper x y (l.take i) 0).length, 1, 3)], log := [], stp := false }) (fun i => l.length - i) 0
    (Wk.le (.cons rfl (.refl _) (.cons rfl (.refl _) (.cons rfl (.refl _) (.cons rfl (.refl _) (.cons rfl (.nil 91 3) (.cons rfl (.nil 95 1) (.cons rfl (.refl _) .nil)))))))
      (.cons rfl (LLe.refl _) (.cons rfl (LLe.refl _) (.cons rfl (LLe.refl _) .nil))) (.new rfl (.new rfl .nil)) rfl rfl) ⟨by omega, rfl⟩ ?_
  rintro i s ⟨hi, rfl⟩
  refine Tr.seq (Tr.seqR rfl (by simp [sE]) (Tr.cond rfl rfl (fun h3 => Tr.skip ?_) (fun h3 => Tr.exit ?_)))
  · have h3 : i < l.length := by simpa using h3
    have hTl := pickE_len (aper := aper) (x := x) (y := y) (l.take i) 0
    have hTl : (pickE aper x y (l.take i) 0).length ≤ i := by rw [List.length_take] at hTl; omega
    have he := (echoOk_spec (hE2 _ (List.getElem_mem h3))).1
    have hnc := near_cond (aper := aper) (x := x) (y := y) (e := l[i]) (by omega) (by omega) he
    have htk := pickE_take (aper := aper) (x := x) (y := y) h3
    refine Tr.seq (Tr.block (Tr.seq (Tr.drawK (TraceK.runN 3 rfl (by simp [sE]; omega) ?_))))
    rw [getD_map h3]
    refine TraceK.runN 8 rfl (by simp [sE]; omega) ?_
    rw [getD_map h3]
    refine TraceK.runN 9 rfl (by simp [sE]; omega) ?_
    rw [getD_map h3]
    refine TraceK.runN 8 rfl (by simp [sE]; omega) ?_
    rw [getD_map h3]
    refine TraceK.run rfl (by simp) (.done ⟨by kernel_rfl, by kernel_rfl, ?_⟩)
    refine Tr.cond rfl rfl (fun h4 => ?_) (fun h4 => Tr.skip ?_)
    · have h4 : hears aper x y l[i] = true := hnc ▸ h4
      rw [if_pos h4] at htk
      refine Tr.reg (Steps.runN 4 rfl (by simp [sE]; omega) ?_)
      rw [getD_map h3]
      refine Steps.fin rfl (by simp; omega) (Tr.regR rfl (by simp) ?_)
      refine ⟨i + 1, _, Wk.le (.cons rfl (.refl _) (.cons rfl (.refl _) (.cons rfl (.refl _) (.cons rfl (.refl _) (.cons rfl (.of_eq ?_) (.cons rfl (.of_eq ?_) (.cons rfl (VLe.i (w64 (by omega) (by omega))) .nil)))))))
        (.cons rfl (LLe.refl _) (.cons rfl (LLe.refl _) (.cons rfl (LLe.refl _) .nil))) (.cons ?_ (.cons ?_ .nil)) rfl rfl, ⟨h3, rfl⟩, by omega⟩
      · rw [htk]; simp
      · rw [htk]; simp
      · rw [htk]; show some _ = some _
        simp
      · rw [htk]; show some _ = some _
        simp
    · have h4 : hears aper x y l[i] = false := hnc ▸ h4
      rw [if_neg (by simp [h4]), List.append_nil] at htk
      refine Tr.regR rfl (by simp) ?_
      refine ⟨i + 1, _, Wk.le (.cons rfl (.refl _) (.cons rfl (.refl _) (.cons rfl (.refl _) (.cons rfl (.refl _) (.cons rfl (.of_eq (by rw [htk])) (.cons rfl (.of_eq (by rw [htk])) (.cons rfl (VLe.i (w64 (by omega) (by omega))) .nil)))))))
        (.cons rfl (LLe.refl _) (.cons rfl (LLe.refl _) (.cons rfl (LLe.refl _) .nil))) (.cons (by rw [htk]; rfl) (.cons (by rw [htk]; rfl) .nil)) rfl rfl, ⟨h3, rfl⟩, by omega⟩
  have h3 : i = l.length := by simp at h3; omega
  subst h3
  rw [List.take_length]
  obtain ⟨W, hW⟩ : ∃ W : List Int, (pickE aper x y l 0).map (fun p => (p.1 : Int)) = W := ⟨_, rfl⟩
  have hWl : W.length ≤ 32 := by rw [← hW, List.length_map]; omega
  have eW : ((pickE aper x y l 0).map fun p => I (p.1 : Int)) = W.map I := by rw [← hW, List.map_map]; rfl
  have eNl : ((pickE aper x y l 0).map fun p => eE p.2) = ((pickE aper x y l 0).map (·.2)).map eE := by rw [List.map_map]; rfl
  rw [hW] at heach
  rw [eW, eNl]
  refine Tr.weak (s' := { env := [(0, sE l), (4, .ptr 4 0), (5, .ptr 5 0), (7, .ptr 7 0), (9, sE ((pickE aper x y l 0).map (·.2))), (10, intsV W)], bx := [(4, ⟨[I x, I y, I z], false⟩), (5, ⟨[I aper, I slow], false⟩), (7, ⟨[I x, I y, I z, .slice 0 2 (A.map eB), I V0.1, I V0.2], false⟩)], rw := [], log := [], stp := false })
    (Wk.le (.cons rfl (.refl _) (.cons rfl (.refl _) (.cons rfl (.refl _) (.cons rfl (.refl _) (.cons rfl (.dem _ _ _) (.cons rfl (.dem _ _ _) .nil))))))
      (.cons rfl (LLe.refl _) (.cons rfl (LLe.refl _) (.cons rfl (LLe.refl _) .nil))) .nil rfl rfl) ?_
  generalize (pickE aper x y l 0).map (·.2) = nl at kB
  clear hW eW eNl hEN hlN eB' hF hPl
  refine Tr.seqC rfl (by simp) (Steps.call rfl rfl kB (Steps.fin rfl (by simp) ?_))
  refine Tr.seqC rfl (by simp) (Steps.call rfl rfl kV (Steps.fin rfl (by simp) ?_))
  refine Tr.seq (Tr.seqR rfl (by simp) (Tr.cond rfl rfl (fun h => ?_) (fun _ => Tr.skip ?_)))
  · exfalso
    revert h
    simp [hAB]
  refine Tr.seqR rfl (by simp) (Tr.seq (Tr.seqR rfl (by simp) (Tr.block ?_)))
  generalize hf : boundAt ⟨l, aper, (slow, slow)⟩ = bf at heach hval
  refine Tr.loop (fun i s => i ≤ A.length ∧ s = { env := [(0, sE l), (7, .ptr 7 0), (10, intsV W), (12, .ptr 12 0), (15, .ptr 15 0), (16, I i)], bx := [(7, ⟨[I x, I y, I z, .slice 0 2 (A.map eB), I V0.1, I V0.2], false⟩), (12, ⟨[I x, I y, I z, .slice 0 2 (B.map eB), I V0.1, I V0.2], false⟩), (15, ⟨[I (((A.take i).map bf).foldl plusB (0, 0)).1, I (((A.take i).map bf).foldl plusB (0, 0)).2], false⟩)], rw := [], log := [], stp := false }) (fun i => A.length - i) 0
    (Wk.le (.cons rfl (.refl _) (.cons rfl (.refl _) (.cons rfl (.refl _) (.cons rfl (.refl _) (.cons rfl (.refl _) (.cons rfl (.refl _) .nil))))))
      (.cons rfl (LLe.refl _) (.cons rfl (LLe.refl _) (.cons rfl (LLe.refl _) .nil))) .nil rfl rfl) ⟨by omega, rfl⟩ ?_
  rintro i s ⟨hi, rfl⟩
  refine Tr.seq (Tr.seqR rfl (by simp) (Tr.cond rfl rfl (fun h3 => Tr.skip ?_) (fun h3 => Tr.exit ?_)))
  rotate_left
  · have h3 : i = A.length := by simp at h3; omega
    subst h3
    rw [List.take_length, ← hval]
    refine Tr.seqC rfl (by simp) (Steps.gcall rfl rfl rfl rfl (by simp) (fun _ => c_works) (Steps.fin rfl (by simp) (Tr.retX rfl rfl rfl ?_ trivial)))
    simp [packR]
  have h3 : i < A.length := by simpa using h3
  have h3B : i < B.length := by omega
  obtain ⟨q, t, j, hq, ht, hj, eA, eBi, eWj, ebf⟩ := heach i h3 h3B
  have hsl := (echoOk_spec (hE2 _ (List.getElem_mem hq))).2.1
  have hb1 : C Try.prog F.ref00_Between [I (q : Int), I 0, I (IntKind.i64.wrap (((l.map eE).length : Int) - 1))] (.bool true) := by
    have h := c_between (q : Int) 0 (IntKind.i64.wrap (((l.map eE).length : Int) - 1))
    rw [btw_iff _ _ _ |>.2 (by rw [List.length_map, w64 (by omega) (by omega)]; omega)] at h
    exact h
  have hb2 : C Try.prog F.ref00_Between [I (t : Int), I 0, I (IntKind.i64.wrap (((l[q].s.map eB).length : Int) - 1))] (.bool true) := by
    have h := c_between (t : Int) 0 (IntKind.i64.wrap (((l[q].s.map eB).length : Int) - 1))
    rw [btw_iff _ _ _ |>.2 (by rw [List.length_map, w64 (by omega) (by omega)]; omega)] at h
    exact h
  have hb3 : C Try.prog F.ref00_Between [I (j : Int), I 0, I (IntKind.i64.wrap (((W.map I).length : Int) - 1))] (.bool true) := by
    have h := c_between (j : Int) 0 (IntKind.i64.wrap (((W.map I).length : Int) - 1))
    rw [btw_iff _ _ _ |>.2 (by rw [List.length_map, w64 (by omega) (by omega)]; omega)] at h
    exact h
  have hj' : (IntKind.i64.wrap ((i : Int) - 1)).toNat < A.length := by rw [w64 (by omega) (by omega)]; omega
  obtain ⟨m, hm⟩ : ∃ m, (IntKind.i64.wrap ((i : Int) - 1)).toNat = m := ⟨_, rfl⟩
  rw [hm] at hj'
  have hprev : 0 < i → A[m].1 < (q : Int) := fun h => by
    have hmi : m = i - 1 := by rw [w64 (by omega) (by omega)] at hm; omega
    have := hup m i hj' h3 (by omega)
    rw [eA] at this; exact this
  have hpv : i = 0 ∨ A[m].1 < (q : Int) := by
    rcases Nat.eq_zero_or_pos i with h | h
    · exact .inl h
    · exact .inr (hprev h)
  refine Tr.seq (Tr.block (Tr.seqN 4 rfl (by simp; omega) ?_))
  rw [getD_map h3, eA]
  refine Steps.fin rfl (by simp) ?_
  refine Tr.weak (s' := { env := [(0, sE l), (7, .ptr 7 0), (10, intsV W), (12, .ptr 12 0), (15, .ptr 15 0), (16, I i), (17, .ptr 17 0)], bx := [(7, ⟨[I x, I y, I z, .slice 0 2 (A.map eB), I V0.1, I V0.2], false⟩), (12, ⟨[I x, I y, I z, .slice 0 2 (B.map eB), I V0.1, I V0.2], false⟩), (15, ⟨[I (((A.take i).map bf).foldl plusB (0, 0)).1, I (((A.take i).map bf).foldl plusB (0, 0)).2], false⟩), (17, ⟨[I (q : Int), I (t : Int)], false⟩)], rw := [], log := [], stp := false })
    (Wk.le (.cons rfl (.refl _) (.cons rfl (.refl _) (.cons rfl (.refl _) (.cons rfl (.refl _) (.cons rfl (.refl _) (.cons rfl (.refl _) (.cons rfl (.refl _) .nil)))))))
      (.cons rfl (LLe.refl _) (.cons rfl (LLe.refl _) (.cons rfl (LLe.refl _) (.cons rfl (LLe.refl _) .nil)))) .nil rfl rfl) ?_
  refine Tr.seq (Tr.seq (Tr.drawK (TraceK.run rfl (by simp [sE]) (TraceK.call rfl rfl hb1 ?_))))
  refine TraceK.runN 8 rfl (by simp [sE]; omega) ?_
  rw [getD_map hq]
  refine TraceK.run rfl (by simp) ?_
  refine TraceK.gcall rfl rfl rfl rfl (by simp) (fun _ => hb2) ?_
  refine TraceK.runN 11 rfl (by simp; exact fun h => ⟨by rw [w64 (by omega) (by omega)]; omega, h⟩) ?_
  rw [hm, getD_natF hj']
  refine TraceK.runN 5 rfl (by simp) ?_
  refine TraceK.gpick rfl rfl rfl (fun _ => rfl) rfl rfl (by simp) ?_
  refine TraceK.runN 6 rfl (by simp [hpv]; try omega) ?_
  rw [getD_map h3B, eBi]
  refine TraceK.run rfl (by simp [intsV]) ?_
  refine TraceK.gcall rfl rfl rfl rfl (by simp) (fun _ => hb3) ?_
  refine TraceK.runN 8 rfl (by simp [intsV, hpv]; try omega) ?_
  rw [getD_map h3B, eBi]
  refine TraceK.runN 3 rfl (by simp [intsV, hpv]; try omega) ?_
  rw [getD_map hj, eWj]
  refine TraceK.runN 10 rfl (by simp [intsV, hpv]; try omega) ?_
  rw [getD_map h3B, eBi]
  refine TraceK.run rfl (by simp [hpv]) (.done ⟨by kernel_rfl, by kernel_rfl, ?_⟩)
  refine Tr.cond rfl rfl (fun h => ?_) (fun _ => Tr.skip ?_)
  · exfalso
    revert h
    simp [hpv]
    exact hprev
  refine Tr.weak (s' := { env := [(0, sE l), (7, .ptr 7 0), (10, intsV W), (12, .ptr 12 0), (15, .ptr 15 0), (16, I i), (17, .ptr 17 0)], bx := [(7, ⟨[I x, I y, I z, .slice 0 2 (A.map eB), I V0.1, I V0.2], false⟩), (12, ⟨[I x, I y, I z, .slice 0 2 (B.map eB), I V0.1, I V0.2], false⟩), (15, ⟨[I (((A.take i).map bf).foldl plusB (0, 0)).1, I (((A.take i).map bf).foldl plusB (0, 0)).2], false⟩), (17, ⟨[I (q : Int), I (t : Int)], false⟩)], rw := [], log := [], stp := false })
    (Wk.le (.cons rfl (.refl _) (.cons rfl (.refl _) (.cons rfl (.refl _) (.cons rfl (.refl _) (.cons rfl (.refl _) (.cons rfl (.refl _) (.cons rfl (.refl _) .nil)))))))
      (.cons rfl (LLe.refl _) (.cons rfl (LLe.refl _) (.cons rfl (LLe.refl _) (.cons rfl (LLe.refl _) .nil)))) .nil rfl rfl) ?_
  refine Tr.drawK (TraceK.runN 5 rfl (by simp [sE]; omega) ?_)
  rw [getD_map hq]
  refine TraceK.runN 5 rfl (by simp; omega) ?_
  rw [getD_map ht]
  refine TraceK.run rfl (by simp) (TraceK.call rfl rfl (c_added (((A.take i).map bf).foldl plusB (0, 0)) l[q].s[t]) (TraceK.run rfl (by simp) (.done ⟨by kernel_rfl, by kernel_rfl, ?_⟩)))
  refine Tr.regR rfl (by simp) ?_
  have htk : ((A.take (i + 1)).map bf).foldl plusB (0, 0) = plusB (((A.take i).map bf).foldl plusB (0, 0)) l[q].s[t] := by
    rw [List.take_add_one, List.getElem?_eq_getElem h3, List.map_append, List.foldl_append, ← ebf]
    rfl
  refine ⟨i + 1, _, Wk.le (.cons rfl (.refl _) (.cons rfl (.refl _) (.cons rfl (.refl _) (.cons rfl (.refl _) (.cons rfl (.refl _) (.cons rfl (VLe.i (w64 (by omega) (by omega))) .nil))))))
    (.cons rfl (LLe.refl _) (.cons rfl (LLe.refl _) (.cons rfl (.cons (.of_eq ?_) (.cons (.of_eq ?_) .nil)) .nil))) .nil rfl rfl, ⟨h3, rfl⟩, by omega⟩
  · rw [htk]
  · rw [htk]

end Go.Proofs.Ytkifejklnpddbaa
