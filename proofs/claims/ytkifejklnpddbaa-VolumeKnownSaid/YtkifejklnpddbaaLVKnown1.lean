/-
  Parts of the proof, 1: the abstract machine, the compiled code, contracts of the functions, plain laws.
-/
import Derived.Test.YtkifejklnpddbaaZ5


/-! The code of further functions, compiled. -/
set_option maxRecDepth 100000
namespace Go.Proofs.Ytkifejklnpddbaa
open Go.Am
/-- paravane/paravanelaw10.VolumeNames -/
abbrev F.law10_VolumeNames : Nat := 4
def ir.law10_VolumeNames : IC :=
 (.seq (.reg [⟨(some 4), .box, [.t 1], none⟩,
     ⟨(some 5), .box, [.t 2], none⟩,
     ⟨(some 6), .mov, [.c (.bool false)], none⟩])
   (.seq (.reg [⟨(some 12), .mov, [.t 0], none⟩,
     ⟨(some 13), .load 3 true, [.t 4], none⟩,
     ⟨(some 14), .iaddrA 2 1, [.t 5, .c (.int .i64 0)], none⟩,
     ⟨(some 15), .load 1 false, [.t 14], none⟩,
     ⟨(some 16), .iaddrA 2 1, [.t 5, .c (.int .i64 1)], none⟩,
     ⟨(some 17), .load 1 false, [.t 16], none⟩,
     ⟨(some 18), .call 31, [.t 12, .t 13, .t 15, .t 17], none⟩,
     ⟨(some 11), .mov, [.t 18], none⟩,
     ⟨(some 19), .extract 0, [.t 11], none⟩,
     ⟨(some 20), .extract 1, [.t 11], none⟩,
     ⟨(some 7), .alloc [(.int .i64 0), (.int .i64 0), (.int .i64 0), .nils, (.int .i64 0), (.int .i64 0)], [], none⟩,
     ⟨none, .store 6, [.t 7, .t 19], none⟩,
     ⟨(some 8), .mov, [.t 20], none⟩])
   (.seq (.reg [⟨(some 22), .mov, [.t 0], none⟩,
     ⟨(some 23), .load 3 true, [.t 4], none⟩,
     ⟨(some 24), .iaddrA 2 1, [.t 5, .c (.int .i64 0)], none⟩,
     ⟨(some 25), .load 1 false, [.t 24], none⟩,
     ⟨(some 26), .iaddrA 2 1, [.t 5, .c (.int .i64 1)], none⟩,
     ⟨(some 27), .load 1 false, [.t 26], none⟩,
     ⟨(some 28), .call 32, [.t 22, .t 23, .t 25, .t 27], none⟩,
     ⟨(some 21), .mov, [.t 28], none⟩,
     ⟨(some 29), .extract 0, [.t 21], none⟩,
     ⟨(some 30), .extract 1, [.t 21], none⟩,
     ⟨(some 9), .alloc [(.int .i64 0), (.int .i64 0), (.int .i64 0), .nils, (.int .i64 0), (.int .i64 0)], [], none⟩,
     ⟨none, .store 6, [.t 9, .t 29], none⟩,
     ⟨(some 10), .mov, [.t 30], none⟩])
   (.seq (.reg [⟨(some 31), .load 6 true, [.t 7], none⟩,
     ⟨(some 32), .load 6 true, [.t 9], none⟩,
     ⟨(some 33), .call 33, [.t 31, .t 32], none⟩,
     ⟨(some 34), .mov, [.t 33], none⟩,
     ⟨(some 35), .mov, [.t 8], (some (34, true))⟩,
     ⟨(some 36), .mov, [.t 10], (some (34, true))⟩,
     ⟨(some 37), .bin .eql, [.t 35, .t 36], (some (34, true))⟩,
     ⟨(some 38), .pick, [.t 34, .t 37, .c (.bool false)], none⟩,
     ⟨(some 39), .mov, [.t 38], none⟩,
     ⟨(some 40), .call 30, [], (some (39, true))⟩,
     ⟨(some 41), .pick, [.t 39, .t 40, .c (.bool false)], none⟩,
     ⟨(some 6), .mov, [.t 41], none⟩])
   .ret))))
theorem chk.law10_VolumeNames : chkF Try.prog 4 = some (42, ir.law10_VolumeNames, [.tmp 6]) := by kernel_rfl

/-- paravane/paravanelaw10.VolumeEncloses -/
abbrev F.law10_VolumeEncloses : Nat := 5
def ir.law10_VolumeEncloses : IC :=
 (.seq (.reg [⟨(some 3), .box, [.t 1], none⟩,
     ⟨(some 4), .mov, [.c (.bool false)], none⟩])
   (.seq (.reg [⟨(some 10), .mov, [.t 0], none⟩,
     ⟨(some 11), .faddr 0, [.t 3], none⟩,
     ⟨(some 12), .load 3 true, [.t 11], none⟩,
     ⟨(some 13), .faddr 3, [.t 3], none⟩,
     ⟨(some 14), .load 3 true, [.t 13], none⟩,
     ⟨(some 15), .faddr 6, [.t 3], none⟩,
     ⟨(some 16), .load 1 false, [.t 15], none⟩,
     ⟨(some 17), .faddr 7, [.t 3], none⟩,
     ⟨(some 18), .load 2 true, [.t 17], none⟩,
     ⟨(some 19), .call 34, [.t 10, .t 12, .t 14, .t 16, .t 18], none⟩,
     ⟨(some 9), .mov, [.t 19], none⟩,
     ⟨(some 20), .extract 0, [.t 9], none⟩,
     ⟨(some 21), .extract 1, [.t 9], none⟩,
     ⟨(some 5), .alloc [(.int .i64 0), (.int .i64 0), (.int .i64 0), (.int .i64 0), (.int .i64 0), (.int .i64 0), .nils], [], none⟩,
     ⟨none, .store 7, [.t 5, .t 20], none⟩,
     ⟨(some 6), .mov, [.t 21], none⟩])
   (.seq (.reg [⟨(some 23), .mov, [.t 0], none⟩,
     ⟨(some 24), .faddr 0, [.t 3], none⟩,
     ⟨(some 25), .load 3 true, [.t 24], none⟩,
     ⟨(some 26), .faddr 3, [.t 3], none⟩,
     ⟨(some 27), .load 3 true, [.t 26], none⟩,
     ⟨(some 28), .faddr 6, [.t 3], none⟩,
     ⟨(some 29), .load 1 false, [.t 28], none⟩,
     ⟨(some 30), .faddr 7, [.t 3], none⟩,
     ⟨(some 31), .load 2 true, [.t 30], none⟩,
     ⟨(some 32), .call 35, [.t 23, .t 25, .t 27, .t 29, .t 31], none⟩,
     ⟨(some 22), .mov, [.t 32], none⟩,
     ⟨(some 33), .extract 0, [.t 22], none⟩,
     ⟨(some 34), .extract 1, [.t 22], none⟩,
     ⟨(some 7), .alloc [(.int .i64 0), (.int .i64 0), (.int .i64 0), (.int .i64 0), (.int .i64 0), (.int .i64 0), .nils], [], none⟩,
     ⟨none, .store 7, [.t 7, .t 33], none⟩,
     ⟨(some 8), .mov, [.t 34], none⟩])
   (.seq (.reg [⟨(some 35), .load 7 true, [.t 5], none⟩,
     ⟨(some 36), .load 7 true, [.t 7], none⟩,
     ⟨(some 37), .call 36, [.t 35, .t 36], none⟩,
     ⟨(some 38), .mov, [.t 37], none⟩,
     ⟨(some 39), .mov, [.t 6], (some (38, true))⟩,
     ⟨(some 40), .mov, [.t 8], (some (38, true))⟩,
     ⟨(some 41), .bin .eql, [.t 39, .t 40], (some (38, true))⟩,
     ⟨(some 42), .pick, [.t 38, .t 41, .c (.bool false)], none⟩,
     ⟨(some 43), .mov, [.t 42], none⟩,
     ⟨(some 44), .call 30, [], (some (43, true))⟩,
     ⟨(some 45), .pick, [.t 43, .t 44, .c (.bool false)], none⟩,
     ⟨(some 4), .mov, [.t 45], none⟩])
   .ret))))
theorem chk.law10_VolumeEncloses : chkF Try.prog 5 = some (46, ir.law10_VolumeEncloses, [.tmp 4]) := by kernel_rfl

/-- paravane/paravanelaw10.VolumeJoins -/
abbrev F.law10_VolumeJoins : Nat := 7
def ir.law10_VolumeJoins : IC :=
 (.seq (.reg [⟨(some 2), .box, [.t 0], none⟩,
     ⟨(some 3), .box, [.t 1], none⟩,
     ⟨(some 4), .mov, [.c (.bool false)], none⟩])
   (.seq (.reg [⟨(some 10), .load 7 true, [.t 2], none⟩,
     ⟨(some 11), .load 7 true, [.t 3], none⟩,
     ⟨(some 12), .call 42, [.t 10, .t 11], none⟩,
     ⟨(some 9), .mov, [.t 12], none⟩,
     ⟨(some 13), .extract 0, [.t 9], none⟩,
     ⟨(some 14), .extract 1, [.t 9], none⟩,
     ⟨(some 5), .alloc [(.int .i64 0), (.int .i64 0), (.int .i64 0), (.int .i64 0), (.int .i64 0), (.int .i64 0), .nils], [], none⟩,
     ⟨none, .store 7, [.t 5, .t 13], none⟩,
     ⟨(some 6), .mov, [.t 14], none⟩])
   (.seq (.reg [⟨(some 16), .load 7 true, [.t 2], none⟩,
     ⟨(some 17), .load 7 true, [.t 3], none⟩,
     ⟨(some 18), .call 43, [.t 16, .t 17], none⟩,
     ⟨(some 15), .mov, [.t 18], none⟩,
     ⟨(some 19), .extract 0, [.t 15], none⟩,
     ⟨(some 20), .extract 1, [.t 15], none⟩,
     ⟨(some 7), .alloc [(.int .i64 0), (.int .i64 0), (.int .i64 0), (.int .i64 0), (.int .i64 0), (.int .i64 0), .nils], [], none⟩,
     ⟨none, .store 7, [.t 7, .t 19], none⟩,
     ⟨(some 8), .mov, [.t 20], none⟩])
   (.seq (.reg [⟨(some 21), .load 7 true, [.t 5], none⟩,
     ⟨(some 22), .load 7 true, [.t 7], none⟩,
     ⟨(some 23), .call 44, [.t 21, .t 22], none⟩,
     ⟨(some 24), .mov, [.t 23], none⟩,
     ⟨(some 25), .mov, [.t 6], (some (24, true))⟩,
     ⟨(some 26), .mov, [.t 8], (some (24, true))⟩,
     ⟨(some 27), .bin .eql, [.t 25, .t 26], (some (24, true))⟩,
     ⟨(some 28), .pick, [.t 24, .t 27, .c (.bool false)], none⟩,
     ⟨(some 29), .mov, [.t 28], none⟩,
     ⟨(some 30), .call 30, [], (some (29, true))⟩,
     ⟨(some 31), .pick, [.t 29, .t 30, .c (.bool false)], none⟩,
     ⟨(some 4), .mov, [.t 31], none⟩])
   .ret))))
theorem chk.law10_VolumeJoins : chkF Try.prog 7 = some (32, ir.law10_VolumeJoins, [.tmp 4]) := by kernel_rfl

/-- paravane/paravanelaw10.VolumeLinear -/
abbrev F.law10_VolumeLinear : Nat := 15
def ir.law10_VolumeLinear : IC :=
 (.seq (.reg [⟨(some 5), .box, [.t 2], none⟩,
     ⟨(some 6), .mov, [.c (.bool false)], none⟩])
   (.seq (.reg [⟨(some 26), .mov, [.t 0], none⟩,
     ⟨(some 27), .faddr 0, [.t 5], none⟩,
     ⟨(some 28), .load 3 true, [.t 27], none⟩,
     ⟨(some 29), .faddr 3, [.t 5], none⟩,
     ⟨(some 30), .load 3 true, [.t 29], none⟩,
     ⟨(some 31), .faddr 6, [.t 5], none⟩,
     ⟨(some 32), .load 1 false, [.t 31], none⟩,
     ⟨(some 33), .faddr 7, [.t 5], none⟩,
     ⟨(some 34), .faddr 0, [.t 33], none⟩,
     ⟨(some 35), .load 1 false, [.t 34], none⟩,
     ⟨(some 36), .call 52, [.t 26, .t 28, .t 30, .t 32, .t 35], none⟩,
     ⟨(some 25), .mov, [.t 36], none⟩,
     ⟨(some 37), .extract 0, [.t 25], none⟩,
     ⟨(some 38), .extract 1, [.t 25], none⟩,
     ⟨(some 7), .alloc [(.int .i64 0), (.int .i64 0), (.int .i64 0), (.int .i64 0), (.int .i64 0), (.int .i64 0), .nils], [], none⟩,
     ⟨none, .store 7, [.t 7, .t 37], none⟩,
     ⟨(some 8), .mov, [.t 38], none⟩])
   (.seq (.seq (.reg [⟨(some 39), .mov, [.t 8], none⟩,
     ⟨(some 40), .bin .neq, [.t 39, .c (.int .i64 0)], none⟩])
   (.cond (.t 40) (.seq (.reg [⟨(some 41), .faddr 6, [.t 7], none⟩,
     ⟨(some 42), .load 1 false, [.t 41], none⟩,
     ⟨(some 43), .len false, [.t 42], none⟩,
     ⟨(some 44), .bin .eql, [.t 43, .c (.int .i64 0)], none⟩,
     ⟨(some 45), .mov, [.t 44], none⟩,
     ⟨(some 46), .call 30, [], (some (45, true))⟩,
     ⟨(some 47), .pick, [.t 45, .t 46, .c (.bool false)], none⟩,
     ⟨(some 6), .mov, [.t 47], none⟩])
   .ret) .skip))
   (.seq (.reg [⟨(some 9), .mov, [.c .nils], none⟩,
     ⟨(some 10), .mov, [.c .nils], none⟩])
   (.seq (.seq (.reg [⟨(some 11), .mov, [.c (.int .i64 0)], none⟩])
   (.block 0 (.loop (.seq (.seq (.reg [⟨(some 48), .mov, [.t 11], none⟩,
     ⟨(some 49), .mov, [.t 0], none⟩,
     ⟨(some 50), .len false, [.t 49], none⟩,
     ⟨(some 51), .bin .lss, [.t 48, .t 50], none⟩])
   (.cond (.t 51) .skip (.exit 0)))
   (.seq (.block 1 (.seq (.draw [0, 0, 3, 7, 15, 0, 0, 96, 224, 480, 1023, 0, 0, 6144, 14336, 30720, 0, 0, 196608, 458752, 983040, 2095104, 0, 0, 12584959, 33554431] [⟨(some 54), .mov, [.t 0], none⟩,
     ⟨(some 55), .mov, [.t 11], none⟩,
     ⟨(some 56), .iaddrS 3, [.t 54, .t 55], none⟩,
     ⟨(some 57), .faddr 0, [.t 56], none⟩,
     ⟨(some 58), .load 1 false, [.t 57], none⟩,
     ⟨(some 59), .mov, [.t 0], none⟩,
     ⟨(some 60), .mov, [.t 11], none⟩,
     ⟨(some 61), .iaddrS 3, [.t 59, .t 60], none⟩,
     ⟨(some 62), .faddr 1, [.t 61], none⟩,
     ⟨(some 63), .load 1 false, [.t 62], none⟩,
     ⟨(some 64), .build [(.int .i64 0), (.int .i64 0), .nils] [(0, 1), (1, 1)], [.t 58, .t 63], none⟩,
     ⟨(some 65), .mov, [.t 0], none⟩,
     ⟨(some 66), .mov, [.t 11], none⟩,
     ⟨(some 67), .iaddrS 3, [.t 65, .t 66], none⟩,
     ⟨(some 68), .faddr 0, [.t 67], none⟩,
     ⟨(some 69), .load 1 false, [.t 68], none⟩,
     ⟨(some 70), .mov, [.t 0], none⟩,
     ⟨(some 71), .mov, [.t 11], none⟩,
     ⟨(some 72), .iaddrS 3, [.t 70, .t 71], none⟩,
     ⟨(some 73), .faddr 1, [.t 72], none⟩,
     ⟨(some 74), .load 1 false, [.t 73], none⟩,
     ⟨(some 75), .build [(.int .i64 0), (.int .i64 0), .nils] [(0, 1), (1, 1)], [.t 69, .t 74], none⟩,
     ⟨(some 12), .alloc [(.int .i64 0), (.int .i64 0), .nils], [], none⟩,
     ⟨(some 13), .alloc [(.int .i64 0), (.int .i64 0), .nils], [], none⟩,
     ⟨none, .store 3, [.t 12, .t 64], none⟩,
     ⟨none, .store 3, [.t 13, .t 75], none⟩])
   (.seq (.seq (.reg [⟨(some 14), .mov, [.c (.int .i64 0)], none⟩])
   (.block 2 (.loop (.seq (.seq (.reg [⟨(some 76), .mov, [.t 14], none⟩,
     ⟨(some 77), .mov, [.t 0], none⟩,
     ⟨(some 78), .mov, [.t 11], none⟩,
     ⟨(some 79), .iaddrS 3, [.t 77, .t 78], none⟩,
     ⟨(some 80), .faddr 2, [.t 79], none⟩,
     ⟨(some 81), .load 1 false, [.t 80], none⟩,
     ⟨(some 82), .len false, [.t 81], none⟩,
     ⟨(some 83), .bin .lss, [.t 76, .t 82], none⟩])
   (.cond (.t 83) .skip (.exit 2)))
   (.seq (.block 3 (.seq (.reg [⟨(some 86), .mov, [.t 1], none⟩,
     ⟨(some 87), .mov, [.t 11], none⟩,
     ⟨(some 88), .bin .mul, [.c (.int .i64 5), .t 87], none⟩,
     ⟨(some 89), .mov, [.t 14], none⟩,
     ⟨(some 90), .bin .add, [.t 88, .t 89], none⟩,
     ⟨(some 91), .call 56, [.t 86, .t 90], none⟩,
     ⟨(some 92), .call 49, [.t 91, .c (.int .i64 2001)], none⟩,
     ⟨(some 93), .bin .sub, [.t 92, .c (.int .i64 1000)], none⟩,
     ⟨(some 15), .mov, [.t 93], none⟩])
   (.seq (.reg [⟨(some 94), .faddr 2, [.t 12], none⟩,
     ⟨(some 95), .load 1 false, [.t 94], none⟩,
     ⟨(some 96), .mov, [.t 15], none⟩,
     ⟨(some 97), .mov, [.t 15], none⟩,
     ⟨(some 98), .build [(.int .i64 0), (.int .i64 0)] [(0, 1), (1, 1)], [.t 96, .t 97], none⟩,
     ⟨(some 99), .mkslice 2 33, [.t 98], none⟩,
     ⟨(some 100), .append 2 16 33, [.t 95, .t 99], none⟩,
     ⟨(some 101), .faddr 2, [.t 12], none⟩,
     ⟨none, .store 1, [.t 101, .t 100], none⟩])
   (.draw [0, 1, 0, 0, 12, 28, 60, 0, 252, 508, 0, 0, 3072, 8188, 16380, 32767, 65535, 131071] [⟨(some 102), .faddr 2, [.t 13], none⟩,
     ⟨(some 103), .load 1 false, [.t 102], none⟩,
     ⟨(some 104), .mov, [.t 0], none⟩,
     ⟨(some 105), .mov, [.t 11], none⟩,
     ⟨(some 106), .iaddrS 3, [.t 104, .t 105], none⟩,
     ⟨(some 107), .faddr 2, [.t 106], none⟩,
     ⟨(some 108), .load 1 false, [.t 107], none⟩,
     ⟨(some 109), .mov, [.t 14], none⟩,
     ⟨(some 110), .iaddrS 2, [.t 108, .t 109], none⟩,
     ⟨(some 111), .load 2 true, [.t 110], none⟩,
     ⟨(some 112), .mov, [.t 15], none⟩,
     ⟨(some 113), .mov, [.t 15], none⟩,
     ⟨(some 114), .build [(.int .i64 0), (.int .i64 0)] [(0, 1), (1, 1)], [.t 112, .t 113], none⟩,
     ⟨(some 115), .call 57, [.t 111, .t 114], none⟩,
     ⟨(some 116), .mkslice 2 33, [.t 115], none⟩,
     ⟨(some 117), .append 2 16 33, [.t 103, .t 116], none⟩,
     ⟨(some 118), .faddr 2, [.t 13], none⟩,
     ⟨none, .store 1, [.t 118, .t 117], none⟩]))))
   (.reg [⟨(some 84), .mov, [.t 14], none⟩,
     ⟨(some 85), .bin .add, [.t 84, .c (.int .i64 1)], none⟩,
     ⟨(some 14), .mov, [.t 85], none⟩]))))))
   (.draw [0, 0, 2, 7, 0, 0, 32, 127, 255, 511] [⟨(some 119), .mov, [.t 9], none⟩,
     ⟨(some 120), .load 3 true, [.t 12], none⟩,
     ⟨(some 121), .mkslice 3 79, [.t 120], none⟩,
     ⟨(some 122), .append 3 40 79, [.t 119, .t 121], none⟩,
     ⟨(some 123), .mov, [.t 10], none⟩,
     ⟨(some 124), .load 3 true, [.t 13], none⟩,
     ⟨(some 125), .mkslice 3 79, [.t 124], none⟩,
     ⟨(some 126), .append 3 40 79, [.t 123, .t 125], none⟩,
     ⟨(some 9), .mov, [.t 122], none⟩,
     ⟨(some 10), .mov, [.t 126], none⟩]))))
   (.reg [⟨(some 52), .mov, [.t 11], none⟩,
     ⟨(some 53), .bin .add, [.t 52, .c (.int .i64 1)], none⟩,
     ⟨(some 11), .mov, [.t 53], none⟩]))))))
   (.seq (.reg [⟨(some 128), .mov, [.t 9], none⟩,
     ⟨(some 129), .faddr 0, [.t 5], none⟩,
     ⟨(some 130), .load 3 true, [.t 129], none⟩,
     ⟨(some 131), .faddr 3, [.t 5], none⟩,
     ⟨(some 132), .load 3 true, [.t 131], none⟩,
     ⟨(some 133), .faddr 6, [.t 5], none⟩,
     ⟨(some 134), .load 1 false, [.t 133], none⟩,
     ⟨(some 135), .faddr 7, [.t 5], none⟩,
     ⟨(some 136), .faddr 0, [.t 135], none⟩,
     ⟨(some 137), .load 1 false, [.t 136], none⟩,
     ⟨(some 138), .call 52, [.t 128, .t 130, .t 132, .t 134, .t 137], none⟩,
     ⟨(some 127), .mov, [.t 138], none⟩,
     ⟨(some 139), .extract 0, [.t 127], none⟩,
     ⟨(some 140), .extract 1, [.t 127], none⟩,
     ⟨(some 16), .alloc [(.int .i64 0), (.int .i64 0), (.int .i64 0), (.int .i64 0), (.int .i64 0), (.int .i64 0), .nils], [], none⟩,
     ⟨none, .store 7, [.t 16, .t 139], none⟩,
     ⟨(some 8), .mov, [.t 140], none⟩])
   (.seq (.reg [⟨(some 142), .mov, [.t 10], none⟩,
     ⟨(some 143), .faddr 0, [.t 5], none⟩,
     ⟨(some 144), .load 3 true, [.t 143], none⟩,
     ⟨(some 145), .faddr 3, [.t 5], none⟩,
     ⟨(some 146), .load 3 true, [.t 145], none⟩,
     ⟨(some 147), .faddr 6, [.t 5], none⟩,
     ⟨(some 148), .load 1 false, [.t 147], none⟩,
     ⟨(some 149), .faddr 7, [.t 5], none⟩,
     ⟨(some 150), .faddr 0, [.t 149], none⟩,
     ⟨(some 151), .load 1 false, [.t 150], none⟩,
     ⟨(some 152), .call 52, [.t 142, .t 144, .t 146, .t 148, .t 151], none⟩,
     ⟨(some 141), .mov, [.t 152], none⟩,
     ⟨(some 153), .extract 0, [.t 141], none⟩,
     ⟨(some 154), .extract 1, [.t 141], none⟩,
     ⟨(some 17), .alloc [(.int .i64 0), (.int .i64 0), (.int .i64 0), (.int .i64 0), (.int .i64 0), (.int .i64 0), .nils], [], none⟩,
     ⟨none, .store 7, [.t 17, .t 153], none⟩,
     ⟨(some 18), .mov, [.t 154], none⟩])
   (.seq (.seq (.reg [⟨(some 155), .mov, [.t 8], none⟩,
     ⟨(some 156), .bin .neq, [.t 155, .c (.int .i64 0)], none⟩,
     ⟨(some 157), .mov, [.t 156], none⟩,
     ⟨(some 158), .faddr 6, [.t 16], (some (157, false))⟩,
     ⟨(some 159), .load 1 false, [.t 158], (some (157, false))⟩,
     ⟨(some 160), .len false, [.t 159], (some (157, false))⟩,
     ⟨(some 161), .faddr 6, [.t 7], (some (157, false))⟩,
     ⟨(some 162), .load 1 false, [.t 161], (some (157, false))⟩,
     ⟨(some 163), .len false, [.t 162], (some (157, false))⟩,
     ⟨(some 164), .bin .neq, [.t 160, .t 163], (some (157, false))⟩,
     ⟨(some 165), .pick, [.t 157, .c (.bool true), .t 164], none⟩])
   (.cond (.t 165) (.seq (.reg [⟨(some 6), .mov, [.c (.bool false)], none⟩])
   .ret) .skip))
   (.seq (.seq (.reg [⟨(some 166), .mov, [.t 18], none⟩,
     ⟨(some 167), .bin .neq, [.t 166, .c (.int .i64 0)], none⟩])
   (.cond (.t 167) (.seq (.reg [⟨(some 168), .mov, [.t 18], none⟩,
     ⟨(some 169), .bin .eql, [.t 168, .c (.int .i64 100)], none⟩,
     ⟨(some 170), .mov, [.t 169], none⟩,
     ⟨(some 171), .call 30, [], (some (170, true))⟩,
     ⟨(some 172), .pick, [.t 170, .t 171, .c (.bool false)], none⟩,
     ⟨(some 6), .mov, [.t 172], none⟩])
   .ret) .skip))
   (.seq (.seq (.reg [⟨(some 173), .faddr 6, [.t 17], none⟩,
     ⟨(some 174), .load 1 false, [.t 173], none⟩,
     ⟨(some 175), .len false, [.t 174], none⟩,
     ⟨(some 176), .faddr 6, [.t 7], none⟩,
     ⟨(some 177), .load 1 false, [.t 176], none⟩,
     ⟨(some 178), .len false, [.t 177], none⟩,
     ⟨(some 179), .bin .neq, [.t 175, .t 178], none⟩])
   (.cond (.t 179) (.seq (.reg [⟨(some 6), .mov, [.c (.bool false)], none⟩])
   .ret) .skip))
   (.seq (.reg [⟨(some 180), .faddr 6, [.t 7], none⟩,
     ⟨(some 181), .load 1 false, [.t 180], none⟩,
     ⟨(some 182), .len false, [.t 181], none⟩,
     ⟨(some 183), .mkbox 2 16 [(.int .i64 0), (.int .i64 0)], [.t 182, .t 182], none⟩,
     ⟨(some 19), .mov, [.t 183], none⟩])
   (.seq (.seq (.reg [⟨(some 20), .mov, [.c (.int .i64 0)], none⟩])
   (.block 4 (.loop (.seq (.seq (.reg [⟨(some 184), .mov, [.t 20], none⟩,
     ⟨(some 185), .mov, [.t 0], none⟩,
     ⟨(some 186), .len false, [.t 185], none⟩,
     ⟨(some 187), .bin .lss, [.t 184, .t 186], none⟩])
   (.cond (.t 187) .skip (.exit 4)))
   (.seq (.block 5 (.seq (.draw [0, 0, 0, 4, 15, 0, 32, 0, 128, 0, 512, 0, 2048, 6144, 16383, 32767, 65535, 65535, 0, 393215, 1048575] [⟨(some 191), .mov, [.t 0], none⟩,
     ⟨(some 192), .mov, [.t 20], none⟩,
     ⟨(some 193), .mov, [.t 20], none⟩,
     ⟨(some 194), .bin .add, [.t 193, .c (.int .i64 1)], none⟩,
     ⟨(some 195), .slx 3 true true, [.t 191, .t 192, .t 194], none⟩,
     ⟨(some 196), .faddr 0, [.t 5], none⟩,
     ⟨(some 197), .load 3 true, [.t 196], none⟩,
     ⟨(some 198), .faddr 3, [.t 5], none⟩,
     ⟨(some 199), .load 3 true, [.t 198], none⟩,
     ⟨(some 200), .faddr 6, [.t 5], none⟩,
     ⟨(some 201), .load 1 false, [.t 200], none⟩,
     ⟨(some 202), .faddr 7, [.t 5], none⟩,
     ⟨(some 203), .faddr 0, [.t 202], none⟩,
     ⟨(some 204), .load 1 false, [.t 203], none⟩,
     ⟨(some 205), .call 52, [.t 195, .t 197, .t 199, .t 201, .t 204], none⟩,
     ⟨(some 190), .mov, [.t 205], none⟩,
     ⟨(some 206), .extract 0, [.t 190], none⟩,
     ⟨(some 207), .extract 1, [.t 190], none⟩,
     ⟨(some 21), .alloc [(.int .i64 0), (.int .i64 0), (.int .i64 0), (.int .i64 0), (.int .i64 0), (.int .i64 0), .nils], [], none⟩,
     ⟨none, .store 7, [.t 21, .t 206], none⟩,
     ⟨(some 22), .mov, [.t 207], none⟩])
   (.seq (.seq (.reg [⟨(some 208), .mov, [.t 22], none⟩,
     ⟨(some 209), .bin .neq, [.t 208, .c (.int .i64 0)], none⟩,
     ⟨(some 210), .mov, [.t 209], none⟩,
     ⟨(some 211), .faddr 6, [.t 21], (some (210, false))⟩,
     ⟨(some 212), .load 1 false, [.t 211], (some (210, false))⟩,
     ⟨(some 213), .len false, [.t 212], (some (210, false))⟩,
     ⟨(some 214), .mov, [.t 19], (some (210, false))⟩,
     ⟨(some 215), .len false, [.t 214], (some (210, false))⟩,
     ⟨(some 216), .bin .neq, [.t 213, .t 215], (some (210, false))⟩,
     ⟨(some 217), .pick, [.t 210, .c (.bool true), .t 216], none⟩])
   (.cond (.t 217) (.seq (.reg [⟨(some 6), .mov, [.c (.bool false)], none⟩])
   .ret) .skip))
   (.seq (.reg [⟨(some 23), .mov, [.c (.int .i64 0)], none⟩])
   (.block 6 (.loop (.seq (.seq (.reg [⟨(some 218), .mov, [.t 23], none⟩,
     ⟨(some 219), .mov, [.t 19], none⟩,
     ⟨(some 220), .len false, [.t 219], none⟩,
     ⟨(some 221), .bin .lss, [.t 218, .t 220], none⟩])
   (.cond (.t 221) .skip (.exit 6)))
   (.seq (.block 7 (.draw [0, 0, 0, 0, 12, 28, 0, 64, 0, 448, 960, 2044, 4095, 8191] [⟨(some 224), .mov, [.t 19], none⟩,
     ⟨(some 225), .mov, [.t 23], none⟩,
     ⟨(some 226), .mov, [.t 19], none⟩,
     ⟨(some 227), .mov, [.t 23], none⟩,
     ⟨(some 228), .iaddrS 2, [.t 226, .t 227], none⟩,
     ⟨(some 229), .load 2 true, [.t 228], none⟩,
     ⟨(some 230), .faddr 6, [.t 21], none⟩,
     ⟨(some 231), .load 1 false, [.t 230], none⟩,
     ⟨(some 232), .mov, [.t 23], none⟩,
     ⟨(some 233), .iaddrS 2, [.t 231, .t 232], none⟩,
     ⟨(some 234), .load 2 true, [.t 233], none⟩,
     ⟨(some 235), .call 57, [.t 229, .t 234], none⟩,
     ⟨(some 236), .iaddrS 2, [.t 224, .t 225], none⟩,
     ⟨none, .store 2, [.t 236, .t 235], none⟩]))
   (.reg [⟨(some 222), .mov, [.t 23], none⟩,
     ⟨(some 223), .bin .add, [.t 222, .c (.int .i64 1)], none⟩,
     ⟨(some 23), .mov, [.t 223], none⟩])))))))))
   (.reg [⟨(some 188), .mov, [.t 20], none⟩,
     ⟨(some 189), .bin .add, [.t 188, .c (.int .i64 1)], none⟩,
     ⟨(some 20), .mov, [.t 189], none⟩]))))))
   (.seq (.seq (.reg [⟨(some 24), .mov, [.c (.int .i64 0)], none⟩])
   (.block 8 (.loop (.seq (.seq (.reg [⟨(some 237), .mov, [.t 24], none⟩,
     ⟨(some 238), .mov, [.t 19], none⟩,
     ⟨(some 239), .len false, [.t 238], none⟩,
     ⟨(some 240), .bin .lss, [.t 237, .t 239], none⟩])
   (.cond (.t 240) .skip (.exit 8)))
   (.seq (.block 9 (.seq (.draw [0, 0, 3, 7, 0, 16, 0, 112, 240, 511, 1023, 2047, 4095, 2047, 16383, 32767, 2047, 67583, 2047, 460799, 985087, 2047, 2099199, 2047, 14682111, 31459327, 67045375, 134217727, 268435455] [⟨(some 243), .mov, [.t 19], none⟩,
     ⟨(some 244), .mov, [.t 24], none⟩,
     ⟨(some 245), .iaddrS 2, [.t 243, .t 244], none⟩,
     ⟨(some 246), .load 2 true, [.t 245], none⟩,
     ⟨(some 247), .faddr 6, [.t 7], none⟩,
     ⟨(some 248), .load 1 false, [.t 247], none⟩,
     ⟨(some 249), .mov, [.t 24], none⟩,
     ⟨(some 250), .iaddrS 2, [.t 248, .t 249], none⟩,
     ⟨(some 251), .load 2 true, [.t 250], none⟩,
     ⟨(some 252), .eqs true [0, 0], [.t 246, .t 251], none⟩,
     ⟨(some 253), .mov, [.t 252], none⟩,
     ⟨(some 254), .faddr 6, [.t 17], (some (253, false))⟩,
     ⟨(some 255), .load 1 false, [.t 254], (some (253, false))⟩,
     ⟨(some 256), .mov, [.t 24], (some (253, false))⟩,
     ⟨(some 257), .iaddrS 2, [.t 255, .t 256], (some (253, false))⟩,
     ⟨(some 258), .load 2 true, [.t 257], (some (253, false))⟩,
     ⟨(some 259), .faddr 6, [.t 7], (some (253, false))⟩,
     ⟨(some 260), .load 1 false, [.t 259], (some (253, false))⟩,
     ⟨(some 261), .mov, [.t 24], (some (253, false))⟩,
     ⟨(some 262), .iaddrS 2, [.t 260, .t 261], (some (253, false))⟩,
     ⟨(some 263), .load 2 true, [.t 262], (some (253, false))⟩,
     ⟨(some 264), .faddr 6, [.t 16], (some (253, false))⟩,
     ⟨(some 265), .load 1 false, [.t 264], (some (253, false))⟩,
     ⟨(some 266), .mov, [.t 24], (some (253, false))⟩,
     ⟨(some 267), .iaddrS 2, [.t 265, .t 266], (some (253, false))⟩,
     ⟨(some 268), .load 2 true, [.t 267], (some (253, false))⟩,
     ⟨(some 269), .call 57, [.t 263, .t 268], (some (253, false))⟩,
     ⟨(some 270), .eqs true [0, 0], [.t 258, .t 269], (some (253, false))⟩,
     ⟨(some 271), .pick, [.t 253, .c (.bool true), .t 270], none⟩])
   (.cond (.t 271) (.seq (.reg [⟨(some 6), .mov, [.c (.bool false)], none⟩])
   .ret) .skip)))
   (.reg [⟨(some 241), .mov, [.t 24], none⟩,
     ⟨(some 242), .bin .add, [.t 241, .c (.int .i64 1)], none⟩,
     ⟨(some 24), .mov, [.t 242], none⟩]))))))
   (.seq (.reg [⟨(some 272), .call 30, [], none⟩,
     ⟨(some 6), .mov, [.t 272], none⟩])
   .ret))))))))))))))
theorem chk.law10_VolumeLinear : chkF Try.prog 15 = some (273, ir.law10_VolumeLinear, [.tmp 6]) := by kernel_rfl

/-- paravane/paravanelaw10.VolumePoint -/
abbrev F.law10_VolumePoint : Nat := 16
def ir.law10_VolumePoint : IC :=
 (.seq (.reg [⟨(some 4), .box, [.t 1], none⟩,
     ⟨(some 5), .box, [.t 2], none⟩,
     ⟨(some 6), .mov, [.c (.bool false)], none⟩])
   (.seq (.reg [⟨(some 7), .mov, [.c .nils], none⟩])
   (.seq (.reg [⟨(some 8), .mov, [.c (.int .i64 0)], none⟩])
   (.seq (.seq (.reg [⟨(some 9), .mov, [.c (.int .i64 0)], none⟩])
   (.block 0 (.loop (.seq (.seq (.reg [⟨(some 18), .mov, [.t 9], none⟩,
     ⟨(some 19), .mov, [.t 0], none⟩,
     ⟨(some 20), .len false, [.t 19], none⟩,
     ⟨(some 21), .bin .lss, [.t 18, .t 20], none⟩,
     ⟨(some 22), .mov, [.t 21], none⟩,
     ⟨(some 23), .mov, [.t 9], (some (22, true))⟩,
     ⟨(some 24), .bin .lss, [.t 23, .c (.int .i64 32)], (some (22, true))⟩,
     ⟨(some 25), .pick, [.t 22, .t 24, .c (.bool false)], none⟩])
   (.cond (.t 25) .skip (.exit 0)))
   (.seq (.block 1 (.seq (.draw [0, 0, 3, 7, 15, 31, 63, 0, 0, 384, 896, 1920, 4031, 8127, 0, 32767, 0, 131071] [⟨(some 28), .mov, [.t 0], none⟩,
     ⟨(some 29), .mov, [.t 9], none⟩,
     ⟨(some 30), .iaddrS 2, [.t 28, .t 29], none⟩,
     ⟨(some 31), .iaddrA 2 1, [.t 30, .c (.int .i64 0)], none⟩,
     ⟨(some 32), .load 1 false, [.t 31], none⟩,
     ⟨(some 33), .call 49, [.t 32, .c (.int .i64 129)], none⟩,
     ⟨(some 34), .bin .sub, [.t 33, .c (.int .i64 64)], none⟩,
     ⟨(some 35), .mov, [.t 0], none⟩,
     ⟨(some 36), .mov, [.t 9], none⟩,
     ⟨(some 37), .iaddrS 2, [.t 35, .t 36], none⟩,
     ⟨(some 38), .iaddrA 2 1, [.t 37, .c (.int .i64 1)], none⟩,
     ⟨(some 39), .load 1 false, [.t 38], none⟩,
     ⟨(some 40), .call 49, [.t 39, .c (.int .i64 129)], none⟩,
     ⟨(some 41), .bin .sub, [.t 40, .c (.int .i64 64)], none⟩,
     ⟨(some 42), .mkbox 2 16 [(.int .i64 0), (.int .i64 0)], [.c (.int .i64 64), .c (.int .i64 64)], none⟩,
     ⟨(some 43), .build [(.int .i64 0), (.int .i64 0), .nils] [(0, 1), (1, 1), (2, 1)], [.t 34, .t 41, .t 42], none⟩,
     ⟨(some 10), .alloc [(.int .i64 0), (.int .i64 0), .nils], [], none⟩,
     ⟨none, .store 3, [.t 10, .t 43], none⟩])
   (.seq (.reg [⟨(some 44), .faddr 0, [.t 10], none⟩,
     ⟨(some 45), .load 1 false, [.t 44], none⟩,
     ⟨(some 46), .iaddrA 3 1, [.t 4, .c (.int .i64 0)], none⟩,
     ⟨(some 47), .load 1 false, [.t 46], none⟩,
     ⟨(some 48), .bin .sub, [.t 45, .t 47], none⟩,
     ⟨(some 49), .faddr 0, [.t 10], none⟩,
     ⟨(some 50), .load 1 false, [.t 49], none⟩,
     ⟨(some 51), .iaddrA 3 1, [.t 4, .c (.int .i64 0)], none⟩,
     ⟨(some 52), .load 1 false, [.t 51], none⟩,
     ⟨(some 53), .bin .sub, [.t 50, .t 52], none⟩,
     ⟨(some 54), .bin .mul, [.t 48, .t 53], none⟩,
     ⟨(some 55), .faddr 1, [.t 10], none⟩,
     ⟨(some 56), .load 1 false, [.t 55], none⟩,
     ⟨(some 57), .iaddrA 3 1, [.t 4, .c (.int .i64 1)], none⟩,
     ⟨(some 58), .load 1 false, [.t 57], none⟩,
     ⟨(some 59), .bin .sub, [.t 56, .t 58], none⟩,
     ⟨(some 60), .faddr 1, [.t 10], none⟩,
     ⟨(some 61), .load 1 false, [.t 60], none⟩,
     ⟨(some 62), .iaddrA 3 1, [.t 4, .c (.int .i64 1)], none⟩,
     ⟨(some 63), .load 1 false, [.t 62], none⟩,
     ⟨(some 64), .bin .sub, [.t 61, .t 63], none⟩,
     ⟨(some 65), .bin .mul, [.t 59, .t 64], none⟩,
     ⟨(some 66), .bin .add, [.t 54, .t 65], none⟩,
     ⟨(some 11), .mov, [.t 66], none⟩])
   (.seq (.reg [⟨(some 68), .iaddrA 3 1, [.t 4, .c (.int .i64 2)], none⟩,
     ⟨(some 69), .load 1 false, [.t 68], none⟩,
     ⟨(some 70), .mov, [.t 11], none⟩,
     ⟨(some 71), .faddr 7, [.t 5], none⟩,
     ⟨(some 72), .faddr 0, [.t 71], none⟩,
     ⟨(some 73), .load 1 false, [.t 72], none⟩,
     ⟨(some 74), .call 26, [.t 69, .t 70, .t 73], none⟩,
     ⟨(some 67), .mov, [.t 74], none⟩,
     ⟨(some 75), .extract 0, [.t 67], none⟩,
     ⟨(some 76), .extract 1, [.t 67], none⟩,
     ⟨(some 12), .mov, [.t 75], none⟩,
     ⟨(some 13), .mov, [.t 76], none⟩])
   (.seq (.seq (.reg [⟨(some 77), .mov, [.t 13], none⟩,
     ⟨(some 78), .bin .neq, [.t 77, .c (.int .i64 0)], none⟩])
   (.cond (.t 78) (.seq (.reg [⟨(some 79), .call 30, [], none⟩,
     ⟨(some 6), .mov, [.t 79], none⟩])
   .ret) .skip))
   (.seq (.seq (.reg [⟨(some 80), .mov, [.t 12], none⟩,
     ⟨(some 81), .bin .lss, [.t 80, .c (.int .i64 64)], none⟩])
   (.cond (.t 81) (.seq (.reg [⟨(some 82), .faddr 2, [.t 10], none⟩,
     ⟨(some 83), .load 1 false, [.t 82], none⟩,
     ⟨(some 84), .mov, [.t 12], none⟩,
     ⟨(some 85), .build [(.int .i64 0), (.int .i64 0)] [(0, 1), (1, 1)], [.c (.int .i64 1), .c (.int .i64 1)], none⟩,
     ⟨(some 86), .iaddrS 2, [.t 83, .t 84], none⟩,
     ⟨none, .store 2, [.t 86, .t 85], none⟩])
   (.seq (.reg [⟨(some 87), .mov, [.t 11], none⟩,
     ⟨(some 88), .faddr 6, [.t 5], none⟩,
     ⟨(some 89), .load 1 false, [.t 88], none⟩,
     ⟨(some 90), .faddr 6, [.t 5], none⟩,
     ⟨(some 91), .load 1 false, [.t 90], none⟩,
     ⟨(some 92), .bin .mul, [.t 89, .t 91], none⟩,
     ⟨(some 93), .bin .leq, [.t 87, .t 92], none⟩])
   (.cond (.t 93) (.reg [⟨(some 94), .mov, [.t 8], none⟩,
     ⟨(some 95), .bin .add, [.t 94, .c (.int .i64 1)], none⟩,
     ⟨(some 8), .mov, [.t 95], none⟩]) .skip))) .skip))
   (.reg [⟨(some 96), .mov, [.t 7], none⟩,
     ⟨(some 97), .load 3 true, [.t 10], none⟩,
     ⟨(some 98), .mkslice 3 79, [.t 97], none⟩,
     ⟨(some 99), .append 3 40 79, [.t 96, .t 98], none⟩,
     ⟨(some 7), .mov, [.t 99], none⟩])))))))
   (.reg [⟨(some 26), .mov, [.t 9], none⟩,
     ⟨(some 27), .bin .add, [.t 26, .c (.int .i64 1)], none⟩,
     ⟨(some 9), .mov, [.t 27], none⟩]))))))
   (.seq (.reg [⟨(some 101), .mov, [.t 7], none⟩,
     ⟨(some 102), .load 3 true, [.t 4], none⟩,
     ⟨(some 103), .faddr 6, [.t 5], none⟩,
     ⟨(some 104), .load 1 false, [.t 103], none⟩,
     ⟨(some 105), .faddr 7, [.t 5], none⟩,
     ⟨(some 106), .faddr 0, [.t 105], none⟩,
     ⟨(some 107), .load 1 false, [.t 106], none⟩,
     ⟨(some 108), .call 31, [.t 101, .t 102, .t 104, .t 107], none⟩,
     ⟨(some 100), .mov, [.t 108], none⟩,
     ⟨(some 109), .extract 0, [.t 100], none⟩,
     ⟨(some 110), .extract 1, [.t 100], none⟩,
     ⟨(some 14), .alloc [(.int .i64 0), (.int .i64 0), (.int .i64 0), .nils, (.int .i64 0), (.int .i64 0)], [], none⟩,
     ⟨none, .store 6, [.t 14, .t 109], none⟩,
     ⟨(some 15), .mov, [.t 110], none⟩])
   (.seq (.seq (.reg [⟨(some 111), .mov, [.t 15], none⟩,
     ⟨(some 112), .bin .neq, [.t 111, .c (.int .i64 0)], none⟩])
   (.cond (.t 112) (.seq (.reg [⟨(some 113), .mov, [.t 15], none⟩,
     ⟨(some 114), .bin .eql, [.t 113, .c (.int .i64 102)], none⟩,
     ⟨(some 115), .mov, [.t 114], none⟩,
     ⟨(some 116), .call 30, [], (some (115, true))⟩,
     ⟨(some 117), .pick, [.t 115, .t 116, .c (.bool false)], none⟩,
     ⟨(some 6), .mov, [.t 117], none⟩])
   .ret) .skip))
   (.seq (.reg [⟨(some 119), .mov, [.t 7], none⟩,
     ⟨(some 120), .faddr 0, [.t 5], none⟩,
     ⟨(some 121), .load 3 true, [.t 120], none⟩,
     ⟨(some 122), .faddr 3, [.t 5], none⟩,
     ⟨(some 123), .load 3 true, [.t 122], none⟩,
     ⟨(some 124), .faddr 6, [.t 5], none⟩,
     ⟨(some 125), .load 1 false, [.t 124], none⟩,
     ⟨(some 126), .faddr 7, [.t 5], none⟩,
     ⟨(some 127), .faddr 0, [.t 126], none⟩,
     ⟨(some 128), .load 1 false, [.t 127], none⟩,
     ⟨(some 129), .call 52, [.t 119, .t 121, .t 123, .t 125, .t 128], none⟩,
     ⟨(some 118), .mov, [.t 129], none⟩,
     ⟨(some 130), .extract 0, [.t 118], none⟩,
     ⟨(some 131), .extract 1, [.t 118], none⟩,
     ⟨(some 16), .alloc [(.int .i64 0), (.int .i64 0), (.int .i64 0), (.int .i64 0), (.int .i64 0), (.int .i64 0), .nils], [], none⟩,
     ⟨none, .store 7, [.t 16, .t 130], none⟩,
     ⟨(some 15), .mov, [.t 131], none⟩])
   (.seq (.seq (.reg [⟨(some 132), .faddr 4, [.t 14], none⟩,
     ⟨(some 133), .load 2 true, [.t 132], none⟩,
     ⟨(some 134), .mov, [.t 8], none⟩,
     ⟨(some 135), .mov, [.t 8], none⟩,
     ⟨(some 136), .build [(.int .i64 0), (.int .i64 0)] [(0, 1), (1, 1)], [.t 134, .t 135], none⟩,
     ⟨(some 137), .eqs true [0, 0], [.t 133, .t 136], none⟩,
     ⟨(some 138), .mov, [.t 137], none⟩,
     ⟨(some 139), .faddr 3, [.t 14], (some (138, false))⟩,
     ⟨(some 140), .load 1 false, [.t 139], (some (138, false))⟩,
     ⟨(some 141), .len false, [.t 140], (some (138, false))⟩,
     ⟨(some 142), .mov, [.t 8], (some (138, false))⟩,
     ⟨(some 143), .bin .neq, [.t 141, .t 142], (some (138, false))⟩,
     ⟨(some 144), .pick, [.t 138, .c (.bool true), .t 143], none⟩])
   (.cond (.t 144) (.seq (.reg [⟨(some 6), .mov, [.c (.bool false)], none⟩])
   .ret) .skip))
   (.seq (.seq (.reg [⟨(some 145), .mov, [.t 15], none⟩,
     ⟨(some 146), .bin .neq, [.t 145, .c (.int .i64 0)], none⟩])
   (.cond (.t 146) (.seq (.reg [⟨(some 147), .mov, [.t 15], none⟩,
     ⟨(some 148), .bin .eql, [.t 147, .c (.int .i64 102)], none⟩,
     ⟨(some 149), .mov, [.t 148], none⟩,
     ⟨(some 150), .call 30, [], (some (149, true))⟩,
     ⟨(some 151), .pick, [.t 149, .t 150, .c (.bool false)], none⟩,
     ⟨(some 6), .mov, [.t 151], none⟩])
   .ret) .skip))
   (.seq (.seq (.reg [⟨(some 17), .mov, [.c (.int .i64 0)], none⟩])
   (.block 2 (.loop (.seq (.seq (.reg [⟨(some 152), .mov, [.t 17], none⟩,
     ⟨(some 153), .faddr 6, [.t 16], none⟩,
     ⟨(some 154), .load 1 false, [.t 153], none⟩,
     ⟨(some 155), .len false, [.t 154], none⟩,
     ⟨(some 156), .bin .lss, [.t 152, .t 155], none⟩])
   (.cond (.t 156) .skip (.exit 2)))
   (.seq (.block 3 (.seq (.reg [⟨(some 159), .faddr 6, [.t 16], none⟩,
     ⟨(some 160), .load 1 false, [.t 159], none⟩,
     ⟨(some 161), .mov, [.t 17], none⟩,
     ⟨(some 162), .iaddrS 2, [.t 160, .t 161], none⟩,
     ⟨(some 163), .faddr 1, [.t 162], none⟩,
     ⟨(some 164), .load 1 false, [.t 163], none⟩,
     ⟨(some 165), .mov, [.t 7], none⟩,
     ⟨(some 166), .len false, [.t 165], none⟩,
     ⟨(some 167), .bin .gtr, [.t 164, .t 166], none⟩,
     ⟨(some 168), .mov, [.t 167], none⟩,
     ⟨(some 169), .faddr 6, [.t 16], (some (168, false))⟩,
     ⟨(some 170), .load 1 false, [.t 169], (some (168, false))⟩,
     ⟨(some 171), .mov, [.t 17], (some (168, false))⟩,
     ⟨(some 172), .iaddrS 2, [.t 170, .t 171], (some (168, false))⟩,
     ⟨(some 173), .faddr 0, [.t 172], (some (168, false))⟩,
     ⟨(some 174), .load 1 false, [.t 173], (some (168, false))⟩,
     ⟨(some 175), .bin .lss, [.t 174, .c (.int .i64 0)], (some (168, false))⟩,
     ⟨(some 176), .pick, [.t 168, .c (.bool true), .t 175], none⟩])
   (.cond (.t 176) (.seq (.reg [⟨(some 6), .mov, [.c (.bool false)], none⟩])
   .ret) .skip)))
   (.reg [⟨(some 157), .mov, [.t 17], none⟩,
     ⟨(some 158), .bin .add, [.t 157, .c (.int .i64 1)], none⟩,
     ⟨(some 17), .mov, [.t 158], none⟩]))))))
   (.seq (.reg [⟨(some 177), .call 30, [], none⟩,
     ⟨(some 6), .mov, [.t 177], none⟩])
   .ret)))))))))))
theorem chk.law10_VolumePoint : chkF Try.prog 16 = some (178, ir.law10_VolumePoint, [.tmp 6]) := by kernel_rfl

/-- paravane/paravanelaw10.VolumeAgrees -/
abbrev F.law10_VolumeAgrees : Nat := 18
def ir.law10_VolumeAgrees : IC :=
 (.seq (.reg [⟨(some 2), .box, [.t 0], none⟩,
     ⟨(some 3), .box, [.t 1], none⟩,
     ⟨(some 4), .mov, [.c (.bool false)], none⟩])
   (.seq (.reg [⟨(some 14), .load 7 true, [.t 2], none⟩,
     ⟨(some 15), .load 7 true, [.t 3], none⟩,
     ⟨(some 16), .call 42, [.t 14, .t 15], none⟩,
     ⟨(some 13), .mov, [.t 16], none⟩,
     ⟨(some 17), .extract 0, [.t 13], none⟩,
     ⟨(some 18), .extract 1, [.t 13], none⟩,
     ⟨(some 5), .alloc [(.int .i64 0), (.int .i64 0), (.int .i64 0), (.int .i64 0), (.int .i64 0), (.int .i64 0), .nils], [], none⟩,
     ⟨none, .store 7, [.t 5, .t 17], none⟩,
     ⟨(some 6), .mov, [.t 18], none⟩])
   (.seq (.reg [⟨(some 20), .load 7 true, [.t 3], none⟩,
     ⟨(some 21), .load 7 true, [.t 2], none⟩,
     ⟨(some 22), .call 42, [.t 20, .t 21], none⟩,
     ⟨(some 19), .mov, [.t 22], none⟩,
     ⟨(some 23), .extract 0, [.t 19], none⟩,
     ⟨(some 24), .extract 1, [.t 19], none⟩,
     ⟨(some 7), .alloc [(.int .i64 0), (.int .i64 0), (.int .i64 0), (.int .i64 0), (.int .i64 0), (.int .i64 0), .nils], [], none⟩,
     ⟨none, .store 7, [.t 7, .t 23], none⟩,
     ⟨(some 8), .mov, [.t 24], none⟩])
   (.seq (.seq (.reg [⟨(some 25), .mov, [.t 6], none⟩,
     ⟨(some 26), .bin .neq, [.t 25, .c (.int .i64 0)], none⟩])
   (.cond (.t 26) (.seq (.reg [⟨(some 27), .mov, [.t 8], none⟩,
     ⟨(some 28), .bin .neq, [.t 27, .c (.int .i64 0)], none⟩,
     ⟨(some 29), .mov, [.t 28], none⟩,
     ⟨(some 30), .faddr 6, [.t 5], (some (29, true))⟩,
     ⟨(some 31), .load 1 false, [.t 30], (some (29, true))⟩,
     ⟨(some 32), .len false, [.t 31], (some (29, true))⟩,
     ⟨(some 33), .bin .eql, [.t 32, .c (.int .i64 0)], (some (29, true))⟩,
     ⟨(some 34), .pick, [.t 29, .t 33, .c (.bool false)], none⟩,
     ⟨(some 35), .mov, [.t 34], none⟩,
     ⟨(some 36), .call 30, [], (some (35, true))⟩,
     ⟨(some 37), .pick, [.t 35, .t 36, .c (.bool false)], none⟩,
     ⟨(some 4), .mov, [.t 37], none⟩])
   .ret) .skip))
   (.seq (.reg [⟨(some 39), .load 7 true, [.t 5], none⟩,
     ⟨(some 40), .faddr 0, [.t 2], none⟩,
     ⟨(some 41), .load 3 true, [.t 40], none⟩,
     ⟨(some 42), .faddr 3, [.t 2], none⟩,
     ⟨(some 43), .load 3 true, [.t 42], none⟩,
     ⟨(some 44), .call 59, [.t 39, .t 41, .t 43], none⟩,
     ⟨(some 38), .mov, [.t 44], none⟩,
     ⟨(some 45), .extract 0, [.t 38], none⟩,
     ⟨(some 46), .extract 1, [.t 38], none⟩,
     ⟨(some 9), .alloc [(.int .i64 0), (.int .i64 0), (.int .i64 0), (.int .i64 0), (.int .i64 0), (.int .i64 0), .nils], [], none⟩,
     ⟨none, .store 7, [.t 9, .t 45], none⟩,
     ⟨(some 10), .mov, [.t 46], none⟩])
   (.seq (.reg [⟨(some 48), .load 7 true, [.t 5], none⟩,
     ⟨(some 49), .faddr 0, [.t 3], none⟩,
     ⟨(some 50), .load 3 true, [.t 49], none⟩,
     ⟨(some 51), .faddr 3, [.t 3], none⟩,
     ⟨(some 52), .load 3 true, [.t 51], none⟩,
     ⟨(some 53), .call 59, [.t 48, .t 50, .t 52], none⟩,
     ⟨(some 47), .mov, [.t 53], none⟩,
     ⟨(some 54), .extract 0, [.t 47], none⟩,
     ⟨(some 55), .extract 1, [.t 47], none⟩,
     ⟨(some 11), .alloc [(.int .i64 0), (.int .i64 0), (.int .i64 0), (.int .i64 0), (.int .i64 0), (.int .i64 0), .nils], [], none⟩,
     ⟨none, .store 7, [.t 11, .t 54], none⟩,
     ⟨(some 12), .mov, [.t 55], none⟩])
   (.seq (.reg [⟨(some 56), .mov, [.t 8], none⟩,
     ⟨(some 57), .bin .eql, [.t 56, .c (.int .i64 0)], none⟩,
     ⟨(some 58), .mov, [.t 57], none⟩,
     ⟨(some 59), .mov, [.t 10], (some (58, true))⟩,
     ⟨(some 60), .bin .eql, [.t 59, .c (.int .i64 0)], (some (58, true))⟩,
     ⟨(some 61), .pick, [.t 58, .t 60, .c (.bool false)], none⟩,
     ⟨(some 62), .mov, [.t 61], none⟩,
     ⟨(some 63), .mov, [.t 12], (some (62, true))⟩,
     ⟨(some 64), .bin .eql, [.t 63, .c (.int .i64 0)], (some (62, true))⟩,
     ⟨(some 65), .pick, [.t 62, .t 64, .c (.bool false)], none⟩,
     ⟨(some 66), .mov, [.t 65], none⟩,
     ⟨(some 67), .load 7 true, [.t 5], (some (66, true))⟩,
     ⟨(some 68), .load 7 true, [.t 7], (some (66, true))⟩,
     ⟨(some 69), .call 44, [.t 67, .t 68], (some (66, true))⟩,
     ⟨(some 70), .pick, [.t 66, .t 69, .c (.bool false)], none⟩,
     ⟨(some 71), .mov, [.t 70], none⟩,
     ⟨(some 72), .load 7 true, [.t 9], (some (71, true))⟩,
     ⟨(some 73), .load 7 true, [.t 2], (some (71, true))⟩,
     ⟨(some 74), .call 44, [.t 72, .t 73], (some (71, true))⟩,
     ⟨(some 75), .pick, [.t 71, .t 74, .c (.bool false)], none⟩,
     ⟨(some 76), .mov, [.t 75], none⟩,
     ⟨(some 77), .load 7 true, [.t 11], (some (76, true))⟩,
     ⟨(some 78), .load 7 true, [.t 3], (some (76, true))⟩,
     ⟨(some 79), .call 44, [.t 77, .t 78], (some (76, true))⟩,
     ⟨(some 80), .pick, [.t 76, .t 79, .c (.bool false)], none⟩,
     ⟨(some 81), .mov, [.t 80], none⟩,
     ⟨(some 82), .call 30, [], (some (81, true))⟩,
     ⟨(some 83), .pick, [.t 81, .t 82, .c (.bool false)], none⟩,
     ⟨(some 4), .mov, [.t 83], none⟩])
   .ret)))))))
theorem chk.law10_VolumeAgrees : chkF Try.prog 18 = some (84, ir.law10_VolumeAgrees, [.tmp 4]) := by kernel_rfl

/-- paravane/paravanelaw10.VolumeKnown -/
abbrev F.law10_VolumeKnown : Nat := 23
def ir.law10_VolumeKnown : IC :=
 (.seq (.reg [⟨(some 0), .mov, [.c (.bool false)], none⟩])
   (.seq (.reg [⟨(some 27), .call 66, [], none⟩,
     ⟨(some 28), .call 66, [], none⟩,
     ⟨(some 1), .mov, [.t 27], none⟩,
     ⟨(some 2), .mov, [.t 28], none⟩])
   (.seq (.reg [⟨(some 29), .mov, [.t 1], none⟩,
     ⟨(some 30), .mov, [.t 2], none⟩,
     ⟨(some 31), .mkbox 2 16 [(.int .i64 0), (.int .i64 0)], [.c (.int .i64 65), .c (.int .i64 65)], none⟩,
     ⟨(some 32), .build [(.int .i64 0), (.int .i64 0)] [(1, 1)], [.c (.int .i64 16777217)], none⟩,
     ⟨(some 33), .mkslice 2 33, [.t 32], none⟩,
     ⟨(some 34), .iaddrS 3, [.t 29, .c (.int .i64 0)], none⟩,
     ⟨(some 35), .faddr 2, [.t 34], none⟩,
     ⟨none, .store 1, [.t 35, .t 31], none⟩,
     ⟨(some 36), .iaddrS 3, [.t 30, .c (.int .i64 0)], none⟩,
     ⟨(some 37), .faddr 2, [.t 36], none⟩,
     ⟨none, .store 1, [.t 37, .t 33], none⟩])
   (.seq (.seq (.reg [⟨(some 38), .mov, [.t 1], none⟩,
     ⟨(some 39), .call 28, [.t 38], none⟩,
     ⟨(some 40), .bin .neq, [.t 39, .c (.int .i64 100)], none⟩,
     ⟨(some 41), .mov, [.t 40], none⟩,
     ⟨(some 42), .mov, [.t 2], (some (41, false))⟩,
     ⟨(some 43), .call 28, [.t 42], (some (41, false))⟩,
     ⟨(some 44), .bin .neq, [.t 43, .c (.int .i64 100)], (some (41, false))⟩,
     ⟨(some 45), .pick, [.t 41, .c (.bool true), .t 44], none⟩,
     ⟨(some 46), .mov, [.t 45], none⟩,
     ⟨(some 47), .mkbox 3 40 [(.int .i64 0), (.int .i64 0), .nils], [.c (.int .i64 1), .c (.int .i64 1)], (some (46, false))⟩,
     ⟨(some 48), .call 28, [.t 47], (some (46, false))⟩,
     ⟨(some 49), .bin .neq, [.t 48, .c (.int .i64 100)], (some (46, false))⟩,
     ⟨(some 50), .pick, [.t 46, .c (.bool true), .t 49], none⟩,
     ⟨(some 51), .mov, [.t 50], none⟩,
     ⟨(some 52), .call 28, [.c .nils], (some (51, false))⟩,
     ⟨(some 53), .bin .neq, [.t 52, .c (.int .i64 0)], (some (51, false))⟩,
     ⟨(some 54), .pick, [.t 51, .c (.bool true), .t 53], none⟩,
     ⟨(some 55), .mov, [.t 54], none⟩,
     ⟨(some 56), .build [(.int .i64 0), (.int .i64 0), (.int .i64 0), (.int .i64 0), (.int .i64 0), (.int .i64 0), .nils] [], [], (some (55, false))⟩,
     ⟨(some 57), .call 65, [.t 56], (some (55, false))⟩,
     ⟨(some 58), .bin .neq, [.t 57, .c (.int .i64 101)], (some (55, false))⟩,
     ⟨(some 59), .pick, [.t 55, .c (.bool true), .t 58], none⟩])
   (.cond (.t 59) (.seq (.reg [⟨(some 0), .mov, [.c (.bool false)], none⟩])
   .ret) .skip))
   (.seq (.reg [⟨(some 61), .call 26, [.c (.int .i64 65), .c (.int .i64 0), .c (.int .i64 0)], none⟩,
     ⟨(some 60), .mov, [.t 61], none⟩,
     ⟨(some 62), .extract 0, [.t 60], none⟩,
     ⟨(some 63), .extract 1, [.t 60], none⟩,
     ⟨(some 3), .mov, [.t 62], none⟩,
     ⟨(some 4), .mov, [.t 63], none⟩])
   (.seq (.reg [⟨(some 65), .call 26, [.c (.int .i64 0), .c (.int .i64 32769), .c (.int .i64 0)], none⟩,
     ⟨(some 64), .mov, [.t 65], none⟩,
     ⟨(some 66), .extract 0, [.t 64], none⟩,
     ⟨(some 67), .extract 1, [.t 64], none⟩,
     ⟨(some 5), .mov, [.t 66], none⟩,
     ⟨(some 6), .mov, [.t 67], none⟩])
   (.seq (.reg [⟨(some 69), .call 66, [], none⟩,
     ⟨(some 70), .build [(.int .i64 0), (.int .i64 0), (.int .i64 0)] [(0, 1), (1, 1), (2, 1)], [.c (.int .i64 0), .c (.int .i64 0), .c (.int .i64 (-1))], none⟩,
     ⟨(some 71), .call 31, [.t 69, .t 70, .c (.int .i64 3), .c (.int .i64 64)], none⟩,
     ⟨(some 68), .mov, [.t 71], none⟩,
     ⟨(some 72), .extract 0, [.t 68], none⟩,
     ⟨(some 73), .extract 1, [.t 68], none⟩,
     ⟨(some 7), .alloc [(.int .i64 0), (.int .i64 0), (.int .i64 0), .nils, (.int .i64 0), (.int .i64 0)], [], none⟩,
     ⟨none, .store 6, [.t 7, .t 72], none⟩,
     ⟨(some 8), .mov, [.t 73], none⟩])
   (.seq (.reg [⟨(some 75), .call 66, [], none⟩,
     ⟨(some 76), .build [(.int .i64 0), (.int .i64 0), (.int .i64 0)] [(0, 1), (1, 1), (2, 1)], [.c (.int .i64 0), .c (.int .i64 0), .c (.int .i64 2)], none⟩,
     ⟨(some 77), .call 31, [.t 75, .t 76, .c (.int .i64 1), .c (.int .i64 64)], none⟩,
     ⟨(some 74), .mov, [.t 77], none⟩,
     ⟨(some 78), .extract 0, [.t 74], none⟩,
     ⟨(some 79), .extract 1, [.t 74], none⟩,
     ⟨(some 9), .alloc [(.int .i64 0), (.int .i64 0), (.int .i64 0), .nils, (.int .i64 0), (.int .i64 0)], [], none⟩,
     ⟨none, .store 6, [.t 9, .t 78], none⟩,
     ⟨(some 10), .mov, [.t 79], none⟩])
   (.seq (.reg [⟨(some 81), .call 66, [], none⟩,
     ⟨(some 82), .build [(.int .i64 0), (.int .i64 0), (.int .i64 0)] [(0, 1), (1, 1), (2, 1)], [.c (.int .i64 0), .c (.int .i64 0), .c (.int .i64 3)], none⟩,
     ⟨(some 83), .build [(.int .i64 0), (.int .i64 0), (.int .i64 0)] [(0, 1), (1, 1), (2, 1)], [.c (.int .i64 1), .c (.int .i64 1), .c (.int .i64 1)], none⟩,
     ⟨(some 84), .build [(.int .i64 0), (.int .i64 0)] [(1, 1)], [.c (.int .i64 4096)], none⟩,
     ⟨(some 85), .call 34, [.t 81, .t 82, .t 83, .c (.int .i64 0), .t 84], none⟩,
     ⟨(some 80), .mov, [.t 85], none⟩,
     ⟨(some 86), .extract 0, [.t 80], none⟩,
     ⟨(some 87), .extract 1, [.t 80], none⟩,
     ⟨(some 11), .alloc [(.int .i64 0), (.int .i64 0), (.int .i64 0), (.int .i64 0), (.int .i64 0), (.int .i64 0), .nils], [], none⟩,
     ⟨none, .store 7, [.t 11, .t 86], none⟩,
     ⟨(some 12), .mov, [.t 87], none⟩])
   (.seq (.reg [⟨(some 89), .call 66, [], none⟩,
     ⟨(some 90), .build [(.int .i64 0), (.int .i64 0), (.int .i64 0)] [(0, 1), (1, 1), (2, 1)], [.c (.int .i64 2), .c (.int .i64 0), .c (.int .i64 2)], none⟩,
     ⟨(some 91), .build [(.int .i64 0), (.int .i64 0), (.int .i64 0)] [(0, 1), (1, 1), (2, 1)], [.c (.int .i64 1), .c (.int .i64 1), .c (.int .i64 2)], none⟩,
     ⟨(some 92), .build [(.int .i64 0), (.int .i64 0)] [(0, 1), (1, 1)], [.c (.int .i64 64), .c (.int .i64 4096)], none⟩,
     ⟨(some 93), .call 34, [.t 89, .t 90, .t 91, .c (.int .i64 2), .t 92], none⟩,
     ⟨(some 88), .mov, [.t 93], none⟩,
     ⟨(some 94), .extract 0, [.t 88], none⟩,
     ⟨(some 95), .extract 1, [.t 88], none⟩,
     ⟨(some 13), .alloc [(.int .i64 0), (.int .i64 0), (.int .i64 0), (.int .i64 0), (.int .i64 0), (.int .i64 0), .nils], [], none⟩,
     ⟨none, .store 7, [.t 13, .t 94], none⟩,
     ⟨(some 14), .mov, [.t 95], none⟩])
   (.seq (.reg [⟨(some 97), .call 66, [], none⟩,
     ⟨(some 98), .build [(.int .i64 0), (.int .i64 0), (.int .i64 0)] [(0, 1), (1, 1), (2, 1)], [.c (.int .i64 64), .c (.int .i64 0), .c (.int .i64 0)], none⟩,
     ⟨(some 99), .build [(.int .i64 0), (.int .i64 0), (.int .i64 0)] [(0, 1), (1, 1), (2, 1)], [.c (.int .i64 2), .c (.int .i64 1), .c (.int .i64 1)], none⟩,
     ⟨(some 100), .call 52, [.t 97, .t 98, .t 99, .c (.int .i64 3), .c (.int .i64 64)], none⟩,
     ⟨(some 96), .mov, [.t 100], none⟩,
     ⟨(some 101), .extract 0, [.t 96], none⟩,
     ⟨(some 102), .extract 1, [.t 96], none⟩,
     ⟨(some 15), .alloc [(.int .i64 0), (.int .i64 0), (.int .i64 0), (.int .i64 0), (.int .i64 0), (.int .i64 0), .nils], [], none⟩,
     ⟨none, .store 7, [.t 15, .t 101], none⟩,
     ⟨(some 16), .mov, [.t 102], none⟩])
   (.seq (.reg [⟨(some 104), .call 66, [], none⟩,
     ⟨(some 105), .build [(.int .i64 0), (.int .i64 0), (.int .i64 0)] [], [], none⟩,
     ⟨(some 106), .build [(.int .i64 0), (.int .i64 0), (.int .i64 0)] [(0, 1), (1, 1), (2, 1)], [.c (.int .i64 16), .c (.int .i64 16), .c (.int .i64 5)], none⟩,
     ⟨(some 107), .call 52, [.t 104, .t 105, .t 106, .c (.int .i64 3), .c (.int .i64 64)], none⟩,
     ⟨(some 103), .mov, [.t 107], none⟩,
     ⟨(some 108), .extract 0, [.t 103], none⟩,
     ⟨(some 109), .extract 1, [.t 103], none⟩,
     ⟨(some 17), .alloc [(.int .i64 0), (.int .i64 0), (.int .i64 0), (.int .i64 0), (.int .i64 0), (.int .i64 0), .nils], [], none⟩,
     ⟨none, .store 7, [.t 17, .t 108], none⟩,
     ⟨(some 18), .mov, [.t 109], none⟩])
   (.seq (.seq (.reg [⟨(some 110), .mov, [.t 4], none⟩,
     ⟨(some 111), .bin .neq, [.t 110, .c (.int .i64 7)], none⟩,
     ⟨(some 112), .mov, [.t 111], none⟩,
     ⟨(some 113), .mov, [.t 6], (some (112, false))⟩,
     ⟨(some 114), .bin .neq, [.t 113, .c (.int .i64 7)], (some (112, false))⟩,
     ⟨(some 115), .pick, [.t 112, .c (.bool true), .t 114], none⟩,
     ⟨(some 116), .mov, [.t 115], none⟩,
     ⟨(some 117), .mov, [.t 8], (some (116, false))⟩,
     ⟨(some 118), .bin .neq, [.t 117, .c (.int .i64 102)], (some (116, false))⟩,
     ⟨(some 119), .pick, [.t 116, .c (.bool true), .t 118], none⟩,
     ⟨(some 120), .mov, [.t 119], none⟩,
     ⟨(some 121), .mov, [.t 10], (some (120, false))⟩,
     ⟨(some 122), .bin .neq, [.t 121, .c (.int .i64 0)], (some (120, false))⟩,
     ⟨(some 123), .pick, [.t 120, .c (.bool true), .t 122], none⟩,
     ⟨(some 124), .mov, [.t 123], none⟩,
     ⟨(some 125), .faddr 3, [.t 9], (some (124, false))⟩,
     ⟨(some 126), .load 1 false, [.t 125], (some (124, false))⟩,
     ⟨(some 127), .len false, [.t 126], (some (124, false))⟩,
     ⟨(some 128), .bin .neq, [.t 127, .c (.int .i64 1)], (some (124, false))⟩,
     ⟨(some 129), .pick, [.t 124, .c (.bool true), .t 128], none⟩,
     ⟨(some 130), .mov, [.t 129], none⟩,
     ⟨(some 131), .faddr 4, [.t 9], (some (130, false))⟩,
     ⟨(some 132), .load 2 true, [.t 131], (some (130, false))⟩,
     ⟨(some 133), .build [(.int .i64 0), (.int .i64 0)] [(0, 1), (1, 1)], [.c (.int .i64 5), .c (.int .i64 5)], (some (130, false))⟩,
     ⟨(some 134), .eqs true [0, 0], [.t 132, .t 133], (some (130, false))⟩,
     ⟨(some 135), .pick, [.t 130, .c (.bool true), .t 134], none⟩,
     ⟨(some 136), .mov, [.t 135], none⟩,
     ⟨(some 137), .mov, [.t 12], (some (136, false))⟩,
     ⟨(some 138), .bin .neq, [.t 137, .c (.int .i64 0)], (some (136, false))⟩,
     ⟨(some 139), .pick, [.t 136, .c (.bool true), .t 138], none⟩,
     ⟨(some 140), .mov, [.t 139], none⟩,
     ⟨(some 141), .faddr 6, [.t 11], (some (140, false))⟩,
     ⟨(some 142), .load 1 false, [.t 141], (some (140, false))⟩,
     ⟨(some 143), .len false, [.t 142], (some (140, false))⟩,
     ⟨(some 144), .bin .neq, [.t 143, .c (.int .i64 1)], (some (140, false))⟩,
     ⟨(some 145), .pick, [.t 140, .c (.bool true), .t 144], none⟩,
     ⟨(some 146), .mov, [.t 145], none⟩,
     ⟨(some 147), .faddr 6, [.t 11], (some (146, false))⟩,
     ⟨(some 148), .load 1 false, [.t 147], (some (146, false))⟩,
     ⟨(some 149), .iaddrS 2, [.t 148, .c (.int .i64 0)], (some (146, false))⟩,
     ⟨(some 150), .load 2 true, [.t 149], (some (146, false))⟩,
     ⟨(some 151), .build [(.int .i64 0), (.int .i64 0)] [], [], (some (146, false))⟩,
     ⟨(some 152), .eqs true [0, 0], [.t 150, .t 151], (some (146, false))⟩,
     ⟨(some 153), .pick, [.t 146, .c (.bool true), .t 152], none⟩,
     ⟨(some 154), .mov, [.t 153], none⟩,
     ⟨(some 155), .mov, [.t 14], (some (154, false))⟩,
     ⟨(some 156), .bin .neq, [.t 155, .c (.int .i64 0)], (some (154, false))⟩,
     ⟨(some 157), .pick, [.t 154, .c (.bool true), .t 156], none⟩,
     ⟨(some 158), .mov, [.t 157], none⟩,
     ⟨(some 159), .faddr 6, [.t 13], (some (158, false))⟩,
     ⟨(some 160), .load 1 false, [.t 159], (some (158, false))⟩,
     ⟨(some 161), .len false, [.t 160], (some (158, false))⟩,
     ⟨(some 162), .bin .neq, [.t 161, .c (.int .i64 2)], (some (158, false))⟩,
     ⟨(some 163), .pick, [.t 158, .c (.bool true), .t 162], none⟩,
     ⟨(some 164), .mov, [.t 163], none⟩,
     ⟨(some 165), .faddr 6, [.t 13], (some (164, false))⟩,
     ⟨(some 166), .load 1 false, [.t 165], (some (164, false))⟩,
     ⟨(some 167), .iaddrS 2, [.t 166, .c (.int .i64 0)], (some (164, false))⟩,
     ⟨(some 168), .load 2 true, [.t 167], (some (164, false))⟩,
     ⟨(some 169), .build [(.int .i64 0), (.int .i64 0)] [(0, 1), (1, 1)], [.c (.int .i64 2), .c (.int .i64 7)], (some (164, false))⟩,
     ⟨(some 170), .eqs true [0, 0], [.t 168, .t 169], (some (164, false))⟩,
     ⟨(some 171), .pick, [.t 164, .c (.bool true), .t 170], none⟩,
     ⟨(some 172), .mov, [.t 171], none⟩,
     ⟨(some 173), .faddr 6, [.t 13], (some (172, false))⟩,
     ⟨(some 174), .load 1 false, [.t 173], (some (172, false))⟩,
     ⟨(some 175), .iaddrS 2, [.t 174, .c (.int .i64 1)], (some (172, false))⟩,
     ⟨(some 176), .load 2 true, [.t 175], (some (172, false))⟩,
     ⟨(some 177), .build [(.int .i64 0), (.int .i64 0)] [(0, 1), (1, 1)], [.c (.int .i64 7), .c (.int .i64 7)], (some (172, false))⟩,
     ⟨(some 178), .eqs true [0, 0], [.t 176, .t 177], (some (172, false))⟩,
     ⟨(some 179), .pick, [.t 172, .c (.bool true), .t 178], none⟩,
     ⟨(some 180), .mov, [.t 179], none⟩,
     ⟨(some 181), .mov, [.t 16], (some (180, false))⟩,
     ⟨(some 182), .bin .neq, [.t 181, .c (.int .i64 102)], (some (180, false))⟩,
     ⟨(some 183), .pick, [.t 180, .c (.bool true), .t 182], none⟩,
     ⟨(some 184), .mov, [.t 183], none⟩,
     ⟨(some 185), .mov, [.t 18], (some (184, false))⟩,
     ⟨(some 186), .bin .neq, [.t 185, .c (.int .i64 102)], (some (184, false))⟩,
     ⟨(some 187), .pick, [.t 184, .c (.bool true), .t 186], none⟩])
   (.cond (.t 187) (.seq (.reg [⟨(some 0), .mov, [.c (.bool false)], none⟩])
   .ret) .skip))
   (.seq (.reg [⟨(some 189), .mkslice 1 3, [.c (.int .i64 1)], none⟩,
     ⟨(some 190), .call 37, [.t 189, .c (.int .i64 0), .c (.int .i64 1)], none⟩,
     ⟨(some 188), .mov, [.t 190], none⟩,
     ⟨(some 191), .extract 0, [.t 188], none⟩,
     ⟨(some 192), .extract 1, [.t 188], none⟩,
     ⟨(some 4), .mov, [.t 192], none⟩])
   (.seq (.reg [⟨(some 194), .mkslice 1 3, [.c (.int .i64 1)], none⟩,
     ⟨(some 195), .call 37, [.t 194, .c (.int .i64 1), .c (.int .i64 64)], none⟩,
     ⟨(some 193), .mov, [.t 195], none⟩,
     ⟨(some 196), .extract 0, [.t 193], none⟩,
     ⟨(some 197), .extract 1, [.t 193], none⟩,
     ⟨(some 6), .mov, [.t 197], none⟩])
   (.seq (.reg [⟨(some 199), .mkbox 1 8 [(.int .i64 0)], [.c (.int .i64 65), .c (.int .i64 65)], none⟩,
     ⟨(some 200), .call 40, [.t 199, .c (.int .i64 1), .c (.int .i64 1)], none⟩,
     ⟨(some 198), .mov, [.t 200], none⟩,
     ⟨(some 201), .extract 0, [.t 198], none⟩,
     ⟨(some 202), .extract 1, [.t 198], none⟩,
     ⟨(some 8), .mov, [.t 202], none⟩])
   (.seq (.reg [⟨(some 204), .mkslice 1 3, [.c (.int .i64 (-1)), .c (.int .i64 0), .c (.int .i64 0)], none⟩,
     ⟨(some 205), .call 37, [.t 204, .c (.int .i64 1), .c (.int .i64 1)], none⟩,
     ⟨(some 203), .mov, [.t 205], none⟩,
     ⟨(some 206), .extract 0, [.t 203], none⟩,
     ⟨(some 207), .extract 1, [.t 203], none⟩,
     ⟨(some 19), .mov, [.t 206], none⟩,
     ⟨(some 10), .mov, [.t 207], none⟩])
   (.seq (.seq (.reg [⟨(some 208), .mov, [.t 4], none⟩,
     ⟨(some 209), .bin .neq, [.t 208, .c (.int .i64 2)], none⟩,
     ⟨(some 210), .mov, [.t 209], none⟩,
     ⟨(some 211), .mov, [.t 6], (some (210, false))⟩,
     ⟨(some 212), .bin .neq, [.t 211, .c (.int .i64 2)], (some (210, false))⟩,
     ⟨(some 213), .pick, [.t 210, .c (.bool true), .t 212], none⟩,
     ⟨(some 214), .mov, [.t 213], none⟩,
     ⟨(some 215), .mov, [.t 8], (some (214, false))⟩,
     ⟨(some 216), .bin .neq, [.t 215, .c (.int .i64 2)], (some (214, false))⟩,
     ⟨(some 217), .pick, [.t 214, .c (.bool true), .t 216], none⟩,
     ⟨(some 218), .mov, [.t 217], none⟩,
     ⟨(some 219), .mov, [.t 10], (some (218, false))⟩,
     ⟨(some 220), .bin .neq, [.t 219, .c (.int .i64 0)], (some (218, false))⟩,
     ⟨(some 221), .pick, [.t 218, .c (.bool true), .t 220], none⟩,
     ⟨(some 222), .mov, [.t 221], none⟩,
     ⟨(some 223), .mov, [.t 19], (some (222, false))⟩,
     ⟨(some 224), .mkslice 1 3, [.c (.int .i64 (-1)), .c (.int .i64 (-1)), .c (.int .i64 (-1))], (some (222, false))⟩,
     ⟨(some 225), .call 39, [.t 223, .t 224], (some (222, false))⟩,
     ⟨(some 226), .un .not, [.t 225], (some (222, false))⟩,
     ⟨(some 227), .pick, [.t 222, .c (.bool true), .t 226], none⟩])
   (.cond (.t 227) (.seq (.reg [⟨(some 0), .mov, [.c (.bool false)], none⟩])
   .ret) .skip))
   (.seq (.reg [⟨(some 228), .build [(.int .i64 0), (.int .i64 0), (.int .i64 0)] [(0, 1), (1, 1), (2, 1)], [.c (.int .i64 1), .c (.int .i64 1), .c (.int .i64 2)], none⟩,
     ⟨(some 229), .mkslice 1 3, [.c (.int .i64 3), .c (.int .i64 4)], none⟩,
     ⟨(some 230), .build [(.int .i64 0), (.int .i64 0), (.int .i64 0), (.int .i64 0), (.int .i64 0), (.int .i64 0), .nils] [(3, 3), (6, 1)], [.t 228, .t 229], none⟩,
     ⟨(some 20), .alloc [(.int .i64 0), (.int .i64 0), (.int .i64 0), (.int .i64 0), (.int .i64 0), (.int .i64 0), .nils], [], none⟩,
     ⟨none, .store 7, [.t 20, .t 230], none⟩])
   (.seq (.reg [⟨(some 231), .build [(.int .i64 0), (.int .i64 0), (.int .i64 0)] [(0, 1), (1, 1), (2, 1)], [.c (.int .i64 1), .c (.int .i64 0), .c (.int .i64 0)], none⟩,
     ⟨(some 232), .build [(.int .i64 0), (.int .i64 0), (.int .i64 0)] [(0, 1), (1, 1), (2, 1)], [.c (.int .i64 1), .c (.int .i64 1), .c (.int .i64 1)], none⟩,
     ⟨(some 233), .mkslice 1 3, [.c (.int .i64 9)], none⟩,
     ⟨(some 234), .build [(.int .i64 0), (.int .i64 0), (.int .i64 0), (.int .i64 0), (.int .i64 0), (.int .i64 0), .nils] [(0, 3), (3, 3), (6, 1)], [.t 231, .t 232, .t 233], none⟩,
     ⟨(some 21), .alloc [(.int .i64 0), (.int .i64 0), (.int .i64 0), (.int .i64 0), (.int .i64 0), (.int .i64 0), .nils], [], none⟩,
     ⟨none, .store 7, [.t 21, .t 234], none⟩])
   (.seq (.reg [⟨(some 235), .build [(.int .i64 0), (.int .i64 0), (.int .i64 0)] [(0, 1), (1, 1), (2, 1)], [.c (.int .i64 0), .c (.int .i64 0), .c (.int .i64 1)], none⟩,
     ⟨(some 236), .build [(.int .i64 0), (.int .i64 0), (.int .i64 0)] [(0, 1), (1, 1), (2, 1)], [.c (.int .i64 1), .c (.int .i64 1), .c (.int .i64 2)], none⟩,
     ⟨(some 237), .mkslice 1 3, [.c (.int .i64 5), .c (.int .i64 5)], none⟩,
     ⟨(some 238), .build [(.int .i64 0), (.int .i64 0), (.int .i64 0), (.int .i64 0), (.int .i64 0), (.int .i64 0), .nils] [(0, 3), (3, 3), (6, 1)], [.t 235, .t 236, .t 237], none⟩,
     ⟨(some 22), .alloc [(.int .i64 0), (.int .i64 0), (.int .i64 0), (.int .i64 0), (.int .i64 0), (.int .i64 0), .nils], [], none⟩,
     ⟨none, .store 7, [.t 22, .t 238], none⟩])
   (.seq (.reg [⟨(some 239), .build [(.int .i64 0), (.int .i64 0), (.int .i64 0)] [(0, 1), (1, 1), (2, 1)], [.c (.int .i64 1), .c (.int .i64 1), .c (.int .i64 16)], none⟩,
     ⟨(some 240), .mkbox 1 8 [(.int .i64 0)], [.c (.int .i64 16), .c (.int .i64 16)], none⟩,
     ⟨(some 241), .build [(.int .i64 0), (.int .i64 0), (.int .i64 0), (.int .i64 0), (.int .i64 0), (.int .i64 0), .nils] [(3, 3), (6, 1)], [.t 239, .t 240], none⟩,
     ⟨(some 242), .build [(.int .i64 0), (.int .i64 0), (.int .i64 0)] [(0, 1), (1, 1), (2, 1)], [.c (.int .i64 0), .c (.int .i64 0), .c (.int .i64 16)], none⟩,
     ⟨(some 243), .build [(.int .i64 0), (.int .i64 0), (.int .i64 0)] [(0, 1), (1, 1), (2, 1)], [.c (.int .i64 1), .c (.int .i64 1), .c (.int .i64 1)], none⟩,
     ⟨(some 244), .mkslice 1 3, [.c (.int .i64 0)], none⟩,
     ⟨(some 245), .build [(.int .i64 0), (.int .i64 0), (.int .i64 0), (.int .i64 0), (.int .i64 0), (.int .i64 0), .nils] [(0, 3), (3, 3), (6, 1)], [.t 242, .t 243, .t 244], none⟩,
     ⟨(some 23), .alloc [(.int .i64 0), (.int .i64 0), (.int .i64 0), (.int .i64 0), (.int .i64 0), (.int .i64 0), .nils], [], none⟩,
     ⟨(some 24), .alloc [(.int .i64 0), (.int .i64 0), (.int .i64 0), (.int .i64 0), (.int .i64 0), (.int .i64 0), .nils], [], none⟩,
     ⟨none, .store 7, [.t 23, .t 241], none⟩,
     ⟨none, .store 7, [.t 24, .t 245], none⟩])
   (.seq (.reg [⟨(some 247), .load 7 true, [.t 20], none⟩,
     ⟨(some 248), .load 7 true, [.t 21], none⟩,
     ⟨(some 249), .call 42, [.t 247, .t 248], none⟩,
     ⟨(some 246), .mov, [.t 249], none⟩,
     ⟨(some 250), .extract 0, [.t 246], none⟩,
     ⟨(some 251), .extract 1, [.t 246], none⟩,
     ⟨(some 4), .mov, [.t 251], none⟩])
   (.seq (.reg [⟨(some 253), .load 7 true, [.t 20], none⟩,
     ⟨(some 254), .load 7 true, [.t 22], none⟩,
     ⟨(some 255), .call 42, [.t 253, .t 254], none⟩,
     ⟨(some 252), .mov, [.t 255], none⟩,
     ⟨(some 256), .extract 0, [.t 252], none⟩,
     ⟨(some 257), .extract 1, [.t 252], none⟩,
     ⟨(some 6), .mov, [.t 257], none⟩])
   (.seq (.reg [⟨(some 259), .load 7 true, [.t 23], none⟩,
     ⟨(some 260), .load 7 true, [.t 24], none⟩,
     ⟨(some 261), .call 42, [.t 259, .t 260], none⟩,
     ⟨(some 258), .mov, [.t 261], none⟩,
     ⟨(some 262), .extract 0, [.t 258], none⟩,
     ⟨(some 263), .extract 1, [.t 258], none⟩,
     ⟨(some 8), .mov, [.t 263], none⟩])
   (.seq (.reg [⟨(some 265), .load 7 true, [.t 20], none⟩,
     ⟨(some 266), .build [(.int .i64 0), (.int .i64 0), (.int .i64 0)] [], [], none⟩,
     ⟨(some 267), .build [(.int .i64 0), (.int .i64 0), (.int .i64 0)] [(0, 1), (1, 1), (2, 1)], [.c (.int .i64 1), .c (.int .i64 1), .c (.int .i64 3)], none⟩,
     ⟨(some 268), .call 59, [.t 265, .t 266, .t 267], none⟩,
     ⟨(some 264), .mov, [.t 268], none⟩,
     ⟨(some 269), .extract 0, [.t 264], none⟩,
     ⟨(some 270), .extract 1, [.t 264], none⟩,
     ⟨(some 10), .mov, [.t 270], none⟩])
   (.seq (.reg [⟨(some 272), .mkslice 1 3, [.c (.int .i64 1)], none⟩,
     ⟨(some 273), .mkslice 1 3, [.c (.int .i64 1), .c (.int .i64 2)], none⟩,
     ⟨(some 274), .mkslice 1 49, [.t 272, .t 273], none⟩,
     ⟨(some 275), .call 47, [.t 274, .c (.int .i64 1)], none⟩,
     ⟨(some 271), .mov, [.t 275], none⟩,
     ⟨(some 276), .extract 0, [.t 271], none⟩,
     ⟨(some 277), .extract 1, [.t 271], none⟩,
     ⟨(some 278), .extract 2, [.t 271], none⟩,
     ⟨(some 12), .mov, [.t 278], none⟩])
   (.seq (.reg [⟨(some 280), .call 67, [], none⟩,
     ⟨(some 281), .call 47, [.t 280, .c (.int .i64 33)], none⟩,
     ⟨(some 279), .mov, [.t 281], none⟩,
     ⟨(some 282), .extract 0, [.t 279], none⟩,
     ⟨(some 283), .extract 1, [.t 279], none⟩,
     ⟨(some 284), .extract 2, [.t 279], none⟩,
     ⟨(some 14), .mov, [.t 284], none⟩])
   (.seq (.reg [⟨(some 286), .call 67, [], none⟩,
     ⟨(some 287), .mkslice 1 3, [.c (.int .i64 9), .c (.int .i64 10), .c (.int .i64 10)], none⟩,
     ⟨(some 288), .mkslice 1 3, [.c (.int .i64 4), .c (.int .i64 4), .c (.int .i64 9)], none⟩,
     ⟨(some 289), .mkslice 1 3, [.c (.int .i64 4), .c (.int .i64 0), .c (.int .i64 1)], none⟩,
     ⟨(some 290), .mkslice 1 49, [.t 287, .t 288, .t 289], none⟩,
     ⟨(some 291), .call 45, [.t 286, .c (.int .i64 1), .t 290], none⟩,
     ⟨(some 285), .mov, [.t 291], none⟩,
     ⟨(some 292), .extract 0, [.t 285], none⟩,
     ⟨(some 293), .extract 1, [.t 285], none⟩,
     ⟨(some 16), .mov, [.t 293], none⟩])
   (.seq (.reg [⟨(some 295), .mkslice 1 3, [.c (.int .i64 (-5)), .c (.int .i64 (-5))], none⟩,
     ⟨(some 296), .mkslice 1 3, [.c (.int .i64 (-5)), .c (.int .i64 (-5))], none⟩,
     ⟨(some 297), .mkslice 1 49, [.t 295, .t 296], none⟩,
     ⟨(some 298), .call 47, [.t 297, .c (.int .i64 0)], none⟩,
     ⟨(some 294), .mov, [.t 298], none⟩,
     ⟨(some 299), .extract 0, [.t 294], none⟩,
     ⟨(some 300), .extract 1, [.t 294], none⟩,
     ⟨(some 301), .extract 2, [.t 294], none⟩,
     ⟨(some 25), .mov, [.t 299], none⟩,
     ⟨(some 26), .mov, [.t 300], none⟩,
     ⟨(some 18), .mov, [.t 301], none⟩])
   (.seq (.reg [⟨(some 302), .mov, [.t 4], none⟩,
     ⟨(some 303), .bin .eql, [.t 302, .c (.int .i64 103)], none⟩,
     ⟨(some 304), .mov, [.t 303], none⟩,
     ⟨(some 305), .mov, [.t 6], (some (304, true))⟩,
     ⟨(some 306), .bin .eql, [.t 305, .c (.int .i64 104)], (some (304, true))⟩,
     ⟨(some 307), .pick, [.t 304, .t 306, .c (.bool false)], none⟩,
     ⟨(some 308), .mov, [.t 307], none⟩,
     ⟨(some 309), .mov, [.t 8], (some (308, true))⟩,
     ⟨(some 310), .bin .eql, [.t 309, .c (.int .i64 3)], (some (308, true))⟩,
     ⟨(some 311), .pick, [.t 308, .t 310, .c (.bool false)], none⟩,
     ⟨(some 312), .mov, [.t 311], none⟩,
     ⟨(some 313), .mov, [.t 10], (some (312, true))⟩,
     ⟨(some 314), .bin .eql, [.t 313, .c (.int .i64 102)], (some (312, true))⟩,
     ⟨(some 315), .pick, [.t 312, .t 314, .c (.bool false)], none⟩,
     ⟨(some 316), .mov, [.t 315], none⟩,
     ⟨(some 317), .mov, [.t 12], (some (316, true))⟩,
     ⟨(some 318), .bin .eql, [.t 317, .c (.int .i64 105)], (some (316, true))⟩,
     ⟨(some 319), .pick, [.t 316, .t 318, .c (.bool false)], none⟩,
     ⟨(some 320), .mov, [.t 319], none⟩,
     ⟨(some 321), .mov, [.t 14], (some (320, true))⟩,
     ⟨(some 322), .bin .eql, [.t 321, .c (.int .i64 7)], (some (320, true))⟩,
     ⟨(some 323), .pick, [.t 320, .t 322, .c (.bool false)], none⟩,
     ⟨(some 324), .mov, [.t 323], none⟩,
     ⟨(some 325), .mov, [.t 16], (some (324, true))⟩,
     ⟨(some 326), .bin .eql, [.t 325, .c (.int .i64 106)], (some (324, true))⟩,
     ⟨(some 327), .pick, [.t 324, .t 326, .c (.bool false)], none⟩,
     ⟨(some 328), .mov, [.t 327], none⟩,
     ⟨(some 329), .mov, [.t 18], (some (328, true))⟩,
     ⟨(some 330), .bin .eql, [.t 329, .c (.int .i64 0)], (some (328, true))⟩,
     ⟨(some 331), .pick, [.t 328, .t 330, .c (.bool false)], none⟩,
     ⟨(some 332), .mov, [.t 331], none⟩,
     ⟨(some 333), .mov, [.t 26], (some (332, true))⟩,
     ⟨(some 334), .bin .eql, [.t 333, .c (.int .i64 (-10))], (some (332, true))⟩,
     ⟨(some 335), .pick, [.t 332, .t 334, .c (.bool false)], none⟩,
     ⟨(some 336), .mov, [.t 335], none⟩,
     ⟨(some 337), .mov, [.t 25], (some (336, true))⟩,
     ⟨(some 338), .mkslice 1 3, [.c (.int .i64 0), .c (.int .i64 0)], (some (336, true))⟩,
     ⟨(some 339), .call 39, [.t 337, .t 338], (some (336, true))⟩,
     ⟨(some 340), .pick, [.t 336, .t 339, .c (.bool false)], none⟩,
     ⟨(some 341), .mov, [.t 340], none⟩,
     ⟨(some 342), .pick, [.t 341, .c (.bool true), .c (.bool false)], none⟩,
     ⟨(some 343), .mov, [.t 342], none⟩,
     ⟨(some 344), .call 30, [], (some (343, true))⟩,
     ⟨(some 345), .pick, [.t 343, .t 344, .c (.bool false)], none⟩,
     ⟨(some 0), .mov, [.t 345], none⟩])
   .ret)))))))))))))))))))))))))))))))
theorem chk.law10_VolumeKnown : chkF Try.prog 23 = some (346, ir.law10_VolumeKnown, [.tmp 0]) := by kernel_rfl

/-- paravane/paravanelaw10.VolumeCuts -/
abbrev F.law10_VolumeCuts : Nat := 24
def ir.law10_VolumeCuts : IC :=
 (.seq (.reg [⟨(some 3), .box, [.t 0], none⟩,
     ⟨(some 4), .box, [.t 1], none⟩,
     ⟨(some 5), .box, [.t 2], none⟩,
     ⟨(some 6), .mov, [.c (.bool false)], none⟩])
   (.seq (.seq (.draw [0, 1, 0, 7, 15] [⟨(some 13), .load 7 true, [.t 3], none⟩,
     ⟨(some 14), .call 65, [.t 13], none⟩,
     ⟨(some 15), .load 7 true, [.t 3], none⟩,
     ⟨(some 16), .call 68, [.t 15], none⟩,
     ⟨(some 17), .bin .neq, [.t 14, .t 16], none⟩])
   (.cond (.t 17) (.seq (.reg [⟨(some 6), .mov, [.c (.bool false)], none⟩])
   .ret) .skip))
   (.seq (.reg [⟨(some 19), .load 7 true, [.t 3], none⟩,
     ⟨(some 20), .load 3 true, [.t 4], none⟩,
     ⟨(some 21), .load 3 true, [.t 5], none⟩,
     ⟨(some 22), .call 59, [.t 19, .t 20, .t 21], none⟩,
     ⟨(some 18), .mov, [.t 22], none⟩,
     ⟨(some 23), .extract 0, [.t 18], none⟩,
     ⟨(some 24), .extract 1, [.t 18], none⟩,
     ⟨(some 7), .alloc [(.int .i64 0), (.int .i64 0), (.int .i64 0), (.int .i64 0), (.int .i64 0), (.int .i64 0), .nils], [], none⟩,
     ⟨none, .store 7, [.t 7, .t 23], none⟩,
     ⟨(some 8), .mov, [.t 24], none⟩])
   (.seq (.reg [⟨(some 26), .load 7 true, [.t 3], none⟩,
     ⟨(some 27), .load 3 true, [.t 4], none⟩,
     ⟨(some 28), .load 3 true, [.t 5], none⟩,
     ⟨(some 29), .call 69, [.t 26, .t 27, .t 28], none⟩,
     ⟨(some 25), .mov, [.t 29], none⟩,
     ⟨(some 30), .extract 0, [.t 25], none⟩,
     ⟨(some 31), .extract 1, [.t 25], none⟩,
     ⟨(some 9), .alloc [(.int .i64 0), (.int .i64 0), (.int .i64 0), (.int .i64 0), (.int .i64 0), (.int .i64 0), .nils], [], none⟩,
     ⟨none, .store 7, [.t 9, .t 30], none⟩,
     ⟨(some 10), .mov, [.t 31], none⟩])
   (.seq (.seq (.reg [⟨(some 32), .load 7 true, [.t 7], none⟩,
     ⟨(some 33), .load 7 true, [.t 9], none⟩,
     ⟨(some 34), .call 44, [.t 32, .t 33], none⟩,
     ⟨(some 35), .un .not, [.t 34], none⟩,
     ⟨(some 36), .mov, [.t 35], none⟩,
     ⟨(some 37), .mov, [.t 8], (some (36, false))⟩,
     ⟨(some 38), .mov, [.t 10], (some (36, false))⟩,
     ⟨(some 39), .bin .neq, [.t 37, .t 38], (some (36, false))⟩,
     ⟨(some 40), .pick, [.t 36, .c (.bool true), .t 39], none⟩])
   (.cond (.t 40) (.seq (.reg [⟨(some 6), .mov, [.c (.bool false)], none⟩])
   .ret) .skip))
   (.seq (.reg [⟨(some 42), .load 7 true, [.t 3], none⟩,
     ⟨(some 43), .call 58, [.t 42], none⟩,
     ⟨(some 41), .mov, [.t 43], none⟩,
     ⟨(some 44), .extract 0, [.t 41], none⟩,
     ⟨(some 45), .extract 1, [.t 41], none⟩,
     ⟨(some 11), .mov, [.t 44], none⟩,
     ⟨(some 8), .mov, [.t 45], none⟩])
   (.seq (.reg [⟨(some 47), .load 7 true, [.t 3], none⟩,
     ⟨(some 48), .call 70, [.t 47], none⟩,
     ⟨(some 46), .mov, [.t 48], none⟩,
     ⟨(some 49), .extract 0, [.t 46], none⟩,
     ⟨(some 50), .extract 1, [.t 46], none⟩,
     ⟨(some 12), .mov, [.t 49], none⟩,
     ⟨(some 10), .mov, [.t 50], none⟩])
   (.seq (.reg [⟨(some 51), .mov, [.t 11], none⟩,
     ⟨(some 52), .mov, [.t 12], none⟩,
     ⟨(some 53), .bin .eql, [.t 51, .t 52], none⟩,
     ⟨(some 54), .mov, [.t 53], none⟩,
     ⟨(some 55), .mov, [.t 8], (some (54, true))⟩,
     ⟨(some 56), .mov, [.t 10], (some (54, true))⟩,
     ⟨(some 57), .bin .eql, [.t 55, .t 56], (some (54, true))⟩,
     ⟨(some 58), .pick, [.t 54, .t 57, .c (.bool false)], none⟩,
     ⟨(some 59), .mov, [.t 58], none⟩,
     ⟨(some 60), .call 30, [], (some (59, true))⟩,
     ⟨(some 61), .pick, [.t 59, .t 60, .c (.bool false)], none⟩,
     ⟨(some 6), .mov, [.t 61], none⟩])
   .ret))))))))
theorem chk.law10_VolumeCuts : chkF Try.prog 24 = some (62, ir.law10_VolumeCuts, [.tmp 6]) := by kernel_rfl

/-- paravane/paravaneref10.Join -/
abbrev F.ref10_Join : Nat := 43
def ir.ref10_Join : IC :=
 (.seq (.reg [⟨(some 2), .box, [.t 0], none⟩,
     ⟨(some 3), .box, [.t 1], none⟩,
     ⟨(some 4), .alloc [(.int .i64 0), (.int .i64 0), (.int .i64 0), (.int .i64 0), (.int .i64 0), (.int .i64 0), .nils], [], none⟩,
     ⟨(some 5), .mov, [.c (.int .i64 0)], none⟩])
   (.seq (.seq (.reg [⟨(some 26), .load 7 true, [.t 2], none⟩,
     ⟨(some 27), .call 68, [.t 26], none⟩,
     ⟨(some 6), .mov, [.t 27], none⟩])
   (.seq (.reg [⟨(some 28), .mov, [.t 6], none⟩,
     ⟨(some 29), .bin .neq, [.t 28, .c (.int .i64 0)], none⟩])
   (.cond (.t 29) (.seq (.reg [⟨(some 30), .build [(.int .i64 0), (.int .i64 0), (.int .i64 0), (.int .i64 0), (.int .i64 0), (.int .i64 0), .nils] [], [], none⟩,
     ⟨(some 31), .mov, [.t 6], none⟩,
     ⟨none, .store 7, [.t 4, .t 30], none⟩,
     ⟨(some 5), .mov, [.t 31], none⟩])
   .ret) .skip)))
   (.seq (.seq (.reg [⟨(some 32), .load 7 true, [.t 3], none⟩,
     ⟨(some 33), .call 68, [.t 32], none⟩,
     ⟨(some 7), .mov, [.t 33], none⟩])
   (.seq (.reg [⟨(some 34), .mov, [.t 7], none⟩,
     ⟨(some 35), .bin .neq, [.t 34, .c (.int .i64 0)], none⟩])
   (.cond (.t 35) (.seq (.reg [⟨(some 36), .build [(.int .i64 0), (.int .i64 0), (.int .i64 0), (.int .i64 0), (.int .i64 0), (.int .i64 0), .nils] [], [], none⟩,
     ⟨(some 37), .mov, [.t 7], none⟩,
     ⟨none, .store 7, [.t 4, .t 36], none⟩,
     ⟨(some 5), .mov, [.t 37], none⟩])
   .ret) .skip)))
   (.seq (.reg [⟨(some 38), .build [(.int .i64 0), (.int .i64 0), (.int .i64 0), (.int .i64 0), (.int .i64 0), (.int .i64 0)] [], [], none⟩,
     ⟨(some 8), .alloc [(.int .i64 0), (.int .i64 0), (.int .i64 0), (.int .i64 0), (.int .i64 0), (.int .i64 0)], [], none⟩,
     ⟨none, .store 6, [.t 8, .t 38], none⟩])
   (.seq (.reg [⟨(some 9), .mov, [.c (.int .i64 1)], none⟩])
   (.seq (.seq (.reg [⟨(some 10), .mov, [.c (.int .i64 0)], none⟩])
   (.block 0 (.loop (.seq (.seq (.reg [⟨(some 39), .mov, [.t 10], none⟩,
     ⟨(some 40), .bin .lss, [.t 39, .c (.int .i64 3)], none⟩])
   (.cond (.t 40) .skip (.exit 0)))
   (.seq (.block 1 (.seq (.draw [0, 0, 3, 7, 0, 0, 48, 112, 255, 0, 0, 1536, 3584, 0, 0, 24576, 57344, 130560, 0, 0, 786432, 1835008, 0, 0, 12582912, 29360128, 66846720, 134217216, 511, 536870911] [⟨(some 43), .mov, [.t 10], none⟩,
     ⟨(some 44), .faddr 0, [.t 2], none⟩,
     ⟨(some 45), .iaddrA 3 1, [.t 44, .t 43], none⟩,
     ⟨(some 46), .load 1 false, [.t 45], none⟩,
     ⟨(some 47), .mov, [.t 10], none⟩,
     ⟨(some 48), .faddr 0, [.t 3], none⟩,
     ⟨(some 49), .iaddrA 3 1, [.t 48, .t 47], none⟩,
     ⟨(some 50), .load 1 false, [.t 49], none⟩,
     ⟨(some 51), .minmax false, [.t 46, .t 50], none⟩,
     ⟨(some 52), .mov, [.t 10], none⟩,
     ⟨(some 53), .faddr 0, [.t 2], none⟩,
     ⟨(some 54), .iaddrA 3 1, [.t 53, .t 52], none⟩,
     ⟨(some 55), .load 1 false, [.t 54], none⟩,
     ⟨(some 56), .mov, [.t 10], none⟩,
     ⟨(some 57), .faddr 3, [.t 2], none⟩,
     ⟨(some 58), .iaddrA 3 1, [.t 57, .t 56], none⟩,
     ⟨(some 59), .load 1 false, [.t 58], none⟩,
     ⟨(some 60), .bin .add, [.t 55, .t 59], none⟩,
     ⟨(some 61), .mov, [.t 10], none⟩,
     ⟨(some 62), .faddr 0, [.t 3], none⟩,
     ⟨(some 63), .iaddrA 3 1, [.t 62, .t 61], none⟩,
     ⟨(some 64), .load 1 false, [.t 63], none⟩,
     ⟨(some 65), .mov, [.t 10], none⟩,
     ⟨(some 66), .faddr 3, [.t 3], none⟩,
     ⟨(some 67), .iaddrA 3 1, [.t 66, .t 65], none⟩,
     ⟨(some 68), .load 1 false, [.t 67], none⟩,
     ⟨(some 69), .bin .add, [.t 64, .t 68], none⟩,
     ⟨(some 70), .minmax true, [.t 60, .t 69], none⟩,
     ⟨(some 11), .mov, [.t 51], none⟩,
     ⟨(some 12), .mov, [.t 70], none⟩])
   (.seq (.reg [⟨(some 71), .load 6 true, [.t 8], none⟩,
     ⟨(some 13), .alloc [(.int .i64 0), (.int .i64 0), (.int .i64 0), (.int .i64 0), (.int .i64 0), (.int .i64 0)], [], none⟩,
     ⟨none, .store 6, [.t 13, .t 71], none⟩])
   (.seq (.reg [⟨(some 72), .mov, [.t 10], none⟩,
     ⟨(some 73), .mov, [.t 11], none⟩,
     ⟨(some 74), .mov, [.t 12], none⟩,
     ⟨(some 75), .mov, [.t 11], none⟩,
     ⟨(some 76), .bin .sub, [.t 74, .t 75], none⟩,
     ⟨(some 77), .build [(.int .i64 0), (.int .i64 0)] [(0, 1), (1, 1)], [.t 73, .t 76], none⟩,
     ⟨(some 78), .iaddrA 3 2, [.t 13, .t 72], none⟩,
     ⟨none, .store 2, [.t 78, .t 77], none⟩])
   (.seq (.reg [⟨(some 79), .load 6 true, [.t 13], none⟩,
     ⟨none, .store 6, [.t 8, .t 79], none⟩])
   (.reg [⟨(some 80), .mov, [.t 9], none⟩,
     ⟨(some 81), .mov, [.t 12], none⟩,
     ⟨(some 82), .mov, [.t 11], none⟩,
     ⟨(some 83), .bin .sub, [.t 81, .t 82], none⟩,
     ⟨(some 84), .bin .mul, [.t 80, .t 83], none⟩,
     ⟨(some 9), .mov, [.t 84], none⟩]))))))
   (.reg [⟨(some 41), .mov, [.t 10], none⟩,
     ⟨(some 42), .bin .add, [.t 41, .c (.int .i64 1)], none⟩,
     ⟨(some 10), .mov, [.t 42], none⟩]))))))
   (.seq (.draw [0, 1, 3, 0, 8, 24, 0, 64, 192, 511, 0, 1024, 3072, 0, 8192, 24576, 0, 65536, 196608, 523264, 0, 0, 3146751, 8388607] [⟨(some 85), .iaddrA 3 2, [.t 8, .c (.int .i64 0)], none⟩,
     ⟨(some 86), .iaddrA 2 1, [.t 85, .c (.int .i64 0)], none⟩,
     ⟨(some 87), .load 1 false, [.t 86], none⟩,
     ⟨(some 88), .iaddrA 3 2, [.t 8, .c (.int .i64 1)], none⟩,
     ⟨(some 89), .iaddrA 2 1, [.t 88, .c (.int .i64 0)], none⟩,
     ⟨(some 90), .load 1 false, [.t 89], none⟩,
     ⟨(some 91), .iaddrA 3 2, [.t 8, .c (.int .i64 2)], none⟩,
     ⟨(some 92), .iaddrA 2 1, [.t 91, .c (.int .i64 0)], none⟩,
     ⟨(some 93), .load 1 false, [.t 92], none⟩,
     ⟨(some 94), .build [(.int .i64 0), (.int .i64 0), (.int .i64 0)] [(0, 1), (1, 1), (2, 1)], [.t 87, .t 90, .t 93], none⟩,
     ⟨(some 95), .iaddrA 3 2, [.t 8, .c (.int .i64 0)], none⟩,
     ⟨(some 96), .iaddrA 2 1, [.t 95, .c (.int .i64 1)], none⟩,
     ⟨(some 97), .load 1 false, [.t 96], none⟩,
     ⟨(some 98), .iaddrA 3 2, [.t 8, .c (.int .i64 1)], none⟩,
     ⟨(some 99), .iaddrA 2 1, [.t 98, .c (.int .i64 1)], none⟩,
     ⟨(some 100), .load 1 false, [.t 99], none⟩,
     ⟨(some 101), .iaddrA 3 2, [.t 8, .c (.int .i64 2)], none⟩,
     ⟨(some 102), .iaddrA 2 1, [.t 101, .c (.int .i64 1)], none⟩,
     ⟨(some 103), .load 1 false, [.t 102], none⟩,
     ⟨(some 104), .build [(.int .i64 0), (.int .i64 0), (.int .i64 0)] [(0, 1), (1, 1), (2, 1)], [.t 97, .t 100, .t 103], none⟩,
     ⟨(some 14), .alloc [(.int .i64 0), (.int .i64 0), (.int .i64 0)], [], none⟩,
     ⟨(some 15), .alloc [(.int .i64 0), (.int .i64 0), (.int .i64 0)], [], none⟩,
     ⟨none, .store 3, [.t 14, .t 94], none⟩,
     ⟨none, .store 3, [.t 15, .t 104], none⟩])
   (.seq (.reg [⟨(some 16), .mov, [.c (.int .i64 0)], none⟩,
     ⟨(some 17), .mov, [.c (.bool false)], none⟩])
   (.seq (.reg [⟨(some 105), .faddr 0, [.t 3], none⟩,
     ⟨(some 106), .load 3 true, [.t 105], none⟩,
     ⟨(some 107), .faddr 3, [.t 3], none⟩,
     ⟨(some 108), .load 3 true, [.t 107], none⟩,
     ⟨(some 109), .call 89, [.t 106, .t 108], none⟩,
     ⟨(some 18), .mov, [.t 109], none⟩])
   (.seq (.seq (.reg [⟨(some 19), .mov, [.c (.int .i64 0)], none⟩])
   (.block 2 (.loop (.seq (.seq (.reg [⟨(some 110), .mov, [.t 19], none⟩,
     ⟨(some 111), .mov, [.t 18], none⟩,
     ⟨(some 112), .len false, [.t 111], none⟩,
     ⟨(some 113), .bin .lss, [.t 110, .t 112], none⟩])
   (.cond (.t 113) .skip (.exit 2)))
   (.seq (.block 3 (.seq (.draw [0, 1, 0, 4, 0, 0, 48, 112, 255, 511] [⟨(some 116), .faddr 0, [.t 2], none⟩,
     ⟨(some 117), .load 3 true, [.t 116], none⟩,
     ⟨(some 118), .faddr 3, [.t 2], none⟩,
     ⟨(some 119), .load 3 true, [.t 118], none⟩,
     ⟨(some 120), .mov, [.t 18], none⟩,
     ⟨(some 121), .mov, [.t 19], none⟩,
     ⟨(some 122), .iaddrS 3, [.t 120, .t 121], none⟩,
     ⟨(some 123), .load 3 true, [.t 122], none⟩,
     ⟨(some 124), .call 105, [.t 117, .t 119, .t 123], none⟩,
     ⟨(some 20), .mov, [.t 124], none⟩])
   (.seq (.reg [⟨(some 125), .mov, [.t 20], none⟩,
     ⟨(some 126), .bin .geq, [.t 125, .c (.int .i64 0)], none⟩])
   (.cond (.t 126) (.seq (.reg [⟨(some 127), .mov, [.t 16], none⟩,
     ⟨(some 128), .bin .add, [.t 127, .c (.int .i64 1)], none⟩,
     ⟨(some 16), .mov, [.t 128], none⟩])
   (.draw [0, 1, 3, 7, 3, 31, 63, 3, 131, 3, 899, 1923, 4095, 8191, 16383] [⟨(some 129), .mov, [.t 17], none⟩,
     ⟨(some 130), .mov, [.t 129], none⟩,
     ⟨(some 131), .faddr 6, [.t 2], (some (130, false))⟩,
     ⟨(some 132), .load 1 false, [.t 131], (some (130, false))⟩,
     ⟨(some 133), .mov, [.t 20], (some (130, false))⟩,
     ⟨(some 134), .iaddrS 1, [.t 132, .t 133], (some (130, false))⟩,
     ⟨(some 135), .load 1 false, [.t 134], (some (130, false))⟩,
     ⟨(some 136), .faddr 6, [.t 3], (some (130, false))⟩,
     ⟨(some 137), .load 1 false, [.t 136], (some (130, false))⟩,
     ⟨(some 138), .mov, [.t 19], (some (130, false))⟩,
     ⟨(some 139), .iaddrS 1, [.t 137, .t 138], (some (130, false))⟩,
     ⟨(some 140), .load 1 false, [.t 139], (some (130, false))⟩,
     ⟨(some 141), .bin .neq, [.t 135, .t 140], (some (130, false))⟩,
     ⟨(some 142), .pick, [.t 130, .c (.bool true), .t 141], none⟩,
     ⟨(some 17), .mov, [.t 142], none⟩])) .skip))))
   (.reg [⟨(some 114), .mov, [.t 19], none⟩,
     ⟨(some 115), .bin .add, [.t 114, .c (.int .i64 1)], none⟩,
     ⟨(some 19), .mov, [.t 115], none⟩]))))))
   (.seq (.seq (.reg [⟨(some 143), .faddr 6, [.t 2], none⟩,
     ⟨(some 144), .load 1 false, [.t 143], none⟩,
     ⟨(some 145), .len false, [.t 144], none⟩,
     ⟨(some 146), .faddr 6, [.t 3], none⟩,
     ⟨(some 147), .load 1 false, [.t 146], none⟩,
     ⟨(some 148), .len false, [.t 147], none⟩,
     ⟨(some 149), .bin .add, [.t 145, .t 148], none⟩,
     ⟨(some 150), .mov, [.t 16], none⟩,
     ⟨(some 151), .bin .sub, [.t 149, .t 150], none⟩,
     ⟨(some 152), .mov, [.t 9], none⟩,
     ⟨(some 153), .bin .neq, [.t 151, .t 152], none⟩])
   (.cond (.t 153) (.seq (.reg [⟨(some 154), .build [(.int .i64 0), (.int .i64 0), (.int .i64 0), (.int .i64 0), (.int .i64 0), (.int .i64 0), .nils] [], [], none⟩,
     ⟨none, .store 7, [.t 4, .t 154], none⟩,
     ⟨(some 5), .mov, [.c (.int .i64 103)], none⟩])
   .ret) .skip))
   (.seq (.seq (.reg [⟨(some 155), .load 3 true, [.t 14], none⟩,
     ⟨(some 156), .load 3 true, [.t 15], none⟩,
     ⟨(some 157), .call 88, [.t 155, .t 156], none⟩,
     ⟨(some 158), .un .not, [.t 157], none⟩])
   (.cond (.t 158) (.seq (.reg [⟨(some 159), .build [(.int .i64 0), (.int .i64 0), (.int .i64 0), (.int .i64 0), (.int .i64 0), (.int .i64 0), .nils] [], [], none⟩,
     ⟨none, .store 7, [.t 4, .t 159], none⟩,
     ⟨(some 5), .mov, [.c (.int .i64 3)], none⟩])
   .ret) .skip))
   (.seq (.seq (.reg [⟨(some 160), .mov, [.t 17], none⟩])
   (.cond (.t 160) (.seq (.reg [⟨(some 161), .build [(.int .i64 0), (.int .i64 0), (.int .i64 0), (.int .i64 0), (.int .i64 0), (.int .i64 0), .nils] [], [], none⟩,
     ⟨none, .store 7, [.t 4, .t 161], none⟩,
     ⟨(some 5), .mov, [.c (.int .i64 104)], none⟩])
   .ret) .skip))
   (.seq (.reg [⟨(some 162), .load 3 true, [.t 14], none⟩,
     ⟨(some 163), .load 3 true, [.t 15], none⟩,
     ⟨(some 164), .build [(.int .i64 0), (.int .i64 0), (.int .i64 0), (.int .i64 0), (.int .i64 0), (.int .i64 0), .nils] [(0, 3), (3, 3)], [.t 162, .t 163], none⟩,
     ⟨(some 21), .alloc [(.int .i64 0), (.int .i64 0), (.int .i64 0), (.int .i64 0), (.int .i64 0), (.int .i64 0), .nils], [], none⟩,
     ⟨none, .store 7, [.t 21, .t 164], none⟩])
   (.seq (.reg [⟨(some 165), .load 3 true, [.t 14], none⟩,
     ⟨(some 166), .load 3 true, [.t 15], none⟩,
     ⟨(some 167), .call 89, [.t 165, .t 166], none⟩,
     ⟨(some 22), .mov, [.t 167], none⟩])
   (.seq (.seq (.reg [⟨(some 23), .mov, [.c (.int .i64 0)], none⟩])
   (.block 4 (.loop (.seq (.seq (.reg [⟨(some 168), .mov, [.t 23], none⟩,
     ⟨(some 169), .mov, [.t 22], none⟩,
     ⟨(some 170), .len false, [.t 169], none⟩,
     ⟨(some 171), .bin .lss, [.t 168, .t 170], none⟩])
   (.cond (.t 171) .skip (.exit 4)))
   (.seq (.block 5 (.seq (.draw [0, 1, 0, 4, 0, 0, 48, 112, 255, 511] [⟨(some 174), .faddr 0, [.t 2], none⟩,
     ⟨(some 175), .load 3 true, [.t 174], none⟩,
     ⟨(some 176), .faddr 3, [.t 2], none⟩,
     ⟨(some 177), .load 3 true, [.t 176], none⟩,
     ⟨(some 178), .mov, [.t 22], none⟩,
     ⟨(some 179), .mov, [.t 23], none⟩,
     ⟨(some 180), .iaddrS 3, [.t 178, .t 179], none⟩,
     ⟨(some 181), .load 3 true, [.t 180], none⟩,
     ⟨(some 182), .call 105, [.t 175, .t 177, .t 181], none⟩,
     ⟨(some 24), .mov, [.t 182], none⟩])
   (.seq (.reg [⟨(some 183), .mov, [.t 24], none⟩,
     ⟨(some 184), .bin .geq, [.t 183, .c (.int .i64 0)], none⟩])
   (.cond (.t 184) (.draw [0, 1, 0, 4, 0, 28, 60, 124, 255, 511, 1023] [⟨(some 185), .faddr 6, [.t 21], none⟩,
     ⟨(some 186), .load 1 false, [.t 185], none⟩,
     ⟨(some 187), .faddr 6, [.t 2], none⟩,
     ⟨(some 188), .load 1 false, [.t 187], none⟩,
     ⟨(some 189), .mov, [.t 24], none⟩,
     ⟨(some 190), .iaddrS 1, [.t 188, .t 189], none⟩,
     ⟨(some 191), .load 1 false, [.t 190], none⟩,
     ⟨(some 192), .mkslice 1 3, [.t 191], none⟩,
     ⟨(some 193), .append 1 8 3, [.t 186, .t 192], none⟩,
     ⟨(some 194), .faddr 6, [.t 21], none⟩,
     ⟨none, .store 1, [.t 194, .t 193], none⟩]) (.seq (.draw [0, 1, 0, 4, 0, 0, 48, 112, 255, 511] [⟨(some 195), .faddr 0, [.t 3], none⟩,
     ⟨(some 196), .load 3 true, [.t 195], none⟩,
     ⟨(some 197), .faddr 3, [.t 3], none⟩,
     ⟨(some 198), .load 3 true, [.t 197], none⟩,
     ⟨(some 199), .mov, [.t 22], none⟩,
     ⟨(some 200), .mov, [.t 23], none⟩,
     ⟨(some 201), .iaddrS 3, [.t 199, .t 200], none⟩,
     ⟨(some 202), .load 3 true, [.t 201], none⟩,
     ⟨(some 203), .call 105, [.t 196, .t 198, .t 202], none⟩,
     ⟨(some 25), .mov, [.t 203], none⟩])
   (.seq (.reg [⟨(some 204), .mov, [.t 25], none⟩,
     ⟨(some 205), .bin .geq, [.t 204, .c (.int .i64 0)], none⟩])
   (.cond (.t 205) (.draw [0, 1, 0, 4, 0, 28, 60, 124, 255, 511, 1023] [⟨(some 206), .faddr 6, [.t 21], none⟩,
     ⟨(some 207), .load 1 false, [.t 206], none⟩,
     ⟨(some 208), .faddr 6, [.t 3], none⟩,
     ⟨(some 209), .load 1 false, [.t 208], none⟩,
     ⟨(some 210), .mov, [.t 25], none⟩,
     ⟨(some 211), .iaddrS 1, [.t 209, .t 210], none⟩,
     ⟨(some 212), .load 1 false, [.t 211], none⟩,
     ⟨(some 213), .mkslice 1 3, [.t 212], none⟩,
     ⟨(some 214), .append 1 8 3, [.t 207, .t 213], none⟩,
     ⟨(some 215), .faddr 6, [.t 21], none⟩,
     ⟨none, .store 1, [.t 215, .t 214], none⟩]) .skip)))))))
   (.reg [⟨(some 172), .mov, [.t 23], none⟩,
     ⟨(some 173), .bin .add, [.t 172, .c (.int .i64 1)], none⟩,
     ⟨(some 23), .mov, [.t 173], none⟩]))))))
   (.seq (.reg [⟨(some 216), .load 7 true, [.t 21], none⟩,
     ⟨none, .store 7, [.t 4, .t 216], none⟩,
     ⟨(some 5), .mov, [.c (.int .i64 0)], none⟩])
   .ret)))))))))))))))))
theorem chk.ref10_Join : chkF Try.prog 43 = some (217, ir.ref10_Join, [.cell 4 55, .tmp 5]) := by kernel_rfl

/-- paravane/paravaneref00.Rest -/
abbrev F.ref00_Rest : Nat := 49
def ir.ref00_Rest : IC :=
 (.seq (.reg [⟨(some 4), .mov, [.c (.int .i64 0)], none⟩])
   (.seq (.seq (.reg [⟨(some 5), .mov, [.t 1], none⟩,
     ⟨(some 6), .bin .lss, [.t 5, .c (.int .i64 1)], none⟩])
   (.cond (.t 6) (.seq (.reg [⟨(some 4), .mov, [.c (.int .i64 0)], none⟩])
   .ret) .skip))
   (.seq (.reg [⟨(some 7), .mov, [.t 0], none⟩,
     ⟨(some 8), .mov, [.t 1], none⟩,
     ⟨(some 9), .bin .rem, [.t 7, .t 8], none⟩,
     ⟨(some 0), .mov, [.t 9], none⟩])
   (.seq (.seq (.reg [⟨(some 10), .mov, [.t 0], none⟩,
     ⟨(some 11), .bin .lss, [.t 10, .c (.int .i64 0)], none⟩])
   (.cond (.t 11) (.reg [⟨(some 12), .mov, [.t 0], none⟩,
     ⟨(some 13), .mov, [.t 1], none⟩,
     ⟨(some 14), .bin .add, [.t 12, .t 13], none⟩,
     ⟨(some 0), .mov, [.t 14], none⟩]) .skip))
   (.seq (.reg [⟨(some 15), .mov, [.t 0], none⟩,
     ⟨(some 4), .mov, [.t 15], none⟩])
   .ret)))))
theorem chk.ref00_Rest : chkF Try.prog 49 = some (16, ir.ref00_Rest, [.tmp 4]) := by kernel_rfl

/-- paravane/paravaneref00.Own -/
abbrev F.ref00_Own : Nat := 50
def ir.ref00_Own : IC :=
 (.seq (.reg [⟨(some 2), .mov, [.c .nils], none⟩])
   (.seq (.reg [⟨(some 3), .mov, [.c .nils], none⟩])
   (.seq (.reg [⟨(some 4), .mov, [.t 3], none⟩,
     ⟨(some 5), .mov, [.t 0], none⟩,
     ⟨(some 6), .append 1 8 3, [.t 4, .t 5], none⟩,
     ⟨(some 2), .mov, [.t 6], none⟩])
   .ret)))
theorem chk.ref00_Own : chkF Try.prog 50 = some (7, ir.ref00_Own, [.tmp 2]) := by kernel_rfl

/-- paravane/paravanelaw10.chosen -/
abbrev F.law10_chosen : Nat := 54
def ir.law10_chosen : IC :=
 (.seq (.reg [⟨(some 4), .mov, [.c .nils], none⟩])
   (.seq (.reg [⟨(some 5), .mov, [.c .nils], none⟩])
   (.seq (.seq (.reg [⟨(some 6), .mov, [.c (.int .i64 0)], none⟩])
   (.block 0 (.loop (.seq (.seq (.reg [⟨(some 11), .mov, [.t 6], none⟩,
     ⟨(some 12), .mov, [.t 0], none⟩,
     ⟨(some 13), .len false, [.t 12], none⟩,
     ⟨(some 14), .bin .lss, [.t 11, .t 13], none⟩])
   (.cond (.t 14) .skip (.exit 0)))
   (.seq (.block 1 (.seq (.draw [0, 0, 3, 7, 15, 0, 0, 96, 224, 480, 1023, 0, 4095] [⟨(some 17), .mov, [.t 0], none⟩,
     ⟨(some 18), .mov, [.t 6], none⟩,
     ⟨(some 19), .iaddrS 3, [.t 17, .t 18], none⟩,
     ⟨(some 20), .faddr 0, [.t 19], none⟩,
     ⟨(some 21), .load 1 false, [.t 20], none⟩,
     ⟨(some 22), .mov, [.t 0], none⟩,
     ⟨(some 23), .mov, [.t 6], none⟩,
     ⟨(some 24), .iaddrS 3, [.t 22, .t 23], none⟩,
     ⟨(some 25), .faddr 1, [.t 24], none⟩,
     ⟨(some 26), .load 1 false, [.t 25], none⟩,
     ⟨(some 27), .build [(.int .i64 0), (.int .i64 0), .nils] [(0, 1), (1, 1)], [.t 21, .t 26], none⟩,
     ⟨(some 7), .alloc [(.int .i64 0), (.int .i64 0), .nils], [], none⟩,
     ⟨none, .store 3, [.t 7, .t 27], none⟩])
   (.seq (.seq (.reg [⟨(some 8), .mov, [.c (.int .i64 0)], none⟩])
   (.block 2 (.loop (.seq (.seq (.reg [⟨(some 28), .mov, [.t 8], none⟩,
     ⟨(some 29), .mov, [.t 0], none⟩,
     ⟨(some 30), .mov, [.t 6], none⟩,
     ⟨(some 31), .iaddrS 3, [.t 29, .t 30], none⟩,
     ⟨(some 32), .faddr 2, [.t 31], none⟩,
     ⟨(some 33), .load 1 false, [.t 32], none⟩,
     ⟨(some 34), .len false, [.t 33], none⟩,
     ⟨(some 35), .bin .lss, [.t 28, .t 34], none⟩])
   (.cond (.t 35) .skip (.exit 2)))
   (.seq (.block 3 (.seq (.reg [⟨(some 38), .mov, [.t 0], none⟩,
     ⟨(some 39), .mov, [.t 6], none⟩,
     ⟨(some 40), .iaddrS 3, [.t 38, .t 39], none⟩,
     ⟨(some 41), .faddr 2, [.t 40], none⟩,
     ⟨(some 42), .load 1 false, [.t 41], none⟩,
     ⟨(some 43), .mov, [.t 8], none⟩,
     ⟨(some 44), .iaddrS 2, [.t 42, .t 43], none⟩,
     ⟨(some 45), .load 2 true, [.t 44], none⟩,
     ⟨(some 9), .alloc [(.int .i64 0), (.int .i64 0)], [], none⟩,
     ⟨none, .store 2, [.t 9, .t 45], none⟩])
   (.seq (.draw [0, 1, 0, 0, 8, 0, 56, 124, 0, 256, 0, 1024, 3840, 7936, 16380, 32767, 65535] [⟨(some 46), .faddr 0, [.t 9], none⟩,
     ⟨(some 47), .load 1 false, [.t 46], none⟩,
     ⟨(some 48), .mov, [.t 1], none⟩,
     ⟨(some 49), .mov, [.t 6], none⟩,
     ⟨(some 50), .bin .mul, [.c (.int .i64 7), .t 49], none⟩,
     ⟨(some 51), .mov, [.t 8], none⟩,
     ⟨(some 52), .bin .add, [.t 50, .t 51], none⟩,
     ⟨(some 53), .call 56, [.t 48, .t 52], none⟩,
     ⟨(some 54), .faddr 1, [.t 9], none⟩,
     ⟨(some 55), .load 1 false, [.t 54], none⟩,
     ⟨(some 56), .faddr 0, [.t 9], none⟩,
     ⟨(some 57), .load 1 false, [.t 56], none⟩,
     ⟨(some 58), .bin .sub, [.t 55, .t 57], none⟩,
     ⟨(some 59), .bin .add, [.t 58, .c (.int .i64 1)], none⟩,
     ⟨(some 60), .call 49, [.t 53, .t 59], none⟩,
     ⟨(some 61), .bin .add, [.t 47, .t 60], none⟩,
     ⟨(some 10), .mov, [.t 61], none⟩])
   (.reg [⟨(some 62), .faddr 2, [.t 7], none⟩,
     ⟨(some 63), .load 1 false, [.t 62], none⟩,
     ⟨(some 64), .mov, [.t 10], none⟩,
     ⟨(some 65), .mov, [.t 10], none⟩,
     ⟨(some 66), .build [(.int .i64 0), (.int .i64 0)] [(0, 1), (1, 1)], [.t 64, .t 65], none⟩,
     ⟨(some 67), .mkslice 2 33, [.t 66], none⟩,
     ⟨(some 68), .append 2 16 33, [.t 63, .t 67], none⟩,
     ⟨(some 69), .faddr 2, [.t 7], none⟩,
     ⟨none, .store 1, [.t 69, .t 68], none⟩]))))
   (.reg [⟨(some 36), .mov, [.t 8], none⟩,
     ⟨(some 37), .bin .add, [.t 36, .c (.int .i64 1)], none⟩,
     ⟨(some 8), .mov, [.t 37], none⟩]))))))
   (.reg [⟨(some 70), .mov, [.t 5], none⟩,
     ⟨(some 71), .load 3 true, [.t 7], none⟩,
     ⟨(some 72), .mkslice 3 79, [.t 71], none⟩,
     ⟨(some 73), .append 3 40 79, [.t 70, .t 72], none⟩,
     ⟨(some 5), .mov, [.t 73], none⟩]))))
   (.reg [⟨(some 15), .mov, [.t 6], none⟩,
     ⟨(some 16), .bin .add, [.t 15, .c (.int .i64 1)], none⟩,
     ⟨(some 6), .mov, [.t 16], none⟩]))))))
   (.seq (.reg [⟨(some 74), .mov, [.t 5], none⟩,
     ⟨(some 4), .mov, [.t 74], none⟩])
   .ret))))
theorem chk.law10_chosen : chkF Try.prog 54 = some (75, ir.law10_chosen, [.tmp 4]) := by kernel_rfl

/-- paravane/paravanelaw10.inside -/
abbrev F.law10_inside : Nat := 55
def ir.law10_inside : IC :=
 (.seq (.reg [⟨(some 2), .box, [.t 0], none⟩,
     ⟨(some 3), .box, [.t 1], none⟩,
     ⟨(some 4), .mov, [.c (.bool false)], none⟩])
   (.seq (.seq (.reg [⟨(some 6), .faddr 0, [.t 2], none⟩,
     ⟨(some 7), .load 3 true, [.t 6], none⟩,
     ⟨(some 8), .faddr 0, [.t 3], none⟩,
     ⟨(some 9), .load 3 true, [.t 8], none⟩,
     ⟨(some 10), .eqs true [0, 0, 0], [.t 7, .t 9], none⟩,
     ⟨(some 11), .mov, [.t 10], none⟩,
     ⟨(some 12), .faddr 3, [.t 2], (some (11, false))⟩,
     ⟨(some 13), .load 3 true, [.t 12], (some (11, false))⟩,
     ⟨(some 14), .faddr 3, [.t 3], (some (11, false))⟩,
     ⟨(some 15), .load 3 true, [.t 14], (some (11, false))⟩,
     ⟨(some 16), .eqs true [0, 0, 0], [.t 13, .t 15], (some (11, false))⟩,
     ⟨(some 17), .pick, [.t 11, .c (.bool true), .t 16], none⟩,
     ⟨(some 18), .mov, [.t 17], none⟩,
     ⟨(some 19), .faddr 6, [.t 2], (some (18, false))⟩,
     ⟨(some 20), .load 1 false, [.t 19], (some (18, false))⟩,
     ⟨(some 21), .len false, [.t 20], (some (18, false))⟩,
     ⟨(some 22), .faddr 6, [.t 3], (some (18, false))⟩,
     ⟨(some 23), .load 1 false, [.t 22], (some (18, false))⟩,
     ⟨(some 24), .len false, [.t 23], (some (18, false))⟩,
     ⟨(some 25), .bin .neq, [.t 21, .t 24], (some (18, false))⟩,
     ⟨(some 26), .pick, [.t 18, .c (.bool true), .t 25], none⟩])
   (.cond (.t 26) (.seq (.reg [⟨(some 4), .mov, [.c (.bool false)], none⟩])
   .ret) .skip))
   (.seq (.seq (.reg [⟨(some 5), .mov, [.c (.int .i64 0)], none⟩])
   (.block 0 (.loop (.seq (.seq (.reg [⟨(some 27), .mov, [.t 5], none⟩,
     ⟨(some 28), .faddr 6, [.t 2], none⟩,
     ⟨(some 29), .load 1 false, [.t 28], none⟩,
     ⟨(some 30), .len false, [.t 29], none⟩,
     ⟨(some 31), .bin .lss, [.t 27, .t 30], none⟩])
   (.cond (.t 31) .skip (.exit 0)))
   (.seq (.block 1 (.seq (.draw [0, 1, 0, 7, 15, 31, 0, 64, 0, 448, 960, 1984, 4095, 8191, 16383, 32767, 16383, 131071, 262143, 524287, 16383, 1064959, 16383, 7356415, 15745023, 32522239, 67108863, 134217727] [⟨(some 34), .faddr 6, [.t 2], none⟩,
     ⟨(some 35), .load 1 false, [.t 34], none⟩,
     ⟨(some 36), .mov, [.t 5], none⟩,
     ⟨(some 37), .iaddrS 2, [.t 35, .t 36], none⟩,
     ⟨(some 38), .faddr 0, [.t 37], none⟩,
     ⟨(some 39), .load 1 false, [.t 38], none⟩,
     ⟨(some 40), .faddr 6, [.t 3], none⟩,
     ⟨(some 41), .load 1 false, [.t 40], none⟩,
     ⟨(some 42), .mov, [.t 5], none⟩,
     ⟨(some 43), .iaddrS 2, [.t 41, .t 42], none⟩,
     ⟨(some 44), .faddr 0, [.t 43], none⟩,
     ⟨(some 45), .load 1 false, [.t 44], none⟩,
     ⟨(some 46), .bin .lss, [.t 39, .t 45], none⟩,
     ⟨(some 47), .mov, [.t 46], none⟩,
     ⟨(some 48), .faddr 6, [.t 2], (some (47, false))⟩,
     ⟨(some 49), .load 1 false, [.t 48], (some (47, false))⟩,
     ⟨(some 50), .mov, [.t 5], (some (47, false))⟩,
     ⟨(some 51), .iaddrS 2, [.t 49, .t 50], (some (47, false))⟩,
     ⟨(some 52), .faddr 1, [.t 51], (some (47, false))⟩,
     ⟨(some 53), .load 1 false, [.t 52], (some (47, false))⟩,
     ⟨(some 54), .faddr 6, [.t 3], (some (47, false))⟩,
     ⟨(some 55), .load 1 false, [.t 54], (some (47, false))⟩,
     ⟨(some 56), .mov, [.t 5], (some (47, false))⟩,
     ⟨(some 57), .iaddrS 2, [.t 55, .t 56], (some (47, false))⟩,
     ⟨(some 58), .faddr 1, [.t 57], (some (47, false))⟩,
     ⟨(some 59), .load 1 false, [.t 58], (some (47, false))⟩,
     ⟨(some 60), .bin .gtr, [.t 53, .t 59], (some (47, false))⟩,
     ⟨(some 61), .pick, [.t 47, .c (.bool true), .t 60], none⟩])
   (.cond (.t 61) (.seq (.reg [⟨(some 4), .mov, [.c (.bool false)], none⟩])
   .ret) .skip)))
   (.reg [⟨(some 32), .mov, [.t 5], none⟩,
     ⟨(some 33), .bin .add, [.t 32, .c (.int .i64 1)], none⟩,
     ⟨(some 5), .mov, [.t 33], none⟩]))))))
   (.seq (.reg [⟨(some 4), .mov, [.c (.bool true)], none⟩])
   .ret))))
theorem chk.law10_inside : chkF Try.prog 55 = some (62, ir.law10_inside, [.tmp 4]) := by kernel_rfl

/-- paravane/paravaneref00.Pick -/
abbrev F.ref00_Pick : Nat := 56
def ir.ref00_Pick : IC :=
 (.seq (.reg [⟨(some 4), .mov, [.c (.int .i64 0)], none⟩])
   (.seq (.seq (.reg [⟨(some 5), .mov, [.t 0], none⟩,
     ⟨(some 6), .len false, [.t 5], none⟩,
     ⟨(some 7), .bin .eql, [.t 6, .c (.int .i64 0)], none⟩])
   (.cond (.t 7) (.seq (.reg [⟨(some 4), .mov, [.c (.int .i64 0)], none⟩])
   .ret) .skip))
   (.seq (.reg [⟨(some 8), .mov, [.t 0], none⟩,
     ⟨(some 9), .mov, [.t 1], none⟩,
     ⟨(some 10), .mov, [.t 0], none⟩,
     ⟨(some 11), .len false, [.t 10], none⟩,
     ⟨(some 12), .call 49, [.t 9, .t 11], none⟩,
     ⟨(some 13), .iaddrS 1, [.t 8, .t 12], none⟩,
     ⟨(some 14), .load 1 false, [.t 13], none⟩,
     ⟨(some 4), .mov, [.t 14], none⟩])
   .ret)))
theorem chk.ref00_Pick : chkF Try.prog 56 = some (15, ir.ref00_Pick, [.tmp 4]) := by kernel_rfl

/-- paravane/paravanelaw10.added -/
abbrev F.law10_added : Nat := 57
def ir.law10_added : IC :=
 (.seq (.reg [⟨(some 2), .box, [.t 0], none⟩,
     ⟨(some 3), .box, [.t 1], none⟩,
     ⟨(some 4), .alloc [(.int .i64 0), (.int .i64 0)], [], none⟩])
   (.seq (.reg [⟨(some 5), .faddr 0, [.t 2], none⟩,
     ⟨(some 6), .load 1 false, [.t 5], none⟩,
     ⟨(some 7), .faddr 0, [.t 3], none⟩,
     ⟨(some 8), .load 1 false, [.t 7], none⟩,
     ⟨(some 9), .bin .add, [.t 6, .t 8], none⟩,
     ⟨(some 10), .faddr 1, [.t 2], none⟩,
     ⟨(some 11), .load 1 false, [.t 10], none⟩,
     ⟨(some 12), .faddr 1, [.t 3], none⟩,
     ⟨(some 13), .load 1 false, [.t 12], none⟩,
     ⟨(some 14), .bin .add, [.t 11, .t 13], none⟩,
     ⟨(some 15), .build [(.int .i64 0), (.int .i64 0)] [(0, 1), (1, 1)], [.t 9, .t 14], none⟩,
     ⟨none, .store 2, [.t 4, .t 15], none⟩])
   .ret))
theorem chk.law10_added : chkF Try.prog 57 = some (16, ir.law10_added, [.cell 4 33]) := by kernel_rfl

/-- paravane/volume.Seal -/
abbrev F.volume_Seal : Nat := 58
def ir.volume_Seal : IC :=
 (.seq (.reg [⟨(some 1), .box, [.t 0], none⟩,
     ⟨(some 2), .mov, [.c (.int .i64 0)], none⟩,
     ⟨(some 3), .mov, [.c (.int .i64 0)], none⟩])
   (.seq (.reg [⟨(some 12), .load 7 true, [.t 1], none⟩,
     ⟨(some 13), .call 97, [.t 12], none⟩,
     ⟨(some 11), .mov, [.t 13], none⟩,
     ⟨(some 14), .extract 0, [.t 11], none⟩,
     ⟨(some 15), .extract 1, [.t 11], none⟩,
     ⟨(some 4), .alloc [(.int .i64 0), (.int .i64 0), (.int .i64 0), (.int .i64 0), (.int .i64 0), (.int .i64 0), .nils], [], none⟩,
     ⟨none, .store 7, [.t 4, .t 14], none⟩,
     ⟨(some 5), .mov, [.t 15], none⟩])
   (.seq (.seq (.reg [⟨(some 16), .mov, [.t 5], none⟩,
     ⟨(some 17), .bin .neq, [.t 16, .c (.int .i64 0)], none⟩])
   (.cond (.t 17) (.seq (.reg [⟨(some 18), .mov, [.t 5], none⟩,
     ⟨(some 2), .mov, [.c (.int .i64 0)], none⟩,
     ⟨(some 3), .mov, [.t 18], none⟩])
   .ret) .skip))
   (.seq (.reg [⟨(some 6), .mov, [.c (.int .i64 1)], none⟩])
   (.seq (.seq (.draw [0, 1, 3, 0, 8, 24, 0, 64, 255, 0] [⟨(some 19), .faddr 0, [.t 4], none⟩,
     ⟨(some 20), .faddr 0, [.t 19], none⟩,
     ⟨(some 21), .sla 3 1, [.t 20], none⟩,
     ⟨(some 22), .faddr 0, [.t 4], none⟩,
     ⟨(some 23), .faddr 3, [.t 22], none⟩,
     ⟨(some 24), .sla 3 1, [.t 23], none⟩,
     ⟨(some 25), .faddr 6, [.t 4], none⟩,
     ⟨(some 26), .load 1 false, [.t 25], none⟩,
     ⟨(some 27), .build [.nils, .nils, .nils] [(0, 1), (1, 1), (2, 1)], [.t 21, .t 24, .t 26], none⟩,
     ⟨(some 28), .mov, [.c (.int .i64 0)], none⟩])
   (.block 0 (.loop (.seq (.reg [⟨(some 29), .bin .lss, [.t 28, .c (.int .i64 3)], none⟩])
   (.seq (.cond (.t 29) .skip (.exit 0))
   (.seq (.block 1 (.seq (.reg [⟨(some 30), .idxA 3 1 false, [.t 27, .t 28], none⟩,
     ⟨(some 8), .mov, [.t 30], none⟩])
   (.seq (.reg [⟨(some 31), .mov, [.t 8], none⟩,
     ⟨(some 32), .len false, [.t 31], none⟩,
     ⟨(some 33), .mov, [.c (.int .i64 0)], none⟩])
   (.block 2 (.loop (.seq (.reg [⟨(some 34), .bin .lss, [.t 33, .t 32], none⟩])
   (.seq (.cond (.t 34) .skip (.exit 2))
   (.seq (.block 3 (.seq (.reg [⟨(some 35), .iaddrS 1, [.t 31, .t 33], none⟩,
     ⟨(some 36), .load 1 false, [.t 35], none⟩,
     ⟨(some 10), .mov, [.t 36], none⟩])
   (.reg [⟨(some 37), .mov, [.t 6], none⟩,
     ⟨(some 38), .bin .mul, [.t 37, .c (.int .i64 48271)], none⟩,
     ⟨(some 39), .mov, [.t 10], none⟩,
     ⟨(some 40), .bin .add, [.t 38, .t 39], none⟩,
     ⟨(some 41), .bin .add, [.t 40, .c (.int .i64 2199023255552)], none⟩,
     ⟨(some 42), .bin .rem, [.t 41, .c (.int .i64 2147483647)], none⟩,
     ⟨(some 6), .mov, [.t 42], none⟩])))
   (.reg [⟨(some 43), .bin .add, [.t 33, .c (.int .i64 1)], none⟩,
     ⟨(some 33), .mov, [.t 43], none⟩])))))))))
   (.reg [⟨(some 44), .bin .add, [.t 28, .c (.int .i64 1)], none⟩,
     ⟨(some 28), .mov, [.t 44], none⟩])))))))
   (.seq (.reg [⟨(some 45), .mov, [.t 6], none⟩,
     ⟨(some 2), .mov, [.t 45], none⟩,
     ⟨(some 3), .mov, [.c (.int .i64 0)], none⟩])
   .ret))))))
theorem chk.volume_Seal : chkF Try.prog 58 = some (46, ir.volume_Seal, [.tmp 2, .tmp 3]) := by kernel_rfl

/-- paravane/volume.Cut -/
abbrev F.volume_Cut : Nat := 59
def ir.volume_Cut : IC :=
 (.seq (.reg [⟨(some 3), .box, [.t 0], none⟩,
     ⟨(some 4), .box, [.t 1], none⟩,
     ⟨(some 5), .box, [.t 2], none⟩,
     ⟨(some 6), .alloc [(.int .i64 0), (.int .i64 0), (.int .i64 0), (.int .i64 0), (.int .i64 0), (.int .i64 0), .nils], [], none⟩,
     ⟨(some 7), .mov, [.c (.int .i64 0)], none⟩])
   (.seq (.reg [⟨(some 14), .load 7 true, [.t 3], none⟩,
     ⟨(some 15), .call 97, [.t 14], none⟩,
     ⟨(some 13), .mov, [.t 15], none⟩,
     ⟨(some 16), .extract 0, [.t 13], none⟩,
     ⟨(some 17), .extract 1, [.t 13], none⟩,
     ⟨(some 8), .alloc [(.int .i64 0), (.int .i64 0), (.int .i64 0), (.int .i64 0), (.int .i64 0), (.int .i64 0), .nils], [], none⟩,
     ⟨none, .store 7, [.t 8, .t 16], none⟩,
     ⟨(some 9), .mov, [.t 17], none⟩])
   (.seq (.seq (.reg [⟨(some 18), .mov, [.t 9], none⟩,
     ⟨(some 19), .bin .neq, [.t 18, .c (.int .i64 0)], none⟩])
   (.cond (.t 19) (.seq (.reg [⟨(some 20), .build [(.int .i64 0), (.int .i64 0), (.int .i64 0), (.int .i64 0), (.int .i64 0), (.int .i64 0), .nils] [], [], none⟩,
     ⟨(some 21), .mov, [.t 9], none⟩,
     ⟨none, .store 7, [.t 6, .t 20], none⟩,
     ⟨(some 7), .mov, [.t 21], none⟩])
   .ret) .skip))
   (.seq (.reg [⟨(some 22), .load 3 true, [.t 4], none⟩,
     ⟨(some 23), .load 3 true, [.t 5], none⟩,
     ⟨(some 24), .build [(.int .i64 0), (.int .i64 0), (.int .i64 0), (.int .i64 0), (.int .i64 0), (.int .i64 0)] [(0, 3), (3, 3)], [.t 22, .t 23], none⟩,
     ⟨(some 10), .alloc [(.int .i64 0), (.int .i64 0), (.int .i64 0), (.int .i64 0), (.int .i64 0), (.int .i64 0)], [], none⟩,
     ⟨none, .store 6, [.t 10, .t 24], none⟩])
   (.seq (.seq (.draw [0, 1, 3, 7, 15, 31, 15, 79, 255, 511, 1023, 2047, 4095, 8191, 4095, 20479, 65535, 131071, 262143] [⟨(some 25), .load 6 true, [.t 10], none⟩,
     ⟨(some 26), .call 114, [.t 25], none⟩,
     ⟨(some 27), .un .not, [.t 26], none⟩,
     ⟨(some 28), .mov, [.t 27], none⟩,
     ⟨(some 29), .faddr 0, [.t 8], (some (28, false))⟩,
     ⟨(some 30), .load 6 true, [.t 29], (some (28, false))⟩,
     ⟨(some 31), .faddr 0, [.t 10], (some (28, false))⟩,
     ⟨(some 32), .load 3 true, [.t 31], (some (28, false))⟩,
     ⟨(some 33), .call 103, [.t 30, .t 32], (some (28, false))⟩,
     ⟨(some 34), .un .not, [.t 33], (some (28, false))⟩,
     ⟨(some 35), .pick, [.t 28, .c (.bool true), .t 34], none⟩,
     ⟨(some 36), .mov, [.t 35], none⟩,
     ⟨(some 37), .faddr 0, [.t 8], (some (36, false))⟩,
     ⟨(some 38), .load 6 true, [.t 37], (some (36, false))⟩,
     ⟨(some 39), .load 6 true, [.t 10], (some (36, false))⟩,
     ⟨(some 40), .call 115, [.t 39], (some (36, false))⟩,
     ⟨(some 41), .call 103, [.t 38, .t 40], (some (36, false))⟩,
     ⟨(some 42), .un .not, [.t 41], (some (36, false))⟩,
     ⟨(some 43), .pick, [.t 36, .c (.bool true), .t 42], none⟩])
   (.cond (.t 43) (.seq (.reg [⟨(some 44), .build [(.int .i64 0), (.int .i64 0), (.int .i64 0), (.int .i64 0), (.int .i64 0), (.int .i64 0), .nils] [], [], none⟩,
     ⟨none, .store 7, [.t 6, .t 44], none⟩,
     ⟨(some 7), .mov, [.c (.int .i64 102)], none⟩])
   .ret) .skip))
   (.seq (.reg [⟨(some 45), .load 3 true, [.t 4], none⟩,
     ⟨(some 46), .load 3 true, [.t 5], none⟩,
     ⟨(some 47), .build [(.int .i64 0), (.int .i64 0), (.int .i64 0), (.int .i64 0), (.int .i64 0), (.int .i64 0), .nils] [(0, 3), (3, 3)], [.t 45, .t 46], none⟩,
     ⟨(some 11), .alloc [(.int .i64 0), (.int .i64 0), (.int .i64 0), (.int .i64 0), (.int .i64 0), (.int .i64 0), .nils], [], none⟩,
     ⟨none, .store 7, [.t 11, .t 47], none⟩])
   (.seq (.seq (.reg [⟨(some 48), .load 6 true, [.t 10], none⟩,
     ⟨(some 49), .call 102, [.t 48], none⟩])
   (.block 0 (.range (.t 49) [50] (.reg [⟨(some 12), .alloc [(.int .i64 0), (.int .i64 0), (.int .i64 0)], [], none⟩,
     ⟨none, .store 3, [.t 12, .t 50], none⟩]) (.block 1 (.draw [0, 1, 0, 4, 0, 16, 0, 112, 252, 508, 1020, 2047, 4095, 8191] [⟨(some 51), .faddr 6, [.t 11], none⟩,
     ⟨(some 52), .load 1 false, [.t 51], none⟩,
     ⟨(some 53), .faddr 6, [.t 8], none⟩,
     ⟨(some 54), .load 1 false, [.t 53], none⟩,
     ⟨(some 55), .faddr 0, [.t 8], none⟩,
     ⟨(some 56), .load 6 true, [.t 55], none⟩,
     ⟨(some 57), .load 3 true, [.t 12], none⟩,
     ⟨(some 58), .call 104, [.t 56, .t 57], none⟩,
     ⟨(some 59), .iaddrS 1, [.t 54, .t 58], none⟩,
     ⟨(some 60), .load 1 false, [.t 59], none⟩,
     ⟨(some 61), .mkslice 1 3, [.t 60], none⟩,
     ⟨(some 62), .append 1 8 3, [.t 52, .t 61], none⟩,
     ⟨(some 63), .faddr 6, [.t 11], none⟩,
     ⟨none, .store 1, [.t 63, .t 62], none⟩])))))
   (.seq (.reg [⟨(some 64), .load 7 true, [.t 11], none⟩,
     ⟨none, .store 7, [.t 6, .t 64], none⟩,
     ⟨(some 7), .mov, [.c (.int .i64 0)], none⟩])
   .ret))))))))
theorem chk.volume_Cut : chkF Try.prog 59 = some (65, ir.volume_Cut, [.cell 6 55, .tmp 7]) := by kernel_rfl

/-- paravane/volume.Verify -/
abbrev F.volume_Verify : Nat := 63
def ir.volume_Verify : IC :=
 (.seq (.reg [⟨(some 7), .box, [.t 3], none⟩,
     ⟨(some 8), .mov, [.c (.bool false)], none⟩,
     ⟨(some 9), .mov, [.c (.int .i64 0)], none⟩])
   (.seq (.reg [⟨(some 13), .mov, [.t 0], none⟩,
     ⟨(some 14), .faddr 0, [.t 7], none⟩,
     ⟨(some 15), .load 3 true, [.t 14], none⟩,
     ⟨(some 16), .mov, [.t 1], none⟩,
     ⟨(some 17), .mov, [.t 2], none⟩,
     ⟨(some 18), .call 31, [.t 13, .t 15, .t 16, .t 17], none⟩,
     ⟨(some 12), .mov, [.t 18], none⟩,
     ⟨(some 19), .extract 0, [.t 12], none⟩,
     ⟨(some 20), .extract 1, [.t 12], none⟩,
     ⟨(some 10), .alloc [(.int .i64 0), (.int .i64 0), (.int .i64 0), .nils, (.int .i64 0), (.int .i64 0)], [], none⟩,
     ⟨none, .store 6, [.t 10, .t 19], none⟩,
     ⟨(some 11), .mov, [.t 20], none⟩])
   (.seq (.seq (.reg [⟨(some 21), .mov, [.t 11], none⟩,
     ⟨(some 22), .bin .neq, [.t 21, .c (.int .i64 0)], none⟩])
   (.cond (.t 22) (.seq (.reg [⟨(some 23), .mov, [.t 11], none⟩,
     ⟨(some 8), .mov, [.c (.bool false)], none⟩,
     ⟨(some 9), .mov, [.t 23], none⟩])
   .ret) .skip))
   (.seq (.reg [⟨(some 24), .faddr 4, [.t 10], none⟩,
     ⟨(some 25), .load 2 true, [.t 24], none⟩,
     ⟨(some 26), .faddr 4, [.t 7], none⟩,
     ⟨(some 27), .load 2 true, [.t 26], none⟩,
     ⟨(some 28), .eqs false [0, 0], [.t 25, .t 27], none⟩,
     ⟨(some 29), .mov, [.t 28], none⟩,
     ⟨(some 30), .faddr 3, [.t 10], (some (29, true))⟩,
     ⟨(some 31), .load 1 false, [.t 30], (some (29, true))⟩,
     ⟨(some 32), .faddr 3, [.t 7], (some (29, true))⟩,
     ⟨(some 33), .load 1 false, [.t 32], (some (29, true))⟩,
     ⟨(some 34), .call 117, [.t 31, .t 33], (some (29, true))⟩,
     ⟨(some 35), .pick, [.t 29, .t 34, .c (.bool false)], none⟩,
     ⟨(some 8), .mov, [.t 35], none⟩,
     ⟨(some 9), .mov, [.c (.int .i64 0)], none⟩])
   .ret))))
theorem chk.volume_Verify : chkF Try.prog 63 = some (36, ir.volume_Verify, [.tmp 8, .tmp 9]) := by kernel_rfl

/-- paravane/volume.CheckVolume -/
abbrev F.volume_CheckVolume : Nat := 65
def ir.volume_CheckVolume : IC :=
 (.seq (.reg [⟨(some 1), .box, [.t 0], none⟩,
     ⟨(some 2), .mov, [.c (.int .i64 0)], none⟩])
   (.seq (.reg [⟨(some 6), .load 7 true, [.t 1], none⟩,
     ⟨(some 7), .call 97, [.t 6], none⟩,
     ⟨(some 5), .mov, [.t 7], none⟩,
     ⟨(some 8), .extract 0, [.t 5], none⟩,
     ⟨(some 9), .extract 1, [.t 5], none⟩,
     ⟨(some 3), .alloc [(.int .i64 0), (.int .i64 0), (.int .i64 0), (.int .i64 0), (.int .i64 0), (.int .i64 0), .nils], [], none⟩,
     ⟨none, .store 7, [.t 3, .t 8], none⟩,
     ⟨(some 4), .mov, [.t 9], none⟩])
   (.seq (.reg [⟨(some 10), .mov, [.t 4], none⟩,
     ⟨(some 2), .mov, [.t 10], none⟩])
   .ret)))
theorem chk.volume_CheckVolume : chkF Try.prog 65 = some (11, ir.volume_CheckVolume, [.tmp 2]) := by kernel_rfl

/-- paravane/paravaneref10.CheckVolume -/
abbrev F.ref10_CheckVolume : Nat := 68
def ir.ref10_CheckVolume : IC :=
 (.seq (.reg [⟨(some 1), .box, [.t 0], none⟩,
     ⟨(some 2), .mov, [.c (.int .i64 0)], none⟩])
   (.seq (.seq (.reg [⟨(some 4), .faddr 0, [.t 1], none⟩,
     ⟨(some 5), .load 3 true, [.t 4], none⟩,
     ⟨(some 6), .faddr 3, [.t 1], none⟩,
     ⟨(some 7), .load 3 true, [.t 6], none⟩,
     ⟨(some 8), .call 88, [.t 5, .t 7], none⟩,
     ⟨(some 9), .un .not, [.t 8], none⟩,
     ⟨(some 10), .mov, [.t 9], none⟩,
     ⟨(some 11), .faddr 6, [.t 1], (some (10, false))⟩,
     ⟨(some 12), .load 1 false, [.t 11], (some (10, false))⟩,
     ⟨(some 13), .len false, [.t 12], (some (10, false))⟩,
     ⟨(some 14), .faddr 3, [.t 1], (some (10, false))⟩,
     ⟨(some 15), .iaddrA 3 1, [.t 14, .c (.int .i64 0)], (some (10, false))⟩,
     ⟨(some 16), .load 1 false, [.t 15], (some (10, false))⟩,
     ⟨(some 17), .faddr 3, [.t 1], (some (10, false))⟩,
     ⟨(some 18), .iaddrA 3 1, [.t 17, .c (.int .i64 1)], (some (10, false))⟩,
     ⟨(some 19), .load 1 false, [.t 18], (some (10, false))⟩,
     ⟨(some 20), .bin .mul, [.t 16, .t 19], (some (10, false))⟩,
     ⟨(some 21), .faddr 3, [.t 1], (some (10, false))⟩,
     ⟨(some 22), .iaddrA 3 1, [.t 21, .c (.int .i64 2)], (some (10, false))⟩,
     ⟨(some 23), .load 1 false, [.t 22], (some (10, false))⟩,
     ⟨(some 24), .bin .mul, [.t 20, .t 23], (some (10, false))⟩,
     ⟨(some 25), .bin .neq, [.t 13, .t 24], (some (10, false))⟩,
     ⟨(some 26), .pick, [.t 10, .c (.bool true), .t 25], none⟩])
   (.cond (.t 26) (.seq (.reg [⟨(some 2), .mov, [.c (.int .i64 101)], none⟩])
   .ret) .skip))
   (.seq (.seq (.reg [⟨(some 3), .mov, [.c (.int .i64 0)], none⟩])
   (.block 0 (.loop (.seq (.seq (.reg [⟨(some 27), .mov, [.t 3], none⟩,
     ⟨(some 28), .faddr 6, [.t 1], none⟩,
     ⟨(some 29), .load 1 false, [.t 28], none⟩,
     ⟨(some 30), .len false, [.t 29], none⟩,
     ⟨(some 31), .bin .lss, [.t 27, .t 30], none⟩])
   (.cond (.t 31) .skip (.exit 0)))
   (.seq (.block 1 (.seq (.reg [⟨(some 34), .faddr 6, [.t 1], none⟩,
     ⟨(some 35), .load 1 false, [.t 34], none⟩,
     ⟨(some 36), .mov, [.t 3], none⟩,
     ⟨(some 37), .iaddrS 1, [.t 35, .t 36], none⟩,
     ⟨(some 38), .load 1 false, [.t 37], none⟩,
     ⟨(some 39), .call 51, [.t 38, .c (.int .i64 (-1099511627776)), .c (.int .i64 1099511627776)], none⟩,
     ⟨(some 40), .un .not, [.t 39], none⟩])
   (.cond (.t 40) (.seq (.reg [⟨(some 2), .mov, [.c (.int .i64 101)], none⟩])
   .ret) .skip)))
   (.reg [⟨(some 32), .mov, [.t 3], none⟩,
     ⟨(some 33), .bin .add, [.t 32, .c (.int .i64 1)], none⟩,
     ⟨(some 3), .mov, [.t 33], none⟩]))))))
   (.seq (.reg [⟨(some 2), .mov, [.c (.int .i64 0)], none⟩])
   .ret))))
theorem chk.ref10_CheckVolume : chkF Try.prog 68 = some (41, ir.ref10_CheckVolume, [.tmp 2]) := by kernel_rfl

/-- paravane/paravaneref10.Cut -/
abbrev F.ref10_Cut : Nat := 69
def ir.ref10_Cut : IC :=
 (.seq (.reg [⟨(some 3), .box, [.t 0], none⟩,
     ⟨(some 4), .box, [.t 1], none⟩,
     ⟨(some 5), .box, [.t 2], none⟩,
     ⟨(some 6), .alloc [(.int .i64 0), (.int .i64 0), (.int .i64 0), (.int .i64 0), (.int .i64 0), (.int .i64 0), .nils], [], none⟩,
     ⟨(some 7), .mov, [.c (.int .i64 0)], none⟩])
   (.seq (.seq (.reg [⟨(some 13), .load 7 true, [.t 3], none⟩,
     ⟨(some 14), .call 68, [.t 13], none⟩,
     ⟨(some 8), .mov, [.t 14], none⟩])
   (.seq (.reg [⟨(some 15), .mov, [.t 8], none⟩,
     ⟨(some 16), .bin .neq, [.t 15, .c (.int .i64 0)], none⟩])
   (.cond (.t 16) (.seq (.reg [⟨(some 17), .build [(.int .i64 0), (.int .i64 0), (.int .i64 0), (.int .i64 0), (.int .i64 0), (.int .i64 0), .nils] [], [], none⟩,
     ⟨(some 18), .mov, [.t 8], none⟩,
     ⟨none, .store 7, [.t 6, .t 17], none⟩,
     ⟨(some 7), .mov, [.t 18], none⟩])
   .ret) .skip)))
   (.seq (.seq (.reg [⟨(some 19), .load 3 true, [.t 4], none⟩,
     ⟨(some 20), .load 3 true, [.t 5], none⟩,
     ⟨(some 21), .call 88, [.t 19, .t 20], none⟩,
     ⟨(some 22), .un .not, [.t 21], none⟩])
   (.cond (.t 22) (.seq (.reg [⟨(some 23), .build [(.int .i64 0), (.int .i64 0), (.int .i64 0), (.int .i64 0), (.int .i64 0), (.int .i64 0), .nils] [], [], none⟩,
     ⟨none, .store 7, [.t 6, .t 23], none⟩,
     ⟨(some 7), .mov, [.c (.int .i64 102)], none⟩])
   .ret) .skip))
   (.seq (.reg [⟨(some 24), .load 3 true, [.t 4], none⟩,
     ⟨(some 25), .load 3 true, [.t 5], none⟩,
     ⟨(some 26), .build [(.int .i64 0), (.int .i64 0), (.int .i64 0), (.int .i64 0), (.int .i64 0), (.int .i64 0), .nils] [(0, 3), (3, 3)], [.t 24, .t 25], none⟩,
     ⟨(some 9), .alloc [(.int .i64 0), (.int .i64 0), (.int .i64 0), (.int .i64 0), (.int .i64 0), (.int .i64 0), .nils], [], none⟩,
     ⟨none, .store 7, [.t 9, .t 26], none⟩])
   (.seq (.reg [⟨(some 27), .load 3 true, [.t 4], none⟩,
     ⟨(some 28), .load 3 true, [.t 5], none⟩,
     ⟨(some 29), .call 89, [.t 27, .t 28], none⟩,
     ⟨(some 10), .mov, [.t 29], none⟩])
   (.seq (.seq (.reg [⟨(some 11), .mov, [.c (.int .i64 0)], none⟩])
   (.block 0 (.loop (.seq (.seq (.reg [⟨(some 30), .mov, [.t 11], none⟩,
     ⟨(some 31), .mov, [.t 10], none⟩,
     ⟨(some 32), .len false, [.t 31], none⟩,
     ⟨(some 33), .bin .lss, [.t 30, .t 32], none⟩])
   (.cond (.t 33) .skip (.exit 0)))
   (.seq (.block 1 (.seq (.draw [0, 1, 0, 4, 0, 0, 48, 112, 255, 511] [⟨(some 36), .faddr 0, [.t 3], none⟩,
     ⟨(some 37), .load 3 true, [.t 36], none⟩,
     ⟨(some 38), .faddr 3, [.t 3], none⟩,
     ⟨(some 39), .load 3 true, [.t 38], none⟩,
     ⟨(some 40), .mov, [.t 10], none⟩,
     ⟨(some 41), .mov, [.t 11], none⟩,
     ⟨(some 42), .iaddrS 3, [.t 40, .t 41], none⟩,
     ⟨(some 43), .load 3 true, [.t 42], none⟩,
     ⟨(some 44), .call 105, [.t 37, .t 39, .t 43], none⟩,
     ⟨(some 12), .mov, [.t 44], none⟩])
   (.seq (.seq (.reg [⟨(some 45), .mov, [.t 12], none⟩,
     ⟨(some 46), .bin .lss, [.t 45, .c (.int .i64 0)], none⟩])
   (.cond (.t 46) (.seq (.reg [⟨(some 47), .build [(.int .i64 0), (.int .i64 0), (.int .i64 0), (.int .i64 0), (.int .i64 0), (.int .i64 0), .nils] [], [], none⟩,
     ⟨none, .store 7, [.t 6, .t 47], none⟩,
     ⟨(some 7), .mov, [.c (.int .i64 102)], none⟩])
   .ret) .skip))
   (.draw [0, 1, 0, 4, 0, 28, 60, 124, 255, 511, 1023] [⟨(some 48), .faddr 6, [.t 9], none⟩,
     ⟨(some 49), .load 1 false, [.t 48], none⟩,
     ⟨(some 50), .faddr 6, [.t 3], none⟩,
     ⟨(some 51), .load 1 false, [.t 50], none⟩,
     ⟨(some 52), .mov, [.t 12], none⟩,
     ⟨(some 53), .iaddrS 1, [.t 51, .t 52], none⟩,
     ⟨(some 54), .load 1 false, [.t 53], none⟩,
     ⟨(some 55), .mkslice 1 3, [.t 54], none⟩,
     ⟨(some 56), .append 1 8 3, [.t 49, .t 55], none⟩,
     ⟨(some 57), .faddr 6, [.t 9], none⟩,
     ⟨none, .store 1, [.t 57, .t 56], none⟩]))))
   (.reg [⟨(some 34), .mov, [.t 11], none⟩,
     ⟨(some 35), .bin .add, [.t 34, .c (.int .i64 1)], none⟩,
     ⟨(some 11), .mov, [.t 35], none⟩]))))))
   (.seq (.reg [⟨(some 58), .load 7 true, [.t 9], none⟩,
     ⟨none, .store 7, [.t 6, .t 58], none⟩,
     ⟨(some 7), .mov, [.c (.int .i64 0)], none⟩])
   .ret)))))))
theorem chk.ref10_Cut : chkF Try.prog 69 = some (59, ir.ref10_Cut, [.cell 6 55, .tmp 7]) := by kernel_rfl

/-- paravane/paravaneref10.Seal -/
abbrev F.ref10_Seal : Nat := 70
def ir.ref10_Seal : IC :=
 (.seq (.reg [⟨(some 1), .box, [.t 0], none⟩,
     ⟨(some 2), .mov, [.c (.int .i64 0)], none⟩,
     ⟨(some 3), .mov, [.c (.int .i64 0)], none⟩])
   (.seq (.seq (.reg [⟨(some 10), .load 7 true, [.t 1], none⟩,
     ⟨(some 11), .call 68, [.t 10], none⟩,
     ⟨(some 4), .mov, [.t 11], none⟩])
   (.seq (.reg [⟨(some 12), .mov, [.t 4], none⟩,
     ⟨(some 13), .bin .neq, [.t 12, .c (.int .i64 0)], none⟩])
   (.cond (.t 13) (.seq (.reg [⟨(some 14), .mov, [.t 4], none⟩,
     ⟨(some 2), .mov, [.c (.int .i64 0)], none⟩,
     ⟨(some 3), .mov, [.t 14], none⟩])
   .ret) .skip)))
   (.seq (.reg [⟨(some 5), .mov, [.c .nils], none⟩])
   (.seq (.seq (.reg [⟨(some 6), .mov, [.c (.int .i64 0)], none⟩])
   (.block 0 (.loop (.seq (.seq (.reg [⟨(some 15), .mov, [.t 6], none⟩,
     ⟨(some 16), .bin .lss, [.t 15, .c (.int .i64 3)], none⟩])
   (.cond (.t 16) .skip (.exit 0)))
   (.seq (.block 1 (.reg [⟨(some 19), .mov, [.t 5], none⟩,
     ⟨(some 20), .mov, [.t 6], none⟩,
     ⟨(some 21), .faddr 0, [.t 1], none⟩,
     ⟨(some 22), .iaddrA 3 1, [.t 21, .t 20], none⟩,
     ⟨(some 23), .load 1 false, [.t 22], none⟩,
     ⟨(some 24), .mkslice 1 3, [.t 23], none⟩,
     ⟨(some 25), .append 1 8 3, [.t 19, .t 24], none⟩,
     ⟨(some 5), .mov, [.t 25], none⟩]))
   (.reg [⟨(some 17), .mov, [.t 6], none⟩,
     ⟨(some 18), .bin .add, [.t 17, .c (.int .i64 1)], none⟩,
     ⟨(some 6), .mov, [.t 18], none⟩]))))))
   (.seq (.seq (.reg [⟨(some 7), .mov, [.c (.int .i64 0)], none⟩])
   (.block 2 (.loop (.seq (.seq (.reg [⟨(some 26), .mov, [.t 7], none⟩,
     ⟨(some 27), .bin .lss, [.t 26, .c (.int .i64 3)], none⟩])
   (.cond (.t 27) .skip (.exit 2)))
   (.seq (.block 3 (.reg [⟨(some 30), .mov, [.t 5], none⟩,
     ⟨(some 31), .mov, [.t 7], none⟩,
     ⟨(some 32), .faddr 3, [.t 1], none⟩,
     ⟨(some 33), .iaddrA 3 1, [.t 32, .t 31], none⟩,
     ⟨(some 34), .load 1 false, [.t 33], none⟩,
     ⟨(some 35), .mkslice 1 3, [.t 34], none⟩,
     ⟨(some 36), .append 1 8 3, [.t 30, .t 35], none⟩,
     ⟨(some 5), .mov, [.t 36], none⟩]))
   (.reg [⟨(some 28), .mov, [.t 7], none⟩,
     ⟨(some 29), .bin .add, [.t 28, .c (.int .i64 1)], none⟩,
     ⟨(some 7), .mov, [.t 29], none⟩]))))))
   (.seq (.reg [⟨(some 37), .mov, [.t 5], none⟩,
     ⟨(some 38), .faddr 6, [.t 1], none⟩,
     ⟨(some 39), .load 1 false, [.t 38], none⟩,
     ⟨(some 40), .append 1 8 3, [.t 37, .t 39], none⟩,
     ⟨(some 5), .mov, [.t 40], none⟩])
   (.seq (.reg [⟨(some 8), .mov, [.c (.int .i64 1)], none⟩])
   (.seq (.seq (.reg [⟨(some 9), .mov, [.c (.int .i64 0)], none⟩])
   (.block 4 (.loop (.seq (.seq (.reg [⟨(some 41), .mov, [.t 9], none⟩,
     ⟨(some 42), .mov, [.t 5], none⟩,
     ⟨(some 43), .len false, [.t 42], none⟩,
     ⟨(some 44), .bin .lss, [.t 41, .t 43], none⟩])
   (.cond (.t 44) .skip (.exit 4)))
   (.seq (.block 5 (.reg [⟨(some 47), .mov, [.t 8], none⟩,
     ⟨(some 48), .bin .mul, [.t 47, .c (.int .i64 48271)], none⟩,
     ⟨(some 49), .mov, [.t 5], none⟩,
     ⟨(some 50), .mov, [.t 9], none⟩,
     ⟨(some 51), .iaddrS 1, [.t 49, .t 50], none⟩,
     ⟨(some 52), .load 1 false, [.t 51], none⟩,
     ⟨(some 53), .bin .add, [.t 48, .t 52], none⟩,
     ⟨(some 54), .bin .add, [.t 53, .c (.int .i64 2199023255552)], none⟩,
     ⟨(some 55), .bin .rem, [.t 54, .c (.int .i64 2147483647)], none⟩,
     ⟨(some 8), .mov, [.t 55], none⟩]))
   (.reg [⟨(some 45), .mov, [.t 9], none⟩,
     ⟨(some 46), .bin .add, [.t 45, .c (.int .i64 1)], none⟩,
     ⟨(some 9), .mov, [.t 46], none⟩]))))))
   (.seq (.reg [⟨(some 56), .mov, [.t 8], none⟩,
     ⟨(some 2), .mov, [.t 56], none⟩,
     ⟨(some 3), .mov, [.c (.int .i64 0)], none⟩])
   .ret)))))))))
theorem chk.ref10_Seal : chkF Try.prog 70 = some (57, ir.ref10_Seal, [.tmp 2, .tmp 3]) := by kernel_rfl

/-- paravane/paravaneref10.index -/
abbrev F.ref10_index : Nat := 105
def ir.ref10_index : IC :=
 (.seq (.reg [⟨(some 3), .box, [.t 0], none⟩,
     ⟨(some 4), .box, [.t 1], none⟩,
     ⟨(some 5), .box, [.t 2], none⟩,
     ⟨(some 6), .mov, [.c (.int .i64 0)], none⟩])
   (.seq (.reg [⟨(some 7), .mov, [.c (.int .i64 0)], none⟩])
   (.seq (.seq (.reg [⟨(some 8), .mov, [.c (.int .i64 0)], none⟩])
   (.block 0 (.loop (.seq (.seq (.reg [⟨(some 9), .mov, [.t 8], none⟩,
     ⟨(some 10), .bin .lss, [.t 9, .c (.int .i64 3)], none⟩])
   (.cond (.t 10) .skip (.exit 0)))
   (.seq (.block 1 (.seq (.seq (.draw [0, 1, 3, 0, 8, 24, 63, 0, 128, 384, 896, 2047, 4095] [⟨(some 13), .mov, [.t 8], none⟩,
     ⟨(some 14), .iaddrA 3 1, [.t 5, .t 13], none⟩,
     ⟨(some 15), .load 1 false, [.t 14], none⟩,
     ⟨(some 16), .mov, [.t 8], none⟩,
     ⟨(some 17), .iaddrA 3 1, [.t 3, .t 16], none⟩,
     ⟨(some 18), .load 1 false, [.t 17], none⟩,
     ⟨(some 19), .bin .sub, [.t 15, .t 18], none⟩,
     ⟨(some 20), .mov, [.t 8], none⟩,
     ⟨(some 21), .iaddrA 3 1, [.t 4, .t 20], none⟩,
     ⟨(some 22), .load 1 false, [.t 21], none⟩,
     ⟨(some 23), .bin .sub, [.t 22, .c (.int .i64 1)], none⟩,
     ⟨(some 24), .call 51, [.t 19, .c (.int .i64 0), .t 23], none⟩,
     ⟨(some 25), .un .not, [.t 24], none⟩])
   (.cond (.t 25) (.seq (.reg [⟨(some 6), .mov, [.c (.int .i64 (-1))], none⟩])
   .ret) .skip))
   (.draw [0, 1, 3, 0, 15, 0, 32, 96, 255, 0, 512, 1536, 4095, 8191] [⟨(some 26), .mov, [.t 8], none⟩,
     ⟨(some 27), .iaddrA 3 1, [.t 4, .t 26], none⟩,
     ⟨(some 28), .load 1 false, [.t 27], none⟩,
     ⟨(some 29), .mov, [.t 7], none⟩,
     ⟨(some 30), .bin .mul, [.t 28, .t 29], none⟩,
     ⟨(some 31), .mov, [.t 8], none⟩,
     ⟨(some 32), .iaddrA 3 1, [.t 5, .t 31], none⟩,
     ⟨(some 33), .load 1 false, [.t 32], none⟩,
     ⟨(some 34), .bin .add, [.t 30, .t 33], none⟩,
     ⟨(some 35), .mov, [.t 8], none⟩,
     ⟨(some 36), .iaddrA 3 1, [.t 3, .t 35], none⟩,
     ⟨(some 37), .load 1 false, [.t 36], none⟩,
     ⟨(some 38), .bin .sub, [.t 34, .t 37], none⟩,
     ⟨(some 7), .mov, [.t 38], none⟩])))
   (.reg [⟨(some 11), .mov, [.t 8], none⟩,
     ⟨(some 12), .bin .add, [.t 11, .c (.int .i64 1)], none⟩,
     ⟨(some 8), .mov, [.t 12], none⟩]))))))
   (.seq (.reg [⟨(some 39), .mov, [.t 7], none⟩,
     ⟨(some 6), .mov, [.t 39], none⟩])
   .ret))))
theorem chk.ref10_index : chkF Try.prog 105 = some (40, ir.ref10_index, [.tmp 6]) := by kernel_rfl

/-- slices.Equal[[]paravane/api.Ref,paravane/api.Ref] -/
abbrev F.slices_Equal_api_Ref_api_Ref : Nat := 117
def ir.slices_Equal_api_Ref_api_Ref : IC :=
 (.seq (.reg [⟨(some 4), .mov, [.c (.bool false)], none⟩])
   (.seq (.seq (.reg [⟨(some 6), .mov, [.t 0], none⟩,
     ⟨(some 7), .len false, [.t 6], none⟩,
     ⟨(some 8), .mov, [.t 1], none⟩,
     ⟨(some 9), .len false, [.t 8], none⟩,
     ⟨(some 10), .bin .neq, [.t 7, .t 9], none⟩])
   (.cond (.t 10) (.seq (.reg [⟨(some 4), .mov, [.c (.bool false)], none⟩])
   .ret) .skip))
   (.seq (.seq (.reg [⟨(some 11), .mov, [.t 0], none⟩,
     ⟨(some 12), .len false, [.t 11], none⟩,
     ⟨(some 13), .mov, [.c (.int .i64 0)], none⟩])
   (.block 0 (.loop (.seq (.reg [⟨(some 14), .bin .lss, [.t 13, .t 12], none⟩])
   (.seq (.cond (.t 14) .skip (.exit 0))
   (.seq (.block 1 (.seq (.reg [⟨(some 15), .mov, [.t 13], none⟩,
     ⟨(some 5), .mov, [.t 15], none⟩])
   (.seq (.draw [0, 0, 3, 7, 0, 0, 48, 112, 255] [⟨(some 16), .mov, [.t 0], none⟩,
     ⟨(some 17), .mov, [.t 5], none⟩,
     ⟨(some 18), .iaddrS 2, [.t 16, .t 17], none⟩,
     ⟨(some 19), .load 2 true, [.t 18], none⟩,
     ⟨(some 20), .mov, [.t 1], none⟩,
     ⟨(some 21), .mov, [.t 5], none⟩,
     ⟨(some 22), .iaddrS 2, [.t 20, .t 21], none⟩,
     ⟨(some 23), .load 2 true, [.t 22], none⟩,
     ⟨(some 24), .eqs true [0, 0], [.t 19, .t 23], none⟩])
   (.cond (.t 24) (.seq (.reg [⟨(some 4), .mov, [.c (.bool false)], none⟩])
   .ret) .skip))))
   (.reg [⟨(some 25), .bin .add, [.t 13, .c (.int .i64 1)], none⟩,
     ⟨(some 13), .mov, [.t 25], none⟩])))))))
   (.seq (.reg [⟨(some 4), .mov, [.c (.bool true)], none⟩])
   .ret))))
theorem chk.slices_Equal_api_Ref_api_Ref : chkF Try.prog 117 = some (26, ir.slices_Equal_api_Ref_api_Ref, [.tmp 4]) := by kernel_rfl

end Go.Proofs.Ytkifejklnpddbaa

/-! A slice literal that is a frame's own; the law's echoes as the caller's own. -/
set_option linter.unusedVariables false
set_option linter.unusedSimpArgs false
namespace Go.Am
open Go.RowKit

section
variable {P : Program} {nt : Nat} {S : Sur} {log : List (List V)} {stp : Bool} {σ : FSt} {a : Act} {w : World} {h : Gh} {o : Oper}

theorem done_mkOwn {t e len sz d : Nat} {parts : Array (Nat × Operand)} {ie : TypeInfo} {z : Value} {vs us : List V} (R : Rel nt S log stp σ a w h) (hS : S.ok) (ho : o.op = .buildSlice t len parts) (ht : P.underlying t = some (.slice e)) (hi : P.info? e = some ie)
    (hz : ie.zero = some z) (hzs : z.cells.size = ie.size) (hsz : ie.size = sz) (hidx : parts.toList.map (·.1) = List.range len) (hv : Opds σ h w a (parts.toList.map (·.2)) vs) (hu : toDs σ.b vs = some (us, [])) (hd : σ.b d = none)
    (h0 : 0 < sz) (hall : us.all (fun u => (cells u).length.beq sz && (cells u).all scalar) = true) (hcap : us.length * sz ≤ 2 ^ 24) (hpos : 0 < us.length) {pre : Prop} {rb : List Nat} :
    Done P nt S log stp σ a w h o { pre := pre, v := .bsl d 0 sz us.length, wb := [(d, ⟨us.flatMap cells, false⟩)], rb := rb } := by
  subst hsz
  obtain ⟨q1, q2⟩ := hv.get
  obtain ⟨u1, u2⟩ := toDs_nil hu
  have hlen : us.length = len := by
    have := congrArg List.length hidx
    simp at this q1
    omega
  subst hlen
  rw [List.all_eq_true] at hall
  have hus : ∀ u ∈ us, (cells u).length = ie.size ∧ ∀ v ∈ cells u, scalar v = true := fun u hu => by
    have := hall u hu
    rw [Bool.and_eq_true, List.all_eq_true] at this
    exact ⟨by simpa using this.1, this.2⟩
  have rep : ∀ (i : Nat) u x, us[i]? = some u → ((parts.toList.map (·.2)).map a.eval)[i]? = some x → RepD w h.φ u x := fun i u x hui hxi => by
    have hlt : i < vs.length := by have := (List.getElem?_eq_some_iff.1 hui).1; omega
    rw [List.getElem?_map, Option.map_eq_some_iff] at hxi
    obtain ⟨p, hp, rfl⟩ := hxi
    exact (toD_rep R 6 _ u _ [] (u2 i _ u (List.getElem?_eq_getElem hlt) hui) (fun i hi => by cases hi) (q2 i _ p (List.getElem?_eq_getElem hlt) hp).1).1
  obtain ⟨xs, hxs⟩ : ∃ xs, xs = (parts.toList.map (·.2)).map a.eval := ⟨_, rfl⟩
  rw [← hxs] at rep
  have hxl : us.length = xs.length := by rw [hxs]; simp at q1 ⊢; omega
  obtain ⟨cs', g1, g2, g3, g4⟩ := fill_dense h0 us xs 0 ((Array.range (us.length * ie.size)).map (z.cells[· % z.cells.size]!)) hxl (fun i u x hui hxi => by rw [← (repD_cells (rep i u x hui hxi)).1]; exact (hus u (List.mem_of_getElem? hui)).1) (by simp; rw [← hxl]; exact Nat.le_refl _)
  have hzip : (parts.map fun (i, x) => (i, a.eval x)).toList = (List.range' 0 xs.length).zip xs := by
    rw [← zip_parts, hidx, ← hxs, ← hxl, List.range_eq_range']
  have hrun := run_buildSlice (P := P) w t e us.length (parts.map fun (i, x) => (i, a.eval x)) cs' ie z ht hi hz (by omega) (by have := Nat.mul_pos hpos h0; omega) (by rw [hzip]; exact g1)
  have flen := flat_len fun u hu => (hus u hu).1
  have R1 := R.newBox (e := e) (cs := cs') (zs := us.flatMap cells) hS hd (by rw [g2, flen]; simp) (fun j v x hv hx => by
      obtain ⟨i, u, k, h1, h2, h3⟩ := flat_split h0 (fun u hu => (hus u hu).1) j v hv
      have hlt : i < xs.length := by have := (List.getElem?_eq_some_iff.1 h1).1; omega
      obtain ⟨c1, c2⟩ := repD_cells (rep i u _ h1 (List.getElem?_eq_getElem hlt))
      have hk : k < xs[i].cells.size := by have := (List.getElem?_eq_some_iff.1 h2).1; omega
      have hz' := g4 i _ k _ (List.getElem?_eq_getElem hlt) (Array.getElem?_eq_getElem hk)
      rw [Nat.zero_add, ← h3, hx] at hz'
      cases hz'
      have r1 := c2 k v _ h2 (Array.getElem?_eq_getElem hk)
      exact ⟨.data r1, Grow.of_data r1, (hus u (List.mem_of_getElem? h1)).2 v (List.mem_of_getElem? h2)⟩)
  refine ⟨.slice (some ⟨w.heap.size, 0, none⟩) us.length us.length, _, _, .inl ?_, R1, ⟨.bsl d 0 _ us.length us.length w.heap.size (by simp) (Nat.le_refl _), fun j u zz hu hzz => ?_⟩, rfl⟩
  · simp only [execOp, ho, Sem.run_bind, hrun]; rfl
  · cases j with
    | zero => simp [cells] at hu; subst hu; intro r sz xs e; cases e
    | succ j => simp [cells] at hu

theorem opK_mkslice {os : List Operand} {sz e : Nat} (hk : opK P o.op = some (.mkslice sz e, os)) : ∃ t len parts ie z, o.op = .buildSlice t len parts ∧ P.underlying t = some (.slice e) ∧ P.info? e = some ie ∧ ie.zero = some z ∧ z.cells.size = ie.size ∧ ie.size = sz ∧ parts.toList.map (·.1) = List.range len ∧ os = parts.toList.map (·.2) := by
  cases ho : o.op <;> rw [ho] at hk <;> simp only [opK] at hk <;> (try (cases hk; done)) <;> (try (repeat' (split at hk <;> (try (cases hk; done)))))
  all_goals first
    | (simp only [Option.map_eq_some_iff, Prod.mk.injEq] at hk; obtain ⟨_, _, h1, _⟩ := hk; cases h1; done)
    | (rename_i hz hc; rw [hz] at hc; simp at hc; done)
    | (rename_i t len parts x5 e' ht x4 ie hi x3 z hz hc
       cases hk
       simp only [hz, Option.isSome_some, Bool.true_and, Bool.and_eq_true, beq_iff_eq] at hc
       exact ⟨t, len, parts, ie, z, rfl, ht, hi, hz, hc.1, rfl, hc.2, rfl⟩)
    | (exfalso; simp only [eqKind] at hk; repeat' (split at hk <;> (try (cases hk; done))))

end

section
variable {E : Env} {σ : FSt}

theorem does_mkOwn {d : Nat} {xs : List X} {sz e : Nat} {vs us : List V} (hx : xs.mapM (evX σ) = some vs) (hu : ∀ b, toDs b vs = some (us, [])) (hd : σ.b d = none) (h0 : 0 < sz) (hall : us.all (fun u => (cells u).length.beq sz && (cells u).all scalar) = true) (hcap : us.length * sz ≤ 2 ^ 24) (hpos : 0 < us.length) :
    Does E σ ⟨some d, .mkslice sz e, xs, none⟩ { v := .bsl d 0 sz us.length, wb := [(d, ⟨us.flatMap cells, false⟩)], rb := [d] } (xslots xs ++ [.bx d]) := by
  refine .sem fun τ hτ slots ops i o ro n log stp a w h hc hs hi R Q next hn => ?_
  have hd' : τ.b d = none := by rw [b_eq (hτ (.bx d) (by simp))]; exact hd
  have hx' : xs.mapM (evX τ) = some vs := evX_reads hx fun l hl => hτ l (by simp [hl])
  obtain ⟨os, cc⟩ := comp_of hc
  have hdf := opK_defer cc.op
  have hgo : o.guard = none := by
    rcases cc.guard with ⟨_, e⟩ | ⟨_, _, _, _, _, e⟩
    · exact e
    · cases e
  have hO := opds_of R.1 cc.xs hx'
  obtain ⟨t, len, parts, ie, z, ho, ht, hie, hz, hzs, hsz, hidx, rfl⟩ := opK_mkslice cc.op
  obtain ⟨x1, w', h', hr', R', ok, hy⟩ := done_mkOwn (d := d) (pre := True) (rb := [d]) R.1 E.ok ho ht hie hz hzs hsz hidx hO (hu τ.b) hd' h0 hall hcap hpos
  exact wpOp_done hi (wanted_none hgo) hdf hr' (hn _ _ h' (rel_after cc R R' ok hy) hy)

theorem Steps.mkOwn {s : St} {K : St → Prop} {d : Nat} {xs : List X} {sz e : Nat} {vs us : List V} {rest : List Ins} (hx : evXs s.env xs = some vs) (hu : ∀ b, toDs b vs = some (us, [])) (hd : get s.bx d = none) (h0 : 0 < sz) (hall : us.all (fun u => (cells u).length.beq sz && (cells u).all scalar) = true) (hcap : us.length * sz ≤ 2 ^ 24) (hpos : 0 < us.length)
    (hk : Steps E rest K ((s.setB d ⟨us.flatMap cells, false⟩).put (some d) (.bsl d 0 sz us.length))) : Steps E (⟨some d, .mkslice sz e, xs, none⟩ :: rest) K s :=
  Step1.does (ins := ⟨some d, .mkslice sz e, xs, none⟩) (does_mkOwn (evXs_ok hx) hu (by rw [fs_b]; exact hd) h0 hall hcap hpos) hk

end
end Go.Am

namespace Go.Proofs.Ytkifejklnpddbaa
open Go.Am
set_option maxRecDepth 20000
attribute [local simp] cells scalar mkv splice under2 under dem dem1

theorem c_echoesO : CO Try.prog F.law10_echoes [] 3 (exE.map eE) := by
  refine CO_of mixed chk.law10_echoes (by simp) fun S ok => ?_
  refine Tr.seqR rfl (by simp) (Tr.seqC rfl (by simp) ?_)
  refine Steps.call rfl rfl (c_sure (l := [0, 0, 5, 0]) (by simp)) (Steps.run rfl (by simp [sB]) ?_)
  refine Steps.call rfl rfl (c_sure (l := [0, 1, 2, 7]) (by simp)) (Steps.runN 1 rfl (by simp [sB]) ?_)
  refine Steps.mkOwn (us := exE.map eE) rfl (fun _ => rfl) rfl (by omega) rfl (by simp [exE]) (by simp [exE]) ?_
  refine Steps.fin rfl (by simp) (Tr.ret ?_)
  exact ⟨7, rfl, rfl, rfl⟩

end Go.Proofs.Ytkifejklnpddbaa

/-! Plain facts: values and enclosures as sums over what is near. -/
set_option linter.unusedVariables false
set_option linter.unusedSimpArgs false
set_option maxRecDepth 20000
namespace Go.Proofs.Ytkifejklnpddbaa
open Go.Am

theorem w_range (n : Int) : -9223372036854775808 ≤ w n ∧ w n < 9223372036854775808 := by
  have e : ∀ m : Int, m = n % 18446744073709551616 → -9223372036854775808 ≤ (if (true && decide (m ≥ 9223372036854775808)) = true then m - 18446744073709551616 else m) ∧ (if (true && decide (m ≥ 9223372036854775808)) = true then m - 18446744073709551616 else m) < 9223372036854775808 := by
    intro m hm
    by_cases h : m ≥ 9223372036854775808
    · simp only [h, decide_true, Bool.and_self, if_true]; omega
    · simp only [h, decide_false, Bool.and_false, Bool.false_eq_true, if_false]; omega
  exact e _ rfl

theorem w_w (n : Int) : w (w n) = w n := w64 (w_range n).1 (w_range n).2

/-- What the sample at a time is; nothing, if there is none. -/
def smp (s : List (Int × Int)) (z d slow : Int) : Int × Int := s.getD (timeN z d slow).toNat (0, 0)
def valC (h : Ear) (z : Int) (p : Int × Int) : Int × Int := smp (sAt h p.1) z p.2 h.slow.1

def nrm (a : Int × Int) : Prop := w a.1 = a.1 ∧ w a.2 = a.2
theorem nrm_plus (a b : Int × Int) : nrm (plusB a b) := ⟨w_w _, w_w _⟩
theorem nrm0 : nrm (0, 0) := ⟨w64 (by omega) (by omega), w64 (by omega) (by omega)⟩
theorem plus0 {a : Int × Int} (h : nrm a) : plusB a (0, 0) = a := by
  obtain ⟨x, y⟩ := a
  obtain ⟨h1, h2⟩ := h
  simp only at h1 h2
  simp only [plusB, Int.add_zero, h1, h2]

theorem fold_filter {α β : Type} (f : α → Option β) (g : β → Int × Int) : ∀ (L : List α) (acc : Int × Int), nrm acc →
    ((L.filterMap f).map g).foldl plusB acc = (L.map fun p => match f p with | some r => g r | none => (0, 0)).foldl plusB acc
  | [], acc, _ => rfl
  | p :: r, acc, h => by
    simp only [List.filterMap_cons, List.map_cons, List.foldl_cons]
    cases hf : f p with
    | none => simp only [plus0 h]; exact fold_filter f g r acc h
    | some q => simp only [List.map_cons, List.foldl_cons]; exact fold_filter f g r _ (nrm_plus _ _)

theorem map_congr' {α β : Type} {f g : α → β} {L : List α} (h : ∀ p ∈ L, f p = g p) : L.map f = L.map g := List.map_congr_left h

theorem value_sum (h : Ear) (x y z : Int) : valueB h x y z = ((nears h.aper x y h.l 0).map (valC h z)).foldl plusB (0, 0) := by
  unfold valueB namedL
  rw [fold_filter _ _ _ _ nrm0]
  congr 1
  refine map_congr' fun p hp => ?_
  obtain ⟨i, h1, h2⟩ := nears_mem hp
  have h1 : p.1 = (i : Int) := by simpa using h1
  have h0 := timeN_nn z p.2 h.slow.1
  have es : sAt h p.1 = h.l[i].s := by simp [sAt, h1, List.getElem?_eq_getElem h2]
  unfold refOf valC smp
  rw [es, h1]
  simp only [Int.toNat_natCast, List.getElem?_eq_getElem h2, Option.map_some, Option.getD_some]
  by_cases hc : timeN z p.2 h.slow.1 < (h.l[i].s.length : Int)
  · rw [if_pos hc]
    simp [boundAt, List.getElem?_eq_getElem h2, List.getD_eq_getElem?_getD]
  · rw [if_neg hc, List.getD_eq_getElem?_getD, List.getElem?_eq_none (by omega)]
    rfl

theorem reach_one (s : List (Int × Int)) (z d q : Int) : reachB s z d (q, q) = smp s z d q := by
  have h0 := timeN_nn z d q
  unfold reachB smp
  simp only
  obtain ⟨t, ht⟩ : ∃ t : Nat, timeN z d q = (t : Int) := ⟨_, (Int.toNat_of_nonneg h0).symm⟩
  rw [ht, Int.toNat_natCast]
  by_cases h1 : t < s.length
  · rw [reachG_drop h1, if_pos (Int.le_refl _), List.getD_eq_getElem?_getD, List.getElem?_eq_getElem h1]
    have e : decide ((t : Int) ≥ (s.length : Int)) = false := by simp; omega
    rw [e]
    simp only [stepB, Bool.false_eq_true, if_false, Option.getD_some]
    by_cases h2 : t + 1 < s.length
    · rw [reachG_drop h2, if_neg (by omega)]
    · rw [List.drop_eq_nil_of_le (by omega)]; rfl
  · rw [List.drop_eq_nil_of_le (by omega), List.getD_eq_getElem?_getD, List.getElem?_eq_none (by omega)]; rfl

/-- **ONE SLOWNESS**: the enclosure is the value. -/
theorem enc_one (l : List Echo) (aper q : Int) (p : Int × Int × Int) : encOf l aper (q, q) p = valOf l aper q p := by
  unfold encOf valOf encB
  rw [value_sum]
  congr 1
  refine map_congr' fun p _ => ?_
  exact reach_one _ _ _ _

/-! ### Bounds within bounds -/
def ins (a b : Int × Int) : Prop := b.1 ≤ a.1 ∧ a.2 ≤ b.2
def bdd (n : Int) (a : Int × Int) : Prop := (-n ≤ a.1 ∧ a.1 ≤ n) ∧ (-n ≤ a.2 ∧ a.2 ≤ n)

theorem fold_ins {α : Type} (f g : α → Int × Int) (L : List α) : ∀ (n : Int) (a b : Int × Int), 0 ≤ n → n + L.length ≤ 1000 → (∀ p ∈ L, bdd 16777216 (f p) ∧ bdd 16777216 (g p) ∧ ins (f p) (g p)) → bdd (n * 16777216) a → bdd (n * 16777216) b → ins a b →
    ins ((L.map f).foldl plusB a) ((L.map g).foldl plusB b) := by
  induction L with
  | nil => intro n a b _ _ _ _ _ h; exact h
  | cons p r ih =>
    intro n a b h0 hn hf ha hb h
    obtain ⟨h1, h2, h3⟩ := hf p (by simp)
    simp only [List.map_cons, List.foldl_cons]
    simp only [List.length_cons] at hn
    unfold bdd at ha hb h1 h2
    have e1 : plusB a (f p) = (a.1 + (f p).1, a.2 + (f p).2) := by
      unfold plusB; rw [show w (a.1 + (f p).1) = a.1 + (f p).1 from w64 (by omega) (by omega), show w (a.2 + (f p).2) = a.2 + (f p).2 from w64 (by omega) (by omega)]
    have e2 : plusB b (g p) = (b.1 + (g p).1, b.2 + (g p).2) := by
      unfold plusB; rw [show w (b.1 + (g p).1) = b.1 + (g p).1 from w64 (by omega) (by omega), show w (b.2 + (g p).2) = b.2 + (g p).2 from w64 (by omega) (by omega)]
    rw [e1, e2]
    unfold ins at h h3
    refine ih (n + 1) _ _ (by omega) (by omega) (fun q hq => hf q (List.mem_cons_of_mem _ hq)) ?_ ?_ ?_
    · unfold bdd; simp only; omega
    · unfold bdd; simp only; omega
    · unfold ins; simp only; omega

theorem fold_diag {α : Type} (f : α → Int × Int) : ∀ (L : List α) (a : Int × Int), (∀ p ∈ L, (f p).1 = (f p).2) → a.1 = a.2 → ((L.map f).foldl plusB a).1 = ((L.map f).foldl plusB a).2
  | [], a, _, h => h
  | p :: r, a, hf, h => by
    simp only [List.map_cons, List.foldl_cons]
    refine fold_diag f r _ (fun q hq => hf q (List.mem_cons_of_mem _ hq)) ?_
    simp only [plusB, h, hf p (by simp)]

theorem ins_refl (a : Int × Int) : ins a a := ⟨Int.le_refl _, Int.le_refl _⟩
theorem ins_trans {a b c : Int × Int} (h : ins a b) (k : ins b c) : ins a c := ⟨Int.le_trans k.1 h.1, Int.le_trans h.2 k.2⟩

theorem reachG_wide (to : Int) : ∀ (r : List (Int × Int)) (t : Nat) (out : Int × Int), ins out (reachG to r t true out)
  | [], t, out => ins_refl _
  | b :: r, t, out => by
    unfold reachG
    split
    · refine ins_trans ?_ (reachG_wide to r (t + 1) _)
      unfold ins stepB; simp only [if_true]; omega
    · exact ins_refl _

theorem reachG_has (to : Int) : ∀ (r : List (Int × Int)) (t : Nat) (is : Bool) (out : Int × Int) (j : Nat) (h : j < r.length), ((t + j : Nat) : Int) ≤ to → ins r[j] (reachG to r t is out)
  | [], t, is, out, j, h, _ => by simp at h
  | b :: r, t, is, out, j, h, hj => by
    unfold reachG
    rw [if_pos (by omega)]
    cases j with
    | zero =>
      refine ins_trans ?_ (reachG_wide to r (t + 1) _)
      unfold ins stepB
      cases is
      · simp
      · simp only [if_true, List.getElem_cons_zero]; omega
    | succ j =>
      rw [List.getElem_cons_succ]
      exact reachG_has to r (t + 1) true _ j (by simpa using h) (by rw [show t + 1 + j = t + (j + 1) by omega]; exact hj)

theorem reachG_bdd {n : Int} (to : Int) : ∀ (r : List (Int × Int)) (t : Nat) (is : Bool) (out : Int × Int), (∀ b ∈ r, bdd n b) → bdd n out → bdd n (reachG to r t is out)
  | [], t, is, out, _, h => h
  | b :: r, t, is, out, hr, h => by
    unfold reachG
    split
    · refine reachG_bdd to r (t + 1) true _ (fun b hb => hr b (List.mem_cons_of_mem _ hb)) ?_
      have hb := hr b (by simp)
      unfold stepB
      split
      · unfold bdd at h hb ⊢; simp only; omega
      · exact hb
    · exact h

/-- A time between the least and the greatest one: the sample lies in what may be reached. -/
theorem smp_reach (s : List (Int × Int)) (z d q : Int) (sl : Int × Int) (h1 : timeN z d sl.1 ≤ timeN z d q) (h2 : timeN z d q ≤ timeN z d sl.2) : ins (smp s z d q) (reachB s z d sl) := by
  have h0 := timeN_nn z d sl.1
  unfold smp reachB
  by_cases h : (timeN z d q).toNat < s.length
  · rw [List.getD_eq_getElem?_getD, List.getElem?_eq_getElem h]
    have hj : (timeN z d q).toNat - (timeN z d sl.1).toNat < (s.drop (timeN z d sl.1).toNat).length := by rw [List.length_drop]; omega
    have := reachG_has (timeN z d sl.2) (s.drop (timeN z d sl.1).toNat) (timeN z d sl.1).toNat (decide (timeN z d sl.2 ≥ s.length)) (0, 0) _ hj (by omega)
    rw [List.getElem_drop] at this
    simpa [show (timeN z d sl.1).toNat + ((timeN z d q).toNat - (timeN z d sl.1).toNat) = (timeN z d q).toNat by omega] using this
  · rw [List.getD_eq_getElem?_getD, List.getElem?_eq_none (by omega)]
    have e : decide (timeN z d sl.2 ≥ (s.length : Int)) = true := by simp; omega
    rw [e]
    exact reachG_wide _ _ _ _

theorem isq_mono {a b : Int} (h0 : 0 ≤ a) (h : a ≤ b) (h1 : b ≤ 1099511627776) : isq a ≤ isq b := by
  obtain ⟨a0, a1, a2⟩ := isq_spec h0 (by omega)
  obtain ⟨b0, b1, b2⟩ := isq_spec (n := b) (by omega) h1
  have := sq_lt a0 (b := isq b + 1) (by omega) (by omega)
  omega

theorem timeN_mono {z d s t : Int} (hz : 0 ≤ z ∧ z ≤ 64) (hd : 0 ≤ d ∧ d ≤ 100000) (hs : 0 ≤ s) (h : s ≤ t) (ht : t ≤ 4096) : timeN z d s ≤ timeN z d t := by
  have m0 : 0 ≤ z * z ∧ z * z ≤ 64 * 64 := ⟨Int.mul_nonneg hz.1 hz.1, Int.mul_le_mul hz.2 hz.2 hz.1 (by omega)⟩
  have m1 : 0 ≤ s * d ∧ s * d ≤ 4096 * 100000 := ⟨Int.mul_nonneg hs hd.1, Int.mul_le_mul (by omega) hd.2 hd.1 (by omega)⟩
  have m2 : 0 ≤ t * d ∧ t * d ≤ 4096 * 100000 := ⟨Int.mul_nonneg (by omega) hd.1, Int.mul_le_mul (by omega) hd.2 hd.1 (by omega)⟩
  have m3 : s * d ≤ t * d := Int.mul_le_mul_of_nonneg_right h hd.1
  have q1 : (s * d).tdiv 64 = s * d / 64 := Int.tdiv_eq_ediv_of_nonneg m1.1
  have q2 : (t * d).tdiv 64 = t * d / 64 := Int.tdiv_eq_ediv_of_nonneg m2.1
  have e1 : IntKind.wrap .i64 (IntKind.wrap .i64 (z * z) + IntKind.wrap .i64 ((IntKind.wrap .i64 (s * d)).tdiv 64)) = z * z + s * d / 64 := by
    rw [w64 (n := z * z) (by omega) (by omega), w64 (n := s * d) (by omega) (by omega), q1, w64 (n := s * d / 64) (by omega) (by omega), w64 (by omega) (by omega)]
  have e2 : IntKind.wrap .i64 (IntKind.wrap .i64 (z * z) + IntKind.wrap .i64 ((IntKind.wrap .i64 (t * d)).tdiv 64)) = z * z + t * d / 64 := by
    rw [w64 (n := z * z) (by omega) (by omega), w64 (n := t * d) (by omega) (by omega), q2, w64 (n := t * d / 64) (by omega) (by omega), w64 (by omega) (by omega)]
  unfold timeN
  rw [e1, e2]
  unfold rootN
  rw [if_pos (by simp [btw]; omega), if_pos (by simp [btw]; omega)]
  exact isq_mono (by omega) (by omega) (by omega)

/-- Distances of echoes. -/
theorem dst_bd {x y : Int} {e : Echo} (hx : -64 ≤ x ∧ x ≤ 64) (hy : -64 ≤ y ∧ y ≤ 64) (he : (-64 ≤ e.x ∧ e.x ≤ 64) ∧ (-64 ≤ e.y ∧ e.y ≤ 64)) : dst x y e = (x - e.x) * (x - e.x) + (y - e.y) * (y - e.y) ∧ 0 ≤ dst x y e ∧ dst x y e ≤ 32768 := by
  have sq : ∀ a : Int, -128 ≤ a → a ≤ 128 → 0 ≤ a * a ∧ a * a ≤ 16384 := fun a h1 h2 => by
    rcases Int.le_total 0 a with h | h
    · exact ⟨Int.mul_nonneg h h, Int.mul_le_mul h2 h2 h (by omega)⟩
    · have e : a * a = (-a) * (-a) := by rw [Int.neg_mul_neg]
      rw [e]
      exact ⟨Int.mul_nonneg (by omega) (by omega), Int.mul_le_mul (c := 128) (d := 128) (by omega) (by omega) (by omega) (by omega)⟩
  have a1 := sq (x - e.x) (by omega) (by omega)
  have a2 := sq (y - e.y) (by omega) (by omega)
  have e1 : dst x y e = (x - e.x) * (x - e.x) + (y - e.y) * (y - e.y) := by
    unfold dst
    rw [show w (x - e.x) = x - e.x from w64 (by omega) (by omega), show w (y - e.y) = y - e.y from w64 (by omega) (by omega), show w ((x - e.x) * (x - e.x)) = _ from w64 (by omega) (by omega), show w ((y - e.y) * (y - e.y)) = _ from w64 (by omega) (by omega)]
    exact w64 (by omega) (by omega)
  omega

theorem nears_dst {aper x y : Int} : ∀ {l : List Echo} {k : Nat} {p : Int × Int}, p ∈ nears aper x y l k → ∃ i : Nat, ∃ h : i < l.length, p.1 = ((k + i : Nat) : Int) ∧ p.2 = dst x y l[i] ∧ hears aper x y l[i] = true
  | [], k, p, h => by simp [nears] at h
  | e :: r, k, p, h => by
    simp only [nears] at h
    have rest : p ∈ nears aper x y r (k + 1) → ∃ i : Nat, ∃ h : i < (e :: r).length, p.1 = ((k + i : Nat) : Int) ∧ p.2 = dst x y (e :: r)[i] ∧ hears aper x y (e :: r)[i] = true := fun h => by
      obtain ⟨i, h1, h2, h3, h4⟩ := nears_dst h
      exact ⟨i + 1, by simpa using h1, by rw [h2]; congr 1; omega, by simpa using h3, by simpa using h4⟩
    split at h
    · rename_i hh
      rcases List.mem_cons.1 h with rfl | h
      · exact ⟨0, by simp, by simp, rfl, hh⟩
      · exact rest h
    · exact rest h

theorem echoOk_spec {e : Echo} (h : echoOk e = true) : ((-64 ≤ e.x ∧ e.x ≤ 64) ∧ (-64 ≤ e.y ∧ e.y ≤ 64)) ∧ (1 ≤ e.s.length ∧ e.s.length ≤ 64) ∧ ∀ b ∈ e.s, -16777216 ≤ b.1 ∧ b.1 ≤ b.2 ∧ b.2 ≤ 16777216 := by
  simp only [echoOk, btw, Bool.and_eq_true, decide_eq_true_eq, List.all_eq_true, loud] at h
  obtain ⟨⟨⟨h1, h2⟩, h3⟩, h4⟩ := h
  exact ⟨by omega, by omega, fun b hb => by have := h4 b hb; omega⟩

theorem echoesOk_spec {l : List Echo} (h : echoesOk l = true) : l.length ≤ 32 ∧ ∀ e ∈ l, echoOk e = true := by
  simp only [echoesOk, Bool.and_eq_true, decide_eq_true_eq, List.all_eq_true] at h
  exact h

end Go.Proofs.Ytkifejklnpddbaa

/-! Plain facts: the places of a box by their indices; joins both ways; parts of a volume. -/
set_option linter.unusedVariables false
set_option linter.unusedSimpArgs false
set_option maxRecDepth 20000
namespace Go.Proofs.Ytkifejklnpddbaa
open Go.Am

theorem btw_iff (n lo hi : Int) : btw n lo hi = true ↔ lo ≤ n ∧ n ≤ hi := by
  simp only [btw, Bool.and_eq_true, decide_eq_true_eq, ge_iff_le]

def cidx (b : Bx) (p : Int × Int × Int) : Int := idxOf b p.1 p.2.1 p.2.2
def natI (k : Nat) : Int := (k : Int)

theorem idx_at (b : Bx) (x y z B C : Nat) (hB : b.b = (B : Int)) (hC : b.c = (C : Int)) : idxOf b (b.x + (x : Int)) (b.y + (y : Int)) (b.z + (z : Int)) = (((x * B + y) * C + z : Nat) : Int) := by
  unfold idxOf
  rw [hB, hC, show b.x + (x : Int) - b.x = (x : Int) by omega, show (x : Int) * (B : Int) + (b.y + (y : Int)) - b.y = (x : Int) * (B : Int) + (y : Int) by omega]
  push_cast
  omega

theorem zs_idx (b : Bx) (x y B C : Nat) (hB : b.b = (B : Int)) (hC : b.c = (C : Int)) : ∀ n, (zsC b x y n).map (cidx b) = (List.range' ((x * B + y) * C) n).map natI
  | 0 => by simp [zsC]
  | n + 1 => by
    rw [zsC_succ, List.range'_1_concat, List.map_append, List.map_append, zs_idx b x y B C hB hC n]
    congr 1
    simp only [List.map_cons, List.map_nil, cidx, idx_at b x y n B C hB hC, natI]

theorem ys_idx (b : Bx) (x B C : Nat) (hB : b.b = (B : Int)) (hC : b.c = (C : Int)) : ∀ n, (ysC b x n).map (cidx b) = (List.range' (x * B * C) (n * C)).map natI
  | 0 => by simp [ysC]
  | n + 1 => by
    have e0 : b.c.toNat = C := by omega
    have e : List.range' (x * B * C) ((n + 1) * C) = List.range' (x * B * C) (n * C) ++ List.range' ((x * B + n) * C) C := by
      rw [show (x * B + n) * C = x * B * C + n * C by rw [Nat.add_mul], List.range'_append_1, Nat.succ_mul]
    rw [ysC_succ, List.map_append, ys_idx b x B C hB hC n, e0, zs_idx b x n B C hB hC, e, List.map_append]

theorem xs_idx (b : Bx) (B C : Nat) (hB : b.b = (B : Int)) (hC : b.c = (C : Int)) : ∀ n, (xsC b n).map (cidx b) = (List.range' 0 (n * (B * C))).map natI
  | 0 => by simp [xsC]
  | n + 1 => by
    have e0 : b.b.toNat = B := by omega
    have e : List.range' 0 ((n + 1) * (B * C)) = List.range' 0 (n * (B * C)) ++ List.range' (n * B * C) (B * C) := by
      rw [show n * B * C = 0 + n * (B * C) by rw [Nat.zero_add, Nat.mul_assoc], List.range'_append_1, Nat.succ_mul]
    rw [xsC_succ, List.map_append, xs_idx b B C hB hC n, e0, ys_idx b n B C hB hC, e, List.map_append]

theorem cells_idx (b : Bx) (h : 0 ≤ b.b ∧ 0 ≤ b.c) : (boxCells b).map (cidx b) = (List.range (boxCells b).length).map natI := by
  have e := xs_idx b b.b.toNat b.c.toNat (Int.toNat_of_nonneg h.1).symm (Int.toNat_of_nonneg h.2).symm b.a.toNat
  have hl : (boxCells b).length = b.a.toNat * (b.b.toNat * b.c.toNat) := xsC_len b _
  rw [hl, List.range_eq_range']
  exact e

theorem cell_idx {b : Bx} (h : 0 ≤ b.b ∧ 0 ≤ b.c) {i : Nat} (hi : i < (boxCells b).length) : cidx b (boxCells b)[i] = (i : Int) := by
  have e := congrArg (fun l => l[i]?) (cells_idx b h)
  simp only [List.getElem?_map, List.getElem?_eq_getElem hi, Option.map_some] at e
  rw [List.getElem?_range hi] at e
  simpa [natI] using e

theorem mem_box {b : Bx} {p : Int × Int × Int} : p ∈ boxCells b ↔ hasP b p = true := by
  obtain ⟨x, y, z⟩ := p
  simp only [boxCells, xsC, ysC, zsC, List.mem_flatMap, List.mem_map, List.mem_range, hasP, hasB, btw, Bool.and_eq_true, decide_eq_true_eq, Prod.mk.injEq]
  constructor
  · rintro ⟨i, hi, j, hj, k, hk, h1, h2, h3⟩; omega
  · rintro ⟨⟨⟨h1, h2⟩, h3, h4⟩, h5, h6⟩
    exact ⟨(x - b.x).toNat, by omega, (y - b.y).toNat, by omega, (z - b.z).toNat, by omega, by omega, by omega, by omega⟩

theorem vol_cells {v : Vol} (h : volOk v = true) : (boxCells v.b).map (atV v) = v.v := by
  obtain ⟨hb, hl, _⟩ := volOk_spec h
  have hs := small_spec (boxOk_spec hb).1
  have hlen : (boxCells v.b).length = v.v.length := by
    have := boxCells_len' v.b (by omega)
    unfold manyI at hl; omega
  refine List.ext_getElem (by simpa using hlen) fun i h1 h2 => ?_
  have hi : i < (boxCells v.b).length := by simpa using h1
  rw [List.getElem_map]
  exact atV_eq (cell_idx (by omega) hi) h2

theorem atV_made {u : Bx} (h : 0 ≤ u.b ∧ 0 ≤ u.c) {f : Int × Int × Int → Int} {p : Int × Int × Int} (hp : p ∈ boxCells u) : atV ⟨u, (boxCells u).map f⟩ p = f p := by
  obtain ⟨i, hi, rfl⟩ := List.mem_iff_getElem.1 hp
  have e : idxOf u (boxCells u)[i].1 (boxCells u)[i].2.1 (boxCells u)[i].2.2 = (i : Int) := cell_idx h hi
  unfold atV
  rw [e, Int.toNat_natCast, List.getD_eq_getElem?_getD, List.getElem?_map, List.getElem?_eq_getElem hi]
  rfl

/-! ### Joins -/
def joined (a b : Vol) : Vol := ⟨aroundB a.b b.b, (boxCells (aroundB a.b b.b)).map (pickV a b)⟩
structure joinOk (a b : Vol) : Prop where
  oka : volOk a = true
  okb : volOk b = true
  many : manyI (aroundB a.b b.b) = manyI a.b + manyI b.b - commonI a.b b.b
  small : smallB (aroundB a.b b.b) = true
  same : (boxCells (aroundB a.b b.b)).any (clash a b) = false

theorem join_cases (nl : V) (a b : Vol) : (joinOk a b ∧ joinR nl a b = .tuple [.agg (volC (joined a b)), I 0]) ∨ (¬ joinOk a b ∧ ∃ e, e ≠ 0 ∧ joinR nl a b = errVol nl e) := by
  unfold joinR
  by_cases h1 : volOk a = true
  · by_cases h2 : volOk b = true
    · by_cases h3 : manyI (aroundB a.b b.b) = manyI a.b + manyI b.b - commonI a.b b.b
      · by_cases h4 : smallB (aroundB a.b b.b) = true
        · by_cases h5 : (boxCells (aroundB a.b b.b)).any (clash a b) = true
          · exact .inr ⟨fun h => (by rw [h.same] at h5; cases h5), 104, by omega, by rw [if_pos h1, if_pos h2, if_pos h3, if_pos h4, if_pos h5]⟩
          · exact .inl ⟨⟨h1, h2, h3, h4, by simpa using h5⟩, by rw [if_pos h1, if_pos h2, if_pos h3, if_pos h4, if_neg h5]; rfl⟩
        · exact .inr ⟨fun h => h4 h.small, 3, by omega, by rw [if_pos h1, if_pos h2, if_pos h3, if_neg h4]⟩
      · exact .inr ⟨fun h => h3 h.many, 103, by omega, by rw [if_pos h1, if_pos h2, if_neg h3]⟩
    · exact .inr ⟨fun h => h2 h.okb, 101, by omega, by rw [if_pos h1, if_neg h2]⟩
  · exact .inr ⟨fun h => h1 h.oka, 101, by omega, by rw [if_neg h1]⟩

theorem around_comm (a b : Bx) : aroundB a b = aroundB b a := by
  unfold aroundB
  congr 1 <;> omega

theorem cut1_comm (p q x y : Int) : cut1 p q x y = cut1 q p y x := by unfold cut1; omega

theorem common_comm (a b : Bx) : commonI a b = commonI b a := by
  unfold commonI
  rw [cut1_comm (a.x + a.a - 1), cut1_comm (a.y + a.b - 1), cut1_comm (a.z + a.c - 1)]

theorem clash_comm (a b : Vol) (p : Int × Int × Int) : clash a b p = clash b a p := by
  unfold clash
  have e : (atV a p != atV b p) = (atV b p != atV a p) := bne_comm
  rw [Bool.and_comm (hasP a.b p), e]

theorem joinOk.comm {a b : Vol} (h : joinOk a b) : joinOk b a := by
  refine ⟨h.okb, h.oka, ?_, by rw [around_comm]; exact h.small, ?_⟩
  · rw [around_comm, common_comm, h.many]; omega
  · rw [around_comm, ← h.same]
    congr 1
    funext p; exact clash_comm b a p

theorem joinOk.cov {a b : Vol} (h : joinOk a b) : ∀ p ∈ boxCells (aroundB a.b b.b), hasP a.b p = true ∨ hasP b.b p = true := by
  have ga := small_spec (boxOk_spec (volOk_spec h.oka).1).1
  have gb := small_spec (boxOk_spec (volOk_spec h.okb).1).1
  exact cover (by omega) (by omega) h.many

theorem pick_a {a b : Vol} {p : Int × Int × Int} (hp : hasP a.b p = true) : pickV a b p = atV a p := by
  unfold pickV; rw [if_pos hp]

theorem joinOk.pick_b {a b : Vol} (h : joinOk a b) {p : Int × Int × Int} (hu : p ∈ boxCells (aroundB a.b b.b)) (hp : hasP b.b p = true) : pickV a b p = atV b p := by
  unfold pickV
  by_cases ha : hasP a.b p = true
  · rw [if_pos ha]
    have h1 := List.any_eq_false.1 h.same p hu
    simp only [clash, ha, hp, Bool.and_self, Bool.true_and] at h1
    simpa using h1
  · rw [if_neg ha]

theorem joined_comm {a b : Vol} (h : joinOk a b) : joined a b = joined b a := by
  unfold joined
  rw [around_comm b.b a.b]
  congr 1
  refine List.map_congr_left fun p hp => ?_
  rcases h.cov p hp with h1 | h1
  · rw [pick_a h1]
    have := h.comm.pick_b (p := p) (by rw [around_comm]; exact hp) h1
    rw [this]
  · rw [h.pick_b hp h1, pick_a h1]

theorem atV_bd {v : Vol} (h : volOk v = true) (p : Int × Int × Int) : -1099511627776 ≤ atV v p ∧ atV v p ≤ 1099511627776 := by
  obtain ⟨_, _, hv⟩ := volOk_spec h
  unfold atV
  rw [List.getD_eq_getElem?_getD]
  by_cases hi : (idxOf v.b p.1 p.2.1 p.2.2).toNat < v.v.length
  · rw [List.getElem?_eq_getElem hi]; exact hv _ (List.getElem_mem hi)
  · rw [List.getElem?_eq_none (by omega)]; simp

theorem volOk_made {u : Bx} {f : Int × Int × Int → Int} (hu : boxOk u = true) (hf : ∀ p ∈ boxCells u, -1099511627776 ≤ f p ∧ f p ≤ 1099511627776) : volOk ⟨u, (boxCells u).map f⟩ = true := by
  have hs := small_spec (boxOk_spec hu).1
  have hl := boxCells_len' u (by omega)
  simp only [volOk, hu, Bool.true_and, Bool.and_eq_true, decide_eq_true_eq, List.all_eq_true, List.length_map, btw]
  refine ⟨hl, fun n hn => ?_⟩
  obtain ⟨p, hp, rfl⟩ := List.mem_map.1 hn
  exact hf p hp

theorem around_ok {a b : Bx} (ha : boxOk a = true) (hb : boxOk b = true) (hs : smallB (aroundB a b) = true) : boxOk (aroundB a b) = true := by
  have g := small_spec hs
  simp only [boxOk, Bool.and_eq_true, cellOk, btw, decide_eq_true_eq] at ha hb ⊢
  refine ⟨⟨hs, ?_⟩, ?_⟩ <;> simp only [aroundB] <;> omega

theorem joined_ok {a b : Vol} (h : joinOk a b) : volOk (joined a b) = true := by
  refine volOk_made (around_ok (volOk_spec h.oka).1 (volOk_spec h.okb).1 h.small) fun p _ => ?_
  unfold pickV
  split
  · exact atV_bd h.oka p
  · exact atV_bd h.okb p

/-! ### Parts -/
def lastP (b : Bx) : Int × Int × Int := (b.x + b.a - 1, b.y + b.b - 1, b.z + b.c - 1)
def cutOk (v : Vol) (b : Bx) : Bool := boxOk b && hasP v.b (b.x, b.y, b.z) && hasP v.b (lastP b)
def part (v : Vol) (b : Bx) : Vol := ⟨b, (boxCells b).map (atV v)⟩
def cutR (nl : V) (v : Vol) (b : Bx) : V := if volOk v then (if cutOk v b then .tuple [.agg (volC (part v b)), I 0] else errVol nl 102) else errVol nl 101

theorem cut_in {v : Vol} {b : Bx} (h : cutOk v b = true) {p : Int × Int × Int} (hp : p ∈ boxCells b) : p ∈ boxCells v.b := by
  rw [mem_box] at hp ⊢
  have h2 : hasB v.b (b.x + b.a - 1) (b.y + b.b - 1) (b.z + b.c - 1) = true := by simp only [cutOk, Bool.and_eq_true] at h; exact h.2
  have h1 : hasB v.b b.x b.y b.z = true := by simp only [cutOk, Bool.and_eq_true] at h; exact h.1.2
  have hp : hasB b p.1 p.2.1 p.2.2 = true := hp
  show hasB v.b p.1 p.2.1 p.2.2 = true
  simp only [hasB, Bool.and_eq_true, btw, decide_eq_true_eq] at h1 h2 hp ⊢
  omega

theorem cut_a {a b : Vol} (h : joinOk a b) : cutOk (joined a b) a.b = true ∧ part (joined a b) a.b = a := by
  have hba := (volOk_spec h.oka).1
  have g := small_spec (boxOk_spec hba).1
  have gu := small_spec h.small
  have hc : cutOk (joined a b) a.b = true := by
    have e1 : hasB (aroundB a.b b.b) a.b.x a.b.y a.b.z = true := by simp only [hasB, Bool.and_eq_true, btw_iff, aroundB]; omega
    have e2 : hasB (aroundB a.b b.b) (a.b.x + a.b.a - 1) (a.b.y + a.b.b - 1) (a.b.z + a.b.c - 1) = true := by simp only [hasB, Bool.and_eq_true, btw_iff, aroundB]; omega
    unfold cutOk
    rw [hba, Bool.true_and, Bool.and_eq_true]
    exact ⟨e1, e2⟩
  refine ⟨hc, ?_⟩
  unfold part
  have e : (boxCells a.b).map (atV (joined a b)) = a.v := by
    rw [← vol_cells h.oka]
    refine List.map_congr_left fun p hp => ?_
    rw [show atV (joined a b) p = pickV a b p from atV_made (u := aroundB a.b b.b) (f := pickV a b) (by omega) (cut_in hc hp), pick_a (mem_box.1 hp)]
  rw [e]

theorem cut_b {a b : Vol} (h : joinOk a b) : cutOk (joined a b) b.b = true ∧ part (joined a b) b.b = b := by
  rw [joined_comm h]; exact cut_a h.comm

end Go.Proofs.Ytkifejklnpddbaa

/-! Contracts: numbers chosen around; samples chosen within bounds; images within images. -/
set_option linter.unusedVariables false
set_option linter.unusedSimpArgs false
set_option maxRecDepth 20000
set_option maxHeartbeats 1000000
namespace Go.Proofs.Ytkifejklnpddbaa
open Go.Am
attribute [local simp] cells scalar mkv splice under2 under dem dem1 eB

def restI (n m : Int) : Int := if m < 1 then 0 else n % m

theorem rest_tmod {n m : Int} (hm : 1 ≤ m) : (n.tmod m < 0 → n.tmod m + m = n % m) ∧ (¬ n.tmod m < 0 → n.tmod m = n % m) := by
  have h1 := Int.emod_nonneg n (show m ≠ 0 by omega)
  have h2 := Int.emod_lt_of_pos n (show 0 < m by omega)
  have h3 := Int.tmod_eq_emod (a := n) (b := m)
  split at h3
  · omega
  · have : (m.natAbs : Int) = m := by omega
    omega

theorem restI_bd {n m : Int} (hm : 1 ≤ m) : 0 ≤ restI n m ∧ restI n m < m := by
  unfold restI
  rw [if_neg (by omega)]
  exact ⟨Int.emod_nonneg n (by omega), Int.emod_lt_of_pos n (by omega)⟩

theorem c_Rest (n m : Int) (hm : m ≤ 9223372036854775807) : C Try.prog F.ref00_Rest [I n, I m] (I (restI n m)) := by
  refine C_of mixed chk.ref00_Rest (by simp) fun S ok => ?_
  refine Tr.seqR rfl (by simp) (Tr.seq (Tr.seqR rfl (by simp) (Tr.cond rfl rfl (fun h1 => Tr.seqR rfl (by simp) (Tr.retX rfl rfl rfl ?_ trivial)) (fun h1 => Tr.skip ?_))))
  · have h1 : m < 1 := by simpa using h1
    simp [packR, restI, h1]
  have h1 : ¬ m < 1 := by simpa using h1
  have hr := restI_bd (n := n) (m := m) (by omega)
  obtain ⟨k1, k2⟩ := rest_tmod (n := n) (m := m) (by omega)
  have e : restI n m = n % m := by unfold restI; rw [if_neg h1]
  refine Tr.seqR rfl (by simp; omega) (Tr.seq (Tr.seqR rfl (by simp) (Tr.cond rfl rfl (fun h2 => Tr.regR rfl (by simp) ?_) (fun h2 => Tr.skip ?_))))
  · have h2 : n.tmod m < 0 := by simpa using h2
    refine Tr.seqR rfl (by simp) (Tr.retX rfl rfl rfl ?_ trivial)
    show I (restI n m) = I (IntKind.i64.wrap (n.tmod m + m))
    rw [e, k1 h2, w64 (by omega) (by omega)]
  · have h2 : ¬ n.tmod m < 0 := by simpa using h2
    refine Tr.seqR rfl (by simp) (Tr.retX rfl rfl rfl ?_ trivial)
    show I (restI n m) = I (n.tmod m)
    rw [e, k2 h2]

def pickI (l : List Int) (i : Int) : Int := l.getD (restI i l.length).toNat 0

theorem c_Pick (l : List Int) (i : Int) (hl : l.length ≤ 9223372036854775807) : C Try.prog F.ref00_Pick [intsV l, I i] (I (pickI l i)) := by
  refine C_of mixed chk.ref00_Pick (by simp) fun S ok => ?_
  refine Tr.seqR rfl (by simp) (Tr.seq (Tr.seqR rfl (by simp [intsV]) (Tr.cond rfl rfl (fun h1 => Tr.seqR rfl (by simp) (Tr.retX rfl rfl rfl ?_ trivial)) (fun h1 => Tr.skip ?_))))
  · have h1 : l = [] := by simpa using h1
    subst h1; rfl
  have h1 : l ≠ [] := by simpa using h1
  have h0 : 0 < l.length := List.length_pos_iff.2 h1
  have hb := restI_bd (n := i) (m := l.length) (by omega)
  obtain ⟨q, hq⟩ : ∃ q : Nat, restI i l.length = (q : Int) := ⟨(restI i l.length).toNat, by omega⟩
  have hql : q < l.length := by omega
  have hc : C Try.prog F.ref00_Rest [I i, I ((l.map I).length : Int)] (I (q : Int)) := by
    rw [List.length_map]; exact hq ▸ c_Rest i l.length (by omega)
  refine Tr.seqC rfl (by simp [intsV]) (Steps.call rfl rfl hc (Steps.runN 1 rfl (by simp [intsV]; omega) ?_))
  rw [getD_map hql]
  refine Steps.fin rfl (by simp) (Tr.retX rfl rfl rfl ?_ trivial)
  simp [packR, pickI, hq, List.getElem?_eq_getElem hql]

/-! ### Samples within their bounds -/
def chN (bits : List Int) (i k : Nat) (b : Int × Int) : Int := b.1 + restI (pickI bits (7 * (i : Int) + (k : Int))) (b.2 - b.1 + 1)
def chS (bits : List Int) (i : Nat) : List (Int × Int) → Nat → List (Int × Int)
  | [], _ => []
  | b :: r, k => (chN bits i k b, chN bits i k b) :: chS bits i r (k + 1)
def chL (bits : List Int) : List Echo → Nat → List Echo
  | [], _ => []
  | e :: r, i => ⟨e.x, e.y, chS bits i e.s 0⟩ :: chL bits r (i + 1)

theorem chS_get (bits : List Int) (i : Nat) : ∀ (s : List (Int × Int)) (k0 k : Nat), (chS bits i s k0)[k]? = (s[k]?).map fun b => (chN bits i (k0 + k) b, chN bits i (k0 + k) b)
  | [], k0, k => by simp [chS]
  | b :: r, k0, k => by
    cases k with
    | zero => simp [chS]
    | succ k =>
      simp only [chS, List.getElem?_cons_succ, chS_get bits i r (k0 + 1) k]
      rw [show k0 + 1 + k = k0 + (k + 1) by omega]

theorem chS_len (bits : List Int) (i : Nat) : ∀ (s : List (Int × Int)) (k : Nat), (chS bits i s k).length = s.length
  | [], k => rfl
  | b :: r, k => by simp [chS, chS_len bits i r (k + 1)]

theorem chL_get (bits : List Int) : ∀ (l : List Echo) (i0 i : Nat), (chL bits l i0)[i]? = (l[i]?).map fun e => ⟨e.x, e.y, chS bits (i0 + i) e.s 0⟩
  | [], i0, i => by simp [chL]
  | e :: r, i0, i => by
    cases i with
    | zero => simp [chL]
    | succ i =>
      simp only [chL, List.getElem?_cons_succ, chL_get bits r (i0 + 1) i]
      rw [show i0 + 1 + i = i0 + (i + 1) by omega]

theorem chL_len (bits : List Int) : ∀ (l : List Echo) (i : Nat), (chL bits l i).length = l.length
  | [], i => rfl
  | e :: r, i => by simp [chL, chL_len bits r (i + 1)]

theorem chN_bd {bits : List Int} {i k : Nat} {b : Int × Int} (h : b.1 ≤ b.2) : b.1 ≤ chN bits i k b ∧ chN bits i k b ≤ b.2 := by
  have := restI_bd (n := pickI bits (7 * (i : Int) + (k : Int))) (m := b.2 - b.1 + 1) (by omega)
  unfold chN; omega

theorem take_succ_of {α : Type} {l : List α} {k : Nat} {x : α} (h : l[k]? = some x) : l.take (k + 1) = l.take k ++ [x] := by
  rw [List.take_add_one, h]; rfl

theorem c_chosen {l : List Echo} (hE : echoesOk l = true) (bits : List Int) (hb : bits.length ≤ 9223372036854775807) : C Try.prog F.law10_chosen [sE l, intsV bits] (sE (chL bits l 0)) := by
  obtain ⟨hl, hall⟩ := echoesOk_spec hE
  refine C_of mixed chk.law10_chosen (by simp) fun S ok => ?_
  refine Tr.seqR rfl (by simp) (Tr.seqR rfl (by simp) (Tr.seq (Tr.seqR rfl (by simp) (Tr.block ?_))))
  refine Tr.loop (fun i st => i ≤ l.length ∧ st = { env := [(0, sE l), (1, intsV bits), (5, .slice 74 3 (((chL bits l 0).take i).map eE)), (6, I i)], bx := [], rw := [(73, i, 3, 79)], log := [], stp := false }) (fun i => l.length - i) 0
    (Wk.le (.cons rfl (.refl _) (.cons rfl (.refl _) (.cons rfl (.nil 74 3) (.cons rfl (.refl _) .nil)))) .nil (.new rfl .nil) rfl rfl) ⟨by omega, rfl⟩ ?_
  rintro i st ⟨hi, rfl⟩
  refine Tr.seq (Tr.seqR rfl (by simp [sE]) (Tr.cond rfl rfl (fun h1 => Tr.skip ?_) (fun h1 => Tr.exit ?_)))
  rotate_left
  · have h1 : i = l.length := by simp at h1; omega
    subst h1
    refine Tr.seqR rfl (by simp) (Tr.retX rfl rfl rfl ?_ trivial)
    rw [List.take_of_length_le (by rw [chL_len]; omega)]
    simp [packR, sE]
  have h1 : i < l.length := by simpa using h1
  obtain ⟨hxy, hsl, hsb⟩ := echoOk_spec (hall _ (List.getElem_mem h1))
  refine Tr.seq (Tr.block (Tr.seq (Tr.drawK (TraceK.runN 3 rfl (by simp [sE]; omega) ?_))))
  rw [getD_map h1]
  refine TraceK.runN 5 rfl (by simp [sE, eE]; omega) ?_
  rw [getD_map h1]
  refine TraceK.run rfl (by simp [eE, sB]) (.done ⟨by kernel_rfl, by kernel_rfl, ?_⟩)
  refine Tr.seq (Tr.seqR rfl (by simp) (Tr.block ?_))
  refine Tr.loop (fun k st => k ≤ l[i].s.length ∧ st = { env := [(0, sE l), (1, intsV bits), (5, .slice 74 3 (((chL bits l 0).take i).map eE)), (6, I i), (7, .ptr 7 0), (8, I k)], bx := [(7, ⟨[I l[i].x, I l[i].y, .slice 69 2 (((chS bits i l[i].s 0).take k).map eB)], false⟩)], rw := [(73, i, 3, 79), (68, k, 2, 33)], log := [], stp := false }) (fun k => l[i].s.length - k) 0
    (Wk.le (.cons rfl (.refl _) (.cons rfl (.refl _) (.cons rfl (.refl _) (.cons rfl (.refl _) (.cons rfl (.refl _) (.cons rfl (.refl _) .nil)))))) (.cons rfl (.cons (.refl _) (.cons (.refl _) (.cons (.nil 69 2) .nil))) .nil) (.cons rfl (.new rfl .nil)) rfl rfl) ⟨by omega, rfl⟩ ?_
  rintro k st ⟨hk, rfl⟩
  refine Tr.seq (Tr.seqN 4 rfl (by simp [sE]; omega) ?_)
  rw [getD_map h1]
  refine Steps.fin rfl (by simp [eE, sB]) (Tr.cond rfl rfl (fun h2 => Tr.skip ?_) (fun h2 => Tr.exit ?_))
  · have h2 : k < l[i].s.length := by simpa using h2
    obtain ⟨⟨b1, b2⟩, hbk⟩ : ∃ b, l[i].s[k] = b := ⟨_, rfl⟩
    have hb3 := hsb _ (List.getElem_mem h2)
    rw [hbk] at hb3
    simp only at hb3
    have hcn := chN_bd (bits := bits) (i := i) (k := k) (b := (b1, b2)) hb3.2.1
    simp only at hcn
    refine Tr.seq (Tr.block (Tr.seqN 3 rfl (by simp [sE]; omega) ?_))
    rw [getD_map h1]
    refine Steps.runN 4 rfl (by simp [eE, sB]; omega) ?_
    rw [getD_map h2, hbk]
    refine Steps.fin rfl (by simp [eB]) ?_
    have w7 : IntKind.i64.wrap (7 * (i : Int)) = 7 * (i : Int) := w64 (by omega) (by omega)
    have w7k : IntKind.i64.wrap (7 * (i : Int) + (k : Int)) = 7 * (i : Int) + (k : Int) := w64 (by omega) (by omega)
    have wd : IntKind.i64.wrap (b2 - b1) = b2 - b1 := w64 (by omega) (by omega)
    have wd1 : IntKind.i64.wrap (b2 - b1 + 1) = b2 - b1 + 1 := w64 (by omega) (by omega)
    have wn : IntKind.i64.wrap (b1 + restI (pickI bits (7 * (i : Int) + (k : Int))) (b2 - b1 + 1)) = chN bits i k (b1, b2) := w64 (by unfold chN at hcn; simp only at hcn; omega) (by unfold chN at hcn; simp only at hcn; omega)
    refine Tr.seq (Tr.drawK (TraceK.run rfl (by simp) ?_))
    rw [w7, w7k]
    refine TraceK.call rfl rfl (c_Pick bits _ hb) (TraceK.run rfl (by simp) ?_)
    rw [wd, wd1]
    refine TraceK.call rfl rfl (c_Rest _ _ (by omega)) (TraceK.run rfl (by simp) (.done ⟨by kernel_rfl, by kernel_rfl, ?_⟩))
    have hget : (chS bits i l[i].s 0)[k]? = some (chN bits i k (b1, b2), chN bits i k (b1, b2)) := by
      rw [chS_get, List.getElem?_eq_getElem h2, hbk]; simp
    have hlen : ((chS bits i l[i].s 0).take k).length = k := by rw [List.length_take, chS_len]; omega
    refine Tr.regR rfl (by simp [chS_len, chL_len] <;> omega) (Tr.regR rfl (by simp) ?_)
    refine ⟨k + 1, _, Wk.le (.cons rfl (.refl _) (.cons rfl (.refl _) (.cons rfl (.refl _) (.cons rfl (.refl _) (.cons rfl (.refl _) (.cons rfl (VLe.i (w64 (by omega) (by omega))) .nil)))))) (.cons rfl (.cons (.refl _) (.cons (.refl _) (.cons (.of_eq ?_) .nil))) .nil) (.cons rfl (.cons ?_ .nil)) rfl rfl, ⟨h2, rfl⟩, by omega⟩
    · rw [take_succ_of hget, wn]; simp [eB]
    · show some _ = some _
      simp [chS_len, chL_len]; omega
  · have h2 : k = l[i].s.length := by simp at h2; omega
    subst h2
    have hget : (chL bits l 0)[i]? = some ⟨l[i].x, l[i].y, chS bits i l[i].s 0⟩ := by
      rw [chL_get, List.getElem?_eq_getElem h1]; simp
    have hlen : ((chL bits l 0).take i).length = i := by rw [List.length_take, chL_len]; omega
    refine Tr.regR rfl (by simp [chS_len, chL_len] <;> omega) (Tr.regR rfl (by simp) ?_)
    refine ⟨i + 1, _, Wk.le (.cons rfl (.refl _) (.cons rfl (.refl _) (.cons rfl (.of_eq ?_) (.cons rfl (VLe.i (w64 (by omega) (by omega))) .nil)))) .nil (.cons ?_ .nil) rfl rfl, ⟨h1, rfl⟩, by omega⟩
    · have hfull : (chS bits i l[i].s 0).take l[i].s.length = chS bits i l[i].s 0 := List.take_of_length_le (by rw [chS_len]; omega)
      rw [take_succ_of hget, hfull]
      simp [eE, sB]
    · show some _ = some _
      simp [chS_len, chL_len]; omega

theorem c_inside (a : Bx) (l l' : List (Int × Int)) (hl : l.length ≤ 4096) (hll : l.length = l'.length) (hi : ∀ i (h : i < l.length) (h' : i < l'.length), ins l[i] l'[i]) :
    C Try.prog F.law10_inside [.agg [I a.x, I a.y, I a.z, I a.a, I a.b, I a.c, .slice 0 2 (l.map eB)], .agg [I a.x, I a.y, I a.z, I a.a, I a.b, I a.c, .slice 0 2 (l'.map eB)]] (.bool true) := by
  refine C_of mixed chk.law10_inside (by simp) fun S ok => ?_
  refine Tr.seqR rfl (by simp) (Tr.seq (Tr.seqR rfl (by simp) ?_))
  have hc : ∀ c : Bool, (bif (bif (!(a.x == a.x && (a.y == a.y && (a.z == a.z && true)))) then true else !(a.a == a.a && (a.b == a.b && (a.c == a.c && true)))) then true else ((l.map eB).length : Int) != ((l'.map eB).length : Int)) = c → c = false := by
    rintro c rfl
    simp [hll]
  refine Tr.cond rfl rfl (fun h1 => ?_) (fun h1 => Tr.skip ?_)
  · have := hc true h1; cases this
  refine Tr.seq (Tr.seqR rfl (by simp) (Tr.block ?_))
  refine Tr.loop (fun k st => k ≤ l.length ∧ st = { env := [(2, .ptr 2 0), (3, .ptr 3 0), (5, I k)], bx := [(2, ⟨[I a.x, I a.y, I a.z, I a.a, I a.b, I a.c, .slice 0 2 (l.map eB)], false⟩), (3, ⟨[I a.x, I a.y, I a.z, I a.a, I a.b, I a.c, .slice 0 2 (l'.map eB)], false⟩)], rw := [], log := [], stp := false }) (fun k => l.length - k) 0
    (Wk.le (.cons rfl (.refl _) (.cons rfl (.refl _) (.cons rfl (.refl _) .nil))) (.cons rfl (LLe.refl _) (.cons rfl (LLe.refl _) .nil)) .nil rfl rfl) ⟨by omega, rfl⟩ ?_
  rintro k st ⟨hk, rfl⟩
  refine Tr.seq (Tr.seqR rfl (by simp) (Tr.cond rfl rfl (fun h3 => Tr.skip ?_) (fun h3 => Tr.exit (Tr.seqR rfl (by simp) (Tr.retX rfl rfl rfl rfl trivial)))))
  have h3 : k < l.length := by simpa using h3
  have h4 : k < l'.length := by omega
  have hik := hi k h3 h4
  refine Tr.seq (Tr.block (Tr.seq (Tr.drawK (TraceK.runN 4 rfl (by simp; omega) ?_))))
  rw [getD_map h3]
  refine TraceK.runN 6 rfl (by simp [eB]; omega) ?_
  rw [getD_map h4]
  refine TraceK.runN 8 rfl (by simp [eB] <;> (intros; omega)) ?_
  rw [getD_map h3]
  refine TraceK.runN 6 rfl (by simp [eB] <;> (intros; omega)) ?_
  rw [getD_map h4]
  refine TraceK.run rfl (by simp [eB]) (.done ⟨by kernel_rfl, by kernel_rfl, ?_⟩)
  refine Tr.cond rfl rfl (fun h5 => ?_) (fun h5 => Tr.skip (Tr.regR rfl (by simp) ?_))
  · have h5 : (bif decide (l[k].1 < l'[k].1) then true else decide (l[k].2 > l'[k].2)) = true := h5
    unfold ins at hik
    have e1 : decide (l[k].1 < l'[k].1) = false := by simp; omega
    have e2 : decide (l[k].2 > l'[k].2) = false := by simp; omega
    rw [e1, e2] at h5
    cases h5
  · exact ⟨k + 1, _, Wk.le (.cons rfl (.refl _) (.cons rfl (.refl _) (.cons rfl (VLe.i (w64 (by omega) (by omega))) .nil))) (.cons rfl (LLe.refl _) (.cons rfl (LLe.refl _) .nil)) .nil rfl rfl, ⟨h3, rfl⟩, by omega⟩

end Go.Proofs.Ytkifejklnpddbaa

/-! Plain facts for VolumeLinear: values are sums over echoes, and samples that are added make values that are added. -/
set_option linter.unusedVariables false
set_option linter.unusedSimpArgs false
set_option maxRecDepth 20000
namespace Go.Proofs.Ytkifejklnpddbaa
open Go.Am

theorem w_cong {a b : Int} (h : a % 18446744073709551616 = b % 18446744073709551616) : w a = w b := by
  show (if (true && decide (a % 18446744073709551616 ≥ 9223372036854775808)) = true then a % 18446744073709551616 - 18446744073709551616 else a % 18446744073709551616) = (if (true && decide (b % 18446744073709551616 ≥ 9223372036854775808)) = true then b % 18446744073709551616 - 18446744073709551616 else b % 18446744073709551616)
  rw [h]

theorem w_mod (a : Int) : w a % 18446744073709551616 = a % 18446744073709551616 := by
  have e : ∀ m : Int, m = a % 18446744073709551616 → (if (true && decide (m ≥ 9223372036854775808)) = true then m - 18446744073709551616 else m) % 18446744073709551616 = m := by
    intro m hm
    by_cases h : m ≥ 9223372036854775808
    · simp only [h, decide_true, Bool.and_self, if_true]; omega
    · simp only [h, decide_false, Bool.and_false, Bool.false_eq_true, if_false]; omega
  exact e _ rfl

theorem w_add (a b : Int) : w (w a + w b) = w (a + b) := by
  refine w_cong ?_
  have h1 := w_mod a
  have h2 := w_mod b
  omega

theorem w_addl (a b : Int) : w (w a + b) = w (a + b) := by
  refine w_cong ?_
  have h1 := w_mod a
  omega

theorem w_addr (a b : Int) : w (a + w b) = w (a + b) := by
  refine w_cong ?_
  have h1 := w_mod b
  omega

theorem plus_swap (u v a b : Int × Int) : plusB (plusB u v) (plusB a b) = plusB (plusB u a) (plusB v b) := by
  simp only [plusB, w_add]
  congr 2 <;> omega

theorem plus_norm (a b : Int × Int) : plusB a (plusB (0, 0) b) = plusB a b := by
  simp only [plusB, Int.zero_add, w_addr]

/-- What an echo gives to a place. -/
def givesB (aper slow x y z : Int) (e : Echo) : Int × Int := if hears aper x y e then smp e.s z (dst x y e) slow else (0, 0)

theorem value_drop (h : Ear) (x y z : Int) : ∀ (d k : Nat), k + d = h.l.length → ∀ a, nrm a →
    ((nears h.aper x y (h.l.drop k) k).map (valC h z)).foldl plusB a = ((h.l.drop k).map (givesB h.aper h.slow.1 x y z)).foldl plusB a
  | 0, k, hk, a, ha => by
    rw [List.drop_eq_nil_of_le (by omega)]; rfl
  | d + 1, k, hk, a, ha => by
    have hkl : k < h.l.length := by omega
    rw [nears_drop _ _ _ _ hkl, List.drop_eq_getElem_cons hkl, List.map_cons, List.foldl_cons]
    by_cases hh : hears h.aper x y h.l[k] = true
    · rw [if_pos hh, List.map_cons, List.foldl_cons]
      have e : valC h z ((k : Int), dst x y h.l[k]) = givesB h.aper h.slow.1 x y z h.l[k] := by
        unfold valC givesB
        rw [if_pos hh]
        simp [sAt, List.getElem?_eq_getElem hkl]
      rw [e]
      exact value_drop h x y z d (k + 1) (by omega) _ (nrm_plus _ _)
    · rw [if_neg hh]
      have e : givesB h.aper h.slow.1 x y z h.l[k] = (0, 0) := by unfold givesB; rw [if_neg hh]
      rw [e, plus0 ha]
      exact value_drop h x y z d (k + 1) (by omega) _ ha

theorem value_gives (l : List Echo) (aper slow : Int) (p : Int × Int × Int) : valOf l aper slow p = (l.map (givesB aper slow p.1 p.2.1 p.2.2)).foldl plusB (0, 0) := by
  unfold valOf
  rw [value_sum]
  have h := value_drop ⟨l, aper, (slow, slow)⟩ p.1 p.2.1 p.2.2 l.length 0 (by simp) (0, 0) nrm0
  simpa using h

theorem value_one (e : Echo) (aper slow : Int) (p : Int × Int × Int) : valOf [e] aper slow p = plusB (0, 0) (givesB aper slow p.1 p.2.1 p.2.2 e) := by
  rw [value_gives]; rfl

theorem value_take {l : List Echo} {aper slow : Int} {p : Int × Int × Int} {i : Nat} (hi : i < l.length) : plusB (valOf (l.take i) aper slow p) (valOf [l[i]] aper slow p) = valOf (l.take (i + 1)) aper slow p := by
  rw [value_one, plus_norm, value_gives, value_gives, List.take_add_one, List.getElem?_eq_getElem hi, List.map_append, List.foldl_append]
  rfl

/-! ### Samples that are added -/
def noiseI (more : List Int) (i k : Nat) : Int := restI (pickI more (5 * (i : Int) + (k : Int))) 2001 - 1000
def othS (more : List Int) (i n : Nat) : List (Int × Int) := (List.range n).map fun k => (noiseI more i k, noiseI more i k)
def botS (more : List Int) (i : Nat) (s : List (Int × Int)) (n : Nat) : List (Int × Int) := (List.range n).map fun k => plusB (s.getD k (0, 0)) (noiseI more i k, noiseI more i k)
def echoAt (l : List Echo) (i : Nat) : Echo := (l[i]?).getD ⟨0, 0, []⟩
def othE (more : List Int) (l : List Echo) (i : Nat) : Echo := ⟨(echoAt l i).x, (echoAt l i).y, othS more i (echoAt l i).s.length⟩
def botE (more : List Int) (l : List Echo) (i : Nat) : Echo := ⟨(echoAt l i).x, (echoAt l i).y, botS more i (echoAt l i).s (echoAt l i).s.length⟩

theorem noise_bd (more : List Int) (i k : Nat) : -1000 ≤ noiseI more i k ∧ noiseI more i k ≤ 1000 := by
  have := restI_bd (n := pickI more (5 * (i : Int) + (k : Int))) (m := 2001) (by omega)
  unfold noiseI; omega

theorem echoAt_eq {l : List Echo} {i : Nat} (h : i < l.length) : echoAt l i = l[i] := by simp [echoAt, List.getElem?_eq_getElem h]

theorem all_at (l : List Echo) : (List.range l.length).map (echoAt l) = l := by
  apply List.ext_getElem
  · simp
  · intro i h1 h2
    rw [List.getElem_map, List.getElem_range, echoAt_eq h2]

theorem gives_add {more : List Int} {l : List Echo} {i : Nat} {aper slow x y z : Int} : givesB aper slow x y z (botE more l i) = plusB (givesB aper slow x y z (echoAt l i)) (givesB aper slow x y z (othE more l i)) ∨
    (givesB aper slow x y z (botE more l i) = (0, 0) ∧ givesB aper slow x y z (echoAt l i) = (0, 0) ∧ givesB aper slow x y z (othE more l i) = (0, 0)) := by
  unfold givesB
  have h1 : hears aper x y (botE more l i) = hears aper x y (echoAt l i) := rfl
  have h2 : hears aper x y (othE more l i) = hears aper x y (echoAt l i) := rfl
  have d1 : dst x y (botE more l i) = dst x y (echoAt l i) := rfl
  have d2 : dst x y (othE more l i) = dst x y (echoAt l i) := rfl
  rw [h1, h2, d1, d2]
  by_cases hh : hears aper x y (echoAt l i) = true
  · rw [if_pos hh, if_pos hh, if_pos hh]
    unfold smp
    generalize (timeN z (dst x y (echoAt l i)) slow).toNat = t
    by_cases ht : t < (echoAt l i).s.length
    · left
      simp [botE, othE, botS, othS, List.getD_eq_getElem?_getD, List.getElem?_range ht, List.getElem?_eq_getElem ht]
    · right
      simp [botE, othE, botS, othS, List.getD_eq_getElem?_getD, List.getElem?_eq_none (Nat.le_of_not_lt ht)]
      rw [List.getElem?_eq_none (by simp; omega)]
      simp
  · right
    rw [if_neg hh, if_neg hh, if_neg hh]
    exact ⟨rfl, rfl, rfl⟩

theorem fold_add (f g h : Nat → Int × Int) (hfg : ∀ i, f i = plusB (g i) (h i) ∨ (f i = (0, 0) ∧ g i = (0, 0) ∧ h i = (0, 0))) : ∀ (L : List Nat) (a b : Int × Int), nrm a → nrm b → (L.map f).foldl plusB (plusB a b) = plusB ((L.map g).foldl plusB a) ((L.map h).foldl plusB b)
  | [], a, b, _, _ => rfl
  | i :: L, a, b, ha, hb => by
    simp only [List.map_cons, List.foldl_cons]
    rcases hfg i with e | ⟨e1, e2, e3⟩
    · rw [e, plus_swap]
      exact fold_add f g h hfg L _ _ (nrm_plus _ _) (nrm_plus _ _)
    · rw [e1, e2, e3, plus0 (nrm_plus _ _), plus0 ha, plus0 hb]
      exact fold_add f g h hfg L _ _ ha hb

theorem value_add (more : List Int) (l : List Echo) (aper slow : Int) (p : Int × Int × Int) :
    valOf ((List.range l.length).map (botE more l)) aper slow p = plusB (valOf l aper slow p) (valOf ((List.range l.length).map (othE more l)) aper slow p) := by
  have h := fold_add (fun i => givesB aper slow p.1 p.2.1 p.2.2 (botE more l i)) (fun i => givesB aper slow p.1 p.2.1 p.2.2 (echoAt l i)) (fun i => givesB aper slow p.1 p.2.1 p.2.2 (othE more l i)) (fun i => gives_add) (List.range l.length) (0, 0) (0, 0) nrm0 nrm0
  have h0 : plusB (0, 0) (0, 0) = ((0, 0) : Int × Int) := plus0 nrm0
  rw [h0] at h
  rw [value_gives, value_gives, value_gives, List.map_map, List.map_map]
  have e : l.map (givesB aper slow p.1 p.2.1 p.2.2) = (List.range l.length).map fun i => givesB aper slow p.1 p.2.1 p.2.2 (echoAt l i) := by
    conv => lhs; rw [← all_at l]
    rw [List.map_map]; rfl
  rw [e]
  exact h

theorem oth_ok {more : List Int} {l : List Echo} (h : echoesOk l = true) : echoesOk ((List.range l.length).map (othE more l)) = true := by
  obtain ⟨h1, h2⟩ := echoesOk_spec h
  simp only [echoesOk, Bool.and_eq_true, decide_eq_true_eq, List.all_eq_true, List.length_map, List.length_range]
  refine ⟨h1, fun e he => ?_⟩
  obtain ⟨i, hi, rfl⟩ := List.mem_map.1 he
  have hi : i < l.length := by simpa using hi
  obtain ⟨⟨g1, g2⟩, g3, _⟩ := echoOk_spec (h2 _ (List.getElem_mem hi))
  have el := echoAt_eq hi
  simp only [echoOk, Bool.and_eq_true, List.all_eq_true, btw, decide_eq_true_eq, othE, el]
  refine ⟨⟨⟨⟨by omega, by omega⟩, ⟨by omega, by omega⟩⟩, by simp [othS]; omega, by simp [othS]; omega⟩, fun b hb => ?_⟩
  obtain ⟨k, _, rfl⟩ := List.mem_map.1 hb
  have := noise_bd more i k
  simp only [loud, Bool.and_eq_true, decide_eq_true_eq]
  omega

end Go.Proofs.Ytkifejklnpddbaa

/-! Plain facts for VolumePoint. -/
set_option linter.unusedVariables false
set_option linter.unusedSimpArgs false
set_option maxRecDepth 20000
namespace Go.Proofs.Ytkifejklnpddbaa
open Go.Am

theorem w_sq (a b : Int) : w (w (a - b) * w (a - b)) = w (w (b - a) * w (b - a)) := by
  refine w_cong ?_
  have h : ∀ c : Int, (w c * w c) % 18446744073709551616 = (c * c) % 18446744073709551616 := fun c => by
    rw [Int.mul_emod, w_mod, ← Int.mul_emod]
  rw [h, h]
  congr 1
  rw [← Int.neg_mul_neg (b - a), Int.neg_sub]

/-- One sample at a time. -/
def peakL (t : Nat) : List (Int × Int) := (List.replicate 64 ((0 : Int), (0 : Int))).set t (1, 1)
theorem peak_len (t : Nat) : (peakL t).length = 64 := by simp [peakL]
theorem peak_getD (t k : Nat) : (peakL t).getD k (0, 0) = if t = k ∧ t < 64 then (1, 1) else (0, 0) := by
  unfold peakL
  rw [List.getD_eq_getElem?_getD]
  by_cases h : t = k
  · subst h
    by_cases h2 : t < 64
    · rw [List.getElem?_set_self (by simpa using h2), if_pos ⟨rfl, h2⟩]; rfl
    · rw [List.getElem?_eq_none (by simp; omega), if_neg (by omega)]; rfl
  · rw [List.getElem?_set_ne h, if_neg (fun e => h e.1), List.getElem?_replicate]
    split <;> rfl

def ptX (p : Int × Int) : Int := restI p.1 129 - 64
def ptY (p : Int × Int) : Int := restI p.2 129 - 64
def ptD (x y : Int) (p : Int × Int) : Int := dst x y ⟨ptX p, ptY p, []⟩
def ptT (x y z slow : Int) (p : Int × Int) : Int := timeN z (ptD x y p) slow
def ptE (x y z slow : Int) (p : Int × Int) : Echo := ⟨ptX p, ptY p, peakL (ptT x y z slow p).toNat⟩
def ptH (x y z slow aper : Int) (p : Int × Int) : Bool := decide (ptT x y z slow p < 64) && decide (ptD x y p ≤ w (aper * aper))

theorem pt_bd (p : Int × Int) : (-64 ≤ ptX p ∧ ptX p ≤ 64) ∧ (-64 ≤ ptY p ∧ ptY p ≤ 64) := by
  have h1 := restI_bd (n := p.1) (m := 129) (by omega)
  have h2 := restI_bd (n := p.2) (m := 129) (by omega)
  unfold ptX ptY; omega

theorem pt_ok (x y z slow : Int) (p : Int × Int) : echoOk (ptE x y z slow p) = true := by
  have h := pt_bd p
  have hl := peak_len (ptT x y z slow p).toNat
  simp only [echoOk, ptE, Bool.and_eq_true, List.all_eq_true, btw_iff, hl]
  refine ⟨⟨⟨h.1, h.2⟩, by omega⟩, fun b hb => ?_⟩
  obtain ⟨i, hi, rfl⟩ := List.mem_iff_getElem.1 hb
  have e := peak_getD (ptT x y z slow p).toNat i
  rw [List.getD_eq_getElem?_getD, List.getElem?_eq_getElem hi, Option.getD_some] at e
  rw [e]
  split <;> simp [loud]

theorem pts_ok (x y z slow : Int) (L : List (Int × Int)) (h : L.length ≤ 32) : echoesOk (L.map (ptE x y z slow)) = true := by
  simp only [echoesOk, Bool.and_eq_true, decide_eq_true_eq, List.all_eq_true, List.length_map]
  exact ⟨h, fun e he => by obtain ⟨p, _, rfl⟩ := List.mem_map.1 he; exact pt_ok x y z slow p⟩

/-- What it gives where it was made for, and elsewhere. -/
theorem pt_gives (x y z slow aper : Int) (p : Int × Int) : givesB aper slow x y z (ptE x y z slow p) = if ptH x y z slow aper p then (1, 1) else (0, 0) := by
  have h0 : 0 ≤ ptT x y z slow p := timeN_nn _ _ _
  have e1 : hears aper x y (ptE x y z slow p) = decide (ptD x y p ≤ w (aper * aper)) := rfl
  have e2 : smp (ptE x y z slow p).s z (dst x y (ptE x y z slow p)) slow = (peakL (ptT x y z slow p).toNat).getD (ptT x y z slow p).toNat (0, 0) := rfl
  unfold givesB ptH
  rw [e1, e2, peak_getD]
  by_cases h1 : ptD x y p ≤ w (aper * aper)
  · by_cases h2 : ptT x y z slow p < 64
    · simp [h1, h2]
    · simp [h1, h2]
  · simp [h1]

theorem gives_01 (x y z slow : Int) (aper slow' a b c : Int) (p : Int × Int) : givesB aper slow' a b c (ptE x y z slow p) = (1, 1) ∨ givesB aper slow' a b c (ptE x y z slow p) = (0, 0) := by
  unfold givesB
  split
  · unfold smp
    show (peakL _).getD _ _ = _ ∨ (peakL _).getD _ _ = _
    rw [peak_getD]
    split
    · exact .inl rfl
    · exact .inr rfl
  · exact .inr rfl

theorem fold_01 {α : Type} (f : α → Int × Int) : ∀ (L : List α) (n : Int), 0 ≤ n → n + L.length ≤ 1000 → (∀ p ∈ L, f p = (1, 1) ∨ f p = (0, 0)) → (L.map f).foldl plusB (n, n) = (n + (L.countP fun p => f p == (1, 1) : Nat), n + (L.countP fun p => f p == (1, 1) : Nat))
  | [], n, _, _, _ => by simp
  | p :: L, n, h0, hn, h => by
    rw [List.length_cons] at hn
    push_cast at hn
    rw [List.map_cons, List.foldl_cons]
    rcases h p (by simp) with e | e
    · have e2 : plusB (n, n) (f p) = (n + 1, n + 1) := by rw [e]; simp only [plusB]; rw [show w (n + 1) = n + 1 from w64 (by omega) (by omega)]
      rw [e2, fold_01 f L (n + 1) (by omega) (by omega) (fun q hq => h q (List.mem_cons_of_mem _ hq)), List.countP_cons_of_pos (by rw [e]; rfl)]
      push_cast
      congr 1 <;> omega
    · have e2 : plusB (n, n) (f p) = (n, n) := by rw [e]; simp only [plusB]; rw [show w (n + 0) = n from by rw [Int.add_zero]; exact w64 (by omega) (by omega)]
      rw [e2, fold_01 f L n h0 (by omega) (fun q hq => h q (List.mem_cons_of_mem _ hq)), List.countP_cons_of_neg (by rw [e]; decide)]

theorem pts_value (x y z slow aper : Int) (L : List (Int × Int)) (h : L.length ≤ 32) : valueB ⟨L.map (ptE x y z slow), aper, (slow, slow)⟩ x y z = (((L.countP (ptH x y z slow aper) : Nat) : Int), ((L.countP (ptH x y z slow aper) : Nat) : Int)) := by
  have hv := value_gives (L.map (ptE x y z slow)) aper slow (x, y, z)
  unfold valOf at hv
  simp only at hv
  rw [hv, List.map_map]
  have hf := fold_01 (fun p => if ptH x y z slow aper p then ((1 : Int), (1 : Int)) else (0, 0)) L 0 (by omega) (by omega) (fun p _ => by split <;> simp)
  have e : (givesB aper slow x y z ∘ ptE x y z slow) = fun p => if ptH x y z slow aper p then ((1 : Int), (1 : Int)) else (0, 0) := by
    funext p; exact pt_gives x y z slow aper p
  rw [e, hf]
  have e3 : (fun p => (if ptH x y z slow aper p then ((1 : Int), (1 : Int)) else (0, 0)) == (1, 1)) = ptH x y z slow aper := by
    funext p
    cases ptH x y z slow aper p <;> rfl
  rw [e3]
  simp

theorem pts_low (x y z slow aper slow' : Int) (q : Int × Int × Int) (L : List (Int × Int)) (h : L.length ≤ 32) : 0 ≤ (valOf (L.map (ptE x y z slow)) aper slow' q).1 ∧ (valOf (L.map (ptE x y z slow)) aper slow' q).2 ≤ (L.length : Int) := by
  have hf := fold_01 (fun p => givesB aper slow' q.1 q.2.1 q.2.2 (ptE x y z slow p)) L 0 (by omega) (by omega) (fun p _ => gives_01 x y z slow aper slow' _ _ _ p)
  have e : (givesB aper slow' q.1 q.2.1 q.2.2 ∘ ptE x y z slow) = fun p => givesB aper slow' q.1 q.2.1 q.2.2 (ptE x y z slow p) := rfl
  rw [value_gives, List.map_map, e, hf]
  have := List.countP_le_length (p := fun p => givesB aper slow' q.1 q.2.1 q.2.2 (ptE x y z slow p) == (1, 1)) (l := L)
  simp only
  omega

theorem named_count (h : Ear) (x y z : Int) : ∀ (d k : Nat), k + d = h.l.length → ((nears h.aper x y (h.l.drop k) k).filterMap (refOf h z)).length = (h.l.drop k).countP fun e => hears h.aper x y e && decide (timeN z (dst x y e) h.slow.1 < (e.s.length : Int))
  | 0, k, hk => by rw [List.drop_eq_nil_of_le (by omega)]; rfl
  | d + 1, k, hk => by
    have hkl : k < h.l.length := by omega
    have ih := named_count h x y z d (k + 1) (by omega)
    rw [nears_drop _ _ _ _ hkl, List.drop_eq_getElem_cons hkl, List.countP_cons]
    by_cases hh : hears h.aper x y h.l[k] = true
    · rw [if_pos hh, List.filterMap_cons]
      unfold refOf
      simp only [Int.toNat_natCast, List.getElem?_eq_getElem hkl, Option.map_some, Option.getD_some, hh, Bool.true_and]
      by_cases ht : timeN z (dst x y h.l[k]) h.slow.1 < (h.l[k].s.length : Int)
      · simp only [ht, if_true, decide_true, List.length_cons]
        unfold refOf at ih
        rw [← ih]
      · simp only [ht, if_false, decide_false, Bool.false_eq_true, Nat.add_zero]
        unfold refOf at ih
        rw [← ih]
    · rw [if_neg hh, ih]
      simp [hh]

theorem pts_named (x y z slow aper : Int) (L : List (Int × Int)) : (namedL ⟨L.map (ptE x y z slow), aper, (slow, slow)⟩ x y z).length = L.countP (ptH x y z slow aper) := by
  have h := named_count ⟨L.map (ptE x y z slow), aper, (slow, slow)⟩ x y z (L.map (ptE x y z slow)).length 0 (by simp)
  rw [List.drop_zero] at h
  unfold namedL
  rw [h, List.countP_map]
  congr 1
  funext p
  have e1 : hears aper x y (ptE x y z slow p) = decide (ptD x y p ≤ w (aper * aper)) := rfl
  show (hears aper x y (ptE x y z slow p) && decide (ptT x y z slow p < ((peakL (ptT x y z slow p).toNat).length : Int))) = _
  rw [e1, peak_len]
  unfold ptH
  rw [Bool.and_comm]
  rfl

end Go.Proofs.Ytkifejklnpddbaa

/-! The laws VolumeNames and VolumeEncloses, as contracts. -/
set_option linter.unusedVariables false
set_option linter.unusedSimpArgs false
set_option maxRecDepth 20000
namespace Go.Proofs.Ytkifejklnpddbaa
open Go.Am
attribute [local simp] cells scalar mkv splice under2 under dem dem1 boxC cellC volC intsV eB

theorem nameS_form (l : List Echo) (x y z aper slow : Int) : ∃ (a b c : Int) (s : Int × Int) (r : List (Int × Int)) (e : Int), r.length ≤ 32 ∧
    nameS l x y z aper slow = .tuple [.agg [I a, I b, I c, .slice 0 2 (r.map eB), I s.1, I s.2], I e] := by
  unfold nameS nameR
  split
  · rename_i h1
    have h2 := echoesOk_len h1
    split
    · refine ⟨x, y, z, valueB ⟨l, aper, (slow, slow)⟩ x y z, namedL ⟨l, aper, (slow, slow)⟩ x y z, 0, ?_, rfl⟩
      unfold namedL
      exact Nat.le_trans (List.length_filterMap_le _ _) (Nat.le_trans nears_len h2)
    · exact ⟨0, 0, 0, (0, 0), [], 102, by simp, rfl⟩
  · exact ⟨0, 0, 0, (0, 0), [], 100, by simp, rfl⟩

theorem boxS_form (l : List Echo) (b : Bx) (aper : Int) (slow : Int × Int) (of : Int × Int × Int → Int × Int) : ∃ (c : Bx) (r : List (Int × Int)) (e : Int), r.length ≤ 4096 ∧
    boxR (.slice 0 2 []) l b aper slow of = .tuple [.agg [I c.x, I c.y, I c.z, I c.a, I c.b, I c.c, .slice 0 2 (r.map eB)], I e] := by
  unfold boxR
  split
  · split
    · unfold imageR
      split
      · rename_i h1
        refine ⟨b, (boxCells b).map of, 0, ?_, ?_⟩
        · rw [List.length_map]; exact boxCells_len (boxOk_spec h1).1
        · rw [List.map_map]; rfl
      · exact ⟨⟨0, 0, 0, 0, 0, 0⟩, [], 102, by simp, rfl⟩
    · exact ⟨⟨0, 0, 0, 0, 0, 0⟩, [], 102, by simp, rfl⟩
  · exact ⟨⟨0, 0, 0, 0, 0, 0⟩, [], 100, by simp, rfl⟩

theorem c_VolumeNames {l : List Echo} (hl : sane l) (x y z aper slow : Int) : C Try.prog F.law10_VolumeNames [sE l, .agg (cellC x y z), .agg [I aper, I slow]] (.bool true) := by
  refine C_of mixed chk.law10_VolumeNames (by simp) fun S ok => ?_
  obtain ⟨a, b, c, s, r, e, hr, hN⟩ := nameS_form l x y z aper slow
  refine Tr.seqR rfl (by simp) ?_
  refine Tr.seqC rfl (by simp) (Steps.call rfl rfl (hN ▸ c_NameS hl x y z aper slow) (Steps.fin rfl (by simp) ?_))
  refine Tr.seqC rfl (by simp) (Steps.call rfl rfl (hN ▸ c_Name10 hl x y z aper slow) (Steps.fin rfl (by simp) ?_))
  refine Tr.seqC rfl (by simp) (Steps.call rfl rfl (c_SameNamed a b c a b c s s r r (by omega)) (Steps.run rfl (by simp) ?_))
  refine Steps.gcall rfl rfl rfl rfl (by simp) (fun _ => c_works) (Steps.fin rfl (by simp) (Tr.retX rfl rfl rfl ?_ trivial))
  simp [packR]

theorem c_VolumeEncloses {l : List Echo} (hl : sane l) (b : Bx) (aper : Int) (slow : Int × Int) : C Try.prog F.law10_VolumeEncloses [sE l, .agg [I b.x, I b.y, I b.z, I b.a, I b.b, I b.c, I aper, I slow.1, I slow.2]] (.bool true) := by
  refine C_of mixed chk.law10_VolumeEncloses (by simp) fun S ok => ?_
  obtain ⟨c, r, e, hr, hN⟩ := boxS_form l b aper slow (encOf l aper slow)
  have k1 := c_Enclose hl b aper slow
  have k2 := c_Enclose10 hl b aper slow
  unfold encS at k1 k2
  rw [hN] at k1 k2
  refine Tr.seqR rfl (by simp) ?_
  refine Tr.seqC rfl (by simp) (Steps.call rfl rfl k1 (Steps.fin rfl (by simp) ?_))
  refine Tr.seqC rfl (by simp) (Steps.call rfl rfl k2 (Steps.fin rfl (by simp) ?_))
  refine Tr.seqC rfl (by simp) (Steps.call rfl rfl (c_SameImage c c r r (by omega)) (Steps.run rfl (by simp) ?_))
  refine Steps.gcall rfl rfl rfl rfl (by simp) (fun _ => c_works) (Steps.fin rfl (by simp) (Tr.retX rfl rfl rfl ?_ trivial))
  simp [packR]

end Go.Proofs.Ytkifejklnpddbaa

/-! Plain facts for VolumeFar: what is named among all echoes, and among the near ones; contracts: Equal, Verify. -/
set_option linter.unusedVariables false
set_option linter.unusedSimpArgs false
set_option maxRecDepth 20000
set_option maxHeartbeats 2000000
namespace Go.Proofs.Ytkifejklnpddbaa
open Go.Am

/-- The near echoes, with where they are. -/
def pickE (aper x y : Int) : List Echo → Nat → List (Nat × Echo)
  | [], _ => []
  | e :: r, k => if hears aper x y e then (k, e) :: pickE aper x y r (k + 1) else pickE aper x y r (k + 1)

/-- What is named: where it is among all, where among the near ones, and the time. -/
def zipG (z slow x y : Int) : List (Nat × Echo) → Nat → List (Nat × Nat × Int)
  | [], _ => []
  | (q, e) :: r, j => if timeN z (dst x y e) slow < (e.s.length : Int) then (q, j, timeN z (dst x y e) slow) :: zipG z slow x y r (j + 1) else zipG z slow x y r (j + 1)

theorem pickE_spec {aper x y : Int} : ∀ {l : List Echo} {k : Nat} {p : Nat × Echo}, p ∈ pickE aper x y l k → k ≤ p.1 ∧ l[p.1 - k]? = some p.2 ∧ hears aper x y p.2 = true
  | [], k, p, h => by simp [pickE] at h
  | e :: r, k, p, h => by
    have hrec : p ∈ pickE aper x y r (k + 1) → k ≤ p.1 ∧ (e :: r)[p.1 - k]? = some p.2 ∧ hears aper x y p.2 = true := fun h => by
      obtain ⟨h1, h2, h3⟩ := pickE_spec h
      refine ⟨by omega, ?_, h3⟩
      rw [show p.1 - k = (p.1 - (k + 1)) + 1 by omega]; simpa using h2
    unfold pickE at h
    split at h
    · rename_i he
      rcases List.mem_cons.1 h with rfl | h
      · exact ⟨Nat.le_refl _, by simp, he⟩
      · exact hrec h
    · exact hrec h

theorem nears_pick {aper x y : Int} : ∀ {l : List Echo} {k : Nat}, nears aper x y l k = (pickE aper x y l k).map fun p => ((p.1 : Int), dst x y p.2)
  | [], k => rfl
  | e :: r, k => by
    unfold nears pickE
    split
    · rw [nears_pick]; rfl
    · exact nears_pick

theorem named_zip {aper slow x y z : Int} {l : List Echo} : ∀ (P : List (Nat × Echo)) (j : Nat), (∀ p ∈ P, l[p.1]? = some p.2) →
    (P.map fun p => ((p.1 : Int), dst x y p.2)).filterMap (refOf ⟨l, aper, (slow, slow)⟩ z) = (zipG z slow x y P j).map fun a => ((a.1 : Int), a.2.2)
  | [], j, _ => rfl
  | (q, e) :: r, j, h => by
    have h1 := h (q, e) (by simp)
    have ih := named_zip (aper := aper) (slow := slow) (x := x) (y := y) (z := z) r (j + 1) (fun p hp => h p (List.mem_cons_of_mem _ hp))
    simp only [List.map_cons, List.filterMap_cons, refOf, Int.toNat_natCast, h1, Option.map_some, Option.getD_some, zipG]
    by_cases ht : timeN z (dst x y e) slow < (e.s.length : Int)
    · simp only [ht, if_true, List.map_cons]
      rw [← ih]
    · simp only [ht, if_false]
      rw [← ih]

theorem named_near {aper slow x y z : Int} {nl : List Echo} : ∀ (P : List (Nat × Echo)) (j : Nat), (∀ i (h : i < P.length), nl[j + i]? = some P[i].2) → (∀ p ∈ P, hears aper x y p.2 = true) →
    (nears aper x y (P.map (·.2)) j).filterMap (refOf ⟨nl, aper, (slow, slow)⟩ z) = (zipG z slow x y P j).map fun a => ((a.2.1 : Int), a.2.2)
  | [], j, _, _ => rfl
  | (q, e) :: r, j, h, hh => by
    have h0 : hears aper x y e = true := hh (q, e) (by simp)
    have h1 : nl[j]? = some e := h 0 (by simp)
    have ih := named_near (aper := aper) (slow := slow) (x := x) (y := y) (z := z) (nl := nl) r (j + 1) (fun i hi => by
      have := h (i + 1) (by simpa using hi)
      rw [show j + 1 + i = j + (i + 1) by omega]; simpa using this) (fun p hp => hh p (List.mem_cons_of_mem _ hp))
    simp only [List.map_cons, nears, h0, if_true, List.filterMap_cons, refOf, Int.toNat_natCast, h1, Option.map_some, Option.getD_some, zipG]
    by_cases ht : timeN z (dst x y e) slow < (e.s.length : Int)
    · simp only [ht, if_true, List.map_cons]
      rw [← ih]
    · simp only [ht, if_false]
      rw [← ih]

theorem zipG_spec {z slow x y : Int} : ∀ {P : List (Nat × Echo)} {j : Nat} {a : Nat × Nat × Int}, a ∈ zipG z slow x y P j → ∃ e, j ≤ a.2.1 ∧ P[a.2.1 - j]? = some (a.1, e) ∧ a.2.2 = timeN z (dst x y e) slow ∧ a.2.2 < (e.s.length : Int)
  | [], j, a, h => by simp [zipG] at h
  | (q, e) :: r, j, a, h => by
    have hrec : a ∈ zipG z slow x y r (j + 1) → ∃ e', j ≤ a.2.1 ∧ ((q, e) :: r)[a.2.1 - j]? = some (a.1, e') ∧ a.2.2 = timeN z (dst x y e') slow ∧ a.2.2 < (e'.s.length : Int) := fun h => by
      obtain ⟨e', h1, h2, h3, h4⟩ := zipG_spec h
      refine ⟨e', by omega, ?_, h3, h4⟩
      rw [show a.2.1 - j = (a.2.1 - (j + 1)) + 1 by omega]; simpa using h2
    unfold zipG at h
    split at h
    · rename_i ht
      rcases List.mem_cons.1 h with rfl | h
      · exact ⟨e, Nat.le_refl _, by simp, rfl, ht⟩
      · exact hrec h
    · exact hrec h

theorem pick_sorted {aper x y : Int} : ∀ (l : List Echo) (k : Nat), (pickE aper x y l k).Pairwise fun a b => a.1 < b.1
  | [], k => by simp [pickE]
  | e :: r, k => by
    unfold pickE
    split
    · refine List.pairwise_cons.2 ⟨fun p hp => ?_, pick_sorted r (k + 1)⟩
      have := (pickE_spec hp).1
      show k < p.1
      omega
    · exact pick_sorted r (k + 1)

theorem zip_sorted {z slow x y : Int} : ∀ (P : List (Nat × Echo)) (j : Nat), (P.Pairwise fun a b => a.1 < b.1) → (zipG z slow x y P j).Pairwise fun a b => a.1 < b.1
  | [], j, _ => by simp [zipG]
  | (q, e) :: r, j, h => by
    obtain ⟨h1, h2⟩ := List.pairwise_cons.1 h
    unfold zipG
    split
    · refine List.pairwise_cons.2 ⟨fun a ha => ?_, zip_sorted r (j + 1) h2⟩
      obtain ⟨e', _, g, _⟩ := zipG_spec ha
      exact h1 _ (List.mem_of_getElem? g)
    · exact zip_sorted r (j + 1) h2

/-- What is named among all, and among the near ones. -/
structure FarR (l : List Echo) (aper slow x y z : Int) (nl : List Echo) (wh : List Int) (A B : List (Int × Int)) : Prop where
  len : A.length = B.length
  each : ∀ i (h : i < A.length) (h' : i < B.length), ∃ (q t j : Nat) (hq : q < l.length) (ht : t < l[q].s.length) (hj : j < wh.length), A[i] = ((q : Int), (t : Int)) ∧ B[i] = ((j : Int), (t : Int)) ∧ wh[j] = (q : Int) ∧ boundAt ⟨l, aper, (slow, slow)⟩ A[i] = l[q].s[t]
  up : ∀ i j (h : i < A.length) (h' : j < A.length), i < j → A[i].1 < A[j].1
  named : namedL ⟨l, aper, (slow, slow)⟩ x y z = A
  namedN : namedL ⟨nl, aper, (slow, slow)⟩ x y z = B
  value : valueB ⟨nl, aper, (slow, slow)⟩ x y z = valueB ⟨l, aper, (slow, slow)⟩ x y z

theorem far_of (l : List Echo) (aper slow x y z : Int) : ∃ A B, FarR l aper slow x y z ((pickE aper x y l 0).map (·.2)) ((pickE aper x y l 0).map fun p => (p.1 : Int)) A B := by
  have hP : ∀ p ∈ pickE aper x y l 0, l[p.1]? = some p.2 := fun p hp => by simpa using (pickE_spec hp).2.1
  have hH : ∀ p ∈ pickE aper x y l 0, hears aper x y p.2 = true := fun p hp => (pickE_spec hp).2.2
  have e1 : namedL ⟨l, aper, (slow, slow)⟩ x y z = (zipG z slow x y (pickE aper x y l 0) 0).map fun a => ((a.1 : Int), a.2.2) := by
    unfold namedL
    rw [nears_pick]
    exact named_zip (x := x) (y := y) _ 0 hP
  have e2 : namedL ⟨(pickE aper x y l 0).map (·.2), aper, (slow, slow)⟩ x y z = (zipG z slow x y (pickE aper x y l 0) 0).map fun a => ((a.2.1 : Int), a.2.2) := by
    unfold namedL
    exact named_near _ 0 (fun i h => by rw [Nat.zero_add, List.getElem?_map, List.getElem?_eq_getElem h]; rfl) hH
  have hz : ∀ a ∈ zipG z slow x y (pickE aper x y l 0) 0, ∃ (t j : Nat) (e : Echo) (hj : j < (pickE aper x y l 0).length) (ht : t < e.s.length), a = (a.1, j, (t : Int)) ∧ (pickE aper x y l 0)[j] = (a.1, e) := fun a ha => by
    obtain ⟨e, h1, h2, h3, h4⟩ := zipG_spec ha
    have h5 := timeN_nn z (dst x y e) slow
    rw [Nat.sub_zero] at h2
    have hj := (List.getElem?_eq_some_iff.1 h2).1
    obtain ⟨t, ht⟩ : ∃ t : Nat, a.2.2 = (t : Int) := ⟨a.2.2.toNat, by omega⟩
    refine ⟨t, a.2.1, e, hj, by omega, ?_, (List.getElem?_eq_some_iff.1 h2).2⟩
    rw [← ht]
  have bnd : ∀ a ∈ zipG z slow x y (pickE aper x y l 0) 0, boundAt ⟨(pickE aper x y l 0).map (·.2), aper, (slow, slow)⟩ ((a.2.1 : Int), a.2.2) = boundAt ⟨l, aper, (slow, slow)⟩ ((a.1 : Int), a.2.2) := fun a ha => by
    obtain ⟨t, j, e, hj, ht, h1, h2⟩ := hz a ha
    have h3 : (a.1, e) ∈ pickE aper x y l 0 := h2 ▸ List.getElem_mem hj
    have h4 := hP _ h3
    rw [h1]
    simp only [boundAt, Int.toNat_natCast, List.getElem?_map, List.getElem?_eq_getElem hj, h2, h4, Option.map_some]
  refine ⟨_, _, ⟨by rw [List.length_map, List.length_map], fun i h h' => ?_, fun i j h h' hij => ?_, e1, e2, ?_⟩⟩
  · rw [List.length_map] at h
    obtain ⟨t, j, e, hj, ht, h1, h2⟩ := hz _ (List.getElem_mem h)
    obtain ⟨q0, hq0⟩ : ∃ q0, (zipG z slow x y (pickE aper x y l 0) 0)[i].1 = q0 := ⟨_, rfl⟩
    rw [hq0] at h1 h2
    have h3 : l[q0]? = some e := hP _ (h2 ▸ List.getElem_mem hj)
    obtain ⟨hq, h4⟩ := List.getElem?_eq_some_iff.1 h3
    subst h4
    refine ⟨_, t, j, hq, ht, by simpa using hj, ?_, ?_, ?_, ?_⟩
    · rw [List.getElem_map, h1]
    · rw [List.getElem_map, h1]
    · rw [List.getElem_map, h2]
    · rw [List.getElem_map, h1]
      simp only [boundAt, Int.toNat_natCast, h3, Option.map_some, Option.getD_some, List.getElem?_eq_getElem ht]
  · rw [List.length_map] at h h'
    rw [List.getElem_map, List.getElem_map]
    have := List.pairwise_iff_getElem.1 (zip_sorted (z := z) (slow := slow) (x := x) (y := y) _ 0 (pick_sorted l 0 (aper := aper) (x := x) (y := y))) i j h h' hij
    exact Int.ofNat_lt.2 this
  · unfold valueB
    rw [e1, e2, List.map_map, List.map_map]
    congr 1
    exact List.map_congr_left fun a ha => bnd a ha

theorem pickE_append (aper x y : Int) : ∀ (a b : List Echo) (k : Nat), pickE aper x y (a ++ b) k = pickE aper x y a k ++ pickE aper x y b (k + a.length)
  | [], b, k => by simp [pickE]
  | e :: r, b, k => by
    have ih := pickE_append aper x y r b (k + 1)
    simp only [List.cons_append, pickE, ih, List.length_cons]
    rw [show k + 1 + r.length = k + (r.length + 1) by omega]
    split
    · rfl
    · rfl

theorem pickE_take {aper x y : Int} {l : List Echo} {i : Nat} (h : i < l.length) : pickE aper x y (l.take (i + 1)) 0 = pickE aper x y (l.take i) 0 ++ if hears aper x y l[i] then [(i, l[i])] else [] := by
  rw [List.take_add_one, List.getElem?_eq_getElem h, pickE_append]
  simp only [Option.toList, pickE, List.length_take, Nat.zero_add, Nat.min_eq_left (Nat.le_of_lt h)]

theorem pickE_len {aper x y : Int} : ∀ (l : List Echo) (k : Nat), (pickE aper x y l k).length ≤ l.length
  | [], k => by simp [pickE]
  | e :: r, k => by
    have := pickE_len (aper := aper) (x := x) (y := y) r (k + 1)
    unfold pickE
    split <;> simp <;> omega

/-! ### Contracts -/
attribute [local simp] cells scalar mkv splice under2 under dem dem1 eB

theorem c_EqualR (l l' : List (Int × Int)) (hl : l.length ≤ 9223372036854775807) : C Try.prog F.slices_Equal_api_Ref_api_Ref [.slice 0 2 (l.map eB), .slice 0 2 (l'.map eB)] (.bool (decide (l = l'))) := by
  refine C_of mixed chk.slices_Equal_api_Ref_api_Ref (by simp) fun S ok => ?_
  refine Tr.seqR rfl (by simp) (Tr.seq (Tr.seqR rfl (by simp) ?_))
  refine Tr.cond rfl rfl (fun h1 => Tr.seqR rfl (by simp) (Tr.retX rfl rfl rfl ?_ trivial)) (fun h1 => Tr.skip ?_)
  · have h1 : (((l.map eB).length : Int) != ((l'.map eB).length : Int)) = true := h1
    simp only [packR, V.bool.injEq]
    rw [decide_eq_false]
    rintro rfl
    simp at h1
  have h1 : (((l.map eB).length : Int) != ((l'.map eB).length : Int)) = false := h1
  have hll : l.length = l'.length := by simp at h1; omega
  refine Tr.seq (Tr.seqR rfl (by simp) (Tr.block ?_))
  refine Tr.loop (fun k st => (k ≤ l.length ∧ l.take k = l'.take k) ∧ st = { env := [(0, .slice 0 2 (l.map eB)), (1, .slice 0 2 (l'.map eB)), (12, I l.length), (13, I k)], bx := [], rw := [], log := [], stp := false }) (fun k => l.length - k) 0
    (Wk.le (.cons rfl (.refl _) (.cons rfl (.refl _) (.cons rfl (VLe.i (by simp)) (.cons rfl (.refl _) .nil)))) .nil .nil rfl rfl) ⟨⟨by omega, by simp⟩, rfl⟩ ?_
  rintro k st ⟨⟨hk, he⟩, rfl⟩
  refine Tr.seqR rfl (by simp) (Tr.seqI rfl (fun h3 => ?_) (fun h3 => ?_))
  · have h3 : k < l.length := by simpa using h3
    have h4 : k < l'.length := by omega
    refine Tr.skipT (Tr.seq (Tr.block (Tr.seqR rfl (by simp) (Tr.seq (Tr.drawK (TraceK.runN 3 rfl (by simp; omega) ?_))))))
    rw [getD_map h3]
    refine TraceK.runN 4 rfl (by simp; omega) ?_
    rw [getD_map h4]
    refine TraceK.run rfl (by simp) (.done ⟨by kernel_rfl, by kernel_rfl, ?_⟩)
    refine Tr.cond rfl rfl (fun h5 => Tr.seqR rfl (by simp) (Tr.retX rfl rfl rfl ?_ trivial)) (fun h5 => Tr.skip (Tr.regR rfl (by simp) ?_))
    · have h5 : (!(l[k].1 == l'[k].1 && (l[k].2 == l'[k].2 && true))) = true := h5
      rw [eB_inj] at h5
      simp only [packR, V.bool.injEq]
      rw [decide_eq_false]
      rintro rfl
      simp at h5
    · have h5 : (!(l[k].1 == l'[k].1 && (l[k].2 == l'[k].2 && true))) = false := h5
      rw [eB_inj] at h5
      have h5 : l[k] = l'[k] := by simpa using h5
      exact ⟨k + 1, _, Wk.le (.cons rfl (.refl _) (.cons rfl (.refl _) (.cons rfl (.refl _) (.cons rfl (VLe.i (w64 (by omega) (by omega))) .nil)))) .nil .nil rfl rfl, ⟨⟨h3, take_ext h3 h4 he h5⟩, rfl⟩, by omega⟩
  · have h3 : k = l.length := by simp at h3; omega
    subst h3
    refine Tr.exit (Tr.seqR rfl (by simp) (Tr.retX rfl rfl rfl ?_ trivial))
    rw [List.take_length, hll, List.take_length] at he
    simp [packR, he]

theorem c_Verify {l : List Echo} (hl : sane l) (x y z aper slow : Int) {a b c e : Int} {s s' : Int × Int} {r r' : List (Int × Int)} (hN : nameS l x y z aper slow = .tuple [.agg [I a, I b, I c, .slice 0 2 (r.map eB), I s.1, I s.2], I e]) (hr : r.length ≤ 9223372036854775807) :
    C Try.prog F.volume_Verify [sE l, I aper, I slow, .agg [I x, I y, I z, .slice 0 2 (r'.map eB), I s'.1, I s'.2]] (.tuple [.bool (decide (e = 0) && decide (s = s' ∧ r = r')), I e]) := by
  refine C_of mixed chk.volume_Verify (by simp) fun S ok => ?_
  refine Tr.seqR rfl (by simp) ?_
  refine Tr.seqC rfl (by simp) (Steps.call rfl rfl (hN ▸ c_NameS hl x y z aper slow) (Steps.fin rfl (by simp) ?_))
  refine Tr.seq (Tr.seqR rfl (by simp) (Tr.cond rfl rfl (fun h => Tr.seqR rfl (by simp) (Tr.retX rfl rfl rfl ?_ trivial)) (fun h => Tr.skip ?_)))
  · have h : (e != 0) = true := h
    have h : e ≠ 0 := by simpa using h
    simp [packR, h]
  have h : (e != 0) = false := h
  have h : e = 0 := by simpa using h
  subst h
  refine Tr.seqC rfl (by simp) (Steps.gcall rfl rfl rfl rfl (by simp) (fun _ => c_EqualR r r' hr) (Steps.fin rfl (by simp) (Tr.retX rfl rfl rfl ?_ trivial)))
  have e1 : (bif (s.1 == s'.1 && (s.2 == s'.2 && true)) then decide (r = r') else false) = (decide ((0 : Int) = 0) && decide (s = s' ∧ r = r')) := by
    rw [eB_inj]
    by_cases h1 : s = s' <;> by_cases h2 : r = r' <;> simp [h1, h2]
  show _ = V.tuple [.bool (bif (s.1 == s'.1 && (s.2 == s'.2 && true)) then decide (r = r') else false), I 0]
  rw [e1]

theorem c_added (a b : Int × Int) : C Try.prog F.law10_added [eB a, eB b] (eB (plusB a b)) := by
  refine C_of mixed chk.law10_added (by simp) fun S ok => ?_
  refine Tr.seqR rfl (by simp) ?_
  exact Tr.seqR rfl (by simp) (Tr.retQ rfl rfl rfl trivial)

end Go.Proofs.Ytkifejklnpddbaa

/-! The law VolumeLinear. -/
set_option linter.unusedVariables false
set_option linter.unusedSimpArgs false
set_option maxRecDepth 20000
set_option maxHeartbeats 4000000
namespace Go.Proofs.Ytkifejklnpddbaa
open Go.Am
attribute [local simp] cells scalar mkv splice under2 under dem dem1 boxC cellC eE sB eB

/-- Sums so far. -/
def flatB (L : List (Int × Int)) : List V := L.flatMap fun a => [I a.1, I a.2]

theorem flatB_len (L : List (Int × Int)) : (flatB L).length = 2 * L.length := by
  unfold flatB
  induction L with
  | nil => rfl
  | cons a L ih => rw [List.flatMap_cons, List.length_append, ih]; simp; omega

theorem flatB_drop : ∀ (L : List (Int × Int)) (k : Nat), List.drop (2 * k) (flatB L) = flatB (L.drop k)
  | L, 0 => by simp
  | [], k + 1 => by simp [flatB]
  | a :: L, k + 1 => by
    have e : flatB (a :: L) = I a.1 :: I a.2 :: flatB L := rfl
    rw [e, show 2 * (k + 1) = 2 * k + 1 + 1 by omega, List.drop_succ_cons, List.drop_succ_cons, List.drop_succ_cons, flatB_drop L k]

theorem flatB_take : ∀ (L : List (Int × Int)) (k : Nat), List.take (2 * k) (flatB L) = flatB (L.take k)
  | L, 0 => by simp [flatB]
  | [], k + 1 => by simp [flatB]
  | a :: L, k + 1 => by
    have e : flatB (a :: L) = I a.1 :: I a.2 :: flatB L := rfl
    rw [e, show 2 * (k + 1) = 2 * k + 1 + 1 by omega, List.take_succ_cons, List.take_succ_cons, List.take_succ_cons, flatB_take L k]
    rfl

theorem flatB_app (L M : List (Int × Int)) : flatB (L ++ M) = flatB L ++ flatB M := by
  unfold flatB; rw [List.flatMap_append]

theorem flatB_set (L : List (Int × Int)) (k : Nat) (hk : k < L.length) (c : Int × Int) : List.take (2 * k) (flatB L) ++ [I c.1, I c.2] ++ List.drop (2 * k + 2) (flatB L) = flatB (L.take k ++ c :: L.drop (k + 1)) := by
  rw [flatB_take, show 2 * k + 2 = 2 * (k + 1) by omega, flatB_drop, flatB_app, List.append_assoc]
  rfl

theorem flatB_refs (L : List (Int × Int)) (B : Nat → Bool) (R : Nat → Option (Nat × Nat × Nat)) : (flatB L).all (refsOk B R 6) = true := by
  rw [List.all_eq_true]
  intro x hx
  obtain ⟨a, _, h⟩ := List.mem_flatMap.1 hx
  rcases List.mem_cons.1 h with rfl | h
  · rfl
  · rw [List.mem_singleton] at h; subst h; rfl

theorem ok183 {L : List (Int × Int)} {env : List (Nat × V)} {bx : List (Nat × Box)} {rw : List (Nat × Nat × Nat × Nat)} (h : okRefs env ((183, ⟨[], false⟩) :: bx) rw = true) : okRefs env ((183, ⟨flatB L, false⟩) :: bx) rw = true := by
  have e : hasKey ((183, (⟨flatB L, false⟩ : Box)) :: bx) = hasKey ((183, (⟨[], false⟩ : Box)) :: bx) := rfl
  unfold okRefs at h ⊢
  rw [e]
  rw [Bool.and_eq_true] at h ⊢
  refine ⟨h.1, ?_⟩
  have h2 := h.2
  rw [List.all_cons, Bool.and_eq_true] at h2 ⊢
  exact ⟨flatB_refs _ _ _, h2.2⟩

theorem flatB_zero (n : Nat) : (List.replicate n [I 0, I 0]).flatten = flatB (List.replicate n (0, 0)) := by
  induction n with
  | zero => rfl
  | succ n ih => rw [List.replicate_succ, List.flatten_cons, ih]; rfl

/-- What Migrate returns for a box, if all is in order. -/
theorem val_ok {l : List Echo} {b : Bx} {aper slow : Int} (hE : echoesOk l = true) (hA : earOk aper (slow, slow) = true) (hb : boxOk b = true) : valS l b aper slow = .tuple [.agg [I b.x, I b.y, I b.z, I b.a, I b.b, I b.c, .slice 0 2 (((boxCells b).map (valOf l aper slow)).map eB)], I 0] := by
  show boxR _ _ _ _ _ _ = _
  unfold boxR imageR
  rw [if_pos hE, if_pos hA, if_pos hb, List.map_map]
  rfl

theorem sane_of {l : List Echo} (h : echoesOk l = true) : sane l := by
  obtain ⟨h1, h2⟩ := echoesOk_spec h
  exact ⟨by omega, fun e he => by have := (echoOk_spec (h2 e he)).2.1; omega⟩

theorem c_VolumeLinear {l : List Echo} {more : List Int} (hl : sane l) (hm : more.length ≤ 9223372036854775807) (b : Bx) (aper : Int) (slow : Int × Int) : C Try.prog F.law10_VolumeLinear [sE l, intsV more, .agg [I b.x, I b.y, I b.z, I b.a, I b.b, I b.c, I aper, I slow.1, I slow.2]] (.bool true) := by
  refine C_of mixed chk.law10_VolumeLinear (by simp) fun S ok => ?_
  refine Tr.seqR rfl (by simp) ?_
  have k1 := c_Migrate hl b aper slow.1
  by_cases hOk : (echoesOk l = true ∧ earOk aper (slow.1, slow.1) = true ∧ boxOk b = true)
  rotate_left
  · obtain ⟨e, he, hr⟩ : ∃ e : Int, e ≠ 0 ∧ valS l b aper slow.1 = .tuple [.agg [I 0, I 0, I 0, I 0, I 0, I 0, .slice 0 2 []], I e] := by
      show ∃ e : Int, e ≠ 0 ∧ boxR _ _ _ _ _ _ = _
      unfold boxR imageR
      by_cases h1 : echoesOk l = true
      · rw [if_pos h1]
        by_cases h2 : earOk aper (slow.1, slow.1) = true
        · rw [if_pos h2]
          by_cases h3 : boxOk b = true
          · exact absurd ⟨h1, h2, h3⟩ hOk
          · rw [if_neg h3]; exact ⟨102, by omega, rfl⟩
        · rw [if_neg h2]; exact ⟨102, by omega, rfl⟩
      · rw [if_neg h1]; exact ⟨100, by omega, rfl⟩
    rw [hr] at k1
    refine Tr.seqC rfl (by simp) (Steps.call rfl rfl k1 (Steps.fin rfl (by simp) ?_))
    refine Tr.seq (Tr.seqR rfl (by simp) (Tr.cond rfl rfl (fun _ => ?_) (fun h => ?_)))
    · refine Tr.seqC rfl (by simp) (Steps.gcall rfl rfl rfl rfl (by simp) (fun _ => c_works) (Steps.fin rfl (by simp) (Tr.retX rfl rfl rfl ?_ trivial)))
      simp [packR]
    · have h : (e != 0) = false := h
      simp at h; exact absurd h he
  obtain ⟨hE, hA, hB⟩ := hOk
  obtain ⟨hE1, hE2⟩ := echoesOk_spec hE
  have hcl := boxCells_len (boxOk_spec hB).1
  rw [val_ok hE hA hB] at k1
  obtain ⟨AL, hAL⟩ : ∃ AL, (boxCells b).map (valOf l aper slow.1) = AL := ⟨_, rfl⟩
  have hALl : AL.length = (boxCells b).length := by rw [← hAL, List.length_map]
  rw [hAL] at k1
  refine Tr.seqC rfl (by simp) (Steps.call rfl rfl k1 (Steps.fin rfl (by simp) ?_))
  refine Tr.seq (Tr.seqR rfl (by simp) (Tr.condF rfl (Tr.skip ?_)))
  refine Tr.seqR rfl (by simp) (Tr.seq (Tr.seqR rfl (by simp) (Tr.block ?_)))
  refine Tr.loop (fun i s => i ≤ l.length ∧ s = { env := [(0, sE l), (1, intsV more), (5, .ptr 5 0), (7, .ptr 7 0), (9, .slice 123 3 ((List.range i).map fun i => eE (othE more l i))), (10, .slice 127 3 ((List.range i).map fun i => eE (botE more l i))), (11, I i)], bx := [(5, ⟨[I b.x, I b.y, I b.z, I b.a, I b.b, I b.c, I aper, I slow.1, I slow.2], false⟩), (7, ⟨[I b.x, I b.y, I b.z, I b.a, I b.b, I b.c, .slice 0 2 (AL.map eB)], false⟩)], rw := [(122, i, 3, 79), (126, i, 3, 79)], log := [], stp := false }) (fun i => l.length - i) 0
    (Wk.le (.cons rfl (.refl _) (.cons rfl (.refl _) (.cons rfl (.refl _) (.cons rfl (.refl _) (.cons rfl (.nil 123 3) (.cons rfl (.nil 127 3) (.cons rfl (.refl _) .nil)))))))
      (.cons rfl (LLe.refl _) (.cons rfl (LLe.refl _) .nil)) (.new rfl (.new rfl .nil)) rfl rfl) ⟨by omega, rfl⟩ ?_
  rintro i s ⟨hi, rfl⟩
  refine Tr.seq (Tr.seqR rfl (by simp [sE]) (Tr.cond rfl rfl (fun h3 => Tr.skip ?_) (fun h3 => Tr.exit ?_)))
  · have h3 : i < l.length := by simpa [sE] using h3
    have el := echoAt_eq h3
    obtain ⟨⟨x, y, es⟩, hx⟩ : ∃ e, l[i] = e := ⟨_, rfl⟩
    rw [hx] at el
    have hsl : es.length ≤ 64 := by
      have := (echoOk_spec (hE2 _ (List.getElem_mem h3))).2.1
      rw [hx] at this; exact this.2
    refine Tr.seq (Tr.block (Tr.seq (Tr.drawK (TraceK.runN 3 rfl (by simp [sE]; omega) ?_))))
    rw [getD_map h3, hx]
    refine TraceK.runN 5 rfl (by simp [sE]; omega) ?_
    rw [getD_map h3, hx]
    refine TraceK.runN 6 rfl (by simp [sE]; omega) ?_
    rw [getD_map h3, hx]
    refine TraceK.runN 5 rfl (by simp [sE]; omega) ?_
    rw [getD_map h3, hx]
    refine TraceK.run rfl (by simp) (.done ⟨by kernel_rfl, by kernel_rfl, ?_⟩)
    refine Tr.seq (Tr.seqR rfl (by simp) (Tr.block ?_))
    refine Tr.loop (fun k s => k ≤ es.length ∧ s = { env := [(0, sE l), (1, intsV more), (5, .ptr 5 0), (7, .ptr 7 0), (9, .slice 123 3 ((List.range i).map fun i => eE (othE more l i))), (10, .slice 127 3 ((List.range i).map fun i => eE (botE more l i))), (11, I i), (12, .ptr 12 0), (13, .ptr 13 0), (14, I k)], bx := [(5, ⟨[I b.x, I b.y, I b.z, I b.a, I b.b, I b.c, I aper, I slow.1, I slow.2], false⟩), (7, ⟨[I b.x, I b.y, I b.z, I b.a, I b.b, I b.c, .slice 0 2 (AL.map eB)], false⟩), (12, ⟨[I x, I y, .slice 101 2 ((othS more i k).map eB)], false⟩), (13, ⟨[I x, I y, .slice 118 2 ((botS more i es k).map eB)], false⟩)], rw := [(122, i, 3, 79), (126, i, 3, 79), (100, k, 2, 33), (117, k, 2, 33)], log := [], stp := false }) (fun k => es.length - k) 0
      (Wk.le (.cons rfl (.refl _) (.cons rfl (.refl _) (.cons rfl (.refl _) (.cons rfl (.refl _) (.cons rfl (.refl _) (.cons rfl (.refl _) (.cons rfl (.refl _) (.cons rfl (.refl _) (.cons rfl (.refl _) (.cons rfl (.refl _) .nil))))))))))
        (.cons rfl (LLe.refl _) (.cons rfl (LLe.refl _) (.cons rfl (.cons (.refl _) (.cons (.refl _) (.cons (.nil 101 2) .nil))) (.cons rfl (.cons (.refl _) (.cons (.refl _) (.cons (.nil 118 2) .nil))) .nil)))) (.cons rfl (.cons rfl (.new rfl (.new rfl .nil)))) rfl rfl) ⟨by omega, rfl⟩ ?_
    rintro k s ⟨hk, rfl⟩
    refine Tr.seq (Tr.seqN 4 rfl (by simp [sE]; omega) ?_)
    rw [getD_map h3, hx]
    refine Steps.fin rfl (by simp) (Tr.cond rfl rfl (fun h4 => Tr.skip ?_) (fun h4 => Tr.exit ?_))
    rotate_left
    · have h4 : k = es.length := by simp at h4; omega
      subst h4
      refine Tr.drawR rfl (by simp [othS, botS]; omega) (by kernel_rfl) (Tr.regR rfl (by simp) ?_)
      refine ⟨i + 1, _, Wk.le (.cons rfl (.refl _) (.cons rfl (.refl _) (.cons rfl (.refl _) (.cons rfl (.refl _) (.cons rfl (.of_eq ?_) (.cons rfl (.of_eq ?_) (.cons rfl (VLe.i (w64 (by omega) (by omega))) .nil)))))))
        (.cons rfl (LLe.refl _) (.cons rfl (LLe.refl _) .nil)) (.cons ?_ (.cons ?_ .nil)) rfl rfl, ⟨h3, rfl⟩, by omega⟩
      · rw [List.range_succ, List.map_append, List.map_cons, List.map_nil, othE, el]; simp
      · rw [List.range_succ, List.map_append, List.map_cons, List.map_nil, botE, el]; simp
      · show some _ = some _
        simp
      · show some _ = some _
        simp
    have h4 : k < es.length := by simpa using h4
    have hpick := c_Pick more (5 * (i : Int) + (k : Int)) hm
    have hidx : IntKind.i64.wrap (IntKind.i64.wrap (5 * (i : Int)) + (k : Int)) = 5 * (i : Int) + (k : Int) := by rw [w64 (n := 5 * (i : Int)) (by omega) (by omega)]; exact w64 (by omega) (by omega)
    have hnb := restI_bd (n := pickI more (5 * (i : Int) + (k : Int))) (m := 2001) (by omega)
    have hno : IntKind.i64.wrap (restI (pickI more (5 * (i : Int) + (k : Int))) 2001 - 1000) = noiseI more i k := w64 (by omega) (by omega)
    rw [← hidx] at hpick
    refine Tr.seq (Tr.block (Tr.seqC rfl (by simp [intsV]) (Steps.call rfl rfl hpick ?_)))
    rw [hidx]
    refine Steps.call rfl rfl (c_Rest _ 2001 (by omega)) (Steps.fin rfl (by simp) ?_)
    rw [hno]
    have eo : othS more i (k + 1) = othS more i k ++ [(noiseI more i k, noiseI more i k)] := by unfold othS; rw [List.range_succ, List.map_append]; rfl
    have eb : botS more i es (k + 1) = botS more i es k ++ [plusB es[k] (noiseI more i k, noiseI more i k)] := by
      unfold botS; rw [List.range_succ, List.map_append]
      simp [List.getElem?_eq_getElem h4]
    refine Tr.seqR rfl (by simp [othS]; omega) ?_
    refine Tr.drawK (TraceK.runN 5 rfl (by simp [sE]; omega) ?_)
    rw [getD_map h3, hx]
    refine TraceK.runN 4 rfl (by simp; omega) ?_
    rw [getD_map h4]
    refine TraceK.run rfl (by simp) (TraceK.call rfl rfl (c_added es[k] (noiseI more i k, noiseI more i k)) (TraceK.run rfl (by simp [botS]; omega) (.done ⟨by kernel_rfl, by kernel_rfl, ?_⟩)))
    refine Tr.regR rfl (by simp) ?_
    refine ⟨k + 1, _, Wk.le (.cons rfl (.refl _) (.cons rfl (.refl _) (.cons rfl (.refl _) (.cons rfl (.refl _) (.cons rfl (.refl _) (.cons rfl (.refl _) (.cons rfl (.refl _) (.cons rfl (.refl _) (.cons rfl (.refl _) (.cons rfl (VLe.i (w64 (by omega) (by omega))) .nil))))))))))
      (.cons rfl (LLe.refl _) (.cons rfl (LLe.refl _) (.cons rfl (.cons (.refl _) (.cons (.refl _) (.cons (.of_eq ?_) .nil))) (.cons rfl (.cons (.refl _) (.cons (.refl _) (.cons (.of_eq ?_) .nil))) .nil)))) (.cons rfl (.cons rfl (.cons ?_ (.cons ?_ .nil)))) rfl rfl, ⟨h4, rfl⟩, by omega⟩
    · rw [eo]; simp
    · rw [eb]; simp
    · show some _ = some _
      simp [othS]
    · show some _ = some _
      simp [botS]
  have h3 : i = l.length := by simp [sE] at h3; omega
  subst h3
  obtain ⟨oL, hoL⟩ : ∃ oL, (List.range l.length).map (othE more l) = oL := ⟨_, rfl⟩
  obtain ⟨bL, hbL⟩ : ∃ bL, (List.range l.length).map (botE more l) = bL := ⟨_, rfl⟩
  have eo : ((List.range l.length).map fun i => eE (othE more l i)) = oL.map eE := by rw [← hoL, List.map_map]; rfl
  have eb : ((List.range l.length).map fun i => eE (botE more l i)) = bL.map eE := by rw [← hbL, List.map_map]; rfl
  have hadd : ∀ p, valOf bL aper slow.1 p = plusB (valOf l aper slow.1 p) (valOf oL aper slow.1 p) := fun p => by rw [← hbL, ← hoL]; exact value_add more l aper slow.1 p
  have hoE : echoesOk oL = true := by rw [← hoL]; exact oth_ok hE
  have hbS : sane bL := by
    rw [← hbL]
    refine ⟨by simp; omega, fun e he => ?_⟩
    obtain ⟨i, hi, rfl⟩ := List.mem_map.1 he
    have hi : i < l.length := by simpa using hi
    have := (echoOk_spec (hE2 _ (List.getElem_mem hi))).2.1
    simp [botE, botS, echoAt_eq hi]; omega
  have k2 := c_Migrate (sane_of hoE) b aper slow.1
  have k3 := c_Migrate hbS b aper slow.1
  rw [val_ok hoE hA hB] at k2
  obtain ⟨BL, hBL⟩ : ∃ BL, (boxCells b).map (valOf oL aper slow.1) = BL := ⟨_, rfl⟩
  have hBLl : BL.length = AL.length := by rw [← hBL, List.length_map, hALl]
  rw [hBL] at k2
  refine Tr.weak (s' := { env := [(0, sE l), (5, .ptr 5 0), (7, .ptr 7 0), (9, sE oL), (10, sE bL)], bx := [(5, ⟨[I b.x, I b.y, I b.z, I b.a, I b.b, I b.c, I aper, I slow.1, I slow.2], false⟩), (7, ⟨[I b.x, I b.y, I b.z, I b.a, I b.b, I b.c, .slice 0 2 (AL.map eB)], false⟩)], rw := [], log := [], stp := false })
    (Wk.le (.cons rfl (.refl _) (.cons rfl (.refl _) (.cons rfl (.refl _) (.cons rfl (by rw [eo]; exact .dem _ _ _) (.cons rfl (by rw [eb]; exact .dem _ _ _) .nil)))))
      (.cons rfl (LLe.refl _) (.cons rfl (LLe.refl _) .nil)) .nil rfl rfl) ?_
  clear eo eb hoL hbL
  refine Tr.seqC rfl (by simp) (Steps.call rfl rfl k2 (Steps.fin rfl (by simp) ?_))
  by_cases hbE : echoesOk bL = true
  rotate_left
  · have hr : valS bL b aper slow.1 = .tuple [.agg [I 0, I 0, I 0, I 0, I 0, I 0, .slice 0 2 []], I 100] := by
      show boxR _ _ _ _ _ _ = _
      unfold boxR
      rw [if_neg hbE]; rfl
    rw [hr] at k3
    refine Tr.seqC rfl (by simp) (Steps.call rfl rfl k3 (Steps.fin rfl (by simp) ?_))
    refine Tr.seq (Tr.seqR rfl (by simp) (Tr.cond rfl rfl (fun h => ?_) (fun _ => Tr.skip ?_)))
    · exfalso; revert h; simp [hBLl]
    refine Tr.seq (Tr.seqR rfl (by simp) (Tr.condT rfl ?_))
    refine Tr.seqC rfl (by simp) (Steps.gcall rfl rfl rfl rfl (by simp) (fun _ => c_works) (Steps.fin rfl (by simp) (Tr.retX rfl rfl rfl ?_ trivial)))
    simp [packR]
  rw [val_ok hbE hA hB] at k3
  obtain ⟨CL, hCL⟩ : ∃ CL, (boxCells b).map (valOf bL aper slow.1) = CL := ⟨_, rfl⟩
  have hCLl : CL.length = AL.length := by rw [← hCL, List.length_map, hALl]
  rw [hCL] at k3
  have hsum : ∀ k (h1 : k < AL.length) (h2 : k < BL.length) (h3 : k < CL.length), CL[k] = plusB AL[k] BL[k] := by
    intro k h1 h2 h3
    subst hAL hBL hCL
    simp only [List.getElem_map]
    exact hadd _
  refine Tr.seqC rfl (by simp) (Steps.call rfl rfl k3 (Steps.fin rfl (by simp) ?_))
  refine Tr.seq (Tr.seqR rfl (by simp) (Tr.cond rfl rfl (fun h => ?_) (fun _ => Tr.skip ?_)))
  · exfalso; revert h; simp [hBLl]
  refine Tr.seq (Tr.seqR rfl (by simp) (Tr.condF rfl (Tr.skip ?_)))
  refine Tr.seq (Tr.seqR rfl (by simp) (Tr.cond rfl rfl (fun h => ?_) (fun _ => Tr.skip ?_)))
  · exfalso; revert h; simp [hCLl]
  refine Tr.seqR rfl (by simp; omega) (Tr.seq (Tr.seqR rfl (by simp) (Tr.block ?_)))
  have hz : (boxCells b).map (valOf [] aper slow.1) = List.replicate AL.length (0, 0) := by
    rw [hALl]
    generalize boxCells b = L
    induction L with
    | nil => rfl
    | cons p L ih => rw [List.map_cons, ih, List.length_cons, List.replicate_succ, value_gives]; rfl
  have hlen : ∀ i, ((boxCells b).map (valOf (l.take i) aper slow.1)).length = AL.length := fun i => by rw [List.length_map, hALl]
  refine Tr.loop (fun i s => i ≤ l.length ∧ s = { env := [(0, sE l), (5, .ptr 5 0), (7, .ptr 7 0), (16, .ptr 16 0), (17, .ptr 17 0), (19, .bsl 183 0 2 AL.length), (20, I i)], bx := [(183, ⟨flatB ((boxCells b).map (valOf (l.take i) aper slow.1)), false⟩), (5, ⟨[I b.x, I b.y, I b.z, I b.a, I b.b, I b.c, I aper, I slow.1, I slow.2], false⟩), (7, ⟨[I b.x, I b.y, I b.z, I b.a, I b.b, I b.c, .slice 0 2 (AL.map eB)], false⟩), (16, ⟨[I b.x, I b.y, I b.z, I b.a, I b.b, I b.c, .slice 0 2 (BL.map eB)], false⟩), (17, ⟨[I b.x, I b.y, I b.z, I b.a, I b.b, I b.c, .slice 0 2 (CL.map eB)], false⟩)], rw := [], log := [], stp := false }) (fun i => l.length - i) 0
    (Wk.le (.cons rfl (.refl _) (.cons rfl (.refl _) (.cons rfl (.refl _) (.cons rfl (.refl _) (.cons rfl (.refl _) (.cons rfl (.of_eq ?_) (.cons rfl (.refl _) .nil)))))))
      (.cons rfl ?_ (.cons rfl (LLe.refl _) (.cons rfl (LLe.refl _) (.cons rfl (LLe.refl _) (.cons rfl (LLe.refl _) .nil))))) .nil (ok183 rfl) rfl) ⟨by omega, rfl⟩ ?_
  · simp
  · rw [List.take_zero, hz, ← flatB_zero]; simp; exact LLe.refl _
  rintro i s ⟨hi, rfl⟩
  refine Tr.seq (Tr.seqR rfl (by simp [sE]) (Tr.cond rfl rfl (fun h3 => Tr.skip ?_) (fun h3 => Tr.exit ?_)))
  · have h3 : i < l.length := by simpa [sE] using h3
    have hslx : List.take ((IntKind.i64.wrap ((i : Int) + 1)).toNat - (i : Int).toNat) (List.drop (i : Int).toNat (l.map eE)) = [l[i]].map eE := by
      rw [w64 (by omega) (by omega), show ((i : Int) + 1).toNat - (i : Int).toNat = 1 by omega, Int.toNat_natCast, List.drop_eq_getElem_cons (by simpa using h3)]
      simp
    have hiE : echoesOk [l[i]] = true := by
      simp only [echoesOk, List.length_singleton, List.all_cons, List.all_nil, Bool.and_true, Bool.and_eq_true, decide_eq_true_eq]
      exact ⟨by omega, hE2 _ (List.getElem_mem h3)⟩
    have k4 := c_Migrate (sane_of hiE) b aper slow.1
    rw [val_ok hiE hA hB] at k4
    obtain ⟨OL, hOL⟩ : ∃ OL, (boxCells b).map (valOf [l[i]] aper slow.1) = OL := ⟨_, rfl⟩
    have hOLl : OL.length = AL.length := by rw [← hOL, List.length_map, hALl]
    rw [hOL] at k4
    refine Tr.seq (Tr.block (Tr.seq (Tr.drawK (TraceK.runN 5 rfl (by simp [sE]; rw [w64 (by omega) (by omega)]; omega) ?_))))
    rw [hslx]
    refine TraceK.run rfl (by simp) (TraceK.call rfl rfl k4 (TraceK.run rfl (by simp) (.done ⟨by kernel_rfl, by kernel_rfl, ?_⟩)))
    have hS : ∀ k (h1 : k < ((boxCells b).map (valOf (l.take i) aper slow.1)).length) (h2 : k < OL.length) (h4 : k < ((boxCells b).map (valOf (l.take (i + 1)) aper slow.1)).length), ((boxCells b).map (valOf (l.take (i + 1)) aper slow.1))[k] = plusB ((boxCells b).map (valOf (l.take i) aper slow.1))[k] OL[k] := by
      intro k h1 h2 h4
      subst hOL
      simp only [List.getElem_map]
      exact (value_take h3).symm
    have hS0 := hlen i
    have hS1 := hlen (i + 1)
    generalize (boxCells b).map (valOf (l.take i) aper slow.1) = S0 at hS hS0 ⊢
    generalize hS1e : (boxCells b).map (valOf (l.take (i + 1)) aper slow.1) = S1 at hS hS1
    refine Tr.seq (Tr.seqR rfl (by simp [allU]) (Tr.cond rfl rfl (fun h => ?_) (fun _ => Tr.skip ?_)))
    · exfalso; revert h; simp [hOLl]
    refine Tr.seqR rfl (by simp) (Tr.block ?_)
    refine Tr.loop (fun k s => k ≤ AL.length ∧ s = { env := [(0, sE l), (5, .ptr 5 0), (7, .ptr 7 0), (16, .ptr 16 0), (17, .ptr 17 0), (19, .bsl 183 0 2 AL.length), (20, I i), (21, .ptr 21 0), (23, I k)], bx := [(183, ⟨flatB (S1.take k ++ S0.drop k), false⟩), (5, ⟨[I b.x, I b.y, I b.z, I b.a, I b.b, I b.c, I aper, I slow.1, I slow.2], false⟩), (7, ⟨[I b.x, I b.y, I b.z, I b.a, I b.b, I b.c, .slice 0 2 (AL.map eB)], false⟩), (16, ⟨[I b.x, I b.y, I b.z, I b.a, I b.b, I b.c, .slice 0 2 (BL.map eB)], false⟩), (17, ⟨[I b.x, I b.y, I b.z, I b.a, I b.b, I b.c, .slice 0 2 (CL.map eB)], false⟩), (21, ⟨[I b.x, I b.y, I b.z, I b.a, I b.b, I b.c, .slice 0 2 (OL.map eB)], false⟩)], rw := [], log := [], stp := false }) (fun k => AL.length - k) 0
      (Wk.le (.cons rfl (.refl _) (.cons rfl (.refl _) (.cons rfl (.refl _) (.cons rfl (.refl _) (.cons rfl (.refl _) (.cons rfl (.refl _) (.cons rfl (.refl _) (.cons rfl (.refl _) (.cons rfl (.refl _) .nil)))))))))
        (.cons rfl ?_ (.cons rfl (LLe.refl _) (.cons rfl (LLe.refl _) (.cons rfl (LLe.refl _) (.cons rfl (LLe.refl _) (.cons rfl (LLe.refl _) .nil)))))) .nil (ok183 rfl) rfl) ⟨by omega, rfl⟩ ?_
    · rw [List.take_zero, List.nil_append, List.drop_zero]; exact LLe.refl _
    rintro k s ⟨hk, rfl⟩
    refine Tr.seq (Tr.seqR rfl (by simp) (Tr.cond rfl rfl (fun h4 => Tr.skip ?_) (fun h4 => Tr.exit ?_)))
    rotate_left
    · have h4 : k = AL.length := by simp at h4; omega
      subst h4
      have e1 : S1.take AL.length ++ S0.drop AL.length = S1 := by rw [List.take_of_length_le (by omega), List.drop_eq_nil_of_le (by omega), List.append_nil]
      rw [e1]
      refine Tr.regR rfl (by simp) ?_
      refine ⟨i + 1, _, Wk.le (.cons rfl (.refl _) (.cons rfl (.refl _) (.cons rfl (.refl _) (.cons rfl (.refl _) (.cons rfl (.refl _) (.cons rfl (.refl _) (.cons rfl (VLe.i (w64 (by omega) (by omega))) .nil)))))))
        (.cons rfl (by rw [hS1e]; exact LLe.refl _) (.cons rfl (LLe.refl _) (.cons rfl (LLe.refl _) (.cons rfl (LLe.refl _) (.cons rfl (LLe.refl _) .nil))))) .nil (ok183 rfl) rfl, ⟨h3, rfl⟩, by omega⟩
    have h4 : k < AL.length := by simpa using h4
    have h2k : 0 + (k : Int).toNat * 2 = 2 * k := by omega
    have hkO : k < OL.length := by omega
    have hk0 : k < S0.length := by omega
    have hk1 : k < S1.length := by omega
    have hmt : (S1.take k).length = k := by rw [List.length_take]; omega
    have hmix : (S1.take k ++ S0.drop k).drop k = S0[k] :: S0.drop (k + 1) := by
      rw [List.drop_append_of_le_length (by omega), List.drop_eq_nil_of_le (by omega), List.nil_append, List.drop_eq_getElem_cons hk0]
    have hml : (S1.take k ++ S0.drop k).length = AL.length := by rw [List.length_append, hmt, List.length_drop]; omega
    have hfl := flatB_len (S1.take k ++ S0.drop k)
    have hdr : List.drop (2 * k) (flatB (S1.take k ++ S0.drop k)) = I S0[k].1 :: I S0[k].2 :: flatB (S0.drop (k + 1)) := by
      rw [flatB_drop, hmix]; rfl
    have hnew : List.take (2 * k) (flatB (S1.take k ++ S0.drop k)) ++ [I (plusB S0[k] OL[k]).1, I (plusB S0[k] OL[k]).2] ++ List.drop (2 * k + 2) (flatB (S1.take k ++ S0.drop k)) = flatB (S1.take (k + 1) ++ S0.drop (k + 1)) := by
      rw [flatB_set _ _ (by omega)]
      congr 1
      have e1 : (S1.take k ++ S0.drop k).drop (k + 1) = S0.drop (k + 1) := by
        have := congrArg (List.drop 1) hmix
        rw [List.drop_drop] at this
        simpa using this
      rw [e1, List.take_append_of_le_length (by omega), List.take_take, Nat.min_self, List.take_add_one, List.getElem?_eq_getElem hk1, hS k hk0 hkO hk1]
      simp
    refine Tr.seq (Tr.block (Tr.drawK (TraceK.runN 5 rfl (by simp; omega) ?_)))
    rw [h2k]
    refine TraceK.runN 1 rfl (by simp; omega) ?_
    rw [hdr]
    refine TraceK.runN 4 rfl (by simp; omega) ?_
    rw [getD_map hkO]
    refine TraceK.run rfl (by simp) (TraceK.call rfl rfl (c_added S0[k] OL[k]) (TraceK.runN 1 rfl (by simp; omega) ?_))
    rw [h2k]
    refine TraceK.run rfl (by simp; omega) (.done ⟨by kernel_rfl, by kernel_rfl, ?_⟩)
    refine Tr.regR rfl (by simp) ?_
    refine ⟨k + 1, _, Wk.le (.cons rfl (.refl _) (.cons rfl (.refl _) (.cons rfl (.refl _) (.cons rfl (.refl _) (.cons rfl (.refl _) (.cons rfl (.refl _) (.cons rfl (.refl _) (.cons rfl (.refl _) (.cons rfl (VLe.i (w64 (by omega) (by omega))) .nil)))))))))
        (.cons rfl ?_ (.cons rfl (LLe.refl _) (.cons rfl (LLe.refl _) (.cons rfl (LLe.refl _) (.cons rfl (LLe.refl _) (.cons rfl (LLe.refl _) .nil)))))) .nil (ok183 rfl) rfl, ⟨h4, rfl⟩, by omega⟩
    rw [← hnew]
    exact LLe.refl _
  have h3 : i = l.length := by simp [sE] at h3; omega
  subst h3
  rw [List.take_length, hAL]
  refine Tr.seq (Tr.seqR rfl (by simp) (Tr.block ?_))
  refine Tr.loop (fun k s => k ≤ AL.length ∧ s = { env := [(7, .ptr 7 0), (16, .ptr 16 0), (17, .ptr 17 0), (19, .bsl 183 0 2 AL.length), (24, I k)], bx := [(183, ⟨flatB AL, false⟩), (5, ⟨[I b.x, I b.y, I b.z, I b.a, I b.b, I b.c, I aper, I slow.1, I slow.2], false⟩), (7, ⟨[I b.x, I b.y, I b.z, I b.a, I b.b, I b.c, .slice 0 2 (AL.map eB)], false⟩), (16, ⟨[I b.x, I b.y, I b.z, I b.a, I b.b, I b.c, .slice 0 2 (BL.map eB)], false⟩), (17, ⟨[I b.x, I b.y, I b.z, I b.a, I b.b, I b.c, .slice 0 2 (CL.map eB)], false⟩)], rw := [], log := [], stp := false }) (fun k => AL.length - k) 0
      (Wk.le (.cons rfl (.refl _) (.cons rfl (.refl _) (.cons rfl (.refl _) (.cons rfl (.refl _) (.cons rfl (.refl _) .nil)))))
        (.cons rfl (LLe.refl _) (.cons rfl (LLe.refl _) (.cons rfl (LLe.refl _) (.cons rfl (LLe.refl _) (.cons rfl (LLe.refl _) .nil))))) .nil (ok183 rfl) rfl) ⟨by omega, rfl⟩ ?_
  rintro k s ⟨hk, rfl⟩
  refine Tr.seq (Tr.seqR rfl (by simp) (Tr.cond rfl rfl (fun h4 => Tr.skip ?_) (fun h4 => Tr.exit ?_)))
  rotate_left
  · refine Tr.seqC rfl (by simp) (Steps.call rfl rfl c_works (Steps.fin rfl (by simp) (Tr.retX rfl rfl rfl ?_ trivial)))
    simp [packR]
  have h4 : k < AL.length := by simpa using h4
  have h2k : 0 + (k : Int).toNat * 2 = 2 * k := by omega
  have hkB : k < BL.length := by omega
  have hkC : k < CL.length := by omega
  have hfl := flatB_len AL
  have hsk := hsum k h4 hkB hkC
  have hdr : List.drop (2 * k) (flatB AL) = I AL[k].1 :: I AL[k].2 :: flatB (AL.drop (k + 1)) := by
    rw [flatB_drop, List.drop_eq_getElem_cons h4]; rfl
  refine Tr.seq (Tr.block (Tr.seq (Tr.drawK (TraceK.runN 3 rfl (by simp; omega) ?_))))
  rw [h2k]
  refine TraceK.runN 1 rfl (by simp; omega) ?_
  rw [hdr]
  refine TraceK.runN 4 rfl (by simp; omega) ?_
  rw [getD_map h4]
  refine TraceK.runN 7 rfl (by simp; try omega) ?_
  rw [getD_map hkC, hsk]
  refine TraceK.runN 5 rfl (by simp; try omega) ?_
  rw [getD_map h4]
  refine TraceK.runN 5 rfl (by simp; try omega) ?_
  rw [getD_map hkB]
  refine TraceK.run rfl (by simp) ?_
  refine TraceK.gcall (r := eB (plusB AL[k] BL[k])) rfl rfl rfl rfl (by simp) (fun _ => c_added AL[k] BL[k]) ?_
  refine TraceK.run rfl (by simp) (.done ⟨by kernel_rfl, by kernel_rfl, ?_⟩)
  refine Tr.cond rfl rfl (fun h => ?_) (fun _ => Tr.skip ?_)
  · exfalso; revert h; simp
  refine Tr.regR rfl (by simp) ?_
  exact ⟨k + 1, _, Wk.le (.cons rfl (.refl _) (.cons rfl (.refl _) (.cons rfl (.refl _) (.cons rfl (.refl _) (.cons rfl (VLe.i (w64 (by omega) (by omega))) .nil)))))
        (.cons rfl (LLe.refl _) (.cons rfl (LLe.refl _) (.cons rfl (LLe.refl _) (.cons rfl (LLe.refl _) (.cons rfl (LLe.refl _) .nil))))) .nil (ok183 rfl) rfl, ⟨h4, rfl⟩, by omega⟩

end Go.Proofs.Ytkifejklnpddbaa

/-! The law VolumePoint. -/
set_option linter.unusedVariables false
set_option linter.unusedSimpArgs false
set_option maxRecDepth 20000
set_option maxHeartbeats 4000000
namespace Go.Proofs.Ytkifejklnpddbaa
open Go.Am
attribute [local simp] cells scalar mkv splice under2 under dem dem1 boxC cellC eE sB eB

theorem okF {k : Nat} {L : List (Int × Int)} {env : List (Nat × V)} {bx : List (Nat × Box)} {rw : List (Nat × Nat × Nat × Nat)} (h : okRefs env ((k, ⟨[], false⟩) :: bx) rw = true) : okRefs env ((k, ⟨flatB L, false⟩) :: bx) rw = true := by
  have e : hasKey ((k, (⟨flatB L, false⟩ : Box)) :: bx) = hasKey ((k, (⟨[], false⟩ : Box)) :: bx) := rfl
  unfold okRefs at h ⊢
  rw [e]
  rw [Bool.and_eq_true] at h ⊢
  refine ⟨h.1, ?_⟩
  have h2 := h.2
  rw [List.all_cons, Bool.and_eq_true] at h2 ⊢
  exact ⟨flatB_refs _ _ _, h2.2⟩

theorem holds_flat (L : List (Int × Int)) : Holds (flatB L) 0 2 L.length (L.map eB) := by
  refine ⟨by omega, by simp, fun x hx => ?_, ?_, fun x hx => ?_⟩
  · obtain ⟨c, _, rfl⟩ := List.mem_map.1 hx; rfl
  · rw [List.drop_zero, List.take_of_length_le (by rw [flatB_len]; omega)]
    unfold flatB
    rw [List.flatMap_map]
    rfl
  · obtain ⟨c, _, rfl⟩ := List.mem_map.1 hx; rfl

theorem flat_peak (t : Nat) (ht : t < 64) : List.take (2 * t) (flatB (List.replicate 64 (0, 0))) ++ [I 1, I 1] ++ List.drop (2 * t + 2) (flatB (List.replicate 64 (0, 0))) = flatB (peakL t) := by
  have h := flatB_set (List.replicate 64 (0, 0)) t (by simpa using ht) (1, 1)
  rw [h]
  congr 1
  unfold peakL
  rw [List.set_eq_take_append_cons_drop, if_pos (by simpa using ht)]

theorem peak_none (t : Nat) (ht : ¬ t < 64) : peakL t = List.replicate 64 (0, 0) := by
  unfold peakL
  rw [List.set_eq_of_length_le (by simp; omega)]

theorem ptD_eq (x y : Int) (p : Int × Int) : IntKind.i64.wrap (IntKind.i64.wrap (IntKind.i64.wrap (ptX p - x) * IntKind.i64.wrap (ptX p - x)) + IntKind.i64.wrap (IntKind.i64.wrap (ptY p - y) * IntKind.i64.wrap (ptY p - y))) = ptD x y p := by
  show w (w (w (ptX p - x) * w (ptX p - x)) + w (w (ptY p - y) * w (ptY p - y))) = _
  rw [w_sq (ptX p), w_sq (ptY p)]
  rfl

theorem c_VolumePoint {pl : List (Int × Int)} (hpl : pl.length ≤ 9223372036854775807) (x y z : Int) (b : Bx) (aper : Int) (slow : Int × Int) : C Try.prog F.law10_VolumePoint [sB pl, .agg [I x, I y, I z], .agg [I b.x, I b.y, I b.z, I b.a, I b.b, I b.c, I aper, I slow.1, I slow.2]] (.bool true) := by
  refine C_of mixed chk.law10_VolumePoint (by simp) fun S ok => ?_
  refine Tr.seqR rfl (by simp) (Tr.seqR rfl (by simp) (Tr.seqR rfl (by simp) (Tr.seq (Tr.seqR rfl (by simp) (Tr.block ?_)))))
  refine Tr.loop (fun i s => (i ≤ pl.length ∧ i ≤ 32) ∧ s = { env := [(0, sB pl), (4, .ptr 4 0), (5, .ptr 5 0), (7, .slice 100 3 ((pl.take i).map fun p => eE (ptE x y z slow.1 p))), (8, I ((pl.take i).countP (ptH x y z slow.1 aper) : Nat)), (9, I i)], bx := [(4, ⟨[I x, I y, I z], false⟩), (5, ⟨[I b.x, I b.y, I b.z, I b.a, I b.b, I b.c, I aper, I slow.1, I slow.2], false⟩)], rw := [(99, i, 3, 79)], log := [], stp := false }) (fun i => 32 - i) 0
    (Wk.le (.cons rfl (.refl _) (.cons rfl (.refl _) (.cons rfl (.refl _) (.cons rfl (.nil 100 3) (.cons rfl (.refl _) (.cons rfl (.refl _) .nil))))))
      (.cons rfl (LLe.refl _) (.cons rfl (LLe.refl _) .nil)) (.new rfl .nil) rfl rfl) ⟨by omega, rfl⟩ ?_
  rintro i s ⟨⟨hi, hi32⟩, rfl⟩
  refine Tr.seq (Tr.seqR rfl (by simp) (Tr.cond rfl rfl (fun h3 => Tr.skip ?_) (fun h3 => Tr.exit ?_)))
  · have h3 : (bif decide ((i : Int) < ((pl.map eB).length : Int)) then decide ((i : Int) < 32) else false) = true := h3
    have h3 : i < pl.length ∧ i < 32 := by
      rw [List.length_map] at h3
      cases h : decide ((i : Int) < (pl.length : Int)) with
      | false => rw [h] at h3; cases h3
      | true =>
        rw [h] at h3
        have h5 : decide ((i : Int) < 32) = true := h3
        rw [decide_eq_true_eq] at h h5
        omega
    obtain ⟨h3, h32⟩ := h3
    obtain ⟨p, hp⟩ : ∃ p, pl[i] = p := ⟨_, rfl⟩
    have hb1 := restI_bd (n := p.1) (m := 129) (by omega)
    have hb2 := restI_bd (n := p.2) (m := 129) (by omega)
    have htl : (pl.take i).length = i := by rw [List.length_take]; omega
    have hct := List.countP_le_length (p := ptH x y z slow.1 aper) (l := pl.take i)
    rw [htl] at hct
    have htk : pl.take (i + 1) = pl.take i ++ [p] := by rw [List.take_add_one, List.getElem?_eq_getElem h3, hp]; rfl
    refine Tr.seq (Tr.block (Tr.seq (Tr.drawK (TraceK.runN 3 rfl (by simp; omega) ?_))))
    rw [getD_map h3, hp]
    refine TraceK.run rfl (by simp) (TraceK.call rfl rfl (c_Rest p.1 129 (by omega)) ?_)
    refine TraceK.runN 4 rfl (by simp; omega) ?_
    rw [getD_map h3, hp]
    refine TraceK.run rfl (by simp) (TraceK.call rfl rfl (c_Rest p.2 129 (by omega)) ?_)
    refine TraceK.run rfl (by simp) (.done ⟨by kernel_rfl, by kernel_rfl, ?_⟩)
    refine Tr.weak (s' := { env := [(0, sB pl), (4, .ptr 4 0), (5, .ptr 5 0), (7, .slice 100 3 ((pl.take i).map fun p => eE (ptE x y z slow.1 p))), (8, I ((pl.take i).countP (ptH x y z slow.1 aper) : Nat)), (9, I i), (10, .ptr 10 0)], bx := [(42, ⟨flatB (List.replicate 64 (0, 0)), false⟩), (4, ⟨[I x, I y, I z], false⟩), (5, ⟨[I b.x, I b.y, I b.z, I b.a, I b.b, I b.c, I aper, I slow.1, I slow.2], false⟩), (10, ⟨[I (ptX p), I (ptY p), .bsl 42 0 2 64], false⟩)], rw := [(99, i, 3, 79)], log := [], stp := false })
      (Wk.le (.cons rfl (.refl _) (.cons rfl (.refl _) (.cons rfl (.refl _) (.cons rfl (.refl _) (.cons rfl (.refl _) (.cons rfl (.refl _) (.cons rfl (.refl _) .nil)))))))
        (.cons rfl (LLe.refl _) (.cons rfl (LLe.refl _) (.cons rfl (LLe.refl _) (.cons rfl (.cons (VLe.i (w64 (by omega) (by omega))) (.cons (VLe.i (w64 (by omega) (by omega))) (.cons (.refl _) .nil))) .nil)))) (.cons rfl .nil) (okF rfl) rfl) ?_
    refine Tr.seqR rfl (by simp) ?_
    refine Tr.weak (s' := { env := [(0, sB pl), (4, .ptr 4 0), (5, .ptr 5 0), (7, .slice 100 3 ((pl.take i).map fun p => eE (ptE x y z slow.1 p))), (8, I ((pl.take i).countP (ptH x y z slow.1 aper) : Nat)), (9, I i), (10, .ptr 10 0), (11, I (ptD x y p))], bx := [(42, ⟨flatB (List.replicate 64 (0, 0)), false⟩), (4, ⟨[I x, I y, I z], false⟩), (5, ⟨[I b.x, I b.y, I b.z, I b.a, I b.b, I b.c, I aper, I slow.1, I slow.2], false⟩), (10, ⟨[I (ptX p), I (ptY p), .bsl 42 0 2 64], false⟩)], rw := [(99, i, 3, 79)], log := [], stp := false })
      (Wk.le (.cons rfl (.refl _) (.cons rfl (.refl _) (.cons rfl (.refl _) (.cons rfl (.refl _) (.cons rfl (.refl _) (.cons rfl (.refl _) (.cons rfl (.refl _) (.cons rfl (VLe.i (ptD_eq x y p)) .nil))))))))
        (.cons rfl (LLe.refl _) (.cons rfl (LLe.refl _) (.cons rfl (LLe.refl _) (.cons rfl (LLe.refl _) .nil)))) (.cons rfl .nil) (okF rfl) rfl) ?_
    have kT := c_Time z (ptD x y p) slow.1
    unfold TimeR at kT
    by_cases hT : timeOk z (ptD x y p) slow.1 = true
    rotate_left
    · rw [if_neg hT] at kT
      refine Tr.seqC rfl (by simp) (Steps.call rfl rfl kT (Steps.fin rfl (by simp) ?_))
      refine Tr.seq (Tr.seqR rfl (by simp) (Tr.condT rfl (Tr.seqC rfl (by simp) (Steps.call rfl rfl c_works (Steps.fin rfl (by simp) (Tr.retX rfl rfl rfl ?_ trivial))))))
      simp [packR]
    rw [if_pos hT] at kT
    obtain ⟨T, hTt⟩ : ∃ T : Nat, timeN z (ptD x y p) slow.1 = (T : Int) := ⟨(timeN z (ptD x y p) slow.1).toNat, by have := timeN_nn z (ptD x y p) slow.1; omega⟩
    rw [hTt] at kT
    have ePt : ptE x y z slow.1 p = ⟨ptX p, ptY p, peakL T⟩ := by unfold ptE ptT; rw [hTt, Int.toNat_natCast]
    refine Tr.seqC rfl (by simp) (Steps.call rfl rfl kT (Steps.fin rfl (by simp) ?_))
    refine Tr.seq (Tr.seqR rfl (by simp) (Tr.condF rfl (Tr.skip ?_)))
    have hH : ptH x y z slow.1 aper p = (decide ((T : Int) < 64) && decide (ptD x y p ≤ w (aper * aper))) := by unfold ptH ptT; rw [hTt]
    refine Tr.meet { env := [(0, sB pl), (4, .ptr 4 0), (5, .ptr 5 0), (7, .slice 100 3 ((pl.take i).map fun p => eE (ptE x y z slow.1 p))), (8, I ((pl.take (i + 1)).countP (ptH x y z slow.1 aper) : Nat)), (9, I i), (10, .ptr 10 0)], bx := [(4, ⟨[I x, I y, I z], false⟩), (5, ⟨[I b.x, I b.y, I b.z, I b.a, I b.b, I b.c, I aper, I slow.1, I slow.2], false⟩), (10, ⟨[I (ptX p), I (ptY p), .slice 0 2 ((peakL T).map eB)], false⟩)], rw := [(99, i, 3, 79)], log := [], stp := false } ?_ ?_
    rotate_left
    · refine Tr.regR rfl (by simp; omega) (Tr.regR rfl (by simp) ?_)
      refine ⟨i + 1, _, Wk.le (.cons rfl (.refl _) (.cons rfl (.refl _) (.cons rfl (.refl _) (.cons rfl (.of_eq ?_) (.cons rfl (.refl _) (.cons rfl (VLe.i (w64 (by omega) (by omega))) .nil))))))
        (.cons rfl (LLe.refl _) (.cons rfl (LLe.refl _) .nil)) (.cons ?_ .nil) rfl rfl, ⟨by omega, rfl⟩, by omega⟩
      · rw [htk, List.map_append, List.map_cons, List.map_nil, ePt]; rfl
      · show some _ = some _
        simp; omega
    have hpk := peak_len T
    have hfin : ∀ n : Int, n = ((pl.take (i + 1)).countP (ptH x y z slow.1 aper) : Nat) → Wk (env0 Try.prog mixed 178 S ok) { env := [(0, sB pl), (4, .ptr 4 0), (5, .ptr 5 0), (7, .slice 100 3 ((pl.take i).map fun p => eE (ptE x y z slow.1 p))), (8, I n), (9, I i), (10, .ptr 10 0)], bx := [(42, ⟨flatB (peakL T), false⟩), (4, ⟨[I x, I y, I z], false⟩), (5, ⟨[I b.x, I b.y, I b.z, I b.a, I b.b, I b.c, I aper, I slow.1, I slow.2], false⟩), (10, ⟨[I (ptX p), I (ptY p), .bsl 42 0 2 64], false⟩)], rw := [(99, i, 3, 79)], log := [], stp := false } { env := [(0, sB pl), (4, .ptr 4 0), (5, .ptr 5 0), (7, .slice 100 3 ((pl.take i).map fun p => eE (ptE x y z slow.1 p))), (8, I ((pl.take (i + 1)).countP (ptH x y z slow.1 aper) : Nat)), (9, I i), (10, .ptr 10 0)], bx := [(4, ⟨[I x, I y, I z], false⟩), (5, ⟨[I b.x, I b.y, I b.z, I b.a, I b.b, I b.c, I aper, I slow.1, I slow.2], false⟩), (10, ⟨[I (ptX p), I (ptY p), .slice 0 2 ((peakL T).map eB)], false⟩)], rw := [(99, i, 3, 79)], log := [], stp := false } := by
      rintro n rfl
      refine Wk.trans (Wk.bslB (E := env0 Try.prog mixed 178 S ok) (k := 10) (j := 2) (i := 42) (by omega) rfl rfl rfl (by have h := holds_flat (peakL T); rw [hpk] at h; exact h)) ?_
      exact Wk.le (.cons rfl (.refl _) (.cons rfl (.refl _) (.cons rfl (.refl _) (.cons rfl (.refl _) (.cons rfl (.refl _) (.cons rfl (.refl _) (.cons rfl (.refl _) .nil)))))))
        (.cons rfl (LLe.refl _) (.cons rfl (LLe.refl _) (.cons rfl (LLe.refl _) .nil))) (.cons rfl .nil) rfl rfl
    have hcnt : (((pl.take (i + 1)).countP (ptH x y z slow.1 aper) : Nat) : Int) = ((pl.take i).countP (ptH x y z slow.1 aper) : Nat) + if ptH x y z slow.1 aper p then 1 else 0 := by
      rw [htk, List.countP_append, List.countP_cons, List.countP_nil, Nat.zero_add]
      by_cases h : ptH x y z slow.1 aper p = true
      · rw [if_pos h, if_pos h]; push_cast; rfl
      · rw [if_neg h, if_neg h]; push_cast; rfl
    refine Tr.seqR rfl (by simp) (Tr.cond rfl rfl (fun h4 => ?_) (fun h4 => ?_))
    rotate_left
    · have h4 : decide ((T : Int) < 64) = false := h4
      have hn : ¬ T < 64 := by rw [decide_eq_false_iff_not] at h4; omega
      rw [h4, Bool.false_and] at hH
      refine Tr.weak (s' := { env := [(0, sB pl), (4, .ptr 4 0), (5, .ptr 5 0), (7, .slice 100 3 ((pl.take i).map fun p => eE (ptE x y z slow.1 p))), (8, I ((pl.take i).countP (ptH x y z slow.1 aper) : Nat)), (9, I i), (10, .ptr 10 0)], bx := [(42, ⟨flatB (peakL T), false⟩), (4, ⟨[I x, I y, I z], false⟩), (5, ⟨[I b.x, I b.y, I b.z, I b.a, I b.b, I b.c, I aper, I slow.1, I slow.2], false⟩), (10, ⟨[I (ptX p), I (ptY p), .bsl 42 0 2 64], false⟩)], rw := [(99, i, 3, 79)], log := [], stp := false })
        (Wk.le (.cons rfl (.refl _) (.cons rfl (.refl _) (.cons rfl (.refl _) (.cons rfl (.refl _) (.cons rfl (.refl _) (.cons rfl (.refl _) (.cons rfl (.refl _) .nil)))))))
        (.cons rfl ?_ (.cons rfl (LLe.refl _) (.cons rfl (LLe.refl _) (.cons rfl (LLe.refl _) .nil)))) (.cons rfl .nil) (okF rfl) rfl) (Tr.skip ?_)
      · rw [peak_none T hn]; exact LLe.refl _
      exact hfin _ (by rw [hcnt, hH]; simp)
    have h4 : decide ((T : Int) < 64) = true := h4
    have hn : T < 64 := by rw [decide_eq_true_eq] at h4; omega
    rw [h4, Bool.true_and] at hH
    have h2T : 0 + (T : Int).toNat * 2 = 2 * T := by omega
    have hfl := flatB_len (List.replicate 64 ((0 : Int), (0 : Int)))
    rw [List.length_replicate] at hfl
    refine Tr.seqN 5 rfl (by simp; omega) ?_
    rw [h2T]
    refine Steps.fin rfl (by simp [flatB_len]; omega) ?_
    have hpeak := flat_peak T hn
    refine Tr.weak (s' := { env := [(0, sB pl), (4, .ptr 4 0), (5, .ptr 5 0), (7, .slice 100 3 ((pl.take i).map fun p => eE (ptE x y z slow.1 p))), (8, I ((pl.take i).countP (ptH x y z slow.1 aper) : Nat)), (9, I i), (10, .ptr 10 0), (11, I (ptD x y p))], bx := [(42, ⟨flatB (peakL T), false⟩), (4, ⟨[I x, I y, I z], false⟩), (5, ⟨[I b.x, I b.y, I b.z, I b.a, I b.b, I b.c, I aper, I slow.1, I slow.2], false⟩), (10, ⟨[I (ptX p), I (ptY p), .bsl 42 0 2 64], false⟩)], rw := [(99, i, 3, 79)], log := [], stp := false })
      (Wk.le (.cons rfl (.refl _) (.cons rfl (.refl _) (.cons rfl (.refl _) (.cons rfl (.refl _) (.cons rfl (.refl _) (.cons rfl (.refl _) (.cons rfl (.refl _) (.cons rfl (.refl _) .nil))))))))
        (.cons rfl ?_ (.cons rfl (LLe.refl _) (.cons rfl (LLe.refl _) (.cons rfl (LLe.refl _) .nil)))) (.cons rfl .nil) (okF rfl) rfl) ?_
    · rw [← hpeak]; exact LLe.refl _
    refine Tr.seqR rfl (by simp) (Tr.cond rfl rfl (fun h5 => ?_) (fun h5 => ?_))
    · have h5 : decide (ptD x y p ≤ w (aper * aper)) = true := h5
      rw [h5] at hH
      refine Tr.regR rfl (by simp) ?_
      refine Wk.trans (Wk.le (env := [(0, sB pl), (4, .ptr 4 0), (5, .ptr 5 0), (7, .slice 100 3 ((pl.take i).map fun p => eE (ptE x y z slow.1 p))), (8, I (((pl.take i).countP (ptH x y z slow.1 aper) : Nat) + 1)), (9, I i), (10, .ptr 10 0)]) (bx := [(42, ⟨flatB (peakL T), false⟩), (4, ⟨[I x, I y, I z], false⟩), (5, ⟨[I b.x, I b.y, I b.z, I b.a, I b.b, I b.c, I aper, I slow.1, I slow.2], false⟩), (10, ⟨[I (ptX p), I (ptY p), .bsl 42 0 2 64], false⟩)]) (rw := [(99, i, 3, 79)]) (.cons rfl (.refl _) (.cons rfl (.refl _) (.cons rfl (.refl _) (.cons rfl (.refl _) (.cons rfl (VLe.i (w64 (by omega) (by omega))) (.cons rfl (.refl _) (.cons rfl (.refl _) .nil)))))))
        (.cons rfl (LLe.refl _) (.cons rfl (LLe.refl _) (.cons rfl (LLe.refl _) (.cons rfl (LLe.refl _) .nil)))) (.cons rfl .nil) (okF rfl) rfl) (hfin _ ?_)
      rw [hcnt, hH]; rfl
    · have h5 : decide (ptD x y p ≤ w (aper * aper)) = false := h5
      rw [h5] at hH
      refine Tr.weak (s' := { env := [(0, sB pl), (4, .ptr 4 0), (5, .ptr 5 0), (7, .slice 100 3 ((pl.take i).map fun p => eE (ptE x y z slow.1 p))), (8, I ((pl.take i).countP (ptH x y z slow.1 aper) : Nat)), (9, I i), (10, .ptr 10 0)], bx := [(42, ⟨flatB (peakL T), false⟩), (4, ⟨[I x, I y, I z], false⟩), (5, ⟨[I b.x, I b.y, I b.z, I b.a, I b.b, I b.c, I aper, I slow.1, I slow.2], false⟩), (10, ⟨[I (ptX p), I (ptY p), .bsl 42 0 2 64], false⟩)], rw := [(99, i, 3, 79)], log := [], stp := false }) (Wk.le (.cons rfl (.refl _) (.cons rfl (.refl _) (.cons rfl (.refl _) (.cons rfl (.refl _) (.cons rfl (.refl _) (.cons rfl (.refl _) (.cons rfl (.refl _) .nil)))))))
        (.cons rfl (LLe.refl _) (.cons rfl (LLe.refl _) (.cons rfl (LLe.refl _) (.cons rfl (LLe.refl _) .nil)))) (.cons rfl .nil) (okF rfl) rfl) (Tr.skip ?_)
      exact hfin _ (by rw [hcnt, hH]; simp)
  clear h3
  obtain ⟨Q, hQ⟩ : ∃ Q, pl.take i = Q := ⟨_, rfl⟩
  have hQl : Q.length ≤ 32 := by rw [← hQ, List.length_take]; omega
  rw [hQ]
  obtain ⟨L, hL⟩ : ∃ L, Q.map (ptE x y z slow.1) = L := ⟨_, rfl⟩
  have hLl : L.length = Q.length := by rw [← hL, List.length_map]
  have hLE : echoesOk L = true := by rw [← hL]; exact pts_ok x y z slow.1 Q hQl
  have eL : (Q.map fun p => eE (ptE x y z slow.1 p)) = L.map eE := by rw [← hL, List.map_map]; rfl
  have hval := pts_value x y z slow.1 aper Q hQl
  have hnam := pts_named x y z slow.1 aper Q
  have hlow := fun q => pts_low x y z slow.1 aper slow.1 q Q hQl
  rw [hL] at hval hnam hlow
  have hcl := List.countP_le_length (p := ptH x y z slow.1 aper) (l := Q)
  generalize Q.countP (ptH x y z slow.1 aper) = H at hval hnam hcl ⊢
  refine Tr.weak (s' := { env := [(4, .ptr 4 0), (5, .ptr 5 0), (7, sE L), (8, I (H : Int))], bx := [(4, ⟨[I x, I y, I z], false⟩), (5, ⟨[I b.x, I b.y, I b.z, I b.a, I b.b, I b.c, I aper, I slow.1, I slow.2], false⟩)], rw := [], log := [], stp := false })
    (Wk.le (.cons rfl (.refl _) (.cons rfl (.refl _) (.cons rfl (by rw [eL]; exact .dem _ _ _) (.cons rfl (.refl _) .nil)))) (.cons rfl (LLe.refl _) (.cons rfl (LLe.refl _) .nil)) .nil rfl rfl) ?_
  have hs := sane_of hLE
  have k1 := c_NameS hs x y z aper slow.1
  have k2 := c_Migrate hs b aper slow.1
  unfold nameS nameR at k1
  rw [if_pos hLE] at k1
  by_cases hN : (earOk aper (slow.1, slow.1) && cellOk x y z) = true
  rotate_left
  · rw [if_neg hN] at k1
    refine Tr.seqC rfl (by simp) (Steps.call rfl rfl k1 (Steps.fin rfl (by simp) ?_))
    refine Tr.seq (Tr.seqR rfl (by simp) (Tr.condT rfl ?_))
    refine Tr.seqC rfl (by simp) (Steps.gcall rfl rfl rfl rfl (by simp) (fun _ => c_works) (Steps.fin rfl (by simp) (Tr.retX rfl rfl rfl ?_ trivial)))
    simp [packR]
  rw [if_pos hN, nameC] at k1
  simp only [Bool.and_eq_true] at hN
  obtain ⟨hA, hC⟩ := hN
  rw [hval] at k1
  generalize namedL ⟨L, aper, (slow.1, slow.1)⟩ x y z = R at k1 hnam
  refine Tr.seqC rfl (by simp) (Steps.call rfl rfl k1 (Steps.fin rfl (by simp) ?_))
  refine Tr.seq (Tr.seqR rfl (by simp) (Tr.condF rfl (Tr.skip ?_)))
  by_cases hB : boxOk b = true
  rotate_left
  · have hr : valS L b aper slow.1 = .tuple [.agg [I 0, I 0, I 0, I 0, I 0, I 0, .slice 0 2 []], I 102] := by
      show boxR _ _ _ _ _ _ = _
      unfold boxR imageR
      rw [if_pos hLE, if_pos hA, if_neg hB]; rfl
    rw [hr] at k2
    refine Tr.seqC rfl (by simp) (Steps.call rfl rfl k2 (Steps.fin rfl (by simp) ?_))
    refine Tr.seq (Tr.seqR rfl (by simp) (Tr.cond rfl rfl (fun h => ?_) (fun _ => Tr.skip ?_)))
    · exfalso; revert h; simp [hnam]
    refine Tr.seq (Tr.seqR rfl (by simp) (Tr.condT rfl ?_))
    refine Tr.seqC rfl (by simp) (Steps.gcall rfl rfl rfl rfl (by simp) (fun _ => c_works) (Steps.fin rfl (by simp) (Tr.retX rfl rfl rfl ?_ trivial)))
    simp [packR]
  rw [val_ok hLE hA hB] at k2
  have hcl2 := boxCells_len (boxOk_spec hB).1
  obtain ⟨AL, hAL⟩ : ∃ AL, (boxCells b).map (valOf L aper slow.1) = AL := ⟨_, rfl⟩
  have hALl : AL.length = (boxCells b).length := by rw [← hAL, List.length_map]
  have hbd : ∀ k (h : k < AL.length), 0 ≤ AL[k].1 ∧ AL[k].2 ≤ (Q.length : Int) := by
    intro k h
    subst hAL
    rw [List.getElem_map]
    exact hlow _
  rw [hAL] at k2
  refine Tr.seqC rfl (by simp) (Steps.call rfl rfl k2 (Steps.fin rfl (by simp) ?_))
  refine Tr.seq (Tr.seqR rfl (by simp) (Tr.cond rfl rfl (fun h => ?_) (fun _ => Tr.skip ?_)))
  · exfalso; revert h; simp [hnam]
  refine Tr.seq (Tr.seqR rfl (by simp) (Tr.condF rfl (Tr.skip ?_)))
  refine Tr.seq (Tr.seqR rfl (by simp) (Tr.block ?_))
  refine Tr.loop (fun k s => k ≤ AL.length ∧ s = { env := [(7, sE L), (16, .ptr 16 0), (17, I k)], bx := [(16, ⟨[I b.x, I b.y, I b.z, I b.a, I b.b, I b.c, .slice 0 2 (AL.map eB)], false⟩)], rw := [], log := [], stp := false }) (fun k => AL.length - k) 0
    (Wk.le (.cons rfl (.refl _) (.cons rfl (.refl _) (.cons rfl (.refl _) .nil))) (.cons rfl (LLe.refl _) .nil) .nil rfl rfl) ⟨by omega, rfl⟩ ?_
  rintro k s ⟨hk, rfl⟩
  refine Tr.seq (Tr.seqR rfl (by simp) (Tr.cond rfl rfl (fun h4 => Tr.skip ?_) (fun h4 => Tr.exit ?_)))
  rotate_left
  · refine Tr.seqC rfl (by simp) (Steps.call rfl rfl c_works (Steps.fin rfl (by simp) (Tr.retX rfl rfl rfl ?_ trivial)))
    simp [packR]
  have h4 : k < AL.length := by simpa using h4
  have hb4 := hbd k h4
  refine Tr.seq (Tr.block (Tr.seqN 4 rfl (by simp; omega) ?_))
  rw [getD_map h4]
  refine Steps.runN 10 rfl (by simp [sE]; try omega) ?_
  rw [getD_map h4]
  refine Steps.fin rfl (by simp) (Tr.cond rfl rfl (fun h => ?_) (fun _ => Tr.skip ?_))
  · exfalso
    revert h
    simp [hLl]
    omega
  refine Tr.regR rfl (by simp) ?_
  exact ⟨k + 1, _, Wk.le (.cons rfl (.refl _) (.cons rfl (.refl _) (.cons rfl (VLe.i (w64 (by omega) (by omega))) .nil))) (.cons rfl (LLe.refl _) .nil) .nil rfl rfl, ⟨h4, rfl⟩, by omega⟩

end Go.Proofs.Ytkifejklnpddbaa

/-! Contracts: a part of a volume; volumes that are checked. -/
set_option linter.unusedVariables false
set_option linter.unusedSimpArgs false
set_option maxRecDepth 20000
set_option maxHeartbeats 2000000
namespace Go.Proofs.Ytkifejklnpddbaa
open Go.Am
attribute [local simp] cells scalar mkv splice under2 under dem dem1 boxC cellC

theorem c_Cut (v : Vol) (b : Bx) (hl : v.v.length ≤ 9223372036854775807) : C Try.prog F.volume_Cut [.agg (volC v), .agg (cellC b.x b.y b.z), .agg (cellC b.a b.b b.c)] (cutR .nils v b) := by
  refine C_of mixed chk.volume_Cut (by simp) fun S ok => ?_
  refine Tr.seqR rfl (by simp [volC, intsV]) ?_
  by_cases hV : volOk v = true
  rotate_left
  · have hV : volOk v = false := by simpa using hV
    have hr : blockR v = .tuple [.agg [I 0, I 0, I 0, I 0, I 0, I 0, .nils], I 101] := by simp [blockR, hV]
    refine Tr.seqC rfl (by simp [volC]) (Steps.call rfl rfl (hr ▸ c_blockOf v hl) (Steps.fin rfl (by simp) ?_))
    refine Tr.seq (Tr.seqR rfl (by simp) (Tr.condT rfl (Tr.seqR rfl (by simp) (Tr.retX rfl rfl rfl ?_ trivial))))
    simp [packR, cutR, hV, errVol]
  have hr : blockR v = .tuple [.agg (volC v), I 0] := by simp [blockR, hV]
  obtain ⟨hbV, hlV, hvV⟩ := volOk_spec hV
  obtain ⟨hsV, hmV⟩ := boxOk_spec hbV
  refine Tr.seqC rfl (by simp [volC]) (Steps.call rfl rfl (hr ▸ c_blockOf v hl) (Steps.fin rfl (by simp [volC, intsV]) ?_))
  refine Tr.seq (Tr.seqR rfl (by simp) (Tr.condF rfl (Tr.skip ?_)))
  refine Tr.seqR rfl (by simp) ?_
  by_cases hB : boxOk b = true
  rotate_left
  · have hB : boxOk b = false := by simpa using hB
    have hcv : C Try.prog F.volume_box_valid [.agg (boxC b)] (.bool false) := hB ▸ c_boxValid b
    refine Tr.seq (Tr.seq (Tr.drawK (TraceK.run rfl (by simp) (TraceK.call rfl rfl hcv (TraceK.run rfl (by simp [volC]) ?_)))))
    refine TraceK.gcall (gb := false) (r := .bool false) rfl rfl rfl rfl (fun e => (by cases e)) (fun e => (by cases e)) (TraceK.run rfl (by simp [volC]) ?_)
    refine TraceK.gcall (gb := false) (r := .agg [I 0, I 0, I 0]) rfl rfl rfl rfl (fun e => (by cases e)) (fun e => (by cases e)) (TraceK.run rfl (by simp) ?_)
    refine TraceK.gcall (gb := false) (r := .bool false) rfl rfl rfl rfl (fun e => (by cases e)) (fun e => (by cases e)) (TraceK.run rfl (by simp) (.done ⟨by kernel_rfl, by kernel_rfl, ?_⟩))
    refine Tr.condT rfl (Tr.seqR rfl (by simp) (Tr.retX rfl rfl rfl ?_ trivial))
    have : cutOk v b = false := by unfold cutOk; rw [hB]; rfl
    simp [packR, cutR, hV, this, errVol]
  obtain ⟨hsB, hmB⟩ := boxOk_spec hB
  have hcv : C Try.prog F.volume_box_valid [.agg (boxC b)] (.bool true) := hB ▸ c_boxValid b
  refine Tr.seq (Tr.seq (Tr.drawK (TraceK.run rfl (by simp) (TraceK.call rfl rfl hcv (TraceK.run rfl (by simp [volC]) ?_)))))
  refine TraceK.gcall rfl rfl rfl rfl (by simp) (fun _ => c_has v.b b.x b.y b.z hmV) (TraceK.run rfl (by simp [volC]) ?_)
  refine TraceK.gcall rfl rfl rfl rfl (by simp) (fun _ => c_last b hmB) (TraceK.run rfl (by simp) ?_)
  refine TraceK.gcall rfl rfl rfl rfl (by simp) (fun _ => c_has v.b _ _ _ hmV) (TraceK.run rfl (by simp) (.done ⟨by kernel_rfl, by kernel_rfl, ?_⟩))
  have hc : ∀ c : Bool, (bif !hasB v.b b.x b.y b.z then true else !hasB v.b (b.x + b.a - 1) (b.y + b.b - 1) (b.z + b.c - 1)) = c → c = !cutOk v b := by
    rintro c rfl
    unfold cutOk
    rw [hB]
    show _ = !(true && hasB v.b b.x b.y b.z && hasB v.b (b.x + b.a - 1) (b.y + b.b - 1) (b.z + b.c - 1))
    cases hasB v.b b.x b.y b.z <;> cases hasB v.b (b.x + b.a - 1) (b.y + b.b - 1) (b.z + b.c - 1) <;> rfl
  refine Tr.cond rfl rfl (fun h1 => Tr.seqR rfl (by simp) (Tr.retX rfl rfl rfl ?_ trivial)) (fun h1 => Tr.skip ?_)
  · have h2 := not_of (hc true h1)
    have h2 : cutOk v b = false := h2
    simp [packR, cutR, hV, h2, errVol]
  have h2 : cutOk v b = true := not_of (hc false h1)
  have hlen := boxCells_len hsB
  refine Tr.seqR rfl (by simp) ?_
  refine Tr.seq (Tr.seqC rfl (by simp) (Steps.call rfl rfl (c_cells b) (Steps.fin rfl (by simp) (Tr.block ?_))))
  refine Tr.weak (s' := { env := [(49, .func (.func F.volume_box_cells_1) [] [.vptr (boxC b) 0]), (6, .ptr 6 0), (8, .ptr 8 0), (11, .ptr 11 0)], bx := [(6, ⟨[I 0, I 0, I 0, I 0, I 0, I 0, .nils], false⟩), (8, ⟨volC v, false⟩), (11, ⟨[I b.x, I b.y, I b.z, I b.a, I b.b, I b.c, .slice 63 1 []], false⟩)], rw := [(62, 0, 1, 3)], log := [], stp := false })
    (Wk.le (.cons rfl (.refl _) (.cons rfl (.refl _) (.cons rfl (.refl _) (.cons rfl (.refl _) .nil)))) (.cons rfl (LLe.refl _) (.cons rfl (LLe.refl _) (.cons rfl (.cons (.refl _) (.cons (.refl _) (.cons (.refl _) (.cons (.refl _) (.cons (.refl _) (.cons (.refl _) (.cons (.nil 63 1) .nil))))))) .nil))) (.new rfl .nil) rfl rfl) ?_
  refine Tr.range rfl rfl (i_cells b hmB) rfl rfl rfl (by intro x hx; obtain ⟨p, _, rfl⟩ := List.mem_map.1 hx; rfl)
    (fun pre t => ∃ m, m ≤ (boxCells b).length ∧ pre = ((boxCells b).take m).map cellV ∧ t.bx = [(6, ⟨[I 0, I 0, I 0, I 0, I 0, I 0, .nils], false⟩), (8, ⟨volC v, false⟩), (11, ⟨[I b.x, I b.y, I b.z, I b.a, I b.b, I b.c, .slice 63 1 (((boxCells b).take m).map fun p => I (atV v p))], false⟩)] ∧ t.rw = [(62, m, 1, 3)] ∧ t.log = [])
    (fun _ _ => False) ⟨0, by omega, rfl, rfl, rfl, rfl⟩ ?_ ?_ ?_
  · rintro a0 L0 rc0 h0 S1 S2 ok1 ok2 pre q t lp hpre ⟨m, hm, rfl, hbx, hrw, hlog⟩ henv hstp
    obtain ⟨env, bx, rw, log, stp⟩ := t
    simp only at hbx hrw hlog henv hstp
    subst hbx hrw hlog henv hstp
    have hmx : m < (boxCells b).length ∧ ∃ p, (boxCells b)[m]? = some p ∧ q = cellV p := by
      have h1 : (((boxCells b).take m).map cellV).length = m := by simp; omega
      have h2 := hpre.length_le
      simp at h2
      have hml : m < (boxCells b).length := by omega
      refine ⟨hml, _, List.getElem?_eq_getElem hml, ?_⟩
      have h3 := List.IsPrefix.getElem hpre (i := m) (by simp; omega)
      simp only [List.getElem_map] at h3
      rw [List.getElem_append_right (by omega)] at h3
      simpa using h3
    obtain ⟨hml, ⟨x, y, z⟩, hp, rfl⟩ := hmx
    have hin := mem_box.1 (cut_in h2 (List.mem_of_getElem? hp))
    have h5 : hasB v.b x y z = true := hin
    obtain ⟨i0, i1⟩ := idx_range h5
    obtain ⟨k, hk⟩ : ∃ k : Nat, idxOf v.b x y z = (k : Int) := ⟨(idxOf v.b x y z).toNat, by omega⟩
    have hkl : k < v.v.length := by unfold manyI at hlV; omega
    have hpk : atV v (x, y, z) = v.v[k] := atV_eq (p := (x, y, z)) hk hkl
    have htk : (boxCells b).take (m + 1) = (boxCells b).take m ++ [(x, y, z)] := by rw [List.take_add_one, hp]; rfl
    have hci : C Try.prog F.volume_box_index [.agg (boxC v.b), .agg (cellC x y z)] (I (k : Int)) := hk ▸ c_index v.b x y z hmV (has_bd' h5 hbV)
    refine Tr.regR rfl (by simp) (Tr.block (Tr.drawK (TraceK.run rfl (by simp [volC]) (TraceK.call rfl rfl hci (TraceK.runN 1 rfl (by simp [intsV]; omega) ?_)))))
    rw [getD_map hkl]
    refine TraceK.run rfl (by simp; omega) (.done ⟨by kernel_rfl, by kernel_rfl, ?_⟩)
    refine ⟨{ env := [], bx := [(6, ⟨[I 0, I 0, I 0, I 0, I 0, I 0, .nils], false⟩), (8, ⟨volC v, false⟩), (11, ⟨[I b.x, I b.y, I b.z, I b.a, I b.b, I b.c, .slice 63 1 ((((boxCells b).take m).map fun p => I (atV v p)) ++ [I v.v[k]])], false⟩)], rw := [(62, m + 1, 1, 3)], log := [], stp := false }, ?_, ⟨m + 1, by omega, ?_, ?_, rfl, rfl⟩, rfl⟩
    · refine Wk.le .nil (.cons rfl (LLe.refl _) (.cons rfl (LLe.refl _) (.cons rfl (LLe.refl _) .nil))) (.cons ?_ .nil) rfl rfl
      show some _ = some _
      simp; omega
    · rw [htk]; simp
    · rw [htk]; simp [hpk]
  · rintro ⟨env, bx, rw, log, stp⟩ henv hstp ⟨m, hm, hpre, hbx, hrw, hlog⟩
    simp only at hbx hrw hlog henv hstp
    subst hbx hrw hlog henv hstp
    have hml : m = (boxCells b).length := by
      have := congrArg List.length hpre
      simp at this; omega
    subst hml
    refine Tr.seqR rfl (by simp) (Tr.retX rfl rfl rfl ?_ trivial)
    rw [List.take_length]
    simp [packR, cutR, hV, h2, part, volC, intsV]
  · intro e t _ h; exact h.elim

theorem cut_le {v : Vol} {b : Bx} {w : World} {φ : Nat → Nat} {x : Value} (h : RepR w φ (cutR .nils v b) x) : RepR w φ (cutR (intsV []) v b) x := by
  unfold cutR at h ⊢
  split
  · split
    · rename_i h1 h2; rw [if_pos h1, if_pos h2] at h; exact h
    · rename_i h1 h2; rw [if_pos h1, if_neg h2] at h; exact repR_nil (l1 := [I 0, I 0, I 0, I 0, I 0, I 0]) h
  · rename_i h1; rw [if_neg h1] at h; exact repR_nil (l1 := [I 0, I 0, I 0, I 0, I 0, I 0]) h

theorem join_err {a b : Vol} (h : ¬ joinOk a b) : ∃ e : Int, e ≠ 0 ∧ ∀ nl, joinR nl a b = errVol nl e := by
  unfold joinR
  by_cases h1 : volOk a = true
  · by_cases h2 : volOk b = true
    · by_cases h3 : manyI (aroundB a.b b.b) = manyI a.b + manyI b.b - commonI a.b b.b
      · by_cases h4 : smallB (aroundB a.b b.b) = true
        · by_cases h5 : (boxCells (aroundB a.b b.b)).any (clash a b) = true
          · exact ⟨104, by omega, fun nl => by rw [if_pos h1, if_pos h2, if_pos h3, if_pos h4, if_pos h5]⟩
          · exact absurd ⟨h1, h2, h3, h4, by simpa using h5⟩ h
        · exact ⟨3, by omega, fun nl => by rw [if_pos h1, if_pos h2, if_pos h3, if_neg h4]⟩
      · exact ⟨103, by omega, fun nl => by rw [if_pos h1, if_pos h2, if_neg h3]⟩
    · exact ⟨101, by omega, fun nl => by rw [if_pos h1, if_neg h2]⟩
  · exact ⟨101, by omega, fun nl => by rw [if_neg h1]⟩

theorem join_le {a b : Vol} {w : World} {φ : Nat → Nat} {x : Value} (h : RepR w φ (joinR .nils a b) x) : RepR w φ (joinR (intsV []) a b) x := by
  by_cases h0 : joinOk a b
  · rcases join_cases (intsV []) a b with ⟨_, h3⟩ | ⟨h3, _⟩
    · rcases join_cases .nils a b with ⟨_, h4⟩ | ⟨h4, _⟩
      · rw [h4] at h; rw [h3]; exact h
      · exact absurd h0 h4
    · exact absurd h0 h3
  · obtain ⟨e, _, h1⟩ := join_err h0
    rw [h1] at h ⊢
    exact repR_nil (l1 := [I 0, I 0, I 0, I 0, I 0, I 0]) h

end Go.Proofs.Ytkifejklnpddbaa
