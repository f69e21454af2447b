/-
  Parts of the proof, 1: the abstract machine, the compiled code, contracts of the functions, plain laws.
-/
import Derived.Test.YtkifejklnpddbaaZ5


/-! The code of further functions, compiled. -/
set_option maxRecDepth 100000
namespace Go.Proofs.Ytkifejklnpddbaa
open Go.Am
/-- paravane/paravanelaw10.VolumeNames -/
abbrev F.law10_VolumeNames : Nat := 4
def ir.law10_VolumeNames : IC :=
 (.seq (.reg [⟨(some 4), .box, [.t 1], none⟩,
     ⟨(some 5), .box, [.t 2], none⟩,
     ⟨(some 6), .mov, [.c (.bool false)], none⟩])
   (.seq (.reg [⟨(some 12), .mov, [.t 0], none⟩,
     ⟨(some 13), .load 3 true, [.t 4], none⟩,
     ⟨(some 14), .iaddrA 2 1, [.t 5, .c (.int .i64 0)], none⟩,
     ⟨(some 15), .load 1 false, [.t 14], none⟩,
     ⟨(some 16), .iaddrA 2 1, [.t 5, .c (.int .i64 1)], none⟩,
     ⟨(some 17), .load 1 false, [.t 16], none⟩,
     ⟨(some 18), .call 31, [.t 12, .t 13, .t 15, .t 17], none⟩,
     ⟨(some 11), .mov, [.t 18], none⟩,
     ⟨(some 19), .extract 0, [.t 11], none⟩,
     ⟨(some 20), .extract 1, [.t 11], none⟩,
     ⟨(some 7), .alloc [(.int .i64 0), (.int .i64 0), (.int .i64 0), .nils, (.int .i64 0), (.int .i64 0)], [], none⟩,
     ⟨none, .store 6, [.t 7, .t 19], none⟩,
     ⟨(some 8), .mov, [.t 20], none⟩])
   (.seq (.reg [⟨(some 22), .mov, [.t 0], none⟩,
     ⟨(some 23), .load 3 true, [.t 4], none⟩,
     ⟨(some 24), .iaddrA 2 1, [.t 5, .c (.int .i64 0)], none⟩,
     ⟨(some 25), .load 1 false, [.t 24], none⟩,
     ⟨(some 26), .iaddrA 2 1, [.t 5, .c (.int .i64 1)], none⟩,
     ⟨(some 27), .load 1 false, [.t 26], none⟩,
     ⟨(some 28), .call 32, [.t 22, .t 23, .t 25, .t 27], none⟩,
     ⟨(some 21), .mov, [.t 28], none⟩,
     ⟨(some 29), .extract 0, [.t 21], none⟩,
     ⟨(some 30), .extract 1, [.t 21], none⟩,
     ⟨(some 9), .alloc [(.int .i64 0), (.int .i64 0), (.int .i64 0), .nils, (.int .i64 0), (.int .i64 0)], [], none⟩,
     ⟨none, .store 6, [.t 9, .t 29], none⟩,
     ⟨(some 10), .mov, [.t 30], none⟩])
   (.seq (.reg [⟨(some 31), .load 6 true, [.t 7], none⟩,
     ⟨(some 32), .load 6 true, [.t 9], none⟩,
     ⟨(some 33), .call 33, [.t 31, .t 32], none⟩,
     ⟨(some 34), .mov, [.t 33], none⟩,
     ⟨(some 35), .mov, [.t 8], (some (34, true))⟩,
     ⟨(some 36), .mov, [.t 10], (some (34, true))⟩,
     ⟨(some 37), .bin .eql, [.t 35, .t 36], (some (34, true))⟩,
     ⟨(some 38), .pick, [.t 34, .t 37, .c (.bool false)], none⟩,
     ⟨(some 39), .mov, [.t 38], none⟩,
     ⟨(some 40), .call 30, [], (some (39, true))⟩,
     ⟨(some 41), .pick, [.t 39, .t 40, .c (.bool false)], none⟩,
     ⟨(some 6), .mov, [.t 41], none⟩])
   .ret))))
theorem chk.law10_VolumeNames : chkF Try.prog 4 = some (42, ir.law10_VolumeNames, [.tmp 6]) := by kernel_rfl

/-- paravane/paravanelaw10.VolumeEncloses -/
abbrev F.law10_VolumeEncloses : Nat := 5
def ir.law10_VolumeEncloses : IC :=
 (.seq (.reg [⟨(some 3), .box, [.t 1], none⟩,
     ⟨(some 4), .mov, [.c (.bool false)], none⟩])
   (.seq (.reg [⟨(some 10), .mov, [.t 0], none⟩,
     ⟨(some 11), .faddr 0, [.t 3], none⟩,
     ⟨(some 12), .load 3 true, [.t 11], none⟩,
     ⟨(some 13), .faddr 3, [.t 3], none⟩,
     ⟨(some 14), .load 3 true, [.t 13], none⟩,
     ⟨(some 15), .faddr 6, [.t 3], none⟩,
     ⟨(some 16), .load 1 false, [.t 15], none⟩,
     ⟨(some 17), .faddr 7, [.t 3], none⟩,
     ⟨(some 18), .load 2 true, [.t 17], none⟩,
     ⟨(some 19), .call 34, [.t 10, .t 12, .t 14, .t 16, .t 18], none⟩,
     ⟨(some 9), .mov, [.t 19], none⟩,
     ⟨(some 20), .extract 0, [.t 9], none⟩,
     ⟨(some 21), .extract 1, [.t 9], none⟩,
     ⟨(some 5), .alloc [(.int .i64 0), (.int .i64 0), (.int .i64 0), (.int .i64 0), (.int .i64 0), (.int .i64 0), .nils], [], none⟩,
     ⟨none, .store 7, [.t 5, .t 20], none⟩,
     ⟨(some 6), .mov, [.t 21], none⟩])
   (.seq (.reg [⟨(some 23), .mov, [.t 0], none⟩,
     ⟨(some 24), .faddr 0, [.t 3], none⟩,
     ⟨(some 25), .load 3 true, [.t 24], none⟩,
     ⟨(some 26), .faddr 3, [.t 3], none⟩,
     ⟨(some 27), .load 3 true, [.t 26], none⟩,
     ⟨(some 28), .faddr 6, [.t 3], none⟩,
     ⟨(some 29), .load 1 false, [.t 28], none⟩,
     ⟨(some 30), .faddr 7, [.t 3], none⟩,
     ⟨(some 31), .load 2 true, [.t 30], none⟩,
     ⟨(some 32), .call 35, [.t 23, .t 25, .t 27, .t 29, .t 31], none⟩,
     ⟨(some 22), .mov, [.t 32], none⟩,
     ⟨(some 33), .extract 0, [.t 22], none⟩,
     ⟨(some 34), .extract 1, [.t 22], none⟩,
     ⟨(some 7), .alloc [(.int .i64 0), (.int .i64 0), (.int .i64 0), (.int .i64 0), (.int .i64 0), (.int .i64 0), .nils], [], none⟩,
     ⟨none, .store 7, [.t 7, .t 33], none⟩,
     ⟨(some 8), .mov, [.t 34], none⟩])
   (.seq (.reg [⟨(some 35), .load 7 true, [.t 5], none⟩,
     ⟨(some 36), .load 7 true, [.t 7], none⟩,
     ⟨(some 37), .call 36, [.t 35, .t 36], none⟩,
     ⟨(some 38), .mov, [.t 37], none⟩,
     ⟨(some 39), .mov, [.t 6], (some (38, true))⟩,
     ⟨(some 40), .mov, [.t 8], (some (38, true))⟩,
     ⟨(some 41), .bin .eql, [.t 39, .t 40], (some (38, true))⟩,
     ⟨(some 42), .pick, [.t 38, .t 41, .c (.bool false)], none⟩,
     ⟨(some 43), .mov, [.t 42], none⟩,
     ⟨(some 44), .call 30, [], (some (43, true))⟩,
     ⟨(some 45), .pick, [.t 43, .t 44, .c (.bool false)], none⟩,
     ⟨(some 4), .mov, [.t 45], none⟩])
   .ret))))
theorem chk.law10_VolumeEncloses : chkF Try.prog 5 = some (46, ir.law10_VolumeEncloses, [.tmp 4]) := by kernel_rfl

/-- paravane/paravanelaw10.VolumeJoins -/
abbrev F.law10_VolumeJoins : Nat := 7
def ir.law10_VolumeJoins : IC :=
 (.seq (.reg [⟨(some 2), .box, [.t 0], none⟩,
     ⟨(some 3), .box, [.t 1], none⟩,
     ⟨(some 4), .mov, [.c (.bool false)], none⟩])
   (.seq (.reg [⟨(some 10), .load 7 true, [.t 2], none⟩,
     ⟨(some 11), .load 7 true, [.t 3], none⟩,
     ⟨(some 12), .call 42, [.t 10, .t 11], none⟩,
     ⟨(some 9), .mov, [.t 12], none⟩,
     ⟨(some 13), .extract 0, [.t 9], none⟩,
     ⟨(some 14), .extract 1, [.t 9], none⟩,
     ⟨(some 5), .alloc [(.int .i64 0), (.int .i64 0), (.int .i64 0), (.int .i64 0), (.int .i64 0), (.int .i64 0), .nils], [], none⟩,
     ⟨none, .store 7, [.t 5, .t 13], none⟩,
     ⟨(some 6), .mov, [.t 14], none⟩])
   (.seq (.reg [⟨(some 16), .load 7 true, [.t 2], none⟩,
     ⟨(some 17), .load 7 true, [.t 3], none⟩,
     ⟨(some 18), .call 43, [.t 16, .t 17], none⟩,
     ⟨(some 15), .mov, [.t 18], none⟩,
     ⟨(some 19), .extract 0, [.t 15], none⟩,
     ⟨(some 20), .extract 1, [.t 15], none⟩,
     ⟨(some 7), .alloc [(.int .i64 0), (.int .i64 0), (.int .i64 0), (.int .i64 0), (.int .i64 0), (.int .i64 0), .nils], [], none⟩,
     ⟨none, .store 7, [.t 7, .t 19], none⟩,
     ⟨(some 8), .mov, [.t 20], none⟩])
   (.seq (.reg [⟨(some 21), .load 7 true, [.t 5], none⟩,
     ⟨(some 22), .load 7 true, [.t 7], none⟩,
     ⟨(some 23), .call 44, [.t 21, .t 22], none⟩,
     ⟨(some 24), .mov, [.t 23], none⟩,
     ⟨(some 25), .mov, [.t 6], (some (24, true))⟩,
     ⟨(some 26), .mov, [.t 8], (some (24, true))⟩,
     ⟨(some 27), .bin .eql, [.t 25, .t 26], (some (24, true))⟩,
     ⟨(some 28), .pick, [.t 24, .t 27, .c (.bool false)], none⟩,
     ⟨(some 29), .mov, [.t 28], none⟩,
     ⟨(some 30), .call 30, [], (some (29, true))⟩,
     ⟨(some 31), .pick, [.t 29, .t 30, .c (.bool false)], none⟩,
     ⟨(some 4), .mov, [.t 31], none⟩])
   .ret))))
theorem chk.law10_VolumeJoins : chkF Try.prog 7 = some (32, ir.law10_VolumeJoins, [.tmp 4]) := by kernel_rfl

/-- paravane/paravanelaw10.VolumeTruth -/
abbrev F.law10_VolumeTruth : Nat := 13
def ir.law10_VolumeTruth : IC :=
 (.seq (.reg [⟨(some 4), .box, [.t 1], none⟩,
     ⟨(some 5), .box, [.t 2], none⟩,
     ⟨(some 6), .mov, [.c (.bool false)], none⟩])
   (.seq (.reg [⟨(some 16), .mov, [.t 0], none⟩,
     ⟨(some 17), .faddr 0, [.t 4], none⟩,
     ⟨(some 18), .load 3 true, [.t 17], none⟩,
     ⟨(some 19), .faddr 3, [.t 4], none⟩,
     ⟨(some 20), .load 3 true, [.t 19], none⟩,
     ⟨(some 21), .faddr 6, [.t 4], none⟩,
     ⟨(some 22), .load 1 false, [.t 21], none⟩,
     ⟨(some 23), .faddr 7, [.t 4], none⟩,
     ⟨(some 24), .load 2 true, [.t 23], none⟩,
     ⟨(some 25), .call 34, [.t 16, .t 18, .t 20, .t 22, .t 24], none⟩,
     ⟨(some 15), .mov, [.t 25], none⟩,
     ⟨(some 26), .extract 0, [.t 15], none⟩,
     ⟨(some 27), .extract 1, [.t 15], none⟩,
     ⟨(some 7), .alloc [(.int .i64 0), (.int .i64 0), (.int .i64 0), (.int .i64 0), (.int .i64 0), (.int .i64 0), .nils], [], none⟩,
     ⟨none, .store 7, [.t 7, .t 26], none⟩,
     ⟨(some 8), .mov, [.t 27], none⟩])
   (.seq (.seq (.reg [⟨(some 28), .mov, [.t 8], none⟩,
     ⟨(some 29), .bin .neq, [.t 28, .c (.int .i64 0)], none⟩])
   (.cond (.t 29) (.seq (.reg [⟨(some 30), .faddr 6, [.t 7], none⟩,
     ⟨(some 31), .load 1 false, [.t 30], none⟩,
     ⟨(some 32), .len false, [.t 31], none⟩,
     ⟨(some 33), .bin .eql, [.t 32, .c (.int .i64 0)], none⟩,
     ⟨(some 34), .mov, [.t 33], none⟩,
     ⟨(some 35), .call 30, [], (some (34, true))⟩,
     ⟨(some 36), .pick, [.t 34, .t 35, .c (.bool false)], none⟩,
     ⟨(some 6), .mov, [.t 36], none⟩])
   .ret) .skip))
   (.seq (.draw [0, 1, 3, 0, 8, 0, 32, 96, 0, 256, 768, 2016, 4064, 8184, 16383, 32767] [⟨(some 37), .faddr 7, [.t 4], none⟩,
     ⟨(some 38), .faddr 0, [.t 37], none⟩,
     ⟨(some 39), .load 1 false, [.t 38], none⟩,
     ⟨(some 40), .faddr 1, [.t 5], none⟩,
     ⟨(some 41), .load 1 false, [.t 40], none⟩,
     ⟨(some 42), .faddr 7, [.t 4], none⟩,
     ⟨(some 43), .faddr 1, [.t 42], none⟩,
     ⟨(some 44), .load 1 false, [.t 43], none⟩,
     ⟨(some 45), .faddr 7, [.t 4], none⟩,
     ⟨(some 46), .faddr 0, [.t 45], none⟩,
     ⟨(some 47), .load 1 false, [.t 46], none⟩,
     ⟨(some 48), .bin .sub, [.t 44, .t 47], none⟩,
     ⟨(some 49), .bin .add, [.t 48, .c (.int .i64 1)], none⟩,
     ⟨(some 50), .call 49, [.t 41, .t 49], none⟩,
     ⟨(some 51), .bin .add, [.t 39, .t 50], none⟩,
     ⟨(some 9), .mov, [.t 51], none⟩])
   (.seq (.reg [⟨(some 52), .mov, [.t 0], none⟩,
     ⟨(some 53), .faddr 0, [.t 5], none⟩,
     ⟨(some 54), .load 1 false, [.t 53], none⟩,
     ⟨(some 55), .call 54, [.t 52, .t 54], none⟩,
     ⟨(some 10), .mov, [.t 55], none⟩])
   (.seq (.reg [⟨(some 57), .mov, [.t 10], none⟩,
     ⟨(some 58), .faddr 0, [.t 4], none⟩,
     ⟨(some 59), .load 3 true, [.t 58], none⟩,
     ⟨(some 60), .faddr 3, [.t 4], none⟩,
     ⟨(some 61), .load 3 true, [.t 60], none⟩,
     ⟨(some 62), .faddr 6, [.t 4], none⟩,
     ⟨(some 63), .load 1 false, [.t 62], none⟩,
     ⟨(some 64), .mov, [.t 9], none⟩,
     ⟨(some 65), .call 52, [.t 57, .t 59, .t 61, .t 63, .t 64], none⟩,
     ⟨(some 56), .mov, [.t 65], none⟩,
     ⟨(some 66), .extract 0, [.t 56], none⟩,
     ⟨(some 67), .extract 1, [.t 56], none⟩,
     ⟨(some 11), .alloc [(.int .i64 0), (.int .i64 0), (.int .i64 0), (.int .i64 0), (.int .i64 0), (.int .i64 0), .nils], [], none⟩,
     ⟨none, .store 7, [.t 11, .t 66], none⟩,
     ⟨(some 8), .mov, [.t 67], none⟩])
   (.seq (.reg [⟨(some 69), .mov, [.t 0], none⟩,
     ⟨(some 70), .faddr 0, [.t 4], none⟩,
     ⟨(some 71), .load 3 true, [.t 70], none⟩,
     ⟨(some 72), .faddr 3, [.t 4], none⟩,
     ⟨(some 73), .load 3 true, [.t 72], none⟩,
     ⟨(some 74), .faddr 6, [.t 4], none⟩,
     ⟨(some 75), .load 1 false, [.t 74], none⟩,
     ⟨(some 76), .mov, [.t 9], none⟩,
     ⟨(some 77), .call 52, [.t 69, .t 71, .t 73, .t 75, .t 76], none⟩,
     ⟨(some 68), .mov, [.t 77], none⟩,
     ⟨(some 78), .extract 0, [.t 68], none⟩,
     ⟨(some 79), .extract 1, [.t 68], none⟩,
     ⟨(some 12), .alloc [(.int .i64 0), (.int .i64 0), (.int .i64 0), (.int .i64 0), (.int .i64 0), (.int .i64 0), .nils], [], none⟩,
     ⟨none, .store 7, [.t 12, .t 78], none⟩,
     ⟨(some 13), .mov, [.t 79], none⟩])
   (.seq (.seq (.reg [⟨(some 80), .mov, [.t 8], none⟩,
     ⟨(some 81), .bin .neq, [.t 80, .c (.int .i64 0)], none⟩,
     ⟨(some 82), .mov, [.t 81], none⟩,
     ⟨(some 83), .mov, [.t 13], (some (82, false))⟩,
     ⟨(some 84), .bin .neq, [.t 83, .c (.int .i64 0)], (some (82, false))⟩,
     ⟨(some 85), .pick, [.t 82, .c (.bool true), .t 84], none⟩,
     ⟨(some 86), .mov, [.t 85], none⟩,
     ⟨(some 87), .load 7 true, [.t 11], (some (86, false))⟩,
     ⟨(some 88), .load 7 true, [.t 7], (some (86, false))⟩,
     ⟨(some 89), .call 55, [.t 87, .t 88], (some (86, false))⟩,
     ⟨(some 90), .un .not, [.t 89], (some (86, false))⟩,
     ⟨(some 91), .pick, [.t 86, .c (.bool true), .t 90], none⟩,
     ⟨(some 92), .mov, [.t 91], none⟩,
     ⟨(some 93), .load 7 true, [.t 11], (some (92, false))⟩,
     ⟨(some 94), .load 7 true, [.t 12], (some (92, false))⟩,
     ⟨(some 95), .call 55, [.t 93, .t 94], (some (92, false))⟩,
     ⟨(some 96), .un .not, [.t 95], (some (92, false))⟩,
     ⟨(some 97), .pick, [.t 92, .c (.bool true), .t 96], none⟩,
     ⟨(some 98), .mov, [.t 97], none⟩,
     ⟨(some 99), .load 7 true, [.t 12], (some (98, false))⟩,
     ⟨(some 100), .load 7 true, [.t 7], (some (98, false))⟩,
     ⟨(some 101), .call 55, [.t 99, .t 100], (some (98, false))⟩,
     ⟨(some 102), .un .not, [.t 101], (some (98, false))⟩,
     ⟨(some 103), .pick, [.t 98, .c (.bool true), .t 102], none⟩])
   (.cond (.t 103) (.seq (.reg [⟨(some 6), .mov, [.c (.bool false)], none⟩])
   .ret) .skip))
   (.seq (.seq (.reg [⟨(some 14), .mov, [.c (.int .i64 0)], none⟩])
   (.block 0 (.loop (.seq (.seq (.reg [⟨(some 104), .mov, [.t 14], none⟩,
     ⟨(some 105), .faddr 6, [.t 11], none⟩,
     ⟨(some 106), .load 1 false, [.t 105], none⟩,
     ⟨(some 107), .len false, [.t 106], none⟩,
     ⟨(some 108), .bin .lss, [.t 104, .t 107], none⟩])
   (.cond (.t 108) .skip (.exit 0)))
   (.seq (.block 1 (.seq (.draw [0, 1, 0, 7, 15, 31, 0, 64, 0, 448, 960, 1984, 4095] [⟨(some 111), .faddr 6, [.t 11], none⟩,
     ⟨(some 112), .load 1 false, [.t 111], none⟩,
     ⟨(some 113), .mov, [.t 14], none⟩,
     ⟨(some 114), .iaddrS 2, [.t 112, .t 113], none⟩,
     ⟨(some 115), .faddr 0, [.t 114], none⟩,
     ⟨(some 116), .load 1 false, [.t 115], none⟩,
     ⟨(some 117), .faddr 6, [.t 11], none⟩,
     ⟨(some 118), .load 1 false, [.t 117], none⟩,
     ⟨(some 119), .mov, [.t 14], none⟩,
     ⟨(some 120), .iaddrS 2, [.t 118, .t 119], none⟩,
     ⟨(some 121), .faddr 1, [.t 120], none⟩,
     ⟨(some 122), .load 1 false, [.t 121], none⟩,
     ⟨(some 123), .bin .neq, [.t 116, .t 122], none⟩])
   (.cond (.t 123) (.seq (.reg [⟨(some 6), .mov, [.c (.bool false)], none⟩])
   .ret) .skip)))
   (.reg [⟨(some 109), .mov, [.t 14], none⟩,
     ⟨(some 110), .bin .add, [.t 109, .c (.int .i64 1)], none⟩,
     ⟨(some 14), .mov, [.t 110], none⟩]))))))
   (.seq (.reg [⟨(some 124), .call 30, [], none⟩,
     ⟨(some 6), .mov, [.t 124], none⟩])
   .ret))))))))))
theorem chk.law10_VolumeTruth : chkF Try.prog 13 = some (125, ir.law10_VolumeTruth, [.tmp 6]) := by kernel_rfl

/-- paravane/paravanelaw10.VolumeLinear -/
abbrev F.law10_VolumeLinear : Nat := 15
def ir.law10_VolumeLinear : IC :=
 (.seq (.reg [⟨(some 5), .box, [.t 2], none⟩,
     ⟨(some 6), .mov, [.c (.bool false)], none⟩])
   (.seq (.reg [⟨(some 26), .mov, [.t 0], none⟩,
     ⟨(some 27), .faddr 0, [.t 5], none⟩,
     ⟨(some 28), .load 3 true, [.t 27], none⟩,
     ⟨(some 29), .faddr 3, [.t 5], none⟩,
     ⟨(some 30), .load 3 true, [.t 29], none⟩,
     ⟨(some 31), .faddr 6, [.t 5], none⟩,
     ⟨(some 32), .load 1 false, [.t 31], none⟩,
     ⟨(some 33), .faddr 7, [.t 5], none⟩,
     ⟨(some 34), .faddr 0, [.t 33], none⟩,
     ⟨(some 35), .load 1 false, [.t 34], none⟩,
     ⟨(some 36), .call 52, [.t 26, .t 28, .t 30, .t 32, .t 35], none⟩,
     ⟨(some 25), .mov, [.t 36], none⟩,
     ⟨(some 37), .extract 0, [.t 25], none⟩,
     ⟨(some 38), .extract 1, [.t 25], none⟩,
     ⟨(some 7), .alloc [(.int .i64 0), (.int .i64 0), (.int .i64 0), (.int .i64 0), (.int .i64 0), (.int .i64 0), .nils], [], none⟩,
     ⟨none, .store 7, [.t 7, .t 37], none⟩,
     ⟨(some 8), .mov, [.t 38], none⟩])
   (.seq (.seq (.reg [⟨(some 39), .mov, [.t 8], none⟩,
     ⟨(some 40), .bin .neq, [.t 39, .c (.int .i64 0)], none⟩])
   (.cond (.t 40) (.seq (.reg [⟨(some 41), .faddr 6, [.t 7], none⟩,
     ⟨(some 42), .load 1 false, [.t 41], none⟩,
     ⟨(some 43), .len false, [.t 42], none⟩,
     ⟨(some 44), .bin .eql, [.t 43, .c (.int .i64 0)], none⟩,
     ⟨(some 45), .mov, [.t 44], none⟩,
     ⟨(some 46), .call 30, [], (some (45, true))⟩,
     ⟨(some 47), .pick, [.t 45, .t 46, .c (.bool false)], none⟩,
     ⟨(some 6), .mov, [.t 47], none⟩])
   .ret) .skip))
   (.seq (.reg [⟨(some 9), .mov, [.c .nils], none⟩,
     ⟨(some 10), .mov, [.c .nils], none⟩])
   (.seq (.seq (.reg [⟨(some 11), .mov, [.c (.int .i64 0)], none⟩])
   (.block 0 (.loop (.seq (.seq (.reg [⟨(some 48), .mov, [.t 11], none⟩,
     ⟨(some 49), .mov, [.t 0], none⟩,
     ⟨(some 50), .len false, [.t 49], none⟩,
     ⟨(some 51), .bin .lss, [.t 48, .t 50], none⟩])
   (.cond (.t 51) .skip (.exit 0)))
   (.seq (.block 1 (.seq (.draw [0, 0, 3, 7, 15, 0, 0, 96, 224, 480, 1023, 0, 0, 6144, 14336, 30720, 0, 0, 196608, 458752, 983040, 2095104, 0, 0, 12584959, 33554431] [⟨(some 54), .mov, [.t 0], none⟩,
     ⟨(some 55), .mov, [.t 11], none⟩,
     ⟨(some 56), .iaddrS 3, [.t 54, .t 55], none⟩,
     ⟨(some 57), .faddr 0, [.t 56], none⟩,
     ⟨(some 58), .load 1 false, [.t 57], none⟩,
     ⟨(some 59), .mov, [.t 0], none⟩,
     ⟨(some 60), .mov, [.t 11], none⟩,
     ⟨(some 61), .iaddrS 3, [.t 59, .t 60], none⟩,
     ⟨(some 62), .faddr 1, [.t 61], none⟩,
     ⟨(some 63), .load 1 false, [.t 62], none⟩,
     ⟨(some 64), .build [(.int .i64 0), (.int .i64 0), .nils] [(0, 1), (1, 1)], [.t 58, .t 63], none⟩,
     ⟨(some 65), .mov, [.t 0], none⟩,
     ⟨(some 66), .mov, [.t 11], none⟩,
     ⟨(some 67), .iaddrS 3, [.t 65, .t 66], none⟩,
     ⟨(some 68), .faddr 0, [.t 67], none⟩,
     ⟨(some 69), .load 1 false, [.t 68], none⟩,
     ⟨(some 70), .mov, [.t 0], none⟩,
     ⟨(some 71), .mov, [.t 11], none⟩,
     ⟨(some 72), .iaddrS 3, [.t 70, .t 71], none⟩,
     ⟨(some 73), .faddr 1, [.t 72], none⟩,
     ⟨(some 74), .load 1 false, [.t 73], none⟩,
     ⟨(some 75), .build [(.int .i64 0), (.int .i64 0), .nils] [(0, 1), (1, 1)], [.t 69, .t 74], none⟩,
     ⟨(some 12), .alloc [(.int .i64 0), (.int .i64 0), .nils], [], none⟩,
     ⟨(some 13), .alloc [(.int .i64 0), (.int .i64 0), .nils], [], none⟩,
     ⟨none, .store 3, [.t 12, .t 64], none⟩,
     ⟨none, .store 3, [.t 13, .t 75], none⟩])
   (.seq (.seq (.reg [⟨(some 14), .mov, [.c (.int .i64 0)], none⟩])
   (.block 2 (.loop (.seq (.seq (.reg [⟨(some 76), .mov, [.t 14], none⟩,
     ⟨(some 77), .mov, [.t 0], none⟩,
     ⟨(some 78), .mov, [.t 11], none⟩,
     ⟨(some 79), .iaddrS 3, [.t 77, .t 78], none⟩,
     ⟨(some 80), .faddr 2, [.t 79], none⟩,
     ⟨(some 81), .load 1 false, [.t 80], none⟩,
     ⟨(some 82), .len false, [.t 81], none⟩,
     ⟨(some 83), .bin .lss, [.t 76, .t 82], none⟩])
   (.cond (.t 83) .skip (.exit 2)))
   (.seq (.block 3 (.seq (.reg [⟨(some 86), .mov, [.t 1], none⟩,
     ⟨(some 87), .mov, [.t 11], none⟩,
     ⟨(some 88), .bin .mul, [.c (.int .i64 5), .t 87], none⟩,
     ⟨(some 89), .mov, [.t 14], none⟩,
     ⟨(some 90), .bin .add, [.t 88, .t 89], none⟩,
     ⟨(some 91), .call 56, [.t 86, .t 90], none⟩,
     ⟨(some 92), .call 49, [.t 91, .c (.int .i64 2001)], none⟩,
     ⟨(some 93), .bin .sub, [.t 92, .c (.int .i64 1000)], none⟩,
     ⟨(some 15), .mov, [.t 93], none⟩])
   (.seq (.reg [⟨(some 94), .faddr 2, [.t 12], none⟩,
     ⟨(some 95), .load 1 false, [.t 94], none⟩,
     ⟨(some 96), .mov, [.t 15], none⟩,
     ⟨(some 97), .mov, [.t 15], none⟩,
     ⟨(some 98), .build [(.int .i64 0), (.int .i64 0)] [(0, 1), (1, 1)], [.t 96, .t 97], none⟩,
     ⟨(some 99), .mkslice 2 33, [.t 98], none⟩,
     ⟨(some 100), .append 2 16 33, [.t 95, .t 99], none⟩,
     ⟨(some 101), .faddr 2, [.t 12], none⟩,
     ⟨none, .store 1, [.t 101, .t 100], none⟩])
   (.draw [0, 1, 0, 0, 12, 28, 60, 0, 252, 508, 0, 0, 3072, 8188, 16380, 32767, 65535, 131071] [⟨(some 102), .faddr 2, [.t 13], none⟩,
     ⟨(some 103), .load 1 false, [.t 102], none⟩,
     ⟨(some 104), .mov, [.t 0], none⟩,
     ⟨(some 105), .mov, [.t 11], none⟩,
     ⟨(some 106), .iaddrS 3, [.t 104, .t 105], none⟩,
     ⟨(some 107), .faddr 2, [.t 106], none⟩,
     ⟨(some 108), .load 1 false, [.t 107], none⟩,
     ⟨(some 109), .mov, [.t 14], none⟩,
     ⟨(some 110), .iaddrS 2, [.t 108, .t 109], none⟩,
     ⟨(some 111), .load 2 true, [.t 110], none⟩,
     ⟨(some 112), .mov, [.t 15], none⟩,
     ⟨(some 113), .mov, [.t 15], none⟩,
     ⟨(some 114), .build [(.int .i64 0), (.int .i64 0)] [(0, 1), (1, 1)], [.t 112, .t 113], none⟩,
     ⟨(some 115), .call 57, [.t 111, .t 114], none⟩,
     ⟨(some 116), .mkslice 2 33, [.t 115], none⟩,
     ⟨(some 117), .append 2 16 33, [.t 103, .t 116], none⟩,
     ⟨(some 118), .faddr 2, [.t 13], none⟩,
     ⟨none, .store 1, [.t 118, .t 117], none⟩]))))
   (.reg [⟨(some 84), .mov, [.t 14], none⟩,
     ⟨(some 85), .bin .add, [.t 84, .c (.int .i64 1)], none⟩,
     ⟨(some 14), .mov, [.t 85], none⟩]))))))
   (.draw [0, 0, 2, 7, 0, 0, 32, 127, 255, 511] [⟨(some 119), .mov, [.t 9], none⟩,
     ⟨(some 120), .load 3 true, [.t 12], none⟩,
     ⟨(some 121), .mkslice 3 79, [.t 120], none⟩,
     ⟨(some 122), .append 3 40 79, [.t 119, .t 121], none⟩,
     ⟨(some 123), .mov, [.t 10], none⟩,
     ⟨(some 124), .load 3 true, [.t 13], none⟩,
     ⟨(some 125), .mkslice 3 79, [.t 124], none⟩,
     ⟨(some 126), .append 3 40 79, [.t 123, .t 125], none⟩,
     ⟨(some 9), .mov, [.t 122], none⟩,
     ⟨(some 10), .mov, [.t 126], none⟩]))))
   (.reg [⟨(some 52), .mov, [.t 11], none⟩,
     ⟨(some 53), .bin .add, [.t 52, .c (.int .i64 1)], none⟩,
     ⟨(some 11), .mov, [.t 53], none⟩]))))))
   (.seq (.reg [⟨(some 128), .mov, [.t 9], none⟩,
     ⟨(some 129), .faddr 0, [.t 5], none⟩,
     ⟨(some 130), .load 3 true, [.t 129], none⟩,
     ⟨(some 131), .faddr 3, [.t 5], none⟩,
     ⟨(some 132), .load 3 true, [.t 131], none⟩,
     ⟨(some 133), .faddr 6, [.t 5], none⟩,
     ⟨(some 134), .load 1 false, [.t 133], none⟩,
     ⟨(some 135), .faddr 7, [.t 5], none⟩,
     ⟨(some 136), .faddr 0, [.t 135], none⟩,
     ⟨(some 137), .load 1 false, [.t 136], none⟩,
     ⟨(some 138), .call 52, [.t 128, .t 130, .t 132, .t 134, .t 137], none⟩,
     ⟨(some 127), .mov, [.t 138], none⟩,
     ⟨(some 139), .extract 0, [.t 127], none⟩,
     ⟨(some 140), .extract 1, [.t 127], none⟩,
     ⟨(some 16), .alloc [(.int .i64 0), (.int .i64 0), (.int .i64 0), (.int .i64 0), (.int .i64 0), (.int .i64 0), .nils], [], none⟩,
     ⟨none, .store 7, [.t 16, .t 139], none⟩,
     ⟨(some 8), .mov, [.t 140], none⟩])
   (.seq (.reg [⟨(some 142), .mov, [.t 10], none⟩,
     ⟨(some 143), .faddr 0, [.t 5], none⟩,
     ⟨(some 144), .load 3 true, [.t 143], none⟩,
     ⟨(some 145), .faddr 3, [.t 5], none⟩,
     ⟨(some 146), .load 3 true, [.t 145], none⟩,
     ⟨(some 147), .faddr 6, [.t 5], none⟩,
     ⟨(some 148), .load 1 false, [.t 147], none⟩,
     ⟨(some 149), .faddr 7, [.t 5], none⟩,
     ⟨(some 150), .faddr 0, [.t 149], none⟩,
     ⟨(some 151), .load 1 false, [.t 150], none⟩,
     ⟨(some 152), .call 52, [.t 142, .t 144, .t 146, .t 148, .t 151], none⟩,
     ⟨(some 141), .mov, [.t 152], none⟩,
     ⟨(some 153), .extract 0, [.t 141], none⟩,
     ⟨(some 154), .extract 1, [.t 141], none⟩,
     ⟨(some 17), .alloc [(.int .i64 0), (.int .i64 0), (.int .i64 0), (.int .i64 0), (.int .i64 0), (.int .i64 0), .nils], [], none⟩,
     ⟨none, .store 7, [.t 17, .t 153], none⟩,
     ⟨(some 18), .mov, [.t 154], none⟩])
   (.seq (.seq (.reg [⟨(some 155), .mov, [.t 8], none⟩,
     ⟨(some 156), .bin .neq, [.t 155, .c (.int .i64 0)], none⟩,
     ⟨(some 157), .mov, [.t 156], none⟩,
     ⟨(some 158), .faddr 6, [.t 16], (some (157, false))⟩,
     ⟨(some 159), .load 1 false, [.t 158], (some (157, false))⟩,
     ⟨(some 160), .len false, [.t 159], (some (157, false))⟩,
     ⟨(some 161), .faddr 6, [.t 7], (some (157, false))⟩,
     ⟨(some 162), .load 1 false, [.t 161], (some (157, false))⟩,
     ⟨(some 163), .len false, [.t 162], (some (157, false))⟩,
     ⟨(some 164), .bin .neq, [.t 160, .t 163], (some (157, false))⟩,
     ⟨(some 165), .pick, [.t 157, .c (.bool true), .t 164], none⟩])
   (.cond (.t 165) (.seq (.reg [⟨(some 6), .mov, [.c (.bool false)], none⟩])
   .ret) .skip))
   (.seq (.seq (.reg [⟨(some 166), .mov, [.t 18], none⟩,
     ⟨(some 167), .bin .neq, [.t 166, .c (.int .i64 0)], none⟩])
   (.cond (.t 167) (.seq (.reg [⟨(some 168), .mov, [.t 18], none⟩,
     ⟨(some 169), .bin .eql, [.t 168, .c (.int .i64 100)], none⟩,
     ⟨(some 170), .mov, [.t 169], none⟩,
     ⟨(some 171), .call 30, [], (some (170, true))⟩,
     ⟨(some 172), .pick, [.t 170, .t 171, .c (.bool false)], none⟩,
     ⟨(some 6), .mov, [.t 172], none⟩])
   .ret) .skip))
   (.seq (.seq (.reg [⟨(some 173), .faddr 6, [.t 17], none⟩,
     ⟨(some 174), .load 1 false, [.t 173], none⟩,
     ⟨(some 175), .len false, [.t 174], none⟩,
     ⟨(some 176), .faddr 6, [.t 7], none⟩,
     ⟨(some 177), .load 1 false, [.t 176], none⟩,
     ⟨(some 178), .len false, [.t 177], none⟩,
     ⟨(some 179), .bin .neq, [.t 175, .t 178], none⟩])
   (.cond (.t 179) (.seq (.reg [⟨(some 6), .mov, [.c (.bool false)], none⟩])
   .ret) .skip))
   (.seq (.reg [⟨(some 180), .faddr 6, [.t 7], none⟩,
     ⟨(some 181), .load 1 false, [.t 180], none⟩,
     ⟨(some 182), .len false, [.t 181], none⟩,
     ⟨(some 183), .mkbox 2 16 [(.int .i64 0), (.int .i64 0)], [.t 182, .t 182], none⟩,
     ⟨(some 19), .mov, [.t 183], none⟩])
   (.seq (.seq (.reg [⟨(some 20), .mov, [.c (.int .i64 0)], none⟩])
   (.block 4 (.loop (.seq (.seq (.reg [⟨(some 184), .mov, [.t 20], none⟩,
     ⟨(some 185), .mov, [.t 0], none⟩,
     ⟨(some 186), .len false, [.t 185], none⟩,
     ⟨(some 187), .bin .lss, [.t 184, .t 186], none⟩])
   (.cond (.t 187) .skip (.exit 4)))
   (.seq (.block 5 (.seq (.draw [0, 0, 0, 4, 15, 0, 32, 0, 128, 0, 512, 0, 2048, 6144, 16383, 32767, 65535, 65535, 0, 393215, 1048575] [⟨(some 191), .mov, [.t 0], none⟩,
     ⟨(some 192), .mov, [.t 20], none⟩,
     ⟨(some 193), .mov, [.t 20], none⟩,
     ⟨(some 194), .bin .add, [.t 193, .c (.int .i64 1)], none⟩,
     ⟨(some 195), .slx 3 true true, [.t 191, .t 192, .t 194], none⟩,
     ⟨(some 196), .faddr 0, [.t 5], none⟩,
     ⟨(some 197), .load 3 true, [.t 196], none⟩,
     ⟨(some 198), .faddr 3, [.t 5], none⟩,
     ⟨(some 199), .load 3 true, [.t 198], none⟩,
     ⟨(some 200), .faddr 6, [.t 5], none⟩,
     ⟨(some 201), .load 1 false, [.t 200], none⟩,
     ⟨(some 202), .faddr 7, [.t 5], none⟩,
     ⟨(some 203), .faddr 0, [.t 202], none⟩,
     ⟨(some 204), .load 1 false, [.t 203], none⟩,
     ⟨(some 205), .call 52, [.t 195, .t 197, .t 199, .t 201, .t 204], none⟩,
     ⟨(some 190), .mov, [.t 205], none⟩,
     ⟨(some 206), .extract 0, [.t 190], none⟩,
     ⟨(some 207), .extract 1, [.t 190], none⟩,
     ⟨(some 21), .alloc [(.int .i64 0), (.int .i64 0), (.int .i64 0), (.int .i64 0), (.int .i64 0), (.int .i64 0), .nils], [], none⟩,
     ⟨none, .store 7, [.t 21, .t 206], none⟩,
     ⟨(some 22), .mov, [.t 207], none⟩])
   (.seq (.seq (.reg [⟨(some 208), .mov, [.t 22], none⟩,
     ⟨(some 209), .bin .neq, [.t 208, .c (.int .i64 0)], none⟩,
     ⟨(some 210), .mov, [.t 209], none⟩,
     ⟨(some 211), .faddr 6, [.t 21], (some (210, false))⟩,
     ⟨(some 212), .load 1 false, [.t 211], (some (210, false))⟩,
     ⟨(some 213), .len false, [.t 212], (some (210, false))⟩,
     ⟨(some 214), .mov, [.t 19], (some (210, false))⟩,
     ⟨(some 215), .len false, [.t 214], (some (210, false))⟩,
     ⟨(some 216), .bin .neq, [.t 213, .t 215], (some (210, false))⟩,
     ⟨(some 217), .pick, [.t 210, .c (.bool true), .t 216], none⟩])
   (.cond (.t 217) (.seq (.reg [⟨(some 6), .mov, [.c (.bool false)], none⟩])
   .ret) .skip))
   (.seq (.reg [⟨(some 23), .mov, [.c (.int .i64 0)], none⟩])
   (.block 6 (.loop (.seq (.seq (.reg [⟨(some 218), .mov, [.t 23], none⟩,
     ⟨(some 219), .mov, [.t 19], none⟩,
     ⟨(some 220), .len false, [.t 219], none⟩,
     ⟨(some 221), .bin .lss, [.t 218, .t 220], none⟩])
   (.cond (.t 221) .skip (.exit 6)))
   (.seq (.block 7 (.draw [0, 0, 0, 0, 12, 28, 0, 64, 0, 448, 960, 2044, 4095, 8191] [⟨(some 224), .mov, [.t 19], none⟩,
     ⟨(some 225), .mov, [.t 23], none⟩,
     ⟨(some 226), .mov, [.t 19], none⟩,
     ⟨(some 227), .mov, [.t 23], none⟩,
     ⟨(some 228), .iaddrS 2, [.t 226, .t 227], none⟩,
     ⟨(some 229), .load 2 true, [.t 228], none⟩,
     ⟨(some 230), .faddr 6, [.t 21], none⟩,
     ⟨(some 231), .load 1 false, [.t 230], none⟩,
     ⟨(some 232), .mov, [.t 23], none⟩,
     ⟨(some 233), .iaddrS 2, [.t 231, .t 232], none⟩,
     ⟨(some 234), .load 2 true, [.t 233], none⟩,
     ⟨(some 235), .call 57, [.t 229, .t 234], none⟩,
     ⟨(some 236), .iaddrS 2, [.t 224, .t 225], none⟩,
     ⟨none, .store 2, [.t 236, .t 235], none⟩]))
   (.reg [⟨(some 222), .mov, [.t 23], none⟩,
     ⟨(some 223), .bin .add, [.t 222, .c (.int .i64 1)], none⟩,
     ⟨(some 23), .mov, [.t 223], none⟩])))))))))
   (.reg [⟨(some 188), .mov, [.t 20], none⟩,
     ⟨(some 189), .bin .add, [.t 188, .c (.int .i64 1)], none⟩,
     ⟨(some 20), .mov, [.t 189], none⟩]))))))
   (.seq (.seq (.reg [⟨(some 24), .mov, [.c (.int .i64 0)], none⟩])
   (.block 8 (.loop (.seq (.seq (.reg [⟨(some 237), .mov, [.t 24], none⟩,
     ⟨(some 238), .mov, [.t 19], none⟩,
     ⟨(some 239), .len false, [.t 238], none⟩,
     ⟨(some 240), .bin .lss, [.t 237, .t 239], none⟩])
   (.cond (.t 240) .skip (.exit 8)))
   (.seq (.block 9 (.seq (.draw [0, 0, 3, 7, 0, 16, 0, 112, 240, 511, 1023, 2047, 4095, 2047, 16383, 32767, 2047, 67583, 2047, 460799, 985087, 2047, 2099199, 2047, 14682111, 31459327, 67045375, 134217727, 268435455] [⟨(some 243), .mov, [.t 19], none⟩,
     ⟨(some 244), .mov, [.t 24], none⟩,
     ⟨(some 245), .iaddrS 2, [.t 243, .t 244], none⟩,
     ⟨(some 246), .load 2 true, [.t 245], none⟩,
     ⟨(some 247), .faddr 6, [.t 7], none⟩,
     ⟨(some 248), .load 1 false, [.t 247], none⟩,
     ⟨(some 249), .mov, [.t 24], none⟩,
     ⟨(some 250), .iaddrS 2, [.t 248, .t 249], none⟩,
     ⟨(some 251), .load 2 true, [.t 250], none⟩,
     ⟨(some 252), .eqs true [0, 0], [.t 246, .t 251], none⟩,
     ⟨(some 253), .mov, [.t 252], none⟩,
     ⟨(some 254), .faddr 6, [.t 17], (some (253, false))⟩,
     ⟨(some 255), .load 1 false, [.t 254], (some (253, false))⟩,
     ⟨(some 256), .mov, [.t 24], (some (253, false))⟩,
     ⟨(some 257), .iaddrS 2, [.t 255, .t 256], (some (253, false))⟩,
     ⟨(some 258), .load 2 true, [.t 257], (some (253, false))⟩,
     ⟨(some 259), .faddr 6, [.t 7], (some (253, false))⟩,
     ⟨(some 260), .load 1 false, [.t 259], (some (253, false))⟩,
     ⟨(some 261), .mov, [.t 24], (some (253, false))⟩,
     ⟨(some 262), .iaddrS 2, [.t 260, .t 261], (some (253, false))⟩,
     ⟨(some 263), .load 2 true, [.t 262], (some (253, false))⟩,
     ⟨(some 264), .faddr 6, [.t 16], (some (253, false))⟩,
     ⟨(some 265), .load 1 false, [.t 264], (some (253, false))⟩,
     ⟨(some 266), .mov, [.t 24], (some (253, false))⟩,
     ⟨(some 267), .iaddrS 2, [.t 265, .t 266], (some (253, false))⟩,
     ⟨(some 268), .load 2 true, [.t 267], (some (253, false))⟩,
     ⟨(some 269), .call 57, [.t 263, .t 268], (some (253, false))⟩,
     ⟨(some 270), .eqs true [0, 0], [.t 258, .t 269], (some (253, false))⟩,
     ⟨(some 271), .pick, [.t 253, .c (.bool true), .t 270], none⟩])
   (.cond (.t 271) (.seq (.reg [⟨(some 6), .mov, [.c (.bool false)], none⟩])
   .ret) .skip)))
   (.reg [⟨(some 241), .mov, [.t 24], none⟩,
     ⟨(some 242), .bin .add, [.t 241, .c (.int .i64 1)], none⟩,
     ⟨(some 24), .mov, [.t 242], none⟩]))))))
   (.seq (.reg [⟨(some 272), .call 30, [], none⟩,
     ⟨(some 6), .mov, [.t 272], none⟩])
   .ret))))))))))))))
theorem chk.law10_VolumeLinear : chkF Try.prog 15 = some (273, ir.law10_VolumeLinear, [.tmp 6]) := by kernel_rfl

/-- paravane/paravanelaw10.VolumePoint -/
abbrev F.law10_VolumePoint : Nat := 16
def ir.law10_VolumePoint : IC :=
 (.seq (.reg [⟨(some 4), .box, [.t 1], none⟩,
     ⟨(some 5), .box, [.t 2], none⟩,
     ⟨(some 6), .mov, [.c (.bool false)], none⟩])
   (.seq (.reg [⟨(some 7), .mov, [.c .nils], none⟩])
   (.seq (.reg [⟨(some 8), .mov, [.c (.int .i64 0)], none⟩])
   (.seq (.seq (.reg [⟨(some 9), .mov, [.c (.int .i64 0)], none⟩])
   (.block 0 (.loop (.seq (.seq (.reg [⟨(some 18), .mov, [.t 9], none⟩,
     ⟨(some 19), .mov, [.t 0], none⟩,
     ⟨(some 20), .len false, [.t 19], none⟩,
     ⟨(some 21), .bin .lss, [.t 18, .t 20], none⟩,
     ⟨(some 22), .mov, [.t 21], none⟩,
     ⟨(some 23), .mov, [.t 9], (some (22, true))⟩,
     ⟨(some 24), .bin .lss, [.t 23, .c (.int .i64 32)], (some (22, true))⟩,
     ⟨(some 25), .pick, [.t 22, .t 24, .c (.bool false)], none⟩])
   (.cond (.t 25) .skip (.exit 0)))
   (.seq (.block 1 (.seq (.draw [0, 0, 3, 7, 15, 31, 63, 0, 0, 384, 896, 1920, 4031, 8127, 0, 32767, 0, 131071] [⟨(some 28), .mov, [.t 0], none⟩,
     ⟨(some 29), .mov, [.t 9], none⟩,
     ⟨(some 30), .iaddrS 2, [.t 28, .t 29], none⟩,
     ⟨(some 31), .iaddrA 2 1, [.t 30, .c (.int .i64 0)], none⟩,
     ⟨(some 32), .load 1 false, [.t 31], none⟩,
     ⟨(some 33), .call 49, [.t 32, .c (.int .i64 129)], none⟩,
     ⟨(some 34), .bin .sub, [.t 33, .c (.int .i64 64)], none⟩,
     ⟨(some 35), .mov, [.t 0], none⟩,
     ⟨(some 36), .mov, [.t 9], none⟩,
     ⟨(some 37), .iaddrS 2, [.t 35, .t 36], none⟩,
     ⟨(some 38), .iaddrA 2 1, [.t 37, .c (.int .i64 1)], none⟩,
     ⟨(some 39), .load 1 false, [.t 38], none⟩,
     ⟨(some 40), .call 49, [.t 39, .c (.int .i64 129)], none⟩,
     ⟨(some 41), .bin .sub, [.t 40, .c (.int .i64 64)], none⟩,
     ⟨(some 42), .mkbox 2 16 [(.int .i64 0), (.int .i64 0)], [.c (.int .i64 64), .c (.int .i64 64)], none⟩,
     ⟨(some 43), .build [(.int .i64 0), (.int .i64 0), .nils] [(0, 1), (1, 1), (2, 1)], [.t 34, .t 41, .t 42], none⟩,
     ⟨(some 10), .alloc [(.int .i64 0), (.int .i64 0), .nils], [], none⟩,
     ⟨none, .store 3, [.t 10, .t 43], none⟩])
   (.seq (.reg [⟨(some 44), .faddr 0, [.t 10], none⟩,
     ⟨(some 45), .load 1 false, [.t 44], none⟩,
     ⟨(some 46), .iaddrA 3 1, [.t 4, .c (.int .i64 0)], none⟩,
     ⟨(some 47), .load 1 false, [.t 46], none⟩,
     ⟨(some 48), .bin .sub, [.t 45, .t 47], none⟩,
     ⟨(some 49), .faddr 0, [.t 10], none⟩,
     ⟨(some 50), .load 1 false, [.t 49], none⟩,
     ⟨(some 51), .iaddrA 3 1, [.t 4, .c (.int .i64 0)], none⟩,
     ⟨(some 52), .load 1 false, [.t 51], none⟩,
     ⟨(some 53), .bin .sub, [.t 50, .t 52], none⟩,
     ⟨(some 54), .bin .mul, [.t 48, .t 53], none⟩,
     ⟨(some 55), .faddr 1, [.t 10], none⟩,
     ⟨(some 56), .load 1 false, [.t 55], none⟩,
     ⟨(some 57), .iaddrA 3 1, [.t 4, .c (.int .i64 1)], none⟩,
     ⟨(some 58), .load 1 false, [.t 57], none⟩,
     ⟨(some 59), .bin .sub, [.t 56, .t 58], none⟩,
     ⟨(some 60), .faddr 1, [.t 10], none⟩,
     ⟨(some 61), .load 1 false, [.t 60], none⟩,
     ⟨(some 62), .iaddrA 3 1, [.t 4, .c (.int .i64 1)], none⟩,
     ⟨(some 63), .load 1 false, [.t 62], none⟩,
     ⟨(some 64), .bin .sub, [.t 61, .t 63], none⟩,
     ⟨(some 65), .bin .mul, [.t 59, .t 64], none⟩,
     ⟨(some 66), .bin .add, [.t 54, .t 65], none⟩,
     ⟨(some 11), .mov, [.t 66], none⟩])
   (.seq (.reg [⟨(some 68), .iaddrA 3 1, [.t 4, .c (.int .i64 2)], none⟩,
     ⟨(some 69), .load 1 false, [.t 68], none⟩,
     ⟨(some 70), .mov, [.t 11], none⟩,
     ⟨(some 71), .faddr 7, [.t 5], none⟩,
     ⟨(some 72), .faddr 0, [.t 71], none⟩,
     ⟨(some 73), .load 1 false, [.t 72], none⟩,
     ⟨(some 74), .call 26, [.t 69, .t 70, .t 73], none⟩,
     ⟨(some 67), .mov, [.t 74], none⟩,
     ⟨(some 75), .extract 0, [.t 67], none⟩,
     ⟨(some 76), .extract 1, [.t 67], none⟩,
     ⟨(some 12), .mov, [.t 75], none⟩,
     ⟨(some 13), .mov, [.t 76], none⟩])
   (.seq (.seq (.reg [⟨(some 77), .mov, [.t 13], none⟩,
     ⟨(some 78), .bin .neq, [.t 77, .c (.int .i64 0)], none⟩])
   (.cond (.t 78) (.seq (.reg [⟨(some 79), .call 30, [], none⟩,
     ⟨(some 6), .mov, [.t 79], none⟩])
   .ret) .skip))
   (.seq (.seq (.reg [⟨(some 80), .mov, [.t 12], none⟩,
     ⟨(some 81), .bin .lss, [.t 80, .c (.int .i64 64)], none⟩])
   (.cond (.t 81) (.seq (.reg [⟨(some 82), .faddr 2, [.t 10], none⟩,
     ⟨(some 83), .load 1 false, [.t 82], none⟩,
     ⟨(some 84), .mov, [.t 12], none⟩,
     ⟨(some 85), .build [(.int .i64 0), (.int .i64 0)] [(0, 1), (1, 1)], [.c (.int .i64 1), .c (.int .i64 1)], none⟩,
     ⟨(some 86), .iaddrS 2, [.t 83, .t 84], none⟩,
     ⟨none, .store 2, [.t 86, .t 85], none⟩])
   (.seq (.reg [⟨(some 87), .mov, [.t 11], none⟩,
     ⟨(some 88), .faddr 6, [.t 5], none⟩,
     ⟨(some 89), .load 1 false, [.t 88], none⟩,
     ⟨(some 90), .faddr 6, [.t 5], none⟩,
     ⟨(some 91), .load 1 false, [.t 90], none⟩,
     ⟨(some 92), .bin .mul, [.t 89, .t 91], none⟩,
     ⟨(some 93), .bin .leq, [.t 87, .t 92], none⟩])
   (.cond (.t 93) (.reg [⟨(some 94), .mov, [.t 8], none⟩,
     ⟨(some 95), .bin .add, [.t 94, .c (.int .i64 1)], none⟩,
     ⟨(some 8), .mov, [.t 95], none⟩]) .skip))) .skip))
   (.reg [⟨(some 96), .mov, [.t 7], none⟩,
     ⟨(some 97), .load 3 true, [.t 10], none⟩,
     ⟨(some 98), .mkslice 3 79, [.t 97], none⟩,
     ⟨(some 99), .append 3 40 79, [.t 96, .t 98], none⟩,
     ⟨(some 7), .mov, [.t 99], none⟩])))))))
   (.reg [⟨(some 26), .mov, [.t 9], none⟩,
     ⟨(some 27), .bin .add, [.t 26, .c (.int .i64 1)], none⟩,
     ⟨(some 9), .mov, [.t 27], none⟩]))))))
   (.seq (.reg [⟨(some 101), .mov, [.t 7], none⟩,
     ⟨(some 102), .load 3 true, [.t 4], none⟩,
     ⟨(some 103), .faddr 6, [.t 5], none⟩,
     ⟨(some 104), .load 1 false, [.t 103], none⟩,
     ⟨(some 105), .faddr 7, [.t 5], none⟩,
     ⟨(some 106), .faddr 0, [.t 105], none⟩,
     ⟨(some 107), .load 1 false, [.t 106], none⟩,
     ⟨(some 108), .call 31, [.t 101, .t 102, .t 104, .t 107], none⟩,
     ⟨(some 100), .mov, [.t 108], none⟩,
     ⟨(some 109), .extract 0, [.t 100], none⟩,
     ⟨(some 110), .extract 1, [.t 100], none⟩,
     ⟨(some 14), .alloc [(.int .i64 0), (.int .i64 0), (.int .i64 0), .nils, (.int .i64 0), (.int .i64 0)], [], none⟩,
     ⟨none, .store 6, [.t 14, .t 109], none⟩,
     ⟨(some 15), .mov, [.t 110], none⟩])
   (.seq (.seq (.reg [⟨(some 111), .mov, [.t 15], none⟩,
     ⟨(some 112), .bin .neq, [.t 111, .c (.int .i64 0)], none⟩])
   (.cond (.t 112) (.seq (.reg [⟨(some 113), .mov, [.t 15], none⟩,
     ⟨(some 114), .bin .eql, [.t 113, .c (.int .i64 102)], none⟩,
     ⟨(some 115), .mov, [.t 114], none⟩,
     ⟨(some 116), .call 30, [], (some (115, true))⟩,
     ⟨(some 117), .pick, [.t 115, .t 116, .c (.bool false)], none⟩,
     ⟨(some 6), .mov, [.t 117], none⟩])
   .ret) .skip))
   (.seq (.reg [⟨(some 119), .mov, [.t 7], none⟩,
     ⟨(some 120), .faddr 0, [.t 5], none⟩,
     ⟨(some 121), .load 3 true, [.t 120], none⟩,
     ⟨(some 122), .faddr 3, [.t 5], none⟩,
     ⟨(some 123), .load 3 true, [.t 122], none⟩,
     ⟨(some 124), .faddr 6, [.t 5], none⟩,
     ⟨(some 125), .load 1 false, [.t 124], none⟩,
     ⟨(some 126), .faddr 7, [.t 5], none⟩,
     ⟨(some 127), .faddr 0, [.t 126], none⟩,
     ⟨(some 128), .load 1 false, [.t 127], none⟩,
     ⟨(some 129), .call 52, [.t 119, .t 121, .t 123, .t 125, .t 128], none⟩,
     ⟨(some 118), .mov, [.t 129], none⟩,
     ⟨(some 130), .extract 0, [.t 118], none⟩,
     ⟨(some 131), .extract 1, [.t 118], none⟩,
     ⟨(some 16), .alloc [(.int .i64 0), (.int .i64 0), (.int .i64 0), (.int .i64 0), (.int .i64 0), (.int .i64 0), .nils], [], none⟩,
     ⟨none, .store 7, [.t 16, .t 130], none⟩,
     ⟨(some 15), .mov, [.t 131], none⟩])
   (.seq (.seq (.reg [⟨(some 132), .faddr 4, [.t 14], none⟩,
     ⟨(some 133), .load 2 true, [.t 132], none⟩,
     ⟨(some 134), .mov, [.t 8], none⟩,
     ⟨(some 135), .mov, [.t 8], none⟩,
     ⟨(some 136), .build [(.int .i64 0), (.int .i64 0)] [(0, 1), (1, 1)], [.t 134, .t 135], none⟩,
     ⟨(some 137), .eqs true [0, 0], [.t 133, .t 136], none⟩,
     ⟨(some 138), .mov, [.t 137], none⟩,
     ⟨(some 139), .faddr 3, [.t 14], (some (138, false))⟩,
     ⟨(some 140), .load 1 false, [.t 139], (some (138, false))⟩,
     ⟨(some 141), .len false, [.t 140], (some (138, false))⟩,
     ⟨(some 142), .mov, [.t 8], (some (138, false))⟩,
     ⟨(some 143), .bin .neq, [.t 141, .t 142], (some (138, false))⟩,
     ⟨(some 144), .pick, [.t 138, .c (.bool true), .t 143], none⟩])
   (.cond (.t 144) (.seq (.reg [⟨(some 6), .mov, [.c (.bool false)], none⟩])
   .ret) .skip))
   (.seq (.seq (.reg [⟨(some 145), .mov, [.t 15], none⟩,
     ⟨(some 146), .bin .neq, [.t 145, .c (.int .i64 0)], none⟩])
   (.cond (.t 146) (.seq (.reg [⟨(some 147), .mov, [.t 15], none⟩,
     ⟨(some 148), .bin .eql, [.t 147, .c (.int .i64 102)], none⟩,
     ⟨(some 149), .mov, [.t 148], none⟩,
     ⟨(some 150), .call 30, [], (some (149, true))⟩,
     ⟨(some 151), .pick, [.t 149, .t 150, .c (.bool false)], none⟩,
     ⟨(some 6), .mov, [.t 151], none⟩])
   .ret) .skip))
   (.seq (.seq (.reg [⟨(some 17), .mov, [.c (.int .i64 0)], none⟩])
   (.block 2 (.loop (.seq (.seq (.reg [⟨(some 152), .mov, [.t 17], none⟩,
     ⟨(some 153), .faddr 6, [.t 16], none⟩,
     ⟨(some 154), .load 1 false, [.t 153], none⟩,
     ⟨(some 155), .len false, [.t 154], none⟩,
     ⟨(some 156), .bin .lss, [.t 152, .t 155], none⟩])
   (.cond (.t 156) .skip (.exit 2)))
   (.seq (.block 3 (.seq (.reg [⟨(some 159), .faddr 6, [.t 16], none⟩,
     ⟨(some 160), .load 1 false, [.t 159], none⟩,
     ⟨(some 161), .mov, [.t 17], none⟩,
     ⟨(some 162), .iaddrS 2, [.t 160, .t 161], none⟩,
     ⟨(some 163), .faddr 1, [.t 162], none⟩,
     ⟨(some 164), .load 1 false, [.t 163], none⟩,
     ⟨(some 165), .mov, [.t 7], none⟩,
     ⟨(some 166), .len false, [.t 165], none⟩,
     ⟨(some 167), .bin .gtr, [.t 164, .t 166], none⟩,
     ⟨(some 168), .mov, [.t 167], none⟩,
     ⟨(some 169), .faddr 6, [.t 16], (some (168, false))⟩,
     ⟨(some 170), .load 1 false, [.t 169], (some (168, false))⟩,
     ⟨(some 171), .mov, [.t 17], (some (168, false))⟩,
     ⟨(some 172), .iaddrS 2, [.t 170, .t 171], (some (168, false))⟩,
     ⟨(some 173), .faddr 0, [.t 172], (some (168, false))⟩,
     ⟨(some 174), .load 1 false, [.t 173], (some (168, false))⟩,
     ⟨(some 175), .bin .lss, [.t 174, .c (.int .i64 0)], (some (168, false))⟩,
     ⟨(some 176), .pick, [.t 168, .c (.bool true), .t 175], none⟩])
   (.cond (.t 176) (.seq (.reg [⟨(some 6), .mov, [.c (.bool false)], none⟩])
   .ret) .skip)))
   (.reg [⟨(some 157), .mov, [.t 17], none⟩,
     ⟨(some 158), .bin .add, [.t 157, .c (.int .i64 1)], none⟩,
     ⟨(some 17), .mov, [.t 158], none⟩]))))))
   (.seq (.reg [⟨(some 177), .call 30, [], none⟩,
     ⟨(some 6), .mov, [.t 177], none⟩])
   .ret)))))))))))
theorem chk.law10_VolumePoint : chkF Try.prog 16 = some (178, ir.law10_VolumePoint, [.tmp 6]) := by kernel_rfl

/-- paravane/paravanelaw10.VolumeFilled -/
abbrev F.law10_VolumeFilled : Nat := 25
def ir.law10_VolumeFilled : IC :=
 (.seq (.reg [⟨(some 2), .box, [.t 0], none⟩,
     ⟨(some 3), .box, [.t 1], none⟩,
     ⟨(some 4), .mov, [.c (.bool false)], none⟩])
   (.seq (.reg [⟨(some 14), .load 4 true, [.t 2], none⟩,
     ⟨(some 15), .call 71, [.t 14], none⟩,
     ⟨(some 13), .mov, [.t 15], none⟩,
     ⟨(some 16), .extract 0, [.t 13], none⟩,
     ⟨(some 17), .extract 1, [.t 13], none⟩,
     ⟨(some 18), .extract 2, [.t 13], none⟩,
     ⟨(some 5), .mov, [.t 16], none⟩,
     ⟨(some 6), .mov, [.t 17], none⟩,
     ⟨(some 7), .mov, [.t 18], none⟩])
   (.seq (.seq (.reg [⟨(some 19), .mov, [.t 7], none⟩,
     ⟨(some 20), .un .not, [.t 19], none⟩])
   (.cond (.t 20) (.seq (.reg [⟨(some 4), .mov, [.c (.bool false)], none⟩])
   .ret) .skip))
   (.seq (.reg [⟨(some 22), .mov, [.t 5], none⟩,
     ⟨(some 23), .faddr 0, [.t 3], none⟩,
     ⟨(some 24), .load 3 true, [.t 23], none⟩,
     ⟨(some 25), .faddr 3, [.t 3], none⟩,
     ⟨(some 26), .load 3 true, [.t 25], none⟩,
     ⟨(some 27), .faddr 6, [.t 3], none⟩,
     ⟨(some 28), .load 1 false, [.t 27], none⟩,
     ⟨(some 29), .faddr 7, [.t 3], none⟩,
     ⟨(some 30), .load 2 true, [.t 29], none⟩,
     ⟨(some 31), .call 34, [.t 22, .t 24, .t 26, .t 28, .t 30], none⟩,
     ⟨(some 21), .mov, [.t 31], none⟩,
     ⟨(some 32), .extract 0, [.t 21], none⟩,
     ⟨(some 33), .extract 1, [.t 21], none⟩,
     ⟨(some 8), .alloc [(.int .i64 0), (.int .i64 0), (.int .i64 0), (.int .i64 0), (.int .i64 0), (.int .i64 0), .nils], [], none⟩,
     ⟨none, .store 7, [.t 8, .t 32], none⟩,
     ⟨(some 9), .mov, [.t 33], none⟩])
   (.seq (.seq (.reg [⟨(some 34), .mov, [.t 9], none⟩,
     ⟨(some 35), .bin .neq, [.t 34, .c (.int .i64 0)], none⟩])
   (.cond (.t 35) (.seq (.reg [⟨(some 36), .mov, [.t 9], none⟩,
     ⟨(some 37), .bin .eql, [.t 36, .c (.int .i64 102)], none⟩,
     ⟨(some 38), .mov, [.t 37], none⟩,
     ⟨(some 39), .call 30, [], (some (38, true))⟩,
     ⟨(some 40), .pick, [.t 38, .t 39, .c (.bool false)], none⟩,
     ⟨(some 4), .mov, [.t 40], none⟩])
   .ret) .skip))
   (.seq (.reg [⟨(some 42), .mov, [.t 6], none⟩,
     ⟨(some 43), .faddr 0, [.t 3], none⟩,
     ⟨(some 44), .load 3 true, [.t 43], none⟩,
     ⟨(some 45), .faddr 3, [.t 3], none⟩,
     ⟨(some 46), .load 3 true, [.t 45], none⟩,
     ⟨(some 47), .faddr 6, [.t 3], none⟩,
     ⟨(some 48), .load 1 false, [.t 47], none⟩,
     ⟨(some 49), .faddr 7, [.t 3], none⟩,
     ⟨(some 50), .faddr 0, [.t 49], none⟩,
     ⟨(some 51), .load 1 false, [.t 50], none⟩,
     ⟨(some 52), .call 52, [.t 42, .t 44, .t 46, .t 48, .t 51], none⟩,
     ⟨(some 41), .mov, [.t 52], none⟩,
     ⟨(some 53), .extract 0, [.t 41], none⟩,
     ⟨(some 54), .extract 1, [.t 41], none⟩,
     ⟨(some 10), .alloc [(.int .i64 0), (.int .i64 0), (.int .i64 0), (.int .i64 0), (.int .i64 0), (.int .i64 0), .nils], [], none⟩,
     ⟨none, .store 7, [.t 10, .t 53], none⟩,
     ⟨(some 9), .mov, [.t 54], none⟩])
   (.seq (.reg [⟨(some 56), .mov, [.t 6], none⟩,
     ⟨(some 57), .faddr 0, [.t 3], none⟩,
     ⟨(some 58), .load 3 true, [.t 57], none⟩,
     ⟨(some 59), .faddr 3, [.t 3], none⟩,
     ⟨(some 60), .load 3 true, [.t 59], none⟩,
     ⟨(some 61), .faddr 6, [.t 3], none⟩,
     ⟨(some 62), .load 1 false, [.t 61], none⟩,
     ⟨(some 63), .faddr 7, [.t 3], none⟩,
     ⟨(some 64), .faddr 1, [.t 63], none⟩,
     ⟨(some 65), .load 1 false, [.t 64], none⟩,
     ⟨(some 66), .call 52, [.t 56, .t 58, .t 60, .t 62, .t 65], none⟩,
     ⟨(some 55), .mov, [.t 66], none⟩,
     ⟨(some 67), .extract 0, [.t 55], none⟩,
     ⟨(some 68), .extract 1, [.t 55], none⟩,
     ⟨(some 11), .alloc [(.int .i64 0), (.int .i64 0), (.int .i64 0), (.int .i64 0), (.int .i64 0), (.int .i64 0), .nils], [], none⟩,
     ⟨none, .store 7, [.t 11, .t 67], none⟩,
     ⟨(some 12), .mov, [.t 68], none⟩])
   (.seq (.reg [⟨(some 69), .mov, [.t 9], none⟩,
     ⟨(some 70), .bin .eql, [.t 69, .c (.int .i64 0)], none⟩,
     ⟨(some 71), .mov, [.t 70], none⟩,
     ⟨(some 72), .mov, [.t 12], (some (71, true))⟩,
     ⟨(some 73), .bin .eql, [.t 72, .c (.int .i64 0)], (some (71, true))⟩,
     ⟨(some 74), .pick, [.t 71, .t 73, .c (.bool false)], none⟩,
     ⟨(some 75), .mov, [.t 74], none⟩,
     ⟨(some 76), .load 7 true, [.t 10], (some (75, true))⟩,
     ⟨(some 77), .load 7 true, [.t 8], (some (75, true))⟩,
     ⟨(some 78), .call 55, [.t 76, .t 77], (some (75, true))⟩,
     ⟨(some 79), .pick, [.t 75, .t 78, .c (.bool false)], none⟩,
     ⟨(some 80), .mov, [.t 79], none⟩,
     ⟨(some 81), .load 7 true, [.t 11], (some (80, true))⟩,
     ⟨(some 82), .load 7 true, [.t 8], (some (80, true))⟩,
     ⟨(some 83), .call 55, [.t 81, .t 82], (some (80, true))⟩,
     ⟨(some 84), .pick, [.t 80, .t 83, .c (.bool false)], none⟩,
     ⟨(some 85), .mov, [.t 84], none⟩,
     ⟨(some 86), .call 30, [], (some (85, true))⟩,
     ⟨(some 87), .pick, [.t 85, .t 86, .c (.bool false)], none⟩,
     ⟨(some 4), .mov, [.t 87], none⟩])
   .ret))))))))
theorem chk.law10_VolumeFilled : chkF Try.prog 25 = some (88, ir.law10_VolumeFilled, [.tmp 4]) := by kernel_rfl

/-- paravane/paravaneref10.Join -/
abbrev F.ref10_Join : Nat := 43
def ir.ref10_Join : IC :=
 (.seq (.reg [⟨(some 2), .box, [.t 0], none⟩,
     ⟨(some 3), .box, [.t 1], none⟩,
     ⟨(some 4), .alloc [(.int .i64 0), (.int .i64 0), (.int .i64 0), (.int .i64 0), (.int .i64 0), (.int .i64 0), .nils], [], none⟩,
     ⟨(some 5), .mov, [.c (.int .i64 0)], none⟩])
   (.seq (.seq (.reg [⟨(some 26), .load 7 true, [.t 2], none⟩,
     ⟨(some 27), .call 68, [.t 26], none⟩,
     ⟨(some 6), .mov, [.t 27], none⟩])
   (.seq (.reg [⟨(some 28), .mov, [.t 6], none⟩,
     ⟨(some 29), .bin .neq, [.t 28, .c (.int .i64 0)], none⟩])
   (.cond (.t 29) (.seq (.reg [⟨(some 30), .build [(.int .i64 0), (.int .i64 0), (.int .i64 0), (.int .i64 0), (.int .i64 0), (.int .i64 0), .nils] [], [], none⟩,
     ⟨(some 31), .mov, [.t 6], none⟩,
     ⟨none, .store 7, [.t 4, .t 30], none⟩,
     ⟨(some 5), .mov, [.t 31], none⟩])
   .ret) .skip)))
   (.seq (.seq (.reg [⟨(some 32), .load 7 true, [.t 3], none⟩,
     ⟨(some 33), .call 68, [.t 32], none⟩,
     ⟨(some 7), .mov, [.t 33], none⟩])
   (.seq (.reg [⟨(some 34), .mov, [.t 7], none⟩,
     ⟨(some 35), .bin .neq, [.t 34, .c (.int .i64 0)], none⟩])
   (.cond (.t 35) (.seq (.reg [⟨(some 36), .build [(.int .i64 0), (.int .i64 0), (.int .i64 0), (.int .i64 0), (.int .i64 0), (.int .i64 0), .nils] [], [], none⟩,
     ⟨(some 37), .mov, [.t 7], none⟩,
     ⟨none, .store 7, [.t 4, .t 36], none⟩,
     ⟨(some 5), .mov, [.t 37], none⟩])
   .ret) .skip)))
   (.seq (.reg [⟨(some 38), .build [(.int .i64 0), (.int .i64 0), (.int .i64 0), (.int .i64 0), (.int .i64 0), (.int .i64 0)] [], [], none⟩,
     ⟨(some 8), .alloc [(.int .i64 0), (.int .i64 0), (.int .i64 0), (.int .i64 0), (.int .i64 0), (.int .i64 0)], [], none⟩,
     ⟨none, .store 6, [.t 8, .t 38], none⟩])
   (.seq (.reg [⟨(some 9), .mov, [.c (.int .i64 1)], none⟩])
   (.seq (.seq (.reg [⟨(some 10), .mov, [.c (.int .i64 0)], none⟩])
   (.block 0 (.loop (.seq (.seq (.reg [⟨(some 39), .mov, [.t 10], none⟩,
     ⟨(some 40), .bin .lss, [.t 39, .c (.int .i64 3)], none⟩])
   (.cond (.t 40) .skip (.exit 0)))
   (.seq (.block 1 (.seq (.draw [0, 0, 3, 7, 0, 0, 48, 112, 255, 0, 0, 1536, 3584, 0, 0, 24576, 57344, 130560, 0, 0, 786432, 1835008, 0, 0, 12582912, 29360128, 66846720, 134217216, 511, 536870911] [⟨(some 43), .mov, [.t 10], none⟩,
     ⟨(some 44), .faddr 0, [.t 2], none⟩,
     ⟨(some 45), .iaddrA 3 1, [.t 44, .t 43], none⟩,
     ⟨(some 46), .load 1 false, [.t 45], none⟩,
     ⟨(some 47), .mov, [.t 10], none⟩,
     ⟨(some 48), .faddr 0, [.t 3], none⟩,
     ⟨(some 49), .iaddrA 3 1, [.t 48, .t 47], none⟩,
     ⟨(some 50), .load 1 false, [.t 49], none⟩,
     ⟨(some 51), .minmax false, [.t 46, .t 50], none⟩,
     ⟨(some 52), .mov, [.t 10], none⟩,
     ⟨(some 53), .faddr 0, [.t 2], none⟩,
     ⟨(some 54), .iaddrA 3 1, [.t 53, .t 52], none⟩,
     ⟨(some 55), .load 1 false, [.t 54], none⟩,
     ⟨(some 56), .mov, [.t 10], none⟩,
     ⟨(some 57), .faddr 3, [.t 2], none⟩,
     ⟨(some 58), .iaddrA 3 1, [.t 57, .t 56], none⟩,
     ⟨(some 59), .load 1 false, [.t 58], none⟩,
     ⟨(some 60), .bin .add, [.t 55, .t 59], none⟩,
     ⟨(some 61), .mov, [.t 10], none⟩,
     ⟨(some 62), .faddr 0, [.t 3], none⟩,
     ⟨(some 63), .iaddrA 3 1, [.t 62, .t 61], none⟩,
     ⟨(some 64), .load 1 false, [.t 63], none⟩,
     ⟨(some 65), .mov, [.t 10], none⟩,
     ⟨(some 66), .faddr 3, [.t 3], none⟩,
     ⟨(some 67), .iaddrA 3 1, [.t 66, .t 65], none⟩,
     ⟨(some 68), .load 1 false, [.t 67], none⟩,
     ⟨(some 69), .bin .add, [.t 64, .t 68], none⟩,
     ⟨(some 70), .minmax true, [.t 60, .t 69], none⟩,
     ⟨(some 11), .mov, [.t 51], none⟩,
     ⟨(some 12), .mov, [.t 70], none⟩])
   (.seq (.reg [⟨(some 71), .load 6 true, [.t 8], none⟩,
     ⟨(some 13), .alloc [(.int .i64 0), (.int .i64 0), (.int .i64 0), (.int .i64 0), (.int .i64 0), (.int .i64 0)], [], none⟩,
     ⟨none, .store 6, [.t 13, .t 71], none⟩])
   (.seq (.reg [⟨(some 72), .mov, [.t 10], none⟩,
     ⟨(some 73), .mov, [.t 11], none⟩,
     ⟨(some 74), .mov, [.t 12], none⟩,
     ⟨(some 75), .mov, [.t 11], none⟩,
     ⟨(some 76), .bin .sub, [.t 74, .t 75], none⟩,
     ⟨(some 77), .build [(.int .i64 0), (.int .i64 0)] [(0, 1), (1, 1)], [.t 73, .t 76], none⟩,
     ⟨(some 78), .iaddrA 3 2, [.t 13, .t 72], none⟩,
     ⟨none, .store 2, [.t 78, .t 77], none⟩])
   (.seq (.reg [⟨(some 79), .load 6 true, [.t 13], none⟩,
     ⟨none, .store 6, [.t 8, .t 79], none⟩])
   (.reg [⟨(some 80), .mov, [.t 9], none⟩,
     ⟨(some 81), .mov, [.t 12], none⟩,
     ⟨(some 82), .mov, [.t 11], none⟩,
     ⟨(some 83), .bin .sub, [.t 81, .t 82], none⟩,
     ⟨(some 84), .bin .mul, [.t 80, .t 83], none⟩,
     ⟨(some 9), .mov, [.t 84], none⟩]))))))
   (.reg [⟨(some 41), .mov, [.t 10], none⟩,
     ⟨(some 42), .bin .add, [.t 41, .c (.int .i64 1)], none⟩,
     ⟨(some 10), .mov, [.t 42], none⟩]))))))
   (.seq (.draw [0, 1, 3, 0, 8, 24, 0, 64, 192, 511, 0, 1024, 3072, 0, 8192, 24576, 0, 65536, 196608, 523264, 0, 0, 3146751, 8388607] [⟨(some 85), .iaddrA 3 2, [.t 8, .c (.int .i64 0)], none⟩,
     ⟨(some 86), .iaddrA 2 1, [.t 85, .c (.int .i64 0)], none⟩,
     ⟨(some 87), .load 1 false, [.t 86], none⟩,
     ⟨(some 88), .iaddrA 3 2, [.t 8, .c (.int .i64 1)], none⟩,
     ⟨(some 89), .iaddrA 2 1, [.t 88, .c (.int .i64 0)], none⟩,
     ⟨(some 90), .load 1 false, [.t 89], none⟩,
     ⟨(some 91), .iaddrA 3 2, [.t 8, .c (.int .i64 2)], none⟩,
     ⟨(some 92), .iaddrA 2 1, [.t 91, .c (.int .i64 0)], none⟩,
     ⟨(some 93), .load 1 false, [.t 92], none⟩,
     ⟨(some 94), .build [(.int .i64 0), (.int .i64 0), (.int .i64 0)] [(0, 1), (1, 1), (2, 1)], [.t 87, .t 90, .t 93], none⟩,
     ⟨(some 95), .iaddrA 3 2, [.t 8, .c (.int .i64 0)], none⟩,
     ⟨(some 96), .iaddrA 2 1, [.t 95, .c (.int .i64 1)], none⟩,
     ⟨(some 97), .load 1 false, [.t 96], none⟩,
     ⟨(some 98), .iaddrA 3 2, [.t 8, .c (.int .i64 1)], none⟩,
     ⟨(some 99), .iaddrA 2 1, [.t 98, .c (.int .i64 1)], none⟩,
     ⟨(some 100), .load 1 false, [.t 99], none⟩,
     ⟨(some 101), .iaddrA 3 2, [.t 8, .c (.int .i64 2)], none⟩,
     ⟨(some 102), .iaddrA 2 1, [.t 101, .c (.int .i64 1)], none⟩,
     ⟨(some 103), .load 1 false, [.t 102], none⟩,
     ⟨(some 104), .build [(.int .i64 0), (.int .i64 0), (.int .i64 0)] [(0, 1), (1, 1), (2, 1)], [.t 97, .t 100, .t 103], none⟩,
     ⟨(some 14), .alloc [(.int .i64 0), (.int .i64 0), (.int .i64 0)], [], none⟩,
     ⟨(some 15), .alloc [(.int .i64 0), (.int .i64 0), (.int .i64 0)], [], none⟩,
     ⟨none, .store 3, [.t 14, .t 94], none⟩,
     ⟨none, .store 3, [.t 15, .t 104], none⟩])
   (.seq (.reg [⟨(some 16), .mov, [.c (.int .i64 0)], none⟩,
     ⟨(some 17), .mov, [.c (.bool false)], none⟩])
   (.seq (.reg [⟨(some 105), .faddr 0, [.t 3], none⟩,
     ⟨(some 106), .load 3 true, [.t 105], none⟩,
     ⟨(some 107), .faddr 3, [.t 3], none⟩,
     ⟨(some 108), .load 3 true, [.t 107], none⟩,
     ⟨(some 109), .call 89, [.t 106, .t 108], none⟩,
     ⟨(some 18), .mov, [.t 109], none⟩])
   (.seq (.seq (.reg [⟨(some 19), .mov, [.c (.int .i64 0)], none⟩])
   (.block 2 (.loop (.seq (.seq (.reg [⟨(some 110), .mov, [.t 19], none⟩,
     ⟨(some 111), .mov, [.t 18], none⟩,
     ⟨(some 112), .len false, [.t 111], none⟩,
     ⟨(some 113), .bin .lss, [.t 110, .t 112], none⟩])
   (.cond (.t 113) .skip (.exit 2)))
   (.seq (.block 3 (.seq (.draw [0, 1, 0, 4, 0, 0, 48, 112, 255, 511] [⟨(some 116), .faddr 0, [.t 2], none⟩,
     ⟨(some 117), .load 3 true, [.t 116], none⟩,
     ⟨(some 118), .faddr 3, [.t 2], none⟩,
     ⟨(some 119), .load 3 true, [.t 118], none⟩,
     ⟨(some 120), .mov, [.t 18], none⟩,
     ⟨(some 121), .mov, [.t 19], none⟩,
     ⟨(some 122), .iaddrS 3, [.t 120, .t 121], none⟩,
     ⟨(some 123), .load 3 true, [.t 122], none⟩,
     ⟨(some 124), .call 105, [.t 117, .t 119, .t 123], none⟩,
     ⟨(some 20), .mov, [.t 124], none⟩])
   (.seq (.reg [⟨(some 125), .mov, [.t 20], none⟩,
     ⟨(some 126), .bin .geq, [.t 125, .c (.int .i64 0)], none⟩])
   (.cond (.t 126) (.seq (.reg [⟨(some 127), .mov, [.t 16], none⟩,
     ⟨(some 128), .bin .add, [.t 127, .c (.int .i64 1)], none⟩,
     ⟨(some 16), .mov, [.t 128], none⟩])
   (.draw [0, 1, 3, 7, 3, 31, 63, 3, 131, 3, 899, 1923, 4095, 8191, 16383] [⟨(some 129), .mov, [.t 17], none⟩,
     ⟨(some 130), .mov, [.t 129], none⟩,
     ⟨(some 131), .faddr 6, [.t 2], (some (130, false))⟩,
     ⟨(some 132), .load 1 false, [.t 131], (some (130, false))⟩,
     ⟨(some 133), .mov, [.t 20], (some (130, false))⟩,
     ⟨(some 134), .iaddrS 1, [.t 132, .t 133], (some (130, false))⟩,
     ⟨(some 135), .load 1 false, [.t 134], (some (130, false))⟩,
     ⟨(some 136), .faddr 6, [.t 3], (some (130, false))⟩,
     ⟨(some 137), .load 1 false, [.t 136], (some (130, false))⟩,
     ⟨(some 138), .mov, [.t 19], (some (130, false))⟩,
     ⟨(some 139), .iaddrS 1, [.t 137, .t 138], (some (130, false))⟩,
     ⟨(some 140), .load 1 false, [.t 139], (some (130, false))⟩,
     ⟨(some 141), .bin .neq, [.t 135, .t 140], (some (130, false))⟩,
     ⟨(some 142), .pick, [.t 130, .c (.bool true), .t 141], none⟩,
     ⟨(some 17), .mov, [.t 142], none⟩])) .skip))))
   (.reg [⟨(some 114), .mov, [.t 19], none⟩,
     ⟨(some 115), .bin .add, [.t 114, .c (.int .i64 1)], none⟩,
     ⟨(some 19), .mov, [.t 115], none⟩]))))))
   (.seq (.seq (.reg [⟨(some 143), .faddr 6, [.t 2], none⟩,
     ⟨(some 144), .load 1 false, [.t 143], none⟩,
     ⟨(some 145), .len false, [.t 144], none⟩,
     ⟨(some 146), .faddr 6, [.t 3], none⟩,
     ⟨(some 147), .load 1 false, [.t 146], none⟩,
     ⟨(some 148), .len false, [.t 147], none⟩,
     ⟨(some 149), .bin .add, [.t 145, .t 148], none⟩,
     ⟨(some 150), .mov, [.t 16], none⟩,
     ⟨(some 151), .bin .sub, [.t 149, .t 150], none⟩,
     ⟨(some 152), .mov, [.t 9], none⟩,
     ⟨(some 153), .bin .neq, [.t 151, .t 152], none⟩])
   (.cond (.t 153) (.seq (.reg [⟨(some 154), .build [(.int .i64 0), (.int .i64 0), (.int .i64 0), (.int .i64 0), (.int .i64 0), (.int .i64 0), .nils] [], [], none⟩,
     ⟨none, .store 7, [.t 4, .t 154], none⟩,
     ⟨(some 5), .mov, [.c (.int .i64 103)], none⟩])
   .ret) .skip))
   (.seq (.seq (.reg [⟨(some 155), .load 3 true, [.t 14], none⟩,
     ⟨(some 156), .load 3 true, [.t 15], none⟩,
     ⟨(some 157), .call 88, [.t 155, .t 156], none⟩,
     ⟨(some 158), .un .not, [.t 157], none⟩])
   (.cond (.t 158) (.seq (.reg [⟨(some 159), .build [(.int .i64 0), (.int .i64 0), (.int .i64 0), (.int .i64 0), (.int .i64 0), (.int .i64 0), .nils] [], [], none⟩,
     ⟨none, .store 7, [.t 4, .t 159], none⟩,
     ⟨(some 5), .mov, [.c (.int .i64 3)], none⟩])
   .ret) .skip))
   (.seq (.seq (.reg [⟨(some 160), .mov, [.t 17], none⟩])
   (.cond (.t 160) (.seq (.reg [⟨(some 161), .build [(.int .i64 0), (.int .i64 0), (.int .i64 0), (.int .i64 0), (.int .i64 0), (.int .i64 0), .nils] [], [], none⟩,
     ⟨none, .store 7, [.t 4, .t 161], none⟩,
     ⟨(some 5), .mov, [.c (.int .i64 104)], none⟩])
   .ret) .skip))
   (.seq (.reg [⟨(some 162), .load 3 true, [.t 14], none⟩,
     ⟨(some 163), .load 3 true, [.t 15], none⟩,
     ⟨(some 164), .build [(.int .i64 0), (.int .i64 0), (.int .i64 0), (.int .i64 0), (.int .i64 0), (.int .i64 0), .nils] [(0, 3), (3, 3)], [.t 162, .t 163], none⟩,
     ⟨(some 21), .alloc [(.int .i64 0), (.int .i64 0), (.int .i64 0), (.int .i64 0), (.int .i64 0), (.int .i64 0), .nils], [], none⟩,
     ⟨none, .store 7, [.t 21, .t 164], none⟩])
   (.seq (.reg [⟨(some 165), .load 3 true, [.t 14], none⟩,
     ⟨(some 166), .load 3 true, [.t 15], none⟩,
     ⟨(some 167), .call 89, [.t 165, .t 166], none⟩,
     ⟨(some 22), .mov, [.t 167], none⟩])
   (.seq (.seq (.reg [⟨(some 23), .mov, [.c (.int .i64 0)], none⟩])
   (.block 4 (.loop (.seq (.seq (.reg [⟨(some 168), .mov, [.t 23], none⟩,
     ⟨(some 169), .mov, [.t 22], none⟩,
     ⟨(some 170), .len false, [.t 169], none⟩,
     ⟨(some 171), .bin .lss, [.t 168, .t 170], none⟩])
   (.cond (.t 171) .skip (.exit 4)))
   (.seq (.block 5 (.seq (.draw [0, 1, 0, 4, 0, 0, 48, 112, 255, 511] [⟨(some 174), .faddr 0, [.t 2], none⟩,
     ⟨(some 175), .load 3 true, [.t 174], none⟩,
     ⟨(some 176), .faddr 3, [.t 2], none⟩,
     ⟨(some 177), .load 3 true, [.t 176], none⟩,
     ⟨(some 178), .mov, [.t 22], none⟩,
     ⟨(some 179), .mov, [.t 23], none⟩,
     ⟨(some 180), .iaddrS 3, [.t 178, .t 179], none⟩,
     ⟨(some 181), .load 3 true, [.t 180], none⟩,
     ⟨(some 182), .call 105, [.t 175, .t 177, .t 181], none⟩,
     ⟨(some 24), .mov, [.t 182], none⟩])
   (.seq (.reg [⟨(some 183), .mov, [.t 24], none⟩,
     ⟨(some 184), .bin .geq, [.t 183, .c (.int .i64 0)], none⟩])
   (.cond (.t 184) (.draw [0, 1, 0, 4, 0, 28, 60, 124, 255, 511, 1023] [⟨(some 185), .faddr 6, [.t 21], none⟩,
     ⟨(some 186), .load 1 false, [.t 185], none⟩,
     ⟨(some 187), .faddr 6, [.t 2], none⟩,
     ⟨(some 188), .load 1 false, [.t 187], none⟩,
     ⟨(some 189), .mov, [.t 24], none⟩,
     ⟨(some 190), .iaddrS 1, [.t 188, .t 189], none⟩,
     ⟨(some 191), .load 1 false, [.t 190], none⟩,
     ⟨(some 192), .mkslice 1 3, [.t 191], none⟩,
     ⟨(some 193), .append 1 8 3, [.t 186, .t 192], none⟩,
     ⟨(some 194), .faddr 6, [.t 21], none⟩,
     ⟨none, .store 1, [.t 194, .t 193], none⟩]) (.seq (.draw [0, 1, 0, 4, 0, 0, 48, 112, 255, 511] [⟨(some 195), .faddr 0, [.t 3], none⟩,
     ⟨(some 196), .load 3 true, [.t 195], none⟩,
     ⟨(some 197), .faddr 3, [.t 3], none⟩,
     ⟨(some 198), .load 3 true, [.t 197], none⟩,
     ⟨(some 199), .mov, [.t 22], none⟩,
     ⟨(some 200), .mov, [.t 23], none⟩,
     ⟨(some 201), .iaddrS 3, [.t 199, .t 200], none⟩,
     ⟨(some 202), .load 3 true, [.t 201], none⟩,
     ⟨(some 203), .call 105, [.t 196, .t 198, .t 202], none⟩,
     ⟨(some 25), .mov, [.t 203], none⟩])
   (.seq (.reg [⟨(some 204), .mov, [.t 25], none⟩,
     ⟨(some 205), .bin .geq, [.t 204, .c (.int .i64 0)], none⟩])
   (.cond (.t 205) (.draw [0, 1, 0, 4, 0, 28, 60, 124, 255, 511, 1023] [⟨(some 206), .faddr 6, [.t 21], none⟩,
     ⟨(some 207), .load 1 false, [.t 206], none⟩,
     ⟨(some 208), .faddr 6, [.t 3], none⟩,
     ⟨(some 209), .load 1 false, [.t 208], none⟩,
     ⟨(some 210), .mov, [.t 25], none⟩,
     ⟨(some 211), .iaddrS 1, [.t 209, .t 210], none⟩,
     ⟨(some 212), .load 1 false, [.t 211], none⟩,
     ⟨(some 213), .mkslice 1 3, [.t 212], none⟩,
     ⟨(some 214), .append 1 8 3, [.t 207, .t 213], none⟩,
     ⟨(some 215), .faddr 6, [.t 21], none⟩,
     ⟨none, .store 1, [.t 215, .t 214], none⟩]) .skip)))))))
   (.reg [⟨(some 172), .mov, [.t 23], none⟩,
     ⟨(some 173), .bin .add, [.t 172, .c (.int .i64 1)], none⟩,
     ⟨(some 23), .mov, [.t 173], none⟩]))))))
   (.seq (.reg [⟨(some 216), .load 7 true, [.t 21], none⟩,
     ⟨none, .store 7, [.t 4, .t 216], none⟩,
     ⟨(some 5), .mov, [.c (.int .i64 0)], none⟩])
   .ret)))))))))))))))))
theorem chk.ref10_Join : chkF Try.prog 43 = some (217, ir.ref10_Join, [.cell 4 55, .tmp 5]) := by kernel_rfl

/-- paravane/paravaneref00.Rest -/
abbrev F.ref00_Rest : Nat := 49
def ir.ref00_Rest : IC :=
 (.seq (.reg [⟨(some 4), .mov, [.c (.int .i64 0)], none⟩])
   (.seq (.seq (.reg [⟨(some 5), .mov, [.t 1], none⟩,
     ⟨(some 6), .bin .lss, [.t 5, .c (.int .i64 1)], none⟩])
   (.cond (.t 6) (.seq (.reg [⟨(some 4), .mov, [.c (.int .i64 0)], none⟩])
   .ret) .skip))
   (.seq (.reg [⟨(some 7), .mov, [.t 0], none⟩,
     ⟨(some 8), .mov, [.t 1], none⟩,
     ⟨(some 9), .bin .rem, [.t 7, .t 8], none⟩,
     ⟨(some 0), .mov, [.t 9], none⟩])
   (.seq (.seq (.reg [⟨(some 10), .mov, [.t 0], none⟩,
     ⟨(some 11), .bin .lss, [.t 10, .c (.int .i64 0)], none⟩])
   (.cond (.t 11) (.reg [⟨(some 12), .mov, [.t 0], none⟩,
     ⟨(some 13), .mov, [.t 1], none⟩,
     ⟨(some 14), .bin .add, [.t 12, .t 13], none⟩,
     ⟨(some 0), .mov, [.t 14], none⟩]) .skip))
   (.seq (.reg [⟨(some 15), .mov, [.t 0], none⟩,
     ⟨(some 4), .mov, [.t 15], none⟩])
   .ret)))))
theorem chk.ref00_Rest : chkF Try.prog 49 = some (16, ir.ref00_Rest, [.tmp 4]) := by kernel_rfl

/-- paravane/paravaneref00.Own -/
abbrev F.ref00_Own : Nat := 50
def ir.ref00_Own : IC :=
 (.seq (.reg [⟨(some 2), .mov, [.c .nils], none⟩])
   (.seq (.reg [⟨(some 3), .mov, [.c .nils], none⟩])
   (.seq (.reg [⟨(some 4), .mov, [.t 3], none⟩,
     ⟨(some 5), .mov, [.t 0], none⟩,
     ⟨(some 6), .append 1 8 3, [.t 4, .t 5], none⟩,
     ⟨(some 2), .mov, [.t 6], none⟩])
   .ret)))
theorem chk.ref00_Own : chkF Try.prog 50 = some (7, ir.ref00_Own, [.tmp 2]) := by kernel_rfl

/-- paravane/paravanelaw10.chosen -/
abbrev F.law10_chosen : Nat := 54
def ir.law10_chosen : IC :=
 (.seq (.reg [⟨(some 4), .mov, [.c .nils], none⟩])
   (.seq (.reg [⟨(some 5), .mov, [.c .nils], none⟩])
   (.seq (.seq (.reg [⟨(some 6), .mov, [.c (.int .i64 0)], none⟩])
   (.block 0 (.loop (.seq (.seq (.reg [⟨(some 11), .mov, [.t 6], none⟩,
     ⟨(some 12), .mov, [.t 0], none⟩,
     ⟨(some 13), .len false, [.t 12], none⟩,
     ⟨(some 14), .bin .lss, [.t 11, .t 13], none⟩])
   (.cond (.t 14) .skip (.exit 0)))
   (.seq (.block 1 (.seq (.draw [0, 0, 3, 7, 15, 0, 0, 96, 224, 480, 1023, 0, 4095] [⟨(some 17), .mov, [.t 0], none⟩,
     ⟨(some 18), .mov, [.t 6], none⟩,
     ⟨(some 19), .iaddrS 3, [.t 17, .t 18], none⟩,
     ⟨(some 20), .faddr 0, [.t 19], none⟩,
     ⟨(some 21), .load 1 false, [.t 20], none⟩,
     ⟨(some 22), .mov, [.t 0], none⟩,
     ⟨(some 23), .mov, [.t 6], none⟩,
     ⟨(some 24), .iaddrS 3, [.t 22, .t 23], none⟩,
     ⟨(some 25), .faddr 1, [.t 24], none⟩,
     ⟨(some 26), .load 1 false, [.t 25], none⟩,
     ⟨(some 27), .build [(.int .i64 0), (.int .i64 0), .nils] [(0, 1), (1, 1)], [.t 21, .t 26], none⟩,
     ⟨(some 7), .alloc [(.int .i64 0), (.int .i64 0), .nils], [], none⟩,
     ⟨none, .store 3, [.t 7, .t 27], none⟩])
   (.seq (.seq (.reg [⟨(some 8), .mov, [.c (.int .i64 0)], none⟩])
   (.block 2 (.loop (.seq (.seq (.reg [⟨(some 28), .mov, [.t 8], none⟩,
     ⟨(some 29), .mov, [.t 0], none⟩,
     ⟨(some 30), .mov, [.t 6], none⟩,
     ⟨(some 31), .iaddrS 3, [.t 29, .t 30], none⟩,
     ⟨(some 32), .faddr 2, [.t 31], none⟩,
     ⟨(some 33), .load 1 false, [.t 32], none⟩,
     ⟨(some 34), .len false, [.t 33], none⟩,
     ⟨(some 35), .bin .lss, [.t 28, .t 34], none⟩])
   (.cond (.t 35) .skip (.exit 2)))
   (.seq (.block 3 (.seq (.reg [⟨(some 38), .mov, [.t 0], none⟩,
     ⟨(some 39), .mov, [.t 6], none⟩,
     ⟨(some 40), .iaddrS 3, [.t 38, .t 39], none⟩,
     ⟨(some 41), .faddr 2, [.t 40], none⟩,
     ⟨(some 42), .load 1 false, [.t 41], none⟩,
     ⟨(some 43), .mov, [.t 8], none⟩,
     ⟨(some 44), .iaddrS 2, [.t 42, .t 43], none⟩,
     ⟨(some 45), .load 2 true, [.t 44], none⟩,
     ⟨(some 9), .alloc [(.int .i64 0), (.int .i64 0)], [], none⟩,
     ⟨none, .store 2, [.t 9, .t 45], none⟩])
   (.seq (.draw [0, 1, 0, 0, 8, 0, 56, 124, 0, 256, 0, 1024, 3840, 7936, 16380, 32767, 65535] [⟨(some 46), .faddr 0, [.t 9], none⟩,
     ⟨(some 47), .load 1 false, [.t 46], none⟩,
     ⟨(some 48), .mov, [.t 1], none⟩,
     ⟨(some 49), .mov, [.t 6], none⟩,
     ⟨(some 50), .bin .mul, [.c (.int .i64 7), .t 49], none⟩,
     ⟨(some 51), .mov, [.t 8], none⟩,
     ⟨(some 52), .bin .add, [.t 50, .t 51], none⟩,
     ⟨(some 53), .call 56, [.t 48, .t 52], none⟩,
     ⟨(some 54), .faddr 1, [.t 9], none⟩,
     ⟨(some 55), .load 1 false, [.t 54], none⟩,
     ⟨(some 56), .faddr 0, [.t 9], none⟩,
     ⟨(some 57), .load 1 false, [.t 56], none⟩,
     ⟨(some 58), .bin .sub, [.t 55, .t 57], none⟩,
     ⟨(some 59), .bin .add, [.t 58, .c (.int .i64 1)], none⟩,
     ⟨(some 60), .call 49, [.t 53, .t 59], none⟩,
     ⟨(some 61), .bin .add, [.t 47, .t 60], none⟩,
     ⟨(some 10), .mov, [.t 61], none⟩])
   (.reg [⟨(some 62), .faddr 2, [.t 7], none⟩,
     ⟨(some 63), .load 1 false, [.t 62], none⟩,
     ⟨(some 64), .mov, [.t 10], none⟩,
     ⟨(some 65), .mov, [.t 10], none⟩,
     ⟨(some 66), .build [(.int .i64 0), (.int .i64 0)] [(0, 1), (1, 1)], [.t 64, .t 65], none⟩,
     ⟨(some 67), .mkslice 2 33, [.t 66], none⟩,
     ⟨(some 68), .append 2 16 33, [.t 63, .t 67], none⟩,
     ⟨(some 69), .faddr 2, [.t 7], none⟩,
     ⟨none, .store 1, [.t 69, .t 68], none⟩]))))
   (.reg [⟨(some 36), .mov, [.t 8], none⟩,
     ⟨(some 37), .bin .add, [.t 36, .c (.int .i64 1)], none⟩,
     ⟨(some 8), .mov, [.t 37], none⟩]))))))
   (.reg [⟨(some 70), .mov, [.t 5], none⟩,
     ⟨(some 71), .load 3 true, [.t 7], none⟩,
     ⟨(some 72), .mkslice 3 79, [.t 71], none⟩,
     ⟨(some 73), .append 3 40 79, [.t 70, .t 72], none⟩,
     ⟨(some 5), .mov, [.t 73], none⟩]))))
   (.reg [⟨(some 15), .mov, [.t 6], none⟩,
     ⟨(some 16), .bin .add, [.t 15, .c (.int .i64 1)], none⟩,
     ⟨(some 6), .mov, [.t 16], none⟩]))))))
   (.seq (.reg [⟨(some 74), .mov, [.t 5], none⟩,
     ⟨(some 4), .mov, [.t 74], none⟩])
   .ret))))
theorem chk.law10_chosen : chkF Try.prog 54 = some (75, ir.law10_chosen, [.tmp 4]) := by kernel_rfl

/-- paravane/paravanelaw10.inside -/
abbrev F.law10_inside : Nat := 55
def ir.law10_inside : IC :=
 (.seq (.reg [⟨(some 2), .box, [.t 0], none⟩,
     ⟨(some 3), .box, [.t 1], none⟩,
     ⟨(some 4), .mov, [.c (.bool false)], none⟩])
   (.seq (.seq (.reg [⟨(some 6), .faddr 0, [.t 2], none⟩,
     ⟨(some 7), .load 3 true, [.t 6], none⟩,
     ⟨(some 8), .faddr 0, [.t 3], none⟩,
     ⟨(some 9), .load 3 true, [.t 8], none⟩,
     ⟨(some 10), .eqs true [0, 0, 0], [.t 7, .t 9], none⟩,
     ⟨(some 11), .mov, [.t 10], none⟩,
     ⟨(some 12), .faddr 3, [.t 2], (some (11, false))⟩,
     ⟨(some 13), .load 3 true, [.t 12], (some (11, false))⟩,
     ⟨(some 14), .faddr 3, [.t 3], (some (11, false))⟩,
     ⟨(some 15), .load 3 true, [.t 14], (some (11, false))⟩,
     ⟨(some 16), .eqs true [0, 0, 0], [.t 13, .t 15], (some (11, false))⟩,
     ⟨(some 17), .pick, [.t 11, .c (.bool true), .t 16], none⟩,
     ⟨(some 18), .mov, [.t 17], none⟩,
     ⟨(some 19), .faddr 6, [.t 2], (some (18, false))⟩,
     ⟨(some 20), .load 1 false, [.t 19], (some (18, false))⟩,
     ⟨(some 21), .len false, [.t 20], (some (18, false))⟩,
     ⟨(some 22), .faddr 6, [.t 3], (some (18, false))⟩,
     ⟨(some 23), .load 1 false, [.t 22], (some (18, false))⟩,
     ⟨(some 24), .len false, [.t 23], (some (18, false))⟩,
     ⟨(some 25), .bin .neq, [.t 21, .t 24], (some (18, false))⟩,
     ⟨(some 26), .pick, [.t 18, .c (.bool true), .t 25], none⟩])
   (.cond (.t 26) (.seq (.reg [⟨(some 4), .mov, [.c (.bool false)], none⟩])
   .ret) .skip))
   (.seq (.seq (.reg [⟨(some 5), .mov, [.c (.int .i64 0)], none⟩])
   (.block 0 (.loop (.seq (.seq (.reg [⟨(some 27), .mov, [.t 5], none⟩,
     ⟨(some 28), .faddr 6, [.t 2], none⟩,
     ⟨(some 29), .load 1 false, [.t 28], none⟩,
     ⟨(some 30), .len false, [.t 29], none⟩,
     ⟨(some 31), .bin .lss, [.t 27, .t 30], none⟩])
   (.cond (.t 31) .skip (.exit 0)))
   (.seq (.block 1 (.seq (.draw [0, 1, 0, 7, 15, 31, 0, 64, 0, 448, 960, 1984, 4095, 8191, 16383, 32767, 16383, 131071, 262143, 524287, 16383, 1064959, 16383, 7356415, 15745023, 32522239, 67108863, 134217727] [⟨(some 34), .faddr 6, [.t 2], none⟩,
     ⟨(some 35), .load 1 false, [.t 34], none⟩,
     ⟨(some 36), .mov, [.t 5], none⟩,
     ⟨(some 37), .iaddrS 2, [.t 35, .t 36], none⟩,
     ⟨(some 38), .faddr 0, [.t 37], none⟩,
     ⟨(some 39), .load 1 false, [.t 38], none⟩,
     ⟨(some 40), .faddr 6, [.t 3], none⟩,
     ⟨(some 41), .load 1 false, [.t 40], none⟩,
     ⟨(some 42), .mov, [.t 5], none⟩,
     ⟨(some 43), .iaddrS 2, [.t 41, .t 42], none⟩,
     ⟨(some 44), .faddr 0, [.t 43], none⟩,
     ⟨(some 45), .load 1 false, [.t 44], none⟩,
     ⟨(some 46), .bin .lss, [.t 39, .t 45], none⟩,
     ⟨(some 47), .mov, [.t 46], none⟩,
     ⟨(some 48), .faddr 6, [.t 2], (some (47, false))⟩,
     ⟨(some 49), .load 1 false, [.t 48], (some (47, false))⟩,
     ⟨(some 50), .mov, [.t 5], (some (47, false))⟩,
     ⟨(some 51), .iaddrS 2, [.t 49, .t 50], (some (47, false))⟩,
     ⟨(some 52), .faddr 1, [.t 51], (some (47, false))⟩,
     ⟨(some 53), .load 1 false, [.t 52], (some (47, false))⟩,
     ⟨(some 54), .faddr 6, [.t 3], (some (47, false))⟩,
     ⟨(some 55), .load 1 false, [.t 54], (some (47, false))⟩,
     ⟨(some 56), .mov, [.t 5], (some (47, false))⟩,
     ⟨(some 57), .iaddrS 2, [.t 55, .t 56], (some (47, false))⟩,
     ⟨(some 58), .faddr 1, [.t 57], (some (47, false))⟩,
     ⟨(some 59), .load 1 false, [.t 58], (some (47, false))⟩,
     ⟨(some 60), .bin .gtr, [.t 53, .t 59], (some (47, false))⟩,
     ⟨(some 61), .pick, [.t 47, .c (.bool true), .t 60], none⟩])
   (.cond (.t 61) (.seq (.reg [⟨(some 4), .mov, [.c (.bool false)], none⟩])
   .ret) .skip)))
   (.reg [⟨(some 32), .mov, [.t 5], none⟩,
     ⟨(some 33), .bin .add, [.t 32, .c (.int .i64 1)], none⟩,
     ⟨(some 5), .mov, [.t 33], none⟩]))))))
   (.seq (.reg [⟨(some 4), .mov, [.c (.bool true)], none⟩])
   .ret))))
theorem chk.law10_inside : chkF Try.prog 55 = some (62, ir.law10_inside, [.tmp 4]) := by kernel_rfl

/-- paravane/paravaneref00.Pick -/
abbrev F.ref00_Pick : Nat := 56
def ir.ref00_Pick : IC :=
 (.seq (.reg [⟨(some 4), .mov, [.c (.int .i64 0)], none⟩])
   (.seq (.seq (.reg [⟨(some 5), .mov, [.t 0], none⟩,
     ⟨(some 6), .len false, [.t 5], none⟩,
     ⟨(some 7), .bin .eql, [.t 6, .c (.int .i64 0)], none⟩])
   (.cond (.t 7) (.seq (.reg [⟨(some 4), .mov, [.c (.int .i64 0)], none⟩])
   .ret) .skip))
   (.seq (.reg [⟨(some 8), .mov, [.t 0], none⟩,
     ⟨(some 9), .mov, [.t 1], none⟩,
     ⟨(some 10), .mov, [.t 0], none⟩,
     ⟨(some 11), .len false, [.t 10], none⟩,
     ⟨(some 12), .call 49, [.t 9, .t 11], none⟩,
     ⟨(some 13), .iaddrS 1, [.t 8, .t 12], none⟩,
     ⟨(some 14), .load 1 false, [.t 13], none⟩,
     ⟨(some 4), .mov, [.t 14], none⟩])
   .ret)))
theorem chk.ref00_Pick : chkF Try.prog 56 = some (15, ir.ref00_Pick, [.tmp 4]) := by kernel_rfl

/-- paravane/paravanelaw10.added -/
abbrev F.law10_added : Nat := 57
def ir.law10_added : IC :=
 (.seq (.reg [⟨(some 2), .box, [.t 0], none⟩,
     ⟨(some 3), .box, [.t 1], none⟩,
     ⟨(some 4), .alloc [(.int .i64 0), (.int .i64 0)], [], none⟩])
   (.seq (.reg [⟨(some 5), .faddr 0, [.t 2], none⟩,
     ⟨(some 6), .load 1 false, [.t 5], none⟩,
     ⟨(some 7), .faddr 0, [.t 3], none⟩,
     ⟨(some 8), .load 1 false, [.t 7], none⟩,
     ⟨(some 9), .bin .add, [.t 6, .t 8], none⟩,
     ⟨(some 10), .faddr 1, [.t 2], none⟩,
     ⟨(some 11), .load 1 false, [.t 10], none⟩,
     ⟨(some 12), .faddr 1, [.t 3], none⟩,
     ⟨(some 13), .load 1 false, [.t 12], none⟩,
     ⟨(some 14), .bin .add, [.t 11, .t 13], none⟩,
     ⟨(some 15), .build [(.int .i64 0), (.int .i64 0)] [(0, 1), (1, 1)], [.t 9, .t 14], none⟩,
     ⟨none, .store 2, [.t 4, .t 15], none⟩])
   .ret))
theorem chk.law10_added : chkF Try.prog 57 = some (16, ir.law10_added, [.cell 4 33]) := by kernel_rfl

/-- paravane/volume.Seal -/
abbrev F.volume_Seal : Nat := 58
def ir.volume_Seal : IC :=
 (.seq (.reg [⟨(some 1), .box, [.t 0], none⟩,
     ⟨(some 2), .mov, [.c (.int .i64 0)], none⟩,
     ⟨(some 3), .mov, [.c (.int .i64 0)], none⟩])
   (.seq (.reg [⟨(some 12), .load 7 true, [.t 1], none⟩,
     ⟨(some 13), .call 97, [.t 12], none⟩,
     ⟨(some 11), .mov, [.t 13], none⟩,
     ⟨(some 14), .extract 0, [.t 11], none⟩,
     ⟨(some 15), .extract 1, [.t 11], none⟩,
     ⟨(some 4), .alloc [(.int .i64 0), (.int .i64 0), (.int .i64 0), (.int .i64 0), (.int .i64 0), (.int .i64 0), .nils], [], none⟩,
     ⟨none, .store 7, [.t 4, .t 14], none⟩,
     ⟨(some 5), .mov, [.t 15], none⟩])
   (.seq (.seq (.reg [⟨(some 16), .mov, [.t 5], none⟩,
     ⟨(some 17), .bin .neq, [.t 16, .c (.int .i64 0)], none⟩])
   (.cond (.t 17) (.seq (.reg [⟨(some 18), .mov, [.t 5], none⟩,
     ⟨(some 2), .mov, [.c (.int .i64 0)], none⟩,
     ⟨(some 3), .mov, [.t 18], none⟩])
   .ret) .skip))
   (.seq (.reg [⟨(some 6), .mov, [.c (.int .i64 1)], none⟩])
   (.seq (.seq (.draw [0, 1, 3, 0, 8, 24, 0, 64, 255, 0] [⟨(some 19), .faddr 0, [.t 4], none⟩,
     ⟨(some 20), .faddr 0, [.t 19], none⟩,
     ⟨(some 21), .sla 3 1, [.t 20], none⟩,
     ⟨(some 22), .faddr 0, [.t 4], none⟩,
     ⟨(some 23), .faddr 3, [.t 22], none⟩,
     ⟨(some 24), .sla 3 1, [.t 23], none⟩,
     ⟨(some 25), .faddr 6, [.t 4], none⟩,
     ⟨(some 26), .load 1 false, [.t 25], none⟩,
     ⟨(some 27), .build [.nils, .nils, .nils] [(0, 1), (1, 1), (2, 1)], [.t 21, .t 24, .t 26], none⟩,
     ⟨(some 28), .mov, [.c (.int .i64 0)], none⟩])
   (.block 0 (.loop (.seq (.reg [⟨(some 29), .bin .lss, [.t 28, .c (.int .i64 3)], none⟩])
   (.seq (.cond (.t 29) .skip (.exit 0))
   (.seq (.block 1 (.seq (.reg [⟨(some 30), .idxA 3 1 false, [.t 27, .t 28], none⟩,
     ⟨(some 8), .mov, [.t 30], none⟩])
   (.seq (.reg [⟨(some 31), .mov, [.t 8], none⟩,
     ⟨(some 32), .len false, [.t 31], none⟩,
     ⟨(some 33), .mov, [.c (.int .i64 0)], none⟩])
   (.block 2 (.loop (.seq (.reg [⟨(some 34), .bin .lss, [.t 33, .t 32], none⟩])
   (.seq (.cond (.t 34) .skip (.exit 2))
   (.seq (.block 3 (.seq (.reg [⟨(some 35), .iaddrS 1, [.t 31, .t 33], none⟩,
     ⟨(some 36), .load 1 false, [.t 35], none⟩,
     ⟨(some 10), .mov, [.t 36], none⟩])
   (.reg [⟨(some 37), .mov, [.t 6], none⟩,
     ⟨(some 38), .bin .mul, [.t 37, .c (.int .i64 48271)], none⟩,
     ⟨(some 39), .mov, [.t 10], none⟩,
     ⟨(some 40), .bin .add, [.t 38, .t 39], none⟩,
     ⟨(some 41), .bin .add, [.t 40, .c (.int .i64 2199023255552)], none⟩,
     ⟨(some 42), .bin .rem, [.t 41, .c (.int .i64 2147483647)], none⟩,
     ⟨(some 6), .mov, [.t 42], none⟩])))
   (.reg [⟨(some 43), .bin .add, [.t 33, .c (.int .i64 1)], none⟩,
     ⟨(some 33), .mov, [.t 43], none⟩])))))))))
   (.reg [⟨(some 44), .bin .add, [.t 28, .c (.int .i64 1)], none⟩,
     ⟨(some 28), .mov, [.t 44], none⟩])))))))
   (.seq (.reg [⟨(some 45), .mov, [.t 6], none⟩,
     ⟨(some 2), .mov, [.t 45], none⟩,
     ⟨(some 3), .mov, [.c (.int .i64 0)], none⟩])
   .ret))))))
theorem chk.volume_Seal : chkF Try.prog 58 = some (46, ir.volume_Seal, [.tmp 2, .tmp 3]) := by kernel_rfl

/-- paravane/volume.Cut -/
abbrev F.volume_Cut : Nat := 59
def ir.volume_Cut : IC :=
 (.seq (.reg [⟨(some 3), .box, [.t 0], none⟩,
     ⟨(some 4), .box, [.t 1], none⟩,
     ⟨(some 5), .box, [.t 2], none⟩,
     ⟨(some 6), .alloc [(.int .i64 0), (.int .i64 0), (.int .i64 0), (.int .i64 0), (.int .i64 0), (.int .i64 0), .nils], [], none⟩,
     ⟨(some 7), .mov, [.c (.int .i64 0)], none⟩])
   (.seq (.reg [⟨(some 14), .load 7 true, [.t 3], none⟩,
     ⟨(some 15), .call 97, [.t 14], none⟩,
     ⟨(some 13), .mov, [.t 15], none⟩,
     ⟨(some 16), .extract 0, [.t 13], none⟩,
     ⟨(some 17), .extract 1, [.t 13], none⟩,
     ⟨(some 8), .alloc [(.int .i64 0), (.int .i64 0), (.int .i64 0), (.int .i64 0), (.int .i64 0), (.int .i64 0), .nils], [], none⟩,
     ⟨none, .store 7, [.t 8, .t 16], none⟩,
     ⟨(some 9), .mov, [.t 17], none⟩])
   (.seq (.seq (.reg [⟨(some 18), .mov, [.t 9], none⟩,
     ⟨(some 19), .bin .neq, [.t 18, .c (.int .i64 0)], none⟩])
   (.cond (.t 19) (.seq (.reg [⟨(some 20), .build [(.int .i64 0), (.int .i64 0), (.int .i64 0), (.int .i64 0), (.int .i64 0), (.int .i64 0), .nils] [], [], none⟩,
     ⟨(some 21), .mov, [.t 9], none⟩,
     ⟨none, .store 7, [.t 6, .t 20], none⟩,
     ⟨(some 7), .mov, [.t 21], none⟩])
   .ret) .skip))
   (.seq (.reg [⟨(some 22), .load 3 true, [.t 4], none⟩,
     ⟨(some 23), .load 3 true, [.t 5], none⟩,
     ⟨(some 24), .build [(.int .i64 0), (.int .i64 0), (.int .i64 0), (.int .i64 0), (.int .i64 0), (.int .i64 0)] [(0, 3), (3, 3)], [.t 22, .t 23], none⟩,
     ⟨(some 10), .alloc [(.int .i64 0), (.int .i64 0), (.int .i64 0), (.int .i64 0), (.int .i64 0), (.int .i64 0)], [], none⟩,
     ⟨none, .store 6, [.t 10, .t 24], none⟩])
   (.seq (.seq (.draw [0, 1, 3, 7, 15, 31, 15, 79, 255, 511, 1023, 2047, 4095, 8191, 4095, 20479, 65535, 131071, 262143] [⟨(some 25), .load 6 true, [.t 10], none⟩,
     ⟨(some 26), .call 114, [.t 25], none⟩,
     ⟨(some 27), .un .not, [.t 26], none⟩,
     ⟨(some 28), .mov, [.t 27], none⟩,
     ⟨(some 29), .faddr 0, [.t 8], (some (28, false))⟩,
     ⟨(some 30), .load 6 true, [.t 29], (some (28, false))⟩,
     ⟨(some 31), .faddr 0, [.t 10], (some (28, false))⟩,
     ⟨(some 32), .load 3 true, [.t 31], (some (28, false))⟩,
     ⟨(some 33), .call 103, [.t 30, .t 32], (some (28, false))⟩,
     ⟨(some 34), .un .not, [.t 33], (some (28, false))⟩,
     ⟨(some 35), .pick, [.t 28, .c (.bool true), .t 34], none⟩,
     ⟨(some 36), .mov, [.t 35], none⟩,
     ⟨(some 37), .faddr 0, [.t 8], (some (36, false))⟩,
     ⟨(some 38), .load 6 true, [.t 37], (some (36, false))⟩,
     ⟨(some 39), .load 6 true, [.t 10], (some (36, false))⟩,
     ⟨(some 40), .call 115, [.t 39], (some (36, false))⟩,
     ⟨(some 41), .call 103, [.t 38, .t 40], (some (36, false))⟩,
     ⟨(some 42), .un .not, [.t 41], (some (36, false))⟩,
     ⟨(some 43), .pick, [.t 36, .c (.bool true), .t 42], none⟩])
   (.cond (.t 43) (.seq (.reg [⟨(some 44), .build [(.int .i64 0), (.int .i64 0), (.int .i64 0), (.int .i64 0), (.int .i64 0), (.int .i64 0), .nils] [], [], none⟩,
     ⟨none, .store 7, [.t 6, .t 44], none⟩,
     ⟨(some 7), .mov, [.c (.int .i64 102)], none⟩])
   .ret) .skip))
   (.seq (.reg [⟨(some 45), .load 3 true, [.t 4], none⟩,
     ⟨(some 46), .load 3 true, [.t 5], none⟩,
     ⟨(some 47), .build [(.int .i64 0), (.int .i64 0), (.int .i64 0), (.int .i64 0), (.int .i64 0), (.int .i64 0), .nils] [(0, 3), (3, 3)], [.t 45, .t 46], none⟩,
     ⟨(some 11), .alloc [(.int .i64 0), (.int .i64 0), (.int .i64 0), (.int .i64 0), (.int .i64 0), (.int .i64 0), .nils], [], none⟩,
     ⟨none, .store 7, [.t 11, .t 47], none⟩])
   (.seq (.seq (.reg [⟨(some 48), .load 6 true, [.t 10], none⟩,
     ⟨(some 49), .call 102, [.t 48], none⟩])
   (.block 0 (.range (.t 49) [50] (.reg [⟨(some 12), .alloc [(.int .i64 0), (.int .i64 0), (.int .i64 0)], [], none⟩,
     ⟨none, .store 3, [.t 12, .t 50], none⟩]) (.block 1 (.draw [0, 1, 0, 4, 0, 16, 0, 112, 252, 508, 1020, 2047, 4095, 8191] [⟨(some 51), .faddr 6, [.t 11], none⟩,
     ⟨(some 52), .load 1 false, [.t 51], none⟩,
     ⟨(some 53), .faddr 6, [.t 8], none⟩,
     ⟨(some 54), .load 1 false, [.t 53], none⟩,
     ⟨(some 55), .faddr 0, [.t 8], none⟩,
     ⟨(some 56), .load 6 true, [.t 55], none⟩,
     ⟨(some 57), .load 3 true, [.t 12], none⟩,
     ⟨(some 58), .call 104, [.t 56, .t 57], none⟩,
     ⟨(some 59), .iaddrS 1, [.t 54, .t 58], none⟩,
     ⟨(some 60), .load 1 false, [.t 59], none⟩,
     ⟨(some 61), .mkslice 1 3, [.t 60], none⟩,
     ⟨(some 62), .append 1 8 3, [.t 52, .t 61], none⟩,
     ⟨(some 63), .faddr 6, [.t 11], none⟩,
     ⟨none, .store 1, [.t 63, .t 62], none⟩])))))
   (.seq (.reg [⟨(some 64), .load 7 true, [.t 11], none⟩,
     ⟨none, .store 7, [.t 6, .t 64], none⟩,
     ⟨(some 7), .mov, [.c (.int .i64 0)], none⟩])
   .ret))))))))
theorem chk.volume_Cut : chkF Try.prog 59 = some (65, ir.volume_Cut, [.cell 6 55, .tmp 7]) := by kernel_rfl

/-- paravane/volume.Verify -/
abbrev F.volume_Verify : Nat := 63
def ir.volume_Verify : IC :=
 (.seq (.reg [⟨(some 7), .box, [.t 3], none⟩,
     ⟨(some 8), .mov, [.c (.bool false)], none⟩,
     ⟨(some 9), .mov, [.c (.int .i64 0)], none⟩])
   (.seq (.reg [⟨(some 13), .mov, [.t 0], none⟩,
     ⟨(some 14), .faddr 0, [.t 7], none⟩,
     ⟨(some 15), .load 3 true, [.t 14], none⟩,
     ⟨(some 16), .mov, [.t 1], none⟩,
     ⟨(some 17), .mov, [.t 2], none⟩,
     ⟨(some 18), .call 31, [.t 13, .t 15, .t 16, .t 17], none⟩,
     ⟨(some 12), .mov, [.t 18], none⟩,
     ⟨(some 19), .extract 0, [.t 12], none⟩,
     ⟨(some 20), .extract 1, [.t 12], none⟩,
     ⟨(some 10), .alloc [(.int .i64 0), (.int .i64 0), (.int .i64 0), .nils, (.int .i64 0), (.int .i64 0)], [], none⟩,
     ⟨none, .store 6, [.t 10, .t 19], none⟩,
     ⟨(some 11), .mov, [.t 20], none⟩])
   (.seq (.seq (.reg [⟨(some 21), .mov, [.t 11], none⟩,
     ⟨(some 22), .bin .neq, [.t 21, .c (.int .i64 0)], none⟩])
   (.cond (.t 22) (.seq (.reg [⟨(some 23), .mov, [.t 11], none⟩,
     ⟨(some 8), .mov, [.c (.bool false)], none⟩,
     ⟨(some 9), .mov, [.t 23], none⟩])
   .ret) .skip))
   (.seq (.reg [⟨(some 24), .faddr 4, [.t 10], none⟩,
     ⟨(some 25), .load 2 true, [.t 24], none⟩,
     ⟨(some 26), .faddr 4, [.t 7], none⟩,
     ⟨(some 27), .load 2 true, [.t 26], none⟩,
     ⟨(some 28), .eqs false [0, 0], [.t 25, .t 27], none⟩,
     ⟨(some 29), .mov, [.t 28], none⟩,
     ⟨(some 30), .faddr 3, [.t 10], (some (29, true))⟩,
     ⟨(some 31), .load 1 false, [.t 30], (some (29, true))⟩,
     ⟨(some 32), .faddr 3, [.t 7], (some (29, true))⟩,
     ⟨(some 33), .load 1 false, [.t 32], (some (29, true))⟩,
     ⟨(some 34), .call 117, [.t 31, .t 33], (some (29, true))⟩,
     ⟨(some 35), .pick, [.t 29, .t 34, .c (.bool false)], none⟩,
     ⟨(some 8), .mov, [.t 35], none⟩,
     ⟨(some 9), .mov, [.c (.int .i64 0)], none⟩])
   .ret))))
theorem chk.volume_Verify : chkF Try.prog 63 = some (36, ir.volume_Verify, [.tmp 8, .tmp 9]) := by kernel_rfl

/-- paravane/volume.CheckVolume -/
abbrev F.volume_CheckVolume : Nat := 65
def ir.volume_CheckVolume : IC :=
 (.seq (.reg [⟨(some 1), .box, [.t 0], none⟩,
     ⟨(some 2), .mov, [.c (.int .i64 0)], none⟩])
   (.seq (.reg [⟨(some 6), .load 7 true, [.t 1], none⟩,
     ⟨(some 7), .call 97, [.t 6], none⟩,
     ⟨(some 5), .mov, [.t 7], none⟩,
     ⟨(some 8), .extract 0, [.t 5], none⟩,
     ⟨(some 9), .extract 1, [.t 5], none⟩,
     ⟨(some 3), .alloc [(.int .i64 0), (.int .i64 0), (.int .i64 0), (.int .i64 0), (.int .i64 0), (.int .i64 0), .nils], [], none⟩,
     ⟨none, .store 7, [.t 3, .t 8], none⟩,
     ⟨(some 4), .mov, [.t 9], none⟩])
   (.seq (.reg [⟨(some 10), .mov, [.t 4], none⟩,
     ⟨(some 2), .mov, [.t 10], none⟩])
   .ret)))
theorem chk.volume_CheckVolume : chkF Try.prog 65 = some (11, ir.volume_CheckVolume, [.tmp 2]) := by kernel_rfl

/-- paravane/paravaneref10.CheckVolume -/
abbrev F.ref10_CheckVolume : Nat := 68
def ir.ref10_CheckVolume : IC :=
 (.seq (.reg [⟨(some 1), .box, [.t 0], none⟩,
     ⟨(some 2), .mov, [.c (.int .i64 0)], none⟩])
   (.seq (.seq (.reg [⟨(some 4), .faddr 0, [.t 1], none⟩,
     ⟨(some 5), .load 3 true, [.t 4], none⟩,
     ⟨(some 6), .faddr 3, [.t 1], none⟩,
     ⟨(some 7), .load 3 true, [.t 6], none⟩,
     ⟨(some 8), .call 88, [.t 5, .t 7], none⟩,
     ⟨(some 9), .un .not, [.t 8], none⟩,
     ⟨(some 10), .mov, [.t 9], none⟩,
     ⟨(some 11), .faddr 6, [.t 1], (some (10, false))⟩,
     ⟨(some 12), .load 1 false, [.t 11], (some (10, false))⟩,
     ⟨(some 13), .len false, [.t 12], (some (10, false))⟩,
     ⟨(some 14), .faddr 3, [.t 1], (some (10, false))⟩,
     ⟨(some 15), .iaddrA 3 1, [.t 14, .c (.int .i64 0)], (some (10, false))⟩,
     ⟨(some 16), .load 1 false, [.t 15], (some (10, false))⟩,
     ⟨(some 17), .faddr 3, [.t 1], (some (10, false))⟩,
     ⟨(some 18), .iaddrA 3 1, [.t 17, .c (.int .i64 1)], (some (10, false))⟩,
     ⟨(some 19), .load 1 false, [.t 18], (some (10, false))⟩,
     ⟨(some 20), .bin .mul, [.t 16, .t 19], (some (10, false))⟩,
     ⟨(some 21), .faddr 3, [.t 1], (some (10, false))⟩,
     ⟨(some 22), .iaddrA 3 1, [.t 21, .c (.int .i64 2)], (some (10, false))⟩,
     ⟨(some 23), .load 1 false, [.t 22], (some (10, false))⟩,
     ⟨(some 24), .bin .mul, [.t 20, .t 23], (some (10, false))⟩,
     ⟨(some 25), .bin .neq, [.t 13, .t 24], (some (10, false))⟩,
     ⟨(some 26), .pick, [.t 10, .c (.bool true), .t 25], none⟩])
   (.cond (.t 26) (.seq (.reg [⟨(some 2), .mov, [.c (.int .i64 101)], none⟩])
   .ret) .skip))
   (.seq (.seq (.reg [⟨(some 3), .mov, [.c (.int .i64 0)], none⟩])
   (.block 0 (.loop (.seq (.seq (.reg [⟨(some 27), .mov, [.t 3], none⟩,
     ⟨(some 28), .faddr 6, [.t 1], none⟩,
     ⟨(some 29), .load 1 false, [.t 28], none⟩,
     ⟨(some 30), .len false, [.t 29], none⟩,
     ⟨(some 31), .bin .lss, [.t 27, .t 30], none⟩])
   (.cond (.t 31) .skip (.exit 0)))
   (.seq (.block 1 (.seq (.reg [⟨(some 34), .faddr 6, [.t 1], none⟩,
     ⟨(some 35), .load 1 false, [.t 34], none⟩,
     ⟨(some 36), .mov, [.t 3], none⟩,
     ⟨(some 37), .iaddrS 1, [.t 35, .t 36], none⟩,
     ⟨(some 38), .load 1 false, [.t 37], none⟩,
     ⟨(some 39), .call 51, [.t 38, .c (.int .i64 (-1099511627776)), .c (.int .i64 1099511627776)], none⟩,
     ⟨(some 40), .un .not, [.t 39], none⟩])
   (.cond (.t 40) (.seq (.reg [⟨(some 2), .mov, [.c (.int .i64 101)], none⟩])
   .ret) .skip)))
   (.reg [⟨(some 32), .mov, [.t 3], none⟩,
     ⟨(some 33), .bin .add, [.t 32, .c (.int .i64 1)], none⟩,
     ⟨(some 3), .mov, [.t 33], none⟩]))))))
   (.seq (.reg [⟨(some 2), .mov, [.c (.int .i64 0)], none⟩])
   .ret))))
theorem chk.ref10_CheckVolume : chkF Try.prog 68 = some (41, ir.ref10_CheckVolume, [.tmp 2]) := by kernel_rfl

/-- paravane/paravaneref10.Cut -/
abbrev F.ref10_Cut : Nat := 69
def ir.ref10_Cut : IC :=
 (.seq (.reg [⟨(some 3), .box, [.t 0], none⟩,
     ⟨(some 4), .box, [.t 1], none⟩,
     ⟨(some 5), .box, [.t 2], none⟩,
     ⟨(some 6), .alloc [(.int .i64 0), (.int .i64 0), (.int .i64 0), (.int .i64 0), (.int .i64 0), (.int .i64 0), .nils], [], none⟩,
     ⟨(some 7), .mov, [.c (.int .i64 0)], none⟩])
   (.seq (.seq (.reg [⟨(some 13), .load 7 true, [.t 3], none⟩,
     ⟨(some 14), .call 68, [.t 13], none⟩,
     ⟨(some 8), .mov, [.t 14], none⟩])
   (.seq (.reg [⟨(some 15), .mov, [.t 8], none⟩,
     ⟨(some 16), .bin .neq, [.t 15, .c (.int .i64 0)], none⟩])
   (.cond (.t 16) (.seq (.reg [⟨(some 17), .build [(.int .i64 0), (.int .i64 0), (.int .i64 0), (.int .i64 0), (.int .i64 0), (.int .i64 0), .nils] [], [], none⟩,
     ⟨(some 18), .mov, [.t 8], none⟩,
     ⟨none, .store 7, [.t 6, .t 17], none⟩,
     ⟨(some 7), .mov, [.t 18], none⟩])
   .ret) .skip)))
   (.seq (.seq (.reg [⟨(some 19), .load 3 true, [.t 4], none⟩,
     ⟨(some 20), .load 3 true, [.t 5], none⟩,
     ⟨(some 21), .call 88, [.t 19, .t 20], none⟩,
     ⟨(some 22), .un .not, [.t 21], none⟩])
   (.cond (.t 22) (.seq (.reg [⟨(some 23), .build [(.int .i64 0), (.int .i64 0), (.int .i64 0), (.int .i64 0), (.int .i64 0), (.int .i64 0), .nils] [], [], none⟩,
     ⟨none, .store 7, [.t 6, .t 23], none⟩,
     ⟨(some 7), .mov, [.c (.int .i64 102)], none⟩])
   .ret) .skip))
   (.seq (.reg [⟨(some 24), .load 3 true, [.t 4], none⟩,
     ⟨(some 25), .load 3 true, [.t 5], none⟩,
     ⟨(some 26), .build [(.int .i64 0), (.int .i64 0), (.int .i64 0), (.int .i64 0), (.int .i64 0), (.int .i64 0), .nils] [(0, 3), (3, 3)], [.t 24, .t 25], none⟩,
     ⟨(some 9), .alloc [(.int .i64 0), (.int .i64 0), (.int .i64 0), (.int .i64 0), (.int .i64 0), (.int .i64 0), .nils], [], none⟩,
     ⟨none, .store 7, [.t 9, .t 26], none⟩])
   (.seq (.reg [⟨(some 27), .load 3 true, [.t 4], none⟩,
     ⟨(some 28), .load 3 true, [.t 5], none⟩,
     ⟨(some 29), .call 89, [.t 27, .t 28], none⟩,
     ⟨(some 10), .mov, [.t 29], none⟩])
   (.seq (.seq (.reg [⟨(some 11), .mov, [.c (.int .i64 0)], none⟩])
   (.block 0 (.loop (.seq (.seq (.reg [⟨(some 30), .mov, [.t 11], none⟩,
     ⟨(some 31), .mov, [.t 10], none⟩,
     ⟨(some 32), .len false, [.t 31], none⟩,
     ⟨(some 33), .bin .lss, [.t 30, .t 32], none⟩])
   (.cond (.t 33) .skip (.exit 0)))
   (.seq (.block 1 (.seq (.draw [0, 1, 0, 4, 0, 0, 48, 112, 255, 511] [⟨(some 36), .faddr 0, [.t 3], none⟩,
     ⟨(some 37), .load 3 true, [.t 36], none⟩,
     ⟨(some 38), .faddr 3, [.t 3], none⟩,
     ⟨(some 39), .load 3 true, [.t 38], none⟩,
     ⟨(some 40), .mov, [.t 10], none⟩,
     ⟨(some 41), .mov, [.t 11], none⟩,
     ⟨(some 42), .iaddrS 3, [.t 40, .t 41], none⟩,
     ⟨(some 43), .load 3 true, [.t 42], none⟩,
     ⟨(some 44), .call 105, [.t 37, .t 39, .t 43], none⟩,
     ⟨(some 12), .mov, [.t 44], none⟩])
   (.seq (.seq (.reg [⟨(some 45), .mov, [.t 12], none⟩,
     ⟨(some 46), .bin .lss, [.t 45, .c (.int .i64 0)], none⟩])
   (.cond (.t 46) (.seq (.reg [⟨(some 47), .build [(.int .i64 0), (.int .i64 0), (.int .i64 0), (.int .i64 0), (.int .i64 0), (.int .i64 0), .nils] [], [], none⟩,
     ⟨none, .store 7, [.t 6, .t 47], none⟩,
     ⟨(some 7), .mov, [.c (.int .i64 102)], none⟩])
   .ret) .skip))
   (.draw [0, 1, 0, 4, 0, 28, 60, 124, 255, 511, 1023] [⟨(some 48), .faddr 6, [.t 9], none⟩,
     ⟨(some 49), .load 1 false, [.t 48], none⟩,
     ⟨(some 50), .faddr 6, [.t 3], none⟩,
     ⟨(some 51), .load 1 false, [.t 50], none⟩,
     ⟨(some 52), .mov, [.t 12], none⟩,
     ⟨(some 53), .iaddrS 1, [.t 51, .t 52], none⟩,
     ⟨(some 54), .load 1 false, [.t 53], none⟩,
     ⟨(some 55), .mkslice 1 3, [.t 54], none⟩,
     ⟨(some 56), .append 1 8 3, [.t 49, .t 55], none⟩,
     ⟨(some 57), .faddr 6, [.t 9], none⟩,
     ⟨none, .store 1, [.t 57, .t 56], none⟩]))))
   (.reg [⟨(some 34), .mov, [.t 11], none⟩,
     ⟨(some 35), .bin .add, [.t 34, .c (.int .i64 1)], none⟩,
     ⟨(some 11), .mov, [.t 35], none⟩]))))))
   (.seq (.reg [⟨(some 58), .load 7 true, [.t 9], none⟩,
     ⟨none, .store 7, [.t 6, .t 58], none⟩,
     ⟨(some 7), .mov, [.c (.int .i64 0)], none⟩])
   .ret)))))))
theorem chk.ref10_Cut : chkF Try.prog 69 = some (59, ir.ref10_Cut, [.cell 6 55, .tmp 7]) := by kernel_rfl

/-- paravane/paravaneref10.Seal -/
abbrev F.ref10_Seal : Nat := 70
def ir.ref10_Seal : IC :=
 (.seq (.reg [⟨(some 1), .box, [.t 0], none⟩,
     ⟨(some 2), .mov, [.c (.int .i64 0)], none⟩,
     ⟨(some 3), .mov, [.c (.int .i64 0)], none⟩])
   (.seq (.seq (.reg [⟨(some 10), .load 7 true, [.t 1], none⟩,
     ⟨(some 11), .call 68, [.t 10], none⟩,
     ⟨(some 4), .mov, [.t 11], none⟩])
   (.seq (.reg [⟨(some 12), .mov, [.t 4], none⟩,
     ⟨(some 13), .bin .neq, [.t 12, .c (.int .i64 0)], none⟩])
   (.cond (.t 13) (.seq (.reg [⟨(some 14), .mov, [.t 4], none⟩,
     ⟨(some 2), .mov, [.c (.int .i64 0)], none⟩,
     ⟨(some 3), .mov, [.t 14], none⟩])
   .ret) .skip)))
   (.seq (.reg [⟨(some 5), .mov, [.c .nils], none⟩])
   (.seq (.seq (.reg [⟨(some 6), .mov, [.c (.int .i64 0)], none⟩])
   (.block 0 (.loop (.seq (.seq (.reg [⟨(some 15), .mov, [.t 6], none⟩,
     ⟨(some 16), .bin .lss, [.t 15, .c (.int .i64 3)], none⟩])
   (.cond (.t 16) .skip (.exit 0)))
   (.seq (.block 1 (.reg [⟨(some 19), .mov, [.t 5], none⟩,
     ⟨(some 20), .mov, [.t 6], none⟩,
     ⟨(some 21), .faddr 0, [.t 1], none⟩,
     ⟨(some 22), .iaddrA 3 1, [.t 21, .t 20], none⟩,
     ⟨(some 23), .load 1 false, [.t 22], none⟩,
     ⟨(some 24), .mkslice 1 3, [.t 23], none⟩,
     ⟨(some 25), .append 1 8 3, [.t 19, .t 24], none⟩,
     ⟨(some 5), .mov, [.t 25], none⟩]))
   (.reg [⟨(some 17), .mov, [.t 6], none⟩,
     ⟨(some 18), .bin .add, [.t 17, .c (.int .i64 1)], none⟩,
     ⟨(some 6), .mov, [.t 18], none⟩]))))))
   (.seq (.seq (.reg [⟨(some 7), .mov, [.c (.int .i64 0)], none⟩])
   (.block 2 (.loop (.seq (.seq (.reg [⟨(some 26), .mov, [.t 7], none⟩,
     ⟨(some 27), .bin .lss, [.t 26, .c (.int .i64 3)], none⟩])
   (.cond (.t 27) .skip (.exit 2)))
   (.seq (.block 3 (.reg [⟨(some 30), .mov, [.t 5], none⟩,
     ⟨(some 31), .mov, [.t 7], none⟩,
     ⟨(some 32), .faddr 3, [.t 1], none⟩,
     ⟨(some 33), .iaddrA 3 1, [.t 32, .t 31], none⟩,
     ⟨(some 34), .load 1 false, [.t 33], none⟩,
     ⟨(some 35), .mkslice 1 3, [.t 34], none⟩,
     ⟨(some 36), .append 1 8 3, [.t 30, .t 35], none⟩,
     ⟨(some 5), .mov, [.t 36], none⟩]))
   (.reg [⟨(some 28), .mov, [.t 7], none⟩,
     ⟨(some 29), .bin .add, [.t 28, .c (.int .i64 1)], none⟩,
     ⟨(some 7), .mov, [.t 29], none⟩]))))))
   (.seq (.reg [⟨(some 37), .mov, [.t 5], none⟩,
     ⟨(some 38), .faddr 6, [.t 1], none⟩,
     ⟨(some 39), .load 1 false, [.t 38], none⟩,
     ⟨(some 40), .append 1 8 3, [.t 37, .t 39], none⟩,
     ⟨(some 5), .mov, [.t 40], none⟩])
   (.seq (.reg [⟨(some 8), .mov, [.c (.int .i64 1)], none⟩])
   (.seq (.seq (.reg [⟨(some 9), .mov, [.c (.int .i64 0)], none⟩])
   (.block 4 (.loop (.seq (.seq (.reg [⟨(some 41), .mov, [.t 9], none⟩,
     ⟨(some 42), .mov, [.t 5], none⟩,
     ⟨(some 43), .len false, [.t 42], none⟩,
     ⟨(some 44), .bin .lss, [.t 41, .t 43], none⟩])
   (.cond (.t 44) .skip (.exit 4)))
   (.seq (.block 5 (.reg [⟨(some 47), .mov, [.t 8], none⟩,
     ⟨(some 48), .bin .mul, [.t 47, .c (.int .i64 48271)], none⟩,
     ⟨(some 49), .mov, [.t 5], none⟩,
     ⟨(some 50), .mov, [.t 9], none⟩,
     ⟨(some 51), .iaddrS 1, [.t 49, .t 50], none⟩,
     ⟨(some 52), .load 1 false, [.t 51], none⟩,
     ⟨(some 53), .bin .add, [.t 48, .t 52], none⟩,
     ⟨(some 54), .bin .add, [.t 53, .c (.int .i64 2199023255552)], none⟩,
     ⟨(some 55), .bin .rem, [.t 54, .c (.int .i64 2147483647)], none⟩,
     ⟨(some 8), .mov, [.t 55], none⟩]))
   (.reg [⟨(some 45), .mov, [.t 9], none⟩,
     ⟨(some 46), .bin .add, [.t 45, .c (.int .i64 1)], none⟩,
     ⟨(some 9), .mov, [.t 46], none⟩]))))))
   (.seq (.reg [⟨(some 56), .mov, [.t 8], none⟩,
     ⟨(some 2), .mov, [.t 56], none⟩,
     ⟨(some 3), .mov, [.c (.int .i64 0)], none⟩])
   .ret)))))))))
theorem chk.ref10_Seal : chkF Try.prog 70 = some (57, ir.ref10_Seal, [.tmp 2, .tmp 3]) := by kernel_rfl

/-- paravane/paravanelaw10.told -/
abbrev F.law10_told : Nat := 71
def ir.law10_told : IC :=
 (.seq (.reg [⟨(some 1), .box, [.t 0], none⟩,
     ⟨(some 2), .mov, [.c .nils], none⟩,
     ⟨(some 3), .mov, [.c .nils], none⟩,
     ⟨(some 4), .mov, [.c (.bool false)], none⟩])
   (.seq (.reg [⟨(some 18), .faddr 3, [.t 1], none⟩,
     ⟨(some 19), .load 1 false, [.t 18], none⟩,
     ⟨(some 20), .call 49, [.t 19, .c (.int .i64 100)], none⟩,
     ⟨(some 5), .mov, [.t 20], none⟩])
   (.seq (.reg [⟨(some 6), .mov, [.c .nils], none⟩,
     ⟨(some 7), .mov, [.c .nils], none⟩])
   (.seq (.seq (.reg [⟨(some 8), .mov, [.c (.int .i64 0)], none⟩])
   (.block 0 (.loop (.seq (.seq (.reg [⟨(some 21), .mov, [.t 8], none⟩,
     ⟨(some 22), .faddr 0, [.t 1], none⟩,
     ⟨(some 23), .load 1 false, [.t 22], none⟩,
     ⟨(some 24), .len false, [.t 23], none⟩,
     ⟨(some 25), .bin .lss, [.t 21, .t 24], none⟩,
     ⟨(some 26), .mov, [.t 25], none⟩,
     ⟨(some 27), .mov, [.t 8], (some (26, true))⟩,
     ⟨(some 28), .bin .lss, [.t 27, .c (.int .i64 8)], (some (26, true))⟩,
     ⟨(some 29), .pick, [.t 26, .t 28, .c (.bool false)], none⟩])
   (.cond (.t 29) .skip (.exit 0)))
   (.seq (.block 1 (.seq (.draw [0, 1, 0, 7, 15, 31, 63, 127, 0, 256, 0, 1792, 3840, 7936, 16255, 32639, 32767, 131071] [⟨(some 32), .faddr 0, [.t 1], none⟩,
     ⟨(some 33), .load 1 false, [.t 32], none⟩,
     ⟨(some 34), .mov, [.t 8], none⟩,
     ⟨(some 35), .iaddrS 2, [.t 33, .t 34], none⟩,
     ⟨(some 36), .iaddrA 2 1, [.t 35, .c (.int .i64 0)], none⟩,
     ⟨(some 37), .load 1 false, [.t 36], none⟩,
     ⟨(some 38), .call 49, [.t 37, .c (.int .i64 41)], none⟩,
     ⟨(some 39), .bin .sub, [.t 38, .c (.int .i64 20)], none⟩,
     ⟨(some 40), .faddr 0, [.t 1], none⟩,
     ⟨(some 41), .load 1 false, [.t 40], none⟩,
     ⟨(some 42), .mov, [.t 8], none⟩,
     ⟨(some 43), .iaddrS 2, [.t 41, .t 42], none⟩,
     ⟨(some 44), .iaddrA 2 1, [.t 43, .c (.int .i64 1)], none⟩,
     ⟨(some 45), .load 1 false, [.t 44], none⟩,
     ⟨(some 46), .call 49, [.t 45, .c (.int .i64 41)], none⟩,
     ⟨(some 47), .bin .sub, [.t 46, .c (.int .i64 20)], none⟩,
     ⟨(some 9), .mov, [.t 39], none⟩,
     ⟨(some 10), .mov, [.t 47], none⟩])
   (.seq (.reg [⟨(some 11), .mov, [.c (.int .i64 0)], none⟩])
   (.seq (.reg [⟨(some 12), .mov, [.c .nils], none⟩])
   (.seq (.seq (.reg [⟨(some 13), .mov, [.c (.int .i64 0)], none⟩])
   (.block 2 (.loop (.seq (.seq (.reg [⟨(some 48), .mov, [.t 13], none⟩,
     ⟨(some 49), .bin .lss, [.t 48, .c (.int .i64 20)], none⟩])
   (.cond (.t 49) .skip (.exit 2)))
   (.seq (.block 3 (.seq (.reg [⟨(some 52), .mov, [.t 11], none⟩,
     ⟨(some 53), .faddr 1, [.t 1], none⟩,
     ⟨(some 54), .load 1 false, [.t 53], none⟩,
     ⟨(some 55), .mov, [.t 8], none⟩,
     ⟨(some 56), .bin .mul, [.c (.int .i64 3), .t 55], none⟩,
     ⟨(some 57), .mov, [.t 13], none⟩,
     ⟨(some 58), .bin .add, [.t 56, .t 57], none⟩,
     ⟨(some 59), .call 56, [.t 54, .t 58], none⟩,
     ⟨(some 60), .mov, [.t 5], none⟩,
     ⟨(some 61), .bin .mul, [.c (.int .i64 2), .t 60], none⟩,
     ⟨(some 62), .bin .add, [.t 61, .c (.int .i64 1)], none⟩,
     ⟨(some 63), .call 49, [.t 59, .t 62], none⟩,
     ⟨(some 64), .mov, [.t 5], none⟩,
     ⟨(some 65), .bin .sub, [.t 63, .t 64], none⟩,
     ⟨(some 66), .bin .add, [.t 52, .t 65], none⟩,
     ⟨(some 11), .mov, [.t 66], none⟩])
   (.reg [⟨(some 67), .mov, [.t 12], none⟩,
     ⟨(some 68), .mov, [.t 11], none⟩,
     ⟨(some 69), .mkslice 1 3, [.t 68], none⟩,
     ⟨(some 70), .append 1 8 3, [.t 67, .t 69], none⟩,
     ⟨(some 12), .mov, [.t 70], none⟩])))
   (.reg [⟨(some 50), .mov, [.t 13], none⟩,
     ⟨(some 51), .bin .add, [.t 50, .c (.int .i64 1)], none⟩,
     ⟨(some 13), .mov, [.t 51], none⟩]))))))
   (.seq (.reg [⟨(some 71), .mov, [.t 12], none⟩,
     ⟨(some 72), .call 50, [.t 71], none⟩,
     ⟨(some 14), .mov, [.t 72], none⟩])
   (.seq (.seq (.reg [⟨(some 15), .mov, [.c (.int .i64 1)], none⟩])
   (.block 4 (.loop (.seq (.seq (.reg [⟨(some 73), .mov, [.t 15], none⟩,
     ⟨(some 74), .mov, [.t 14], none⟩,
     ⟨(some 75), .len false, [.t 74], none⟩,
     ⟨(some 76), .bin .lss, [.t 73, .t 75], none⟩])
   (.cond (.t 76) .skip (.exit 4)))
   (.seq (.block 5 (.seq (.reg [⟨(some 79), .faddr 2, [.t 1], none⟩,
     ⟨(some 80), .load 1 false, [.t 79], none⟩,
     ⟨(some 81), .mov, [.t 8], none⟩,
     ⟨(some 82), .mov, [.t 15], none⟩,
     ⟨(some 83), .bin .add, [.t 81, .t 82], none⟩,
     ⟨(some 84), .call 56, [.t 80, .t 83], none⟩,
     ⟨(some 85), .call 49, [.t 84, .c (.int .i64 2)], none⟩,
     ⟨(some 86), .bin .eql, [.t 85, .c (.int .i64 1)], none⟩])
   (.cond (.t 86) (.reg [⟨(some 87), .mov, [.t 14], none⟩,
     ⟨(some 88), .mov, [.t 15], none⟩,
     ⟨(some 89), .iaddrS 1, [.t 87, .t 88], none⟩,
     ⟨none, .store 1, [.t 89, .c (.int .i64 40000)], none⟩]) .skip)))
   (.reg [⟨(some 77), .mov, [.t 15], none⟩,
     ⟨(some 78), .bin .add, [.t 77, .c (.int .i64 1)], none⟩,
     ⟨(some 15), .mov, [.t 78], none⟩]))))))
   (.seq (.reg [⟨(some 91), .mov, [.t 14], none⟩,
     ⟨(some 92), .mov, [.t 5], none⟩,
     ⟨(some 93), .call 119, [.t 91, .t 92], none⟩,
     ⟨(some 90), .mov, [.t 93], none⟩,
     ⟨(some 94), .extract 0, [.t 90], none⟩,
     ⟨(some 95), .extract 1, [.t 90], none⟩,
     ⟨(some 16), .mov, [.t 94], none⟩,
     ⟨(some 17), .mov, [.t 95], none⟩])
   (.seq (.seq (.reg [⟨(some 96), .mov, [.t 17], none⟩,
     ⟨(some 97), .bin .neq, [.t 96, .c (.int .i64 0)], none⟩,
     ⟨(some 98), .mov, [.t 97], none⟩,
     ⟨(some 99), .mov, [.t 16], (some (98, false))⟩,
     ⟨(some 100), .len false, [.t 99], (some (98, false))⟩,
     ⟨(some 101), .mov, [.t 12], (some (98, false))⟩,
     ⟨(some 102), .len false, [.t 101], (some (98, false))⟩,
     ⟨(some 103), .bin .neq, [.t 100, .t 102], (some (98, false))⟩,
     ⟨(some 104), .pick, [.t 98, .c (.bool true), .t 103], none⟩])
   (.cond (.t 104) (.seq (.reg [⟨(some 2), .mov, [.c .nils], none⟩,
     ⟨(some 3), .mov, [.c .nils], none⟩,
     ⟨(some 4), .mov, [.c (.bool false)], none⟩])
   .ret) .skip))
   (.reg [⟨(some 105), .mov, [.t 6], none⟩,
     ⟨(some 106), .mov, [.t 9], none⟩,
     ⟨(some 107), .mov, [.t 10], none⟩,
     ⟨(some 108), .mov, [.t 16], none⟩,
     ⟨(some 109), .build [(.int .i64 0), (.int .i64 0), .nils] [(0, 1), (1, 1), (2, 1)], [.t 106, .t 107, .t 108], none⟩,
     ⟨(some 110), .mkslice 3 79, [.t 109], none⟩,
     ⟨(some 111), .append 3 40 79, [.t 105, .t 110], none⟩,
     ⟨(some 112), .mov, [.t 7], none⟩,
     ⟨(some 113), .mov, [.t 9], none⟩,
     ⟨(some 114), .mov, [.t 10], none⟩,
     ⟨(some 115), .mov, [.t 12], none⟩,
     ⟨(some 116), .call 118, [.t 115], none⟩,
     ⟨(some 117), .build [(.int .i64 0), (.int .i64 0), .nils] [(0, 1), (1, 1), (2, 1)], [.t 113, .t 114, .t 116], none⟩,
     ⟨(some 118), .mkslice 3 79, [.t 117], none⟩,
     ⟨(some 119), .append 3 40 79, [.t 112, .t 118], none⟩,
     ⟨(some 6), .mov, [.t 111], none⟩,
     ⟨(some 7), .mov, [.t 119], none⟩]))))))))))
   (.reg [⟨(some 30), .mov, [.t 8], none⟩,
     ⟨(some 31), .bin .add, [.t 30, .c (.int .i64 1)], none⟩,
     ⟨(some 8), .mov, [.t 31], none⟩]))))))
   (.seq (.reg [⟨(some 120), .mov, [.t 6], none⟩,
     ⟨(some 121), .mov, [.t 7], none⟩,
     ⟨(some 2), .mov, [.t 120], none⟩,
     ⟨(some 3), .mov, [.t 121], none⟩,
     ⟨(some 4), .mov, [.c (.bool true)], none⟩])
   .ret)))))
theorem chk.law10_told : chkF Try.prog 71 = some (122, ir.law10_told, [.tmp 2, .tmp 3, .tmp 4]) := by kernel_rfl

/-- paravane/paravaneref10.index -/
abbrev F.ref10_index : Nat := 105
def ir.ref10_index : IC :=
 (.seq (.reg [⟨(some 3), .box, [.t 0], none⟩,
     ⟨(some 4), .box, [.t 1], none⟩,
     ⟨(some 5), .box, [.t 2], none⟩,
     ⟨(some 6), .mov, [.c (.int .i64 0)], none⟩])
   (.seq (.reg [⟨(some 7), .mov, [.c (.int .i64 0)], none⟩])
   (.seq (.seq (.reg [⟨(some 8), .mov, [.c (.int .i64 0)], none⟩])
   (.block 0 (.loop (.seq (.seq (.reg [⟨(some 9), .mov, [.t 8], none⟩,
     ⟨(some 10), .bin .lss, [.t 9, .c (.int .i64 3)], none⟩])
   (.cond (.t 10) .skip (.exit 0)))
   (.seq (.block 1 (.seq (.seq (.draw [0, 1, 3, 0, 8, 24, 63, 0, 128, 384, 896, 2047, 4095] [⟨(some 13), .mov, [.t 8], none⟩,
     ⟨(some 14), .iaddrA 3 1, [.t 5, .t 13], none⟩,
     ⟨(some 15), .load 1 false, [.t 14], none⟩,
     ⟨(some 16), .mov, [.t 8], none⟩,
     ⟨(some 17), .iaddrA 3 1, [.t 3, .t 16], none⟩,
     ⟨(some 18), .load 1 false, [.t 17], none⟩,
     ⟨(some 19), .bin .sub, [.t 15, .t 18], none⟩,
     ⟨(some 20), .mov, [.t 8], none⟩,
     ⟨(some 21), .iaddrA 3 1, [.t 4, .t 20], none⟩,
     ⟨(some 22), .load 1 false, [.t 21], none⟩,
     ⟨(some 23), .bin .sub, [.t 22, .c (.int .i64 1)], none⟩,
     ⟨(some 24), .call 51, [.t 19, .c (.int .i64 0), .t 23], none⟩,
     ⟨(some 25), .un .not, [.t 24], none⟩])
   (.cond (.t 25) (.seq (.reg [⟨(some 6), .mov, [.c (.int .i64 (-1))], none⟩])
   .ret) .skip))
   (.draw [0, 1, 3, 0, 15, 0, 32, 96, 255, 0, 512, 1536, 4095, 8191] [⟨(some 26), .mov, [.t 8], none⟩,
     ⟨(some 27), .iaddrA 3 1, [.t 4, .t 26], none⟩,
     ⟨(some 28), .load 1 false, [.t 27], none⟩,
     ⟨(some 29), .mov, [.t 7], none⟩,
     ⟨(some 30), .bin .mul, [.t 28, .t 29], none⟩,
     ⟨(some 31), .mov, [.t 8], none⟩,
     ⟨(some 32), .iaddrA 3 1, [.t 5, .t 31], none⟩,
     ⟨(some 33), .load 1 false, [.t 32], none⟩,
     ⟨(some 34), .bin .add, [.t 30, .t 33], none⟩,
     ⟨(some 35), .mov, [.t 8], none⟩,
     ⟨(some 36), .iaddrA 3 1, [.t 3, .t 35], none⟩,
     ⟨(some 37), .load 1 false, [.t 36], none⟩,
     ⟨(some 38), .bin .sub, [.t 34, .t 37], none⟩,
     ⟨(some 7), .mov, [.t 38], none⟩])))
   (.reg [⟨(some 11), .mov, [.t 8], none⟩,
     ⟨(some 12), .bin .add, [.t 11, .c (.int .i64 1)], none⟩,
     ⟨(some 8), .mov, [.t 12], none⟩]))))))
   (.seq (.reg [⟨(some 39), .mov, [.t 7], none⟩,
     ⟨(some 6), .mov, [.t 39], none⟩])
   .ret))))
theorem chk.ref10_index : chkF Try.prog 105 = some (40, ir.ref10_index, [.tmp 6]) := by kernel_rfl

/-- slices.Equal[[]paravane/api.Ref,paravane/api.Ref] -/
abbrev F.slices_Equal_api_Ref_api_Ref : Nat := 117
def ir.slices_Equal_api_Ref_api_Ref : IC :=
 (.seq (.reg [⟨(some 4), .mov, [.c (.bool false)], none⟩])
   (.seq (.seq (.reg [⟨(some 6), .mov, [.t 0], none⟩,
     ⟨(some 7), .len false, [.t 6], none⟩,
     ⟨(some 8), .mov, [.t 1], none⟩,
     ⟨(some 9), .len false, [.t 8], none⟩,
     ⟨(some 10), .bin .neq, [.t 7, .t 9], none⟩])
   (.cond (.t 10) (.seq (.reg [⟨(some 4), .mov, [.c (.bool false)], none⟩])
   .ret) .skip))
   (.seq (.seq (.reg [⟨(some 11), .mov, [.t 0], none⟩,
     ⟨(some 12), .len false, [.t 11], none⟩,
     ⟨(some 13), .mov, [.c (.int .i64 0)], none⟩])
   (.block 0 (.loop (.seq (.reg [⟨(some 14), .bin .lss, [.t 13, .t 12], none⟩])
   (.seq (.cond (.t 14) .skip (.exit 0))
   (.seq (.block 1 (.seq (.reg [⟨(some 15), .mov, [.t 13], none⟩,
     ⟨(some 5), .mov, [.t 15], none⟩])
   (.seq (.draw [0, 0, 3, 7, 0, 0, 48, 112, 255] [⟨(some 16), .mov, [.t 0], none⟩,
     ⟨(some 17), .mov, [.t 5], none⟩,
     ⟨(some 18), .iaddrS 2, [.t 16, .t 17], none⟩,
     ⟨(some 19), .load 2 true, [.t 18], none⟩,
     ⟨(some 20), .mov, [.t 1], none⟩,
     ⟨(some 21), .mov, [.t 5], none⟩,
     ⟨(some 22), .iaddrS 2, [.t 20, .t 21], none⟩,
     ⟨(some 23), .load 2 true, [.t 22], none⟩,
     ⟨(some 24), .eqs true [0, 0], [.t 19, .t 23], none⟩])
   (.cond (.t 24) (.seq (.reg [⟨(some 4), .mov, [.c (.bool false)], none⟩])
   .ret) .skip))))
   (.reg [⟨(some 25), .bin .add, [.t 13, .c (.int .i64 1)], none⟩,
     ⟨(some 13), .mov, [.t 25], none⟩])))))))
   (.seq (.reg [⟨(some 4), .mov, [.c (.bool true)], none⟩])
   .ret))))
theorem chk.slices_Equal_api_Ref_api_Ref : chkF Try.prog 117 = some (26, ir.slices_Equal_api_Ref_api_Ref, [.tmp 4]) := by kernel_rfl

/-- paravane/tape.Fill -/
abbrev F.tape_Fill : Nat := 119
def ir.tape_Fill : IC :=
 (.seq (.reg [⟨(some 4), .mov, [.c .nils], none⟩,
     ⟨(some 5), .mov, [.c (.int .i64 0)], none⟩])
   (.seq (.seq (.reg [⟨(some 14), .mov, [.t 0], none⟩,
     ⟨(some 15), .build [(.int .i64 0), (.int .i64 0), .nils] [(2, 1)], [.t 14], none⟩,
     ⟨(some 16), .call 140, [.t 15], none⟩,
     ⟨(some 17), .bin .neq, [.t 16, .c (.int .i64 0)], none⟩])
   (.cond (.t 17) (.seq (.reg [⟨(some 4), .mov, [.c .nils], none⟩,
     ⟨(some 5), .mov, [.c (.int .i64 80)], none⟩])
   .ret) .skip))
   (.seq (.seq (.reg [⟨(some 18), .mov, [.t 1], none⟩,
     ⟨(some 19), .call 141, [.t 18, .c (.int .i64 0), .c (.int .i64 65535)], none⟩,
     ⟨(some 20), .un .not, [.t 19], none⟩])
   (.cond (.t 20) (.seq (.reg [⟨(some 4), .mov, [.c .nils], none⟩,
     ⟨(some 5), .mov, [.c (.int .i64 7)], none⟩])
   .ret) .skip))
   (.seq (.seq (.reg [⟨(some 21), .mov, [.t 0], none⟩,
     ⟨(some 22), .call 129, [.t 21, .c (.func (.func 142) [] [])], none⟩,
     ⟨(some 23), .un .not, [.t 22], none⟩])
   (.cond (.t 23) (.seq (.reg [⟨(some 4), .mov, [.c .nils], none⟩,
     ⟨(some 5), .mov, [.c (.int .i64 4)], none⟩])
   .ret) .skip))
   (.seq (.reg [⟨(some 6), .mov, [.c .nils], none⟩])
   (.seq (.seq (.reg [⟨(some 24), .mov, [.t 0], none⟩,
     ⟨(some 25), .len false, [.t 24], none⟩,
     ⟨(some 26), .mov, [.c (.int .i64 0)], none⟩])
   (.block 0 (.loop (.seq (.reg [⟨(some 27), .bin .lss, [.t 26, .t 25], none⟩])
   (.seq (.cond (.t 27) .skip (.exit 0))
   (.seq (.block 1 (.seq (.reg [⟨(some 28), .mov, [.t 26], none⟩,
     ⟨(some 7), .mov, [.t 28], none⟩])
   (.seq (.reg [⟨(some 29), .build [(.int .i64 0), (.int .i64 0)] [(0, 1), (1, 1)], [.c (.int .i64 (-32767)), .c (.int .i64 32767)], none⟩,
     ⟨(some 8), .alloc [(.int .i64 0), (.int .i64 0)], [], none⟩,
     ⟨none, .store 2, [.t 8, .t 29], none⟩])
   (.seq (.seq (.reg [⟨(some 30), .mov, [.t 0], none⟩,
     ⟨(some 31), .len false, [.t 30], none⟩,
     ⟨(some 32), .mov, [.c (.int .i64 0)], none⟩])
   (.block 2 (.loop (.seq (.reg [⟨(some 33), .bin .lss, [.t 32, .t 31], none⟩])
   (.seq (.cond (.t 33) .skip (.exit 2))
   (.seq (.block 3 (.seq (.reg [⟨(some 34), .mov, [.t 32], none⟩,
     ⟨(some 35), .iaddrS 1, [.t 30, .t 32], none⟩,
     ⟨(some 36), .load 1 false, [.t 35], none⟩,
     ⟨(some 9), .mov, [.t 34], none⟩,
     ⟨(some 10), .mov, [.t 36], none⟩])
   (.seq (.reg [⟨(some 37), .mov, [.t 10], none⟩,
     ⟨(some 38), .call 142, [.t 37], none⟩])
   (.cond (.t 38) (.seq (.reg [⟨(some 39), .mov, [.t 1], none⟩,
     ⟨(some 40), .mov, [.t 7], none⟩,
     ⟨(some 41), .mov, [.t 9], none⟩,
     ⟨(some 42), .bin .sub, [.t 40, .t 41], none⟩,
     ⟨(some 43), .mov, [.t 9], none⟩,
     ⟨(some 44), .mov, [.t 7], none⟩,
     ⟨(some 45), .bin .sub, [.t 43, .t 44], none⟩,
     ⟨(some 46), .minmax true, [.t 42, .t 45], none⟩,
     ⟨(some 47), .bin .mul, [.t 39, .t 46], none⟩,
     ⟨(some 11), .mov, [.t 47], none⟩])
   (.reg [⟨(some 48), .faddr 0, [.t 8], none⟩,
     ⟨(some 49), .load 1 false, [.t 48], none⟩,
     ⟨(some 50), .mov, [.t 10], none⟩,
     ⟨(some 51), .mov, [.t 11], none⟩,
     ⟨(some 52), .bin .sub, [.t 50, .t 51], none⟩,
     ⟨(some 53), .minmax true, [.t 49, .t 52], none⟩,
     ⟨(some 54), .faddr 1, [.t 8], none⟩,
     ⟨(some 55), .load 1 false, [.t 54], none⟩,
     ⟨(some 56), .mov, [.t 10], none⟩,
     ⟨(some 57), .mov, [.t 11], none⟩,
     ⟨(some 58), .bin .add, [.t 56, .t 57], none⟩,
     ⟨(some 59), .minmax false, [.t 55, .t 58], none⟩,
     ⟨(some 60), .build [(.int .i64 0), (.int .i64 0)] [(0, 1), (1, 1)], [.t 53, .t 59], none⟩,
     ⟨none, .store 2, [.t 8, .t 60], none⟩])) .skip))))
   (.reg [⟨(some 61), .bin .add, [.t 32, .c (.int .i64 1)], none⟩,
     ⟨(some 32), .mov, [.t 61], none⟩])))))))
   (.reg [⟨(some 62), .mov, [.t 6], none⟩,
     ⟨(some 63), .load 2 true, [.t 8], none⟩,
     ⟨(some 64), .mkslice 2 33, [.t 63], none⟩,
     ⟨(some 65), .append 2 16 33, [.t 62, .t 64], none⟩,
     ⟨(some 6), .mov, [.t 65], none⟩])))))
   (.reg [⟨(some 66), .bin .add, [.t 26, .c (.int .i64 1)], none⟩,
     ⟨(some 26), .mov, [.t 66], none⟩])))))))
   (.seq (.seq (.reg [⟨(some 67), .mov, [.t 0], none⟩,
     ⟨(some 68), .len false, [.t 67], none⟩,
     ⟨(some 69), .mov, [.c (.int .i64 0)], none⟩])
   (.block 4 (.loop (.seq (.reg [⟨(some 70), .bin .lss, [.t 69, .t 68], none⟩])
   (.seq (.cond (.t 70) .skip (.exit 4))
   (.seq (.block 5 (.seq (.reg [⟨(some 71), .mov, [.t 69], none⟩,
     ⟨(some 72), .iaddrS 1, [.t 67, .t 69], none⟩,
     ⟨(some 73), .load 1 false, [.t 72], none⟩,
     ⟨(some 12), .mov, [.t 71], none⟩,
     ⟨(some 13), .mov, [.t 73], none⟩])
   (.seq (.reg [⟨(some 74), .mov, [.t 13], none⟩,
     ⟨(some 75), .call 142, [.t 74], none⟩,
     ⟨(some 76), .mov, [.t 75], none⟩,
     ⟨(some 77), .mov, [.t 6], (some (76, true))⟩,
     ⟨(some 78), .mov, [.t 12], (some (76, true))⟩,
     ⟨(some 79), .iaddrS 2, [.t 77, .t 78], (some (76, true))⟩,
     ⟨(some 80), .load 2 true, [.t 79], (some (76, true))⟩,
     ⟨(some 81), .mov, [.t 13], (some (76, true))⟩,
     ⟨(some 82), .mov, [.t 13], (some (76, true))⟩,
     ⟨(some 83), .build [(.int .i64 0), (.int .i64 0)] [(0, 1), (1, 1)], [.t 81, .t 82], (some (76, true))⟩,
     ⟨(some 84), .eqs true [0, 0], [.t 80, .t 83], (some (76, true))⟩,
     ⟨(some 85), .pick, [.t 76, .t 84, .c (.bool false)], none⟩])
   (.cond (.t 85) (.seq (.reg [⟨(some 4), .mov, [.c .nils], none⟩,
     ⟨(some 5), .mov, [.c (.int .i64 83)], none⟩])
   .ret) .skip))))
   (.reg [⟨(some 86), .bin .add, [.t 69, .c (.int .i64 1)], none⟩,
     ⟨(some 69), .mov, [.t 86], none⟩])))))))
   (.seq (.reg [⟨(some 87), .mov, [.t 6], none⟩,
     ⟨(some 4), .mov, [.t 87], none⟩,
     ⟨(some 5), .mov, [.c (.int .i64 0)], none⟩])
   .ret))))))))
theorem chk.tape_Fill : chkF Try.prog 119 = some (88, ir.tape_Fill, [.tmp 4, .tmp 5]) := by kernel_rfl

/-- paravane/tape.CheckFrame -/
abbrev F.tape_CheckFrame : Nat := 140
def ir.tape_CheckFrame : IC :=
 (.seq (.reg [⟨(some 1), .box, [.t 0], none⟩,
     ⟨(some 2), .mov, [.c (.int .i64 0)], none⟩])
   (.seq (.seq (.reg [⟨(some 3), .faddr 0, [.t 1], none⟩,
     ⟨(some 4), .load 1 false, [.t 3], none⟩,
     ⟨(some 5), .call 141, [.t 4, .c (.int .i64 0), .c (.int .i64 60000)], none⟩,
     ⟨(some 6), .un .not, [.t 5], none⟩,
     ⟨(some 7), .mov, [.t 6], none⟩,
     ⟨(some 8), .faddr 1, [.t 1], (some (7, false))⟩,
     ⟨(some 9), .load 1 false, [.t 8], (some (7, false))⟩,
     ⟨(some 10), .call 141, [.t 9, .c (.int .i64 0), .c (.int .i64 23)], (some (7, false))⟩,
     ⟨(some 11), .un .not, [.t 10], (some (7, false))⟩,
     ⟨(some 12), .pick, [.t 7, .c (.bool true), .t 11], none⟩,
     ⟨(some 13), .mov, [.t 12], none⟩,
     ⟨(some 14), .faddr 2, [.t 1], (some (13, false))⟩,
     ⟨(some 15), .load 1 false, [.t 14], (some (13, false))⟩,
     ⟨(some 16), .len false, [.t 15], (some (13, false))⟩,
     ⟨(some 17), .call 141, [.t 16, .c (.int .i64 1), .c (.int .i64 64)], (some (13, false))⟩,
     ⟨(some 18), .un .not, [.t 17], (some (13, false))⟩,
     ⟨(some 19), .pick, [.t 13, .c (.bool true), .t 18], none⟩,
     ⟨(some 20), .mov, [.t 19], none⟩,
     ⟨(some 21), .faddr 2, [.t 1], (some (20, false))⟩,
     ⟨(some 22), .load 1 false, [.t 21], (some (20, false))⟩,
     ⟨(some 23), .call 129, [.t 22, .c (.func (.func 148) [] [])], (some (20, false))⟩,
     ⟨(some 24), .pick, [.t 20, .c (.bool true), .t 23], none⟩])
   (.cond (.t 24) (.seq (.reg [⟨(some 2), .mov, [.c (.int .i64 80)], none⟩])
   .ret) .skip))
   (.seq (.reg [⟨(some 2), .mov, [.c (.int .i64 0)], none⟩])
   .ret)))
theorem chk.tape_CheckFrame : chkF Try.prog 140 = some (25, ir.tape_CheckFrame, [.tmp 2]) := by kernel_rfl

/-- paravane/tape.within -/
abbrev F.tape_within : Nat := 141
def ir.tape_within : IC :=
 (.seq (.reg [⟨(some 6), .mov, [.c (.bool false)], none⟩])
   (.seq (.reg [⟨(some 7), .mov, [.t 0], none⟩,
     ⟨(some 8), .mov, [.t 1], none⟩,
     ⟨(some 9), .bin .geq, [.t 7, .t 8], none⟩,
     ⟨(some 10), .mov, [.t 9], none⟩,
     ⟨(some 11), .mov, [.t 0], (some (10, true))⟩,
     ⟨(some 12), .mov, [.t 2], (some (10, true))⟩,
     ⟨(some 13), .bin .leq, [.t 11, .t 12], (some (10, true))⟩,
     ⟨(some 14), .pick, [.t 10, .t 13, .c (.bool false)], none⟩,
     ⟨(some 6), .mov, [.t 14], none⟩])
   .ret))
theorem chk.tape_within : chkF Try.prog 141 = some (15, ir.tape_within, [.tmp 6]) := by kernel_rfl

/-- paravane/tape.known -/
abbrev F.tape_known : Nat := 142
def ir.tape_known : IC :=
 (.seq (.reg [⟨(some 2), .mov, [.c (.bool false)], none⟩])
   (.seq (.reg [⟨(some 3), .mov, [.t 0], none⟩,
     ⟨(some 4), .call 141, [.t 3, .c (.int .i64 (-32767)), .c (.int .i64 32767)], none⟩,
     ⟨(some 2), .mov, [.t 4], none⟩])
   .ret))
theorem chk.tape_known : chkF Try.prog 142 = some (5, ir.tape_known, [.tmp 2]) := by kernel_rfl

/-- paravane/tape.CheckFrame$1 -/
abbrev F.tape_CheckFrame_1 : Nat := 148
def ir.tape_CheckFrame_1 : IC :=
 (.seq (.reg [⟨(some 2), .mov, [.c (.bool false)], none⟩])
   (.seq (.reg [⟨(some 3), .mov, [.t 0], none⟩,
     ⟨(some 4), .call 149, [.t 3], none⟩,
     ⟨(some 5), .un .not, [.t 4], none⟩,
     ⟨(some 2), .mov, [.t 5], none⟩])
   .ret))
theorem chk.tape_CheckFrame_1 : chkF Try.prog 148 = some (6, ir.tape_CheckFrame_1, [.tmp 2]) := by kernel_rfl

/-- paravane/tape.sample -/
abbrev F.tape_sample : Nat := 149
def ir.tape_sample : IC :=
 (.seq (.reg [⟨(some 2), .mov, [.c (.bool false)], none⟩])
   (.seq (.reg [⟨(some 3), .mov, [.t 0], none⟩,
     ⟨(some 4), .call 142, [.t 3], none⟩,
     ⟨(some 5), .mov, [.t 4], none⟩,
     ⟨(some 6), .mov, [.t 0], (some (5, false))⟩,
     ⟨(some 7), .bin .eql, [.t 6, .c (.int .i64 40000)], (some (5, false))⟩,
     ⟨(some 8), .pick, [.t 5, .c (.bool true), .t 7], none⟩,
     ⟨(some 9), .mov, [.t 8], none⟩,
     ⟨(some 10), .mov, [.t 0], (some (9, false))⟩,
     ⟨(some 11), .bin .eql, [.t 10, .c (.int .i64 40001)], (some (9, false))⟩,
     ⟨(some 12), .pick, [.t 9, .c (.bool true), .t 11], none⟩,
     ⟨(some 2), .mov, [.t 12], none⟩])
   .ret))
theorem chk.tape_sample : chkF Try.prog 149 = some (13, ir.tape_sample, [.tmp 2]) := by kernel_rfl

end Go.Proofs.Ytkifejklnpddbaa

/-! Plain facts: the places of a box by their indices; joins both ways; parts of a volume. -/
set_option linter.unusedVariables false
set_option linter.unusedSimpArgs false
set_option maxRecDepth 20000
namespace Go.Proofs.Ytkifejklnpddbaa
open Go.Am

theorem btw_iff (n lo hi : Int) : btw n lo hi = true ↔ lo ≤ n ∧ n ≤ hi := by
  simp only [btw, Bool.and_eq_true, decide_eq_true_eq, ge_iff_le]

def cidx (b : Bx) (p : Int × Int × Int) : Int := idxOf b p.1 p.2.1 p.2.2
def natI (k : Nat) : Int := (k : Int)

theorem idx_at (b : Bx) (x y z B C : Nat) (hB : b.b = (B : Int)) (hC : b.c = (C : Int)) : idxOf b (b.x + (x : Int)) (b.y + (y : Int)) (b.z + (z : Int)) = (((x * B + y) * C + z : Nat) : Int) := by
  unfold idxOf
  rw [hB, hC, show b.x + (x : Int) - b.x = (x : Int) by omega, show (x : Int) * (B : Int) + (b.y + (y : Int)) - b.y = (x : Int) * (B : Int) + (y : Int) by omega]
  push_cast
  omega

theorem zs_idx (b : Bx) (x y B C : Nat) (hB : b.b = (B : Int)) (hC : b.c = (C : Int)) : ∀ n, (zsC b x y n).map (cidx b) = (List.range' ((x * B + y) * C) n).map natI
  | 0 => by simp [zsC]
  | n + 1 => by
    rw [zsC_succ, List.range'_1_concat, List.map_append, List.map_append, zs_idx b x y B C hB hC n]
    congr 1
    simp only [List.map_cons, List.map_nil, cidx, idx_at b x y n B C hB hC, natI]

theorem ys_idx (b : Bx) (x B C : Nat) (hB : b.b = (B : Int)) (hC : b.c = (C : Int)) : ∀ n, (ysC b x n).map (cidx b) = (List.range' (x * B * C) (n * C)).map natI
  | 0 => by simp [ysC]
  | n + 1 => by
    have e0 : b.c.toNat = C := by omega
    have e : List.range' (x * B * C) ((n + 1) * C) = List.range' (x * B * C) (n * C) ++ List.range' ((x * B + n) * C) C := by
      rw [show (x * B + n) * C = x * B * C + n * C by rw [Nat.add_mul], List.range'_append_1, Nat.succ_mul]
    rw [ysC_succ, List.map_append, ys_idx b x B C hB hC n, e0, zs_idx b x n B C hB hC, e, List.map_append]

theorem xs_idx (b : Bx) (B C : Nat) (hB : b.b = (B : Int)) (hC : b.c = (C : Int)) : ∀ n, (xsC b n).map (cidx b) = (List.range' 0 (n * (B * C))).map natI
  | 0 => by simp [xsC]
  | n + 1 => by
    have e0 : b.b.toNat = B := by omega
    have e : List.range' 0 ((n + 1) * (B * C)) = List.range' 0 (n * (B * C)) ++ List.range' (n * B * C) (B * C) := by
      rw [show n * B * C = 0 + n * (B * C) by rw [Nat.zero_add, Nat.mul_assoc], List.range'_append_1, Nat.succ_mul]
    rw [xsC_succ, List.map_append, xs_idx b B C hB hC n, e0, ys_idx b n B C hB hC, e, List.map_append]

theorem cells_idx (b : Bx) (h : 0 ≤ b.b ∧ 0 ≤ b.c) : (boxCells b).map (cidx b) = (List.range (boxCells b).length).map natI := by
  have e := xs_idx b b.b.toNat b.c.toNat (Int.toNat_of_nonneg h.1).symm (Int.toNat_of_nonneg h.2).symm b.a.toNat
  have hl : (boxCells b).length = b.a.toNat * (b.b.toNat * b.c.toNat) := xsC_len b _
  rw [hl, List.range_eq_range']
  exact e

theorem cell_idx {b : Bx} (h : 0 ≤ b.b ∧ 0 ≤ b.c) {i : Nat} (hi : i < (boxCells b).length) : cidx b (boxCells b)[i] = (i : Int) := by
  have e := congrArg (fun l => l[i]?) (cells_idx b h)
  simp only [List.getElem?_map, List.getElem?_eq_getElem hi, Option.map_some] at e
  rw [List.getElem?_range hi] at e
  simpa [natI] using e

theorem mem_box {b : Bx} {p : Int × Int × Int} : p ∈ boxCells b ↔ hasP b p = true := by
  obtain ⟨x, y, z⟩ := p
  simp only [boxCells, xsC, ysC, zsC, List.mem_flatMap, List.mem_map, List.mem_range, hasP, hasB, btw, Bool.and_eq_true, decide_eq_true_eq, Prod.mk.injEq]
  constructor
  · rintro ⟨i, hi, j, hj, k, hk, h1, h2, h3⟩; omega
  · rintro ⟨⟨⟨h1, h2⟩, h3, h4⟩, h5, h6⟩
    exact ⟨(x - b.x).toNat, by omega, (y - b.y).toNat, by omega, (z - b.z).toNat, by omega, by omega, by omega, by omega⟩

theorem vol_cells {v : Vol} (h : volOk v = true) : (boxCells v.b).map (atV v) = v.v := by
  obtain ⟨hb, hl, _⟩ := volOk_spec h
  have hs := small_spec (boxOk_spec hb).1
  have hlen : (boxCells v.b).length = v.v.length := by
    have := boxCells_len' v.b (by omega)
    unfold manyI at hl; omega
  refine List.ext_getElem (by simpa using hlen) fun i h1 h2 => ?_
  have hi : i < (boxCells v.b).length := by simpa using h1
  rw [List.getElem_map]
  exact atV_eq (cell_idx (by omega) hi) h2

theorem atV_made {u : Bx} (h : 0 ≤ u.b ∧ 0 ≤ u.c) {f : Int × Int × Int → Int} {p : Int × Int × Int} (hp : p ∈ boxCells u) : atV ⟨u, (boxCells u).map f⟩ p = f p := by
  obtain ⟨i, hi, rfl⟩ := List.mem_iff_getElem.1 hp
  have e : idxOf u (boxCells u)[i].1 (boxCells u)[i].2.1 (boxCells u)[i].2.2 = (i : Int) := cell_idx h hi
  unfold atV
  rw [e, Int.toNat_natCast, List.getD_eq_getElem?_getD, List.getElem?_map, List.getElem?_eq_getElem hi]
  rfl

/-! ### Joins -/
def joined (a b : Vol) : Vol := ⟨aroundB a.b b.b, (boxCells (aroundB a.b b.b)).map (pickV a b)⟩
structure joinOk (a b : Vol) : Prop where
  oka : volOk a = true
  okb : volOk b = true
  many : manyI (aroundB a.b b.b) = manyI a.b + manyI b.b - commonI a.b b.b
  small : smallB (aroundB a.b b.b) = true
  same : (boxCells (aroundB a.b b.b)).any (clash a b) = false

theorem join_cases (nl : V) (a b : Vol) : (joinOk a b ∧ joinR nl a b = .tuple [.agg (volC (joined a b)), I 0]) ∨ (¬ joinOk a b ∧ ∃ e, e ≠ 0 ∧ joinR nl a b = errVol nl e) := by
  unfold joinR
  by_cases h1 : volOk a = true
  · by_cases h2 : volOk b = true
    · by_cases h3 : manyI (aroundB a.b b.b) = manyI a.b + manyI b.b - commonI a.b b.b
      · by_cases h4 : smallB (aroundB a.b b.b) = true
        · by_cases h5 : (boxCells (aroundB a.b b.b)).any (clash a b) = true
          · exact .inr ⟨fun h => (by rw [h.same] at h5; cases h5), 104, by omega, by rw [if_pos h1, if_pos h2, if_pos h3, if_pos h4, if_pos h5]⟩
          · exact .inl ⟨⟨h1, h2, h3, h4, by simpa using h5⟩, by rw [if_pos h1, if_pos h2, if_pos h3, if_pos h4, if_neg h5]; rfl⟩
        · exact .inr ⟨fun h => h4 h.small, 3, by omega, by rw [if_pos h1, if_pos h2, if_pos h3, if_neg h4]⟩
      · exact .inr ⟨fun h => h3 h.many, 103, by omega, by rw [if_pos h1, if_pos h2, if_neg h3]⟩
    · exact .inr ⟨fun h => h2 h.okb, 101, by omega, by rw [if_pos h1, if_neg h2]⟩
  · exact .inr ⟨fun h => h1 h.oka, 101, by omega, by rw [if_neg h1]⟩

theorem around_comm (a b : Bx) : aroundB a b = aroundB b a := by
  unfold aroundB
  congr 1 <;> omega

theorem cut1_comm (p q x y : Int) : cut1 p q x y = cut1 q p y x := by unfold cut1; omega

theorem common_comm (a b : Bx) : commonI a b = commonI b a := by
  unfold commonI
  rw [cut1_comm (a.x + a.a - 1), cut1_comm (a.y + a.b - 1), cut1_comm (a.z + a.c - 1)]

theorem clash_comm (a b : Vol) (p : Int × Int × Int) : clash a b p = clash b a p := by
  unfold clash
  have e : (atV a p != atV b p) = (atV b p != atV a p) := bne_comm
  rw [Bool.and_comm (hasP a.b p), e]

theorem joinOk.comm {a b : Vol} (h : joinOk a b) : joinOk b a := by
  refine ⟨h.okb, h.oka, ?_, by rw [around_comm]; exact h.small, ?_⟩
  · rw [around_comm, common_comm, h.many]; omega
  · rw [around_comm, ← h.same]
    congr 1
    funext p; exact clash_comm b a p

theorem joinOk.cov {a b : Vol} (h : joinOk a b) : ∀ p ∈ boxCells (aroundB a.b b.b), hasP a.b p = true ∨ hasP b.b p = true := by
  have ga := small_spec (boxOk_spec (volOk_spec h.oka).1).1
  have gb := small_spec (boxOk_spec (volOk_spec h.okb).1).1
  exact cover (by omega) (by omega) h.many

theorem pick_a {a b : Vol} {p : Int × Int × Int} (hp : hasP a.b p = true) : pickV a b p = atV a p := by
  unfold pickV; rw [if_pos hp]

theorem joinOk.pick_b {a b : Vol} (h : joinOk a b) {p : Int × Int × Int} (hu : p ∈ boxCells (aroundB a.b b.b)) (hp : hasP b.b p = true) : pickV a b p = atV b p := by
  unfold pickV
  by_cases ha : hasP a.b p = true
  · rw [if_pos ha]
    have h1 := List.any_eq_false.1 h.same p hu
    simp only [clash, ha, hp, Bool.and_self, Bool.true_and] at h1
    simpa using h1
  · rw [if_neg ha]

theorem joined_comm {a b : Vol} (h : joinOk a b) : joined a b = joined b a := by
  unfold joined
  rw [around_comm b.b a.b]
  congr 1
  refine List.map_congr_left fun p hp => ?_
  rcases h.cov p hp with h1 | h1
  · rw [pick_a h1]
    have := h.comm.pick_b (p := p) (by rw [around_comm]; exact hp) h1
    rw [this]
  · rw [h.pick_b hp h1, pick_a h1]

theorem atV_bd {v : Vol} (h : volOk v = true) (p : Int × Int × Int) : -1099511627776 ≤ atV v p ∧ atV v p ≤ 1099511627776 := by
  obtain ⟨_, _, hv⟩ := volOk_spec h
  unfold atV
  rw [List.getD_eq_getElem?_getD]
  by_cases hi : (idxOf v.b p.1 p.2.1 p.2.2).toNat < v.v.length
  · rw [List.getElem?_eq_getElem hi]; exact hv _ (List.getElem_mem hi)
  · rw [List.getElem?_eq_none (by omega)]; simp

theorem volOk_made {u : Bx} {f : Int × Int × Int → Int} (hu : boxOk u = true) (hf : ∀ p ∈ boxCells u, -1099511627776 ≤ f p ∧ f p ≤ 1099511627776) : volOk ⟨u, (boxCells u).map f⟩ = true := by
  have hs := small_spec (boxOk_spec hu).1
  have hl := boxCells_len' u (by omega)
  simp only [volOk, hu, Bool.true_and, Bool.and_eq_true, decide_eq_true_eq, List.all_eq_true, List.length_map, btw]
  refine ⟨hl, fun n hn => ?_⟩
  obtain ⟨p, hp, rfl⟩ := List.mem_map.1 hn
  exact hf p hp

theorem around_ok {a b : Bx} (ha : boxOk a = true) (hb : boxOk b = true) (hs : smallB (aroundB a b) = true) : boxOk (aroundB a b) = true := by
  have g := small_spec hs
  simp only [boxOk, Bool.and_eq_true, cellOk, btw, decide_eq_true_eq] at ha hb ⊢
  refine ⟨⟨hs, ?_⟩, ?_⟩ <;> simp only [aroundB] <;> omega

theorem joined_ok {a b : Vol} (h : joinOk a b) : volOk (joined a b) = true := by
  refine volOk_made (around_ok (volOk_spec h.oka).1 (volOk_spec h.okb).1 h.small) fun p _ => ?_
  unfold pickV
  split
  · exact atV_bd h.oka p
  · exact atV_bd h.okb p

/-! ### Parts -/
def lastP (b : Bx) : Int × Int × Int := (b.x + b.a - 1, b.y + b.b - 1, b.z + b.c - 1)
def cutOk (v : Vol) (b : Bx) : Bool := boxOk b && hasP v.b (b.x, b.y, b.z) && hasP v.b (lastP b)
def part (v : Vol) (b : Bx) : Vol := ⟨b, (boxCells b).map (atV v)⟩
def cutR (nl : V) (v : Vol) (b : Bx) : V := if volOk v then (if cutOk v b then .tuple [.agg (volC (part v b)), I 0] else errVol nl 102) else errVol nl 101

theorem cut_in {v : Vol} {b : Bx} (h : cutOk v b = true) {p : Int × Int × Int} (hp : p ∈ boxCells b) : p ∈ boxCells v.b := by
  rw [mem_box] at hp ⊢
  have h2 : hasB v.b (b.x + b.a - 1) (b.y + b.b - 1) (b.z + b.c - 1) = true := by simp only [cutOk, Bool.and_eq_true] at h; exact h.2
  have h1 : hasB v.b b.x b.y b.z = true := by simp only [cutOk, Bool.and_eq_true] at h; exact h.1.2
  have hp : hasB b p.1 p.2.1 p.2.2 = true := hp
  show hasB v.b p.1 p.2.1 p.2.2 = true
  simp only [hasB, Bool.and_eq_true, btw, decide_eq_true_eq] at h1 h2 hp ⊢
  omega

theorem cut_a {a b : Vol} (h : joinOk a b) : cutOk (joined a b) a.b = true ∧ part (joined a b) a.b = a := by
  have hba := (volOk_spec h.oka).1
  have g := small_spec (boxOk_spec hba).1
  have gu := small_spec h.small
  have hc : cutOk (joined a b) a.b = true := by
    have e1 : hasB (aroundB a.b b.b) a.b.x a.b.y a.b.z = true := by simp only [hasB, Bool.and_eq_true, btw_iff, aroundB]; omega
    have e2 : hasB (aroundB a.b b.b) (a.b.x + a.b.a - 1) (a.b.y + a.b.b - 1) (a.b.z + a.b.c - 1) = true := by simp only [hasB, Bool.and_eq_true, btw_iff, aroundB]; omega
    unfold cutOk
    rw [hba, Bool.true_and, Bool.and_eq_true]
    exact ⟨e1, e2⟩
  refine ⟨hc, ?_⟩
  unfold part
  have e : (boxCells a.b).map (atV (joined a b)) = a.v := by
    rw [← vol_cells h.oka]
    refine List.map_congr_left fun p hp => ?_
    rw [show atV (joined a b) p = pickV a b p from atV_made (u := aroundB a.b b.b) (f := pickV a b) (by omega) (cut_in hc hp), pick_a (mem_box.1 hp)]
  rw [e]

theorem cut_b {a b : Vol} (h : joinOk a b) : cutOk (joined a b) b.b = true ∧ part (joined a b) b.b = b := by
  rw [joined_comm h]; exact cut_a h.comm

end Go.Proofs.Ytkifejklnpddbaa

/-! What is not known, filled by bounds: plain facts and the contract of Fill. -/
set_option linter.unusedVariables false
set_option linter.unusedSimpArgs false
set_option maxRecDepth 20000
set_option maxHeartbeats 2000000
namespace Go.Proofs.Ytkifejklnpddbaa
open Go.Am
attribute [local simp] cells scalar mkv splice under2 under dem dem1 eB

def knownN (n : Int) : Bool := btw n (-32767) 32767
def awayI (slope : Int) (i k : Nat) : Int := slope * max ((i : Int) - (k : Int)) ((k : Int) - (i : Int))
def fillStep (slope : Int) (i k : Nat) (n : Int) (b : Int × Int) : Int × Int := if knownN n then (max b.1 (n - awayI slope i k), min b.2 (n + awayI slope i k)) else b
def fillG (slope : Int) (i : Nat) : List Int → Nat → Int × Int → Int × Int
  | [], _, b => b
  | n :: r, k, b => fillG slope i r (k + 1) (fillStep slope i k n b)
def fillAt (l : List Int) (slope : Int) (i : Nat) : Int × Int := fillG slope i l 0 (-32767, 32767)
def fillL (l : List Int) (slope : Int) : List (Int × Int) := (List.range l.length).map (fillAt l slope)

/-- What is seen of what is true. -/
structure Seen (t seen : List Int) (slope : Int) : Prop where
  len : seen.length = t.length
  many : 1 ≤ t.length ∧ t.length ≤ 64
  sl : 0 ≤ slope ∧ slope ≤ 65535
  is : ∀ k (h : k < seen.length) (h' : k < t.length), seen[k] = t[k] ∨ seen[k] = 40000
  lip : ∀ i k (h : i < t.length) (h' : k < t.length), t[k] - awayI slope i k ≤ t[i] ∧ t[i] ≤ t[k] + awayI slope i k
  small : ∀ k (h : k < t.length), -32767 ≤ t[k] ∧ t[k] ≤ 32767
  one : knownN (seen.getD 0 40000) = true

theorem away_bd {slope : Int} (h : 0 ≤ slope ∧ slope ≤ 65535) {i k : Nat} (hi : i ≤ 64) (hk : k ≤ 64) : 0 ≤ awayI slope i k ∧ awayI slope i k ≤ 65535 * 64 := by
  unfold awayI
  have h1 : 0 ≤ max ((i : Int) - (k : Int)) ((k : Int) - (i : Int)) ∧ max ((i : Int) - (k : Int)) ((k : Int) - (i : Int)) ≤ 64 := by omega
  exact ⟨Int.mul_nonneg h.1 h1.1, Int.mul_le_mul h.2 h1.2 h1.1 (by omega)⟩

section
variable {t seen : List Int} {slope : Int}

theorem Seen.known (H : Seen t seen slope) {k : Nat} (h : k < seen.length) (h' : k < t.length) (hk : knownN seen[k] = true) : seen[k] = t[k] := by
  rcases H.is k h h' with e | e
  · exact e
  · rw [e] at hk; exact absurd hk (by decide)

/-- Bounds that hold the truth go on holding it. -/
theorem Seen.holds (H : Seen t seen slope) {i : Nat} (hi : i < t.length) : ∀ (d k : Nat), k + d = seen.length → ∀ b : Int × Int, (-32767 ≤ b.1 ∧ b.1 ≤ t[i] ∧ t[i] ≤ b.2 ∧ b.2 ≤ 32767) →
    -32767 ≤ (fillG slope i (seen.drop k) k b).1 ∧ (fillG slope i (seen.drop k) k b).1 ≤ t[i] ∧ t[i] ≤ (fillG slope i (seen.drop k) k b).2 ∧ (fillG slope i (seen.drop k) k b).2 ≤ 32767
  | 0, k, hk, b, hb => by rw [List.drop_eq_nil_of_le (by omega)]; exact hb
  | d + 1, k, hk, b, hb => by
    have hkl : k < seen.length := by omega
    have hkt : k < t.length := by have := H.len; omega
    rw [List.drop_eq_getElem_cons hkl]
    refine Seen.holds H hi d (k + 1) (by omega) _ ?_
    unfold fillStep
    by_cases hn : knownN seen[k] = true
    · rw [if_pos hn, H.known hkl hkt hn]
      have h1 := H.lip i k hi hkt
      have h2 := H.small k hkt
      have h3 := away_bd H.sl (i := i) (k := k) (by have := H.many; omega) (by have := H.many; omega)
      simp only
      omega
    · rw [if_neg hn]; exact hb

theorem fillG_mono (slope : Int) (i : Nat) : ∀ (r : List Int) (k : Nat) (b : Int × Int), b.1 ≤ (fillG slope i r k b).1 ∧ (fillG slope i r k b).2 ≤ b.2
  | [], k, b => ⟨Int.le_refl _, Int.le_refl _⟩
  | n :: r, k, b => by
    have h := fillG_mono slope i r (k + 1) (fillStep slope i k n b)
    have h2 : b.1 ≤ (fillStep slope i k n b).1 ∧ (fillStep slope i k n b).2 ≤ b.2 := by
      unfold fillStep
      split <;> (try simp only) <;> omega
    simp only [fillG]
    omega

theorem fillG_append (slope : Int) (i : Nat) : ∀ (r s : List Int) (k : Nat) (b : Int × Int), fillG slope i (r ++ s) k b = fillG slope i s (k + r.length) (fillG slope i r k b)
  | [], s, k, b => rfl
  | n :: r, s, k, b => by
    simp only [List.cons_append, fillG, List.length_cons]
    rw [fillG_append slope i r s (k + 1), show k + 1 + r.length = k + (r.length + 1) by omega]

theorem Seen.at (H : Seen t seen slope) {i : Nat} (hi : i < t.length) : -32767 ≤ (fillAt seen slope i).1 ∧ (fillAt seen slope i).1 ≤ t[i] ∧ t[i] ≤ (fillAt seen slope i).2 ∧ (fillAt seen slope i).2 ≤ 32767 := by
  have h := H.holds hi seen.length 0 (by omega) (-32767, 32767) (by have := H.small i hi; simp only; omega)
  simpa [fillAt] using h

theorem Seen.own (H : Seen t seen slope) {i : Nat} (hi : i < seen.length) (hk : knownN seen[i] = true) : fillAt seen slope i = (seen[i], seen[i]) := by
  have hit : i < t.length := by have := H.len; omega
  have e := H.known hi hit hk
  have h1 := H.at hit
  have h2 : fillAt seen slope i = fillG slope i (seen.drop (i + 1)) (i + 1) (fillStep slope i i seen[i] (fillG slope i (seen.take i) 0 (-32767, 32767))) := by
    unfold fillAt
    conv => lhs; rw [← List.take_append_drop i seen]
    rw [fillG_append, List.length_take, Nat.zero_add, Nat.min_eq_left (by omega), List.drop_eq_getElem_cons hi]
    rfl
  have h3 := fillG_mono slope i (seen.drop (i + 1)) (i + 1) (fillStep slope i i seen[i] (fillG slope i (seen.take i) 0 (-32767, 32767)))
  rw [← h2] at h3
  have h4 : seen[i] ≤ (fillStep slope i i seen[i] (fillG slope i (seen.take i) 0 (-32767, 32767))).1 ∧ (fillStep slope i i seen[i] (fillG slope i (seen.take i) 0 (-32767, 32767))).2 ≤ seen[i] := by
    unfold fillStep
    rw [if_pos hk]
    have : awayI slope i i = 0 := by unfold awayI; simp
    rw [this]
    simp only
    omega
  rw [← e] at h1
  refine Prod.ext ?_ ?_ <;> simp only <;> omega
end

/-! ### Contracts -/
theorem c_twithin (n lo hi : Int) : C Try.prog F.tape_within [I n, I lo, I hi] (.bool (btw n lo hi)) := by
  refine C_of mixed chk.tape_within (by simp) fun S ok => ?_
  refine Tr.seqR rfl (by simp) (Tr.seqR rfl (by simp) (Tr.retX rfl rfl rfl ?_ trivial))
  unfold btw
  by_cases h1 : n ≥ lo <;> by_cases h2 : n ≤ hi <;> simp [packR, h1, h2]

theorem c_known (n : Int) : C Try.prog F.tape_known [I n] (.bool (knownN n)) := by
  refine C_of mixed chk.tape_known (by simp) fun S ok => ?_
  exact Tr.seqR rfl (by simp) (Tr.seqC rfl (by simp) (Steps.call rfl rfl (c_twithin _ _ _) (Steps.fin rfl (by simp) (Tr.retX rfl rfl rfl rfl trivial))))

theorem c_sample {n : Int} (h : knownN n = true ∨ n = 40000) : C Try.prog F.tape_sample [I n] (.bool true) := by
  refine C_of mixed chk.tape_sample (by simp) fun S ok => ?_
  refine Tr.seqR rfl (by simp) (Tr.seqC rfl (by simp) (Steps.call rfl rfl (c_known n) (Steps.fin rfl (by simp) (Tr.retX rfl rfl rfl ?_ trivial))))
  rcases h with h | h
  · rw [h]; simp [packR]
  · subst h; rfl

theorem c_frame1 {n : Int} (h : knownN n = true ∨ n = 40000) : C Try.prog F.tape_CheckFrame_1 ([I n] ++ []) (.bool (!true)) := by
  refine C_of mixed chk.tape_CheckFrame_1 (by simp) fun S ok => ?_
  exact Tr.seqR rfl (by simp) (Tr.seqC rfl (by simp) (Steps.call rfl rfl (c_sample h) (Steps.fin rfl (by simp) (Tr.retX rfl rfl rfl rfl trivial))))

theorem c_CheckFrame {l : List Int} (hl : 1 ≤ l.length ∧ l.length ≤ 64) (h : ∀ n ∈ l, knownN n = true ∨ n = 40000) : C Try.prog F.tape_CheckFrame [.agg [I 0, I 0, intsV l]] (I 0) := by
  refine C_of mixed chk.tape_CheckFrame (by simp) fun S ok => ?_
  have hlen : C Try.prog F.tape_within [I ((l.map I).length : Int), I 1, I 64] (.bool true) := by
    have h := c_twithin ((l.map I).length : Int) 1 64
    rw [btw_iff _ _ _ |>.2 (by rw [List.length_map]; omega)] at h; exact h
  have hany : C Try.prog F.slices_ContainsFunc_int_int [intsV l, .func (.func F.tape_CheckFrame_1) [] []] (.bool false) := by
    have h1 := c_containsI0 (l := l) (p := fun _ => !true) (f := F.tape_CheckFrame_1) (by omega) (fun b hb => c_frame1 (h b hb))
    have e : (l.any fun _ => !true) = false := by simp
    rw [e] at h1; exact h1
  refine Tr.seqR rfl (by simp [intsV]) (Tr.seq (Tr.seqC rfl (by simp) (Steps.call rfl rfl (c_twithin 0 0 60000) (Steps.run rfl (by simp) ?_))))
  refine Steps.gcall rfl rfl rfl rfl (by simp) (fun _ => c_twithin 0 0 23) (Steps.run rfl (by simp [intsV]) ?_)
  refine Steps.gcall rfl rfl rfl rfl (by simp) (fun _ => hlen) (Steps.run rfl (by simp) ?_)
  refine Steps.gcall rfl rfl rfl rfl (by simp) (fun _ => hany) (Steps.fin rfl (by simp) ?_)
  refine Tr.condF rfl (Tr.skip ?_)
  exact Tr.seqR rfl (by simp) (Tr.retX rfl rfl rfl rfl trivial)

end Go.Proofs.Ytkifejklnpddbaa

/-! Contracts: what is not known, filled by bounds. -/
set_option linter.unusedVariables false
set_option linter.unusedSimpArgs false
set_option maxRecDepth 20000
set_option maxHeartbeats 2000000
namespace Go.Proofs.Ytkifejklnpddbaa
open Go.Am
attribute [local simp] cells scalar mkv splice under2 under dem dem1 eB

theorem fillG_take (slope : Int) (i : Nat) {l : List Int} {k : Nat} (h : k < l.length) (b : Int × Int) : fillG slope i (l.take (k + 1)) 0 b = fillStep slope i k l[k] (fillG slope i (l.take k) 0 b) := by
  rw [List.take_add_one, List.getElem?_eq_getElem h, fillG_append, List.length_take, Nat.zero_add, Nat.min_eq_left (by omega)]
  rfl

theorem c_Fill {t seen : List Int} {slope : Int} (H : Seen t seen slope) : C Try.prog F.tape_Fill [intsV seen, I slope] (.tuple [sB (fillL seen slope), I 0]) := by
  have hlen := H.len
  have hmany := H.many
  have hsl := H.sl
  have hok : ∀ n ∈ seen, knownN n = true ∨ n = 40000 := fun n hn => by
    obtain ⟨k, hk, rfl⟩ := List.mem_iff_getElem.1 hn
    rcases H.is k hk (by omega) with e | e
    · left; rw [e]; exact btw_iff _ _ _ |>.2 (H.small k (by omega))
    · exact .inr e
  have kF := c_CheckFrame (l := seen) (by omega) hok
  have kW : C Try.prog F.tape_within [I slope, I 0, I 65535] (.bool true) := by
    have h := c_twithin slope 0 65535
    rw [btw_iff _ _ _ |>.2 hsl] at h; exact h
  have kC : C Try.prog F.slices_ContainsFunc_int_int [intsV seen, .func (.func F.tape_known) [] []] (.bool true) := by
    have h1 := c_containsI0 (l := seen) (p := knownN) (f := F.tape_known) (by omega) (fun b hb => c_known b)
    have e : seen.any knownN = true := by
      have h0 := H.one
      have hp : 0 < seen.length := by omega
      rw [List.getD_eq_getElem?_getD, List.getElem?_eq_getElem hp] at h0
      exact List.any_eq_true.2 ⟨_, List.getElem_mem hp, h0⟩
    rw [e] at h1; exact h1
  refine C_of mixed chk.tape_Fill (by simp) fun S ok => ?_
  refine Tr.seqR rfl (by simp) ?_
  refine Tr.seq (Tr.seqC rfl (by simp [intsV]) (Steps.call rfl rfl kF (Steps.fin rfl (by simp) (Tr.condF rfl (Tr.skip ?_)))))
  refine Tr.seq (Tr.seqC rfl (by simp) (Steps.call rfl rfl kW (Steps.fin rfl (by simp) (Tr.condF rfl (Tr.skip ?_)))))
  refine Tr.seq (Tr.seqC rfl (by simp [intsV]) (Steps.call rfl rfl kC (Steps.fin rfl (by simp) (Tr.condF rfl (Tr.skip ?_)))))
  refine Tr.seqR rfl (by simp) (Tr.seq (Tr.seqR rfl (by simp [intsV]) (Tr.block ?_)))
  refine Tr.loop (fun i s => i ≤ seen.length ∧ s = { env := [(0, intsV seen), (1, I slope), (6, .slice 66 2 ((List.range i).map fun i => eB (fillAt seen slope i))), (25, I seen.length), (26, I i)], bx := [], rw := [(65, i, 2, 33)], log := [], stp := false }) (fun i => seen.length - i) 0
    (Wk.le (.cons rfl (.refl _) (.cons rfl (.refl _) (.cons rfl (.nil 66 2) (.cons rfl (VLe.i (by simp)) (.cons rfl (.refl _) .nil))))) .nil (.new rfl .nil) rfl rfl) ⟨by omega, rfl⟩ ?_
  rintro i s ⟨hi, rfl⟩
  refine Tr.seqR rfl (by simp) (Tr.seqI rfl (fun h3 => ?_) (fun h3 => ?_))
  · have h3 : i < seen.length := by simpa using h3
    refine Tr.skipT (Tr.seq (Tr.block (Tr.seqR rfl (by simp) (Tr.seqR rfl (by simp) (Tr.seq (Tr.seqR rfl (by simp [intsV]) (Tr.block ?_)))))))
    refine Tr.loop (fun k s => k ≤ seen.length ∧ s = { env := [(0, intsV seen), (1, I slope), (6, .slice 66 2 ((List.range i).map fun i => eB (fillAt seen slope i))), (7, I i), (8, .ptr 8 0), (25, I seen.length), (26, I i), (30, intsV seen), (31, I seen.length), (32, I k)], bx := [(8, ⟨[I (fillG slope i (seen.take k) 0 (-32767, 32767)).1, I (fillG slope i (seen.take k) 0 (-32767, 32767)).2], false⟩)], rw := [(65, i, 2, 33)], log := [], stp := false }) (fun k => seen.length - k) 0
      (Wk.le (.cons rfl (.refl _) (.cons rfl (.refl _) (.cons rfl (.refl _) (.cons rfl (.refl _) (.cons rfl (.refl _) (.cons rfl (.refl _) (.cons rfl (.refl _) (.cons rfl (.refl _) (.cons rfl (VLe.i (by simp)) (.cons rfl (.refl _) .nil)))))))))) (.cons rfl (LLe.refl _) .nil) (.cons rfl .nil) rfl rfl) ⟨by omega, rfl⟩ ?_
    rintro k s ⟨hk, rfl⟩
    refine Tr.seqR rfl (by simp) (Tr.seqI rfl (fun h4 => ?_) (fun h4 => ?_))
    rotate_left
    · have h4 : k = seen.length := by simp at h4; omega
      subst h4
      rw [List.take_length]
      refine Tr.exit (Tr.regR rfl (by simp; omega) (Tr.regR rfl (by simp) ?_))
      refine ⟨i + 1, _, Wk.le (.cons rfl (.refl _) (.cons rfl (.refl _) (.cons rfl (.of_eq ?_) (.cons rfl (.refl _) (.cons rfl (VLe.i (w64 (by omega) (by omega))) .nil))))) .nil (.cons ?_ .nil) rfl rfl, ⟨h3, rfl⟩, by omega⟩
      · rw [List.range_succ, List.map_append]; rfl
      · show some _ = some _
        simp
    have h4 : k < seen.length := by simpa using h4
    have ht := fillG_take slope i h4 (-32767, 32767)
    obtain ⟨B, hB⟩ : ∃ B, fillG slope i (seen.take k) 0 (-32767, 32767) = B := ⟨_, rfl⟩
    rw [hB] at ht ⊢
    obtain ⟨n, hn⟩ : ∃ n, seen[k] = n := ⟨_, rfl⟩
    rw [hn] at ht
    have hnb : (-32767 ≤ n ∧ n ≤ 32767) ∨ n = 40000 := by
      rcases hok n (hn ▸ List.getElem_mem h4) with h | h
      · exact .inl (btw_iff _ _ _ |>.1 h)
      · exact .inr h
    have haw := away_bd hsl (i := i) (k := k) (by omega) (by omega)
    refine Tr.skipT (Tr.seq (Tr.block (Tr.seqN 2 rfl (by simp [intsV]; omega) ?_)))
    rw [getD_map h4, hn]
    refine Steps.fin rfl (by simp) ?_
    refine Tr.seqC rfl (by simp) (Steps.call rfl rfl (c_known n) (Steps.fin rfl (by simp) (Tr.cond rfl rfl (fun h5 => ?_) (fun h5 => Tr.skip ?_))))
    rotate_left
    · unfold fillStep at ht
      rw [if_neg (by rw [h5]; simp)] at ht
      refine Tr.regR rfl (by simp) ?_
      refine ⟨k + 1, _, Wk.le (.cons rfl (.refl _) (.cons rfl (.refl _) (.cons rfl (.refl _) (.cons rfl (.refl _) (.cons rfl (.refl _) (.cons rfl (.refl _) (.cons rfl (.refl _) (.cons rfl (.refl _) (.cons rfl (.refl _) (.cons rfl (VLe.i (w64 (by omega) (by omega))) .nil)))))))))) (.cons rfl (by rw [ht]; exact LLe.refl _) .nil) (.cons rfl .nil) rfl rfl, ⟨h4, rfl⟩, by omega⟩
    unfold fillStep at ht
    rw [if_pos h5] at ht
    have haI : IntKind.i64.wrap (slope * (if IntKind.i64.wrap ((k : Int) - (i : Int)) > IntKind.i64.wrap ((i : Int) - (k : Int)) then IntKind.i64.wrap ((k : Int) - (i : Int)) else IntKind.i64.wrap ((i : Int) - (k : Int)))) = awayI slope i k := by
      rw [w64 (n := (i : Int) - (k : Int)) (by omega) (by omega), w64 (n := (k : Int) - (i : Int)) (by omega) (by omega)]
      rw [ite_max]
      exact w64 (by unfold awayI at haw; omega) (by unfold awayI at haw; omega)
    refine Tr.seqR rfl (by simp) ?_
    refine Tr.weak (s' := { env := [(0, intsV seen), (1, I slope), (6, .slice 66 2 ((List.range i).map fun i => eB (fillAt seen slope i))), (7, I i), (8, .ptr 8 0), (10, I n), (11, I (awayI slope i k)), (25, I seen.length), (26, I i), (30, intsV seen), (31, I seen.length), (32, I k)], bx := [(8, ⟨[I B.1, I B.2], false⟩)], rw := [(65, i, 2, 33)], log := [], stp := false })
      (Wk.le (.cons rfl (.refl _) (.cons rfl (.refl _) (.cons rfl (.refl _) (.cons rfl (.refl _) (.cons rfl (.refl _) (.cons rfl (.refl _) (.cons rfl (VLe.i haI) (.cons rfl (.refl _) (.cons rfl (.refl _) (.cons rfl (.refl _) (.cons rfl (.refl _) (.cons rfl (.refl _) .nil)))))))))))) (.cons rfl (LLe.refl _) .nil) (.cons rfl .nil) rfl rfl) ?_
    refine Tr.regR rfl (by simp) (Tr.regR rfl (by simp) ?_)
    refine ⟨k + 1, _, Wk.le (.cons rfl (.refl _) (.cons rfl (.refl _) (.cons rfl (.refl _) (.cons rfl (.refl _) (.cons rfl (.refl _) (.cons rfl (.refl _) (.cons rfl (.refl _) (.cons rfl (.refl _) (.cons rfl (.refl _) (.cons rfl (VLe.i (w64 (by omega) (by omega))) .nil)))))))))) (.cons rfl (.cons (VLe.i ?_) (.cons (VLe.i ?_) .nil)) .nil) (.cons rfl .nil) rfl rfl, ⟨h4, rfl⟩, by omega⟩
    · rw [ht, w64 (n := n - awayI slope i k) (by omega) (by omega)]
      exact ite_max B.1 (n - awayI slope i k)
    · rw [ht, w64 (n := n + awayI slope i k) (by omega) (by omega)]
      exact ite_min B.2 (n + awayI slope i k)
  have h3 : i = seen.length := by simp at h3; omega
  subst h3
  refine Tr.exit (Tr.seq (Tr.seqR rfl (by simp [intsV]) (Tr.block ?_)))
  have hfl : (fillL seen slope).length = seen.length := by simp [fillL]
  have efl : ((List.range seen.length).map fun i => eB (fillAt seen slope i)) = (fillL seen slope).map eB := by unfold fillL; rw [List.map_map]; rfl
  rw [efl]
  refine Tr.loop (fun i s => i ≤ seen.length ∧ s = { env := [(6, sB (fillL seen slope)), (67, intsV seen), (68, I seen.length), (69, I i)], bx := [], rw := [], log := [], stp := false }) (fun i => seen.length - i) 0
    (Wk.le (.cons rfl (.dem _ _ _) (.cons rfl (.refl _) (.cons rfl (VLe.i (by simp)) (.cons rfl (.refl _) .nil)))) .nil .nil rfl rfl) ⟨by omega, rfl⟩ ?_
  rintro i s ⟨hi, rfl⟩
  refine Tr.seqR rfl (by simp) (Tr.seqI rfl (fun h3 => ?_) (fun h3 => ?_))
  rotate_left
  · exact Tr.exit (Tr.seqR rfl (by simp) (Tr.retX rfl rfl rfl rfl trivial))
  have h3 : i < seen.length := by simpa using h3
  have h3f : i < (fillL seen slope).length := by omega
  have e : (fillL seen slope)[i] = fillAt seen slope i := by simp [fillL]
  refine Tr.skipT (Tr.seq (Tr.block (Tr.seqN 2 rfl (by simp [intsV]; omega) ?_)))
  rw [getD_map h3]
  refine Steps.fin rfl (by simp) ?_
  refine Tr.seqC rfl (by simp) (Steps.call rfl rfl (c_known seen[i]) (Steps.runN 4 rfl (by simp [sB]; first | omega | exact fun e => ⟨by omega, e⟩ | exact fun e => by omega | trace_state) ?_))
  rw [getD_map h3f, e]
  refine Steps.fin rfl (by simp) (Tr.cond rfl rfl (fun h => ?_) (fun _ => Tr.skip ?_))
  · exfalso
    by_cases hk : knownN seen[i] = true
    · rw [H.own h3 hk] at h
      revert h; simp
    · revert h; simp [hk]
  refine Tr.regR rfl (by simp) ?_
  exact ⟨i + 1, _, Wk.le (.cons rfl (.refl _) (.cons rfl (.refl _) (.cons rfl (.refl _) (.cons rfl (VLe.i (w64 (by omega) (by omega))) .nil)))) .nil .nil rfl rfl, ⟨h3, rfl⟩, by omega⟩

end Go.Proofs.Ytkifejklnpddbaa

/-! Contracts: a part of a volume; volumes that are checked. -/
set_option linter.unusedVariables false
set_option linter.unusedSimpArgs false
set_option maxRecDepth 20000
set_option maxHeartbeats 2000000
namespace Go.Proofs.Ytkifejklnpddbaa
open Go.Am
attribute [local simp] cells scalar mkv splice under2 under dem dem1 boxC cellC

theorem c_Cut (v : Vol) (b : Bx) (hl : v.v.length ≤ 9223372036854775807) : C Try.prog F.volume_Cut [.agg (volC v), .agg (cellC b.x b.y b.z), .agg (cellC b.a b.b b.c)] (cutR .nils v b) := by
  refine C_of mixed chk.volume_Cut (by simp) fun S ok => ?_
  refine Tr.seqR rfl (by simp [volC, intsV]) ?_
  by_cases hV : volOk v = true
  rotate_left
  · have hV : volOk v = false := by simpa using hV
    have hr : blockR v = .tuple [.agg [I 0, I 0, I 0, I 0, I 0, I 0, .nils], I 101] := by simp [blockR, hV]
    refine Tr.seqC rfl (by simp [volC]) (Steps.call rfl rfl (hr ▸ c_blockOf v hl) (Steps.fin rfl (by simp) ?_))
    refine Tr.seq (Tr.seqR rfl (by simp) (Tr.condT rfl (Tr.seqR rfl (by simp) (Tr.retX rfl rfl rfl ?_ trivial))))
    simp [packR, cutR, hV, errVol]
  have hr : blockR v = .tuple [.agg (volC v), I 0] := by simp [blockR, hV]
  obtain ⟨hbV, hlV, hvV⟩ := volOk_spec hV
  obtain ⟨hsV, hmV⟩ := boxOk_spec hbV
  refine Tr.seqC rfl (by simp [volC]) (Steps.call rfl rfl (hr ▸ c_blockOf v hl) (Steps.fin rfl (by simp [volC, intsV]) ?_))
  refine Tr.seq (Tr.seqR rfl (by simp) (Tr.condF rfl (Tr.skip ?_)))
  refine Tr.seqR rfl (by simp) ?_
  by_cases hB : boxOk b = true
  rotate_left
  · have hB : boxOk b = false := by simpa using hB
    have hcv : C Try.prog F.volume_box_valid [.agg (boxC b)] (.bool false) := hB ▸ c_boxValid b
    refine Tr.seq (Tr.seq (Tr.drawK (TraceK.run rfl (by simp) (TraceK.call rfl rfl hcv (TraceK.run rfl (by simp [volC]) ?_)))))
    refine TraceK.gcall (gb := false) (r := .bool false) rfl rfl rfl rfl (fun e => (by cases e)) (fun e => (by cases e)) (TraceK.run rfl (by simp [volC]) ?_)
    refine TraceK.gcall (gb := false) (r := .agg [I 0, I 0, I 0]) rfl rfl rfl rfl (fun e => (by cases e)) (fun e => (by cases e)) (TraceK.run rfl (by simp) ?_)
    refine TraceK.gcall (gb := false) (r := .bool false) rfl rfl rfl rfl (fun e => (by cases e)) (fun e => (by cases e)) (TraceK.run rfl (by simp) (.done ⟨by kernel_rfl, by kernel_rfl, ?_⟩))
    refine Tr.condT rfl (Tr.seqR rfl (by simp) (Tr.retX rfl rfl rfl ?_ trivial))
    have : cutOk v b = false := by unfold cutOk; rw [hB]; rfl
    simp [packR, cutR, hV, this, errVol]
  obtain ⟨hsB, hmB⟩ := boxOk_spec hB
  have hcv : C Try.prog F.volume_box_valid [.agg (boxC b)] (.bool true) := hB ▸ c_boxValid b
  refine Tr.seq (Tr.seq (Tr.drawK (TraceK.run rfl (by simp) (TraceK.call rfl rfl hcv (TraceK.run rfl (by simp [volC]) ?_)))))
  refine TraceK.gcall rfl rfl rfl rfl (by simp) (fun _ => c_has v.b b.x b.y b.z hmV) (TraceK.run rfl (by simp [volC]) ?_)
  refine TraceK.gcall rfl rfl rfl rfl (by simp) (fun _ => c_last b hmB) (TraceK.run rfl (by simp) ?_)
  refine TraceK.gcall rfl rfl rfl rfl (by simp) (fun _ => c_has v.b _ _ _ hmV) (TraceK.run rfl (by simp) (.done ⟨by kernel_rfl, by kernel_rfl, ?_⟩))
  have hc : ∀ c : Bool, (bif !hasB v.b b.x b.y b.z then true else !hasB v.b (b.x + b.a - 1) (b.y + b.b - 1) (b.z + b.c - 1)) = c → c = !cutOk v b := by
    rintro c rfl
    unfold cutOk
    rw [hB]
    show _ = !(true && hasB v.b b.x b.y b.z && hasB v.b (b.x + b.a - 1) (b.y + b.b - 1) (b.z + b.c - 1))
    cases hasB v.b b.x b.y b.z <;> cases hasB v.b (b.x + b.a - 1) (b.y + b.b - 1) (b.z + b.c - 1) <;> rfl
  refine Tr.cond rfl rfl (fun h1 => Tr.seqR rfl (by simp) (Tr.retX rfl rfl rfl ?_ trivial)) (fun h1 => Tr.skip ?_)
  · have h2 := not_of (hc true h1)
    have h2 : cutOk v b = false := h2
    simp [packR, cutR, hV, h2, errVol]
  have h2 : cutOk v b = true := not_of (hc false h1)
  have hlen := boxCells_len hsB
  refine Tr.seqR rfl (by simp) ?_
  refine Tr.seq (Tr.seqC rfl (by simp) (Steps.call rfl rfl (c_cells b) (Steps.fin rfl (by simp) (Tr.block ?_))))
  refine Tr.weak (s' := { env := [(49, .func (.func F.volume_box_cells_1) [] [.vptr (boxC b) 0]), (6, .ptr 6 0), (8, .ptr 8 0), (11, .ptr 11 0)], bx := [(6, ⟨[I 0, I 0, I 0, I 0, I 0, I 0, .nils], false⟩), (8, ⟨volC v, false⟩), (11, ⟨[I b.x, I b.y, I b.z, I b.a, I b.b, I b.c, .slice 63 1 []], false⟩)], rw := [(62, 0, 1, 3)], log := [], stp := false })
    (Wk.le (.cons rfl (.refl _) (.cons rfl (.refl _) (.cons rfl (.refl _) (.cons rfl (.refl _) .nil)))) (.cons rfl (LLe.refl _) (.cons rfl (LLe.refl _) (.cons rfl (.cons (.refl _) (.cons (.refl _) (.cons (.refl _) (.cons (.refl _) (.cons (.refl _) (.cons (.refl _) (.cons (.nil 63 1) .nil))))))) .nil))) (.new rfl .nil) rfl rfl) ?_
  refine Tr.range rfl rfl (i_cells b hmB) rfl rfl rfl (by intro x hx; obtain ⟨p, _, rfl⟩ := List.mem_map.1 hx; rfl)
    (fun pre t => ∃ m, m ≤ (boxCells b).length ∧ pre = ((boxCells b).take m).map cellV ∧ t.bx = [(6, ⟨[I 0, I 0, I 0, I 0, I 0, I 0, .nils], false⟩), (8, ⟨volC v, false⟩), (11, ⟨[I b.x, I b.y, I b.z, I b.a, I b.b, I b.c, .slice 63 1 (((boxCells b).take m).map fun p => I (atV v p))], false⟩)] ∧ t.rw = [(62, m, 1, 3)] ∧ t.log = [])
    (fun _ _ => False) ⟨0, by omega, rfl, rfl, rfl, rfl⟩ ?_ ?_ ?_
  · rintro a0 L0 rc0 h0 S1 S2 ok1 ok2 pre q t lp hpre ⟨m, hm, rfl, hbx, hrw, hlog⟩ henv hstp
    obtain ⟨env, bx, rw, log, stp⟩ := t
    simp only at hbx hrw hlog henv hstp
    subst hbx hrw hlog henv hstp
    have hmx : m < (boxCells b).length ∧ ∃ p, (boxCells b)[m]? = some p ∧ q = cellV p := by
      have h1 : (((boxCells b).take m).map cellV).length = m := by simp; omega
      have h2 := hpre.length_le
      simp at h2
      have hml : m < (boxCells b).length := by omega
      refine ⟨hml, _, List.getElem?_eq_getElem hml, ?_⟩
      have h3 := List.IsPrefix.getElem hpre (i := m) (by simp; omega)
      simp only [List.getElem_map] at h3
      rw [List.getElem_append_right (by omega)] at h3
      simpa using h3
    obtain ⟨hml, ⟨x, y, z⟩, hp, rfl⟩ := hmx
    have hin := mem_box.1 (cut_in h2 (List.mem_of_getElem? hp))
    have h5 : hasB v.b x y z = true := hin
    obtain ⟨i0, i1⟩ := idx_range h5
    obtain ⟨k, hk⟩ : ∃ k : Nat, idxOf v.b x y z = (k : Int) := ⟨(idxOf v.b x y z).toNat, by omega⟩
    have hkl : k < v.v.length := by unfold manyI at hlV; omega
    have hpk : atV v (x, y, z) = v.v[k] := atV_eq (p := (x, y, z)) hk hkl
    have htk : (boxCells b).take (m + 1) = (boxCells b).take m ++ [(x, y, z)] := by rw [List.take_add_one, hp]; rfl
    have hci : C Try.prog F.volume_box_index [.agg (boxC v.b), .agg (cellC x y z)] (I (k : Int)) := hk ▸ c_index v.b x y z hmV (has_bd' h5 hbV)
    refine Tr.regR rfl (by simp) (Tr.block (Tr.drawK (TraceK.run rfl (by simp [volC]) (TraceK.call rfl rfl hci (TraceK.runN 1 rfl (by simp [intsV]; omega) ?_)))))
    rw [getD_map hkl]
    refine TraceK.run rfl (by simp; omega) (.done ⟨by kernel_rfl, by kernel_rfl, ?_⟩)
    refine ⟨{ env := [], bx := [(6, ⟨[I 0, I 0, I 0, I 0, I 0, I 0, .nils], false⟩), (8, ⟨volC v, false⟩), (11, ⟨[I b.x, I b.y, I b.z, I b.a, I b.b, I b.c, .slice 63 1 ((((boxCells b).take m).map fun p => I (atV v p)) ++ [I v.v[k]])], false⟩)], rw := [(62, m + 1, 1, 3)], log := [], stp := false }, ?_, ⟨m + 1, by omega, ?_, ?_, rfl, rfl⟩, rfl⟩
    · refine Wk.le .nil (.cons rfl (LLe.refl _) (.cons rfl (LLe.refl _) (.cons rfl (LLe.refl _) .nil))) (.cons ?_ .nil) rfl rfl
      show some _ = some _
      simp; omega
    · rw [htk]; simp
    · rw [htk]; simp [hpk]
  · rintro ⟨env, bx, rw, log, stp⟩ henv hstp ⟨m, hm, hpre, hbx, hrw, hlog⟩
    simp only at hbx hrw hlog henv hstp
    subst hbx hrw hlog henv hstp
    have hml : m = (boxCells b).length := by
      have := congrArg List.length hpre
      simp at this; omega
    subst hml
    refine Tr.seqR rfl (by simp) (Tr.retX rfl rfl rfl ?_ trivial)
    rw [List.take_length]
    simp [packR, cutR, hV, h2, part, volC, intsV]
  · intro e t _ h; exact h.elim

theorem cut_le {v : Vol} {b : Bx} {w : World} {φ : Nat → Nat} {x : Value} (h : RepR w φ (cutR .nils v b) x) : RepR w φ (cutR (intsV []) v b) x := by
  unfold cutR at h ⊢
  split
  · split
    · rename_i h1 h2; rw [if_pos h1, if_pos h2] at h; exact h
    · rename_i h1 h2; rw [if_pos h1, if_neg h2] at h; exact repR_nil (l1 := [I 0, I 0, I 0, I 0, I 0, I 0]) h
  · rename_i h1; rw [if_neg h1] at h; exact repR_nil (l1 := [I 0, I 0, I 0, I 0, I 0, I 0]) h

theorem join_err {a b : Vol} (h : ¬ joinOk a b) : ∃ e : Int, e ≠ 0 ∧ ∀ nl, joinR nl a b = errVol nl e := by
  unfold joinR
  by_cases h1 : volOk a = true
  · by_cases h2 : volOk b = true
    · by_cases h3 : manyI (aroundB a.b b.b) = manyI a.b + manyI b.b - commonI a.b b.b
      · by_cases h4 : smallB (aroundB a.b b.b) = true
        · by_cases h5 : (boxCells (aroundB a.b b.b)).any (clash a b) = true
          · exact ⟨104, by omega, fun nl => by rw [if_pos h1, if_pos h2, if_pos h3, if_pos h4, if_pos h5]⟩
          · exact absurd ⟨h1, h2, h3, h4, by simpa using h5⟩ h
        · exact ⟨3, by omega, fun nl => by rw [if_pos h1, if_pos h2, if_pos h3, if_neg h4]⟩
      · exact ⟨103, by omega, fun nl => by rw [if_pos h1, if_pos h2, if_neg h3]⟩
    · exact ⟨101, by omega, fun nl => by rw [if_pos h1, if_neg h2]⟩
  · exact ⟨101, by omega, fun nl => by rw [if_neg h1]⟩

theorem join_le {a b : Vol} {w : World} {φ : Nat → Nat} {x : Value} (h : RepR w φ (joinR .nils a b) x) : RepR w φ (joinR (intsV []) a b) x := by
  by_cases h0 : joinOk a b
  · rcases join_cases (intsV []) a b with ⟨_, h3⟩ | ⟨h3, _⟩
    · rcases join_cases .nils a b with ⟨_, h4⟩ | ⟨h4, _⟩
      · rw [h4] at h; rw [h3]; exact h
      · exact absurd h0 h4
    · exact absurd h0 h3
  · obtain ⟨e, _, h1⟩ := join_err h0
    rw [h1] at h ⊢
    exact repR_nil (l1 := [I 0, I 0, I 0, I 0, I 0, I 0]) h

end Go.Proofs.Ytkifejklnpddbaa

/-! Contracts: checked volumes and the place of a cell, in the specification. -/
set_option linter.unusedVariables false
set_option linter.unusedSimpArgs false
set_option maxRecDepth 20000
set_option maxHeartbeats 2000000
namespace Go.Proofs.Ytkifejklnpddbaa
open Go.Am
attribute [local simp] cells scalar mkv splice under2 under dem dem1 boxC cellC

def idxR (b : Bx) (x y z : Int) : Int := if hasB b x y z then idxOf b x y z else -1

theorem c_index10 (b : Bx) (x y z : Int) (h : b.mid) (hx : (-2000 ≤ x ∧ x ≤ 2000) ∧ (-2000 ≤ y ∧ y ≤ 2000) ∧ (-2000 ≤ z ∧ z ≤ 2000)) : C Try.prog F.ref10_index [.agg (cellC b.x b.y b.z), .agg (cellC b.a b.b b.c), .agg (cellC x y z)] (I (idxR b x y z)) := by
  obtain ⟨h1, h2, h3, h4, h5, h6⟩ := h
  obtain ⟨k1, k2, k3⟩ := hx
  have f : ∀ {p a s : Int}, (-2000 ≤ p ∧ p ≤ 2000) → (-1000 ≤ a ∧ a ≤ 1000) → (0 ≤ s ∧ s ≤ 1000) → ∀ c : Bool, (!btw (IntKind.i64.wrap (p - a)) 0 (IntKind.i64.wrap (s - 1))) = c → c = !btw p a (a + s - 1) := by
    rintro p a s hp ha hs c rfl
    rw [w64 (by omega) (by omega), w64 (by omega) (by omega)]
    congr 1
    rw [Bool.eq_iff_iff, btw_iff, btw_iff]
    omega
  refine C_of mixed chk.ref10_index (by simp) fun S ok => ?_
  refine Tr.seqR rfl (by simp) (Tr.seqR rfl (by simp) (Tr.seq (Tr.seqR rfl (by simp) (Tr.block ?_))))
  refine Tr.rounds 4 (TrN.succ ?_)
  refine Tr.seq (Tr.seqR rfl (by simp) (Tr.condT rfl (Tr.skip ?_)))
  refine Tr.seq (Tr.block (Tr.seq (Tr.seq (Tr.drawK (TraceK.run rfl (by simp) (TraceK.call rfl rfl (c_between _ _ _) (TraceK.run rfl (by simp) (.done ⟨by kernel_rfl, by kernel_rfl, ?_⟩))))))))
  refine Tr.cond rfl rfl (fun q1 => Tr.seqR rfl (by simp) (Tr.retX rfl rfl rfl ?_ trivial)) (fun q1 => Tr.skip (Tr.drawR rfl (by simp) (by kernel_rfl) (Tr.regR rfl (by simp) (TrN.succ ?_))))
  · have q1 := not_of (f (p := x) (a := b.x) (s := b.a) k1 h1 h4 true q1)
    simp [packR, idxR, hasB, q1]
  have q1 := not_of (f (p := x) (a := b.x) (s := b.a) k1 h1 h4 false q1)
  refine Tr.seq (Tr.seqR rfl (by simp) (Tr.condT rfl (Tr.skip ?_)))
  refine Tr.seq (Tr.block (Tr.seq (Tr.seq (Tr.drawK (TraceK.run rfl (by simp) (TraceK.call rfl rfl (c_between _ _ _) (TraceK.run rfl (by simp) (.done ⟨by kernel_rfl, by kernel_rfl, ?_⟩))))))))
  refine Tr.cond rfl rfl (fun q2 => Tr.seqR rfl (by simp) (Tr.retX rfl rfl rfl ?_ trivial)) (fun q2 => Tr.skip (Tr.drawR rfl (by simp) (by kernel_rfl) (Tr.regR rfl (by simp) (TrN.succ ?_))))
  · have q2 := not_of (f (p := y) (a := b.y) (s := b.b) k2 h2 h5 true q2)
    simp [packR, idxR, hasB, q2]
  have q2 := not_of (f (p := y) (a := b.y) (s := b.b) k2 h2 h5 false q2)
  refine Tr.seq (Tr.seqR rfl (by simp) (Tr.condT rfl (Tr.skip ?_)))
  refine Tr.seq (Tr.block (Tr.seq (Tr.seq (Tr.drawK (TraceK.run rfl (by simp) (TraceK.call rfl rfl (c_between _ _ _) (TraceK.run rfl (by simp) (.done ⟨by kernel_rfl, by kernel_rfl, ?_⟩))))))))
  refine Tr.cond rfl rfl (fun q3 => Tr.seqR rfl (by simp) (Tr.retX rfl rfl rfl ?_ trivial)) (fun q3 => Tr.skip (Tr.drawR rfl (by simp) (by kernel_rfl) (Tr.regR rfl (by simp) (TrN.succ ?_))))
  · have q3 := not_of (f (p := z) (a := b.z) (s := b.c) k3 h3 h6 true q3)
    simp [packR, idxR, hasB, q3]
  have q3 := not_of (f (p := z) (a := b.z) (s := b.c) k3 h3 h6 false q3)
  refine Tr.seq (Tr.seqR rfl (by simp) (Tr.condF rfl (Tr.exit ?_)))
  refine Tr.seqR rfl (by simp) (Tr.retX rfl rfl rfl ?_ trivial)
  have e : hasB b x y z = true := by
    have q1 : btw x b.x (b.x + b.a - 1) = true := q1
    have q2 : btw y b.y (b.y + b.b - 1) = true := q2
    have q3 : btw z b.z (b.z + b.c - 1) = true := q3
    simp [hasB, q1, q2, q3]
  have q1 := btw_iff _ _ _ |>.1 (show btw x b.x (b.x + b.a - 1) = true from q1)
  have q2 := btw_iff _ _ _ |>.1 (show btw y b.y (b.y + b.b - 1) = true from q2)
  have b1 := mul_bd (a := x - b.x) (b := b.b) (A := 3000) (B := 1000) (by omega) (by omega)
  have e1 : b.b * (x - b.x) + y - b.y = (x - b.x) * b.b + y - b.y := by rw [Int.mul_comm]
  have b2 := mul_bd (a := (x - b.x) * b.b + y - b.y) (b := b.c) (A := 3100000) (B := 1000) (by omega) (by omega)
  have e2 : b.c * ((x - b.x) * b.b + y - b.y) + z - b.z = ((x - b.x) * b.b + y - b.y) * b.c + z - b.z := by rw [Int.mul_comm b.c]
  simp only [packR]
  rw [show idxR b x y z = b.c * (b.b * (b.a * 0 + x - b.x) + y - b.y) + z - b.z by unfold idxR idxOf; rw [if_pos e, Int.mul_zero, Int.zero_add, e1, e2]]
  simp only [Int.mul_zero, Int.zero_add]
  rw [e1]
  have w0 : IntKind.i64.wrap (x - b.x) = x - b.x := w64 (by omega) (by omega)
  simp (disch := omega) [w64, e1]

theorem c_CheckVolume10 (v : Vol) (hl : v.v.length ≤ 9223372036854775807) : C Try.prog F.ref10_CheckVolume [.agg (volC v)] (I (if volOk v then 0 else 101)) := by
  refine C_of mixed chk.ref10_CheckVolume (by simp) fun S ok => ?_
  refine Tr.seqR rfl (by simp [volC, intsV]) ?_
  refine Tr.seq (Tr.seqC rfl (by simp [volC]) (Steps.call rfl rfl (c_box10 v.b) (Steps.fin rfl (by simp [volC, intsV]) ?_)))
  have hc : ∀ c : Bool, (bif !boxOk v.b then true else (((v.v.map I).length : Int) != IntKind.i64.wrap (IntKind.i64.wrap (v.b.a * v.b.b) * v.b.c))) = c → c = !(boxOk v.b && decide ((v.v.length : Int) = v.b.a * v.b.b * v.b.c)) := by
    rintro c rfl
    cases hB : boxOk v.b with
    | false => rfl
    | true =>
      have g := small_spec (boxOk_spec hB).1
      have m1 := mul_bd (a := v.b.a) (b := v.b.b) (A := 16) (B := 16) (by omega) (by omega)
      have m2 := mul_bd (a := v.b.a * v.b.b) (b := v.b.c) (A := 256) (B := 16) (by omega) (by omega)
      rw [w64 (n := v.b.a * v.b.b) (by omega) (by omega), w64 (by omega) (by omega), List.length_map]
      by_cases h : (v.v.length : Int) = v.b.a * v.b.b * v.b.c <;> simp [h]
  refine Tr.cond rfl rfl (fun h1 => Tr.seqR rfl (by simp) (Tr.retX rfl rfl rfl ?_ trivial)) (fun h1 => Tr.skip ?_)
  · have h1 := not_of (hc true h1)
    have : volOk v = false := by unfold volOk; rw [h1]; rfl
    simp [packR, this]
  have h1 := not_of (hc false h1)
  refine Tr.seq (Tr.seqR rfl (by simp) (Tr.block ?_))
  refine Tr.loop (fun i s => (i ≤ v.v.length ∧ (v.v.take i).all (fun n => btw n (-1099511627776) 1099511627776) = true) ∧ s = { env := [(1, .ptr 1 0), (3, I i)], bx := [(1, ⟨volC v, false⟩)], rw := [], log := [], stp := false }) (fun i => v.v.length - i) 0
    (Wk.le (.cons rfl (.refl _) (.cons rfl (.refl _) .nil)) (.cons rfl (LLe.refl _) .nil) .nil rfl rfl) ⟨⟨by omega, rfl⟩, rfl⟩ ?_
  rintro i s ⟨⟨hi, hA⟩, rfl⟩
  refine Tr.seq (Tr.seqR rfl (by simp [volC, intsV]) (Tr.cond rfl rfl (fun h3 => Tr.skip ?_) (fun h3 => Tr.exit ?_)))
  rotate_left
  · have h3 : i = v.v.length := by simp at h3; omega
    subst h3
    rw [List.take_length] at hA
    have : volOk v = true := by unfold volOk; rw [h1, hA]; rfl
    refine Tr.seqR rfl (by simp) (Tr.retX rfl rfl rfl ?_ trivial)
    simp [packR, this]
  have h3 : i < v.v.length := by simpa using h3
  refine Tr.seq (Tr.block (Tr.seqN 4 rfl (by simp [volC, intsV]; omega) ?_))
  rw [getD_map h3]
  refine Steps.run rfl (by simp) (Steps.call rfl rfl (c_between _ _ _) (Steps.fin rfl (by simp) (Tr.cond rfl rfl (fun h4 => Tr.seqR rfl (by simp) (Tr.retX rfl rfl rfl ?_ trivial)) (fun h4 => Tr.skip (Tr.regR rfl (by simp) ?_)))))
  · have h4 : btw v.v[i] (-1099511627776) 1099511627776 = false := not_of (c := true) h4.symm
    have : volOk v = false := by
      unfold volOk
      rw [List.all_eq_false.2 ⟨_, List.getElem_mem h3, by simp [h4]⟩, Bool.and_false]
    simp [packR, this]
  · have h4 : btw v.v[i] (-1099511627776) 1099511627776 = true := not_of (c := false) h4.symm
    refine ⟨i + 1, _, Wk.le (.cons rfl (.refl _) (.cons rfl (VLe.i (w64 (by omega) (by omega))) .nil)) (.cons rfl (LLe.refl _) .nil) .nil rfl rfl, ⟨⟨h3, ?_⟩, rfl⟩, by omega⟩
    rw [List.take_add_one, List.getElem?_eq_getElem h3, List.all_append, hA]
    simp [h4]

end Go.Proofs.Ytkifejklnpddbaa

/-! Contracts: the join of two volumes in the specification; the law VolumeJoins. -/
set_option linter.unusedVariables false
set_option linter.unusedSimpArgs false
set_option maxRecDepth 20000
set_option maxHeartbeats 2000000
namespace Go.Proofs.Ytkifejklnpddbaa
open Go.Am
attribute [local simp] cells scalar mkv splice under2 under dem dem1 boxC cellC

theorem any_box {a b : Vol} {u : Bx} (h : ∀ p, hasP b.b p = true → hasP u p = true) : (boxCells u).any (clash a b) = (boxCells b.b).any fun p => hasP a.b p && (atV a p != atV b p) := by
  rw [Bool.eq_iff_iff, List.any_eq_true, List.any_eq_true]
  constructor
  · rintro ⟨p, _, h2⟩
    simp only [clash, Bool.and_eq_true] at h2
    exact ⟨p, mem_box.2 h2.1.2, by rw [h2.1.1, h2.2]; rfl⟩
  · rintro ⟨p, h1, h2⟩
    simp only [Bool.and_eq_true] at h2
    have h1 := mem_box.1 h1
    exact ⟨p, mem_box.2 (h p h1), by simp only [clash, h1, h2.1, h2.2, Bool.and_self]⟩

theorem cell_bd {b : Bx} (hb : boxOk b = true) {p : Int × Int × Int} (hp : p ∈ boxCells b) : (-1000 ≤ p.1 ∧ p.1 ≤ 1000) ∧ (-1000 ≤ p.2.1 ∧ p.2.1 ≤ 1000) ∧ (-1000 ≤ p.2.2 ∧ p.2.2 ≤ 1000) := has_bd' (mem_box.1 hp) hb

theorem cell_at {v : Vol} (h : volOk v = true) {i : Nat} (hi : i < (boxCells v.b).length) (hv : i < v.v.length) : atV v (boxCells v.b)[i] = v.v[i] := by
  have hs := small_spec (boxOk_spec (volOk_spec h).1).1
  exact atV_eq (cell_idx (by omega) hi) hv

theorem c_Join10 (a b : Vol) (hla : a.v.length ≤ 9223372036854775807) (hlb : b.v.length ≤ 9223372036854775807) : C Try.prog F.ref10_Join [.agg (volC a), .agg (volC b)] (joinR .nils a b) := by
  refine C_of mixed chk.ref10_Join (by simp) fun S ok => ?_
  refine Tr.seqR rfl (by simp [volC, intsV]) ?_
  by_cases hA : volOk a = true
  rotate_left
  · have hA : volOk a = false := by simpa using hA
    have hr := c_CheckVolume10 a hla
    rw [hA] at hr
    refine Tr.seq (Tr.seqC rfl (by simp [volC]) (Steps.call rfl rfl hr (Steps.fin rfl (by simp) ?_)))
    refine Tr.seqR rfl (by simp) (Tr.condT rfl (Tr.seqR rfl (by simp) (Tr.retX rfl rfl rfl ?_ trivial)))
    simp [packR, joinR, hA, errVol]
  have hr := c_CheckVolume10 a hla
  rw [hA] at hr
  refine Tr.seq (Tr.seqC rfl (by simp [volC]) (Steps.call rfl rfl hr (Steps.fin rfl (by simp [volC, intsV]) ?_)))
  refine Tr.seqR rfl (by simp) (Tr.condF rfl (Tr.skip ?_))
  by_cases hB : volOk b = true
  rotate_left
  · have hB : volOk b = false := by simpa using hB
    have hr := c_CheckVolume10 b hlb
    rw [hB] at hr
    refine Tr.seq (Tr.seqC rfl (by simp [volC]) (Steps.call rfl rfl hr (Steps.fin rfl (by simp) ?_)))
    refine Tr.seqR rfl (by simp) (Tr.condT rfl (Tr.seqR rfl (by simp) (Tr.retX rfl rfl rfl ?_ trivial)))
    simp [packR, joinR, hA, hB, errVol]
  have hr2 := c_CheckVolume10 b hlb
  rw [hB] at hr2
  refine Tr.seq (Tr.seqC rfl (by simp [volC]) (Steps.call rfl rfl hr2 (Steps.fin rfl (by simp [volC, intsV]) ?_)))
  refine Tr.seqR rfl (by simp) (Tr.condF rfl (Tr.skip ?_))
  obtain ⟨hbA, hlA, hvA⟩ := volOk_spec hA
  obtain ⟨hbB, hlB, hvB⟩ := volOk_spec hB
  obtain ⟨hsA, hmA⟩ := boxOk_spec hbA
  obtain ⟨hsB, hmB⟩ := boxOk_spec hbB
  have gA := small_spec hsA
  have gB := small_spec hsB
  have cA : cellOk a.b.x a.b.y a.b.z = true := by simp only [boxOk, Bool.and_eq_true] at hbA; exact hbA.1.2
  have cB : cellOk b.b.x b.b.y b.b.z = true := by simp only [boxOk, Bool.and_eq_true] at hbB; exact hbB.1.2
  have kA : (-64 ≤ a.b.x ∧ a.b.x ≤ 64) ∧ (-64 ≤ a.b.y ∧ a.b.y ≤ 64) ∧ (-64 ≤ a.b.z ∧ a.b.z ≤ 64) := by
    have := cA
    simp only [Bool.and_eq_true, cellOk, btw_iff] at this; omega
  have kB : (-64 ≤ b.b.x ∧ b.b.x ≤ 64) ∧ (-64 ≤ b.b.y ∧ b.b.y ≤ 64) ∧ (-64 ≤ b.b.z ∧ b.b.z ≤ 64) := by
    have := cB
    simp only [Bool.and_eq_true, cellOk, btw_iff] at this; omega
  obtain ⟨u, hu⟩ : ∃ u, u = aroundB a.b b.b := ⟨_, rfl⟩
  have ux : u.x = min a.b.x b.b.x ∧ u.y = min a.b.y b.b.y ∧ u.z = min a.b.z b.b.z := by rw [hu]; exact ⟨rfl, rfl, rfl⟩
  have ua : u.a = max (a.b.x + a.b.a) (b.b.x + b.b.a) - min a.b.x b.b.x ∧ u.b = max (a.b.y + a.b.b) (b.b.y + b.b.b) - min a.b.y b.b.y ∧ u.c = max (a.b.z + a.b.c) (b.b.z + b.b.c) - min a.b.z b.b.z := by rw [hu]; simp only [aroundB]; omega
  have usz : (0 ≤ u.a ∧ u.a ≤ 200) ∧ (0 ≤ u.b ∧ u.b ≤ 200) ∧ (0 ≤ u.c ∧ u.c ≤ 200) := by omega
  have m1 := mul_bd (a := u.a) (b := u.b) (A := 200) (B := 200) (by omega) (by omega)
  have m2 := mul_bd (a := u.a * u.b) (b := u.c) (A := 40000) (B := 200) (by omega) (by omega)
  refine Tr.seqR rfl (by simp) (Tr.seqR rfl (by simp) (Tr.seq (Tr.seqR rfl (by simp) (Tr.block ?_))))
  refine Tr.rounds 4 (TrN.succ ?_)
  refine Tr.seq (Tr.seqR rfl (by simp) (Tr.condT rfl (Tr.skip ?_)))
  refine Tr.seq (Tr.block (Tr.seqD rfl (by simp [volC]) (by kernel_rfl) ?_))
  refine Tr.seqR rfl (by simp) (Tr.seqR rfl (by simp) (Tr.seqR rfl (by simp) (Tr.regR rfl (by simp) (Tr.regR rfl (by simp) ?_))))
  refine TrN.succ (Tr.weak (s' := { env := [(2, .ptr 2 0), (3, .ptr 3 0), (4, .ptr 4 0), (8, .ptr 8 0), (9, I u.a), (10, I 1)], bx := [(2, ⟨volC a, false⟩), (3, ⟨volC b, false⟩), (4, ⟨[I 0, I 0, I 0, I 0, I 0, I 0, .nils], false⟩), (8, ⟨[I u.x, I u.a, I 0, I 0, I 0, I 0], false⟩)], rw := [], log := [], stp := false })
    (Wk.le (.cons rfl (.refl _) (.cons rfl (.refl _) (.cons rfl (.refl _) (.cons rfl (.refl _) (.cons rfl (VLe.i ?_) (.cons rfl (VLe.i (by simp)) .nil))))))
      (.cons rfl (LLe.refl _) (.cons rfl (LLe.refl _) (.cons rfl (LLe.refl _) (.cons rfl (lle6 ?_ ?_ ?_ ?_ ?_ ?_) .nil)))) .nil rfl rfl) ?_)
  iterate 7
    · simp (disch := omega) [ux, ua, w64, ite_max, ite_min] <;> first | (split <;> omega) | (rw [← ua.1, ← ua.2.1, ← ua.2.2]; exact w64 (by omega) (by omega)) | (rw [← ua.1, ← ua.2.1]; exact w64 (by omega) (by omega))
  refine Tr.seq (Tr.seqR rfl (by simp) (Tr.condT rfl (Tr.skip ?_)))
  refine Tr.seq (Tr.block (Tr.seqD rfl (by simp [volC]) (by kernel_rfl) ?_))
  refine Tr.seqR rfl (by simp) (Tr.seqR rfl (by simp) (Tr.seqR rfl (by simp) (Tr.regR rfl (by simp) (Tr.regR rfl (by simp) ?_))))
  refine TrN.succ (Tr.weak (s' := { env := [(2, .ptr 2 0), (3, .ptr 3 0), (4, .ptr 4 0), (8, .ptr 8 0), (9, I (u.a * u.b)), (10, I 2)], bx := [(2, ⟨volC a, false⟩), (3, ⟨volC b, false⟩), (4, ⟨[I 0, I 0, I 0, I 0, I 0, I 0, .nils], false⟩), (8, ⟨[I u.x, I u.a, I u.y, I u.b, I 0, I 0], false⟩)], rw := [], log := [], stp := false })
    (Wk.le (.cons rfl (.refl _) (.cons rfl (.refl _) (.cons rfl (.refl _) (.cons rfl (.refl _) (.cons rfl (VLe.i ?_) (.cons rfl (VLe.i (by simp)) .nil))))))
      (.cons rfl (LLe.refl _) (.cons rfl (LLe.refl _) (.cons rfl (LLe.refl _) (.cons rfl (lle6 ?_ ?_ ?_ ?_ ?_ ?_) .nil)))) .nil rfl rfl) ?_)
  iterate 7
    · simp (disch := omega) [ux, ua, w64, ite_max, ite_min] <;> first | (split <;> omega) | (rw [← ua.1, ← ua.2.1, ← ua.2.2]; exact w64 (by omega) (by omega)) | (rw [← ua.1, ← ua.2.1]; exact w64 (by omega) (by omega))
  refine Tr.seq (Tr.seqR rfl (by simp) (Tr.condT rfl (Tr.skip ?_)))
  refine Tr.seq (Tr.block (Tr.seqD rfl (by simp [volC]) (by kernel_rfl) ?_))
  refine Tr.seqR rfl (by simp) (Tr.seqR rfl (by simp) (Tr.seqR rfl (by simp) (Tr.regR rfl (by simp) (Tr.regR rfl (by simp) ?_))))
  refine TrN.succ (Tr.weak (s' := { env := [(2, .ptr 2 0), (3, .ptr 3 0), (4, .ptr 4 0), (8, .ptr 8 0), (9, I (u.a * u.b * u.c)), (10, I 3)], bx := [(2, ⟨volC a, false⟩), (3, ⟨volC b, false⟩), (4, ⟨[I 0, I 0, I 0, I 0, I 0, I 0, .nils], false⟩), (8, ⟨[I u.x, I u.a, I u.y, I u.b, I u.z, I u.c], false⟩)], rw := [], log := [], stp := false })
    (Wk.le (.cons rfl (.refl _) (.cons rfl (.refl _) (.cons rfl (.refl _) (.cons rfl (.refl _) (.cons rfl (VLe.i ?_) (.cons rfl (VLe.i (by simp)) .nil))))))
      (.cons rfl (LLe.refl _) (.cons rfl (LLe.refl _) (.cons rfl (LLe.refl _) (.cons rfl (lle6 ?_ ?_ ?_ ?_ ?_ ?_) .nil)))) .nil rfl rfl) ?_)
  iterate 7
    · simp (disch := omega) [ux, ua, w64, ite_max, ite_min] <;> first | (split <;> omega) | (rw [← ua.1, ← ua.2.1, ← ua.2.2]; exact w64 (by omega) (by omega)) | (rw [← ua.1, ← ua.2.1]; exact w64 (by omega) (by omega))
  refine Tr.seq (Tr.seqR rfl (by simp) (Tr.condF rfl (Tr.exit ?_)))
  refine Tr.seqD rfl (by simp) (by kernel_rfl) ?_
  refine Tr.seqR rfl (by simp) ?_
  have hlen := boxCells_len' b.b (by omega)
  refine Tr.seqC rfl (by simp [volC]) (Steps.call rfl rfl (c_places10 b.b hsB cB) (Steps.fin rfl (by simp) ?_))
  have hlB' : (boxCells b.b).length = b.v.length := by unfold manyI at hlB; omega
  refine Tr.seq (Tr.seqR rfl (by simp) (Tr.block ?_))
  refine Tr.loop (fun i s => i ≤ (boxCells b.b).length ∧ s = { env := [(2, .ptr 2 0), (3, .ptr 3 0), (4, .ptr 4 0), (9, I (u.a * u.b * u.c)), (14, .ptr 14 0), (15, .ptr 15 0), (16, I (((boxCells b.b).take i).countP (hasP a.b))), (17, .bool (((boxCells b.b).take i).any fun p => hasP a.b p && (atV a p != atV b p))), (18, .slice 0 3 ((boxCells b.b).map fun p => .agg (cellC p.1 p.2.1 p.2.2))), (19, I i)], bx := [(2, ⟨volC a, false⟩), (3, ⟨volC b, false⟩), (4, ⟨[I 0, I 0, I 0, I 0, I 0, I 0, .nils], false⟩), (14, ⟨[I u.x, I u.y, I u.z], false⟩), (15, ⟨[I u.a, I u.b, I u.c], false⟩)], rw := [], log := [], stp := false }) (fun i => (boxCells b.b).length - i) 0
    (Wk.le (.cons rfl (.refl _) (.cons rfl (.refl _) (.cons rfl (.refl _) (.cons rfl (.refl _) (.cons rfl (.refl _) (.cons rfl (.refl _) (.cons rfl (.refl _) (.cons rfl (.refl _) (.cons rfl (.refl _) (.cons rfl (.refl _) .nil))))))))))
      (.cons rfl (LLe.refl _) (.cons rfl (LLe.refl _) (.cons rfl (LLe.refl _) (.cons rfl (LLe.refl _) (.cons rfl (LLe.refl _) .nil))))) .nil rfl rfl) ⟨by omega, rfl⟩ ?_
  rintro i s ⟨hi, rfl⟩
  refine Tr.seq (Tr.seqR rfl (by simp) (Tr.cond rfl rfl (fun h3 => Tr.skip ?_) (fun h3 => Tr.exit ?_)))
  · have h3 : i < (boxCells b.b).length := by simpa using h3
    have h3v : i < b.v.length := by omega
    obtain ⟨⟨x, y, z⟩, hp⟩ : ∃ p, (boxCells b.b)[i] = p := ⟨_, rfl⟩
    have hmem : (x, y, z) ∈ boxCells b.b := hp ▸ List.getElem_mem h3
    have hbd := cell_bd hbB hmem
    have hat : atV b (x, y, z) = b.v[i] := by rw [← hp]; exact cell_at hB h3 h3v
    have hci := c_index10 a.b x y z hmA (by simp only at hbd; omega)
    have hcl := List.countP_le_length (p := hasP a.b) (l := (boxCells b.b).take i)
    have htl : ((boxCells b.b).take i).length ≤ i := by rw [List.length_take]; omega
    have hct : ((boxCells b.b).take (i + 1)).countP (hasP a.b) = ((boxCells b.b).take i).countP (hasP a.b) + if hasB a.b x y z then 1 else 0 := by
      rw [List.take_add_one, List.getElem?_eq_getElem h3, hp, List.countP_append]
      simp [List.countP_cons, hasP]
    have hat2 : (((boxCells b.b).take (i + 1)).any fun p => hasP a.b p && (atV a p != atV b p)) = ((((boxCells b.b).take i).any fun p => hasP a.b p && (atV a p != atV b p)) || (hasB a.b x y z && (atV a (x, y, z) != b.v[i]))) := by
      rw [List.take_add_one, List.getElem?_eq_getElem h3, hp, List.any_append]
      simp [hasP, hat]
    by_cases hh : hasB a.b x y z = true
    · obtain ⟨i0, i1⟩ := idx_range hh
      obtain ⟨k, hk⟩ : ∃ k : Nat, idxOf a.b x y z = (k : Int) := ⟨(idxOf a.b x y z).toNat, by omega⟩
      have hkl : k < a.v.length := by unfold manyI at hlA; omega
      have hpk : atV a (x, y, z) = a.v[k] := atV_eq (p := (x, y, z)) hk hkl
      rw [show idxR a.b x y z = (k : Int) by unfold idxR; rw [if_pos hh, hk]] at hci
      rw [if_pos hh] at hct
      rw [hh, hpk, Bool.true_and] at hat2
      generalize (((boxCells b.b).take i).any fun p => hasP a.b p && (atV a p != atV b p)) = df at hat2 ⊢
      refine Tr.seq (Tr.block (Tr.seq (Tr.drawK (TraceK.runN 7 rfl (by simp [volC]; omega) ?_))))
      rw [getD_map h3, hp]
      refine TraceK.run rfl (by simp) (TraceK.call rfl rfl hci (TraceK.run rfl (by simp) (.done ⟨by kernel_rfl, by kernel_rfl, ?_⟩)))
      refine Tr.seqR rfl (by simp) (Tr.cond rfl rfl (fun h4 => ?_) (fun h4 => ?_))
      rotate_left
      · have h4 : decide ((k : Int) ≥ 0) = false := h4
        rw [decide_eq_false_iff_not] at h4; omega
      refine Tr.seqR rfl (by simp) (Tr.drawK (TraceK.runN 6 rfl (by simp [volC, intsV]; first | omega | exact fun e => ⟨by omega, e⟩ | exact fun e => by omega | trace_state) ?_))
      rw [getD_map hkl]
      refine TraceK.runN 5 rfl (by simp [volC, intsV]; first | omega | exact fun e => ⟨by omega, e⟩ | exact fun e => by omega | trace_state) ?_
      rw [getD_map h3v]
      refine TraceK.run rfl (by simp) (.done ⟨by kernel_rfl, by kernel_rfl, ?_⟩)
      refine Tr.regR rfl (by simp) ?_
      refine ⟨i + 1, _, Wk.le (.cons rfl (.refl _) (.cons rfl (.refl _) (.cons rfl (.refl _) (.cons rfl (.refl _) (.cons rfl (.refl _) (.cons rfl (.refl _) (.cons rfl (VLe.i ?_) (.cons rfl (.of_eq ?_) (.cons rfl (.refl _) (.cons rfl (VLe.i (w64 (by omega) (by omega))) .nil))))))))))
        (.cons rfl (LLe.refl _) (.cons rfl (LLe.refl _) (.cons rfl (LLe.refl _) (.cons rfl (LLe.refl _) (.cons rfl (LLe.refl _) .nil))))) .nil rfl rfl, ⟨h3, rfl⟩, by omega⟩
      · rw [hct]; push_cast; exact w64 (by omega) (by omega)
      · rw [hat2]
        cases df <;> rfl
    · have hh : hasB a.b x y z = false := by simpa using hh
      rw [show idxR a.b x y z = -1 by unfold idxR; rw [if_neg (by simp [hh])]] at hci
      rw [if_neg (by simp [hh])] at hct
      rw [hh, Bool.false_and, Bool.or_false] at hat2
      refine Tr.seq (Tr.block (Tr.seq (Tr.drawK (TraceK.runN 7 rfl (by simp [volC]; omega) ?_))))
      rw [getD_map h3, hp]
      refine TraceK.run rfl (by simp) (TraceK.call rfl rfl hci (TraceK.run rfl (by simp) (.done ⟨by kernel_rfl, by kernel_rfl, ?_⟩)))
      refine Tr.seqR rfl (by simp) (Tr.condF rfl (Tr.skip (Tr.regR rfl (by simp) ?_)))
      refine ⟨i + 1, _, Wk.le (.cons rfl (.refl _) (.cons rfl (.refl _) (.cons rfl (.refl _) (.cons rfl (.refl _) (.cons rfl (.refl _) (.cons rfl (.refl _) (.cons rfl (VLe.i ?_) (.cons rfl (.of_eq ?_) (.cons rfl (.refl _) (.cons rfl (VLe.i (w64 (by omega) (by omega))) .nil))))))))))
        (.cons rfl (LLe.refl _) (.cons rfl (LLe.refl _) (.cons rfl (LLe.refl _) (.cons rfl (LLe.refl _) (.cons rfl (LLe.refl _) .nil))))) .nil rfl rfl, ⟨h3, rfl⟩, by omega⟩
      · rw [hct]; rfl
      · rw [hat2]
  have h3 : i = (boxCells b.b).length := by simp at h3; omega
  subst h3
  rw [List.take_length]
  have hcnt : (((boxCells b.b).countP (hasP a.b) : Nat) : Int) = commonI a.b b.b := by rw [cnt_has b.b a.b (by omega), common_comm]
  rw [hcnt]
  have hany := any_box (a := a) (b := b) (u := u) fun p hp => by
    have hp : hasB b.b p.1 p.2.1 p.2.2 = true := hp
    show hasB u p.1 p.2.1 p.2.2 = true
    simp only [hasB, Bool.and_eq_true, btw_iff] at hp ⊢
    omega
  rw [← hany]
  have hcb : 0 ≤ commonI a.b b.b ∧ commonI a.b b.b ≤ 4096 := by
    have := List.countP_le_length (p := hasP a.b) (l := boxCells b.b)
    have := boxCells_len hsB
    omega
  have hq : 0 ≤ (a.v.length : Int) ∧ (a.v.length : Int) ≤ 4096 ∧ 0 ≤ (b.v.length : Int) ∧ (b.v.length : Int) ≤ 4096 := by
    have m1 := mul_bd (a := a.b.a) (b := a.b.b) (A := 16) (B := 16) (by omega) (by omega)
    have m2 := mul_bd (a := a.b.a * a.b.b) (b := a.b.c) (A := 256) (B := 16) (by omega) (by omega)
    have m3 := mul_bd (a := b.b.a) (b := b.b.b) (A := 16) (B := 16) (by omega) (by omega)
    have m4 := mul_bd (a := b.b.a * b.b.b) (b := b.b.c) (A := 256) (B := 16) (by omega) (by omega)
    unfold manyI at hlA hlB
    omega
  have hcnd : ∀ c : Bool, (IntKind.i64.wrap (IntKind.i64.wrap (((a.v.map I).length : Int) + ((b.v.map I).length : Int)) - commonI a.b b.b) != u.a * u.b * u.c) = c → c = !decide (manyI u = manyI a.b + manyI b.b - commonI a.b b.b) := by
    rintro c rfl
    rw [List.length_map, List.length_map, w64 (n := (a.v.length : Int) + (b.v.length : Int)) (by omega) (by omega), w64 (by omega) (by omega), hlA, hlB]
    show (_ != manyI u) = _
    rw [bne_comm]
    by_cases h : manyI u = manyI a.b + manyI b.b - commonI a.b b.b <;> simp [h]
  refine Tr.seq (Tr.seqR rfl (by simp [volC, intsV]) (Tr.cond rfl rfl (fun h1 => Tr.seqR rfl (by simp) (Tr.retX rfl rfl rfl ?_ trivial)) (fun h1 => Tr.skip ?_)))
  · have h2 := not_of (hcnd true h1)
    have h2 : ¬ manyI u = manyI a.b + manyI b.b - commonI a.b b.b := by simpa using h2
    simp [packR, joinR, hA, hB, ← hu, h2, errVol]
  have h2 := not_of (hcnd false h1)
  have h2 : manyI u = manyI a.b + manyI b.b - commonI a.b b.b := by simpa using h2
  have hcov : ∀ p ∈ boxCells u, hasP a.b p = true ∨ hasP b.b p = true := by
    rw [hu] at h2 ⊢; exact cover (by omega) (by omega) h2
  refine Tr.seq (Tr.seqC rfl (by simp) (Steps.call rfl rfl (c_box10 u) (Steps.fin rfl (by simp) (Tr.cond rfl rfl (fun h3 => Tr.seqR rfl (by simp) (Tr.retX rfl rfl rfl ?_ trivial)) (fun h3 => Tr.skip ?_)))))
  · have h3 : boxOk u = false := by simpa using h3
    have h3 : smallB u = false := by
      cases hs : smallB u with
      | false => rfl
      | true => rw [hu] at h3 hs; rw [around_ok hbA hbB hs] at h3; cases h3
    simp [packR, joinR, hA, hB, ← hu, h2, h3, errVol]
  have h3 : boxOk u = true := by simpa using h3
  obtain ⟨hsU, hmU⟩ := boxOk_spec h3
  have cU : cellOk u.x u.y u.z = true := by simp only [boxOk, Bool.and_eq_true] at h3; exact h3.1.2
  refine Tr.seq (Tr.seqR rfl (by simp) (Tr.cond rfl rfl (fun h4 => Tr.seqR rfl (by simp) (Tr.retX rfl rfl rfl ?_ trivial)) (fun h4 => Tr.skip ?_)))
  · simp [packR, joinR, hA, hB, ← hu, h2, hsU, h4, errVol]
  have hulen := boxCells_len hsU
  refine Tr.seqR rfl (by simp) (Tr.seqC rfl (by simp) (Steps.call rfl rfl (c_places10 u hsU cU) (Steps.fin rfl (by simp) ?_)))
  refine Tr.seq (Tr.seqR rfl (by simp) (Tr.block ?_))
  refine Tr.loop (fun i s => i ≤ (boxCells u).length ∧ s = { env := [(2, .ptr 2 0), (3, .ptr 3 0), (4, .ptr 4 0), (21, .ptr 21 0), (22, .slice 0 3 ((boxCells u).map fun p => .agg (cellC p.1 p.2.1 p.2.2))), (23, I i)], bx := [(2, ⟨volC a, false⟩), (3, ⟨volC b, false⟩), (4, ⟨[I 0, I 0, I 0, I 0, I 0, I 0, .nils], false⟩), (21, ⟨[I u.x, I u.y, I u.z, I u.a, I u.b, I u.c, .slice 194 1 (((boxCells u).take i).map fun p => I (pickV a b p))], false⟩)], rw := [(193, i, 1, 3)], log := [], stp := false }) (fun i => (boxCells u).length - i) 0
    (Wk.le (.cons rfl (.refl _) (.cons rfl (.refl _) (.cons rfl (.refl _) (.cons rfl (.refl _) (.cons rfl (.refl _) (.cons rfl (.refl _) .nil))))))
      (.cons rfl (LLe.refl _) (.cons rfl (LLe.refl _) (.cons rfl (LLe.refl _) (.cons rfl (.cons (.refl _) (.cons (.refl _) (.cons (.refl _) (.cons (.refl _) (.cons (.refl _) (.cons (.refl _) (.cons (.nil 194 1) .nil))))))) .nil)))) (.new rfl .nil) rfl rfl) ⟨by omega, rfl⟩ ?_
  rintro i s ⟨hi, rfl⟩
  refine Tr.seq (Tr.seqR rfl (by simp) (Tr.cond rfl rfl (fun h5 => Tr.skip ?_) (fun h5 => Tr.exit ?_)))
  rotate_left
  · have h5 : i = (boxCells u).length := by simp at h5; omega
    subst h5
    rw [List.take_length]
    refine Tr.seqR rfl (by simp) (Tr.retX rfl rfl rfl ?_ trivial)
    simp [packR, joinR, hA, hB, ← hu, h2, hsU, h4, volC, intsV]
  have h5 : i < (boxCells u).length := by simpa using h5
  obtain ⟨⟨x, y, z⟩, hp⟩ : ∃ p, (boxCells u)[i] = p := ⟨_, rfl⟩
  have hmem : (x, y, z) ∈ boxCells u := hp ▸ List.getElem_mem h5
  have hbd := cell_bd h3 hmem
  have hca := c_index10 a.b x y z hmA (by simp only at hbd; omega)
  have hcb := c_index10 b.b x y z hmB (by simp only at hbd; omega)
  have htk : (boxCells u).take (i + 1) = (boxCells u).take i ++ [(x, y, z)] := by rw [List.take_add_one, List.getElem?_eq_getElem h5, hp]; rfl
  by_cases hh : hasB a.b x y z = true
  · obtain ⟨i0, i1⟩ := idx_range hh
    obtain ⟨k, hk⟩ : ∃ k : Nat, idxOf a.b x y z = (k : Int) := ⟨(idxOf a.b x y z).toNat, by omega⟩
    have hkl : k < a.v.length := by unfold manyI at hlA; omega
    have hpk : pickV a b (x, y, z) = a.v[k] := by rw [pick_a (p := (x, y, z)) hh]; exact atV_eq (p := (x, y, z)) hk hkl
    rw [show idxR a.b x y z = (k : Int) by unfold idxR; rw [if_pos hh, hk]] at hca
    refine Tr.seq (Tr.block (Tr.seq (Tr.drawK (TraceK.runN 7 rfl (by simp [volC]; omega) ?_))))
    rw [getD_map h5, hp]
    refine TraceK.run rfl (by simp) (TraceK.call rfl rfl hca (TraceK.run rfl (by simp) (.done ⟨by kernel_rfl, by kernel_rfl, ?_⟩)))
    refine Tr.seqR rfl (by simp) (Tr.cond rfl rfl (fun h6 => ?_) (fun h6 => ?_))
    rotate_left
    · have h6 : decide ((k : Int) ≥ 0) = false := h6
      rw [decide_eq_false_iff_not] at h6; omega
    refine Tr.drawK (TraceK.runN 6 rfl (by simp [volC, intsV]; omega) ?_)
    rw [getD_map hkl]
    refine TraceK.run rfl (by simp; omega) (.done ⟨by kernel_rfl, by kernel_rfl, ?_⟩)
    refine Tr.regR rfl (by simp) ?_
    refine ⟨i + 1, _, Wk.le (.cons rfl (.refl _) (.cons rfl (.refl _) (.cons rfl (.refl _) (.cons rfl (.refl _) (.cons rfl (.refl _) (.cons rfl (VLe.i (w64 (by omega) (by omega))) .nil))))))
      (.cons rfl (LLe.refl _) (.cons rfl (LLe.refl _) (.cons rfl (LLe.refl _) (.cons rfl (.cons (.refl _) (.cons (.refl _) (.cons (.refl _) (.cons (.refl _) (.cons (.refl _) (.cons (.refl _) (.cons (.of_eq ?_) .nil))))))) .nil)))) (.cons ?_ .nil) rfl rfl, ⟨h5, rfl⟩, by omega⟩
    · rw [htk]; simp [hpk]
    · show some _ = some _
      simp; omega
  · have hh : hasB a.b x y z = false := by simpa using hh
    have hh2 : hasB b.b x y z = true := by
      rcases hcov _ hmem with h | h
      · have h : hasB a.b x y z = true := h
        rw [hh] at h; cases h
      · exact h
    obtain ⟨i0, i1⟩ := idx_range hh2
    obtain ⟨k, hk⟩ : ∃ k : Nat, idxOf b.b x y z = (k : Int) := ⟨(idxOf b.b x y z).toNat, by omega⟩
    have hkl : k < b.v.length := by unfold manyI at hlB; omega
    have hpk : pickV a b (x, y, z) = b.v[k] := by
      unfold pickV
      rw [if_neg (by simp [hasP, hh])]; exact atV_eq (p := (x, y, z)) hk hkl
    rw [show idxR a.b x y z = -1 by unfold idxR; rw [if_neg (by simp [hh])]] at hca
    rw [show idxR b.b x y z = (k : Int) by unfold idxR; rw [if_pos hh2, hk]] at hcb
    refine Tr.seq (Tr.block (Tr.seq (Tr.drawK (TraceK.runN 7 rfl (by simp [volC]; omega) ?_))))
    rw [getD_map h5, hp]
    refine TraceK.run rfl (by simp) (TraceK.call rfl rfl hca (TraceK.run rfl (by simp) (.done ⟨by kernel_rfl, by kernel_rfl, ?_⟩)))
    refine Tr.seqR rfl (by simp) (Tr.condF rfl ?_)
    refine Tr.seq (Tr.drawK (TraceK.runN 7 rfl (by simp [volC]; omega) ?_))
    rw [getD_map h5, hp]
    refine TraceK.run rfl (by simp) (TraceK.call rfl rfl hcb (TraceK.run rfl (by simp) (.done ⟨by kernel_rfl, by kernel_rfl, ?_⟩)))
    refine Tr.seqR rfl (by simp) (Tr.cond rfl rfl (fun h6 => ?_) (fun h6 => ?_))
    rotate_left
    · have h6 : decide ((k : Int) ≥ 0) = false := h6
      rw [decide_eq_false_iff_not] at h6; omega
    refine Tr.drawK (TraceK.runN 6 rfl (by simp [volC, intsV]; omega) ?_)
    rw [getD_map hkl]
    refine TraceK.run rfl (by simp; omega) (.done ⟨by kernel_rfl, by kernel_rfl, ?_⟩)
    refine Tr.regR rfl (by simp) ?_
    refine ⟨i + 1, _, Wk.le (.cons rfl (.refl _) (.cons rfl (.refl _) (.cons rfl (.refl _) (.cons rfl (.refl _) (.cons rfl (.refl _) (.cons rfl (VLe.i (w64 (by omega) (by omega))) .nil))))))
      (.cons rfl (LLe.refl _) (.cons rfl (LLe.refl _) (.cons rfl (LLe.refl _) (.cons rfl (.cons (.refl _) (.cons (.refl _) (.cons (.refl _) (.cons (.refl _) (.cons (.refl _) (.cons (.refl _) (.cons (.of_eq ?_) .nil))))))) .nil)))) (.cons ?_ .nil) rfl rfl, ⟨h5, rfl⟩, by omega⟩
    · rw [htk]; simp [hpk]
    · show some _ = some _
      simp; omega

end Go.Proofs.Ytkifejklnpddbaa

/-! The law VolumeJoins. -/
set_option linter.unusedVariables false
set_option linter.unusedSimpArgs false
set_option maxRecDepth 20000
set_option maxHeartbeats 2000000
namespace Go.Proofs.Ytkifejklnpddbaa
open Go.Am
attribute [local simp] cells scalar mkv splice under2 under dem dem1 boxC cellC volC

def noVol : Vol := ⟨⟨0, 0, 0, 0, 0, 0⟩, []⟩

theorem joined_len {a b : Vol} (h : joinOk a b) : (joined a b).v.length ≤ 4096 := by
  have := boxCells_len h.small
  simp only [joined, List.length_map]
  omega

theorem join_form (a b : Vol) : ∃ (w : Vol) (e : Int), joinR (intsV []) a b = .tuple [.agg (volC w), I e] ∧ w.v.length ≤ 9223372036854775807 := by
  by_cases h : joinOk a b
  · rcases join_cases (intsV []) a b with ⟨_, h1⟩ | ⟨h1, _⟩
    · exact ⟨_, _, h1, by have := joined_len h; omega⟩
    · exact absurd h h1
  · obtain ⟨e, _, h1⟩ := join_err h
    exact ⟨noVol, e, h1 _, by simp [noVol]⟩

theorem c_VolumeJoins (a b : Vol) (hla : a.v.length ≤ 9223372036854775807) (hlb : b.v.length ≤ 9223372036854775807) : C Try.prog F.law10_VolumeJoins [.agg (volC a), .agg (volC b)] (.bool true) := by
  obtain ⟨w, e, hr, hw⟩ := join_form a b
  have k1 := (c_Join a b hla hlb).le fun _ _ _ h => join_le h
  have k2 := (c_Join10 a b hla hlb).le fun _ _ _ h => join_le h
  rw [hr] at k1 k2
  refine C_of mixed chk.law10_VolumeJoins (by simp) fun S ok => ?_
  refine Tr.seqR rfl (by simp [intsV]) ?_
  refine Tr.seqC rfl (by simp) (Steps.call rfl rfl k1 (Steps.fin rfl (by simp [intsV]) ?_))
  refine Tr.seqC rfl (by simp) (Steps.call rfl rfl k2 (Steps.fin rfl (by simp [intsV]) ?_))
  refine Tr.seqC rfl (by simp) (Steps.call rfl rfl (c_SameVolume w w hw) (Steps.run rfl (by simp) ?_))
  refine Steps.gcall rfl rfl rfl rfl (by simp) (fun _ => c_works) (Steps.fin rfl (by simp) (Tr.retX rfl rfl rfl ?_ trivial))
  simp [packR]

end Go.Proofs.Ytkifejklnpddbaa

/-! Contracts: volumes that are checked, and their parts in the specification. -/
set_option linter.unusedVariables false
set_option linter.unusedSimpArgs false
set_option maxRecDepth 20000
set_option maxHeartbeats 2000000
namespace Go.Proofs.Ytkifejklnpddbaa
open Go.Am
attribute [local simp] cells scalar mkv splice under2 under dem dem1 boxC cellC

theorem c_CheckVolume (v : Vol) (hl : v.v.length ≤ 9223372036854775807) : C Try.prog F.volume_CheckVolume [.agg (volC v)] (I (if volOk v then 0 else 101)) := by
  refine C_of mixed chk.volume_CheckVolume (by simp) fun S ok => ?_
  refine Tr.seqR rfl (by simp [volC, intsV]) ?_
  have h := c_blockOf v hl
  unfold blockR at h
  cases hv : volOk v with
  | true =>
    rw [hv] at h
    exact Tr.seqC rfl (by simp [volC]) (Steps.call rfl rfl h (Steps.fin rfl (by simp [volC, intsV]) (Tr.seqR rfl (by simp) (Tr.retX rfl rfl rfl rfl trivial))))
  | false =>
    rw [hv] at h
    exact Tr.seqC rfl (by simp [volC]) (Steps.call rfl rfl h (Steps.fin rfl (by simp [volC, intsV]) (Tr.seqR rfl (by simp) (Tr.retX rfl rfl rfl rfl trivial))))

theorem cut_all {v : Vol} {b : Bx} (hb : boxOk b = true) (h : ∀ p ∈ boxCells b, hasP v.b p = true) : cutOk v b = true := by
  have g := small_spec (boxOk_spec hb).1
  unfold cutOk
  rw [hb, Bool.true_and, Bool.and_eq_true]
  constructor
  · refine h _ (mem_box.2 ?_)
    show hasB b b.x b.y b.z = true
    simp only [hasB, Bool.and_eq_true, btw_iff]; omega
  · refine h _ (mem_box.2 ?_)
    show hasB b (b.x + b.a - 1) (b.y + b.b - 1) (b.z + b.c - 1) = true
    simp only [hasB, Bool.and_eq_true, btw_iff]; omega

theorem c_Cut10 (v : Vol) (b : Bx) (hl : v.v.length ≤ 9223372036854775807) : C Try.prog F.ref10_Cut [.agg (volC v), .agg (cellC b.x b.y b.z), .agg (cellC b.a b.b b.c)] (cutR .nils v b) := by
  refine C_of mixed chk.ref10_Cut (by simp) fun S ok => ?_
  refine Tr.seqR rfl (by simp [volC, intsV]) ?_
  have hr := c_CheckVolume10 v hl
  by_cases hV : volOk v = true
  rotate_left
  · have hV : volOk v = false := by simpa using hV
    rw [hV] at hr
    refine Tr.seq (Tr.seqC rfl (by simp [volC]) (Steps.call rfl rfl hr (Steps.fin rfl (by simp) ?_)))
    refine Tr.seqR rfl (by simp) (Tr.condT rfl (Tr.seqR rfl (by simp) (Tr.retX rfl rfl rfl ?_ trivial)))
    simp [packR, cutR, hV, errVol]
  rw [hV] at hr
  refine Tr.seq (Tr.seqC rfl (by simp [volC]) (Steps.call rfl rfl hr (Steps.fin rfl (by simp [volC, intsV]) ?_)))
  refine Tr.seqR rfl (by simp) (Tr.condF rfl (Tr.skip ?_))
  obtain ⟨hbV, hlV, hvV⟩ := volOk_spec hV
  obtain ⟨hsV, hmV⟩ := boxOk_spec hbV
  refine Tr.seq (Tr.seqC rfl (by simp) (Steps.call rfl rfl (c_box10 b) (Steps.fin rfl (by simp) (Tr.cond rfl rfl (fun h3 => Tr.seqR rfl (by simp) (Tr.retX rfl rfl rfl ?_ trivial)) (fun h3 => Tr.skip ?_)))))
  · have h3 : boxOk b = false := by simpa using h3
    have : cutOk v b = false := by unfold cutOk; rw [h3]; rfl
    simp [packR, cutR, hV, this, errVol]
  have h3 : boxOk b = true := by simpa using h3
  obtain ⟨hsB, hmB⟩ := boxOk_spec h3
  have cB : cellOk b.x b.y b.z = true := by have := h3; simp only [boxOk, Bool.and_eq_true] at this; exact this.1.2
  have hlen := boxCells_len hsB
  refine Tr.seqR rfl (by simp) (Tr.seqC rfl (by simp) (Steps.call rfl rfl (c_places10 b hsB cB) (Steps.fin rfl (by simp) ?_)))
  refine Tr.seq (Tr.seqR rfl (by simp) (Tr.block ?_))
  refine Tr.loop (fun i s => (i ≤ (boxCells b).length ∧ ∀ p ∈ (boxCells b).take i, hasP v.b p = true) ∧ s = { env := [(3, .ptr 3 0), (6, .ptr 6 0), (9, .ptr 9 0), (10, .slice 0 3 ((boxCells b).map fun p => .agg (cellC p.1 p.2.1 p.2.2))), (11, I i)], bx := [(3, ⟨volC v, false⟩), (6, ⟨[I 0, I 0, I 0, I 0, I 0, I 0, .nils], false⟩), (9, ⟨[I b.x, I b.y, I b.z, I b.a, I b.b, I b.c, .slice 57 1 (((boxCells b).take i).map fun p => I (atV v p))], false⟩)], rw := [(56, i, 1, 3)], log := [], stp := false }) (fun i => (boxCells b).length - i) 0
    (Wk.le (.cons rfl (.refl _) (.cons rfl (.refl _) (.cons rfl (.refl _) (.cons rfl (.refl _) (.cons rfl (.refl _) .nil)))))
      (.cons rfl (LLe.refl _) (.cons rfl (LLe.refl _) (.cons rfl (.cons (.refl _) (.cons (.refl _) (.cons (.refl _) (.cons (.refl _) (.cons (.refl _) (.cons (.refl _) (.cons (.nil 57 1) .nil))))))) .nil))) (.new rfl .nil) rfl rfl) ⟨⟨by omega, by simp⟩, rfl⟩ ?_
  rintro i s ⟨⟨hi, hAll⟩, rfl⟩
  refine Tr.seq (Tr.seqR rfl (by simp) (Tr.cond rfl rfl (fun h5 => Tr.skip ?_) (fun h5 => Tr.exit ?_)))
  rotate_left
  · have h5 : i = (boxCells b).length := by simp at h5; omega
    subst h5
    rw [List.take_length] at hAll ⊢
    have hc := cut_all h3 hAll
    refine Tr.seqR rfl (by simp) (Tr.retX rfl rfl rfl ?_ trivial)
    simp [packR, cutR, hV, hc, part, volC, intsV]
  have h5 : i < (boxCells b).length := by simpa using h5
  obtain ⟨⟨x, y, z⟩, hp⟩ : ∃ p, (boxCells b)[i] = p := ⟨_, rfl⟩
  have hmem : (x, y, z) ∈ boxCells b := hp ▸ List.getElem_mem h5
  have hbd := cell_bd h3 hmem
  have hca := c_index10 v.b x y z hmV (by simp only at hbd; omega)
  have htk : (boxCells b).take (i + 1) = (boxCells b).take i ++ [(x, y, z)] := by rw [List.take_add_one, List.getElem?_eq_getElem h5, hp]; rfl
  by_cases hh : hasB v.b x y z = true
  · obtain ⟨i0, i1⟩ := idx_range hh
    obtain ⟨k, hk⟩ : ∃ k : Nat, idxOf v.b x y z = (k : Int) := ⟨(idxOf v.b x y z).toNat, by omega⟩
    have hkl : k < v.v.length := by unfold manyI at hlV; omega
    have hpk : atV v (x, y, z) = v.v[k] := atV_eq (p := (x, y, z)) hk hkl
    rw [show idxR v.b x y z = (k : Int) by unfold idxR; rw [if_pos hh, hk]] at hca
    refine Tr.seq (Tr.block (Tr.seq (Tr.drawK (TraceK.runN 7 rfl (by simp [volC]; omega) ?_))))
    rw [getD_map h5, hp]
    refine TraceK.run rfl (by simp) (TraceK.call rfl rfl hca (TraceK.run rfl (by simp) (.done ⟨by kernel_rfl, by kernel_rfl, ?_⟩)))
    refine Tr.seq (Tr.seqR rfl (by simp) (Tr.cond rfl rfl (fun h6 => ?_) (fun h6 => Tr.skip ?_)))
    · have h6 : decide ((k : Int) < 0) = true := h6
      rw [decide_eq_true_eq] at h6; omega
    refine Tr.drawK (TraceK.runN 6 rfl (by simp [volC, intsV]; omega) ?_)
    rw [getD_map hkl]
    refine TraceK.run rfl (by simp; omega) (.done ⟨by kernel_rfl, by kernel_rfl, ?_⟩)
    refine Tr.regR rfl (by simp) ?_
    refine ⟨i + 1, _, Wk.le (.cons rfl (.refl _) (.cons rfl (.refl _) (.cons rfl (.refl _) (.cons rfl (.refl _) (.cons rfl (VLe.i (w64 (by omega) (by omega))) .nil)))))
      (.cons rfl (LLe.refl _) (.cons rfl (LLe.refl _) (.cons rfl (.cons (.refl _) (.cons (.refl _) (.cons (.refl _) (.cons (.refl _) (.cons (.refl _) (.cons (.refl _) (.cons (.of_eq ?_) .nil))))))) .nil))) (.cons ?_ .nil) rfl rfl, ⟨⟨h5, ?_⟩, rfl⟩, by omega⟩
    · rw [htk]; simp [hpk]
    · show some _ = some _
      simp; omega
    · intro p hp'
      rw [htk, List.mem_append] at hp'
      rcases hp' with h | h
      · exact hAll p h
      · rw [List.mem_singleton] at h
        subst h; exact hh
  · have hh : hasB v.b x y z = false := by simpa using hh
    have hc : cutOk v b = false := by
      cases hcc : cutOk v b with
      | false => rfl
      | true =>
        have h : hasB v.b x y z = true := mem_box.1 (cut_in hcc hmem)
        rw [hh] at h; cases h
    rw [show idxR v.b x y z = -1 by unfold idxR; rw [if_neg (by simp [hh])]] at hca
    refine Tr.seq (Tr.block (Tr.seq (Tr.drawK (TraceK.runN 7 rfl (by simp [volC]; omega) ?_))))
    rw [getD_map h5, hp]
    refine TraceK.run rfl (by simp) (TraceK.call rfl rfl hca (TraceK.run rfl (by simp) (.done ⟨by kernel_rfl, by kernel_rfl, ?_⟩)))
    refine Tr.seq (Tr.seqR rfl (by simp) (Tr.condT rfl (Tr.seqR rfl (by simp) (Tr.retX rfl rfl rfl ?_ trivial))))
    simp [packR, cutR, hV, hc, errVol]

end Go.Proofs.Ytkifejklnpddbaa

/-! Contracts: seals of volumes. -/
set_option linter.unusedVariables false
set_option linter.unusedSimpArgs false
set_option maxRecDepth 20000
set_option maxHeartbeats 2000000
namespace Go.Proofs.Ytkifejklnpddbaa
open Go.Am
attribute [local simp] cells scalar mkv splice under2 under dem dem1 boxC cellC

def stepS (n x : Int) : Int := (n * 48271 + x + 2199023255552) % 2147483647
def boxL (b : Bx) : List Int := [b.x, b.y, b.z, b.a, b.b, b.c]
def sealOf (v : Vol) : Int := (boxL v.b ++ v.v).foldl stepS 1
def sealR (v : Vol) : V := if volOk v then .tuple [I (sealOf v), I 0] else .tuple [I 0, I 101]

theorem stepS_bd (n x : Int) : 0 ≤ stepS n x ∧ stepS n x < 2147483647 := ⟨Int.emod_nonneg _ (by omega), Int.emod_lt_of_pos _ (by omega)⟩

theorem stepS_eq {n x : Int} (hn : 0 ≤ n ∧ n < 2147483647) (hx : -1099511627776 ≤ x ∧ x ≤ 1099511627776) :
    (IntKind.i64.wrap (IntKind.i64.wrap (IntKind.i64.wrap (n * 48271) + x) + 2199023255552)).tmod 2147483647 = stepS n x := by
  rw [w64 (n := n * 48271) (by omega) (by omega), w64 (n := n * 48271 + x) (by omega) (by omega), w64 (by omega) (by omega)]
  exact Int.tmod_eq_emod_of_nonneg (by omega)

theorem fold_bd (l : List Int) (n : Int) (hn : 0 ≤ n ∧ n < 2147483647) : 0 ≤ l.foldl stepS n ∧ l.foldl stepS n < 2147483647 := by
  induction l generalizing n with
  | nil => exact hn
  | cons x r ih => exact ih _ (stepS_bd n x)

theorem boxL_bd {b : Bx} (h : boxOk b = true) : ∀ x ∈ boxL b, -1099511627776 ≤ x ∧ x ≤ 1099511627776 := by
  have g := small_spec (boxOk_spec h).1
  simp only [boxOk, Bool.and_eq_true, cellOk, btw_iff] at h
  intro x hx
  simp only [boxL, List.mem_cons, List.not_mem_nil, or_false] at hx
  omega

theorem c_Seal10 (v : Vol) (hl : v.v.length ≤ 9223372036854775807) : C Try.prog F.ref10_Seal [.agg (volC v)] (sealR v) := by
  refine C_of mixed chk.ref10_Seal (by simp) fun S ok => ?_
  refine Tr.seqR rfl (by simp [volC, intsV]) ?_
  have hr := c_CheckVolume10 v hl
  by_cases hV : volOk v = true
  rotate_left
  · have hV : volOk v = false := by simpa using hV
    rw [hV] at hr
    refine Tr.seq (Tr.seqC rfl (by simp [volC]) (Steps.call rfl rfl hr (Steps.fin rfl (by simp) ?_)))
    refine Tr.seqR rfl (by simp) (Tr.condT rfl (Tr.seqR rfl (by simp) (Tr.retX rfl rfl rfl ?_ trivial)))
    simp [packR, sealR, hV]
  rw [hV] at hr
  refine Tr.seq (Tr.seqC rfl (by simp [volC]) (Steps.call rfl rfl hr (Steps.fin rfl (by simp [volC, intsV]) ?_)))
  refine Tr.seqR rfl (by simp) (Tr.condF rfl (Tr.skip ?_))
  obtain ⟨hbV, hlV, hvV⟩ := volOk_spec hV
  have hlen := boxCells_len (boxOk_spec hbV).1
  have hl4 : v.v.length ≤ 4096 := by
    have g := small_spec (boxOk_spec hbV).1
    have := boxCells_len' v.b (by omega)
    unfold manyI at hlV; omega
  refine Tr.seqR rfl (by simp) (Tr.seq (Tr.seqR rfl (by simp) (Tr.block ?_)))
  refine Tr.weak (s' := { env := [(1, .ptr 1 0), (5, .slice 26 1 []), (6, I 0)], bx := [(1, ⟨[I v.b.x, I v.b.y, I v.b.z, I v.b.a, I v.b.b, I v.b.c, intsV v.v], false⟩)], rw := [(25, 0, 1, 3)], log := [], stp := false })
    (Wk.le (.cons rfl (.refl _) (.cons rfl (.nil 26 1) (.cons rfl (.refl _) .nil))) (.cons rfl (LLe.refl _) .nil) (.new rfl .nil) rfl rfl) ?_
  refine Tr.rounds 4 (TrN.succ ?_)
  refine Tr.seq (Tr.seqR rfl (by simp) (Tr.condT rfl (Tr.skip ?_)))
  refine Tr.seq (Tr.block ?_)
  refine Tr.regR rfl (by simp [volC]) (Tr.regR rfl (by simp) (TrN.succ ?_))
  refine Tr.weak (s' := { env := [(1, .ptr 1 0), (5, .slice 26 1 [I v.b.x]), (6, I 1)], bx := [(1, ⟨volC v, false⟩)], rw := [(25, 1, 1, 3)], log := [], stp := false })
    (Wk.le (.cons rfl (.refl _) (.cons rfl (.refl _) (.cons rfl (.refl _) .nil))) (.cons rfl (LLe.refl _) .nil) (.cons rfl .nil) rfl rfl) ?_
  refine Tr.seq (Tr.seqR rfl (by simp) (Tr.condT rfl (Tr.skip ?_)))
  refine Tr.seq (Tr.block ?_)
  refine Tr.regR rfl (by simp [volC]) (Tr.regR rfl (by simp) (TrN.succ ?_))
  refine Tr.weak (s' := { env := [(1, .ptr 1 0), (5, .slice 26 1 [I v.b.x, I v.b.y]), (6, I 2)], bx := [(1, ⟨volC v, false⟩)], rw := [(25, 2, 1, 3)], log := [], stp := false })
    (Wk.le (.cons rfl (.refl _) (.cons rfl (.refl _) (.cons rfl (.refl _) .nil))) (.cons rfl (LLe.refl _) .nil) (.cons rfl .nil) rfl rfl) ?_
  refine Tr.seq (Tr.seqR rfl (by simp) (Tr.condT rfl (Tr.skip ?_)))
  refine Tr.seq (Tr.block ?_)
  refine Tr.regR rfl (by simp [volC]) (Tr.regR rfl (by simp) (TrN.succ ?_))
  refine Tr.weak (s' := { env := [(1, .ptr 1 0), (5, .slice 26 1 [I v.b.x, I v.b.y, I v.b.z]), (6, I 3)], bx := [(1, ⟨volC v, false⟩)], rw := [(25, 3, 1, 3)], log := [], stp := false })
    (Wk.le (.cons rfl (.refl _) (.cons rfl (.refl _) (.cons rfl (.refl _) .nil))) (.cons rfl (LLe.refl _) .nil) (.cons rfl .nil) rfl rfl) ?_
  refine Tr.seq (Tr.seqR rfl (by simp) (Tr.condF rfl (Tr.exit ?_)))
  refine Tr.seq (Tr.seqR rfl (by simp) (Tr.block ?_))
  refine Tr.rounds 4 (TrN.succ ?_)
  refine Tr.seq (Tr.seqR rfl (by simp) (Tr.condT rfl (Tr.skip ?_)))
  refine Tr.seq (Tr.block ?_)
  refine Tr.regR rfl (by simp [volC]) (Tr.regR rfl (by simp) (TrN.succ ?_))
  refine Tr.weak (s' := { env := [(1, .ptr 1 0), (5, .slice 26 1 [I v.b.x, I v.b.y, I v.b.z, I v.b.a]), (7, I 1)], bx := [(1, ⟨volC v, false⟩)], rw := [(25, 4, 1, 3)], log := [], stp := false })
    (Wk.le (.cons rfl (.refl _) (.cons rfl (.refl _) (.cons rfl (.refl _) .nil))) (.cons rfl (LLe.refl _) .nil) (.cons rfl .nil) rfl rfl) ?_
  refine Tr.seq (Tr.seqR rfl (by simp) (Tr.condT rfl (Tr.skip ?_)))
  refine Tr.seq (Tr.block ?_)
  refine Tr.regR rfl (by simp [volC]) (Tr.regR rfl (by simp) (TrN.succ ?_))
  refine Tr.weak (s' := { env := [(1, .ptr 1 0), (5, .slice 26 1 [I v.b.x, I v.b.y, I v.b.z, I v.b.a, I v.b.b]), (7, I 2)], bx := [(1, ⟨volC v, false⟩)], rw := [(25, 5, 1, 3)], log := [], stp := false })
    (Wk.le (.cons rfl (.refl _) (.cons rfl (.refl _) (.cons rfl (.refl _) .nil))) (.cons rfl (LLe.refl _) .nil) (.cons rfl .nil) rfl rfl) ?_
  refine Tr.seq (Tr.seqR rfl (by simp) (Tr.condT rfl (Tr.skip ?_)))
  refine Tr.seq (Tr.block ?_)
  refine Tr.regR rfl (by simp [volC]) (Tr.regR rfl (by simp) (TrN.succ ?_))
  refine Tr.weak (s' := { env := [(1, .ptr 1 0), (5, .slice 26 1 [I v.b.x, I v.b.y, I v.b.z, I v.b.a, I v.b.b, I v.b.c]), (7, I 3)], bx := [(1, ⟨volC v, false⟩)], rw := [(25, 6, 1, 3)], log := [], stp := false })
    (Wk.le (.cons rfl (.refl _) (.cons rfl (.refl _) (.cons rfl (.refl _) .nil))) (.cons rfl (LLe.refl _) .nil) (.cons rfl .nil) rfl rfl) ?_
  refine Tr.seq (Tr.seqR rfl (by simp) (Tr.condF rfl (Tr.exit ?_)))
  refine Tr.seqR rfl (by simp [volC, intsV]; omega) ?_
  have hb6 : (boxL v.b ++ v.v).length = 6 + v.v.length := by simp [boxL]; omega
  have hbd : ∀ x ∈ boxL v.b ++ v.v, -1099511627776 ≤ x ∧ x ≤ 1099511627776 := by
    intro x hx
    rcases List.mem_append.1 hx with h | h
    · exact boxL_bd hbV x h
    · exact hvV x h
  have el : (([I v.b.x, I v.b.y, I v.b.z, I v.b.a, I v.b.b, I v.b.c] : List V) ++ v.v.map I) = (boxL v.b ++ v.v).map I := by simp [boxL]
  refine Tr.seqR rfl (by simp) (Tr.seq (Tr.seqR rfl (by simp) (Tr.block ?_)))
  refine Tr.loop (fun i s => i ≤ (boxL v.b ++ v.v).length ∧ s = { env := [(5, .slice 0 1 ((boxL v.b ++ v.v).map I)), (8, I (((boxL v.b ++ v.v).take i).foldl stepS 1)), (9, I i)], bx := [], rw := [], log := [], stp := false }) (fun i => (boxL v.b ++ v.v).length - i) 0
    (Wk.le (.cons rfl (by rw [← el]; exact .dem _ _ _) (.cons rfl (.refl _) (.cons rfl (.refl _) .nil))) .nil .nil rfl rfl) ⟨by omega, rfl⟩ ?_
  rintro i s ⟨hi, rfl⟩
  refine Tr.seq (Tr.seqR rfl (by simp) (Tr.cond rfl rfl (fun h5 => Tr.skip ?_) (fun h5 => Tr.exit ?_)))
  rotate_left
  · have h5 : i = (boxL v.b ++ v.v).length := by simp at h5; simp at hi; simp; omega
    subst h5
    rw [List.take_length]
    refine Tr.seqR rfl (by simp) (Tr.retX rfl rfl rfl ?_ trivial)
    simp only [packR, sealR, hV]; rfl
  have h5 : i < (boxL v.b ++ v.v).length := by simp at h5 ⊢; omega
  refine Tr.seq (Tr.block (Tr.reg (Steps.runN 5 rfl (by simp; simp at h5; omega) ?_)))
  rw [getD_map h5]
  refine Steps.fin rfl (by simp) (Tr.regR rfl (by simp) ?_)
  obtain ⟨x, hx⟩ : ∃ x, (boxL v.b ++ v.v)[i] = x := ⟨_, rfl⟩
  have hxb := hbd x (hx ▸ List.getElem_mem h5)
  have hfb := fold_bd ((boxL v.b ++ v.v).take i) 1 (by omega)
  refine ⟨i + 1, _, Wk.le (.cons rfl (.refl _) (.cons rfl (VLe.i ?_) (.cons rfl (VLe.i (w64 (by omega) (by omega))) .nil))) .nil .nil rfl rfl, ⟨h5, rfl⟩, by omega⟩
  rw [hx, List.take_add_one, List.getElem?_eq_getElem h5, hx, List.foldl_append]
  exact stepS_eq hfb hxb

theorem c_Seal (v : Vol) (hl : v.v.length ≤ 9223372036854775807) : C Try.prog F.volume_Seal [.agg (volC v)] (sealR v) := by
  refine C_of mixed chk.volume_Seal (by simp) fun S ok => ?_
  refine Tr.seqR rfl (by simp [volC, intsV]) ?_
  have hr := c_blockOf v hl
  unfold blockR at hr
  by_cases hV : volOk v = true
  rotate_left
  · have hV : volOk v = false := by simpa using hV
    rw [hV] at hr
    refine Tr.seqC rfl (by simp [volC]) (Steps.call rfl rfl hr (Steps.fin rfl (by simp) ?_))
    refine Tr.seq (Tr.seqR rfl (by simp) (Tr.condT rfl (Tr.seqR rfl (by simp) (Tr.retX rfl rfl rfl ?_ trivial))))
    simp [packR, sealR, hV]
  rw [hV] at hr
  obtain ⟨hbV, hlV, hvV⟩ := volOk_spec hV
  have hl4 : v.v.length ≤ 4096 := by
    have hlen := boxCells_len (boxOk_spec hbV).1
    have g := small_spec (boxOk_spec hbV).1
    have := boxCells_len' v.b (by omega)
    unfold manyI at hlV; omega
  have hb := boxL_bd hbV
  simp only [boxL, List.mem_cons, List.not_mem_nil, or_false, forall_eq_or_imp, forall_eq] at hb
  obtain ⟨b0, b1, b2, b3, b4, b5⟩ := hb
  refine Tr.seqC rfl (by simp [volC]) (Steps.call rfl rfl hr (Steps.fin rfl (by simp [volC, intsV]) ?_))
  refine Tr.seq (Tr.seqR rfl (by simp) (Tr.condF rfl (Tr.skip ?_)))
  refine Tr.seqR rfl (by simp) (Tr.seq (Tr.seqD rfl (by simp [volC, intsV]) (by kernel_rfl) (Tr.block ?_)))
  obtain ⟨s0, h0⟩ : ∃ s0 : Int, s0 = 1 := ⟨_, rfl⟩
  have g0 : 0 ≤ s0 ∧ s0 < 2147483647 := by omega
  obtain ⟨s1, h1⟩ : ∃ s1, s1 = stepS s0 v.b.x := ⟨_, rfl⟩
  have g1 : 0 ≤ s1 ∧ s1 < 2147483647 := h1 ▸ stepS_bd _ _
  obtain ⟨s2, h2⟩ : ∃ s2, s2 = stepS s1 v.b.y := ⟨_, rfl⟩
  have g2 : 0 ≤ s2 ∧ s2 < 2147483647 := h2 ▸ stepS_bd _ _
  obtain ⟨s3, h3⟩ : ∃ s3, s3 = stepS s2 v.b.z := ⟨_, rfl⟩
  have g3 : 0 ≤ s3 ∧ s3 < 2147483647 := h3 ▸ stepS_bd _ _
  obtain ⟨s4, h4⟩ : ∃ s4, s4 = stepS s3 v.b.a := ⟨_, rfl⟩
  have g4 : 0 ≤ s4 ∧ s4 < 2147483647 := h4 ▸ stepS_bd _ _
  obtain ⟨s5, h5⟩ : ∃ s5, s5 = stepS s4 v.b.b := ⟨_, rfl⟩
  have g5 : 0 ≤ s5 ∧ s5 < 2147483647 := h5 ▸ stepS_bd _ _
  obtain ⟨s6, h6⟩ : ∃ s6, s6 = stepS s5 v.b.c := ⟨_, rfl⟩
  have g6 : 0 ≤ s6 ∧ s6 < 2147483647 := h6 ▸ stepS_bd _ _
  have hseal : sealOf v = v.v.foldl stepS s6 := by
    rw [h6, h5, h4, h3, h2, h1, h0]
    unfold sealOf
    rw [List.foldl_append]
    rfl
  refine Tr.weak (s' := { env := [(6, I s0), (27, .agg [.bsl 4 0 1 3, .bsl 4 3 1 3, intsV v.v]), (28, I 0)], bx := [(4, ⟨volC v, false⟩)], rw := [], log := [], stp := false })
    (Wk.le (.cons rfl (VLe.i h0.symm) (.cons rfl (.refl _) (.cons rfl (.refl _) .nil))) (.cons rfl (LLe.refl _) .nil) .nil rfl rfl) ?_
  refine Tr.rounds 4 (TrN.succ ?_)
  refine Tr.seqR rfl (by simp) (Tr.seq (Tr.condT rfl (Tr.skip ?_)))
  refine Tr.seq (Tr.block (Tr.seqR rfl (by simp [intsV]) (Tr.seqR rfl (by simp) (Tr.block ?_))))
  refine Tr.rounds 4 (TrN.succ ?_)
  refine Tr.seqR rfl (by simp) (Tr.seq (Tr.condT rfl (Tr.skip ?_)))
  refine Tr.seq (Tr.block ?_)
  refine Tr.seqR rfl (by simp [volC]) (Tr.regR rfl (by simp) (Tr.regR rfl (by simp) (TrN.succ ?_)))
  refine Tr.weak (s' := { env := [(6, I s1), (27, .agg [.bsl 4 0 1 3, .bsl 4 3 1 3, intsV v.v]), (28, I 0), (31, .bsl 4 0 1 3), (32, I 3), (33, I 1)], bx := [(4, ⟨volC v, false⟩)], rw := [], log := [], stp := false })
    (Wk.le (.cons rfl (VLe.i (h1 ▸ stepS_eq g0 b0)) (.cons rfl (.refl _) (.cons rfl (.refl _) (.cons rfl (.refl _) (.cons rfl (.refl _) (.cons rfl (VLe.i (by simp)) .nil)))))) (.cons rfl (LLe.refl _) .nil) .nil rfl rfl) ?_
  refine Tr.seqR rfl (by simp) (Tr.seq (Tr.condT rfl (Tr.skip ?_)))
  refine Tr.seq (Tr.block ?_)
  refine Tr.seqR rfl (by simp [volC]) (Tr.regR rfl (by simp) (Tr.regR rfl (by simp) (TrN.succ ?_)))
  refine Tr.weak (s' := { env := [(6, I s2), (27, .agg [.bsl 4 0 1 3, .bsl 4 3 1 3, intsV v.v]), (28, I 0), (31, .bsl 4 0 1 3), (32, I 3), (33, I 2)], bx := [(4, ⟨volC v, false⟩)], rw := [], log := [], stp := false })
    (Wk.le (.cons rfl (VLe.i (h2 ▸ stepS_eq g1 b1)) (.cons rfl (.refl _) (.cons rfl (.refl _) (.cons rfl (.refl _) (.cons rfl (.refl _) (.cons rfl (VLe.i (by simp)) .nil)))))) (.cons rfl (LLe.refl _) .nil) .nil rfl rfl) ?_
  refine Tr.seqR rfl (by simp) (Tr.seq (Tr.condT rfl (Tr.skip ?_)))
  refine Tr.seq (Tr.block ?_)
  refine Tr.seqR rfl (by simp [volC]) (Tr.regR rfl (by simp) (Tr.regR rfl (by simp) (TrN.succ ?_)))
  refine Tr.weak (s' := { env := [(6, I s3), (27, .agg [.bsl 4 0 1 3, .bsl 4 3 1 3, intsV v.v]), (28, I 0), (31, .bsl 4 0 1 3), (32, I 3), (33, I 3)], bx := [(4, ⟨volC v, false⟩)], rw := [], log := [], stp := false })
    (Wk.le (.cons rfl (VLe.i (h3 ▸ stepS_eq g2 b2)) (.cons rfl (.refl _) (.cons rfl (.refl _) (.cons rfl (.refl _) (.cons rfl (.refl _) (.cons rfl (VLe.i (by simp)) .nil)))))) (.cons rfl (LLe.refl _) .nil) .nil rfl rfl) ?_
  refine Tr.seqR rfl (by simp) (Tr.seq (Tr.condF rfl (Tr.exit ?_)))
  refine Tr.regR rfl (by simp) (TrN.succ ?_)
  refine Tr.weak (s' := { env := [(6, I s3), (27, .agg [.bsl 4 0 1 3, .bsl 4 3 1 3, intsV v.v]), (28, I 1)], bx := [(4, ⟨volC v, false⟩)], rw := [], log := [], stp := false })
    (Wk.le (.cons rfl (.refl _) (.cons rfl (.refl _) (.cons rfl (VLe.i (by simp)) .nil))) (.cons rfl (LLe.refl _) .nil) .nil rfl rfl) ?_
  refine Tr.seqR rfl (by simp) (Tr.seq (Tr.condT rfl (Tr.skip ?_)))
  refine Tr.seq (Tr.block (Tr.seqR rfl (by simp [intsV]) (Tr.seqR rfl (by simp) (Tr.block ?_))))
  refine Tr.rounds 4 (TrN.succ ?_)
  refine Tr.seqR rfl (by simp) (Tr.seq (Tr.condT rfl (Tr.skip ?_)))
  refine Tr.seq (Tr.block ?_)
  refine Tr.seqR rfl (by simp [volC]) (Tr.regR rfl (by simp) (Tr.regR rfl (by simp) (TrN.succ ?_)))
  refine Tr.weak (s' := { env := [(6, I s4), (27, .agg [.bsl 4 0 1 3, .bsl 4 3 1 3, intsV v.v]), (28, I 1), (31, .bsl 4 3 1 3), (32, I 3), (33, I 1)], bx := [(4, ⟨volC v, false⟩)], rw := [], log := [], stp := false })
    (Wk.le (.cons rfl (VLe.i (h4 ▸ stepS_eq g3 b3)) (.cons rfl (.refl _) (.cons rfl (.refl _) (.cons rfl (.refl _) (.cons rfl (.refl _) (.cons rfl (VLe.i (by simp)) .nil)))))) (.cons rfl (LLe.refl _) .nil) .nil rfl rfl) ?_
  refine Tr.seqR rfl (by simp) (Tr.seq (Tr.condT rfl (Tr.skip ?_)))
  refine Tr.seq (Tr.block ?_)
  refine Tr.seqR rfl (by simp [volC]) (Tr.regR rfl (by simp) (Tr.regR rfl (by simp) (TrN.succ ?_)))
  refine Tr.weak (s' := { env := [(6, I s5), (27, .agg [.bsl 4 0 1 3, .bsl 4 3 1 3, intsV v.v]), (28, I 1), (31, .bsl 4 3 1 3), (32, I 3), (33, I 2)], bx := [(4, ⟨volC v, false⟩)], rw := [], log := [], stp := false })
    (Wk.le (.cons rfl (VLe.i (h5 ▸ stepS_eq g4 b4)) (.cons rfl (.refl _) (.cons rfl (.refl _) (.cons rfl (.refl _) (.cons rfl (.refl _) (.cons rfl (VLe.i (by simp)) .nil)))))) (.cons rfl (LLe.refl _) .nil) .nil rfl rfl) ?_
  refine Tr.seqR rfl (by simp) (Tr.seq (Tr.condT rfl (Tr.skip ?_)))
  refine Tr.seq (Tr.block ?_)
  refine Tr.seqR rfl (by simp [volC]) (Tr.regR rfl (by simp) (Tr.regR rfl (by simp) (TrN.succ ?_)))
  refine Tr.weak (s' := { env := [(6, I s6), (27, .agg [.bsl 4 0 1 3, .bsl 4 3 1 3, intsV v.v]), (28, I 1), (31, .bsl 4 3 1 3), (32, I 3), (33, I 3)], bx := [(4, ⟨volC v, false⟩)], rw := [], log := [], stp := false })
    (Wk.le (.cons rfl (VLe.i (h6 ▸ stepS_eq g5 b5)) (.cons rfl (.refl _) (.cons rfl (.refl _) (.cons rfl (.refl _) (.cons rfl (.refl _) (.cons rfl (VLe.i (by simp)) .nil)))))) (.cons rfl (LLe.refl _) .nil) .nil rfl rfl) ?_
  refine Tr.seqR rfl (by simp) (Tr.seq (Tr.condF rfl (Tr.exit ?_)))
  refine Tr.regR rfl (by simp) (TrN.succ ?_)
  refine Tr.weak (s' := { env := [(6, I s6), (27, .agg [.bsl 4 0 1 3, .bsl 4 3 1 3, intsV v.v]), (28, I 2)], bx := [(4, ⟨volC v, false⟩)], rw := [], log := [], stp := false })
    (Wk.le (.cons rfl (.refl _) (.cons rfl (.refl _) (.cons rfl (VLe.i (by simp)) .nil))) (.cons rfl (LLe.refl _) .nil) .nil rfl rfl) ?_
  refine Tr.seqR rfl (by simp) (Tr.seq (Tr.condT rfl (Tr.skip ?_)))
  refine Tr.seq (Tr.block (Tr.seqR rfl (by simp [intsV]) (Tr.seqR rfl (by simp) (Tr.block ?_))))
  refine Tr.loop (fun i s => i ≤ v.v.length ∧ s = { env := [(6, I ((v.v.take i).foldl stepS s6)), (27, .agg [.bsl 4 0 1 3, .bsl 4 3 1 3, intsV v.v]), (28, I 2), (31, intsV v.v), (32, I v.v.length), (33, I i)], bx := [(4, ⟨volC v, false⟩)], rw := [], log := [], stp := false }) (fun i => v.v.length - i) 0
    (Wk.le (.cons rfl (.refl _) (.cons rfl (.refl _) (.cons rfl (.refl _) (.cons rfl (.refl _) (.cons rfl (VLe.i (by simp)) (.cons rfl (.refl _) .nil)))))) (.cons rfl (LLe.refl _) .nil) .nil rfl rfl) ⟨by omega, rfl⟩ ?_
  rintro i s ⟨hi, rfl⟩
  refine Tr.seqR rfl (by simp) (Tr.seq (Tr.cond rfl rfl (fun h5 => Tr.skip ?_) (fun h5 => Tr.exit ?_)))
  rotate_left
  · have h5 : i = v.v.length := by simp at h5; omega
    subst h5
    rw [List.take_length]
    refine Tr.regR rfl (by simp) (TrN.succ ?_)
    refine Tr.seqR rfl (by simp) (Tr.seq (Tr.condF rfl (Tr.exit ?_)))
    refine Tr.seqR rfl (by simp) (Tr.retX rfl rfl rfl ?_ trivial)
    simp [packR, sealR, hV, hseal]
  have h5 : i < v.v.length := by simpa using h5
  refine Tr.seq (Tr.block (Tr.seqN 1 rfl (by simp [intsV]; omega) ?_))
  rw [getD_map h5]
  refine Steps.fin rfl (by simp) (Tr.regR rfl (by simp) (Tr.regR rfl (by simp) ?_))
  have hfb := fold_bd (v.v.take i) s6 g6
  refine ⟨i + 1, _, Wk.le (.cons rfl (VLe.i ?_) (.cons rfl (.refl _) (.cons rfl (.refl _) (.cons rfl (.refl _) (.cons rfl (.refl _) (.cons rfl (VLe.i (w64 (by omega) (by omega))) .nil)))))) (.cons rfl (LLe.refl _) .nil) .nil rfl rfl, ⟨h5, rfl⟩, by omega⟩
  rw [List.take_add_one, List.getElem?_eq_getElem h5, List.foldl_append]
  exact stepS_eq hfb (hvV _ (List.getElem_mem h5))

end Go.Proofs.Ytkifejklnpddbaa

/-! Own copies; what a change of one value does to a seal. -/
set_option linter.unusedVariables false
set_option linter.unusedSimpArgs false
set_option maxRecDepth 20000
set_option maxHeartbeats 2000000
namespace Go.Proofs.Ytkifejklnpddbaa
open Go.Am
attribute [local simp] cells scalar mkv splice under2 under dem dem1

theorem flat_ints (l : List Int) : (l.map I).flatMap cells = l.map I := by
  induction l with
  | nil => rfl
  | cons a l ih => rw [List.map_cons, List.flatMap_cons, ih]; rfl

theorem ints_isD (l : List Int) : (l.map I).all isD = true := by
  rw [List.all_eq_true]
  intro x hx
  obtain ⟨n, _, rfl⟩ := List.mem_map.1 hx
  rfl

theorem ints_refs (l : List Int) (B : Nat → Bool) (R : Nat → Option (Nat × Nat × Nat)) : (l.map I).all (refsOk B R 6) = true := by
  rw [List.all_eq_true]
  intro x hx
  obtain ⟨n, _, rfl⟩ := List.mem_map.1 hx
  rfl

theorem okI {k : Nat} {l : List Int} {env : List (Nat × V)} {bx : List (Nat × Box)} {rw : List (Nat × Nat × Nat × Nat)} (h : okRefs env ((k, ⟨[], false⟩) :: bx) rw = true) : okRefs env ((k, ⟨l.map I, false⟩) :: bx) rw = true := by
  have e : hasKey ((k, (⟨l.map I, false⟩ : Box)) :: bx) = hasKey ((k, (⟨[], false⟩ : Box)) :: bx) := rfl
  unfold okRefs at h ⊢
  rw [e]
  rw [Bool.and_eq_true] at h ⊢
  refine ⟨h.1, ?_⟩
  have h2 := h.2
  rw [List.all_cons, Bool.and_eq_true] at h2 ⊢
  exact ⟨ints_refs _ _ _, h2.2⟩

theorem holds_ints (l : List Int) : Holds (l.map I) 0 1 l.length (l.map I) := by
  refine ⟨by omega, by simp, fun x hx => ?_, ?_, fun x hx => ?_⟩
  · obtain ⟨c, _, rfl⟩ := List.mem_map.1 hx; rfl
  · rw [List.drop_zero, List.take_of_length_le (by simp), flat_ints]
  · obtain ⟨c, _, rfl⟩ := List.mem_map.1 hx; rfl

theorem c_Own {l : List Int} (h0 : l ≠ []) (hl : l.length ≤ 1000000) : CO Try.prog F.ref00_Own [intsV l] 1 (l.map I) := by
  refine CO_of mixed chk.ref00_Own (by simp) fun S ok => ?_
  refine Tr.seqR rfl (by simp) (Tr.seqR rfl (by simp) ?_)
  refine Tr.seqN 2 rfl (by simp) ?_
  refine Steps.appendBox (r := 0) (ys := l.map I) rfl rfl (by omega) (by simp; omega) (by simp; omega) (by simpa using h0) ?_
  refine Steps.fin rfl (by simp) (Tr.ret ?_)
  exact ⟨6, rfl, rfl, by rw [flat_ints]; exact ints_isD l⟩

/-! ### Seals -/
def dvP (n : Int) : Prop := n % 2147483647 = 0

theorem dv_mul (n : Int) : dvP (n * 48271) ↔ dvP n := by
  unfold dvP
  constructor
  · intro h
    have h1 : (n * 48271 * 1899818559) % 2147483647 = 0 := by rw [Int.mul_emod, h]; rfl
    omega
  · intro h
    rw [Int.mul_emod, h]; rfl

theorem step_dv (n m x : Int) : dvP (stepS n x - stepS m x) ↔ dvP (n - m) := by
  rw [← dv_mul (n - m)]
  unfold dvP stepS
  omega

theorem fold_dv (L : List Int) : ∀ (n m : Int), dvP (L.foldl stepS n - L.foldl stepS m) ↔ dvP (n - m) := by
  induction L with
  | nil => intro n m; exact Iff.rfl
  | cons x L ih => intro n m; rw [List.foldl_cons, List.foldl_cons, ih, step_dv]

theorem change_dv (A B : List Int) (x d n : Int) : dvP ((A ++ (x + d) :: B).foldl stepS n - (A ++ x :: B).foldl stepS n) ↔ dvP d := by
  rw [List.foldl_append, List.foldl_append, List.foldl_cons, List.foldl_cons, fold_dv]
  unfold dvP stepS
  omega

theorem seal_bd (v : Vol) : 0 ≤ sealOf v ∧ sealOf v < 2147483647 := fold_bd _ _ (by omega)

/-- **A CHANGE OF ONE VALUE** changes the seal, unless it is by a multiple. -/
theorem seal_change (v : Vol) {k : Nat} (hk : k < v.v.length) (d : Int) : sealOf v = sealOf ⟨v.b, v.v.set k (v.v[k] + d)⟩ ↔ dvP d := by
  have e1 : boxL v.b ++ v.v = (boxL v.b ++ v.v.take k) ++ v.v[k] :: v.v.drop (k + 1) := by
    rw [List.append_assoc, ← List.drop_eq_getElem_cons hk, List.take_append_drop]
  have e2 : boxL v.b ++ v.v.set k (v.v[k] + d) = (boxL v.b ++ v.v.take k) ++ (v.v[k] + d) :: v.v.drop (k + 1) := by
    rw [List.append_assoc, List.set_eq_take_append_cons_drop, if_pos hk]
  have h := change_dv (boxL v.b ++ v.v.take k) (v.v.drop (k + 1)) v.v[k] d 1
  rw [← e1, ← e2] at h
  have b1 := seal_bd v
  have b2 := seal_bd ⟨v.b, v.v.set k (v.v[k] + d)⟩
  have f1 : sealOf v = (boxL v.b ++ v.v).foldl stepS 1 := rfl
  have f2 : sealOf ⟨v.b, v.v.set k (v.v[k] + d)⟩ = (boxL v.b ++ v.v.set k (v.v[k] + d)).foldl stepS 1 := rfl
  rw [← f1, ← f2] at h
  rw [← h]
  unfold dvP
  omega

end Go.Proofs.Ytkifejklnpddbaa

/-! Plain facts: values and enclosures as sums over what is near. -/
set_option linter.unusedVariables false
set_option linter.unusedSimpArgs false
set_option maxRecDepth 20000
namespace Go.Proofs.Ytkifejklnpddbaa
open Go.Am

theorem w_range (n : Int) : -9223372036854775808 ≤ w n ∧ w n < 9223372036854775808 := by
  have e : ∀ m : Int, m = n % 18446744073709551616 → -9223372036854775808 ≤ (if (true && decide (m ≥ 9223372036854775808)) = true then m - 18446744073709551616 else m) ∧ (if (true && decide (m ≥ 9223372036854775808)) = true then m - 18446744073709551616 else m) < 9223372036854775808 := by
    intro m hm
    by_cases h : m ≥ 9223372036854775808
    · simp only [h, decide_true, Bool.and_self, if_true]; omega
    · simp only [h, decide_false, Bool.and_false, Bool.false_eq_true, if_false]; omega
  exact e _ rfl

theorem w_w (n : Int) : w (w n) = w n := w64 (w_range n).1 (w_range n).2

/-- What the sample at a time is; nothing, if there is none. -/
def smp (s : List (Int × Int)) (z d slow : Int) : Int × Int := s.getD (timeN z d slow).toNat (0, 0)
def valC (h : Ear) (z : Int) (p : Int × Int) : Int × Int := smp (sAt h p.1) z p.2 h.slow.1

def nrm (a : Int × Int) : Prop := w a.1 = a.1 ∧ w a.2 = a.2
theorem nrm_plus (a b : Int × Int) : nrm (plusB a b) := ⟨w_w _, w_w _⟩
theorem nrm0 : nrm (0, 0) := ⟨w64 (by omega) (by omega), w64 (by omega) (by omega)⟩
theorem plus0 {a : Int × Int} (h : nrm a) : plusB a (0, 0) = a := by
  obtain ⟨x, y⟩ := a
  obtain ⟨h1, h2⟩ := h
  simp only at h1 h2
  simp only [plusB, Int.add_zero, h1, h2]

theorem fold_filter {α β : Type} (f : α → Option β) (g : β → Int × Int) : ∀ (L : List α) (acc : Int × Int), nrm acc →
    ((L.filterMap f).map g).foldl plusB acc = (L.map fun p => match f p with | some r => g r | none => (0, 0)).foldl plusB acc
  | [], acc, _ => rfl
  | p :: r, acc, h => by
    simp only [List.filterMap_cons, List.map_cons, List.foldl_cons]
    cases hf : f p with
    | none => simp only [plus0 h]; exact fold_filter f g r acc h
    | some q => simp only [List.map_cons, List.foldl_cons]; exact fold_filter f g r _ (nrm_plus _ _)

theorem map_congr' {α β : Type} {f g : α → β} {L : List α} (h : ∀ p ∈ L, f p = g p) : L.map f = L.map g := List.map_congr_left h

theorem value_sum (h : Ear) (x y z : Int) : valueB h x y z = ((nears h.aper x y h.l 0).map (valC h z)).foldl plusB (0, 0) := by
  unfold valueB namedL
  rw [fold_filter _ _ _ _ nrm0]
  congr 1
  refine map_congr' fun p hp => ?_
  obtain ⟨i, h1, h2⟩ := nears_mem hp
  have h1 : p.1 = (i : Int) := by simpa using h1
  have h0 := timeN_nn z p.2 h.slow.1
  have es : sAt h p.1 = h.l[i].s := by simp [sAt, h1, List.getElem?_eq_getElem h2]
  unfold refOf valC smp
  rw [es, h1]
  simp only [Int.toNat_natCast, List.getElem?_eq_getElem h2, Option.map_some, Option.getD_some]
  by_cases hc : timeN z p.2 h.slow.1 < (h.l[i].s.length : Int)
  · rw [if_pos hc]
    simp [boundAt, List.getElem?_eq_getElem h2, List.getD_eq_getElem?_getD]
  · rw [if_neg hc, List.getD_eq_getElem?_getD, List.getElem?_eq_none (by omega)]
    rfl

theorem reach_one (s : List (Int × Int)) (z d q : Int) : reachB s z d (q, q) = smp s z d q := by
  have h0 := timeN_nn z d q
  unfold reachB smp
  simp only
  obtain ⟨t, ht⟩ : ∃ t : Nat, timeN z d q = (t : Int) := ⟨_, (Int.toNat_of_nonneg h0).symm⟩
  rw [ht, Int.toNat_natCast]
  by_cases h1 : t < s.length
  · rw [reachG_drop h1, if_pos (Int.le_refl _), List.getD_eq_getElem?_getD, List.getElem?_eq_getElem h1]
    have e : decide ((t : Int) ≥ (s.length : Int)) = false := by simp; omega
    rw [e]
    simp only [stepB, Bool.false_eq_true, if_false, Option.getD_some]
    by_cases h2 : t + 1 < s.length
    · rw [reachG_drop h2, if_neg (by omega)]
    · rw [List.drop_eq_nil_of_le (by omega)]; rfl
  · rw [List.drop_eq_nil_of_le (by omega), List.getD_eq_getElem?_getD, List.getElem?_eq_none (by omega)]; rfl

/-- **ONE SLOWNESS**: the enclosure is the value. -/
theorem enc_one (l : List Echo) (aper q : Int) (p : Int × Int × Int) : encOf l aper (q, q) p = valOf l aper q p := by
  unfold encOf valOf encB
  rw [value_sum]
  congr 1
  refine map_congr' fun p _ => ?_
  exact reach_one _ _ _ _

/-! ### Bounds within bounds -/
def ins (a b : Int × Int) : Prop := b.1 ≤ a.1 ∧ a.2 ≤ b.2
def bdd (n : Int) (a : Int × Int) : Prop := (-n ≤ a.1 ∧ a.1 ≤ n) ∧ (-n ≤ a.2 ∧ a.2 ≤ n)

theorem fold_ins {α : Type} (f g : α → Int × Int) (L : List α) : ∀ (n : Int) (a b : Int × Int), 0 ≤ n → n + L.length ≤ 1000 → (∀ p ∈ L, bdd 16777216 (f p) ∧ bdd 16777216 (g p) ∧ ins (f p) (g p)) → bdd (n * 16777216) a → bdd (n * 16777216) b → ins a b →
    ins ((L.map f).foldl plusB a) ((L.map g).foldl plusB b) := by
  induction L with
  | nil => intro n a b _ _ _ _ _ h; exact h
  | cons p r ih =>
    intro n a b h0 hn hf ha hb h
    obtain ⟨h1, h2, h3⟩ := hf p (by simp)
    simp only [List.map_cons, List.foldl_cons]
    simp only [List.length_cons] at hn
    unfold bdd at ha hb h1 h2
    have e1 : plusB a (f p) = (a.1 + (f p).1, a.2 + (f p).2) := by
      unfold plusB; rw [show w (a.1 + (f p).1) = a.1 + (f p).1 from w64 (by omega) (by omega), show w (a.2 + (f p).2) = a.2 + (f p).2 from w64 (by omega) (by omega)]
    have e2 : plusB b (g p) = (b.1 + (g p).1, b.2 + (g p).2) := by
      unfold plusB; rw [show w (b.1 + (g p).1) = b.1 + (g p).1 from w64 (by omega) (by omega), show w (b.2 + (g p).2) = b.2 + (g p).2 from w64 (by omega) (by omega)]
    rw [e1, e2]
    unfold ins at h h3
    refine ih (n + 1) _ _ (by omega) (by omega) (fun q hq => hf q (List.mem_cons_of_mem _ hq)) ?_ ?_ ?_
    · unfold bdd; simp only; omega
    · unfold bdd; simp only; omega
    · unfold ins; simp only; omega

theorem fold_diag {α : Type} (f : α → Int × Int) : ∀ (L : List α) (a : Int × Int), (∀ p ∈ L, (f p).1 = (f p).2) → a.1 = a.2 → ((L.map f).foldl plusB a).1 = ((L.map f).foldl plusB a).2
  | [], a, _, h => h
  | p :: r, a, hf, h => by
    simp only [List.map_cons, List.foldl_cons]
    refine fold_diag f r _ (fun q hq => hf q (List.mem_cons_of_mem _ hq)) ?_
    simp only [plusB, h, hf p (by simp)]

theorem ins_refl (a : Int × Int) : ins a a := ⟨Int.le_refl _, Int.le_refl _⟩
theorem ins_trans {a b c : Int × Int} (h : ins a b) (k : ins b c) : ins a c := ⟨Int.le_trans k.1 h.1, Int.le_trans h.2 k.2⟩

theorem reachG_wide (to : Int) : ∀ (r : List (Int × Int)) (t : Nat) (out : Int × Int), ins out (reachG to r t true out)
  | [], t, out => ins_refl _
  | b :: r, t, out => by
    unfold reachG
    split
    · refine ins_trans ?_ (reachG_wide to r (t + 1) _)
      unfold ins stepB; simp only [if_true]; omega
    · exact ins_refl _

theorem reachG_has (to : Int) : ∀ (r : List (Int × Int)) (t : Nat) (is : Bool) (out : Int × Int) (j : Nat) (h : j < r.length), ((t + j : Nat) : Int) ≤ to → ins r[j] (reachG to r t is out)
  | [], t, is, out, j, h, _ => by simp at h
  | b :: r, t, is, out, j, h, hj => by
    unfold reachG
    rw [if_pos (by omega)]
    cases j with
    | zero =>
      refine ins_trans ?_ (reachG_wide to r (t + 1) _)
      unfold ins stepB
      cases is
      · simp
      · simp only [if_true, List.getElem_cons_zero]; omega
    | succ j =>
      rw [List.getElem_cons_succ]
      exact reachG_has to r (t + 1) true _ j (by simpa using h) (by rw [show t + 1 + j = t + (j + 1) by omega]; exact hj)

theorem reachG_bdd {n : Int} (to : Int) : ∀ (r : List (Int × Int)) (t : Nat) (is : Bool) (out : Int × Int), (∀ b ∈ r, bdd n b) → bdd n out → bdd n (reachG to r t is out)
  | [], t, is, out, _, h => h
  | b :: r, t, is, out, hr, h => by
    unfold reachG
    split
    · refine reachG_bdd to r (t + 1) true _ (fun b hb => hr b (List.mem_cons_of_mem _ hb)) ?_
      have hb := hr b (by simp)
      unfold stepB
      split
      · unfold bdd at h hb ⊢; simp only; omega
      · exact hb
    · exact h

/-- A time between the least and the greatest one: the sample lies in what may be reached. -/
theorem smp_reach (s : List (Int × Int)) (z d q : Int) (sl : Int × Int) (h1 : timeN z d sl.1 ≤ timeN z d q) (h2 : timeN z d q ≤ timeN z d sl.2) : ins (smp s z d q) (reachB s z d sl) := by
  have h0 := timeN_nn z d sl.1
  unfold smp reachB
  by_cases h : (timeN z d q).toNat < s.length
  · rw [List.getD_eq_getElem?_getD, List.getElem?_eq_getElem h]
    have hj : (timeN z d q).toNat - (timeN z d sl.1).toNat < (s.drop (timeN z d sl.1).toNat).length := by rw [List.length_drop]; omega
    have := reachG_has (timeN z d sl.2) (s.drop (timeN z d sl.1).toNat) (timeN z d sl.1).toNat (decide (timeN z d sl.2 ≥ s.length)) (0, 0) _ hj (by omega)
    rw [List.getElem_drop] at this
    simpa [show (timeN z d sl.1).toNat + ((timeN z d q).toNat - (timeN z d sl.1).toNat) = (timeN z d q).toNat by omega] using this
  · rw [List.getD_eq_getElem?_getD, List.getElem?_eq_none (by omega)]
    have e : decide (timeN z d sl.2 ≥ (s.length : Int)) = true := by simp; omega
    rw [e]
    exact reachG_wide _ _ _ _

theorem isq_mono {a b : Int} (h0 : 0 ≤ a) (h : a ≤ b) (h1 : b ≤ 1099511627776) : isq a ≤ isq b := by
  obtain ⟨a0, a1, a2⟩ := isq_spec h0 (by omega)
  obtain ⟨b0, b1, b2⟩ := isq_spec (n := b) (by omega) h1
  have := sq_lt a0 (b := isq b + 1) (by omega) (by omega)
  omega

theorem timeN_mono {z d s t : Int} (hz : 0 ≤ z ∧ z ≤ 64) (hd : 0 ≤ d ∧ d ≤ 100000) (hs : 0 ≤ s) (h : s ≤ t) (ht : t ≤ 4096) : timeN z d s ≤ timeN z d t := by
  have m0 : 0 ≤ z * z ∧ z * z ≤ 64 * 64 := ⟨Int.mul_nonneg hz.1 hz.1, Int.mul_le_mul hz.2 hz.2 hz.1 (by omega)⟩
  have m1 : 0 ≤ s * d ∧ s * d ≤ 4096 * 100000 := ⟨Int.mul_nonneg hs hd.1, Int.mul_le_mul (by omega) hd.2 hd.1 (by omega)⟩
  have m2 : 0 ≤ t * d ∧ t * d ≤ 4096 * 100000 := ⟨Int.mul_nonneg (by omega) hd.1, Int.mul_le_mul (by omega) hd.2 hd.1 (by omega)⟩
  have m3 : s * d ≤ t * d := Int.mul_le_mul_of_nonneg_right h hd.1
  have q1 : (s * d).tdiv 64 = s * d / 64 := Int.tdiv_eq_ediv_of_nonneg m1.1
  have q2 : (t * d).tdiv 64 = t * d / 64 := Int.tdiv_eq_ediv_of_nonneg m2.1
  have e1 : IntKind.wrap .i64 (IntKind.wrap .i64 (z * z) + IntKind.wrap .i64 ((IntKind.wrap .i64 (s * d)).tdiv 64)) = z * z + s * d / 64 := by
    rw [w64 (n := z * z) (by omega) (by omega), w64 (n := s * d) (by omega) (by omega), q1, w64 (n := s * d / 64) (by omega) (by omega), w64 (by omega) (by omega)]
  have e2 : IntKind.wrap .i64 (IntKind.wrap .i64 (z * z) + IntKind.wrap .i64 ((IntKind.wrap .i64 (t * d)).tdiv 64)) = z * z + t * d / 64 := by
    rw [w64 (n := z * z) (by omega) (by omega), w64 (n := t * d) (by omega) (by omega), q2, w64 (n := t * d / 64) (by omega) (by omega), w64 (by omega) (by omega)]
  unfold timeN
  rw [e1, e2]
  unfold rootN
  rw [if_pos (by simp [btw]; omega), if_pos (by simp [btw]; omega)]
  exact isq_mono (by omega) (by omega) (by omega)

/-- Distances of echoes. -/
theorem dst_bd {x y : Int} {e : Echo} (hx : -64 ≤ x ∧ x ≤ 64) (hy : -64 ≤ y ∧ y ≤ 64) (he : (-64 ≤ e.x ∧ e.x ≤ 64) ∧ (-64 ≤ e.y ∧ e.y ≤ 64)) : dst x y e = (x - e.x) * (x - e.x) + (y - e.y) * (y - e.y) ∧ 0 ≤ dst x y e ∧ dst x y e ≤ 32768 := by
  have sq : ∀ a : Int, -128 ≤ a → a ≤ 128 → 0 ≤ a * a ∧ a * a ≤ 16384 := fun a h1 h2 => by
    rcases Int.le_total 0 a with h | h
    · exact ⟨Int.mul_nonneg h h, Int.mul_le_mul h2 h2 h (by omega)⟩
    · have e : a * a = (-a) * (-a) := by rw [Int.neg_mul_neg]
      rw [e]
      exact ⟨Int.mul_nonneg (by omega) (by omega), Int.mul_le_mul (c := 128) (d := 128) (by omega) (by omega) (by omega) (by omega)⟩
  have a1 := sq (x - e.x) (by omega) (by omega)
  have a2 := sq (y - e.y) (by omega) (by omega)
  have e1 : dst x y e = (x - e.x) * (x - e.x) + (y - e.y) * (y - e.y) := by
    unfold dst
    rw [show w (x - e.x) = x - e.x from w64 (by omega) (by omega), show w (y - e.y) = y - e.y from w64 (by omega) (by omega), show w ((x - e.x) * (x - e.x)) = _ from w64 (by omega) (by omega), show w ((y - e.y) * (y - e.y)) = _ from w64 (by omega) (by omega)]
    exact w64 (by omega) (by omega)
  omega

theorem nears_dst {aper x y : Int} : ∀ {l : List Echo} {k : Nat} {p : Int × Int}, p ∈ nears aper x y l k → ∃ i : Nat, ∃ h : i < l.length, p.1 = ((k + i : Nat) : Int) ∧ p.2 = dst x y l[i] ∧ hears aper x y l[i] = true
  | [], k, p, h => by simp [nears] at h
  | e :: r, k, p, h => by
    simp only [nears] at h
    have rest : p ∈ nears aper x y r (k + 1) → ∃ i : Nat, ∃ h : i < (e :: r).length, p.1 = ((k + i : Nat) : Int) ∧ p.2 = dst x y (e :: r)[i] ∧ hears aper x y (e :: r)[i] = true := fun h => by
      obtain ⟨i, h1, h2, h3, h4⟩ := nears_dst h
      exact ⟨i + 1, by simpa using h1, by rw [h2]; congr 1; omega, by simpa using h3, by simpa using h4⟩
    split at h
    · rename_i hh
      rcases List.mem_cons.1 h with rfl | h
      · exact ⟨0, by simp, by simp, rfl, hh⟩
      · exact rest h
    · exact rest h

theorem echoOk_spec {e : Echo} (h : echoOk e = true) : ((-64 ≤ e.x ∧ e.x ≤ 64) ∧ (-64 ≤ e.y ∧ e.y ≤ 64)) ∧ (1 ≤ e.s.length ∧ e.s.length ≤ 64) ∧ ∀ b ∈ e.s, -16777216 ≤ b.1 ∧ b.1 ≤ b.2 ∧ b.2 ≤ 16777216 := by
  simp only [echoOk, btw, Bool.and_eq_true, decide_eq_true_eq, List.all_eq_true, loud] at h
  obtain ⟨⟨⟨h1, h2⟩, h3⟩, h4⟩ := h
  exact ⟨by omega, by omega, fun b hb => by have := h4 b hb; omega⟩

theorem echoesOk_spec {l : List Echo} (h : echoesOk l = true) : l.length ≤ 32 ∧ ∀ e ∈ l, echoOk e = true := by
  simp only [echoesOk, Bool.and_eq_true, decide_eq_true_eq, List.all_eq_true] at h
  exact h

end Go.Proofs.Ytkifejklnpddbaa

/-! Contracts: numbers chosen around; samples chosen within bounds; images within images. -/
set_option linter.unusedVariables false
set_option linter.unusedSimpArgs false
set_option maxRecDepth 20000
set_option maxHeartbeats 1000000
namespace Go.Proofs.Ytkifejklnpddbaa
open Go.Am
attribute [local simp] cells scalar mkv splice under2 under dem dem1 eB

def restI (n m : Int) : Int := if m < 1 then 0 else n % m

theorem rest_tmod {n m : Int} (hm : 1 ≤ m) : (n.tmod m < 0 → n.tmod m + m = n % m) ∧ (¬ n.tmod m < 0 → n.tmod m = n % m) := by
  have h1 := Int.emod_nonneg n (show m ≠ 0 by omega)
  have h2 := Int.emod_lt_of_pos n (show 0 < m by omega)
  have h3 := Int.tmod_eq_emod (a := n) (b := m)
  split at h3
  · omega
  · have : (m.natAbs : Int) = m := by omega
    omega

theorem restI_bd {n m : Int} (hm : 1 ≤ m) : 0 ≤ restI n m ∧ restI n m < m := by
  unfold restI
  rw [if_neg (by omega)]
  exact ⟨Int.emod_nonneg n (by omega), Int.emod_lt_of_pos n (by omega)⟩

theorem c_Rest (n m : Int) (hm : m ≤ 9223372036854775807) : C Try.prog F.ref00_Rest [I n, I m] (I (restI n m)) := by
  refine C_of mixed chk.ref00_Rest (by simp) fun S ok => ?_
  refine Tr.seqR rfl (by simp) (Tr.seq (Tr.seqR rfl (by simp) (Tr.cond rfl rfl (fun h1 => Tr.seqR rfl (by simp) (Tr.retX rfl rfl rfl ?_ trivial)) (fun h1 => Tr.skip ?_))))
  · have h1 : m < 1 := by simpa using h1
    simp [packR, restI, h1]
  have h1 : ¬ m < 1 := by simpa using h1
  have hr := restI_bd (n := n) (m := m) (by omega)
  obtain ⟨k1, k2⟩ := rest_tmod (n := n) (m := m) (by omega)
  have e : restI n m = n % m := by unfold restI; rw [if_neg h1]
  refine Tr.seqR rfl (by simp; omega) (Tr.seq (Tr.seqR rfl (by simp) (Tr.cond rfl rfl (fun h2 => Tr.regR rfl (by simp) ?_) (fun h2 => Tr.skip ?_))))
  · have h2 : n.tmod m < 0 := by simpa using h2
    refine Tr.seqR rfl (by simp) (Tr.retX rfl rfl rfl ?_ trivial)
    show I (restI n m) = I (IntKind.i64.wrap (n.tmod m + m))
    rw [e, k1 h2, w64 (by omega) (by omega)]
  · have h2 : ¬ n.tmod m < 0 := by simpa using h2
    refine Tr.seqR rfl (by simp) (Tr.retX rfl rfl rfl ?_ trivial)
    show I (restI n m) = I (n.tmod m)
    rw [e, k2 h2]

def pickI (l : List Int) (i : Int) : Int := l.getD (restI i l.length).toNat 0

theorem c_Pick (l : List Int) (i : Int) (hl : l.length ≤ 9223372036854775807) : C Try.prog F.ref00_Pick [intsV l, I i] (I (pickI l i)) := by
  refine C_of mixed chk.ref00_Pick (by simp) fun S ok => ?_
  refine Tr.seqR rfl (by simp) (Tr.seq (Tr.seqR rfl (by simp [intsV]) (Tr.cond rfl rfl (fun h1 => Tr.seqR rfl (by simp) (Tr.retX rfl rfl rfl ?_ trivial)) (fun h1 => Tr.skip ?_))))
  · have h1 : l = [] := by simpa using h1
    subst h1; rfl
  have h1 : l ≠ [] := by simpa using h1
  have h0 : 0 < l.length := List.length_pos_iff.2 h1
  have hb := restI_bd (n := i) (m := l.length) (by omega)
  obtain ⟨q, hq⟩ : ∃ q : Nat, restI i l.length = (q : Int) := ⟨(restI i l.length).toNat, by omega⟩
  have hql : q < l.length := by omega
  have hc : C Try.prog F.ref00_Rest [I i, I ((l.map I).length : Int)] (I (q : Int)) := by
    rw [List.length_map]; exact hq ▸ c_Rest i l.length (by omega)
  refine Tr.seqC rfl (by simp [intsV]) (Steps.call rfl rfl hc (Steps.runN 1 rfl (by simp [intsV]; omega) ?_))
  rw [getD_map hql]
  refine Steps.fin rfl (by simp) (Tr.retX rfl rfl rfl ?_ trivial)
  simp [packR, pickI, hq, List.getElem?_eq_getElem hql]

/-! ### Samples within their bounds -/
def chN (bits : List Int) (i k : Nat) (b : Int × Int) : Int := b.1 + restI (pickI bits (7 * (i : Int) + (k : Int))) (b.2 - b.1 + 1)
def chS (bits : List Int) (i : Nat) : List (Int × Int) → Nat → List (Int × Int)
  | [], _ => []
  | b :: r, k => (chN bits i k b, chN bits i k b) :: chS bits i r (k + 1)
def chL (bits : List Int) : List Echo → Nat → List Echo
  | [], _ => []
  | e :: r, i => ⟨e.x, e.y, chS bits i e.s 0⟩ :: chL bits r (i + 1)

theorem chS_get (bits : List Int) (i : Nat) : ∀ (s : List (Int × Int)) (k0 k : Nat), (chS bits i s k0)[k]? = (s[k]?).map fun b => (chN bits i (k0 + k) b, chN bits i (k0 + k) b)
  | [], k0, k => by simp [chS]
  | b :: r, k0, k => by
    cases k with
    | zero => simp [chS]
    | succ k =>
      simp only [chS, List.getElem?_cons_succ, chS_get bits i r (k0 + 1) k]
      rw [show k0 + 1 + k = k0 + (k + 1) by omega]

theorem chS_len (bits : List Int) (i : Nat) : ∀ (s : List (Int × Int)) (k : Nat), (chS bits i s k).length = s.length
  | [], k => rfl
  | b :: r, k => by simp [chS, chS_len bits i r (k + 1)]

theorem chL_get (bits : List Int) : ∀ (l : List Echo) (i0 i : Nat), (chL bits l i0)[i]? = (l[i]?).map fun e => ⟨e.x, e.y, chS bits (i0 + i) e.s 0⟩
  | [], i0, i => by simp [chL]
  | e :: r, i0, i => by
    cases i with
    | zero => simp [chL]
    | succ i =>
      simp only [chL, List.getElem?_cons_succ, chL_get bits r (i0 + 1) i]
      rw [show i0 + 1 + i = i0 + (i + 1) by omega]

theorem chL_len (bits : List Int) : ∀ (l : List Echo) (i : Nat), (chL bits l i).length = l.length
  | [], i => rfl
  | e :: r, i => by simp [chL, chL_len bits r (i + 1)]

theorem chN_bd {bits : List Int} {i k : Nat} {b : Int × Int} (h : b.1 ≤ b.2) : b.1 ≤ chN bits i k b ∧ chN bits i k b ≤ b.2 := by
  have := restI_bd (n := pickI bits (7 * (i : Int) + (k : Int))) (m := b.2 - b.1 + 1) (by omega)
  unfold chN; omega

theorem take_succ_of {α : Type} {l : List α} {k : Nat} {x : α} (h : l[k]? = some x) : l.take (k + 1) = l.take k ++ [x] := by
  rw [List.take_add_one, h]; rfl

theorem c_chosen {l : List Echo} (hE : echoesOk l = true) (bits : List Int) (hb : bits.length ≤ 9223372036854775807) : C Try.prog F.law10_chosen [sE l, intsV bits] (sE (chL bits l 0)) := by
  obtain ⟨hl, hall⟩ := echoesOk_spec hE
  refine C_of mixed chk.law10_chosen (by simp) fun S ok => ?_
  refine Tr.seqR rfl (by simp) (Tr.seqR rfl (by simp) (Tr.seq (Tr.seqR rfl (by simp) (Tr.block ?_))))
  refine Tr.loop (fun i st => i ≤ l.length ∧ st = { env := [(0, sE l), (1, intsV bits), (5, .slice 74 3 (((chL bits l 0).take i).map eE)), (6, I i)], bx := [], rw := [(73, i, 3, 79)], log := [], stp := false }) (fun i => l.length - i) 0
    (Wk.le (.cons rfl (.refl _) (.cons rfl (.refl _) (.cons rfl (.nil 74 3) (.cons rfl (.refl _) .nil)))) .nil (.new rfl .nil) rfl rfl) ⟨by omega, rfl⟩ ?_
  rintro i st ⟨hi, rfl⟩
  refine Tr.seq (Tr.seqR rfl (by simp [sE]) (Tr.cond rfl rfl (fun h1 => Tr.skip ?_) (fun h1 => Tr.exit ?_)))
  rotate_left
  · have h1 : i = l.length := by simp at h1; omega
    subst h1
    refine Tr.seqR rfl (by simp) (Tr.retX rfl rfl rfl ?_ trivial)
    rw [List.take_of_length_le (by rw [chL_len]; omega)]
    simp [packR, sE]
  have h1 : i < l.length := by simpa using h1
  obtain ⟨hxy, hsl, hsb⟩ := echoOk_spec (hall _ (List.getElem_mem h1))
  refine Tr.seq (Tr.block (Tr.seq (Tr.drawK (TraceK.runN 3 rfl (by simp [sE]; omega) ?_))))
  rw [getD_map h1]
  refine TraceK.runN 5 rfl (by simp [sE, eE]; omega) ?_
  rw [getD_map h1]
  refine TraceK.run rfl (by simp [eE, sB]) (.done ⟨by kernel_rfl, by kernel_rfl, ?_⟩)
  refine Tr.seq (Tr.seqR rfl (by simp) (Tr.block ?_))
  refine Tr.loop (fun k st => k ≤ l[i].s.length ∧ st = { env := [(0, sE l), (1, intsV bits), (5, .slice 74 3 (((chL bits l 0).take i).map eE)), (6, I i), (7, .ptr 7 0), (8, I k)], bx := [(7, ⟨[I l[i].x, I l[i].y, .slice 69 2 (((chS bits i l[i].s 0).take k).map eB)], false⟩)], rw := [(73, i, 3, 79), (68, k, 2, 33)], log := [], stp := false }) (fun k => l[i].s.length - k) 0
    (Wk.le (.cons rfl (.refl _) (.cons rfl (.refl _) (.cons rfl (.refl _) (.cons rfl (.refl _) (.cons rfl (.refl _) (.cons rfl (.refl _) .nil)))))) (.cons rfl (.cons (.refl _) (.cons (.refl _) (.cons (.nil 69 2) .nil))) .nil) (.cons rfl (.new rfl .nil)) rfl rfl) ⟨by omega, rfl⟩ ?_
  rintro k st ⟨hk, rfl⟩
  refine Tr.seq (Tr.seqN 4 rfl (by simp [sE]; omega) ?_)
  rw [getD_map h1]
  refine Steps.fin rfl (by simp [eE, sB]) (Tr.cond rfl rfl (fun h2 => Tr.skip ?_) (fun h2 => Tr.exit ?_))
  · have h2 : k < l[i].s.length := by simpa using h2
    obtain ⟨⟨b1, b2⟩, hbk⟩ : ∃ b, l[i].s[k] = b := ⟨_, rfl⟩
    have hb3 := hsb _ (List.getElem_mem h2)
    rw [hbk] at hb3
    simp only at hb3
    have hcn := chN_bd (bits := bits) (i := i) (k := k) (b := (b1, b2)) hb3.2.1
    simp only at hcn
    refine Tr.seq (Tr.block (Tr.seqN 3 rfl (by simp [sE]; omega) ?_))
    rw [getD_map h1]
    refine Steps.runN 4 rfl (by simp [eE, sB]; omega) ?_
    rw [getD_map h2, hbk]
    refine Steps.fin rfl (by simp [eB]) ?_
    have w7 : IntKind.i64.wrap (7 * (i : Int)) = 7 * (i : Int) := w64 (by omega) (by omega)
    have w7k : IntKind.i64.wrap (7 * (i : Int) + (k : Int)) = 7 * (i : Int) + (k : Int) := w64 (by omega) (by omega)
    have wd : IntKind.i64.wrap (b2 - b1) = b2 - b1 := w64 (by omega) (by omega)
    have wd1 : IntKind.i64.wrap (b2 - b1 + 1) = b2 - b1 + 1 := w64 (by omega) (by omega)
    have wn : IntKind.i64.wrap (b1 + restI (pickI bits (7 * (i : Int) + (k : Int))) (b2 - b1 + 1)) = chN bits i k (b1, b2) := w64 (by unfold chN at hcn; simp only at hcn; omega) (by unfold chN at hcn; simp only at hcn; omega)
    refine Tr.seq (Tr.drawK (TraceK.run rfl (by simp) ?_))
    rw [w7, w7k]
    refine TraceK.call rfl rfl (c_Pick bits _ hb) (TraceK.run rfl (by simp) ?_)
    rw [wd, wd1]
    refine TraceK.call rfl rfl (c_Rest _ _ (by omega)) (TraceK.run rfl (by simp) (.done ⟨by kernel_rfl, by kernel_rfl, ?_⟩))
    have hget : (chS bits i l[i].s 0)[k]? = some (chN bits i k (b1, b2), chN bits i k (b1, b2)) := by
      rw [chS_get, List.getElem?_eq_getElem h2, hbk]; simp
    have hlen : ((chS bits i l[i].s 0).take k).length = k := by rw [List.length_take, chS_len]; omega
    refine Tr.regR rfl (by simp [chS_len, chL_len] <;> omega) (Tr.regR rfl (by simp) ?_)
    refine ⟨k + 1, _, Wk.le (.cons rfl (.refl _) (.cons rfl (.refl _) (.cons rfl (.refl _) (.cons rfl (.refl _) (.cons rfl (.refl _) (.cons rfl (VLe.i (w64 (by omega) (by omega))) .nil)))))) (.cons rfl (.cons (.refl _) (.cons (.refl _) (.cons (.of_eq ?_) .nil))) .nil) (.cons rfl (.cons ?_ .nil)) rfl rfl, ⟨h2, rfl⟩, by omega⟩
    · rw [take_succ_of hget, wn]; simp [eB]
    · show some _ = some _
      simp [chS_len, chL_len]; omega
  · have h2 : k = l[i].s.length := by simp at h2; omega
    subst h2
    have hget : (chL bits l 0)[i]? = some ⟨l[i].x, l[i].y, chS bits i l[i].s 0⟩ := by
      rw [chL_get, List.getElem?_eq_getElem h1]; simp
    have hlen : ((chL bits l 0).take i).length = i := by rw [List.length_take, chL_len]; omega
    refine Tr.regR rfl (by simp [chS_len, chL_len] <;> omega) (Tr.regR rfl (by simp) ?_)
    refine ⟨i + 1, _, Wk.le (.cons rfl (.refl _) (.cons rfl (.refl _) (.cons rfl (.of_eq ?_) (.cons rfl (VLe.i (w64 (by omega) (by omega))) .nil)))) .nil (.cons ?_ .nil) rfl rfl, ⟨h1, rfl⟩, by omega⟩
    · have hfull : (chS bits i l[i].s 0).take l[i].s.length = chS bits i l[i].s 0 := List.take_of_length_le (by rw [chS_len]; omega)
      rw [take_succ_of hget, hfull]
      simp [eE, sB]
    · show some _ = some _
      simp [chS_len, chL_len]; omega

theorem c_inside (a : Bx) (l l' : List (Int × Int)) (hl : l.length ≤ 4096) (hll : l.length = l'.length) (hi : ∀ i (h : i < l.length) (h' : i < l'.length), ins l[i] l'[i]) :
    C Try.prog F.law10_inside [.agg [I a.x, I a.y, I a.z, I a.a, I a.b, I a.c, .slice 0 2 (l.map eB)], .agg [I a.x, I a.y, I a.z, I a.a, I a.b, I a.c, .slice 0 2 (l'.map eB)]] (.bool true) := by
  refine C_of mixed chk.law10_inside (by simp) fun S ok => ?_
  refine Tr.seqR rfl (by simp) (Tr.seq (Tr.seqR rfl (by simp) ?_))
  have hc : ∀ c : Bool, (bif (bif (!(a.x == a.x && (a.y == a.y && (a.z == a.z && true)))) then true else !(a.a == a.a && (a.b == a.b && (a.c == a.c && true)))) then true else ((l.map eB).length : Int) != ((l'.map eB).length : Int)) = c → c = false := by
    rintro c rfl
    simp [hll]
  refine Tr.cond rfl rfl (fun h1 => ?_) (fun h1 => Tr.skip ?_)
  · have := hc true h1; cases this
  refine Tr.seq (Tr.seqR rfl (by simp) (Tr.block ?_))
  refine Tr.loop (fun k st => k ≤ l.length ∧ st = { env := [(2, .ptr 2 0), (3, .ptr 3 0), (5, I k)], bx := [(2, ⟨[I a.x, I a.y, I a.z, I a.a, I a.b, I a.c, .slice 0 2 (l.map eB)], false⟩), (3, ⟨[I a.x, I a.y, I a.z, I a.a, I a.b, I a.c, .slice 0 2 (l'.map eB)], false⟩)], rw := [], log := [], stp := false }) (fun k => l.length - k) 0
    (Wk.le (.cons rfl (.refl _) (.cons rfl (.refl _) (.cons rfl (.refl _) .nil))) (.cons rfl (LLe.refl _) (.cons rfl (LLe.refl _) .nil)) .nil rfl rfl) ⟨by omega, rfl⟩ ?_
  rintro k st ⟨hk, rfl⟩
  refine Tr.seq (Tr.seqR rfl (by simp) (Tr.cond rfl rfl (fun h3 => Tr.skip ?_) (fun h3 => Tr.exit (Tr.seqR rfl (by simp) (Tr.retX rfl rfl rfl rfl trivial)))))
  have h3 : k < l.length := by simpa using h3
  have h4 : k < l'.length := by omega
  have hik := hi k h3 h4
  refine Tr.seq (Tr.block (Tr.seq (Tr.drawK (TraceK.runN 4 rfl (by simp; omega) ?_))))
  rw [getD_map h3]
  refine TraceK.runN 6 rfl (by simp [eB]; omega) ?_
  rw [getD_map h4]
  refine TraceK.runN 8 rfl (by simp [eB] <;> (intros; omega)) ?_
  rw [getD_map h3]
  refine TraceK.runN 6 rfl (by simp [eB] <;> (intros; omega)) ?_
  rw [getD_map h4]
  refine TraceK.run rfl (by simp [eB]) (.done ⟨by kernel_rfl, by kernel_rfl, ?_⟩)
  refine Tr.cond rfl rfl (fun h5 => ?_) (fun h5 => Tr.skip (Tr.regR rfl (by simp) ?_))
  · have h5 : (bif decide (l[k].1 < l'[k].1) then true else decide (l[k].2 > l'[k].2)) = true := h5
    unfold ins at hik
    have e1 : decide (l[k].1 < l'[k].1) = false := by simp; omega
    have e2 : decide (l[k].2 > l'[k].2) = false := by simp; omega
    rw [e1, e2] at h5
    cases h5
  · exact ⟨k + 1, _, Wk.le (.cons rfl (.refl _) (.cons rfl (.refl _) (.cons rfl (VLe.i (w64 (by omega) (by omega))) .nil))) (.cons rfl (LLe.refl _) (.cons rfl (LLe.refl _) .nil)) .nil rfl rfl, ⟨h3, rfl⟩, by omega⟩

end Go.Proofs.Ytkifejklnpddbaa

/-! Plain facts for VolumeLinear: values are sums over echoes, and samples that are added make values that are added. -/
set_option linter.unusedVariables false
set_option linter.unusedSimpArgs false
set_option maxRecDepth 20000
namespace Go.Proofs.Ytkifejklnpddbaa
open Go.Am

theorem w_cong {a b : Int} (h : a % 18446744073709551616 = b % 18446744073709551616) : w a = w b := by
  show (if (true && decide (a % 18446744073709551616 ≥ 9223372036854775808)) = true then a % 18446744073709551616 - 18446744073709551616 else a % 18446744073709551616) = (if (true && decide (b % 18446744073709551616 ≥ 9223372036854775808)) = true then b % 18446744073709551616 - 18446744073709551616 else b % 18446744073709551616)
  rw [h]

theorem w_mod (a : Int) : w a % 18446744073709551616 = a % 18446744073709551616 := by
  have e : ∀ m : Int, m = a % 18446744073709551616 → (if (true && decide (m ≥ 9223372036854775808)) = true then m - 18446744073709551616 else m) % 18446744073709551616 = m := by
    intro m hm
    by_cases h : m ≥ 9223372036854775808
    · simp only [h, decide_true, Bool.and_self, if_true]; omega
    · simp only [h, decide_false, Bool.and_false, Bool.false_eq_true, if_false]; omega
  exact e _ rfl

theorem w_add (a b : Int) : w (w a + w b) = w (a + b) := by
  refine w_cong ?_
  have h1 := w_mod a
  have h2 := w_mod b
  omega

theorem w_addl (a b : Int) : w (w a + b) = w (a + b) := by
  refine w_cong ?_
  have h1 := w_mod a
  omega

theorem w_addr (a b : Int) : w (a + w b) = w (a + b) := by
  refine w_cong ?_
  have h1 := w_mod b
  omega

theorem plus_swap (u v a b : Int × Int) : plusB (plusB u v) (plusB a b) = plusB (plusB u a) (plusB v b) := by
  simp only [plusB, w_add]
  congr 2 <;> omega

theorem plus_norm (a b : Int × Int) : plusB a (plusB (0, 0) b) = plusB a b := by
  simp only [plusB, Int.zero_add, w_addr]

/-- What an echo gives to a place. -/
def givesB (aper slow x y z : Int) (e : Echo) : Int × Int := if hears aper x y e then smp e.s z (dst x y e) slow else (0, 0)

theorem value_drop (h : Ear) (x y z : Int) : ∀ (d k : Nat), k + d = h.l.length → ∀ a, nrm a →
    ((nears h.aper x y (h.l.drop k) k).map (valC h z)).foldl plusB a = ((h.l.drop k).map (givesB h.aper h.slow.1 x y z)).foldl plusB a
  | 0, k, hk, a, ha => by
    rw [List.drop_eq_nil_of_le (by omega)]; rfl
  | d + 1, k, hk, a, ha => by
    have hkl : k < h.l.length := by omega
    rw [nears_drop _ _ _ _ hkl, List.drop_eq_getElem_cons hkl, List.map_cons, List.foldl_cons]
    by_cases hh : hears h.aper x y h.l[k] = true
    · rw [if_pos hh, List.map_cons, List.foldl_cons]
      have e : valC h z ((k : Int), dst x y h.l[k]) = givesB h.aper h.slow.1 x y z h.l[k] := by
        unfold valC givesB
        rw [if_pos hh]
        simp [sAt, List.getElem?_eq_getElem hkl]
      rw [e]
      exact value_drop h x y z d (k + 1) (by omega) _ (nrm_plus _ _)
    · rw [if_neg hh]
      have e : givesB h.aper h.slow.1 x y z h.l[k] = (0, 0) := by unfold givesB; rw [if_neg hh]
      rw [e, plus0 ha]
      exact value_drop h x y z d (k + 1) (by omega) _ ha

theorem value_gives (l : List Echo) (aper slow : Int) (p : Int × Int × Int) : valOf l aper slow p = (l.map (givesB aper slow p.1 p.2.1 p.2.2)).foldl plusB (0, 0) := by
  unfold valOf
  rw [value_sum]
  have h := value_drop ⟨l, aper, (slow, slow)⟩ p.1 p.2.1 p.2.2 l.length 0 (by simp) (0, 0) nrm0
  simpa using h

theorem value_one (e : Echo) (aper slow : Int) (p : Int × Int × Int) : valOf [e] aper slow p = plusB (0, 0) (givesB aper slow p.1 p.2.1 p.2.2 e) := by
  rw [value_gives]; rfl

theorem value_take {l : List Echo} {aper slow : Int} {p : Int × Int × Int} {i : Nat} (hi : i < l.length) : plusB (valOf (l.take i) aper slow p) (valOf [l[i]] aper slow p) = valOf (l.take (i + 1)) aper slow p := by
  rw [value_one, plus_norm, value_gives, value_gives, List.take_add_one, List.getElem?_eq_getElem hi, List.map_append, List.foldl_append]
  rfl

/-! ### Samples that are added -/
def noiseI (more : List Int) (i k : Nat) : Int := restI (pickI more (5 * (i : Int) + (k : Int))) 2001 - 1000
def othS (more : List Int) (i n : Nat) : List (Int × Int) := (List.range n).map fun k => (noiseI more i k, noiseI more i k)
def botS (more : List Int) (i : Nat) (s : List (Int × Int)) (n : Nat) : List (Int × Int) := (List.range n).map fun k => plusB (s.getD k (0, 0)) (noiseI more i k, noiseI more i k)
def echoAt (l : List Echo) (i : Nat) : Echo := (l[i]?).getD ⟨0, 0, []⟩
def othE (more : List Int) (l : List Echo) (i : Nat) : Echo := ⟨(echoAt l i).x, (echoAt l i).y, othS more i (echoAt l i).s.length⟩
def botE (more : List Int) (l : List Echo) (i : Nat) : Echo := ⟨(echoAt l i).x, (echoAt l i).y, botS more i (echoAt l i).s (echoAt l i).s.length⟩

theorem noise_bd (more : List Int) (i k : Nat) : -1000 ≤ noiseI more i k ∧ noiseI more i k ≤ 1000 := by
  have := restI_bd (n := pickI more (5 * (i : Int) + (k : Int))) (m := 2001) (by omega)
  unfold noiseI; omega

theorem echoAt_eq {l : List Echo} {i : Nat} (h : i < l.length) : echoAt l i = l[i] := by simp [echoAt, List.getElem?_eq_getElem h]

theorem all_at (l : List Echo) : (List.range l.length).map (echoAt l) = l := by
  apply List.ext_getElem
  · simp
  · intro i h1 h2
    rw [List.getElem_map, List.getElem_range, echoAt_eq h2]

theorem gives_add {more : List Int} {l : List Echo} {i : Nat} {aper slow x y z : Int} : givesB aper slow x y z (botE more l i) = plusB (givesB aper slow x y z (echoAt l i)) (givesB aper slow x y z (othE more l i)) ∨
    (givesB aper slow x y z (botE more l i) = (0, 0) ∧ givesB aper slow x y z (echoAt l i) = (0, 0) ∧ givesB aper slow x y z (othE more l i) = (0, 0)) := by
  unfold givesB
  have h1 : hears aper x y (botE more l i) = hears aper x y (echoAt l i) := rfl
  have h2 : hears aper x y (othE more l i) = hears aper x y (echoAt l i) := rfl
  have d1 : dst x y (botE more l i) = dst x y (echoAt l i) := rfl
  have d2 : dst x y (othE more l i) = dst x y (echoAt l i) := rfl
  rw [h1, h2, d1, d2]
  by_cases hh : hears aper x y (echoAt l i) = true
  · rw [if_pos hh, if_pos hh, if_pos hh]
    unfold smp
    generalize (timeN z (dst x y (echoAt l i)) slow).toNat = t
    by_cases ht : t < (echoAt l i).s.length
    · left
      simp [botE, othE, botS, othS, List.getD_eq_getElem?_getD, List.getElem?_range ht, List.getElem?_eq_getElem ht]
    · right
      simp [botE, othE, botS, othS, List.getD_eq_getElem?_getD, List.getElem?_eq_none (Nat.le_of_not_lt ht)]
      rw [List.getElem?_eq_none (by simp; omega)]
      simp
  · right
    rw [if_neg hh, if_neg hh, if_neg hh]
    exact ⟨rfl, rfl, rfl⟩

theorem fold_add (f g h : Nat → Int × Int) (hfg : ∀ i, f i = plusB (g i) (h i) ∨ (f i = (0, 0) ∧ g i = (0, 0) ∧ h i = (0, 0))) : ∀ (L : List Nat) (a b : Int × Int), nrm a → nrm b → (L.map f).foldl plusB (plusB a b) = plusB ((L.map g).foldl plusB a) ((L.map h).foldl plusB b)
  | [], a, b, _, _ => rfl
  | i :: L, a, b, ha, hb => by
    simp only [List.map_cons, List.foldl_cons]
    rcases hfg i with e | ⟨e1, e2, e3⟩
    · rw [e, plus_swap]
      exact fold_add f g h hfg L _ _ (nrm_plus _ _) (nrm_plus _ _)
    · rw [e1, e2, e3, plus0 (nrm_plus _ _), plus0 ha, plus0 hb]
      exact fold_add f g h hfg L _ _ ha hb

theorem value_add (more : List Int) (l : List Echo) (aper slow : Int) (p : Int × Int × Int) :
    valOf ((List.range l.length).map (botE more l)) aper slow p = plusB (valOf l aper slow p) (valOf ((List.range l.length).map (othE more l)) aper slow p) := by
  have h := fold_add (fun i => givesB aper slow p.1 p.2.1 p.2.2 (botE more l i)) (fun i => givesB aper slow p.1 p.2.1 p.2.2 (echoAt l i)) (fun i => givesB aper slow p.1 p.2.1 p.2.2 (othE more l i)) (fun i => gives_add) (List.range l.length) (0, 0) (0, 0) nrm0 nrm0
  have h0 : plusB (0, 0) (0, 0) = ((0, 0) : Int × Int) := plus0 nrm0
  rw [h0] at h
  rw [value_gives, value_gives, value_gives, List.map_map, List.map_map]
  have e : l.map (givesB aper slow p.1 p.2.1 p.2.2) = (List.range l.length).map fun i => givesB aper slow p.1 p.2.1 p.2.2 (echoAt l i) := by
    conv => lhs; rw [← all_at l]
    rw [List.map_map]; rfl
  rw [e]
  exact h

theorem oth_ok {more : List Int} {l : List Echo} (h : echoesOk l = true) : echoesOk ((List.range l.length).map (othE more l)) = true := by
  obtain ⟨h1, h2⟩ := echoesOk_spec h
  simp only [echoesOk, Bool.and_eq_true, decide_eq_true_eq, List.all_eq_true, List.length_map, List.length_range]
  refine ⟨h1, fun e he => ?_⟩
  obtain ⟨i, hi, rfl⟩ := List.mem_map.1 he
  have hi : i < l.length := by simpa using hi
  obtain ⟨⟨g1, g2⟩, g3, _⟩ := echoOk_spec (h2 _ (List.getElem_mem hi))
  have el := echoAt_eq hi
  simp only [echoOk, Bool.and_eq_true, List.all_eq_true, btw, decide_eq_true_eq, othE, el]
  refine ⟨⟨⟨⟨by omega, by omega⟩, ⟨by omega, by omega⟩⟩, by simp [othS]; omega, by simp [othS]; omega⟩, fun b hb => ?_⟩
  obtain ⟨k, _, rfl⟩ := List.mem_map.1 hb
  have := noise_bd more i k
  simp only [loud, Bool.and_eq_true, decide_eq_true_eq]
  omega

end Go.Proofs.Ytkifejklnpddbaa

/-! Plain facts for VolumePoint. -/
set_option linter.unusedVariables false
set_option linter.unusedSimpArgs false
set_option maxRecDepth 20000
namespace Go.Proofs.Ytkifejklnpddbaa
open Go.Am

theorem w_sq (a b : Int) : w (w (a - b) * w (a - b)) = w (w (b - a) * w (b - a)) := by
  refine w_cong ?_
  have h : ∀ c : Int, (w c * w c) % 18446744073709551616 = (c * c) % 18446744073709551616 := fun c => by
    rw [Int.mul_emod, w_mod, ← Int.mul_emod]
  rw [h, h]
  congr 1
  rw [← Int.neg_mul_neg (b - a), Int.neg_sub]

/-- One sample at a time. -/
def peakL (t : Nat) : List (Int × Int) := (List.replicate 64 ((0 : Int), (0 : Int))).set t (1, 1)
theorem peak_len (t : Nat) : (peakL t).length = 64 := by simp [peakL]
theorem peak_getD (t k : Nat) : (peakL t).getD k (0, 0) = if t = k ∧ t < 64 then (1, 1) else (0, 0) := by
  unfold peakL
  rw [List.getD_eq_getElem?_getD]
  by_cases h : t = k
  · subst h
    by_cases h2 : t < 64
    · rw [List.getElem?_set_self (by simpa using h2), if_pos ⟨rfl, h2⟩]; rfl
    · rw [List.getElem?_eq_none (by simp; omega), if_neg (by omega)]; rfl
  · rw [List.getElem?_set_ne h, if_neg (fun e => h e.1), List.getElem?_replicate]
    split <;> rfl

def ptX (p : Int × Int) : Int := restI p.1 129 - 64
def ptY (p : Int × Int) : Int := restI p.2 129 - 64
def ptD (x y : Int) (p : Int × Int) : Int := dst x y ⟨ptX p, ptY p, []⟩
def ptT (x y z slow : Int) (p : Int × Int) : Int := timeN z (ptD x y p) slow
def ptE (x y z slow : Int) (p : Int × Int) : Echo := ⟨ptX p, ptY p, peakL (ptT x y z slow p).toNat⟩
def ptH (x y z slow aper : Int) (p : Int × Int) : Bool := decide (ptT x y z slow p < 64) && decide (ptD x y p ≤ w (aper * aper))

theorem pt_bd (p : Int × Int) : (-64 ≤ ptX p ∧ ptX p ≤ 64) ∧ (-64 ≤ ptY p ∧ ptY p ≤ 64) := by
  have h1 := restI_bd (n := p.1) (m := 129) (by omega)
  have h2 := restI_bd (n := p.2) (m := 129) (by omega)
  unfold ptX ptY; omega

theorem pt_ok (x y z slow : Int) (p : Int × Int) : echoOk (ptE x y z slow p) = true := by
  have h := pt_bd p
  have hl := peak_len (ptT x y z slow p).toNat
  simp only [echoOk, ptE, Bool.and_eq_true, List.all_eq_true, btw_iff, hl]
  refine ⟨⟨⟨h.1, h.2⟩, by omega⟩, fun b hb => ?_⟩
  obtain ⟨i, hi, rfl⟩ := List.mem_iff_getElem.1 hb
  have e := peak_getD (ptT x y z slow p).toNat i
  rw [List.getD_eq_getElem?_getD, List.getElem?_eq_getElem hi, Option.getD_some] at e
  rw [e]
  split <;> simp [loud]

theorem pts_ok (x y z slow : Int) (L : List (Int × Int)) (h : L.length ≤ 32) : echoesOk (L.map (ptE x y z slow)) = true := by
  simp only [echoesOk, Bool.and_eq_true, decide_eq_true_eq, List.all_eq_true, List.length_map]
  exact ⟨h, fun e he => by obtain ⟨p, _, rfl⟩ := List.mem_map.1 he; exact pt_ok x y z slow p⟩

/-- What it gives where it was made for, and elsewhere. -/
theorem pt_gives (x y z slow aper : Int) (p : Int × Int) : givesB aper slow x y z (ptE x y z slow p) = if ptH x y z slow aper p then (1, 1) else (0, 0) := by
  have h0 : 0 ≤ ptT x y z slow p := timeN_nn _ _ _
  have e1 : hears aper x y (ptE x y z slow p) = decide (ptD x y p ≤ w (aper * aper)) := rfl
  have e2 : smp (ptE x y z slow p).s z (dst x y (ptE x y z slow p)) slow = (peakL (ptT x y z slow p).toNat).getD (ptT x y z slow p).toNat (0, 0) := rfl
  unfold givesB ptH
  rw [e1, e2, peak_getD]
  by_cases h1 : ptD x y p ≤ w (aper * aper)
  · by_cases h2 : ptT x y z slow p < 64
    · simp [h1, h2]
    · simp [h1, h2]
  · simp [h1]

theorem gives_01 (x y z slow : Int) (aper slow' a b c : Int) (p : Int × Int) : givesB aper slow' a b c (ptE x y z slow p) = (1, 1) ∨ givesB aper slow' a b c (ptE x y z slow p) = (0, 0) := by
  unfold givesB
  split
  · unfold smp
    show (peakL _).getD _ _ = _ ∨ (peakL _).getD _ _ = _
    rw [peak_getD]
    split
    · exact .inl rfl
    · exact .inr rfl
  · exact .inr rfl

theorem fold_01 {α : Type} (f : α → Int × Int) : ∀ (L : List α) (n : Int), 0 ≤ n → n + L.length ≤ 1000 → (∀ p ∈ L, f p = (1, 1) ∨ f p = (0, 0)) → (L.map f).foldl plusB (n, n) = (n + (L.countP fun p => f p == (1, 1) : Nat), n + (L.countP fun p => f p == (1, 1) : Nat))
  | [], n, _, _, _ => by simp
  | p :: L, n, h0, hn, h => by
    rw [List.length_cons] at hn
    push_cast at hn
    rw [List.map_cons, List.foldl_cons]
    rcases h p (by simp) with e | e
    · have e2 : plusB (n, n) (f p) = (n + 1, n + 1) := by rw [e]; simp only [plusB]; rw [show w (n + 1) = n + 1 from w64 (by omega) (by omega)]
      rw [e2, fold_01 f L (n + 1) (by omega) (by omega) (fun q hq => h q (List.mem_cons_of_mem _ hq)), List.countP_cons_of_pos (by rw [e]; rfl)]
      push_cast
      congr 1 <;> omega
    · have e2 : plusB (n, n) (f p) = (n, n) := by rw [e]; simp only [plusB]; rw [show w (n + 0) = n from by rw [Int.add_zero]; exact w64 (by omega) (by omega)]
      rw [e2, fold_01 f L n h0 (by omega) (fun q hq => h q (List.mem_cons_of_mem _ hq)), List.countP_cons_of_neg (by rw [e]; decide)]

theorem pts_value (x y z slow aper : Int) (L : List (Int × Int)) (h : L.length ≤ 32) : valueB ⟨L.map (ptE x y z slow), aper, (slow, slow)⟩ x y z = (((L.countP (ptH x y z slow aper) : Nat) : Int), ((L.countP (ptH x y z slow aper) : Nat) : Int)) := by
  have hv := value_gives (L.map (ptE x y z slow)) aper slow (x, y, z)
  unfold valOf at hv
  simp only at hv
  rw [hv, List.map_map]
  have hf := fold_01 (fun p => if ptH x y z slow aper p then ((1 : Int), (1 : Int)) else (0, 0)) L 0 (by omega) (by omega) (fun p _ => by split <;> simp)
  have e : (givesB aper slow x y z ∘ ptE x y z slow) = fun p => if ptH x y z slow aper p then ((1 : Int), (1 : Int)) else (0, 0) := by
    funext p; exact pt_gives x y z slow aper p
  rw [e, hf]
  have e3 : (fun p => (if ptH x y z slow aper p then ((1 : Int), (1 : Int)) else (0, 0)) == (1, 1)) = ptH x y z slow aper := by
    funext p
    cases ptH x y z slow aper p <;> rfl
  rw [e3]
  simp

theorem pts_low (x y z slow aper slow' : Int) (q : Int × Int × Int) (L : List (Int × Int)) (h : L.length ≤ 32) : 0 ≤ (valOf (L.map (ptE x y z slow)) aper slow' q).1 ∧ (valOf (L.map (ptE x y z slow)) aper slow' q).2 ≤ (L.length : Int) := by
  have hf := fold_01 (fun p => givesB aper slow' q.1 q.2.1 q.2.2 (ptE x y z slow p)) L 0 (by omega) (by omega) (fun p _ => gives_01 x y z slow aper slow' _ _ _ p)
  have e : (givesB aper slow' q.1 q.2.1 q.2.2 ∘ ptE x y z slow) = fun p => givesB aper slow' q.1 q.2.1 q.2.2 (ptE x y z slow p) := rfl
  rw [value_gives, List.map_map, e, hf]
  have := List.countP_le_length (p := fun p => givesB aper slow' q.1 q.2.1 q.2.2 (ptE x y z slow p) == (1, 1)) (l := L)
  simp only
  omega

theorem named_count (h : Ear) (x y z : Int) : ∀ (d k : Nat), k + d = h.l.length → ((nears h.aper x y (h.l.drop k) k).filterMap (refOf h z)).length = (h.l.drop k).countP fun e => hears h.aper x y e && decide (timeN z (dst x y e) h.slow.1 < (e.s.length : Int))
  | 0, k, hk => by rw [List.drop_eq_nil_of_le (by omega)]; rfl
  | d + 1, k, hk => by
    have hkl : k < h.l.length := by omega
    have ih := named_count h x y z d (k + 1) (by omega)
    rw [nears_drop _ _ _ _ hkl, List.drop_eq_getElem_cons hkl, List.countP_cons]
    by_cases hh : hears h.aper x y h.l[k] = true
    · rw [if_pos hh, List.filterMap_cons]
      unfold refOf
      simp only [Int.toNat_natCast, List.getElem?_eq_getElem hkl, Option.map_some, Option.getD_some, hh, Bool.true_and]
      by_cases ht : timeN z (dst x y h.l[k]) h.slow.1 < (h.l[k].s.length : Int)
      · simp only [ht, if_true, decide_true, List.length_cons]
        unfold refOf at ih
        rw [← ih]
      · simp only [ht, if_false, decide_false, Bool.false_eq_true, Nat.add_zero]
        unfold refOf at ih
        rw [← ih]
    · rw [if_neg hh, ih]
      simp [hh]

theorem pts_named (x y z slow aper : Int) (L : List (Int × Int)) : (namedL ⟨L.map (ptE x y z slow), aper, (slow, slow)⟩ x y z).length = L.countP (ptH x y z slow aper) := by
  have h := named_count ⟨L.map (ptE x y z slow), aper, (slow, slow)⟩ x y z (L.map (ptE x y z slow)).length 0 (by simp)
  rw [List.drop_zero] at h
  unfold namedL
  rw [h, List.countP_map]
  congr 1
  funext p
  have e1 : hears aper x y (ptE x y z slow p) = decide (ptD x y p ≤ w (aper * aper)) := rfl
  show (hears aper x y (ptE x y z slow p) && decide (ptT x y z slow p < ((peakL (ptT x y z slow p).toNat).length : Int))) = _
  rw [e1, peak_len]
  unfold ptH
  rw [Bool.and_comm]
  rfl

end Go.Proofs.Ytkifejklnpddbaa
