/-
  Parts of the proof, 1: the abstract machine, the compiled code, contracts of the functions, plain laws.
-/
import Derived.Test.YtkifejklnpddbaaZ5


/-! The code of further functions, compiled. -/
set_option maxRecDepth 100000
namespace Go.Proofs.Ytkifejklnpddbaa
open Go.Am
/-- paravane/paravanelaw10.VolumeBacked -/
abbrev F.law10_VolumeBacked : Nat := 8
def ir.law10_VolumeBacked : IC :=
 (.seq (.reg [⟨(some 6), .mov, [.c (.bool false)], none⟩])
   (.seq (.reg [⟨(some 12), .mov, [.t 0], none⟩,
     ⟨(some 13), .mov, [.t 1], none⟩,
     ⟨(some 14), .mov, [.t 2], none⟩,
     ⟨(some 15), .call 45, [.t 12, .t 13, .t 14], none⟩,
     ⟨(some 11), .mov, [.t 15], none⟩,
     ⟨(some 16), .extract 0, [.t 11], none⟩,
     ⟨(some 17), .extract 1, [.t 11], none⟩,
     ⟨(some 7), .mov, [.t 16], none⟩,
     ⟨(some 8), .mov, [.t 17], none⟩])
   (.seq (.reg [⟨(some 19), .mov, [.t 0], none⟩,
     ⟨(some 20), .mov, [.t 1], none⟩,
     ⟨(some 21), .mov, [.t 2], none⟩,
     ⟨(some 22), .call 46, [.t 19, .t 20, .t 21], none⟩,
     ⟨(some 18), .mov, [.t 22], none⟩,
     ⟨(some 23), .extract 0, [.t 18], none⟩,
     ⟨(some 24), .extract 1, [.t 18], none⟩,
     ⟨(some 9), .mov, [.t 23], none⟩,
     ⟨(some 10), .mov, [.t 24], none⟩])
   (.seq (.reg [⟨(some 25), .mov, [.t 7], none⟩,
     ⟨(some 26), .mov, [.t 9], none⟩,
     ⟨(some 27), .bin .eql, [.t 25, .t 26], none⟩,
     ⟨(some 28), .mov, [.t 27], none⟩,
     ⟨(some 29), .mov, [.t 8], (some (28, true))⟩,
     ⟨(some 30), .mov, [.t 10], (some (28, true))⟩,
     ⟨(some 31), .bin .eql, [.t 29, .t 30], (some (28, true))⟩,
     ⟨(some 32), .pick, [.t 28, .t 31, .c (.bool false)], none⟩,
     ⟨(some 33), .mov, [.t 32], none⟩,
     ⟨(some 34), .call 30, [], (some (33, true))⟩,
     ⟨(some 35), .pick, [.t 33, .t 34, .c (.bool false)], none⟩,
     ⟨(some 6), .mov, [.t 35], none⟩])
   .ret))))
theorem chk.law10_VolumeBacked : chkF Try.prog 8 = some (36, ir.law10_VolumeBacked, [.tmp 6]) := by kernel_rfl

/-- paravane/paravanelaw10.VolumeTop -/
abbrev F.law10_VolumeTop : Nat := 10
def ir.law10_VolumeTop : IC :=
 (.seq (.reg [⟨(some 5), .box, [.t 2], none⟩,
     ⟨(some 6), .mov, [.c (.bool false)], none⟩])
   (.seq (.reg [⟨(some 16), .mov, [.t 0], none⟩,
     ⟨(some 17), .mov, [.t 1], none⟩,
     ⟨(some 18), .call 47, [.t 16, .t 17], none⟩,
     ⟨(some 15), .mov, [.t 18], none⟩,
     ⟨(some 19), .extract 0, [.t 15], none⟩,
     ⟨(some 20), .extract 1, [.t 15], none⟩,
     ⟨(some 21), .extract 2, [.t 15], none⟩,
     ⟨(some 7), .mov, [.t 19], none⟩,
     ⟨(some 8), .mov, [.t 20], none⟩,
     ⟨(some 9), .mov, [.t 21], none⟩])
   (.seq (.reg [⟨(some 23), .mov, [.t 0], none⟩,
     ⟨(some 24), .mov, [.t 1], none⟩,
     ⟨(some 25), .faddr 1, [.t 5], none⟩,
     ⟨(some 26), .load 1 false, [.t 25], none⟩,
     ⟨(some 27), .call 45, [.t 23, .t 24, .t 26], none⟩,
     ⟨(some 22), .mov, [.t 27], none⟩,
     ⟨(some 28), .extract 0, [.t 22], none⟩,
     ⟨(some 29), .extract 1, [.t 22], none⟩,
     ⟨(some 10), .mov, [.t 28], none⟩,
     ⟨(some 11), .mov, [.t 29], none⟩])
   (.seq (.seq (.reg [⟨(some 30), .mov, [.t 9], none⟩,
     ⟨(some 31), .bin .neq, [.t 30, .c (.int .i64 0)], none⟩])
   (.cond (.t 31) (.seq (.reg [⟨(some 32), .mov, [.t 7], none⟩,
     ⟨(some 33), .len false, [.t 32], none⟩,
     ⟨(some 34), .bin .eql, [.t 33, .c (.int .i64 0)], none⟩,
     ⟨(some 35), .mov, [.t 34], none⟩,
     ⟨(some 36), .mov, [.t 8], (some (35, true))⟩,
     ⟨(some 37), .bin .eql, [.t 36, .c (.int .i64 0)], (some (35, true))⟩,
     ⟨(some 38), .pick, [.t 35, .t 37, .c (.bool false)], none⟩,
     ⟨(some 39), .mov, [.t 38], none⟩,
     ⟨(some 40), .mov, [.t 11], (some (39, true))⟩,
     ⟨(some 41), .mov, [.t 9], (some (39, true))⟩,
     ⟨(some 42), .bin .eql, [.t 40, .t 41], (some (39, true))⟩,
     ⟨(some 43), .pick, [.t 39, .t 42, .c (.bool false)], none⟩,
     ⟨(some 44), .mov, [.t 43], none⟩,
     ⟨(some 45), .call 30, [], (some (44, true))⟩,
     ⟨(some 46), .pick, [.t 44, .t 45, .c (.bool false)], none⟩,
     ⟨(some 6), .mov, [.t 46], none⟩])
   .ret) .skip))
   (.seq (.reg [⟨(some 48), .mov, [.t 0], none⟩,
     ⟨(some 49), .mov, [.t 1], none⟩,
     ⟨(some 50), .mov, [.t 7], none⟩,
     ⟨(some 51), .call 48, [.t 48, .t 49, .t 50], none⟩,
     ⟨(some 47), .mov, [.t 51], none⟩,
     ⟨(some 52), .extract 0, [.t 47], none⟩,
     ⟨(some 53), .extract 1, [.t 47], none⟩,
     ⟨(some 12), .mov, [.t 52], none⟩,
     ⟨(some 13), .mov, [.t 53], none⟩])
   (.seq (.seq (.reg [⟨(some 54), .mov, [.t 13], none⟩,
     ⟨(some 55), .un .not, [.t 54], none⟩,
     ⟨(some 56), .mov, [.t 55], none⟩,
     ⟨(some 57), .mov, [.t 12], (some (56, false))⟩,
     ⟨(some 58), .mov, [.t 8], (some (56, false))⟩,
     ⟨(some 59), .bin .neq, [.t 57, .t 58], (some (56, false))⟩,
     ⟨(some 60), .pick, [.t 56, .c (.bool true), .t 59], none⟩])
   (.cond (.t 60) (.seq (.reg [⟨(some 6), .mov, [.c (.bool false)], none⟩])
   .ret) .skip))
   (.seq (.reg [⟨(some 62), .mov, [.t 0], none⟩,
     ⟨(some 63), .mov, [.t 1], none⟩,
     ⟨(some 64), .faddr 0, [.t 5], none⟩,
     ⟨(some 65), .load 1 false, [.t 64], none⟩,
     ⟨(some 66), .call 48, [.t 62, .t 63, .t 65], none⟩,
     ⟨(some 61), .mov, [.t 66], none⟩,
     ⟨(some 67), .extract 0, [.t 61], none⟩,
     ⟨(some 68), .extract 1, [.t 61], none⟩,
     ⟨(some 14), .mov, [.t 67], none⟩,
     ⟨(some 13), .mov, [.t 68], none⟩])
   (.seq (.seq (.reg [⟨(some 69), .mov, [.t 13], none⟩,
     ⟨(some 70), .mov, [.t 69], none⟩,
     ⟨(some 71), .mov, [.t 14], (some (70, true))⟩,
     ⟨(some 72), .mov, [.t 8], (some (70, true))⟩,
     ⟨(some 73), .bin .gtr, [.t 71, .t 72], (some (70, true))⟩,
     ⟨(some 74), .pick, [.t 70, .t 73, .c (.bool false)], none⟩])
   (.cond (.t 74) (.seq (.reg [⟨(some 6), .mov, [.c (.bool false)], none⟩])
   .ret) .skip))
   (.seq (.reg [⟨(some 75), .mov, [.t 11], none⟩,
     ⟨(some 76), .bin .eql, [.t 75, .c (.int .i64 106)], none⟩,
     ⟨(some 77), .mov, [.t 76], none⟩,
     ⟨(some 78), .mov, [.t 10], (some (77, true))⟩,
     ⟨(some 79), .bin .eql, [.t 78, .c (.int .i64 0)], (some (77, true))⟩,
     ⟨(some 80), .pick, [.t 77, .t 79, .c (.bool false)], none⟩,
     ⟨(some 81), .mov, [.t 80], none⟩,
     ⟨(some 82), .mov, [.t 11], (some (81, false))⟩,
     ⟨(some 83), .bin .eql, [.t 82, .c (.int .i64 0)], (some (81, false))⟩,
     ⟨(some 84), .mov, [.t 83], (some (81, false))⟩,
     ⟨(some 85), .mov, [.t 10], (some (84, true))⟩,
     ⟨(some 86), .mov, [.t 8], (some (84, true))⟩,
     ⟨(some 87), .bin .geq, [.t 85, .t 86], (some (84, true))⟩,
     ⟨(some 88), .pick, [.t 84, .t 87, .c (.bool false)], (some (81, false))⟩,
     ⟨(some 89), .pick, [.t 81, .c (.bool true), .t 88], none⟩,
     ⟨(some 90), .mov, [.t 89], none⟩,
     ⟨(some 91), .call 30, [], (some (90, true))⟩,
     ⟨(some 92), .pick, [.t 90, .t 91, .c (.bool false)], none⟩,
     ⟨(some 6), .mov, [.t 92], none⟩])
   .ret)))))))))
theorem chk.law10_VolumeTop : chkF Try.prog 10 = some (93, ir.law10_VolumeTop, [.tmp 6]) := by kernel_rfl

/-- paravane/paravaneref10.Backed -/
abbrev F.ref10_Backed : Nat := 46
def ir.ref10_Backed : IC :=
 (.seq (.reg [⟨(some 6), .mov, [.c (.int .i64 0)], none⟩,
     ⟨(some 7), .mov, [.c (.int .i64 0)], none⟩])
   (.seq (.seq (.reg [⟨(some 16), .mov, [.t 0], none⟩,
     ⟨(some 17), .mov, [.t 1], none⟩,
     ⟨(some 18), .call 111, [.t 16, .t 17], none⟩,
     ⟨(some 8), .mov, [.t 18], none⟩])
   (.seq (.reg [⟨(some 19), .mov, [.t 8], none⟩,
     ⟨(some 20), .bin .neq, [.t 19, .c (.int .i64 0)], none⟩])
   (.cond (.t 20) (.seq (.reg [⟨(some 21), .mov, [.t 8], none⟩,
     ⟨(some 6), .mov, [.c (.int .i64 0)], none⟩,
     ⟨(some 7), .mov, [.t 21], none⟩])
   .ret) .skip)))
   (.seq (.seq (.reg [⟨(some 22), .mov, [.t 2], none⟩,
     ⟨(some 23), .len false, [.t 22], none⟩,
     ⟨(some 24), .mov, [.t 0], none⟩,
     ⟨(some 25), .len false, [.t 24], none⟩,
     ⟨(some 26), .bin .neq, [.t 23, .t 25], none⟩])
   (.cond (.t 26) (.seq (.reg [⟨(some 6), .mov, [.c (.int .i64 0)], none⟩,
     ⟨(some 7), .mov, [.c (.int .i64 106)], none⟩])
   .ret) .skip))
   (.seq (.seq (.reg [⟨(some 9), .mov, [.c (.int .i64 0)], none⟩])
   (.block 0 (.loop (.seq (.seq (.reg [⟨(some 27), .mov, [.t 9], none⟩,
     ⟨(some 28), .mov, [.t 0], none⟩,
     ⟨(some 29), .len false, [.t 28], none⟩,
     ⟨(some 30), .bin .lss, [.t 27, .t 29], none⟩])
   (.cond (.t 30) .skip (.exit 0)))
   (.seq (.block 1 (.seq (.seq (.draw [0, 0, 3, 7, 15, 0, 0, 96, 224, 480, 1023] [⟨(some 33), .mov, [.t 2], none⟩,
     ⟨(some 34), .mov, [.t 9], none⟩,
     ⟨(some 35), .iaddrS 1, [.t 33, .t 34], none⟩,
     ⟨(some 36), .load 1 false, [.t 35], none⟩,
     ⟨(some 37), .len false, [.t 36], none⟩,
     ⟨(some 38), .mov, [.t 0], none⟩,
     ⟨(some 39), .mov, [.t 9], none⟩,
     ⟨(some 40), .iaddrS 1, [.t 38, .t 39], none⟩,
     ⟨(some 41), .load 1 false, [.t 40], none⟩,
     ⟨(some 42), .len false, [.t 41], none⟩,
     ⟨(some 43), .bin .neq, [.t 37, .t 42], none⟩])
   (.cond (.t 43) (.seq (.reg [⟨(some 6), .mov, [.c (.int .i64 0)], none⟩,
     ⟨(some 7), .mov, [.c (.int .i64 106)], none⟩])
   .ret) .skip))
   (.seq (.reg [⟨(some 10), .mov, [.c (.int .i64 0)], none⟩])
   (.block 2 (.loop (.seq (.seq (.reg [⟨(some 44), .mov, [.t 10], none⟩,
     ⟨(some 45), .mov, [.t 0], none⟩,
     ⟨(some 46), .mov, [.t 9], none⟩,
     ⟨(some 47), .iaddrS 1, [.t 45, .t 46], none⟩,
     ⟨(some 48), .load 1 false, [.t 47], none⟩,
     ⟨(some 49), .len false, [.t 48], none⟩,
     ⟨(some 50), .bin .lss, [.t 44, .t 49], none⟩])
   (.cond (.t 50) .skip (.exit 2)))
   (.seq (.block 3 (.seq (.reg [⟨(some 53), .mov, [.t 2], none⟩,
     ⟨(some 54), .mov, [.t 9], none⟩,
     ⟨(some 55), .iaddrS 1, [.t 53, .t 54], none⟩,
     ⟨(some 56), .load 1 false, [.t 55], none⟩,
     ⟨(some 57), .mov, [.t 10], none⟩,
     ⟨(some 58), .iaddrS 1, [.t 56, .t 57], none⟩,
     ⟨(some 59), .load 1 false, [.t 58], none⟩,
     ⟨(some 60), .call 51, [.t 59, .c (.int .i64 (-70368744177664)), .c (.int .i64 70368744177664)], none⟩,
     ⟨(some 61), .un .not, [.t 60], none⟩])
   (.cond (.t 61) (.seq (.reg [⟨(some 6), .mov, [.c (.int .i64 0)], none⟩,
     ⟨(some 7), .mov, [.c (.int .i64 106)], none⟩])
   .ret) .skip)))
   (.reg [⟨(some 51), .mov, [.t 10], none⟩,
     ⟨(some 52), .bin .add, [.t 51, .c (.int .i64 1)], none⟩,
     ⟨(some 10), .mov, [.t 52], none⟩]))))))))
   (.reg [⟨(some 31), .mov, [.t 9], none⟩,
     ⟨(some 32), .bin .add, [.t 31, .c (.int .i64 1)], none⟩,
     ⟨(some 9), .mov, [.t 32], none⟩]))))))
   (.seq (.seq (.reg [⟨(some 11), .mov, [.c (.int .i64 0)], none⟩])
   (.block 4 (.loop (.seq (.seq (.reg [⟨(some 62), .mov, [.t 11], none⟩,
     ⟨(some 63), .mov, [.t 0], none⟩,
     ⟨(some 64), .len false, [.t 63], none⟩,
     ⟨(some 65), .bin .lss, [.t 62, .t 64], none⟩])
   (.cond (.t 65) .skip (.exit 4)))
   (.seq (.block 5 (.seq (.reg [⟨(some 12), .mov, [.c (.int .i64 0)], none⟩])
   (.block 6 (.loop (.seq (.seq (.reg [⟨(some 68), .mov, [.t 12], none⟩,
     ⟨(some 69), .mov, [.t 0], none⟩,
     ⟨(some 70), .mov, [.t 11], none⟩,
     ⟨(some 71), .iaddrS 1, [.t 69, .t 70], none⟩,
     ⟨(some 72), .load 1 false, [.t 71], none⟩,
     ⟨(some 73), .len false, [.t 72], none⟩,
     ⟨(some 74), .bin .lss, [.t 68, .t 73], none⟩])
   (.cond (.t 74) .skip (.exit 6)))
   (.seq (.block 7 (.seq (.seq (.draw [0, 0, 2, 6, 15, 31, 63, 63, 255, 511, 63, 2047, 4095, 63, 63, 24639, 57407, 63, 254015, 516159, 1048575, 2097151] [⟨(some 77), .mov, [.t 11], none⟩,
     ⟨(some 78), .mov, [.t 0], none⟩,
     ⟨(some 79), .len false, [.t 78], none⟩,
     ⟨(some 80), .bin .sub, [.t 79, .c (.int .i64 1)], none⟩,
     ⟨(some 81), .bin .eql, [.t 77, .t 80], none⟩,
     ⟨(some 82), .mov, [.t 81], none⟩,
     ⟨(some 83), .mov, [.t 2], (some (82, true))⟩,
     ⟨(some 84), .mov, [.t 11], (some (82, true))⟩,
     ⟨(some 85), .iaddrS 1, [.t 83, .t 84], (some (82, true))⟩,
     ⟨(some 86), .load 1 false, [.t 85], (some (82, true))⟩,
     ⟨(some 87), .mov, [.t 12], (some (82, true))⟩,
     ⟨(some 88), .iaddrS 1, [.t 86, .t 87], (some (82, true))⟩,
     ⟨(some 89), .load 1 false, [.t 88], (some (82, true))⟩,
     ⟨(some 90), .mov, [.t 0], (some (82, true))⟩,
     ⟨(some 91), .mov, [.t 11], (some (82, true))⟩,
     ⟨(some 92), .iaddrS 1, [.t 90, .t 91], (some (82, true))⟩,
     ⟨(some 93), .load 1 false, [.t 92], (some (82, true))⟩,
     ⟨(some 94), .mov, [.t 12], (some (82, true))⟩,
     ⟨(some 95), .iaddrS 1, [.t 93, .t 94], (some (82, true))⟩,
     ⟨(some 96), .load 1 false, [.t 95], (some (82, true))⟩,
     ⟨(some 97), .bin .lss, [.t 89, .t 96], (some (82, true))⟩,
     ⟨(some 98), .pick, [.t 82, .t 97, .c (.bool false)], none⟩])
   (.cond (.t 98) (.seq (.reg [⟨(some 6), .mov, [.c (.int .i64 0)], none⟩,
     ⟨(some 7), .mov, [.c (.int .i64 106)], none⟩])
   .ret) .skip))
   (.seq (.reg [⟨(some 13), .mov, [.c (.int .i64 0)], none⟩])
   (.block 8 (.loop (.seq (.seq (.reg [⟨(some 99), .mov, [.t 11], none⟩,
     ⟨(some 100), .mov, [.t 0], none⟩,
     ⟨(some 101), .len false, [.t 100], none⟩,
     ⟨(some 102), .bin .sub, [.t 101, .c (.int .i64 1)], none⟩,
     ⟨(some 103), .bin .lss, [.t 99, .t 102], none⟩,
     ⟨(some 104), .mov, [.t 103], none⟩,
     ⟨(some 105), .mov, [.t 13], (some (104, true))⟩,
     ⟨(some 106), .mov, [.t 0], (some (104, true))⟩,
     ⟨(some 107), .mov, [.t 11], (some (104, true))⟩,
     ⟨(some 108), .iaddrS 1, [.t 106, .t 107], (some (104, true))⟩,
     ⟨(some 109), .load 1 false, [.t 108], (some (104, true))⟩,
     ⟨(some 110), .len false, [.t 109], (some (104, true))⟩,
     ⟨(some 111), .bin .lss, [.t 105, .t 110], (some (104, true))⟩,
     ⟨(some 112), .pick, [.t 104, .t 111, .c (.bool false)], none⟩])
   (.cond (.t 112) .skip (.exit 8)))
   (.seq (.block 9 (.seq (.draw [0, 0, 3, 7, 0, 31, 63, 127, 127, 511, 1023, 127, 4095, 8191, 127, 127, 49279, 114815, 127, 508031, 1032319, 127, 127, 4194431, 14680191, 31457407, 127, 132120703, 266338431, 536854655, 1073741823, 2147483647] [⟨(some 115), .mov, [.t 13], none⟩,
     ⟨(some 116), .mov, [.t 12], none⟩,
     ⟨(some 117), .bin .sub, [.t 115, .t 116], none⟩,
     ⟨(some 118), .call 112, [.t 117], none⟩,
     ⟨(some 119), .mov, [.t 1], none⟩,
     ⟨(some 120), .bin .leq, [.t 118, .t 119], none⟩,
     ⟨(some 121), .mov, [.t 120], none⟩,
     ⟨(some 122), .mov, [.t 2], (some (121, true))⟩,
     ⟨(some 123), .mov, [.t 11], (some (121, true))⟩,
     ⟨(some 124), .iaddrS 1, [.t 122, .t 123], (some (121, true))⟩,
     ⟨(some 125), .load 1 false, [.t 124], (some (121, true))⟩,
     ⟨(some 126), .mov, [.t 12], (some (121, true))⟩,
     ⟨(some 127), .iaddrS 1, [.t 125, .t 126], (some (121, true))⟩,
     ⟨(some 128), .load 1 false, [.t 127], (some (121, true))⟩,
     ⟨(some 129), .mov, [.t 0], (some (121, true))⟩,
     ⟨(some 130), .mov, [.t 11], (some (121, true))⟩,
     ⟨(some 131), .iaddrS 1, [.t 129, .t 130], (some (121, true))⟩,
     ⟨(some 132), .load 1 false, [.t 131], (some (121, true))⟩,
     ⟨(some 133), .mov, [.t 12], (some (121, true))⟩,
     ⟨(some 134), .iaddrS 1, [.t 132, .t 133], (some (121, true))⟩,
     ⟨(some 135), .load 1 false, [.t 134], (some (121, true))⟩,
     ⟨(some 136), .mov, [.t 2], (some (121, true))⟩,
     ⟨(some 137), .mov, [.t 11], (some (121, true))⟩,
     ⟨(some 138), .bin .add, [.t 137, .c (.int .i64 1)], (some (121, true))⟩,
     ⟨(some 139), .iaddrS 1, [.t 136, .t 138], (some (121, true))⟩,
     ⟨(some 140), .load 1 false, [.t 139], (some (121, true))⟩,
     ⟨(some 141), .mov, [.t 13], (some (121, true))⟩,
     ⟨(some 142), .iaddrS 1, [.t 140, .t 141], (some (121, true))⟩,
     ⟨(some 143), .load 1 false, [.t 142], (some (121, true))⟩,
     ⟨(some 144), .bin .add, [.t 135, .t 143], (some (121, true))⟩,
     ⟨(some 145), .bin .lss, [.t 128, .t 144], (some (121, true))⟩,
     ⟨(some 146), .pick, [.t 121, .t 145, .c (.bool false)], none⟩])
   (.cond (.t 146) (.seq (.reg [⟨(some 6), .mov, [.c (.int .i64 0)], none⟩,
     ⟨(some 7), .mov, [.c (.int .i64 106)], none⟩])
   .ret) .skip)))
   (.reg [⟨(some 113), .mov, [.t 13], none⟩,
     ⟨(some 114), .bin .add, [.t 113, .c (.int .i64 1)], none⟩,
     ⟨(some 13), .mov, [.t 114], none⟩]))))))))
   (.reg [⟨(some 75), .mov, [.t 12], none⟩,
     ⟨(some 76), .bin .add, [.t 75, .c (.int .i64 1)], none⟩,
     ⟨(some 12), .mov, [.t 76], none⟩])))))))
   (.reg [⟨(some 66), .mov, [.t 11], none⟩,
     ⟨(some 67), .bin .add, [.t 66, .c (.int .i64 1)], none⟩,
     ⟨(some 11), .mov, [.t 67], none⟩]))))))
   (.seq (.reg [⟨(some 147), .mov, [.t 2], none⟩,
     ⟨(some 148), .iaddrS 1, [.t 147, .c (.int .i64 0)], none⟩,
     ⟨(some 149), .load 1 false, [.t 148], none⟩,
     ⟨(some 150), .iaddrS 1, [.t 149, .c (.int .i64 0)], none⟩,
     ⟨(some 151), .load 1 false, [.t 150], none⟩,
     ⟨(some 14), .mov, [.t 151], none⟩])
   (.seq (.seq (.reg [⟨(some 15), .mov, [.c (.int .i64 1)], none⟩])
   (.block 10 (.loop (.seq (.seq (.reg [⟨(some 152), .mov, [.t 15], none⟩,
     ⟨(some 153), .mov, [.t 2], none⟩,
     ⟨(some 154), .iaddrS 1, [.t 153, .c (.int .i64 0)], none⟩,
     ⟨(some 155), .load 1 false, [.t 154], none⟩,
     ⟨(some 156), .len false, [.t 155], none⟩,
     ⟨(some 157), .bin .lss, [.t 152, .t 156], none⟩])
   (.cond (.t 157) .skip (.exit 10)))
   (.seq (.block 11 (.reg [⟨(some 160), .mov, [.t 14], none⟩,
     ⟨(some 161), .mov, [.t 2], none⟩,
     ⟨(some 162), .iaddrS 1, [.t 161, .c (.int .i64 0)], none⟩,
     ⟨(some 163), .load 1 false, [.t 162], none⟩,
     ⟨(some 164), .mov, [.t 15], none⟩,
     ⟨(some 165), .iaddrS 1, [.t 163, .t 164], none⟩,
     ⟨(some 166), .load 1 false, [.t 165], none⟩,
     ⟨(some 167), .minmax true, [.t 160, .t 166], none⟩,
     ⟨(some 14), .mov, [.t 167], none⟩]))
   (.reg [⟨(some 158), .mov, [.t 15], none⟩,
     ⟨(some 159), .bin .add, [.t 158, .c (.int .i64 1)], none⟩,
     ⟨(some 15), .mov, [.t 159], none⟩]))))))
   (.seq (.reg [⟨(some 168), .mov, [.t 14], none⟩,
     ⟨(some 6), .mov, [.t 168], none⟩,
     ⟨(some 7), .mov, [.c (.int .i64 0)], none⟩])
   .ret))))))))
theorem chk.ref10_Backed : chkF Try.prog 46 = some (169, ir.ref10_Backed, [.tmp 6, .tmp 7]) := by kernel_rfl

/-- paravane/paravanelaw10.worth -/
abbrev F.law10_worth : Nat := 48
def ir.law10_worth : IC :=
 (.seq (.reg [⟨(some 6), .mov, [.c (.int .i64 0)], none⟩,
     ⟨(some 7), .mov, [.c (.bool false)], none⟩])
   (.seq (.seq (.reg [⟨(some 10), .mov, [.t 2], none⟩,
     ⟨(some 11), .len false, [.t 10], none⟩,
     ⟨(some 12), .mov, [.t 0], none⟩,
     ⟨(some 13), .len false, [.t 12], none⟩,
     ⟨(some 14), .bin .neq, [.t 11, .t 13], none⟩])
   (.cond (.t 14) (.seq (.reg [⟨(some 6), .mov, [.c (.int .i64 0)], none⟩,
     ⟨(some 7), .mov, [.c (.bool false)], none⟩])
   .ret) .skip))
   (.seq (.reg [⟨(some 8), .mov, [.c (.int .i64 0)], none⟩])
   (.seq (.seq (.reg [⟨(some 9), .mov, [.c (.int .i64 0)], none⟩])
   (.block 0 (.loop (.seq (.seq (.reg [⟨(some 15), .mov, [.t 9], none⟩,
     ⟨(some 16), .mov, [.t 2], none⟩,
     ⟨(some 17), .len false, [.t 16], none⟩,
     ⟨(some 18), .bin .lss, [.t 15, .t 17], none⟩])
   (.cond (.t 18) .skip (.exit 0)))
   (.seq (.block 1 (.seq (.seq (.draw [0, 0, 3, 7, 0, 0, 48, 112, 240, 496, 1023, 2047, 4095, 8191, 16383, 32767, 65535, 65535, 262143, 524287, 65535, 65535, 2162687, 7405567, 15794175, 33554431, 67108863, 65535, 268435455, 536870911, 1073741823] [⟨(some 21), .mov, [.t 2], none⟩,
     ⟨(some 22), .mov, [.t 9], none⟩,
     ⟨(some 23), .iaddrS 1, [.t 21, .t 22], none⟩,
     ⟨(some 24), .load 1 false, [.t 23], none⟩,
     ⟨(some 25), .mov, [.t 0], none⟩,
     ⟨(some 26), .mov, [.t 9], none⟩,
     ⟨(some 27), .iaddrS 1, [.t 25, .t 26], none⟩,
     ⟨(some 28), .load 1 false, [.t 27], none⟩,
     ⟨(some 29), .len false, [.t 28], none⟩,
     ⟨(some 30), .bin .sub, [.t 29, .c (.int .i64 1)], none⟩,
     ⟨(some 31), .call 51, [.t 24, .c (.int .i64 0), .t 30], none⟩,
     ⟨(some 32), .un .not, [.t 31], none⟩,
     ⟨(some 33), .mov, [.t 32], none⟩,
     ⟨(some 34), .mov, [.t 9], (some (33, false))⟩,
     ⟨(some 35), .bin .gtr, [.t 34, .c (.int .i64 0)], (some (33, false))⟩,
     ⟨(some 36), .mov, [.t 35], (some (33, false))⟩,
     ⟨(some 37), .mov, [.t 2], (some (36, true))⟩,
     ⟨(some 38), .mov, [.t 9], (some (36, true))⟩,
     ⟨(some 39), .iaddrS 1, [.t 37, .t 38], (some (36, true))⟩,
     ⟨(some 40), .load 1 false, [.t 39], (some (36, true))⟩,
     ⟨(some 41), .mov, [.t 2], (some (36, true))⟩,
     ⟨(some 42), .mov, [.t 9], (some (36, true))⟩,
     ⟨(some 43), .bin .sub, [.t 42, .c (.int .i64 1)], (some (36, true))⟩,
     ⟨(some 44), .iaddrS 1, [.t 41, .t 43], (some (36, true))⟩,
     ⟨(some 45), .load 1 false, [.t 44], (some (36, true))⟩,
     ⟨(some 46), .bin .sub, [.t 40, .t 45], (some (36, true))⟩,
     ⟨(some 47), .call 112, [.t 46], (some (36, true))⟩,
     ⟨(some 48), .mov, [.t 1], (some (36, true))⟩,
     ⟨(some 49), .bin .gtr, [.t 47, .t 48], (some (36, true))⟩,
     ⟨(some 50), .pick, [.t 36, .t 49, .c (.bool false)], (some (33, false))⟩,
     ⟨(some 51), .pick, [.t 33, .c (.bool true), .t 50], none⟩])
   (.cond (.t 51) (.seq (.reg [⟨(some 6), .mov, [.c (.int .i64 0)], none⟩,
     ⟨(some 7), .mov, [.c (.bool false)], none⟩])
   .ret) .skip))
   (.draw [0, 0, 0, 6, 14, 0, 0, 96, 224, 510, 1022, 2047, 4095] [⟨(some 52), .mov, [.t 8], none⟩,
     ⟨(some 53), .mov, [.t 0], none⟩,
     ⟨(some 54), .mov, [.t 9], none⟩,
     ⟨(some 55), .iaddrS 1, [.t 53, .t 54], none⟩,
     ⟨(some 56), .load 1 false, [.t 55], none⟩,
     ⟨(some 57), .mov, [.t 2], none⟩,
     ⟨(some 58), .mov, [.t 9], none⟩,
     ⟨(some 59), .iaddrS 1, [.t 57, .t 58], none⟩,
     ⟨(some 60), .load 1 false, [.t 59], none⟩,
     ⟨(some 61), .iaddrS 1, [.t 56, .t 60], none⟩,
     ⟨(some 62), .load 1 false, [.t 61], none⟩,
     ⟨(some 63), .bin .add, [.t 52, .t 62], none⟩,
     ⟨(some 8), .mov, [.t 63], none⟩])))
   (.reg [⟨(some 19), .mov, [.t 9], none⟩,
     ⟨(some 20), .bin .add, [.t 19, .c (.int .i64 1)], none⟩,
     ⟨(some 9), .mov, [.t 20], none⟩]))))))
   (.seq (.reg [⟨(some 64), .mov, [.t 8], none⟩,
     ⟨(some 6), .mov, [.t 64], none⟩,
     ⟨(some 7), .mov, [.c (.bool true)], none⟩])
   .ret)))))
theorem chk.law10_worth : chkF Try.prog 48 = some (65, ir.law10_worth, [.tmp 6, .tmp 7]) := by kernel_rfl

/-- paravane/paravaneref10.section -/
abbrev F.ref10_section : Nat := 111
def ir.ref10_section : IC :=
 (.seq (.reg [⟨(some 4), .mov, [.c (.int .i64 0)], none⟩])
   (.seq (.seq (.reg [⟨(some 7), .mov, [.t 0], none⟩,
     ⟨(some 8), .len false, [.t 7], none⟩,
     ⟨(some 9), .call 51, [.t 8, .c (.int .i64 1), .c (.int .i64 16)], none⟩,
     ⟨(some 10), .un .not, [.t 9], none⟩,
     ⟨(some 11), .mov, [.t 10], none⟩,
     ⟨(some 12), .mov, [.t 0], (some (11, false))⟩,
     ⟨(some 13), .iaddrS 1, [.t 12, .c (.int .i64 0)], (some (11, false))⟩,
     ⟨(some 14), .load 1 false, [.t 13], (some (11, false))⟩,
     ⟨(some 15), .len false, [.t 14], (some (11, false))⟩,
     ⟨(some 16), .call 51, [.t 15, .c (.int .i64 1), .c (.int .i64 32)], (some (11, false))⟩,
     ⟨(some 17), .un .not, [.t 16], (some (11, false))⟩,
     ⟨(some 18), .pick, [.t 11, .c (.bool true), .t 17], none⟩])
   (.cond (.t 18) (.seq (.reg [⟨(some 4), .mov, [.c (.int .i64 105)], none⟩])
   .ret) .skip))
   (.seq (.seq (.reg [⟨(some 5), .mov, [.c (.int .i64 0)], none⟩])
   (.block 0 (.loop (.seq (.seq (.reg [⟨(some 19), .mov, [.t 5], none⟩,
     ⟨(some 20), .mov, [.t 0], none⟩,
     ⟨(some 21), .len false, [.t 20], none⟩,
     ⟨(some 22), .bin .lss, [.t 19, .t 21], none⟩])
   (.cond (.t 22) .skip (.exit 0)))
   (.seq (.block 1 (.seq (.seq (.draw [0, 0, 3, 7, 15, 0, 32, 96, 224, 511] [⟨(some 25), .mov, [.t 0], none⟩,
     ⟨(some 26), .mov, [.t 5], none⟩,
     ⟨(some 27), .iaddrS 1, [.t 25, .t 26], none⟩,
     ⟨(some 28), .load 1 false, [.t 27], none⟩,
     ⟨(some 29), .len false, [.t 28], none⟩,
     ⟨(some 30), .mov, [.t 0], none⟩,
     ⟨(some 31), .iaddrS 1, [.t 30, .c (.int .i64 0)], none⟩,
     ⟨(some 32), .load 1 false, [.t 31], none⟩,
     ⟨(some 33), .len false, [.t 32], none⟩,
     ⟨(some 34), .bin .neq, [.t 29, .t 33], none⟩])
   (.cond (.t 34) (.seq (.reg [⟨(some 4), .mov, [.c (.int .i64 105)], none⟩])
   .ret) .skip))
   (.seq (.reg [⟨(some 6), .mov, [.c (.int .i64 0)], none⟩])
   (.block 2 (.loop (.seq (.seq (.reg [⟨(some 35), .mov, [.t 6], none⟩,
     ⟨(some 36), .mov, [.t 0], none⟩,
     ⟨(some 37), .mov, [.t 5], none⟩,
     ⟨(some 38), .iaddrS 1, [.t 36, .t 37], none⟩,
     ⟨(some 39), .load 1 false, [.t 38], none⟩,
     ⟨(some 40), .len false, [.t 39], none⟩,
     ⟨(some 41), .bin .lss, [.t 35, .t 40], none⟩])
   (.cond (.t 41) .skip (.exit 2)))
   (.seq (.block 3 (.seq (.reg [⟨(some 44), .mov, [.t 0], none⟩,
     ⟨(some 45), .mov, [.t 5], none⟩,
     ⟨(some 46), .iaddrS 1, [.t 44, .t 45], none⟩,
     ⟨(some 47), .load 1 false, [.t 46], none⟩,
     ⟨(some 48), .mov, [.t 6], none⟩,
     ⟨(some 49), .iaddrS 1, [.t 47, .t 48], none⟩,
     ⟨(some 50), .load 1 false, [.t 49], none⟩,
     ⟨(some 51), .call 51, [.t 50, .c (.int .i64 (-1099511627776)), .c (.int .i64 1099511627776)], none⟩,
     ⟨(some 52), .un .not, [.t 51], none⟩])
   (.cond (.t 52) (.seq (.reg [⟨(some 4), .mov, [.c (.int .i64 105)], none⟩])
   .ret) .skip)))
   (.reg [⟨(some 42), .mov, [.t 6], none⟩,
     ⟨(some 43), .bin .add, [.t 42, .c (.int .i64 1)], none⟩,
     ⟨(some 6), .mov, [.t 43], none⟩]))))))))
   (.reg [⟨(some 23), .mov, [.t 5], none⟩,
     ⟨(some 24), .bin .add, [.t 23, .c (.int .i64 1)], none⟩,
     ⟨(some 5), .mov, [.t 24], none⟩]))))))
   (.seq (.seq (.reg [⟨(some 53), .mov, [.t 1], none⟩,
     ⟨(some 54), .call 51, [.t 53, .c (.int .i64 0), .c (.int .i64 32)], none⟩,
     ⟨(some 55), .un .not, [.t 54], none⟩])
   (.cond (.t 55) (.seq (.reg [⟨(some 4), .mov, [.c (.int .i64 7)], none⟩])
   .ret) .skip))
   (.seq (.reg [⟨(some 4), .mov, [.c (.int .i64 0)], none⟩])
   .ret)))))
theorem chk.ref10_section : chkF Try.prog 111 = some (56, ir.ref10_section, [.tmp 4]) := by kernel_rfl

/-- paravane/paravaneref00.Magnitude -/
abbrev F.ref00_Magnitude : Nat := 112
def ir.ref00_Magnitude : IC :=
 (.seq (.reg [⟨(some 2), .mov, [.c (.int .i64 0)], none⟩])
   (.seq (.reg [⟨(some 3), .mov, [.t 0], none⟩,
     ⟨(some 4), .mov, [.t 0], none⟩,
     ⟨(some 5), .un .neg, [.t 4], none⟩,
     ⟨(some 6), .minmax true, [.t 3, .t 5], none⟩,
     ⟨(some 2), .mov, [.t 6], none⟩])
   .ret))
theorem chk.ref00_Magnitude : chkF Try.prog 112 = some (7, ir.ref00_Magnitude, [.tmp 2]) := by kernel_rfl

end Go.Proofs.Ytkifejklnpddbaa

/-! Contracts: sections and potentials in the specification; the law VolumeBacked. -/
set_option linter.unusedVariables false
set_option linter.unusedSimpArgs false
set_option maxRecDepth 20000
namespace Go.Proofs.Ytkifejklnpddbaa
open Go.Am
attribute [local simp] cells scalar mkv splice under2 under dem dem1

def colOk (l : List (List Int)) (c : List Int) : Bool := c.length == deepOf l && c.all fun n => btw n (-1099511627776) 1099511627776
theorem all_and' {α : Type} (p q : α → Bool) (l : List α) : l.all (fun x => p x && q x) = (l.all p && l.all q) := by
  induction l with
  | nil => rfl
  | cons a r ih => simp only [List.all_cons, ih]; cases p a <;> cases q a <;> cases r.all p <;> cases r.all q <;> rfl
theorem cols_ok (l : List (List Int)) : l.all (colOk l) = (evenL l && numsOk 1099511627776 l) := all_and' _ _ l
def secE (l : List (List Int)) (slope : Int) : Int := if secOk l then (if btw slope 0 32 then 0 else 7) else 105

theorem all_take_succ' {α : Type} {p : α → Bool} {l : List α} {k : Nat} (h : k < l.length) : (l.take (k + 1)).all p = ((l.take k).all p && p l[k]) := by
  rw [List.take_add_one, List.getElem?_eq_getElem h, List.all_append]
  simp

theorem all_false {α : Type} {p : α → Bool} {l : List α} {k : Nat} (h : k < l.length) (e : p l[k] = false) : l.all p = false := by
  rw [List.all_eq_false]
  exact ⟨l[k], List.getElem_mem h, by simp [e]⟩

theorem c_section10 {l : List (List Int)} (hl : saneS l) (slope : Int) : C Try.prog F.ref10_section [secV l, I slope] (I (secE l slope)) := by
  refine C_of mixed chk.ref10_section (by simp) fun S ok => ?_
  refine Tr.seqR rfl (by simp) ?_
  by_cases h16 : btw l.length 1 16 = true
  rotate_left
  · have h16 : btw ((l.map intsV).length : Int) 1 16 = false := by simpa using h16
    have hc : C Try.prog F.ref00_Between [I ((l.map intsV).length : Int), I 1, I 16] (.bool false) := h16 ▸ c_between _ _ _
    refine Tr.seq (Tr.seqC rfl (by simp [secV]) (Steps.call rfl rfl hc (Steps.runN 3 rfl (by simp) ?_)))
    refine Steps.off (.bool false) rfl rfl rfl (Steps.off (.bool false) rfl rfl rfl (Steps.off (.bool false) rfl rfl rfl (Steps.off (.bool false) rfl rfl rfl (Steps.off (.bool false) rfl rfl rfl (Steps.fin rfl (by simp) ?_)))))
    refine Tr.condT rfl (Tr.seqR rfl (by simp) (Tr.retX rfl rfl rfl ?_ trivial))
    have : secOk l = false := by
      unfold secOk
      rw [show btw (l.length : Int) 1 16 = false by simpa using h16]
      simp
    simp [packR, secE, this]
  have g16 : 1 ≤ l.length ∧ l.length ≤ 16 := by
    have : (1 : Int) ≤ l.length ∧ (l.length : Int) ≤ 16 := by simpa [btw] using h16
    omega
  have h0 : 0 < l.length := by omega
  have hd0 : deepOf l = l[0].length := deepOf_eq h0
  have hc : C Try.prog F.ref00_Between [I ((l.map intsV).length : Int), I 1, I 16] (.bool true) := by
    have : btw ((l.map intsV).length : Int) 1 16 = true := by simpa using h16
    exact this ▸ c_between _ _ _
  refine Tr.seq (Tr.seqC rfl (by simp [secV]) (Steps.call rfl rfl hc (Steps.runN 4 rfl (by simp [secV]; omega) ?_)))
  rw [show (0 : Int) = ((0 : Nat) : Int) from rfl, getD_map h0]
  refine Steps.run rfl (by simp [intsV]) (Steps.gcall rfl rfl rfl rfl (by simp) (fun _ => c_between _ _ _) (Steps.fin rfl (by simp) ?_))
  refine Tr.cond rfl rfl (fun h1 => Tr.seqR rfl (by simp) (Tr.retX rfl rfl rfl ?_ trivial)) (fun h1 => Tr.skip ?_)
  · have h2 : btw (deepOf l : Int) 1 32 = false := by rw [hd0]; simpa using h1
    have : secOk l = false := by unfold secOk; rw [h2]; simp
    simp [packR, secE, this]
  have h32 : btw (deepOf l : Int) 1 32 = true := by rw [hd0]; simpa using h1
  refine Tr.seq (Tr.seqR rfl (by simp) (Tr.block ?_))
  refine Tr.loop (fun i s => (i ≤ l.length ∧ (l.take i).all (colOk l) = true) ∧ s = { env := [(0, secV l), (1, I slope), (5, I i)], bx := [], rw := [], log := [], stp := false }) (fun i => l.length - i) 0
    (Wk.le (.cons rfl (.refl _) (.cons rfl (.refl _) (.cons rfl (.refl _) .nil))) .nil .nil rfl rfl) ⟨⟨by omega, rfl⟩, rfl⟩ ?_
  rintro i s ⟨⟨hi, hok⟩, rfl⟩
  refine Tr.seq (Tr.seqR rfl (by simp [secV]) (Tr.cond rfl rfl (fun h2 => Tr.skip ?_) (fun h2 => Tr.exit ?_)))
  rotate_left
  · have h2 : i = l.length := by simp at h2; omega
    subst h2
    rw [List.take_length, cols_ok, Bool.and_eq_true] at hok
    have hs : secOk l = true := by unfold secOk; rw [hok.1, hok.2, h16, h32]; rfl
    refine Tr.seq (Tr.seqC rfl (by simp) (Steps.call rfl rfl (c_between _ _ _) (Steps.fin rfl (by simp) (Tr.cond rfl rfl (fun h3 => Tr.seqR rfl (by simp) (Tr.retX rfl rfl rfl ?_ trivial)) (fun h3 => Tr.skip (Tr.seqR rfl (by simp) (Tr.retX rfl rfl rfl ?_ trivial)))))))
    · have h3 : btw slope 0 32 = false := by simpa using h3
      simp [packR, secE, hs, h3]
    · have h3 : btw slope 0 32 = true := by simpa using h3
      simp [packR, secE, hs, h3]
  have h2 : i < l.length := by simpa using h2
  have hli := hl.2 _ (List.getElem_mem h2)
  have bad : colOk l l[i] = false → secE l slope = 105 := fun hb => by
    have : l.all (colOk l) = false := all_false h2 hb
    rw [cols_ok] at this
    have : secOk l = false := by
      unfold secOk
      rw [h16, h32]
      revert this
      cases evenL l <;> cases numsOk 1099511627776 l <;> simp
    simp [secE, this]
  refine Tr.seq (Tr.block (Tr.seq (Tr.seq (Tr.drawK (TraceK.runN 3 rfl (by simp [secV]; omega) ?_)))))
  rw [getD_map h2]
  refine TraceK.runN 4 rfl (by simp [intsV, secV]; omega) ?_
  rw [show (0 : Int) = ((0 : Nat) : Int) from rfl, getD_map h0]
  refine TraceK.run rfl (by simp [intsV]) (.done ⟨by kernel_rfl, by kernel_rfl, ?_⟩)
  refine Tr.cond rfl rfl (fun h3 => Tr.seqR rfl (by simp) (Tr.retX rfl rfl rfl ?_ trivial)) (fun h3 => Tr.skip ?_)
  · have h3 : (((l[i].map I).length : Int) != ((l[0].map I).length : Int)) = true := h3
    have : colOk l l[i] = false := by
      unfold colOk
      rw [hd0]
      have : ¬ l[i].length = l[0].length := by simp at h3; omega
      simp [this]
    rw [bad this]; rfl
  have h3 : (((l[i].map I).length : Int) != ((l[0].map I).length : Int)) = false := h3
  have h3 : l[i].length = l[0].length := by simp at h3; omega
  refine Tr.seqR rfl (by simp) (Tr.block ?_)
  refine Tr.loop (fun k s => (k ≤ l[i].length ∧ ((l[i].take k).all fun n => btw n (-1099511627776) 1099511627776) = true) ∧ s = { env := [(0, secV l), (1, I slope), (5, I i), (6, I k)], bx := [], rw := [], log := [], stp := false }) (fun k => l[i].length - k) 0
    (Wk.le (.cons rfl (.refl _) (.cons rfl (.refl _) (.cons rfl (.refl _) (.cons rfl (.refl _) .nil)))) .nil .nil rfl rfl) ⟨⟨by omega, rfl⟩, rfl⟩ ?_
  rintro k s ⟨⟨hk, hokk⟩, rfl⟩
  refine Tr.seq (Tr.seqN 4 rfl (by simp [secV]; omega) ?_)
  rw [getD_map h2]
  refine Steps.fin rfl (by simp [intsV]) (Tr.cond rfl rfl (fun h4 => Tr.skip ?_) (fun h4 => Tr.exit ?_))
  · have h4 : k < l[i].length := by simpa using h4
    refine Tr.seq (Tr.block (Tr.seqN 3 rfl (by simp [secV]; omega) ?_))
    rw [getD_map h2]
    refine Steps.runN 3 rfl (by simp [intsV]; omega) ?_
    rw [getD_map h4]
    refine Steps.run rfl (by simp) (Steps.call rfl rfl (c_between _ _ _) (Steps.fin rfl (by simp) (Tr.cond rfl rfl (fun h5 => Tr.seqR rfl (by simp) (Tr.retX rfl rfl rfl ?_ trivial)) (fun h5 => Tr.skip (Tr.regR rfl (by simp) ?_)))))
    · have h5 : btw l[i][k] (-1099511627776) 1099511627776 = false := by simpa using h5
      have : colOk l l[i] = false := by
        unfold colOk
        rw [all_false h4 h5, Bool.and_false]
      rw [bad this]; rfl
    · have h5 : btw l[i][k] (-1099511627776) 1099511627776 = true := by simpa using h5
      exact ⟨k + 1, _, Wk.le (.cons rfl (.refl _) (.cons rfl (.refl _) (.cons rfl (.refl _) (.cons rfl (VLe.i (w64 (by omega) (by omega))) .nil)))) .nil .nil rfl rfl, ⟨⟨h4, by rw [all_take_succ' h4, hokk, h5]; rfl⟩, rfl⟩, by omega⟩
  · have h4 : k = l[i].length := by simp at h4; omega
    subst h4
    rw [List.take_length] at hokk
    refine Tr.regR rfl (by simp) ?_
    refine ⟨i + 1, _, Wk.le (.cons rfl (.refl _) (.cons rfl (.refl _) (.cons rfl (VLe.i (w64 (by omega) (by omega))) .nil))) .nil .nil rfl rfl, ⟨⟨h2, ?_⟩, rfl⟩, by omega⟩
    rw [all_take_succ' h2, hok]
    simp [colOk, hokk, hd0, h3]

end Go.Proofs.Ytkifejklnpddbaa

/-! Plain facts: the best horizon is worth most, and not more than potentials say. -/
set_option linter.unusedVariables false
set_option linter.unusedSimpArgs false
set_option maxRecDepth 20000
namespace Go.Proofs.Ytkifejklnpddbaa
open Go.Am

theorem foldW_ge : ∀ (l : List Int) (s : Bool × Int), (s.1 = true → s.2 ≤ (l.foldl stepW s).2) ∧ ∀ x ∈ l, x ≤ (l.foldl stepW s).2
  | [], s => ⟨fun _ => Int.le_refl _, fun x h => by simp at h⟩
  | y :: r, s => by
    obtain ⟨h1, h2⟩ := foldW_ge r (stepW s y)
    simp only [List.foldl_cons]
    have h3 : (stepW s y).1 = true ∧ y ≤ (stepW s y).2 ∧ (s.1 = true → s.2 ≤ (stepW s y).2) := by
      obtain ⟨b, m⟩ := s
      unfold stepW
      by_cases h : m < y
      · have e : (!b || decide (y > m)) = true := by simp [h]
        simp only [e, if_true]
        exact ⟨trivial, Int.le_refl _, fun _ => Int.le_of_lt h⟩
      · cases b
        · simp
        · simp [h]; omega
    refine ⟨fun hs => Int.le_trans (h3.2.2 hs) (h1 h3.1), fun x hx => ?_⟩
    rcases List.mem_cons.1 hx with rfl | hx
    · exact Int.le_trans h3.2.1 (h1 h3.1)
    · exact h2 x hx

theorem best_ge {L : List Int} {x : Int} (h : x ∈ L) : x ≤ (bestG L).2 := (foldW_ge L (false, 0)).2 x h

theorem mem_next {n d sl c i q : Nat} (hd : 1 ≤ d) : q ∈ nextN n d sl c i ↔ c + 1 ≠ n ∧ i - sl ≤ q ∧ q ≤ i + sl ∧ q < d := by
  unfold nextN
  by_cases h : c + 1 = n
  · simp [h]
  · rw [if_neg h, List.mem_range'_1]
    omega

theorem worth_ge {l : List (List Int)} {sl c i q : Nat} (hc : c < l.length) (hq : q ∈ nextN l.length (deepOf l) sl c i) : at2 l c i + worthV l sl (c + 1) q ≤ worthV l sl c i := by
  rw [worthV_eq (i := i) hc]
  have := best_ge (List.mem_map_of_mem (f := worthV l sl (c + 1)) hq)
  omega

theorem worth_last {l : List (List Int)} {sl c i : Nat} (hc : c + 1 = l.length) : worthV l sl c i = at2 l c i := by
  rw [worthV_eq (by omega)]
  simp [nextN, hc, bestG]

/-- What a path is worth. -/
def sumI (l : List (List Int)) : Nat → List Int → Int
  | _, [] => 0
  | c, x :: r => at2 l c x.toNat + sumI l (c + 1) r

theorem sumI_append (l : List (List Int)) : ∀ (c : Nat) (a b : List Int), sumI l c (a ++ b) = sumI l c a + sumI l (c + a.length) b
  | c, [], b => by simp [sumI]
  | c, x :: r, b => by
    simp only [List.cons_append, sumI, sumI_append l (c + 1) r b, List.length_cons]
    rw [show c + 1 + r.length = c + (r.length + 1) by omega]
    omega

def magI (n : Int) : Int := max n (0 - n)
def okStep (l : List (List Int)) (sl : Int) (path : List Int) (i : Nat) : Bool := btw (path.getD i 0) 0 ((deepOf l : Int) - 1) && (decide (i = 0) || decide (magI (path.getD i 0 - path.getD (i - 1) 0) ≤ sl))
def isPath (l : List (List Int)) (sl : Int) (path : List Int) : Bool := decide (path.length = l.length) && (List.range path.length).all (okStep l sl path)

theorem path_step {l : List (List Int)} {sl : Int} {path : List Int} (h : isPath l sl path = true) {i : Nat} (hi : i < path.length) : okStep l sl path i = true := by
  simp only [isPath, Bool.and_eq_true, List.all_eq_true] at h
  exact h.2 i (by simpa using hi)

theorem path_le {l : List (List Int)} {sl : Nat} {path : List Int} (hd : 1 ≤ deepOf l) (h : isPath l sl path = true) : ∀ (d c : Nat), c + d + 1 = l.length → sumI l c (path.drop c) ≤ worthV l sl c (path.getD c 0).toNat := by
  have hlen : path.length = l.length := by simp only [isPath, Bool.and_eq_true, decide_eq_true_eq] at h; exact h.1
  intro d
  induction d with
  | zero =>
    intro c hc
    have h1 : c < path.length := by omega
    rw [List.drop_eq_getElem_cons h1, List.drop_eq_nil_of_le (by omega), worth_last (by omega), List.getD_eq_getElem?_getD, List.getElem?_eq_getElem h1]
    simp [sumI]
  | succ d ih =>
    intro c hc
    have h1 : c < path.length := by omega
    have h2 := ih (c + 1) (by omega)
    rw [List.drop_eq_getElem_cons h1]
    have e : path.getD c 0 = path[c] := by rw [List.getD_eq_getElem?_getD, List.getElem?_eq_getElem h1]; rfl
    simp only [sumI, ← e]
    have s0 := path_step h h1
    have s1 := path_step h (i := c + 1) (by omega)
    simp only [okStep, btw, Bool.and_eq_true, Bool.or_eq_true, decide_eq_true_eq, Nat.add_sub_cancel, magI] at s0 s1
    have hq : (path.getD (c + 1) 0).toNat ∈ nextN l.length (deepOf l) sl c (path.getD c 0).toNat := by
      rw [mem_next hd]; omega
    have := worth_ge (by omega) hq
    omega

theorem foldA_ge (g : Nat → Int) : ∀ (m : List Nat) (a : Nat), g a ≤ g (m.foldl (fun a i => if g i > g a then i else a) a) ∧ ∀ x ∈ m, g x ≤ g (m.foldl (fun a i => if g i > g a then i else a) a)
  | [], a => ⟨Int.le_refl _, fun x h => by simp at h⟩
  | y :: r, a => by
    obtain ⟨h1, h2⟩ := foldA_ge g r (if g y > g a then y else a)
    simp only [List.foldl_cons]
    have h3 : g a ≤ g (if g y > g a then y else a) ∧ g y ≤ g (if g y > g a then y else a) := by split <;> omega
    refine ⟨Int.le_trans h3.1 h1, fun x hx => ?_⟩
    rcases List.mem_cons.1 hx with rfl | hx
    · exact Int.le_trans h3.2 h1
    · exact h2 x hx

theorem argBest_ge {l : List (List Int)} {sl k i : Nat} (hi : i < k) : worthV l sl 0 i ≤ worthV l sl 0 (argBest l sl k) :=
  (foldA_ge (worthV l sl 0) (List.range k) 0).2 i (by simpa using hi)

/-- **NO PATH IS WORTH MORE.** -/
theorem path_best {l : List (List Int)} {sl : Nat} {path : List Int} (hn : 1 ≤ l.length) (hd : 1 ≤ deepOf l) (h : isPath l sl path = true) : sumI l 0 path ≤ worthV l sl 0 (argBest l sl (deepOf l)) := by
  have h1 := path_le hd h (l.length - 1) 0 (by omega)
  have hlen : path.length = l.length := by simp only [isPath, Bool.and_eq_true, decide_eq_true_eq] at h; exact h.1
  have s0 := path_step h (i := 0) (by omega)
  simp only [okStep, btw, Bool.and_eq_true, Bool.or_eq_true, decide_eq_true_eq] at s0
  have h2 := argBest_ge (l := l) (sl := sl) (k := deepOf l) (i := (path.getD 0 0).toNat) (by omega)
  rw [List.drop_zero] at h1
  exact Int.le_trans h1 h2

/-- A way from a value on. -/
theorem walk_spec {l : List (List Int)} {sl : Nat} (hd : 1 ≤ deepOf l) : ∀ (k c i : Nat), c + k + 1 = l.length → i < deepOf l →
    (walkN l sl k c i).length = k ∧ sumI l c ((i :: walkN l sl k c i).map fun (q : Nat) => (q : Int)) = worthV l sl c i ∧ ∀ j, j < k → ∃ p q, (i :: walkN l sl k c i)[j]? = some p ∧ (i :: walkN l sl k c i)[j + 1]? = some q ∧ q ∈ nextN l.length (deepOf l) sl (c + j) p
  | 0, c, i, hc, hi => by
    refine ⟨rfl, ?_, fun j hj => by omega⟩
    rw [worth_last (by omega)]
    simp [walkN, sumI]
  | k + 1, c, i, hc, hi => by
    obtain ⟨q, hq⟩ := Option.isSome_iff_exists.1 (firstQ_some (l := l) (sl := sl) (c := c) (by omega) hi)
    have hqn : q ∈ nextN l.length (deepOf l) sl c i := List.mem_of_find?_eq_some hq
    have hqe : worthV l sl (c + 1) q = worthV l sl c i - at2 l c i := by
      have := List.find?_some hq
      simpa using this
    have hqd := ((mem_next hd).1 hqn).2.2.2
    obtain ⟨h1, h2, h3⟩ := walk_spec (sl := sl) hd k (c + 1) q (by omega) hqd
    have ew : walkN l sl (k + 1) c i = q :: walkN l sl k (c + 1) q := by simp only [walkN, hq]
    rw [ew]
    refine ⟨by simp [h1], ?_, fun j hj => ?_⟩
    · rw [List.map_cons]
      simp only [sumI, h2, hqe, Int.toNat_natCast]
      omega
    · cases j with
      | zero => exact ⟨i, q, rfl, rfl, by simpa using hqn⟩
      | succ j =>
        obtain ⟨p, q', g1, g2, g3⟩ := h3 j (by omega)
        refine ⟨p, q', by simpa using g1, by simpa using g2, ?_⟩
        rw [show c + (j + 1) = c + 1 + j by omega]; exact g3

def bestP (l : List (List Int)) (sl : Nat) : List Int := (argBest l sl (deepOf l) :: walkN l sl (l.length - 1) 0 (argBest l sl (deepOf l))).map fun (q : Nat) => (q : Int)

theorem bestP_is {l : List (List Int)} {sl : Nat} (hn : 1 ≤ l.length) (hd : 1 ≤ deepOf l) : isPath l sl (bestP l sl) = true ∧ sumI l 0 (bestP l sl) = worthV l sl 0 (argBest l sl (deepOf l)) := by
  have hb : argBest l sl (deepOf l) < deepOf l := argBest_lt (by omega)
  obtain ⟨h1, h2, h3⟩ := walk_spec (sl := sl) hd (l.length - 1) 0 _ (by omega) hb
  refine ⟨?_, h2⟩
  have hlen : (bestP l sl).length = l.length := by simp [bestP, h1]; omega
  simp only [isPath, Bool.and_eq_true, decide_eq_true_eq, List.all_eq_true]
  refine ⟨hlen, fun i hi => ?_⟩
  have hi : i < l.length := by simpa [hlen] using hi
  simp only [okStep, btw, Bool.and_eq_true, Bool.or_eq_true, decide_eq_true_eq, magI]
  cases i with
  | zero =>
    simp [bestP]; omega
  | succ j =>
    obtain ⟨p, q, g1, g2, g3⟩ := h3 j (by omega)
    have e1 : (bestP l sl).getD j 0 = (p : Int) := by
      rw [List.getD_eq_getElem?_getD]; unfold bestP; rw [List.getElem?_map, g1]; rfl
    have e2 : (bestP l sl).getD (j + 1) 0 = (q : Int) := by
      rw [List.getD_eq_getElem?_getD]; unfold bestP; rw [List.getElem?_map, g2]; rfl
    rw [Nat.add_sub_cancel, e1, e2]
    have h9 := (mem_next hd).1 g3
    refine ⟨⟨by omega, by omega⟩, .inr ?_⟩
    have a1 : (q : Int) - (p : Int) ≤ (sl : Int) := by omega
    have a2 : 0 - ((q : Int) - (p : Int)) ≤ (sl : Int) := by omega
    exact decide_eq_true (Int.max_le.2 ⟨a1, a2⟩)

/-! ### Potentials -/
theorem backs_ge {v b : List (List Int)} {sl : Nat} (hd : 1 ≤ deepOf v) (hok : okTo v b sl v.length = true) : ∀ (d c i : Nat), c + d + 1 = v.length → i < deepOf v → worthV v sl c i ≤ at2 b c i := by
  have hat : ∀ c i, c < v.length → i < deepOf v → okAt v b sl c i = true := fun c i hc hi => by
    unfold okTo at hok
    rw [List.all_eq_true] at hok
    have := hok c (by simpa using hc)
    unfold okCol at this
    rw [List.all_eq_true] at this
    exact this i (by simpa using hi)
  intro d
  induction d with
  | zero =>
    intro c i hc hi
    have h := hat c i (by omega) hi
    rw [worth_last (by omega)]
    simp only [okAt, Bool.and_eq_true, Bool.or_eq_true, decide_eq_true_eq] at h
    omega
  | succ d ih =>
    intro c i hc hi
    have h := hat c i (by omega) hi
    simp only [okAt, Bool.and_eq_true, List.all_eq_true] at h
    have hne : (nextN v.length (deepOf v) sl c i).map (worthV v sl (c + 1)) ≠ [] := by
      intro e
      have := mem_next_self (n := v.length) (d := deepOf v) (sl := sl) (c := c) (i := i) (by omega) hi
      rw [List.map_eq_nil_iff] at e
      rw [e] at this; cases this
    obtain ⟨q, h1, h2⟩ := List.mem_map.1 (best_mem hne)
    have h3 := h.2 q h1
    simp only [okNext, decide_eq_true_eq] at h3
    have h4 := ih (c + 1) q (by omega) ((mem_next hd).1 h1).2.2.2
    rw [worthV_eq (by omega), ← h2]
    omega

theorem foldM_ge : ∀ (r : List Int) (a : Int), a ≤ r.foldl max a ∧ ∀ x ∈ r, x ≤ r.foldl max a
  | [], a => ⟨Int.le_refl _, fun x h => by simp at h⟩
  | y :: r, a => by
    obtain ⟨h1, h2⟩ := foldM_ge r (max a y)
    simp only [List.foldl_cons]
    refine ⟨by omega, fun x hx => ?_⟩
    rcases List.mem_cons.1 hx with rfl | hx
    · omega
    · exact h2 x hx

theorem max_ge {L : List Int} {i : Nat} (hi : i < L.length) : L.getD i 0 ≤ L.tail.foldl max (L.headD 0) := by
  cases L with
  | nil => simp at hi
  | cons a r =>
    obtain ⟨h1, h2⟩ := foldM_ge r a
    cases i with
    | zero => simpa using h1
    | succ i =>
      have hi : i < r.length := by simpa using hi
      rw [List.getD_cons_succ, List.getD_eq_getElem?_getD, List.getElem?_eq_getElem hi]
      exact h2 _ (List.getElem_mem hi)

/-- **POTENTIALS BOUND IT.** -/
theorem backs_best {v b : List (List Int)} {sl : Nat} (hn : 1 ≤ v.length) (hd : 1 ≤ deepOf v) (hb : backsOk v b = true) (hok : okTo v b sl v.length = true) :
    worthV v sl 0 (argBest v sl (deepOf v)) ≤ (b.headD []).tail.foldl max ((b.headD []).headD 0) := by
  have hba : argBest v sl (deepOf v) < deepOf v := argBest_lt (by omega)
  have h1 := backs_ge hd hok (v.length - 1) 0 (argBest v sl (deepOf v)) (by omega) hba
  simp only [backsOk, Bool.and_eq_true, decide_eq_true_eq] at hb
  have hl : argBest v sl (deepOf v) < (b.headD []).length := by
    have : (b.headD []).length = deepOf b := rfl
    omega
  have h2 := max_ge hl
  have e : at2 b 0 (argBest v sl (deepOf v)) = (b.headD []).getD (argBest v sl (deepOf v)) 0 := by
    unfold at2
    cases b with
    | nil => rfl
    | cons a r => rfl
  omega

end Go.Proofs.Ytkifejklnpddbaa

/-! Contracts: potentials in the specification; the law VolumeBacked. -/
set_option linter.unusedVariables false
set_option linter.unusedSimpArgs false
set_option maxRecDepth 20000
set_option maxHeartbeats 2000000
namespace Go.Proofs.Ytkifejklnpddbaa
open Go.Am
attribute [local simp] cells scalar mkv splice under2 under dem dem1

theorem c_Magnitude (n : Int) (h : -1000000000000000 ≤ n ∧ n ≤ 1000000000000000) : C Try.prog F.ref00_Magnitude [I n] (I (magI n)) := by
  refine C_of mixed chk.ref00_Magnitude (by simp) fun S ok => ?_
  refine Tr.seqR rfl (by simp) (Tr.seqR rfl (by simp) (Tr.retX rfl rfl rfl ?_ trivial))
  show I (magI n) = I (bif true then (if IntKind.i64.wrap (0 - n) > n then IntKind.i64.wrap (0 - n) else n) else _)
  rw [cond_true, ite_max, w64 (n := 0 - n) (by omega) (by omega)]
  rfl

def backCol (v : List (List Int)) (c : List Int) : Bool := c.length == deepOf v && c.all fun n => btw n (-70368744177664) 70368744177664

theorem backs_all {v b : List (List Int)} (h0 : 0 < v.length) (hl : b.length = v.length) : b.all (backCol v) = backsOk v b := by
  unfold backsOk
  rw [show b.all (backCol v) = ((b.all fun c => c.length == deepOf v) && numsOk 70368744177664 b) from all_and' _ _ b]
  have hb0 : 0 < b.length := by omega
  have e : (b.all fun c => c.length == deepOf v) = (evenL b && decide (deepOf b = deepOf v)) := by
    by_cases hd : deepOf b = deepOf v
    · unfold evenL; rw [hd]; simp
    · rw [decide_eq_false hd, Bool.and_false]
      refine all_false hb0 ?_
      rw [← deepOf_eq hb0]
      simpa using hd
  rw [e]
  by_cases hd : deepOf b = deepOf v <;> simp [hb0, hl, hd, h0]

theorem okTo_false {v b : List (List Int)} {sl c i : Nat} (hc : c < v.length) (hi : i < deepOf v) (h : okAt v b sl c i = false) : okTo v b sl v.length = false := by
  unfold okTo okCol
  rw [List.all_eq_false]
  refine ⟨c, by simpa using hc, fun hall => ?_⟩
  have := List.all_eq_true.1 hall i (by simpa using hi)
  rw [h] at this; cases this

theorem c_Backed10 {v b : List (List Int)} (hv : saneS v) (hb : saneS b) (slope : Int) : C Try.prog F.ref10_Backed [secV v, I slope, secV b] (.tuple [I (backR v slope b).1, I (backR v slope b).2]) := by
  refine C_of mixed chk.ref10_Backed (by simp) fun S ok => ?_
  refine Tr.seqR rfl (by simp) ?_
  refine Tr.seq (Tr.seqC rfl (by simp [secV]) (Steps.call rfl rfl (c_section10 hv slope) (Steps.fin rfl (by simp) ?_)))
  refine Tr.seqR rfl (by simp) (Tr.cond rfl rfl (fun h1 => Tr.seqR rfl (by simp) (Tr.retX rfl rfl rfl ?_ trivial)) (fun h1 => Tr.skip ?_))
  · have h1 : (secE v slope != 0) = true := h1
    unfold secE at h1 ⊢
    unfold backR
    by_cases hE : secOk v = true
    · by_cases hS : btw slope 0 32 = true
      · simp [hE, hS] at h1
      · simp [hE, hS, packR]
    · simp [hE, packR]
  have h1 : (secE v slope != 0) = false := h1
  have hES : secOk v = true ∧ btw slope 0 32 = true := by
    unfold secE at h1
    by_cases hE : secOk v = true
    · by_cases hS : btw slope 0 32 = true
      · exact ⟨hE, hS⟩
      · simp [hE, hS] at h1
    · simp [hE] at h1
  obtain ⟨hE, hS⟩ := hES
  obtain ⟨sl, rfl⟩ : ∃ sl : Nat, slope = (sl : Int) := ⟨slope.toNat, by simp [btw] at hS; omega⟩
  have hsl : sl ≤ 32 := by simp [btw] at hS; omega
  obtain ⟨hev, hn, hd, hnum⟩ := secOk_spec hE
  refine Tr.seq (Tr.seqR rfl (by simp [secV]) (Tr.cond rfl rfl (fun h2 => Tr.seqR rfl (by simp) (Tr.retX rfl rfl rfl ?_ trivial)) (fun h2 => Tr.skip ?_)))
  · have h2 : (((b.map intsV).length : Int) != ((v.map intsV).length : Int)) = true := h2
    have : ¬ b.length = v.length := by simp at h2; omega
    have : backsOk v b = false := by unfold backsOk; simp [this]
    simp [packR, backR, hE, hS, this]
  have h2 : (((b.map intsV).length : Int) != ((v.map intsV).length : Int)) = false := h2
  have hbl : b.length = v.length := by simp at h2; omega
  have bad : backsOk v b = false → backR v sl b = (0, 106) := fun h => by simp [backR, hE, hS, h]
  refine Tr.seq (Tr.seqR rfl (by simp) (Tr.block ?_))
  refine Tr.loop (fun i s => (i ≤ v.length ∧ (b.take i).all (backCol v) = true) ∧ s = { env := [(0, secV v), (1, I sl), (2, secV b), (9, I i)], bx := [], rw := [], log := [], stp := false }) (fun i => v.length - i) 0
    (Wk.le (.cons rfl (.refl _) (.cons rfl (.refl _) (.cons rfl (.refl _) (.cons rfl (.refl _) .nil)))) .nil .nil rfl rfl) ⟨⟨by omega, rfl⟩, rfl⟩ ?_
  rintro i s ⟨⟨hi, hok⟩, rfl⟩
  refine Tr.seq (Tr.seqR rfl (by simp [secV]) (Tr.cond rfl rfl (fun h3 => Tr.skip ?_) (fun h3 => Tr.exit ?_)))
  · have h3 : i < v.length := by simpa using h3
    have hib : i < b.length := by omega
    have hvl : v[i].length = deepOf v := evenL_spec hev h3
    have hbi := hb.2 _ (List.getElem_mem hib)
    have badc : backCol v b[i] = false → backR v sl b = (0, 106) := fun h => bad (by rw [← backs_all (by omega) hbl]; exact all_false hib h)
    refine Tr.seq (Tr.block (Tr.seq (Tr.seq (Tr.drawK (TraceK.runN 3 rfl (by simp [secV]; omega) ?_)))))
    rw [getD_map hib]
    refine TraceK.runN 5 rfl (by simp [intsV, secV]; omega) ?_
    rw [getD_map h3]
    refine TraceK.run rfl (by simp [intsV]) (.done ⟨by kernel_rfl, by kernel_rfl, ?_⟩)
    refine Tr.cond rfl rfl (fun h4 => Tr.seqR rfl (by simp) (Tr.retX rfl rfl rfl ?_ trivial)) (fun h4 => Tr.skip ?_)
    · have h4 : (((b[i].map I).length : Int) != ((v[i].map I).length : Int)) = true := h4
      have : ¬ b[i].length = deepOf v := by simp at h4; omega
      rw [badc (by unfold backCol; simp [this])]; rfl
    have h4 : (((b[i].map I).length : Int) != ((v[i].map I).length : Int)) = false := h4
    have h4 : b[i].length = deepOf v := by simp at h4; omega
    refine Tr.seqR rfl (by simp) (Tr.block ?_)
    refine Tr.loop (fun k s => (k ≤ deepOf v ∧ ((b[i].take k).all fun n => btw n (-70368744177664) 70368744177664) = true) ∧ s = { env := [(0, secV v), (1, I sl), (2, secV b), (9, I i), (10, I k)], bx := [], rw := [], log := [], stp := false }) (fun k => deepOf v - k) 0
      (Wk.le (.cons rfl (.refl _) (.cons rfl (.refl _) (.cons rfl (.refl _) (.cons rfl (.refl _) (.cons rfl (.refl _) .nil))))) .nil .nil rfl rfl) ⟨⟨by omega, rfl⟩, rfl⟩ ?_
    rintro k s ⟨⟨hk, hokk⟩, rfl⟩
    refine Tr.seq (Tr.seqN 4 rfl (by simp [secV]; omega) ?_)
    rw [getD_map h3]
    refine Steps.fin rfl (by simp [intsV]) (Tr.cond rfl rfl (fun h5 => Tr.skip ?_) (fun h5 => Tr.exit ?_))
    · have h5 : k < v[i].length := by simpa using h5
      have h6 : k < b[i].length := by omega
      refine Tr.seq (Tr.block (Tr.seqN 3 rfl (by simp [secV]; omega) ?_))
      rw [getD_map hib]
      refine Steps.runN 3 rfl (by simp [intsV]; omega) ?_
      rw [getD_map h6]
      refine Steps.run rfl (by simp) (Steps.call rfl rfl (c_between _ _ _) (Steps.fin rfl (by simp) (Tr.cond rfl rfl (fun h7 => Tr.seqR rfl (by simp) (Tr.retX rfl rfl rfl ?_ trivial)) (fun h7 => Tr.skip (Tr.regR rfl (by simp) ?_)))))
      · have h7 : btw b[i][k] (-70368744177664) 70368744177664 = false := by simpa using h7
        rw [badc (by unfold backCol; rw [all_false h6 h7, Bool.and_false])]; rfl
      · have h7 : btw b[i][k] (-70368744177664) 70368744177664 = true := by simpa using h7
        exact ⟨k + 1, _, Wk.le (.cons rfl (.refl _) (.cons rfl (.refl _) (.cons rfl (.refl _) (.cons rfl (.refl _) (.cons rfl (VLe.i (w64 (by omega) (by omega))) .nil))))) .nil .nil rfl rfl, ⟨⟨by omega, by rw [all_take_succ' h6, hokk, h7]; rfl⟩, rfl⟩, by omega⟩
    · have h5 : k = b[i].length := by simp at h5; omega
      subst h5
      rw [List.take_length] at hokk
      refine Tr.regR rfl (by simp) ?_
      refine ⟨i + 1, _, Wk.le (.cons rfl (.refl _) (.cons rfl (.refl _) (.cons rfl (.refl _) (.cons rfl (VLe.i (w64 (by omega) (by omega))) .nil)))) .nil .nil rfl rfl, ⟨⟨h3, ?_⟩, rfl⟩, by omega⟩
      rw [all_take_succ' hib, hok]
      simp [backCol, hokk, h4]
  have h3 : i = b.length := by simp at h3; omega
  subst h3
  rw [List.take_length, backs_all (by omega) hbl] at hok
  have hok' := hok
  simp only [backsOk, Bool.and_eq_true, decide_eq_true_eq] at hok'
  obtain ⟨⟨⟨hb0, hbev⟩, hbn, hbd⟩, hbnum⟩ := hok'
  have badT : okTo v b sl v.length = false → backR v sl b = (0, 106) := fun h => by simp [backR, hE, hS, hok, h]
  refine Tr.seq (Tr.seqR rfl (by simp) (Tr.block ?_))
  refine Tr.loop (fun i s => (i ≤ v.length ∧ okTo v b sl i = true) ∧ s = { env := [(0, secV v), (1, I sl), (2, secV b), (11, I i)], bx := [], rw := [], log := [], stp := false }) (fun i => v.length - i) 0
    (Wk.le (.cons rfl (.refl _) (.cons rfl (.refl _) (.cons rfl (.refl _) (.cons rfl (.refl _) .nil)))) .nil .nil rfl rfl) ⟨⟨by omega, rfl⟩, rfl⟩ ?_
  rintro i s ⟨⟨hi, hokT⟩, rfl⟩
  refine Tr.seq (Tr.seqR rfl (by simp [secV]) (Tr.cond rfl rfl (fun h3 => Tr.skip ?_) (fun h3 => Tr.exit ?_)))
  · have h3 : i < v.length := by simpa using h3
    have hib : i < b.length := by omega
    have hvl : v[i].length = deepOf v := evenL_spec hev h3
    have hbl2 : b[i].length = deepOf v := by rw [evenL_spec hbev hib, hbd]
    refine Tr.seq (Tr.block (Tr.seqR rfl (by simp) (Tr.block ?_)))
    refine Tr.loop (fun k s => (k ≤ deepOf v ∧ okCol v b sl i k = true) ∧ s = { env := [(0, secV v), (1, I sl), (2, secV b), (11, I i), (12, I k)], bx := [], rw := [], log := [], stp := false }) (fun k => deepOf v - k) 0
      (Wk.le (.cons rfl (.refl _) (.cons rfl (.refl _) (.cons rfl (.refl _) (.cons rfl (.refl _) (.cons rfl (.refl _) .nil))))) .nil .nil rfl rfl) ⟨⟨by omega, rfl⟩, rfl⟩ ?_
    rintro k s ⟨⟨hk, hokC⟩, rfl⟩
    refine Tr.seq (Tr.seqN 4 rfl (by simp [secV]; omega) ?_)
    rw [getD_map h3]
    refine Steps.fin rfl (by simp [intsV]) (Tr.cond rfl rfl (fun h5 => Tr.skip ?_) (fun h5 => Tr.exit ?_))
    rotate_left
    · have h5 : k = deepOf v := by simp at h5; omega
      subst h5
      refine Tr.regR rfl (by simp) ?_
      refine ⟨i + 1, _, Wk.le (.cons rfl (.refl _) (.cons rfl (.refl _) (.cons rfl (.refl _) (.cons rfl (VLe.i (w64 (by omega) (by omega))) .nil)))) .nil .nil rfl rfl, ⟨⟨h3, ?_⟩, rfl⟩, by omega⟩
      unfold okTo at hokT ⊢
      rw [List.range_succ, List.all_append, hokT]
      simp [hokC]
    have hkv : k < v[i].length := by simpa using h5
    have hkd : k < deepOf v := by omega
    have hkb : k < b[i].length := by omega
    have bv := numsOk_spec hnum h3 hkv
    have bb := numsOk_spec hbnum hib hkb
    have wl : IntKind.i64.wrap (((v.map intsV).length : Int) - 1) = (v.length : Int) - 1 := by rw [List.length_map]; exact w64 (by omega) (by omega)
    have a1 : at2 v i k = v[i][k] := at2_eq h3 hkv
    have a2 : at2 b i k = b[i][k] := at2_eq hib hkb
    refine Tr.seq (Tr.block (Tr.seq (Tr.seq (Tr.drawK (TraceK.runN 9 rfl (by simp [secV] <;> (intros; omega)) ?_)))))
    rw [getD_map hib]
    refine TraceK.runN 3 rfl (by simp [intsV] <;> (intros; omega)) ?_
    rw [getD_map hkb]
    refine TraceK.runN 4 rfl (by simp [secV] <;> (intros; omega)) ?_
    rw [getD_map h3]
    refine TraceK.runN 3 rfl (by simp [intsV] <;> (intros; omega)) ?_
    rw [getD_map hkv]
    refine TraceK.run rfl (by simp) (.done ⟨by kernel_rfl, by kernel_rfl, ?_⟩)
    have hfail : ∀ c : Bool, (bif ((i : Int) == IntKind.i64.wrap (((v.map intsV).length : Int) - 1)) then decide (b[i][k] < v[i][k]) else false) = c → c = !(decide (i + 1 < v.length) || decide (at2 b i k ≥ at2 v i k)) := by
      rintro c rfl
      rw [wl, a1, a2]
      by_cases h : i + 1 < v.length
      · have h' : ¬ (i : Int) = (v.length : Int) - 1 := by omega
        simp [h, h']
      · have h' : (i : Int) = (v.length : Int) - 1 := by omega
        simp only [h', BEq.rfl, cond_true, decide_eq_false h, Bool.false_or]
        by_cases h9 : b[i][k] < v[i][k] <;> simp [h9] <;> omega
    refine Tr.cond rfl rfl (fun h6 => Tr.seqR rfl (by simp) (Tr.retX rfl rfl rfl ?_ trivial)) (fun h6 => Tr.skip ?_)
    · have h7 := not_of (hfail true h6)
      have : okAt v b sl i k = false := by unfold okAt; rw [h7]; rfl
      rw [badT (okTo_false h3 hkd this)]; rfl
    have h7 := not_of (hfail false h6)
    refine Tr.seqR rfl (by simp) (Tr.block ?_)
    refine Tr.loop (fun j s => (j ≤ deepOf v ∧ ∀ q, q < j → q ∈ nextN v.length (deepOf v) sl i k → okNext v b i k q = true) ∧ s = { env := [(0, secV v), (1, I sl), (2, secV b), (11, I i), (12, I k), (13, I j)], bx := [], rw := [], log := [], stp := false }) (fun j => deepOf v - j) 0
      (Wk.le (.cons rfl (.refl _) (.cons rfl (.refl _) (.cons rfl (.refl _) (.cons rfl (.refl _) (.cons rfl (.refl _) (.cons rfl (.refl _) .nil)))))) .nil .nil rfl rfl) ⟨⟨by omega, fun q hq => by omega⟩, rfl⟩ ?_
    rintro j s ⟨⟨hj, hokN⟩, rfl⟩
    refine Tr.seq (Tr.seqN 10 rfl (by simp [secV] <;> (intros; omega)) ?_)
    rw [getD_map h3]
    have hgo : ∀ c : Bool, (bif decide ((i : Int) < IntKind.i64.wrap (((v.map intsV).length : Int) - 1)) then decide ((j : Int) < ((v[i].map I).length : Int)) else false) = c → (c = true ↔ i + 1 < v.length ∧ j < deepOf v) := by
      rintro c rfl
      rw [wl, List.length_map, hvl]
      by_cases h : i + 1 < v.length
      · have h' : (i : Int) < (v.length : Int) - 1 := by omega
        simp [h, h']
      · have h' : ¬ (i : Int) < (v.length : Int) - 1 := by omega
        simp [h, h']
    refine Steps.fin rfl (by simp [intsV]) (Tr.cond rfl rfl (fun h8 => Tr.skip ?_) (fun h8 => Tr.exit ?_))
    · obtain ⟨hi1, hjd⟩ := (hgo true h8).1 rfl
      have hib1 : i + 1 < b.length := by omega
      have hjb : j < b[i + 1].length := by rw [evenL_spec hbev hib1, hbd]; exact hjd
      have bj := numsOk_spec hbnum hib1 hjb
      have w1 : IntKind.i64.wrap ((i : Int) + 1) = ((i + 1 : Nat) : Int) := by rw [w64 (by omega) (by omega)]; omega
      have wjk : IntKind.i64.wrap ((j : Int) - (k : Int)) = (j : Int) - (k : Int) := w64 (by omega) (by omega)
      have a3 : at2 b (i + 1) j = b[i + 1][j] := at2_eq hib1 hjb
      refine Tr.weak (s' := { env := [(0, secV v), (1, I sl), (2, secV b), (11, I i), (12, I k), (13, I j)], bx := [], rw := [], log := [], stp := false }) (Wk.le (.cons rfl (.refl _) (.cons rfl (.refl _) (.cons rfl (.refl _) (.cons rfl (.refl _) (.cons rfl (.refl _) (.cons rfl (.refl _) .nil)))))) .nil .nil rfl rfl) ?_
      refine Tr.seq (Tr.block (Tr.seq (Tr.drawK (TraceK.run rfl (by simp) ?_))))
      rw [wjk]
      obtain ⟨g, hg⟩ : ∃ g, magI ((j : Int) - (k : Int)) = g := ⟨_, rfl⟩
      have hcM : C Try.prog F.ref00_Magnitude [I ((j : Int) - (k : Int))] (I g) := hg ▸ c_Magnitude ((j : Int) - (k : Int)) (by omega)
      refine TraceK.call rfl rfl hcM (TraceK.runN 6 rfl (by simp [secV] <;> (intros; omega)) ?_)
      rw [getD_map hib]
      refine TraceK.runN 3 rfl (by simp [intsV] <;> (intros; omega)) ?_
      rw [getD_map hkb]
      refine TraceK.runN 4 rfl (by simp [secV] <;> (intros; omega)) ?_
      rw [getD_map h3]
      refine TraceK.runN 3 rfl (by simp [intsV] <;> (intros; omega)) ?_
      rw [getD_map hkv]
      refine TraceK.runN 4 rfl (by simp [secV]) ?_
      rw [w1]
      refine TraceK.runN 1 rfl (by simp [secV] <;> (intros; omega)) ?_
      rw [getD_map hib1]
      refine TraceK.runN 3 rfl (by simp [intsV] <;> (intros; omega)) ?_
      rw [getD_map hjb]
      refine TraceK.run rfl (by simp) (.done ⟨by kernel_rfl, by kernel_rfl, ?_⟩)
      have hbad : ∀ c : Bool, (bif decide (g ≤ (sl : Int)) then decide (b[i][k] < IntKind.i64.wrap (v[i][k] + b[i + 1][j])) else false) = c → (c = true ↔ j ∈ nextN v.length (deepOf v) sl i k ∧ okNext v b i k j = false) := by
        rintro c rfl
        rw [← hg, w64 (by omega) (by omega), mem_next hd.1]
        unfold okNext magI
        rw [a1, a2, a3]
        by_cases h : max ((j : Int) - k) (0 - ((j : Int) - k)) ≤ (sl : Int)
        · have h' : k - sl ≤ j ∧ j ≤ k + sl := by omega
          have h'' : i + 1 ≠ v.length := by omega
          by_cases h9 : b[i][k] < v[i][k] + b[i + 1][j]
          · simp [h, h', h'', hjd, h9] <;> omega
          · simp [h, h', h'', hjd, h9] <;> omega
        · have h' : ¬ (k - sl ≤ j ∧ j ≤ k + sl) := by omega
          rw [decide_eq_false h, cond_false]
          constructor
          · intro e; cases e
          · rintro ⟨⟨_, g1, g2, _⟩, _⟩; exact absurd ⟨g1, g2⟩ h'
      refine Tr.cond rfl rfl (fun h9 => Tr.seqR rfl (by simp) (Tr.retX rfl rfl rfl ?_ trivial)) (fun h9 => Tr.skip (Tr.regR rfl (by simp) ?_))
      · obtain ⟨g1, g2⟩ := (hbad true h9).1 rfl
        have : okAt v b sl i k = false := by
          unfold okAt
          rw [List.all_eq_false.2 ⟨j, g1, by simp [g2]⟩, Bool.and_false]
        rw [badT (okTo_false h3 hkd this)]; rfl
      · have h9 := hbad false h9
        refine ⟨j + 1, _, Wk.le (.cons rfl (.refl _) (.cons rfl (.refl _) (.cons rfl (.refl _) (.cons rfl (.refl _) (.cons rfl (.refl _) (.cons rfl (VLe.i (w64 (by omega) (by omega))) .nil)))))) .nil .nil rfl rfl, ⟨⟨by omega, fun q hq hm => ?_⟩, rfl⟩, by omega⟩
        by_cases e : q = j
        · subst e
          cases hh : okNext v b i k q with
          | true => rfl
          | false => have := h9.2 ⟨hm, hh⟩; cases this
        · exact hokN q (by omega) hm
    · have h8 := hgo false h8
      have hall : ∀ q, q ∈ nextN v.length (deepOf v) sl i k → okNext v b i k q = true := fun q hq => by
        have g := (mem_next hd.1).1 hq
        have hjj : j = deepOf v := by
          by_cases h : j < deepOf v
          · have := h8.2 ⟨by omega, h⟩; cases this
          · omega
        exact hokN q (by omega) hq
      refine Tr.regR rfl (by simp) ?_
      refine ⟨k + 1, _, Wk.le (.cons rfl (.refl _) (.cons rfl (.refl _) (.cons rfl (.refl _) (.cons rfl (.refl _) (.cons rfl (VLe.i (w64 (by omega) (by omega))) .nil))))) .nil .nil rfl rfl, ⟨⟨hkd, ?_⟩, rfl⟩, by omega⟩
      have hat : okAt v b sl i k = true := by
        unfold okAt
        rw [h7, List.all_eq_true.2 hall]; rfl
      unfold okCol at hokC ⊢
      rw [List.range_succ, List.all_append, hokC]
      simp [hat]
  have h3 : i = v.length := by simp at h3; omega
  subst h3
  have hl0 : b[0].length = deepOf v := by rw [evenL_spec hbev hb0, hbd]
  have hl1 : 0 < b[0].length := by omega
  have hb0s := hb.2 _ (List.getElem_mem hb0)
  refine Tr.seqN 2 rfl (by simp [secV]; omega) ?_
  rw [show (0 : Int) = ((0 : Nat) : Int) from rfl, getD_map hb0]
  refine Steps.runN 2 rfl (by simp [intsV]; omega) ?_
  rw [getD_map hl1]
  refine Steps.fin rfl (by simp) (Tr.seq (Tr.seqR rfl (by simp) (Tr.block ?_)))
  refine Tr.loop (fun k s => (1 ≤ k ∧ k ≤ b[0].length) ∧ s = { env := [(2, secV b), (14, I ((b[0].take k).tail.foldl max (b[0].headD 0))), (15, I k)], bx := [], rw := [], log := [], stp := false }) (fun k => b[0].length - k) 1
    (Wk.le (.cons rfl (.refl _) (.cons rfl (VLe.i ?_) (.cons rfl (.refl _) .nil))) .nil .nil rfl rfl) ⟨by omega, rfl⟩ ?_
  · have : ∀ L : List Int, ∀ h : 0 < L.length, L[0] = (L.take 1).tail.foldl max (L.headD 0) := fun L h => by
      cases L with
      | nil => simp at h
      | cons a r => rfl
    exact this _ hl1
  rintro k s ⟨⟨hk1, hk⟩, rfl⟩
  refine Tr.seq (Tr.seqN 3 rfl (by simp [secV]; omega) ?_)
  rw [show (0 : Int) = ((0 : Nat) : Int) from rfl, getD_map hb0]
  refine Steps.fin rfl (by simp [intsV]) (Tr.cond rfl rfl (fun h4 => Tr.skip ?_) (fun h4 => Tr.exit ?_))
  · have h4 : k < b[0].length := by simpa using h4
    refine Tr.seq (Tr.block (Tr.reg (Steps.runN 3 rfl (by simp [secV]; omega) ?_)))
    rw [show (0 : Int) = ((0 : Nat) : Int) from rfl, getD_map hb0]
    refine Steps.runN 3 rfl (by simp [intsV]; omega) ?_
    rw [getD_map h4]
    refine Steps.fin rfl (by simp) (Tr.regR rfl (by simp) ?_)
    refine ⟨k + 1, _, Wk.le (.cons rfl (.refl _) (.cons rfl (VLe.i ?_) (.cons rfl (VLe.i (w64 (by omega) (by omega))) .nil))) .nil .nil rfl rfl, ⟨by omega, rfl⟩, by omega⟩
    simp only [cond_true]
    rw [ite_max, List.take_add_one, List.getElem?_eq_getElem h4]
    obtain ⟨a, r, hr⟩ : ∃ a r, b[0].take k = a :: r := by
      cases hlt : b[0].take k with
      | nil =>
        have h9 : (b[0].take k).length = 0 := by rw [hlt]; rfl
        rw [List.length_take] at h9
        omega
      | cons a r => exact ⟨a, r, rfl⟩
    rw [hr]
    simp
  · have h4 : k = b[0].length := by simp at h4; omega
    subst h4
    refine Tr.seqR rfl (by simp) (Tr.retX rfl rfl rfl ?_ trivial)
    rw [List.take_length]
    have e : b.headD [] = b[0] := by cases b with | nil => simp at hb0 | cons a r => rfl
    have eR : backR v sl b = (b[0].tail.foldl max (b[0].headD 0), 0) := by
      unfold backR
      rw [if_pos hE, if_pos hS, Int.toNat_natCast, hok, hokT, e]
      rfl
    rw [eR]; rfl

theorem c_VolumeBacked {v b : List (List Int)} (hv : saneS v) (hb : saneS b) (slope : Int) : C Try.prog F.law10_VolumeBacked [secV v, I slope, secV b] (.bool true) := by
  refine C_of mixed chk.law10_VolumeBacked (by simp) fun S ok => ?_
  refine Tr.seqR rfl (by simp) ?_
  refine Tr.seqC rfl (by simp [secV]) (Steps.call rfl rfl (c_Backed hv hb slope) (Steps.fin rfl (by simp [secV]) ?_))
  refine Tr.seqC rfl (by simp [secV]) (Steps.call rfl rfl (c_Backed10 hv hb slope) (Steps.fin rfl (by simp) ?_))
  refine Tr.seqC rfl (by simp) (Steps.gcall rfl rfl rfl rfl (by simp) (fun _ => c_works) (Steps.fin rfl (by simp) (Tr.retX rfl rfl rfl ?_ trivial)))
  simp [packR]

end Go.Proofs.Ytkifejklnpddbaa

/-! The law VolumeTop. -/
set_option linter.unusedVariables false
set_option linter.unusedSimpArgs false
set_option maxRecDepth 20000
set_option maxHeartbeats 2000000
namespace Go.Proofs.Ytkifejklnpddbaa
open Go.Am
attribute [local simp] cells scalar mkv splice under2 under dem dem1

theorem getD_nat {α : Type} {e : α → V} {l : List α} {k : Nat} (h : k < l.length) : (l.map e).getD k nothing = e l[k] := by
  simp [h]

def worthR (l : List (List Int)) (sl : Int) (path : List Int) : V := .tuple [I (if isPath l sl path then sumI l 0 path else 0), .bool (isPath l sl path)]

theorem path_bad {l : List (List Int)} {sl : Int} {path : List Int} {i : Nat} (hi : i < path.length) (h : okStep l sl path i = false) : isPath l sl path = false := by
  unfold isPath
  rw [List.all_eq_false.2 ⟨i, by simpa using hi, by simp [h]⟩, Bool.and_false]

theorem sumI_bd {l : List (List Int)} (h : numsOk 1099511627776 l = true) : ∀ (c : Nat) (p : List Int), -((p.length : Int) * 1099511627776) ≤ sumI l c p ∧ sumI l c p ≤ (p.length : Int) * 1099511627776
  | c, [] => by simp [sumI]
  | c, x :: r => by
    have h1 := sumI_bd h (c + 1) r
    have h2 := at2_bd h c x.toNat
    simp only [sumI, List.length_cons]
    push_cast
    omega

theorem c_worth {l : List (List Int)} (hE : secOk l = true) {sl : Nat} (hsl : sl ≤ 32) (path : List Int) (hp : path.length ≤ 9223372036854775807) : C Try.prog F.law10_worth [secV l, I sl, intsV path] (worthR l sl path) := by
  obtain ⟨hev, hn, hd, hnum⟩ := secOk_spec hE
  refine C_of mixed chk.law10_worth (by simp) fun S ok => ?_
  refine Tr.seqR rfl (by simp) ?_
  refine Tr.seq (Tr.seqR rfl (by simp [intsV, secV]) (Tr.cond rfl rfl (fun h1 => Tr.seqR rfl (by simp) (Tr.retX rfl rfl rfl ?_ trivial)) (fun h1 => Tr.skip ?_)))
  · have h1 : (((path.map I).length : Int) != ((l.map intsV).length : Int)) = true := h1
    have : ¬ path.length = l.length := by simp at h1; omega
    have : isPath l sl path = false := by unfold isPath; simp [this]
    simp [packR, worthR, this]
  have h1 : (((path.map I).length : Int) != ((l.map intsV).length : Int)) = false := h1
  have hlen : path.length = l.length := by simp at h1; omega
  refine Tr.seqR rfl (by simp) (Tr.seq (Tr.seqR rfl (by simp) (Tr.block ?_)))
  refine Tr.loop (fun k s => (k ≤ path.length ∧ ∀ i, i < k → okStep l sl path i = true) ∧ s = { env := [(0, secV l), (1, I sl), (2, intsV path), (8, I (sumI l 0 (path.take k))), (9, I k)], bx := [], rw := [], log := [], stp := false }) (fun k => path.length - k) 0
    (Wk.le (.cons rfl (.refl _) (.cons rfl (.refl _) (.cons rfl (.refl _) (.cons rfl (.refl _) (.cons rfl (.refl _) .nil))))) .nil .nil rfl rfl) ⟨⟨by omega, fun i hi => by omega⟩, rfl⟩ ?_
  rintro k s ⟨⟨hk, hok⟩, rfl⟩
  refine Tr.seq (Tr.seqR rfl (by simp [intsV]) (Tr.cond rfl rfl (fun h2 => Tr.skip ?_) (fun h2 => Tr.exit ?_)))
  rotate_left
  · have h2 : k = path.length := by simp at h2; omega
    subst h2
    have : isPath l sl path = true := by
      unfold isPath
      rw [decide_eq_true hlen, Bool.true_and, List.all_eq_true]
      exact fun i hi => hok i (by simpa using hi)
    refine Tr.seqR rfl (by simp) (Tr.retX rfl rfl rfl ?_ trivial)
    rw [List.take_length]
    simp [packR, worthR, this]
  have h2 : k < path.length := by simpa using h2
  have hkl : k < l.length := by omega
  have hll : l[k].length = deepOf l := evenL_spec hev hkl
  have wd : IntKind.i64.wrap (((l[k].map I).length : Int) - 1) = (deepOf l : Int) - 1 := by rw [List.length_map, hll]; exact w64 (by omega) (by omega)
  have hj : (IntKind.i64.wrap ((k : Int) - 1)).toNat < path.length := by rw [w64 (by omega) (by omega)]; omega
  obtain ⟨j, hje⟩ : ∃ j, (IntKind.i64.wrap ((k : Int) - 1)).toNat = j := ⟨_, rfl⟩
  rw [hje] at hj
  have hj1 : 0 < k → j = k - 1 := fun h => by rw [w64 (by omega) (by omega)] at hje; omega
  have ek : path.getD k 0 = path[k] := by rw [List.getD_eq_getElem?_getD, List.getElem?_eq_getElem h2]; rfl
  have ej : 0 < k → path.getD (k - 1) 0 = path[j] := fun h => by
    have := hj1 h; subst this
    rw [List.getD_eq_getElem?_getD, List.getElem?_eq_getElem hj]; rfl
  have hjb : 0 < k → 0 ≤ path[j] ∧ path[j] ≤ 31 := fun h => by
    have h3 := hok (k - 1) (by omega)
    simp only [okStep, Bool.and_eq_true] at h3
    rw [ej h] at h3
    have h4 : 0 ≤ path[j] ∧ path[j] ≤ (deepOf l : Int) - 1 := by simpa [btw] using h3.1
    omega
  refine Tr.seq (Tr.block (Tr.seq (Tr.seq (Tr.drawK (TraceK.runN 3 rfl (by simp [intsV]; omega) ?_)))))
  rw [getD_map h2]
  refine TraceK.runN 4 rfl (by simp [secV]; omega) ?_
  rw [getD_map hkl]
  refine TraceK.run rfl (by simp [intsV]) ?_
  rw [wd]
  refine TraceK.call rfl rfl (c_between path[k] 0 ((deepOf l : Int) - 1)) ?_
  refine TraceK.runN 8 rfl (by simp [intsV]; exact fun x y => ⟨by omega, x, y⟩) ?_
  rw [getD_map h2]
  refine TraceK.runN 5 rfl (by simp [intsV]; exact fun x y => ⟨by rw [w64 (by omega) (by omega)]; omega, x, y⟩) ?_
  rw [hje, getD_nat hj]
  refine TraceK.run rfl (by simp) ?_
  have hM : (!btw path[k] 0 ((deepOf l : Int) - 1)) = false → 0 < k → IntKind.i64.wrap (path[k] - path[j]) = path[k] - path[j] ∧ -1000 ≤ path[k] - path[j] ∧ path[k] - path[j] ≤ 1000 := fun hb h => by
    have h4 := hjb h
    have h5 : 0 ≤ path[k] ∧ path[k] ≤ (deepOf l : Int) - 1 := by simpa [btw] using hb
    exact ⟨w64 (by omega) (by omega), by omega, by omega⟩
  refine TraceK.gcall (r := I (magI (IntKind.i64.wrap (path[k] - path[j])))) rfl rfl rfl rfl (by simp) (fun e => ?_) ?_
  · have e' : ((!btw path[k] 0 ((deepOf l : Int) - 1)) == false && (decide ((k : Int) > 0) == true)) = true := e
    simp only [Bool.and_eq_true, beq_iff_eq, decide_eq_true_eq] at e'
    have h5 := hM e'.1 (by omega)
    exact c_Magnitude _ (by rw [h5.1]; omega)
  refine TraceK.runN 2 rfl (by simp) ?_
  refine TraceK.gpick rfl rfl rfl (fun _ => rfl) rfl rfl (by simp; exact fun x => ⟨fun y => ⟨x, y⟩, x⟩) ?_
  refine TraceK.run rfl (by simp) (.done ⟨by kernel_rfl, by kernel_rfl, ?_⟩)
  have hstep : ∀ c : Bool, (bif (!btw path[k] 0 ((deepOf l : Int) - 1)) then true else (bif decide ((k : Int) > 0) then decide (magI (IntKind.i64.wrap (path[k] - path[j])) > (sl : Int)) else false)) = c → c = !okStep l sl path k := by
    rintro c rfl
    unfold okStep
    rw [ek]
    cases hb : btw path[k] 0 ((deepOf l : Int) - 1) with
    | false => rfl
    | true =>
      by_cases h : 0 < k
      · have h5 := hM (by rw [hb]; rfl) h
        rw [h5.1, ej h]
        have e1 : decide ((k : Int) > 0) = true := by simp; omega
        have e2 : decide (k = 0) = false := by simp; omega
        rw [e1, e2]
        by_cases h6 : magI (path[k] - path[j]) ≤ (sl : Int)
        · have h7 : ¬ magI (path[k] - path[j]) > (sl : Int) := by omega
          simp only [decide_eq_true h6, decide_eq_false h7]; rfl
        · have h7 : magI (path[k] - path[j]) > (sl : Int) := by omega
          simp only [decide_eq_false h6, decide_eq_true h7]; rfl
      · have : k = 0 := by omega
        subst this; rfl
  refine Tr.cond rfl rfl (fun h3 => Tr.seqR rfl (by simp) (Tr.retX rfl rfl rfl ?_ trivial)) (fun h3 => Tr.skip ?_)
  · have h4 := not_of (hstep true h3)
    have : isPath l sl path = false := path_bad h2 h4
    simp [packR, worthR, this]
  have h4 : okStep l sl path k = true := not_of (hstep false h3)
  have h5 : 0 ≤ path[k] ∧ path[k] ≤ (deepOf l : Int) - 1 := by
    have h4' := h4
    simp only [okStep, Bool.and_eq_true] at h4'
    rw [ek] at h4'
    simpa [btw] using h4'.1
  obtain ⟨q, hq⟩ : ∃ q : Nat, path[k] = (q : Int) := ⟨path[k].toNat, by omega⟩
  have hql : q < l[k].length := by omega
  refine Tr.weak (s' := { env := [(0, secV l), (1, I sl), (2, intsV path), (8, I (sumI l 0 (path.take k))), (9, I k)], bx := [], rw := [], log := [], stp := false })
    (Wk.le (.cons rfl (.refl _) (.cons rfl (.refl _) (.cons rfl (.refl _) (.cons rfl (.refl _) (.cons rfl (.refl _) .nil))))) .nil .nil rfl rfl) ?_
  refine Tr.drawK (TraceK.runN 4 rfl (by simp [secV]; omega) ?_)
  rw [getD_map hkl]
  refine TraceK.runN 4 rfl (by simp [intsV]; omega) ?_
  rw [getD_map h2, hq]
  refine TraceK.runN 2 rfl (by simp [intsV]; omega) ?_
  rw [getD_map hql]
  refine TraceK.run rfl (by simp) (.done ⟨by kernel_rfl, by kernel_rfl, ?_⟩)
  have hs1 : sumI l 0 (path.take (k + 1)) = sumI l 0 (path.take k) + l[k][q] := by
    rw [List.take_add_one, List.getElem?_eq_getElem h2, sumI_append, hq]
    simp only [Option.toList, sumI, Int.toNat_natCast, List.length_take, Nat.min_eq_left (Nat.le_of_lt h2), Nat.zero_add, at2_eq hkl hql]
    omega
  have hb := sumI_bd hnum 0 (path.take k)
  have hlq := numsOk_spec hnum hkl hql
  rw [List.length_take, Nat.min_eq_left (Nat.le_of_lt h2)] at hb
  refine Tr.regR rfl (by simp) ?_
  refine ⟨k + 1, _, Wk.le (.cons rfl (.refl _) (.cons rfl (.refl _) (.cons rfl (.refl _) (.cons rfl (VLe.i ?_) (.cons rfl (VLe.i (w64 (by omega) (by omega))) .nil))))) .nil .nil rfl rfl, ⟨⟨h2, fun i hi => ?_⟩, rfl⟩, by omega⟩
  · rw [hs1]; exact w64 (by omega) (by omega)
  · by_cases e : i = k
    · subst e; exact h4
    · exact hok i (by omega)

theorem nats_ints (l : List (List Int)) (sl : Nat) : V.slice 0 1 (natsV (argBest l sl (deepOf l) :: walkN l sl (l.length - 1) 0 (argBest l sl (deepOf l)))) = intsV (bestP l sl) := by
  unfold natsV intsV bestP
  rw [List.map_map]; rfl

theorem hor_cases (l : List (List Int)) (slope : Int) : (∃ sl : Nat, slope = (sl : Int) ∧ sl ≤ 32 ∧ secOk l = true ∧ horR l slope = .tuple [intsV (bestP l sl), I (worthV l sl 0 (argBest l sl (deepOf l))), I 0]) ∨
    ∃ e : Int, e ≠ 0 ∧ horR l slope = .tuple [intsV [], I 0, I e] ∧ ∀ b, backR l slope b = (0, e) := by
  unfold horR backR
  by_cases hE : secOk l = true
  · by_cases hS : btw slope 0 32 = true
    · refine .inl ⟨slope.toNat, by simp [btw] at hS; omega, by simp [btw] at hS; omega, hE, ?_⟩
      rw [if_pos hE, if_pos hS, nats_ints]
    · exact .inr ⟨7, by omega, by rw [if_pos hE, if_neg hS]; rfl, fun b => by rw [if_pos hE, if_neg hS]⟩
  · exact .inr ⟨105, by omega, by rw [if_neg hE]; rfl, fun b => by rw [if_neg hE]⟩

theorem c_VolumeTop {l b : List (List Int)} (hl : saneS l) (slope : Int) {path : List Int} (hp : path.length ≤ 9223372036854775807) (hb : saneS b) : C Try.prog F.law10_VolumeTop [secV l, I slope, .agg [intsV path, secV b]] (.bool true) := by
  refine C_of mixed chk.law10_VolumeTop (by simp) fun S ok => ?_
  refine Tr.seqR rfl (by simp [intsV, secV]) ?_
  rcases hor_cases l slope with ⟨sl, rfl, hsl, hE, hH⟩ | ⟨e, he, hH, hB⟩
  rotate_left
  · have hBk := c_Backed hl hb slope
    rw [hB] at hBk
    refine Tr.seqC rfl (by simp [secV]) (Steps.call rfl rfl (hH ▸ c_Horizon hl slope) (Steps.fin rfl (by simp) ?_))
    refine Tr.seqC rfl (by simp [secV]) (Steps.call rfl rfl hBk (Steps.fin rfl (by simp) ?_))
    refine Tr.seq (Tr.seqR rfl (by simp) (Tr.cond rfl rfl (fun _ => ?_) (fun h1 => ?_)))
    · refine Tr.seqC rfl (by simp [intsV]) (Steps.gcall rfl rfl rfl rfl (by simp) (fun _ => c_works) (Steps.fin rfl (by simp) (Tr.retX rfl rfl rfl ?_ trivial)))
      simp [packR, intsV]
    · have h1 : (e != 0) = false := h1
      simp at h1; exact absurd h1 he
  obtain ⟨hev, hn, hd, hnum⟩ := secOk_spec hE
  obtain ⟨hP, hW⟩ := bestP_is (l := l) (sl := sl) hn.1 hd.1
  have hPl : (bestP l sl).length = l.length := by simp only [isPath, Bool.and_eq_true, decide_eq_true_eq] at hP; exact hP.1
  obtain ⟨M, hM⟩ : ∃ M, worthV l sl 0 (argBest l sl (deepOf l)) = M := ⟨_, rfl⟩
  rw [hM] at hH hW
  have hw1 := c_worth hE hsl (bestP l sl) (by omega)
  unfold worthR at hw1
  rw [if_pos hP, hP, hW] at hw1
  obtain ⟨n2, i2, hw2, hle⟩ : ∃ (n : Int) (i : Bool), worthR l sl path = .tuple [I n, .bool i] ∧ (i = true → n ≤ M) := by
    refine ⟨_, _, rfl, fun h => ?_⟩
    rw [if_pos h, ← hM]
    exact path_best hn.1 hd.1 h
  have hBk := c_Backed hl hb (sl : Int)
  obtain ⟨m, f, hB, hmf⟩ : ∃ m f : Int, backR l sl b = (m, f) ∧ ((f = 106 ∧ m = 0) ∨ (f = 0 ∧ M ≤ m)) := by
    unfold backR
    rw [if_pos hE, if_pos (by simp [btw]; omega), Int.toNat_natCast]
    by_cases hk : (backsOk l b && okTo l b sl l.length) = true
    · rw [if_pos hk]
      simp only [Bool.and_eq_true] at hk
      refine ⟨_, _, rfl, .inr ⟨rfl, ?_⟩⟩
      rw [← hM]; exact backs_best hn.1 hd.1 hk.1 hk.2
    · rw [if_neg hk]; exact ⟨_, _, rfl, .inl ⟨rfl, rfl⟩⟩
  rw [hB] at hBk
  refine Tr.seqC rfl (by simp [secV]) (Steps.call rfl rfl (hH ▸ c_Horizon hl (sl : Int)) (Steps.fin rfl (by simp) ?_))
  refine Tr.seqC rfl (by simp [secV]) (Steps.call rfl rfl hBk (Steps.fin rfl (by simp) ?_))
  refine Tr.seq (Tr.seqR rfl (by simp) (Tr.condF rfl (Tr.skip ?_)))
  refine Tr.seqC rfl (by simp [secV]) (Steps.call rfl rfl hw1 (Steps.fin rfl (by simp) ?_))
  refine Tr.seq (Tr.seqR rfl (by simp) (Tr.condF (by simp; rfl) (Tr.skip ?_)))
  refine Tr.seqC rfl (by simp [secV, intsV]) (Steps.call rfl rfl (hw2 ▸ c_worth hE hsl path hp) (Steps.fin rfl (by simp) ?_))
  refine Tr.seq (Tr.seqR rfl (by simp) (Tr.cond rfl rfl (fun h1 => ?_) (fun h1 => Tr.skip ?_)))
  · have h1 : (bif i2 then decide (n2 > M) else false) = true := h1
    cases i2 with
    | false => cases h1
    | true =>
      have := hle rfl
      simp at h1; omega
  rcases hmf with ⟨rfl, rfl⟩ | ⟨rfl, hMm⟩
  · refine Tr.seqC rfl (by simp) (Steps.gcall rfl rfl rfl rfl (by simp) (fun _ => c_works) (Steps.fin rfl (by simp) (Tr.retX rfl rfl rfl ?_ trivial)))
    simp [packR]
  · refine Tr.seqC rfl (by simp) (Steps.gcall rfl rfl rfl rfl (by simp) (fun _ => c_works) (Steps.fin rfl (by simp) (Tr.retX rfl rfl rfl ?_ trivial)))
    simp [packR, hMm]

end Go.Proofs.Ytkifejklnpddbaa
