/-
  Parts of the proof, 1: the abstract machine, the compiled code, contracts of the functions, plain laws.
-/
import Derived.Test.YtkifejklnpddbaaZ5


/-! The code of further functions, compiled. -/
set_option maxRecDepth 100000
namespace Go.Proofs.Ytkifejklnpddbaa
open Go.Am
/-- paravane/paravanelaw10.VolumeBacked -/
abbrev F.law10_VolumeBacked : Nat := 8
def ir.law10_VolumeBacked : IC :=
 (.seq (.reg [⟨(some 6), .mov, [.c (.bool false)], none⟩])
   (.seq (.reg [⟨(some 12), .mov, [.t 0], none⟩,
     ⟨(some 13), .mov, [.t 1], none⟩,
     ⟨(some 14), .mov, [.t 2], none⟩,
     ⟨(some 15), .call 45, [.t 12, .t 13, .t 14], none⟩,
     ⟨(some 11), .mov, [.t 15], none⟩,
     ⟨(some 16), .extract 0, [.t 11], none⟩,
     ⟨(some 17), .extract 1, [.t 11], none⟩,
     ⟨(some 7), .mov, [.t 16], none⟩,
     ⟨(some 8), .mov, [.t 17], none⟩])
   (.seq (.reg [⟨(some 19), .mov, [.t 0], none⟩,
     ⟨(some 20), .mov, [.t 1], none⟩,
     ⟨(some 21), .mov, [.t 2], none⟩,
     ⟨(some 22), .call 46, [.t 19, .t 20, .t 21], none⟩,
     ⟨(some 18), .mov, [.t 22], none⟩,
     ⟨(some 23), .extract 0, [.t 18], none⟩,
     ⟨(some 24), .extract 1, [.t 18], none⟩,
     ⟨(some 9), .mov, [.t 23], none⟩,
     ⟨(some 10), .mov, [.t 24], none⟩])
   (.seq (.reg [⟨(some 25), .mov, [.t 7], none⟩,
     ⟨(some 26), .mov, [.t 9], none⟩,
     ⟨(some 27), .bin .eql, [.t 25, .t 26], none⟩,
     ⟨(some 28), .mov, [.t 27], none⟩,
     ⟨(some 29), .mov, [.t 8], (some (28, true))⟩,
     ⟨(some 30), .mov, [.t 10], (some (28, true))⟩,
     ⟨(some 31), .bin .eql, [.t 29, .t 30], (some (28, true))⟩,
     ⟨(some 32), .pick, [.t 28, .t 31, .c (.bool false)], none⟩,
     ⟨(some 33), .mov, [.t 32], none⟩,
     ⟨(some 34), .call 30, [], (some (33, true))⟩,
     ⟨(some 35), .pick, [.t 33, .t 34, .c (.bool false)], none⟩,
     ⟨(some 6), .mov, [.t 35], none⟩])
   .ret))))
theorem chk.law10_VolumeBacked : chkF Try.prog 8 = some (36, ir.law10_VolumeBacked, [.tmp 6]) := by kernel_rfl

/-- paravane/paravanelaw10.VolumeHorizons -/
abbrev F.law10_VolumeHorizons : Nat := 19
def ir.law10_VolumeHorizons : IC :=
 (.seq (.reg [⟨(some 4), .mov, [.c (.bool false)], none⟩])
   (.seq (.reg [⟨(some 14), .mov, [.t 0], none⟩,
     ⟨(some 15), .mov, [.t 1], none⟩,
     ⟨(some 16), .call 47, [.t 14, .t 15], none⟩,
     ⟨(some 13), .mov, [.t 16], none⟩,
     ⟨(some 17), .extract 0, [.t 13], none⟩,
     ⟨(some 18), .extract 1, [.t 13], none⟩,
     ⟨(some 19), .extract 2, [.t 13], none⟩,
     ⟨(some 5), .mov, [.t 17], none⟩,
     ⟨(some 6), .mov, [.t 18], none⟩,
     ⟨(some 7), .mov, [.t 19], none⟩])
   (.seq (.reg [⟨(some 21), .mov, [.t 0], none⟩,
     ⟨(some 22), .mov, [.t 1], none⟩,
     ⟨(some 23), .call 60, [.t 21, .t 22], none⟩,
     ⟨(some 20), .mov, [.t 23], none⟩,
     ⟨(some 24), .extract 0, [.t 20], none⟩,
     ⟨(some 25), .extract 1, [.t 20], none⟩,
     ⟨(some 26), .extract 2, [.t 20], none⟩,
     ⟨(some 8), .mov, [.t 24], none⟩,
     ⟨(some 9), .mov, [.t 25], none⟩,
     ⟨(some 10), .mov, [.t 26], none⟩])
   (.seq (.seq (.reg [⟨(some 27), .mov, [.t 5], none⟩,
     ⟨(some 28), .mov, [.t 8], none⟩,
     ⟨(some 29), .call 39, [.t 27, .t 28], none⟩,
     ⟨(some 30), .un .not, [.t 29], none⟩,
     ⟨(some 31), .mov, [.t 30], none⟩,
     ⟨(some 32), .mov, [.t 6], (some (31, false))⟩,
     ⟨(some 33), .mov, [.t 9], (some (31, false))⟩,
     ⟨(some 34), .bin .neq, [.t 32, .t 33], (some (31, false))⟩,
     ⟨(some 35), .pick, [.t 31, .c (.bool true), .t 34], none⟩,
     ⟨(some 36), .mov, [.t 35], none⟩,
     ⟨(some 37), .mov, [.t 7], (some (36, false))⟩,
     ⟨(some 38), .mov, [.t 10], (some (36, false))⟩,
     ⟨(some 39), .bin .neq, [.t 37, .t 38], (some (36, false))⟩,
     ⟨(some 40), .pick, [.t 36, .c (.bool true), .t 39], none⟩])
   (.cond (.t 40) (.seq (.reg [⟨(some 4), .mov, [.c (.bool false)], none⟩])
   .ret) .skip))
   (.seq (.reg [⟨(some 42), .mov, [.t 0], none⟩,
     ⟨(some 43), .mov, [.t 1], none⟩,
     ⟨(some 44), .call 61, [.t 42, .t 43], none⟩,
     ⟨(some 41), .mov, [.t 44], none⟩,
     ⟨(some 45), .extract 0, [.t 41], none⟩,
     ⟨(some 46), .extract 1, [.t 41], none⟩,
     ⟨(some 11), .mov, [.t 45], none⟩,
     ⟨(some 7), .mov, [.t 46], none⟩])
   (.seq (.seq (.reg [⟨(some 47), .mov, [.t 7], none⟩,
     ⟨(some 48), .mov, [.t 10], none⟩,
     ⟨(some 49), .bin .neq, [.t 47, .t 48], none⟩])
   (.cond (.t 49) (.seq (.reg [⟨(some 4), .mov, [.c (.bool false)], none⟩])
   .ret) .skip))
   (.seq (.seq (.reg [⟨(some 50), .mov, [.t 10], none⟩,
     ⟨(some 51), .bin .neq, [.t 50, .c (.int .i64 0)], none⟩])
   (.cond (.t 51) (.seq (.reg [⟨(some 52), .mov, [.t 11], none⟩,
     ⟨(some 53), .len false, [.t 52], none⟩,
     ⟨(some 54), .bin .eql, [.t 53, .c (.int .i64 0)], none⟩,
     ⟨(some 55), .mov, [.t 54], none⟩,
     ⟨(some 56), .call 30, [], (some (55, true))⟩,
     ⟨(some 57), .pick, [.t 55, .t 56, .c (.bool false)], none⟩,
     ⟨(some 4), .mov, [.t 57], none⟩])
   .ret) .skip))
   (.seq (.reg [⟨(some 59), .mov, [.t 0], none⟩,
     ⟨(some 60), .mov, [.t 1], none⟩,
     ⟨(some 61), .mov, [.t 11], none⟩,
     ⟨(some 62), .call 46, [.t 59, .t 60, .t 61], none⟩,
     ⟨(some 58), .mov, [.t 62], none⟩,
     ⟨(some 63), .extract 0, [.t 58], none⟩,
     ⟨(some 64), .extract 1, [.t 58], none⟩,
     ⟨(some 12), .mov, [.t 63], none⟩,
     ⟨(some 7), .mov, [.t 64], none⟩])
   (.seq (.reg [⟨(some 65), .mov, [.t 12], none⟩,
     ⟨(some 66), .mov, [.t 9], none⟩,
     ⟨(some 67), .bin .eql, [.t 65, .t 66], none⟩,
     ⟨(some 68), .mov, [.t 67], none⟩,
     ⟨(some 69), .mov, [.t 7], (some (68, true))⟩,
     ⟨(some 70), .bin .eql, [.t 69, .c (.int .i64 0)], (some (68, true))⟩,
     ⟨(some 71), .pick, [.t 68, .t 70, .c (.bool false)], none⟩,
     ⟨(some 72), .mov, [.t 71], none⟩,
     ⟨(some 73), .call 30, [], (some (72, true))⟩,
     ⟨(some 74), .pick, [.t 72, .t 73, .c (.bool false)], none⟩,
     ⟨(some 4), .mov, [.t 74], none⟩])
   .ret)))))))))
theorem chk.law10_VolumeHorizons : chkF Try.prog 19 = some (75, ir.law10_VolumeHorizons, [.tmp 4]) := by kernel_rfl

/-- paravane/paravaneref10.Backed -/
abbrev F.ref10_Backed : Nat := 46
def ir.ref10_Backed : IC :=
 (.seq (.reg [⟨(some 6), .mov, [.c (.int .i64 0)], none⟩,
     ⟨(some 7), .mov, [.c (.int .i64 0)], none⟩])
   (.seq (.seq (.reg [⟨(some 16), .mov, [.t 0], none⟩,
     ⟨(some 17), .mov, [.t 1], none⟩,
     ⟨(some 18), .call 111, [.t 16, .t 17], none⟩,
     ⟨(some 8), .mov, [.t 18], none⟩])
   (.seq (.reg [⟨(some 19), .mov, [.t 8], none⟩,
     ⟨(some 20), .bin .neq, [.t 19, .c (.int .i64 0)], none⟩])
   (.cond (.t 20) (.seq (.reg [⟨(some 21), .mov, [.t 8], none⟩,
     ⟨(some 6), .mov, [.c (.int .i64 0)], none⟩,
     ⟨(some 7), .mov, [.t 21], none⟩])
   .ret) .skip)))
   (.seq (.seq (.reg [⟨(some 22), .mov, [.t 2], none⟩,
     ⟨(some 23), .len false, [.t 22], none⟩,
     ⟨(some 24), .mov, [.t 0], none⟩,
     ⟨(some 25), .len false, [.t 24], none⟩,
     ⟨(some 26), .bin .neq, [.t 23, .t 25], none⟩])
   (.cond (.t 26) (.seq (.reg [⟨(some 6), .mov, [.c (.int .i64 0)], none⟩,
     ⟨(some 7), .mov, [.c (.int .i64 106)], none⟩])
   .ret) .skip))
   (.seq (.seq (.reg [⟨(some 9), .mov, [.c (.int .i64 0)], none⟩])
   (.block 0 (.loop (.seq (.seq (.reg [⟨(some 27), .mov, [.t 9], none⟩,
     ⟨(some 28), .mov, [.t 0], none⟩,
     ⟨(some 29), .len false, [.t 28], none⟩,
     ⟨(some 30), .bin .lss, [.t 27, .t 29], none⟩])
   (.cond (.t 30) .skip (.exit 0)))
   (.seq (.block 1 (.seq (.seq (.draw [0, 0, 3, 7, 15, 0, 0, 96, 224, 480, 1023] [⟨(some 33), .mov, [.t 2], none⟩,
     ⟨(some 34), .mov, [.t 9], none⟩,
     ⟨(some 35), .iaddrS 1, [.t 33, .t 34], none⟩,
     ⟨(some 36), .load 1 false, [.t 35], none⟩,
     ⟨(some 37), .len false, [.t 36], none⟩,
     ⟨(some 38), .mov, [.t 0], none⟩,
     ⟨(some 39), .mov, [.t 9], none⟩,
     ⟨(some 40), .iaddrS 1, [.t 38, .t 39], none⟩,
     ⟨(some 41), .load 1 false, [.t 40], none⟩,
     ⟨(some 42), .len false, [.t 41], none⟩,
     ⟨(some 43), .bin .neq, [.t 37, .t 42], none⟩])
   (.cond (.t 43) (.seq (.reg [⟨(some 6), .mov, [.c (.int .i64 0)], none⟩,
     ⟨(some 7), .mov, [.c (.int .i64 106)], none⟩])
   .ret) .skip))
   (.seq (.reg [⟨(some 10), .mov, [.c (.int .i64 0)], none⟩])
   (.block 2 (.loop (.seq (.seq (.reg [⟨(some 44), .mov, [.t 10], none⟩,
     ⟨(some 45), .mov, [.t 0], none⟩,
     ⟨(some 46), .mov, [.t 9], none⟩,
     ⟨(some 47), .iaddrS 1, [.t 45, .t 46], none⟩,
     ⟨(some 48), .load 1 false, [.t 47], none⟩,
     ⟨(some 49), .len false, [.t 48], none⟩,
     ⟨(some 50), .bin .lss, [.t 44, .t 49], none⟩])
   (.cond (.t 50) .skip (.exit 2)))
   (.seq (.block 3 (.seq (.reg [⟨(some 53), .mov, [.t 2], none⟩,
     ⟨(some 54), .mov, [.t 9], none⟩,
     ⟨(some 55), .iaddrS 1, [.t 53, .t 54], none⟩,
     ⟨(some 56), .load 1 false, [.t 55], none⟩,
     ⟨(some 57), .mov, [.t 10], none⟩,
     ⟨(some 58), .iaddrS 1, [.t 56, .t 57], none⟩,
     ⟨(some 59), .load 1 false, [.t 58], none⟩,
     ⟨(some 60), .call 51, [.t 59, .c (.int .i64 (-70368744177664)), .c (.int .i64 70368744177664)], none⟩,
     ⟨(some 61), .un .not, [.t 60], none⟩])
   (.cond (.t 61) (.seq (.reg [⟨(some 6), .mov, [.c (.int .i64 0)], none⟩,
     ⟨(some 7), .mov, [.c (.int .i64 106)], none⟩])
   .ret) .skip)))
   (.reg [⟨(some 51), .mov, [.t 10], none⟩,
     ⟨(some 52), .bin .add, [.t 51, .c (.int .i64 1)], none⟩,
     ⟨(some 10), .mov, [.t 52], none⟩]))))))))
   (.reg [⟨(some 31), .mov, [.t 9], none⟩,
     ⟨(some 32), .bin .add, [.t 31, .c (.int .i64 1)], none⟩,
     ⟨(some 9), .mov, [.t 32], none⟩]))))))
   (.seq (.seq (.reg [⟨(some 11), .mov, [.c (.int .i64 0)], none⟩])
   (.block 4 (.loop (.seq (.seq (.reg [⟨(some 62), .mov, [.t 11], none⟩,
     ⟨(some 63), .mov, [.t 0], none⟩,
     ⟨(some 64), .len false, [.t 63], none⟩,
     ⟨(some 65), .bin .lss, [.t 62, .t 64], none⟩])
   (.cond (.t 65) .skip (.exit 4)))
   (.seq (.block 5 (.seq (.reg [⟨(some 12), .mov, [.c (.int .i64 0)], none⟩])
   (.block 6 (.loop (.seq (.seq (.reg [⟨(some 68), .mov, [.t 12], none⟩,
     ⟨(some 69), .mov, [.t 0], none⟩,
     ⟨(some 70), .mov, [.t 11], none⟩,
     ⟨(some 71), .iaddrS 1, [.t 69, .t 70], none⟩,
     ⟨(some 72), .load 1 false, [.t 71], none⟩,
     ⟨(some 73), .len false, [.t 72], none⟩,
     ⟨(some 74), .bin .lss, [.t 68, .t 73], none⟩])
   (.cond (.t 74) .skip (.exit 6)))
   (.seq (.block 7 (.seq (.seq (.draw [0, 0, 2, 6, 15, 31, 63, 63, 255, 511, 63, 2047, 4095, 63, 63, 24639, 57407, 63, 254015, 516159, 1048575, 2097151] [⟨(some 77), .mov, [.t 11], none⟩,
     ⟨(some 78), .mov, [.t 0], none⟩,
     ⟨(some 79), .len false, [.t 78], none⟩,
     ⟨(some 80), .bin .sub, [.t 79, .c (.int .i64 1)], none⟩,
     ⟨(some 81), .bin .eql, [.t 77, .t 80], none⟩,
     ⟨(some 82), .mov, [.t 81], none⟩,
     ⟨(some 83), .mov, [.t 2], (some (82, true))⟩,
     ⟨(some 84), .mov, [.t 11], (some (82, true))⟩,
     ⟨(some 85), .iaddrS 1, [.t 83, .t 84], (some (82, true))⟩,
     ⟨(some 86), .load 1 false, [.t 85], (some (82, true))⟩,
     ⟨(some 87), .mov, [.t 12], (some (82, true))⟩,
     ⟨(some 88), .iaddrS 1, [.t 86, .t 87], (some (82, true))⟩,
     ⟨(some 89), .load 1 false, [.t 88], (some (82, true))⟩,
     ⟨(some 90), .mov, [.t 0], (some (82, true))⟩,
     ⟨(some 91), .mov, [.t 11], (some (82, true))⟩,
     ⟨(some 92), .iaddrS 1, [.t 90, .t 91], (some (82, true))⟩,
     ⟨(some 93), .load 1 false, [.t 92], (some (82, true))⟩,
     ⟨(some 94), .mov, [.t 12], (some (82, true))⟩,
     ⟨(some 95), .iaddrS 1, [.t 93, .t 94], (some (82, true))⟩,
     ⟨(some 96), .load 1 false, [.t 95], (some (82, true))⟩,
     ⟨(some 97), .bin .lss, [.t 89, .t 96], (some (82, true))⟩,
     ⟨(some 98), .pick, [.t 82, .t 97, .c (.bool false)], none⟩])
   (.cond (.t 98) (.seq (.reg [⟨(some 6), .mov, [.c (.int .i64 0)], none⟩,
     ⟨(some 7), .mov, [.c (.int .i64 106)], none⟩])
   .ret) .skip))
   (.seq (.reg [⟨(some 13), .mov, [.c (.int .i64 0)], none⟩])
   (.block 8 (.loop (.seq (.seq (.reg [⟨(some 99), .mov, [.t 11], none⟩,
     ⟨(some 100), .mov, [.t 0], none⟩,
     ⟨(some 101), .len false, [.t 100], none⟩,
     ⟨(some 102), .bin .sub, [.t 101, .c (.int .i64 1)], none⟩,
     ⟨(some 103), .bin .lss, [.t 99, .t 102], none⟩,
     ⟨(some 104), .mov, [.t 103], none⟩,
     ⟨(some 105), .mov, [.t 13], (some (104, true))⟩,
     ⟨(some 106), .mov, [.t 0], (some (104, true))⟩,
     ⟨(some 107), .mov, [.t 11], (some (104, true))⟩,
     ⟨(some 108), .iaddrS 1, [.t 106, .t 107], (some (104, true))⟩,
     ⟨(some 109), .load 1 false, [.t 108], (some (104, true))⟩,
     ⟨(some 110), .len false, [.t 109], (some (104, true))⟩,
     ⟨(some 111), .bin .lss, [.t 105, .t 110], (some (104, true))⟩,
     ⟨(some 112), .pick, [.t 104, .t 111, .c (.bool false)], none⟩])
   (.cond (.t 112) .skip (.exit 8)))
   (.seq (.block 9 (.seq (.draw [0, 0, 3, 7, 0, 31, 63, 127, 127, 511, 1023, 127, 4095, 8191, 127, 127, 49279, 114815, 127, 508031, 1032319, 127, 127, 4194431, 14680191, 31457407, 127, 132120703, 266338431, 536854655, 1073741823, 2147483647] [⟨(some 115), .mov, [.t 13], none⟩,
     ⟨(some 116), .mov, [.t 12], none⟩,
     ⟨(some 117), .bin .sub, [.t 115, .t 116], none⟩,
     ⟨(some 118), .call 112, [.t 117], none⟩,
     ⟨(some 119), .mov, [.t 1], none⟩,
     ⟨(some 120), .bin .leq, [.t 118, .t 119], none⟩,
     ⟨(some 121), .mov, [.t 120], none⟩,
     ⟨(some 122), .mov, [.t 2], (some (121, true))⟩,
     ⟨(some 123), .mov, [.t 11], (some (121, true))⟩,
     ⟨(some 124), .iaddrS 1, [.t 122, .t 123], (some (121, true))⟩,
     ⟨(some 125), .load 1 false, [.t 124], (some (121, true))⟩,
     ⟨(some 126), .mov, [.t 12], (some (121, true))⟩,
     ⟨(some 127), .iaddrS 1, [.t 125, .t 126], (some (121, true))⟩,
     ⟨(some 128), .load 1 false, [.t 127], (some (121, true))⟩,
     ⟨(some 129), .mov, [.t 0], (some (121, true))⟩,
     ⟨(some 130), .mov, [.t 11], (some (121, true))⟩,
     ⟨(some 131), .iaddrS 1, [.t 129, .t 130], (some (121, true))⟩,
     ⟨(some 132), .load 1 false, [.t 131], (some (121, true))⟩,
     ⟨(some 133), .mov, [.t 12], (some (121, true))⟩,
     ⟨(some 134), .iaddrS 1, [.t 132, .t 133], (some (121, true))⟩,
     ⟨(some 135), .load 1 false, [.t 134], (some (121, true))⟩,
     ⟨(some 136), .mov, [.t 2], (some (121, true))⟩,
     ⟨(some 137), .mov, [.t 11], (some (121, true))⟩,
     ⟨(some 138), .bin .add, [.t 137, .c (.int .i64 1)], (some (121, true))⟩,
     ⟨(some 139), .iaddrS 1, [.t 136, .t 138], (some (121, true))⟩,
     ⟨(some 140), .load 1 false, [.t 139], (some (121, true))⟩,
     ⟨(some 141), .mov, [.t 13], (some (121, true))⟩,
     ⟨(some 142), .iaddrS 1, [.t 140, .t 141], (some (121, true))⟩,
     ⟨(some 143), .load 1 false, [.t 142], (some (121, true))⟩,
     ⟨(some 144), .bin .add, [.t 135, .t 143], (some (121, true))⟩,
     ⟨(some 145), .bin .lss, [.t 128, .t 144], (some (121, true))⟩,
     ⟨(some 146), .pick, [.t 121, .t 145, .c (.bool false)], none⟩])
   (.cond (.t 146) (.seq (.reg [⟨(some 6), .mov, [.c (.int .i64 0)], none⟩,
     ⟨(some 7), .mov, [.c (.int .i64 106)], none⟩])
   .ret) .skip)))
   (.reg [⟨(some 113), .mov, [.t 13], none⟩,
     ⟨(some 114), .bin .add, [.t 113, .c (.int .i64 1)], none⟩,
     ⟨(some 13), .mov, [.t 114], none⟩]))))))))
   (.reg [⟨(some 75), .mov, [.t 12], none⟩,
     ⟨(some 76), .bin .add, [.t 75, .c (.int .i64 1)], none⟩,
     ⟨(some 12), .mov, [.t 76], none⟩])))))))
   (.reg [⟨(some 66), .mov, [.t 11], none⟩,
     ⟨(some 67), .bin .add, [.t 66, .c (.int .i64 1)], none⟩,
     ⟨(some 11), .mov, [.t 67], none⟩]))))))
   (.seq (.reg [⟨(some 147), .mov, [.t 2], none⟩,
     ⟨(some 148), .iaddrS 1, [.t 147, .c (.int .i64 0)], none⟩,
     ⟨(some 149), .load 1 false, [.t 148], none⟩,
     ⟨(some 150), .iaddrS 1, [.t 149, .c (.int .i64 0)], none⟩,
     ⟨(some 151), .load 1 false, [.t 150], none⟩,
     ⟨(some 14), .mov, [.t 151], none⟩])
   (.seq (.seq (.reg [⟨(some 15), .mov, [.c (.int .i64 1)], none⟩])
   (.block 10 (.loop (.seq (.seq (.reg [⟨(some 152), .mov, [.t 15], none⟩,
     ⟨(some 153), .mov, [.t 2], none⟩,
     ⟨(some 154), .iaddrS 1, [.t 153, .c (.int .i64 0)], none⟩,
     ⟨(some 155), .load 1 false, [.t 154], none⟩,
     ⟨(some 156), .len false, [.t 155], none⟩,
     ⟨(some 157), .bin .lss, [.t 152, .t 156], none⟩])
   (.cond (.t 157) .skip (.exit 10)))
   (.seq (.block 11 (.reg [⟨(some 160), .mov, [.t 14], none⟩,
     ⟨(some 161), .mov, [.t 2], none⟩,
     ⟨(some 162), .iaddrS 1, [.t 161, .c (.int .i64 0)], none⟩,
     ⟨(some 163), .load 1 false, [.t 162], none⟩,
     ⟨(some 164), .mov, [.t 15], none⟩,
     ⟨(some 165), .iaddrS 1, [.t 163, .t 164], none⟩,
     ⟨(some 166), .load 1 false, [.t 165], none⟩,
     ⟨(some 167), .minmax true, [.t 160, .t 166], none⟩,
     ⟨(some 14), .mov, [.t 167], none⟩]))
   (.reg [⟨(some 158), .mov, [.t 15], none⟩,
     ⟨(some 159), .bin .add, [.t 158, .c (.int .i64 1)], none⟩,
     ⟨(some 15), .mov, [.t 159], none⟩]))))))
   (.seq (.reg [⟨(some 168), .mov, [.t 14], none⟩,
     ⟨(some 6), .mov, [.t 168], none⟩,
     ⟨(some 7), .mov, [.c (.int .i64 0)], none⟩])
   .ret))))))))
theorem chk.ref10_Backed : chkF Try.prog 46 = some (169, ir.ref10_Backed, [.tmp 6, .tmp 7]) := by kernel_rfl

/-- paravane/paravaneref10.Horizon -/
abbrev F.ref10_Horizon : Nat := 60
def ir.ref10_Horizon : IC :=
 (.seq (.reg [⟨(some 4), .mov, [.c .nils], none⟩,
     ⟨(some 5), .mov, [.c (.int .i64 0)], none⟩,
     ⟨(some 6), .mov, [.c (.int .i64 0)], none⟩])
   (.seq (.seq (.reg [⟨(some 11), .mov, [.t 0], none⟩,
     ⟨(some 12), .mov, [.t 1], none⟩,
     ⟨(some 13), .call 111, [.t 11, .t 12], none⟩,
     ⟨(some 7), .mov, [.t 13], none⟩])
   (.seq (.reg [⟨(some 14), .mov, [.t 7], none⟩,
     ⟨(some 15), .bin .neq, [.t 14, .c (.int .i64 0)], none⟩])
   (.cond (.t 15) (.seq (.reg [⟨(some 16), .mov, [.t 7], none⟩,
     ⟨(some 4), .mov, [.c .nils], none⟩,
     ⟨(some 5), .mov, [.c (.int .i64 0)], none⟩,
     ⟨(some 6), .mov, [.t 16], none⟩])
   .ret) .skip)))
   (.seq (.reg [⟨(some 17), .mov, [.t 0], none⟩,
     ⟨(some 18), .mov, [.t 1], none⟩,
     ⟨(some 19), .call 116, [.t 17, .t 18], none⟩,
     ⟨(some 20), .iaddrS 1, [.t 19, .c (.int .i64 0)], none⟩,
     ⟨(some 21), .load 1 false, [.t 20], none⟩,
     ⟨(some 8), .mov, [.t 21], none⟩])
   (.seq (.reg [⟨(some 22), .mov, [.t 8], none⟩,
     ⟨(some 23), .iaddrS 2, [.t 22, .c (.int .i64 0)], none⟩,
     ⟨(some 24), .load 2 true, [.t 23], none⟩,
     ⟨(some 9), .alloc [.nils, (.int .i64 0)], [], none⟩,
     ⟨none, .store 2, [.t 9, .t 24], none⟩])
   (.seq (.seq (.reg [⟨(some 10), .mov, [.c (.int .i64 1)], none⟩])
   (.block 0 (.loop (.seq (.seq (.reg [⟨(some 25), .mov, [.t 10], none⟩,
     ⟨(some 26), .mov, [.t 8], none⟩,
     ⟨(some 27), .len false, [.t 26], none⟩,
     ⟨(some 28), .bin .lss, [.t 25, .t 27], none⟩])
   (.cond (.t 28) .skip (.exit 0)))
   (.seq (.block 1 (.seq (.draw [0, 0, 3, 7, 15, 0, 32, 127] [⟨(some 31), .mov, [.t 8], none⟩,
     ⟨(some 32), .mov, [.t 10], none⟩,
     ⟨(some 33), .iaddrS 2, [.t 31, .t 32], none⟩,
     ⟨(some 34), .faddr 1, [.t 33], none⟩,
     ⟨(some 35), .load 1 false, [.t 34], none⟩,
     ⟨(some 36), .faddr 1, [.t 9], none⟩,
     ⟨(some 37), .load 1 false, [.t 36], none⟩,
     ⟨(some 38), .bin .gtr, [.t 35, .t 37], none⟩])
   (.cond (.t 38) (.reg [⟨(some 39), .mov, [.t 8], none⟩,
     ⟨(some 40), .mov, [.t 10], none⟩,
     ⟨(some 41), .iaddrS 2, [.t 39, .t 40], none⟩,
     ⟨(some 42), .load 2 true, [.t 41], none⟩,
     ⟨none, .store 2, [.t 9, .t 42], none⟩]) .skip)))
   (.reg [⟨(some 29), .mov, [.t 10], none⟩,
     ⟨(some 30), .bin .add, [.t 29, .c (.int .i64 1)], none⟩,
     ⟨(some 10), .mov, [.t 30], none⟩]))))))
   (.seq (.draw [0, 1, 0, 4, 3, 31, 63] [⟨(some 43), .faddr 0, [.t 9], none⟩,
     ⟨(some 44), .load 1 false, [.t 43], none⟩,
     ⟨(some 45), .faddr 1, [.t 9], none⟩,
     ⟨(some 46), .load 1 false, [.t 45], none⟩,
     ⟨(some 4), .mov, [.t 44], none⟩,
     ⟨(some 5), .mov, [.t 46], none⟩,
     ⟨(some 6), .mov, [.c (.int .i64 0)], none⟩])
   .ret))))))
theorem chk.ref10_Horizon : chkF Try.prog 60 = some (47, ir.ref10_Horizon, [.tmp 4, .tmp 5, .tmp 6]) := by kernel_rfl

/-- paravane/volume.Backs -/
abbrev F.volume_Backs : Nat := 61
def ir.volume_Backs : IC :=
 (.seq (.reg [⟨(some 4), .mov, [.c .nils], none⟩,
     ⟨(some 5), .mov, [.c (.int .i64 0)], none⟩])
   (.seq (.reg [⟨(some 14), .mov, [.t 0], none⟩,
     ⟨(some 15), .mov, [.t 1], none⟩,
     ⟨(some 16), .call 106, [.t 14, .t 15], none⟩,
     ⟨(some 13), .mov, [.t 16], none⟩,
     ⟨(some 17), .extract 0, [.t 13], none⟩,
     ⟨(some 18), .extract 1, [.t 13], none⟩,
     ⟨(some 6), .alloc [(.int .i64 0), (.int .i64 0), .nils, (.int .i64 0)], [], none⟩,
     ⟨none, .store 4, [.t 6, .t 17], none⟩,
     ⟨(some 7), .mov, [.t 18], none⟩])
   (.seq (.seq (.reg [⟨(some 19), .mov, [.t 7], none⟩,
     ⟨(some 20), .bin .neq, [.t 19, .c (.int .i64 0)], none⟩])
   (.cond (.t 20) (.seq (.reg [⟨(some 21), .mov, [.t 7], none⟩,
     ⟨(some 4), .mov, [.c .nils], none⟩,
     ⟨(some 5), .mov, [.t 21], none⟩])
   .ret) .skip))
   (.seq (.reg [⟨(some 22), .load 4 true, [.t 6], none⟩,
     ⟨(some 23), .call 113, [.t 22], none⟩,
     ⟨(some 8), .mov, [.t 23], none⟩])
   (.seq (.reg [⟨(some 9), .mov, [.c .nils], none⟩])
   (.seq (.seq (.reg [⟨(some 24), .faddr 0, [.t 6], none⟩,
     ⟨(some 25), .iaddrA 2 1, [.t 24, .c (.int .i64 0)], none⟩,
     ⟨(some 26), .load 1 false, [.t 25], none⟩,
     ⟨(some 27), .mov, [.c (.int .i64 0)], none⟩])
   (.block 0 (.loop (.seq (.reg [⟨(some 28), .bin .lss, [.t 27, .t 26], none⟩])
   (.seq (.cond (.t 28) .skip (.exit 0))
   (.seq (.block 1 (.seq (.reg [⟨(some 29), .mov, [.t 27], none⟩,
     ⟨(some 10), .mov, [.t 29], none⟩])
   (.seq (.reg [⟨(some 11), .mov, [.c .nils], none⟩])
   (.seq (.seq (.reg [⟨(some 30), .faddr 0, [.t 6], none⟩,
     ⟨(some 31), .iaddrA 2 1, [.t 30, .c (.int .i64 1)], none⟩,
     ⟨(some 32), .load 1 false, [.t 31], none⟩,
     ⟨(some 33), .mov, [.c (.int .i64 0)], none⟩])
   (.block 2 (.loop (.seq (.reg [⟨(some 34), .bin .lss, [.t 33, .t 32], none⟩])
   (.seq (.cond (.t 34) .skip (.exit 2))
   (.seq (.block 3 (.seq (.reg [⟨(some 35), .mov, [.t 33], none⟩,
     ⟨(some 12), .mov, [.t 35], none⟩])
   (.reg [⟨(some 36), .mov, [.t 11], none⟩,
     ⟨(some 37), .mov, [.t 8], none⟩,
     ⟨(some 38), .mov, [.t 10], none⟩,
     ⟨(some 39), .mov, [.t 12], none⟩,
     ⟨(some 40), .build [(.int .i64 0), (.int .i64 0)] [(0, 1), (1, 1)], [.t 38, .t 39], none⟩,
     ⟨(some 41), .lookup false, [.t 37, .t 40], none⟩,
     ⟨(some 42), .mkslice 1 3, [.t 41], none⟩,
     ⟨(some 43), .append 1 8 3, [.t 36, .t 42], none⟩,
     ⟨(some 11), .mov, [.t 43], none⟩])))
   (.reg [⟨(some 44), .bin .add, [.t 33, .c (.int .i64 1)], none⟩,
     ⟨(some 33), .mov, [.t 44], none⟩])))))))
   (.reg [⟨(some 45), .mov, [.t 9], none⟩,
     ⟨(some 46), .mov, [.t 11], none⟩,
     ⟨(some 47), .mkslice 1 49, [.t 46], none⟩,
     ⟨(some 48), .append 1 24 49, [.t 45, .t 47], none⟩,
     ⟨(some 9), .mov, [.t 48], none⟩])))))
   (.reg [⟨(some 49), .bin .add, [.t 27, .c (.int .i64 1)], none⟩,
     ⟨(some 27), .mov, [.t 49], none⟩])))))))
   (.seq (.reg [⟨(some 50), .mov, [.t 9], none⟩,
     ⟨(some 4), .mov, [.t 50], none⟩,
     ⟨(some 5), .mov, [.c (.int .i64 0)], none⟩])
   .ret)))))))
theorem chk.volume_Backs : chkF Try.prog 61 = some (51, ir.volume_Backs, [.tmp 4, .tmp 5]) := by kernel_rfl

/-- paravane/paravaneref10.section -/
abbrev F.ref10_section : Nat := 111
def ir.ref10_section : IC :=
 (.seq (.reg [⟨(some 4), .mov, [.c (.int .i64 0)], none⟩])
   (.seq (.seq (.reg [⟨(some 7), .mov, [.t 0], none⟩,
     ⟨(some 8), .len false, [.t 7], none⟩,
     ⟨(some 9), .call 51, [.t 8, .c (.int .i64 1), .c (.int .i64 16)], none⟩,
     ⟨(some 10), .un .not, [.t 9], none⟩,
     ⟨(some 11), .mov, [.t 10], none⟩,
     ⟨(some 12), .mov, [.t 0], (some (11, false))⟩,
     ⟨(some 13), .iaddrS 1, [.t 12, .c (.int .i64 0)], (some (11, false))⟩,
     ⟨(some 14), .load 1 false, [.t 13], (some (11, false))⟩,
     ⟨(some 15), .len false, [.t 14], (some (11, false))⟩,
     ⟨(some 16), .call 51, [.t 15, .c (.int .i64 1), .c (.int .i64 32)], (some (11, false))⟩,
     ⟨(some 17), .un .not, [.t 16], (some (11, false))⟩,
     ⟨(some 18), .pick, [.t 11, .c (.bool true), .t 17], none⟩])
   (.cond (.t 18) (.seq (.reg [⟨(some 4), .mov, [.c (.int .i64 105)], none⟩])
   .ret) .skip))
   (.seq (.seq (.reg [⟨(some 5), .mov, [.c (.int .i64 0)], none⟩])
   (.block 0 (.loop (.seq (.seq (.reg [⟨(some 19), .mov, [.t 5], none⟩,
     ⟨(some 20), .mov, [.t 0], none⟩,
     ⟨(some 21), .len false, [.t 20], none⟩,
     ⟨(some 22), .bin .lss, [.t 19, .t 21], none⟩])
   (.cond (.t 22) .skip (.exit 0)))
   (.seq (.block 1 (.seq (.seq (.draw [0, 0, 3, 7, 15, 0, 32, 96, 224, 511] [⟨(some 25), .mov, [.t 0], none⟩,
     ⟨(some 26), .mov, [.t 5], none⟩,
     ⟨(some 27), .iaddrS 1, [.t 25, .t 26], none⟩,
     ⟨(some 28), .load 1 false, [.t 27], none⟩,
     ⟨(some 29), .len false, [.t 28], none⟩,
     ⟨(some 30), .mov, [.t 0], none⟩,
     ⟨(some 31), .iaddrS 1, [.t 30, .c (.int .i64 0)], none⟩,
     ⟨(some 32), .load 1 false, [.t 31], none⟩,
     ⟨(some 33), .len false, [.t 32], none⟩,
     ⟨(some 34), .bin .neq, [.t 29, .t 33], none⟩])
   (.cond (.t 34) (.seq (.reg [⟨(some 4), .mov, [.c (.int .i64 105)], none⟩])
   .ret) .skip))
   (.seq (.reg [⟨(some 6), .mov, [.c (.int .i64 0)], none⟩])
   (.block 2 (.loop (.seq (.seq (.reg [⟨(some 35), .mov, [.t 6], none⟩,
     ⟨(some 36), .mov, [.t 0], none⟩,
     ⟨(some 37), .mov, [.t 5], none⟩,
     ⟨(some 38), .iaddrS 1, [.t 36, .t 37], none⟩,
     ⟨(some 39), .load 1 false, [.t 38], none⟩,
     ⟨(some 40), .len false, [.t 39], none⟩,
     ⟨(some 41), .bin .lss, [.t 35, .t 40], none⟩])
   (.cond (.t 41) .skip (.exit 2)))
   (.seq (.block 3 (.seq (.reg [⟨(some 44), .mov, [.t 0], none⟩,
     ⟨(some 45), .mov, [.t 5], none⟩,
     ⟨(some 46), .iaddrS 1, [.t 44, .t 45], none⟩,
     ⟨(some 47), .load 1 false, [.t 46], none⟩,
     ⟨(some 48), .mov, [.t 6], none⟩,
     ⟨(some 49), .iaddrS 1, [.t 47, .t 48], none⟩,
     ⟨(some 50), .load 1 false, [.t 49], none⟩,
     ⟨(some 51), .call 51, [.t 50, .c (.int .i64 (-1099511627776)), .c (.int .i64 1099511627776)], none⟩,
     ⟨(some 52), .un .not, [.t 51], none⟩])
   (.cond (.t 52) (.seq (.reg [⟨(some 4), .mov, [.c (.int .i64 105)], none⟩])
   .ret) .skip)))
   (.reg [⟨(some 42), .mov, [.t 6], none⟩,
     ⟨(some 43), .bin .add, [.t 42, .c (.int .i64 1)], none⟩,
     ⟨(some 6), .mov, [.t 43], none⟩]))))))))
   (.reg [⟨(some 23), .mov, [.t 5], none⟩,
     ⟨(some 24), .bin .add, [.t 23, .c (.int .i64 1)], none⟩,
     ⟨(some 5), .mov, [.t 24], none⟩]))))))
   (.seq (.seq (.reg [⟨(some 53), .mov, [.t 1], none⟩,
     ⟨(some 54), .call 51, [.t 53, .c (.int .i64 0), .c (.int .i64 32)], none⟩,
     ⟨(some 55), .un .not, [.t 54], none⟩])
   (.cond (.t 55) (.seq (.reg [⟨(some 4), .mov, [.c (.int .i64 7)], none⟩])
   .ret) .skip))
   (.seq (.reg [⟨(some 4), .mov, [.c (.int .i64 0)], none⟩])
   .ret)))))
theorem chk.ref10_section : chkF Try.prog 111 = some (56, ir.ref10_section, [.tmp 4]) := by kernel_rfl

/-- paravane/paravaneref00.Magnitude -/
abbrev F.ref00_Magnitude : Nat := 112
def ir.ref00_Magnitude : IC :=
 (.seq (.reg [⟨(some 2), .mov, [.c (.int .i64 0)], none⟩])
   (.seq (.reg [⟨(some 3), .mov, [.t 0], none⟩,
     ⟨(some 4), .mov, [.t 0], none⟩,
     ⟨(some 5), .un .neg, [.t 4], none⟩,
     ⟨(some 6), .minmax true, [.t 3, .t 5], none⟩,
     ⟨(some 2), .mov, [.t 6], none⟩])
   .ret))
theorem chk.ref00_Magnitude : chkF Try.prog 112 = some (7, ir.ref00_Magnitude, [.tmp 2]) := by kernel_rfl

/-- paravane/paravaneref10.rests -/
abbrev F.ref10_rests : Nat := 116
def ir.ref10_rests : IC :=
 (.seq (.reg [⟨(some 4), .mov, [.c .nils], none⟩])
   (.seq (.reg [⟨(some 13), .mov, [.t 0], none⟩,
     ⟨(some 14), .len false, [.t 13], none⟩,
     ⟨(some 15), .mkbox 1 24 [.nils], [.t 14, .t 14], none⟩,
     ⟨(some 5), .mov, [.t 15], none⟩])
   (.seq (.seq (.reg [⟨(some 16), .mov, [.t 0], none⟩,
     ⟨(some 17), .len false, [.t 16], none⟩,
     ⟨(some 18), .bin .sub, [.t 17, .c (.int .i64 1)], none⟩,
     ⟨(some 6), .mov, [.t 18], none⟩])
   (.block 0 (.loop (.seq (.seq (.reg [⟨(some 19), .mov, [.t 6], none⟩,
     ⟨(some 20), .bin .geq, [.t 19, .c (.int .i64 0)], none⟩])
   (.cond (.t 20) .skip (.exit 0)))
   (.seq (.block 1 (.seq (.reg [⟨(some 7), .mov, [.c .nils], none⟩])
   (.seq (.seq (.reg [⟨(some 8), .mov, [.c (.int .i64 0)], none⟩])
   (.block 2 (.loop (.seq (.seq (.reg [⟨(some 23), .mov, [.t 8], none⟩,
     ⟨(some 24), .mov, [.t 0], none⟩,
     ⟨(some 25), .mov, [.t 6], none⟩,
     ⟨(some 26), .iaddrS 1, [.t 24, .t 25], none⟩,
     ⟨(some 27), .load 1 false, [.t 26], none⟩,
     ⟨(some 28), .len false, [.t 27], none⟩,
     ⟨(some 29), .bin .lss, [.t 23, .t 28], none⟩])
   (.cond (.t 29) .skip (.exit 2)))
   (.seq (.block 3 (.seq (.reg [⟨(some 32), .mov, [.t 8], none⟩,
     ⟨(some 33), .mkslice 1 3, [.t 32], none⟩,
     ⟨(some 34), .mov, [.t 0], none⟩,
     ⟨(some 35), .mov, [.t 6], none⟩,
     ⟨(some 36), .iaddrS 1, [.t 34, .t 35], none⟩,
     ⟨(some 37), .load 1 false, [.t 36], none⟩,
     ⟨(some 38), .mov, [.t 8], none⟩,
     ⟨(some 39), .iaddrS 1, [.t 37, .t 38], none⟩,
     ⟨(some 40), .load 1 false, [.t 39], none⟩,
     ⟨(some 41), .build [.nils, (.int .i64 0)] [(0, 1), (1, 1)], [.t 33, .t 40], none⟩,
     ⟨(some 9), .alloc [.nils, (.int .i64 0)], [], none⟩,
     ⟨none, .store 2, [.t 9, .t 41], none⟩])
   (.seq (.reg [⟨(some 10), .mov, [.c (.bool false)], none⟩])
   (.seq (.seq (.reg [⟨(some 42), .mov, [.t 6], none⟩,
     ⟨(some 43), .mov, [.t 0], none⟩,
     ⟨(some 44), .len false, [.t 43], none⟩,
     ⟨(some 45), .bin .sub, [.t 44, .c (.int .i64 1)], none⟩,
     ⟨(some 46), .bin .lss, [.t 42, .t 45], none⟩])
   (.cond (.t 46) (.seq (.reg [⟨(some 11), .mov, [.c (.int .i64 0)], none⟩])
   (.block 4 (.loop (.seq (.seq (.reg [⟨(some 47), .mov, [.t 11], none⟩,
     ⟨(some 48), .mov, [.t 0], none⟩,
     ⟨(some 49), .mov, [.t 6], none⟩,
     ⟨(some 50), .iaddrS 1, [.t 48, .t 49], none⟩,
     ⟨(some 51), .load 1 false, [.t 50], none⟩,
     ⟨(some 52), .len false, [.t 51], none⟩,
     ⟨(some 53), .bin .lss, [.t 47, .t 52], none⟩])
   (.cond (.t 53) .skip (.exit 4)))
   (.seq (.block 5 (.seq (.reg [⟨(some 56), .mov, [.t 5], none⟩,
     ⟨(some 57), .mov, [.t 6], none⟩,
     ⟨(some 58), .bin .add, [.t 57, .c (.int .i64 1)], none⟩,
     ⟨(some 59), .iaddrS 1, [.t 56, .t 58], none⟩,
     ⟨(some 60), .load 1 false, [.t 59], none⟩,
     ⟨(some 61), .mov, [.t 11], none⟩,
     ⟨(some 62), .iaddrS 2, [.t 60, .t 61], none⟩,
     ⟨(some 63), .load 2 true, [.t 62], none⟩,
     ⟨(some 12), .alloc [.nils, (.int .i64 0)], [], none⟩,
     ⟨none, .store 2, [.t 12, .t 63], none⟩])
   (.seq (.draw [0, 0, 3, 7, 0, 31, 63, 127, 255, 511, 1023, 1023, 4095, 8191, 1023, 32767, 65535, 1023, 132095, 524287, 1023, 1049599, 4194303, 8388607, 16777215] [⟨(some 64), .mov, [.t 11], none⟩,
     ⟨(some 65), .mov, [.t 8], none⟩,
     ⟨(some 66), .bin .sub, [.t 64, .t 65], none⟩,
     ⟨(some 67), .call 112, [.t 66], none⟩,
     ⟨(some 68), .mov, [.t 1], none⟩,
     ⟨(some 69), .bin .leq, [.t 67, .t 68], none⟩,
     ⟨(some 70), .mov, [.t 69], none⟩,
     ⟨(some 71), .mov, [.t 10], (some (70, true))⟩,
     ⟨(some 72), .un .not, [.t 71], (some (70, true))⟩,
     ⟨(some 73), .mov, [.t 72], (some (70, true))⟩,
     ⟨(some 74), .mov, [.t 0], (some (73, false))⟩,
     ⟨(some 75), .mov, [.t 6], (some (73, false))⟩,
     ⟨(some 76), .iaddrS 1, [.t 74, .t 75], (some (73, false))⟩,
     ⟨(some 77), .load 1 false, [.t 76], (some (73, false))⟩,
     ⟨(some 78), .mov, [.t 8], (some (73, false))⟩,
     ⟨(some 79), .iaddrS 1, [.t 77, .t 78], (some (73, false))⟩,
     ⟨(some 80), .load 1 false, [.t 79], (some (73, false))⟩,
     ⟨(some 81), .faddr 1, [.t 12], (some (73, false))⟩,
     ⟨(some 82), .load 1 false, [.t 81], (some (73, false))⟩,
     ⟨(some 83), .bin .add, [.t 80, .t 82], (some (73, false))⟩,
     ⟨(some 84), .faddr 1, [.t 9], (some (73, false))⟩,
     ⟨(some 85), .load 1 false, [.t 84], (some (73, false))⟩,
     ⟨(some 86), .bin .gtr, [.t 83, .t 85], (some (73, false))⟩,
     ⟨(some 87), .pick, [.t 73, .c (.bool true), .t 86], (some (70, true))⟩,
     ⟨(some 88), .pick, [.t 70, .t 87, .c (.bool false)], none⟩])
   (.cond (.t 88) (.draw [0, 1, 0, 4, 15, 0, 0, 96, 224, 0, 992, 2016, 0, 4096, 16352, 32767, 65535, 131071] [⟨(some 89), .mov, [.t 8], none⟩,
     ⟨(some 90), .mkslice 1 3, [.t 89], none⟩,
     ⟨(some 91), .faddr 0, [.t 12], none⟩,
     ⟨(some 92), .load 1 false, [.t 91], none⟩,
     ⟨(some 93), .append 1 8 3, [.t 90, .t 92], none⟩,
     ⟨(some 94), .mov, [.t 0], none⟩,
     ⟨(some 95), .mov, [.t 6], none⟩,
     ⟨(some 96), .iaddrS 1, [.t 94, .t 95], none⟩,
     ⟨(some 97), .load 1 false, [.t 96], none⟩,
     ⟨(some 98), .mov, [.t 8], none⟩,
     ⟨(some 99), .iaddrS 1, [.t 97, .t 98], none⟩,
     ⟨(some 100), .load 1 false, [.t 99], none⟩,
     ⟨(some 101), .faddr 1, [.t 12], none⟩,
     ⟨(some 102), .load 1 false, [.t 101], none⟩,
     ⟨(some 103), .bin .add, [.t 100, .t 102], none⟩,
     ⟨(some 104), .build [.nils, (.int .i64 0)] [(0, 1), (1, 1)], [.t 93, .t 103], none⟩,
     ⟨none, .store 2, [.t 9, .t 104], none⟩,
     ⟨(some 10), .mov, [.c (.bool true)], none⟩]) .skip))))
   (.reg [⟨(some 54), .mov, [.t 11], none⟩,
     ⟨(some 55), .bin .add, [.t 54, .c (.int .i64 1)], none⟩,
     ⟨(some 11), .mov, [.t 55], none⟩])))))) .skip))
   (.reg [⟨(some 105), .mov, [.t 7], none⟩,
     ⟨(some 106), .load 2 true, [.t 9], none⟩,
     ⟨(some 107), .mkslice 2 168, [.t 106], none⟩,
     ⟨(some 108), .append 2 32 168, [.t 105, .t 107], none⟩,
     ⟨(some 7), .mov, [.t 108], none⟩])))))
   (.reg [⟨(some 30), .mov, [.t 8], none⟩,
     ⟨(some 31), .bin .add, [.t 30, .c (.int .i64 1)], none⟩,
     ⟨(some 8), .mov, [.t 31], none⟩]))))))
   (.reg [⟨(some 109), .mov, [.t 5], none⟩,
     ⟨(some 110), .mov, [.t 6], none⟩,
     ⟨(some 111), .mov, [.t 7], none⟩,
     ⟨(some 112), .iaddrS 1, [.t 109, .t 110], none⟩,
     ⟨none, .store 1, [.t 112, .t 111], none⟩]))))
   (.reg [⟨(some 21), .mov, [.t 6], none⟩,
     ⟨(some 22), .bin .sub, [.t 21, .c (.int .i64 1)], none⟩,
     ⟨(some 6), .mov, [.t 22], none⟩]))))))
   (.seq (.reg [⟨(some 113), .mov, [.t 5], none⟩,
     ⟨(some 4), .mov, [.t 113], none⟩])
   .ret))))
theorem chk.ref10_rests : chkF Try.prog 116 = some (114, ir.ref10_rests, [.tmp 4]) := by kernel_rfl

end Go.Proofs.Ytkifejklnpddbaa

/-! Contracts: sections and potentials in the specification; the law VolumeBacked. -/
set_option linter.unusedVariables false
set_option linter.unusedSimpArgs false
set_option maxRecDepth 20000
namespace Go.Proofs.Ytkifejklnpddbaa
open Go.Am
attribute [local simp] cells scalar mkv splice under2 under dem dem1

def colOk (l : List (List Int)) (c : List Int) : Bool := c.length == deepOf l && c.all fun n => btw n (-1099511627776) 1099511627776
theorem all_and' {α : Type} (p q : α → Bool) (l : List α) : l.all (fun x => p x && q x) = (l.all p && l.all q) := by
  induction l with
  | nil => rfl
  | cons a r ih => simp only [List.all_cons, ih]; cases p a <;> cases q a <;> cases r.all p <;> cases r.all q <;> rfl
theorem cols_ok (l : List (List Int)) : l.all (colOk l) = (evenL l && numsOk 1099511627776 l) := all_and' _ _ l
def secE (l : List (List Int)) (slope : Int) : Int := if secOk l then (if btw slope 0 32 then 0 else 7) else 105

theorem all_take_succ' {α : Type} {p : α → Bool} {l : List α} {k : Nat} (h : k < l.length) : (l.take (k + 1)).all p = ((l.take k).all p && p l[k]) := by
  rw [List.take_add_one, List.getElem?_eq_getElem h, List.all_append]
  simp

theorem all_false {α : Type} {p : α → Bool} {l : List α} {k : Nat} (h : k < l.length) (e : p l[k] = false) : l.all p = false := by
  rw [List.all_eq_false]
  exact ⟨l[k], List.getElem_mem h, by simp [e]⟩

theorem c_section10 {l : List (List Int)} (hl : saneS l) (slope : Int) : C Try.prog F.ref10_section [secV l, I slope] (I (secE l slope)) := by
  refine C_of mixed chk.ref10_section (by simp) fun S ok => ?_
  refine Tr.seqR rfl (by simp) ?_
  by_cases h16 : btw l.length 1 16 = true
  rotate_left
  · have h16 : btw ((l.map intsV).length : Int) 1 16 = false := by simpa using h16
    have hc : C Try.prog F.ref00_Between [I ((l.map intsV).length : Int), I 1, I 16] (.bool false) := h16 ▸ c_between _ _ _
    refine Tr.seq (Tr.seqC rfl (by simp [secV]) (Steps.call rfl rfl hc (Steps.runN 3 rfl (by simp) ?_)))
    refine Steps.off (.bool false) rfl rfl rfl (Steps.off (.bool false) rfl rfl rfl (Steps.off (.bool false) rfl rfl rfl (Steps.off (.bool false) rfl rfl rfl (Steps.off (.bool false) rfl rfl rfl (Steps.fin rfl (by simp) ?_)))))
    refine Tr.condT rfl (Tr.seqR rfl (by simp) (Tr.retX rfl rfl rfl ?_ trivial))
    have : secOk l = false := by
      unfold secOk
      rw [show btw (l.length : Int) 1 16 = false by simpa using h16]
      simp
    simp [packR, secE, this]
  have g16 : 1 ≤ l.length ∧ l.length ≤ 16 := by
    have : (1 : Int) ≤ l.length ∧ (l.length : Int) ≤ 16 := by simpa [btw] using h16
    omega
  have h0 : 0 < l.length := by omega
  have hd0 : deepOf l = l[0].length := deepOf_eq h0
  have hc : C Try.prog F.ref00_Between [I ((l.map intsV).length : Int), I 1, I 16] (.bool true) := by
    have : btw ((l.map intsV).length : Int) 1 16 = true := by simpa using h16
    exact this ▸ c_between _ _ _
  refine Tr.seq (Tr.seqC rfl (by simp [secV]) (Steps.call rfl rfl hc (Steps.runN 4 rfl (by simp [secV]; omega) ?_)))
  rw [show (0 : Int) = ((0 : Nat) : Int) from rfl, getD_map h0]
  refine Steps.run rfl (by simp [intsV]) (Steps.gcall rfl rfl rfl rfl (by simp) (fun _ => c_between _ _ _) (Steps.fin rfl (by simp) ?_))
  refine Tr.cond rfl rfl (fun h1 => Tr.seqR rfl (by simp) (Tr.retX rfl rfl rfl ?_ trivial)) (fun h1 => Tr.skip ?_)
  · have h2 : btw (deepOf l : Int) 1 32 = false := by rw [hd0]; simpa using h1
    have : secOk l = false := by unfold secOk; rw [h2]; simp
    simp [packR, secE, this]
  have h32 : btw (deepOf l : Int) 1 32 = true := by rw [hd0]; simpa using h1
  refine Tr.seq (Tr.seqR rfl (by simp) (Tr.block ?_))
  refine Tr.loop (fun i s => (i ≤ l.length ∧ (l.take i).all (colOk l) = true) ∧ s = { env := [(0, secV l), (1, I slope), (5, I i)], bx := [], rw := [], log := [], stp := false }) (fun i => l.length - i) 0
    (Wk.le (.cons rfl (.refl _) (.cons rfl (.refl _) (.cons rfl (.refl _) .nil))) .nil .nil rfl rfl) ⟨⟨by omega, rfl⟩, rfl⟩ ?_
  rintro i s ⟨⟨hi, hok⟩, rfl⟩
  refine Tr.seq (Tr.seqR rfl (by simp [secV]) (Tr.cond rfl rfl (fun h2 => Tr.skip ?_) (fun h2 => Tr.exit ?_)))
  rotate_left
  · have h2 : i = l.length := by simp at h2; omega
    subst h2
    rw [List.take_length, cols_ok, Bool.and_eq_true] at hok
    have hs : secOk l = true := by unfold secOk; rw [hok.1, hok.2, h16, h32]; rfl
    refine Tr.seq (Tr.seqC rfl (by simp) (Steps.call rfl rfl (c_between _ _ _) (Steps.fin rfl (by simp) (Tr.cond rfl rfl (fun h3 => Tr.seqR rfl (by simp) (Tr.retX rfl rfl rfl ?_ trivial)) (fun h3 => Tr.skip (Tr.seqR rfl (by simp) (Tr.retX rfl rfl rfl ?_ trivial)))))))
    · have h3 : btw slope 0 32 = false := by simpa using h3
      simp [packR, secE, hs, h3]
    · have h3 : btw slope 0 32 = true := by simpa using h3
      simp [packR, secE, hs, h3]
  have h2 : i < l.length := by simpa using h2
  have hli := hl.2 _ (List.getElem_mem h2)
  have bad : colOk l l[i] = false → secE l slope = 105 := fun hb => by
    have : l.all (colOk l) = false := all_false h2 hb
    rw [cols_ok] at this
    have : secOk l = false := by
      unfold secOk
      rw [h16, h32]
      revert this
      cases evenL l <;> cases numsOk 1099511627776 l <;> simp
    simp [secE, this]
  refine Tr.seq (Tr.block (Tr.seq (Tr.seq (Tr.drawK (TraceK.runN 3 rfl (by simp [secV]; omega) ?_)))))
  rw [getD_map h2]
  refine TraceK.runN 4 rfl (by simp [intsV, secV]; omega) ?_
  rw [show (0 : Int) = ((0 : Nat) : Int) from rfl, getD_map h0]
  refine TraceK.run rfl (by simp [intsV]) (.done ⟨by kernel_rfl, by kernel_rfl, ?_⟩)
  refine Tr.cond rfl rfl (fun h3 => Tr.seqR rfl (by simp) (Tr.retX rfl rfl rfl ?_ trivial)) (fun h3 => Tr.skip ?_)
  · have h3 : (((l[i].map I).length : Int) != ((l[0].map I).length : Int)) = true := h3
    have : colOk l l[i] = false := by
      unfold colOk
      rw [hd0]
      have : ¬ l[i].length = l[0].length := by simp at h3; omega
      simp [this]
    rw [bad this]; rfl
  have h3 : (((l[i].map I).length : Int) != ((l[0].map I).length : Int)) = false := h3
  have h3 : l[i].length = l[0].length := by simp at h3; omega
  refine Tr.seqR rfl (by simp) (Tr.block ?_)
  refine Tr.loop (fun k s => (k ≤ l[i].length ∧ ((l[i].take k).all fun n => btw n (-1099511627776) 1099511627776) = true) ∧ s = { env := [(0, secV l), (1, I slope), (5, I i), (6, I k)], bx := [], rw := [], log := [], stp := false }) (fun k => l[i].length - k) 0
    (Wk.le (.cons rfl (.refl _) (.cons rfl (.refl _) (.cons rfl (.refl _) (.cons rfl (.refl _) .nil)))) .nil .nil rfl rfl) ⟨⟨by omega, rfl⟩, rfl⟩ ?_
  rintro k s ⟨⟨hk, hokk⟩, rfl⟩
  refine Tr.seq (Tr.seqN 4 rfl (by simp [secV]; omega) ?_)
  rw [getD_map h2]
  refine Steps.fin rfl (by simp [intsV]) (Tr.cond rfl rfl (fun h4 => Tr.skip ?_) (fun h4 => Tr.exit ?_))
  · have h4 : k < l[i].length := by simpa using h4
    refine Tr.seq (Tr.block (Tr.seqN 3 rfl (by simp [secV]; omega) ?_))
    rw [getD_map h2]
    refine Steps.runN 3 rfl (by simp [intsV]; omega) ?_
    rw [getD_map h4]
    refine Steps.run rfl (by simp) (Steps.call rfl rfl (c_between _ _ _) (Steps.fin rfl (by simp) (Tr.cond rfl rfl (fun h5 => Tr.seqR rfl (by simp) (Tr.retX rfl rfl rfl ?_ trivial)) (fun h5 => Tr.skip (Tr.regR rfl (by simp) ?_)))))
    · have h5 : btw l[i][k] (-1099511627776) 1099511627776 = false := by simpa using h5
      have : colOk l l[i] = false := by
        unfold colOk
        rw [all_false h4 h5, Bool.and_false]
      rw [bad this]; rfl
    · have h5 : btw l[i][k] (-1099511627776) 1099511627776 = true := by simpa using h5
      exact ⟨k + 1, _, Wk.le (.cons rfl (.refl _) (.cons rfl (.refl _) (.cons rfl (.refl _) (.cons rfl (VLe.i (w64 (by omega) (by omega))) .nil)))) .nil .nil rfl rfl, ⟨⟨h4, by rw [all_take_succ' h4, hokk, h5]; rfl⟩, rfl⟩, by omega⟩
  · have h4 : k = l[i].length := by simp at h4; omega
    subst h4
    rw [List.take_length] at hokk
    refine Tr.regR rfl (by simp) ?_
    refine ⟨i + 1, _, Wk.le (.cons rfl (.refl _) (.cons rfl (.refl _) (.cons rfl (VLe.i (w64 (by omega) (by omega))) .nil))) .nil .nil rfl rfl, ⟨⟨h2, ?_⟩, rfl⟩, by omega⟩
    rw [all_take_succ' h2, hok]
    simp [colOk, hokk, hd0, h3]

end Go.Proofs.Ytkifejklnpddbaa

/-! Plain facts: the best horizon is worth most, and not more than potentials say. -/
set_option linter.unusedVariables false
set_option linter.unusedSimpArgs false
set_option maxRecDepth 20000
namespace Go.Proofs.Ytkifejklnpddbaa
open Go.Am

theorem foldW_ge : ∀ (l : List Int) (s : Bool × Int), (s.1 = true → s.2 ≤ (l.foldl stepW s).2) ∧ ∀ x ∈ l, x ≤ (l.foldl stepW s).2
  | [], s => ⟨fun _ => Int.le_refl _, fun x h => by simp at h⟩
  | y :: r, s => by
    obtain ⟨h1, h2⟩ := foldW_ge r (stepW s y)
    simp only [List.foldl_cons]
    have h3 : (stepW s y).1 = true ∧ y ≤ (stepW s y).2 ∧ (s.1 = true → s.2 ≤ (stepW s y).2) := by
      obtain ⟨b, m⟩ := s
      unfold stepW
      by_cases h : m < y
      · have e : (!b || decide (y > m)) = true := by simp [h]
        simp only [e, if_true]
        exact ⟨trivial, Int.le_refl _, fun _ => Int.le_of_lt h⟩
      · cases b
        · simp
        · simp [h]; omega
    refine ⟨fun hs => Int.le_trans (h3.2.2 hs) (h1 h3.1), fun x hx => ?_⟩
    rcases List.mem_cons.1 hx with rfl | hx
    · exact Int.le_trans h3.2.1 (h1 h3.1)
    · exact h2 x hx

theorem best_ge {L : List Int} {x : Int} (h : x ∈ L) : x ≤ (bestG L).2 := (foldW_ge L (false, 0)).2 x h

theorem mem_next {n d sl c i q : Nat} (hd : 1 ≤ d) : q ∈ nextN n d sl c i ↔ c + 1 ≠ n ∧ i - sl ≤ q ∧ q ≤ i + sl ∧ q < d := by
  unfold nextN
  by_cases h : c + 1 = n
  · simp [h]
  · rw [if_neg h, List.mem_range'_1]
    omega

theorem worth_ge {l : List (List Int)} {sl c i q : Nat} (hc : c < l.length) (hq : q ∈ nextN l.length (deepOf l) sl c i) : at2 l c i + worthV l sl (c + 1) q ≤ worthV l sl c i := by
  rw [worthV_eq (i := i) hc]
  have := best_ge (List.mem_map_of_mem (f := worthV l sl (c + 1)) hq)
  omega

theorem worth_last {l : List (List Int)} {sl c i : Nat} (hc : c + 1 = l.length) : worthV l sl c i = at2 l c i := by
  rw [worthV_eq (by omega)]
  simp [nextN, hc, bestG]

/-- What a path is worth. -/
def sumI (l : List (List Int)) : Nat → List Int → Int
  | _, [] => 0
  | c, x :: r => at2 l c x.toNat + sumI l (c + 1) r

theorem sumI_append (l : List (List Int)) : ∀ (c : Nat) (a b : List Int), sumI l c (a ++ b) = sumI l c a + sumI l (c + a.length) b
  | c, [], b => by simp [sumI]
  | c, x :: r, b => by
    simp only [List.cons_append, sumI, sumI_append l (c + 1) r b, List.length_cons]
    rw [show c + 1 + r.length = c + (r.length + 1) by omega]
    omega

def magI (n : Int) : Int := max n (0 - n)
def okStep (l : List (List Int)) (sl : Int) (path : List Int) (i : Nat) : Bool := btw (path.getD i 0) 0 ((deepOf l : Int) - 1) && (decide (i = 0) || decide (magI (path.getD i 0 - path.getD (i - 1) 0) ≤ sl))
def isPath (l : List (List Int)) (sl : Int) (path : List Int) : Bool := decide (path.length = l.length) && (List.range path.length).all (okStep l sl path)

theorem path_step {l : List (List Int)} {sl : Int} {path : List Int} (h : isPath l sl path = true) {i : Nat} (hi : i < path.length) : okStep l sl path i = true := by
  simp only [isPath, Bool.and_eq_true, List.all_eq_true] at h
  exact h.2 i (by simpa using hi)

theorem path_le {l : List (List Int)} {sl : Nat} {path : List Int} (hd : 1 ≤ deepOf l) (h : isPath l sl path = true) : ∀ (d c : Nat), c + d + 1 = l.length → sumI l c (path.drop c) ≤ worthV l sl c (path.getD c 0).toNat := by
  have hlen : path.length = l.length := by simp only [isPath, Bool.and_eq_true, decide_eq_true_eq] at h; exact h.1
  intro d
  induction d with
  | zero =>
    intro c hc
    have h1 : c < path.length := by omega
    rw [List.drop_eq_getElem_cons h1, List.drop_eq_nil_of_le (by omega), worth_last (by omega), List.getD_eq_getElem?_getD, List.getElem?_eq_getElem h1]
    simp [sumI]
  | succ d ih =>
    intro c hc
    have h1 : c < path.length := by omega
    have h2 := ih (c + 1) (by omega)
    rw [List.drop_eq_getElem_cons h1]
    have e : path.getD c 0 = path[c] := by rw [List.getD_eq_getElem?_getD, List.getElem?_eq_getElem h1]; rfl
    simp only [sumI, ← e]
    have s0 := path_step h h1
    have s1 := path_step h (i := c + 1) (by omega)
    simp only [okStep, btw, Bool.and_eq_true, Bool.or_eq_true, decide_eq_true_eq, Nat.add_sub_cancel, magI] at s0 s1
    have hq : (path.getD (c + 1) 0).toNat ∈ nextN l.length (deepOf l) sl c (path.getD c 0).toNat := by
      rw [mem_next hd]; omega
    have := worth_ge (by omega) hq
    omega

theorem foldA_ge (g : Nat → Int) : ∀ (m : List Nat) (a : Nat), g a ≤ g (m.foldl (fun a i => if g i > g a then i else a) a) ∧ ∀ x ∈ m, g x ≤ g (m.foldl (fun a i => if g i > g a then i else a) a)
  | [], a => ⟨Int.le_refl _, fun x h => by simp at h⟩
  | y :: r, a => by
    obtain ⟨h1, h2⟩ := foldA_ge g r (if g y > g a then y else a)
    simp only [List.foldl_cons]
    have h3 : g a ≤ g (if g y > g a then y else a) ∧ g y ≤ g (if g y > g a then y else a) := by split <;> omega
    refine ⟨Int.le_trans h3.1 h1, fun x hx => ?_⟩
    rcases List.mem_cons.1 hx with rfl | hx
    · exact Int.le_trans h3.2 h1
    · exact h2 x hx

theorem argBest_ge {l : List (List Int)} {sl k i : Nat} (hi : i < k) : worthV l sl 0 i ≤ worthV l sl 0 (argBest l sl k) :=
  (foldA_ge (worthV l sl 0) (List.range k) 0).2 i (by simpa using hi)

/-- **NO PATH IS WORTH MORE.** -/
theorem path_best {l : List (List Int)} {sl : Nat} {path : List Int} (hn : 1 ≤ l.length) (hd : 1 ≤ deepOf l) (h : isPath l sl path = true) : sumI l 0 path ≤ worthV l sl 0 (argBest l sl (deepOf l)) := by
  have h1 := path_le hd h (l.length - 1) 0 (by omega)
  have hlen : path.length = l.length := by simp only [isPath, Bool.and_eq_true, decide_eq_true_eq] at h; exact h.1
  have s0 := path_step h (i := 0) (by omega)
  simp only [okStep, btw, Bool.and_eq_true, Bool.or_eq_true, decide_eq_true_eq] at s0
  have h2 := argBest_ge (l := l) (sl := sl) (k := deepOf l) (i := (path.getD 0 0).toNat) (by omega)
  rw [List.drop_zero] at h1
  exact Int.le_trans h1 h2

/-- A way from a value on. -/
theorem walk_spec {l : List (List Int)} {sl : Nat} (hd : 1 ≤ deepOf l) : ∀ (k c i : Nat), c + k + 1 = l.length → i < deepOf l →
    (walkN l sl k c i).length = k ∧ sumI l c ((i :: walkN l sl k c i).map fun (q : Nat) => (q : Int)) = worthV l sl c i ∧ ∀ j, j < k → ∃ p q, (i :: walkN l sl k c i)[j]? = some p ∧ (i :: walkN l sl k c i)[j + 1]? = some q ∧ q ∈ nextN l.length (deepOf l) sl (c + j) p
  | 0, c, i, hc, hi => by
    refine ⟨rfl, ?_, fun j hj => by omega⟩
    rw [worth_last (by omega)]
    simp [walkN, sumI]
  | k + 1, c, i, hc, hi => by
    obtain ⟨q, hq⟩ := Option.isSome_iff_exists.1 (firstQ_some (l := l) (sl := sl) (c := c) (by omega) hi)
    have hqn : q ∈ nextN l.length (deepOf l) sl c i := List.mem_of_find?_eq_some hq
    have hqe : worthV l sl (c + 1) q = worthV l sl c i - at2 l c i := by
      have := List.find?_some hq
      simpa using this
    have hqd := ((mem_next hd).1 hqn).2.2.2
    obtain ⟨h1, h2, h3⟩ := walk_spec (sl := sl) hd k (c + 1) q (by omega) hqd
    have ew : walkN l sl (k + 1) c i = q :: walkN l sl k (c + 1) q := by simp only [walkN, hq]
    rw [ew]
    refine ⟨by simp [h1], ?_, fun j hj => ?_⟩
    · rw [List.map_cons]
      simp only [sumI, h2, hqe, Int.toNat_natCast]
      omega
    · cases j with
      | zero => exact ⟨i, q, rfl, rfl, by simpa using hqn⟩
      | succ j =>
        obtain ⟨p, q', g1, g2, g3⟩ := h3 j (by omega)
        refine ⟨p, q', by simpa using g1, by simpa using g2, ?_⟩
        rw [show c + (j + 1) = c + 1 + j by omega]; exact g3

def bestP (l : List (List Int)) (sl : Nat) : List Int := (argBest l sl (deepOf l) :: walkN l sl (l.length - 1) 0 (argBest l sl (deepOf l))).map fun (q : Nat) => (q : Int)

theorem bestP_is {l : List (List Int)} {sl : Nat} (hn : 1 ≤ l.length) (hd : 1 ≤ deepOf l) : isPath l sl (bestP l sl) = true ∧ sumI l 0 (bestP l sl) = worthV l sl 0 (argBest l sl (deepOf l)) := by
  have hb : argBest l sl (deepOf l) < deepOf l := argBest_lt (by omega)
  obtain ⟨h1, h2, h3⟩ := walk_spec (sl := sl) hd (l.length - 1) 0 _ (by omega) hb
  refine ⟨?_, h2⟩
  have hlen : (bestP l sl).length = l.length := by simp [bestP, h1]; omega
  simp only [isPath, Bool.and_eq_true, decide_eq_true_eq, List.all_eq_true]
  refine ⟨hlen, fun i hi => ?_⟩
  have hi : i < l.length := by simpa [hlen] using hi
  simp only [okStep, btw, Bool.and_eq_true, Bool.or_eq_true, decide_eq_true_eq, magI]
  cases i with
  | zero =>
    simp [bestP]; omega
  | succ j =>
    obtain ⟨p, q, g1, g2, g3⟩ := h3 j (by omega)
    have e1 : (bestP l sl).getD j 0 = (p : Int) := by
      rw [List.getD_eq_getElem?_getD]; unfold bestP; rw [List.getElem?_map, g1]; rfl
    have e2 : (bestP l sl).getD (j + 1) 0 = (q : Int) := by
      rw [List.getD_eq_getElem?_getD]; unfold bestP; rw [List.getElem?_map, g2]; rfl
    rw [Nat.add_sub_cancel, e1, e2]
    have h9 := (mem_next hd).1 g3
    refine ⟨⟨by omega, by omega⟩, .inr ?_⟩
    have a1 : (q : Int) - (p : Int) ≤ (sl : Int) := by omega
    have a2 : 0 - ((q : Int) - (p : Int)) ≤ (sl : Int) := by omega
    exact decide_eq_true (Int.max_le.2 ⟨a1, a2⟩)

/-! ### Potentials -/
theorem backs_ge {v b : List (List Int)} {sl : Nat} (hd : 1 ≤ deepOf v) (hok : okTo v b sl v.length = true) : ∀ (d c i : Nat), c + d + 1 = v.length → i < deepOf v → worthV v sl c i ≤ at2 b c i := by
  have hat : ∀ c i, c < v.length → i < deepOf v → okAt v b sl c i = true := fun c i hc hi => by
    unfold okTo at hok
    rw [List.all_eq_true] at hok
    have := hok c (by simpa using hc)
    unfold okCol at this
    rw [List.all_eq_true] at this
    exact this i (by simpa using hi)
  intro d
  induction d with
  | zero =>
    intro c i hc hi
    have h := hat c i (by omega) hi
    rw [worth_last (by omega)]
    simp only [okAt, Bool.and_eq_true, Bool.or_eq_true, decide_eq_true_eq] at h
    omega
  | succ d ih =>
    intro c i hc hi
    have h := hat c i (by omega) hi
    simp only [okAt, Bool.and_eq_true, List.all_eq_true] at h
    have hne : (nextN v.length (deepOf v) sl c i).map (worthV v sl (c + 1)) ≠ [] := by
      intro e
      have := mem_next_self (n := v.length) (d := deepOf v) (sl := sl) (c := c) (i := i) (by omega) hi
      rw [List.map_eq_nil_iff] at e
      rw [e] at this; cases this
    obtain ⟨q, h1, h2⟩ := List.mem_map.1 (best_mem hne)
    have h3 := h.2 q h1
    simp only [okNext, decide_eq_true_eq] at h3
    have h4 := ih (c + 1) q (by omega) ((mem_next hd).1 h1).2.2.2
    rw [worthV_eq (by omega), ← h2]
    omega

theorem foldM_ge : ∀ (r : List Int) (a : Int), a ≤ r.foldl max a ∧ ∀ x ∈ r, x ≤ r.foldl max a
  | [], a => ⟨Int.le_refl _, fun x h => by simp at h⟩
  | y :: r, a => by
    obtain ⟨h1, h2⟩ := foldM_ge r (max a y)
    simp only [List.foldl_cons]
    refine ⟨by omega, fun x hx => ?_⟩
    rcases List.mem_cons.1 hx with rfl | hx
    · omega
    · exact h2 x hx

theorem max_ge {L : List Int} {i : Nat} (hi : i < L.length) : L.getD i 0 ≤ L.tail.foldl max (L.headD 0) := by
  cases L with
  | nil => simp at hi
  | cons a r =>
    obtain ⟨h1, h2⟩ := foldM_ge r a
    cases i with
    | zero => simpa using h1
    | succ i =>
      have hi : i < r.length := by simpa using hi
      rw [List.getD_cons_succ, List.getD_eq_getElem?_getD, List.getElem?_eq_getElem hi]
      exact h2 _ (List.getElem_mem hi)

/-- **POTENTIALS BOUND IT.** -/
theorem backs_best {v b : List (List Int)} {sl : Nat} (hn : 1 ≤ v.length) (hd : 1 ≤ deepOf v) (hb : backsOk v b = true) (hok : okTo v b sl v.length = true) :
    worthV v sl 0 (argBest v sl (deepOf v)) ≤ (b.headD []).tail.foldl max ((b.headD []).headD 0) := by
  have hba : argBest v sl (deepOf v) < deepOf v := argBest_lt (by omega)
  have h1 := backs_ge hd hok (v.length - 1) 0 (argBest v sl (deepOf v)) (by omega) hba
  simp only [backsOk, Bool.and_eq_true, decide_eq_true_eq] at hb
  have hl : argBest v sl (deepOf v) < (b.headD []).length := by
    have : (b.headD []).length = deepOf b := rfl
    omega
  have h2 := max_ge hl
  have e : at2 b 0 (argBest v sl (deepOf v)) = (b.headD []).getD (argBest v sl (deepOf v)) 0 := by
    unfold at2
    cases b with
    | nil => rfl
    | cons a r => rfl
  omega

end Go.Proofs.Ytkifejklnpddbaa

/-! Contracts: potentials in the specification; the law VolumeBacked. -/
set_option linter.unusedVariables false
set_option linter.unusedSimpArgs false
set_option maxRecDepth 20000
set_option maxHeartbeats 2000000
namespace Go.Proofs.Ytkifejklnpddbaa
open Go.Am
attribute [local simp] cells scalar mkv splice under2 under dem dem1

theorem c_Magnitude (n : Int) (h : -1000000000000000 ≤ n ∧ n ≤ 1000000000000000) : C Try.prog F.ref00_Magnitude [I n] (I (magI n)) := by
  refine C_of mixed chk.ref00_Magnitude (by simp) fun S ok => ?_
  refine Tr.seqR rfl (by simp) (Tr.seqR rfl (by simp) (Tr.retX rfl rfl rfl ?_ trivial))
  show I (magI n) = I (bif true then (if IntKind.i64.wrap (0 - n) > n then IntKind.i64.wrap (0 - n) else n) else _)
  rw [cond_true, ite_max, w64 (n := 0 - n) (by omega) (by omega)]
  rfl

def backCol (v : List (List Int)) (c : List Int) : Bool := c.length == deepOf v && c.all fun n => btw n (-70368744177664) 70368744177664

theorem backs_all {v b : List (List Int)} (h0 : 0 < v.length) (hl : b.length = v.length) : b.all (backCol v) = backsOk v b := by
  unfold backsOk
  rw [show b.all (backCol v) = ((b.all fun c => c.length == deepOf v) && numsOk 70368744177664 b) from all_and' _ _ b]
  have hb0 : 0 < b.length := by omega
  have e : (b.all fun c => c.length == deepOf v) = (evenL b && decide (deepOf b = deepOf v)) := by
    by_cases hd : deepOf b = deepOf v
    · unfold evenL; rw [hd]; simp
    · rw [decide_eq_false hd, Bool.and_false]
      refine all_false hb0 ?_
      rw [← deepOf_eq hb0]
      simpa using hd
  rw [e]
  by_cases hd : deepOf b = deepOf v <;> simp [hb0, hl, hd, h0]

theorem okTo_false {v b : List (List Int)} {sl c i : Nat} (hc : c < v.length) (hi : i < deepOf v) (h : okAt v b sl c i = false) : okTo v b sl v.length = false := by
  unfold okTo okCol
  rw [List.all_eq_false]
  refine ⟨c, by simpa using hc, fun hall => ?_⟩
  have := List.all_eq_true.1 hall i (by simpa using hi)
  rw [h] at this; cases this

theorem c_Backed10 {v b : List (List Int)} (hv : saneS v) (hb : saneS b) (slope : Int) : C Try.prog F.ref10_Backed [secV v, I slope, secV b] (.tuple [I (backR v slope b).1, I (backR v slope b).2]) := by
  refine C_of mixed chk.ref10_Backed (by simp) fun S ok => ?_
  refine Tr.seqR rfl (by simp) ?_
  refine Tr.seq (Tr.seqC rfl (by simp [secV]) (Steps.call rfl rfl (c_section10 hv slope) (Steps.fin rfl (by simp) ?_)))
  refine Tr.seqR rfl (by simp) (Tr.cond rfl rfl (fun h1 => Tr.seqR rfl (by simp) (Tr.retX rfl rfl rfl ?_ trivial)) (fun h1 => Tr.skip ?_))
  · have h1 : (secE v slope != 0) = true := h1
    unfold secE at h1 ⊢
    unfold backR
    by_cases hE : secOk v = true
    · by_cases hS : btw slope 0 32 = true
      · simp [hE, hS] at h1
      · simp [hE, hS, packR]
    · simp [hE, packR]
  have h1 : (secE v slope != 0) = false := h1
  have hES : secOk v = true ∧ btw slope 0 32 = true := by
    unfold secE at h1
    by_cases hE : secOk v = true
    · by_cases hS : btw slope 0 32 = true
      · exact ⟨hE, hS⟩
      · simp [hE, hS] at h1
    · simp [hE] at h1
  obtain ⟨hE, hS⟩ := hES
  obtain ⟨sl, rfl⟩ : ∃ sl : Nat, slope = (sl : Int) := ⟨slope.toNat, by simp [btw] at hS; omega⟩
  have hsl : sl ≤ 32 := by simp [btw] at hS; omega
  obtain ⟨hev, hn, hd, hnum⟩ := secOk_spec hE
  refine Tr.seq (Tr.seqR rfl (by simp [secV]) (Tr.cond rfl rfl (fun h2 => Tr.seqR rfl (by simp) (Tr.retX rfl rfl rfl ?_ trivial)) (fun h2 => Tr.skip ?_)))
  · have h2 : (((b.map intsV).length : Int) != ((v.map intsV).length : Int)) = true := h2
    have : ¬ b.length = v.length := by simp at h2; omega
    have : backsOk v b = false := by unfold backsOk; simp [this]
    simp [packR, backR, hE, hS, this]
  have h2 : (((b.map intsV).length : Int) != ((v.map intsV).length : Int)) = false := h2
  have hbl : b.length = v.length := by simp at h2; omega
  have bad : backsOk v b = false → backR v sl b = (0, 106) := fun h => by simp [backR, hE, hS, h]
  refine Tr.seq (Tr.seqR rfl (by simp) (Tr.block ?_))
  refine Tr.loop (fun i s => (i ≤ v.length ∧ (b.take i).all (backCol v) = true) ∧ s = { env := [(0, secV v), (1, I sl), (2, secV b), (9, I i)], bx := [], rw := [], log := [], stp := false }) (fun i => v.length - i) 0
    (Wk.le (.cons rfl (.refl _) (.cons rfl (.refl _) (.cons rfl (.refl _) (.cons rfl (.refl _) .nil)))) .nil .nil rfl rfl) ⟨⟨by omega, rfl⟩, rfl⟩ ?_
  rintro i s ⟨⟨hi, hok⟩, rfl⟩
  refine Tr.seq (Tr.seqR rfl (by simp [secV]) (Tr.cond rfl rfl (fun h3 => Tr.skip ?_) (fun h3 => Tr.exit ?_)))
  · have h3 : i < v.length := by simpa using h3
    have hib : i < b.length := by omega
    have hvl : v[i].length = deepOf v := evenL_spec hev h3
    have hbi := hb.2 _ (List.getElem_mem hib)
    have badc : backCol v b[i] = false → backR v sl b = (0, 106) := fun h => bad (by rw [← backs_all (by omega) hbl]; exact all_false hib h)
    refine Tr.seq (Tr.block (Tr.seq (Tr.seq (Tr.drawK (TraceK.runN 3 rfl (by simp [secV]; omega) ?_)))))
    rw [getD_map hib]
    refine TraceK.runN 5 rfl (by simp [intsV, secV]; omega) ?_
    rw [getD_map h3]
    refine TraceK.run rfl (by simp [intsV]) (.done ⟨by kernel_rfl, by kernel_rfl, ?_⟩)
    refine Tr.cond rfl rfl (fun h4 => Tr.seqR rfl (by simp) (Tr.retX rfl rfl rfl ?_ trivial)) (fun h4 => Tr.skip ?_)
    · have h4 : (((b[i].map I).length : Int) != ((v[i].map I).length : Int)) = true := h4
      have : ¬ b[i].length = deepOf v := by simp at h4; omega
      rw [badc (by unfold backCol; simp [this])]; rfl
    have h4 : (((b[i].map I).length : Int) != ((v[i].map I).length : Int)) = false := h4
    have h4 : b[i].length = deepOf v := by simp at h4; omega
    refine Tr.seqR rfl (by simp) (Tr.block ?_)
    refine Tr.loop (fun k s => (k ≤ deepOf v ∧ ((b[i].take k).all fun n => btw n (-70368744177664) 70368744177664) = true) ∧ s = { env := [(0, secV v), (1, I sl), (2, secV b), (9, I i), (10, I k)], bx := [], rw := [], log := [], stp := false }) (fun k => deepOf v - k) 0
      (Wk.le (.cons rfl (.refl _) (.cons rfl (.refl _) (.cons rfl (.refl _) (.cons rfl (.refl _) (.cons rfl (.refl _) .nil))))) .nil .nil rfl rfl) ⟨⟨by omega, rfl⟩, rfl⟩ ?_
    rintro k s ⟨⟨hk, hokk⟩, rfl⟩
    refine Tr.seq (Tr.seqN 4 rfl (by simp [secV]; omega) ?_)
    rw [getD_map h3]
    refine Steps.fin rfl (by simp [intsV]) (Tr.cond rfl rfl (fun h5 => Tr.skip ?_) (fun h5 => Tr.exit ?_))
    · have h5 : k < v[i].length := by simpa using h5
      have h6 : k < b[i].length := by omega
      refine Tr.seq (Tr.block (Tr.seqN 3 rfl (by simp [secV]; omega) ?_))
      rw [getD_map hib]
      refine Steps.runN 3 rfl (by simp [intsV]; omega) ?_
      rw [getD_map h6]
      refine Steps.run rfl (by simp) (Steps.call rfl rfl (c_between _ _ _) (Steps.fin rfl (by simp) (Tr.cond rfl rfl (fun h7 => Tr.seqR rfl (by simp) (Tr.retX rfl rfl rfl ?_ trivial)) (fun h7 => Tr.skip (Tr.regR rfl (by simp) ?_)))))
      · have h7 : btw b[i][k] (-70368744177664) 70368744177664 = false := by simpa using h7
        rw [badc (by unfold backCol; rw [all_false h6 h7, Bool.and_false])]; rfl
      · have h7 : btw b[i][k] (-70368744177664) 70368744177664 = true := by simpa using h7
        exact ⟨k + 1, _, Wk.le (.cons rfl (.refl _) (.cons rfl (.refl _) (.cons rfl (.refl _) (.cons rfl (.refl _) (.cons rfl (VLe.i (w64 (by omega) (by omega))) .nil))))) .nil .nil rfl rfl, ⟨⟨by omega, by rw [all_take_succ' h6, hokk, h7]; rfl⟩, rfl⟩, by omega⟩
    · have h5 : k = b[i].length := by simp at h5; omega
      subst h5
      rw [List.take_length] at hokk
      refine Tr.regR rfl (by simp) ?_
      refine ⟨i + 1, _, Wk.le (.cons rfl (.refl _) (.cons rfl (.refl _) (.cons rfl (.refl _) (.cons rfl (VLe.i (w64 (by omega) (by omega))) .nil)))) .nil .nil rfl rfl, ⟨⟨h3, ?_⟩, rfl⟩, by omega⟩
      rw [all_take_succ' hib, hok]
      simp [backCol, hokk, h4]
  have h3 : i = b.length := by simp at h3; omega
  subst h3
  rw [List.take_length, backs_all (by omega) hbl] at hok
  have hok' := hok
  simp only [backsOk, Bool.and_eq_true, decide_eq_true_eq] at hok'
  obtain ⟨⟨⟨hb0, hbev⟩, hbn, hbd⟩, hbnum⟩ := hok'
  have badT : okTo v b sl v.length = false → backR v sl b = (0, 106) := fun h => by simp [backR, hE, hS, hok, h]
  refine Tr.seq (Tr.seqR rfl (by simp) (Tr.block ?_))
  refine Tr.loop (fun i s => (i ≤ v.length ∧ okTo v b sl i = true) ∧ s = { env := [(0, secV v), (1, I sl), (2, secV b), (11, I i)], bx := [], rw := [], log := [], stp := false }) (fun i => v.length - i) 0
    (Wk.le (.cons rfl (.refl _) (.cons rfl (.refl _) (.cons rfl (.refl _) (.cons rfl (.refl _) .nil)))) .nil .nil rfl rfl) ⟨⟨by omega, rfl⟩, rfl⟩ ?_
  rintro i s ⟨⟨hi, hokT⟩, rfl⟩
  refine Tr.seq (Tr.seqR rfl (by simp [secV]) (Tr.cond rfl rfl (fun h3 => Tr.skip ?_) (fun h3 => Tr.exit ?_)))
  · have h3 : i < v.length := by simpa using h3
    have hib : i < b.length := by omega
    have hvl : v[i].length = deepOf v := evenL_spec hev h3
    have hbl2 : b[i].length = deepOf v := by rw [evenL_spec hbev hib, hbd]
    refine Tr.seq (Tr.block (Tr.seqR rfl (by simp) (Tr.block ?_)))
    refine Tr.loop (fun k s => (k ≤ deepOf v ∧ okCol v b sl i k = true) ∧ s = { env := [(0, secV v), (1, I sl), (2, secV b), (11, I i), (12, I k)], bx := [], rw := [], log := [], stp := false }) (fun k => deepOf v - k) 0
      (Wk.le (.cons rfl (.refl _) (.cons rfl (.refl _) (.cons rfl (.refl _) (.cons rfl (.refl _) (.cons rfl (.refl _) .nil))))) .nil .nil rfl rfl) ⟨⟨by omega, rfl⟩, rfl⟩ ?_
    rintro k s ⟨⟨hk, hokC⟩, rfl⟩
    refine Tr.seq (Tr.seqN 4 rfl (by simp [secV]; omega) ?_)
    rw [getD_map h3]
    refine Steps.fin rfl (by simp [intsV]) (Tr.cond rfl rfl (fun h5 => Tr.skip ?_) (fun h5 => Tr.exit ?_))
    rotate_left
    · have h5 : k = deepOf v := by simp at h5; omega
      subst h5
      refine Tr.regR rfl (by simp) ?_
      refine ⟨i + 1, _, Wk.le (.cons rfl (.refl _) (.cons rfl (.refl _) (.cons rfl (.refl _) (.cons rfl (VLe.i (w64 (by omega) (by omega))) .nil)))) .nil .nil rfl rfl, ⟨⟨h3, ?_⟩, rfl⟩, by omega⟩
      unfold okTo at hokT ⊢
      rw [List.range_succ, List.all_append, hokT]
      simp [hokC]
    have hkv : k < v[i].length := by simpa using h5
    have hkd : k < deepOf v := by omega
    have hkb : k < b[i].length := by omega
    have bv := numsOk_spec hnum h3 hkv
    have bb := numsOk_spec hbnum hib hkb
    have wl : IntKind.i64.wrap (((v.map intsV).length : Int) - 1) = (v.length : Int) - 1 := by rw [List.length_map]; exact w64 (by omega) (by omega)
    have a1 : at2 v i k = v[i][k] := at2_eq h3 hkv
    have a2 : at2 b i k = b[i][k] := at2_eq hib hkb
    refine Tr.seq (Tr.block (Tr.seq (Tr.seq (Tr.drawK (TraceK.runN 9 rfl (by simp [secV] <;> (intros; omega)) ?_)))))
    rw [getD_map hib]
    refine TraceK.runN 3 rfl (by simp [intsV] <;> (intros; omega)) ?_
    rw [getD_map hkb]
    refine TraceK.runN 4 rfl (by simp [secV] <;> (intros; omega)) ?_
    rw [getD_map h3]
    refine TraceK.runN 3 rfl (by simp [intsV] <;> (intros; omega)) ?_
    rw [getD_map hkv]
    refine TraceK.run rfl (by simp) (.done ⟨by kernel_rfl, by kernel_rfl, ?_⟩)
    have hfail : ∀ c : Bool, (bif ((i : Int) == IntKind.i64.wrap (((v.map intsV).length : Int) - 1)) then decide (b[i][k] < v[i][k]) else false) = c → c = !(decide (i + 1 < v.length) || decide (at2 b i k ≥ at2 v i k)) := by
      rintro c rfl
      rw [wl, a1, a2]
      by_cases h : i + 1 < v.length
      · have h' : ¬ (i : Int) = (v.length : Int) - 1 := by omega
        simp [h, h']
      · have h' : (i : Int) = (v.length : Int) - 1 := by omega
        simp only [h', BEq.rfl, cond_true, decide_eq_false h, Bool.false_or]
        by_cases h9 : b[i][k] < v[i][k] <;> simp [h9] <;> omega
    refine Tr.cond rfl rfl (fun h6 => Tr.seqR rfl (by simp) (Tr.retX rfl rfl rfl ?_ trivial)) (fun h6 => Tr.skip ?_)
    · have h7 := not_of (hfail true h6)
      have : okAt v b sl i k = false := by unfold okAt; rw [h7]; rfl
      rw [badT (okTo_false h3 hkd this)]; rfl
    have h7 := not_of (hfail false h6)
    refine Tr.seqR rfl (by simp) (Tr.block ?_)
    refine Tr.loop (fun j s => (j ≤ deepOf v ∧ ∀ q, q < j → q ∈ nextN v.length (deepOf v) sl i k → okNext v b i k q = true) ∧ s = { env := [(0, secV v), (1, I sl), (2, secV b), (11, I i), (12, I k), (13, I j)], bx := [], rw := [], log := [], stp := false }) (fun j => deepOf v - j) 0
      (Wk.le (.cons rfl (.refl _) (.cons rfl (.refl _) (.cons rfl (.refl _) (.cons rfl (.refl _) (.cons rfl (.refl _) (.cons rfl (.refl _) .nil)))))) .nil .nil rfl rfl) ⟨⟨by omega, fun q hq => by omega⟩, rfl⟩ ?_
    rintro j s ⟨⟨hj, hokN⟩, rfl⟩
    refine Tr.seq (Tr.seqN 10 rfl (by simp [secV] <;> (intros; omega)) ?_)
    rw [getD_map h3]
    have hgo : ∀ c : Bool, (bif decide ((i : Int) < IntKind.i64.wrap (((v.map intsV).length : Int) - 1)) then decide ((j : Int) < ((v[i].map I).length : Int)) else false) = c → (c = true ↔ i + 1 < v.length ∧ j < deepOf v) := by
      rintro c rfl
      rw [wl, List.length_map, hvl]
      by_cases h : i + 1 < v.length
      · have h' : (i : Int) < (v.length : Int) - 1 := by omega
        simp [h, h']
      · have h' : ¬ (i : Int) < (v.length : Int) - 1 := by omega
        simp [h, h']
    refine Steps.fin rfl (by simp [intsV]) (Tr.cond rfl rfl (fun h8 => Tr.skip ?_) (fun h8 => Tr.exit ?_))
    · obtain ⟨hi1, hjd⟩ := (hgo true h8).1 rfl
      have hib1 : i + 1 < b.length := by omega
      have hjb : j < b[i + 1].length := by rw [evenL_spec hbev hib1, hbd]; exact hjd
      have bj := numsOk_spec hbnum hib1 hjb
      have w1 : IntKind.i64.wrap ((i : Int) + 1) = ((i + 1 : Nat) : Int) := by rw [w64 (by omega) (by omega)]; omega
      have wjk : IntKind.i64.wrap ((j : Int) - (k : Int)) = (j : Int) - (k : Int) := w64 (by omega) (by omega)
      have a3 : at2 b (i + 1) j = b[i + 1][j] := at2_eq hib1 hjb
      refine Tr.weak (s' := { env := [(0, secV v), (1, I sl), (2, secV b), (11, I i), (12, I k), (13, I j)], bx := [], rw := [], log := [], stp := false }) (Wk.le (.cons rfl (.refl _) (.cons rfl (.refl _) (.cons rfl (.refl _) (.cons rfl (.refl _) (.cons rfl (.refl _) (.cons rfl (.refl _) .nil)))))) .nil .nil rfl rfl) ?_
      refine Tr.seq (Tr.block (Tr.seq (Tr.drawK (TraceK.run rfl (by simp) ?_))))
      rw [wjk]
      obtain ⟨g, hg⟩ : ∃ g, magI ((j : Int) - (k : Int)) = g := ⟨_, rfl⟩
      have hcM : C Try.prog F.ref00_Magnitude [I ((j : Int) - (k : Int))] (I g) := hg ▸ c_Magnitude ((j : Int) - (k : Int)) (by omega)
      refine TraceK.call rfl rfl hcM (TraceK.runN 6 rfl (by simp [secV] <;> (intros; omega)) ?_)
      rw [getD_map hib]
      refine TraceK.runN 3 rfl (by simp [intsV] <;> (intros; omega)) ?_
      rw [getD_map hkb]
      refine TraceK.runN 4 rfl (by simp [secV] <;> (intros; omega)) ?_
      rw [getD_map h3]
      refine TraceK.runN 3 rfl (by simp [intsV] <;> (intros; omega)) ?_
      rw [getD_map hkv]
      refine TraceK.runN 4 rfl (by simp [secV]) ?_
      rw [w1]
      refine TraceK.runN 1 rfl (by simp [secV] <;> (intros; omega)) ?_
      rw [getD_map hib1]
      refine TraceK.runN 3 rfl (by simp [intsV] <;> (intros; omega)) ?_
      rw [getD_map hjb]
      refine TraceK.run rfl (by simp) (.done ⟨by kernel_rfl, by kernel_rfl, ?_⟩)
      have hbad : ∀ c : Bool, (bif decide (g ≤ (sl : Int)) then decide (b[i][k] < IntKind.i64.wrap (v[i][k] + b[i + 1][j])) else false) = c → (c = true ↔ j ∈ nextN v.length (deepOf v) sl i k ∧ okNext v b i k j = false) := by
        rintro c rfl
        rw [← hg, w64 (by omega) (by omega), mem_next hd.1]
        unfold okNext magI
        rw [a1, a2, a3]
        by_cases h : max ((j : Int) - k) (0 - ((j : Int) - k)) ≤ (sl : Int)
        · have h' : k - sl ≤ j ∧ j ≤ k + sl := by omega
          have h'' : i + 1 ≠ v.length := by omega
          by_cases h9 : b[i][k] < v[i][k] + b[i + 1][j]
          · simp [h, h', h'', hjd, h9] <;> omega
          · simp [h, h', h'', hjd, h9] <;> omega
        · have h' : ¬ (k - sl ≤ j ∧ j ≤ k + sl) := by omega
          rw [decide_eq_false h, cond_false]
          constructor
          · intro e; cases e
          · rintro ⟨⟨_, g1, g2, _⟩, _⟩; exact absurd ⟨g1, g2⟩ h'
      refine Tr.cond rfl rfl (fun h9 => Tr.seqR rfl (by simp) (Tr.retX rfl rfl rfl ?_ trivial)) (fun h9 => Tr.skip (Tr.regR rfl (by simp) ?_))
      · obtain ⟨g1, g2⟩ := (hbad true h9).1 rfl
        have : okAt v b sl i k = false := by
          unfold okAt
          rw [List.all_eq_false.2 ⟨j, g1, by simp [g2]⟩, Bool.and_false]
        rw [badT (okTo_false h3 hkd this)]; rfl
      · have h9 := hbad false h9
        refine ⟨j + 1, _, Wk.le (.cons rfl (.refl _) (.cons rfl (.refl _) (.cons rfl (.refl _) (.cons rfl (.refl _) (.cons rfl (.refl _) (.cons rfl (VLe.i (w64 (by omega) (by omega))) .nil)))))) .nil .nil rfl rfl, ⟨⟨by omega, fun q hq hm => ?_⟩, rfl⟩, by omega⟩
        by_cases e : q = j
        · subst e
          cases hh : okNext v b i k q with
          | true => rfl
          | false => have := h9.2 ⟨hm, hh⟩; cases this
        · exact hokN q (by omega) hm
    · have h8 := hgo false h8
      have hall : ∀ q, q ∈ nextN v.length (deepOf v) sl i k → okNext v b i k q = true := fun q hq => by
        have g := (mem_next hd.1).1 hq
        have hjj : j = deepOf v := by
          by_cases h : j < deepOf v
          · have := h8.2 ⟨by omega, h⟩; cases this
          · omega
        exact hokN q (by omega) hq
      refine Tr.regR rfl (by simp) ?_
      refine ⟨k + 1, _, Wk.le (.cons rfl (.refl _) (.cons rfl (.refl _) (.cons rfl (.refl _) (.cons rfl (.refl _) (.cons rfl (VLe.i (w64 (by omega) (by omega))) .nil))))) .nil .nil rfl rfl, ⟨⟨hkd, ?_⟩, rfl⟩, by omega⟩
      have hat : okAt v b sl i k = true := by
        unfold okAt
        rw [h7, List.all_eq_true.2 hall]; rfl
      unfold okCol at hokC ⊢
      rw [List.range_succ, List.all_append, hokC]
      simp [hat]
  have h3 : i = v.length := by simp at h3; omega
  subst h3
  have hl0 : b[0].length = deepOf v := by rw [evenL_spec hbev hb0, hbd]
  have hl1 : 0 < b[0].length := by omega
  have hb0s := hb.2 _ (List.getElem_mem hb0)
  refine Tr.seqN 2 rfl (by simp [secV]; omega) ?_
  rw [show (0 : Int) = ((0 : Nat) : Int) from rfl, getD_map hb0]
  refine Steps.runN 2 rfl (by simp [intsV]; omega) ?_
  rw [getD_map hl1]
  refine Steps.fin rfl (by simp) (Tr.seq (Tr.seqR rfl (by simp) (Tr.block ?_)))
  refine Tr.loop (fun k s => (1 ≤ k ∧ k ≤ b[0].length) ∧ s = { env := [(2, secV b), (14, I ((b[0].take k).tail.foldl max (b[0].headD 0))), (15, I k)], bx := [], rw := [], log := [], stp := false }) (fun k => b[0].length - k) 1
    (Wk.le (.cons rfl (.refl _) (.cons rfl (VLe.i ?_) (.cons rfl (.refl _) .nil))) .nil .nil rfl rfl) ⟨by omega, rfl⟩ ?_
  · have : ∀ L : List Int, ∀ h : 0 < L.length, L[0] = (L.take 1).tail.foldl max (L.headD 0) := fun L h => by
      cases L with
      | nil => simp at h
      | cons a r => rfl
    exact this _ hl1
  rintro k s ⟨⟨hk1, hk⟩, rfl⟩
  refine Tr.seq (Tr.seqN 3 rfl (by simp [secV]; omega) ?_)
  rw [show (0 : Int) = ((0 : Nat) : Int) from rfl, getD_map hb0]
  refine Steps.fin rfl (by simp [intsV]) (Tr.cond rfl rfl (fun h4 => Tr.skip ?_) (fun h4 => Tr.exit ?_))
  · have h4 : k < b[0].length := by simpa using h4
    refine Tr.seq (Tr.block (Tr.reg (Steps.runN 3 rfl (by simp [secV]; omega) ?_)))
    rw [show (0 : Int) = ((0 : Nat) : Int) from rfl, getD_map hb0]
    refine Steps.runN 3 rfl (by simp [intsV]; omega) ?_
    rw [getD_map h4]
    refine Steps.fin rfl (by simp) (Tr.regR rfl (by simp) ?_)
    refine ⟨k + 1, _, Wk.le (.cons rfl (.refl _) (.cons rfl (VLe.i ?_) (.cons rfl (VLe.i (w64 (by omega) (by omega))) .nil))) .nil .nil rfl rfl, ⟨by omega, rfl⟩, by omega⟩
    simp only [cond_true]
    rw [ite_max, List.take_add_one, List.getElem?_eq_getElem h4]
    obtain ⟨a, r, hr⟩ : ∃ a r, b[0].take k = a :: r := by
      cases hlt : b[0].take k with
      | nil =>
        have h9 : (b[0].take k).length = 0 := by rw [hlt]; rfl
        rw [List.length_take] at h9
        omega
      | cons a r => exact ⟨a, r, rfl⟩
    rw [hr]
    simp
  · have h4 : k = b[0].length := by simp at h4; omega
    subst h4
    refine Tr.seqR rfl (by simp) (Tr.retX rfl rfl rfl ?_ trivial)
    rw [List.take_length]
    have e : b.headD [] = b[0] := by cases b with | nil => simp at hb0 | cons a r => rfl
    have eR : backR v sl b = (b[0].tail.foldl max (b[0].headD 0), 0) := by
      unfold backR
      rw [if_pos hE, if_pos hS, Int.toNat_natCast, hok, hokT, e]
      rfl
    rw [eR]; rfl

theorem c_VolumeBacked {v b : List (List Int)} (hv : saneS v) (hb : saneS b) (slope : Int) : C Try.prog F.law10_VolumeBacked [secV v, I slope, secV b] (.bool true) := by
  refine C_of mixed chk.law10_VolumeBacked (by simp) fun S ok => ?_
  refine Tr.seqR rfl (by simp) ?_
  refine Tr.seqC rfl (by simp [secV]) (Steps.call rfl rfl (c_Backed hv hb slope) (Steps.fin rfl (by simp [secV]) ?_))
  refine Tr.seqC rfl (by simp [secV]) (Steps.call rfl rfl (c_Backed10 hv hb slope) (Steps.fin rfl (by simp) ?_))
  refine Tr.seqC rfl (by simp) (Steps.gcall rfl rfl rfl rfl (by simp) (fun _ => c_works) (Steps.fin rfl (by simp) (Tr.retX rfl rfl rfl ?_ trivial)))
  simp [packR]

end Go.Proofs.Ytkifejklnpddbaa

/-! The best ways of the specification: plain facts; contracts. -/
set_option linter.unusedVariables false
set_option linter.unusedSimpArgs false
set_option maxRecDepth 20000
set_option maxHeartbeats 4000000
namespace Go.Proofs.Ytkifejklnpddbaa
open Go.Am
attribute [local simp] cells scalar mkv under2 under dem dem1

def nearQ (sl k q : Nat) : Bool := decide (magI ((q : Int) - (k : Int)) ≤ (sl : Int))
def stepJ (l : List (List Int)) (sl c k : Nat) (acc : Option Nat) (q : Nat) : Option Nat :=
  if nearQ sl k q then (match acc with | none => some q | some b => if worthV l sl (c + 1) q > worthV l sl (c + 1) b then some q else some b) else acc
def accJ (l : List (List Int)) (sl c k j : Nat) : Option Nat := (List.range j).foldl (stepJ l sl c k) none

theorem accJ_succ (l : List (List Int)) (sl c k j : Nat) : accJ l sl c k (j + 1) = stepJ l sl c k (accJ l sl c k j) j := by
  unfold accJ
  rw [List.range_succ, List.foldl_append]; rfl

def accOk (l : List (List Int)) (sl c k j : Nat) : Option Nat → Prop
  | none => ∀ q, q < j → nearQ sl k q = false
  | some b => b < j ∧ nearQ sl k b = true ∧ (∀ q, q < j → nearQ sl k q = true → worthV l sl (c + 1) q ≤ worthV l sl (c + 1) b) ∧ ∀ q, q < b → nearQ sl k q = true → worthV l sl (c + 1) q < worthV l sl (c + 1) b

theorem accJ_ok (l : List (List Int)) (sl c k : Nat) : ∀ j, accOk l sl c k j (accJ l sl c k j)
  | 0 => fun q h => by omega
  | j + 1 => by
    have ih := accJ_ok l sl c k j
    rw [accJ_succ]
    unfold stepJ
    by_cases hn : nearQ sl k j = true
    · rw [if_pos hn]
      cases ha : accJ l sl c k j with
      | none =>
        rw [ha] at ih
        refine ⟨by omega, hn, fun q hq hqn => ?_, fun q hq hqn => ?_⟩
        · by_cases e : q = j
          · subst e; omega
          · have := ih q (by omega); rw [hqn] at this; cases this
        · have := ih q hq; rw [hqn] at this; cases this
      | some b =>
        rw [ha] at ih
        obtain ⟨h1, h2, h3, h4⟩ := ih
        simp only
        by_cases hg : worthV l sl (c + 1) j > worthV l sl (c + 1) b
        · rw [if_pos hg]
          refine ⟨by omega, hn, fun q hq hqn => ?_, fun q hq hqn => ?_⟩
          · by_cases e : q = j
            · subst e; omega
            · have := h3 q (by omega) hqn; omega
          · have := h3 q hq hqn; omega
        · rw [if_neg hg]
          refine ⟨by omega, h2, fun q hq hqn => ?_, h4⟩
          by_cases e : q = j
          · subst e; omega
          · exact h3 q (by omega) hqn
    · rw [if_neg hn]
      have hn : nearQ sl k j = false := by simpa using hn
      cases ha : accJ l sl c k j with
      | none =>
        rw [ha] at ih
        intro q hq
        by_cases e : q = j
        · subst e; exact hn
        · exact ih q (by omega)
      | some b =>
        rw [ha] at ih
        obtain ⟨h1, h2, h3, h4⟩ := ih
        refine ⟨by omega, h2, fun q hq hqn => ?_, h4⟩
        by_cases e : q = j
        · subst e; rw [hn] at hqn; cases hqn
        · exact h3 q (by omega) hqn

theorem near_next {l : List (List Int)} {sl c k q : Nat} (hd : 1 ≤ deepOf l) (hc : c + 1 < l.length) (hq : q < deepOf l) : nearQ sl k q = true ↔ q ∈ nextN l.length (deepOf l) sl c k := by
  rw [mem_next hd]
  simp only [nearQ, decide_eq_true_eq, magI, Int.max_le]
  omega

theorem accJ_first {l : List (List Int)} {sl c k : Nat} (hd : 1 ≤ deepOf l) (hc : c + 1 < l.length) (hk : k < deepOf l) : accJ l sl c k (deepOf l) = firstQ l sl c k := by
  obtain ⟨q0, hq0⟩ := Option.isSome_iff_exists.1 (firstQ_some (l := l) (sl := sl) hc hk)
  have hT : ∀ q, q ∈ nextN l.length (deepOf l) sl c k → worthV l sl (c + 1) q ≤ worthV l sl c k - at2 l c k := fun q hq => by
    have := worth_ge (by omega) hq; omega
  have hq0m : q0 ∈ nextN l.length (deepOf l) sl c k := List.mem_of_find?_eq_some hq0
  have hq0e : worthV l sl (c + 1) q0 = worthV l sl c k - at2 l c k := by simpa using List.find?_some hq0
  have hq0d := ((mem_next hd).1 hq0m).2.2.2
  have hq0n := (near_next hd hc hq0d).2 hq0m
  have hA := accJ_ok l sl c k (deepOf l)
  rw [hq0]
  cases ha : accJ l sl c k (deepOf l) with
  | none => rw [ha] at hA; have := hA q0 hq0d; rw [hq0n] at this; cases this
  | some b =>
    rw [ha] at hA
    obtain ⟨h1, h2, h3, h4⟩ := hA
    congr 1
    have hbm := (near_next hd hc h1).1 h2
    have e1 := h3 q0 hq0d hq0n
    have e2 := hT b hbm
    rcases Nat.lt_trichotomy q0 b with h | h | h
    · have := h4 q0 h hq0n; omega
    · exact h.symm
    · exfalso
      unfold firstQ at hq0
      have hr : nextN l.length (deepOf l) sl c k = List.range' (k - sl) (min (deepOf l - 1) (k + sl) + 1 - (k - sl)) := by unfold nextN; rw [if_neg (by omega)]
      rw [hr] at hq0 hbm
      have h5 := (List.find?_range'_eq_some.1 hq0).2.2 b (by have := List.mem_range'_1.1 hbm; omega) h
      simp at h5
      omega

/-! ### Values -/
def wayL (l : List (List Int)) (sl c k : Nat) : List Nat := k :: walkN l sl (l.length - 1 - c) c k
def restC (l : List (List Int)) (sl c k : Nat) : List V := [.slice 0 1 (natsV (wayL l sl c k)), I (worthV l sl c k)]
def rowV (l : List (List Int)) (sl c : Nat) : V := .slice 0 2 ((List.range (deepOf l)).map fun k => .agg (restC l sl c k))
def outC (l : List (List Int)) (sl r : Nat) : List V := (List.range l.length).map fun c => if r ≤ c then rowV l sl c else .nils

theorem outC_full (l : List (List Int)) (sl : Nat) : outC l sl l.length = (List.replicate l.length [V.nils]).flatten := by
  have e : (List.replicate l.length [V.nils]).flatten = List.replicate l.length V.nils := by
    induction l.length with
    | zero => rfl
    | succ n ih => rw [List.replicate_succ, List.flatten_cons, ih]; rfl
  rw [e]
  unfold outC
  apply List.ext_getElem
  · simp
  · intro i h1 h2
    have h3 : i < l.length := by simpa using h1
    rw [List.getElem_map, List.getElem_range, List.getElem_replicate, if_neg (by omega)]

theorem outC_len (l : List (List Int)) (sl r : Nat) : (outC l sl r).length = l.length := by simp [outC]

theorem outC_drop {l : List (List Int)} {sl c : Nat} (hc : c + 1 < l.length) : List.drop (c + 1) (outC l sl (c + 1)) = rowV l sl (c + 1) :: List.drop (c + 2) (outC l sl (c + 1)) := by
  have h : c + 1 < (outC l sl (c + 1)).length := by rw [outC_len]; exact hc
  rw [List.drop_eq_getElem_cons h]
  have e : (outC l sl (c + 1))[c + 1]? = some (rowV l sl (c + 1)) := by
    unfold outC
    rw [List.getElem?_map, List.getElem?_range hc]
    simp
  rw [(List.getElem?_eq_some_iff.1 e).2]

theorem outC_step {l : List (List Int)} {sl c : Nat} (hc : c < l.length) : outC l sl c = List.take c (outC l sl (c + 1)) ++ rowV l sl c :: List.drop (c + 1) (outC l sl (c + 1)) := by
  apply List.ext_getElem?
  intro i
  by_cases h1 : i < c
  · rw [List.getElem?_append_left (by rw [List.length_take, outC_len]; omega), List.getElem?_take, if_pos h1]
    unfold outC
    rw [List.getElem?_map, List.getElem?_map, List.getElem?_range (by omega)]
    simp only [Option.map_some]
    rw [if_neg (by omega), if_neg (by omega)]
  · rw [List.getElem?_append_right (by rw [List.length_take, outC_len]; omega), List.length_take, outC_len, Nat.min_eq_left (by omega)]
    by_cases h2 : i = c
    · subst h2
      rw [Nat.sub_self, List.getElem?_cons_zero]
      unfold outC
      rw [List.getElem?_map, List.getElem?_range hc]
      simp
    · rw [show i - c = (i - c - 1) + 1 by omega, List.getElem?_cons_succ, List.getElem?_drop, show c + 1 + (i - c - 1) = i by omega]
      unfold outC
      rw [List.getElem?_map, List.getElem?_map]
      by_cases h3 : i < l.length
      · rw [List.getElem?_range h3]
        simp only [Option.map_some]
        rw [if_pos (by omega), if_pos (by omega)]
      · rw [List.getElem?_eq_none (by simp; omega)]; rfl

theorem LLe.mid {A B : List V} {v u : V} (h : VLe v u) : LLe (A ++ v :: B) (A ++ u :: B) := by
  induction A with
  | nil => exact .cons h (LLe.refl _)
  | cons a A ih => exact .cons (.refl _) ih

theorem getD_range {f : Nat → V} {n j : Nat} (h : j < n) : ((List.range n).map f).getD (j : Int).toNat nothing = f j := by
  simp [h]

/-- What a row holds so far of one value. -/
def bestC (l : List (List Int)) (sl c k : Nat) : Option Nat → List V
  | none => [.slice 0 1 [I k], I (at2 l c k)]
  | some q => [.slice 0 1 (I k :: natsV (wayL l sl (c + 1) q)), I (at2 l c k + worthV l sl (c + 1) q)]

theorem best_last {l : List (List Int)} {sl c k : Nat} (hc : c + 1 = l.length) : bestC l sl c k none = restC l sl c k := by
  unfold bestC restC wayL
  rw [worth_last hc, show l.length - 1 - c = 0 by omega]
  rfl

theorem best_done {l : List (List Int)} {sl c k : Nat} (hd : 1 ≤ deepOf l) (hc : c + 1 < l.length) (hk : k < deepOf l) : bestC l sl c k (accJ l sl c k (deepOf l)) = restC l sl c k := by
  rw [accJ_first hd hc hk]
  obtain ⟨q, hq⟩ := Option.isSome_iff_exists.1 (firstQ_some (l := l) (sl := sl) hc hk)
  have hqe : worthV l sl (c + 1) q = worthV l sl c k - at2 l c k := by simpa using List.find?_some hq
  rw [hq]
  unfold bestC restC wayL
  simp only
  rw [hqe, show at2 l c k + (worthV l sl c k - at2 l c k) = worthV l sl c k by omega, show l.length - 1 - c = (l.length - 1 - (c + 1)) + 1 by omega]
  simp only [walkN, hq]
  rfl

end Go.Proofs.Ytkifejklnpddbaa

/-! Contracts: the best ways of the specification. -/
set_option linter.unusedVariables false
set_option linter.unusedSimpArgs false
set_option maxRecDepth 20000
set_option maxHeartbeats 4000000
namespace Go.Proofs.Ytkifejklnpddbaa
open Go.Am
attribute [local simp] cells scalar mkv under2 under dem dem1

def restsV (l : List (List Int)) (sl : Nat) : V := .slice 0 1 ((List.range l.length).map (rowV l sl))

theorem outC_zero (l : List (List Int)) (sl : Nat) : outC l sl 0 = (List.range l.length).map (rowV l sl) := by
  unfold outC
  simp

theorem holds_out (l : List (List Int)) (sl : Nat) : Holds (outC l sl 0) 0 1 l.length ((List.range l.length).map (rowV l sl)) := by
  rw [outC_zero]
  refine ⟨by omega, by simp, fun x hx => ?_, ?_, fun x hx => ?_⟩
  · obtain ⟨c, _, rfl⟩ := List.mem_map.1 hx; rfl
  · rw [List.drop_zero, Nat.mul_one, List.take_of_length_le (by simp)]
    have : ∀ (m : List Nat), (m.map (rowV l sl)).flatMap cells = m.map (rowV l sl) := by
      intro m
      induction m with
      | nil => rfl
      | cons a m ih => rw [List.map_cons, List.flatMap_cons, ih]; rfl
    rw [this]
  · obtain ⟨c, _, rfl⟩ := List.mem_map.1 hx; rfl

theorem out_refs (l : List (List Int)) (sl r : Nat) (B : Nat → Bool) (R : Nat → Option (Nat × Nat × Nat)) : (outC l sl r).all (refsOk B R 6) = true := by
  rw [List.all_eq_true]
  intro x hx
  obtain ⟨c, _, rfl⟩ := List.mem_map.1 hx
  by_cases h : r ≤ c
  · rw [if_pos h]; rfl
  · rw [if_neg h]; rfl

theorem ok15 {l : List (List Int)} {sl r : Nat} {env : List (Nat × V)} {bx : List (Nat × Box)} {rw : List (Nat × Nat × Nat × Nat)} (h : okRefs env ((15, ⟨[], false⟩) :: bx) rw = true) : okRefs env ((15, ⟨outC l sl r, false⟩) :: bx) rw = true := by
  have e : hasKey ((15, (⟨outC l sl r, false⟩ : Box)) :: bx) = hasKey ((15, (⟨[], false⟩ : Box)) :: bx) := rfl
  unfold okRefs at h ⊢
  rw [e]
  rw [Bool.and_eq_true] at h ⊢
  refine ⟨h.1, ?_⟩
  have h2 := h.2
  rw [List.all_cons, Bool.and_eq_true] at h2 ⊢
  exact ⟨out_refs _ _ _ _ _, h2.2⟩

theorem c_rests {l : List (List Int)} (hE : secOk l = true) {sl : Nat} (hsl : sl ≤ 32) : C Try.prog F.ref10_rests [secV l, I sl] (restsV l sl) := by
  obtain ⟨hev, hn, hd, hnum⟩ := secOk_spec hE
  refine C_of mixed chk.ref10_rests (by simp) fun S ok => ?_
  refine Tr.seqR rfl (by simp) ?_
  refine Tr.seqR rfl (by simp [secV]; omega) ?_
  refine Tr.seq (Tr.seqR rfl (by simp [secV]) (Tr.block ?_))
  refine Tr.loop (fun r s => r ≤ l.length ∧ s = { env := [(0, secV l), (1, I sl), (5, .bsl 15 0 1 l.length), (6, I ((r : Int) - 1))], bx := [(15, ⟨outC l sl r, false⟩)], rw := [], log := [], stp := false }) (fun r => r) l.length
    (Wk.le (.cons rfl (.refl _) (.cons rfl (.refl _) (.cons rfl (.of_eq ?_) (.cons rfl (VLe.i ?_) .nil)))) (.cons rfl ?_ .nil) .nil (ok15 rfl) rfl) ⟨by omega, rfl⟩ ?_
  · simp
  · rw [List.length_map]; exact w64 (by omega) (by omega)
  · rw [outC_full]; simp; exact LLe.refl _
  rintro r s ⟨hr, rfl⟩
  refine Tr.seq (Tr.seqR rfl (by simp) (Tr.cond rfl rfl (fun h3 => Tr.skip ?_) (fun h3 => Tr.exit ?_)))
  rotate_left
  · have h3 : decide ((r : Int) - 1 ≥ 0) = false := h3
    have h3 : r = 0 := by rw [decide_eq_false_iff_not] at h3; omega
    subst h3
    refine Tr.weak (s' := { env := [(5, .bsl 15 0 1 l.length)], bx := [(15, ⟨outC l sl 0, false⟩)], rw := [], log := [], stp := false })
      (Wk.le (.cons rfl (.refl _) .nil) (.cons rfl (LLe.refl _) .nil) .nil (ok15 rfl) rfl) ?_
    refine Tr.weak (Wk.bsl (t := 5) rfl rfl (holds_out l sl)) ?_
    refine Tr.seqR rfl (by simp) (Tr.retX rfl rfl rfl ?_ trivial)
    rfl
  have h3 : decide ((r : Int) - 1 ≥ 0) = true := h3
  rw [decide_eq_true_eq] at h3
  obtain ⟨c, rfl⟩ : ∃ c, r = c + 1 := ⟨r - 1, by omega⟩
  have hc : c < l.length := by omega
  have hlc : l[c].length = deepOf l := evenL_spec hev hc
  refine Tr.seq (Tr.block (Tr.seqR rfl (by simp) (Tr.seq (Tr.seqR rfl (by simp) (Tr.block ?_)))))
  refine Tr.loop (fun k s => k ≤ deepOf l ∧ s = { env := [(0, secV l), (1, I sl), (5, .bsl 15 0 1 l.length), (6, I (c : Int)), (7, .slice 109 2 ((List.range k).map fun k => .agg (restC l sl c k))), (8, I k)], bx := [(15, ⟨outC l sl (c + 1), false⟩)], rw := [(108, k, 2, 168)], log := [], stp := false }) (fun k => deepOf l - k) 0
    (Wk.le (.cons rfl (.refl _) (.cons rfl (.refl _) (.cons rfl (.refl _) (.cons rfl (VLe.i (by omega)) (.cons rfl (.nil 109 2) (.cons rfl (.refl _) .nil)))))) (.cons rfl (LLe.refl _) .nil) (.new rfl .nil) (ok15 rfl) rfl) ⟨by omega, rfl⟩ ?_
  rintro k s ⟨hk, rfl⟩
  refine Tr.seq (Tr.seqN 4 rfl (by simp [secV]; omega) ?_)
  rw [getD_map hc]
  refine Steps.fin rfl (by simp [intsV]) (Tr.cond rfl rfl (fun h4 => Tr.skip ?_) (fun h4 => Tr.exit ?_))
  rotate_left
  · have h4 : decide ((k : Int) < ((l[c].map I).length : Int)) = false := h4
    have h4 : k = deepOf l := by rw [decide_eq_false_iff_not, List.length_map, hlc] at h4; omega
    subst h4
    refine Tr.regR rfl (by simp [outC_len]; omega) (Tr.regR rfl (by simp) ?_)
    have es : splice (outC l sl (c + 1)) (0 + (c : Int).toNat * 1) [.slice 109 2 ((List.range (deepOf l)).map fun k => .agg (restC l sl c k))] = List.take c (outC l sl (c + 1)) ++ .slice 109 2 ((List.range (deepOf l)).map fun k => .agg (restC l sl c k)) :: List.drop (c + 1) (outC l sl (c + 1)) := by
      unfold splice
      simp
    refine ⟨c, _, Wk.le (.cons rfl (.refl _) (.cons rfl (.refl _) (.cons rfl (.refl _) (.cons rfl (VLe.i (w64 (by omega) (by omega))) .nil)))) (.cons rfl ?_ .nil) .nil (ok15 rfl) rfl, ⟨by omega, rfl⟩, by omega⟩
    show LLe (splice (outC l sl (c + 1)) (0 + (c : Int).toNat * 1) [.slice 109 2 ((List.range (deepOf l)).map fun k => .agg (restC l sl c k))]) _
    rw [es, outC_step hc]
    exact LLe.mid (.dem _ _ _)
  have h4 : decide ((k : Int) < ((l[c].map I).length : Int)) = true := h4
  have h4 : k < deepOf l := by rw [decide_eq_true_eq, List.length_map, hlc] at h4; omega
  have hkl : k < l[c].length := by omega
  have ea : at2 l c k = l[c][k] := at2_eq hc hkl
  refine Tr.seq (Tr.block (Tr.seqN 5 rfl (by simp [secV]; omega) ?_))
  rw [getD_map hc]
  refine Steps.runN 3 rfl (by simp [intsV]; omega) ?_
  rw [getD_map hkl]
  refine Steps.fin rfl (by simp [splice]) (Tr.seqR rfl (by simp) ?_)
  refine Tr.meet { env := [(0, secV l), (1, I sl), (5, .bsl 15 0 1 l.length), (6, I (c : Int)), (7, .slice 109 2 ((List.range k).map fun k => .agg (restC l sl c k))), (8, I k), (9, .ptr 9 0)], bx := [(15, ⟨outC l sl (c + 1), false⟩), (9, ⟨restC l sl c k, false⟩)], rw := [(108, k, 2, 168)], log := [], stp := false } ?_ ?_
  rotate_left
  · refine Tr.regR rfl (by simp [restC]; omega) (Tr.regR rfl (by simp) ?_)
    refine ⟨k + 1, _, Wk.le (.cons rfl (.refl _) (.cons rfl (.refl _) (.cons rfl (.refl _) (.cons rfl (.refl _) (.cons rfl (.of_eq ?_) (.cons rfl (VLe.i (w64 (by omega) (by omega))) .nil)))))) (.cons rfl (LLe.refl _) .nil) (.cons ?_ .nil) (ok15 rfl) rfl, ⟨by omega, rfl⟩, by omega⟩
    · rw [List.range_succ, List.map_append]; rfl
    · show some _ = some _
      simp
  refine Tr.seqR rfl (by simp [secV]) (Tr.cond rfl rfl (fun h5 => ?_) (fun h5 => Tr.skip ?_))
  rotate_left
  · have h5 : decide ((c : Int) < IntKind.i64.wrap (((l.map intsV).length : Int) - 1)) = false := h5
    rw [List.length_map, w64 (by omega) (by omega), decide_eq_false_iff_not] at h5
    have h5 : c + 1 = l.length := by omega
    refine Wk.le (.cons rfl (.refl _) (.cons rfl (.refl _) (.cons rfl (.refl _) (.cons rfl (.refl _) (.cons rfl (.refl _) (.cons rfl (.refl _) (.cons rfl (.refl _) .nil))))))) (.cons rfl (LLe.refl _) (.cons rfl ?_ .nil)) (.cons rfl .nil) (ok15 rfl) rfl
    rw [← best_last h5]
    unfold bestC
    exact .cons (.dem _ _ _) (.cons (VLe.i ea.symm) .nil)
  have h5 : decide ((c : Int) < IntKind.i64.wrap (((l.map intsV).length : Int) - 1)) = true := h5
  rw [List.length_map, w64 (by omega) (by omega), decide_eq_true_eq] at h5
  have hc1 : c + 1 < l.length := by omega
  refine Tr.seqR rfl (by simp) (Tr.block ?_)
  refine Tr.loop (fun j s => j ≤ deepOf l ∧ s = { env := [(0, secV l), (1, I sl), (5, .bsl 15 0 1 l.length), (6, I (c : Int)), (7, .slice 109 2 ((List.range k).map fun k => .agg (restC l sl c k))), (8, I k), (9, .ptr 9 0), (10, .bool (accJ l sl c k j).isSome), (11, I j)], bx := [(15, ⟨outC l sl (c + 1), false⟩), (9, ⟨bestC l sl c k (accJ l sl c k j), false⟩)], rw := [(108, k, 2, 168)], log := [], stp := false }) (fun j => deepOf l - j) 0
    (Wk.le (.cons rfl (.refl _) (.cons rfl (.refl _) (.cons rfl (.refl _) (.cons rfl (.refl _) (.cons rfl (.refl _) (.cons rfl (.refl _) (.cons rfl (.refl _) (.cons rfl (.refl _) (.cons rfl (.refl _) .nil))))))))) (.cons rfl (LLe.refl _) (.cons rfl (.cons (.dem _ _ _) (.cons (VLe.i ea.symm) .nil)) .nil)) (.cons rfl .nil) (ok15 rfl) rfl) ⟨by omega, rfl⟩ ?_
  rintro j s ⟨hj, rfl⟩
  refine Tr.seq (Tr.seqN 4 rfl (by simp [secV]; omega) ?_)
  rw [getD_map hc]
  refine Steps.fin rfl (by simp [intsV]) (Tr.cond rfl rfl (fun h6 => Tr.skip ?_) (fun h6 => Tr.exit ?_))
  rotate_left
  · have h6 : decide ((j : Int) < ((l[c].map I).length : Int)) = false := h6
    have h6 : j = deepOf l := by rw [decide_eq_false_iff_not, List.length_map, hlc] at h6; omega
    subst h6
    rw [best_done hd.1 hc1 h4]
    have hrs : okRefs [(0, secV l), (1, I sl), (5, .bsl 15 0 1 l.length), (6, I (c : Int)), (7, .slice 109 2 ((List.range k).map fun k => .agg (restC l sl c k))), (8, I k), (9, .ptr 9 0)] [(15, ⟨outC l sl (c + 1), false⟩), (9, ⟨restC l sl c k, false⟩)] [(108, k, 2, 168)] = true := ok15 rfl
    exact Wk.le (.cons rfl (.refl _) (.cons rfl (.refl _) (.cons rfl (.refl _) (.cons rfl (.refl _) (.cons rfl (.refl _) (.cons rfl (.refl _) (.cons rfl (.refl _) .nil))))))) (.cons rfl (LLe.refl _) (.cons rfl (LLe.refl _) .nil)) (.cons rfl .nil) hrs rfl
  have h6 : decide ((j : Int) < ((l[c].map I).length : Int)) = true := h6
  have h6 : j < deepOf l := by rw [decide_eq_true_eq, List.length_map, hlc] at h6; omega
  have hci : 0 + (IntKind.i64.wrap ((c : Int) + 1)).toNat * 1 = c + 1 := by rw [w64 (by omega) (by omega)]; omega
  refine Tr.seq (Tr.block (Tr.seqN 4 rfl (by simp; rw [w64 (by omega) (by omega)]; omega) ?_))
  rw [hci]
  refine Steps.runN 1 rfl (by simp [outC_len]; omega) ?_
  rw [outC_drop hc1]
  refine Steps.runN 2 rfl (by simp; omega) ?_
  rw [getD_range h6]
  refine Steps.fin rfl (by simp [restC, splice]) ?_
  have hmg : IntKind.i64.wrap ((j : Int) - (k : Int)) = (j : Int) - (k : Int) := w64 (by omega) (by omega)
  have hM : C Try.prog F.ref00_Magnitude [I (IntKind.i64.wrap ((j : Int) - (k : Int)))] (I (magI ((j : Int) - (k : Int)))) := by
    rw [hmg]; exact c_Magnitude _ (by omega)
  have wk1 := worthV_bd (sl := sl) hnum hn (c + 1) j
  have bk := at2_bd hnum c k
  have hadd : IntKind.i64.wrap (l[c][k] + worthV l sl (c + 1) j) = at2 l c k + worthV l sl (c + 1) j := by rw [ea]; rw [ea] at bk; exact w64 (by omega) (by omega)
  have hstep := accJ_succ l sl c k j
  unfold stepJ at hstep
  refine Tr.weak (s' := { env := [(0, secV l), (1, I sl), (5, .bsl 15 0 1 l.length), (6, I (c : Int)), (7, .slice 109 2 ((List.range k).map fun k => .agg (restC l sl c k))), (8, I k), (9, .ptr 9 0), (10, .bool (accJ l sl c k j).isSome), (11, I j), (12, .ptr 12 0)], bx := [(15, ⟨outC l sl (c + 1), false⟩), (9, ⟨bestC l sl c k (accJ l sl c k j), false⟩), (12, ⟨restC l sl (c + 1) j, false⟩)], rw := [(108, k, 2, 168)], log := [], stp := false })
    (Wk.le (.cons rfl (.refl _) (.cons rfl (.refl _) (.cons rfl (.refl _) (.cons rfl (.refl _) (.cons rfl (.refl _) (.cons rfl (.refl _) (.cons rfl (.refl _) (.cons rfl (.refl _) (.cons rfl (.refl _) (.cons rfl (.refl _) .nil)))))))))) (.cons rfl (LLe.refl _) (.cons rfl (LLe.refl _) (.cons rfl (LLe.refl _) .nil))) (.cons rfl .nil) ?_ rfl) ?_
  · refine ok15 ?_
    cases accJ l sl c k j <;> rfl
  have hwl : (natsV (wayL l sl (c + 1) j)).length ≤ 16 := by
    have := (walk_spec (l := l) (sl := sl) hd.1 (l.length - 1 - (c + 1)) (c + 1) j (by omega) h6).1
    simp [natsV, wayL, this]; omega
  have hnear : decide (magI ((j : Int) - (k : Int)) ≤ (sl : Int)) = nearQ sl k j := rfl
  rcases ha : accJ l sl c k j with _ | b
  · rw [ha] at hstep
    refine Tr.seq (Tr.drawK (TraceK.run rfl (by simp) (TraceK.call rfl rfl hM ?_)))
    refine TraceK.runN 9 rfl (by simp [secV]; try omega) ?_
    rw [getD_map hc]
    refine TraceK.runN 3 rfl (by simp [intsV]; try omega) ?_
    rw [getD_map hkl]
    refine TraceK.runN 7 rfl (by simp [restC, bestC]) ?_
    refine TraceK.gpick rfl rfl rfl (fun _ => rfl) rfl rfl (by simp) ?_
    refine TraceK.run rfl (by simp) (.done ⟨by kernel_rfl, by kernel_rfl, ?_⟩)
    refine Tr.cond rfl rfl (fun h7 => ?_) (fun h7 => Tr.skip ?_)
    · have h7 : nearQ sl k j = true := by
        have h7 : (bif decide (magI ((j : Int) - (k : Int)) ≤ (sl : Int)) then true else false) = true := h7
        rw [hnear] at h7
        simpa using h7
      have hst : accJ l sl c k (j + 1) = some j := by rw [hstep, if_pos h7]
      refine Tr.drawK (TraceK.runN 8 rfl (by simp [secV, restC]; omega) ?_)
      rw [getD_map hc]
      refine TraceK.runN 3 rfl (by simp [intsV]; omega) ?_
      rw [getD_map hkl]
      refine TraceK.run rfl (by simp [restC, bestC, splice]) (.done ⟨by kernel_rfl, by kernel_rfl, ?_⟩)
      refine Tr.regR rfl (by simp) ?_
      refine ⟨j + 1, _, Wk.le (.cons rfl (.refl _) (.cons rfl (.refl _) (.cons rfl (.refl _) (.cons rfl (.refl _) (.cons rfl (.refl _) (.cons rfl (.refl _) (.cons rfl (.refl _) (.cons rfl (.of_eq (by rw [hst] <;> rfl)) (.cons rfl (VLe.i (w64 (by omega) (by omega))) .nil))))))))) (.cons rfl (LLe.refl _) (.cons rfl (by rw [hst]; exact .cons (.dem _ _ _) (.cons (VLe.i hadd) .nil)) .nil)) (.cons rfl .nil) (ok15 (by rw [hst]; rfl)) rfl, ⟨h6, rfl⟩, by omega⟩
    · have h7 : nearQ sl k j = false := by
        have h7 : (bif decide (magI ((j : Int) - (k : Int)) ≤ (sl : Int)) then true else false) = false := h7
        rw [hnear] at h7
        simpa using h7
      have hst : accJ l sl c k (j + 1) = none := by rw [hstep, if_neg (by simp [h7])]
      refine Tr.regR rfl (by simp) ?_
      refine ⟨j + 1, _, Wk.le (.cons rfl (.refl _) (.cons rfl (.refl _) (.cons rfl (.refl _) (.cons rfl (.refl _) (.cons rfl (.refl _) (.cons rfl (.refl _) (.cons rfl (.refl _) (.cons rfl (.of_eq (by rw [hst] <;> rfl)) (.cons rfl (VLe.i (w64 (by omega) (by omega))) .nil))))))))) (.cons rfl (LLe.refl _) (.cons rfl (by rw [hst]; exact LLe.refl _) .nil)) (.cons rfl .nil) (ok15 (by rw [hst]; rfl)) rfl, ⟨h6, rfl⟩, by omega⟩
  · rw [ha] at hstep
    refine Tr.seq (Tr.drawK (TraceK.run rfl (by simp) (TraceK.call rfl rfl hM ?_)))
    refine TraceK.runN 9 rfl (by simp [secV]; try omega) ?_
    rw [getD_map hc]
    refine TraceK.runN 3 rfl (by simp [intsV]; try omega) ?_
    rw [getD_map hkl]
    refine TraceK.runN 7 rfl (by simp [restC, bestC]) ?_
    refine TraceK.gpick rfl rfl rfl (fun _ => rfl) rfl rfl (by simp) ?_
    refine TraceK.run rfl (by simp) (.done ⟨by kernel_rfl, by kernel_rfl, ?_⟩)
    have hc7 : ∀ d : Bool, (bif decide (magI ((j : Int) - (k : Int)) ≤ (sl : Int)) then (bif !true then true else decide (IntKind.i64.wrap (l[c][k] + worthV l sl (c + 1) j) > at2 l c k + worthV l sl (c + 1) b)) else false) = d → d = (nearQ sl k j && decide (worthV l sl (c + 1) j > worthV l sl (c + 1) b)) := by
      rintro d rfl
      rw [hnear, hadd]
      have e : decide (at2 l c k + worthV l sl (c + 1) j > at2 l c k + worthV l sl (c + 1) b) = decide (worthV l sl (c + 1) j > worthV l sl (c + 1) b) := by
        congr 1; rw [eq_iff_iff]; omega
      rw [e]
      cases nearQ sl k j <;> rfl
    refine Tr.cond rfl rfl (fun h7 => ?_) (fun h7 => Tr.skip ?_)
    · have h7 := hc7 true h7
      have h8 : nearQ sl k j = true ∧ worthV l sl (c + 1) j > worthV l sl (c + 1) b := by simpa using h7.symm
      have hst : accJ l sl c k (j + 1) = some j := by rw [hstep, if_pos h8.1]; simp only; rw [if_pos h8.2]
      refine Tr.drawK (TraceK.runN 8 rfl (by simp [secV, restC]; omega) ?_)
      rw [getD_map hc]
      refine TraceK.runN 3 rfl (by simp [intsV]; omega) ?_
      rw [getD_map hkl]
      refine TraceK.run rfl (by simp [restC, bestC, splice]) (.done ⟨by kernel_rfl, by kernel_rfl, ?_⟩)
      refine Tr.regR rfl (by simp) ?_
      refine ⟨j + 1, _, Wk.le (.cons rfl (.refl _) (.cons rfl (.refl _) (.cons rfl (.refl _) (.cons rfl (.refl _) (.cons rfl (.refl _) (.cons rfl (.refl _) (.cons rfl (.refl _) (.cons rfl (.of_eq (by rw [hst] <;> rfl)) (.cons rfl (VLe.i (w64 (by omega) (by omega))) .nil))))))))) (.cons rfl (LLe.refl _) (.cons rfl (by rw [hst]; exact .cons (.dem _ _ _) (.cons (VLe.i hadd) .nil)) .nil)) (.cons rfl .nil) (ok15 (by rw [hst]; rfl)) rfl, ⟨h6, rfl⟩, by omega⟩
    · have h7 := hc7 false h7
      have hst : accJ l sl c k (j + 1) = some b := by
        rw [hstep]
        by_cases h8 : nearQ sl k j = true
        · rw [if_pos h8]
          simp only
          rw [if_neg (by rw [h8] at h7; simpa using h7.symm)]
        · rw [if_neg h8]
      refine Tr.regR rfl (by simp) ?_
      refine ⟨j + 1, _, Wk.le (.cons rfl (.refl _) (.cons rfl (.refl _) (.cons rfl (.refl _) (.cons rfl (.refl _) (.cons rfl (.refl _) (.cons rfl (.refl _) (.cons rfl (.refl _) (.cons rfl (.of_eq (by rw [hst] <;> rfl)) (.cons rfl (VLe.i (w64 (by omega) (by omega))) .nil))))))))) (.cons rfl (LLe.refl _) (.cons rfl (by rw [hst]; exact LLe.refl _) .nil)) (.cons rfl .nil) (ok15 (by rw [hst]; rfl)) rfl, ⟨h6, rfl⟩, by omega⟩

end Go.Proofs.Ytkifejklnpddbaa

/-! The law VolumeHorizons. -/
set_option linter.unusedVariables false
set_option linter.unusedSimpArgs false
set_option maxRecDepth 20000
set_option maxHeartbeats 4000000
namespace Go.Proofs.Ytkifejklnpddbaa
open Go.Am
attribute [local simp] cells scalar mkv splice under2 under dem dem1

theorem getD_range0 {f : Nat → V} {n : Nat} (h : 0 < n) : ((List.range n).map f).getD (0 : Int).toNat nothing = f 0 := getD_range (j := 0) h

theorem c_Horizon10 {l : List (List Int)} (hl : saneS l) (slope : Int) : C Try.prog F.ref10_Horizon [secV l, I slope] (horR l slope) := by
  have hs := c_section10 hl slope
  unfold secE at hs
  by_cases hE : secOk l = true
  rotate_left
  · have hE : secOk l = false := by simpa using hE
    rw [hE] at hs
    refine C.le (r := .tuple [.nils, I 0, I 105]) (C_of mixed chk.ref10_Horizon (by simp) fun S ok => ?_) (fun w φ x h => by simp only [horR, hE, if_true, if_false, Bool.false_eq_true]; exact repR_nil0 h)
    refine Tr.seqR rfl (by simp) ?_
    refine Tr.seq (Tr.seqC rfl (by simp [secV]) (Steps.call rfl rfl hs (Steps.fin rfl (by simp) ?_)))
    refine Tr.seqR rfl (by simp) (Tr.condT rfl (Tr.seqR rfl (by simp) (Tr.retX rfl rfl rfl ?_ trivial)))
    simp [packR]
  rw [hE] at hs
  by_cases hS : btw slope 0 32 = true
  rotate_left
  · have hS : btw slope 0 32 = false := by simpa using hS
    rw [hS] at hs
    refine C.le (r := .tuple [.nils, I 0, I 7]) (C_of mixed chk.ref10_Horizon (by simp) fun S ok => ?_) (fun w φ x h => by simp only [horR, hE, hS, if_true, if_false, Bool.false_eq_true]; exact repR_nil0 h)
    refine Tr.seqR rfl (by simp) ?_
    refine Tr.seq (Tr.seqC rfl (by simp [secV]) (Steps.call rfl rfl hs (Steps.fin rfl (by simp) ?_)))
    refine Tr.seqR rfl (by simp) (Tr.condT rfl (Tr.seqR rfl (by simp) (Tr.retX rfl rfl rfl ?_ trivial)))
    simp [packR]
  rw [hS] at hs
  obtain ⟨sl, rfl⟩ : ∃ sl : Nat, slope = (sl : Int) := ⟨slope.toNat, by simp [btw] at hS; omega⟩
  have hsl : sl ≤ 32 := by simp [btw] at hS; omega
  obtain ⟨hev, hn, hd, hnum⟩ := secOk_spec hE
  refine C_of mixed chk.ref10_Horizon (by simp) fun S ok => ?_
  refine Tr.seqR rfl (by simp) ?_
  refine Tr.seq (Tr.seqC rfl (by simp [secV]) (Steps.call rfl rfl hs (Steps.fin rfl (by simp) ?_)))
  refine Tr.seqR rfl (by simp) (Tr.condF rfl (Tr.skip ?_))
  refine Tr.seqC rfl (by simp [secV]) (Steps.call rfl rfl (c_rests hE hsl) (Steps.runN 1 rfl (by simp; omega) ?_))
  rw [getD_range0 (by omega)]
  refine Steps.fin rfl (by simp [rowV]) ?_
  refine Tr.seqN 2 rfl (by simp; omega) ?_
  rw [getD_range0 (by omega)]
  refine Steps.fin rfl (by simp [restC]) (Tr.seq (Tr.seqR rfl (by simp) (Tr.block ?_)))
  refine Tr.loop (fun k s => (1 ≤ k ∧ k ≤ deepOf l) ∧ s = { env := [(8, rowV l sl 0), (9, .ptr 9 0), (10, I k)], bx := [(9, ⟨restC l sl 0 (argBest l sl k), false⟩)], rw := [], log := [], stp := false }) (fun k => deepOf l - k) 1
    (Wk.le (.cons rfl (.refl _) (.cons rfl (.refl _) (.cons rfl (.refl _) .nil))) (.cons rfl (by rw [show argBest l sl 1 = 0 by simp [argBest]]; exact LLe.refl _) .nil) .nil rfl rfl) ⟨by omega, rfl⟩ ?_
  rintro k s ⟨⟨hk0, hk⟩, rfl⟩
  refine Tr.seq (Tr.seqR rfl (by simp [rowV]) (Tr.cond rfl rfl (fun h4 => Tr.skip ?_) (fun h4 => Tr.exit ?_)))
  rotate_left
  · have h4 : k = deepOf l := by simp at h4; omega
    subst h4
    refine Tr.seqD rfl (by simp [restC]) (by kernel_rfl) (Tr.retX rfl rfl rfl ?_ trivial)
    simp only [horR, hE, hS, if_true, Int.toNat_natCast, packR]
    rfl
  have h4 : k < deepOf l := by simpa using h4
  refine Tr.seq (Tr.block (Tr.seq (Tr.drawK (TraceK.runN 3 rfl (by simp [rowV]; omega) ?_))))
  rw [getD_range h4]
  refine TraceK.run rfl (by simp [restC]) (.done ⟨by kernel_rfl, by kernel_rfl, ?_⟩)
  refine Tr.cond rfl rfl (fun h5 => ?_) (fun h5 => Tr.skip ?_)
  · have h5 : decide (worthV l sl 0 k > worthV l sl 0 (argBest l sl k)) = true := h5
    rw [decide_eq_true_eq] at h5
    refine Tr.reg (Steps.runN 3 rfl (by simp [rowV]; omega) ?_)
    rw [getD_range h4]
    refine Steps.fin rfl (by simp [restC]) (Tr.regR rfl (by simp) ?_)
    refine ⟨k + 1, _, Wk.le (.cons rfl (.refl _) (.cons rfl (.refl _) (.cons rfl (VLe.i (w64 (by omega) (by omega))) .nil))) (.cons rfl ?_ .nil) .nil rfl rfl, ⟨by omega, rfl⟩, by omega⟩
    rw [argBest_succ, if_pos h5]; exact LLe.refl _
  · have h5 : decide (worthV l sl 0 k > worthV l sl 0 (argBest l sl k)) = false := h5
    rw [decide_eq_false_iff_not] at h5
    refine Tr.regR rfl (by simp) ?_
    refine ⟨k + 1, _, Wk.le (.cons rfl (.refl _) (.cons rfl (.refl _) (.cons rfl (VLe.i (w64 (by omega) (by omega))) .nil))) (.cons rfl ?_ .nil) .nil rfl rfl, ⟨by omega, rfl⟩, by omega⟩
    rw [argBest_succ, if_neg h5]; exact LLe.refl _

/-! ### Potentials -/
def backsL (l : List (List Int)) (sl : Nat) : List (List Int) := (List.range l.length).map fun c => (List.range (deepOf l)).map fun i => worthV l sl c i
def backsV (l : List (List Int)) (slope : Int) : V :=
  if secOk l then (if btw slope 0 32 then .tuple [secV (backsL l slope.toNat), I 0] else .tuple [.slice 0 1 [], I 7]) else .tuple [.slice 0 1 [], I 105]

theorem c_Backs {l : List (List Int)} (hl : saneS l) (slope : Int) : C Try.prog F.volume_Backs [secV l, I slope] (backsV l slope) := by
  have hs := c_sectionOf hl slope
  unfold secR at hs
  by_cases hE : secOk l = true
  rotate_left
  · have hE : secOk l = false := by simpa using hE
    rw [hE] at hs
    refine C.le (r := .tuple [.nils, I 105]) (C_of mixed chk.volume_Backs (by simp) fun S ok => ?_) (fun w φ x h => by simp only [backsV, hE, if_true, if_false, Bool.false_eq_true]; exact repR_nil0 h)
    refine Tr.seqR rfl (by simp) ?_
    refine Tr.seqC rfl (by simp [secV]) (Steps.call rfl rfl hs (Steps.fin rfl (by simp) ?_))
    refine Tr.seq (Tr.seqR rfl (by simp) (Tr.condT rfl (Tr.seqR rfl (by simp) (Tr.retX rfl rfl rfl ?_ trivial))))
    simp [packR]
  rw [hE] at hs
  by_cases hS : btw slope 0 32 = true
  rotate_left
  · have hS : btw slope 0 32 = false := by simpa using hS
    rw [hS] at hs
    refine C.le (r := .tuple [.nils, I 7]) (C_of mixed chk.volume_Backs (by simp) fun S ok => ?_) (fun w φ x h => by simp only [backsV, hE, hS, if_true, if_false, Bool.false_eq_true]; exact repR_nil0 h)
    refine Tr.seqR rfl (by simp) ?_
    refine Tr.seqC rfl (by simp [secV]) (Steps.call rfl rfl hs (Steps.fin rfl (by simp) ?_))
    refine Tr.seq (Tr.seqR rfl (by simp) (Tr.condT rfl (Tr.seqR rfl (by simp) (Tr.retX rfl rfl rfl ?_ trivial))))
    simp [packR]
  rw [hS] at hs
  obtain ⟨sl, rfl⟩ : ∃ sl : Nat, slope = (sl : Int) := ⟨slope.toNat, by simp [btw] at hS; omega⟩
  have hsl : sl ≤ 32 := by simp [btw] at hS; omega
  obtain ⟨hev, hn, hd, hnum⟩ := secOk_spec hE
  refine C_of mixed chk.volume_Backs (by simp) fun S ok => ?_
  refine Tr.seqR rfl (by simp) ?_
  refine Tr.seqC rfl (by simp [secV]) (Steps.call rfl rfl hs (Steps.fin rfl (by simp [secC, secV]) ?_))
  refine Tr.seq (Tr.seqR rfl (by simp) (Tr.condF rfl (Tr.skip ?_)))
  refine Tr.seqC rfl (by simp [secC, secV]) (Steps.call rfl rfl (c_worths hE hsl) (Steps.fin rfl (by simp) ?_))
  refine Tr.seqR rfl (by simp) (Tr.seq (Tr.seqR rfl (by simp [secC]) (Tr.block ?_)))
  refine Tr.loop (fun c s => c ≤ l.length ∧ s = { env := [(6, .ptr 6 0), (8, .mp (fW l sl)), (9, .slice 49 1 ((List.range c).map fun c => intsV ((List.range (deepOf l)).map fun i => worthV l sl c i))), (26, I l.length), (27, I c)], bx := [(6, ⟨secC l sl, false⟩)], rw := [(48, c, 1, 49)], log := [], stp := false }) (fun c => l.length - c) 0
    (Wk.le (.cons rfl (.refl _) (.cons rfl (.refl _) (.cons rfl (.nil 49 1) (.cons rfl (.refl _) (.cons rfl (.refl _) .nil))))) (.cons rfl (LLe.refl _) .nil) (.new rfl .nil) rfl rfl) ⟨by omega, rfl⟩ ?_
  rintro c s ⟨hc, rfl⟩
  refine Tr.seqR rfl (by simp) (Tr.seqI rfl (fun h3 => ?_) (fun h3 => ?_))
  rotate_left
  · have h3 : c = l.length := by simp at h3; omega
    subst h3
    refine Tr.exit (Tr.seqR rfl (by simp) (Tr.retX rfl rfl rfl ?_ trivial))
    simp only [backsV, hE, hS, if_true, Int.toNat_natCast, packR, secV, backsL, List.map_map]
    rfl
  have h3 : c < l.length := by simpa using h3
  refine Tr.skipT (Tr.seq (Tr.block (Tr.seqR rfl (by simp) (Tr.seqR rfl (by simp) (Tr.seq (Tr.seqR rfl (by simp [secC]) (Tr.block ?_)))))))
  refine Tr.loop (fun i s => i ≤ deepOf l ∧ s = { env := [(6, .ptr 6 0), (8, .mp (fW l sl)), (9, .slice 49 1 ((List.range c).map fun c => intsV ((List.range (deepOf l)).map fun i => worthV l sl c i))), (10, I c), (11, .slice 44 1 ((List.range i).map fun i => I (worthV l sl c i))), (26, I l.length), (27, I c), (32, I (deepOf l)), (33, I i)], bx := [(6, ⟨secC l sl, false⟩)], rw := [(48, c, 1, 49), (43, i, 1, 3)], log := [], stp := false }) (fun i => deepOf l - i) 0
    (Wk.le (.cons rfl (.refl _) (.cons rfl (.refl _) (.cons rfl (.refl _) (.cons rfl (.refl _) (.cons rfl (.nil 44 1) (.cons rfl (.refl _) (.cons rfl (.refl _) (.cons rfl (.refl _) (.cons rfl (.refl _) .nil))))))))) (.cons rfl (LLe.refl _) .nil) (.cons rfl (.new rfl .nil)) rfl rfl) ⟨by omega, rfl⟩ ?_
  rintro i s ⟨hi, rfl⟩
  refine Tr.seqR rfl (by simp) (Tr.seqI rfl (fun h4 => ?_) (fun h4 => ?_))
  · have h4 : i < deepOf l := by simpa using h4
    have f1 : (fW l sl c (i : Int)).getD 0 = worthV l sl c i := fW_get h3 h4
    refine Tr.skipT (Tr.seq (Tr.block (Tr.seqR rfl (by simp) (Tr.regR rfl (by simp; omega) (Tr.regR rfl (by simp) ?_)))))
    refine ⟨i + 1, _, Wk.le (.cons rfl (.refl _) (.cons rfl (.refl _) (.cons rfl (.refl _) (.cons rfl (.refl _) (.cons rfl (.of_eq ?_) (.cons rfl (.refl _) (.cons rfl (.refl _) (.cons rfl (.refl _) (.cons rfl (VLe.i (w64 (by omega) (by omega))) .nil))))))))) (.cons rfl (LLe.refl _) .nil) (.cons rfl (.cons ?_ .nil)) rfl rfl, ⟨h4, rfl⟩, by omega⟩
    · rw [List.range_succ, List.map_append, f1]; rfl
    · show some _ = some _
      simp
  · have h4 : i = deepOf l := by simp at h4; omega
    subst h4
    refine Tr.exit (Tr.regR rfl (by simp; omega) (Tr.regR rfl (by simp) ?_))
    refine ⟨c + 1, _, Wk.le (.cons rfl (.refl _) (.cons rfl (.refl _) (.cons rfl (.of_eq ?_) (.cons rfl (.refl _) (.cons rfl (VLe.i (w64 (by omega) (by omega))) .nil))))) (.cons rfl (LLe.refl _) .nil) (.cons ?_ .nil) rfl rfl, ⟨h3, rfl⟩, by omega⟩
    · rw [List.range_succ, List.map_append]
      simp [intsV] <;> rfl
    · show some _ = some _
      simp

theorem backs_at {l : List (List Int)} {sl c i : Nat} (hc : c < l.length) (hi : i < deepOf l) : at2 (backsL l sl) c i = worthV l sl c i := by
  unfold at2 backsL
  simp [List.getD_eq_getElem?_getD, List.getElem?_range hc, List.getElem?_range hi]

theorem backs_deep {l : List (List Int)} {sl : Nat} (hn : 1 ≤ l.length) : (backsL l sl).headD [] = (List.range (deepOf l)).map fun i => worthV l sl 0 i := by
  unfold backsL
  obtain ⟨n, hn'⟩ : ∃ n, l.length = n + 1 := ⟨l.length - 1, by omega⟩
  rw [hn', List.range_succ_eq_map, List.map_cons]
  rfl

theorem backs_sane {l : List (List Int)} {sl : Nat} (hn : l.length ≤ 16) (hd : deepOf l ≤ 32) : saneS (backsL l sl) := by
  refine ⟨by simp [backsL]; omega, fun c hc => ?_⟩
  obtain ⟨q, _, rfl⟩ := List.mem_map.1 hc
  simp; omega

theorem backs_okl {l : List (List Int)} (hE : secOk l = true) {sl : Nat} : backsOk l (backsL l sl) = true ∧ okTo l (backsL l sl) sl l.length = true := by
  obtain ⟨hev, hn, hd, hnum⟩ := secOk_spec hE
  have hdb : deepOf (backsL l sl) = deepOf l := by unfold deepOf; rw [backs_deep hn.1]; simp [deepOf]
  constructor
  · simp only [backsOk, Bool.and_eq_true, decide_eq_true_eq]
    refine ⟨⟨⟨by simp [backsL]; omega, ?_⟩, by simp [backsL], hdb⟩, ?_⟩
    · unfold evenL
      rw [List.all_eq_true]
      intro c hc
      obtain ⟨q, _, rfl⟩ := List.mem_map.1 hc
      rw [hdb]; simp
    · unfold numsOk
      rw [List.all_eq_true]
      intro c hc
      obtain ⟨q, _, rfl⟩ := List.mem_map.1 hc
      rw [List.all_eq_true]
      intro x hx
      obtain ⟨i, _, rfl⟩ := List.mem_map.1 hx
      have := worthV_bd (sl := sl) hnum hn q i
      simp only [btw, Bool.and_eq_true, decide_eq_true_eq]
      omega
  · unfold okTo
    rw [List.all_eq_true]
    intro c hc
    have hc : c < l.length := by simpa using hc
    unfold okCol
    rw [List.all_eq_true]
    intro i hi
    have hi : i < deepOf l := by simpa using hi
    unfold okAt
    rw [Bool.and_eq_true, Bool.or_eq_true, decide_eq_true_eq, decide_eq_true_eq, List.all_eq_true, backs_at hc hi]
    refine ⟨?_, fun q hq => ?_⟩
    · by_cases h : c + 1 < l.length
      · exact .inl h
      · right; rw [worth_last (by omega)]; omega
    · have h1 := (mem_next hd.1).1 hq
      unfold okNext
      rw [decide_eq_true_eq, backs_at hc hi, backs_at (by omega) h1.2.2.2]
      exact worth_ge hc hq

theorem foldM_mem : ∀ (r : List Int) (a : Int), r.foldl max a = a ∨ r.foldl max a ∈ r
  | [], a => .inl rfl
  | x :: r, a => by
    rw [List.foldl_cons]
    rcases foldM_mem r (max a x) with h | h
    · rw [h]
      rcases Int.le_total a x with h1 | h1
      · rw [Int.max_eq_right h1]; exact .inr (by simp)
      · rw [Int.max_eq_left h1]; exact .inl rfl
    · exact .inr (List.mem_cons_of_mem _ h)

theorem backs_worth {l : List (List Int)} (hE : secOk l = true) {sl : Nat} (hsl : btw (sl : Int) 0 32 = true) : backR l sl (backsL l sl) = (worthV l sl 0 (argBest l sl (deepOf l)), 0) := by
  obtain ⟨hev, hn, hd, hnum⟩ := secOk_spec hE
  obtain ⟨h1, h2⟩ := backs_okl hE (sl := sl)
  have h3 := backs_best hn.1 hd.1 h1 h2
  unfold backR
  rw [if_pos hE, if_pos hsl, Int.toNat_natCast, h1, h2]
  have h4 : ∀ x ∈ (backsL l sl).headD [], x ≤ worthV l sl 0 (argBest l sl (deepOf l)) := by
    rw [backs_deep hn.1]
    intro x hx
    obtain ⟨i, hi, rfl⟩ := List.mem_map.1 hx
    exact argBest_ge (by simpa using hi)
  have h5 : ((backsL l sl).headD []).tail.foldl max (((backsL l sl).headD []).headD 0) ∈ (backsL l sl).headD [] := by
    have hne : (backsL l sl).headD [] ≠ [] := by
      rw [backs_deep hn.1]
      intro e
      have := congrArg List.length e
      simp at this; omega
    generalize (backsL l sl).headD [] = L at hne ⊢
    cases L with
    | nil => exact absurd rfl hne
    | cons a r =>
      rcases foldM_mem r a with h | h
      · exact List.mem_cons.2 (.inl h)
      · exact List.mem_cons_of_mem _ h
  have h6 := h4 _ h5
  simp only [Bool.and_self, if_true, Prod.mk.injEq, and_true]
  omega

theorem c_VolumeHorizons {l : List (List Int)} (hl : saneS l) (slope : Int) : C Try.prog F.law10_VolumeHorizons [secV l, I slope] (.bool true) := by
  refine C_of mixed chk.law10_VolumeHorizons (by simp) fun S ok => ?_
  refine Tr.seqR rfl (by simp) ?_
  have k1 := c_Horizon hl slope
  have k2 := c_Horizon10 hl slope
  have k3 := c_Backs hl slope
  by_cases h0 : secOk l = true ∧ btw slope 0 32 = true
  rotate_left
  · obtain ⟨e, he, e1, e2⟩ : ∃ e : Int, e ≠ 0 ∧ horR l slope = .tuple [intsV [], I 0, I e] ∧ backsV l slope = .tuple [.slice 0 1 [], I e] := by
      unfold horR backsV
      by_cases h1 : secOk l = true
      · rw [if_pos h1, if_pos h1]
        by_cases h2 : btw slope 0 32 = true
        · exact absurd ⟨h1, h2⟩ h0
        · rw [if_neg h2, if_neg h2]; exact ⟨7, by omega, rfl, rfl⟩
      · rw [if_neg h1, if_neg h1]; exact ⟨105, by omega, rfl, rfl⟩
    rw [e1] at k1 k2
    rw [e2] at k3
    refine Tr.seqC rfl (by simp [secV]) (Steps.call rfl rfl k1 (Steps.fin rfl (by simp) ?_))
    refine Tr.seqC rfl (by simp [secV]) (Steps.call rfl rfl k2 (Steps.fin rfl (by simp) ?_))
    have ka := c_Alike [] [] (by simp)
    rw [decide_eq_true rfl] at ka
    refine Tr.seq (Tr.seqC rfl (by simp [intsV]) (Steps.call rfl rfl ka (Steps.fin rfl (by simp) (Tr.cond rfl rfl (fun h => ?_) (fun _ => Tr.skip ?_)))))
    · exfalso; revert h; simp
    refine Tr.seqC rfl (by simp [secV]) (Steps.call rfl rfl k3 (Steps.fin rfl (by simp) ?_))
    refine Tr.seq (Tr.seqR rfl (by simp) (Tr.cond rfl rfl (fun h => ?_) (fun _ => Tr.skip ?_)))
    · exfalso; revert h; simp
    refine Tr.seq (Tr.seqR rfl (by simp) (Tr.cond rfl rfl (fun _ => ?_) (fun h => ?_)))
    · refine Tr.seqC rfl (by simp) (Steps.gcall rfl rfl rfl rfl (by simp) (fun _ => c_works) (Steps.fin rfl (by simp) (Tr.retX rfl rfl rfl ?_ trivial)))
      simp [packR]
    · exfalso
      have h : (e != 0) = false := h
      simp at h; exact he h
  obtain ⟨hE, hS⟩ := h0
  obtain ⟨hev, hn, hd, hnum⟩ := secOk_spec hE
  obtain ⟨sl, rfl⟩ : ∃ sl : Nat, slope = (sl : Int) := ⟨slope.toNat, by simp [btw] at hS; omega⟩
  have eH : horR l sl = .tuple [intsV (bestP l sl), I (worthV l sl 0 (argBest l sl (deepOf l))), I 0] := by
    unfold horR
    rw [if_pos hE, if_pos hS]
    unfold natsV intsV bestP
    rw [List.map_map]; rfl
  have eB : backsV l sl = .tuple [secV (backsL l sl), I 0] := by
    unfold backsV
    rw [if_pos hE, if_pos hS, Int.toNat_natCast]
  have hW := backs_worth hE hS
  have kb := c_Backed10 hl (backs_sane (l := l) (sl := sl) hn.2 hd.2) (sl : Int)
  rw [hW] at kb
  have hPl : (bestP l sl).length ≤ 9223372036854775807 := by
    have := (bestP_is (l := l) (sl := sl) hn.1 hd.1).1
    simp only [isPath, Bool.and_eq_true, decide_eq_true_eq] at this
    omega
  rw [eH] at k1 k2
  rw [eB] at k3
  generalize worthV l sl 0 (argBest l sl (deepOf l)) = M at k1 k2 kb
  generalize bestP l sl = P at k1 k2 hPl
  generalize backsL l sl = B at k3 kb
  have ka := c_Alike P P hPl
  rw [decide_eq_true rfl] at ka
  refine Tr.seqC rfl (by simp [secV]) (Steps.call rfl rfl k1 (Steps.fin rfl (by simp) ?_))
  refine Tr.seqC rfl (by simp [secV]) (Steps.call rfl rfl k2 (Steps.fin rfl (by simp) ?_))
  refine Tr.seq (Tr.seqC rfl (by simp [intsV]) (Steps.call rfl rfl ka (Steps.fin rfl (by simp) (Tr.cond rfl rfl (fun h => ?_) (fun _ => Tr.skip ?_)))))
  · exfalso; revert h; simp
  refine Tr.seqC rfl (by simp [secV]) (Steps.call rfl rfl k3 (Steps.fin rfl (by simp) ?_))
  refine Tr.seq (Tr.seqR rfl (by simp) (Tr.condF rfl (Tr.skip ?_)))
  refine Tr.seq (Tr.seqR rfl (by simp) (Tr.condF rfl (Tr.skip ?_)))
  refine Tr.seqC rfl (by simp [secV]) (Steps.call rfl rfl kb (Steps.fin rfl (by simp) ?_))
  refine Tr.seqC rfl (by simp) (Steps.gcall rfl rfl rfl rfl (by simp) (fun _ => c_works) (Steps.fin rfl (by simp) (Tr.retX rfl rfl rfl ?_ trivial)))
  simp [packR]

end Go.Proofs.Ytkifejklnpddbaa
