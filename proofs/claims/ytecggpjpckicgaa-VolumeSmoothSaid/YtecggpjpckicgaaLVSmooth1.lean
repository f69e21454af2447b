/-
  Parts of the proof, 1: the abstract machine, the compiled code, contracts of the functions, plain laws.
-/
import Derived.Test.YtecggpjpckicgaaZ4


/-! The code of further functions, compiled. -/
set_option maxRecDepth 100000
namespace Go.Proofs.Ytecggpjpckicgaa
open Go.Am
/-- paravane/paravanelaw10.VolumeTop -/
abbrev F.law10_VolumeTop : Nat := 6
def ir.law10_VolumeTop : IC :=
 (.seq (.reg [⟨(some 5), .box, [.t 2], none⟩,
     ⟨(some 6), .mov, [.c (.bool false)], none⟩])
   (.seq (.reg [⟨(some 16), .mov, [.t 0], none⟩,
     ⟨(some 17), .mov, [.t 1], none⟩,
     ⟨(some 18), .call 20, [.t 16, .t 17], none⟩,
     ⟨(some 15), .mov, [.t 18], none⟩,
     ⟨(some 19), .extract 0, [.t 15], none⟩,
     ⟨(some 20), .extract 1, [.t 15], none⟩,
     ⟨(some 21), .extract 2, [.t 15], none⟩,
     ⟨(some 7), .mov, [.t 19], none⟩,
     ⟨(some 8), .mov, [.t 20], none⟩,
     ⟨(some 9), .mov, [.t 21], none⟩])
   (.seq (.reg [⟨(some 23), .mov, [.t 0], none⟩,
     ⟨(some 24), .mov, [.t 1], none⟩,
     ⟨(some 25), .faddr 1, [.t 5], none⟩,
     ⟨(some 26), .load 1 false, [.t 25], none⟩,
     ⟨(some 27), .call 21, [.t 23, .t 24, .t 26], none⟩,
     ⟨(some 22), .mov, [.t 27], none⟩,
     ⟨(some 28), .extract 0, [.t 22], none⟩,
     ⟨(some 29), .extract 1, [.t 22], none⟩,
     ⟨(some 10), .mov, [.t 28], none⟩,
     ⟨(some 11), .mov, [.t 29], none⟩])
   (.seq (.seq (.reg [⟨(some 30), .mov, [.t 9], none⟩,
     ⟨(some 31), .bin .neq, [.t 30, .c (.int .i64 0)], none⟩])
   (.cond (.t 31) (.seq (.reg [⟨(some 32), .mov, [.t 7], none⟩,
     ⟨(some 33), .len false, [.t 32], none⟩,
     ⟨(some 34), .bin .eql, [.t 33, .c (.int .i64 0)], none⟩,
     ⟨(some 35), .mov, [.t 34], none⟩,
     ⟨(some 36), .mov, [.t 8], (some (35, true))⟩,
     ⟨(some 37), .bin .eql, [.t 36, .c (.int .i64 0)], (some (35, true))⟩,
     ⟨(some 38), .pick, [.t 35, .t 37, .c (.bool false)], none⟩,
     ⟨(some 39), .mov, [.t 38], none⟩,
     ⟨(some 40), .mov, [.t 11], (some (39, true))⟩,
     ⟨(some 41), .mov, [.t 9], (some (39, true))⟩,
     ⟨(some 42), .bin .eql, [.t 40, .t 41], (some (39, true))⟩,
     ⟨(some 43), .pick, [.t 39, .t 42, .c (.bool false)], none⟩,
     ⟨(some 44), .mov, [.t 43], none⟩,
     ⟨(some 45), .call 13, [], (some (44, true))⟩,
     ⟨(some 46), .pick, [.t 44, .t 45, .c (.bool false)], none⟩,
     ⟨(some 6), .mov, [.t 46], none⟩])
   .ret) .skip))
   (.seq (.reg [⟨(some 48), .mov, [.t 0], none⟩,
     ⟨(some 49), .mov, [.t 1], none⟩,
     ⟨(some 50), .mov, [.t 7], none⟩,
     ⟨(some 51), .call 22, [.t 48, .t 49, .t 50], none⟩,
     ⟨(some 47), .mov, [.t 51], none⟩,
     ⟨(some 52), .extract 0, [.t 47], none⟩,
     ⟨(some 53), .extract 1, [.t 47], none⟩,
     ⟨(some 12), .mov, [.t 52], none⟩,
     ⟨(some 13), .mov, [.t 53], none⟩])
   (.seq (.seq (.reg [⟨(some 54), .mov, [.t 13], none⟩,
     ⟨(some 55), .un .not, [.t 54], none⟩,
     ⟨(some 56), .mov, [.t 55], none⟩,
     ⟨(some 57), .mov, [.t 12], (some (56, false))⟩,
     ⟨(some 58), .mov, [.t 8], (some (56, false))⟩,
     ⟨(some 59), .bin .neq, [.t 57, .t 58], (some (56, false))⟩,
     ⟨(some 60), .pick, [.t 56, .c (.bool true), .t 59], none⟩])
   (.cond (.t 60) (.seq (.reg [⟨(some 6), .mov, [.c (.bool false)], none⟩])
   .ret) .skip))
   (.seq (.reg [⟨(some 62), .mov, [.t 0], none⟩,
     ⟨(some 63), .mov, [.t 1], none⟩,
     ⟨(some 64), .faddr 0, [.t 5], none⟩,
     ⟨(some 65), .load 1 false, [.t 64], none⟩,
     ⟨(some 66), .call 22, [.t 62, .t 63, .t 65], none⟩,
     ⟨(some 61), .mov, [.t 66], none⟩,
     ⟨(some 67), .extract 0, [.t 61], none⟩,
     ⟨(some 68), .extract 1, [.t 61], none⟩,
     ⟨(some 14), .mov, [.t 67], none⟩,
     ⟨(some 13), .mov, [.t 68], none⟩])
   (.seq (.seq (.reg [⟨(some 69), .mov, [.t 13], none⟩,
     ⟨(some 70), .mov, [.t 69], none⟩,
     ⟨(some 71), .mov, [.t 14], (some (70, true))⟩,
     ⟨(some 72), .mov, [.t 8], (some (70, true))⟩,
     ⟨(some 73), .bin .gtr, [.t 71, .t 72], (some (70, true))⟩,
     ⟨(some 74), .pick, [.t 70, .t 73, .c (.bool false)], none⟩])
   (.cond (.t 74) (.seq (.reg [⟨(some 6), .mov, [.c (.bool false)], none⟩])
   .ret) .skip))
   (.seq (.reg [⟨(some 75), .mov, [.t 11], none⟩,
     ⟨(some 76), .bin .eql, [.t 75, .c (.int .i64 106)], none⟩,
     ⟨(some 77), .mov, [.t 76], none⟩,
     ⟨(some 78), .mov, [.t 10], (some (77, true))⟩,
     ⟨(some 79), .bin .eql, [.t 78, .c (.int .i64 0)], (some (77, true))⟩,
     ⟨(some 80), .pick, [.t 77, .t 79, .c (.bool false)], none⟩,
     ⟨(some 81), .mov, [.t 80], none⟩,
     ⟨(some 82), .mov, [.t 11], (some (81, false))⟩,
     ⟨(some 83), .bin .eql, [.t 82, .c (.int .i64 0)], (some (81, false))⟩,
     ⟨(some 84), .mov, [.t 83], (some (81, false))⟩,
     ⟨(some 85), .mov, [.t 10], (some (84, true))⟩,
     ⟨(some 86), .mov, [.t 8], (some (84, true))⟩,
     ⟨(some 87), .bin .geq, [.t 85, .t 86], (some (84, true))⟩,
     ⟨(some 88), .pick, [.t 84, .t 87, .c (.bool false)], (some (81, false))⟩,
     ⟨(some 89), .pick, [.t 81, .c (.bool true), .t 88], none⟩,
     ⟨(some 90), .mov, [.t 89], none⟩,
     ⟨(some 91), .call 13, [], (some (90, true))⟩,
     ⟨(some 92), .pick, [.t 90, .t 91, .c (.bool false)], none⟩,
     ⟨(some 6), .mov, [.t 92], none⟩])
   .ret)))))))))
theorem chk.law10_VolumeTop : chkF Try.prog 6 = some (93, ir.law10_VolumeTop, [.tmp 6]) := by kernel_rfl

/-- paravane/paravanelaw10.VolumeSmooth -/
abbrev F.law10_VolumeSmooth : Nat := 7
def ir.law10_VolumeSmooth : IC :=
 (.seq (.reg [⟨(some 5), .box, [.t 2], none⟩,
     ⟨(some 6), .mov, [.c (.bool false)], none⟩])
   (.seq (.reg [⟨(some 20), .mov, [.t 0], none⟩,
     ⟨(some 21), .mov, [.t 1], none⟩,
     ⟨(some 22), .call 20, [.t 20, .t 21], none⟩,
     ⟨(some 19), .mov, [.t 22], none⟩,
     ⟨(some 23), .extract 0, [.t 19], none⟩,
     ⟨(some 24), .extract 1, [.t 19], none⟩,
     ⟨(some 25), .extract 2, [.t 19], none⟩,
     ⟨(some 7), .mov, [.t 23], none⟩,
     ⟨(some 8), .mov, [.t 24], none⟩,
     ⟨(some 9), .mov, [.t 25], none⟩])
   (.seq (.seq (.reg [⟨(some 26), .mov, [.t 9], none⟩,
     ⟨(some 27), .bin .neq, [.t 26, .c (.int .i64 0)], none⟩])
   (.cond (.t 27) (.seq (.reg [⟨(some 28), .mov, [.t 8], none⟩,
     ⟨(some 29), .bin .eql, [.t 28, .c (.int .i64 0)], none⟩,
     ⟨(some 30), .mov, [.t 29], none⟩,
     ⟨(some 31), .call 13, [], (some (30, true))⟩,
     ⟨(some 32), .pick, [.t 30, .t 31, .c (.bool false)], none⟩,
     ⟨(some 6), .mov, [.t 32], none⟩])
   .ret) .skip))
   (.seq (.reg [⟨(some 34), .mov, [.t 0], none⟩,
     ⟨(some 35), .mov, [.t 1], none⟩,
     ⟨(some 36), .iaddrA 3 1, [.t 5, .c (.int .i64 0)], none⟩,
     ⟨(some 37), .load 1 false, [.t 36], none⟩,
     ⟨(some 38), .call 23, [.t 37, .c (.int .i64 5)], none⟩,
     ⟨(some 39), .bin .add, [.t 35, .t 38], none⟩,
     ⟨(some 40), .minmax false, [.c (.int .i64 32), .t 39], none⟩,
     ⟨(some 41), .call 20, [.t 34, .t 40], none⟩,
     ⟨(some 33), .mov, [.t 41], none⟩,
     ⟨(some 42), .extract 0, [.t 33], none⟩,
     ⟨(some 43), .extract 1, [.t 33], none⟩,
     ⟨(some 44), .extract 2, [.t 33], none⟩,
     ⟨(some 10), .mov, [.t 42], none⟩,
     ⟨(some 11), .mov, [.t 43], none⟩,
     ⟨(some 9), .mov, [.t 44], none⟩])
   (.seq (.reg [⟨(some 12), .mov, [.c .nils], none⟩])
   (.seq (.seq (.reg [⟨(some 13), .mov, [.c (.int .i64 0)], none⟩])
   (.block 0 (.loop (.seq (.seq (.reg [⟨(some 45), .mov, [.t 13], none⟩,
     ⟨(some 46), .mov, [.t 0], none⟩,
     ⟨(some 47), .len false, [.t 46], none⟩,
     ⟨(some 48), .bin .lss, [.t 45, .t 47], none⟩])
   (.cond (.t 48) .skip (.exit 0)))
   (.seq (.block 1 (.reg [⟨(some 51), .mov, [.t 12], none⟩,
     ⟨(some 52), .mov, [.t 0], none⟩,
     ⟨(some 53), .mov, [.t 13], none⟩,
     ⟨(some 54), .iaddrS 1, [.t 52, .t 53], none⟩,
     ⟨(some 55), .load 1 false, [.t 54], none⟩,
     ⟨(some 56), .call 24, [.t 55], none⟩,
     ⟨(some 57), .mkslice 1 30, [.t 56], none⟩,
     ⟨(some 58), .append 1 24 30, [.t 51, .t 57], none⟩,
     ⟨(some 12), .mov, [.t 58], none⟩]))
   (.reg [⟨(some 49), .mov, [.t 13], none⟩,
     ⟨(some 50), .bin .add, [.t 49, .c (.int .i64 1)], none⟩,
     ⟨(some 13), .mov, [.t 50], none⟩]))))))
   (.seq (.reg [⟨(some 59), .iaddrA 3 1, [.t 5, .c (.int .i64 1)], none⟩,
     ⟨(some 60), .load 1 false, [.t 59], none⟩,
     ⟨(some 61), .mov, [.t 12], none⟩,
     ⟨(some 62), .len false, [.t 61], none⟩,
     ⟨(some 63), .call 23, [.t 60, .t 62], none⟩,
     ⟨(some 14), .mov, [.t 63], none⟩])
   (.seq (.draw [0, 1, 0, 0, 12, 28, 60, 127, 255] [⟨(some 64), .iaddrA 3 1, [.t 5, .c (.int .i64 2)], none⟩,
     ⟨(some 65), .load 1 false, [.t 64], none⟩,
     ⟨(some 66), .mov, [.t 12], none⟩,
     ⟨(some 67), .mov, [.t 14], none⟩,
     ⟨(some 68), .iaddrS 1, [.t 66, .t 67], none⟩,
     ⟨(some 69), .load 1 false, [.t 68], none⟩,
     ⟨(some 70), .len false, [.t 69], none⟩,
     ⟨(some 71), .call 23, [.t 65, .t 70], none⟩,
     ⟨(some 15), .mov, [.t 71], none⟩])
   (.seq (.draw [0, 0, 3, 7, 0, 0, 0, 96, 224, 0, 992, 2016, 4064, 8160, 16383, 32767] [⟨(some 72), .mov, [.t 12], none⟩,
     ⟨(some 73), .mov, [.t 14], none⟩,
     ⟨(some 74), .iaddrS 1, [.t 72, .t 73], none⟩,
     ⟨(some 75), .load 1 false, [.t 74], none⟩,
     ⟨(some 76), .mov, [.t 15], none⟩,
     ⟨(some 77), .mov, [.t 12], none⟩,
     ⟨(some 78), .mov, [.t 14], none⟩,
     ⟨(some 79), .iaddrS 1, [.t 77, .t 78], none⟩,
     ⟨(some 80), .load 1 false, [.t 79], none⟩,
     ⟨(some 81), .mov, [.t 15], none⟩,
     ⟨(some 82), .iaddrS 1, [.t 80, .t 81], none⟩,
     ⟨(some 83), .load 1 false, [.t 82], none⟩,
     ⟨(some 84), .bin .add, [.t 83, .c (.int .i64 9)], none⟩,
     ⟨(some 85), .minmax false, [.c (.int .i64 1099511627776), .t 84], none⟩,
     ⟨(some 86), .iaddrS 1, [.t 75, .t 76], none⟩,
     ⟨none, .store 1, [.t 86, .t 85], none⟩])
   (.seq (.reg [⟨(some 88), .mov, [.t 12], none⟩,
     ⟨(some 89), .mov, [.t 1], none⟩,
     ⟨(some 90), .call 20, [.t 88, .t 89], none⟩,
     ⟨(some 87), .mov, [.t 90], none⟩,
     ⟨(some 91), .extract 0, [.t 87], none⟩,
     ⟨(some 92), .extract 1, [.t 87], none⟩,
     ⟨(some 93), .extract 2, [.t 87], none⟩,
     ⟨(some 16), .mov, [.t 91], none⟩,
     ⟨(some 17), .mov, [.t 92], none⟩,
     ⟨(some 18), .mov, [.t 93], none⟩])
   (.seq (.reg [⟨(some 94), .mov, [.t 9], none⟩,
     ⟨(some 95), .bin .eql, [.t 94, .c (.int .i64 0)], none⟩,
     ⟨(some 96), .mov, [.t 95], none⟩,
     ⟨(some 97), .mov, [.t 18], (some (96, true))⟩,
     ⟨(some 98), .bin .eql, [.t 97, .c (.int .i64 0)], (some (96, true))⟩,
     ⟨(some 99), .pick, [.t 96, .t 98, .c (.bool false)], none⟩,
     ⟨(some 100), .mov, [.t 99], none⟩,
     ⟨(some 101), .mov, [.t 11], (some (100, true))⟩,
     ⟨(some 102), .mov, [.t 8], (some (100, true))⟩,
     ⟨(some 103), .bin .geq, [.t 101, .t 102], (some (100, true))⟩,
     ⟨(some 104), .pick, [.t 100, .t 103, .c (.bool false)], none⟩,
     ⟨(some 105), .mov, [.t 104], none⟩,
     ⟨(some 106), .mov, [.t 17], (some (105, true))⟩,
     ⟨(some 107), .mov, [.t 8], (some (105, true))⟩,
     ⟨(some 108), .bin .sub, [.t 106, .t 107], (some (105, true))⟩,
     ⟨(some 109), .call 25, [.t 108, .c (.int .i64 0), .c (.int .i64 9)], (some (105, true))⟩,
     ⟨(some 110), .pick, [.t 105, .t 109, .c (.bool false)], none⟩,
     ⟨(some 111), .mov, [.t 110], none⟩,
     ⟨(some 112), .call 13, [], (some (111, true))⟩,
     ⟨(some 113), .pick, [.t 111, .t 112, .c (.bool false)], none⟩,
     ⟨(some 6), .mov, [.t 113], none⟩])
   .ret)))))))))))
theorem chk.law10_VolumeSmooth : chkF Try.prog 7 = some (114, ir.law10_VolumeSmooth, [.tmp 6]) := by kernel_rfl

/-- paravane/paravanelaw10.worth -/
abbrev F.law10_worth : Nat := 22
def ir.law10_worth : IC :=
 (.seq (.reg [⟨(some 6), .mov, [.c (.int .i64 0)], none⟩,
     ⟨(some 7), .mov, [.c (.bool false)], none⟩])
   (.seq (.seq (.reg [⟨(some 10), .mov, [.t 2], none⟩,
     ⟨(some 11), .len false, [.t 10], none⟩,
     ⟨(some 12), .mov, [.t 0], none⟩,
     ⟨(some 13), .len false, [.t 12], none⟩,
     ⟨(some 14), .bin .neq, [.t 11, .t 13], none⟩])
   (.cond (.t 14) (.seq (.reg [⟨(some 6), .mov, [.c (.int .i64 0)], none⟩,
     ⟨(some 7), .mov, [.c (.bool false)], none⟩])
   .ret) .skip))
   (.seq (.reg [⟨(some 8), .mov, [.c (.int .i64 0)], none⟩])
   (.seq (.seq (.reg [⟨(some 9), .mov, [.c (.int .i64 0)], none⟩])
   (.block 0 (.loop (.seq (.seq (.reg [⟨(some 15), .mov, [.t 9], none⟩,
     ⟨(some 16), .mov, [.t 2], none⟩,
     ⟨(some 17), .len false, [.t 16], none⟩,
     ⟨(some 18), .bin .lss, [.t 15, .t 17], none⟩])
   (.cond (.t 18) .skip (.exit 0)))
   (.seq (.block 1 (.seq (.seq (.draw [0, 0, 3, 7, 0, 0, 48, 112, 240, 496, 1023, 2047, 4095, 8191, 16383, 32767, 65535, 65535, 262143, 524287, 65535, 65535, 2162687, 7405567, 15794175, 33554431, 67108863, 65535, 268435455, 536870911, 1073741823] [⟨(some 21), .mov, [.t 2], none⟩,
     ⟨(some 22), .mov, [.t 9], none⟩,
     ⟨(some 23), .iaddrS 1, [.t 21, .t 22], none⟩,
     ⟨(some 24), .load 1 false, [.t 23], none⟩,
     ⟨(some 25), .mov, [.t 0], none⟩,
     ⟨(some 26), .mov, [.t 9], none⟩,
     ⟨(some 27), .iaddrS 1, [.t 25, .t 26], none⟩,
     ⟨(some 28), .load 1 false, [.t 27], none⟩,
     ⟨(some 29), .len false, [.t 28], none⟩,
     ⟨(some 30), .bin .sub, [.t 29, .c (.int .i64 1)], none⟩,
     ⟨(some 31), .call 25, [.t 24, .c (.int .i64 0), .t 30], none⟩,
     ⟨(some 32), .un .not, [.t 31], none⟩,
     ⟨(some 33), .mov, [.t 32], none⟩,
     ⟨(some 34), .mov, [.t 9], (some (33, false))⟩,
     ⟨(some 35), .bin .gtr, [.t 34, .c (.int .i64 0)], (some (33, false))⟩,
     ⟨(some 36), .mov, [.t 35], (some (33, false))⟩,
     ⟨(some 37), .mov, [.t 2], (some (36, true))⟩,
     ⟨(some 38), .mov, [.t 9], (some (36, true))⟩,
     ⟨(some 39), .iaddrS 1, [.t 37, .t 38], (some (36, true))⟩,
     ⟨(some 40), .load 1 false, [.t 39], (some (36, true))⟩,
     ⟨(some 41), .mov, [.t 2], (some (36, true))⟩,
     ⟨(some 42), .mov, [.t 9], (some (36, true))⟩,
     ⟨(some 43), .bin .sub, [.t 42, .c (.int .i64 1)], (some (36, true))⟩,
     ⟨(some 44), .iaddrS 1, [.t 41, .t 43], (some (36, true))⟩,
     ⟨(some 45), .load 1 false, [.t 44], (some (36, true))⟩,
     ⟨(some 46), .bin .sub, [.t 40, .t 45], (some (36, true))⟩,
     ⟨(some 47), .call 62, [.t 46], (some (36, true))⟩,
     ⟨(some 48), .mov, [.t 1], (some (36, true))⟩,
     ⟨(some 49), .bin .gtr, [.t 47, .t 48], (some (36, true))⟩,
     ⟨(some 50), .pick, [.t 36, .t 49, .c (.bool false)], (some (33, false))⟩,
     ⟨(some 51), .pick, [.t 33, .c (.bool true), .t 50], none⟩])
   (.cond (.t 51) (.seq (.reg [⟨(some 6), .mov, [.c (.int .i64 0)], none⟩,
     ⟨(some 7), .mov, [.c (.bool false)], none⟩])
   .ret) .skip))
   (.draw [0, 0, 0, 6, 14, 0, 0, 96, 224, 510, 1022, 2047, 4095] [⟨(some 52), .mov, [.t 8], none⟩,
     ⟨(some 53), .mov, [.t 0], none⟩,
     ⟨(some 54), .mov, [.t 9], none⟩,
     ⟨(some 55), .iaddrS 1, [.t 53, .t 54], none⟩,
     ⟨(some 56), .load 1 false, [.t 55], none⟩,
     ⟨(some 57), .mov, [.t 2], none⟩,
     ⟨(some 58), .mov, [.t 9], none⟩,
     ⟨(some 59), .iaddrS 1, [.t 57, .t 58], none⟩,
     ⟨(some 60), .load 1 false, [.t 59], none⟩,
     ⟨(some 61), .iaddrS 1, [.t 56, .t 60], none⟩,
     ⟨(some 62), .load 1 false, [.t 61], none⟩,
     ⟨(some 63), .bin .add, [.t 52, .t 62], none⟩,
     ⟨(some 8), .mov, [.t 63], none⟩])))
   (.reg [⟨(some 19), .mov, [.t 9], none⟩,
     ⟨(some 20), .bin .add, [.t 19, .c (.int .i64 1)], none⟩,
     ⟨(some 9), .mov, [.t 20], none⟩]))))))
   (.seq (.reg [⟨(some 64), .mov, [.t 8], none⟩,
     ⟨(some 6), .mov, [.t 64], none⟩,
     ⟨(some 7), .mov, [.c (.bool true)], none⟩])
   .ret)))))
theorem chk.law10_worth : chkF Try.prog 22 = some (65, ir.law10_worth, [.tmp 6, .tmp 7]) := by kernel_rfl

/-- paravane/paravaneref00.Rest -/
abbrev F.ref00_Rest : Nat := 23
def ir.ref00_Rest : IC :=
 (.seq (.reg [⟨(some 4), .mov, [.c (.int .i64 0)], none⟩])
   (.seq (.seq (.reg [⟨(some 5), .mov, [.t 1], none⟩,
     ⟨(some 6), .bin .lss, [.t 5, .c (.int .i64 1)], none⟩])
   (.cond (.t 6) (.seq (.reg [⟨(some 4), .mov, [.c (.int .i64 0)], none⟩])
   .ret) .skip))
   (.seq (.reg [⟨(some 7), .mov, [.t 0], none⟩,
     ⟨(some 8), .mov, [.t 1], none⟩,
     ⟨(some 9), .bin .rem, [.t 7, .t 8], none⟩,
     ⟨(some 0), .mov, [.t 9], none⟩])
   (.seq (.seq (.reg [⟨(some 10), .mov, [.t 0], none⟩,
     ⟨(some 11), .bin .lss, [.t 10, .c (.int .i64 0)], none⟩])
   (.cond (.t 11) (.reg [⟨(some 12), .mov, [.t 0], none⟩,
     ⟨(some 13), .mov, [.t 1], none⟩,
     ⟨(some 14), .bin .add, [.t 12, .t 13], none⟩,
     ⟨(some 0), .mov, [.t 14], none⟩]) .skip))
   (.seq (.reg [⟨(some 15), .mov, [.t 0], none⟩,
     ⟨(some 4), .mov, [.t 15], none⟩])
   .ret)))))
theorem chk.ref00_Rest : chkF Try.prog 23 = some (16, ir.ref00_Rest, [.tmp 4]) := by kernel_rfl

/-- paravane/paravaneref00.Own -/
abbrev F.ref00_Own : Nat := 24
def ir.ref00_Own : IC :=
 (.seq (.reg [⟨(some 2), .mov, [.c .nils], none⟩])
   (.seq (.reg [⟨(some 3), .mov, [.c .nils], none⟩])
   (.seq (.reg [⟨(some 4), .mov, [.t 3], none⟩,
     ⟨(some 5), .mov, [.t 0], none⟩,
     ⟨(some 6), .append 1 8 3, [.t 4, .t 5], none⟩,
     ⟨(some 2), .mov, [.t 6], none⟩])
   .ret)))
theorem chk.ref00_Own : chkF Try.prog 24 = some (7, ir.ref00_Own, [.tmp 2]) := by kernel_rfl

/-- paravane/paravaneref00.Magnitude -/
abbrev F.ref00_Magnitude : Nat := 62
def ir.ref00_Magnitude : IC :=
 (.seq (.reg [⟨(some 2), .mov, [.c (.int .i64 0)], none⟩])
   (.seq (.reg [⟨(some 3), .mov, [.t 0], none⟩,
     ⟨(some 4), .mov, [.t 0], none⟩,
     ⟨(some 5), .un .neg, [.t 4], none⟩,
     ⟨(some 6), .minmax true, [.t 3, .t 5], none⟩,
     ⟨(some 2), .mov, [.t 6], none⟩])
   .ret))
theorem chk.ref00_Magnitude : chkF Try.prog 62 = some (7, ir.ref00_Magnitude, [.tmp 2]) := by kernel_rfl

end Go.Proofs.Ytecggpjpckicgaa

/-! Own copies of a list. -/
set_option linter.unusedVariables false
set_option linter.unusedSimpArgs false
set_option maxRecDepth 20000
set_option maxHeartbeats 1000000
namespace Go.Proofs.Ytecggpjpckicgaa
open Go.Am
attribute [local simp] cells scalar mkv splice under2 under dem dem1

/-- Weakening inside a region. -/
theorem stepsWeak {E : Env} {s s' : St} {i : Ins} {r : List Ins} {K : St → Prop} (h : Wk E s s') (k : Am.Steps E (i :: r) K s') : Am.Steps E (i :: r) K s := by
  refine Step1.raw fun slots ops o j ro n a w hh hc hs hi R Q next hn => ?_
  obtain ⟨h', R', hy⟩ := h a w hh R
  exact step_ok (k : Step1 E i (Am.Steps E r K) s') hc hs hi R' fun s'' a' w' h'' k R ey => hn s'' a' w' h'' k R (ey.trans hy)

theorem flat_ints (l : List Int) : (l.map I).flatMap cells = l.map I := by
  induction l with
  | nil => rfl
  | cons a l ih => rw [List.map_cons, List.flatMap_cons, ih]; rfl

theorem ints_isD (l : List Int) : (l.map I).all isD = true := by
  rw [List.all_eq_true]
  intro x hx
  obtain ⟨n, _, rfl⟩ := List.mem_map.1 hx
  rfl

theorem ints_refs (l : List Int) (B : Nat → Bool) (R : Nat → Option (Nat × Nat × Nat)) : (l.map I).all (refsOk B R 6) = true := by
  rw [List.all_eq_true]
  intro x hx
  obtain ⟨n, _, rfl⟩ := List.mem_map.1 hx
  rfl

theorem okI {k : Nat} {l : List Int} {env : List (Nat × V)} {bx : List (Nat × Box)} {rw : List (Nat × Nat × Nat × Nat)} (h : okRefs env ((k, ⟨[], false⟩) :: bx) rw = true) : okRefs env ((k, ⟨l.map I, false⟩) :: bx) rw = true := by
  have e : hasKey ((k, (⟨l.map I, false⟩ : Box)) :: bx) = hasKey ((k, (⟨[], false⟩ : Box)) :: bx) := rfl
  unfold okRefs at h ⊢
  rw [e]
  rw [Bool.and_eq_true] at h ⊢
  refine ⟨h.1, ?_⟩
  have h2 := h.2
  rw [List.all_cons, Bool.and_eq_true] at h2 ⊢
  exact ⟨ints_refs _ _ _, h2.2⟩

theorem holds_ints (l : List Int) : Holds (l.map I) 0 1 l.length (l.map I) := by
  refine ⟨by omega, by simp, fun x hx => ?_, ?_, fun x hx => ?_⟩
  · obtain ⟨c, _, rfl⟩ := List.mem_map.1 hx; rfl
  · rw [List.drop_zero, List.take_of_length_le (by simp), flat_ints]
  · obtain ⟨c, _, rfl⟩ := List.mem_map.1 hx; rfl

theorem c_Own {l : List Int} (h0 : l ≠ []) (hl : l.length ≤ 1000000) : CO Try.prog F.ref00_Own [intsV l] 1 (l.map I) := by
  refine CO_of mixed chk.ref00_Own (by simp) fun S ok => ?_
  refine Tr.seqR rfl (by simp) (Tr.seqR rfl (by simp) ?_)
  refine Tr.seqN 2 rfl (by simp) ?_
  refine Steps.appendBox (r := 0) (ys := l.map I) rfl rfl (by omega) (by simp; omega) (by simp; omega) (by simpa using h0) ?_
  refine Steps.fin rfl (by simp) (Tr.ret ?_)
  exact ⟨6, rfl, rfl, by rw [flat_ints]; exact ints_isD l⟩

theorem c_OwnC {l : List Int} (hl : l.length ≤ 1000000) : C Try.prog F.ref00_Own [intsV l] (intsV l) := by
  refine C_of mixed chk.ref00_Own (by simp) fun S ok => ?_
  refine Tr.seqR rfl (by simp) (Tr.seqR rfl (by simp) (Tr.seqR rfl (by simp [intsV]; omega) ?_))
  refine Tr.weak (s' := { env := [(2, intsV l)], bx := [], rw := [], log := [], stp := false }) (Wk.le (.cons rfl (.dem _ _ _) .nil) .nil .nil rfl rfl) ?_
  exact Tr.retX rfl rfl rfl rfl trivial

end Go.Proofs.Ytecggpjpckicgaa

/-! Contracts: sections and potentials in the specification; the law VolumeBacked. -/
set_option linter.unusedVariables false
set_option linter.unusedSimpArgs false
set_option maxRecDepth 20000
namespace Go.Proofs.Ytecggpjpckicgaa
open Go.Am
attribute [local simp] cells scalar mkv splice under2 under dem dem1

def colOk (l : List (List Int)) (c : List Int) : Bool := c.length == deepOf l && c.all fun n => btw n (-1099511627776) 1099511627776
theorem all_and' {α : Type} (p q : α → Bool) (l : List α) : l.all (fun x => p x && q x) = (l.all p && l.all q) := by
  induction l with
  | nil => rfl
  | cons a r ih => simp only [List.all_cons, ih]; cases p a <;> cases q a <;> cases r.all p <;> cases r.all q <;> rfl
theorem cols_ok (l : List (List Int)) : l.all (colOk l) = (evenL l && numsOk 1099511627776 l) := all_and' _ _ l
def secE (l : List (List Int)) (slope : Int) : Int := if secOk l then (if btw slope 0 32 then 0 else 7) else 105

theorem all_take_succ' {α : Type} {p : α → Bool} {l : List α} {k : Nat} (h : k < l.length) : (l.take (k + 1)).all p = ((l.take k).all p && p l[k]) := by
  rw [List.take_add_one, List.getElem?_eq_getElem h, List.all_append]
  simp

theorem all_false {α : Type} {p : α → Bool} {l : List α} {k : Nat} (h : k < l.length) (e : p l[k] = false) : l.all p = false := by
  rw [List.all_eq_false]
  exact ⟨l[k], List.getElem_mem h, by simp [e]⟩

end Go.Proofs.Ytecggpjpckicgaa

/-! Plain facts: the best horizon is worth most, and not more than potentials say. -/
set_option linter.unusedVariables false
set_option linter.unusedSimpArgs false
set_option maxRecDepth 20000
namespace Go.Proofs.Ytecggpjpckicgaa
open Go.Am

theorem foldW_ge : ∀ (l : List Int) (s : Bool × Int), (s.1 = true → s.2 ≤ (l.foldl stepW s).2) ∧ ∀ x ∈ l, x ≤ (l.foldl stepW s).2
  | [], s => ⟨fun _ => Int.le_refl _, fun x h => by simp at h⟩
  | y :: r, s => by
    obtain ⟨h1, h2⟩ := foldW_ge r (stepW s y)
    simp only [List.foldl_cons]
    have h3 : (stepW s y).1 = true ∧ y ≤ (stepW s y).2 ∧ (s.1 = true → s.2 ≤ (stepW s y).2) := by
      obtain ⟨b, m⟩ := s
      unfold stepW
      by_cases h : m < y
      · have e : (!b || decide (y > m)) = true := by simp [h]
        simp only [e, if_true]
        exact ⟨trivial, Int.le_refl _, fun _ => Int.le_of_lt h⟩
      · cases b
        · simp
        · simp [h]; omega
    refine ⟨fun hs => Int.le_trans (h3.2.2 hs) (h1 h3.1), fun x hx => ?_⟩
    rcases List.mem_cons.1 hx with rfl | hx
    · exact Int.le_trans h3.2.1 (h1 h3.1)
    · exact h2 x hx

theorem best_ge {L : List Int} {x : Int} (h : x ∈ L) : x ≤ (bestG L).2 := (foldW_ge L (false, 0)).2 x h

theorem mem_next {n d sl c i q : Nat} (hd : 1 ≤ d) : q ∈ nextN n d sl c i ↔ c + 1 ≠ n ∧ i - sl ≤ q ∧ q ≤ i + sl ∧ q < d := by
  unfold nextN
  by_cases h : c + 1 = n
  · simp [h]
  · rw [if_neg h, List.mem_range'_1]
    omega

theorem worth_ge {l : List (List Int)} {sl c i q : Nat} (hc : c < l.length) (hq : q ∈ nextN l.length (deepOf l) sl c i) : at2 l c i + worthV l sl (c + 1) q ≤ worthV l sl c i := by
  rw [worthV_eq (i := i) hc]
  have := best_ge (List.mem_map_of_mem (f := worthV l sl (c + 1)) hq)
  omega

theorem worth_last {l : List (List Int)} {sl c i : Nat} (hc : c + 1 = l.length) : worthV l sl c i = at2 l c i := by
  rw [worthV_eq (by omega)]
  simp [nextN, hc, bestG]

/-- What a path is worth. -/
def sumI (l : List (List Int)) : Nat → List Int → Int
  | _, [] => 0
  | c, x :: r => at2 l c x.toNat + sumI l (c + 1) r

theorem sumI_append (l : List (List Int)) : ∀ (c : Nat) (a b : List Int), sumI l c (a ++ b) = sumI l c a + sumI l (c + a.length) b
  | c, [], b => by simp [sumI]
  | c, x :: r, b => by
    simp only [List.cons_append, sumI, sumI_append l (c + 1) r b, List.length_cons]
    rw [show c + 1 + r.length = c + (r.length + 1) by omega]
    omega

def magI (n : Int) : Int := max n (0 - n)
def okStep (l : List (List Int)) (sl : Int) (path : List Int) (i : Nat) : Bool := btw (path.getD i 0) 0 ((deepOf l : Int) - 1) && (decide (i = 0) || decide (magI (path.getD i 0 - path.getD (i - 1) 0) ≤ sl))
def isPath (l : List (List Int)) (sl : Int) (path : List Int) : Bool := decide (path.length = l.length) && (List.range path.length).all (okStep l sl path)

theorem path_step {l : List (List Int)} {sl : Int} {path : List Int} (h : isPath l sl path = true) {i : Nat} (hi : i < path.length) : okStep l sl path i = true := by
  simp only [isPath, Bool.and_eq_true, List.all_eq_true] at h
  exact h.2 i (by simpa using hi)

theorem path_le {l : List (List Int)} {sl : Nat} {path : List Int} (hd : 1 ≤ deepOf l) (h : isPath l sl path = true) : ∀ (d c : Nat), c + d + 1 = l.length → sumI l c (path.drop c) ≤ worthV l sl c (path.getD c 0).toNat := by
  have hlen : path.length = l.length := by simp only [isPath, Bool.and_eq_true, decide_eq_true_eq] at h; exact h.1
  intro d
  induction d with
  | zero =>
    intro c hc
    have h1 : c < path.length := by omega
    rw [List.drop_eq_getElem_cons h1, List.drop_eq_nil_of_le (by omega), worth_last (by omega), List.getD_eq_getElem?_getD, List.getElem?_eq_getElem h1]
    simp [sumI]
  | succ d ih =>
    intro c hc
    have h1 : c < path.length := by omega
    have h2 := ih (c + 1) (by omega)
    rw [List.drop_eq_getElem_cons h1]
    have e : path.getD c 0 = path[c] := by rw [List.getD_eq_getElem?_getD, List.getElem?_eq_getElem h1]; rfl
    simp only [sumI, ← e]
    have s0 := path_step h h1
    have s1 := path_step h (i := c + 1) (by omega)
    simp only [okStep, btw, Bool.and_eq_true, Bool.or_eq_true, decide_eq_true_eq, Nat.add_sub_cancel, magI] at s0 s1
    have hq : (path.getD (c + 1) 0).toNat ∈ nextN l.length (deepOf l) sl c (path.getD c 0).toNat := by
      rw [mem_next hd]; omega
    have := worth_ge (by omega) hq
    omega

theorem foldA_ge (g : Nat → Int) : ∀ (m : List Nat) (a : Nat), g a ≤ g (m.foldl (fun a i => if g i > g a then i else a) a) ∧ ∀ x ∈ m, g x ≤ g (m.foldl (fun a i => if g i > g a then i else a) a)
  | [], a => ⟨Int.le_refl _, fun x h => by simp at h⟩
  | y :: r, a => by
    obtain ⟨h1, h2⟩ := foldA_ge g r (if g y > g a then y else a)
    simp only [List.foldl_cons]
    have h3 : g a ≤ g (if g y > g a then y else a) ∧ g y ≤ g (if g y > g a then y else a) := by split <;> omega
    refine ⟨Int.le_trans h3.1 h1, fun x hx => ?_⟩
    rcases List.mem_cons.1 hx with rfl | hx
    · exact Int.le_trans h3.2 h1
    · exact h2 x hx

theorem argBest_ge {l : List (List Int)} {sl k i : Nat} (hi : i < k) : worthV l sl 0 i ≤ worthV l sl 0 (argBest l sl k) :=
  (foldA_ge (worthV l sl 0) (List.range k) 0).2 i (by simpa using hi)

/-- **NO PATH IS WORTH MORE.** -/
theorem path_best {l : List (List Int)} {sl : Nat} {path : List Int} (hn : 1 ≤ l.length) (hd : 1 ≤ deepOf l) (h : isPath l sl path = true) : sumI l 0 path ≤ worthV l sl 0 (argBest l sl (deepOf l)) := by
  have h1 := path_le hd h (l.length - 1) 0 (by omega)
  have hlen : path.length = l.length := by simp only [isPath, Bool.and_eq_true, decide_eq_true_eq] at h; exact h.1
  have s0 := path_step h (i := 0) (by omega)
  simp only [okStep, btw, Bool.and_eq_true, Bool.or_eq_true, decide_eq_true_eq] at s0
  have h2 := argBest_ge (l := l) (sl := sl) (k := deepOf l) (i := (path.getD 0 0).toNat) (by omega)
  rw [List.drop_zero] at h1
  exact Int.le_trans h1 h2

/-- A way from a value on. -/
theorem walk_spec {l : List (List Int)} {sl : Nat} (hd : 1 ≤ deepOf l) : ∀ (k c i : Nat), c + k + 1 = l.length → i < deepOf l →
    (walkN l sl k c i).length = k ∧ sumI l c ((i :: walkN l sl k c i).map fun (q : Nat) => (q : Int)) = worthV l sl c i ∧ ∀ j, j < k → ∃ p q, (i :: walkN l sl k c i)[j]? = some p ∧ (i :: walkN l sl k c i)[j + 1]? = some q ∧ q ∈ nextN l.length (deepOf l) sl (c + j) p
  | 0, c, i, hc, hi => by
    refine ⟨rfl, ?_, fun j hj => by omega⟩
    rw [worth_last (by omega)]
    simp [walkN, sumI]
  | k + 1, c, i, hc, hi => by
    obtain ⟨q, hq⟩ := Option.isSome_iff_exists.1 (firstQ_some (l := l) (sl := sl) (c := c) (by omega) hi)
    have hqn : q ∈ nextN l.length (deepOf l) sl c i := List.mem_of_find?_eq_some hq
    have hqe : worthV l sl (c + 1) q = worthV l sl c i - at2 l c i := by
      have := List.find?_some hq
      simpa using this
    have hqd := ((mem_next hd).1 hqn).2.2.2
    obtain ⟨h1, h2, h3⟩ := walk_spec (sl := sl) hd k (c + 1) q (by omega) hqd
    have ew : walkN l sl (k + 1) c i = q :: walkN l sl k (c + 1) q := by simp only [walkN, hq]
    rw [ew]
    refine ⟨by simp [h1], ?_, fun j hj => ?_⟩
    · rw [List.map_cons]
      simp only [sumI, h2, hqe, Int.toNat_natCast]
      omega
    · cases j with
      | zero => exact ⟨i, q, rfl, rfl, by simpa using hqn⟩
      | succ j =>
        obtain ⟨p, q', g1, g2, g3⟩ := h3 j (by omega)
        refine ⟨p, q', by simpa using g1, by simpa using g2, ?_⟩
        rw [show c + (j + 1) = c + 1 + j by omega]; exact g3

def bestP (l : List (List Int)) (sl : Nat) : List Int := (argBest l sl (deepOf l) :: walkN l sl (l.length - 1) 0 (argBest l sl (deepOf l))).map fun (q : Nat) => (q : Int)

theorem bestP_is {l : List (List Int)} {sl : Nat} (hn : 1 ≤ l.length) (hd : 1 ≤ deepOf l) : isPath l sl (bestP l sl) = true ∧ sumI l 0 (bestP l sl) = worthV l sl 0 (argBest l sl (deepOf l)) := by
  have hb : argBest l sl (deepOf l) < deepOf l := argBest_lt (by omega)
  obtain ⟨h1, h2, h3⟩ := walk_spec (sl := sl) hd (l.length - 1) 0 _ (by omega) hb
  refine ⟨?_, h2⟩
  have hlen : (bestP l sl).length = l.length := by simp [bestP, h1]; omega
  simp only [isPath, Bool.and_eq_true, decide_eq_true_eq, List.all_eq_true]
  refine ⟨hlen, fun i hi => ?_⟩
  have hi : i < l.length := by simpa [hlen] using hi
  simp only [okStep, btw, Bool.and_eq_true, Bool.or_eq_true, decide_eq_true_eq, magI]
  cases i with
  | zero =>
    simp [bestP]; omega
  | succ j =>
    obtain ⟨p, q, g1, g2, g3⟩ := h3 j (by omega)
    have e1 : (bestP l sl).getD j 0 = (p : Int) := by
      rw [List.getD_eq_getElem?_getD]; unfold bestP; rw [List.getElem?_map, g1]; rfl
    have e2 : (bestP l sl).getD (j + 1) 0 = (q : Int) := by
      rw [List.getD_eq_getElem?_getD]; unfold bestP; rw [List.getElem?_map, g2]; rfl
    rw [Nat.add_sub_cancel, e1, e2]
    have h9 := (mem_next hd).1 g3
    refine ⟨⟨by omega, by omega⟩, .inr ?_⟩
    have a1 : (q : Int) - (p : Int) ≤ (sl : Int) := by omega
    have a2 : 0 - ((q : Int) - (p : Int)) ≤ (sl : Int) := by omega
    exact decide_eq_true (Int.max_le.2 ⟨a1, a2⟩)

/-! ### Potentials -/
theorem backs_ge {v b : List (List Int)} {sl : Nat} (hd : 1 ≤ deepOf v) (hok : okTo v b sl v.length = true) : ∀ (d c i : Nat), c + d + 1 = v.length → i < deepOf v → worthV v sl c i ≤ at2 b c i := by
  have hat : ∀ c i, c < v.length → i < deepOf v → okAt v b sl c i = true := fun c i hc hi => by
    unfold okTo at hok
    rw [List.all_eq_true] at hok
    have := hok c (by simpa using hc)
    unfold okCol at this
    rw [List.all_eq_true] at this
    exact this i (by simpa using hi)
  intro d
  induction d with
  | zero =>
    intro c i hc hi
    have h := hat c i (by omega) hi
    rw [worth_last (by omega)]
    simp only [okAt, Bool.and_eq_true, Bool.or_eq_true, decide_eq_true_eq] at h
    omega
  | succ d ih =>
    intro c i hc hi
    have h := hat c i (by omega) hi
    simp only [okAt, Bool.and_eq_true, List.all_eq_true] at h
    have hne : (nextN v.length (deepOf v) sl c i).map (worthV v sl (c + 1)) ≠ [] := by
      intro e
      have := mem_next_self (n := v.length) (d := deepOf v) (sl := sl) (c := c) (i := i) (by omega) hi
      rw [List.map_eq_nil_iff] at e
      rw [e] at this; cases this
    obtain ⟨q, h1, h2⟩ := List.mem_map.1 (best_mem hne)
    have h3 := h.2 q h1
    simp only [okNext, decide_eq_true_eq] at h3
    have h4 := ih (c + 1) q (by omega) ((mem_next hd).1 h1).2.2.2
    rw [worthV_eq (by omega), ← h2]
    omega

theorem foldM_ge : ∀ (r : List Int) (a : Int), a ≤ r.foldl max a ∧ ∀ x ∈ r, x ≤ r.foldl max a
  | [], a => ⟨Int.le_refl _, fun x h => by simp at h⟩
  | y :: r, a => by
    obtain ⟨h1, h2⟩ := foldM_ge r (max a y)
    simp only [List.foldl_cons]
    refine ⟨by omega, fun x hx => ?_⟩
    rcases List.mem_cons.1 hx with rfl | hx
    · omega
    · exact h2 x hx

theorem max_ge {L : List Int} {i : Nat} (hi : i < L.length) : L.getD i 0 ≤ L.tail.foldl max (L.headD 0) := by
  cases L with
  | nil => simp at hi
  | cons a r =>
    obtain ⟨h1, h2⟩ := foldM_ge r a
    cases i with
    | zero => simpa using h1
    | succ i =>
      have hi : i < r.length := by simpa using hi
      rw [List.getD_cons_succ, List.getD_eq_getElem?_getD, List.getElem?_eq_getElem hi]
      exact h2 _ (List.getElem_mem hi)

/-- **POTENTIALS BOUND IT.** -/
theorem backs_best {v b : List (List Int)} {sl : Nat} (hn : 1 ≤ v.length) (hd : 1 ≤ deepOf v) (hb : backsOk v b = true) (hok : okTo v b sl v.length = true) :
    worthV v sl 0 (argBest v sl (deepOf v)) ≤ (b.headD []).tail.foldl max ((b.headD []).headD 0) := by
  have hba : argBest v sl (deepOf v) < deepOf v := argBest_lt (by omega)
  have h1 := backs_ge hd hok (v.length - 1) 0 (argBest v sl (deepOf v)) (by omega) hba
  simp only [backsOk, Bool.and_eq_true, decide_eq_true_eq] at hb
  have hl : argBest v sl (deepOf v) < (b.headD []).length := by
    have : (b.headD []).length = deepOf b := rfl
    omega
  have h2 := max_ge hl
  have e : at2 b 0 (argBest v sl (deepOf v)) = (b.headD []).getD (argBest v sl (deepOf v)) 0 := by
    unfold at2
    cases b with
    | nil => rfl
    | cons a r => rfl
  omega

end Go.Proofs.Ytecggpjpckicgaa

/-! Contracts: potentials in the specification; the law VolumeBacked. -/
set_option linter.unusedVariables false
set_option linter.unusedSimpArgs false
set_option maxRecDepth 20000
set_option maxHeartbeats 2000000
namespace Go.Proofs.Ytecggpjpckicgaa
open Go.Am
attribute [local simp] cells scalar mkv splice under2 under dem dem1

theorem c_Magnitude (n : Int) (h : -1000000000000000 ≤ n ∧ n ≤ 1000000000000000) : C Try.prog F.ref00_Magnitude [I n] (I (magI n)) := by
  refine C_of mixed chk.ref00_Magnitude (by simp) fun S ok => ?_
  refine Tr.seqR rfl (by simp) (Tr.seqR rfl (by simp) (Tr.retX rfl rfl rfl ?_ trivial))
  show I (magI n) = I (bif true then (if IntKind.i64.wrap (0 - n) > n then IntKind.i64.wrap (0 - n) else n) else _)
  rw [cond_true, ite_max, w64 (n := 0 - n) (by omega) (by omega)]
  rfl

def backCol (v : List (List Int)) (c : List Int) : Bool := c.length == deepOf v && c.all fun n => btw n (-70368744177664) 70368744177664

theorem backs_all {v b : List (List Int)} (h0 : 0 < v.length) (hl : b.length = v.length) : b.all (backCol v) = backsOk v b := by
  unfold backsOk
  rw [show b.all (backCol v) = ((b.all fun c => c.length == deepOf v) && numsOk 70368744177664 b) from all_and' _ _ b]
  have hb0 : 0 < b.length := by omega
  have e : (b.all fun c => c.length == deepOf v) = (evenL b && decide (deepOf b = deepOf v)) := by
    by_cases hd : deepOf b = deepOf v
    · unfold evenL; rw [hd]; simp
    · rw [decide_eq_false hd, Bool.and_false]
      refine all_false hb0 ?_
      rw [← deepOf_eq hb0]
      simpa using hd
  rw [e]
  by_cases hd : deepOf b = deepOf v <;> simp [hb0, hl, hd, h0]

theorem okTo_false {v b : List (List Int)} {sl c i : Nat} (hc : c < v.length) (hi : i < deepOf v) (h : okAt v b sl c i = false) : okTo v b sl v.length = false := by
  unfold okTo okCol
  rw [List.all_eq_false]
  refine ⟨c, by simpa using hc, fun hall => ?_⟩
  have := List.all_eq_true.1 hall i (by simpa using hi)
  rw [h] at this; cases this

end Go.Proofs.Ytecggpjpckicgaa

/-! The law VolumeTop. -/
set_option linter.unusedVariables false
set_option linter.unusedSimpArgs false
set_option maxRecDepth 20000
set_option maxHeartbeats 2000000
namespace Go.Proofs.Ytecggpjpckicgaa
open Go.Am
attribute [local simp] cells scalar mkv splice under2 under dem dem1

theorem getD_nat {α : Type} {e : α → V} {l : List α} {k : Nat} (h : k < l.length) : (l.map e).getD k nothing = e l[k] := by
  simp [h]

def worthR (l : List (List Int)) (sl : Int) (path : List Int) : V := .tuple [I (if isPath l sl path then sumI l 0 path else 0), .bool (isPath l sl path)]

theorem path_bad {l : List (List Int)} {sl : Int} {path : List Int} {i : Nat} (hi : i < path.length) (h : okStep l sl path i = false) : isPath l sl path = false := by
  unfold isPath
  rw [List.all_eq_false.2 ⟨i, by simpa using hi, by simp [h]⟩, Bool.and_false]

theorem sumI_bd {l : List (List Int)} (h : numsOk 1099511627776 l = true) : ∀ (c : Nat) (p : List Int), -((p.length : Int) * 1099511627776) ≤ sumI l c p ∧ sumI l c p ≤ (p.length : Int) * 1099511627776
  | c, [] => by simp [sumI]
  | c, x :: r => by
    have h1 := sumI_bd h (c + 1) r
    have h2 := at2_bd h c x.toNat
    simp only [sumI, List.length_cons]
    push_cast
    omega

theorem c_worth {l : List (List Int)} (hE : secOk l = true) {sl : Nat} (hsl : sl ≤ 32) (path : List Int) (hp : path.length ≤ 9223372036854775807) : C Try.prog F.law10_worth [secV l, I sl, intsV path] (worthR l sl path) := by
  obtain ⟨hev, hn, hd, hnum⟩ := secOk_spec hE
  refine C_of mixed chk.law10_worth (by simp) fun S ok => ?_
  refine Tr.seqR rfl (by simp) ?_
  refine Tr.seq (Tr.seqR rfl (by simp [intsV, secV]) (Tr.cond rfl rfl (fun h1 => Tr.seqR rfl (by simp) (Tr.retX rfl rfl rfl ?_ trivial)) (fun h1 => Tr.skip ?_)))
  · have h1 : (((path.map I).length : Int) != ((l.map intsV).length : Int)) = true := h1
    have : ¬ path.length = l.length := by simp at h1; omega
    have : isPath l sl path = false := by unfold isPath; simp [this]
    simp [packR, worthR, this]
  have h1 : (((path.map I).length : Int) != ((l.map intsV).length : Int)) = false := h1
  have hlen : path.length = l.length := by simp at h1; omega
  refine Tr.seqR rfl (by simp) (Tr.seq (Tr.seqR rfl (by simp) (Tr.block ?_)))
  refine Tr.loop (fun k s => (k ≤ path.length ∧ ∀ i, i < k → okStep l sl path i = true) ∧ s = { env := [(0, secV l), (1, I sl), (2, intsV path), (8, I (sumI l 0 (path.take k))), (9, I k)], bx := [], rw := [], log := [], stp := false }) (fun k => path.length - k) 0
    (Wk.le (.cons rfl (.refl _) (.cons rfl (.refl _) (.cons rfl (.refl _) (.cons rfl (.refl _) (.cons rfl (.refl _) .nil))))) .nil .nil rfl rfl) ⟨⟨by omega, fun i hi => by omega⟩, rfl⟩ ?_
  rintro k s ⟨⟨hk, hok⟩, rfl⟩
  refine Tr.seq (Tr.seqR rfl (by simp [intsV]) (Tr.cond rfl rfl (fun h2 => Tr.skip ?_) (fun h2 => Tr.exit ?_)))
  rotate_left
  · have h2 : k = path.length := by simp at h2; omega
    subst h2
    have : isPath l sl path = true := by
      unfold isPath
      rw [decide_eq_true hlen, Bool.true_and, List.all_eq_true]
      exact fun i hi => hok i (by simpa using hi)
    refine Tr.seqR rfl (by simp) (Tr.retX rfl rfl rfl ?_ trivial)
    rw [List.take_length]
    simp [packR, worthR, this]
  have h2 : k < path.length := by simpa using h2
  have hkl : k < l.length := by omega
  have hll : l[k].length = deepOf l := evenL_spec hev hkl
  have wd : IntKind.i64.wrap (((l[k].map I).length : Int) - 1) = (deepOf l : Int) - 1 := by rw [List.length_map, hll]; exact w64 (by omega) (by omega)
  have hj : (IntKind.i64.wrap ((k : Int) - 1)).toNat < path.length := by rw [w64 (by omega) (by omega)]; omega
  obtain ⟨j, hje⟩ : ∃ j, (IntKind.i64.wrap ((k : Int) - 1)).toNat = j := ⟨_, rfl⟩
  rw [hje] at hj
  have hj1 : 0 < k → j = k - 1 := fun h => by rw [w64 (by omega) (by omega)] at hje; omega
  have ek : path.getD k 0 = path[k] := by rw [List.getD_eq_getElem?_getD, List.getElem?_eq_getElem h2]; rfl
  have ej : 0 < k → path.getD (k - 1) 0 = path[j] := fun h => by
    have := hj1 h; subst this
    rw [List.getD_eq_getElem?_getD, List.getElem?_eq_getElem hj]; rfl
  have hjb : 0 < k → 0 ≤ path[j] ∧ path[j] ≤ 31 := fun h => by
    have h3 := hok (k - 1) (by omega)
    simp only [okStep, Bool.and_eq_true] at h3
    rw [ej h] at h3
    have h4 : 0 ≤ path[j] ∧ path[j] ≤ (deepOf l : Int) - 1 := by simpa [btw] using h3.1
    omega
  refine Tr.seq (Tr.block (Tr.seq (Tr.seq (Tr.drawK (TraceK.runN 3 rfl (by simp [intsV]; omega) ?_)))))
  rw [getD_map h2]
  refine TraceK.runN 4 rfl (by simp [secV]; omega) ?_
  rw [getD_map hkl]
  refine TraceK.run rfl (by simp [intsV]) ?_
  rw [wd]
  refine TraceK.call rfl rfl (c_between path[k] 0 ((deepOf l : Int) - 1)) ?_
  refine TraceK.runN 8 rfl (by simp [intsV]; exact fun x y => ⟨by omega, x, y⟩) ?_
  rw [getD_map h2]
  refine TraceK.runN 5 rfl (by simp [intsV]; exact fun x y => ⟨by rw [w64 (by omega) (by omega)]; omega, x, y⟩) ?_
  rw [hje, getD_nat hj]
  refine TraceK.run rfl (by simp) ?_
  have hM : (!btw path[k] 0 ((deepOf l : Int) - 1)) = false → 0 < k → IntKind.i64.wrap (path[k] - path[j]) = path[k] - path[j] ∧ -1000 ≤ path[k] - path[j] ∧ path[k] - path[j] ≤ 1000 := fun hb h => by
    have h4 := hjb h
    have h5 : 0 ≤ path[k] ∧ path[k] ≤ (deepOf l : Int) - 1 := by simpa [btw] using hb
    exact ⟨w64 (by omega) (by omega), by omega, by omega⟩
  refine TraceK.gcall (r := I (magI (IntKind.i64.wrap (path[k] - path[j])))) rfl rfl rfl rfl (by simp) (fun e => ?_) ?_
  · have e' : ((!btw path[k] 0 ((deepOf l : Int) - 1)) == false && (decide ((k : Int) > 0) == true)) = true := e
    simp only [Bool.and_eq_true, beq_iff_eq, decide_eq_true_eq] at e'
    have h5 := hM e'.1 (by omega)
    exact c_Magnitude _ (by rw [h5.1]; omega)
  refine TraceK.runN 2 rfl (by simp) ?_
  refine TraceK.gpick rfl rfl rfl (fun _ => rfl) rfl rfl (by simp; exact fun x => ⟨fun y => ⟨x, y⟩, x⟩) ?_
  refine TraceK.run rfl (by simp) (.done ⟨by kernel_rfl, by kernel_rfl, ?_⟩)
  have hstep : ∀ c : Bool, (bif (!btw path[k] 0 ((deepOf l : Int) - 1)) then true else (bif decide ((k : Int) > 0) then decide (magI (IntKind.i64.wrap (path[k] - path[j])) > (sl : Int)) else false)) = c → c = !okStep l sl path k := by
    rintro c rfl
    unfold okStep
    rw [ek]
    cases hb : btw path[k] 0 ((deepOf l : Int) - 1) with
    | false => rfl
    | true =>
      by_cases h : 0 < k
      · have h5 := hM (by rw [hb]; rfl) h
        rw [h5.1, ej h]
        have e1 : decide ((k : Int) > 0) = true := by simp; omega
        have e2 : decide (k = 0) = false := by simp; omega
        rw [e1, e2]
        by_cases h6 : magI (path[k] - path[j]) ≤ (sl : Int)
        · have h7 : ¬ magI (path[k] - path[j]) > (sl : Int) := by omega
          simp only [decide_eq_true h6, decide_eq_false h7]; rfl
        · have h7 : magI (path[k] - path[j]) > (sl : Int) := by omega
          simp only [decide_eq_false h6, decide_eq_true h7]; rfl
      · have : k = 0 := by omega
        subst this; rfl
  refine Tr.cond rfl rfl (fun h3 => Tr.seqR rfl (by simp) (Tr.retX rfl rfl rfl ?_ trivial)) (fun h3 => Tr.skip ?_)
  · have h4 := not_of (hstep true h3)
    have : isPath l sl path = false := path_bad h2 h4
    simp [packR, worthR, this]
  have h4 : okStep l sl path k = true := not_of (hstep false h3)
  have h5 : 0 ≤ path[k] ∧ path[k] ≤ (deepOf l : Int) - 1 := by
    have h4' := h4
    simp only [okStep, Bool.and_eq_true] at h4'
    rw [ek] at h4'
    simpa [btw] using h4'.1
  obtain ⟨q, hq⟩ : ∃ q : Nat, path[k] = (q : Int) := ⟨path[k].toNat, by omega⟩
  have hql : q < l[k].length := by omega
  refine Tr.weak (s' := { env := [(0, secV l), (1, I sl), (2, intsV path), (8, I (sumI l 0 (path.take k))), (9, I k)], bx := [], rw := [], log := [], stp := false })
    (Wk.le (.cons rfl (.refl _) (.cons rfl (.refl _) (.cons rfl (.refl _) (.cons rfl (.refl _) (.cons rfl (.refl _) .nil))))) .nil .nil rfl rfl) ?_
  refine Tr.drawK (TraceK.runN 4 rfl (by simp [secV]; omega) ?_)
  rw [getD_map hkl]
  refine TraceK.runN 4 rfl (by simp [intsV]; omega) ?_
  rw [getD_map h2, hq]
  refine TraceK.runN 2 rfl (by simp [intsV]; omega) ?_
  rw [getD_map hql]
  refine TraceK.run rfl (by simp) (.done ⟨by kernel_rfl, by kernel_rfl, ?_⟩)
  have hs1 : sumI l 0 (path.take (k + 1)) = sumI l 0 (path.take k) + l[k][q] := by
    rw [List.take_add_one, List.getElem?_eq_getElem h2, sumI_append, hq]
    simp only [Option.toList, sumI, Int.toNat_natCast, List.length_take, Nat.min_eq_left (Nat.le_of_lt h2), Nat.zero_add, at2_eq hkl hql]
    omega
  have hb := sumI_bd hnum 0 (path.take k)
  have hlq := numsOk_spec hnum hkl hql
  rw [List.length_take, Nat.min_eq_left (Nat.le_of_lt h2)] at hb
  refine Tr.regR rfl (by simp) ?_
  refine ⟨k + 1, _, Wk.le (.cons rfl (.refl _) (.cons rfl (.refl _) (.cons rfl (.refl _) (.cons rfl (VLe.i ?_) (.cons rfl (VLe.i (w64 (by omega) (by omega))) .nil))))) .nil .nil rfl rfl, ⟨⟨h2, fun i hi => ?_⟩, rfl⟩, by omega⟩
  · rw [hs1]; exact w64 (by omega) (by omega)
  · by_cases e : i = k
    · subst e; exact h4
    · exact hok i (by omega)

theorem nats_ints (l : List (List Int)) (sl : Nat) : V.slice 0 1 (natsV (argBest l sl (deepOf l) :: walkN l sl (l.length - 1) 0 (argBest l sl (deepOf l)))) = intsV (bestP l sl) := by
  unfold natsV intsV bestP
  rw [List.map_map]; rfl

theorem hor_cases (l : List (List Int)) (slope : Int) : (∃ sl : Nat, slope = (sl : Int) ∧ sl ≤ 32 ∧ secOk l = true ∧ horR l slope = .tuple [intsV (bestP l sl), I (worthV l sl 0 (argBest l sl (deepOf l))), I 0]) ∨
    ∃ e : Int, e ≠ 0 ∧ horR l slope = .tuple [intsV [], I 0, I e] ∧ ∀ b, backR l slope b = (0, e) := by
  unfold horR backR
  by_cases hE : secOk l = true
  · by_cases hS : btw slope 0 32 = true
    · refine .inl ⟨slope.toNat, by simp [btw] at hS; omega, by simp [btw] at hS; omega, hE, ?_⟩
      rw [if_pos hE, if_pos hS, nats_ints]
    · exact .inr ⟨7, by omega, by rw [if_pos hE, if_neg hS]; rfl, fun b => by rw [if_pos hE, if_neg hS]⟩
  · exact .inr ⟨105, by omega, by rw [if_neg hE]; rfl, fun b => by rw [if_neg hE]⟩

theorem c_VolumeTop {l b : List (List Int)} (hl : saneS l) (slope : Int) {path : List Int} (hp : path.length ≤ 9223372036854775807) (hb : saneS b) : C Try.prog F.law10_VolumeTop [secV l, I slope, .agg [intsV path, secV b]] (.bool true) := by
  refine C_of mixed chk.law10_VolumeTop (by simp) fun S ok => ?_
  refine Tr.seqR rfl (by simp [intsV, secV]) ?_
  rcases hor_cases l slope with ⟨sl, rfl, hsl, hE, hH⟩ | ⟨e, he, hH, hB⟩
  rotate_left
  · have hBk := c_Backed hl hb slope
    rw [hB] at hBk
    refine Tr.seqC rfl (by simp [secV]) (Steps.call rfl rfl (hH ▸ c_Horizon hl slope) (Steps.fin rfl (by simp) ?_))
    refine Tr.seqC rfl (by simp [secV]) (Steps.call rfl rfl hBk (Steps.fin rfl (by simp) ?_))
    refine Tr.seq (Tr.seqR rfl (by simp) (Tr.cond rfl rfl (fun _ => ?_) (fun h1 => ?_)))
    · refine Tr.seqC rfl (by simp [intsV]) (Steps.gcall rfl rfl rfl rfl (by simp) (fun _ => c_works) (Steps.fin rfl (by simp) (Tr.retX rfl rfl rfl ?_ trivial)))
      simp [packR, intsV]
    · have h1 : (e != 0) = false := h1
      simp at h1; exact absurd h1 he
  obtain ⟨hev, hn, hd, hnum⟩ := secOk_spec hE
  obtain ⟨hP, hW⟩ := bestP_is (l := l) (sl := sl) hn.1 hd.1
  have hPl : (bestP l sl).length = l.length := by simp only [isPath, Bool.and_eq_true, decide_eq_true_eq] at hP; exact hP.1
  obtain ⟨M, hM⟩ : ∃ M, worthV l sl 0 (argBest l sl (deepOf l)) = M := ⟨_, rfl⟩
  rw [hM] at hH hW
  have hw1 := c_worth hE hsl (bestP l sl) (by omega)
  unfold worthR at hw1
  rw [if_pos hP, hP, hW] at hw1
  obtain ⟨n2, i2, hw2, hle⟩ : ∃ (n : Int) (i : Bool), worthR l sl path = .tuple [I n, .bool i] ∧ (i = true → n ≤ M) := by
    refine ⟨_, _, rfl, fun h => ?_⟩
    rw [if_pos h, ← hM]
    exact path_best hn.1 hd.1 h
  have hBk := c_Backed hl hb (sl : Int)
  obtain ⟨m, f, hB, hmf⟩ : ∃ m f : Int, backR l sl b = (m, f) ∧ ((f = 106 ∧ m = 0) ∨ (f = 0 ∧ M ≤ m)) := by
    unfold backR
    rw [if_pos hE, if_pos (by simp [btw]; omega), Int.toNat_natCast]
    by_cases hk : (backsOk l b && okTo l b sl l.length) = true
    · rw [if_pos hk]
      simp only [Bool.and_eq_true] at hk
      refine ⟨_, _, rfl, .inr ⟨rfl, ?_⟩⟩
      rw [← hM]; exact backs_best hn.1 hd.1 hk.1 hk.2
    · rw [if_neg hk]; exact ⟨_, _, rfl, .inl ⟨rfl, rfl⟩⟩
  rw [hB] at hBk
  refine Tr.seqC rfl (by simp [secV]) (Steps.call rfl rfl (hH ▸ c_Horizon hl (sl : Int)) (Steps.fin rfl (by simp) ?_))
  refine Tr.seqC rfl (by simp [secV]) (Steps.call rfl rfl hBk (Steps.fin rfl (by simp) ?_))
  refine Tr.seq (Tr.seqR rfl (by simp) (Tr.condF rfl (Tr.skip ?_)))
  refine Tr.seqC rfl (by simp [secV]) (Steps.call rfl rfl hw1 (Steps.fin rfl (by simp) ?_))
  refine Tr.seq (Tr.seqR rfl (by simp) (Tr.condF (by simp; rfl) (Tr.skip ?_)))
  refine Tr.seqC rfl (by simp [secV, intsV]) (Steps.call rfl rfl (hw2 ▸ c_worth hE hsl path hp) (Steps.fin rfl (by simp) ?_))
  refine Tr.seq (Tr.seqR rfl (by simp) (Tr.cond rfl rfl (fun h1 => ?_) (fun h1 => Tr.skip ?_)))
  · have h1 : (bif i2 then decide (n2 > M) else false) = true := h1
    cases i2 with
    | false => cases h1
    | true =>
      have := hle rfl
      simp at h1; omega
  rcases hmf with ⟨rfl, rfl⟩ | ⟨rfl, hMm⟩
  · refine Tr.seqC rfl (by simp) (Steps.gcall rfl rfl rfl rfl (by simp) (fun _ => c_works) (Steps.fin rfl (by simp) (Tr.retX rfl rfl rfl ?_ trivial)))
    simp [packR]
  · refine Tr.seqC rfl (by simp) (Steps.gcall rfl rfl rfl rfl (by simp) (fun _ => c_works) (Steps.fin rfl (by simp) (Tr.retX rfl rfl rfl ?_ trivial)))
    simp [packR, hMm]

end Go.Proofs.Ytecggpjpckicgaa

/-! The law VolumeSmooth, plainly: with a greater slope, or a greater value, the best horizon is not worth less. -/
set_option linter.unusedVariables false
set_option linter.unusedSimpArgs false
set_option maxRecDepth 20000
set_option maxHeartbeats 1000000
namespace Go.Proofs.Ytecggpjpckicgaa
open Go.Am

def bestW (l : List (List Int)) (sl : Nat) : Int := worthV l sl 0 (argBest l sl (deepOf l))

theorem step_mono {l : List (List Int)} {a b : Int} (h : a ≤ b) {p : List Int} {i : Nat} (hs : okStep l a p i = true) : okStep l b p i = true := by
  simp only [okStep, Bool.and_eq_true, Bool.or_eq_true, decide_eq_true_eq] at hs ⊢
  refine ⟨hs.1, hs.2.imp id fun h1 => by omega⟩

theorem isPath_mono {l : List (List Int)} {a b : Int} (h : a ≤ b) {p : List Int} (hp : isPath l a p = true) : isPath l b p = true := by
  simp only [isPath, Bool.and_eq_true, List.all_eq_true] at hp ⊢
  exact ⟨hp.1, fun i hi => step_mono h (hp.2 i hi)⟩

theorem best_slope {l : List (List Int)} {a b : Nat} (hn : 1 ≤ l.length) (hd : 1 ≤ deepOf l) (h : a ≤ b) : bestW l a ≤ bestW l b := by
  obtain ⟨hP, hW⟩ := bestP_is (l := l) (sl := a) hn hd
  unfold bestW
  rw [← hW]
  exact path_best hn hd (isPath_mono (by omega) hP)

/-- The louder section. -/
def loudR (r : List Int) (k : Nat) : List Int := r.set k (min 1099511627776 (r.getD k 0 + 9))
def loudS (l : List (List Int)) (i k : Nat) : List (List Int) := l.set i (loudR (l.getD i []) k)

theorem btwI (n lo hi : Int) : btw n lo hi = true ↔ lo ≤ n ∧ n ≤ hi := by simp [btw]

theorem getD_mem {r : List Int} {k : Nat} (h : k < r.length) : r.getD k 0 ∈ r := by
  rw [List.getD_eq_getElem?_getD, List.getElem?_eq_getElem h]; exact List.getElem_mem _

theorem set_neD {α : Type} {l : List α} {i c : Nat} {r d : α} (h : c ≠ i) : (l.set i r).getD c d = l.getD c d := by
  rw [List.getD_eq_getElem?_getD, List.getElem?_set_ne (by omega), ← List.getD_eq_getElem?_getD]

variable {l : List (List Int)} {i k : Nat}

theorem loud_deep (l : List (List Int)) (i k : Nat) : deepOf (loudS l i k) = deepOf l := by
  unfold loudS deepOf
  cases l with
  | nil => rfl
  | cons a r =>
    cases i with
    | zero => simp [loudR]
    | succ i => simp

theorem loud_row (hE : secOk l = true) (hi : i < l.length) : (l.getD i []).length = deepOf l ∧ (∀ n ∈ l.getD i [], -1099511627776 ≤ n ∧ n ≤ 1099511627776) := by
  obtain ⟨hev, hn, hd, hnum⟩ := secOk_spec hE
  have e : l.getD i [] = l[i] := by rw [List.getD_eq_getElem?_getD, List.getElem?_eq_getElem hi]; rfl
  rw [e]
  refine ⟨evenL_spec hev hi, fun n h => ?_⟩
  obtain ⟨j, hj, rfl⟩ := List.mem_iff_getElem.1 h
  exact numsOk_spec hnum hi hj

theorem loud_ok (hE : secOk l = true) (hi : i < l.length) (hk : k < deepOf l) : secOk (loudS l i k) = true := by
  obtain ⟨hr, hb⟩ := loud_row hE hi
  have hdp := loud_deep l i k
  have h := hE
  simp only [secOk, Bool.and_eq_true, evenL, numsOk, List.all_eq_true] at h ⊢
  rw [hdp]
  refine ⟨⟨⟨fun c hc => ?_, by simp only [loudS, List.length_set]; exact h.1.1.2⟩, h.1.2⟩, fun c hc => ?_⟩
  · rcases List.mem_or_eq_of_mem_set hc with hc | rfl
    · exact h.1.1.1 c hc
    · simp only [loudR, List.length_set, hr, beq_self_eq_true]
  · rcases List.mem_or_eq_of_mem_set hc with hc | rfl
    · exact h.2 c hc
    · intro n hn
      rcases List.mem_or_eq_of_mem_set hn with hn | rfl
      · exact (btwI _ _ _).2 (hb n hn)
      · refine (btwI _ _ _).2 ?_
        have := hb ((l.getD i []).getD k 0) (getD_mem (by omega))
        omega

theorem loud_at (hE : secOk l = true) (hi : i < l.length) (hk : k < deepOf l) : ∃ d : Int, (0 ≤ d ∧ d ≤ 9) ∧ ∀ c x, at2 (loudS l i k) c x = at2 l c x + if c = i ∧ x = k then d else 0 := by
  obtain ⟨hr, hb⟩ := loud_row hE hi
  have hv := hb ((l.getD i []).getD k 0) (getD_mem (by omega))
  refine ⟨min 1099511627776 ((l.getD i []).getD k 0 + 9) - (l.getD i []).getD k 0, by omega, fun c x => ?_⟩
  unfold at2 loudS
  by_cases hc : c = i
  · subst hc
    have e : (l.set c (loudR (l.getD c []) k)).getD c [] = loudR (l.getD c []) k := by
      rw [List.getD_eq_getElem?_getD, List.getElem?_set_self hi]; rfl
    rw [e]
    by_cases hx : x = k
    · subst hx
      have e2 : (loudR (l.getD c []) x).getD x 0 = min 1099511627776 ((l.getD c []).getD x 0 + 9) := by
        unfold loudR
        rw [List.getD_eq_getElem?_getD, List.getElem?_set_self (by omega)]; rfl
      rw [e2, if_pos ⟨rfl, rfl⟩]
      omega
    · have e2 : (loudR (l.getD c []) k).getD x 0 = (l.getD c []).getD x 0 := by
        unfold loudR
        rw [set_neD hx]
      rw [e2, if_neg (fun h => hx h.2)]
      omega
  · rw [set_neD hc, if_neg (fun h => hc h.1)]
    omega

theorem loud_sum (hE : secOk l = true) (hi : i < l.length) (hk : k < deepOf l) : ∀ (p : List Int) (c : Nat), sumI l c p ≤ sumI (loudS l i k) c p ∧ sumI (loudS l i k) c p ≤ sumI l c p + if c ≤ i then 9 else 0 := by
  obtain ⟨d, hd, hat⟩ := loud_at hE hi hk
  intro p
  induction p with
  | nil => intro c; simp only [sumI]; split <;> omega
  | cons x r ih =>
    intro c
    have h := ih (c + 1)
    have ha := hat c x.toNat
    simp only [sumI]
    rw [ha]
    by_cases hc : c = i
    · subst hc
      rw [if_neg (by omega : ¬ c + 1 ≤ c)] at h
      rw [if_pos (Nat.le_refl _)]
      split <;> omega
    · rw [if_neg (fun e => hc e.1)]
      by_cases hl : c ≤ i
      · rw [if_pos (by omega)] at h; rw [if_pos hl]; omega
      · rw [if_neg (by omega)] at h; rw [if_neg hl]; omega

theorem loud_path (l : List (List Int)) (i k : Nat) (sl : Int) (p : List Int) : isPath (loudS l i k) sl p = isPath l sl p := by
  have hdp := loud_deep l i k
  have hln : (loudS l i k).length = l.length := by simp [loudS]
  unfold isPath
  rw [hln]
  congr 2
  funext j
  unfold okStep
  rw [hdp]

theorem loud_best (hE : secOk l = true) (hi : i < l.length) (hk : k < deepOf l) (sl : Nat) : bestW l sl ≤ bestW (loudS l i k) sl ∧ bestW (loudS l i k) sl ≤ bestW l sl + 9 := by
  obtain ⟨hev, hn, hd, hnum⟩ := secOk_spec hE
  have hdp := loud_deep l i k
  have hln : (loudS l i k).length = l.length := by simp [loudS]
  obtain ⟨hP, hW⟩ := bestP_is (l := l) (sl := sl) hn.1 hd.1
  obtain ⟨hP2, hW2⟩ := bestP_is (l := loudS l i k) (sl := sl) (by rw [hln]; exact hn.1) (by rw [hdp]; exact hd.1)
  have h1 := path_best (l := loudS l i k) (sl := sl) (path := bestP l sl) (by rw [hln]; exact hn.1) (by rw [hdp]; exact hd.1) (by rw [loud_path l i k]; exact hP)
  have h2 := path_best (l := l) (sl := sl) (path := bestP (loudS l i k) sl) hn.1 hd.1 (by rw [← loud_path l i k]; exact hP2)
  have s1 := loud_sum hE hi hk (bestP l sl) 0
  have s2 := loud_sum hE hi hk (bestP (loudS l i k) sl) 0
  rw [if_pos (by omega)] at s1 s2
  unfold bestW
  omega

end Go.Proofs.Ytecggpjpckicgaa

/-! Plain facts: values and enclosures as sums over what is near. -/
set_option linter.unusedVariables false
set_option linter.unusedSimpArgs false
set_option maxRecDepth 20000
namespace Go.Proofs.Ytecggpjpckicgaa
open Go.Am

theorem w_range (n : Int) : -9223372036854775808 ≤ w n ∧ w n < 9223372036854775808 := by
  have e : ∀ m : Int, m = n % 18446744073709551616 → -9223372036854775808 ≤ (if (true && decide (m ≥ 9223372036854775808)) = true then m - 18446744073709551616 else m) ∧ (if (true && decide (m ≥ 9223372036854775808)) = true then m - 18446744073709551616 else m) < 9223372036854775808 := by
    intro m hm
    by_cases h : m ≥ 9223372036854775808
    · simp only [h, decide_true, Bool.and_self, if_true]; omega
    · simp only [h, decide_false, Bool.and_false, Bool.false_eq_true, if_false]; omega
  exact e _ rfl

theorem w_w (n : Int) : w (w n) = w n := w64 (w_range n).1 (w_range n).2

/-- What the sample at a time is; nothing, if there is none. -/
def smp (s : List (Int × Int)) (z d slow : Int) : Int × Int := s.getD (timeN z d slow).toNat (0, 0)
def valC (h : Ear) (z : Int) (p : Int × Int) : Int × Int := smp (sAt h p.1) z p.2 h.slow.1

def nrm (a : Int × Int) : Prop := w a.1 = a.1 ∧ w a.2 = a.2
theorem nrm_plus (a b : Int × Int) : nrm (plusB a b) := ⟨w_w _, w_w _⟩
theorem nrm0 : nrm (0, 0) := ⟨w64 (by omega) (by omega), w64 (by omega) (by omega)⟩
theorem plus0 {a : Int × Int} (h : nrm a) : plusB a (0, 0) = a := by
  obtain ⟨x, y⟩ := a
  obtain ⟨h1, h2⟩ := h
  simp only at h1 h2
  simp only [plusB, Int.add_zero, h1, h2]

theorem fold_filter {α β : Type} (f : α → Option β) (g : β → Int × Int) : ∀ (L : List α) (acc : Int × Int), nrm acc →
    ((L.filterMap f).map g).foldl plusB acc = (L.map fun p => match f p with | some r => g r | none => (0, 0)).foldl plusB acc
  | [], acc, _ => rfl
  | p :: r, acc, h => by
    simp only [List.filterMap_cons, List.map_cons, List.foldl_cons]
    cases hf : f p with
    | none => simp only [plus0 h]; exact fold_filter f g r acc h
    | some q => simp only [List.map_cons, List.foldl_cons]; exact fold_filter f g r _ (nrm_plus _ _)

theorem map_congr' {α β : Type} {f g : α → β} {L : List α} (h : ∀ p ∈ L, f p = g p) : L.map f = L.map g := List.map_congr_left h

theorem value_sum (h : Ear) (x y z : Int) : valueB h x y z = ((nears h.aper x y h.l 0).map (valC h z)).foldl plusB (0, 0) := by
  unfold valueB namedL
  rw [fold_filter _ _ _ _ nrm0]
  congr 1
  refine map_congr' fun p hp => ?_
  obtain ⟨i, h1, h2⟩ := nears_mem hp
  have h1 : p.1 = (i : Int) := by simpa using h1
  have h0 := timeN_nn z p.2 h.slow.1
  have es : sAt h p.1 = h.l[i].s := by simp [sAt, h1, List.getElem?_eq_getElem h2]
  unfold refOf valC smp
  rw [es, h1]
  simp only [Int.toNat_natCast, List.getElem?_eq_getElem h2, Option.map_some, Option.getD_some]
  by_cases hc : timeN z p.2 h.slow.1 < (h.l[i].s.length : Int)
  · rw [if_pos hc]
    simp [boundAt, List.getElem?_eq_getElem h2, List.getD_eq_getElem?_getD]
  · rw [if_neg hc, List.getD_eq_getElem?_getD, List.getElem?_eq_none (by omega)]
    rfl

theorem reach_one (s : List (Int × Int)) (z d q : Int) : reachB s z d (q, q) = smp s z d q := by
  have h0 := timeN_nn z d q
  unfold reachB smp
  simp only
  obtain ⟨t, ht⟩ : ∃ t : Nat, timeN z d q = (t : Int) := ⟨_, (Int.toNat_of_nonneg h0).symm⟩
  rw [ht, Int.toNat_natCast]
  by_cases h1 : t < s.length
  · rw [reachG_drop h1, if_pos (Int.le_refl _), List.getD_eq_getElem?_getD, List.getElem?_eq_getElem h1]
    have e : decide ((t : Int) ≥ (s.length : Int)) = false := by simp; omega
    rw [e]
    simp only [stepB, Bool.false_eq_true, if_false, Option.getD_some]
    by_cases h2 : t + 1 < s.length
    · rw [reachG_drop h2, if_neg (by omega)]
    · rw [List.drop_eq_nil_of_le (by omega)]; rfl
  · rw [List.drop_eq_nil_of_le (by omega), List.getD_eq_getElem?_getD, List.getElem?_eq_none (by omega)]; rfl

/-- **ONE SLOWNESS**: the enclosure is the value. -/
theorem enc_one (l : List Echo) (aper q : Int) (p : Int × Int × Int) : encOf l aper (q, q) p = valOf l aper q p := by
  unfold encOf valOf encB
  rw [value_sum]
  congr 1
  refine map_congr' fun p _ => ?_
  exact reach_one _ _ _ _

/-! ### Bounds within bounds -/
def ins (a b : Int × Int) : Prop := b.1 ≤ a.1 ∧ a.2 ≤ b.2
def bdd (n : Int) (a : Int × Int) : Prop := (-n ≤ a.1 ∧ a.1 ≤ n) ∧ (-n ≤ a.2 ∧ a.2 ≤ n)

theorem fold_ins {α : Type} (f g : α → Int × Int) (L : List α) : ∀ (n : Int) (a b : Int × Int), 0 ≤ n → n + L.length ≤ 1000 → (∀ p ∈ L, bdd 16777216 (f p) ∧ bdd 16777216 (g p) ∧ ins (f p) (g p)) → bdd (n * 16777216) a → bdd (n * 16777216) b → ins a b →
    ins ((L.map f).foldl plusB a) ((L.map g).foldl plusB b) := by
  induction L with
  | nil => intro n a b _ _ _ _ _ h; exact h
  | cons p r ih =>
    intro n a b h0 hn hf ha hb h
    obtain ⟨h1, h2, h3⟩ := hf p (by simp)
    simp only [List.map_cons, List.foldl_cons]
    simp only [List.length_cons] at hn
    unfold bdd at ha hb h1 h2
    have e1 : plusB a (f p) = (a.1 + (f p).1, a.2 + (f p).2) := by
      unfold plusB; rw [show w (a.1 + (f p).1) = a.1 + (f p).1 from w64 (by omega) (by omega), show w (a.2 + (f p).2) = a.2 + (f p).2 from w64 (by omega) (by omega)]
    have e2 : plusB b (g p) = (b.1 + (g p).1, b.2 + (g p).2) := by
      unfold plusB; rw [show w (b.1 + (g p).1) = b.1 + (g p).1 from w64 (by omega) (by omega), show w (b.2 + (g p).2) = b.2 + (g p).2 from w64 (by omega) (by omega)]
    rw [e1, e2]
    unfold ins at h h3
    refine ih (n + 1) _ _ (by omega) (by omega) (fun q hq => hf q (List.mem_cons_of_mem _ hq)) ?_ ?_ ?_
    · unfold bdd; simp only; omega
    · unfold bdd; simp only; omega
    · unfold ins; simp only; omega

theorem fold_diag {α : Type} (f : α → Int × Int) : ∀ (L : List α) (a : Int × Int), (∀ p ∈ L, (f p).1 = (f p).2) → a.1 = a.2 → ((L.map f).foldl plusB a).1 = ((L.map f).foldl plusB a).2
  | [], a, _, h => h
  | p :: r, a, hf, h => by
    simp only [List.map_cons, List.foldl_cons]
    refine fold_diag f r _ (fun q hq => hf q (List.mem_cons_of_mem _ hq)) ?_
    simp only [plusB, h, hf p (by simp)]

theorem ins_refl (a : Int × Int) : ins a a := ⟨Int.le_refl _, Int.le_refl _⟩
theorem ins_trans {a b c : Int × Int} (h : ins a b) (k : ins b c) : ins a c := ⟨Int.le_trans k.1 h.1, Int.le_trans h.2 k.2⟩

theorem reachG_wide (to : Int) : ∀ (r : List (Int × Int)) (t : Nat) (out : Int × Int), ins out (reachG to r t true out)
  | [], t, out => ins_refl _
  | b :: r, t, out => by
    unfold reachG
    split
    · refine ins_trans ?_ (reachG_wide to r (t + 1) _)
      unfold ins stepB; simp only [if_true]; omega
    · exact ins_refl _

theorem reachG_has (to : Int) : ∀ (r : List (Int × Int)) (t : Nat) (is : Bool) (out : Int × Int) (j : Nat) (h : j < r.length), ((t + j : Nat) : Int) ≤ to → ins r[j] (reachG to r t is out)
  | [], t, is, out, j, h, _ => by simp at h
  | b :: r, t, is, out, j, h, hj => by
    unfold reachG
    rw [if_pos (by omega)]
    cases j with
    | zero =>
      refine ins_trans ?_ (reachG_wide to r (t + 1) _)
      unfold ins stepB
      cases is
      · simp
      · simp only [if_true, List.getElem_cons_zero]; omega
    | succ j =>
      rw [List.getElem_cons_succ]
      exact reachG_has to r (t + 1) true _ j (by simpa using h) (by rw [show t + 1 + j = t + (j + 1) by omega]; exact hj)

theorem reachG_bdd {n : Int} (to : Int) : ∀ (r : List (Int × Int)) (t : Nat) (is : Bool) (out : Int × Int), (∀ b ∈ r, bdd n b) → bdd n out → bdd n (reachG to r t is out)
  | [], t, is, out, _, h => h
  | b :: r, t, is, out, hr, h => by
    unfold reachG
    split
    · refine reachG_bdd to r (t + 1) true _ (fun b hb => hr b (List.mem_cons_of_mem _ hb)) ?_
      have hb := hr b (by simp)
      unfold stepB
      split
      · unfold bdd at h hb ⊢; simp only; omega
      · exact hb
    · exact h

/-- A time between the least and the greatest one: the sample lies in what may be reached. -/
theorem smp_reach (s : List (Int × Int)) (z d q : Int) (sl : Int × Int) (h1 : timeN z d sl.1 ≤ timeN z d q) (h2 : timeN z d q ≤ timeN z d sl.2) : ins (smp s z d q) (reachB s z d sl) := by
  have h0 := timeN_nn z d sl.1
  unfold smp reachB
  by_cases h : (timeN z d q).toNat < s.length
  · rw [List.getD_eq_getElem?_getD, List.getElem?_eq_getElem h]
    have hj : (timeN z d q).toNat - (timeN z d sl.1).toNat < (s.drop (timeN z d sl.1).toNat).length := by rw [List.length_drop]; omega
    have := reachG_has (timeN z d sl.2) (s.drop (timeN z d sl.1).toNat) (timeN z d sl.1).toNat (decide (timeN z d sl.2 ≥ s.length)) (0, 0) _ hj (by omega)
    rw [List.getElem_drop] at this
    simpa [show (timeN z d sl.1).toNat + ((timeN z d q).toNat - (timeN z d sl.1).toNat) = (timeN z d q).toNat by omega] using this
  · rw [List.getD_eq_getElem?_getD, List.getElem?_eq_none (by omega)]
    have e : decide (timeN z d sl.2 ≥ (s.length : Int)) = true := by simp; omega
    rw [e]
    exact reachG_wide _ _ _ _

theorem isq_mono {a b : Int} (h0 : 0 ≤ a) (h : a ≤ b) (h1 : b ≤ 1099511627776) : isq a ≤ isq b := by
  obtain ⟨a0, a1, a2⟩ := isq_spec h0 (by omega)
  obtain ⟨b0, b1, b2⟩ := isq_spec (n := b) (by omega) h1
  have := sq_lt a0 (b := isq b + 1) (by omega) (by omega)
  omega

theorem timeN_mono {z d s t : Int} (hz : 0 ≤ z ∧ z ≤ 64) (hd : 0 ≤ d ∧ d ≤ 100000) (hs : 0 ≤ s) (h : s ≤ t) (ht : t ≤ 4096) : timeN z d s ≤ timeN z d t := by
  have m0 : 0 ≤ z * z ∧ z * z ≤ 64 * 64 := ⟨Int.mul_nonneg hz.1 hz.1, Int.mul_le_mul hz.2 hz.2 hz.1 (by omega)⟩
  have m1 : 0 ≤ s * d ∧ s * d ≤ 4096 * 100000 := ⟨Int.mul_nonneg hs hd.1, Int.mul_le_mul (by omega) hd.2 hd.1 (by omega)⟩
  have m2 : 0 ≤ t * d ∧ t * d ≤ 4096 * 100000 := ⟨Int.mul_nonneg (by omega) hd.1, Int.mul_le_mul (by omega) hd.2 hd.1 (by omega)⟩
  have m3 : s * d ≤ t * d := Int.mul_le_mul_of_nonneg_right h hd.1
  have q1 : (s * d).tdiv 64 = s * d / 64 := Int.tdiv_eq_ediv_of_nonneg m1.1
  have q2 : (t * d).tdiv 64 = t * d / 64 := Int.tdiv_eq_ediv_of_nonneg m2.1
  have e1 : IntKind.wrap .i64 (IntKind.wrap .i64 (z * z) + IntKind.wrap .i64 ((IntKind.wrap .i64 (s * d)).tdiv 64)) = z * z + s * d / 64 := by
    rw [w64 (n := z * z) (by omega) (by omega), w64 (n := s * d) (by omega) (by omega), q1, w64 (n := s * d / 64) (by omega) (by omega), w64 (by omega) (by omega)]
  have e2 : IntKind.wrap .i64 (IntKind.wrap .i64 (z * z) + IntKind.wrap .i64 ((IntKind.wrap .i64 (t * d)).tdiv 64)) = z * z + t * d / 64 := by
    rw [w64 (n := z * z) (by omega) (by omega), w64 (n := t * d) (by omega) (by omega), q2, w64 (n := t * d / 64) (by omega) (by omega), w64 (by omega) (by omega)]
  unfold timeN
  rw [e1, e2]
  unfold rootN
  rw [if_pos (by simp [btw]; omega), if_pos (by simp [btw]; omega)]
  exact isq_mono (by omega) (by omega) (by omega)

/-- Distances of echoes. -/
theorem dst_bd {x y : Int} {e : Echo} (hx : -64 ≤ x ∧ x ≤ 64) (hy : -64 ≤ y ∧ y ≤ 64) (he : (-64 ≤ e.x ∧ e.x ≤ 64) ∧ (-64 ≤ e.y ∧ e.y ≤ 64)) : dst x y e = (x - e.x) * (x - e.x) + (y - e.y) * (y - e.y) ∧ 0 ≤ dst x y e ∧ dst x y e ≤ 32768 := by
  have sq : ∀ a : Int, -128 ≤ a → a ≤ 128 → 0 ≤ a * a ∧ a * a ≤ 16384 := fun a h1 h2 => by
    rcases Int.le_total 0 a with h | h
    · exact ⟨Int.mul_nonneg h h, Int.mul_le_mul h2 h2 h (by omega)⟩
    · have e : a * a = (-a) * (-a) := by rw [Int.neg_mul_neg]
      rw [e]
      exact ⟨Int.mul_nonneg (by omega) (by omega), Int.mul_le_mul (c := 128) (d := 128) (by omega) (by omega) (by omega) (by omega)⟩
  have a1 := sq (x - e.x) (by omega) (by omega)
  have a2 := sq (y - e.y) (by omega) (by omega)
  have e1 : dst x y e = (x - e.x) * (x - e.x) + (y - e.y) * (y - e.y) := by
    unfold dst
    rw [show w (x - e.x) = x - e.x from w64 (by omega) (by omega), show w (y - e.y) = y - e.y from w64 (by omega) (by omega), show w ((x - e.x) * (x - e.x)) = _ from w64 (by omega) (by omega), show w ((y - e.y) * (y - e.y)) = _ from w64 (by omega) (by omega)]
    exact w64 (by omega) (by omega)
  omega

theorem nears_dst {aper x y : Int} : ∀ {l : List Echo} {k : Nat} {p : Int × Int}, p ∈ nears aper x y l k → ∃ i : Nat, ∃ h : i < l.length, p.1 = ((k + i : Nat) : Int) ∧ p.2 = dst x y l[i] ∧ hears aper x y l[i] = true
  | [], k, p, h => by simp [nears] at h
  | e :: r, k, p, h => by
    simp only [nears] at h
    have rest : p ∈ nears aper x y r (k + 1) → ∃ i : Nat, ∃ h : i < (e :: r).length, p.1 = ((k + i : Nat) : Int) ∧ p.2 = dst x y (e :: r)[i] ∧ hears aper x y (e :: r)[i] = true := fun h => by
      obtain ⟨i, h1, h2, h3, h4⟩ := nears_dst h
      exact ⟨i + 1, by simpa using h1, by rw [h2]; congr 1; omega, by simpa using h3, by simpa using h4⟩
    split at h
    · rename_i hh
      rcases List.mem_cons.1 h with rfl | h
      · exact ⟨0, by simp, by simp, rfl, hh⟩
      · exact rest h
    · exact rest h

theorem echoOk_spec {e : Echo} (h : echoOk e = true) : ((-64 ≤ e.x ∧ e.x ≤ 64) ∧ (-64 ≤ e.y ∧ e.y ≤ 64)) ∧ (1 ≤ e.s.length ∧ e.s.length ≤ 64) ∧ ∀ b ∈ e.s, -16777216 ≤ b.1 ∧ b.1 ≤ b.2 ∧ b.2 ≤ 16777216 := by
  simp only [echoOk, btw, Bool.and_eq_true, decide_eq_true_eq, List.all_eq_true, loud] at h
  obtain ⟨⟨⟨h1, h2⟩, h3⟩, h4⟩ := h
  exact ⟨by omega, by omega, fun b hb => by have := h4 b hb; omega⟩

theorem echoesOk_spec {l : List Echo} (h : echoesOk l = true) : l.length ≤ 32 ∧ ∀ e ∈ l, echoOk e = true := by
  simp only [echoesOk, Bool.and_eq_true, decide_eq_true_eq, List.all_eq_true] at h
  exact h

end Go.Proofs.Ytecggpjpckicgaa

/-! Plain facts: the places of a box by their indices; joins both ways; parts of a volume. -/
set_option linter.unusedVariables false
set_option linter.unusedSimpArgs false
set_option maxRecDepth 20000
namespace Go.Proofs.Ytecggpjpckicgaa
open Go.Am

theorem btw_iff (n lo hi : Int) : btw n lo hi = true ↔ lo ≤ n ∧ n ≤ hi := by
  simp only [btw, Bool.and_eq_true, decide_eq_true_eq, ge_iff_le]

def cidx (b : Bx) (p : Int × Int × Int) : Int := idxOf b p.1 p.2.1 p.2.2
def natI (k : Nat) : Int := (k : Int)

theorem idx_at (b : Bx) (x y z B C : Nat) (hB : b.b = (B : Int)) (hC : b.c = (C : Int)) : idxOf b (b.x + (x : Int)) (b.y + (y : Int)) (b.z + (z : Int)) = (((x * B + y) * C + z : Nat) : Int) := by
  unfold idxOf
  rw [hB, hC, show b.x + (x : Int) - b.x = (x : Int) by omega, show (x : Int) * (B : Int) + (b.y + (y : Int)) - b.y = (x : Int) * (B : Int) + (y : Int) by omega]
  push_cast
  omega

theorem zs_idx (b : Bx) (x y B C : Nat) (hB : b.b = (B : Int)) (hC : b.c = (C : Int)) : ∀ n, (zsC b x y n).map (cidx b) = (List.range' ((x * B + y) * C) n).map natI
  | 0 => by simp [zsC]
  | n + 1 => by
    rw [zsC_succ, List.range'_1_concat, List.map_append, List.map_append, zs_idx b x y B C hB hC n]
    congr 1
    simp only [List.map_cons, List.map_nil, cidx, idx_at b x y n B C hB hC, natI]

theorem ys_idx (b : Bx) (x B C : Nat) (hB : b.b = (B : Int)) (hC : b.c = (C : Int)) : ∀ n, (ysC b x n).map (cidx b) = (List.range' (x * B * C) (n * C)).map natI
  | 0 => by simp [ysC]
  | n + 1 => by
    have e0 : b.c.toNat = C := by omega
    have e : List.range' (x * B * C) ((n + 1) * C) = List.range' (x * B * C) (n * C) ++ List.range' ((x * B + n) * C) C := by
      rw [show (x * B + n) * C = x * B * C + n * C by rw [Nat.add_mul], List.range'_append_1, Nat.succ_mul]
    rw [ysC_succ, List.map_append, ys_idx b x B C hB hC n, e0, zs_idx b x n B C hB hC, e, List.map_append]

theorem xs_idx (b : Bx) (B C : Nat) (hB : b.b = (B : Int)) (hC : b.c = (C : Int)) : ∀ n, (xsC b n).map (cidx b) = (List.range' 0 (n * (B * C))).map natI
  | 0 => by simp [xsC]
  | n + 1 => by
    have e0 : b.b.toNat = B := by omega
    have e : List.range' 0 ((n + 1) * (B * C)) = List.range' 0 (n * (B * C)) ++ List.range' (n * B * C) (B * C) := by
      rw [show n * B * C = 0 + n * (B * C) by rw [Nat.zero_add, Nat.mul_assoc], List.range'_append_1, Nat.succ_mul]
    rw [xsC_succ, List.map_append, xs_idx b B C hB hC n, e0, ys_idx b n B C hB hC, e, List.map_append]

theorem cells_idx (b : Bx) (h : 0 ≤ b.b ∧ 0 ≤ b.c) : (boxCells b).map (cidx b) = (List.range (boxCells b).length).map natI := by
  have e := xs_idx b b.b.toNat b.c.toNat (Int.toNat_of_nonneg h.1).symm (Int.toNat_of_nonneg h.2).symm b.a.toNat
  have hl : (boxCells b).length = b.a.toNat * (b.b.toNat * b.c.toNat) := xsC_len b _
  rw [hl, List.range_eq_range']
  exact e

theorem cell_idx {b : Bx} (h : 0 ≤ b.b ∧ 0 ≤ b.c) {i : Nat} (hi : i < (boxCells b).length) : cidx b (boxCells b)[i] = (i : Int) := by
  have e := congrArg (fun l => l[i]?) (cells_idx b h)
  simp only [List.getElem?_map, List.getElem?_eq_getElem hi, Option.map_some] at e
  rw [List.getElem?_range hi] at e
  simpa [natI] using e

theorem mem_box {b : Bx} {p : Int × Int × Int} : p ∈ boxCells b ↔ hasP b p = true := by
  obtain ⟨x, y, z⟩ := p
  simp only [boxCells, xsC, ysC, zsC, List.mem_flatMap, List.mem_map, List.mem_range, hasP, hasB, btw, Bool.and_eq_true, decide_eq_true_eq, Prod.mk.injEq]
  constructor
  · rintro ⟨i, hi, j, hj, k, hk, h1, h2, h3⟩; omega
  · rintro ⟨⟨⟨h1, h2⟩, h3, h4⟩, h5, h6⟩
    exact ⟨(x - b.x).toNat, by omega, (y - b.y).toNat, by omega, (z - b.z).toNat, by omega, by omega, by omega, by omega⟩

theorem vol_cells {v : Vol} (h : volOk v = true) : (boxCells v.b).map (atV v) = v.v := by
  obtain ⟨hb, hl, _⟩ := volOk_spec h
  have hs := small_spec (boxOk_spec hb).1
  have hlen : (boxCells v.b).length = v.v.length := by
    have := boxCells_len' v.b (by omega)
    unfold manyI at hl; omega
  refine List.ext_getElem (by simpa using hlen) fun i h1 h2 => ?_
  have hi : i < (boxCells v.b).length := by simpa using h1
  rw [List.getElem_map]
  exact atV_eq (cell_idx (by omega) hi) h2

theorem atV_made {u : Bx} (h : 0 ≤ u.b ∧ 0 ≤ u.c) {f : Int × Int × Int → Int} {p : Int × Int × Int} (hp : p ∈ boxCells u) : atV ⟨u, (boxCells u).map f⟩ p = f p := by
  obtain ⟨i, hi, rfl⟩ := List.mem_iff_getElem.1 hp
  have e : idxOf u (boxCells u)[i].1 (boxCells u)[i].2.1 (boxCells u)[i].2.2 = (i : Int) := cell_idx h hi
  unfold atV
  rw [e, Int.toNat_natCast, List.getD_eq_getElem?_getD, List.getElem?_map, List.getElem?_eq_getElem hi]
  rfl

/-! ### Joins -/
def joined (a b : Vol) : Vol := ⟨aroundB a.b b.b, (boxCells (aroundB a.b b.b)).map (pickV a b)⟩
structure joinOk (a b : Vol) : Prop where
  oka : volOk a = true
  okb : volOk b = true
  many : manyI (aroundB a.b b.b) = manyI a.b + manyI b.b - commonI a.b b.b
  small : smallB (aroundB a.b b.b) = true
  same : (boxCells (aroundB a.b b.b)).any (clash a b) = false

theorem join_cases (nl : V) (a b : Vol) : (joinOk a b ∧ joinR nl a b = .tuple [.agg (volC (joined a b)), I 0]) ∨ (¬ joinOk a b ∧ ∃ e, e ≠ 0 ∧ joinR nl a b = errVol nl e) := by
  unfold joinR
  by_cases h1 : volOk a = true
  · by_cases h2 : volOk b = true
    · by_cases h3 : manyI (aroundB a.b b.b) = manyI a.b + manyI b.b - commonI a.b b.b
      · by_cases h4 : smallB (aroundB a.b b.b) = true
        · by_cases h5 : (boxCells (aroundB a.b b.b)).any (clash a b) = true
          · exact .inr ⟨fun h => (by rw [h.same] at h5; cases h5), 104, by omega, by rw [if_pos h1, if_pos h2, if_pos h3, if_pos h4, if_pos h5]⟩
          · exact .inl ⟨⟨h1, h2, h3, h4, by simpa using h5⟩, by rw [if_pos h1, if_pos h2, if_pos h3, if_pos h4, if_neg h5]; rfl⟩
        · exact .inr ⟨fun h => h4 h.small, 3, by omega, by rw [if_pos h1, if_pos h2, if_pos h3, if_neg h4]⟩
      · exact .inr ⟨fun h => h3 h.many, 103, by omega, by rw [if_pos h1, if_pos h2, if_neg h3]⟩
    · exact .inr ⟨fun h => h2 h.okb, 101, by omega, by rw [if_pos h1, if_neg h2]⟩
  · exact .inr ⟨fun h => h1 h.oka, 101, by omega, by rw [if_neg h1]⟩

theorem around_comm (a b : Bx) : aroundB a b = aroundB b a := by
  unfold aroundB
  congr 1 <;> omega

theorem cut1_comm (p q x y : Int) : cut1 p q x y = cut1 q p y x := by unfold cut1; omega

theorem common_comm (a b : Bx) : commonI a b = commonI b a := by
  unfold commonI
  rw [cut1_comm (a.x + a.a - 1), cut1_comm (a.y + a.b - 1), cut1_comm (a.z + a.c - 1)]

theorem clash_comm (a b : Vol) (p : Int × Int × Int) : clash a b p = clash b a p := by
  unfold clash
  have e : (atV a p != atV b p) = (atV b p != atV a p) := bne_comm
  rw [Bool.and_comm (hasP a.b p), e]

theorem joinOk.comm {a b : Vol} (h : joinOk a b) : joinOk b a := by
  refine ⟨h.okb, h.oka, ?_, by rw [around_comm]; exact h.small, ?_⟩
  · rw [around_comm, common_comm, h.many]; omega
  · rw [around_comm, ← h.same]
    congr 1
    funext p; exact clash_comm b a p

theorem joinOk.cov {a b : Vol} (h : joinOk a b) : ∀ p ∈ boxCells (aroundB a.b b.b), hasP a.b p = true ∨ hasP b.b p = true := by
  have ga := small_spec (boxOk_spec (volOk_spec h.oka).1).1
  have gb := small_spec (boxOk_spec (volOk_spec h.okb).1).1
  exact cover (by omega) (by omega) h.many

theorem pick_a {a b : Vol} {p : Int × Int × Int} (hp : hasP a.b p = true) : pickV a b p = atV a p := by
  unfold pickV; rw [if_pos hp]

theorem joinOk.pick_b {a b : Vol} (h : joinOk a b) {p : Int × Int × Int} (hu : p ∈ boxCells (aroundB a.b b.b)) (hp : hasP b.b p = true) : pickV a b p = atV b p := by
  unfold pickV
  by_cases ha : hasP a.b p = true
  · rw [if_pos ha]
    have h1 := List.any_eq_false.1 h.same p hu
    simp only [clash, ha, hp, Bool.and_self, Bool.true_and] at h1
    simpa using h1
  · rw [if_neg ha]

theorem joined_comm {a b : Vol} (h : joinOk a b) : joined a b = joined b a := by
  unfold joined
  rw [around_comm b.b a.b]
  congr 1
  refine List.map_congr_left fun p hp => ?_
  rcases h.cov p hp with h1 | h1
  · rw [pick_a h1]
    have := h.comm.pick_b (p := p) (by rw [around_comm]; exact hp) h1
    rw [this]
  · rw [h.pick_b hp h1, pick_a h1]

theorem atV_bd {v : Vol} (h : volOk v = true) (p : Int × Int × Int) : -1099511627776 ≤ atV v p ∧ atV v p ≤ 1099511627776 := by
  obtain ⟨_, _, hv⟩ := volOk_spec h
  unfold atV
  rw [List.getD_eq_getElem?_getD]
  by_cases hi : (idxOf v.b p.1 p.2.1 p.2.2).toNat < v.v.length
  · rw [List.getElem?_eq_getElem hi]; exact hv _ (List.getElem_mem hi)
  · rw [List.getElem?_eq_none (by omega)]; simp

theorem volOk_made {u : Bx} {f : Int × Int × Int → Int} (hu : boxOk u = true) (hf : ∀ p ∈ boxCells u, -1099511627776 ≤ f p ∧ f p ≤ 1099511627776) : volOk ⟨u, (boxCells u).map f⟩ = true := by
  have hs := small_spec (boxOk_spec hu).1
  have hl := boxCells_len' u (by omega)
  simp only [volOk, hu, Bool.true_and, Bool.and_eq_true, decide_eq_true_eq, List.all_eq_true, List.length_map, btw]
  refine ⟨hl, fun n hn => ?_⟩
  obtain ⟨p, hp, rfl⟩ := List.mem_map.1 hn
  exact hf p hp

theorem around_ok {a b : Bx} (ha : boxOk a = true) (hb : boxOk b = true) (hs : smallB (aroundB a b) = true) : boxOk (aroundB a b) = true := by
  have g := small_spec hs
  simp only [boxOk, Bool.and_eq_true, cellOk, btw, decide_eq_true_eq] at ha hb ⊢
  refine ⟨⟨hs, ?_⟩, ?_⟩ <;> simp only [aroundB] <;> omega

theorem joined_ok {a b : Vol} (h : joinOk a b) : volOk (joined a b) = true := by
  refine volOk_made (around_ok (volOk_spec h.oka).1 (volOk_spec h.okb).1 h.small) fun p _ => ?_
  unfold pickV
  split
  · exact atV_bd h.oka p
  · exact atV_bd h.okb p

/-! ### Parts -/
def lastP (b : Bx) : Int × Int × Int := (b.x + b.a - 1, b.y + b.b - 1, b.z + b.c - 1)
def cutOk (v : Vol) (b : Bx) : Bool := boxOk b && hasP v.b (b.x, b.y, b.z) && hasP v.b (lastP b)
def part (v : Vol) (b : Bx) : Vol := ⟨b, (boxCells b).map (atV v)⟩
def cutR (nl : V) (v : Vol) (b : Bx) : V := if volOk v then (if cutOk v b then .tuple [.agg (volC (part v b)), I 0] else errVol nl 102) else errVol nl 101

theorem cut_in {v : Vol} {b : Bx} (h : cutOk v b = true) {p : Int × Int × Int} (hp : p ∈ boxCells b) : p ∈ boxCells v.b := by
  rw [mem_box] at hp ⊢
  have h2 : hasB v.b (b.x + b.a - 1) (b.y + b.b - 1) (b.z + b.c - 1) = true := by simp only [cutOk, Bool.and_eq_true] at h; exact h.2
  have h1 : hasB v.b b.x b.y b.z = true := by simp only [cutOk, Bool.and_eq_true] at h; exact h.1.2
  have hp : hasB b p.1 p.2.1 p.2.2 = true := hp
  show hasB v.b p.1 p.2.1 p.2.2 = true
  simp only [hasB, Bool.and_eq_true, btw, decide_eq_true_eq] at h1 h2 hp ⊢
  omega

theorem cut_a {a b : Vol} (h : joinOk a b) : cutOk (joined a b) a.b = true ∧ part (joined a b) a.b = a := by
  have hba := (volOk_spec h.oka).1
  have g := small_spec (boxOk_spec hba).1
  have gu := small_spec h.small
  have hc : cutOk (joined a b) a.b = true := by
    have e1 : hasB (aroundB a.b b.b) a.b.x a.b.y a.b.z = true := by simp only [hasB, Bool.and_eq_true, btw_iff, aroundB]; omega
    have e2 : hasB (aroundB a.b b.b) (a.b.x + a.b.a - 1) (a.b.y + a.b.b - 1) (a.b.z + a.b.c - 1) = true := by simp only [hasB, Bool.and_eq_true, btw_iff, aroundB]; omega
    unfold cutOk
    rw [hba, Bool.true_and, Bool.and_eq_true]
    exact ⟨e1, e2⟩
  refine ⟨hc, ?_⟩
  unfold part
  have e : (boxCells a.b).map (atV (joined a b)) = a.v := by
    rw [← vol_cells h.oka]
    refine List.map_congr_left fun p hp => ?_
    rw [show atV (joined a b) p = pickV a b p from atV_made (u := aroundB a.b b.b) (f := pickV a b) (by omega) (cut_in hc hp), pick_a (mem_box.1 hp)]
  rw [e]

theorem cut_b {a b : Vol} (h : joinOk a b) : cutOk (joined a b) b.b = true ∧ part (joined a b) b.b = b := by
  rw [joined_comm h]; exact cut_a h.comm

end Go.Proofs.Ytecggpjpckicgaa

/-! Contracts: numbers chosen around; samples chosen within bounds; images within images. -/
set_option linter.unusedVariables false
set_option linter.unusedSimpArgs false
set_option maxRecDepth 20000
set_option maxHeartbeats 1000000
namespace Go.Proofs.Ytecggpjpckicgaa
open Go.Am
attribute [local simp] cells scalar mkv splice under2 under dem dem1 eB

def restI (n m : Int) : Int := if m < 1 then 0 else n % m

theorem rest_tmod {n m : Int} (hm : 1 ≤ m) : (n.tmod m < 0 → n.tmod m + m = n % m) ∧ (¬ n.tmod m < 0 → n.tmod m = n % m) := by
  have h1 := Int.emod_nonneg n (show m ≠ 0 by omega)
  have h2 := Int.emod_lt_of_pos n (show 0 < m by omega)
  have h3 := Int.tmod_eq_emod (a := n) (b := m)
  split at h3
  · omega
  · have : (m.natAbs : Int) = m := by omega
    omega

theorem restI_bd {n m : Int} (hm : 1 ≤ m) : 0 ≤ restI n m ∧ restI n m < m := by
  unfold restI
  rw [if_neg (by omega)]
  exact ⟨Int.emod_nonneg n (by omega), Int.emod_lt_of_pos n (by omega)⟩

theorem c_Rest (n m : Int) (hm : m ≤ 9223372036854775807) : C Try.prog F.ref00_Rest [I n, I m] (I (restI n m)) := by
  refine C_of mixed chk.ref00_Rest (by simp) fun S ok => ?_
  refine Tr.seqR rfl (by simp) (Tr.seq (Tr.seqR rfl (by simp) (Tr.cond rfl rfl (fun h1 => Tr.seqR rfl (by simp) (Tr.retX rfl rfl rfl ?_ trivial)) (fun h1 => Tr.skip ?_))))
  · have h1 : m < 1 := by simpa using h1
    simp [packR, restI, h1]
  have h1 : ¬ m < 1 := by simpa using h1
  have hr := restI_bd (n := n) (m := m) (by omega)
  obtain ⟨k1, k2⟩ := rest_tmod (n := n) (m := m) (by omega)
  have e : restI n m = n % m := by unfold restI; rw [if_neg h1]
  refine Tr.seqR rfl (by simp; omega) (Tr.seq (Tr.seqR rfl (by simp) (Tr.cond rfl rfl (fun h2 => Tr.regR rfl (by simp) ?_) (fun h2 => Tr.skip ?_))))
  · have h2 : n.tmod m < 0 := by simpa using h2
    refine Tr.seqR rfl (by simp) (Tr.retX rfl rfl rfl ?_ trivial)
    show I (restI n m) = I (IntKind.i64.wrap (n.tmod m + m))
    rw [e, k1 h2, w64 (by omega) (by omega)]
  · have h2 : ¬ n.tmod m < 0 := by simpa using h2
    refine Tr.seqR rfl (by simp) (Tr.retX rfl rfl rfl ?_ trivial)
    show I (restI n m) = I (n.tmod m)
    rw [e, k2 h2]

def pickI (l : List Int) (i : Int) : Int := l.getD (restI i l.length).toNat 0

/-! ### Samples within their bounds -/
def chN (bits : List Int) (i k : Nat) (b : Int × Int) : Int := b.1 + restI (pickI bits (7 * (i : Int) + (k : Int))) (b.2 - b.1 + 1)
def chS (bits : List Int) (i : Nat) : List (Int × Int) → Nat → List (Int × Int)
  | [], _ => []
  | b :: r, k => (chN bits i k b, chN bits i k b) :: chS bits i r (k + 1)
def chL (bits : List Int) : List Echo → Nat → List Echo
  | [], _ => []
  | e :: r, i => ⟨e.x, e.y, chS bits i e.s 0⟩ :: chL bits r (i + 1)

theorem chS_get (bits : List Int) (i : Nat) : ∀ (s : List (Int × Int)) (k0 k : Nat), (chS bits i s k0)[k]? = (s[k]?).map fun b => (chN bits i (k0 + k) b, chN bits i (k0 + k) b)
  | [], k0, k => by simp [chS]
  | b :: r, k0, k => by
    cases k with
    | zero => simp [chS]
    | succ k =>
      simp only [chS, List.getElem?_cons_succ, chS_get bits i r (k0 + 1) k]
      rw [show k0 + 1 + k = k0 + (k + 1) by omega]

theorem chS_len (bits : List Int) (i : Nat) : ∀ (s : List (Int × Int)) (k : Nat), (chS bits i s k).length = s.length
  | [], k => rfl
  | b :: r, k => by simp [chS, chS_len bits i r (k + 1)]

theorem chL_get (bits : List Int) : ∀ (l : List Echo) (i0 i : Nat), (chL bits l i0)[i]? = (l[i]?).map fun e => ⟨e.x, e.y, chS bits (i0 + i) e.s 0⟩
  | [], i0, i => by simp [chL]
  | e :: r, i0, i => by
    cases i with
    | zero => simp [chL]
    | succ i =>
      simp only [chL, List.getElem?_cons_succ, chL_get bits r (i0 + 1) i]
      rw [show i0 + 1 + i = i0 + (i + 1) by omega]

theorem chL_len (bits : List Int) : ∀ (l : List Echo) (i : Nat), (chL bits l i).length = l.length
  | [], i => rfl
  | e :: r, i => by simp [chL, chL_len bits r (i + 1)]

theorem chN_bd {bits : List Int} {i k : Nat} {b : Int × Int} (h : b.1 ≤ b.2) : b.1 ≤ chN bits i k b ∧ chN bits i k b ≤ b.2 := by
  have := restI_bd (n := pickI bits (7 * (i : Int) + (k : Int))) (m := b.2 - b.1 + 1) (by omega)
  unfold chN; omega

theorem take_succ_of {α : Type} {l : List α} {k : Nat} {x : α} (h : l[k]? = some x) : l.take (k + 1) = l.take k ++ [x] := by
  rw [List.take_add_one, h]; rfl

end Go.Proofs.Ytecggpjpckicgaa

/-! The law VolumeSmooth. -/
set_option linter.unusedVariables false
set_option linter.unusedSimpArgs false
set_option maxRecDepth 20000
set_option maxHeartbeats 4000000
namespace Go.Proofs.Ytecggpjpckicgaa
open Go.Am
attribute [local simp] cells scalar mkv splice under2 under dem dem1

theorem hor_ok {l : List (List Int)} (hE : secOk l = true) {n : Int} (h : 0 ≤ n ∧ n ≤ 32) : horR l n = .tuple [intsV (bestP l n.toNat), I (bestW l n.toNat), I 0] := by
  unfold horR
  rw [if_pos hE, if_pos (by simp [btw]; omega), nats_ints]
  rfl

/-- Rows, of which one is known exactly. -/
def oneRow (l : List (List Int)) (i0 blk m cap i : Nat) : List V := ((l.take i).map intsV).set i0 (.sref blk 0 m cap)

theorem oneRow_len {l : List (List Int)} {i0 blk m cap i : Nat} (h : i ≤ l.length) : (oneRow l i0 blk m cap i).length = i := by
  unfold oneRow; simp; omega

theorem oneRow_new {l : List (List Int)} {i0 blk m cap : Nat} (h : i0 < l.length) : (l.take i0).map intsV ++ [.sref blk 0 m cap] = oneRow l i0 blk m cap (i0 + 1) := by
  have hl : ((l.take i0).map intsV).length = i0 := by simp; omega
  unfold oneRow
  rw [List.take_add_one, List.getElem?_eq_getElem h, List.map_append, List.set_append_right _ _ (by omega), hl, Nat.sub_self]
  rfl

theorem oneRow_add {l : List (List Int)} {i0 blk m cap i : Nat} (h0 : i0 < i) (h : i < l.length) : oneRow l i0 blk m cap i ++ [intsV l[i]] = oneRow l i0 blk m cap (i + 1) := by
  unfold oneRow
  rw [List.take_add_one, List.getElem?_eq_getElem h, List.map_append, List.set_append_left _ _ (by simp; omega)]
  rfl

theorem oneRow_all {l : List (List Int)} {i0 blk m cap : Nat} : oneRow l i0 blk m cap l.length = (l.map intsV).set i0 (.sref blk 0 m cap) := by
  unfold oneRow; rw [List.take_length]

theorem oneRow_at {l : List (List Int)} {i0 blk m cap : Nat} (h : i0 < l.length) : (oneRow l i0 blk m cap l.length)[i0]? = some (.sref blk 0 m cap) := by
  rw [oneRow_all, List.getElem?_set_self (by simpa using h)]

theorem oneRow_getD {l : List (List Int)} {i0 blk m cap : Nat} (h : i0 < l.length) : (oneRow l i0 blk m cap l.length).getD (Int.toNat (i0 : Int)) nothing = .sref blk 0 m cap := by
  rw [Int.toNat_natCast, List.getD_eq_getElem?_getD, oneRow_at h]; rfl

theorem oneRow_cells {l : List (List Int)} {i0 blk m cap : Nat} : ∀ x ∈ oneRow l i0 blk m cap l.length, cells x = [x] := by
  intro x hx
  rw [oneRow_all] at hx
  rcases List.mem_or_eq_of_mem_set hx with hx | rfl
  · obtain ⟨r, _, rfl⟩ := List.mem_map.1 hx; rfl
  · rfl

theorem oneRow_back {l : List (List Int)} {i0 blk m cap : Nat} (k : Nat) : (oneRow l i0 blk m cap l.length).set i0 (.slice 0 1 ((loudR (l.getD i0 []) k).map I)) = (loudS l i0 k).map intsV := by
  rw [oneRow_all, List.set_set, loudS, List.map_set]
  rfl

theorem c_VolumeSmooth {l : List (List Int)} (hl : saneS l) (slope a b c : Int) : C Try.prog F.law10_VolumeSmooth [secV l, I slope, .agg [I a, I b, I c]] (.bool true) := by
  refine C_of mixed chk.law10_VolumeSmooth (by simp) fun S ok => ?_
  refine Tr.seqR rfl (by simp) ?_
  rcases hor_cases l slope with ⟨sl, rfl, hsl, hE, hH⟩ | ⟨e, he, hH, hB⟩
  rotate_left
  · refine Tr.seqC rfl (by simp [secV]) (Steps.call rfl rfl (hH ▸ c_Horizon hl slope) (Steps.fin rfl (by simp) ?_))
    refine Tr.seq (Tr.seqR rfl (by simp) (Tr.cond rfl rfl (fun _ => ?_) (fun h1 => ?_)))
    · refine Tr.seqC rfl (by simp) (Steps.gcall rfl rfl rfl rfl (by simp) (fun _ => c_works) (Steps.fin rfl (by simp) (Tr.retX rfl rfl rfl ?_ trivial)))
      simp [packR]
    · have h1 : (e != 0) = false := h1
      simp at h1; exact absurd h1 he
  obtain ⟨hev, hn, hd, hnum⟩ := secOk_spec hE
  have hr5 := restI_bd (n := a) (m := 5) (by omega)
  have hw : IntKind.wrap .i64 ((sl : Int) + restI a 5) = (sl : Int) + restI a 5 := w64 (by omega) (by omega)
  obtain ⟨sl2, hsl2⟩ : ∃ sl2 : Nat, (sl2 : Int) = min 32 ((sl : Int) + restI a 5) := ⟨(min 32 ((sl : Int) + restI a 5)).toNat, by omega⟩
  have hH2 := hor_ok hE (n := (sl2 : Int)) (by omega)
  rw [Int.toNat_natCast] at hH2
  obtain ⟨M1, hM1⟩ : ∃ M, bestW l sl = M := ⟨_, rfl⟩
  obtain ⟨M2, hM2⟩ : ∃ M, bestW l sl2 = M := ⟨_, rfl⟩
  have hM12 : M1 ≤ M2 := by rw [← hM1, ← hM2]; exact best_slope hn.1 hd.1 (by omega)
  rw [show worthV l sl 0 (argBest l sl (deepOf l)) = M1 from hM1] at hH
  rw [hM2] at hH2
  refine Tr.seqC rfl (by simp [secV]) (Steps.call rfl rfl (hH ▸ c_Horizon hl (sl : Int)) (Steps.fin rfl (by simp) ?_))
  refine Tr.seq (Tr.seqR rfl (by simp) (Tr.condF rfl (Tr.skip ?_)))
  refine Tr.seqC rfl (by simp [secV]) (Steps.call rfl rfl (c_Rest a 5 (by omega)) (Steps.runN 2 rfl (by simp) ?_))
  have hmin : (bif false then if IntKind.wrap .i64 ((sl : Int) + restI a 5) > 32 then IntKind.wrap .i64 ((sl : Int) + restI a 5) else 32 else if IntKind.wrap .i64 ((sl : Int) + restI a 5) < 32 then IntKind.wrap .i64 ((sl : Int) + restI a 5) else 32) = (sl2 : Int) := by
    rw [hw]
    show (if _ < _ then _ else _) = _
    split <;> omega
  refine stepsWeak (s' := { env := [(0, secV l), (1, I (sl : Int)), (5, .ptr 5 0), (8, I M1), (24, I M1), (34, secV l), (40, I (sl2 : Int))], bx := [(5, ⟨[I a, I b, I c], false⟩)], rw := [], log := [], stp := false })
    (Wk.le (.cons rfl (.refl _) (.cons rfl (.refl _) (.cons rfl (.refl _) (.cons rfl (.refl _) (.cons rfl (.refl _) (.cons rfl (.refl _) (.cons rfl (VLe.i hmin) .nil))))))) (.cons rfl (LLe.refl _) .nil) .nil rfl rfl) ?_
  refine Steps.call rfl rfl (hH2 ▸ c_Horizon hl (sl2 : Int)) (Steps.fin rfl (by simp) ?_)
  refine Tr.seqR rfl (by simp) ?_
  have hri := restI_bd (n := b) (m := (l.length : Int)) (by omega)
  obtain ⟨i0, hi0⟩ : ∃ i0 : Nat, restI b (l.length : Int) = (i0 : Int) := ⟨(restI b (l.length : Int)).toNat, by omega⟩
  have hi0n : i0 < l.length := by omega
  obtain ⟨hrow, hrowb⟩ := loud_row hE hi0n
  have eqr : l[i0] = l.getD i0 [] := by rw [List.getD_eq_getElem?_getD, List.getElem?_eq_getElem hi0n]; rfl
  obtain ⟨R0, hR0⟩ : ∃ R0, l.getD i0 [] = R0 := ⟨_, rfl⟩
  rw [hR0] at hrow hrowb eqr
  have hlen : ∀ k (h : k < l.length), l[k].length = deepOf l := fun k h => evenL_spec hev h
  refine Tr.seq (Tr.seqR rfl (by simp) (Tr.block ?_))
  refine Tr.loop (fun i s => (i ≤ i0 ∧ s = { env := [(0, secV l), (1, I (sl : Int)), (5, .ptr 5 0), (8, I M1), (9, I 0), (11, I M2), (12, .slice 59 1 ((l.take i).map intsV)), (13, I (i : Nat)), (24, I M1)], bx := [(5, ⟨[I a, I b, I c], false⟩)], rw := [(58, i, 1, 30)], log := [], stp := false }) ∨ ((i0 < i ∧ i ≤ l.length) ∧ ∃ blk cap, R0.length ≤ cap ∧ s = { env := [(0, secV l), (1, I (sl : Int)), (5, .ptr 5 0), (8, I M1), (9, I 0), (11, I M2), (12, .slice 59 1 (oneRow l i0 blk R0.length cap i)), (13, I (i : Nat)), (24, .link 56 blk)], bx := [(56, ⟨R0.map I, false⟩), (5, ⟨[I a, I b, I c], false⟩)], rw := [(58, i, 1, 30)], log := [], stp := false })) (fun i => l.length - i) 0
    (Wk.le (.cons rfl (.refl _) (.cons rfl (.refl _) (.cons rfl (.refl _) (.cons rfl (.refl _) (.cons rfl (.refl _) (.cons rfl (.refl _) (.cons rfl (.nil 59 1) (.cons rfl (.refl _) (.cons rfl (.refl _) .nil))))))))) (.cons rfl (LLe.refl _) .nil) (.new rfl .nil) rfl rfl) (.inl ⟨by omega, rfl⟩) ?_
  rintro i s (⟨hi, rfl⟩ | ⟨⟨hi, hin⟩, blk, cap, hcap, rfl⟩)
  · have hil : i < l.length := by omega
    refine Tr.seq (Tr.seqR rfl (by simp [secV]) (Tr.cond rfl rfl (fun _ => Tr.skip ?_) (fun h3 => by exfalso; revert h3; simp; omega)))
    refine Tr.seq (Tr.block (Tr.reg (Steps.runN 4 rfl (by simp [secV]; omega) ?_)))
    rw [getD_map hil]
    refine Steps.runN 1 rfl (by simp [intsV]) ?_
    have hli := hlen i hil
    rcases Nat.lt_or_ge i i0 with h1 | h1
    · refine Steps.call rfl rfl (c_OwnC (by omega)) (Steps.fin rfl (by simp [intsV]; omega) ?_)
      refine Tr.regR rfl (by simp) ?_
      refine ⟨i + 1, _, Wk.le (.cons rfl (.refl _) (.cons rfl (.refl _) (.cons rfl (.refl _) (.cons rfl (.refl _) (.cons rfl (.refl _) (.cons rfl (.refl _) (.cons rfl (.of_eq ?_) (.cons rfl (VLe.i (w64 (by omega) (by omega))) (.cons rfl (.refl _) .nil))))))))) (.cons rfl (LLe.refl _) .nil) (.cons ?_ .nil) rfl rfl, .inl ⟨by omega, rfl⟩, by omega⟩
      · rw [List.take_add_one, List.getElem?_eq_getElem hil, List.map_append]; rfl
      · show some _ = some _
        simp; omega
    · obtain rfl : i = i0 := by omega
      rw [eqr]
      refine Steps.callO (ys := R0.map I) rfl (fun _ => rfl) (by exact c_Own (by intro h; rw [h] at hrow; simp at hrow; omega) (by omega)) rfl ?_
      refine Steps.nameB (t := 56) (t2 := 24) rfl rfl fun blk cap hcap => ?_
      rw [List.length_map] at hcap
      refine Steps.fin rfl (by simp; omega) ?_
      refine Tr.regR rfl (by simp) ?_
      refine ⟨i + 1, _, Wk.le (.cons rfl (.refl _) (.cons rfl (.refl _) (.cons rfl (.refl _) (.cons rfl (.refl _) (.cons rfl (.refl _) (.cons rfl (.refl _) (.cons rfl (.of_eq ?_) (.cons rfl (VLe.i (w64 (by omega) (by omega))) (.cons rfl (.refl _) .nil))))))))) (.cons rfl ?_ (.cons rfl (LLe.refl _) .nil)) (.cons ?_ .nil) (okI rfl) rfl, .inr ⟨⟨by omega, by omega⟩, blk, cap, hcap, rfl⟩, by omega⟩
      · show V.slice 59 1 ((l.take i).map intsV ++ [.sref blk 0 (R0.map I).length cap]) = _
        rw [List.length_map, oneRow_new hi0n]
      · rw [flat_ints]; exact LLe.refl _
      · show some _ = some _
        simp; omega
  · refine Tr.seq (Tr.seqR rfl (by simp [secV]) (Tr.cond rfl rfl (fun h3 => Tr.skip ?_) (fun h3 => Tr.exit ?_)))
    · have hil : i < l.length := by revert h3; simp
      have hxl := oneRow_len (l := l) (i0 := i0) (blk := blk) (m := R0.length) (cap := cap) (i := i) (by omega)
      refine Tr.seq (Tr.block (Tr.reg (Steps.runN 4 rfl (by simp [secV]; omega) ?_)))
      rw [getD_map hil]
      refine Steps.runN 1 rfl (by simp [intsV]) ?_
      have hli := hlen i hil
      refine Steps.call rfl rfl (c_OwnC (by omega)) (Steps.fin rfl (by simp [intsV, hxl]; omega) ?_)
      refine Tr.regR rfl (by simp) ?_
      refine ⟨i + 1, _, Wk.le (.cons rfl (.refl _) (.cons rfl (.refl _) (.cons rfl (.refl _) (.cons rfl (.refl _) (.cons rfl (.refl _) (.cons rfl (.refl _) (.cons rfl (.of_eq ?_) (.cons rfl (VLe.i (w64 (by omega) (by omega))) (.cons rfl (.refl _) .nil))))))))) (.cons rfl (LLe.refl _) (.cons rfl (LLe.refl _) .nil)) (.cons ?_ .nil) (okI rfl) rfl, .inr ⟨⟨by omega, by omega⟩, blk, cap, hcap, rfl⟩, by omega⟩
      · show V.slice 59 1 (oneRow l i0 blk R0.length cap i ++ [intsV l[i]]) = _
        rw [oneRow_add hi hil]
      · show some _ = some _
        simp [hxl]
    have hil : i = l.length := by revert h3; simp; omega
    subst hil
    have hxl := oneRow_len (l := l) (i0 := i0) (blk := blk) (m := R0.length) (cap := cap) (i := l.length) (by omega)
    refine Tr.seqC rfl (by simp) (Steps.call rfl rfl (c_Rest b ((oneRow l i0 blk R0.length cap l.length).length : Int) (by rw [hxl]; omega)) (Steps.fin rfl (by simp) ?_))
    refine Tr.weak (s' := { env := [(1, I (sl : Int)), (5, .ptr 5 0), (8, I M1), (9, I 0), (11, I M2), (12, .slice 59 1 (oneRow l i0 blk R0.length cap l.length)), (24, .link 56 blk), (14, I (i0 : Int))], bx := [(56, ⟨R0.map I, false⟩), (5, ⟨[I a, I b, I c], false⟩)], rw := [(58, l.length, 1, 30)], log := [], stp := false })
      (Wk.le (.cons rfl (.refl _) (.cons rfl (.refl _) (.cons rfl (.refl _) (.cons rfl (.refl _) (.cons rfl (.refl _) (.cons rfl (.refl _) (.cons rfl (.refl _) (.cons rfl (VLe.i (by rw [hxl]; exact hi0)) .nil)))))))) (.cons rfl (LLe.refl _) (.cons rfl (LLe.refl _) .nil)) (.cons rfl .nil) (okI rfl) rfl) ?_
    have hrk := restI_bd (n := c) (m := (R0.length : Int)) (by omega)
    obtain ⟨k0, hk0⟩ : ∃ k0 : Nat, restI c (R0.length : Int) = (k0 : Int) := ⟨(restI c (R0.length : Int)).toNat, by omega⟩
    have hk0n : k0 < R0.length := by omega
    have hget := oneRow_getD (l := l) (i0 := i0) (blk := blk) (m := R0.length) (cap := cap) hi0n
    refine Tr.seq (Tr.drawK (TraceK.runN 5 rfl (by simp [hxl]; omega) ?_))
    rw [hget]
    refine TraceK.unlink (t2 := 24) (i := 56) (blk := blk) (n := R0.length) (cap := cap) 1 rfl (by simp) rfl hcap rfl ?_
    refine TraceK.run rfl (by simp) (TraceK.call rfl rfl (c_Rest c (R0.length : Int) (by omega)) ?_)
    refine TraceK.run rfl (by simp) (.done ⟨by kernel_rfl, by kernel_rfl, ?_⟩)
    refine Tr.weak (s' := { env := [(1, I (sl : Int)), (5, .ptr 5 0), (8, I M1), (9, I 0), (11, I M2), (12, .slice 59 1 (oneRow l i0 blk R0.length cap l.length)), (24, .link 56 blk), (14, I (i0 : Int)), (15, I (k0 : Int))], bx := [(56, ⟨R0.map I, false⟩), (5, ⟨[I a, I b, I c], false⟩)], rw := [(58, l.length, 1, 30)], log := [], stp := false })
      (Wk.le (.cons rfl (.refl _) (.cons rfl (.refl _) (.cons rfl (.refl _) (.cons rfl (.refl _) (.cons rfl (.refl _) (.cons rfl (.refl _) (.cons rfl (.refl _) (.cons rfl (.refl _) (.cons rfl (VLe.i hk0) .nil))))))))) (.cons rfl (LLe.refl _) (.cons rfl (LLe.refl _) .nil)) (.cons rfl .nil) (okI rfl) rfl) ?_
    refine Tr.seq (Tr.drawK (TraceK.runN 3 rfl (by simp [hxl]; omega) ?_))
    rw [hget]
    refine TraceK.unlink (t2 := 24) (i := 56) (blk := blk) (n := R0.length) (cap := cap) 1 rfl (by simp) rfl hcap rfl ?_
    refine TraceK.runN 4 rfl (by simp [hxl]; omega) ?_
    rw [hget]
    refine TraceK.unlink (t2 := 24) (i := 56) (blk := blk) (n := R0.length) (cap := cap) 1 rfl (by simp) rfl hcap rfl ?_
    refine TraceK.runN 3 rfl (by simp; omega) ?_
    have hld : mkv false 1 (List.drop (0 + Int.toNat (k0 : Int) * 1) (R0.map I)) = I (R0.getD k0 0) := by
      rw [show 0 + Int.toNat (k0 : Int) * 1 = k0 by omega, List.drop_eq_getElem_cons (by simpa using hk0n)]
      simp [hk0n]
    rw [hld]
    refine TraceK.run rfl (by simp; omega) (.done ⟨by kernel_rfl, by kernel_rfl, ?_⟩)
    have hvb := hrowb _ (getD_mem hk0n)
    have hw9 : IntKind.wrap .i64 (R0.getD k0 0 + 9) = R0.getD k0 0 + 9 := w64 (by omega) (by omega)
    have hst : splice (R0.map I) (0 + Int.toNat (k0 : Int) * 1) (cells (I (bif false then if IntKind.wrap .i64 (R0.getD k0 0 + 9) > 1099511627776 then IntKind.wrap .i64 (R0.getD k0 0 + 9) else 1099511627776 else if IntKind.wrap .i64 (R0.getD k0 0 + 9) < 1099511627776 then IntKind.wrap .i64 (R0.getD k0 0 + 9) else 1099511627776))) = (loudR R0 k0).map I := by
      have e : (bif false then if IntKind.wrap .i64 (R0.getD k0 0 + 9) > 1099511627776 then IntKind.wrap .i64 (R0.getD k0 0 + 9) else 1099511627776 else if IntKind.wrap .i64 (R0.getD k0 0 + 9) < 1099511627776 then IntKind.wrap .i64 (R0.getD k0 0 + 9) else 1099511627776) = min 1099511627776 (R0.getD k0 0 + 9) := by
        rw [hw9]
        show (if _ < _ then _ else _) = _
        split <;> omega
      rw [e, show 0 + Int.toNat (k0 : Int) * 1 = k0 by omega]
      unfold loudR
      rw [List.map_set, List.set_eq_take_append_cons_drop, if_pos (by simpa using hk0n)]
      simp [splice]
    refine Tr.weak (s' := { env := [(1, I (sl : Int)), (5, .ptr 5 0), (8, I M1), (9, I 0), (11, I M2), (12, .slice 59 1 (oneRow l i0 blk R0.length cap l.length)), (24, .link 56 blk)], bx := [(56, ⟨(loudR R0 k0).map I, false⟩), (5, ⟨[I a, I b, I c], false⟩)], rw := [(58, l.length, 1, 30)], log := [], stp := false })
      (Wk.le (.cons rfl (.refl _) (.cons rfl (.refl _) (.cons rfl (.refl _) (.cons rfl (.refl _) (.cons rfl (.refl _) (.cons rfl (.refl _) (.cons rfl (.refl _) .nil))))))) (.cons rfl (by rw [← hst]; exact LLe.refl _) (.cons rfl (LLe.refl _) .nil)) (.cons rfl .nil) (okI rfl) rfl) ?_
    have hll : (loudR R0 k0).length = R0.length := by simp [loudR]
    refine Tr.weak (Wk.slink (t := 12) (t2 := 24) (i := 56) (blk := blk) (m := R0.length) (cap := cap) (r := 59) (j := i0) rfl rfl (oneRow_at hi0n) hcap oneRow_cells rfl (by have h := holds_ints (loudR R0 k0); rw [hll] at h; exact h)) ?_
    have hback := oneRow_back (l := l) (i0 := i0) (blk := blk) (m := R0.length) (cap := cap) k0
    rw [hR0] at hback
    have hE2 := loud_ok hE hi0n (k := k0) (by omega)
    have hB2 := loud_best hE hi0n (k := k0) (by omega) sl
    obtain ⟨M3, hM3⟩ : ∃ M, bestW (loudS l i0 k0) sl = M := ⟨_, rfl⟩
    have hH3 := hor_ok hE2 (n := (sl : Int)) (by omega)
    rw [Int.toNat_natCast, hM3] at hH3
    rw [hM3, hM1] at hB2
    have hl3 : saneS (loudS l i0 k0) := by
      obtain ⟨h3a, h3b, h3c, h3d⟩ := secOk_spec hE2
      refine ⟨by omega, fun r hr => ?_⟩
      obtain ⟨j, hj, rfl⟩ := List.mem_iff_getElem.1 hr
      have := evenL_spec h3a hj
      omega
    refine Tr.weak (s' := { env := [(1, I (sl : Int)), (8, I M1), (9, I 0), (11, I M2), (12, secV (loudS l i0 k0))], bx := [], rw := [], log := [], stp := false })
      (Wk.le (.cons rfl (.refl _) (.cons rfl (.refl _) (.cons rfl (.refl _) (.cons rfl (.refl _) (.cons rfl ?_ .nil))))) .nil .nil rfl rfl) ?_
    · exact .of_eq (by rw [hback]; rfl)
    refine Tr.seqC rfl (by simp) (Steps.call rfl rfl (hH3 ▸ c_Horizon hl3 (sl : Int)) (Steps.fin rfl (by simp) ?_))
    have hbt : C Try.prog F.ref00_Between [I (IntKind.wrap .i64 (M3 - M1)), I 0, I 9] (.bool true) := by
      have h : btw (IntKind.wrap .i64 (M3 - M1)) 0 9 = true := by rw [btwI, w64 (by omega) (by omega)]; omega
      exact h ▸ c_between _ _ _
    refine Tr.seqC rfl (by simp) (Steps.gcall rfl rfl rfl rfl (by simp) (fun _ => hbt) (Steps.run rfl (by simp) ?_))
    refine Steps.gcall rfl rfl rfl rfl (by simp) (fun _ => c_works) (Steps.fin rfl (by simp) (Tr.retX rfl rfl rfl ?_ trivial))
    simp [packR]
    omega

end Go.Proofs.Ytecggpjpckicgaa
