/-
  Parts of the proof, 1: the abstract machine, the compiled code, contracts of the functions, plain laws.
-/
import Derived.Test.YtecggpjpckicgaaZ4


/-! The code of further functions, compiled. -/
set_option maxRecDepth 100000
namespace Go.Proofs.Ytecggpjpckicgaa
open Go.Am
/-- paravane/paravanelaw10.VolumeReach -/
abbrev F.law10_VolumeReach : Nat := 8
def ir.law10_VolumeReach : IC :=
 (.seq (.reg [⟨(some 4), .box, [.t 1], none⟩,
     ⟨(some 5), .box, [.t 2], none⟩,
     ⟨(some 6), .mov, [.c (.bool false)], none⟩])
   (.seq (.reg [⟨(some 17), .mov, [.t 0], none⟩,
     ⟨(some 18), .load 3 true, [.t 4], none⟩,
     ⟨(some 19), .iaddrA 2 1, [.t 5, .c (.int .i64 0)], none⟩,
     ⟨(some 20), .load 1 false, [.t 19], none⟩,
     ⟨(some 21), .iaddrA 2 1, [.t 5, .c (.int .i64 1)], none⟩,
     ⟨(some 22), .load 1 false, [.t 21], none⟩,
     ⟨(some 23), .call 26, [.t 17, .t 18, .t 20, .t 22], none⟩,
     ⟨(some 16), .mov, [.t 23], none⟩,
     ⟨(some 24), .extract 0, [.t 16], none⟩,
     ⟨(some 25), .extract 1, [.t 16], none⟩,
     ⟨(some 7), .alloc [(.int .i64 0), (.int .i64 0), (.int .i64 0), .nils, (.int .i64 0), (.int .i64 0)], [], none⟩,
     ⟨none, .store 6, [.t 7, .t 24], none⟩,
     ⟨(some 8), .mov, [.t 25], none⟩])
   (.seq (.seq (.reg [⟨(some 26), .mov, [.t 8], none⟩,
     ⟨(some 27), .bin .neq, [.t 26, .c (.int .i64 0)], none⟩])
   (.cond (.t 27) (.seq (.reg [⟨(some 28), .faddr 3, [.t 7], none⟩,
     ⟨(some 29), .load 1 false, [.t 28], none⟩,
     ⟨(some 30), .len false, [.t 29], none⟩,
     ⟨(some 31), .bin .eql, [.t 30, .c (.int .i64 0)], none⟩,
     ⟨(some 32), .mov, [.t 31], none⟩,
     ⟨(some 33), .call 13, [], (some (32, true))⟩,
     ⟨(some 34), .pick, [.t 32, .t 33, .c (.bool false)], none⟩,
     ⟨(some 6), .mov, [.t 34], none⟩])
   .ret) .skip))
   (.seq (.reg [⟨(some 36), .iaddrA 3 1, [.t 4, .c (.int .i64 0)], none⟩,
     ⟨(some 37), .load 1 false, [.t 36], none⟩,
     ⟨(some 38), .iaddrA 3 1, [.t 4, .c (.int .i64 1)], none⟩,
     ⟨(some 39), .load 1 false, [.t 38], none⟩,
     ⟨(some 40), .build [(.int .i64 0), (.int .i64 0)] [(0, 1), (1, 1)], [.t 37, .t 39], none⟩,
     ⟨(some 41), .mkslice 2 66, [.t 40], none⟩,
     ⟨(some 42), .call 27, [.t 41], none⟩,
     ⟨(some 35), .mov, [.t 42], none⟩,
     ⟨(some 43), .extract 0, [.t 35], none⟩,
     ⟨(some 44), .extract 1, [.t 35], none⟩,
     ⟨(some 9), .alloc [(.int .i64 0), (.int .i64 0), (.int .i64 0), (.int .i64 0), (.int .i64 0), (.int .i64 0), (.int .i64 0), (.int .i64 0)], [], none⟩,
     ⟨none, .store 8, [.t 9, .t 43], none⟩,
     ⟨(some 8), .mov, [.t 44], none⟩])
   (.seq (.reg [⟨(some 46), .load 8 true, [.t 9], none⟩,
     ⟨(some 47), .iaddrA 2 1, [.t 5, .c (.int .i64 0)], none⟩,
     ⟨(some 48), .load 1 false, [.t 47], none⟩,
     ⟨(some 49), .call 28, [.t 46, .t 48], none⟩,
     ⟨(some 45), .mov, [.t 49], none⟩,
     ⟨(some 50), .extract 0, [.t 45], none⟩,
     ⟨(some 51), .extract 1, [.t 45], none⟩,
     ⟨(some 10), .alloc [(.int .i64 0), (.int .i64 0), (.int .i64 0), (.int .i64 0), (.int .i64 0), (.int .i64 0), (.int .i64 0), (.int .i64 0)], [], none⟩,
     ⟨none, .store 8, [.t 10, .t 50], none⟩,
     ⟨(some 11), .mov, [.t 51], none⟩])
   (.seq (.seq (.reg [⟨(some 52), .mov, [.t 8], none⟩,
     ⟨(some 53), .bin .neq, [.t 52, .c (.int .i64 0)], none⟩,
     ⟨(some 54), .mov, [.t 53], none⟩,
     ⟨(some 55), .mov, [.t 11], (some (54, false))⟩,
     ⟨(some 56), .bin .neq, [.t 55, .c (.int .i64 0)], (some (54, false))⟩,
     ⟨(some 57), .pick, [.t 54, .c (.bool true), .t 56], none⟩])
   (.cond (.t 57) (.seq (.reg [⟨(some 6), .mov, [.c (.bool false)], none⟩])
   .ret) .skip))
   (.seq (.seq (.reg [⟨(some 12), .mov, [.c (.int .i64 0)], none⟩])
   (.block 0 (.loop (.seq (.seq (.reg [⟨(some 58), .mov, [.t 12], none⟩,
     ⟨(some 59), .faddr 3, [.t 7], none⟩,
     ⟨(some 60), .load 1 false, [.t 59], none⟩,
     ⟨(some 61), .len false, [.t 60], none⟩,
     ⟨(some 62), .bin .lss, [.t 58, .t 61], none⟩])
   (.cond (.t 62) .skip (.exit 0)))
   (.seq (.block 1 (.seq (.reg [⟨(some 65), .faddr 3, [.t 7], none⟩,
     ⟨(some 66), .load 1 false, [.t 65], none⟩,
     ⟨(some 67), .mov, [.t 12], none⟩,
     ⟨(some 68), .iaddrS 2, [.t 66, .t 67], none⟩,
     ⟨(some 69), .faddr 0, [.t 68], none⟩,
     ⟨(some 70), .load 1 false, [.t 69], none⟩,
     ⟨(some 13), .mov, [.t 70], none⟩])
   (.seq (.seq (.reg [⟨(some 71), .mov, [.t 13], none⟩,
     ⟨(some 72), .mov, [.t 0], none⟩,
     ⟨(some 73), .len false, [.t 72], none⟩,
     ⟨(some 74), .bin .sub, [.t 73, .c (.int .i64 1)], none⟩,
     ⟨(some 75), .call 25, [.t 71, .c (.int .i64 0), .t 74], none⟩,
     ⟨(some 76), .un .not, [.t 75], none⟩])
   (.cond (.t 76) (.seq (.reg [⟨(some 6), .mov, [.c (.bool false)], none⟩])
   .ret) .skip))
   (.seq (.draw [0, 0, 0, 6, 14, 30, 0, 0, 192, 448, 960, 2046, 4095, 8191, 16383, 16383, 32767, 131071] [⟨(some 78), .load 8 true, [.t 10], none⟩,
     ⟨(some 79), .mov, [.t 0], none⟩,
     ⟨(some 80), .mov, [.t 13], none⟩,
     ⟨(some 81), .iaddrS 3, [.t 79, .t 80], none⟩,
     ⟨(some 82), .faddr 0, [.t 81], none⟩,
     ⟨(some 83), .load 1 false, [.t 82], none⟩,
     ⟨(some 84), .mov, [.t 0], none⟩,
     ⟨(some 85), .mov, [.t 13], none⟩,
     ⟨(some 86), .iaddrS 3, [.t 84, .t 85], none⟩,
     ⟨(some 87), .faddr 1, [.t 86], none⟩,
     ⟨(some 88), .load 1 false, [.t 87], none⟩,
     ⟨(some 89), .build [(.int .i64 0), (.int .i64 0)] [(0, 1), (1, 1)], [.t 83, .t 88], none⟩,
     ⟨(some 90), .call 29, [.t 78, .t 89], none⟩,
     ⟨(some 77), .mov, [.t 90], none⟩,
     ⟨(some 91), .extract 0, [.t 77], none⟩,
     ⟨(some 92), .extract 1, [.t 77], none⟩,
     ⟨(some 14), .mov, [.t 91], none⟩,
     ⟨(some 15), .mov, [.t 92], none⟩])
   (.seq (.reg [⟨(some 93), .mov, [.t 15], none⟩,
     ⟨(some 94), .bin .neq, [.t 93, .c (.int .i64 0)], none⟩,
     ⟨(some 95), .mov, [.t 94], none⟩,
     ⟨(some 96), .mov, [.t 14], (some (95, false))⟩,
     ⟨(some 97), .un .not, [.t 96], (some (95, false))⟩,
     ⟨(some 98), .pick, [.t 95, .c (.bool true), .t 97], none⟩])
   (.cond (.t 98) (.seq (.reg [⟨(some 6), .mov, [.c (.bool false)], none⟩])
   .ret) .skip))))))
   (.reg [⟨(some 63), .mov, [.t 12], none⟩,
     ⟨(some 64), .bin .add, [.t 63, .c (.int .i64 1)], none⟩,
     ⟨(some 12), .mov, [.t 64], none⟩]))))))
   (.seq (.reg [⟨(some 99), .call 13, [], none⟩,
     ⟨(some 6), .mov, [.t 99], none⟩])
   .ret))))))))
theorem chk.law10_VolumeReach : chkF Try.prog 8 = some (100, ir.law10_VolumeReach, [.tmp 6]) := by kernel_rfl

/-- paravane/region.Of -/
abbrev F.region_Of : Nat := 27
def ir.region_Of : IC :=
 (.seq (.reg [⟨(some 1), .box, [.t 0], none⟩,
     ⟨(some 2), .alloc [(.int .i64 0), (.int .i64 0), (.int .i64 0), (.int .i64 0), (.int .i64 0), (.int .i64 0), (.int .i64 0), (.int .i64 0)], [], none⟩,
     ⟨(some 3), .mov, [.c (.int .i64 0)], none⟩])
   (.seq (.block 0 (.seq (.reg [⟨(some 7), .load 1 false, [.t 1], none⟩,
     ⟨(some 8), .len false, [.t 7], none⟩,
     ⟨(some 9), .bin .eql, [.t 8, .c (.int .i64 0)], none⟩,
     ⟨(some 6), .mov, [.t 9], none⟩])
   (.cond (.t 6) (.seq (.reg [⟨(some 10), .build [(.int .i64 0), (.int .i64 0), (.int .i64 0), (.int .i64 0), (.int .i64 0), (.int .i64 0), (.int .i64 0), (.int .i64 0)] [], [], none⟩,
     ⟨none, .store 8, [.t 2, .t 10], none⟩,
     ⟨(some 3), .mov, [.c (.int .i64 4)], none⟩])
   .ret) (.seq (.reg [⟨(some 12), .load 1 false, [.t 1], none⟩,
     ⟨(some 13), .len false, [.t 12], none⟩,
     ⟨(some 14), .bin .gtr, [.t 13, .c (.int .i64 256)], none⟩,
     ⟨(some 11), .mov, [.t 14], none⟩])
   (.cond (.t 11) (.seq (.reg [⟨(some 15), .build [(.int .i64 0), (.int .i64 0), (.int .i64 0), (.int .i64 0), (.int .i64 0), (.int .i64 0), (.int .i64 0), (.int .i64 0)] [], [], none⟩,
     ⟨none, .store 8, [.t 2, .t 15], none⟩,
     ⟨(some 3), .mov, [.c (.int .i64 3)], none⟩])
   .ret) (.seq (.reg [⟨(some 17), .load 1 false, [.t 1], none⟩,
     ⟨(some 18), .call 66, [.t 17, .c (.func (.func 67) [] [])], none⟩,
     ⟨(some 16), .mov, [.t 18], none⟩])
   (.cond (.t 16) (.seq (.reg [⟨(some 19), .build [(.int .i64 0), (.int .i64 0), (.int .i64 0), (.int .i64 0), (.int .i64 0), (.int .i64 0), (.int .i64 0), (.int .i64 0)] [], [], none⟩,
     ⟨none, .store 8, [.t 2, .t 19], none⟩,
     ⟨(some 3), .mov, [.c (.int .i64 10)], none⟩])
   .ret) .skip)))))))
   (.seq (.reg [⟨(some 21), .mkfunc (.func 70) 0, [.t 1], none⟩,
     ⟨(some 22), .mkslice 1 138, [.t 21], none⟩,
     ⟨(some 23), .call 69, [.t 22], none⟩,
     ⟨(some 20), .mov, [.t 23], none⟩,
     ⟨(some 24), .extract 0, [.t 20], none⟩,
     ⟨(some 25), .extract 1, [.t 20], none⟩,
     ⟨(some 4), .alloc [(.int .i64 0), (.int .i64 0), (.int .i64 0), (.int .i64 0), (.int .i64 0), (.int .i64 0), (.int .i64 0), (.int .i64 0)], [], none⟩,
     ⟨none, .store 8, [.t 4, .t 24], none⟩,
     ⟨(some 5), .mov, [.t 25], none⟩])
   (.seq (.reg [⟨(some 26), .load 8 true, [.t 4], none⟩,
     ⟨(some 27), .call 71, [.t 26], none⟩,
     ⟨none, .store 8, [.t 2, .t 27], none⟩,
     ⟨(some 3), .mov, [.c (.int .i64 0)], none⟩])
   .ret))))
theorem chk.region_Of : chkF Try.prog 27 = some (28, ir.region_Of, [.cell 2 62, .tmp 3]) := by kernel_rfl

/-- paravane/region.Reach -/
abbrev F.region_Reach : Nat := 28
def ir.region_Reach : IC :=
 (.seq (.reg [⟨(some 2), .box, [.t 0], none⟩,
     ⟨(some 4), .alloc [(.int .i64 0), (.int .i64 0), (.int .i64 0), (.int .i64 0), (.int .i64 0), (.int .i64 0), (.int .i64 0), (.int .i64 0)], [], none⟩,
     ⟨(some 5), .mov, [.c (.int .i64 0)], none⟩])
   (.seq (.seq (.reg [⟨(some 14), .load 8 true, [.t 2], none⟩,
     ⟨(some 15), .call 72, [.t 14], none⟩,
     ⟨(some 6), .mov, [.t 15], none⟩])
   (.seq (.reg [⟨(some 16), .mov, [.t 6], none⟩,
     ⟨(some 17), .bin .neq, [.t 16, .c (.int .i64 0)], none⟩])
   (.cond (.t 17) (.seq (.reg [⟨(some 18), .build [(.int .i64 0), (.int .i64 0), (.int .i64 0), (.int .i64 0), (.int .i64 0), (.int .i64 0), (.int .i64 0), (.int .i64 0)] [], [], none⟩,
     ⟨(some 19), .mov, [.t 6], none⟩,
     ⟨none, .store 8, [.t 4, .t 18], none⟩,
     ⟨(some 5), .mov, [.t 19], none⟩])
   .ret) .skip)))
   (.seq (.seq (.reg [⟨(some 20), .mov, [.t 1], none⟩,
     ⟨(some 21), .call 73, [.t 20, .c (.int .i64 0), .c (.int .i64 32768)], none⟩,
     ⟨(some 22), .un .not, [.t 21], none⟩])
   (.cond (.t 22) (.seq (.reg [⟨(some 23), .build [(.int .i64 0), (.int .i64 0), (.int .i64 0), (.int .i64 0), (.int .i64 0), (.int .i64 0), (.int .i64 0), (.int .i64 0)] [], [], none⟩,
     ⟨none, .store 8, [.t 4, .t 23], none⟩,
     ⟨(some 5), .mov, [.c (.int .i64 7)], none⟩])
   .ret) .skip))
   (.seq (.reg [⟨(some 25), .load 8 true, [.t 2], none⟩,
     ⟨(some 26), .call 74, [.t 25], none⟩,
     ⟨(some 27), .call 75, [.t 26], none⟩,
     ⟨(some 24), .mov, [.t 27], none⟩,
     ⟨(some 28), .extract 0, [.t 24], none⟩,
     ⟨(some 29), .extract 1, [.t 24], none⟩,
     ⟨(some 7), .alloc [(.int .i64 0), (.int .i64 0), (.int .i64 0), (.int .i64 0), (.int .i64 0), (.int .i64 0), (.int .i64 0), (.int .i64 0)], [], none⟩,
     ⟨none, .store 8, [.t 7, .t 28], none⟩,
     ⟨(some 8), .mov, [.t 29], none⟩])
   (.seq (.seq (.reg [⟨(some 30), .mov, [.t 8], none⟩,
     ⟨(some 31), .bin .neq, [.t 30, .c (.int .i64 0)], none⟩])
   (.cond (.t 31) (.seq (.reg [⟨(some 32), .build [(.int .i64 0), (.int .i64 0), (.int .i64 0), (.int .i64 0), (.int .i64 0), (.int .i64 0), (.int .i64 0), (.int .i64 0)] [], [], none⟩,
     ⟨(some 33), .mov, [.t 8], none⟩,
     ⟨none, .store 8, [.t 4, .t 32], none⟩,
     ⟨(some 5), .mov, [.t 33], none⟩])
   .ret) .skip))
   (.seq (.reg [⟨(some 34), .mov, [.t 1], none⟩,
     ⟨(some 35), .call 76, [.t 34], none⟩,
     ⟨(some 9), .mov, [.t 35], none⟩])
   (.seq (.reg [⟨(some 36), .build [(.int .i64 0), (.int .i64 0), (.int .i64 0), (.int .i64 0)] [(0, 1), (1, 1), (2, 1), (3, 1)], [.c (.int .i64 32768), .c (.int .i64 32768), .c (.int .i64 65536), .c (.int .i64 65536)], none⟩,
     ⟨(some 37), .mov, [.t 1], none⟩,
     ⟨(some 38), .mov, [.t 1], none⟩,
     ⟨(some 39), .mov, [.t 9], none⟩,
     ⟨(some 40), .mov, [.t 9], none⟩,
     ⟨(some 41), .build [(.int .i64 0), (.int .i64 0), (.int .i64 0), (.int .i64 0)] [(0, 1), (1, 1), (2, 1), (3, 1)], [.t 37, .t 38, .t 39, .t 40], none⟩,
     ⟨(some 10), .alloc [(.int .i64 0), (.int .i64 0), (.int .i64 0), (.int .i64 0)], [], none⟩,
     ⟨(some 11), .alloc [(.int .i64 0), (.int .i64 0), (.int .i64 0), (.int .i64 0)], [], none⟩,
     ⟨none, .store 4, [.t 10, .t 36], none⟩,
     ⟨none, .store 4, [.t 11, .t 41], none⟩])
   (.seq (.seq (.reg [⟨(some 42), .load 8 true, [.t 7], none⟩,
     ⟨(some 43), .mov, [.c (.int .i64 0)], none⟩])
   (.block 0 (.loop (.seq (.reg [⟨(some 44), .bin .lss, [.t 43, .c (.int .i64 4)], none⟩])
   (.seq (.cond (.t 44) .skip (.exit 0))
   (.seq (.block 1 (.seq (.reg [⟨(some 45), .mov, [.t 43], none⟩,
     ⟨(some 46), .idxA 4 2 true, [.t 42, .t 43], none⟩,
     ⟨(some 13), .alloc [(.int .i64 0), (.int .i64 0)], [], none⟩,
     ⟨(some 12), .mov, [.t 45], none⟩,
     ⟨none, .store 2, [.t 13, .t 46], none⟩])
   (.draw [0, 0, 2, 6, 0, 16, 0, 64, 192, 496, 1022, 0, 2048, 6144, 0, 16384, 0, 65536, 196608, 507904, 1048574, 2097150, 4194303, 8388607] [⟨(some 47), .mov, [.t 12], none⟩,
     ⟨(some 48), .mov, [.t 12], none⟩,
     ⟨(some 49), .iaddrA 4 1, [.t 10, .t 48], none⟩,
     ⟨(some 50), .load 1 false, [.t 49], none⟩,
     ⟨(some 51), .faddr 0, [.t 13], none⟩,
     ⟨(some 52), .load 1 false, [.t 51], none⟩,
     ⟨(some 53), .mov, [.t 12], none⟩,
     ⟨(some 54), .iaddrA 4 1, [.t 11, .t 53], none⟩,
     ⟨(some 55), .load 1 false, [.t 54], none⟩,
     ⟨(some 56), .bin .sub, [.t 52, .t 55], none⟩,
     ⟨(some 57), .call 77, [.t 50, .t 56], none⟩,
     ⟨(some 58), .mov, [.t 12], none⟩,
     ⟨(some 59), .iaddrA 4 1, [.t 10, .t 58], none⟩,
     ⟨(some 60), .load 1 false, [.t 59], none⟩,
     ⟨(some 61), .faddr 1, [.t 13], none⟩,
     ⟨(some 62), .load 1 false, [.t 61], none⟩,
     ⟨(some 63), .mov, [.t 12], none⟩,
     ⟨(some 64), .iaddrA 4 1, [.t 11, .t 63], none⟩,
     ⟨(some 65), .load 1 false, [.t 64], none⟩,
     ⟨(some 66), .bin .add, [.t 62, .t 65], none⟩,
     ⟨(some 67), .call 77, [.t 60, .t 66], none⟩,
     ⟨(some 68), .build [(.int .i64 0), (.int .i64 0)] [(0, 1), (1, 1)], [.t 57, .t 67], none⟩,
     ⟨(some 69), .iaddrA 4 2, [.t 7, .t 47], none⟩,
     ⟨none, .store 2, [.t 69, .t 68], none⟩])))
   (.reg [⟨(some 70), .bin .add, [.t 43, .c (.int .i64 1)], none⟩,
     ⟨(some 43), .mov, [.t 70], none⟩])))))))
   (.seq (.reg [⟨(some 71), .load 8 true, [.t 7], none⟩,
     ⟨(some 72), .call 75, [.t 71], none⟩,
     ⟨(some 73), .extract 0, [.t 72], none⟩,
     ⟨(some 74), .extract 1, [.t 72], none⟩,
     ⟨(some 75), .call 78, [.t 73, .t 74], none⟩,
     ⟨(some 76), .extract 0, [.t 75], none⟩,
     ⟨(some 77), .extract 1, [.t 75], none⟩,
     ⟨none, .store 8, [.t 4, .t 76], none⟩,
     ⟨(some 5), .mov, [.t 77], none⟩])
   .ret)))))))))
theorem chk.region_Reach : chkF Try.prog 28 = some (78, ir.region_Reach, [.cell 4 62, .tmp 5]) := by kernel_rfl

/-- paravane/region.Has -/
abbrev F.region_Has : Nat := 29
def ir.region_Has : IC :=
 (.seq (.reg [⟨(some 2), .box, [.t 0], none⟩,
     ⟨(some 3), .box, [.t 1], none⟩,
     ⟨(some 4), .mov, [.c (.bool false)], none⟩,
     ⟨(some 5), .mov, [.c (.int .i64 0)], none⟩])
   (.seq (.seq (.draw [0, 1, 0, 7, 15, 31, 63] [⟨(some 8), .load 8 true, [.t 2], none⟩,
     ⟨(some 9), .call 72, [.t 8], none⟩,
     ⟨(some 10), .load 2 true, [.t 3], none⟩,
     ⟨(some 11), .call 68, [.t 10], none⟩,
     ⟨(some 12), .mkslice 1 24, [.t 9, .t 11], none⟩,
     ⟨(some 13), .call 79, [.t 12], none⟩,
     ⟨(some 6), .mov, [.t 13], none⟩])
   (.seq (.reg [⟨(some 14), .mov, [.t 6], none⟩,
     ⟨(some 15), .bin .neq, [.t 14, .c (.int .i64 0)], none⟩])
   (.cond (.t 15) (.seq (.reg [⟨(some 16), .mov, [.t 6], none⟩,
     ⟨(some 4), .mov, [.c (.bool false)], none⟩,
     ⟨(some 5), .mov, [.t 16], none⟩])
   .ret) .skip)))
   (.seq (.reg [⟨(some 17), .load 8 true, [.t 2], none⟩,
     ⟨(some 18), .call 74, [.t 17], none⟩,
     ⟨(some 7), .alloc [(.int .i64 0), (.int .i64 0), (.int .i64 0), (.int .i64 0), (.int .i64 0), (.int .i64 0), (.int .i64 0), (.int .i64 0)], [], none⟩,
     ⟨none, .store 8, [.t 7, .t 18], none⟩])
   (.seq (.draw [0, 0, 2, 7, 0, 31, 63, 127, 255] [⟨(some 19), .load 8 true, [.t 7], none⟩,
     ⟨(some 20), .load 2 true, [.t 3], none⟩,
     ⟨(some 21), .call 81, [.t 20], none⟩,
     ⟨(some 22), .call 80, [.t 19, .t 21, .c (.func (.func 82) [] [])], none⟩,
     ⟨(some 23), .load 2 true, [.t 3], none⟩,
     ⟨(some 24), .call 81, [.t 23], none⟩,
     ⟨(some 25), .eqs false [0, 0, 0, 0, 0, 0, 0, 0], [.t 22, .t 24], none⟩,
     ⟨(some 4), .mov, [.t 25], none⟩,
     ⟨(some 5), .mov, [.c (.int .i64 0)], none⟩])
   .ret))))
theorem chk.region_Has : chkF Try.prog 29 = some (26, ir.region_Has, [.tmp 4, .tmp 5]) := by kernel_rfl

/-- slices.ContainsFunc[[]paravane/api.Point,paravane/api.Point] -/
abbrev F.slices_ContainsFunc_api_Point_api_Point : Nat := 66
def ir.slices_ContainsFunc_api_Point_api_Point : IC :=
 (.seq (.reg [⟨(some 4), .mov, [.c (.bool false)], none⟩])
   (.seq (.reg [⟨(some 5), .mov, [.t 0], none⟩,
     ⟨(some 6), .mov, [.t 1], none⟩,
     ⟨(some 7), .call 106, [.t 5, .t 6], none⟩,
     ⟨(some 8), .bin .geq, [.t 7, .c (.int .i64 0)], none⟩,
     ⟨(some 4), .mov, [.t 8], none⟩])
   .ret))
theorem chk.slices_ContainsFunc_api_Point_api_Point : chkF Try.prog 66 = some (9, ir.slices_ContainsFunc_api_Point_api_Point, [.tmp 4]) := by kernel_rfl

/-- paravane/region.Of$1 -/
abbrev F.region_Of_1 : Nat := 67
def ir.region_Of_1 : IC :=
 (.seq (.reg [⟨(some 1), .box, [.t 0], none⟩,
     ⟨(some 2), .mov, [.c (.bool false)], none⟩])
   (.seq (.reg [⟨(some 3), .load 2 true, [.t 1], none⟩,
     ⟨(some 4), .call 68, [.t 3], none⟩,
     ⟨(some 5), .bin .neq, [.t 4, .c (.int .i64 0)], none⟩,
     ⟨(some 2), .mov, [.t 5], none⟩])
   .ret))
theorem chk.region_Of_1 : chkF Try.prog 67 = some (6, ir.region_Of_1, [.tmp 2]) := by kernel_rfl

/-- paravane/region.CheckPoint -/
abbrev F.region_CheckPoint : Nat := 68
def ir.region_CheckPoint : IC :=
 (.seq (.reg [⟨(some 1), .box, [.t 0], none⟩,
     ⟨(some 2), .mov, [.c (.int .i64 0)], none⟩])
   (.seq (.seq (.reg [⟨(some 5), .faddr 0, [.t 1], none⟩,
     ⟨(some 6), .load 1 false, [.t 5], none⟩,
     ⟨(some 7), .faddr 1, [.t 1], none⟩,
     ⟨(some 8), .load 1 false, [.t 7], none⟩,
     ⟨(some 9), .build [(.int .i64 0), (.int .i64 0)] [(0, 1), (1, 1)], [.t 6, .t 8], none⟩,
     ⟨(some 10), .mov, [.c (.int .i64 0)], none⟩])
   (.block 0 (.loop (.seq (.reg [⟨(some 11), .bin .lss, [.t 10, .c (.int .i64 2)], none⟩])
   (.seq (.cond (.t 11) .skip (.exit 0))
   (.seq (.block 1 (.seq (.reg [⟨(some 12), .idxA 2 1 false, [.t 9, .t 10], none⟩,
     ⟨(some 4), .mov, [.t 12], none⟩])
   (.seq (.reg [⟨(some 13), .mov, [.t 4], none⟩,
     ⟨(some 14), .call 77, [.c (.int .i64 32768), .t 13], none⟩,
     ⟨(some 15), .mov, [.t 4], none⟩,
     ⟨(some 16), .bin .neq, [.t 14, .t 15], none⟩])
   (.cond (.t 16) (.seq (.reg [⟨(some 2), .mov, [.c (.int .i64 10)], none⟩])
   .ret) .skip))))
   (.reg [⟨(some 17), .bin .add, [.t 10, .c (.int .i64 1)], none⟩,
     ⟨(some 10), .mov, [.t 17], none⟩])))))))
   (.seq (.reg [⟨(some 2), .mov, [.c (.int .i64 0)], none⟩])
   .ret)))
theorem chk.region_CheckPoint : chkF Try.prog 68 = some (18, ir.region_CheckPoint, [.tmp 2]) := by kernel_rfl

/-- paravane/region.hull -/
abbrev F.region_hull : Nat := 69
def ir.region_hull : IC :=
 (.seq (.reg [⟨(some 2), .alloc [(.int .i64 0), (.int .i64 0), (.int .i64 0), (.int .i64 0), (.int .i64 0), (.int .i64 0), (.int .i64 0), (.int .i64 0)], [], none⟩,
     ⟨(some 3), .alloc [(.bool false)], [], none⟩])
   (.seq (.seq (.reg [⟨(some 7), .mov, [.t 0], none⟩,
     ⟨(some 8), .len false, [.t 7], none⟩,
     ⟨(some 9), .mov, [.c (.int .i64 0)], none⟩])
   (.block 0 (.loop (.seq (.reg [⟨(some 10), .bin .lss, [.t 9, .t 8], none⟩])
   (.seq (.cond (.t 10) .skip (.exit 0))
   (.seq (.block 1 (.seq (.reg [⟨(some 11), .iaddrS 1, [.t 7, .t 9], none⟩,
     ⟨(some 12), .load 1 false, [.t 11], none⟩,
     ⟨(some 5), .mov, [.t 12], none⟩])
   (.seq (.reg [⟨(some 13), .mov, [.t 5], none⟩])
   (.block 2 (.range (.t 13) [14] (.reg [⟨(some 6), .alloc [(.int .i64 0), (.int .i64 0)], [], none⟩,
     ⟨none, .store 2, [.t 6, .t 14], none⟩]) (.block 3 (.seq (.seq (.reg [⟨(some 15), .load 1 false, [.t 3], none⟩,
     ⟨(some 16), .un .not, [.t 15], none⟩])
   (.cond (.t 16) (.reg [⟨(some 17), .load 2 true, [.t 6], none⟩,
     ⟨(some 18), .call 81, [.t 17], none⟩,
     ⟨none, .store 8, [.t 2, .t 18], none⟩,
     ⟨none, .store 1, [.t 3, .c (.bool true)], none⟩]) .skip))
   (.draw [0, 0, 2, 7, 15] [⟨(some 19), .load 8 true, [.t 2], none⟩,
     ⟨(some 20), .load 2 true, [.t 6], none⟩,
     ⟨(some 21), .call 81, [.t 20], none⟩,
     ⟨(some 22), .call 80, [.t 19, .t 21, .c (.func (.func 107) [] [])], none⟩,
     ⟨none, .store 8, [.t 2, .t 22], none⟩]))))))))
   (.reg [⟨(some 23), .bin .add, [.t 9, .c (.int .i64 1)], none⟩,
     ⟨(some 9), .mov, [.t 23], none⟩])))))))
   (.seq (.draw [0, 0, 1, 7] [⟨(some 24), .load 8 true, [.t 2], none⟩,
     ⟨(some 25), .load 1 false, [.t 3], none⟩,
     ⟨none, .store 8, [.t 2, .t 24], none⟩,
     ⟨none, .store 1, [.t 3, .t 25], none⟩])
   .ret)))
theorem chk.region_hull : chkF Try.prog 69 = some (26, ir.region_hull, [.cell 2 135, .cell 3 4]) := by kernel_rfl

/-- paravane/region.Of$2 -/
abbrev F.region_Of_2 : Nat := 70
def ir.region_Of_2 : IC :=
 (.seq (.reg [⟨(some 5), .load 1 false, [.t 1], none⟩,
     ⟨(some 6), .len false, [.t 5], none⟩,
     ⟨(some 7), .mov, [.c (.int .i64 0)], none⟩])
   (.block 0 (.loop (.seq (.reg [⟨(some 8), .bin .lss, [.t 7, .t 6], none⟩])
   (.seq (.cond (.t 8) .skip (.exit 0))
   (.seq (.block 1 (.seq (.reg [⟨(some 9), .iaddrS 2, [.t 5, .t 7], none⟩,
     ⟨(some 10), .load 2 true, [.t 9], none⟩,
     ⟨(some 4), .alloc [(.int .i64 0), (.int .i64 0)], [], none⟩,
     ⟨none, .store 2, [.t 4, .t 10], none⟩])
   (.seq (.reg [⟨(some 11), .mov, [.t 0], none⟩,
     ⟨(some 12), .load 2 true, [.t 4], none⟩,
     ⟨(some 13), .callv, [.t 11, .t 12], none⟩,
     ⟨(some 14), .un .not, [.t 13], none⟩])
   (.cond (.t 14) .ret .skip))))
   (.reg [⟨(some 15), .bin .add, [.t 7, .c (.int .i64 1)], none⟩,
     ⟨(some 7), .mov, [.t 15], none⟩])))))))
theorem chk.region_Of_2 : chkF Try.prog 70 = some (16, ir.region_Of_2, []) := by kernel_rfl

/-- (paravane/region.four).region -/
abbrev F.region_four_region : Nat := 71
def ir.region_four_region : IC :=
 (.seq (.reg [⟨(some 1), .box, [.t 0], none⟩,
     ⟨(some 2), .alloc [(.int .i64 0), (.int .i64 0), (.int .i64 0), (.int .i64 0), (.int .i64 0), (.int .i64 0), (.int .i64 0), (.int .i64 0)], [], none⟩])
   (.seq (.reg [⟨(some 3), .iaddrA 4 2, [.t 1, .c (.int .i64 0)], none⟩,
     ⟨(some 4), .load 2 true, [.t 3], none⟩,
     ⟨(some 5), .iaddrA 4 2, [.t 1, .c (.int .i64 1)], none⟩,
     ⟨(some 6), .load 2 true, [.t 5], none⟩,
     ⟨(some 7), .iaddrA 4 2, [.t 1, .c (.int .i64 2)], none⟩,
     ⟨(some 8), .load 2 true, [.t 7], none⟩,
     ⟨(some 9), .iaddrA 4 2, [.t 1, .c (.int .i64 3)], none⟩,
     ⟨(some 10), .load 2 true, [.t 9], none⟩,
     ⟨(some 11), .build [(.int .i64 0), (.int .i64 0), (.int .i64 0), (.int .i64 0), (.int .i64 0), (.int .i64 0), (.int .i64 0), (.int .i64 0)] [(0, 2), (2, 2), (4, 2), (6, 2)], [.t 4, .t 6, .t 8, .t 10], none⟩,
     ⟨none, .store 8, [.t 2, .t 11], none⟩])
   .ret))
theorem chk.region_four_region : chkF Try.prog 71 = some (12, ir.region_four_region, [.cell 2 62]) := by kernel_rfl

/-- paravane/region.Check -/
abbrev F.region_Check : Nat := 72
def ir.region_Check : IC :=
 (.seq (.reg [⟨(some 1), .box, [.t 0], none⟩,
     ⟨(some 2), .mov, [.c (.int .i64 0)], none⟩])
   (.seq (.reg [⟨(some 6), .mkfunc (.func 108) 1, [.c (.int .i64 32768)], none⟩,
     ⟨(some 7), .mkfunc (.func 108) 1, [.c (.int .i64 32768)], none⟩,
     ⟨(some 8), .mkfunc (.func 108) 1, [.c (.int .i64 65536)], none⟩,
     ⟨(some 9), .mkfunc (.func 108) 1, [.c (.int .i64 65536)], none⟩,
     ⟨(some 10), .build [.nilf, .nilf, .nilf, .nilf] [(0, 1), (1, 1), (2, 1), (3, 1)], [.t 6, .t 7, .t 8, .t 9], none⟩,
     ⟨(some 3), .alloc [.nilf, .nilf, .nilf, .nilf], [], none⟩,
     ⟨none, .store 4, [.t 3, .t 10], none⟩])
   (.seq (.seq (.reg [⟨(some 11), .load 8 true, [.t 1], none⟩,
     ⟨(some 12), .call 74, [.t 11], none⟩,
     ⟨(some 13), .mov, [.c (.int .i64 0)], none⟩])
   (.block 0 (.loop (.seq (.reg [⟨(some 14), .bin .lss, [.t 13, .c (.int .i64 4)], none⟩])
   (.seq (.cond (.t 14) .skip (.exit 0))
   (.seq (.block 1 (.seq (.reg [⟨(some 15), .mov, [.t 13], none⟩,
     ⟨(some 16), .idxA 4 2 true, [.t 12, .t 13], none⟩,
     ⟨(some 5), .alloc [(.int .i64 0), (.int .i64 0)], [], none⟩,
     ⟨(some 4), .mov, [.t 15], none⟩,
     ⟨none, .store 2, [.t 5, .t 16], none⟩])
   (.seq (.draw [0, 1, 3, 0, 15, 31] [⟨(some 17), .mov, [.t 4], none⟩,
     ⟨(some 18), .iaddrA 4 1, [.t 3, .t 17], none⟩,
     ⟨(some 19), .load 1 false, [.t 18], none⟩,
     ⟨(some 20), .load 2 true, [.t 5], none⟩,
     ⟨(some 21), .callv, [.t 19, .t 20], none⟩,
     ⟨(some 22), .un .not, [.t 21], none⟩])
   (.cond (.t 22) (.seq (.reg [⟨(some 2), .mov, [.c (.int .i64 11)], none⟩])
   .ret) .skip))))
   (.reg [⟨(some 23), .bin .add, [.t 13, .c (.int .i64 1)], none⟩,
     ⟨(some 13), .mov, [.t 23], none⟩])))))))
   (.seq (.reg [⟨(some 2), .mov, [.c (.int .i64 0)], none⟩])
   .ret))))
theorem chk.region_Check : chkF Try.prog 72 = some (24, ir.region_Check, [.tmp 2]) := by kernel_rfl

/-- paravane/region.bounds -/
abbrev F.region_bounds : Nat := 74
def ir.region_bounds : IC :=
 (.seq (.reg [⟨(some 1), .box, [.t 0], none⟩,
     ⟨(some 2), .alloc [(.int .i64 0), (.int .i64 0), (.int .i64 0), (.int .i64 0), (.int .i64 0), (.int .i64 0), (.int .i64 0), (.int .i64 0)], [], none⟩])
   (.seq (.reg [⟨(some 3), .faddr 0, [.t 1], none⟩,
     ⟨(some 4), .load 2 true, [.t 3], none⟩,
     ⟨(some 5), .faddr 2, [.t 1], none⟩,
     ⟨(some 6), .load 2 true, [.t 5], none⟩,
     ⟨(some 7), .faddr 4, [.t 1], none⟩,
     ⟨(some 8), .load 2 true, [.t 7], none⟩,
     ⟨(some 9), .faddr 6, [.t 1], none⟩,
     ⟨(some 10), .load 2 true, [.t 9], none⟩,
     ⟨(some 11), .build [(.int .i64 0), (.int .i64 0), (.int .i64 0), (.int .i64 0), (.int .i64 0), (.int .i64 0), (.int .i64 0), (.int .i64 0)] [(0, 2), (2, 2), (4, 2), (6, 2)], [.t 4, .t 6, .t 8, .t 10], none⟩,
     ⟨none, .store 8, [.t 2, .t 11], none⟩])
   .ret))
theorem chk.region_bounds : chkF Try.prog 74 = some (12, ir.region_bounds, [.cell 2 135]) := by kernel_rfl

/-- (paravane/region.four).tight -/
abbrev F.region_four_tight : Nat := 75
def ir.region_four_tight : IC :=
 (.seq (.reg [⟨(some 1), .box, [.t 0], none⟩,
     ⟨(some 2), .alloc [(.int .i64 0), (.int .i64 0), (.int .i64 0), (.int .i64 0), (.int .i64 0), (.int .i64 0), (.int .i64 0), (.int .i64 0)], [], none⟩,
     ⟨(some 3), .mov, [.c (.int .i64 0)], none⟩])
   (.seq (.reg [⟨(some 7), .load 8 true, [.t 1], none⟩,
     ⟨(some 8), .call 109, [.t 7], none⟩,
     ⟨(some 9), .mkslice 1 138, [.t 8], none⟩,
     ⟨(some 10), .call 69, [.t 9], none⟩,
     ⟨(some 6), .mov, [.t 10], none⟩,
     ⟨(some 11), .extract 0, [.t 6], none⟩,
     ⟨(some 12), .extract 1, [.t 6], none⟩,
     ⟨(some 4), .alloc [(.int .i64 0), (.int .i64 0), (.int .i64 0), (.int .i64 0), (.int .i64 0), (.int .i64 0), (.int .i64 0), (.int .i64 0)], [], none⟩,
     ⟨none, .store 8, [.t 4, .t 11], none⟩,
     ⟨(some 5), .mov, [.t 12], none⟩])
   (.seq (.seq (.reg [⟨(some 13), .mov, [.t 5], none⟩,
     ⟨(some 14), .un .not, [.t 13], none⟩])
   (.cond (.t 14) (.seq (.reg [⟨(some 15), .build [(.int .i64 0), (.int .i64 0), (.int .i64 0), (.int .i64 0), (.int .i64 0), (.int .i64 0), (.int .i64 0), (.int .i64 0)] [], [], none⟩,
     ⟨none, .store 8, [.t 2, .t 15], none⟩,
     ⟨(some 3), .mov, [.c (.int .i64 4)], none⟩])
   .ret) .skip))
   (.seq (.reg [⟨(some 16), .load 8 true, [.t 4], none⟩,
     ⟨none, .store 8, [.t 2, .t 16], none⟩,
     ⟨(some 3), .mov, [.c (.int .i64 0)], none⟩])
   .ret))))
theorem chk.region_four_tight : chkF Try.prog 75 = some (17, ir.region_four_tight, [.cell 2 135, .tmp 3]) := by kernel_rfl

/-- paravane/region.farthest -/
abbrev F.region_farthest : Nat := 76
def ir.region_farthest : IC :=
 (.seq (.reg [⟨(some 2), .mov, [.c (.int .i64 0)], none⟩])
   (.seq (.reg [⟨(some 4), .mov, [.t 0], none⟩,
     ⟨(some 5), .bin .mul, [.c (.int .i64 2), .t 4], none⟩,
     ⟨(some 6), .mov, [.t 0], none⟩,
     ⟨(some 7), .bin .mul, [.t 5, .t 6], none⟩,
     ⟨(some 8), .call 110, [.t 7], none⟩,
     ⟨(some 3), .mov, [.t 8], none⟩])
   (.seq (.block 0 (.loop (.seq (.seq (.reg [⟨(some 9), .mov, [.t 3], none⟩,
     ⟨(some 10), .bin .quo, [.t 9, .c (.int .i64 2)], none⟩,
     ⟨(some 11), .mov, [.t 3], none⟩,
     ⟨(some 12), .bin .quo, [.t 11, .c (.int .i64 2)], none⟩,
     ⟨(some 13), .bin .mul, [.t 10, .t 12], none⟩,
     ⟨(some 14), .mov, [.t 3], none⟩,
     ⟨(some 15), .mov, [.t 3], none⟩,
     ⟨(some 16), .bin .quo, [.t 15, .c (.int .i64 2)], none⟩,
     ⟨(some 17), .bin .sub, [.t 14, .t 16], none⟩,
     ⟨(some 18), .mov, [.t 3], none⟩,
     ⟨(some 19), .mov, [.t 3], none⟩,
     ⟨(some 20), .bin .quo, [.t 19, .c (.int .i64 2)], none⟩,
     ⟨(some 21), .bin .sub, [.t 18, .t 20], none⟩,
     ⟨(some 22), .bin .mul, [.t 17, .t 21], none⟩,
     ⟨(some 23), .bin .add, [.t 13, .t 22], none⟩,
     ⟨(some 24), .mov, [.t 0], none⟩,
     ⟨(some 25), .mov, [.t 0], none⟩,
     ⟨(some 26), .bin .mul, [.t 24, .t 25], none⟩,
     ⟨(some 27), .bin .gtr, [.t 23, .t 26], none⟩])
   (.cond (.t 27) .skip (.exit 0)))
   (.block 1 (.reg [⟨(some 28), .mov, [.t 3], none⟩,
     ⟨(some 29), .bin .sub, [.t 28, .c (.int .i64 1)], none⟩,
     ⟨(some 3), .mov, [.t 29], none⟩])))))
   (.seq (.reg [⟨(some 30), .mov, [.t 3], none⟩,
     ⟨(some 2), .mov, [.t 30], none⟩])
   .ret))))
theorem chk.region_farthest : chkF Try.prog 76 = some (31, ir.region_farthest, [.tmp 2]) := by kernel_rfl

/-- (paravane/region.limit).into -/
abbrev F.region_limit_into : Nat := 77
def ir.region_limit_into : IC :=
 (.seq (.reg [⟨(some 4), .mov, [.c (.int .i64 0)], none⟩])
   (.seq (.reg [⟨(some 5), .mov, [.t 0], none⟩,
     ⟨(some 6), .un .neg, [.t 5], none⟩,
     ⟨(some 7), .mov, [.t 1], none⟩,
     ⟨(some 8), .mov, [.t 0], none⟩,
     ⟨(some 9), .minmax false, [.t 7, .t 8], none⟩,
     ⟨(some 10), .minmax true, [.t 6, .t 9], none⟩,
     ⟨(some 4), .mov, [.t 10], none⟩])
   .ret))
theorem chk.region_limit_into : chkF Try.prog 77 = some (11, ir.region_limit_into, [.tmp 4]) := by kernel_rfl

/-- paravane/region.done -/
abbrev F.region_done : Nat := 78
def ir.region_done : IC :=
 (.seq (.reg [⟨(some 2), .box, [.t 0], none⟩,
     ⟨(some 4), .alloc [(.int .i64 0), (.int .i64 0), (.int .i64 0), (.int .i64 0), (.int .i64 0), (.int .i64 0), (.int .i64 0), (.int .i64 0)], [], none⟩,
     ⟨(some 5), .mov, [.c (.int .i64 0)], none⟩])
   (.seq (.seq (.reg [⟨(some 6), .mov, [.t 1], none⟩,
     ⟨(some 7), .bin .neq, [.t 6, .c (.int .i64 0)], none⟩])
   (.cond (.t 7) (.seq (.reg [⟨(some 8), .build [(.int .i64 0), (.int .i64 0), (.int .i64 0), (.int .i64 0), (.int .i64 0), (.int .i64 0), (.int .i64 0), (.int .i64 0)] [], [], none⟩,
     ⟨(some 9), .mov, [.t 1], none⟩,
     ⟨none, .store 8, [.t 4, .t 8], none⟩,
     ⟨(some 5), .mov, [.t 9], none⟩])
   .ret) .skip))
   (.seq (.reg [⟨(some 10), .load 8 true, [.t 2], none⟩,
     ⟨(some 11), .call 71, [.t 10], none⟩,
     ⟨none, .store 8, [.t 4, .t 11], none⟩,
     ⟨(some 5), .mov, [.c (.int .i64 0)], none⟩])
   .ret)))
theorem chk.region_done : chkF Try.prog 78 = some (12, ir.region_done, [.cell 4 62, .tmp 5]) := by kernel_rfl

/-- paravane/region.first -/
abbrev F.region_first : Nat := 79
def ir.region_first : IC :=
 (.seq (.reg [⟨(some 2), .mov, [.c (.int .i64 0)], none⟩])
   (.seq (.seq (.reg [⟨(some 5), .mov, [.t 0], none⟩,
     ⟨(some 6), .len false, [.t 5], none⟩,
     ⟨(some 7), .mov, [.c (.int .i64 0)], none⟩])
   (.block 0 (.loop (.seq (.reg [⟨(some 8), .bin .lss, [.t 7, .t 6], none⟩])
   (.seq (.cond (.t 8) .skip (.exit 0))
   (.seq (.block 1 (.seq (.reg [⟨(some 9), .iaddrS 1, [.t 5, .t 7], none⟩,
     ⟨(some 10), .load 1 false, [.t 9], none⟩,
     ⟨(some 4), .mov, [.t 10], none⟩])
   (.seq (.reg [⟨(some 11), .mov, [.t 4], none⟩,
     ⟨(some 12), .bin .neq, [.t 11, .c (.int .i64 0)], none⟩])
   (.cond (.t 12) (.seq (.reg [⟨(some 13), .mov, [.t 4], none⟩,
     ⟨(some 2), .mov, [.t 13], none⟩])
   .ret) .skip))))
   (.reg [⟨(some 14), .bin .add, [.t 7, .c (.int .i64 1)], none⟩,
     ⟨(some 7), .mov, [.t 14], none⟩])))))))
   (.seq (.reg [⟨(some 2), .mov, [.c (.int .i64 0)], none⟩])
   .ret)))
theorem chk.region_first : chkF Try.prog 79 = some (15, ir.region_first, [.tmp 2]) := by kernel_rfl

/-- (paravane/region.four).combined -/
abbrev F.region_four_combined : Nat := 80
def ir.region_four_combined : IC :=
 (.seq (.reg [⟨(some 3), .box, [.t 0], none⟩,
     ⟨(some 4), .box, [.t 1], none⟩,
     ⟨(some 6), .alloc [(.int .i64 0), (.int .i64 0), (.int .i64 0), (.int .i64 0), (.int .i64 0), (.int .i64 0), (.int .i64 0), (.int .i64 0)], [], none⟩])
   (.seq (.seq (.reg [⟨(some 8), .mov, [.c (.int .i64 0)], none⟩])
   (.block 0 (.loop (.seq (.reg [⟨(some 9), .bin .lss, [.t 8, .c (.int .i64 4)], none⟩])
   (.seq (.cond (.t 9) .skip (.exit 0))
   (.seq (.block 1 (.seq (.reg [⟨(some 10), .mov, [.t 8], none⟩,
     ⟨(some 7), .mov, [.t 10], none⟩])
   (.draw [0, 0, 0, 4, 12, 0, 32, 96, 254, 511, 1023] [⟨(some 11), .mov, [.t 7], none⟩,
     ⟨(some 12), .mov, [.t 2], none⟩,
     ⟨(some 13), .mov, [.t 7], none⟩,
     ⟨(some 14), .iaddrA 4 2, [.t 3, .t 13], none⟩,
     ⟨(some 15), .load 2 true, [.t 14], none⟩,
     ⟨(some 16), .mov, [.t 7], none⟩,
     ⟨(some 17), .iaddrA 4 2, [.t 4, .t 16], none⟩,
     ⟨(some 18), .load 2 true, [.t 17], none⟩,
     ⟨(some 19), .callv, [.t 12, .t 15, .t 18], none⟩,
     ⟨(some 20), .iaddrA 4 2, [.t 3, .t 11], none⟩,
     ⟨none, .store 2, [.t 20, .t 19], none⟩])))
   (.reg [⟨(some 21), .bin .add, [.t 8, .c (.int .i64 1)], none⟩,
     ⟨(some 8), .mov, [.t 21], none⟩])))))))
   (.seq (.reg [⟨(some 22), .load 8 true, [.t 3], none⟩,
     ⟨none, .store 8, [.t 6, .t 22], none⟩])
   .ret)))
theorem chk.region_four_combined : chkF Try.prog 80 = some (23, ir.region_four_combined, [.cell 6 135]) := by kernel_rfl

/-- paravane/region.of -/
abbrev F.region_of : Nat := 81
def ir.region_of : IC :=
 (.seq (.reg [⟨(some 1), .box, [.t 0], none⟩,
     ⟨(some 2), .alloc [(.int .i64 0), (.int .i64 0), (.int .i64 0), (.int .i64 0), (.int .i64 0), (.int .i64 0), (.int .i64 0), (.int .i64 0)], [], none⟩])
   (.seq (.reg [⟨(some 3), .alloc [(.int .i64 0), (.int .i64 0), (.int .i64 0), (.int .i64 0), (.int .i64 0), (.int .i64 0), (.int .i64 0), (.int .i64 0)], [], none⟩])
   (.seq (.seq (.reg [⟨(some 6), .faddr 0, [.t 1], none⟩,
     ⟨(some 7), .load 1 false, [.t 6], none⟩,
     ⟨(some 8), .faddr 1, [.t 1], none⟩,
     ⟨(some 9), .load 1 false, [.t 8], none⟩,
     ⟨(some 10), .faddr 0, [.t 1], none⟩,
     ⟨(some 11), .load 1 false, [.t 10], none⟩,
     ⟨(some 12), .faddr 1, [.t 1], none⟩,
     ⟨(some 13), .load 1 false, [.t 12], none⟩,
     ⟨(some 14), .bin .add, [.t 11, .t 13], none⟩,
     ⟨(some 15), .faddr 0, [.t 1], none⟩,
     ⟨(some 16), .load 1 false, [.t 15], none⟩,
     ⟨(some 17), .faddr 1, [.t 1], none⟩,
     ⟨(some 18), .load 1 false, [.t 17], none⟩,
     ⟨(some 19), .bin .sub, [.t 16, .t 18], none⟩,
     ⟨(some 20), .build [(.int .i64 0), (.int .i64 0), (.int .i64 0), (.int .i64 0)] [(0, 1), (1, 1), (2, 1), (3, 1)], [.t 7, .t 9, .t 14, .t 19], none⟩,
     ⟨(some 21), .mov, [.c (.int .i64 0)], none⟩])
   (.block 0 (.loop (.seq (.reg [⟨(some 22), .bin .lss, [.t 21, .c (.int .i64 4)], none⟩])
   (.seq (.cond (.t 22) .skip (.exit 0))
   (.seq (.block 1 (.seq (.reg [⟨(some 23), .mov, [.t 21], none⟩,
     ⟨(some 24), .idxA 4 1 false, [.t 20, .t 21], none⟩,
     ⟨(some 4), .mov, [.t 23], none⟩,
     ⟨(some 5), .mov, [.t 24], none⟩])
   (.reg [⟨(some 25), .mov, [.t 4], none⟩,
     ⟨(some 26), .mov, [.t 5], none⟩,
     ⟨(some 27), .mov, [.t 5], none⟩,
     ⟨(some 28), .build [(.int .i64 0), (.int .i64 0)] [(0, 1), (1, 1)], [.t 26, .t 27], none⟩,
     ⟨(some 29), .iaddrA 4 2, [.t 3, .t 25], none⟩,
     ⟨none, .store 2, [.t 29, .t 28], none⟩])))
   (.reg [⟨(some 30), .bin .add, [.t 21, .c (.int .i64 1)], none⟩,
     ⟨(some 21), .mov, [.t 30], none⟩])))))))
   (.seq (.reg [⟨(some 31), .load 8 true, [.t 3], none⟩,
     ⟨none, .store 8, [.t 2, .t 31], none⟩])
   .ret))))
theorem chk.region_of : chkF Try.prog 81 = some (32, ir.region_of, [.cell 2 135]) := by kernel_rfl

/-- paravane/region.cut -/
abbrev F.region_cut : Nat := 82
def ir.region_cut : IC :=
 (.seq (.reg [⟨(some 2), .box, [.t 0], none⟩,
     ⟨(some 3), .box, [.t 1], none⟩,
     ⟨(some 4), .alloc [(.int .i64 0), (.int .i64 0)], [], none⟩])
   (.seq (.reg [⟨(some 5), .faddr 0, [.t 2], none⟩,
     ⟨(some 6), .load 1 false, [.t 5], none⟩,
     ⟨(some 7), .faddr 0, [.t 3], none⟩,
     ⟨(some 8), .load 1 false, [.t 7], none⟩,
     ⟨(some 9), .minmax true, [.t 6, .t 8], none⟩,
     ⟨(some 10), .faddr 1, [.t 2], none⟩,
     ⟨(some 11), .load 1 false, [.t 10], none⟩,
     ⟨(some 12), .faddr 1, [.t 3], none⟩,
     ⟨(some 13), .load 1 false, [.t 12], none⟩,
     ⟨(some 14), .minmax false, [.t 11, .t 13], none⟩,
     ⟨(some 15), .build [(.int .i64 0), (.int .i64 0)] [(0, 1), (1, 1)], [.t 9, .t 14], none⟩,
     ⟨none, .store 2, [.t 4, .t 15], none⟩])
   .ret))
theorem chk.region_cut : chkF Try.prog 82 = some (16, ir.region_cut, [.cell 4 56]) := by kernel_rfl

/-- slices.IndexFunc[[]paravane/api.Point,paravane/api.Point] -/
abbrev F.slices_IndexFunc_api_Point_api_Point : Nat := 106
def ir.slices_IndexFunc_api_Point_api_Point : IC :=
 (.seq (.reg [⟨(some 4), .mov, [.c (.int .i64 0)], none⟩])
   (.seq (.seq (.reg [⟨(some 6), .mov, [.t 0], none⟩,
     ⟨(some 7), .len false, [.t 6], none⟩,
     ⟨(some 8), .mov, [.c (.int .i64 0)], none⟩])
   (.block 0 (.loop (.seq (.reg [⟨(some 9), .bin .lss, [.t 8, .t 7], none⟩])
   (.seq (.cond (.t 9) .skip (.exit 0))
   (.seq (.block 1 (.seq (.reg [⟨(some 10), .mov, [.t 8], none⟩,
     ⟨(some 5), .mov, [.t 10], none⟩])
   (.seq (.reg [⟨(some 11), .mov, [.t 1], none⟩,
     ⟨(some 12), .mov, [.t 0], none⟩,
     ⟨(some 13), .mov, [.t 5], none⟩,
     ⟨(some 14), .iaddrS 2, [.t 12, .t 13], none⟩,
     ⟨(some 15), .load 2 true, [.t 14], none⟩,
     ⟨(some 16), .callv, [.t 11, .t 15], none⟩])
   (.cond (.t 16) (.seq (.reg [⟨(some 17), .mov, [.t 5], none⟩,
     ⟨(some 4), .mov, [.t 17], none⟩])
   .ret) .skip))))
   (.reg [⟨(some 18), .bin .add, [.t 8, .c (.int .i64 1)], none⟩,
     ⟨(some 8), .mov, [.t 18], none⟩])))))))
   (.seq (.reg [⟨(some 4), .mov, [.c (.int .i64 (-1))], none⟩])
   .ret)))
theorem chk.slices_IndexFunc_api_Point_api_Point : chkF Try.prog 106 = some (19, ir.slices_IndexFunc_api_Point_api_Point, [.tmp 4]) := by kernel_rfl

/-- paravane/region.span -/
abbrev F.region_span : Nat := 107
def ir.region_span : IC :=
 (.seq (.reg [⟨(some 2), .box, [.t 0], none⟩,
     ⟨(some 3), .box, [.t 1], none⟩,
     ⟨(some 4), .alloc [(.int .i64 0), (.int .i64 0)], [], none⟩])
   (.seq (.reg [⟨(some 5), .faddr 0, [.t 2], none⟩,
     ⟨(some 6), .load 1 false, [.t 5], none⟩,
     ⟨(some 7), .faddr 0, [.t 3], none⟩,
     ⟨(some 8), .load 1 false, [.t 7], none⟩,
     ⟨(some 9), .minmax false, [.t 6, .t 8], none⟩,
     ⟨(some 10), .faddr 1, [.t 2], none⟩,
     ⟨(some 11), .load 1 false, [.t 10], none⟩,
     ⟨(some 12), .faddr 1, [.t 3], none⟩,
     ⟨(some 13), .load 1 false, [.t 12], none⟩,
     ⟨(some 14), .minmax true, [.t 11, .t 13], none⟩,
     ⟨(some 15), .build [(.int .i64 0), (.int .i64 0)] [(0, 1), (1, 1)], [.t 9, .t 14], none⟩,
     ⟨none, .store 2, [.t 4, .t 15], none⟩])
   .ret))
theorem chk.region_span : chkF Try.prog 107 = some (16, ir.region_span, [.cell 4 56]) := by kernel_rfl

/-- (paravane/region.limit).fits -/
abbrev F.region_limit_fits : Nat := 108
def ir.region_limit_fits : IC :=
 (.seq (.reg [⟨(some 3), .box, [.t 1], none⟩,
     ⟨(some 4), .mov, [.c (.bool false)], none⟩])
   (.seq (.reg [⟨(some 5), .faddr 0, [.t 3], none⟩,
     ⟨(some 6), .load 1 false, [.t 5], none⟩,
     ⟨(some 7), .mov, [.t 0], none⟩,
     ⟨(some 8), .un .neg, [.t 7], none⟩,
     ⟨(some 9), .bin .geq, [.t 6, .t 8], none⟩,
     ⟨(some 10), .mov, [.t 9], none⟩,
     ⟨(some 11), .faddr 0, [.t 3], (some (10, true))⟩,
     ⟨(some 12), .load 1 false, [.t 11], (some (10, true))⟩,
     ⟨(some 13), .faddr 1, [.t 3], (some (10, true))⟩,
     ⟨(some 14), .load 1 false, [.t 13], (some (10, true))⟩,
     ⟨(some 15), .bin .leq, [.t 12, .t 14], (some (10, true))⟩,
     ⟨(some 16), .pick, [.t 10, .t 15, .c (.bool false)], none⟩,
     ⟨(some 17), .mov, [.t 16], none⟩,
     ⟨(some 18), .faddr 1, [.t 3], (some (17, true))⟩,
     ⟨(some 19), .load 1 false, [.t 18], (some (17, true))⟩,
     ⟨(some 20), .mov, [.t 0], (some (17, true))⟩,
     ⟨(some 21), .bin .leq, [.t 19, .t 20], (some (17, true))⟩,
     ⟨(some 22), .pick, [.t 17, .t 21, .c (.bool false)], none⟩,
     ⟨(some 4), .mov, [.t 22], none⟩])
   .ret))
theorem chk.region_limit_fits : chkF Try.prog 108 = some (23, ir.region_limit_fits, [.tmp 4]) := by kernel_rfl

/-- (paravane/region.four).ends -/
abbrev F.region_four_ends : Nat := 109
def ir.region_four_ends : IC :=
 (.seq (.reg [⟨(some 1), .box, [.t 0], none⟩,
     ⟨(some 2), .mov, [.c .nilf], none⟩])
   (.seq (.reg [⟨(some 3), .mkfunc (.func 116) 0, [.t 1], none⟩,
     ⟨(some 2), .mov, [.t 3], none⟩])
   .ret))
theorem chk.region_four_ends : chkF Try.prog 109 = some (4, ir.region_four_ends, [.tmp 2]) := by kernel_rfl

/-- (paravane/region.four).ends$1 -/
abbrev F.region_four_ends_1 : Nat := 116
def ir.region_four_ends_1 : IC :=
 (.seq (.reg [⟨(some 2), .box, [.t 0], none⟩])
   (.seq (.reg [⟨(some 6), .load 8 true, [.t 1], none⟩,
     ⟨(some 7), .call 117, [.t 6], none⟩])
   (.block 0 (.range (.t 7) [8] (.reg [⟨(some 3), .alloc [(.int .i64 0), (.int .i64 0), (.int .i64 0)], [], none⟩,
     ⟨none, .store 3, [.t 3, .t 8], none⟩]) (.block 1 (.seq (.draw [0, 1, 0, 4, 15, 0, 32, 0, 128, 480, 0, 0, 3103, 8191] [⟨(some 9), .faddr 0, [.t 3], none⟩,
     ⟨(some 10), .load 1 false, [.t 9], none⟩,
     ⟨(some 11), .faddr 1, [.t 3], none⟩,
     ⟨(some 12), .load 1 false, [.t 11], none⟩,
     ⟨(some 13), .build [(.int .i64 0), (.int .i64 0)] [(0, 1), (1, 1)], [.t 10, .t 12], none⟩,
     ⟨(some 14), .faddr 0, [.t 3], none⟩,
     ⟨(some 15), .load 1 false, [.t 14], none⟩,
     ⟨(some 16), .faddr 2, [.t 3], none⟩,
     ⟨(some 17), .load 1 false, [.t 16], none⟩,
     ⟨(some 18), .build [(.int .i64 0), (.int .i64 0)] [(0, 1), (1, 1)], [.t 15, .t 17], none⟩,
     ⟨(some 4), .alloc [(.int .i64 0), (.int .i64 0)], [], none⟩,
     ⟨(some 5), .alloc [(.int .i64 0), (.int .i64 0)], [], none⟩,
     ⟨none, .store 2, [.t 4, .t 13], none⟩,
     ⟨none, .store 2, [.t 5, .t 18], none⟩])
   (.seq (.reg [⟨(some 19), .load 1 false, [.t 2], none⟩,
     ⟨(some 20), .load 2 true, [.t 4], none⟩,
     ⟨(some 21), .callv, [.t 19, .t 20], none⟩,
     ⟨(some 22), .un .not, [.t 21], none⟩,
     ⟨(some 23), .mov, [.t 22], none⟩,
     ⟨(some 24), .load 2 true, [.t 4], (some (23, false))⟩,
     ⟨(some 25), .load 2 true, [.t 5], (some (23, false))⟩,
     ⟨(some 26), .eqs true [0, 0], [.t 24, .t 25], (some (23, false))⟩,
     ⟨(some 27), .mov, [.t 26], (some (23, false))⟩,
     ⟨(some 28), .load 1 false, [.t 2], (some (27, true))⟩,
     ⟨(some 29), .load 2 true, [.t 5], (some (27, true))⟩,
     ⟨(some 30), .callv, [.t 28, .t 29], (some (27, true))⟩,
     ⟨(some 31), .un .not, [.t 30], (some (27, true))⟩,
     ⟨(some 32), .pick, [.t 27, .t 31, .c (.bool false)], (some (23, false))⟩,
     ⟨(some 33), .pick, [.t 23, .c (.bool true), .t 32], none⟩])
   (.cond (.t 33) .ret .skip))))))))
theorem chk.region_four_ends_1 : chkF Try.prog 116 = some (34, ir.region_four_ends_1, []) := by kernel_rfl

/-- (paravane/region.four).rows -/
abbrev F.region_four_rows : Nat := 117
def ir.region_four_rows : IC :=
 (.seq (.reg [⟨(some 1), .box, [.t 0], none⟩,
     ⟨(some 2), .mov, [.c .nilf], none⟩])
   (.seq (.reg [⟨(some 3), .mkfunc (.func 118) 0, [.t 1], none⟩,
     ⟨(some 2), .mov, [.t 3], none⟩])
   .ret))
theorem chk.region_four_rows : chkF Try.prog 117 = some (4, ir.region_four_rows, [.tmp 2]) := by kernel_rfl

/-- (paravane/region.four).rows$1 -/
abbrev F.region_four_rows_1 : Nat := 118
def ir.region_four_rows_1 : IC :=
 (.seq (.reg [⟨(some 5), .iaddrA 4 2, [.t 1, .c (.int .i64 0)], none⟩,
     ⟨(some 6), .faddr 0, [.t 5], none⟩,
     ⟨(some 7), .load 1 false, [.t 6], none⟩,
     ⟨(some 3), .mov, [.t 7], none⟩])
   (.block 0 (.loop (.seq (.seq (.reg [⟨(some 8), .mov, [.t 3], none⟩,
     ⟨(some 9), .iaddrA 4 2, [.t 1, .c (.int .i64 0)], none⟩,
     ⟨(some 10), .faddr 1, [.t 9], none⟩,
     ⟨(some 11), .load 1 false, [.t 10], none⟩,
     ⟨(some 12), .bin .leq, [.t 8, .t 11], none⟩])
   (.cond (.t 12) .skip (.exit 0)))
   (.seq (.block 1 (.seq (.reg [⟨(some 15), .mov, [.t 3], none⟩,
     ⟨(some 16), .iaddrA 4 2, [.t 1, .c (.int .i64 1)], none⟩,
     ⟨(some 17), .faddr 0, [.t 16], none⟩,
     ⟨(some 18), .load 1 false, [.t 17], none⟩,
     ⟨(some 19), .iaddrA 4 2, [.t 1, .c (.int .i64 2)], none⟩,
     ⟨(some 20), .faddr 0, [.t 19], none⟩,
     ⟨(some 21), .load 1 false, [.t 20], none⟩,
     ⟨(some 22), .mov, [.t 3], none⟩,
     ⟨(some 23), .bin .sub, [.t 21, .t 22], none⟩,
     ⟨(some 24), .mov, [.t 3], none⟩,
     ⟨(some 25), .iaddrA 4 2, [.t 1, .c (.int .i64 3)], none⟩,
     ⟨(some 26), .faddr 1, [.t 25], none⟩,
     ⟨(some 27), .load 1 false, [.t 26], none⟩,
     ⟨(some 28), .bin .sub, [.t 24, .t 27], none⟩,
     ⟨(some 29), .minmax true, [.t 18, .t 23, .t 28], none⟩,
     ⟨(some 30), .iaddrA 4 2, [.t 1, .c (.int .i64 1)], none⟩,
     ⟨(some 31), .faddr 1, [.t 30], none⟩,
     ⟨(some 32), .load 1 false, [.t 31], none⟩,
     ⟨(some 33), .iaddrA 4 2, [.t 1, .c (.int .i64 2)], none⟩,
     ⟨(some 34), .faddr 1, [.t 33], none⟩,
     ⟨(some 35), .load 1 false, [.t 34], none⟩,
     ⟨(some 36), .mov, [.t 3], none⟩,
     ⟨(some 37), .bin .sub, [.t 35, .t 36], none⟩,
     ⟨(some 38), .mov, [.t 3], none⟩,
     ⟨(some 39), .iaddrA 4 2, [.t 1, .c (.int .i64 3)], none⟩,
     ⟨(some 40), .faddr 0, [.t 39], none⟩,
     ⟨(some 41), .load 1 false, [.t 40], none⟩,
     ⟨(some 42), .bin .sub, [.t 38, .t 41], none⟩,
     ⟨(some 43), .minmax false, [.t 32, .t 37, .t 42], none⟩,
     ⟨(some 44), .build [(.int .i64 0), (.int .i64 0), (.int .i64 0)] [(0, 1), (1, 1), (2, 1)], [.t 15, .t 29, .t 43], none⟩,
     ⟨(some 4), .alloc [(.int .i64 0), (.int .i64 0), (.int .i64 0)], [], none⟩,
     ⟨none, .store 3, [.t 4, .t 44], none⟩])
   (.seq (.reg [⟨(some 45), .faddr 1, [.t 4], none⟩,
     ⟨(some 46), .load 1 false, [.t 45], none⟩,
     ⟨(some 47), .faddr 2, [.t 4], none⟩,
     ⟨(some 48), .load 1 false, [.t 47], none⟩,
     ⟨(some 49), .bin .leq, [.t 46, .t 48], none⟩,
     ⟨(some 50), .mov, [.t 49], none⟩,
     ⟨(some 51), .mov, [.t 0], (some (50, true))⟩,
     ⟨(some 52), .load 3 true, [.t 4], (some (50, true))⟩,
     ⟨(some 53), .callv, [.t 51, .t 52], (some (50, true))⟩,
     ⟨(some 54), .un .not, [.t 53], (some (50, true))⟩,
     ⟨(some 55), .pick, [.t 50, .t 54, .c (.bool false)], none⟩])
   (.cond (.t 55) .ret .skip))))
   (.reg [⟨(some 13), .mov, [.t 3], none⟩,
     ⟨(some 14), .bin .add, [.t 13, .c (.int .i64 1)], none⟩,
     ⟨(some 3), .mov, [.t 14], none⟩]))))))
theorem chk.region_four_rows_1 : chkF Try.prog 118 = some (56, ir.region_four_rows_1, []) := by kernel_rfl

end Go.Proofs.Ytecggpjpckicgaa

/-! Contracts: regions of the plane, by their four bounds. -/
set_option linter.unusedVariables false
set_option linter.unusedSimpArgs false
set_option maxRecDepth 20000
set_option maxHeartbeats 2000000
namespace Go.Proofs.Ytecggpjpckicgaa
open Go.Am
attribute [local simp] cells scalar mkv splice under2 under dem dem1 eB

/-- Bounds of x, y, their sum and difference. -/
structure Fr where
  x : Int × Int
  y : Int × Int
  s : Int × Int
  d : Int × Int

def fourC (f : Fr) : List V := [I f.x.1, I f.x.2, I f.y.1, I f.y.2, I f.s.1, I f.s.2, I f.d.1, I f.d.2]
attribute [local simp] fourC

def comb (g : Int × Int → Int × Int → Int × Int) (f h : Fr) : Fr := ⟨g f.x h.x, g f.y h.y, g f.s h.s, g f.d h.d⟩
def spanB (a b : Int × Int) : Int × Int := (min a.1 b.1, max a.2 b.2)
def cutB (a b : Int × Int) : Int × Int := (max a.1 b.1, min a.2 b.2)

theorem ifMin (a b : Int) : (if b < a then b else a) = min a b := by split <;> omega
theorem ifMax (a b : Int) : (if b > a then b else a) = max a b := by split <;> omega

theorem c_span (a b : Int × Int) : C Try.prog F.region_span [eB a, eB b] (eB (spanB a b)) := by
  refine C_of mixed chk.region_span (by simp) fun S ok => ?_
  refine Tr.seqR rfl (by simp) (Tr.seqR rfl (by simp) (Tr.retQ rfl rfl ?_ trivial))
  simp only [packR, eB, spanB, ← ifMin, ← ifMax]
  rfl

theorem c_cut (a b : Int × Int) : C Try.prog F.region_cut [eB a, eB b] (eB (cutB a b)) := by
  refine C_of mixed chk.region_cut (by simp) fun S ok => ?_
  refine Tr.seqR rfl (by simp) (Tr.seqR rfl (by simp) (Tr.retQ rfl rfl ?_ trivial))
  simp only [packR, eB, cutB, ← ifMin, ← ifMax]
  rfl

theorem c_bounds (f : Fr) : C Try.prog F.region_bounds [.agg (fourC f)] (.agg (fourC f)) := by
  refine C_of mixed chk.region_bounds (by simp) fun S ok => ?_
  exact Tr.seqR rfl (by simp) (Tr.seqR rfl (by simp) (Tr.retQ rfl rfl rfl trivial))

theorem c_region (f : Fr) : C Try.prog F.region_four_region [.agg (fourC f)] (.agg (fourC f)) := by
  refine C_of mixed chk.region_four_region (by simp) fun S ok => ?_
  exact Tr.seqR rfl (by simp) (Tr.seqR rfl (by simp) (Tr.retQ rfl rfl rfl trivial))

theorem c_combined {op : FuncId} {g : Int × Int → Int × Int → Int × Int} (hg : ∀ a b, C Try.prog op [eB a, eB b] (eB (g a b))) (f h : Fr) : C Try.prog F.region_four_combined [.agg (fourC f), .agg (fourC h), .func (.func op) [] []] (.agg (fourC (comb g f h))) := by
  refine C_of mixed chk.region_four_combined (by simp) fun S ok => ?_
  refine Tr.seqR rfl (by simp) (Tr.seq (Tr.seqR rfl (by simp) (Tr.block ?_)))
  refine Tr.rounds 5 (TrN.succ ?_)
  refine Tr.weak (s' := { env := [(2, .func (.func op) [] []), (3, .ptr 3 0), (4, .ptr 4 0), (6, .ptr 6 0), (8, I 0)], bx := [(3, ⟨[I f.x.1, I f.x.2, I f.y.1, I f.y.2, I f.s.1, I f.s.2, I f.d.1, I f.d.2], false⟩), (4, ⟨fourC h, false⟩), (6, ⟨[I 0, I 0, I 0, I 0, I 0, I 0, I 0, I 0], false⟩)], rw := [], log := [], stp := false })
    (Wk.le (.cons rfl (.refl _) (.cons rfl (.refl _) (.cons rfl (.refl _) (.cons rfl (.refl _) (.cons rfl (VLe.i rfl) .nil))))) (.cons rfl (LLe.refl _) (.cons rfl (LLe.refl _) (.cons rfl (LLe.refl _) .nil))) .nil rfl rfl) ?_
  refine Tr.seqR rfl (by simp) (Tr.seq (Tr.condT rfl (Tr.skip (Tr.seq (Tr.block (Tr.seqR rfl (by simp) ?_))))))
  refine Tr.drawK (TraceK.run rfl (by simp) (TraceK.callv rfl rfl (hg f.x h.x) (TraceK.run rfl (by simp) (.done ⟨by kernel_rfl, by kernel_rfl, ?_⟩))))
  refine Tr.regR rfl (by simp) (TrN.succ ?_)
  refine Tr.weak (s' := { env := [(2, .func (.func op) [] []), (3, .ptr 3 0), (4, .ptr 4 0), (6, .ptr 6 0), (8, I 1)], bx := [(3, ⟨[I (g f.x h.x).1, I (g f.x h.x).2, I f.y.1, I f.y.2, I f.s.1, I f.s.2, I f.d.1, I f.d.2], false⟩), (4, ⟨fourC h, false⟩), (6, ⟨[I 0, I 0, I 0, I 0, I 0, I 0, I 0, I 0], false⟩)], rw := [], log := [], stp := false })
    (Wk.le (.cons rfl (.refl _) (.cons rfl (.refl _) (.cons rfl (.refl _) (.cons rfl (.refl _) (.cons rfl (VLe.i rfl) .nil))))) (.cons rfl (LLe.refl _) (.cons rfl (LLe.refl _) (.cons rfl (LLe.refl _) .nil))) .nil rfl rfl) ?_
  refine Tr.seqR rfl (by simp) (Tr.seq (Tr.condT rfl (Tr.skip (Tr.seq (Tr.block (Tr.seqR rfl (by simp) ?_))))))
  refine Tr.drawK (TraceK.run rfl (by simp) (TraceK.callv rfl rfl (hg f.y h.y) (TraceK.run rfl (by simp) (.done ⟨by kernel_rfl, by kernel_rfl, ?_⟩))))
  refine Tr.regR rfl (by simp) (TrN.succ ?_)
  refine Tr.weak (s' := { env := [(2, .func (.func op) [] []), (3, .ptr 3 0), (4, .ptr 4 0), (6, .ptr 6 0), (8, I 2)], bx := [(3, ⟨[I (g f.x h.x).1, I (g f.x h.x).2, I (g f.y h.y).1, I (g f.y h.y).2, I f.s.1, I f.s.2, I f.d.1, I f.d.2], false⟩), (4, ⟨fourC h, false⟩), (6, ⟨[I 0, I 0, I 0, I 0, I 0, I 0, I 0, I 0], false⟩)], rw := [], log := [], stp := false })
    (Wk.le (.cons rfl (.refl _) (.cons rfl (.refl _) (.cons rfl (.refl _) (.cons rfl (.refl _) (.cons rfl (VLe.i rfl) .nil))))) (.cons rfl (LLe.refl _) (.cons rfl (LLe.refl _) (.cons rfl (LLe.refl _) .nil))) .nil rfl rfl) ?_
  refine Tr.seqR rfl (by simp) (Tr.seq (Tr.condT rfl (Tr.skip (Tr.seq (Tr.block (Tr.seqR rfl (by simp) ?_))))))
  refine Tr.drawK (TraceK.run rfl (by simp) (TraceK.callv rfl rfl (hg f.s h.s) (TraceK.run rfl (by simp) (.done ⟨by kernel_rfl, by kernel_rfl, ?_⟩))))
  refine Tr.regR rfl (by simp) (TrN.succ ?_)
  refine Tr.weak (s' := { env := [(2, .func (.func op) [] []), (3, .ptr 3 0), (4, .ptr 4 0), (6, .ptr 6 0), (8, I 3)], bx := [(3, ⟨[I (g f.x h.x).1, I (g f.x h.x).2, I (g f.y h.y).1, I (g f.y h.y).2, I (g f.s h.s).1, I (g f.s h.s).2, I f.d.1, I f.d.2], false⟩), (4, ⟨fourC h, false⟩), (6, ⟨[I 0, I 0, I 0, I 0, I 0, I 0, I 0, I 0], false⟩)], rw := [], log := [], stp := false })
    (Wk.le (.cons rfl (.refl _) (.cons rfl (.refl _) (.cons rfl (.refl _) (.cons rfl (.refl _) (.cons rfl (VLe.i rfl) .nil))))) (.cons rfl (LLe.refl _) (.cons rfl (LLe.refl _) (.cons rfl (LLe.refl _) .nil))) .nil rfl rfl) ?_
  refine Tr.seqR rfl (by simp) (Tr.seq (Tr.condT rfl (Tr.skip (Tr.seq (Tr.block (Tr.seqR rfl (by simp) ?_))))))
  refine Tr.drawK (TraceK.run rfl (by simp) (TraceK.callv rfl rfl (hg f.d h.d) (TraceK.run rfl (by simp) (.done ⟨by kernel_rfl, by kernel_rfl, ?_⟩))))
  refine Tr.regR rfl (by simp) (TrN.succ ?_)
  refine Tr.seqR rfl (by simp) (Tr.seq (Tr.condF rfl (Tr.exit ?_)))
  exact Tr.seqR rfl (by simp) (Tr.retQ rfl rfl rfl trivial)

def ofF (p : Int × Int) : Fr := ⟨(p.1, p.1), (p.2, p.2), (w (p.1 + p.2), w (p.1 + p.2)), (w (p.1 - p.2), w (p.1 - p.2))⟩

theorem c_ofP (p : Int × Int) : C Try.prog F.region_of [eB p] (.agg (fourC (ofF p))) := by
  refine C_of mixed chk.region_of (by simp) fun S ok => ?_
  refine Tr.seqR rfl (by simp) (Tr.seqR rfl (by simp) (Tr.seq (Tr.seqR rfl (by simp) (Tr.block ?_))))
  refine Tr.rounds 5 (TrN.succ ?_)
  refine Tr.weak (s' := { env := [(2, .ptr 2 0), (3, .ptr 3 0), (20, .agg [I p.1, I p.2, I (w (p.1 + p.2)), I (w (p.1 - p.2))]), (21, I 0)], bx := [(2, ⟨[I 0, I 0, I 0, I 0, I 0, I 0, I 0, I 0], false⟩), (3, ⟨[I 0, I 0, I 0, I 0, I 0, I 0, I 0, I 0], false⟩)], rw := [], log := [], stp := false })
    (Wk.le (.cons rfl (.refl _) (.cons rfl (.refl _) (.cons rfl (.refl _) (.cons rfl (VLe.i rfl) .nil)))) (.cons rfl (LLe.refl _) (.cons rfl (LLe.refl _) .nil)) .nil rfl rfl) ?_
  refine Tr.seqR rfl (by simp) (Tr.seq (Tr.condT rfl (Tr.skip (Tr.seq (Tr.block (Tr.seqR rfl (by simp) (Tr.regR rfl (by simp) (Tr.regR rfl (by simp) (TrN.succ ?_)))))))))
  refine Tr.weak (s' := { env := [(2, .ptr 2 0), (3, .ptr 3 0), (20, .agg [I p.1, I p.2, I (w (p.1 + p.2)), I (w (p.1 - p.2))]), (21, I 1)], bx := [(2, ⟨[I 0, I 0, I 0, I 0, I 0, I 0, I 0, I 0], false⟩), (3, ⟨[I (p.1), I (p.1), I 0, I 0, I 0, I 0, I 0, I 0], false⟩)], rw := [], log := [], stp := false })
    (Wk.le (.cons rfl (.refl _) (.cons rfl (.refl _) (.cons rfl (.refl _) (.cons rfl (VLe.i rfl) .nil)))) (.cons rfl (LLe.refl _) (.cons rfl (LLe.refl _) .nil)) .nil rfl rfl) ?_
  refine Tr.seqR rfl (by simp) (Tr.seq (Tr.condT rfl (Tr.skip (Tr.seq (Tr.block (Tr.seqR rfl (by simp) (Tr.regR rfl (by simp) (Tr.regR rfl (by simp) (TrN.succ ?_)))))))))
  refine Tr.weak (s' := { env := [(2, .ptr 2 0), (3, .ptr 3 0), (20, .agg [I p.1, I p.2, I (w (p.1 + p.2)), I (w (p.1 - p.2))]), (21, I 2)], bx := [(2, ⟨[I 0, I 0, I 0, I 0, I 0, I 0, I 0, I 0], false⟩), (3, ⟨[I (p.1), I (p.1), I (p.2), I (p.2), I 0, I 0, I 0, I 0], false⟩)], rw := [], log := [], stp := false })
    (Wk.le (.cons rfl (.refl _) (.cons rfl (.refl _) (.cons rfl (.refl _) (.cons rfl (VLe.i rfl) .nil)))) (.cons rfl (LLe.refl _) (.cons rfl (LLe.refl _) .nil)) .nil rfl rfl) ?_
  refine Tr.seqR rfl (by simp) (Tr.seq (Tr.condT rfl (Tr.skip (Tr.seq (Tr.block (Tr.seqR rfl (by simp) (Tr.regR rfl (by simp) (Tr.regR rfl (by simp) (TrN.succ ?_)))))))))
  refine Tr.weak (s' := { env := [(2, .ptr 2 0), (3, .ptr 3 0), (20, .agg [I p.1, I p.2, I (w (p.1 + p.2)), I (w (p.1 - p.2))]), (21, I 3)], bx := [(2, ⟨[I 0, I 0, I 0, I 0, I 0, I 0, I 0, I 0], false⟩), (3, ⟨[I (p.1), I (p.1), I (p.2), I (p.2), I (w (p.1 + p.2)), I (w (p.1 + p.2)), I 0, I 0], false⟩)], rw := [], log := [], stp := false })
    (Wk.le (.cons rfl (.refl _) (.cons rfl (.refl _) (.cons rfl (.refl _) (.cons rfl (VLe.i rfl) .nil)))) (.cons rfl (LLe.refl _) (.cons rfl (LLe.refl _) .nil)) .nil rfl rfl) ?_
  refine Tr.seqR rfl (by simp) (Tr.seq (Tr.condT rfl (Tr.skip (Tr.seq (Tr.block (Tr.seqR rfl (by simp) (Tr.regR rfl (by simp) (Tr.regR rfl (by simp) (TrN.succ ?_)))))))))
  refine Tr.seqR rfl (by simp) (Tr.seq (Tr.condF rfl (Tr.exit ?_)))
  exact Tr.seqR rfl (by simp) (Tr.retQ rfl rfl rfl trivial)

/-- A number, brought into the range. -/
def intoL (l n : Int) : Int := max (-l) (min n l)

theorem c_into {l : Int} (n : Int) (hl : 0 ≤ l ∧ l ≤ 65536) : C Try.prog F.region_limit_into [I l, I n] (I (intoL l n)) := by
  refine C_of mixed chk.region_limit_into (by simp) fun S ok => ?_
  refine Tr.seqR rfl (by simp) (Tr.seqR rfl (by simp) (Tr.retQ rfl rfl ?_ trivial))
  have e : IntKind.wrap .i64 (0 - l) = -l := by rw [w64 (by omega) (by omega)]; omega
  simp only [packR, intoL, ← ifMin, ← ifMax, ← e]
  rfl

theorem c_fits {l : Int} {b : Int × Int} (hl : 0 ≤ l ∧ l ≤ 65536) (h1 : -l ≤ b.1) (h2 : b.1 ≤ b.2) (h3 : b.2 ≤ l) : C Try.prog F.region_limit_fits [I l, eB b] (.bool true) := by
  refine C_of mixed chk.region_limit_fits (by simp) fun S ok => ?_
  have e : IntKind.wrap .i64 (0 - l) = -l := by rw [w64 (by omega) (by omega)]; omega
  refine Tr.seqR rfl (by simp) (Tr.seqR rfl (by simp) (Tr.retQ rfl rfl ?_ trivial))
  rw [Int.zero_sub] at e
  simp [packR, e, h1, h2, h3]

def inPlane (p : Int × Int) : Prop := (-32768 ≤ p.1 ∧ p.1 ≤ 32768) ∧ -32768 ≤ p.2 ∧ p.2 ≤ 32768

theorem into_self {l n : Int} (h : -l ≤ n ∧ n ≤ l) : intoL l n = n := by unfold intoL; omega

theorem c_CheckPoint {p : Int × Int} (h : inPlane p) : C Try.prog F.region_CheckPoint [eB p] (I 0) := by
  refine C_of mixed chk.region_CheckPoint (by simp) fun S ok => ?_
  have k1 := c_into (l := 32768) p.1 (by omega)
  have k2 := c_into (l := 32768) p.2 (by omega)
  rw [into_self (by have := h.1; omega)] at k1
  rw [into_self (by have := h.2; omega)] at k2
  refine Tr.seqR rfl (by simp) (Tr.seq (Tr.seqR rfl (by simp) (Tr.block ?_)))
  refine Tr.rounds 3 (TrN.succ ?_)
  refine Tr.seqR rfl (by simp) (Tr.seq (Tr.condT rfl (Tr.skip (Tr.seq (Tr.block (Tr.seqR rfl (by simp) ?_))))))
  refine Tr.seqC rfl (by simp) (Steps.call rfl rfl k1 (Steps.fin rfl (by simp) (Tr.cond rfl rfl (fun h => ?_) (fun _ => Tr.skip (Tr.regR rfl (by simp) (TrN.succ ?_))))))
  · simp at h
  refine Tr.seqR rfl (by simp) (Tr.seq (Tr.condT rfl (Tr.skip (Tr.seq (Tr.block (Tr.seqR rfl (by simp) ?_))))))
  refine Tr.seqC rfl (by simp) (Steps.call rfl rfl k2 (Steps.fin rfl (by simp) (Tr.cond rfl rfl (fun h => ?_) (fun _ => Tr.skip (Tr.regR rfl (by simp) (TrN.succ ?_))))))
  · simp at h
  refine Tr.seqR rfl (by simp) (Tr.seq (Tr.condF rfl (Tr.exit ?_)))
  exact Tr.seqR rfl (by simp) (Tr.retX rfl rfl rfl rfl trivial)

def fitB (l : Int) (b : Int × Int) : Prop := -l ≤ b.1 ∧ b.1 ≤ b.2 ∧ b.2 ≤ l
def fitF (f : Fr) : Prop := (fitB 32768 f.x ∧ fitB 32768 f.y) ∧ fitB 65536 f.s ∧ fitB 65536 f.d

theorem c_CheckR {f : Fr} (h : fitF f) : C Try.prog F.region_Check [.agg (fourC f)] (I 0) := by
  refine C_of mixed chk.region_Check (by simp) fun S ok => ?_
  obtain ⟨⟨⟨x1, x2, x3⟩, y1, y2, y3⟩, ⟨s1, s2, s3⟩, d1, d2, d3⟩ := h
  refine Tr.seqR rfl (by simp) (Tr.seqR rfl (by simp) (Tr.seq (Tr.seqC rfl (by simp) (Steps.call rfl rfl (c_bounds f) (Steps.fin rfl (by simp) (Tr.block ?_))))))
  refine Tr.rounds 5 (TrN.succ ?_)
  refine Tr.weak (s' := { env := [(3, .ptr 3 0), (12, .agg (fourC f)), (13, I 0)], bx := [(3, ⟨[.func (.func F.region_limit_fits) [I 32768] [], .func (.func F.region_limit_fits) [I 32768] [], .func (.func F.region_limit_fits) [I 65536] [], .func (.func F.region_limit_fits) [I 65536] []], false⟩)], rw := [], log := [], stp := false })
    (Wk.le (.cons rfl (.refl _) (.cons rfl (.refl _) (.cons rfl (VLe.i rfl) .nil))) (.cons rfl (LLe.refl _) .nil) .nil rfl rfl) ?_
  refine Tr.seqR rfl (by simp) (Tr.seq (Tr.condT rfl (Tr.skip (Tr.seq (Tr.block (Tr.seqR rfl (by simp) (Tr.seq ?_)))))))
  refine Tr.drawK (TraceK.run rfl (by simp) (TraceK.callv rfl rfl (c_fits (l := 32768) (b := f.x) (by omega) x1 x2 x3) (TraceK.run rfl (by simp) (.done ⟨by kernel_rfl, by kernel_rfl, ?_⟩))))
  refine Tr.condF rfl (Tr.skip (Tr.regR rfl (by simp) (TrN.succ ?_)))
  refine Tr.weak (s' := { env := [(3, .ptr 3 0), (12, .agg (fourC f)), (13, I 1)], bx := [(3, ⟨[.func (.func F.region_limit_fits) [I 32768] [], .func (.func F.region_limit_fits) [I 32768] [], .func (.func F.region_limit_fits) [I 65536] [], .func (.func F.region_limit_fits) [I 65536] []], false⟩)], rw := [], log := [], stp := false })
    (Wk.le (.cons rfl (.refl _) (.cons rfl (.refl _) (.cons rfl (VLe.i rfl) .nil))) (.cons rfl (LLe.refl _) .nil) .nil rfl rfl) ?_
  refine Tr.seqR rfl (by simp) (Tr.seq (Tr.condT rfl (Tr.skip (Tr.seq (Tr.block (Tr.seqR rfl (by simp) (Tr.seq ?_)))))))
  refine Tr.drawK (TraceK.run rfl (by simp) (TraceK.callv rfl rfl (c_fits (l := 32768) (b := f.y) (by omega) y1 y2 y3) (TraceK.run rfl (by simp) (.done ⟨by kernel_rfl, by kernel_rfl, ?_⟩))))
  refine Tr.condF rfl (Tr.skip (Tr.regR rfl (by simp) (TrN.succ ?_)))
  refine Tr.weak (s' := { env := [(3, .ptr 3 0), (12, .agg (fourC f)), (13, I 2)], bx := [(3, ⟨[.func (.func F.region_limit_fits) [I 32768] [], .func (.func F.region_limit_fits) [I 32768] [], .func (.func F.region_limit_fits) [I 65536] [], .func (.func F.region_limit_fits) [I 65536] []], false⟩)], rw := [], log := [], stp := false })
    (Wk.le (.cons rfl (.refl _) (.cons rfl (.refl _) (.cons rfl (VLe.i rfl) .nil))) (.cons rfl (LLe.refl _) .nil) .nil rfl rfl) ?_
  refine Tr.seqR rfl (by simp) (Tr.seq (Tr.condT rfl (Tr.skip (Tr.seq (Tr.block (Tr.seqR rfl (by simp) (Tr.seq ?_)))))))
  refine Tr.drawK (TraceK.run rfl (by simp) (TraceK.callv rfl rfl (c_fits (l := 65536) (b := f.s) (by omega) s1 s2 s3) (TraceK.run rfl (by simp) (.done ⟨by kernel_rfl, by kernel_rfl, ?_⟩))))
  refine Tr.condF rfl (Tr.skip (Tr.regR rfl (by simp) (TrN.succ ?_)))
  refine Tr.weak (s' := { env := [(3, .ptr 3 0), (12, .agg (fourC f)), (13, I 3)], bx := [(3, ⟨[.func (.func F.region_limit_fits) [I 32768] [], .func (.func F.region_limit_fits) [I 32768] [], .func (.func F.region_limit_fits) [I 65536] [], .func (.func F.region_limit_fits) [I 65536] []], false⟩)], rw := [], log := [], stp := false })
    (Wk.le (.cons rfl (.refl _) (.cons rfl (.refl _) (.cons rfl (VLe.i rfl) .nil))) (.cons rfl (LLe.refl _) .nil) .nil rfl rfl) ?_
  refine Tr.seqR rfl (by simp) (Tr.seq (Tr.condT rfl (Tr.skip (Tr.seq (Tr.block (Tr.seqR rfl (by simp) (Tr.seq ?_)))))))
  refine Tr.drawK (TraceK.run rfl (by simp) (TraceK.callv rfl rfl (c_fits (l := 65536) (b := f.d) (by omega) d1 d2 d3) (TraceK.run rfl (by simp) (.done ⟨by kernel_rfl, by kernel_rfl, ?_⟩))))
  refine Tr.condF rfl (Tr.skip (Tr.regR rfl (by simp) (TrN.succ ?_)))
  refine Tr.seqR rfl (by simp) (Tr.seq (Tr.condF rfl (Tr.exit ?_)))
  exact Tr.seqR rfl (by simp) (Tr.retX rfl rfl rfl rfl trivial)

theorem c_first00 : C Try.prog F.region_first [.slice 0 1 [I 0, I 0]] (I 0) := by
  refine C_of mixed chk.region_first (by simp) fun S ok => ?_
  refine Tr.seqR rfl (by simp) (Tr.seq (Tr.seqR rfl (by simp) (Tr.block ?_)))
  refine Tr.rounds 3 (TrN.succ ?_)
  iterate 2
    refine Tr.seqR rfl (by simp) (Tr.seq (Tr.condT rfl (Tr.skip (Tr.seq (Tr.block (Tr.seqR rfl (by simp) (Tr.seqR rfl (by simp) (Tr.condF rfl (Tr.skip (Tr.regR rfl (by simp) (TrN.succ ?_))))))))))) 
  refine Tr.seqR rfl (by simp) (Tr.seq (Tr.condF rfl (Tr.exit ?_)))
  exact Tr.seqR rfl (by simp) (Tr.retX rfl rfl rfl rfl trivial)

theorem c_done (f : Fr) : C Try.prog F.region_done [.agg (fourC f), I 0] (.tuple [.agg (fourC f), I 0]) := by
  refine C_of mixed chk.region_done (by simp) fun S ok => ?_
  refine Tr.seqR rfl (by simp) (Tr.seq (Tr.seqR rfl (by simp) (Tr.condF rfl (Tr.skip ?_))))
  refine Tr.seqC rfl (by simp) (Steps.call rfl rfl (c_region f) (Steps.fin rfl (by simp) (Tr.retX rfl rfl rfl rfl trivial)))

end Go.Proofs.Ytecggpjpckicgaa

/-! Contracts: rows of a region. -/
set_option linter.unusedVariables false
set_option linter.unusedSimpArgs false
set_option maxRecDepth 20000
set_option maxHeartbeats 2000000
namespace Go.Proofs.Ytecggpjpckicgaa
open Go.Am
attribute [local simp] cells scalar mkv splice under2 under dem dem1 eB fourC

def lowY (f : Fr) (x : Int) : Int := max (max f.y.1 (f.s.1 - x)) (x - f.d.2)
def highY (f : Fr) (x : Int) : Int := min (min f.y.2 (f.s.2 - x)) (x - f.d.1)

def rowsN (f : Fr) : Nat → Int → List (Int × Int × Int)
  | 0, _ => []
  | n + 1, x => if lowY f x ≤ highY f x then (x, lowY f x, highY f x) :: rowsN f n (x + 1) else rowsN f n (x + 1)
def rowsL (f : Fr) : List (Int × Int × Int) := rowsN f (f.x.2 + 1 - f.x.1).toNat f.x.1
def eRow (r : Int × Int × Int) : List V := [.agg [I r.1, I r.2.1, I r.2.2]]

/-- Bounds that are not great. -/
def midF (f : Fr) : Prop := ((-1000000 ≤ f.x.1 ∧ f.x.1 ≤ 1000000) ∧ -1000000 ≤ f.x.2 ∧ f.x.2 ≤ 1000000) ∧ ((-1000000 ≤ f.y.1 ∧ f.y.1 ≤ 1000000) ∧ -1000000 ≤ f.y.2 ∧ f.y.2 ≤ 1000000) ∧ ((-1000000 ≤ f.s.1 ∧ f.s.1 ≤ 1000000) ∧ -1000000 ≤ f.s.2 ∧ f.s.2 ≤ 1000000) ∧ (-1000000 ≤ f.d.1 ∧ f.d.1 ≤ 1000000) ∧ -1000000 ≤ f.d.2 ∧ f.d.2 ≤ 1000000

theorem c_rows (f : Fr) : C Try.prog F.region_four_rows [.agg (fourC f)] (.func (.func F.region_four_rows_1) [] [.vptr (fourC f) 0]) := by
  refine C_of mixed chk.region_four_rows (by simp) fun S ok => ?_
  exact Tr.seqR rfl (by simp) (Tr.seqR rfl (by simp) (Tr.retQ rfl rfl rfl trivial))

theorem c_ends (f : Fr) : C Try.prog F.region_four_ends [.agg (fourC f)] (.func (.func F.region_four_ends_1) [] [.vptr (fourC f) 0]) := by
  refine C_of mixed chk.region_four_ends (by simp) fun S ok => ?_
  exact Tr.seqR rfl (by simp) (Tr.seqR rfl (by simp) (Tr.retQ rfl rfl rfl trivial))

theorem i_rows {f : Fr} (hf : midF f) : Iter Try.prog F.region_four_rows_1 [.vptr (fourC f) 0] ((rowsL f).map eRow) := by
  refine Iter_of mixed chk.region_four_rows_1 (by simp) fun S ok => ?_
  obtain ⟨⟨⟨hx1, hx2⟩, hx3, hx4⟩, ⟨⟨hy1, hy2⟩, hy3, hy4⟩, ⟨⟨hs1, hs2⟩, hs3, hs4⟩, ⟨hd1, hd2⟩, hd3, hd4⟩ := hf
  refine Tr.seqR rfl (by simp) (Tr.block ?_)
  refine Tr.loop (α := Nat × List (List V)) (fun p s => (p.1 ≤ (f.x.2 + 1 - f.x.1).toNat ∧ p.2 ++ (rowsN f ((f.x.2 + 1 - f.x.1).toNat - p.1) (f.x.1 + p.1)).map eRow = (rowsL f).map eRow) ∧
      s = { env := [(0, .yld), (1, .vptr (fourC f) 0), (3, I (f.x.1 + p.1))], bx := [], rw := [], log := p.2, stp := false }) (fun p => (f.x.2 + 1 - f.x.1).toNat - p.1) (0, [])
    (Wk.le (.cons rfl (.refl _) (.cons rfl (.refl _) (.cons rfl (VLe.i (by simp)) .nil))) .nil .nil rfl rfl) ⟨⟨by simp, by simp [rowsL]⟩, rfl⟩ ?_
  rintro ⟨k, lg⟩ s ⟨⟨hk, hl⟩, rfl⟩
  simp only at hk hl
  refine Tr.seq (Tr.seqR rfl (by simp) (Tr.cond rfl rfl (fun h1 => Tr.skip ?_) (fun h1 => Tr.exit ?_)))
  · have h1 : f.x.1 + (k : Int) ≤ f.x.2 := by simpa using h1
    obtain ⟨x, hx⟩ : ∃ x, f.x.1 + (k : Int) = x := ⟨_, rfl⟩
    obtain ⟨n, hn⟩ : ∃ n, (f.x.2 + 1 - f.x.1).toNat - k = n + 1 := ⟨(f.x.2 + 1 - f.x.1).toNat - k - 1, by omega⟩
    have hn2 : (f.x.2 + 1 - f.x.1).toNat - (k + 1) = n := by omega
    have hx' : f.x.1 + ((k + 1 : Nat) : Int) = x + 1 := by omega
    rw [hn, hx] at hl
    rw [hx] at h1
    rw [hx]
    refine Tr.seq (Tr.block (Tr.seqR rfl (by simp) ?_))
    refine Tr.weak (s' := { env := [(0, .yld), (1, .vptr (fourC f) 0), (3, I x), (4, .ptr 4 0)], bx := [(4, ⟨[I x, I (lowY f x), I (highY f x)], false⟩)], rw := [], log := lg, stp := false })
      (Wk.le (.cons rfl (.refl _) (.cons rfl (.refl _) (.cons rfl (.refl _) (.cons rfl (.refl _) .nil)))) (.cons rfl (.cons (.refl _) (.cons (VLe.i ?_) (.cons (VLe.i ?_) .nil))) .nil) .nil rfl rfl) ?_
    · simp (disch := omega) only [cond_true, cond_false, ite_max, ite_min, w64, lowY]
    · simp (disch := omega) only [cond_true, cond_false, ite_max, ite_min, w64, highY]
    refine Tr.seqC rfl (by simp) ?_
    by_cases hh : lowY f x ≤ highY f x
    · have hp : lg ++ [eRow (x, lowY f x, highY f x)] ++ (rowsN f n (x + 1)).map eRow = (rowsL f).map eRow := by
        rw [← hl, rowsN, if_pos hh]; simp
      refine Steps.gyield (want := true) rfl rfl ?_ rfl ?_ rfl ⟨_, hp⟩ rfl (fun b => ?_)
      · show some (decide (lowY f x ≤ highY f x) == true) = some true
        simp [hh]
      · simp [hh]
      refine Steps.fin rfl (by simp) ?_
      refine Tr.cond rfl rfl (fun h2 => ?_) (fun h2 => ?_)
      · refine Tr.ret ⟨.inl ?_, [], [], [], rfl, rfl, rfl⟩
        have h2 : (bif decide (lowY f x ≤ highY f x) then !b else false) = true := h2
        have hb : b = false := by simpa [hh] using h2
        subst hb; rfl
      · have h2 : (bif decide (lowY f x ≤ highY f x) then !b else false) = false := h2
        have hb : b = true := by simpa [hh] using h2
        subst hb
        refine Tr.skip (Tr.regR rfl (by simp) ?_)
        refine ⟨(k + 1, lg ++ [eRow (x, lowY f x, highY f x)]), _, Wk.le (.cons rfl (.refl _) (.cons rfl (.refl _) (.cons rfl (VLe.i ?_) .nil))) .nil .nil rfl rfl, ⟨⟨by simp; omega, ?_⟩, rfl⟩, by simp; omega⟩
        · show IntKind.wrap .i64 (x + 1) = f.x.1 + ((k + 1 : Nat) : Int)
          rw [w64 (by omega) (by omega)]; exact hx'.symm
        · simp only; rw [hn2, hx']; exact hp
    · have hl2 : lg ++ (rowsN f n (x + 1)).map eRow = (rowsL f).map eRow := by
        rw [← hl, rowsN, if_neg hh]
      refine Steps.off (want := true) (.bool true) rfl rfl ?_ ?_
      · show some (decide (lowY f x ≤ highY f x) == true) = some false
        simp [hh]
      refine Steps.fin rfl (by simp; omega) ?_
      refine Tr.cond rfl rfl (fun h2 => ?_) (fun h2 => ?_)
      · have h2 : (bif decide (lowY f x ≤ highY f x) then !true else false) = true := h2
        simp [hh] at h2
      · refine Tr.skip (Tr.regR rfl (by simp) ?_)
        refine ⟨(k + 1, lg), _, Wk.le (.cons rfl (.refl _) (.cons rfl (.refl _) (.cons rfl (VLe.i ?_) .nil))) .nil .nil rfl rfl, ⟨⟨by simp; omega, ?_⟩, rfl⟩, by simp; omega⟩
        · show IntKind.wrap .i64 (x + 1) = f.x.1 + ((k + 1 : Nat) : Int)
          rw [w64 (by omega) (by omega)]; exact hx'.symm
        · simp only; rw [hn2, hx']; exact hl2
  · have h1 : ¬ f.x.1 + (k : Int) ≤ f.x.2 := by simpa using h1
    refine ⟨.inr ?_, [], [], [], rfl, rfl, rfl⟩
    rw [show (f.x.2 + 1 - f.x.1).toNat - k = 0 by omega] at hl
    have e : lg = (rowsL f).map eRow := by simpa [rowsN] using hl
    exact e

/-! ### The ends of rows -/
def endsR (r : Int × Int × Int) : List (Int × Int) := if r.2.1 = r.2.2 then [(r.1, r.2.1)] else [(r.1, r.2.1), (r.1, r.2.2)]
def endsL (f : Fr) : List (Int × Int) := (rowsL f).flatMap endsR
def eEnd (p : Int × Int) : List V := [eB p]

theorem plain_fr (f : Fr) : Plain [.vptr (fourC f) 0] := ⟨fun b => rfl, fun B R => rfl⟩

theorem ends_take {L : List (Int × Int × Int)} {m : Nat} {r : Int × Int × Int} (h : L[m]? = some r) : ∃ T, L.flatMap endsR = (L.take m).flatMap endsR ++ (endsR r ++ T) ∧ (L.take (m + 1)).flatMap endsR = (L.take m).flatMap endsR ++ endsR r := by
  have hm := (List.getElem?_eq_some_iff.1 h).1
  have hr : L[m] = r := (List.getElem?_eq_some_iff.1 h).2
  refine ⟨(L.drop (m + 1)).flatMap endsR, ?_, ?_⟩
  · have e : L = L.take m ++ (r :: L.drop (m + 1)) := by
      rw [← hr, ← List.drop_eq_getElem_cons hm, List.take_append_drop]
    have e2 := congrArg (List.flatMap endsR) e
    rw [List.flatMap_append, List.flatMap_cons] at e2
    exact e2
  · rw [List.take_add_one, h, List.flatMap_append]; simp

theorem i_ends {f : Fr} (hf : midF f) : Iter Try.prog F.region_four_ends_1 [.vptr (fourC f) 0] ((endsL f).map eEnd) := by
  refine Iter_of mixed chk.region_four_ends_1 (by simp) fun S ok => ?_
  refine Tr.seqR rfl (by simp) ?_
  refine Tr.seqC rfl (by simp) (Steps.call rfl rfl (c_rows f) (Steps.fin rfl (by simp) (Tr.block ?_)))
  refine Tr.weak (s' := { env := [(7, .func (.func F.region_four_rows_1) [] [.vptr (fourC f) 0]), (2, .ptr 2 0)], bx := [(2, ⟨[.yld], false⟩)], rw := [], log := [], stp := false })
    (Wk.le (.cons rfl (.refl _) (.cons rfl (.refl _) .nil)) (.cons rfl (LLe.refl _) .nil) .nil rfl rfl) ?_
  refine Tr.range rfl rfl (i_rows hf) rfl rfl rfl (by intro x hx; obtain ⟨b, _, rfl⟩ := List.mem_map.1 hx; rfl)
    (fun pre t => ∃ m, m ≤ (rowsL f).length ∧ pre = ((rowsL f).take m).map eRow ∧ t.bx = [(2, ⟨[.yld], false⟩)] ∧ t.rw = [] ∧ t.log = (((rowsL f).take m).flatMap endsR).map eEnd)
    (fun e t => e = .ret ∧ t.stp = true) ⟨0, by omega, rfl, rfl, rfl, rfl⟩ ?_ ?_ ?_
  · rintro a0 L0 rc0 h0 S1 S2 ok1 ok2 pre q t lp hpre ⟨m, hm, rfl, hbx, hrw, hlog⟩ henv hstp
    obtain ⟨env, bx, rw, log, stp⟩ := t
    simp only at hbx hrw hlog henv hstp
    subst hbx hrw hlog henv hstp
    have hmx : m < (rowsL f).length ∧ ∃ b, (rowsL f)[m]? = some b ∧ q = eRow b := by
      have h1 : (((rowsL f).take m).map eRow).length = m := by simp; omega
      have h2 := hpre.length_le
      simp at h2
      have hml : m < (rowsL f).length := by omega
      refine ⟨hml, _, List.getElem?_eq_getElem hml, ?_⟩
      have h3 := List.IsPrefix.getElem hpre (i := m) (by simp; omega)
      simp only [List.getElem_map] at h3
      rw [List.getElem_append_right (by omega)] at h3
      simpa using h3
    obtain ⟨hml, ⟨x, a, b⟩, hb, rfl⟩ := hmx
    obtain ⟨T, eT, eN⟩ := ends_take hb
    obtain ⟨lg, hlg⟩ : ∃ lg, (((rowsL f).take m).flatMap endsR).map eEnd = lg := ⟨_, rfl⟩
    have hp1 : List.IsPrefix (lg ++ [eEnd (x, a)]) ((endsL f).map eEnd) := by
      refine ⟨((endsR (x, a, b)).drop 1 ++ T).map eEnd, ?_⟩
      rw [← hlg]; unfold endsL; rw [eT]
      unfold endsR; split <;> simp
    rw [hlg]
    refine Tr.regR rfl (by simp) ?_
    refine Tr.block (Tr.seqD rfl (by simp) (by kernel_rfl) ?_)
    refine Tr.weak (s' := { env := [(2, .ptr 2 0), (4, .ptr 4 0), (5, .ptr 5 0)], bx := [(2, ⟨[.yld], false⟩), (4, ⟨[I x, I a], false⟩), (5, ⟨[I x, I b], false⟩)], rw := [], log := lg, stp := false })
      (Wk.le (.cons rfl (.refl _) (.cons rfl (.refl _) (.cons rfl (.refl _) .nil))) (.cons rfl (LLe.refl _) (.cons rfl (LLe.refl _) (.cons rfl (LLe.refl _) .nil))) .nil rfl rfl) ?_
    refine Tr.seqC rfl (by simp) ?_
    refine Steps.yield rfl (by simp) rfl hp1 rfl (fun c => ?_)
    cases c with
    | false =>
      refine Steps.run rfl (by simp) ?_
      refine Steps.off (want := true) (.bool true) rfl rfl ?_ (Steps.fin rfl (by simp) (Tr.condT rfl ?_))
      · rfl
      exact Tr.ret ⟨{ env := [], bx := [(2, ⟨[.yld], false⟩)], rw := [], log := _, stp := true }, Wk.le .nil (.cons rfl (LLe.refl _) .nil) .nil rfl rfl, rfl, rfl⟩
    | true =>
      refine Steps.run rfl (by simp) ?_
      by_cases hab : a = b
      · subst hab
        refine Steps.off (want := true) (.bool true) rfl rfl ?_ ?_
        · show some (((!true) == false) && ((!(x == x && (a == a && true))) == true)) = some false
          simp
        refine Steps.runN 1 rfl (by simp) (Steps.gpick rfl rfl rfl (fun _ => rfl) rfl rfl (by simp) (Steps.fin rfl (by simp) ?_))
        refine Tr.cond rfl rfl (fun h2 => ?_) (fun h2 => ?_)
        · have h2 : (bif (!true) then true else (bif (!(x == x && (a == a && true))) then !true else false)) = true := h2
          simp at h2
        refine Tr.skip ⟨{ env := [], bx := [(2, ⟨[.yld], false⟩)], rw := [], log := lg ++ [eEnd (x, a)], stp := false }, Wk.le .nil (.cons rfl (LLe.refl _) .nil) .nil rfl rfl, ⟨m + 1, by omega, ?_, rfl, rfl, ?_⟩, rfl⟩
        · rw [List.take_add_one, hb]; simp
        · rw [eN, List.map_append, hlg]
          unfold endsR; simp
      · have hp2 : List.IsPrefix (lg ++ [eEnd (x, a)] ++ [eEnd (x, b)]) ((endsL f).map eEnd) := by
          refine ⟨T.map eEnd, ?_⟩
          rw [← hlg]; unfold endsL; rw [eT]
          unfold endsR; rw [if_neg hab]; simp
        refine Steps.gyield (want := true) rfl rfl ?_ rfl ?_ rfl hp2 rfl (fun c => ?_)
        · show some (((!true) == false) && ((!(x == x && (a == b && true))) == true)) = some true
          simp [hab]
        · simp [hab]
        refine Steps.fin rfl (by simp [hab]) ?_
        refine Tr.cond rfl rfl (fun h2 => ?_) (fun h2 => ?_)
        · have h2 : (bif (!true) then true else (bif (!(x == x && (a == b && true))) then !c else false)) = true := h2
          have hc : c = false := by simpa [hab] using h2
          subst hc
          exact Tr.ret ⟨{ env := [], bx := [(2, ⟨[.yld], false⟩)], rw := [], log := _, stp := true }, Wk.le .nil (.cons rfl (LLe.refl _) .nil) .nil rfl rfl, rfl, rfl⟩
        · have h2 : (bif (!true) then true else (bif (!(x == x && (a == b && true))) then !c else false)) = false := h2
          have hc : c = true := by simpa [hab] using h2
          subst hc
          refine Tr.skip ⟨{ env := [], bx := [(2, ⟨[.yld], false⟩)], rw := [], log := lg ++ [eEnd (x, a)] ++ [eEnd (x, b)], stp := false }, Wk.le .nil (.cons rfl (LLe.refl _) .nil) .nil rfl rfl, ⟨m + 1, by omega, ?_, rfl, rfl, ?_⟩, rfl⟩
          · rw [List.take_add_one, hb]; simp
          · rw [eN, List.map_append, hlg]
            unfold endsR; rw [if_neg hab]; simp
  · rintro ⟨env, bx, rw, log, stp⟩ henv hstp ⟨m, hm, hpre, hbx, hrw, hlog⟩
    simp only at hbx hrw hlog henv hstp
    subst hbx hrw hlog henv hstp
    have hml : m = (rowsL f).length := by
      have := congrArg List.length hpre
      simp at this; omega
    subst hml
    refine ⟨.inr ?_, [], [], [], rfl, rfl, rfl⟩
    simp only [List.take_length]
    rfl
  · rintro e t _ ⟨rfl, h⟩
    exact ⟨.inl h, [], [], [], rfl, rfl, rfl⟩

end Go.Proofs.Ytecggpjpckicgaa

/-! Contracts: the hull of points. -/
set_option linter.unusedVariables false
set_option linter.unusedSimpArgs false
set_option maxRecDepth 20000
set_option maxHeartbeats 2000000
namespace Go.Proofs.Ytecggpjpckicgaa
open Go.Am
attribute [local simp] cells scalar mkv splice under2 under dem dem1 eB fourC

def hstep (a : Fr × Bool) (p : Int × Int) : Fr × Bool := (comb spanB (if a.2 then a.1 else ofF p) (ofF p), true)
def hullS (l : List (Int × Int)) : Fr × Bool := l.foldl hstep (⟨(0, 0), (0, 0), (0, 0), (0, 0)⟩, false)

theorem hull_take {l : List (Int × Int)} {m : Nat} {p : Int × Int} (h : l[m]? = some p) : hullS (l.take (m + 1)) = hstep (hullS (l.take m)) p := by
  unfold hullS; rw [List.take_add_one, h, List.foldl_append]; rfl

theorem c_hull {it : FuncId} {us : List V} {l : List (Int × Int)} (hus : Plain us) (hit : Iter Try.prog it us (l.map eEnd)) :
    C Try.prog F.region_hull [.slice 0 1 [.func (.func it) [] us]] (.tuple [.agg (fourC (hullS l).1), .bool (hullS l).2]) := by
  refine C_of mixed chk.region_hull (by simp) fun S ok => ?_
  refine Tr.seqR rfl (by simp) (Tr.seq (Tr.seqR rfl (by simp) (Tr.block ?_)))
  refine Tr.rounds 2 (TrN.succ ?_)
  refine Tr.seqR rfl (by simp) (Tr.seq (Tr.condT rfl (Tr.skip (Tr.seq (Tr.block (Tr.seqR rfl (by simp) (Tr.seqR rfl (by simp) (Tr.block ?_))))))))
  refine Tr.weak (s' := { env := [(13, .func (.func it) [] us), (2, .ptr 2 0), (3, .ptr 3 0), (7, .slice 0 1 [.func (.func it) [] us]), (8, I 1), (9, I 0)], bx := [(2, ⟨fourC (hullS []).1, false⟩), (3, ⟨[.bool (hullS []).2], false⟩)], rw := [], log := [], stp := false })
    (Wk.le (.cons rfl (.refl _) (.cons rfl (.refl _) (.cons rfl (.refl _) (.cons rfl (.refl _) (.cons rfl (VLe.i rfl) (.cons rfl (.refl _) .nil)))))) (.cons rfl (LLe.refl _) (.cons rfl (LLe.refl _) .nil)) .nil (by simp only [okRefs, List.all_cons, refs_plain hus]; rfl) rfl) ?_
  refine Tr.range rfl (hus.d _) hit rfl (by simp only [List.all_cons, refs_plain hus]; rfl) rfl (by intro x hx; obtain ⟨b, _, rfl⟩ := List.mem_map.1 hx; rfl)
    (fun pre t => ∃ m, m ≤ l.length ∧ pre = (l.take m).map eEnd ∧ t.bx = [(2, ⟨fourC (hullS (l.take m)).1, false⟩), (3, ⟨[.bool (hullS (l.take m)).2], false⟩)] ∧ t.rw = [] ∧ t.log = [])
    (fun _ _ => False) ⟨0, by omega, rfl, rfl, rfl, rfl⟩ ?_ ?_ ?_
  · rintro a0 L0 rc0 h0 S1 S2 ok1 ok2 pre q t lp hpre ⟨m, hm, rfl, hbx, hrw, hlog⟩ henv hstp
    obtain ⟨env, bx, rw, log, stp⟩ := t
    simp only at hbx hrw hlog henv hstp
    subst hbx hrw hlog henv hstp
    have hmx : m < l.length ∧ ∃ b, l[m]? = some b ∧ q = eEnd b := by
      have h1 : ((l.take m).map eEnd).length = m := by simp; omega
      have h2 := hpre.length_le
      simp at h2
      have hml : m < l.length := by omega
      refine ⟨hml, _, List.getElem?_eq_getElem hml, ?_⟩
      have h3 := List.IsPrefix.getElem hpre (i := m) (by simp; omega)
      simp only [List.getElem_map] at h3
      rw [List.getElem_append_right (by omega)] at h3
      simpa using h3
    obtain ⟨hml, p, hb, rfl⟩ := hmx
    have eH := hull_take hb
    obtain ⟨⟨f, b⟩, hH⟩ : ∃ H, hullS (l.take m) = H := ⟨_, rfl⟩
    rw [hH] at eH ⊢
    refine Tr.regR rfl (by simp) ?_
    refine Tr.weak (s' := { env := [(2, .ptr 2 0), (3, .ptr 3 0), (6, .ptr 6 0)], bx := [(2, ⟨fourC f, false⟩), (3, ⟨[.bool b], false⟩), (6, ⟨[I p.1, I p.2], false⟩)], rw := [], log := [], stp := false })
      (Wk.le (.cons rfl (.refl _) (.cons rfl (.refl _) (.cons rfl (.refl _) .nil))) (.cons rfl (LLe.refl _) (.cons rfl (LLe.refl _) (.cons rfl (LLe.refl _) .nil))) .nil rfl rfl) ?_
    refine Tr.block (Tr.meet { env := [(2, .ptr 2 0), (3, .ptr 3 0), (6, .ptr 6 0)], bx := [(2, ⟨fourC (if b then f else ofF p), false⟩), (3, ⟨[.bool true], false⟩), (6, ⟨[I p.1, I p.2], false⟩)], rw := [], log := [], stp := false } ?_ ?_)
    · cases b with
      | true =>
        refine Tr.seqR rfl (by simp) (Tr.condF rfl (Tr.skip ?_))
        exact Wk.le (.cons rfl (.refl _) (.cons rfl (.refl _) (.cons rfl (.refl _) .nil))) (.cons rfl (LLe.refl _) (.cons rfl (LLe.refl _) (.cons rfl (LLe.refl _) .nil))) .nil rfl rfl
      | false =>
        refine Tr.seqR rfl (by simp) (Tr.condT rfl ?_)
        refine Tr.reg (Steps.run rfl (by simp) (Steps.call rfl rfl (c_ofP p) (Steps.fin rfl (by simp) ?_)))
        exact Wk.le (.cons rfl (.refl _) (.cons rfl (.refl _) (.cons rfl (.refl _) .nil))) (.cons rfl (LLe.refl _) (.cons rfl (LLe.refl _) (.cons rfl (LLe.refl _) .nil))) .nil rfl rfl
    refine Tr.drawK (TraceK.run rfl (by simp) (TraceK.call rfl rfl (c_ofP p) (TraceK.call rfl rfl (c_combined c_span (if b then f else ofF p) (ofF p)) (TraceK.run rfl (by simp) (.done ⟨by kernel_rfl, by kernel_rfl, ?_⟩)))))
    refine ⟨{ env := [], bx := [(2, ⟨fourC (hullS (l.take (m + 1))).1, false⟩), (3, ⟨[.bool (hullS (l.take (m + 1))).2], false⟩)], rw := [], log := [], stp := false }, ?_, ⟨m + 1, by omega, ?_, rfl, rfl, rfl⟩, rfl⟩
    · rw [eH]
      exact Wk.le .nil (.cons rfl (LLe.refl _) (.cons rfl (LLe.refl _) .nil)) .nil rfl rfl
    · rw [List.take_add_one, hb]; simp
  · rintro ⟨env, bx, rw, log, stp⟩ henv hstp ⟨m, hm, hpre, hbx, hrw, hlog⟩
    simp only at hbx hrw hlog henv hstp
    subst hbx hrw hlog henv hstp
    have hml : m = l.length := by
      have := congrArg List.length hpre
      simp at this; omega
    subst hml
    rw [List.take_length]
    refine Tr.regR rfl (by simp) (TrN.succ ?_)
    refine Tr.seqR rfl (by simp) (Tr.seq (Tr.condF rfl (Tr.exit ?_)))
    exact Tr.seqD rfl (by simp) (by kernel_rfl) (Tr.retX rfl rfl rfl rfl trivial)
  · intro e t _ h; exact h.elim

theorem c_tight {f : Fr} (hf : midF f) (h : (hullS (endsL f)).2 = true) : C Try.prog F.region_four_tight [.agg (fourC f)] (.tuple [.agg (fourC (hullS (endsL f)).1), I 0]) := by
  have kh := c_hull (plain_fr f) (i_ends hf)
  rw [h] at kh
  refine C_of mixed chk.region_four_tight (by simp) fun S ok => ?_
  refine Tr.seqR rfl (by simp) (Tr.seqC rfl (by simp) (Steps.call rfl rfl (c_ends f) (Steps.run rfl (by simp) (Steps.call rfl rfl kh (Steps.fin rfl (by simp) ?_)))))
  refine Tr.seq (Tr.seqR rfl (by simp) (Tr.condF rfl (Tr.skip ?_)))
  exact Tr.seqR rfl (by simp) (Tr.retX rfl rfl rfl rfl trivial)

end Go.Proofs.Ytecggpjpckicgaa

/-! What a slot holds becomes data (the boxes that it leads to are shut for good). -/
set_option linter.unusedVariables false
set_option linter.unusedSimpArgs false
namespace Go.Proofs.Ytecggpjpckicgaa
open Go.Am

theorem wkData {E : Env} {s : St} {t : Nat} {v u : V} {ids : List Nat} (ht : get s.env t = some v) (hd : toDs s.fs.b [v] = some ([u], ids)) : Wk E s ((s.eff { v := nothing, wb := Am.freeze s.fs.b ids }).put (some t) u) := by
  intro a w h R
  obtain ⟨q1, q2, _⟩ := R.1.env t _ (by rw [fs_g]; exact ht)
  obtain ⟨h1, R1, ext, b1, g1, y1, hrep⟩ := args_data R.1 hd
  have rd : RepD w h1.φ u (a.tmps.getD t undef) := (hrep #[a.tmps.getD t undef] rfl (fun i v' x e1 e2 => by
    cases i with
    | zero => simp at e1 e2; subst e1 e2; simpa using q2
    | succ i => simp at e1)).2 0 u _ rfl rfl
  have R2 := R1.put (d := t) q1 (.data rd) (GrowV.of_data rd)
  rw [put_self (by rw [R.1.size]; exact q1)] at R2
  refine ⟨h1, ⟨?_, by rw [y1]; exact R.2⟩, y1⟩
  have e : ((s.eff { v := nothing, wb := Am.freeze s.fs.b ids }).put (some t) u).fs = (((Am.freeze s.fs.b ids).foldl (fun τ p => τ.set (.bx p.1) (.b p.2)) s.fs)).set (.slot t) (.v u) := by
    rw [fs_put, fs_eff]; rfl
  have e2 : ∀ (l : List (Nat × Box)) (s : St), (l.foldl (fun s p => s.setB p.1 p.2) s).log = s.log ∧ (l.foldl (fun s p => s.setB p.1 p.2) s).stp = s.stp := by
    intro l
    induction l with
    | nil => intro s; exact ⟨rfl, rfl⟩
    | cons p l ih => intro s; exact ih _
  have e3 := e2 (Am.freeze s.fs.b ids) s
  show Rel E.nt E.S _ _ _ a w h1
  rw [e]
  have e4 : ((s.eff { v := nothing, wb := Am.freeze s.fs.b ids }).put (some t) u).log = s.log := e3.1
  have e5 : ((s.eff { v := nothing, wb := Am.freeze s.fs.b ids }).put (some t) u).stp = s.stp := e3.2
  rw [e4, e5]
  exact R2

/-- Weakening inside a region. -/
theorem stepsWk {E : Env} {s s' : St} {i : Ins} {r : List Ins} {K : St → Prop} (h : Wk E s s') (k : Am.Steps E (i :: r) K s') : Am.Steps E (i :: r) K s := by
  refine Step1.raw fun slots ops o j ro n a w hh hc hs hi R Q next hn => ?_
  obtain ⟨h', R', hy⟩ := h a w hh R
  exact step_ok (k : Step1 E i (Am.Steps E r K) s') hc hs hi R' fun s'' a' w' h'' k R ey => hn s'' a' w' h'' k R (ey.trans hy)

end Go.Proofs.Ytecggpjpckicgaa

/-! Contracts: the region of a place; reach; what lies in a region. -/
set_option linter.unusedVariables false
set_option linter.unusedSimpArgs false
set_option maxRecDepth 20000
set_option maxHeartbeats 2000000
namespace Go.Proofs.Ytecggpjpckicgaa
open Go.Am

theorem c_indexP {l : List (Int × Int)} {p : Int × Int → Bool} {f : FuncId} (hl : l.length ≤ 9223372036854775807) (hp : ∀ b ∈ l, C Try.prog f [eB b] (.bool (p b))) :
    C Try.prog F.slices_IndexFunc_api_Point_api_Point [sB l, .func (.func f) [] []] (I (firstI p l 0)) := by
  refine C_of mixed chk.slices_IndexFunc_api_Point_api_Point (by simp) fun S ok => ?_
  refine Tr.seqR rfl (by simp) ?_
  refine Tr.seq (Tr.seqR rfl (by simp) (Tr.block ?_))
  refine Tr.loop (fun k s => (k ≤ l.length ∧ firstI p l 0 = firstI p (l.drop k) k) ∧ s = { env := [(0, sB l), (1, .func (.func f) [] []), (7, I l.length), (8, I k)], bx := [], rw := [], log := [], stp := false }) (fun k => l.length - k) 0
    (Wk.le (.cons rfl (.refl _) (.cons rfl (.refl _) (.cons rfl (VLe.i (by simp)) (.cons rfl (.refl _) .nil)))) .nil .nil rfl rfl) ⟨⟨by omega, by simp⟩, rfl⟩ ?_
  rintro k s ⟨⟨hk, hf⟩, rfl⟩
  refine Tr.seqR rfl (by simp) (Tr.seqI rfl (fun h1 => ?_) (fun h1 => ?_))
  · have h1 : k < l.length := by simpa using h1
    refine Tr.skipT (Tr.seq (Tr.block (Tr.seqR rfl (by simp) (Tr.seqC rfl ?_ ?_))))
    · rw [getD_map h1]; simp [eB, cells]; omega
    · rw [getD_map h1]
      refine Steps.callv rfl rfl (hp l[k] (List.getElem_mem h1)) (Steps.fin rfl (by simp) ?_)
      refine Tr.cond rfl rfl (fun h2 => ?_) (fun h2 => ?_)
      · refine Tr.seqR rfl (by simp) (Tr.ret ?_)
        refine ⟨trivial, _, _, _, resVs_ok rfl, rfl, ?_⟩
        rw [hf, firstI_drop p l h1, if_pos h2]; rfl
      · refine Tr.skip (Tr.regR rfl (by simp) ?_)
        refine ⟨k + 1, _, ?_, ⟨⟨by omega, ?_⟩, rfl⟩, by omega⟩
        · exact Wk.le (.cons rfl (.refl _) (.cons rfl (.refl _) (.cons rfl (.refl _) (.cons rfl (VLe.i (w64 (by omega) (by omega))) .nil)))) .nil .nil rfl rfl
        · rw [hf, firstI_drop p l h1, if_neg (by simp [h2])]
  · have h1 : k = l.length := by simp at h1; omega
    subst h1
    refine Tr.exit (Tr.seqR rfl (by simp) (Tr.retQ rfl rfl ?_ trivial))
    rw [hf, List.drop_length]; rfl

theorem c_containsP {l : List (Int × Int)} {p : Int × Int → Bool} {f : FuncId} (hl : l.length ≤ 9223372036854775807) (hp : ∀ b ∈ l, C Try.prog f [eB b] (.bool (p b))) :
    C Try.prog F.slices_ContainsFunc_api_Point_api_Point [sB l, .func (.func f) [] []] (.bool (l.any p)) := by
  refine C_of mixed chk.slices_ContainsFunc_api_Point_api_Point (by simp) fun S ok => ?_
  refine Tr.seqR rfl (by simp) ?_
  refine Tr.seqC rfl (by simp) (Steps.call rfl rfl (c_indexP hl hp) (Steps.fin rfl (by simp) (Tr.retQ rfl rfl ?_ trivial)))
  rw [← firstI_nn p l 0]; rfl

attribute [local simp] cells scalar mkv splice under2 under dem dem1 eB fourC

theorem c_Of1 {p : Int × Int} (h : inPlane p) : C Try.prog F.region_Of_1 [eB p] (.bool false) := by
  refine C_of mixed chk.region_Of_1 (by simp) fun S ok => ?_
  exact Tr.seqR rfl (by simp) (Tr.seqC rfl (by simp) (Steps.call rfl rfl (c_CheckPoint h) (Steps.fin rfl (by simp) (Tr.retX rfl rfl rfl rfl trivial))))

theorem i_Of2 (p : Int × Int) : Iter Try.prog F.region_Of_2 [.vptr [sB [p]] 0] ([p].map eEnd) := by
  refine Iter_of mixed chk.region_Of_2 (by simp) fun S ok => ?_
  refine Tr.seqR rfl (by simp [sB]) (Tr.block ?_)
  refine Tr.rounds 2 (TrN.succ ?_)
  refine Tr.seqR rfl (by simp) (Tr.seqI rfl (fun _ => ?_) (fun h => ?_))
  rotate_left
  · simp at h
  refine Tr.skipT (Tr.seq (Tr.block (Tr.seqR rfl (by simp) ?_)))
  refine Tr.seqC rfl (by simp) (Steps.yield rfl (by simp) rfl (List.prefix_refl _) rfl (fun b => Steps.fin rfl (by simp) ?_))
  cases b with
  | false => exact Tr.condT rfl (Tr.ret ⟨.inl rfl, [], [], [], rfl, rfl, rfl⟩)
  | true =>
    refine Tr.condF rfl (Tr.skip (Tr.regR rfl (by simp) (TrN.succ ?_)))
    refine Tr.seqR rfl (by simp) (Tr.seqI rfl (fun h => ?_) (fun _ => ?_))
    · simp at h
    exact Tr.exit ⟨.inr rfl, [], [], [], rfl, rfl, rfl⟩

theorem plain_one (p : Int × Int) : Plain [.vptr [sB [p]] 0] := ⟨fun b => rfl, fun B R => rfl⟩

theorem span_self (b : Int × Int) : spanB b b = b := by
  obtain ⟨x, y⟩ := b
  unfold spanB
  simp

theorem hull_one (p : Int × Int) : hullS [p] = (ofF p, true) := by
  show (comb spanB (ofF p) (ofF p), true) = _
  unfold comb
  rw [span_self, span_self, span_self, span_self]

theorem c_OfOne {p : Int × Int} (h : inPlane p) : C Try.prog F.region_Of [sB [p]] (.tuple [.agg (fourC (ofF p)), I 0]) := by
  have k1 := c_containsP (l := [p]) (p := fun _ => false) (f := F.region_Of_1) (by simp) (fun b hb => by
    obtain rfl : b = p := by simpa using hb
    exact c_Of1 h)
  have k2 := c_hull (plain_one p) (i_Of2 p)
  rw [hull_one] at k2
  refine C_of mixed chk.region_Of (by simp) fun S ok => ?_
  refine Tr.seqR rfl (by simp [sB]) (Tr.seq (Tr.block ?_))
  refine Tr.seqR rfl (by simp [sB]) (Tr.condF rfl ?_)
  refine Tr.seqR rfl (by simp [sB]) (Tr.condF rfl ?_)
  refine Tr.seqC rfl (by simp [sB]) ?_
  refine Steps.call rfl rfl k1 ?_
  refine Steps.fin rfl (by simp) ?_
  refine Tr.condF rfl (Tr.skip ?_)
  refine Tr.seqN 1 rfl (by simp) ?_
  refine stepsWk (wkData (t := 21) (u := .func (.func F.region_Of_2) [] [.vptr [sB [p]] 0]) (ids := [1]) rfl rfl) ?_
  refine Steps.run rfl (by simp) (Steps.call rfl rfl k2 (Steps.fin rfl (by simp) ?_))
  exact Tr.seqC rfl (by simp) (Steps.call rfl rfl (c_region (ofF p)) (Steps.fin rfl (by simp) (Tr.retX rfl rfl rfl rfl trivial)))

theorem c_HasIn {f : Fr} {q : Int × Int} (hf : fitF f) (hq : inPlane q) (h : comb cutB f (ofF q) = ofF q) : C Try.prog F.region_Has [.agg (fourC f), eB q] (.tuple [.bool true, I 0]) := by
  have kc := c_combined c_cut f (ofF q)
  rw [h] at kc
  refine C_of mixed chk.region_Has (by simp) fun S ok => ?_
  refine Tr.seqR rfl (by simp) (Tr.seq (Tr.seq ?_))
  refine Tr.drawK (TraceK.run rfl (by simp) (TraceK.call rfl rfl (c_CheckR hf) (TraceK.run rfl (by simp) (TraceK.call rfl rfl (c_CheckPoint hq) (TraceK.run rfl (by simp) (TraceK.call rfl rfl c_first00 ?_))))))
  refine TraceK.run rfl (by simp) (.done ⟨by kernel_rfl, by kernel_rfl, ?_⟩)
  refine Tr.seqR rfl (by simp) (Tr.condF rfl (Tr.skip ?_))
  refine Tr.weak (s' := { env := [(2, .ptr 2 0), (3, .ptr 3 0)], bx := [(2, ⟨fourC f, false⟩), (3, ⟨[I q.1, I q.2], false⟩)], rw := [], log := [], stp := false })
    (Wk.le (.cons rfl (.refl _) (.cons rfl (.refl _) .nil)) (.cons rfl (LLe.refl _) (.cons rfl (LLe.refl _) .nil)) .nil rfl rfl) ?_
  refine Tr.seqC rfl (by simp) (Steps.call rfl rfl (c_bounds f) (Steps.fin rfl (by simp) ?_))
  refine Tr.seq (Tr.drawK (TraceK.run rfl (by simp) (TraceK.call rfl rfl (c_ofP q) (TraceK.call rfl rfl kc (TraceK.run rfl (by simp) (TraceK.call rfl rfl (c_ofP q) (TraceK.run rfl (by simp) (.done ⟨by kernel_rfl, by kernel_rfl, ?_⟩))))))))
  refine Tr.retX rfl rfl rfl ?_ trivial
  simp [packR]

end Go.Proofs.Ytecggpjpckicgaa

/-! Contracts: how far a sum reaches; the region within reach of a place. -/
set_option linter.unusedVariables false
set_option linter.unusedSimpArgs false
set_option maxRecDepth 20000
set_option maxHeartbeats 2000000
namespace Go.Proofs.Ytecggpjpckicgaa
open Go.Am
attribute [local simp] cells scalar mkv splice under2 under dem dem1 eB fourC

/-- The least sum of two squares of numbers with this sum. -/
def gI (s : Nat) : Int := ((s / 2 : Nat) : Int) * ((s / 2 : Nat) : Int) + ((s - s / 2 : Nat) : Int) * ((s - s / 2 : Nat) : Int)
def farS (q : Int) : Nat → Nat
  | 0 => 0
  | s + 1 => if gI (s + 1) > q then farS q s else s + 1
def farN (n : Int) : Nat := farS (n * n) (isq (2 * n * n)).toNat

theorem farS_le (q : Int) : ∀ s, farS q s ≤ s
  | 0 => Nat.le_refl _
  | s + 1 => by
    simp only [farS]
    split
    · have := farS_le q s; omega
    · exact Nat.le_refl _

theorem farS_ge (q : Int) : ∀ (s t : Nat), t ≤ s → gI t ≤ q → t ≤ farS q s
  | 0, t, h, _ => by simp only [farS]; exact h
  | s + 1, t, h, hg => by
    simp only [farS]
    split
    · rename_i h2
      rcases Nat.lt_or_ge t (s + 1) with h3 | h3
      · exact farS_ge q s t (by omega) hg
      · have : t = s + 1 := by omega
        subst this; omega
    · exact h

theorem sq_nn (a : Int) : 0 ≤ a * a := by
  rcases Int.le_total 0 a with h | h
  · exact Int.mul_nonneg h h
  · have h1 := Int.mul_nonneg (Int.neg_nonneg_of_nonpos h) (Int.neg_nonneg_of_nonpos h)
    rw [Int.neg_mul_neg] at h1
    exact h1

theorem sq_bd {a K : Int} (h : -K ≤ a ∧ a ≤ K) (hK : 0 ≤ K) : 0 ≤ a * a ∧ a * a ≤ K * K := by
  refine ⟨sq_nn a, ?_⟩
  have h1 := Int.mul_nonneg (show 0 ≤ K - a by omega) (show 0 ≤ K + a by omega)
  rw [Int.sub_mul, Int.mul_add, Int.mul_add, Int.mul_comm a K] at h1
  omega

theorem far_top {n : Int} (h : 0 ≤ n ∧ n ≤ 1000) : 0 ≤ 2 * n * n ∧ 2 * n * n ≤ 2000000 := by
  have h1 := sq_bd (a := n) (K := 1000) (by omega) (by omega)
  rw [Int.mul_assoc]; omega

theorem isq_bd {n : Int} (h : 0 ≤ n ∧ n ≤ 1000) : 0 ≤ isq (2 * n * n) ∧ isq (2 * n * n) ≤ 1500 := by
  have ht := far_top h
  obtain ⟨a, b, c⟩ := isq_spec (n := 2 * n * n) (by omega) (by omega)
  refine ⟨a, ?_⟩
  have := sq_lt (a := isq (2 * n * n)) (b := 1501) a (by omega) (by omega)
  omega

theorem half_eq (s : Nat) : (s : Int).tdiv 2 = ((s / 2 : Nat) : Int) := by
  rw [Int.tdiv_eq_ediv_of_nonneg (by omega)]; omega

theorem c_farthest {n : Int} (h : 0 ≤ n ∧ n ≤ 1000) : C Try.prog F.region_farthest [I n] (I (farN n : Nat)) := by
  have ht := far_top h
  have hb := isq_bd h
  have hn2 := sq_bd (a := n) (K := 1000) (by omega) (by omega)
  obtain ⟨s0, hs0⟩ : ∃ s0 : Nat, isq (2 * n * n) = (s0 : Int) := ⟨(isq (2 * n * n)).toNat, by omega⟩
  have e1 : IntKind.wrap .i64 (IntKind.wrap .i64 (2 * n) * n) = 2 * n * n := by rw [w64 (n := 2 * n) (by omega) (by omega), w64 (by omega) (by omega)]
  have kr : C Try.prog F.region_root [I (IntKind.wrap .i64 (IntKind.wrap .i64 (2 * n) * n))] (I (isq (2 * n * n))) := by rw [e1]; exact c_root _
  have eF : farN n = farS (n * n) s0 := by unfold farN; rw [hs0]; rfl
  refine C_of mixed chk.region_farthest (by simp) fun S ok => ?_
  refine Tr.seqR rfl (by simp) (Tr.seqC rfl (by simp) (Steps.call rfl rfl kr (Steps.fin rfl (by simp) ?_)))
  refine Tr.seq (Tr.block ?_)
  refine Tr.loop (fun (s : Nat) st => (s ≤ s0 ∧ farS (n * n) s = farS (n * n) s0) ∧ st = { env := [(0, I n), (3, I (s : Int))], bx := [], rw := [], log := [], stp := false }) (fun s => s) s0
    (Wk.le (.cons rfl (.refl _) (.cons rfl (VLe.i hs0) .nil)) .nil .nil rfl rfl) ⟨⟨by omega, rfl⟩, rfl⟩ ?_
  rintro s st ⟨⟨hs, hf⟩, rfl⟩
  have hh := half_eq s
  have e2 : IntKind.wrap .i64 ((s : Int).tdiv 2) = ((s / 2 : Nat) : Int) := by rw [hh, w64 (by omega) (by omega)]
  have e3 : IntKind.wrap .i64 ((s : Int) - ((s / 2 : Nat) : Int)) = ((s - s / 2 : Nat) : Int) := by rw [w64 (by omega) (by omega)]; omega
  have b1 := sq_bd (a := ((s / 2 : Nat) : Int)) (K := 1500) (by omega) (by omega)
  have b2 := sq_bd (a := ((s - s / 2 : Nat) : Int)) (K := 1500) (by omega) (by omega)
  have e4 : IntKind.wrap .i64 (((s / 2 : Nat) : Int) * ((s / 2 : Nat) : Int)) = ((s / 2 : Nat) : Int) * ((s / 2 : Nat) : Int) := w64 (by omega) (by omega)
  have e5 : IntKind.wrap .i64 (((s - s / 2 : Nat) : Int) * ((s - s / 2 : Nat) : Int)) = ((s - s / 2 : Nat) : Int) * ((s - s / 2 : Nat) : Int) := w64 (by omega) (by omega)
  have e6 : IntKind.wrap .i64 (n * n) = n * n := w64 (by omega) (by omega)
  have e7 : IntKind.wrap .i64 (((s / 2 : Nat) : Int) * ((s / 2 : Nat) : Int) + ((s - s / 2 : Nat) : Int) * ((s - s / 2 : Nat) : Int)) = gI s := w64 (by omega) (by omega)
  refine Tr.seq (Tr.seqR rfl (by simp) (Tr.cond rfl rfl (fun h1 => Tr.skip ?_) (fun h1 => Tr.exit ?_)))
  · have h1 : gI s > n * n := by
      have h1 : decide (IntKind.wrap .i64 (IntKind.wrap .i64 (IntKind.wrap .i64 ((s : Int).tdiv 2) * IntKind.wrap .i64 ((s : Int).tdiv 2)) + IntKind.wrap .i64 (IntKind.wrap .i64 ((s : Int) - IntKind.wrap .i64 ((s : Int).tdiv 2)) * IntKind.wrap .i64 ((s : Int) - IntKind.wrap .i64 ((s : Int).tdiv 2)))) > IntKind.wrap .i64 (n * n)) = true := h1
      rw [e2, e3, e4, e5, e6, e7] at h1
      simpa using h1
    cases s with
    | zero => exfalso; have : gI 0 = 0 := rfl; omega
    | succ s =>
      have hf2 : farS (n * n) (s + 1) = farS (n * n) s := by simp only [farS]; rw [if_pos h1]
      refine Tr.block (Tr.regR rfl (by simp) ?_)
      refine ⟨s, _, Wk.le (.cons rfl (.refl _) (.cons rfl (VLe.i ?_) .nil)) .nil .nil rfl rfl, ⟨⟨by omega, by rw [← hf2]; exact hf⟩, rfl⟩, by omega⟩
      show IntKind.wrap .i64 (((s + 1 : Nat) : Int) - 1) = _
      rw [w64 (by omega) (by omega)]; omega
  · have h1 : ¬ gI s > n * n := by
      have h1 : decide (IntKind.wrap .i64 (IntKind.wrap .i64 (IntKind.wrap .i64 ((s : Int).tdiv 2) * IntKind.wrap .i64 ((s : Int).tdiv 2)) + IntKind.wrap .i64 (IntKind.wrap .i64 ((s : Int) - IntKind.wrap .i64 ((s : Int).tdiv 2)) * IntKind.wrap .i64 ((s : Int) - IntKind.wrap .i64 ((s : Int).tdiv 2)))) > IntKind.wrap .i64 (n * n)) = false := h1
      rw [e2, e3, e4, e5, e6, e7] at h1
      simpa using h1
    have hs2 : farS (n * n) s = s := by
      cases s with
      | zero => rfl
      | succ s => simp only [farS]; rw [if_neg h1]
    refine Tr.seqR rfl (by simp) (Tr.retX rfl rfl rfl ?_ trivial)
    rw [eF, ← hf, hs2]
    rfl

end Go.Proofs.Ytecggpjpckicgaa

/-! Plain laws of regions: what lies within reach of a place lies in the region of its reach. -/
set_option linter.unusedVariables false
set_option linter.unusedSimpArgs false
set_option maxRecDepth 20000
set_option maxHeartbeats 1000000
namespace Go.Proofs.Ytecggpjpckicgaa
open Go.Am

def inF (f : Fr) (p : Int × Int) : Prop := (f.x.1 ≤ p.1 ∧ p.1 ≤ f.x.2) ∧ (f.y.1 ≤ p.2 ∧ p.2 ≤ f.y.2) ∧ (f.s.1 ≤ p.1 + p.2 ∧ p.1 + p.2 ≤ f.s.2) ∧ f.d.1 ≤ p.1 - p.2 ∧ p.1 - p.2 ≤ f.d.2
def limF (K : Int) (f : Fr) : Prop := (-K ≤ f.x.1 ∧ f.x.1 ≤ f.x.2 ∧ f.x.2 ≤ K) ∧ (-K ≤ f.y.1 ∧ f.y.1 ≤ f.y.2 ∧ f.y.2 ≤ K) ∧ (-(2 * K) ≤ f.s.1 ∧ f.s.1 ≤ f.s.2 ∧ f.s.2 ≤ 2 * K) ∧ -(2 * K) ≤ f.d.1 ∧ f.d.1 ≤ f.d.2 ∧ f.d.2 ≤ 2 * K
def smallP (p : Int × Int) : Prop := (-32768 ≤ p.1 ∧ p.1 ≤ 32768) ∧ -32768 ≤ p.2 ∧ p.2 ≤ 32768

theorem ofF_eq {p : Int × Int} (h : smallP p) : ofF p = ⟨(p.1, p.1), (p.2, p.2), (p.1 + p.2, p.1 + p.2), (p.1 - p.2, p.1 - p.2)⟩ := by
  obtain ⟨h1, h2⟩ := h
  unfold ofF
  rw [show w (p.1 + p.2) = p.1 + p.2 from w64 (by omega) (by omega), show w (p.1 - p.2) = p.1 - p.2 from w64 (by omega) (by omega)]

theorem fit_lim {f : Fr} (h : limF 32768 f) : fitF f := by
  obtain ⟨h1, h2, h3, h4⟩ := h
  refine ⟨⟨?_, ?_⟩, ?_, ?_⟩ <;> (unfold fitB; omega)

theorem hstep_lim {a : Fr × Bool} {p : Int × Int} (hp : smallP p) (ha : a.2 = true → limF 32768 a.1) : limF 32768 (hstep a p).1 ∧ inF (hstep a p).1 p ∧ ∀ q, a.2 = true → inF a.1 q → inF (hstep a p).1 q := by
  obtain ⟨f, b⟩ := a
  have hp' := hp
  obtain ⟨p1, p2⟩ := hp'
  unfold hstep
  rw [ofF_eq hp]
  cases b with
  | true =>
    obtain ⟨h1, h2, h3, h4⟩ := ha rfl
    simp only at h1 h2 h3 h4
    refine ⟨?_, ?_, fun q _ hq => ?_⟩
    · simp only [limF, comb, spanB, if_true]; omega
    · simp only [inF, comb, spanB, if_true]; omega
    · obtain ⟨q1, q2, q3, q4⟩ := hq
      simp only at q1 q2 q3 q4
      simp only [inF, comb, spanB, if_true]; omega
  | false =>
    refine ⟨?_, ?_, fun q h _ => by cases h⟩
    · simp only [limF, comb, spanB, Bool.false_eq_true, if_false]; omega
    · simp only [inF, comb, spanB, Bool.false_eq_true, if_false]; omega

theorem hull_gen : ∀ (l : List (Int × Int)) (a : Fr × Bool), (∀ p ∈ l, smallP p) → (a.2 = true → limF 32768 a.1) →
    (l ≠ [] ∨ a.2 = true → (l.foldl hstep a).2 = true ∧ limF 32768 (l.foldl hstep a).1) ∧ (∀ p ∈ l, inF (l.foldl hstep a).1 p) ∧ ∀ q, a.2 = true → inF a.1 q → inF (l.foldl hstep a).1 q
  | [], a, _, ha => ⟨fun h => by
      rcases h with h | h
      · exact absurd rfl h
      · exact ⟨h, ha h⟩, fun p hp => (by cases hp), fun q _ hq => hq⟩
  | p :: l, a, hl, ha => by
    obtain ⟨s1, s2, s3⟩ := hstep_lim (a := a) (hl p (by simp)) ha
    obtain ⟨k1, k2, k3⟩ := hull_gen l (hstep a p) (fun q hq => hl q (by simp [hq])) (fun _ => s1)
    refine ⟨fun _ => k1 (.inr rfl), fun q hq => ?_, fun q h1 h2 => k3 q rfl (s3 q h1 h2)⟩
    rcases List.mem_cons.1 hq with rfl | hq
    · exact k3 _ rfl s2
    · exact k2 q hq

theorem hull_spec {l : List (Int × Int)} (h0 : l ≠ []) (hl : ∀ p ∈ l, smallP p) : (hullS l).2 = true ∧ limF 32768 (hullS l).1 ∧ ∀ p ∈ l, inF (hullS l).1 p := by
  obtain ⟨k1, k2, _⟩ := hull_gen l (⟨(0, 0), (0, 0), (0, 0), (0, 0)⟩, false) hl (fun h => by cases h)
  exact ⟨(k1 (.inl h0)).1, (k1 (.inl h0)).2, k2⟩

theorem rows_mem {f : Fr} : ∀ {n : Nat} {x0 : Int} {r : Int × Int × Int}, r ∈ rowsN f n x0 → (x0 ≤ r.1 ∧ r.1 < x0 + n) ∧ r.2.1 = lowY f r.1 ∧ r.2.2 = highY f r.1 ∧ r.2.1 ≤ r.2.2
  | 0, x0, r, h => by cases h
  | n + 1, x0, r, h => by
    have rest : r ∈ rowsN f n (x0 + 1) → (x0 ≤ r.1 ∧ r.1 < x0 + (n + 1 : Nat)) ∧ r.2.1 = lowY f r.1 ∧ r.2.2 = highY f r.1 ∧ r.2.1 ≤ r.2.2 := fun h => by
      obtain ⟨a, b⟩ := rows_mem h
      exact ⟨by omega, b⟩
    simp only [rowsN] at h
    split at h
    · rename_i h1
      rcases List.mem_cons.1 h with rfl | h
      · exact ⟨by simp only; omega, rfl, rfl, h1⟩
      · exact rest h
    · exact rest h

theorem mem_rows {f : Fr} : ∀ {n : Nat} {x0 x : Int}, x0 ≤ x → x < x0 + n → lowY f x ≤ highY f x → (x, lowY f x, highY f x) ∈ rowsN f n x0
  | 0, x0, x, h1, h2, _ => by omega
  | n + 1, x0, x, h1, h2, h3 => by
    simp only [rowsN]
    by_cases e : x = x0
    · subst e; rw [if_pos h3]; simp
    · have := mem_rows (f := f) (n := n) (x0 := x0 + 1) (x := x) (by omega) (by omega) h3
      split
      · simp [this]
      · exact this

theorem ends_mem {f : Fr} {p : Int × Int} (h : p ∈ endsL f) : (f.x.1 ≤ p.1 ∧ p.1 ≤ f.x.2) ∧ f.y.1 ≤ p.2 ∧ p.2 ≤ f.y.2 := by
  obtain ⟨r, hr, hp⟩ := List.mem_flatMap.1 h
  obtain ⟨h1, h2, h3, h4⟩ := rows_mem hr
  unfold lowY at h2; unfold highY at h3
  unfold endsR at hp
  split at hp
  · obtain rfl : p = (r.1, r.2.1) := by simpa using hp
    simp only; omega
  · have hp : p = (r.1, r.2.1) ∨ p = (r.1, r.2.2) := by simpa using hp
    rcases hp with rfl | rfl <;> (simp only; omega)

theorem mem_ends {f : Fr} {q : Int × Int} (h : inF f q) : ((q.1, lowY f q.1) ∈ endsL f ∧ (q.1, highY f q.1) ∈ endsL f) ∧ lowY f q.1 ≤ q.2 ∧ q.2 ≤ highY f q.1 := by
  obtain ⟨h1, h2, h3, h4⟩ := h
  have a : lowY f q.1 ≤ q.2 := by unfold lowY; omega
  have b : q.2 ≤ highY f q.1 := by unfold highY; omega
  have hr : (q.1, lowY f q.1, highY f q.1) ∈ rowsL f := mem_rows h1.1 (by omega) (by omega)
  refine ⟨⟨List.mem_flatMap.2 ⟨_, hr, ?_⟩, List.mem_flatMap.2 ⟨_, hr, ?_⟩⟩, a, b⟩
  · unfold endsR; split <;> simp
  · unfold endsR; split
    · rename_i e; simp only at e; simp [e]
    · simp

/-- What lies in bounds lies in the hull of their rows' ends. -/
theorem in_hull {f : Fr} (hf : (-32768 ≤ f.x.1 ∧ f.x.2 ≤ 32768) ∧ -32768 ≤ f.y.1 ∧ f.y.2 ≤ 32768) {q : Int × Int} (h : inF f q) : (hullS (endsL f)).2 = true ∧ limF 32768 (hullS (endsL f)).1 ∧ inF (hullS (endsL f)).1 q := by
  obtain ⟨⟨m1, m2⟩, a, b⟩ := mem_ends h
  have hs : ∀ p ∈ endsL f, smallP p := fun p hp => by
    have := ends_mem hp
    unfold smallP; omega
  obtain ⟨k1, k2, k3⟩ := hull_spec (List.ne_nil_of_mem m1) hs
  obtain ⟨u1, u2, u3, u4⟩ := k3 _ m1
  obtain ⟨v1, v2, v3, v4⟩ := k3 _ m2
  refine ⟨k1, k2, ?_⟩
  simp only at u1 u2 u3 u4 v1 v2 v3 v4
  unfold inF; omega

theorem cut_inF {f : Fr} {q : Int × Int} (hq : smallP q) (h : inF f q) : comb cutB f (ofF q) = ofF q := by
  obtain ⟨h1, h2, h3, h4⟩ := h
  rw [ofF_eq hq]
  unfold comb cutB
  simp only [Fr.mk.injEq, Prod.mk.injEq]
  omega

def wideF (p : Int × Int) (n m : Int) : Fr := ⟨(p.1 - n, p.1 + n), (p.2 - n, p.2 + n), (p.1 + p.2 - m, p.1 + p.2 + m), (p.1 - p.2 - m, p.1 - p.2 + m)⟩

theorem half_sq (t : Nat) {a b : Int} (h : a + b = (t : Int)) : gI t ≤ a * a + b * b ∧ (t : Int) * t ≤ 2 * (a * a + b * b) := by
  obtain ⟨u, hu⟩ : ∃ u : Int, ((t / 2 : Nat) : Int) = u := ⟨_, rfl⟩
  obtain ⟨c, hc⟩ : ∃ c : Int, ((t - t / 2 : Nat) : Int) = u + c := ⟨((t - t / 2 : Nat) : Int) - u, by omega⟩
  have hc2 : c = 0 ∨ c = 1 := by omega
  obtain ⟨k, hk⟩ : ∃ k : Int, a = u + k := ⟨a - u, by omega⟩
  have hb : b = u + c - k := by omega
  unfold gI
  rw [hu, hc]
  have kk : 0 ≤ k * (k - c) := by
    rcases Int.lt_or_le k 1 with h1 | h1
    · have := Int.mul_nonneg (show 0 ≤ -k by omega) (show 0 ≤ -(k - c) by omega)
      rw [Int.neg_mul_neg] at this; exact this
    · exact Int.mul_nonneg (by omega) (by omega)
  have ht : (t : Int) = 2 * u + c := by omega
  rw [hk, hb, ht]
  have hsq := sq_nn (u + k - (u + c - k))
  rcases hc2 with rfl | rfl
  · constructor
    · simp only [Int.add_mul, Int.mul_add, Int.sub_mul, Int.mul_sub, Int.mul_comm k u, Int.add_zero, Int.sub_zero, Int.mul_zero, Int.zero_mul] at kk hsq ⊢
      omega
    · simp only [Int.add_mul, Int.mul_add, Int.sub_mul, Int.mul_sub, Int.mul_comm k u, Int.add_zero, Int.sub_zero, Int.mul_zero, Int.zero_mul, Int.mul_assoc, Int.mul_left_comm u 2] at kk hsq ⊢
      omega
  · constructor
    · simp only [Int.add_mul, Int.mul_add, Int.sub_mul, Int.mul_sub, Int.mul_comm k u, Int.mul_one, Int.one_mul] at kk hsq ⊢
      omega
    · simp only [Int.add_mul, Int.mul_add, Int.sub_mul, Int.mul_sub, Int.mul_comm k u, Int.mul_one, Int.one_mul, Int.mul_assoc, Int.mul_left_comm u 2] at kk hsq ⊢
      omega

theorem far_sum {n a b : Int} (hn : 0 ≤ n ∧ n ≤ 1000) (h : a * a + b * b ≤ n * n) : a + b ≤ (farN n : Nat) := by
  rcases Int.lt_or_le (a + b) 0 with h0 | h0
  · omega
  obtain ⟨t, ht⟩ : ∃ t : Nat, a + b = (t : Int) := ⟨(a + b).toNat, by omega⟩
  obtain ⟨g1, g2⟩ := half_sq t ht
  have htop := far_top hn
  obtain ⟨i1, i2, i3⟩ := isq_spec (n := 2 * n * n) (by omega) (by omega)
  have e : 2 * n * n = 2 * (n * n) := Int.mul_assoc _ _ _
  have hlt := sq_lt (a := (t : Int)) (b := isq (2 * n * n) + 1) (by omega) (by omega) (by omega)
  have := farS_ge (n * n) (isq (2 * n * n)).toNat t (by omega) (by omega)
  unfold farN
  omega

theorem sq_le_bd {a n : Int} (hn : 0 ≤ n) (h : a * a ≤ n * n) : -n ≤ a ∧ a ≤ n := by
  constructor
  · rcases Int.lt_or_le a (-n) with h1 | h1
    · exfalso
      have := Int.mul_self_lt_mul_self (a := n) (b := -a) (by omega) (by omega)
      rw [Int.neg_mul_neg] at this; omega
    · exact h1
  · rcases Int.lt_or_le n a with h1 | h1
    · exfalso
      have := Int.mul_self_lt_mul_self (a := n) (b := a) (by omega) (by omega)
      omega
    · exact h1

theorem near_wide {n : Int} {p q : Int × Int} (hn : 0 ≤ n ∧ n ≤ 1000) (h : (p.1 - q.1) * (p.1 - q.1) + (p.2 - q.2) * (p.2 - q.2) ≤ n * n) : inF (wideF p n (farN n : Nat)) q := by
  obtain ⟨a, ha⟩ : ∃ a, p.1 - q.1 = a := ⟨_, rfl⟩
  obtain ⟨b, hb⟩ : ∃ b, p.2 - q.2 = b := ⟨_, rfl⟩
  rw [ha, hb] at h
  have na := sq_nn a
  have nb := sq_nn b
  have h1 := sq_le_bd (a := a) hn.1 (by omega)
  have h2 := sq_le_bd (a := b) hn.1 (by omega)
  have f1 := far_sum hn h
  have f2 := far_sum (a := -a) (b := -b) hn (by rw [Int.neg_mul_neg, Int.neg_mul_neg]; exact h)
  have f3 := far_sum (a := a) (b := -b) hn (by rw [Int.neg_mul_neg]; exact h)
  have f4 := far_sum (a := -a) (b := b) hn (by rw [Int.neg_mul_neg]; exact h)
  unfold inF wideF
  simp only
  omega

theorem ends_one {p : Int × Int} (h : smallP p) : endsL (ofF p) = [p] := by
  rw [ofF_eq h]
  unfold endsL rowsL
  simp only
  rw [show (p.1 + 1 - p.1).toNat = 1 by omega]
  have e1 : lowY ⟨(p.1, p.1), (p.2, p.2), (p.1 + p.2, p.1 + p.2), (p.1 - p.2, p.1 - p.2)⟩ p.1 = p.2 := by unfold lowY; simp only; omega
  have e2 : highY ⟨(p.1, p.1), (p.2, p.2), (p.1 + p.2, p.1 + p.2), (p.1 - p.2, p.1 - p.2)⟩ p.1 = p.2 := by unfold highY; simp only; omega
  simp only [rowsN]
  rw [e1, e2]
  simp [endsR]

end Go.Proofs.Ytecggpjpckicgaa

/-! Contracts: the region within reach of a place. -/
set_option linter.unusedVariables false
set_option linter.unusedSimpArgs false
set_option maxRecDepth 20000
set_option maxHeartbeats 2000000
namespace Go.Proofs.Ytecggpjpckicgaa
open Go.Am
attribute [local simp] cells scalar mkv splice under2 under dem dem1 eB fourC

def pF (p : Int × Int) : Fr := ⟨(p.1, p.1), (p.2, p.2), (p.1 + p.2, p.1 + p.2), (p.1 - p.2, p.1 - p.2)⟩
attribute [local simp] pF

theorem into_c {l v : Int} (hl : 0 ≤ l ∧ l ≤ 65536) (h : -l ≤ v ∧ v ≤ l) : C Try.prog F.region_limit_into [I l, I (IntKind.wrap .i64 v)] (I v) := by
  have k := c_into (l := l) v hl
  rw [into_self h] at k
  rw [w64 (by omega) (by omega)]
  exact k

theorem c_ReachOne {p : Int × Int} (hp : (-64 ≤ p.1 ∧ p.1 ≤ 64) ∧ -64 ≤ p.2 ∧ p.2 ≤ 64) {n : Int} (hn : 0 ≤ n ∧ n ≤ 128) :
    C Try.prog F.region_Reach [.agg (fourC (pF p)), I n] (.tuple [.agg (fourC (hullS (endsL (wideF p n (farN n : Nat)))).1), I 0]) := by
  have hs : smallP p := by unfold smallP; omega
  have e0 : ofF p = pF p := ofF_eq hs
  have hfit : fitF (pF p) := by unfold fitF fitB pF; simp only; omega
  have hmid : midF (pF p) := by unfold midF pF; simp only; omega
  have he : endsL (pF p) = [p] := by rw [← e0]; exact ends_one hs
  have hh : hullS (endsL (pF p)) = (pF p, true) := by rw [he, hull_one, e0]
  have kt := c_tight hmid (by rw [hh])
  rw [hh] at kt
  have kf := c_farthest (n := n) (by omega)
  have hm0 : 0 ≤ ((farN n : Nat) : Int) ∧ ((farN n : Nat) : Int) ≤ 1500 := by
    have h1 := farS_le (n * n) (isq (2 * n * n)).toNat
    have h2 := isq_bd (n := n) (by omega)
    unfold farN; omega
  obtain ⟨_, hi2, hi3⟩ : True ∧ _ := ⟨trivial, in_hull (f := wideF p n (farN n : Nat)) (by unfold wideF; simp only; omega) (q := p) (by unfold inF wideF; simp only; omega)⟩
  generalize ((farN n : Nat) : Int) = m at kf hm0 hi2 hi3 ⊢
  have kt2 := c_tight (f := wideF p n m) (by unfold midF wideF; simp only; omega) hi2
  obtain ⟨H, hH⟩ : ∃ H, (hullS (endsL (wideF p n m))).1 = H := ⟨_, rfl⟩
  rw [hH] at kt2 ⊢
  have hwi : C Try.prog F.region_within [I n, I 0, I 32768] (.bool true) := by
    have h : btw n 0 32768 = true := by simp [btw]; omega
    exact h ▸ c_rwithin n 0 32768
  refine C_of mixed chk.region_Reach (by simp) fun S ok => ?_
  refine Tr.seqR rfl (by simp) (Tr.seq (Tr.seqC rfl (by simp) (Steps.call rfl rfl (c_CheckR hfit) (Steps.fin rfl (by simp) (Tr.seqR rfl (by simp) (Tr.condF rfl (Tr.skip ?_)))))))
  refine Tr.seq (Tr.seqC rfl (by simp) (Steps.call rfl rfl hwi (Steps.fin rfl (by simp) (Tr.condF rfl (Tr.skip ?_)))))
  refine Tr.seqC rfl (by simp) (Steps.call rfl rfl (c_bounds (pF p)) (Steps.call rfl rfl kt (Steps.fin rfl (by simp) ?_)))
  refine Tr.seq (Tr.seqR rfl (by simp) (Tr.condF rfl (Tr.skip ?_)))
  refine Tr.seqC rfl (by simp) (Steps.call rfl rfl kf (Steps.fin rfl (by simp) ?_))
  refine Tr.seqR rfl (by simp) (Tr.seq (Tr.seqR rfl (by simp) (Tr.block ?_)))
  refine Tr.rounds 5 (TrN.succ ?_)
  refine Tr.weak (s' := { env := [(4, .ptr 4 0), (7, .ptr 7 0), (10, .ptr 10 0), (11, .ptr 11 0), (42, .agg (fourC (pF p))), (43, I 0)], bx := [(4, ⟨[I 0, I 0, I 0, I 0, I 0, I 0, I 0, I 0], false⟩), (7, ⟨[I (p.1), I (p.1), I (p.2), I (p.2), I (p.1 + p.2), I (p.1 + p.2), I (p.1 - p.2), I (p.1 - p.2)], false⟩), (10, ⟨[I 32768, I 32768, I 65536, I 65536], false⟩), (11, ⟨[I n, I n, I m, I m], false⟩)], rw := [], log := [], stp := false })
    (Wk.le (.cons rfl (.refl _) (.cons rfl (.refl _) (.cons rfl (.refl _) (.cons rfl (.refl _) (.cons rfl (.refl _) (.cons rfl (VLe.i rfl) .nil)))))) (.cons rfl (LLe.refl _) (.cons rfl (LLe.refl _) (.cons rfl (LLe.refl _) (.cons rfl (LLe.refl _) .nil)))) .nil rfl rfl) ?_
  refine Tr.seqR rfl (by simp) (Tr.seq (Tr.condT rfl (Tr.skip (Tr.seq (Tr.block (Tr.seqR rfl (by simp) ?_))))))
  refine Tr.drawK (TraceK.run rfl (by simp) (TraceK.call rfl rfl (into_c (l := 32768) (v := p.1 - n) (by omega) (by omega)) (TraceK.run rfl (by simp) (TraceK.call rfl rfl (into_c (l := 32768) (v := p.1 + n) (by omega) (by omega)) ?_))))
  refine TraceK.run rfl (by simp) (.done ⟨by kernel_rfl, by kernel_rfl, ?_⟩)
  refine Tr.regR rfl (by simp) (TrN.succ ?_)
  refine Tr.weak (s' := { env := [(4, .ptr 4 0), (7, .ptr 7 0), (10, .ptr 10 0), (11, .ptr 11 0), (42, .agg (fourC (pF p))), (43, I 1)], bx := [(4, ⟨[I 0, I 0, I 0, I 0, I 0, I 0, I 0, I 0], false⟩), (7, ⟨[I (p.1 - n), I (p.1 + n), I (p.2), I (p.2), I (p.1 + p.2), I (p.1 + p.2), I (p.1 - p.2), I (p.1 - p.2)], false⟩), (10, ⟨[I 32768, I 32768, I 65536, I 65536], false⟩), (11, ⟨[I n, I n, I m, I m], false⟩)], rw := [], log := [], stp := false })
    (Wk.le (.cons rfl (.refl _) (.cons rfl (.refl _) (.cons rfl (.refl _) (.cons rfl (.refl _) (.cons rfl (.refl _) (.cons rfl (VLe.i rfl) .nil)))))) (.cons rfl (LLe.refl _) (.cons rfl (LLe.refl _) (.cons rfl (LLe.refl _) (.cons rfl (LLe.refl _) .nil)))) .nil rfl rfl) ?_
  refine Tr.seqR rfl (by simp) (Tr.seq (Tr.condT rfl (Tr.skip (Tr.seq (Tr.block (Tr.seqR rfl (by simp) ?_))))))
  refine Tr.drawK (TraceK.run rfl (by simp) (TraceK.call rfl rfl (into_c (l := 32768) (v := p.2 - n) (by omega) (by omega)) (TraceK.run rfl (by simp) (TraceK.call rfl rfl (into_c (l := 32768) (v := p.2 + n) (by omega) (by omega)) ?_))))
  refine TraceK.run rfl (by simp) (.done ⟨by kernel_rfl, by kernel_rfl, ?_⟩)
  refine Tr.regR rfl (by simp) (TrN.succ ?_)
  refine Tr.weak (s' := { env := [(4, .ptr 4 0), (7, .ptr 7 0), (10, .ptr 10 0), (11, .ptr 11 0), (42, .agg (fourC (pF p))), (43, I 2)], bx := [(4, ⟨[I 0, I 0, I 0, I 0, I 0, I 0, I 0, I 0], false⟩), (7, ⟨[I (p.1 - n), I (p.1 + n), I (p.2 - n), I (p.2 + n), I (p.1 + p.2), I (p.1 + p.2), I (p.1 - p.2), I (p.1 - p.2)], false⟩), (10, ⟨[I 32768, I 32768, I 65536, I 65536], false⟩), (11, ⟨[I n, I n, I m, I m], false⟩)], rw := [], log := [], stp := false })
    (Wk.le (.cons rfl (.refl _) (.cons rfl (.refl _) (.cons rfl (.refl _) (.cons rfl (.refl _) (.cons rfl (.refl _) (.cons rfl (VLe.i rfl) .nil)))))) (.cons rfl (LLe.refl _) (.cons rfl (LLe.refl _) (.cons rfl (LLe.refl _) (.cons rfl (LLe.refl _) .nil)))) .nil rfl rfl) ?_
  refine Tr.seqR rfl (by simp) (Tr.seq (Tr.condT rfl (Tr.skip (Tr.seq (Tr.block (Tr.seqR rfl (by simp) ?_))))))
  refine Tr.drawK (TraceK.run rfl (by simp) (TraceK.call rfl rfl (into_c (l := 65536) (v := p.1 + p.2 - m) (by omega) (by omega)) (TraceK.run rfl (by simp) (TraceK.call rfl rfl (into_c (l := 65536) (v := p.1 + p.2 + m) (by omega) (by omega)) ?_))))
  refine TraceK.run rfl (by simp) (.done ⟨by kernel_rfl, by kernel_rfl, ?_⟩)
  refine Tr.regR rfl (by simp) (TrN.succ ?_)
  refine Tr.weak (s' := { env := [(4, .ptr 4 0), (7, .ptr 7 0), (10, .ptr 10 0), (11, .ptr 11 0), (42, .agg (fourC (pF p))), (43, I 3)], bx := [(4, ⟨[I 0, I 0, I 0, I 0, I 0, I 0, I 0, I 0], false⟩), (7, ⟨[I (p.1 - n), I (p.1 + n), I (p.2 - n), I (p.2 + n), I (p.1 + p.2 - m), I (p.1 + p.2 + m), I (p.1 - p.2), I (p.1 - p.2)], false⟩), (10, ⟨[I 32768, I 32768, I 65536, I 65536], false⟩), (11, ⟨[I n, I n, I m, I m], false⟩)], rw := [], log := [], stp := false })
    (Wk.le (.cons rfl (.refl _) (.cons rfl (.refl _) (.cons rfl (.refl _) (.cons rfl (.refl _) (.cons rfl (.refl _) (.cons rfl (VLe.i rfl) .nil)))))) (.cons rfl (LLe.refl _) (.cons rfl (LLe.refl _) (.cons rfl (LLe.refl _) (.cons rfl (LLe.refl _) .nil)))) .nil rfl rfl) ?_
  refine Tr.seqR rfl (by simp) (Tr.seq (Tr.condT rfl (Tr.skip (Tr.seq (Tr.block (Tr.seqR rfl (by simp) ?_))))))
  refine Tr.drawK (TraceK.run rfl (by simp) (TraceK.call rfl rfl (into_c (l := 65536) (v := p.1 - p.2 - m) (by omega) (by omega)) (TraceK.run rfl (by simp) (TraceK.call rfl rfl (into_c (l := 65536) (v := p.1 - p.2 + m) (by omega) (by omega)) ?_))))
  refine TraceK.run rfl (by simp) (.done ⟨by kernel_rfl, by kernel_rfl, ?_⟩)
  refine Tr.regR rfl (by simp) (TrN.succ ?_)
  refine Tr.seqR rfl (by simp) (Tr.seq (Tr.condF rfl (Tr.exit ?_)))
  refine Tr.seqC rfl (by simp) (Steps.call rfl rfl kt2 (Steps.run rfl (by simp) (Steps.call rfl rfl (c_done H) (Steps.fin rfl (by simp) (Tr.retX rfl rfl rfl rfl trivial)))))

end Go.Proofs.Ytecggpjpckicgaa

/-! Plain facts: values and enclosures as sums over what is near. -/
set_option linter.unusedVariables false
set_option linter.unusedSimpArgs false
set_option maxRecDepth 20000
namespace Go.Proofs.Ytecggpjpckicgaa
open Go.Am

theorem w_range (n : Int) : -9223372036854775808 ≤ w n ∧ w n < 9223372036854775808 := by
  have e : ∀ m : Int, m = n % 18446744073709551616 → -9223372036854775808 ≤ (if (true && decide (m ≥ 9223372036854775808)) = true then m - 18446744073709551616 else m) ∧ (if (true && decide (m ≥ 9223372036854775808)) = true then m - 18446744073709551616 else m) < 9223372036854775808 := by
    intro m hm
    by_cases h : m ≥ 9223372036854775808
    · simp only [h, decide_true, Bool.and_self, if_true]; omega
    · simp only [h, decide_false, Bool.and_false, Bool.false_eq_true, if_false]; omega
  exact e _ rfl

theorem w_w (n : Int) : w (w n) = w n := w64 (w_range n).1 (w_range n).2

/-- What the sample at a time is; nothing, if there is none. -/
def smp (s : List (Int × Int)) (z d slow : Int) : Int × Int := s.getD (timeN z d slow).toNat (0, 0)
def valC (h : Ear) (z : Int) (p : Int × Int) : Int × Int := smp (sAt h p.1) z p.2 h.slow.1

def nrm (a : Int × Int) : Prop := w a.1 = a.1 ∧ w a.2 = a.2
theorem nrm_plus (a b : Int × Int) : nrm (plusB a b) := ⟨w_w _, w_w _⟩
theorem nrm0 : nrm (0, 0) := ⟨w64 (by omega) (by omega), w64 (by omega) (by omega)⟩
theorem plus0 {a : Int × Int} (h : nrm a) : plusB a (0, 0) = a := by
  obtain ⟨x, y⟩ := a
  obtain ⟨h1, h2⟩ := h
  simp only at h1 h2
  simp only [plusB, Int.add_zero, h1, h2]

theorem fold_filter {α β : Type} (f : α → Option β) (g : β → Int × Int) : ∀ (L : List α) (acc : Int × Int), nrm acc →
    ((L.filterMap f).map g).foldl plusB acc = (L.map fun p => match f p with | some r => g r | none => (0, 0)).foldl plusB acc
  | [], acc, _ => rfl
  | p :: r, acc, h => by
    simp only [List.filterMap_cons, List.map_cons, List.foldl_cons]
    cases hf : f p with
    | none => simp only [plus0 h]; exact fold_filter f g r acc h
    | some q => simp only [List.map_cons, List.foldl_cons]; exact fold_filter f g r _ (nrm_plus _ _)

theorem map_congr' {α β : Type} {f g : α → β} {L : List α} (h : ∀ p ∈ L, f p = g p) : L.map f = L.map g := List.map_congr_left h

theorem value_sum (h : Ear) (x y z : Int) : valueB h x y z = ((nears h.aper x y h.l 0).map (valC h z)).foldl plusB (0, 0) := by
  unfold valueB namedL
  rw [fold_filter _ _ _ _ nrm0]
  congr 1
  refine map_congr' fun p hp => ?_
  obtain ⟨i, h1, h2⟩ := nears_mem hp
  have h1 : p.1 = (i : Int) := by simpa using h1
  have h0 := timeN_nn z p.2 h.slow.1
  have es : sAt h p.1 = h.l[i].s := by simp [sAt, h1, List.getElem?_eq_getElem h2]
  unfold refOf valC smp
  rw [es, h1]
  simp only [Int.toNat_natCast, List.getElem?_eq_getElem h2, Option.map_some, Option.getD_some]
  by_cases hc : timeN z p.2 h.slow.1 < (h.l[i].s.length : Int)
  · rw [if_pos hc]
    simp [boundAt, List.getElem?_eq_getElem h2, List.getD_eq_getElem?_getD]
  · rw [if_neg hc, List.getD_eq_getElem?_getD, List.getElem?_eq_none (by omega)]
    rfl

theorem reach_one (s : List (Int × Int)) (z d q : Int) : reachB s z d (q, q) = smp s z d q := by
  have h0 := timeN_nn z d q
  unfold reachB smp
  simp only
  obtain ⟨t, ht⟩ : ∃ t : Nat, timeN z d q = (t : Int) := ⟨_, (Int.toNat_of_nonneg h0).symm⟩
  rw [ht, Int.toNat_natCast]
  by_cases h1 : t < s.length
  · rw [reachG_drop h1, if_pos (Int.le_refl _), List.getD_eq_getElem?_getD, List.getElem?_eq_getElem h1]
    have e : decide ((t : Int) ≥ (s.length : Int)) = false := by simp; omega
    rw [e]
    simp only [stepB, Bool.false_eq_true, if_false, Option.getD_some]
    by_cases h2 : t + 1 < s.length
    · rw [reachG_drop h2, if_neg (by omega)]
    · rw [List.drop_eq_nil_of_le (by omega)]; rfl
  · rw [List.drop_eq_nil_of_le (by omega), List.getD_eq_getElem?_getD, List.getElem?_eq_none (by omega)]; rfl

/-- **ONE SLOWNESS**: the enclosure is the value. -/
theorem enc_one (l : List Echo) (aper q : Int) (p : Int × Int × Int) : encOf l aper (q, q) p = valOf l aper q p := by
  unfold encOf valOf encB
  rw [value_sum]
  congr 1
  refine map_congr' fun p _ => ?_
  exact reach_one _ _ _ _

/-! ### Bounds within bounds -/
def ins (a b : Int × Int) : Prop := b.1 ≤ a.1 ∧ a.2 ≤ b.2
def bdd (n : Int) (a : Int × Int) : Prop := (-n ≤ a.1 ∧ a.1 ≤ n) ∧ (-n ≤ a.2 ∧ a.2 ≤ n)

theorem fold_ins {α : Type} (f g : α → Int × Int) (L : List α) : ∀ (n : Int) (a b : Int × Int), 0 ≤ n → n + L.length ≤ 1000 → (∀ p ∈ L, bdd 16777216 (f p) ∧ bdd 16777216 (g p) ∧ ins (f p) (g p)) → bdd (n * 16777216) a → bdd (n * 16777216) b → ins a b →
    ins ((L.map f).foldl plusB a) ((L.map g).foldl plusB b) := by
  induction L with
  | nil => intro n a b _ _ _ _ _ h; exact h
  | cons p r ih =>
    intro n a b h0 hn hf ha hb h
    obtain ⟨h1, h2, h3⟩ := hf p (by simp)
    simp only [List.map_cons, List.foldl_cons]
    simp only [List.length_cons] at hn
    unfold bdd at ha hb h1 h2
    have e1 : plusB a (f p) = (a.1 + (f p).1, a.2 + (f p).2) := by
      unfold plusB; rw [show w (a.1 + (f p).1) = a.1 + (f p).1 from w64 (by omega) (by omega), show w (a.2 + (f p).2) = a.2 + (f p).2 from w64 (by omega) (by omega)]
    have e2 : plusB b (g p) = (b.1 + (g p).1, b.2 + (g p).2) := by
      unfold plusB; rw [show w (b.1 + (g p).1) = b.1 + (g p).1 from w64 (by omega) (by omega), show w (b.2 + (g p).2) = b.2 + (g p).2 from w64 (by omega) (by omega)]
    rw [e1, e2]
    unfold ins at h h3
    refine ih (n + 1) _ _ (by omega) (by omega) (fun q hq => hf q (List.mem_cons_of_mem _ hq)) ?_ ?_ ?_
    · unfold bdd; simp only; omega
    · unfold bdd; simp only; omega
    · unfold ins; simp only; omega

theorem fold_diag {α : Type} (f : α → Int × Int) : ∀ (L : List α) (a : Int × Int), (∀ p ∈ L, (f p).1 = (f p).2) → a.1 = a.2 → ((L.map f).foldl plusB a).1 = ((L.map f).foldl plusB a).2
  | [], a, _, h => h
  | p :: r, a, hf, h => by
    simp only [List.map_cons, List.foldl_cons]
    refine fold_diag f r _ (fun q hq => hf q (List.mem_cons_of_mem _ hq)) ?_
    simp only [plusB, h, hf p (by simp)]

theorem ins_refl (a : Int × Int) : ins a a := ⟨Int.le_refl _, Int.le_refl _⟩
theorem ins_trans {a b c : Int × Int} (h : ins a b) (k : ins b c) : ins a c := ⟨Int.le_trans k.1 h.1, Int.le_trans h.2 k.2⟩

theorem reachG_wide (to : Int) : ∀ (r : List (Int × Int)) (t : Nat) (out : Int × Int), ins out (reachG to r t true out)
  | [], t, out => ins_refl _
  | b :: r, t, out => by
    unfold reachG
    split
    · refine ins_trans ?_ (reachG_wide to r (t + 1) _)
      unfold ins stepB; simp only [if_true]; omega
    · exact ins_refl _

theorem reachG_has (to : Int) : ∀ (r : List (Int × Int)) (t : Nat) (is : Bool) (out : Int × Int) (j : Nat) (h : j < r.length), ((t + j : Nat) : Int) ≤ to → ins r[j] (reachG to r t is out)
  | [], t, is, out, j, h, _ => by simp at h
  | b :: r, t, is, out, j, h, hj => by
    unfold reachG
    rw [if_pos (by omega)]
    cases j with
    | zero =>
      refine ins_trans ?_ (reachG_wide to r (t + 1) _)
      unfold ins stepB
      cases is
      · simp
      · simp only [if_true, List.getElem_cons_zero]; omega
    | succ j =>
      rw [List.getElem_cons_succ]
      exact reachG_has to r (t + 1) true _ j (by simpa using h) (by rw [show t + 1 + j = t + (j + 1) by omega]; exact hj)

theorem reachG_bdd {n : Int} (to : Int) : ∀ (r : List (Int × Int)) (t : Nat) (is : Bool) (out : Int × Int), (∀ b ∈ r, bdd n b) → bdd n out → bdd n (reachG to r t is out)
  | [], t, is, out, _, h => h
  | b :: r, t, is, out, hr, h => by
    unfold reachG
    split
    · refine reachG_bdd to r (t + 1) true _ (fun b hb => hr b (List.mem_cons_of_mem _ hb)) ?_
      have hb := hr b (by simp)
      unfold stepB
      split
      · unfold bdd at h hb ⊢; simp only; omega
      · exact hb
    · exact h

/-- A time between the least and the greatest one: the sample lies in what may be reached. -/
theorem smp_reach (s : List (Int × Int)) (z d q : Int) (sl : Int × Int) (h1 : timeN z d sl.1 ≤ timeN z d q) (h2 : timeN z d q ≤ timeN z d sl.2) : ins (smp s z d q) (reachB s z d sl) := by
  have h0 := timeN_nn z d sl.1
  unfold smp reachB
  by_cases h : (timeN z d q).toNat < s.length
  · rw [List.getD_eq_getElem?_getD, List.getElem?_eq_getElem h]
    have hj : (timeN z d q).toNat - (timeN z d sl.1).toNat < (s.drop (timeN z d sl.1).toNat).length := by rw [List.length_drop]; omega
    have := reachG_has (timeN z d sl.2) (s.drop (timeN z d sl.1).toNat) (timeN z d sl.1).toNat (decide (timeN z d sl.2 ≥ s.length)) (0, 0) _ hj (by omega)
    rw [List.getElem_drop] at this
    simpa [show (timeN z d sl.1).toNat + ((timeN z d q).toNat - (timeN z d sl.1).toNat) = (timeN z d q).toNat by omega] using this
  · rw [List.getD_eq_getElem?_getD, List.getElem?_eq_none (by omega)]
    have e : decide (timeN z d sl.2 ≥ (s.length : Int)) = true := by simp; omega
    rw [e]
    exact reachG_wide _ _ _ _

theorem isq_mono {a b : Int} (h0 : 0 ≤ a) (h : a ≤ b) (h1 : b ≤ 1099511627776) : isq a ≤ isq b := by
  obtain ⟨a0, a1, a2⟩ := isq_spec h0 (by omega)
  obtain ⟨b0, b1, b2⟩ := isq_spec (n := b) (by omega) h1
  have := sq_lt a0 (b := isq b + 1) (by omega) (by omega)
  omega

theorem timeN_mono {z d s t : Int} (hz : 0 ≤ z ∧ z ≤ 64) (hd : 0 ≤ d ∧ d ≤ 100000) (hs : 0 ≤ s) (h : s ≤ t) (ht : t ≤ 4096) : timeN z d s ≤ timeN z d t := by
  have m0 : 0 ≤ z * z ∧ z * z ≤ 64 * 64 := ⟨Int.mul_nonneg hz.1 hz.1, Int.mul_le_mul hz.2 hz.2 hz.1 (by omega)⟩
  have m1 : 0 ≤ s * d ∧ s * d ≤ 4096 * 100000 := ⟨Int.mul_nonneg hs hd.1, Int.mul_le_mul (by omega) hd.2 hd.1 (by omega)⟩
  have m2 : 0 ≤ t * d ∧ t * d ≤ 4096 * 100000 := ⟨Int.mul_nonneg (by omega) hd.1, Int.mul_le_mul (by omega) hd.2 hd.1 (by omega)⟩
  have m3 : s * d ≤ t * d := Int.mul_le_mul_of_nonneg_right h hd.1
  have q1 : (s * d).tdiv 64 = s * d / 64 := Int.tdiv_eq_ediv_of_nonneg m1.1
  have q2 : (t * d).tdiv 64 = t * d / 64 := Int.tdiv_eq_ediv_of_nonneg m2.1
  have e1 : IntKind.wrap .i64 (IntKind.wrap .i64 (z * z) + IntKind.wrap .i64 ((IntKind.wrap .i64 (s * d)).tdiv 64)) = z * z + s * d / 64 := by
    rw [w64 (n := z * z) (by omega) (by omega), w64 (n := s * d) (by omega) (by omega), q1, w64 (n := s * d / 64) (by omega) (by omega), w64 (by omega) (by omega)]
  have e2 : IntKind.wrap .i64 (IntKind.wrap .i64 (z * z) + IntKind.wrap .i64 ((IntKind.wrap .i64 (t * d)).tdiv 64)) = z * z + t * d / 64 := by
    rw [w64 (n := z * z) (by omega) (by omega), w64 (n := t * d) (by omega) (by omega), q2, w64 (n := t * d / 64) (by omega) (by omega), w64 (by omega) (by omega)]
  unfold timeN
  rw [e1, e2]
  unfold rootN
  rw [if_pos (by simp [btw]; omega), if_pos (by simp [btw]; omega)]
  exact isq_mono (by omega) (by omega) (by omega)

/-- Distances of echoes. -/
theorem dst_bd {x y : Int} {e : Echo} (hx : -64 ≤ x ∧ x ≤ 64) (hy : -64 ≤ y ∧ y ≤ 64) (he : (-64 ≤ e.x ∧ e.x ≤ 64) ∧ (-64 ≤ e.y ∧ e.y ≤ 64)) : dst x y e = (x - e.x) * (x - e.x) + (y - e.y) * (y - e.y) ∧ 0 ≤ dst x y e ∧ dst x y e ≤ 32768 := by
  have sq : ∀ a : Int, -128 ≤ a → a ≤ 128 → 0 ≤ a * a ∧ a * a ≤ 16384 := fun a h1 h2 => by
    rcases Int.le_total 0 a with h | h
    · exact ⟨Int.mul_nonneg h h, Int.mul_le_mul h2 h2 h (by omega)⟩
    · have e : a * a = (-a) * (-a) := by rw [Int.neg_mul_neg]
      rw [e]
      exact ⟨Int.mul_nonneg (by omega) (by omega), Int.mul_le_mul (c := 128) (d := 128) (by omega) (by omega) (by omega) (by omega)⟩
  have a1 := sq (x - e.x) (by omega) (by omega)
  have a2 := sq (y - e.y) (by omega) (by omega)
  have e1 : dst x y e = (x - e.x) * (x - e.x) + (y - e.y) * (y - e.y) := by
    unfold dst
    rw [show w (x - e.x) = x - e.x from w64 (by omega) (by omega), show w (y - e.y) = y - e.y from w64 (by omega) (by omega), show w ((x - e.x) * (x - e.x)) = _ from w64 (by omega) (by omega), show w ((y - e.y) * (y - e.y)) = _ from w64 (by omega) (by omega)]
    exact w64 (by omega) (by omega)
  omega

theorem nears_dst {aper x y : Int} : ∀ {l : List Echo} {k : Nat} {p : Int × Int}, p ∈ nears aper x y l k → ∃ i : Nat, ∃ h : i < l.length, p.1 = ((k + i : Nat) : Int) ∧ p.2 = dst x y l[i] ∧ hears aper x y l[i] = true
  | [], k, p, h => by simp [nears] at h
  | e :: r, k, p, h => by
    simp only [nears] at h
    have rest : p ∈ nears aper x y r (k + 1) → ∃ i : Nat, ∃ h : i < (e :: r).length, p.1 = ((k + i : Nat) : Int) ∧ p.2 = dst x y (e :: r)[i] ∧ hears aper x y (e :: r)[i] = true := fun h => by
      obtain ⟨i, h1, h2, h3, h4⟩ := nears_dst h
      exact ⟨i + 1, by simpa using h1, by rw [h2]; congr 1; omega, by simpa using h3, by simpa using h4⟩
    split at h
    · rename_i hh
      rcases List.mem_cons.1 h with rfl | h
      · exact ⟨0, by simp, by simp, rfl, hh⟩
      · exact rest h
    · exact rest h

theorem echoOk_spec {e : Echo} (h : echoOk e = true) : ((-64 ≤ e.x ∧ e.x ≤ 64) ∧ (-64 ≤ e.y ∧ e.y ≤ 64)) ∧ (1 ≤ e.s.length ∧ e.s.length ≤ 64) ∧ ∀ b ∈ e.s, -16777216 ≤ b.1 ∧ b.1 ≤ b.2 ∧ b.2 ≤ 16777216 := by
  simp only [echoOk, btw, Bool.and_eq_true, decide_eq_true_eq, List.all_eq_true, loud] at h
  obtain ⟨⟨⟨h1, h2⟩, h3⟩, h4⟩ := h
  exact ⟨by omega, by omega, fun b hb => by have := h4 b hb; omega⟩

theorem echoesOk_spec {l : List Echo} (h : echoesOk l = true) : l.length ≤ 32 ∧ ∀ e ∈ l, echoOk e = true := by
  simp only [echoesOk, Bool.and_eq_true, decide_eq_true_eq, List.all_eq_true] at h
  exact h

end Go.Proofs.Ytecggpjpckicgaa

/-! Plain facts: the places of a box by their indices; joins both ways; parts of a volume. -/
set_option linter.unusedVariables false
set_option linter.unusedSimpArgs false
set_option maxRecDepth 20000
namespace Go.Proofs.Ytecggpjpckicgaa
open Go.Am

theorem btw_iff (n lo hi : Int) : btw n lo hi = true ↔ lo ≤ n ∧ n ≤ hi := by
  simp only [btw, Bool.and_eq_true, decide_eq_true_eq, ge_iff_le]

def cidx (b : Bx) (p : Int × Int × Int) : Int := idxOf b p.1 p.2.1 p.2.2
def natI (k : Nat) : Int := (k : Int)

theorem idx_at (b : Bx) (x y z B C : Nat) (hB : b.b = (B : Int)) (hC : b.c = (C : Int)) : idxOf b (b.x + (x : Int)) (b.y + (y : Int)) (b.z + (z : Int)) = (((x * B + y) * C + z : Nat) : Int) := by
  unfold idxOf
  rw [hB, hC, show b.x + (x : Int) - b.x = (x : Int) by omega, show (x : Int) * (B : Int) + (b.y + (y : Int)) - b.y = (x : Int) * (B : Int) + (y : Int) by omega]
  push_cast
  omega

theorem zs_idx (b : Bx) (x y B C : Nat) (hB : b.b = (B : Int)) (hC : b.c = (C : Int)) : ∀ n, (zsC b x y n).map (cidx b) = (List.range' ((x * B + y) * C) n).map natI
  | 0 => by simp [zsC]
  | n + 1 => by
    rw [zsC_succ, List.range'_1_concat, List.map_append, List.map_append, zs_idx b x y B C hB hC n]
    congr 1
    simp only [List.map_cons, List.map_nil, cidx, idx_at b x y n B C hB hC, natI]

theorem ys_idx (b : Bx) (x B C : Nat) (hB : b.b = (B : Int)) (hC : b.c = (C : Int)) : ∀ n, (ysC b x n).map (cidx b) = (List.range' (x * B * C) (n * C)).map natI
  | 0 => by simp [ysC]
  | n + 1 => by
    have e0 : b.c.toNat = C := by omega
    have e : List.range' (x * B * C) ((n + 1) * C) = List.range' (x * B * C) (n * C) ++ List.range' ((x * B + n) * C) C := by
      rw [show (x * B + n) * C = x * B * C + n * C by rw [Nat.add_mul], List.range'_append_1, Nat.succ_mul]
    rw [ysC_succ, List.map_append, ys_idx b x B C hB hC n, e0, zs_idx b x n B C hB hC, e, List.map_append]

theorem xs_idx (b : Bx) (B C : Nat) (hB : b.b = (B : Int)) (hC : b.c = (C : Int)) : ∀ n, (xsC b n).map (cidx b) = (List.range' 0 (n * (B * C))).map natI
  | 0 => by simp [xsC]
  | n + 1 => by
    have e0 : b.b.toNat = B := by omega
    have e : List.range' 0 ((n + 1) * (B * C)) = List.range' 0 (n * (B * C)) ++ List.range' (n * B * C) (B * C) := by
      rw [show n * B * C = 0 + n * (B * C) by rw [Nat.zero_add, Nat.mul_assoc], List.range'_append_1, Nat.succ_mul]
    rw [xsC_succ, List.map_append, xs_idx b B C hB hC n, e0, ys_idx b n B C hB hC, e, List.map_append]

theorem cells_idx (b : Bx) (h : 0 ≤ b.b ∧ 0 ≤ b.c) : (boxCells b).map (cidx b) = (List.range (boxCells b).length).map natI := by
  have e := xs_idx b b.b.toNat b.c.toNat (Int.toNat_of_nonneg h.1).symm (Int.toNat_of_nonneg h.2).symm b.a.toNat
  have hl : (boxCells b).length = b.a.toNat * (b.b.toNat * b.c.toNat) := xsC_len b _
  rw [hl, List.range_eq_range']
  exact e

theorem cell_idx {b : Bx} (h : 0 ≤ b.b ∧ 0 ≤ b.c) {i : Nat} (hi : i < (boxCells b).length) : cidx b (boxCells b)[i] = (i : Int) := by
  have e := congrArg (fun l => l[i]?) (cells_idx b h)
  simp only [List.getElem?_map, List.getElem?_eq_getElem hi, Option.map_some] at e
  rw [List.getElem?_range hi] at e
  simpa [natI] using e

theorem mem_box {b : Bx} {p : Int × Int × Int} : p ∈ boxCells b ↔ hasP b p = true := by
  obtain ⟨x, y, z⟩ := p
  simp only [boxCells, xsC, ysC, zsC, List.mem_flatMap, List.mem_map, List.mem_range, hasP, hasB, btw, Bool.and_eq_true, decide_eq_true_eq, Prod.mk.injEq]
  constructor
  · rintro ⟨i, hi, j, hj, k, hk, h1, h2, h3⟩; omega
  · rintro ⟨⟨⟨h1, h2⟩, h3, h4⟩, h5, h6⟩
    exact ⟨(x - b.x).toNat, by omega, (y - b.y).toNat, by omega, (z - b.z).toNat, by omega, by omega, by omega, by omega⟩

theorem vol_cells {v : Vol} (h : volOk v = true) : (boxCells v.b).map (atV v) = v.v := by
  obtain ⟨hb, hl, _⟩ := volOk_spec h
  have hs := small_spec (boxOk_spec hb).1
  have hlen : (boxCells v.b).length = v.v.length := by
    have := boxCells_len' v.b (by omega)
    unfold manyI at hl; omega
  refine List.ext_getElem (by simpa using hlen) fun i h1 h2 => ?_
  have hi : i < (boxCells v.b).length := by simpa using h1
  rw [List.getElem_map]
  exact atV_eq (cell_idx (by omega) hi) h2

theorem atV_made {u : Bx} (h : 0 ≤ u.b ∧ 0 ≤ u.c) {f : Int × Int × Int → Int} {p : Int × Int × Int} (hp : p ∈ boxCells u) : atV ⟨u, (boxCells u).map f⟩ p = f p := by
  obtain ⟨i, hi, rfl⟩ := List.mem_iff_getElem.1 hp
  have e : idxOf u (boxCells u)[i].1 (boxCells u)[i].2.1 (boxCells u)[i].2.2 = (i : Int) := cell_idx h hi
  unfold atV
  rw [e, Int.toNat_natCast, List.getD_eq_getElem?_getD, List.getElem?_map, List.getElem?_eq_getElem hi]
  rfl

/-! ### Joins -/
def joined (a b : Vol) : Vol := ⟨aroundB a.b b.b, (boxCells (aroundB a.b b.b)).map (pickV a b)⟩
structure joinOk (a b : Vol) : Prop where
  oka : volOk a = true
  okb : volOk b = true
  many : manyI (aroundB a.b b.b) = manyI a.b + manyI b.b - commonI a.b b.b
  small : smallB (aroundB a.b b.b) = true
  same : (boxCells (aroundB a.b b.b)).any (clash a b) = false

theorem join_cases (nl : V) (a b : Vol) : (joinOk a b ∧ joinR nl a b = .tuple [.agg (volC (joined a b)), I 0]) ∨ (¬ joinOk a b ∧ ∃ e, e ≠ 0 ∧ joinR nl a b = errVol nl e) := by
  unfold joinR
  by_cases h1 : volOk a = true
  · by_cases h2 : volOk b = true
    · by_cases h3 : manyI (aroundB a.b b.b) = manyI a.b + manyI b.b - commonI a.b b.b
      · by_cases h4 : smallB (aroundB a.b b.b) = true
        · by_cases h5 : (boxCells (aroundB a.b b.b)).any (clash a b) = true
          · exact .inr ⟨fun h => (by rw [h.same] at h5; cases h5), 104, by omega, by rw [if_pos h1, if_pos h2, if_pos h3, if_pos h4, if_pos h5]⟩
          · exact .inl ⟨⟨h1, h2, h3, h4, by simpa using h5⟩, by rw [if_pos h1, if_pos h2, if_pos h3, if_pos h4, if_neg h5]; rfl⟩
        · exact .inr ⟨fun h => h4 h.small, 3, by omega, by rw [if_pos h1, if_pos h2, if_pos h3, if_neg h4]⟩
      · exact .inr ⟨fun h => h3 h.many, 103, by omega, by rw [if_pos h1, if_pos h2, if_neg h3]⟩
    · exact .inr ⟨fun h => h2 h.okb, 101, by omega, by rw [if_pos h1, if_neg h2]⟩
  · exact .inr ⟨fun h => h1 h.oka, 101, by omega, by rw [if_neg h1]⟩

theorem around_comm (a b : Bx) : aroundB a b = aroundB b a := by
  unfold aroundB
  congr 1 <;> omega

theorem cut1_comm (p q x y : Int) : cut1 p q x y = cut1 q p y x := by unfold cut1; omega

theorem common_comm (a b : Bx) : commonI a b = commonI b a := by
  unfold commonI
  rw [cut1_comm (a.x + a.a - 1), cut1_comm (a.y + a.b - 1), cut1_comm (a.z + a.c - 1)]

theorem clash_comm (a b : Vol) (p : Int × Int × Int) : clash a b p = clash b a p := by
  unfold clash
  have e : (atV a p != atV b p) = (atV b p != atV a p) := bne_comm
  rw [Bool.and_comm (hasP a.b p), e]

theorem joinOk.comm {a b : Vol} (h : joinOk a b) : joinOk b a := by
  refine ⟨h.okb, h.oka, ?_, by rw [around_comm]; exact h.small, ?_⟩
  · rw [around_comm, common_comm, h.many]; omega
  · rw [around_comm, ← h.same]
    congr 1
    funext p; exact clash_comm b a p

theorem joinOk.cov {a b : Vol} (h : joinOk a b) : ∀ p ∈ boxCells (aroundB a.b b.b), hasP a.b p = true ∨ hasP b.b p = true := by
  have ga := small_spec (boxOk_spec (volOk_spec h.oka).1).1
  have gb := small_spec (boxOk_spec (volOk_spec h.okb).1).1
  exact cover (by omega) (by omega) h.many

theorem pick_a {a b : Vol} {p : Int × Int × Int} (hp : hasP a.b p = true) : pickV a b p = atV a p := by
  unfold pickV; rw [if_pos hp]

theorem joinOk.pick_b {a b : Vol} (h : joinOk a b) {p : Int × Int × Int} (hu : p ∈ boxCells (aroundB a.b b.b)) (hp : hasP b.b p = true) : pickV a b p = atV b p := by
  unfold pickV
  by_cases ha : hasP a.b p = true
  · rw [if_pos ha]
    have h1 := List.any_eq_false.1 h.same p hu
    simp only [clash, ha, hp, Bool.and_self, Bool.true_and] at h1
    simpa using h1
  · rw [if_neg ha]

theorem joined_comm {a b : Vol} (h : joinOk a b) : joined a b = joined b a := by
  unfold joined
  rw [around_comm b.b a.b]
  congr 1
  refine List.map_congr_left fun p hp => ?_
  rcases h.cov p hp with h1 | h1
  · rw [pick_a h1]
    have := h.comm.pick_b (p := p) (by rw [around_comm]; exact hp) h1
    rw [this]
  · rw [h.pick_b hp h1, pick_a h1]

theorem atV_bd {v : Vol} (h : volOk v = true) (p : Int × Int × Int) : -1099511627776 ≤ atV v p ∧ atV v p ≤ 1099511627776 := by
  obtain ⟨_, _, hv⟩ := volOk_spec h
  unfold atV
  rw [List.getD_eq_getElem?_getD]
  by_cases hi : (idxOf v.b p.1 p.2.1 p.2.2).toNat < v.v.length
  · rw [List.getElem?_eq_getElem hi]; exact hv _ (List.getElem_mem hi)
  · rw [List.getElem?_eq_none (by omega)]; simp

theorem volOk_made {u : Bx} {f : Int × Int × Int → Int} (hu : boxOk u = true) (hf : ∀ p ∈ boxCells u, -1099511627776 ≤ f p ∧ f p ≤ 1099511627776) : volOk ⟨u, (boxCells u).map f⟩ = true := by
  have hs := small_spec (boxOk_spec hu).1
  have hl := boxCells_len' u (by omega)
  simp only [volOk, hu, Bool.true_and, Bool.and_eq_true, decide_eq_true_eq, List.all_eq_true, List.length_map, btw]
  refine ⟨hl, fun n hn => ?_⟩
  obtain ⟨p, hp, rfl⟩ := List.mem_map.1 hn
  exact hf p hp

theorem around_ok {a b : Bx} (ha : boxOk a = true) (hb : boxOk b = true) (hs : smallB (aroundB a b) = true) : boxOk (aroundB a b) = true := by
  have g := small_spec hs
  simp only [boxOk, Bool.and_eq_true, cellOk, btw, decide_eq_true_eq] at ha hb ⊢
  refine ⟨⟨hs, ?_⟩, ?_⟩ <;> simp only [aroundB] <;> omega

theorem joined_ok {a b : Vol} (h : joinOk a b) : volOk (joined a b) = true := by
  refine volOk_made (around_ok (volOk_spec h.oka).1 (volOk_spec h.okb).1 h.small) fun p _ => ?_
  unfold pickV
  split
  · exact atV_bd h.oka p
  · exact atV_bd h.okb p

/-! ### Parts -/
def lastP (b : Bx) : Int × Int × Int := (b.x + b.a - 1, b.y + b.b - 1, b.z + b.c - 1)
def cutOk (v : Vol) (b : Bx) : Bool := boxOk b && hasP v.b (b.x, b.y, b.z) && hasP v.b (lastP b)
def part (v : Vol) (b : Bx) : Vol := ⟨b, (boxCells b).map (atV v)⟩
def cutR (nl : V) (v : Vol) (b : Bx) : V := if volOk v then (if cutOk v b then .tuple [.agg (volC (part v b)), I 0] else errVol nl 102) else errVol nl 101

theorem cut_in {v : Vol} {b : Bx} (h : cutOk v b = true) {p : Int × Int × Int} (hp : p ∈ boxCells b) : p ∈ boxCells v.b := by
  rw [mem_box] at hp ⊢
  have h2 : hasB v.b (b.x + b.a - 1) (b.y + b.b - 1) (b.z + b.c - 1) = true := by simp only [cutOk, Bool.and_eq_true] at h; exact h.2
  have h1 : hasB v.b b.x b.y b.z = true := by simp only [cutOk, Bool.and_eq_true] at h; exact h.1.2
  have hp : hasB b p.1 p.2.1 p.2.2 = true := hp
  show hasB v.b p.1 p.2.1 p.2.2 = true
  simp only [hasB, Bool.and_eq_true, btw, decide_eq_true_eq] at h1 h2 hp ⊢
  omega

theorem cut_a {a b : Vol} (h : joinOk a b) : cutOk (joined a b) a.b = true ∧ part (joined a b) a.b = a := by
  have hba := (volOk_spec h.oka).1
  have g := small_spec (boxOk_spec hba).1
  have gu := small_spec h.small
  have hc : cutOk (joined a b) a.b = true := by
    have e1 : hasB (aroundB a.b b.b) a.b.x a.b.y a.b.z = true := by simp only [hasB, Bool.and_eq_true, btw_iff, aroundB]; omega
    have e2 : hasB (aroundB a.b b.b) (a.b.x + a.b.a - 1) (a.b.y + a.b.b - 1) (a.b.z + a.b.c - 1) = true := by simp only [hasB, Bool.and_eq_true, btw_iff, aroundB]; omega
    unfold cutOk
    rw [hba, Bool.true_and, Bool.and_eq_true]
    exact ⟨e1, e2⟩
  refine ⟨hc, ?_⟩
  unfold part
  have e : (boxCells a.b).map (atV (joined a b)) = a.v := by
    rw [← vol_cells h.oka]
    refine List.map_congr_left fun p hp => ?_
    rw [show atV (joined a b) p = pickV a b p from atV_made (u := aroundB a.b b.b) (f := pickV a b) (by omega) (cut_in hc hp), pick_a (mem_box.1 hp)]
  rw [e]

theorem cut_b {a b : Vol} (h : joinOk a b) : cutOk (joined a b) b.b = true ∧ part (joined a b) b.b = b := by
  rw [joined_comm h]; exact cut_a h.comm

end Go.Proofs.Ytecggpjpckicgaa

/-! The law VolumeReach. -/
set_option linter.unusedVariables false
set_option linter.unusedSimpArgs false
set_option maxRecDepth 20000
set_option maxHeartbeats 4000000
namespace Go.Proofs.Ytecggpjpckicgaa
open Go.Am
attribute [local simp] cells scalar mkv splice under2 under dem dem1 eB fourC cellC eE sB

theorem nears_hears {aper x y : Int} : ∀ {l : List Echo} {k : Nat} {p : Int × Int}, p ∈ nears aper x y l k → ∃ i : Nat, p.1 = ((k + i : Nat) : Int) ∧ ∃ h : i < l.length, hears aper x y l[i] = true
  | [], k, p, h => by simp [nears] at h
  | e :: r, k, p, h => by
    simp only [nears] at h
    have rest : p ∈ nears aper x y r (k + 1) → ∃ i : Nat, p.1 = ((k + i : Nat) : Int) ∧ ∃ h : i < (e :: r).length, hears aper x y (e :: r)[i] = true := fun h => by
      obtain ⟨i, h1, h2, h3⟩ := nears_hears h
      exact ⟨i + 1, by rw [h1]; congr 1; omega, by simpa using h2, by simpa using h3⟩
    split at h
    · rename_i hh
      rcases List.mem_cons.1 h with rfl | h
      · exact ⟨0, by simp, by simp, by simpa using hh⟩
      · exact rest h
    · exact rest h

theorem named_hears {h : Ear} {x y z : Int} {r : Int × Int} (hr : r ∈ namedL h x y z) : ∃ i : Nat, r.1 = (i : Int) ∧ ∃ hi : i < h.l.length, hears h.aper x y h.l[i] = true := by
  obtain ⟨p, hp, he⟩ := List.mem_filterMap.1 hr
  obtain ⟨i, h1, h2⟩ := nears_hears hp
  unfold refOf at he
  split at he
  · obtain rfl : (p.1, timeN z p.2 h.slow.1) = r := by simpa using he
    exact ⟨i, by simpa using h1, h2⟩
  · cases he

theorem hears_near {aper x y : Int} {e : Echo} (ha : 0 ≤ aper ∧ aper ≤ 128) (hx : (-64 ≤ x ∧ x ≤ 64) ∧ -64 ≤ y ∧ y ≤ 64) (he : (-64 ≤ e.x ∧ e.x ≤ 64) ∧ -64 ≤ e.y ∧ e.y ≤ 64) (h : hears aper x y e = true) : (x - e.x) * (x - e.x) + (y - e.y) * (y - e.y) ≤ aper * aper := by
  unfold hears dst at h
  have b1 := sq_bd (a := x - e.x) (K := 128) (by omega) (by omega)
  have b2 := sq_bd (a := y - e.y) (K := 128) (by omega) (by omega)
  have b3 := sq_bd (a := aper) (K := 128) (by omega) (by omega)
  rw [show w (x - e.x) = x - e.x from w64 (by omega) (by omega), show w (y - e.y) = y - e.y from w64 (by omega) (by omega), show w ((x - e.x) * (x - e.x)) = (x - e.x) * (x - e.x) from w64 (by omega) (by omega), show w ((y - e.y) * (y - e.y)) = (y - e.y) * (y - e.y) from w64 (by omega) (by omega), show w (aper * aper) = aper * aper from w64 (by omega) (by omega)] at h
  have h := of_decide_eq_true h
  rw [show w ((x - e.x) * (x - e.x) + (y - e.y) * (y - e.y)) = (x - e.x) * (x - e.x) + (y - e.y) * (y - e.y) from w64 (by omega) (by omega)] at h
  exact h

theorem c_VolumeReach {l : List Echo} (hl : sane l) (x y z aper slow : Int) : C Try.prog F.law10_VolumeReach [sE l, .agg [I x, I y, I z], .agg [I aper, I slow]] (.bool true) := by
  have k1 := c_NameS hl x y z aper slow
  unfold nameS nameR at k1
  refine C_of mixed chk.law10_VolumeReach (by simp) fun S ok => ?_
  refine Tr.seqR rfl (by simp) ?_
  by_cases hLE : echoesOk l = true
  rotate_left
  · rw [if_neg hLE] at k1
    refine Tr.seqC rfl (by simp) (Steps.call rfl rfl k1 (Steps.fin rfl (by simp) ?_))
    refine Tr.seq (Tr.seqR rfl (by simp) (Tr.condT rfl ?_))
    refine Tr.seqC rfl (by simp) (Steps.gcall rfl rfl rfl rfl (by simp) (fun _ => c_works) (Steps.fin rfl (by simp) (Tr.retX rfl rfl rfl ?_ trivial)))
    simp [packR]
  rw [if_pos hLE] at k1
  by_cases hN : (earOk aper (slow, slow) && cellOk x y z) = true
  rotate_left
  · rw [if_neg hN] at k1
    refine Tr.seqC rfl (by simp) (Steps.call rfl rfl k1 (Steps.fin rfl (by simp) ?_))
    refine Tr.seq (Tr.seqR rfl (by simp) (Tr.condT rfl ?_))
    refine Tr.seqC rfl (by simp) (Steps.gcall rfl rfl rfl rfl (by simp) (fun _ => c_works) (Steps.fin rfl (by simp) (Tr.retX rfl rfl rfl ?_ trivial)))
    simp [packR]
  rw [if_pos hN, nameC] at k1
  simp only [Bool.and_eq_true] at hN
  obtain ⟨hA, hC⟩ := hN
  have hap : 0 ≤ aper ∧ aper ≤ 128 := by
    rw [earOk_one, Bool.and_eq_true, btw_iff] at hA; exact hA.1
  have hcell : (-64 ≤ x ∧ x ≤ 64) ∧ -64 ≤ y ∧ y ≤ 64 := by
    simp only [cellOk, Bool.and_eq_true, btw_iff] at hC; exact ⟨hC.1.1, hC.1.2⟩
  have hNm : ∀ r ∈ namedL ⟨l, aper, (slow, slow)⟩ x y z, ∃ i : Nat, r.1 = (i : Int) ∧ ∃ hi : i < l.length, hears aper x y l[i] = true := fun r hr => named_hears hr
  have hRl : (namedL ⟨l, aper, (slow, slow)⟩ x y z).length ≤ 32 := by
    have h1 := List.length_filterMap_le (refOf ⟨l, aper, (slow, slow)⟩ z) (nears aper x y l 0)
    have h2 := nears_len (aper := aper) (x := x) (y := y) (l := l) (k := 0)
    have h3 := echoesOk_len hLE
    show (List.filterMap _ _).length ≤ 32
    exact Nat.le_trans h1 (Nat.le_trans h2 h3)
  generalize namedL ⟨l, aper, (slow, slow)⟩ x y z = Rs at k1 hNm hRl
  generalize (valueB ⟨l, aper, (slow, slow)⟩ x y z) = vb at k1
  have hs : smallP (x, y) := by unfold smallP; simp only; omega
  have e0 : ofF (x, y) = pF (x, y) := ofF_eq hs
  have k2 := c_OfOne (p := (x, y)) hs
  rw [e0] at k2
  have k3 := c_ReachOne (p := (x, y)) hcell hap
  have hW : ∀ q : Int × Int, (x - q.1) * (x - q.1) + (y - q.2) * (y - q.2) ≤ aper * aper → inF (hullS (endsL (wideF (x, y) aper (farN aper : Nat)))).1 q := fun q hq =>
    (in_hull (f := wideF (x, y) aper (farN aper : Nat)) (by unfold wideF; simp only; omega) (near_wide (p := (x, y)) (n := aper) (by omega) hq)).2.2
  have hfit : fitF (hullS (endsL (wideF (x, y) aper (farN aper : Nat)))).1 :=
    fit_lim (in_hull (f := wideF (x, y) aper (farN aper : Nat)) (by unfold wideF; simp only; omega) (near_wide (p := (x, y)) (q := (x, y)) (n := aper) (by omega) (by simp only [Int.sub_self, Int.zero_mul, Int.add_zero]; exact sq_nn aper))).2.1
  generalize (hullS (endsL (wideF (x, y) aper (farN aper : Nat)))).1 = H at k3 hW hfit
  refine Tr.seqC rfl (by simp) (Steps.call rfl rfl k1 (Steps.fin rfl (by simp) ?_))
  refine Tr.seq (Tr.seqR rfl (by simp) (Tr.condF rfl (Tr.skip ?_)))
  refine Tr.seqC rfl (by simp) (Steps.call rfl rfl k2 (Steps.fin rfl (by simp) ?_))
  refine Tr.seqC rfl (by simp) (Steps.call rfl rfl k3 (Steps.fin rfl (by simp) ?_))
  refine Tr.seq (Tr.seqR rfl (by simp) (Tr.condF rfl (Tr.skip ?_)))
  refine Tr.seq (Tr.seqR rfl (by simp) (Tr.block ?_))
  refine Tr.loop (fun (k : Nat) s => k ≤ Rs.length ∧ s = { env := [(0, sE l), (7, .ptr 7 0), (10, .ptr 10 0), (12, I (k : Int))], bx := [(7, ⟨[I x, I y, I z, .slice 0 2 (Rs.map eB), I vb.1, I vb.2], false⟩), (10, ⟨fourC H, false⟩)], rw := [], log := [], stp := false }) (fun k => Rs.length - k) 0
    (Wk.le (.cons rfl (.refl _) (.cons rfl (.refl _) (.cons rfl (.refl _) (.cons rfl (.refl _) .nil)))) (.cons rfl (LLe.refl _) (.cons rfl (LLe.refl _) .nil)) .nil rfl rfl) ⟨by omega, rfl⟩ ?_
  rintro k s ⟨hk, rfl⟩
  refine Tr.seq (Tr.seqR rfl (by simp) (Tr.cond rfl rfl (fun h1 => Tr.skip ?_) (fun h1 => Tr.exit ?_)))
  rotate_left
  · exact Tr.seqC rfl (by simp) (Steps.call rfl rfl c_works (Steps.fin rfl (by simp) (Tr.retX rfl rfl rfl rfl trivial)))
  have h1 : k < Rs.length := by simpa using h1
  obtain ⟨i, hi, hil, hh⟩ := hNm _ (List.getElem_mem h1)
  obtain ⟨hll, hok⟩ := echoesOk_spec hLE
  have hei := hok _ (List.getElem_mem hil)
  have hexy : (-64 ≤ l[i].x ∧ l[i].x ≤ 64) ∧ -64 ≤ l[i].y ∧ l[i].y ≤ 64 := by
    simp only [echoOk, Bool.and_eq_true, btw_iff] at hei; exact ⟨hei.1.1.1, hei.1.1.2⟩
  have hnr := hears_near hap hcell hexy hh
  have kH := c_HasIn (f := H) (q := (l[i].x, l[i].y)) hfit (by unfold inPlane; simp only; omega) (cut_inF (by unfold smallP; simp only; omega) (hW (l[i].x, l[i].y) hnr))
  have hb1 : C Try.prog F.ref00_Between [I (i : Int), I 0, I (IntKind.i64.wrap (((l.map eE).length : Int) - 1))] (.bool true) := by
    have h : btw (i : Int) 0 (IntKind.i64.wrap (((l.map eE).length : Int) - 1)) = true := by
      rw [btw_iff, List.length_map, w64 (by omega) (by omega)]; omega
    exact h ▸ c_between _ _ _
  refine Tr.seq (Tr.block (Tr.seqN 4 rfl (by simp; omega) ?_))
  rw [getD_map h1]
  refine Steps.fin rfl (by simp) ?_
  refine Tr.weak (s' := { env := [(0, sE l), (7, .ptr 7 0), (10, .ptr 10 0), (12, I (k : Int)), (13, I (i : Int))], bx := [(7, ⟨[I x, I y, I z, .slice 0 2 (Rs.map eB), I vb.1, I vb.2], false⟩), (10, ⟨fourC H, false⟩)], rw := [], log := [], stp := false })
    (Wk.le (.cons rfl (.refl _) (.cons rfl (.refl _) (.cons rfl (.refl _) (.cons rfl (.refl _) (.cons rfl (VLe.i hi) .nil))))) (.cons rfl (LLe.refl _) (.cons rfl (LLe.refl _) .nil)) .nil rfl rfl) ?_
  refine Tr.seq (Tr.seqC rfl (by simp [sE]) (Steps.call rfl rfl hb1 (Steps.fin rfl (by simp) (Tr.condF rfl (Tr.skip ?_)))))
  refine Tr.seq (Tr.drawK (TraceK.runN 4 rfl (by simp [sE]; omega) ?_))
  rw [getD_map hil]
  refine TraceK.runN 5 rfl (by simp [sE]; omega) ?_
  rw [getD_map hil]
  refine TraceK.run rfl (by simp) (TraceK.call rfl rfl kH (TraceK.run rfl (by simp) (.done ⟨by kernel_rfl, by kernel_rfl, ?_⟩)))
  refine Tr.seqR rfl (by simp) (Tr.condF rfl (Tr.skip (Tr.regR rfl (by simp) ?_)))
  exact ⟨k + 1, _, Wk.le (.cons rfl (.refl _) (.cons rfl (.refl _) (.cons rfl (.refl _) (.cons rfl (VLe.i (w64 (by omega) (by omega))) .nil)))) (.cons rfl (LLe.refl _) (.cons rfl (LLe.refl _) .nil)) .nil rfl rfl, ⟨h1, rfl⟩, by omega⟩

end Go.Proofs.Ytecggpjpckicgaa
