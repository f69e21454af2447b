/-
  Parts of the proof, 3: the abstract machine, the compiled code, contracts of the functions, plain laws.
-/
import Derived.Test.YtecggpjpckicgaaZ2
import Derived.Test.YtecggpjpckicgaaProg


/-! The code of the loaded functions, compiled. -/
set_option maxRecDepth 100000
namespace Go.Proofs.Ytecggpjpckicgaa
open Go.Am
theorem mixed : Try.prog.follows .mixedOrders = true := by kernel_rfl
/-- paravane/paravanelaw10.VolumeTimes -/
abbrev F.law10_VolumeTimes : Nat := 3
def ir.law10_VolumeTimes : IC :=
 (.seq (.reg [⟨(some 3), .box, [.t 1], none⟩,
     ⟨(some 4), .mov, [.c (.bool false)], none⟩])
   (.seq (.reg [⟨(some 10), .iaddrA 3 1, [.t 3, .c (.int .i64 0)], none⟩,
     ⟨(some 11), .load 1 false, [.t 10], none⟩,
     ⟨(some 12), .iaddrA 3 1, [.t 3, .c (.int .i64 1)], none⟩,
     ⟨(some 13), .load 1 false, [.t 12], none⟩,
     ⟨(some 14), .iaddrA 3 1, [.t 3, .c (.int .i64 2)], none⟩,
     ⟨(some 15), .load 1 false, [.t 14], none⟩,
     ⟨(some 16), .call 9, [.t 11, .t 13, .t 15], none⟩,
     ⟨(some 9), .mov, [.t 16], none⟩,
     ⟨(some 17), .extract 0, [.t 9], none⟩,
     ⟨(some 18), .extract 1, [.t 9], none⟩,
     ⟨(some 5), .mov, [.t 17], none⟩,
     ⟨(some 6), .mov, [.t 18], none⟩])
   (.seq (.reg [⟨(some 20), .iaddrA 3 1, [.t 3, .c (.int .i64 0)], none⟩,
     ⟨(some 21), .load 1 false, [.t 20], none⟩,
     ⟨(some 22), .iaddrA 3 1, [.t 3, .c (.int .i64 1)], none⟩,
     ⟨(some 23), .load 1 false, [.t 22], none⟩,
     ⟨(some 24), .iaddrA 3 1, [.t 3, .c (.int .i64 2)], none⟩,
     ⟨(some 25), .load 1 false, [.t 24], none⟩,
     ⟨(some 26), .call 10, [.t 21, .t 23, .t 25], none⟩,
     ⟨(some 19), .mov, [.t 26], none⟩,
     ⟨(some 27), .extract 0, [.t 19], none⟩,
     ⟨(some 28), .extract 1, [.t 19], none⟩,
     ⟨(some 7), .mov, [.t 27], none⟩,
     ⟨(some 8), .mov, [.t 28], none⟩])
   (.seq (.reg [⟨(some 29), .mov, [.t 0], none⟩,
     ⟨(some 30), .call 11, [.t 29], none⟩,
     ⟨(some 31), .mov, [.t 0], none⟩,
     ⟨(some 32), .call 12, [.t 31], none⟩,
     ⟨(some 33), .bin .eql, [.t 30, .t 32], none⟩,
     ⟨(some 34), .mov, [.t 33], none⟩,
     ⟨(some 35), .mov, [.t 5], (some (34, true))⟩,
     ⟨(some 36), .mov, [.t 7], (some (34, true))⟩,
     ⟨(some 37), .bin .eql, [.t 35, .t 36], (some (34, true))⟩,
     ⟨(some 38), .pick, [.t 34, .t 37, .c (.bool false)], none⟩,
     ⟨(some 39), .mov, [.t 38], none⟩,
     ⟨(some 40), .mov, [.t 6], (some (39, true))⟩,
     ⟨(some 41), .mov, [.t 8], (some (39, true))⟩,
     ⟨(some 42), .bin .eql, [.t 40, .t 41], (some (39, true))⟩,
     ⟨(some 43), .pick, [.t 39, .t 42, .c (.bool false)], none⟩,
     ⟨(some 44), .mov, [.t 43], none⟩,
     ⟨(some 45), .call 13, [], (some (44, true))⟩,
     ⟨(some 46), .pick, [.t 44, .t 45, .c (.bool false)], none⟩,
     ⟨(some 4), .mov, [.t 46], none⟩])
   .ret))))
theorem chk.law10_VolumeTimes : chkF Try.prog 3 = some (47, ir.law10_VolumeTimes, [.tmp 4]) := by kernel_rfl

/-- paravane/volume.Time -/
abbrev F.volume_Time : Nat := 9
def ir.volume_Time : IC :=
 (.seq (.reg [⟨(some 6), .mov, [.c (.int .i64 0)], none⟩,
     ⟨(some 7), .mov, [.c (.int .i64 0)], none⟩])
   (.seq (.seq (.reg [⟨(some 8), .mov, [.t 0], none⟩,
     ⟨(some 9), .call 30, [.t 8, .c (.int .i64 0), .c (.int .i64 64)], none⟩,
     ⟨(some 10), .un .not, [.t 9], none⟩,
     ⟨(some 11), .mov, [.t 10], none⟩,
     ⟨(some 12), .mov, [.t 1], (some (11, false))⟩,
     ⟨(some 13), .call 30, [.t 12, .c (.int .i64 0), .c (.int .i64 32768)], (some (11, false))⟩,
     ⟨(some 14), .un .not, [.t 13], (some (11, false))⟩,
     ⟨(some 15), .pick, [.t 11, .c (.bool true), .t 14], none⟩,
     ⟨(some 16), .mov, [.t 15], none⟩,
     ⟨(some 17), .mov, [.t 2], (some (16, false))⟩,
     ⟨(some 18), .call 30, [.t 17, .c (.int .i64 0), .c (.int .i64 4096)], (some (16, false))⟩,
     ⟨(some 19), .un .not, [.t 18], (some (16, false))⟩,
     ⟨(some 20), .pick, [.t 16, .c (.bool true), .t 19], none⟩])
   (.cond (.t 20) (.seq (.reg [⟨(some 6), .mov, [.c (.int .i64 0)], none⟩,
     ⟨(some 7), .mov, [.c (.int .i64 7)], none⟩])
   .ret) .skip))
   (.seq (.reg [⟨(some 21), .mov, [.t 0], none⟩,
     ⟨(some 22), .mov, [.t 1], none⟩,
     ⟨(some 23), .mov, [.t 2], none⟩,
     ⟨(some 24), .call 31, [.t 21, .t 22, .t 23], none⟩,
     ⟨(some 6), .mov, [.t 24], none⟩,
     ⟨(some 7), .mov, [.c (.int .i64 0)], none⟩])
   .ret)))
theorem chk.volume_Time : chkF Try.prog 9 = some (25, ir.volume_Time, [.tmp 6, .tmp 7]) := by kernel_rfl

/-- paravane/paravaneref10.Time -/
abbrev F.ref10_Time : Nat := 10
def ir.ref10_Time : IC :=
 (.seq (.reg [⟨(some 6), .mov, [.c (.int .i64 0)], none⟩,
     ⟨(some 7), .mov, [.c (.int .i64 0)], none⟩])
   (.seq (.seq (.reg [⟨(some 8), .mov, [.t 0], none⟩,
     ⟨(some 9), .call 25, [.t 8, .c (.int .i64 0), .c (.int .i64 64)], none⟩,
     ⟨(some 10), .un .not, [.t 9], none⟩,
     ⟨(some 11), .mov, [.t 10], none⟩,
     ⟨(some 12), .mov, [.t 1], (some (11, false))⟩,
     ⟨(some 13), .call 25, [.t 12, .c (.int .i64 0), .c (.int .i64 32768)], (some (11, false))⟩,
     ⟨(some 14), .un .not, [.t 13], (some (11, false))⟩,
     ⟨(some 15), .pick, [.t 11, .c (.bool true), .t 14], none⟩,
     ⟨(some 16), .mov, [.t 15], none⟩,
     ⟨(some 17), .mov, [.t 2], (some (16, false))⟩,
     ⟨(some 18), .call 32, [.t 17], (some (16, false))⟩,
     ⟨(some 19), .un .not, [.t 18], (some (16, false))⟩,
     ⟨(some 20), .pick, [.t 16, .c (.bool true), .t 19], none⟩])
   (.cond (.t 20) (.seq (.reg [⟨(some 6), .mov, [.c (.int .i64 0)], none⟩,
     ⟨(some 7), .mov, [.c (.int .i64 7)], none⟩])
   .ret) .skip))
   (.seq (.reg [⟨(some 21), .mov, [.t 0], none⟩,
     ⟨(some 22), .mov, [.t 1], none⟩,
     ⟨(some 23), .mov, [.t 2], none⟩,
     ⟨(some 24), .call 33, [.t 21, .t 22, .t 23], none⟩,
     ⟨(some 6), .mov, [.t 24], none⟩,
     ⟨(some 7), .mov, [.c (.int .i64 0)], none⟩])
   .ret)))
theorem chk.ref10_Time : chkF Try.prog 10 = some (25, ir.ref10_Time, [.tmp 6, .tmp 7]) := by kernel_rfl

/-- paravane/volume.CheckEchoes -/
abbrev F.volume_CheckEchoes : Nat := 11
def ir.volume_CheckEchoes : IC :=
 (.seq (.reg [⟨(some 2), .mov, [.c (.int .i64 0)], none⟩])
   (.seq (.seq (.reg [⟨(some 6), .mov, [.t 0], none⟩,
     ⟨(some 7), .len false, [.t 6], none⟩,
     ⟨(some 8), .bin .gtr, [.t 7, .c (.int .i64 32)], none⟩])
   (.cond (.t 8) (.seq (.reg [⟨(some 2), .mov, [.c (.int .i64 100)], none⟩])
   .ret) .skip))
   (.seq (.seq (.reg [⟨(some 9), .mov, [.t 0], none⟩,
     ⟨(some 10), .len false, [.t 9], none⟩,
     ⟨(some 11), .mov, [.c (.int .i64 0)], none⟩])
   (.block 0 (.loop (.seq (.reg [⟨(some 12), .bin .lss, [.t 11, .t 10], none⟩])
   (.seq (.cond (.t 12) .skip (.exit 0))
   (.seq (.block 1 (.seq (.reg [⟨(some 13), .iaddrS 3, [.t 9, .t 11], none⟩,
     ⟨(some 14), .load 3 true, [.t 13], none⟩,
     ⟨(some 4), .alloc [(.int .i64 0), (.int .i64 0), .nils], [], none⟩,
     ⟨none, .store 3, [.t 4, .t 14], none⟩])
   (.seq (.reg [⟨(some 15), .faddr 2, [.t 4], none⟩,
     ⟨(some 16), .load 1 false, [.t 15], none⟩,
     ⟨(some 17), .call 34, [.t 16, .c (.func (.func 35) [] [])], none⟩,
     ⟨(some 5), .mov, [.t 17], none⟩])
   (.seq (.reg [⟨(some 18), .mov, [.t 5], none⟩,
     ⟨(some 19), .mov, [.t 18], none⟩,
     ⟨(some 20), .faddr 0, [.t 4], (some (19, false))⟩,
     ⟨(some 21), .load 1 false, [.t 20], (some (19, false))⟩,
     ⟨(some 22), .faddr 1, [.t 4], (some (19, false))⟩,
     ⟨(some 23), .load 1 false, [.t 22], (some (19, false))⟩,
     ⟨(some 24), .build [(.int .i64 0), (.int .i64 0), (.int .i64 0)] [(0, 1), (1, 1), (2, 1)], [.t 21, .t 23, .c (.int .i64 0)], (some (19, false))⟩,
     ⟨(some 25), .call 36, [.t 24], (some (19, false))⟩,
     ⟨(some 26), .un .not, [.t 25], (some (19, false))⟩,
     ⟨(some 27), .pick, [.t 19, .c (.bool true), .t 26], none⟩,
     ⟨(some 28), .mov, [.t 27], none⟩,
     ⟨(some 29), .faddr 2, [.t 4], (some (28, false))⟩,
     ⟨(some 30), .load 1 false, [.t 29], (some (28, false))⟩,
     ⟨(some 31), .len false, [.t 30], (some (28, false))⟩,
     ⟨(some 32), .call 30, [.t 31, .c (.int .i64 1), .c (.int .i64 64)], (some (28, false))⟩,
     ⟨(some 33), .un .not, [.t 32], (some (28, false))⟩,
     ⟨(some 34), .pick, [.t 28, .c (.bool true), .t 33], none⟩])
   (.cond (.t 34) (.seq (.reg [⟨(some 2), .mov, [.c (.int .i64 100)], none⟩])
   .ret) .skip)))))
   (.reg [⟨(some 35), .bin .add, [.t 11, .c (.int .i64 1)], none⟩,
     ⟨(some 11), .mov, [.t 35], none⟩])))))))
   (.seq (.reg [⟨(some 2), .mov, [.c (.int .i64 0)], none⟩])
   .ret))))
theorem chk.volume_CheckEchoes : chkF Try.prog 11 = some (36, ir.volume_CheckEchoes, [.tmp 2]) := by kernel_rfl

/-- paravane/paravaneref10.CheckEchoes -/
abbrev F.ref10_CheckEchoes : Nat := 12
def ir.ref10_CheckEchoes : IC :=
 (.seq (.reg [⟨(some 2), .mov, [.c (.int .i64 0)], none⟩])
   (.seq (.seq (.reg [⟨(some 6), .mov, [.t 0], none⟩,
     ⟨(some 7), .len false, [.t 6], none⟩,
     ⟨(some 8), .bin .gtr, [.t 7, .c (.int .i64 32)], none⟩])
   (.cond (.t 8) (.seq (.reg [⟨(some 2), .mov, [.c (.int .i64 100)], none⟩])
   .ret) .skip))
   (.seq (.seq (.reg [⟨(some 3), .mov, [.c (.int .i64 0)], none⟩])
   (.block 0 (.loop (.seq (.seq (.reg [⟨(some 9), .mov, [.t 3], none⟩,
     ⟨(some 10), .mov, [.t 0], none⟩,
     ⟨(some 11), .len false, [.t 10], none⟩,
     ⟨(some 12), .bin .lss, [.t 9, .t 11], none⟩])
   (.cond (.t 12) .skip (.exit 0)))
   (.seq (.block 1 (.seq (.reg [⟨(some 15), .mov, [.t 0], none⟩,
     ⟨(some 16), .mov, [.t 3], none⟩,
     ⟨(some 17), .iaddrS 3, [.t 15, .t 16], none⟩,
     ⟨(some 18), .load 3 true, [.t 17], none⟩,
     ⟨(some 4), .alloc [(.int .i64 0), (.int .i64 0), .nils], [], none⟩,
     ⟨none, .store 3, [.t 4, .t 18], none⟩])
   (.seq (.seq (.reg [⟨(some 19), .faddr 0, [.t 4], none⟩,
     ⟨(some 20), .load 1 false, [.t 19], none⟩,
     ⟨(some 21), .call 25, [.t 20, .c (.int .i64 (-64)), .c (.int .i64 64)], none⟩,
     ⟨(some 22), .un .not, [.t 21], none⟩,
     ⟨(some 23), .mov, [.t 22], none⟩,
     ⟨(some 24), .faddr 1, [.t 4], (some (23, false))⟩,
     ⟨(some 25), .load 1 false, [.t 24], (some (23, false))⟩,
     ⟨(some 26), .call 25, [.t 25, .c (.int .i64 (-64)), .c (.int .i64 64)], (some (23, false))⟩,
     ⟨(some 27), .un .not, [.t 26], (some (23, false))⟩,
     ⟨(some 28), .pick, [.t 23, .c (.bool true), .t 27], none⟩,
     ⟨(some 29), .mov, [.t 28], none⟩,
     ⟨(some 30), .faddr 2, [.t 4], (some (29, false))⟩,
     ⟨(some 31), .load 1 false, [.t 30], (some (29, false))⟩,
     ⟨(some 32), .len false, [.t 31], (some (29, false))⟩,
     ⟨(some 33), .call 25, [.t 32, .c (.int .i64 1), .c (.int .i64 64)], (some (29, false))⟩,
     ⟨(some 34), .un .not, [.t 33], (some (29, false))⟩,
     ⟨(some 35), .pick, [.t 29, .c (.bool true), .t 34], none⟩])
   (.cond (.t 35) (.seq (.reg [⟨(some 2), .mov, [.c (.int .i64 100)], none⟩])
   .ret) .skip))
   (.seq (.reg [⟨(some 5), .mov, [.c (.int .i64 0)], none⟩])
   (.block 2 (.loop (.seq (.seq (.reg [⟨(some 36), .mov, [.t 5], none⟩,
     ⟨(some 37), .faddr 2, [.t 4], none⟩,
     ⟨(some 38), .load 1 false, [.t 37], none⟩,
     ⟨(some 39), .len false, [.t 38], none⟩,
     ⟨(some 40), .bin .lss, [.t 36, .t 39], none⟩])
   (.cond (.t 40) .skip (.exit 2)))
   (.seq (.block 3 (.seq (.reg [⟨(some 43), .faddr 2, [.t 4], none⟩,
     ⟨(some 44), .load 1 false, [.t 43], none⟩,
     ⟨(some 45), .mov, [.t 5], none⟩,
     ⟨(some 46), .iaddrS 2, [.t 44, .t 45], none⟩,
     ⟨(some 47), .load 2 true, [.t 46], none⟩,
     ⟨(some 48), .call 37, [.t 47], none⟩,
     ⟨(some 49), .un .not, [.t 48], none⟩])
   (.cond (.t 49) (.seq (.reg [⟨(some 2), .mov, [.c (.int .i64 100)], none⟩])
   .ret) .skip)))
   (.reg [⟨(some 41), .mov, [.t 5], none⟩,
     ⟨(some 42), .bin .add, [.t 41, .c (.int .i64 1)], none⟩,
     ⟨(some 5), .mov, [.t 42], none⟩])))))))))
   (.reg [⟨(some 13), .mov, [.t 3], none⟩,
     ⟨(some 14), .bin .add, [.t 13, .c (.int .i64 1)], none⟩,
     ⟨(some 3), .mov, [.t 14], none⟩]))))))
   (.seq (.reg [⟨(some 2), .mov, [.c (.int .i64 0)], none⟩])
   .ret))))
theorem chk.ref10_CheckEchoes : chkF Try.prog 12 = some (50, ir.ref10_CheckEchoes, [.tmp 2]) := by kernel_rfl

/-- paravane/paravanelaw10.works -/
abbrev F.law10_works : Nat := 13
def ir.law10_works : IC :=
 (.seq (.reg [⟨(some 0), .mov, [.c (.bool false)], none⟩])
   (.seq (.reg [⟨(some 18), .call 9, [.c (.int .i64 2), .c (.int .i64 4), .c (.int .i64 64)], none⟩,
     ⟨(some 17), .mov, [.t 18], none⟩,
     ⟨(some 19), .extract 0, [.t 17], none⟩,
     ⟨(some 20), .extract 1, [.t 17], none⟩,
     ⟨(some 1), .mov, [.t 19], none⟩,
     ⟨(some 2), .mov, [.t 20], none⟩])
   (.seq (.reg [⟨(some 22), .call 9, [.c (.int .i64 2), .c (.int .i64 4), .c (.int .i64 100)], none⟩,
     ⟨(some 21), .mov, [.t 22], none⟩,
     ⟨(some 23), .extract 0, [.t 21], none⟩,
     ⟨(some 24), .extract 1, [.t 21], none⟩,
     ⟨(some 3), .mov, [.t 23], none⟩,
     ⟨(some 4), .mov, [.t 24], none⟩])
   (.seq (.reg [⟨(some 26), .call 38, [], none⟩,
     ⟨(some 27), .build [(.int .i64 0), (.int .i64 0), (.int .i64 0)] [(0, 1), (1, 1), (2, 1)], [.c (.int .i64 0), .c (.int .i64 0), .c (.int .i64 2)], none⟩,
     ⟨(some 28), .call 26, [.t 26, .t 27, .c (.int .i64 3), .c (.int .i64 64)], none⟩,
     ⟨(some 25), .mov, [.t 28], none⟩,
     ⟨(some 29), .extract 0, [.t 25], none⟩,
     ⟨(some 30), .extract 1, [.t 25], none⟩,
     ⟨(some 5), .alloc [(.int .i64 0), (.int .i64 0), (.int .i64 0), .nils, (.int .i64 0), (.int .i64 0)], [], none⟩,
     ⟨none, .store 6, [.t 5, .t 29], none⟩,
     ⟨(some 6), .mov, [.t 30], none⟩])
   (.seq (.reg [⟨(some 32), .call 38, [], none⟩,
     ⟨(some 33), .build [(.int .i64 0), (.int .i64 0), (.int .i64 0)] [(0, 1), (1, 1), (2, 1)], [.c (.int .i64 0), .c (.int .i64 0), .c (.int .i64 2)], none⟩,
     ⟨(some 34), .build [(.int .i64 0), (.int .i64 0), (.int .i64 0)] [(0, 1), (1, 1), (2, 1)], [.c (.int .i64 1), .c (.int .i64 1), .c (.int .i64 1)], none⟩,
     ⟨(some 35), .build [(.int .i64 0), (.int .i64 0)] [(0, 1), (1, 1)], [.c (.int .i64 64), .c (.int .i64 100)], none⟩,
     ⟨(some 36), .call 39, [.t 32, .t 33, .t 34, .c (.int .i64 3), .t 35], none⟩,
     ⟨(some 31), .mov, [.t 36], none⟩,
     ⟨(some 37), .extract 0, [.t 31], none⟩,
     ⟨(some 38), .extract 1, [.t 31], none⟩,
     ⟨(some 7), .alloc [(.int .i64 0), (.int .i64 0), (.int .i64 0), (.int .i64 0), (.int .i64 0), (.int .i64 0), .nils], [], none⟩,
     ⟨none, .store 7, [.t 7, .t 37], none⟩,
     ⟨(some 8), .mov, [.t 38], none⟩])
   (.seq (.seq (.reg [⟨(some 39), .mov, [.t 1], none⟩,
     ⟨(some 40), .bin .neq, [.t 39, .c (.int .i64 2)], none⟩,
     ⟨(some 41), .mov, [.t 40], none⟩,
     ⟨(some 42), .mov, [.t 2], (some (41, false))⟩,
     ⟨(some 43), .bin .neq, [.t 42, .c (.int .i64 0)], (some (41, false))⟩,
     ⟨(some 44), .pick, [.t 41, .c (.bool true), .t 43], none⟩,
     ⟨(some 45), .mov, [.t 44], none⟩,
     ⟨(some 46), .mov, [.t 3], (some (45, false))⟩,
     ⟨(some 47), .bin .neq, [.t 46, .c (.int .i64 3)], (some (45, false))⟩,
     ⟨(some 48), .pick, [.t 45, .c (.bool true), .t 47], none⟩,
     ⟨(some 49), .mov, [.t 48], none⟩,
     ⟨(some 50), .mov, [.t 4], (some (49, false))⟩,
     ⟨(some 51), .bin .neq, [.t 50, .c (.int .i64 0)], (some (49, false))⟩,
     ⟨(some 52), .pick, [.t 49, .c (.bool true), .t 51], none⟩,
     ⟨(some 53), .mov, [.t 52], none⟩,
     ⟨(some 54), .mov, [.t 6], (some (53, false))⟩,
     ⟨(some 55), .bin .neq, [.t 54, .c (.int .i64 0)], (some (53, false))⟩,
     ⟨(some 56), .pick, [.t 53, .c (.bool true), .t 55], none⟩,
     ⟨(some 57), .mov, [.t 56], none⟩,
     ⟨(some 58), .mov, [.t 8], (some (57, false))⟩,
     ⟨(some 59), .bin .neq, [.t 58, .c (.int .i64 0)], (some (57, false))⟩,
     ⟨(some 60), .pick, [.t 57, .c (.bool true), .t 59], none⟩,
     ⟨(some 61), .mov, [.t 60], none⟩,
     ⟨(some 62), .load 6 true, [.t 5], (some (61, false))⟩,
     ⟨(some 63), .build [(.int .i64 0), (.int .i64 0), (.int .i64 0)] [(0, 1), (1, 1), (2, 1)], [.c (.int .i64 0), .c (.int .i64 0), .c (.int .i64 2)], (some (61, false))⟩,
     ⟨(some 64), .build [(.int .i64 0), (.int .i64 0)] [(1, 1)], [.c (.int .i64 2)], (some (61, false))⟩,
     ⟨(some 65), .build [(.int .i64 0), (.int .i64 0)] [(0, 1), (1, 1)], [.c (.int .i64 1), .c (.int .i64 2)], (some (61, false))⟩,
     ⟨(some 66), .mkslice 2 70, [.t 64, .t 65], (some (61, false))⟩,
     ⟨(some 67), .build [(.int .i64 0), (.int .i64 0)] [(0, 1), (1, 1)], [.c (.int .i64 7), .c (.int .i64 7)], (some (61, false))⟩,
     ⟨(some 68), .build [(.int .i64 0), (.int .i64 0), (.int .i64 0), .nils, (.int .i64 0), (.int .i64 0)] [(0, 3), (3, 1), (4, 2)], [.t 63, .t 66, .t 67], (some (61, false))⟩,
     ⟨(some 69), .call 40, [.t 62, .t 68], (some (61, false))⟩,
     ⟨(some 70), .un .not, [.t 69], (some (61, false))⟩,
     ⟨(some 71), .pick, [.t 61, .c (.bool true), .t 70], none⟩,
     ⟨(some 72), .mov, [.t 71], none⟩,
     ⟨(some 73), .faddr 6, [.t 7], (some (72, false))⟩,
     ⟨(some 74), .load 1 false, [.t 73], (some (72, false))⟩,
     ⟨(some 75), .len false, [.t 74], (some (72, false))⟩,
     ⟨(some 76), .bin .neq, [.t 75, .c (.int .i64 1)], (some (72, false))⟩,
     ⟨(some 77), .pick, [.t 72, .c (.bool true), .t 76], none⟩,
     ⟨(some 78), .mov, [.t 77], none⟩,
     ⟨(some 79), .faddr 6, [.t 7], (some (78, false))⟩,
     ⟨(some 80), .load 1 false, [.t 79], (some (78, false))⟩,
     ⟨(some 81), .iaddrS 2, [.t 80, .c (.int .i64 0)], (some (78, false))⟩,
     ⟨(some 82), .load 2 true, [.t 81], (some (78, false))⟩,
     ⟨(some 83), .build [(.int .i64 0), (.int .i64 0)] [(0, 1), (1, 1)], [.c (.int .i64 7), .c (.int .i64 12)], (some (78, false))⟩,
     ⟨(some 84), .eqs true [0, 0], [.t 82, .t 83], (some (78, false))⟩,
     ⟨(some 85), .pick, [.t 78, .c (.bool true), .t 84], none⟩])
   (.cond (.t 85) (.seq (.reg [⟨(some 0), .mov, [.c (.bool false)], none⟩])
   .ret) .skip))
   (.seq (.reg [⟨(some 87), .mkslice 1 3, [.c (.int .i64 8), .c (.int .i64 0), .c (.int .i64 0), .c (.int .i64 4), .c (.int .i64 0)], none⟩,
     ⟨(some 88), .call 17, [.t 87, .c (.int .i64 2), .c (.int .i64 32)], none⟩,
     ⟨(some 86), .mov, [.t 88], none⟩,
     ⟨(some 89), .extract 0, [.t 86], none⟩,
     ⟨(some 90), .extract 1, [.t 86], none⟩,
     ⟨(some 9), .mov, [.t 89], none⟩,
     ⟨(some 2), .mov, [.t 90], none⟩])
   (.seq (.reg [⟨(some 92), .mkslice 1 3, [.c (.int .i64 8), .c (.int .i64 0), .c (.int .i64 4), .c (.int .i64 4), .c (.int .i64 2)], none⟩,
     ⟨(some 93), .call 18, [.t 92, .c (.int .i64 2), .c (.int .i64 32)], none⟩,
     ⟨(some 91), .mov, [.t 93], none⟩,
     ⟨(some 94), .extract 0, [.t 91], none⟩,
     ⟨(some 95), .extract 1, [.t 91], none⟩,
     ⟨(some 10), .mov, [.t 94], none⟩,
     ⟨(some 4), .mov, [.t 95], none⟩])
   (.seq (.reg [⟨(some 97), .build [(.int .i64 0), (.int .i64 0), (.int .i64 0)] [(0, 1), (1, 1), (2, 1)], [.c (.int .i64 1), .c (.int .i64 1), .c (.int .i64 2)], none⟩,
     ⟨(some 98), .mkslice 1 3, [.c (.int .i64 3), .c (.int .i64 4)], none⟩,
     ⟨(some 99), .build [(.int .i64 0), (.int .i64 0), (.int .i64 0), (.int .i64 0), (.int .i64 0), (.int .i64 0), .nils] [(3, 3), (6, 1)], [.t 97, .t 98], none⟩,
     ⟨(some 100), .build [(.int .i64 0), (.int .i64 0), (.int .i64 0)] [(0, 1), (1, 1), (2, 1)], [.c (.int .i64 0), .c (.int .i64 0), .c (.int .i64 1)], none⟩,
     ⟨(some 101), .build [(.int .i64 0), (.int .i64 0), (.int .i64 0)] [(0, 1), (1, 1), (2, 1)], [.c (.int .i64 1), .c (.int .i64 1), .c (.int .i64 2)], none⟩,
     ⟨(some 102), .mkslice 1 3, [.c (.int .i64 4), .c (.int .i64 5)], none⟩,
     ⟨(some 103), .build [(.int .i64 0), (.int .i64 0), (.int .i64 0), (.int .i64 0), (.int .i64 0), (.int .i64 0), .nils] [(0, 3), (3, 3), (6, 1)], [.t 100, .t 101, .t 102], none⟩,
     ⟨(some 104), .call 14, [.t 99, .t 103], none⟩,
     ⟨(some 96), .mov, [.t 104], none⟩,
     ⟨(some 105), .extract 0, [.t 96], none⟩,
     ⟨(some 106), .extract 1, [.t 96], none⟩,
     ⟨(some 11), .alloc [(.int .i64 0), (.int .i64 0), (.int .i64 0), (.int .i64 0), (.int .i64 0), (.int .i64 0), .nils], [], none⟩,
     ⟨none, .store 7, [.t 11, .t 105], none⟩,
     ⟨(some 6), .mov, [.t 106], none⟩])
   (.seq (.seq (.reg [⟨(some 107), .mov, [.t 2], none⟩,
     ⟨(some 108), .bin .neq, [.t 107, .c (.int .i64 0)], none⟩,
     ⟨(some 109), .mov, [.t 108], none⟩,
     ⟨(some 110), .mov, [.t 4], (some (109, false))⟩,
     ⟨(some 111), .bin .neq, [.t 110, .c (.int .i64 0)], (some (109, false))⟩,
     ⟨(some 112), .pick, [.t 109, .c (.bool true), .t 111], none⟩,
     ⟨(some 113), .mov, [.t 112], none⟩,
     ⟨(some 114), .mov, [.t 6], (some (113, false))⟩,
     ⟨(some 115), .bin .neq, [.t 114, .c (.int .i64 0)], (some (113, false))⟩,
     ⟨(some 116), .pick, [.t 113, .c (.bool true), .t 115], none⟩,
     ⟨(some 117), .mov, [.t 116], none⟩,
     ⟨(some 118), .mov, [.t 9], (some (117, false))⟩,
     ⟨(some 119), .mkslice 1 3, [.c (.int .i64 8), .c (.int .i64 0), .c (.int .i64 4), .c (.int .i64 4), .c (.int .i64 2)], (some (117, false))⟩,
     ⟨(some 120), .call 19, [.t 118, .t 119], (some (117, false))⟩,
     ⟨(some 121), .un .not, [.t 120], (some (117, false))⟩,
     ⟨(some 122), .pick, [.t 117, .c (.bool true), .t 121], none⟩,
     ⟨(some 123), .mov, [.t 122], none⟩,
     ⟨(some 124), .mov, [.t 10], (some (123, false))⟩,
     ⟨(some 125), .mkslice 1 3, [.c (.int .i64 8), .c (.int .i64 0), .c (.int .i64 0), .c (.int .i64 4), .c (.int .i64 0)], (some (123, false))⟩,
     ⟨(some 126), .call 19, [.t 124, .t 125], (some (123, false))⟩,
     ⟨(some 127), .un .not, [.t 126], (some (123, false))⟩,
     ⟨(some 128), .pick, [.t 123, .c (.bool true), .t 127], none⟩,
     ⟨(some 129), .mov, [.t 128], none⟩,
     ⟨(some 130), .load 7 true, [.t 11], (some (129, false))⟩,
     ⟨(some 131), .build [(.int .i64 0), (.int .i64 0), (.int .i64 0)] [(0, 1), (1, 1), (2, 1)], [.c (.int .i64 1), .c (.int .i64 1), .c (.int .i64 3)], (some (129, false))⟩,
     ⟨(some 132), .mkslice 1 3, [.c (.int .i64 3), .c (.int .i64 4), .c (.int .i64 5)], (some (129, false))⟩,
     ⟨(some 133), .build [(.int .i64 0), (.int .i64 0), (.int .i64 0), (.int .i64 0), (.int .i64 0), (.int .i64 0), .nils] [(3, 3), (6, 1)], [.t 131, .t 132], (some (129, false))⟩,
     ⟨(some 134), .call 16, [.t 130, .t 133], (some (129, false))⟩,
     ⟨(some 135), .un .not, [.t 134], (some (129, false))⟩,
     ⟨(some 136), .pick, [.t 129, .c (.bool true), .t 135], none⟩])
   (.cond (.t 136) (.seq (.reg [⟨(some 0), .mov, [.c (.bool false)], none⟩])
   .ret) .skip))
   (.seq (.reg [⟨(some 138), .call 41, [], none⟩,
     ⟨(some 139), .call 20, [.t 138, .c (.int .i64 1)], none⟩,
     ⟨(some 137), .mov, [.t 139], none⟩,
     ⟨(some 140), .extract 0, [.t 137], none⟩,
     ⟨(some 141), .extract 1, [.t 137], none⟩,
     ⟨(some 142), .extract 2, [.t 137], none⟩,
     ⟨(some 12), .mov, [.t 140], none⟩,
     ⟨(some 13), .mov, [.t 141], none⟩,
     ⟨(some 2), .mov, [.t 142], none⟩])
   (.seq (.reg [⟨(some 144), .call 41, [], none⟩,
     ⟨(some 145), .call 20, [.t 144, .c (.int .i64 2)], none⟩,
     ⟨(some 143), .mov, [.t 145], none⟩,
     ⟨(some 146), .extract 0, [.t 143], none⟩,
     ⟨(some 147), .extract 1, [.t 143], none⟩,
     ⟨(some 148), .extract 2, [.t 143], none⟩,
     ⟨(some 14), .mov, [.t 146], none⟩,
     ⟨(some 15), .mov, [.t 147], none⟩,
     ⟨(some 4), .mov, [.t 148], none⟩])
   (.seq (.reg [⟨(some 150), .call 41, [], none⟩,
     ⟨(some 151), .mkslice 1 3, [.c (.int .i64 9), .c (.int .i64 10), .c (.int .i64 10)], none⟩,
     ⟨(some 152), .mkslice 1 3, [.c (.int .i64 4), .c (.int .i64 4), .c (.int .i64 10)], none⟩,
     ⟨(some 153), .mkslice 1 3, [.c (.int .i64 4), .c (.int .i64 0), .c (.int .i64 1)], none⟩,
     ⟨(some 154), .mkslice 1 30, [.t 151, .t 152, .t 153], none⟩,
     ⟨(some 155), .call 21, [.t 150, .c (.int .i64 1), .t 154], none⟩,
     ⟨(some 149), .mov, [.t 155], none⟩,
     ⟨(some 156), .extract 0, [.t 149], none⟩,
     ⟨(some 157), .extract 1, [.t 149], none⟩,
     ⟨(some 16), .mov, [.t 156], none⟩,
     ⟨(some 6), .mov, [.t 157], none⟩])
   (.seq (.reg [⟨(some 158), .mov, [.t 2], none⟩,
     ⟨(some 159), .bin .eql, [.t 158, .c (.int .i64 0)], none⟩,
     ⟨(some 160), .mov, [.t 159], none⟩,
     ⟨(some 161), .mov, [.t 4], (some (160, true))⟩,
     ⟨(some 162), .bin .eql, [.t 161, .c (.int .i64 0)], (some (160, true))⟩,
     ⟨(some 163), .pick, [.t 160, .t 162, .c (.bool false)], none⟩,
     ⟨(some 164), .mov, [.t 163], none⟩,
     ⟨(some 165), .mov, [.t 6], (some (164, true))⟩,
     ⟨(some 166), .bin .eql, [.t 165, .c (.int .i64 0)], (some (164, true))⟩,
     ⟨(some 167), .pick, [.t 164, .t 166, .c (.bool false)], none⟩,
     ⟨(some 168), .mov, [.t 167], none⟩,
     ⟨(some 169), .mov, [.t 12], (some (168, true))⟩,
     ⟨(some 170), .mkslice 1 3, [.c (.int .i64 1), .c (.int .i64 2), .c (.int .i64 2)], (some (168, true))⟩,
     ⟨(some 171), .call 19, [.t 169, .t 170], (some (168, true))⟩,
     ⟨(some 172), .pick, [.t 168, .t 171, .c (.bool false)], none⟩,
     ⟨(some 173), .mov, [.t 172], none⟩,
     ⟨(some 174), .mov, [.t 13], (some (173, true))⟩,
     ⟨(some 175), .bin .eql, [.t 174, .c (.int .i64 10)], (some (173, true))⟩,
     ⟨(some 176), .pick, [.t 173, .t 175, .c (.bool false)], none⟩,
     ⟨(some 177), .mov, [.t 176], none⟩,
     ⟨(some 178), .mov, [.t 14], (some (177, true))⟩,
     ⟨(some 179), .mkslice 1 3, [.c (.int .i64 0), .c (.int .i64 2), .c (.int .i64 0)], (some (177, true))⟩,
     ⟨(some 180), .call 19, [.t 178, .t 179], (some (177, true))⟩,
     ⟨(some 181), .pick, [.t 177, .t 180, .c (.bool false)], none⟩,
     ⟨(some 182), .mov, [.t 181], none⟩,
     ⟨(some 183), .mov, [.t 15], (some (182, true))⟩,
     ⟨(some 184), .bin .eql, [.t 183, .c (.int .i64 18)], (some (182, true))⟩,
     ⟨(some 185), .pick, [.t 182, .t 184, .c (.bool false)], none⟩,
     ⟨(some 186), .mov, [.t 185], none⟩,
     ⟨(some 187), .mov, [.t 16], (some (186, true))⟩,
     ⟨(some 188), .bin .eql, [.t 187, .c (.int .i64 10)], (some (186, true))⟩,
     ⟨(some 189), .pick, [.t 186, .t 188, .c (.bool false)], none⟩,
     ⟨(some 0), .mov, [.t 189], none⟩])
   .ret))))))))))))))
theorem chk.law10_works : chkF Try.prog 13 = some (190, ir.law10_works, [.tmp 0]) := by kernel_rfl

/-- paravane/volume.Join -/
abbrev F.volume_Join : Nat := 14
def ir.volume_Join : IC :=
 (.seq (.reg [⟨(some 2), .box, [.t 0], none⟩,
     ⟨(some 3), .box, [.t 1], none⟩,
     ⟨(some 4), .alloc [(.int .i64 0), (.int .i64 0), (.int .i64 0), (.int .i64 0), (.int .i64 0), (.int .i64 0), .nils], [], none⟩,
     ⟨(some 5), .alloc [(.int .i64 0)], [], none⟩])
   (.seq (.reg [⟨(some 13), .load 7 true, [.t 2], none⟩,
     ⟨(some 14), .call 42, [.t 13], none⟩,
     ⟨(some 12), .mov, [.t 14], none⟩,
     ⟨(some 15), .extract 0, [.t 12], none⟩,
     ⟨(some 16), .extract 1, [.t 12], none⟩,
     ⟨(some 6), .alloc [(.int .i64 0), (.int .i64 0), (.int .i64 0), (.int .i64 0), (.int .i64 0), (.int .i64 0), .nils], [], none⟩,
     ⟨none, .store 7, [.t 6, .t 15], none⟩,
     ⟨(some 7), .mov, [.t 16], none⟩])
   (.seq (.seq (.reg [⟨(some 17), .mov, [.t 7], none⟩,
     ⟨(some 18), .bin .neq, [.t 17, .c (.int .i64 0)], none⟩])
   (.cond (.t 18) (.seq (.reg [⟨(some 19), .build [(.int .i64 0), (.int .i64 0), (.int .i64 0), (.int .i64 0), (.int .i64 0), (.int .i64 0), .nils] [], [], none⟩,
     ⟨(some 20), .mov, [.t 7], none⟩,
     ⟨none, .store 7, [.t 4, .t 19], none⟩,
     ⟨none, .store 1, [.t 5, .t 20], none⟩])
   .ret) .skip))
   (.seq (.reg [⟨(some 22), .load 7 true, [.t 3], none⟩,
     ⟨(some 23), .call 42, [.t 22], none⟩,
     ⟨(some 21), .mov, [.t 23], none⟩,
     ⟨(some 24), .extract 0, [.t 21], none⟩,
     ⟨(some 25), .extract 1, [.t 21], none⟩,
     ⟨(some 8), .alloc [(.int .i64 0), (.int .i64 0), (.int .i64 0), (.int .i64 0), (.int .i64 0), (.int .i64 0), .nils], [], none⟩,
     ⟨none, .store 7, [.t 8, .t 24], none⟩,
     ⟨(some 7), .mov, [.t 25], none⟩])
   (.seq (.seq (.reg [⟨(some 26), .mov, [.t 7], none⟩,
     ⟨(some 27), .bin .neq, [.t 26, .c (.int .i64 0)], none⟩])
   (.cond (.t 27) (.seq (.reg [⟨(some 28), .build [(.int .i64 0), (.int .i64 0), (.int .i64 0), (.int .i64 0), (.int .i64 0), (.int .i64 0), .nils] [], [], none⟩,
     ⟨(some 29), .mov, [.t 7], none⟩,
     ⟨none, .store 7, [.t 4, .t 28], none⟩,
     ⟨none, .store 1, [.t 5, .t 29], none⟩])
   .ret) .skip))
   (.seq (.reg [⟨(some 30), .faddr 0, [.t 6], none⟩,
     ⟨(some 31), .load 6 true, [.t 30], none⟩,
     ⟨(some 32), .faddr 0, [.t 8], none⟩,
     ⟨(some 33), .load 6 true, [.t 32], none⟩,
     ⟨(some 34), .call 43, [.t 31, .t 33], none⟩,
     ⟨(some 9), .alloc [(.int .i64 0), (.int .i64 0), (.int .i64 0), (.int .i64 0), (.int .i64 0), (.int .i64 0)], [], none⟩,
     ⟨none, .store 6, [.t 9, .t 34], none⟩])
   (.seq (.seq (.draw [0, 1, 0, 4, 15, 0, 32, 127, 255, 0, 512, 0, 2048, 7935, 16383, 32767] [⟨(some 35), .load 6 true, [.t 9], none⟩,
     ⟨(some 36), .call 44, [.t 35], none⟩,
     ⟨(some 37), .faddr 0, [.t 6], none⟩,
     ⟨(some 38), .load 6 true, [.t 37], none⟩,
     ⟨(some 39), .call 44, [.t 38], none⟩,
     ⟨(some 40), .faddr 0, [.t 8], none⟩,
     ⟨(some 41), .load 6 true, [.t 40], none⟩,
     ⟨(some 42), .call 44, [.t 41], none⟩,
     ⟨(some 43), .bin .add, [.t 39, .t 42], none⟩,
     ⟨(some 44), .faddr 0, [.t 6], none⟩,
     ⟨(some 45), .load 6 true, [.t 44], none⟩,
     ⟨(some 46), .faddr 0, [.t 8], none⟩,
     ⟨(some 47), .load 6 true, [.t 46], none⟩,
     ⟨(some 48), .call 45, [.t 45, .t 47], none⟩,
     ⟨(some 49), .bin .sub, [.t 43, .t 48], none⟩,
     ⟨(some 50), .bin .neq, [.t 36, .t 49], none⟩])
   (.cond (.t 50) (.seq (.reg [⟨(some 51), .build [(.int .i64 0), (.int .i64 0), (.int .i64 0), (.int .i64 0), (.int .i64 0), (.int .i64 0), .nils] [], [], none⟩,
     ⟨none, .store 7, [.t 4, .t 51], none⟩,
     ⟨none, .store 1, [.t 5, .c (.int .i64 103)], none⟩])
   .ret) .skip))
   (.seq (.seq (.reg [⟨(some 52), .load 6 true, [.t 9], none⟩,
     ⟨(some 53), .call 46, [.t 52], none⟩,
     ⟨(some 54), .un .not, [.t 53], none⟩])
   (.cond (.t 54) (.seq (.reg [⟨(some 55), .build [(.int .i64 0), (.int .i64 0), (.int .i64 0), (.int .i64 0), (.int .i64 0), (.int .i64 0), .nils] [], [], none⟩,
     ⟨none, .store 7, [.t 4, .t 55], none⟩,
     ⟨none, .store 1, [.t 5, .c (.int .i64 3)], none⟩])
   .ret) .skip))
   (.seq (.reg [⟨(some 56), .faddr 0, [.t 9], none⟩,
     ⟨(some 57), .load 3 true, [.t 56], none⟩,
     ⟨(some 58), .faddr 3, [.t 9], none⟩,
     ⟨(some 59), .load 3 true, [.t 58], none⟩,
     ⟨(some 60), .build [(.int .i64 0), (.int .i64 0), (.int .i64 0), (.int .i64 0), (.int .i64 0), (.int .i64 0), .nils] [(0, 3), (3, 3)], [.t 57, .t 59], none⟩,
     ⟨(some 10), .alloc [(.int .i64 0), (.int .i64 0), (.int .i64 0), (.int .i64 0), (.int .i64 0), (.int .i64 0), .nils], [], none⟩,
     ⟨none, .store 7, [.t 10, .t 60], none⟩])
   (.seq (.seq (.reg [⟨(some 61), .load 6 true, [.t 9], none⟩,
     ⟨(some 62), .call 47, [.t 61], none⟩])
   (.block 0 (.range (.t 62) [63] (.reg [⟨(some 11), .alloc [(.int .i64 0), (.int .i64 0), (.int .i64 0)], [], none⟩,
     ⟨none, .store 3, [.t 11, .t 63], none⟩]) (.block 1 (.block 2 (.seq (.reg [⟨(some 78), .faddr 0, [.t 6], none⟩,
     ⟨(some 79), .load 6 true, [.t 78], none⟩,
     ⟨(some 80), .load 3 true, [.t 11], none⟩,
     ⟨(some 81), .call 48, [.t 79, .t 80], none⟩,
     ⟨(some 82), .un .not, [.t 81], none⟩,
     ⟨(some 77), .mov, [.t 82], none⟩])
   (.cond (.t 77) (.draw [0, 1, 0, 4, 0, 16, 0, 112, 252, 508, 1020, 2047, 4095, 8191] [⟨(some 83), .faddr 6, [.t 10], none⟩,
     ⟨(some 84), .load 1 false, [.t 83], none⟩,
     ⟨(some 85), .faddr 6, [.t 8], none⟩,
     ⟨(some 86), .load 1 false, [.t 85], none⟩,
     ⟨(some 87), .faddr 0, [.t 8], none⟩,
     ⟨(some 88), .load 6 true, [.t 87], none⟩,
     ⟨(some 89), .load 3 true, [.t 11], none⟩,
     ⟨(some 90), .call 49, [.t 88, .t 89], none⟩,
     ⟨(some 91), .iaddrS 1, [.t 86, .t 90], none⟩,
     ⟨(some 92), .load 1 false, [.t 91], none⟩,
     ⟨(some 93), .mkslice 1 3, [.t 92], none⟩,
     ⟨(some 94), .append 1 8 3, [.t 84, .t 93], none⟩,
     ⟨(some 95), .faddr 6, [.t 10], none⟩,
     ⟨none, .store 1, [.t 95, .t 94], none⟩]) (.seq (.draw [0, 1, 0, 7, 15, 31, 63, 31, 159, 31, 927, 2047, 4095, 31, 8223, 31, 32799, 31, 231327, 518047, 1042335, 2097151, 4194303, 8388607] [⟨(some 97), .faddr 0, [.t 8], none⟩,
     ⟨(some 98), .load 6 true, [.t 97], none⟩,
     ⟨(some 99), .load 3 true, [.t 11], none⟩,
     ⟨(some 100), .call 48, [.t 98, .t 99], none⟩,
     ⟨(some 101), .mov, [.t 100], none⟩,
     ⟨(some 102), .faddr 6, [.t 6], (some (101, true))⟩,
     ⟨(some 103), .load 1 false, [.t 102], (some (101, true))⟩,
     ⟨(some 104), .faddr 0, [.t 6], (some (101, true))⟩,
     ⟨(some 105), .load 6 true, [.t 104], (some (101, true))⟩,
     ⟨(some 106), .load 3 true, [.t 11], (some (101, true))⟩,
     ⟨(some 107), .call 49, [.t 105, .t 106], (some (101, true))⟩,
     ⟨(some 108), .iaddrS 1, [.t 103, .t 107], (some (101, true))⟩,
     ⟨(some 109), .load 1 false, [.t 108], (some (101, true))⟩,
     ⟨(some 110), .faddr 6, [.t 8], (some (101, true))⟩,
     ⟨(some 111), .load 1 false, [.t 110], (some (101, true))⟩,
     ⟨(some 112), .faddr 0, [.t 8], (some (101, true))⟩,
     ⟨(some 113), .load 6 true, [.t 112], (some (101, true))⟩,
     ⟨(some 114), .load 3 true, [.t 11], (some (101, true))⟩,
     ⟨(some 115), .call 49, [.t 113, .t 114], (some (101, true))⟩,
     ⟨(some 116), .iaddrS 1, [.t 111, .t 115], (some (101, true))⟩,
     ⟨(some 117), .load 1 false, [.t 116], (some (101, true))⟩,
     ⟨(some 118), .bin .neq, [.t 109, .t 117], (some (101, true))⟩,
     ⟨(some 119), .pick, [.t 101, .t 118, .c (.bool false)], none⟩,
     ⟨(some 96), .mov, [.t 119], none⟩])
   (.cond (.t 96) (.seq (.reg [⟨(some 120), .build [(.int .i64 0), (.int .i64 0), (.int .i64 0), (.int .i64 0), (.int .i64 0), (.int .i64 0), .nils] [], [], none⟩,
     ⟨none, .store 7, [.t 4, .t 120], none⟩,
     ⟨none, .store 1, [.t 5, .c (.int .i64 104)], none⟩])
   .ret) (.draw [0, 1, 0, 4, 0, 16, 0, 112, 252, 508, 1020, 2047, 4095, 8191] [⟨(some 64), .faddr 6, [.t 10], none⟩,
     ⟨(some 65), .load 1 false, [.t 64], none⟩,
     ⟨(some 66), .faddr 6, [.t 6], none⟩,
     ⟨(some 67), .load 1 false, [.t 66], none⟩,
     ⟨(some 68), .faddr 0, [.t 6], none⟩,
     ⟨(some 69), .load 6 true, [.t 68], none⟩,
     ⟨(some 70), .load 3 true, [.t 11], none⟩,
     ⟨(some 71), .call 49, [.t 69, .t 70], none⟩,
     ⟨(some 72), .iaddrS 1, [.t 67, .t 71], none⟩,
     ⟨(some 73), .load 1 false, [.t 72], none⟩,
     ⟨(some 74), .mkslice 1 3, [.t 73], none⟩,
     ⟨(some 75), .append 1 8 3, [.t 65, .t 74], none⟩,
     ⟨(some 76), .faddr 6, [.t 10], none⟩,
     ⟨none, .store 1, [.t 76, .t 75], none⟩]))))))))))
   (.seq (.reg [⟨(some 121), .load 7 true, [.t 10], none⟩,
     ⟨none, .store 7, [.t 4, .t 121], none⟩,
     ⟨none, .store 1, [.t 5, .c (.int .i64 0)], none⟩])
   .ret)))))))))))
theorem chk.volume_Join : chkF Try.prog 14 = some (122, ir.volume_Join, [.cell 4 32, .cell 5 24]) := by kernel_rfl

/-- paravane/paravaneref10.SameVolume -/
abbrev F.ref10_SameVolume : Nat := 16
def ir.ref10_SameVolume : IC :=
 (.seq (.reg [⟨(some 2), .box, [.t 0], none⟩,
     ⟨(some 3), .box, [.t 1], none⟩,
     ⟨(some 4), .mov, [.c (.bool false)], none⟩])
   (.seq (.reg [⟨(some 5), .faddr 0, [.t 2], none⟩,
     ⟨(some 6), .load 3 true, [.t 5], none⟩,
     ⟨(some 7), .faddr 0, [.t 3], none⟩,
     ⟨(some 8), .load 3 true, [.t 7], none⟩,
     ⟨(some 9), .eqs false [0, 0, 0], [.t 6, .t 8], none⟩,
     ⟨(some 10), .mov, [.t 9], none⟩,
     ⟨(some 11), .faddr 3, [.t 2], (some (10, true))⟩,
     ⟨(some 12), .load 3 true, [.t 11], (some (10, true))⟩,
     ⟨(some 13), .faddr 3, [.t 3], (some (10, true))⟩,
     ⟨(some 14), .load 3 true, [.t 13], (some (10, true))⟩,
     ⟨(some 15), .eqs false [0, 0, 0], [.t 12, .t 14], (some (10, true))⟩,
     ⟨(some 16), .pick, [.t 10, .t 15, .c (.bool false)], none⟩,
     ⟨(some 17), .mov, [.t 16], none⟩,
     ⟨(some 18), .faddr 6, [.t 2], (some (17, true))⟩,
     ⟨(some 19), .load 1 false, [.t 18], (some (17, true))⟩,
     ⟨(some 20), .faddr 6, [.t 3], (some (17, true))⟩,
     ⟨(some 21), .load 1 false, [.t 20], (some (17, true))⟩,
     ⟨(some 22), .call 19, [.t 19, .t 21], (some (17, true))⟩,
     ⟨(some 23), .pick, [.t 17, .t 22, .c (.bool false)], none⟩,
     ⟨(some 4), .mov, [.t 23], none⟩])
   .ret))
theorem chk.ref10_SameVolume : chkF Try.prog 16 = some (24, ir.ref10_SameVolume, [.tmp 4]) := by kernel_rfl

/-- paravane/volume.Ring -/
abbrev F.volume_Ring : Nat := 17
def ir.volume_Ring : IC :=
 (.seq (.reg [⟨(some 6), .mov, [.c .nils], none⟩,
     ⟨(some 7), .mov, [.c (.int .i64 0)], none⟩])
   (.seq (.seq (.reg [⟨(some 11), .mov, [.t 0], none⟩,
     ⟨(some 12), .mov, [.t 1], none⟩,
     ⟨(some 13), .mov, [.t 2], none⟩,
     ⟨(some 14), .call 54, [.t 11, .c (.int .i64 16777216), .t 12, .t 13], none⟩,
     ⟨(some 15), .un .not, [.t 14], none⟩])
   (.cond (.t 15) (.seq (.reg [⟨(some 6), .mov, [.c .nils], none⟩,
     ⟨(some 7), .mov, [.c (.int .i64 2)], none⟩])
   .ret) .skip))
   (.seq (.reg [⟨(some 8), .mov, [.c .nils], none⟩])
   (.seq (.seq (.reg [⟨(some 16), .mov, [.t 0], none⟩,
     ⟨(some 17), .len false, [.t 16], none⟩,
     ⟨(some 18), .mov, [.c (.int .i64 0)], none⟩])
   (.block 0 (.loop (.seq (.reg [⟨(some 19), .bin .lss, [.t 18, .t 17], none⟩])
   (.seq (.cond (.t 19) .skip (.exit 0))
   (.seq (.block 1 (.seq (.reg [⟨(some 20), .mov, [.t 18], none⟩,
     ⟨(some 21), .iaddrS 1, [.t 16, .t 18], none⟩,
     ⟨(some 22), .load 1 false, [.t 21], none⟩,
     ⟨(some 9), .mov, [.t 20], none⟩,
     ⟨(some 10), .mov, [.t 22], none⟩])
   (.seq (.seq (.reg [⟨(some 23), .mov, [.t 9], none⟩,
     ⟨(some 24), .mov, [.t 1], none⟩,
     ⟨(some 25), .bin .geq, [.t 23, .t 24], none⟩])
   (.cond (.t 25) (.reg [⟨(some 26), .mov, [.t 10], none⟩,
     ⟨(some 27), .mov, [.t 2], none⟩,
     ⟨(some 28), .mov, [.t 8], none⟩,
     ⟨(some 29), .mov, [.t 9], none⟩,
     ⟨(some 30), .mov, [.t 1], none⟩,
     ⟨(some 31), .bin .sub, [.t 29, .t 30], none⟩,
     ⟨(some 32), .iaddrS 1, [.t 28, .t 31], none⟩,
     ⟨(some 33), .load 1 false, [.t 32], none⟩,
     ⟨(some 34), .bin .mul, [.t 27, .t 33], none⟩,
     ⟨(some 35), .call 55, [.t 34], none⟩,
     ⟨(some 36), .bin .add, [.t 26, .t 35], none⟩,
     ⟨(some 10), .mov, [.t 36], none⟩]) .skip))
   (.seq (.seq (.reg [⟨(some 37), .mov, [.t 10], none⟩,
     ⟨(some 38), .call 30, [.t 37, .c (.int .i64 (-1073741824)), .c (.int .i64 1073741824)], none⟩,
     ⟨(some 39), .un .not, [.t 38], none⟩])
   (.cond (.t 39) (.seq (.reg [⟨(some 6), .mov, [.c .nils], none⟩,
     ⟨(some 7), .mov, [.c (.int .i64 7)], none⟩])
   .ret) .skip))
   (.reg [⟨(some 40), .mov, [.t 8], none⟩,
     ⟨(some 41), .mov, [.t 10], none⟩,
     ⟨(some 42), .mkslice 1 3, [.t 41], none⟩,
     ⟨(some 43), .append 1 8 3, [.t 40, .t 42], none⟩,
     ⟨(some 8), .mov, [.t 43], none⟩])))))
   (.reg [⟨(some 44), .bin .add, [.t 18, .c (.int .i64 1)], none⟩,
     ⟨(some 18), .mov, [.t 44], none⟩])))))))
   (.seq (.reg [⟨(some 45), .mov, [.t 8], none⟩,
     ⟨(some 6), .mov, [.t 45], none⟩,
     ⟨(some 7), .mov, [.c (.int .i64 0)], none⟩])
   .ret)))))
theorem chk.volume_Ring : chkF Try.prog 17 = some (46, ir.volume_Ring, [.tmp 6, .tmp 7]) := by kernel_rfl

/-- paravane/volume.Unring -/
abbrev F.volume_Unring : Nat := 18
def ir.volume_Unring : IC :=
 (.seq (.reg [⟨(some 6), .mov, [.c .nils], none⟩,
     ⟨(some 7), .mov, [.c (.int .i64 0)], none⟩])
   (.seq (.seq (.reg [⟨(some 11), .mov, [.t 0], none⟩,
     ⟨(some 12), .mov, [.t 1], none⟩,
     ⟨(some 13), .mov, [.t 2], none⟩,
     ⟨(some 14), .call 54, [.t 11, .c (.int .i64 1073741824), .t 12, .t 13], none⟩,
     ⟨(some 15), .un .not, [.t 14], none⟩])
   (.cond (.t 15) (.seq (.reg [⟨(some 6), .mov, [.c .nils], none⟩,
     ⟨(some 7), .mov, [.c (.int .i64 2)], none⟩])
   .ret) .skip))
   (.seq (.reg [⟨(some 8), .mov, [.c .nils], none⟩])
   (.seq (.seq (.reg [⟨(some 16), .mov, [.t 0], none⟩,
     ⟨(some 17), .len false, [.t 16], none⟩,
     ⟨(some 18), .mov, [.c (.int .i64 0)], none⟩])
   (.block 0 (.loop (.seq (.reg [⟨(some 19), .bin .lss, [.t 18, .t 17], none⟩])
   (.seq (.cond (.t 19) .skip (.exit 0))
   (.seq (.block 1 (.seq (.reg [⟨(some 20), .mov, [.t 18], none⟩,
     ⟨(some 21), .iaddrS 1, [.t 16, .t 18], none⟩,
     ⟨(some 22), .load 1 false, [.t 21], none⟩,
     ⟨(some 9), .mov, [.t 20], none⟩,
     ⟨(some 10), .mov, [.t 22], none⟩])
   (.seq (.seq (.reg [⟨(some 23), .mov, [.t 9], none⟩,
     ⟨(some 24), .mov, [.t 1], none⟩,
     ⟨(some 25), .bin .geq, [.t 23, .t 24], none⟩])
   (.cond (.t 25) (.reg [⟨(some 26), .mov, [.t 10], none⟩,
     ⟨(some 27), .mov, [.t 2], none⟩,
     ⟨(some 28), .mov, [.t 0], none⟩,
     ⟨(some 29), .mov, [.t 9], none⟩,
     ⟨(some 30), .mov, [.t 1], none⟩,
     ⟨(some 31), .bin .sub, [.t 29, .t 30], none⟩,
     ⟨(some 32), .iaddrS 1, [.t 28, .t 31], none⟩,
     ⟨(some 33), .load 1 false, [.t 32], none⟩,
     ⟨(some 34), .bin .mul, [.t 27, .t 33], none⟩,
     ⟨(some 35), .call 55, [.t 34], none⟩,
     ⟨(some 36), .bin .sub, [.t 26, .t 35], none⟩,
     ⟨(some 10), .mov, [.t 36], none⟩]) .skip))
   (.reg [⟨(some 37), .mov, [.t 8], none⟩,
     ⟨(some 38), .mov, [.t 10], none⟩,
     ⟨(some 39), .mkslice 1 3, [.t 38], none⟩,
     ⟨(some 40), .append 1 8 3, [.t 37, .t 39], none⟩,
     ⟨(some 8), .mov, [.t 40], none⟩]))))
   (.reg [⟨(some 41), .bin .add, [.t 18, .c (.int .i64 1)], none⟩,
     ⟨(some 18), .mov, [.t 41], none⟩])))))))
   (.seq (.reg [⟨(some 42), .mov, [.t 8], none⟩,
     ⟨(some 6), .mov, [.t 42], none⟩,
     ⟨(some 7), .mov, [.c (.int .i64 0)], none⟩])
   .ret)))))
theorem chk.volume_Unring : chkF Try.prog 18 = some (43, ir.volume_Unring, [.tmp 6, .tmp 7]) := by kernel_rfl

/-- paravane/paravaneref00.Alike -/
abbrev F.ref00_Alike : Nat := 19
def ir.ref00_Alike : IC :=
 (.seq (.reg [⟨(some 4), .mov, [.c (.bool false)], none⟩])
   (.seq (.seq (.reg [⟨(some 6), .mov, [.t 0], none⟩,
     ⟨(some 7), .len false, [.t 6], none⟩,
     ⟨(some 8), .mov, [.t 1], none⟩,
     ⟨(some 9), .len false, [.t 8], none⟩,
     ⟨(some 10), .bin .neq, [.t 7, .t 9], none⟩])
   (.cond (.t 10) (.seq (.reg [⟨(some 4), .mov, [.c (.bool false)], none⟩])
   .ret) .skip))
   (.seq (.seq (.reg [⟨(some 5), .mov, [.c (.int .i64 0)], none⟩])
   (.block 0 (.loop (.seq (.seq (.reg [⟨(some 11), .mov, [.t 5], none⟩,
     ⟨(some 12), .mov, [.t 0], none⟩,
     ⟨(some 13), .len false, [.t 12], none⟩,
     ⟨(some 14), .bin .lss, [.t 11, .t 13], none⟩])
   (.cond (.t 14) .skip (.exit 0)))
   (.seq (.block 1 (.seq (.draw [0, 0, 3, 7, 0, 0, 48, 112, 255] [⟨(some 17), .mov, [.t 0], none⟩,
     ⟨(some 18), .mov, [.t 5], none⟩,
     ⟨(some 19), .iaddrS 1, [.t 17, .t 18], none⟩,
     ⟨(some 20), .load 1 false, [.t 19], none⟩,
     ⟨(some 21), .mov, [.t 1], none⟩,
     ⟨(some 22), .mov, [.t 5], none⟩,
     ⟨(some 23), .iaddrS 1, [.t 21, .t 22], none⟩,
     ⟨(some 24), .load 1 false, [.t 23], none⟩,
     ⟨(some 25), .bin .neq, [.t 20, .t 24], none⟩])
   (.cond (.t 25) (.seq (.reg [⟨(some 4), .mov, [.c (.bool false)], none⟩])
   .ret) .skip)))
   (.reg [⟨(some 15), .mov, [.t 5], none⟩,
     ⟨(some 16), .bin .add, [.t 15, .c (.int .i64 1)], none⟩,
     ⟨(some 5), .mov, [.t 16], none⟩]))))))
   (.seq (.reg [⟨(some 4), .mov, [.c (.bool true)], none⟩])
   .ret))))
theorem chk.ref00_Alike : chkF Try.prog 19 = some (26, ir.ref00_Alike, [.tmp 4]) := by kernel_rfl

/-- paravane/volume.Horizon -/
abbrev F.volume_Horizon : Nat := 20
def ir.volume_Horizon : IC :=
 (.seq (.reg [⟨(some 4), .alloc [.nils], [], none⟩,
     ⟨(some 5), .mov, [.c (.int .i64 0)], none⟩,
     ⟨(some 6), .mov, [.c (.int .i64 0)], none⟩])
   (.scope (.seq (.reg [⟨(some 14), .mov, [.t 0], none⟩,
     ⟨(some 15), .mov, [.t 1], none⟩,
     ⟨(some 16), .call 56, [.t 14, .t 15], none⟩,
     ⟨(some 13), .mov, [.t 16], none⟩,
     ⟨(some 17), .extract 0, [.t 13], none⟩,
     ⟨(some 18), .extract 1, [.t 13], none⟩,
     ⟨(some 7), .alloc [(.int .i64 0), (.int .i64 0), .nils, (.int .i64 0)], [], none⟩,
     ⟨none, .store 4, [.t 7, .t 17], none⟩,
     ⟨(some 6), .mov, [.t 18], none⟩])
   (.seq (.seq (.reg [⟨(some 19), .mov, [.t 6], none⟩,
     ⟨(some 20), .bin .neq, [.t 19, .c (.int .i64 0)], none⟩])
   (.cond (.t 20) (.seq (.reg [⟨(some 21), .mov, [.t 6], none⟩,
     ⟨none, .store 1, [.t 4, .c .nils], none⟩,
     ⟨(some 5), .mov, [.c (.int .i64 0)], none⟩,
     ⟨(some 6), .mov, [.t 21], none⟩])
   .ret) .skip))
   (.seq (.reg [⟨(some 22), .load 4 true, [.t 7], none⟩,
     ⟨(some 23), .call 57, [.t 22], none⟩,
     ⟨(some 8), .alloc [.nilm], [], none⟩,
     ⟨none, .store 1, [.t 8, .t 23], none⟩])
   (.seq (.reg [⟨(some 24), .build [(.int .i64 0), (.int .i64 0)] [], [], none⟩,
     ⟨(some 9), .alloc [(.int .i64 0), (.int .i64 0)], [], none⟩,
     ⟨none, .store 2, [.t 9, .t 24], none⟩])
   (.seq (.seq (.reg [⟨(some 25), .faddr 0, [.t 7], none⟩,
     ⟨(some 26), .iaddrA 2 1, [.t 25, .c (.int .i64 1)], none⟩,
     ⟨(some 27), .load 1 false, [.t 26], none⟩,
     ⟨(some 28), .mov, [.c (.int .i64 0)], none⟩])
   (.block 0 (.loop (.seq (.reg [⟨(some 29), .bin .lss, [.t 28, .t 27], none⟩])
   (.seq (.cond (.t 29) .skip (.exit 0))
   (.seq (.block 1 (.seq (.reg [⟨(some 30), .mov, [.t 28], none⟩,
     ⟨(some 10), .mov, [.t 30], none⟩])
   (.seq (.draw [0, 0, 2, 7, 0, 0, 48, 127] [⟨(some 31), .load 1 false, [.t 8], none⟩,
     ⟨(some 32), .mov, [.t 10], none⟩,
     ⟨(some 33), .build [(.int .i64 0), (.int .i64 0)] [(0, 1), (1, 1)], [.c (.int .i64 0), .t 32], none⟩,
     ⟨(some 34), .lookup false, [.t 31, .t 33], none⟩,
     ⟨(some 35), .load 1 false, [.t 8], none⟩,
     ⟨(some 36), .load 2 true, [.t 9], none⟩,
     ⟨(some 37), .lookup false, [.t 35, .t 36], none⟩,
     ⟨(some 38), .bin .gtr, [.t 34, .t 37], none⟩])
   (.cond (.t 38) (.reg [⟨(some 39), .mov, [.t 10], none⟩,
     ⟨(some 40), .build [(.int .i64 0), (.int .i64 0)] [(0, 1), (1, 1)], [.c (.int .i64 0), .t 39], none⟩,
     ⟨none, .store 2, [.t 9, .t 40], none⟩]) .skip))))
   (.reg [⟨(some 41), .bin .add, [.t 28, .c (.int .i64 1)], none⟩,
     ⟨(some 28), .mov, [.t 41], none⟩])))))))
   (.seq (.reg [⟨(some 42), .load 1 false, [.t 8], none⟩,
     ⟨(some 43), .load 2 true, [.t 9], none⟩,
     ⟨(some 44), .lookup false, [.t 42, .t 43], none⟩,
     ⟨(some 5), .mov, [.t 44], none⟩])
   (.seq (.reg [⟨(some 45), .faddr 1, [.t 9], none⟩,
     ⟨(some 46), .load 1 false, [.t 45], none⟩,
     ⟨(some 47), .mkslice 1 3, [.t 46], none⟩,
     ⟨none, .store 1, [.t 4, .t 47], none⟩])
   (.seq (.label 0)
   (.seq (.block 2 (.loop (.seq (.seq (.reg [⟨(some 48), .load 1 false, [.t 4], none⟩,
     ⟨(some 49), .len false, [.t 48], none⟩,
     ⟨(some 50), .faddr 0, [.t 7], none⟩,
     ⟨(some 51), .iaddrA 2 1, [.t 50, .c (.int .i64 0)], none⟩,
     ⟨(some 52), .load 1 false, [.t 51], none⟩,
     ⟨(some 53), .bin .lss, [.t 49, .t 52], none⟩])
   (.cond (.t 53) .skip (.exit 2)))
   (.block 3 (.seq (.draw [0, 0, 3, 0, 8, 0, 32, 120, 248, 0, 512, 2040, 4088, 8191, 0, 32767] [⟨(some 54), .load 1 false, [.t 8], none⟩,
     ⟨(some 55), .load 2 true, [.t 9], none⟩,
     ⟨(some 56), .lookup false, [.t 54, .t 55], none⟩,
     ⟨(some 57), .faddr 2, [.t 7], none⟩,
     ⟨(some 58), .load 1 false, [.t 57], none⟩,
     ⟨(some 59), .faddr 0, [.t 9], none⟩,
     ⟨(some 60), .load 1 false, [.t 59], none⟩,
     ⟨(some 61), .iaddrS 1, [.t 58, .t 60], none⟩,
     ⟨(some 62), .load 1 false, [.t 61], none⟩,
     ⟨(some 63), .faddr 1, [.t 9], none⟩,
     ⟨(some 64), .load 1 false, [.t 63], none⟩,
     ⟨(some 65), .iaddrS 1, [.t 62, .t 64], none⟩,
     ⟨(some 66), .load 1 false, [.t 65], none⟩,
     ⟨(some 67), .bin .sub, [.t 56, .t 66], none⟩,
     ⟨(some 11), .alloc [(.int .i64 0)], [], none⟩,
     ⟨none, .store 1, [.t 11, .t 67], none⟩])
   (.seq (.reg [⟨(some 68), .load 4 true, [.t 7], none⟩,
     ⟨(some 69), .load 2 true, [.t 9], none⟩,
     ⟨(some 70), .call 58, [.t 68, .t 69], none⟩])
   (.block 4 (.range (.t 70) [71] (.reg [⟨(some 12), .alloc [(.int .i64 0), (.int .i64 0)], [], none⟩,
     ⟨none, .store 2, [.t 12, .t 71], none⟩]) (.block 5 (.seq (.draw [0, 0, 3, 0, 15] [⟨(some 72), .load 1 false, [.t 8], none⟩,
     ⟨(some 73), .load 2 true, [.t 12], none⟩,
     ⟨(some 74), .lookup false, [.t 72, .t 73], none⟩,
     ⟨(some 75), .load 1 false, [.t 11], none⟩,
     ⟨(some 76), .bin .eql, [.t 74, .t 75], none⟩])
   (.cond (.t 76) (.seq (.draw [0, 0, 2, 6, 15, 0, 31, 127] [⟨(some 77), .load 1 false, [.t 4], none⟩,
     ⟨(some 78), .faddr 1, [.t 12], none⟩,
     ⟨(some 79), .load 1 false, [.t 78], none⟩,
     ⟨(some 80), .mkslice 1 3, [.t 79], none⟩,
     ⟨(some 81), .append 1 8 3, [.t 77, .t 80], none⟩,
     ⟨(some 82), .load 2 true, [.t 12], none⟩,
     ⟨none, .store 1, [.t 4, .t 81], none⟩,
     ⟨none, .store 2, [.t 9, .t 82], none⟩])
   (.exit 3)) .skip)))))))))))
   (.seq (.reg [⟨(some 83), .load 1 false, [.t 4], none⟩,
     ⟨(some 84), .mov, [.t 5], none⟩,
     ⟨none, .store 1, [.t 4, .t 83], none⟩,
     ⟨(some 5), .mov, [.t 84], none⟩,
     ⟨(some 6), .mov, [.c (.int .i64 0)], none⟩])
   .ret))))))))))))
theorem chk.volume_Horizon : chkF Try.prog 20 = some (85, ir.volume_Horizon, [.cell 4 30, .tmp 5, .tmp 6]) := by kernel_rfl

/-- paravane/volume.Backed -/
abbrev F.volume_Backed : Nat := 21
def ir.volume_Backed : IC :=
 (.seq (.reg [⟨(some 5), .box, [.t 2], none⟩,
     ⟨(some 6), .mov, [.c (.int .i64 0)], none⟩,
     ⟨(some 7), .mov, [.c (.int .i64 0)], none⟩])
   (.seq (.reg [⟨(some 19), .mov, [.t 0], none⟩,
     ⟨(some 20), .mov, [.t 1], none⟩,
     ⟨(some 21), .call 56, [.t 19, .t 20], none⟩,
     ⟨(some 18), .mov, [.t 21], none⟩,
     ⟨(some 22), .extract 0, [.t 18], none⟩,
     ⟨(some 23), .extract 1, [.t 18], none⟩,
     ⟨(some 8), .alloc [(.int .i64 0), (.int .i64 0), .nils, (.int .i64 0)], [], none⟩,
     ⟨none, .store 4, [.t 8, .t 22], none⟩,
     ⟨(some 9), .mov, [.t 23], none⟩])
   (.seq (.seq (.reg [⟨(some 24), .mov, [.t 9], none⟩,
     ⟨(some 25), .bin .neq, [.t 24, .c (.int .i64 0)], none⟩])
   (.cond (.t 25) (.seq (.reg [⟨(some 26), .mov, [.t 9], none⟩,
     ⟨(some 6), .mov, [.c (.int .i64 0)], none⟩,
     ⟨(some 7), .mov, [.t 26], none⟩])
   .ret) .skip))
   (.seq (.reg [⟨(some 28), .load 1 false, [.t 5], none⟩,
     ⟨(some 29), .call 59, [.t 28], none⟩,
     ⟨(some 27), .mov, [.t 29], none⟩,
     ⟨(some 30), .extract 0, [.t 27], none⟩,
     ⟨(some 31), .extract 1, [.t 27], none⟩,
     ⟨(some 10), .alloc [(.int .i64 0), (.int .i64 0)], [], none⟩,
     ⟨none, .store 2, [.t 10, .t 30], none⟩,
     ⟨(some 11), .mov, [.t 31], none⟩])
   (.seq (.seq (.reg [⟨(some 32), .mov, [.t 11], none⟩,
     ⟨(some 33), .un .not, [.t 32], none⟩,
     ⟨(some 34), .mov, [.t 33], none⟩,
     ⟨(some 35), .load 2 true, [.t 10], (some (34, false))⟩,
     ⟨(some 36), .faddr 0, [.t 8], (some (34, false))⟩,
     ⟨(some 37), .load 2 true, [.t 36], (some (34, false))⟩,
     ⟨(some 38), .eqs true [0, 0], [.t 35, .t 37], (some (34, false))⟩,
     ⟨(some 39), .pick, [.t 34, .c (.bool true), .t 38], none⟩,
     ⟨(some 40), .mov, [.t 39], none⟩,
     ⟨(some 41), .load 1 false, [.t 5], (some (40, false))⟩,
     ⟨(some 42), .call 60, [.t 41, .c (.int .i64 70368744177664)], (some (40, false))⟩,
     ⟨(some 43), .un .not, [.t 42], (some (40, false))⟩,
     ⟨(some 44), .pick, [.t 40, .c (.bool true), .t 43], none⟩])
   (.cond (.t 44) (.seq (.reg [⟨(some 6), .mov, [.c (.int .i64 0)], none⟩,
     ⟨(some 7), .mov, [.c (.int .i64 106)], none⟩])
   .ret) .skip))
   (.seq (.seq (.reg [⟨(some 45), .faddr 0, [.t 8], none⟩,
     ⟨(some 46), .iaddrA 2 1, [.t 45, .c (.int .i64 0)], none⟩,
     ⟨(some 47), .load 1 false, [.t 46], none⟩,
     ⟨(some 48), .mov, [.c (.int .i64 0)], none⟩])
   (.block 0 (.loop (.seq (.reg [⟨(some 49), .bin .lss, [.t 48, .t 47], none⟩])
   (.seq (.cond (.t 49) .skip (.exit 0))
   (.seq (.block 1 (.seq (.reg [⟨(some 50), .mov, [.t 48], none⟩,
     ⟨(some 12), .mov, [.t 50], none⟩])
   (.seq (.reg [⟨(some 51), .load 1 false, [.t 5], none⟩,
     ⟨(some 52), .mov, [.t 12], none⟩,
     ⟨(some 53), .iaddrS 1, [.t 51, .t 52], none⟩,
     ⟨(some 54), .load 1 false, [.t 53], none⟩,
     ⟨(some 55), .len false, [.t 54], none⟩,
     ⟨(some 56), .mov, [.c (.int .i64 0)], none⟩])
   (.block 2 (.loop (.seq (.reg [⟨(some 57), .bin .lss, [.t 56, .t 55], none⟩])
   (.seq (.cond (.t 57) .skip (.exit 2))
   (.seq (.block 3 (.seq (.reg [⟨(some 58), .mov, [.t 56], none⟩,
     ⟨(some 59), .iaddrS 1, [.t 54, .t 56], none⟩,
     ⟨(some 60), .load 1 false, [.t 59], none⟩,
     ⟨(some 14), .alloc [(.int .i64 0)], [], none⟩,
     ⟨(some 13), .mov, [.t 58], none⟩,
     ⟨none, .store 1, [.t 14, .t 60], none⟩])
   (.seq (.reg [⟨(some 61), .faddr 2, [.t 8], none⟩,
     ⟨(some 62), .load 1 false, [.t 61], none⟩,
     ⟨(some 63), .mov, [.t 12], none⟩,
     ⟨(some 64), .iaddrS 1, [.t 62, .t 63], none⟩,
     ⟨(some 65), .load 1 false, [.t 64], none⟩,
     ⟨(some 66), .mov, [.t 13], none⟩,
     ⟨(some 67), .iaddrS 1, [.t 65, .t 66], none⟩,
     ⟨(some 68), .load 1 false, [.t 67], none⟩,
     ⟨(some 15), .alloc [(.int .i64 0)], [], none⟩,
     ⟨none, .store 1, [.t 15, .t 68], none⟩])
   (.seq (.reg [⟨(some 69), .mov, [.t 12], none⟩,
     ⟨(some 70), .bin .add, [.t 69, .c (.int .i64 1)], none⟩,
     ⟨(some 71), .faddr 0, [.t 8], none⟩,
     ⟨(some 72), .iaddrA 2 1, [.t 71, .c (.int .i64 0)], none⟩,
     ⟨(some 73), .load 1 false, [.t 72], none⟩,
     ⟨(some 74), .bin .lss, [.t 70, .t 73], none⟩,
     ⟨(some 75), .mov, [.t 74], none⟩,
     ⟨(some 76), .load 1 false, [.t 14], (some (75, false))⟩,
     ⟨(some 77), .load 1 false, [.t 15], (some (75, false))⟩,
     ⟨(some 78), .bin .geq, [.t 76, .t 77], (some (75, false))⟩,
     ⟨(some 79), .pick, [.t 75, .c (.bool true), .t 78], none⟩,
     ⟨(some 16), .alloc [(.bool false)], [], none⟩,
     ⟨none, .store 1, [.t 16, .t 79], none⟩])
   (.seq (.seq (.reg [⟨(some 80), .load 4 true, [.t 8], none⟩,
     ⟨(some 81), .mov, [.t 12], none⟩,
     ⟨(some 82), .mov, [.t 13], none⟩,
     ⟨(some 83), .build [(.int .i64 0), (.int .i64 0)] [(0, 1), (1, 1)], [.t 81, .t 82], none⟩,
     ⟨(some 84), .call 58, [.t 80, .t 83], none⟩])
   (.block 4 (.range (.t 84) [85] (.reg [⟨(some 17), .alloc [(.int .i64 0), (.int .i64 0)], [], none⟩,
     ⟨none, .store 2, [.t 17, .t 85], none⟩]) (.block 5 (.draw [0, 1, 3, 3, 3, 3, 35, 115, 243, 3, 515, 2035, 4083, 8187, 16383, 32767, 65535] [⟨(some 86), .load 1 false, [.t 16], none⟩,
     ⟨(some 87), .mov, [.t 86], none⟩,
     ⟨(some 88), .load 1 false, [.t 14], (some (87, true))⟩,
     ⟨(some 89), .load 1 false, [.t 15], (some (87, true))⟩,
     ⟨(some 90), .load 1 false, [.t 5], (some (87, true))⟩,
     ⟨(some 91), .faddr 0, [.t 17], (some (87, true))⟩,
     ⟨(some 92), .load 1 false, [.t 91], (some (87, true))⟩,
     ⟨(some 93), .iaddrS 1, [.t 90, .t 92], (some (87, true))⟩,
     ⟨(some 94), .load 1 false, [.t 93], (some (87, true))⟩,
     ⟨(some 95), .faddr 1, [.t 17], (some (87, true))⟩,
     ⟨(some 96), .load 1 false, [.t 95], (some (87, true))⟩,
     ⟨(some 97), .iaddrS 1, [.t 94, .t 96], (some (87, true))⟩,
     ⟨(some 98), .load 1 false, [.t 97], (some (87, true))⟩,
     ⟨(some 99), .bin .add, [.t 89, .t 98], (some (87, true))⟩,
     ⟨(some 100), .bin .geq, [.t 88, .t 99], (some (87, true))⟩,
     ⟨(some 101), .pick, [.t 87, .t 100, .c (.bool false)], none⟩,
     ⟨none, .store 1, [.t 16, .t 101], none⟩])))))
   (.seq (.reg [⟨(some 102), .load 1 false, [.t 16], none⟩,
     ⟨(some 103), .un .not, [.t 102], none⟩])
   (.cond (.t 103) (.seq (.reg [⟨(some 6), .mov, [.c (.int .i64 0)], none⟩,
     ⟨(some 7), .mov, [.c (.int .i64 106)], none⟩])
   .ret) .skip)))))))
   (.reg [⟨(some 104), .bin .add, [.t 56, .c (.int .i64 1)], none⟩,
     ⟨(some 56), .mov, [.t 104], none⟩])))))))))
   (.reg [⟨(some 105), .bin .add, [.t 48, .c (.int .i64 1)], none⟩,
     ⟨(some 48), .mov, [.t 105], none⟩])))))))
   (.seq (.reg [⟨(some 106), .load 1 false, [.t 5], none⟩,
     ⟨(some 107), .iaddrS 1, [.t 106, .c (.int .i64 0)], none⟩,
     ⟨(some 108), .load 1 false, [.t 107], none⟩,
     ⟨(some 109), .call 61, [.t 108], none⟩,
     ⟨(some 6), .mov, [.t 109], none⟩,
     ⟨(some 7), .mov, [.c (.int .i64 0)], none⟩])
   .ret)))))))
theorem chk.volume_Backed : chkF Try.prog 21 = some (110, ir.volume_Backed, [.tmp 6, .tmp 7]) := by kernel_rfl

/-- paravane/paravaneref00.Between -/
abbrev F.ref00_Between : Nat := 25
def ir.ref00_Between : IC :=
 (.seq (.reg [⟨(some 6), .mov, [.c (.bool false)], none⟩])
   (.seq (.reg [⟨(some 7), .mov, [.t 0], none⟩,
     ⟨(some 8), .mov, [.t 1], none⟩,
     ⟨(some 9), .bin .geq, [.t 7, .t 8], none⟩,
     ⟨(some 10), .mov, [.t 9], none⟩,
     ⟨(some 11), .mov, [.t 0], (some (10, true))⟩,
     ⟨(some 12), .mov, [.t 2], (some (10, true))⟩,
     ⟨(some 13), .bin .leq, [.t 11, .t 12], (some (10, true))⟩,
     ⟨(some 14), .pick, [.t 10, .t 13, .c (.bool false)], none⟩,
     ⟨(some 6), .mov, [.t 14], none⟩])
   .ret))
theorem chk.ref00_Between : chkF Try.prog 25 = some (15, ir.ref00_Between, [.tmp 6]) := by kernel_rfl

/-- paravane/volume.Name -/
abbrev F.volume_Name : Nat := 26
def ir.volume_Name : IC :=
 (.seq (.reg [⟨(some 5), .box, [.t 1], none⟩,
     ⟨(some 8), .alloc [(.int .i64 0), (.int .i64 0), (.int .i64 0), .nils, (.int .i64 0), (.int .i64 0)], [], none⟩,
     ⟨(some 9), .mov, [.c (.int .i64 0)], none⟩])
   (.seq (.reg [⟨(some 13), .mov, [.t 0], none⟩,
     ⟨(some 14), .mov, [.t 2], none⟩,
     ⟨(some 15), .mov, [.t 3], none⟩,
     ⟨(some 16), .mov, [.t 3], none⟩,
     ⟨(some 17), .build [(.int .i64 0), (.int .i64 0)] [(0, 1), (1, 1)], [.t 15, .t 16], none⟩,
     ⟨(some 18), .call 63, [.t 13, .t 14, .t 17], none⟩,
     ⟨(some 12), .mov, [.t 18], none⟩,
     ⟨(some 19), .extract 0, [.t 12], none⟩,
     ⟨(some 20), .extract 1, [.t 12], none⟩,
     ⟨(some 10), .alloc [.nils, (.int .i64 0), (.int .i64 0), (.int .i64 0)], [], none⟩,
     ⟨none, .store 4, [.t 10, .t 19], none⟩,
     ⟨(some 11), .mov, [.t 20], none⟩])
   (.seq (.seq (.reg [⟨(some 21), .mov, [.t 11], none⟩,
     ⟨(some 22), .bin .neq, [.t 21, .c (.int .i64 0)], none⟩])
   (.cond (.t 22) (.seq (.reg [⟨(some 23), .build [(.int .i64 0), (.int .i64 0), (.int .i64 0), .nils, (.int .i64 0), (.int .i64 0)] [], [], none⟩,
     ⟨(some 24), .mov, [.t 11], none⟩,
     ⟨none, .store 6, [.t 8, .t 23], none⟩,
     ⟨(some 9), .mov, [.t 24], none⟩])
   .ret) .skip))
   (.seq (.seq (.reg [⟨(some 25), .load 3 true, [.t 5], none⟩,
     ⟨(some 26), .call 36, [.t 25], none⟩,
     ⟨(some 27), .un .not, [.t 26], none⟩])
   (.cond (.t 27) (.seq (.reg [⟨(some 28), .build [(.int .i64 0), (.int .i64 0), (.int .i64 0), .nils, (.int .i64 0), (.int .i64 0)] [], [], none⟩,
     ⟨none, .store 6, [.t 8, .t 28], none⟩,
     ⟨(some 9), .mov, [.c (.int .i64 102)], none⟩])
   .ret) .skip))
   (.seq (.draw [0, 0, 0, 6, 0, 0, 62, 127, 255, 511] [⟨(some 29), .load 3 true, [.t 5], none⟩,
     ⟨(some 30), .load 4 true, [.t 10], none⟩,
     ⟨(some 31), .load 3 true, [.t 5], none⟩,
     ⟨(some 32), .call 64, [.t 30, .t 31], none⟩,
     ⟨(some 33), .load 4 true, [.t 10], none⟩,
     ⟨(some 34), .load 3 true, [.t 5], none⟩,
     ⟨(some 35), .call 65, [.t 33, .t 34], none⟩,
     ⟨(some 36), .build [(.int .i64 0), (.int .i64 0), (.int .i64 0), .nils, (.int .i64 0), (.int .i64 0)] [(0, 3), (3, 1), (4, 2)], [.t 29, .t 32, .t 35], none⟩,
     ⟨none, .store 6, [.t 8, .t 36], none⟩,
     ⟨(some 9), .mov, [.c (.int .i64 0)], none⟩])
   .ret)))))
theorem chk.volume_Name : chkF Try.prog 26 = some (37, ir.volume_Name, [.cell 8 58, .tmp 9]) := by kernel_rfl

/-- paravane/volume.within -/
abbrev F.volume_within : Nat := 30
def ir.volume_within : IC :=
 (.seq (.reg [⟨(some 6), .mov, [.c (.bool false)], none⟩])
   (.seq (.reg [⟨(some 7), .mov, [.t 0], none⟩,
     ⟨(some 8), .mov, [.t 1], none⟩,
     ⟨(some 9), .bin .geq, [.t 7, .t 8], none⟩,
     ⟨(some 10), .mov, [.t 9], none⟩,
     ⟨(some 11), .mov, [.t 0], (some (10, true))⟩,
     ⟨(some 12), .mov, [.t 2], (some (10, true))⟩,
     ⟨(some 13), .bin .leq, [.t 11, .t 12], (some (10, true))⟩,
     ⟨(some 14), .pick, [.t 10, .t 13, .c (.bool false)], none⟩,
     ⟨(some 6), .mov, [.t 14], none⟩])
   .ret))
theorem chk.volume_within : chkF Try.prog 30 = some (15, ir.volume_within, [.tmp 6]) := by kernel_rfl

/-- paravane/volume.time -/
abbrev F.volume_time : Nat := 31
def ir.volume_time : IC :=
 (.seq (.reg [⟨(some 6), .mov, [.c (.int .i64 0)], none⟩])
   (.seq (.reg [⟨(some 10), .mov, [.t 0], none⟩,
     ⟨(some 11), .mov, [.t 0], none⟩,
     ⟨(some 12), .bin .mul, [.t 10, .t 11], none⟩,
     ⟨(some 13), .mov, [.t 2], none⟩,
     ⟨(some 14), .mov, [.t 1], none⟩,
     ⟨(some 15), .bin .mul, [.t 13, .t 14], none⟩,
     ⟨(some 16), .bin .quo, [.t 15, .c (.int .i64 64)], none⟩,
     ⟨(some 17), .bin .add, [.t 12, .t 16], none⟩,
     ⟨(some 18), .call 83, [.t 17], none⟩,
     ⟨(some 9), .mov, [.t 18], none⟩,
     ⟨(some 19), .extract 0, [.t 9], none⟩,
     ⟨(some 20), .extract 1, [.t 9], none⟩,
     ⟨(some 7), .mov, [.t 19], none⟩,
     ⟨(some 8), .mov, [.t 20], none⟩])
   (.seq (.reg [⟨(some 21), .mov, [.t 7], none⟩,
     ⟨(some 6), .mov, [.t 21], none⟩])
   .ret)))
theorem chk.volume_time : chkF Try.prog 31 = some (22, ir.volume_time, [.tmp 6]) := by kernel_rfl

/-- paravane/paravaneref10.slowness -/
abbrev F.ref10_slowness : Nat := 32
def ir.ref10_slowness : IC :=
 (.seq (.reg [⟨(some 2), .mov, [.c (.bool false)], none⟩])
   (.seq (.reg [⟨(some 3), .mov, [.t 0], none⟩,
     ⟨(some 4), .call 25, [.t 3, .c (.int .i64 0), .c (.int .i64 4096)], none⟩,
     ⟨(some 2), .mov, [.t 4], none⟩])
   .ret))
theorem chk.ref10_slowness : chkF Try.prog 32 = some (5, ir.ref10_slowness, [.tmp 2]) := by kernel_rfl

/-- paravane/paravaneref10.time -/
abbrev F.ref10_time : Nat := 33
def ir.ref10_time : IC :=
 (.seq (.reg [⟨(some 6), .mov, [.c (.int .i64 0)], none⟩])
   (.seq (.reg [⟨(some 10), .mov, [.t 0], none⟩,
     ⟨(some 11), .mov, [.t 0], none⟩,
     ⟨(some 12), .bin .mul, [.t 10, .t 11], none⟩,
     ⟨(some 13), .mov, [.t 2], none⟩,
     ⟨(some 14), .mov, [.t 1], none⟩,
     ⟨(some 15), .bin .mul, [.t 13, .t 14], none⟩,
     ⟨(some 16), .bin .quo, [.t 15, .c (.int .i64 64)], none⟩,
     ⟨(some 17), .bin .add, [.t 12, .t 16], none⟩,
     ⟨(some 18), .call 84, [.t 17], none⟩,
     ⟨(some 9), .mov, [.t 18], none⟩,
     ⟨(some 19), .extract 0, [.t 9], none⟩,
     ⟨(some 20), .extract 1, [.t 9], none⟩,
     ⟨(some 7), .mov, [.t 19], none⟩,
     ⟨(some 8), .mov, [.t 20], none⟩])
   (.seq (.reg [⟨(some 21), .mov, [.t 7], none⟩,
     ⟨(some 6), .mov, [.t 21], none⟩])
   .ret)))
theorem chk.ref10_time : chkF Try.prog 33 = some (22, ir.ref10_time, [.tmp 6]) := by kernel_rfl

/-- slices.ContainsFunc[[]paravane/api.Bound,paravane/api.Bound] -/
abbrev F.slices_ContainsFunc_api_Bound_api_Bound : Nat := 34
def ir.slices_ContainsFunc_api_Bound_api_Bound : IC :=
 (.seq (.reg [⟨(some 4), .mov, [.c (.bool false)], none⟩])
   (.seq (.reg [⟨(some 5), .mov, [.t 0], none⟩,
     ⟨(some 6), .mov, [.t 1], none⟩,
     ⟨(some 7), .call 85, [.t 5, .t 6], none⟩,
     ⟨(some 8), .bin .geq, [.t 7, .c (.int .i64 0)], none⟩,
     ⟨(some 4), .mov, [.t 8], none⟩])
   .ret))
theorem chk.slices_ContainsFunc_api_Bound_api_Bound : chkF Try.prog 34 = some (9, ir.slices_ContainsFunc_api_Bound_api_Bound, [.tmp 4]) := by kernel_rfl

/-- paravane/volume.CheckEchoes$1 -/
abbrev F.volume_CheckEchoes_1 : Nat := 35
def ir.volume_CheckEchoes_1 : IC :=
 (.seq (.reg [⟨(some 1), .box, [.t 0], none⟩,
     ⟨(some 2), .mov, [.c (.bool false)], none⟩])
   (.seq (.reg [⟨(some 3), .faddr 0, [.t 1], none⟩,
     ⟨(some 4), .load 1 false, [.t 3], none⟩,
     ⟨(some 5), .faddr 1, [.t 1], none⟩,
     ⟨(some 6), .load 1 false, [.t 5], none⟩,
     ⟨(some 7), .bin .gtr, [.t 4, .t 6], none⟩,
     ⟨(some 8), .mov, [.t 7], none⟩,
     ⟨(some 9), .faddr 0, [.t 1], (some (8, false))⟩,
     ⟨(some 10), .load 1 false, [.t 9], (some (8, false))⟩,
     ⟨(some 11), .bin .lss, [.t 10, .c (.int .i64 (-16777216))], (some (8, false))⟩,
     ⟨(some 12), .pick, [.t 8, .c (.bool true), .t 11], none⟩,
     ⟨(some 13), .mov, [.t 12], none⟩,
     ⟨(some 14), .faddr 1, [.t 1], (some (13, false))⟩,
     ⟨(some 15), .load 1 false, [.t 14], (some (13, false))⟩,
     ⟨(some 16), .bin .gtr, [.t 15, .c (.int .i64 16777216)], (some (13, false))⟩,
     ⟨(some 17), .pick, [.t 13, .c (.bool true), .t 16], none⟩,
     ⟨(some 2), .mov, [.t 17], none⟩])
   .ret))
theorem chk.volume_CheckEchoes_1 : chkF Try.prog 35 = some (18, ir.volume_CheckEchoes_1, [.tmp 2]) := by kernel_rfl

/-- (paravane/volume.cell).valid -/
abbrev F.volume_cell_valid : Nat := 36
def ir.volume_cell_valid : IC :=
 (.seq (.reg [⟨(some 1), .box, [.t 0], none⟩,
     ⟨(some 2), .mov, [.c (.bool false)], none⟩])
   (.seq (.reg [⟨(some 3), .iaddrA 3 1, [.t 1, .c (.int .i64 0)], none⟩,
     ⟨(some 4), .load 1 false, [.t 3], none⟩,
     ⟨(some 5), .call 30, [.t 4, .c (.int .i64 (-64)), .c (.int .i64 64)], none⟩,
     ⟨(some 6), .mov, [.t 5], none⟩,
     ⟨(some 7), .iaddrA 3 1, [.t 1, .c (.int .i64 1)], (some (6, true))⟩,
     ⟨(some 8), .load 1 false, [.t 7], (some (6, true))⟩,
     ⟨(some 9), .call 30, [.t 8, .c (.int .i64 (-64)), .c (.int .i64 64)], (some (6, true))⟩,
     ⟨(some 10), .pick, [.t 6, .t 9, .c (.bool false)], none⟩,
     ⟨(some 11), .mov, [.t 10], none⟩,
     ⟨(some 12), .iaddrA 3 1, [.t 1, .c (.int .i64 2)], (some (11, true))⟩,
     ⟨(some 13), .load 1 false, [.t 12], (some (11, true))⟩,
     ⟨(some 14), .call 30, [.t 13, .c (.int .i64 0), .c (.int .i64 64)], (some (11, true))⟩,
     ⟨(some 15), .pick, [.t 11, .t 14, .c (.bool false)], none⟩,
     ⟨(some 2), .mov, [.t 15], none⟩])
   .ret))
theorem chk.volume_cell_valid : chkF Try.prog 36 = some (16, ir.volume_cell_valid, [.tmp 2]) := by kernel_rfl

/-- paravane/paravaneref10.loud -/
abbrev F.ref10_loud : Nat := 37
def ir.ref10_loud : IC :=
 (.seq (.reg [⟨(some 1), .box, [.t 0], none⟩,
     ⟨(some 2), .mov, [.c (.bool false)], none⟩])
   (.seq (.reg [⟨(some 3), .faddr 0, [.t 1], none⟩,
     ⟨(some 4), .load 1 false, [.t 3], none⟩,
     ⟨(some 5), .bin .geq, [.t 4, .c (.int .i64 (-16777216))], none⟩,
     ⟨(some 6), .mov, [.t 5], none⟩,
     ⟨(some 7), .faddr 0, [.t 1], (some (6, true))⟩,
     ⟨(some 8), .load 1 false, [.t 7], (some (6, true))⟩,
     ⟨(some 9), .faddr 1, [.t 1], (some (6, true))⟩,
     ⟨(some 10), .load 1 false, [.t 9], (some (6, true))⟩,
     ⟨(some 11), .bin .leq, [.t 8, .t 10], (some (6, true))⟩,
     ⟨(some 12), .pick, [.t 6, .t 11, .c (.bool false)], none⟩,
     ⟨(some 13), .mov, [.t 12], none⟩,
     ⟨(some 14), .faddr 1, [.t 1], (some (13, true))⟩,
     ⟨(some 15), .load 1 false, [.t 14], (some (13, true))⟩,
     ⟨(some 16), .bin .leq, [.t 15, .c (.int .i64 16777216)], (some (13, true))⟩,
     ⟨(some 17), .pick, [.t 13, .t 16, .c (.bool false)], none⟩,
     ⟨(some 2), .mov, [.t 17], none⟩])
   .ret))
theorem chk.ref10_loud : chkF Try.prog 37 = some (18, ir.ref10_loud, [.tmp 2]) := by kernel_rfl

/-- paravane/paravanelaw10.echoes -/
abbrev F.law10_echoes : Nat := 38
def ir.law10_echoes : IC :=
 (.seq (.reg [⟨(some 0), .mov, [.c .nils], none⟩])
   (.seq (.reg [⟨(some 1), .mkslice 1 3, [.c (.int .i64 0), .c (.int .i64 0), .c (.int .i64 5), .c (.int .i64 0)], none⟩,
     ⟨(some 2), .call 86, [.t 1], none⟩,
     ⟨(some 3), .build [(.int .i64 0), (.int .i64 0), .nils] [(2, 1)], [.t 2], none⟩,
     ⟨(some 4), .mkslice 1 3, [.c (.int .i64 0), .c (.int .i64 1), .c (.int .i64 2), .c (.int .i64 7)], none⟩,
     ⟨(some 5), .call 86, [.t 4], none⟩,
     ⟨(some 6), .build [(.int .i64 0), (.int .i64 0), .nils] [(0, 1), (2, 1)], [.c (.int .i64 2), .t 5], none⟩,
     ⟨(some 7), .mkslice 3 75, [.t 3, .t 6], none⟩,
     ⟨(some 0), .mov, [.t 7], none⟩])
   .ret))
theorem chk.law10_echoes : chkF Try.prog 38 = some (8, ir.law10_echoes, [.tmp 0]) := by kernel_rfl

/-- paravane/volume.Enclose -/
abbrev F.volume_Enclose : Nat := 39
def ir.volume_Enclose : IC :=
 (.seq (.reg [⟨(some 6), .box, [.t 1], none⟩,
     ⟨(some 7), .box, [.t 2], none⟩,
     ⟨(some 9), .box, [.t 4], none⟩,
     ⟨(some 10), .alloc [(.int .i64 0), (.int .i64 0), (.int .i64 0), (.int .i64 0), (.int .i64 0), (.int .i64 0), .nils], [], none⟩,
     ⟨(some 11), .mov, [.c (.int .i64 0)], none⟩])
   (.seq (.reg [⟨(some 15), .mov, [.t 0], none⟩,
     ⟨(some 16), .mov, [.t 3], none⟩,
     ⟨(some 17), .load 2 true, [.t 9], none⟩,
     ⟨(some 18), .call 63, [.t 15, .t 16, .t 17], none⟩,
     ⟨(some 14), .mov, [.t 18], none⟩,
     ⟨(some 19), .extract 0, [.t 14], none⟩,
     ⟨(some 20), .extract 1, [.t 14], none⟩,
     ⟨(some 12), .alloc [.nils, (.int .i64 0), (.int .i64 0), (.int .i64 0)], [], none⟩,
     ⟨none, .store 4, [.t 12, .t 19], none⟩,
     ⟨(some 13), .mov, [.t 20], none⟩])
   (.seq (.seq (.reg [⟨(some 21), .mov, [.t 13], none⟩,
     ⟨(some 22), .bin .neq, [.t 21, .c (.int .i64 0)], none⟩])
   (.cond (.t 22) (.seq (.reg [⟨(some 23), .build [(.int .i64 0), (.int .i64 0), (.int .i64 0), (.int .i64 0), (.int .i64 0), (.int .i64 0), .nils] [], [], none⟩,
     ⟨(some 24), .mov, [.t 13], none⟩,
     ⟨none, .store 7, [.t 10, .t 23], none⟩,
     ⟨(some 11), .mov, [.t 24], none⟩])
   .ret) .skip))
   (.seq (.reg [⟨(some 25), .load 3 true, [.t 6], none⟩,
     ⟨(some 26), .load 3 true, [.t 7], none⟩,
     ⟨(some 27), .load 4 true, [.t 12], none⟩,
     ⟨(some 28), .mkfunc (.func 88) 1, [.t 27], none⟩,
     ⟨(some 29), .call 87, [.t 25, .t 26, .t 28], none⟩,
     ⟨(some 30), .extract 0, [.t 29], none⟩,
     ⟨(some 31), .extract 1, [.t 29], none⟩,
     ⟨none, .store 7, [.t 10, .t 30], none⟩,
     ⟨(some 11), .mov, [.t 31], none⟩])
   .ret))))
theorem chk.volume_Enclose : chkF Try.prog 39 = some (32, ir.volume_Enclose, [.cell 10 84, .tmp 11]) := by kernel_rfl

/-- paravane/paravaneref10.SameNamed -/
abbrev F.ref10_SameNamed : Nat := 40
def ir.ref10_SameNamed : IC :=
 (.seq (.reg [⟨(some 2), .box, [.t 0], none⟩,
     ⟨(some 3), .box, [.t 1], none⟩,
     ⟨(some 4), .mov, [.c (.bool false)], none⟩])
   (.seq (.seq (.reg [⟨(some 6), .faddr 0, [.t 2], none⟩,
     ⟨(some 7), .load 3 true, [.t 6], none⟩,
     ⟨(some 8), .faddr 0, [.t 3], none⟩,
     ⟨(some 9), .load 3 true, [.t 8], none⟩,
     ⟨(some 10), .eqs true [0, 0, 0], [.t 7, .t 9], none⟩,
     ⟨(some 11), .mov, [.t 10], none⟩,
     ⟨(some 12), .faddr 4, [.t 2], (some (11, false))⟩,
     ⟨(some 13), .load 2 true, [.t 12], (some (11, false))⟩,
     ⟨(some 14), .faddr 4, [.t 3], (some (11, false))⟩,
     ⟨(some 15), .load 2 true, [.t 14], (some (11, false))⟩,
     ⟨(some 16), .eqs true [0, 0], [.t 13, .t 15], (some (11, false))⟩,
     ⟨(some 17), .pick, [.t 11, .c (.bool true), .t 16], none⟩,
     ⟨(some 18), .mov, [.t 17], none⟩,
     ⟨(some 19), .faddr 3, [.t 2], (some (18, false))⟩,
     ⟨(some 20), .load 1 false, [.t 19], (some (18, false))⟩,
     ⟨(some 21), .len false, [.t 20], (some (18, false))⟩,
     ⟨(some 22), .faddr 3, [.t 3], (some (18, false))⟩,
     ⟨(some 23), .load 1 false, [.t 22], (some (18, false))⟩,
     ⟨(some 24), .len false, [.t 23], (some (18, false))⟩,
     ⟨(some 25), .bin .neq, [.t 21, .t 24], (some (18, false))⟩,
     ⟨(some 26), .pick, [.t 18, .c (.bool true), .t 25], none⟩])
   (.cond (.t 26) (.seq (.reg [⟨(some 4), .mov, [.c (.bool false)], none⟩])
   .ret) .skip))
   (.seq (.seq (.reg [⟨(some 5), .mov, [.c (.int .i64 0)], none⟩])
   (.block 0 (.loop (.seq (.seq (.reg [⟨(some 27), .mov, [.t 5], none⟩,
     ⟨(some 28), .faddr 3, [.t 2], none⟩,
     ⟨(some 29), .load 1 false, [.t 28], none⟩,
     ⟨(some 30), .len false, [.t 29], none⟩,
     ⟨(some 31), .bin .lss, [.t 27, .t 30], none⟩])
   (.cond (.t 31) .skip (.exit 0)))
   (.seq (.block 1 (.seq (.draw [0, 1, 0, 7, 15, 0, 32, 0, 224, 480, 1023] [⟨(some 34), .faddr 3, [.t 2], none⟩,
     ⟨(some 35), .load 1 false, [.t 34], none⟩,
     ⟨(some 36), .mov, [.t 5], none⟩,
     ⟨(some 37), .iaddrS 2, [.t 35, .t 36], none⟩,
     ⟨(some 38), .load 2 true, [.t 37], none⟩,
     ⟨(some 39), .faddr 3, [.t 3], none⟩,
     ⟨(some 40), .load 1 false, [.t 39], none⟩,
     ⟨(some 41), .mov, [.t 5], none⟩,
     ⟨(some 42), .iaddrS 2, [.t 40, .t 41], none⟩,
     ⟨(some 43), .load 2 true, [.t 42], none⟩,
     ⟨(some 44), .eqs true [0, 0], [.t 38, .t 43], none⟩])
   (.cond (.t 44) (.seq (.reg [⟨(some 4), .mov, [.c (.bool false)], none⟩])
   .ret) .skip)))
   (.reg [⟨(some 32), .mov, [.t 5], none⟩,
     ⟨(some 33), .bin .add, [.t 32, .c (.int .i64 1)], none⟩,
     ⟨(some 5), .mov, [.t 33], none⟩]))))))
   (.seq (.reg [⟨(some 4), .mov, [.c (.bool true)], none⟩])
   .ret))))
theorem chk.ref10_SameNamed : chkF Try.prog 40 = some (45, ir.ref10_SameNamed, [.tmp 4]) := by kernel_rfl

/-- paravane/paravanelaw10.section -/
abbrev F.law10_section : Nat := 41
def ir.law10_section : IC :=
 (.seq (.reg [⟨(some 0), .mov, [.c .nils], none⟩])
   (.seq (.reg [⟨(some 1), .mkslice 1 3, [.c (.int .i64 5), .c (.int .i64 0), .c (.int .i64 0)], none⟩,
     ⟨(some 2), .mkslice 1 3, [.c (.int .i64 0), .c (.int .i64 0), .c (.int .i64 9)], none⟩,
     ⟨(some 3), .mkslice 1 3, [.c (.int .i64 4), .c (.int .i64 0), .c (.int .i64 1)], none⟩,
     ⟨(some 4), .mkslice 1 30, [.t 1, .t 2, .t 3], none⟩,
     ⟨(some 0), .mov, [.t 4], none⟩])
   .ret))
theorem chk.law10_section : chkF Try.prog 41 = some (5, ir.law10_section, [.tmp 0]) := by kernel_rfl

/-- paravane/volume.blockOf -/
abbrev F.volume_blockOf : Nat := 42
def ir.volume_blockOf : IC :=
 (.seq (.reg [⟨(some 1), .box, [.t 0], none⟩,
     ⟨(some 2), .alloc [(.int .i64 0), (.int .i64 0), (.int .i64 0), (.int .i64 0), (.int .i64 0), (.int .i64 0), .nils], [], none⟩,
     ⟨(some 3), .mov, [.c (.int .i64 0)], none⟩])
   (.seq (.reg [⟨(some 5), .faddr 0, [.t 1], none⟩,
     ⟨(some 6), .load 3 true, [.t 5], none⟩,
     ⟨(some 7), .faddr 3, [.t 1], none⟩,
     ⟨(some 8), .load 3 true, [.t 7], none⟩,
     ⟨(some 9), .build [(.int .i64 0), (.int .i64 0), (.int .i64 0), (.int .i64 0), (.int .i64 0), (.int .i64 0)] [(0, 3), (3, 3)], [.t 6, .t 8], none⟩,
     ⟨(some 4), .alloc [(.int .i64 0), (.int .i64 0), (.int .i64 0), (.int .i64 0), (.int .i64 0), (.int .i64 0)], [], none⟩,
     ⟨none, .store 6, [.t 4, .t 9], none⟩])
   (.seq (.seq (.draw [0, 1, 3, 7, 15, 31, 63, 15, 143, 511, 1023, 2047, 4095, 8191, 16383, 32767] [⟨(some 10), .load 6 true, [.t 4], none⟩,
     ⟨(some 11), .call 89, [.t 10], none⟩,
     ⟨(some 12), .un .not, [.t 11], none⟩,
     ⟨(some 13), .mov, [.t 12], none⟩,
     ⟨(some 14), .faddr 6, [.t 1], (some (13, false))⟩,
     ⟨(some 15), .load 1 false, [.t 14], (some (13, false))⟩,
     ⟨(some 16), .len false, [.t 15], (some (13, false))⟩,
     ⟨(some 17), .load 6 true, [.t 4], (some (13, false))⟩,
     ⟨(some 18), .call 44, [.t 17], (some (13, false))⟩,
     ⟨(some 19), .bin .neq, [.t 16, .t 18], (some (13, false))⟩,
     ⟨(some 20), .pick, [.t 13, .c (.bool true), .t 19], none⟩,
     ⟨(some 21), .mov, [.t 20], none⟩,
     ⟨(some 22), .faddr 6, [.t 1], (some (21, false))⟩,
     ⟨(some 23), .load 1 false, [.t 22], (some (21, false))⟩,
     ⟨(some 24), .call 90, [.t 23, .c (.func (.func 91) [] [])], (some (21, false))⟩,
     ⟨(some 25), .pick, [.t 21, .c (.bool true), .t 24], none⟩])
   (.cond (.t 25) (.seq (.reg [⟨(some 26), .build [(.int .i64 0), (.int .i64 0), (.int .i64 0), (.int .i64 0), (.int .i64 0), (.int .i64 0), .nils] [], [], none⟩,
     ⟨none, .store 7, [.t 2, .t 26], none⟩,
     ⟨(some 3), .mov, [.c (.int .i64 101)], none⟩])
   .ret) .skip))
   (.seq (.reg [⟨(some 27), .load 6 true, [.t 4], none⟩,
     ⟨(some 28), .faddr 6, [.t 1], none⟩,
     ⟨(some 29), .load 1 false, [.t 28], none⟩,
     ⟨(some 30), .build [(.int .i64 0), (.int .i64 0), (.int .i64 0), (.int .i64 0), (.int .i64 0), (.int .i64 0), .nils] [(0, 6), (6, 1)], [.t 27, .t 29], none⟩,
     ⟨none, .store 7, [.t 2, .t 30], none⟩,
     ⟨(some 3), .mov, [.c (.int .i64 0)], none⟩])
   .ret))))
theorem chk.volume_blockOf : chkF Try.prog 42 = some (31, ir.volume_blockOf, [.cell 2 92, .tmp 3]) := by kernel_rfl

/-- (paravane/volume.box).around -/
abbrev F.volume_box_around : Nat := 43
def ir.volume_box_around : IC :=
 (.seq (.reg [⟨(some 2), .box, [.t 0], none⟩,
     ⟨(some 3), .box, [.t 1], none⟩,
     ⟨(some 4), .alloc [(.int .i64 0), (.int .i64 0), (.int .i64 0), (.int .i64 0), (.int .i64 0), (.int .i64 0)], [], none⟩])
   (.seq (.reg [⟨(some 5), .alloc [(.int .i64 0), (.int .i64 0), (.int .i64 0), (.int .i64 0), (.int .i64 0), (.int .i64 0)], [], none⟩])
   (.seq (.draw [0, 1, 0, 7, 0, 0, 63, 127] [⟨(some 9), .load 6 true, [.t 2], none⟩,
     ⟨(some 10), .call 92, [.t 9], none⟩,
     ⟨(some 11), .load 6 true, [.t 3], none⟩,
     ⟨(some 12), .call 92, [.t 11], none⟩,
     ⟨(some 6), .alloc [(.int .i64 0), (.int .i64 0), (.int .i64 0)], [], none⟩,
     ⟨(some 7), .alloc [(.int .i64 0), (.int .i64 0), (.int .i64 0)], [], none⟩,
     ⟨none, .store 3, [.t 6, .t 10], none⟩,
     ⟨none, .store 3, [.t 7, .t 12], none⟩])
   (.seq (.seq (.reg [⟨(some 13), .mov, [.c (.int .i64 0)], none⟩])
   (.block 0 (.loop (.seq (.reg [⟨(some 14), .bin .lss, [.t 13, .c (.int .i64 3)], none⟩])
   (.seq (.cond (.t 14) .skip (.exit 0))
   (.seq (.block 1 (.seq (.reg [⟨(some 15), .mov, [.t 13], none⟩,
     ⟨(some 8), .mov, [.t 15], none⟩])
   (.seq (.draw [0, 0, 0, 6, 14, 0, 0, 96, 224, 510, 0, 2047, 4095] [⟨(some 16), .mov, [.t 8], none⟩,
     ⟨(some 17), .mov, [.t 8], none⟩,
     ⟨(some 18), .faddr 0, [.t 2], none⟩,
     ⟨(some 19), .iaddrA 3 1, [.t 18, .t 17], none⟩,
     ⟨(some 20), .load 1 false, [.t 19], none⟩,
     ⟨(some 21), .mov, [.t 8], none⟩,
     ⟨(some 22), .faddr 0, [.t 3], none⟩,
     ⟨(some 23), .iaddrA 3 1, [.t 22, .t 21], none⟩,
     ⟨(some 24), .load 1 false, [.t 23], none⟩,
     ⟨(some 25), .minmax false, [.t 20, .t 24], none⟩,
     ⟨(some 26), .faddr 0, [.t 5], none⟩,
     ⟨(some 27), .iaddrA 3 1, [.t 26, .t 16], none⟩,
     ⟨none, .store 1, [.t 27, .t 25], none⟩])
   (.draw [0, 0, 2, 6, 0, 16, 48, 126, 0, 0, 768, 1792, 4094, 8190, 0, 32767, 65535] [⟨(some 28), .mov, [.t 8], none⟩,
     ⟨(some 29), .mov, [.t 8], none⟩,
     ⟨(some 30), .iaddrA 3 1, [.t 6, .t 29], none⟩,
     ⟨(some 31), .load 1 false, [.t 30], none⟩,
     ⟨(some 32), .mov, [.t 8], none⟩,
     ⟨(some 33), .iaddrA 3 1, [.t 7, .t 32], none⟩,
     ⟨(some 34), .load 1 false, [.t 33], none⟩,
     ⟨(some 35), .minmax true, [.t 31, .t 34], none⟩,
     ⟨(some 36), .mov, [.t 8], none⟩,
     ⟨(some 37), .faddr 0, [.t 5], none⟩,
     ⟨(some 38), .iaddrA 3 1, [.t 37, .t 36], none⟩,
     ⟨(some 39), .load 1 false, [.t 38], none⟩,
     ⟨(some 40), .bin .sub, [.t 35, .t 39], none⟩,
     ⟨(some 41), .bin .add, [.t 40, .c (.int .i64 1)], none⟩,
     ⟨(some 42), .faddr 3, [.t 5], none⟩,
     ⟨(some 43), .iaddrA 3 1, [.t 42, .t 28], none⟩,
     ⟨none, .store 1, [.t 43, .t 41], none⟩]))))
   (.reg [⟨(some 44), .bin .add, [.t 13, .c (.int .i64 1)], none⟩,
     ⟨(some 13), .mov, [.t 44], none⟩])))))))
   (.seq (.reg [⟨(some 45), .load 6 true, [.t 5], none⟩,
     ⟨none, .store 6, [.t 4, .t 45], none⟩])
   .ret)))))
theorem chk.volume_box_around : chkF Try.prog 43 = some (46, ir.volume_box_around, [.cell 4 90]) := by kernel_rfl

/-- (paravane/volume.box).many -/
abbrev F.volume_box_many : Nat := 44
def ir.volume_box_many : IC :=
 (.seq (.reg [⟨(some 1), .box, [.t 0], none⟩,
     ⟨(some 2), .mov, [.c (.int .i64 0)], none⟩])
   (.seq (.reg [⟨(some 3), .faddr 3, [.t 1], none⟩,
     ⟨(some 4), .iaddrA 3 1, [.t 3, .c (.int .i64 0)], none⟩,
     ⟨(some 5), .load 1 false, [.t 4], none⟩,
     ⟨(some 6), .faddr 3, [.t 1], none⟩,
     ⟨(some 7), .iaddrA 3 1, [.t 6, .c (.int .i64 1)], none⟩,
     ⟨(some 8), .load 1 false, [.t 7], none⟩,
     ⟨(some 9), .bin .mul, [.t 5, .t 8], none⟩,
     ⟨(some 10), .faddr 3, [.t 1], none⟩,
     ⟨(some 11), .iaddrA 3 1, [.t 10, .c (.int .i64 2)], none⟩,
     ⟨(some 12), .load 1 false, [.t 11], none⟩,
     ⟨(some 13), .bin .mul, [.t 9, .t 12], none⟩,
     ⟨(some 2), .mov, [.t 13], none⟩])
   .ret))
theorem chk.volume_box_many : chkF Try.prog 44 = some (14, ir.volume_box_many, [.tmp 2]) := by kernel_rfl

/-- (paravane/volume.box).common -/
abbrev F.volume_box_common : Nat := 45
def ir.volume_box_common : IC :=
 (.seq (.reg [⟨(some 2), .box, [.t 0], none⟩,
     ⟨(some 3), .box, [.t 1], none⟩,
     ⟨(some 4), .mov, [.c (.int .i64 0)], none⟩])
   (.seq (.reg [⟨(some 5), .mov, [.c (.int .i64 1)], none⟩])
   (.seq (.draw [0, 1, 0, 7, 0, 0, 63, 127] [⟨(some 9), .load 6 true, [.t 2], none⟩,
     ⟨(some 10), .call 92, [.t 9], none⟩,
     ⟨(some 11), .load 6 true, [.t 3], none⟩,
     ⟨(some 12), .call 92, [.t 11], none⟩,
     ⟨(some 6), .alloc [(.int .i64 0), (.int .i64 0), (.int .i64 0)], [], none⟩,
     ⟨(some 7), .alloc [(.int .i64 0), (.int .i64 0), (.int .i64 0)], [], none⟩,
     ⟨none, .store 3, [.t 6, .t 10], none⟩,
     ⟨none, .store 3, [.t 7, .t 12], none⟩])
   (.seq (.seq (.reg [⟨(some 13), .mov, [.c (.int .i64 0)], none⟩])
   (.block 0 (.loop (.seq (.reg [⟨(some 14), .bin .lss, [.t 13, .c (.int .i64 3)], none⟩])
   (.seq (.cond (.t 14) .skip (.exit 0))
   (.seq (.block 1 (.seq (.reg [⟨(some 15), .mov, [.t 13], none⟩,
     ⟨(some 8), .mov, [.t 15], none⟩])
   (.draw [0, 0, 2, 6, 0, 16, 48, 126, 0, 0, 768, 1792, 0, 0, 12288, 28672, 65280, 131070, 262142, 524286, 1048575, 2097151] [⟨(some 16), .mov, [.t 5], none⟩,
     ⟨(some 17), .mov, [.t 8], none⟩,
     ⟨(some 18), .iaddrA 3 1, [.t 6, .t 17], none⟩,
     ⟨(some 19), .load 1 false, [.t 18], none⟩,
     ⟨(some 20), .mov, [.t 8], none⟩,
     ⟨(some 21), .iaddrA 3 1, [.t 7, .t 20], none⟩,
     ⟨(some 22), .load 1 false, [.t 21], none⟩,
     ⟨(some 23), .minmax false, [.t 19, .t 22], none⟩,
     ⟨(some 24), .mov, [.t 8], none⟩,
     ⟨(some 25), .faddr 0, [.t 2], none⟩,
     ⟨(some 26), .iaddrA 3 1, [.t 25, .t 24], none⟩,
     ⟨(some 27), .load 1 false, [.t 26], none⟩,
     ⟨(some 28), .mov, [.t 8], none⟩,
     ⟨(some 29), .faddr 0, [.t 3], none⟩,
     ⟨(some 30), .iaddrA 3 1, [.t 29, .t 28], none⟩,
     ⟨(some 31), .load 1 false, [.t 30], none⟩,
     ⟨(some 32), .minmax true, [.t 27, .t 31], none⟩,
     ⟨(some 33), .bin .sub, [.t 23, .t 32], none⟩,
     ⟨(some 34), .bin .add, [.t 33, .c (.int .i64 1)], none⟩,
     ⟨(some 35), .minmax true, [.c (.int .i64 0), .t 34], none⟩,
     ⟨(some 36), .bin .mul, [.t 16, .t 35], none⟩,
     ⟨(some 5), .mov, [.t 36], none⟩])))
   (.reg [⟨(some 37), .bin .add, [.t 13, .c (.int .i64 1)], none⟩,
     ⟨(some 13), .mov, [.t 37], none⟩])))))))
   (.seq (.reg [⟨(some 38), .mov, [.t 5], none⟩,
     ⟨(some 4), .mov, [.t 38], none⟩])
   .ret)))))
theorem chk.volume_box_common : chkF Try.prog 45 = some (39, ir.volume_box_common, [.tmp 4]) := by kernel_rfl

/-- (paravane/volume.box).small -/
abbrev F.volume_box_small : Nat := 46
def ir.volume_box_small : IC :=
 (.seq (.reg [⟨(some 1), .box, [.t 0], none⟩,
     ⟨(some 2), .mov, [.c (.bool false)], none⟩])
   (.seq (.seq (.reg [⟨(some 5), .faddr 3, [.t 1], none⟩,
     ⟨(some 6), .load 3 true, [.t 5], none⟩,
     ⟨(some 7), .mov, [.c (.int .i64 0)], none⟩])
   (.block 0 (.loop (.seq (.reg [⟨(some 8), .bin .lss, [.t 7, .c (.int .i64 3)], none⟩])
   (.seq (.cond (.t 8) .skip (.exit 0))
   (.seq (.block 1 (.seq (.reg [⟨(some 9), .idxA 3 1 false, [.t 6, .t 7], none⟩,
     ⟨(some 4), .mov, [.t 9], none⟩])
   (.seq (.reg [⟨(some 10), .mov, [.t 4], none⟩,
     ⟨(some 11), .call 30, [.t 10, .c (.int .i64 1), .c (.int .i64 16)], none⟩,
     ⟨(some 12), .un .not, [.t 11], none⟩])
   (.cond (.t 12) (.seq (.reg [⟨(some 2), .mov, [.c (.bool false)], none⟩])
   .ret) .skip))))
   (.reg [⟨(some 13), .bin .add, [.t 7, .c (.int .i64 1)], none⟩,
     ⟨(some 7), .mov, [.t 13], none⟩])))))))
   (.seq (.reg [⟨(some 14), .load 6 true, [.t 1], none⟩,
     ⟨(some 15), .call 44, [.t 14], none⟩,
     ⟨(some 16), .bin .leq, [.t 15, .c (.int .i64 1024)], none⟩,
     ⟨(some 2), .mov, [.t 16], none⟩])
   .ret)))
theorem chk.volume_box_small : chkF Try.prog 46 = some (17, ir.volume_box_small, [.tmp 2]) := by kernel_rfl

/-- (paravane/volume.box).cells -/
abbrev F.volume_box_cells : Nat := 47
def ir.volume_box_cells : IC :=
 (.seq (.reg [⟨(some 1), .box, [.t 0], none⟩,
     ⟨(some 2), .mov, [.c .nilf], none⟩])
   (.seq (.reg [⟨(some 3), .mkfunc (.func 93) 0, [.t 1], none⟩,
     ⟨(some 2), .mov, [.t 3], none⟩])
   .ret))
theorem chk.volume_box_cells : chkF Try.prog 47 = some (4, ir.volume_box_cells, [.tmp 2]) := by kernel_rfl

/-- (paravane/volume.box).has -/
abbrev F.volume_box_has : Nat := 48
def ir.volume_box_has : IC :=
 (.seq (.reg [⟨(some 2), .box, [.t 0], none⟩,
     ⟨(some 3), .box, [.t 1], none⟩,
     ⟨(some 4), .mov, [.c (.bool false)], none⟩])
   (.seq (.seq (.reg [⟨(some 7), .load 6 true, [.t 2], none⟩,
     ⟨(some 8), .call 92, [.t 7], none⟩,
     ⟨(some 9), .mov, [.c (.int .i64 0)], none⟩])
   (.block 0 (.loop (.seq (.reg [⟨(some 10), .bin .lss, [.t 9, .c (.int .i64 3)], none⟩])
   (.seq (.cond (.t 10) .skip (.exit 0))
   (.seq (.block 1 (.seq (.reg [⟨(some 11), .mov, [.t 9], none⟩,
     ⟨(some 12), .idxA 3 1 false, [.t 8, .t 9], none⟩,
     ⟨(some 5), .mov, [.t 11], none⟩,
     ⟨(some 6), .mov, [.t 12], none⟩])
   (.seq (.draw [0, 1, 3, 0, 0, 24, 56, 0, 255, 511] [⟨(some 13), .mov, [.t 5], none⟩,
     ⟨(some 14), .iaddrA 3 1, [.t 3, .t 13], none⟩,
     ⟨(some 15), .load 1 false, [.t 14], none⟩,
     ⟨(some 16), .mov, [.t 5], none⟩,
     ⟨(some 17), .faddr 0, [.t 2], none⟩,
     ⟨(some 18), .iaddrA 3 1, [.t 17, .t 16], none⟩,
     ⟨(some 19), .load 1 false, [.t 18], none⟩,
     ⟨(some 20), .mov, [.t 6], none⟩,
     ⟨(some 21), .call 30, [.t 15, .t 19, .t 20], none⟩,
     ⟨(some 22), .un .not, [.t 21], none⟩])
   (.cond (.t 22) (.seq (.reg [⟨(some 4), .mov, [.c (.bool false)], none⟩])
   .ret) .skip))))
   (.reg [⟨(some 23), .bin .add, [.t 9, .c (.int .i64 1)], none⟩,
     ⟨(some 9), .mov, [.t 23], none⟩])))))))
   (.seq (.reg [⟨(some 4), .mov, [.c (.bool true)], none⟩])
   .ret)))
theorem chk.volume_box_has : chkF Try.prog 48 = some (24, ir.volume_box_has, [.tmp 4]) := by kernel_rfl

/-- (paravane/volume.box).index -/
abbrev F.volume_box_index : Nat := 49
def ir.volume_box_index : IC :=
 (.seq (.reg [⟨(some 2), .box, [.t 0], none⟩,
     ⟨(some 3), .box, [.t 1], none⟩,
     ⟨(some 4), .mov, [.c (.int .i64 0)], none⟩])
   (.seq (.reg [⟨(some 5), .iaddrA 3 1, [.t 3, .c (.int .i64 0)], none⟩,
     ⟨(some 6), .load 1 false, [.t 5], none⟩,
     ⟨(some 7), .faddr 0, [.t 2], none⟩,
     ⟨(some 8), .iaddrA 3 1, [.t 7, .c (.int .i64 0)], none⟩,
     ⟨(some 9), .load 1 false, [.t 8], none⟩,
     ⟨(some 10), .bin .sub, [.t 6, .t 9], none⟩,
     ⟨(some 11), .faddr 3, [.t 2], none⟩,
     ⟨(some 12), .iaddrA 3 1, [.t 11, .c (.int .i64 1)], none⟩,
     ⟨(some 13), .load 1 false, [.t 12], none⟩,
     ⟨(some 14), .bin .mul, [.t 10, .t 13], none⟩,
     ⟨(some 15), .iaddrA 3 1, [.t 3, .c (.int .i64 1)], none⟩,
     ⟨(some 16), .load 1 false, [.t 15], none⟩,
     ⟨(some 17), .bin .add, [.t 14, .t 16], none⟩,
     ⟨(some 18), .faddr 0, [.t 2], none⟩,
     ⟨(some 19), .iaddrA 3 1, [.t 18, .c (.int .i64 1)], none⟩,
     ⟨(some 20), .load 1 false, [.t 19], none⟩,
     ⟨(some 21), .bin .sub, [.t 17, .t 20], none⟩,
     ⟨(some 22), .faddr 3, [.t 2], none⟩,
     ⟨(some 23), .iaddrA 3 1, [.t 22, .c (.int .i64 2)], none⟩,
     ⟨(some 24), .load 1 false, [.t 23], none⟩,
     ⟨(some 25), .bin .mul, [.t 21, .t 24], none⟩,
     ⟨(some 26), .iaddrA 3 1, [.t 3, .c (.int .i64 2)], none⟩,
     ⟨(some 27), .load 1 false, [.t 26], none⟩,
     ⟨(some 28), .bin .add, [.t 25, .t 27], none⟩,
     ⟨(some 29), .faddr 0, [.t 2], none⟩,
     ⟨(some 30), .iaddrA 3 1, [.t 29, .c (.int .i64 2)], none⟩,
     ⟨(some 31), .load 1 false, [.t 30], none⟩,
     ⟨(some 32), .bin .sub, [.t 28, .t 31], none⟩,
     ⟨(some 4), .mov, [.t 32], none⟩])
   .ret))
theorem chk.volume_box_index : chkF Try.prog 49 = some (33, ir.volume_box_index, [.tmp 4]) := by kernel_rfl

/-- paravane/paravaneref10.places -/
abbrev F.ref10_places : Nat := 51
def ir.ref10_places : IC :=
 (.seq (.reg [⟨(some 2), .box, [.t 0], none⟩,
     ⟨(some 3), .box, [.t 1], none⟩,
     ⟨(some 4), .mov, [.c .nils], none⟩])
   (.seq (.reg [⟨(some 5), .mov, [.c .nils], none⟩])
   (.seq (.seq (.reg [⟨(some 6), .mov, [.c (.int .i64 0)], none⟩])
   (.block 0 (.loop (.seq (.seq (.reg [⟨(some 9), .mov, [.t 6], none⟩,
     ⟨(some 10), .iaddrA 3 1, [.t 3, .c (.int .i64 0)], none⟩,
     ⟨(some 11), .load 1 false, [.t 10], none⟩,
     ⟨(some 12), .bin .lss, [.t 9, .t 11], none⟩])
   (.cond (.t 12) .skip (.exit 0)))
   (.seq (.block 1 (.seq (.reg [⟨(some 7), .mov, [.c (.int .i64 0)], none⟩])
   (.block 2 (.loop (.seq (.seq (.reg [⟨(some 15), .mov, [.t 7], none⟩,
     ⟨(some 16), .iaddrA 3 1, [.t 3, .c (.int .i64 1)], none⟩,
     ⟨(some 17), .load 1 false, [.t 16], none⟩,
     ⟨(some 18), .bin .lss, [.t 15, .t 17], none⟩])
   (.cond (.t 18) .skip (.exit 2)))
   (.seq (.block 3 (.seq (.reg [⟨(some 8), .mov, [.c (.int .i64 0)], none⟩])
   (.block 4 (.loop (.seq (.seq (.reg [⟨(some 21), .mov, [.t 8], none⟩,
     ⟨(some 22), .iaddrA 3 1, [.t 3, .c (.int .i64 2)], none⟩,
     ⟨(some 23), .load 1 false, [.t 22], none⟩,
     ⟨(some 24), .bin .lss, [.t 21, .t 23], none⟩])
   (.cond (.t 24) .skip (.exit 4)))
   (.seq (.block 5 (.reg [⟨(some 27), .mov, [.t 5], none⟩,
     ⟨(some 28), .iaddrA 3 1, [.t 2, .c (.int .i64 0)], none⟩,
     ⟨(some 29), .load 1 false, [.t 28], none⟩,
     ⟨(some 30), .mov, [.t 6], none⟩,
     ⟨(some 31), .bin .add, [.t 29, .t 30], none⟩,
     ⟨(some 32), .iaddrA 3 1, [.t 2, .c (.int .i64 1)], none⟩,
     ⟨(some 33), .load 1 false, [.t 32], none⟩,
     ⟨(some 34), .mov, [.t 7], none⟩,
     ⟨(some 35), .bin .add, [.t 33, .t 34], none⟩,
     ⟨(some 36), .iaddrA 3 1, [.t 2, .c (.int .i64 2)], none⟩,
     ⟨(some 37), .load 1 false, [.t 36], none⟩,
     ⟨(some 38), .mov, [.t 8], none⟩,
     ⟨(some 39), .bin .add, [.t 37, .t 38], none⟩,
     ⟨(some 40), .build [(.int .i64 0), (.int .i64 0), (.int .i64 0)] [(0, 1), (1, 1), (2, 1)], [.t 31, .t 35, .t 39], none⟩,
     ⟨(some 41), .mkslice 3 23, [.t 40], none⟩,
     ⟨(some 42), .append 3 24 23, [.t 27, .t 41], none⟩,
     ⟨(some 5), .mov, [.t 42], none⟩]))
   (.reg [⟨(some 25), .mov, [.t 8], none⟩,
     ⟨(some 26), .bin .add, [.t 25, .c (.int .i64 1)], none⟩,
     ⟨(some 8), .mov, [.t 26], none⟩])))))))
   (.reg [⟨(some 19), .mov, [.t 7], none⟩,
     ⟨(some 20), .bin .add, [.t 19, .c (.int .i64 1)], none⟩,
     ⟨(some 7), .mov, [.t 20], none⟩])))))))
   (.reg [⟨(some 13), .mov, [.t 6], none⟩,
     ⟨(some 14), .bin .add, [.t 13, .c (.int .i64 1)], none⟩,
     ⟨(some 6), .mov, [.t 14], none⟩]))))))
   (.seq (.reg [⟨(some 43), .mov, [.t 5], none⟩,
     ⟨(some 4), .mov, [.t 43], none⟩])
   .ret))))
theorem chk.ref10_places : chkF Try.prog 51 = some (44, ir.ref10_places, [.tmp 4]) := by kernel_rfl

/-- paravane/paravaneref10.box -/
abbrev F.ref10_box : Nat := 53
def ir.ref10_box : IC :=
 (.seq (.reg [⟨(some 2), .box, [.t 0], none⟩,
     ⟨(some 3), .box, [.t 1], none⟩,
     ⟨(some 4), .mov, [.c (.bool false)], none⟩])
   (.seq (.seq (.reg [⟨(some 6), .load 3 true, [.t 2], none⟩,
     ⟨(some 7), .call 94, [.t 6], none⟩,
     ⟨(some 8), .un .not, [.t 7], none⟩])
   (.cond (.t 8) (.seq (.reg [⟨(some 4), .mov, [.c (.bool false)], none⟩])
   .ret) .skip))
   (.seq (.seq (.reg [⟨(some 5), .mov, [.c (.int .i64 0)], none⟩])
   (.block 0 (.loop (.seq (.seq (.reg [⟨(some 9), .mov, [.t 5], none⟩,
     ⟨(some 10), .bin .lss, [.t 9, .c (.int .i64 3)], none⟩])
   (.cond (.t 10) .skip (.exit 0)))
   (.seq (.block 1 (.seq (.draw [0, 1, 3, 7, 15, 31, 63, 127, 255, 63, 575, 1599, 4095, 8191, 16383, 32767] [⟨(some 13), .mov, [.t 5], none⟩,
     ⟨(some 14), .iaddrA 3 1, [.t 3, .t 13], none⟩,
     ⟨(some 15), .load 1 false, [.t 14], none⟩,
     ⟨(some 16), .call 25, [.t 15, .c (.int .i64 1), .c (.int .i64 16)], none⟩,
     ⟨(some 17), .un .not, [.t 16], none⟩,
     ⟨(some 18), .mov, [.t 17], none⟩,
     ⟨(some 19), .mov, [.t 5], (some (18, false))⟩,
     ⟨(some 20), .iaddrA 3 1, [.t 2, .t 19], (some (18, false))⟩,
     ⟨(some 21), .load 1 false, [.t 20], (some (18, false))⟩,
     ⟨(some 22), .mov, [.t 5], (some (18, false))⟩,
     ⟨(some 23), .iaddrA 3 1, [.t 3, .t 22], (some (18, false))⟩,
     ⟨(some 24), .load 1 false, [.t 23], (some (18, false))⟩,
     ⟨(some 25), .bin .add, [.t 21, .t 24], (some (18, false))⟩,
     ⟨(some 26), .bin .sub, [.t 25, .c (.int .i64 1)], (some (18, false))⟩,
     ⟨(some 27), .bin .gtr, [.t 26, .c (.int .i64 64)], (some (18, false))⟩,
     ⟨(some 28), .pick, [.t 18, .c (.bool true), .t 27], none⟩])
   (.cond (.t 28) (.seq (.reg [⟨(some 4), .mov, [.c (.bool false)], none⟩])
   .ret) .skip)))
   (.reg [⟨(some 11), .mov, [.t 5], none⟩,
     ⟨(some 12), .bin .add, [.t 11, .c (.int .i64 1)], none⟩,
     ⟨(some 5), .mov, [.t 12], none⟩]))))))
   (.seq (.reg [⟨(some 29), .iaddrA 3 1, [.t 3, .c (.int .i64 0)], none⟩,
     ⟨(some 30), .load 1 false, [.t 29], none⟩,
     ⟨(some 31), .iaddrA 3 1, [.t 3, .c (.int .i64 1)], none⟩,
     ⟨(some 32), .load 1 false, [.t 31], none⟩,
     ⟨(some 33), .bin .mul, [.t 30, .t 32], none⟩,
     ⟨(some 34), .iaddrA 3 1, [.t 3, .c (.int .i64 2)], none⟩,
     ⟨(some 35), .load 1 false, [.t 34], none⟩,
     ⟨(some 36), .bin .mul, [.t 33, .t 35], none⟩,
     ⟨(some 37), .bin .leq, [.t 36, .c (.int .i64 1024)], none⟩,
     ⟨(some 4), .mov, [.t 37], none⟩])
   .ret))))
theorem chk.ref10_box : chkF Try.prog 53 = some (38, ir.ref10_box, [.tmp 4]) := by kernel_rfl

/-- paravane/volume.ringing -/
abbrev F.volume_ringing : Nat := 54
def ir.volume_ringing : IC :=
 (.seq (.reg [⟨(some 5), .box, [.t 1], none⟩,
     ⟨(some 8), .mov, [.c (.bool false)], none⟩])
   (.seq (.reg [⟨(some 9), .mov, [.t 0], none⟩,
     ⟨(some 10), .len false, [.t 9], none⟩,
     ⟨(some 11), .bin .leq, [.t 10, .c (.int .i64 64)], none⟩,
     ⟨(some 12), .mov, [.t 11], none⟩,
     ⟨(some 13), .mov, [.t 2], (some (12, true))⟩,
     ⟨(some 14), .call 30, [.t 13, .c (.int .i64 1), .c (.int .i64 64)], (some (12, true))⟩,
     ⟨(some 15), .pick, [.t 12, .t 14, .c (.bool false)], none⟩,
     ⟨(some 16), .mov, [.t 15], none⟩,
     ⟨(some 17), .mov, [.t 3], (some (16, true))⟩,
     ⟨(some 18), .call 30, [.t 17, .c (.int .i64 (-63)), .c (.int .i64 63)], (some (16, true))⟩,
     ⟨(some 19), .pick, [.t 16, .t 18, .c (.bool false)], none⟩,
     ⟨(some 20), .mov, [.t 19], none⟩,
     ⟨(some 21), .mov, [.t 0], (some (20, true))⟩,
     ⟨(some 22), .mkfunc (.func 95) 0, [.t 5], (some (20, true))⟩,
     ⟨(some 23), .call 90, [.t 21, .t 22], (some (20, true))⟩,
     ⟨(some 24), .un .not, [.t 23], (some (20, true))⟩,
     ⟨(some 25), .pick, [.t 20, .t 24, .c (.bool false)], none⟩,
     ⟨(some 8), .mov, [.t 25], none⟩])
   .ret))
theorem chk.volume_ringing : chkF Try.prog 54 = some (26, ir.volume_ringing, [.tmp 8]) := by kernel_rfl

/-- paravane/volume.down -/
abbrev F.volume_down : Nat := 55
def ir.volume_down : IC :=
 (.seq (.reg [⟨(some 2), .mov, [.c (.int .i64 0)], none⟩])
   (.seq (.reg [⟨(some 3), .mov, [.t 0], none⟩,
     ⟨(some 4), .bin .shr, [.t 3, .c (.int .u64 6)], none⟩,
     ⟨(some 2), .mov, [.t 4], none⟩])
   .ret))
theorem chk.volume_down : chkF Try.prog 55 = some (5, ir.volume_down, [.tmp 2]) := by kernel_rfl

/-- paravane/volume.sectionOf -/
abbrev F.volume_sectionOf : Nat := 56
def ir.volume_sectionOf : IC :=
 (.seq (.reg [⟨(some 4), .alloc [(.int .i64 0), (.int .i64 0), .nils, (.int .i64 0)], [], none⟩,
     ⟨(some 5), .mov, [.c (.int .i64 0)], none⟩])
   (.seq (.reg [⟨(some 9), .mov, [.t 0], none⟩,
     ⟨(some 10), .call 59, [.t 9], none⟩,
     ⟨(some 8), .mov, [.t 10], none⟩,
     ⟨(some 11), .extract 0, [.t 8], none⟩,
     ⟨(some 12), .extract 1, [.t 8], none⟩,
     ⟨(some 6), .alloc [(.int .i64 0), (.int .i64 0)], [], none⟩,
     ⟨none, .store 2, [.t 6, .t 11], none⟩,
     ⟨(some 7), .mov, [.t 12], none⟩])
   (.seq (.seq (.reg [⟨(some 13), .mov, [.t 7], none⟩,
     ⟨(some 14), .un .not, [.t 13], none⟩,
     ⟨(some 15), .mov, [.t 14], none⟩,
     ⟨(some 16), .iaddrA 2 1, [.t 6, .c (.int .i64 0)], (some (15, false))⟩,
     ⟨(some 17), .load 1 false, [.t 16], (some (15, false))⟩,
     ⟨(some 18), .call 30, [.t 17, .c (.int .i64 1), .c (.int .i64 16)], (some (15, false))⟩,
     ⟨(some 19), .un .not, [.t 18], (some (15, false))⟩,
     ⟨(some 20), .pick, [.t 15, .c (.bool true), .t 19], none⟩,
     ⟨(some 21), .mov, [.t 20], none⟩,
     ⟨(some 22), .iaddrA 2 1, [.t 6, .c (.int .i64 1)], (some (21, false))⟩,
     ⟨(some 23), .load 1 false, [.t 22], (some (21, false))⟩,
     ⟨(some 24), .call 30, [.t 23, .c (.int .i64 1), .c (.int .i64 32)], (some (21, false))⟩,
     ⟨(some 25), .un .not, [.t 24], (some (21, false))⟩,
     ⟨(some 26), .pick, [.t 21, .c (.bool true), .t 25], none⟩,
     ⟨(some 27), .mov, [.t 26], none⟩,
     ⟨(some 28), .mov, [.t 0], (some (27, false))⟩,
     ⟨(some 29), .call 60, [.t 28, .c (.int .i64 1099511627776)], (some (27, false))⟩,
     ⟨(some 30), .un .not, [.t 29], (some (27, false))⟩,
     ⟨(some 31), .pick, [.t 27, .c (.bool true), .t 30], none⟩])
   (.cond (.t 31) (.seq (.reg [⟨(some 32), .build [(.int .i64 0), (.int .i64 0), .nils, (.int .i64 0)] [], [], none⟩,
     ⟨none, .store 4, [.t 4, .t 32], none⟩,
     ⟨(some 5), .mov, [.c (.int .i64 105)], none⟩])
   .ret) .skip))
   (.seq (.seq (.reg [⟨(some 33), .mov, [.t 1], none⟩,
     ⟨(some 34), .call 30, [.t 33, .c (.int .i64 0), .c (.int .i64 32)], none⟩,
     ⟨(some 35), .un .not, [.t 34], none⟩])
   (.cond (.t 35) (.seq (.reg [⟨(some 36), .build [(.int .i64 0), (.int .i64 0), .nils, (.int .i64 0)] [], [], none⟩,
     ⟨none, .store 4, [.t 4, .t 36], none⟩,
     ⟨(some 5), .mov, [.c (.int .i64 7)], none⟩])
   .ret) .skip))
   (.seq (.reg [⟨(some 37), .load 2 true, [.t 6], none⟩,
     ⟨(some 38), .mov, [.t 0], none⟩,
     ⟨(some 39), .mov, [.t 1], none⟩,
     ⟨(some 40), .build [(.int .i64 0), (.int .i64 0), .nils, (.int .i64 0)] [(0, 2), (2, 1), (3, 1)], [.t 37, .t 38, .t 39], none⟩,
     ⟨none, .store 4, [.t 4, .t 40], none⟩,
     ⟨(some 5), .mov, [.c (.int .i64 0)], none⟩])
   .ret)))))
theorem chk.volume_sectionOf : chkF Try.prog 56 = some (41, ir.volume_sectionOf, [.cell 4 112, .tmp 5]) := by kernel_rfl

/-- (paravane/volume.section).worths -/
abbrev F.volume_section_worths : Nat := 57
def ir.volume_section_worths : IC :=
 (.seq (.reg [⟨(some 1), .box, [.t 0], none⟩,
     ⟨(some 2), .mov, [.c .nilm], none⟩])
   (.seq (.reg [⟨(some 6), .mkmap, [], none⟩,
     ⟨(some 3), .alloc [.nilm], [], none⟩,
     ⟨none, .store 1, [.t 3, .t 6], none⟩])
   (.seq (.reg [⟨(some 4), .alloc [.nilf], [], none⟩])
   (.seq (.reg [⟨(some 7), .mkfunc (.func 96) 0, [.t 3, .t 1, .t 4], none⟩,
     ⟨none, .store 1, [.t 4, .t 7], none⟩])
   (.seq (.seq (.reg [⟨(some 8), .faddr 0, [.t 1], none⟩,
     ⟨(some 9), .iaddrA 2 1, [.t 8, .c (.int .i64 1)], none⟩,
     ⟨(some 10), .load 1 false, [.t 9], none⟩,
     ⟨(some 11), .mov, [.c (.int .i64 0)], none⟩])
   (.block 0 (.loop (.seq (.reg [⟨(some 12), .bin .lss, [.t 11, .t 10], none⟩])
   (.seq (.cond (.t 12) .skip (.exit 0))
   (.seq (.block 1 (.seq (.reg [⟨(some 13), .mov, [.t 11], none⟩,
     ⟨(some 5), .mov, [.t 13], none⟩])
   (.reg [⟨(some 14), .load 1 false, [.t 4], none⟩,
     ⟨(some 15), .mov, [.t 5], none⟩,
     ⟨(some 16), .build [(.int .i64 0), (.int .i64 0)] [(0, 1), (1, 1)], [.c (.int .i64 0), .t 15], none⟩,
     ⟨(some 17), .callv, [.t 14, .t 16], none⟩])))
   (.reg [⟨(some 18), .bin .add, [.t 11, .c (.int .i64 1)], none⟩,
     ⟨(some 11), .mov, [.t 18], none⟩])))))))
   (.seq (.reg [⟨(some 19), .load 1 false, [.t 3], none⟩,
     ⟨(some 2), .mov, [.t 19], none⟩])
   .ret))))))
theorem chk.volume_section_worths : chkF Try.prog 57 = some (20, ir.volume_section_worths, [.tmp 2]) := by kernel_rfl

/-- (paravane/volume.section).next -/
abbrev F.volume_section_next : Nat := 58
def ir.volume_section_next : IC :=
 (.seq (.reg [⟨(some 2), .box, [.t 0], none⟩,
     ⟨(some 3), .box, [.t 1], none⟩,
     ⟨(some 4), .mov, [.c .nilf], none⟩])
   (.seq (.reg [⟨(some 5), .mkfunc (.func 97) 0, [.t 3, .t 2], none⟩,
     ⟨(some 4), .mov, [.t 5], none⟩])
   .ret))
theorem chk.volume_section_next : chkF Try.prog 58 = some (6, ir.volume_section_next, [.tmp 4]) := by kernel_rfl

/-- paravane/volume.shapeOf -/
abbrev F.volume_shapeOf : Nat := 59
def ir.volume_shapeOf : IC :=
 (.seq (.reg [⟨(some 1), .box, [.t 0], none⟩,
     ⟨(some 2), .alloc [(.int .i64 0), (.int .i64 0)], [], none⟩,
     ⟨(some 3), .mov, [.c (.bool false)], none⟩])
   (.seq (.seq (.reg [⟨(some 5), .load 1 false, [.t 1], none⟩,
     ⟨(some 6), .len false, [.t 5], none⟩,
     ⟨(some 7), .bin .eql, [.t 6, .c (.int .i64 0)], none⟩])
   (.cond (.t 7) (.seq (.reg [⟨(some 8), .build [(.int .i64 0), (.int .i64 0)] [], [], none⟩,
     ⟨none, .store 2, [.t 2, .t 8], none⟩,
     ⟨(some 3), .mov, [.c (.bool false)], none⟩])
   .ret) .skip))
   (.seq (.reg [⟨(some 9), .load 1 false, [.t 1], none⟩,
     ⟨(some 10), .mkfunc (.func 99) 0, [.t 1], none⟩,
     ⟨(some 11), .call 98, [.t 9, .t 10], none⟩,
     ⟨(some 12), .un .not, [.t 11], none⟩,
     ⟨(some 4), .mov, [.t 12], none⟩])
   (.seq (.draw [0, 1, 0, 4, 12, 28, 63, 0, 127, 511] [⟨(some 13), .load 1 false, [.t 1], none⟩,
     ⟨(some 14), .len false, [.t 13], none⟩,
     ⟨(some 15), .load 1 false, [.t 1], none⟩,
     ⟨(some 16), .iaddrS 1, [.t 15, .c (.int .i64 0)], none⟩,
     ⟨(some 17), .load 1 false, [.t 16], none⟩,
     ⟨(some 18), .len false, [.t 17], none⟩,
     ⟨(some 19), .build [(.int .i64 0), (.int .i64 0)] [(0, 1), (1, 1)], [.t 14, .t 18], none⟩,
     ⟨(some 20), .mov, [.t 4], none⟩,
     ⟨none, .store 2, [.t 2, .t 19], none⟩,
     ⟨(some 3), .mov, [.t 20], none⟩])
   .ret))))
theorem chk.volume_shapeOf : chkF Try.prog 59 = some (21, ir.volume_shapeOf, [.cell 2 110, .tmp 3]) := by kernel_rfl

/-- paravane/volume.numbers -/
abbrev F.volume_numbers : Nat := 60
def ir.volume_numbers : IC :=
 (.seq (.reg [⟨(some 3), .box, [.t 1], none⟩,
     ⟨(some 4), .mov, [.c (.bool false)], none⟩])
   (.seq (.reg [⟨(some 5), .mov, [.t 0], none⟩,
     ⟨(some 6), .mkfunc (.func 100) 0, [.t 3], none⟩,
     ⟨(some 7), .call 98, [.t 5, .t 6], none⟩,
     ⟨(some 8), .un .not, [.t 7], none⟩,
     ⟨(some 4), .mov, [.t 8], none⟩])
   .ret))
theorem chk.volume_numbers : chkF Try.prog 60 = some (9, ir.volume_numbers, [.tmp 4]) := by kernel_rfl

/-- slices.Max[[]int,int] -/
abbrev F.slices_Max_int_int : Nat := 61
def ir.slices_Max_int_int : IC :=
 (.seq (.reg [⟨(some 2), .mov, [.c (.int .i64 0)], none⟩])
   (.seq (.seq (.reg [⟨(some 5), .mov, [.t 0], none⟩,
     ⟨(some 6), .len false, [.t 5], none⟩,
     ⟨(some 7), .bin .lss, [.t 6, .c (.int .i64 1)], none⟩])
   (.cond (.t 7) .bad .skip))
   (.seq (.reg [⟨(some 9), .mov, [.t 0], none⟩,
     ⟨(some 10), .iaddrS 1, [.t 9, .c (.int .i64 0)], none⟩,
     ⟨(some 11), .load 1 false, [.t 10], none⟩,
     ⟨(some 3), .mov, [.t 11], none⟩])
   (.seq (.seq (.reg [⟨(some 4), .mov, [.c (.int .i64 1)], none⟩])
   (.block 0 (.loop (.seq (.seq (.reg [⟨(some 12), .mov, [.t 4], none⟩,
     ⟨(some 13), .mov, [.t 0], none⟩,
     ⟨(some 14), .len false, [.t 13], none⟩,
     ⟨(some 15), .bin .lss, [.t 12, .t 14], none⟩])
   (.cond (.t 15) .skip (.exit 0)))
   (.seq (.block 1 (.reg [⟨(some 18), .mov, [.t 3], none⟩,
     ⟨(some 19), .mov, [.t 0], none⟩,
     ⟨(some 20), .mov, [.t 4], none⟩,
     ⟨(some 21), .iaddrS 1, [.t 19, .t 20], none⟩,
     ⟨(some 22), .load 1 false, [.t 21], none⟩,
     ⟨(some 23), .minmax true, [.t 18, .t 22], none⟩,
     ⟨(some 3), .mov, [.t 23], none⟩]))
   (.reg [⟨(some 16), .mov, [.t 4], none⟩,
     ⟨(some 17), .bin .add, [.t 16, .c (.int .i64 1)], none⟩,
     ⟨(some 4), .mov, [.t 17], none⟩]))))))
   (.seq (.reg [⟨(some 24), .mov, [.t 3], none⟩,
     ⟨(some 2), .mov, [.t 24], none⟩])
   .ret)))))
theorem chk.slices_Max_int_int : chkF Try.prog 61 = some (25, ir.slices_Max_int_int, [.tmp 2]) := by kernel_rfl

/-- paravane/volume.earOf -/
abbrev F.volume_earOf : Nat := 63
def ir.volume_earOf : IC :=
 (.seq (.reg [⟨(some 5), .box, [.t 2], none⟩,
     ⟨(some 6), .alloc [.nils, (.int .i64 0), (.int .i64 0), (.int .i64 0)], [], none⟩,
     ⟨(some 7), .mov, [.c (.int .i64 0)], none⟩])
   (.seq (.seq (.reg [⟨(some 9), .mov, [.t 0], none⟩,
     ⟨(some 10), .call 11, [.t 9], none⟩,
     ⟨(some 8), .mov, [.t 10], none⟩])
   (.seq (.reg [⟨(some 11), .mov, [.t 8], none⟩,
     ⟨(some 12), .bin .neq, [.t 11, .c (.int .i64 0)], none⟩])
   (.cond (.t 12) (.seq (.reg [⟨(some 13), .build [.nils, (.int .i64 0), (.int .i64 0), (.int .i64 0)] [], [], none⟩,
     ⟨(some 14), .mov, [.t 8], none⟩,
     ⟨none, .store 4, [.t 6, .t 13], none⟩,
     ⟨(some 7), .mov, [.t 14], none⟩])
   .ret) .skip)))
   (.seq (.seq (.reg [⟨(some 15), .mov, [.t 1], none⟩,
     ⟨(some 16), .call 30, [.t 15, .c (.int .i64 0), .c (.int .i64 128)], none⟩,
     ⟨(some 17), .un .not, [.t 16], none⟩,
     ⟨(some 18), .mov, [.t 17], none⟩,
     ⟨(some 19), .faddr 0, [.t 5], (some (18, false))⟩,
     ⟨(some 20), .load 1 false, [.t 19], (some (18, false))⟩,
     ⟨(some 21), .bin .lss, [.t 20, .c (.int .i64 0)], (some (18, false))⟩,
     ⟨(some 22), .pick, [.t 18, .c (.bool true), .t 21], none⟩,
     ⟨(some 23), .mov, [.t 22], none⟩,
     ⟨(some 24), .faddr 1, [.t 5], (some (23, false))⟩,
     ⟨(some 25), .load 1 false, [.t 24], (some (23, false))⟩,
     ⟨(some 26), .faddr 0, [.t 5], (some (23, false))⟩,
     ⟨(some 27), .load 1 false, [.t 26], (some (23, false))⟩,
     ⟨(some 28), .call 30, [.t 25, .t 27, .c (.int .i64 4096)], (some (23, false))⟩,
     ⟨(some 29), .un .not, [.t 28], (some (23, false))⟩,
     ⟨(some 30), .pick, [.t 23, .c (.bool true), .t 29], none⟩])
   (.cond (.t 30) (.seq (.reg [⟨(some 31), .build [.nils, (.int .i64 0), (.int .i64 0), (.int .i64 0)] [], [], none⟩,
     ⟨none, .store 4, [.t 6, .t 31], none⟩,
     ⟨(some 7), .mov, [.c (.int .i64 102)], none⟩])
   .ret) .skip))
   (.seq (.reg [⟨(some 32), .mov, [.t 0], none⟩,
     ⟨(some 33), .mov, [.t 1], none⟩,
     ⟨(some 34), .load 2 true, [.t 5], none⟩,
     ⟨(some 35), .build [.nils, (.int .i64 0), (.int .i64 0), (.int .i64 0)] [(0, 1), (1, 1), (2, 2)], [.t 32, .t 33, .t 34], none⟩,
     ⟨none, .store 4, [.t 6, .t 35], none⟩,
     ⟨(some 7), .mov, [.c (.int .i64 0)], none⟩])
   .ret))))
theorem chk.volume_earOf : chkF Try.prog 63 = some (36, ir.volume_earOf, [.cell 6 126, .tmp 7]) := by kernel_rfl

/-- (paravane/volume.ear).named -/
abbrev F.volume_ear_named : Nat := 64
def ir.volume_ear_named : IC :=
 (.seq (.reg [⟨(some 2), .box, [.t 0], none⟩,
     ⟨(some 3), .box, [.t 1], none⟩,
     ⟨(some 4), .mov, [.c .nils], none⟩])
   (.seq (.reg [⟨(some 5), .alloc [.nils], [], none⟩])
   (.seq (.seq (.reg [⟨(some 9), .load 4 true, [.t 2], none⟩,
     ⟨(some 10), .load 3 true, [.t 3], none⟩,
     ⟨(some 11), .call 102, [.t 9, .t 10], none⟩])
   (.block 0 (.range (.t 11) [12, 13] (.seq (.reg [⟨(some 6), .mov, [.t 12], none⟩])
   (.reg [⟨(some 7), .mov, [.t 13], none⟩])) (.block 1 (.seq (.reg [⟨(some 14), .iaddrA 3 1, [.t 3, .c (.int .i64 2)], none⟩,
     ⟨(some 15), .load 1 false, [.t 14], none⟩,
     ⟨(some 16), .mov, [.t 7], none⟩,
     ⟨(some 17), .faddr 2, [.t 2], none⟩,
     ⟨(some 18), .faddr 0, [.t 17], none⟩,
     ⟨(some 19), .load 1 false, [.t 18], none⟩,
     ⟨(some 20), .call 31, [.t 15, .t 16, .t 19], none⟩,
     ⟨(some 8), .mov, [.t 20], none⟩])
   (.seq (.reg [⟨(some 21), .mov, [.t 8], none⟩,
     ⟨(some 22), .faddr 0, [.t 2], none⟩,
     ⟨(some 23), .load 1 false, [.t 22], none⟩,
     ⟨(some 24), .mov, [.t 6], none⟩,
     ⟨(some 25), .iaddrS 3, [.t 23, .t 24], none⟩,
     ⟨(some 26), .faddr 2, [.t 25], none⟩,
     ⟨(some 27), .load 1 false, [.t 26], none⟩,
     ⟨(some 28), .len false, [.t 27], none⟩,
     ⟨(some 29), .bin .lss, [.t 21, .t 28], none⟩])
   (.cond (.t 29) (.reg [⟨(some 30), .load 1 false, [.t 5], none⟩,
     ⟨(some 31), .mov, [.t 6], none⟩,
     ⟨(some 32), .mov, [.t 8], none⟩,
     ⟨(some 33), .build [(.int .i64 0), (.int .i64 0)] [(0, 1), (1, 1)], [.t 31, .t 32], none⟩,
     ⟨(some 34), .mkslice 2 70, [.t 33], none⟩,
     ⟨(some 35), .append 2 16 70, [.t 30, .t 34], none⟩,
     ⟨none, .store 1, [.t 5, .t 35], none⟩]) .skip)))))))
   (.seq (.reg [⟨(some 36), .load 1 false, [.t 5], none⟩,
     ⟨(some 4), .mov, [.t 36], none⟩])
   .ret))))
theorem chk.volume_ear_named : chkF Try.prog 64 = some (37, ir.volume_ear_named, [.tmp 4]) := by kernel_rfl

/-- (paravane/volume.ear).value -/
abbrev F.volume_ear_value : Nat := 65
def ir.volume_ear_value : IC :=
 (.seq (.reg [⟨(some 2), .box, [.t 0], none⟩,
     ⟨(some 3), .box, [.t 1], none⟩,
     ⟨(some 4), .alloc [(.int .i64 0), (.int .i64 0)], [], none⟩])
   (.seq (.reg [⟨(some 5), .build [(.int .i64 0), (.int .i64 0)] [], [], none⟩,
     ⟨(some 6), .mkfunc (.func 104) 0, [.t 2, .t 3], none⟩,
     ⟨(some 7), .call 103, [.t 5, .t 6, .c (.func (.func 105) [] [])], none⟩,
     ⟨none, .store 2, [.t 4, .t 7], none⟩])
   .ret))
theorem chk.volume_ear_value : chkF Try.prog 65 = some (8, ir.volume_ear_value, [.cell 4 56]) := by kernel_rfl

/-- paravane/region.within -/
abbrev F.region_within : Nat := 73
def ir.region_within : IC :=
 (.seq (.reg [⟨(some 6), .mov, [.c (.bool false)], none⟩])
   (.seq (.reg [⟨(some 7), .mov, [.t 0], none⟩,
     ⟨(some 8), .mov, [.t 1], none⟩,
     ⟨(some 9), .bin .geq, [.t 7, .t 8], none⟩,
     ⟨(some 10), .mov, [.t 9], none⟩,
     ⟨(some 11), .mov, [.t 0], (some (10, true))⟩,
     ⟨(some 12), .mov, [.t 2], (some (10, true))⟩,
     ⟨(some 13), .bin .leq, [.t 11, .t 12], (some (10, true))⟩,
     ⟨(some 14), .pick, [.t 10, .t 13, .c (.bool false)], none⟩,
     ⟨(some 6), .mov, [.t 14], none⟩])
   .ret))
theorem chk.region_within : chkF Try.prog 73 = some (15, ir.region_within, [.tmp 6]) := by kernel_rfl

/-- paravane/region.Root -/
abbrev F.region_Root : Nat := 83
def ir.region_Root : IC :=
 (.seq (.reg [⟨(some 2), .mov, [.c (.int .i64 0)], none⟩,
     ⟨(some 3), .mov, [.c (.int .i64 0)], none⟩])
   (.seq (.seq (.reg [⟨(some 4), .mov, [.t 0], none⟩,
     ⟨(some 5), .call 73, [.t 4, .c (.int .i64 0), .c (.int .i64 1099511627776)], none⟩,
     ⟨(some 6), .un .not, [.t 5], none⟩])
   (.cond (.t 6) (.seq (.reg [⟨(some 2), .mov, [.c (.int .i64 0)], none⟩,
     ⟨(some 3), .mov, [.c (.int .i64 7)], none⟩])
   .ret) .skip))
   (.seq (.reg [⟨(some 7), .mov, [.t 0], none⟩,
     ⟨(some 8), .call 110, [.t 7], none⟩,
     ⟨(some 2), .mov, [.t 8], none⟩,
     ⟨(some 3), .mov, [.c (.int .i64 0)], none⟩])
   .ret)))
theorem chk.region_Root : chkF Try.prog 83 = some (9, ir.region_Root, [.tmp 2, .tmp 3]) := by kernel_rfl

/-- paravane/paravaneref01.Root -/
abbrev F.ref01_Root : Nat := 84
def ir.ref01_Root : IC :=
 (.seq (.reg [⟨(some 2), .mov, [.c (.int .i64 0)], none⟩,
     ⟨(some 3), .mov, [.c (.int .i64 0)], none⟩])
   (.seq (.seq (.reg [⟨(some 7), .mov, [.t 0], none⟩,
     ⟨(some 8), .call 25, [.t 7, .c (.int .i64 0), .c (.int .i64 1099511627776)], none⟩,
     ⟨(some 9), .un .not, [.t 8], none⟩])
   (.cond (.t 9) (.seq (.reg [⟨(some 2), .mov, [.c (.int .i64 0)], none⟩,
     ⟨(some 3), .mov, [.c (.int .i64 7)], none⟩])
   .ret) .skip))
   (.seq (.reg [⟨(some 4), .mov, [.c (.int .i64 0)], none⟩,
     ⟨(some 5), .mov, [.c (.int .i64 2097152)], none⟩])
   (.seq (.block 0 (.loop (.seq (.seq (.reg [⟨(some 10), .mov, [.t 5], none⟩,
     ⟨(some 11), .mov, [.t 4], none⟩,
     ⟨(some 12), .bin .sub, [.t 10, .t 11], none⟩,
     ⟨(some 13), .bin .gtr, [.t 12, .c (.int .i64 1)], none⟩])
   (.cond (.t 13) .skip (.exit 0)))
   (.block 1 (.seq (.reg [⟨(some 14), .mov, [.t 4], none⟩,
     ⟨(some 15), .mov, [.t 5], none⟩,
     ⟨(some 16), .bin .add, [.t 14, .t 15], none⟩,
     ⟨(some 17), .bin .quo, [.t 16, .c (.int .i64 2)], none⟩,
     ⟨(some 6), .mov, [.t 17], none⟩])
   (.seq (.reg [⟨(some 18), .mov, [.t 6], none⟩,
     ⟨(some 19), .mov, [.t 6], none⟩,
     ⟨(some 20), .bin .mul, [.t 18, .t 19], none⟩,
     ⟨(some 21), .mov, [.t 0], none⟩,
     ⟨(some 22), .bin .leq, [.t 20, .t 21], none⟩])
   (.cond (.t 22) (.reg [⟨(some 23), .mov, [.t 6], none⟩,
     ⟨(some 4), .mov, [.t 23], none⟩]) (.reg [⟨(some 24), .mov, [.t 6], none⟩,
     ⟨(some 5), .mov, [.t 24], none⟩]))))))))
   (.seq (.reg [⟨(some 25), .mov, [.t 4], none⟩,
     ⟨(some 2), .mov, [.t 25], none⟩,
     ⟨(some 3), .mov, [.c (.int .i64 0)], none⟩])
   .ret)))))
theorem chk.ref01_Root : chkF Try.prog 84 = some (26, ir.ref01_Root, [.tmp 2, .tmp 3]) := by kernel_rfl

/-- slices.IndexFunc[[]paravane/api.Bound,paravane/api.Bound] -/
abbrev F.slices_IndexFunc_api_Bound_api_Bound : Nat := 85
def ir.slices_IndexFunc_api_Bound_api_Bound : IC :=
 (.seq (.reg [⟨(some 4), .mov, [.c (.int .i64 0)], none⟩])
   (.seq (.seq (.reg [⟨(some 6), .mov, [.t 0], none⟩,
     ⟨(some 7), .len false, [.t 6], none⟩,
     ⟨(some 8), .mov, [.c (.int .i64 0)], none⟩])
   (.block 0 (.loop (.seq (.reg [⟨(some 9), .bin .lss, [.t 8, .t 7], none⟩])
   (.seq (.cond (.t 9) .skip (.exit 0))
   (.seq (.block 1 (.seq (.reg [⟨(some 10), .mov, [.t 8], none⟩,
     ⟨(some 5), .mov, [.t 10], none⟩])
   (.seq (.reg [⟨(some 11), .mov, [.t 1], none⟩,
     ⟨(some 12), .mov, [.t 0], none⟩,
     ⟨(some 13), .mov, [.t 5], none⟩,
     ⟨(some 14), .iaddrS 2, [.t 12, .t 13], none⟩,
     ⟨(some 15), .load 2 true, [.t 14], none⟩,
     ⟨(some 16), .callv, [.t 11, .t 15], none⟩])
   (.cond (.t 16) (.seq (.reg [⟨(some 17), .mov, [.t 5], none⟩,
     ⟨(some 4), .mov, [.t 17], none⟩])
   .ret) .skip))))
   (.reg [⟨(some 18), .bin .add, [.t 8, .c (.int .i64 1)], none⟩,
     ⟨(some 8), .mov, [.t 18], none⟩])))))))
   (.seq (.reg [⟨(some 4), .mov, [.c (.int .i64 (-1))], none⟩])
   .ret)))
theorem chk.slices_IndexFunc_api_Bound_api_Bound : chkF Try.prog 85 = some (19, ir.slices_IndexFunc_api_Bound_api_Bound, [.tmp 4]) := by kernel_rfl

/-- paravane/paravanelaw10.sure -/
abbrev F.law10_sure : Nat := 86
def ir.law10_sure : IC :=
 (.seq (.reg [⟨(some 2), .mov, [.c .nils], none⟩])
   (.seq (.reg [⟨(some 3), .mov, [.c .nils], none⟩])
   (.seq (.seq (.reg [⟨(some 4), .mov, [.c (.int .i64 0)], none⟩])
   (.block 0 (.loop (.seq (.seq (.reg [⟨(some 5), .mov, [.t 4], none⟩,
     ⟨(some 6), .mov, [.t 0], none⟩,
     ⟨(some 7), .len false, [.t 6], none⟩,
     ⟨(some 8), .bin .lss, [.t 5, .t 7], none⟩])
   (.cond (.t 8) .skip (.exit 0)))
   (.seq (.block 1 (.draw [0, 0, 0, 6, 14, 0, 0, 96, 224, 510, 1022, 2047, 4095] [⟨(some 11), .mov, [.t 3], none⟩,
     ⟨(some 12), .mov, [.t 0], none⟩,
     ⟨(some 13), .mov, [.t 4], none⟩,
     ⟨(some 14), .iaddrS 1, [.t 12, .t 13], none⟩,
     ⟨(some 15), .load 1 false, [.t 14], none⟩,
     ⟨(some 16), .mov, [.t 0], none⟩,
     ⟨(some 17), .mov, [.t 4], none⟩,
     ⟨(some 18), .iaddrS 1, [.t 16, .t 17], none⟩,
     ⟨(some 19), .load 1 false, [.t 18], none⟩,
     ⟨(some 20), .build [(.int .i64 0), (.int .i64 0)] [(0, 1), (1, 1)], [.t 15, .t 19], none⟩,
     ⟨(some 21), .mkslice 2 56, [.t 20], none⟩,
     ⟨(some 22), .append 2 16 56, [.t 11, .t 21], none⟩,
     ⟨(some 3), .mov, [.t 22], none⟩]))
   (.reg [⟨(some 9), .mov, [.t 4], none⟩,
     ⟨(some 10), .bin .add, [.t 9, .c (.int .i64 1)], none⟩,
     ⟨(some 4), .mov, [.t 10], none⟩]))))))
   (.seq (.reg [⟨(some 23), .mov, [.t 3], none⟩,
     ⟨(some 2), .mov, [.t 23], none⟩])
   .ret))))
theorem chk.law10_sure : chkF Try.prog 86 = some (24, ir.law10_sure, [.tmp 2]) := by kernel_rfl

/-- paravane/volume.image -/
abbrev F.volume_image : Nat := 87
def ir.volume_image : IC :=
 (.seq (.reg [⟨(some 3), .box, [.t 0], none⟩,
     ⟨(some 4), .box, [.t 1], none⟩,
     ⟨(some 5), .box, [.t 2], none⟩,
     ⟨(some 6), .alloc [(.int .i64 0), (.int .i64 0), (.int .i64 0), (.int .i64 0), (.int .i64 0), (.int .i64 0), .nils], [], none⟩,
     ⟨(some 7), .mov, [.c (.int .i64 0)], none⟩])
   (.seq (.reg [⟨(some 11), .load 3 true, [.t 3], none⟩,
     ⟨(some 12), .load 3 true, [.t 4], none⟩,
     ⟨(some 13), .build [(.int .i64 0), (.int .i64 0), (.int .i64 0), (.int .i64 0), (.int .i64 0), (.int .i64 0)] [(0, 3), (3, 3)], [.t 11, .t 12], none⟩,
     ⟨(some 8), .alloc [(.int .i64 0), (.int .i64 0), (.int .i64 0), (.int .i64 0), (.int .i64 0), (.int .i64 0)], [], none⟩,
     ⟨none, .store 6, [.t 8, .t 13], none⟩])
   (.seq (.seq (.reg [⟨(some 14), .load 6 true, [.t 8], none⟩,
     ⟨(some 15), .call 89, [.t 14], none⟩,
     ⟨(some 16), .un .not, [.t 15], none⟩])
   (.cond (.t 16) (.seq (.reg [⟨(some 17), .build [(.int .i64 0), (.int .i64 0), (.int .i64 0), (.int .i64 0), (.int .i64 0), (.int .i64 0), .nils] [], [], none⟩,
     ⟨none, .store 7, [.t 6, .t 17], none⟩,
     ⟨(some 7), .mov, [.c (.int .i64 102)], none⟩])
   .ret) .skip))
   (.seq (.reg [⟨(some 18), .load 3 true, [.t 3], none⟩,
     ⟨(some 19), .load 3 true, [.t 4], none⟩,
     ⟨(some 20), .build [(.int .i64 0), (.int .i64 0), (.int .i64 0), (.int .i64 0), (.int .i64 0), (.int .i64 0), .nils] [(0, 3), (3, 3)], [.t 18, .t 19], none⟩,
     ⟨(some 9), .alloc [(.int .i64 0), (.int .i64 0), (.int .i64 0), (.int .i64 0), (.int .i64 0), (.int .i64 0), .nils], [], none⟩,
     ⟨none, .store 7, [.t 9, .t 20], none⟩])
   (.seq (.seq (.reg [⟨(some 21), .load 6 true, [.t 8], none⟩,
     ⟨(some 22), .call 47, [.t 21], none⟩])
   (.block 0 (.range (.t 22) [23] (.reg [⟨(some 10), .alloc [(.int .i64 0), (.int .i64 0), (.int .i64 0)], [], none⟩,
     ⟨none, .store 3, [.t 10, .t 23], none⟩]) (.block 1 (.draw [0, 1, 0, 0, 12, 28, 63, 127, 255] [⟨(some 24), .faddr 6, [.t 9], none⟩,
     ⟨(some 25), .load 1 false, [.t 24], none⟩,
     ⟨(some 26), .load 1 false, [.t 5], none⟩,
     ⟨(some 27), .load 3 true, [.t 10], none⟩,
     ⟨(some 28), .callv, [.t 26, .t 27], none⟩,
     ⟨(some 29), .mkslice 2 56, [.t 28], none⟩,
     ⟨(some 30), .append 2 16 56, [.t 25, .t 29], none⟩,
     ⟨(some 31), .faddr 6, [.t 9], none⟩,
     ⟨none, .store 1, [.t 31, .t 30], none⟩])))))
   (.seq (.reg [⟨(some 32), .load 7 true, [.t 9], none⟩,
     ⟨none, .store 7, [.t 6, .t 32], none⟩,
     ⟨(some 7), .mov, [.c (.int .i64 0)], none⟩])
   .ret))))))
theorem chk.volume_image : chkF Try.prog 87 = some (33, ir.volume_image, [.cell 6 84, .tmp 7]) := by kernel_rfl

/-- (paravane/volume.ear).enclosure -/
abbrev F.volume_ear_enclosure : Nat := 88
def ir.volume_ear_enclosure : IC :=
 (.seq (.reg [⟨(some 2), .box, [.t 0], none⟩,
     ⟨(some 3), .box, [.t 1], none⟩,
     ⟨(some 4), .alloc [(.int .i64 0), (.int .i64 0)], [], none⟩])
   (.seq (.reg [⟨(some 5), .build [(.int .i64 0), (.int .i64 0)] [], [], none⟩,
     ⟨(some 6), .mkfunc (.func 111) 0, [.t 2, .t 3], none⟩,
     ⟨(some 7), .call 103, [.t 5, .t 6, .c (.func (.func 105) [] [])], none⟩,
     ⟨none, .store 2, [.t 4, .t 7], none⟩])
   .ret))
theorem chk.volume_ear_enclosure : chkF Try.prog 88 = some (8, ir.volume_ear_enclosure, [.cell 4 56]) := by kernel_rfl

/-- (paravane/volume.box).valid -/
abbrev F.volume_box_valid : Nat := 89
def ir.volume_box_valid : IC :=
 (.seq (.reg [⟨(some 1), .box, [.t 0], none⟩,
     ⟨(some 2), .mov, [.c (.bool false)], none⟩])
   (.seq (.reg [⟨(some 3), .load 6 true, [.t 1], none⟩,
     ⟨(some 4), .call 46, [.t 3], none⟩,
     ⟨(some 5), .mov, [.t 4], none⟩,
     ⟨(some 6), .faddr 0, [.t 1], (some (5, true))⟩,
     ⟨(some 7), .load 3 true, [.t 6], (some (5, true))⟩,
     ⟨(some 8), .call 36, [.t 7], (some (5, true))⟩,
     ⟨(some 9), .pick, [.t 5, .t 8, .c (.bool false)], none⟩,
     ⟨(some 10), .mov, [.t 9], none⟩,
     ⟨(some 11), .load 6 true, [.t 1], (some (10, true))⟩,
     ⟨(some 12), .call 92, [.t 11], (some (10, true))⟩,
     ⟨(some 13), .call 36, [.t 12], (some (10, true))⟩,
     ⟨(some 14), .pick, [.t 10, .t 13, .c (.bool false)], none⟩,
     ⟨(some 2), .mov, [.t 14], none⟩])
   .ret))
theorem chk.volume_box_valid : chkF Try.prog 89 = some (15, ir.volume_box_valid, [.tmp 2]) := by kernel_rfl

/-- slices.ContainsFunc[[]int,int] -/
abbrev F.slices_ContainsFunc_int_int : Nat := 90
def ir.slices_ContainsFunc_int_int : IC :=
 (.seq (.reg [⟨(some 4), .mov, [.c (.bool false)], none⟩])
   (.seq (.reg [⟨(some 5), .mov, [.t 0], none⟩,
     ⟨(some 6), .mov, [.t 1], none⟩,
     ⟨(some 7), .call 113, [.t 5, .t 6], none⟩,
     ⟨(some 8), .bin .geq, [.t 7, .c (.int .i64 0)], none⟩,
     ⟨(some 4), .mov, [.t 8], none⟩])
   .ret))
theorem chk.slices_ContainsFunc_int_int : chkF Try.prog 90 = some (9, ir.slices_ContainsFunc_int_int, [.tmp 4]) := by kernel_rfl

/-- paravane/volume.blockOf$1 -/
abbrev F.volume_blockOf_1 : Nat := 91
def ir.volume_blockOf_1 : IC :=
 (.seq (.reg [⟨(some 2), .mov, [.c (.bool false)], none⟩])
   (.seq (.reg [⟨(some 3), .mov, [.t 0], none⟩,
     ⟨(some 4), .call 30, [.t 3, .c (.int .i64 (-1099511627776)), .c (.int .i64 1099511627776)], none⟩,
     ⟨(some 5), .un .not, [.t 4], none⟩,
     ⟨(some 2), .mov, [.t 5], none⟩])
   .ret))
theorem chk.volume_blockOf_1 : chkF Try.prog 91 = some (6, ir.volume_blockOf_1, [.tmp 2]) := by kernel_rfl

/-- (paravane/volume.box).last -/
abbrev F.volume_box_last : Nat := 92
def ir.volume_box_last : IC :=
 (.seq (.reg [⟨(some 1), .box, [.t 0], none⟩,
     ⟨(some 2), .alloc [(.int .i64 0), (.int .i64 0), (.int .i64 0)], [], none⟩])
   (.seq (.reg [⟨(some 3), .alloc [(.int .i64 0), (.int .i64 0), (.int .i64 0)], [], none⟩])
   (.seq (.seq (.reg [⟨(some 5), .mov, [.c (.int .i64 0)], none⟩])
   (.block 0 (.loop (.seq (.reg [⟨(some 6), .bin .lss, [.t 5, .c (.int .i64 3)], none⟩])
   (.seq (.cond (.t 6) .skip (.exit 0))
   (.seq (.block 1 (.seq (.reg [⟨(some 7), .mov, [.t 5], none⟩,
     ⟨(some 4), .mov, [.t 7], none⟩])
   (.draw [0, 0, 0, 6, 14, 0, 0, 96, 224, 510, 1022, 2047, 4095] [⟨(some 8), .mov, [.t 4], none⟩,
     ⟨(some 9), .mov, [.t 4], none⟩,
     ⟨(some 10), .faddr 0, [.t 1], none⟩,
     ⟨(some 11), .iaddrA 3 1, [.t 10, .t 9], none⟩,
     ⟨(some 12), .load 1 false, [.t 11], none⟩,
     ⟨(some 13), .mov, [.t 4], none⟩,
     ⟨(some 14), .faddr 3, [.t 1], none⟩,
     ⟨(some 15), .iaddrA 3 1, [.t 14, .t 13], none⟩,
     ⟨(some 16), .load 1 false, [.t 15], none⟩,
     ⟨(some 17), .bin .add, [.t 12, .t 16], none⟩,
     ⟨(some 18), .bin .sub, [.t 17, .c (.int .i64 1)], none⟩,
     ⟨(some 19), .iaddrA 3 1, [.t 3, .t 8], none⟩,
     ⟨none, .store 1, [.t 19, .t 18], none⟩])))
   (.reg [⟨(some 20), .bin .add, [.t 5, .c (.int .i64 1)], none⟩,
     ⟨(some 5), .mov, [.t 20], none⟩])))))))
   (.seq (.reg [⟨(some 21), .load 3 true, [.t 3], none⟩,
     ⟨none, .store 3, [.t 2, .t 21], none⟩])
   .ret))))
theorem chk.volume_box_last : chkF Try.prog 92 = some (22, ir.volume_box_last, [.cell 2 81]) := by kernel_rfl

/-- (paravane/volume.box).cells$1 -/
abbrev F.volume_box_cells_1 : Nat := 93
def ir.volume_box_cells_1 : IC :=
 (.seq (.reg [⟨(some 6), .faddr 3, [.t 1], none⟩,
     ⟨(some 7), .iaddrA 3 1, [.t 6, .c (.int .i64 0)], none⟩,
     ⟨(some 8), .load 1 false, [.t 7], none⟩,
     ⟨(some 9), .mov, [.c (.int .i64 0)], none⟩])
   (.block 0 (.loop (.seq (.reg [⟨(some 10), .bin .lss, [.t 9, .t 8], none⟩])
   (.seq (.cond (.t 10) .skip (.exit 0))
   (.seq (.block 1 (.seq (.reg [⟨(some 11), .mov, [.t 9], none⟩,
     ⟨(some 3), .mov, [.t 11], none⟩])
   (.seq (.reg [⟨(some 12), .faddr 3, [.t 1], none⟩,
     ⟨(some 13), .iaddrA 3 1, [.t 12, .c (.int .i64 1)], none⟩,
     ⟨(some 14), .load 1 false, [.t 13], none⟩,
     ⟨(some 15), .mov, [.c (.int .i64 0)], none⟩])
   (.block 2 (.loop (.seq (.reg [⟨(some 16), .bin .lss, [.t 15, .t 14], none⟩])
   (.seq (.cond (.t 16) .skip (.exit 2))
   (.seq (.block 3 (.seq (.reg [⟨(some 17), .mov, [.t 15], none⟩,
     ⟨(some 4), .mov, [.t 17], none⟩])
   (.seq (.reg [⟨(some 18), .faddr 3, [.t 1], none⟩,
     ⟨(some 19), .iaddrA 3 1, [.t 18, .c (.int .i64 2)], none⟩,
     ⟨(some 20), .load 1 false, [.t 19], none⟩,
     ⟨(some 21), .mov, [.c (.int .i64 0)], none⟩])
   (.block 4 (.loop (.seq (.reg [⟨(some 22), .bin .lss, [.t 21, .t 20], none⟩])
   (.seq (.cond (.t 22) .skip (.exit 4))
   (.seq (.block 5 (.seq (.reg [⟨(some 23), .mov, [.t 21], none⟩,
     ⟨(some 5), .mov, [.t 23], none⟩])
   (.seq (.reg [⟨(some 24), .mov, [.t 0], none⟩,
     ⟨(some 25), .faddr 0, [.t 1], none⟩,
     ⟨(some 26), .iaddrA 3 1, [.t 25, .c (.int .i64 0)], none⟩,
     ⟨(some 27), .load 1 false, [.t 26], none⟩,
     ⟨(some 28), .mov, [.t 3], none⟩,
     ⟨(some 29), .bin .add, [.t 27, .t 28], none⟩,
     ⟨(some 30), .faddr 0, [.t 1], none⟩,
     ⟨(some 31), .iaddrA 3 1, [.t 30, .c (.int .i64 1)], none⟩,
     ⟨(some 32), .load 1 false, [.t 31], none⟩,
     ⟨(some 33), .mov, [.t 4], none⟩,
     ⟨(some 34), .bin .add, [.t 32, .t 33], none⟩,
     ⟨(some 35), .faddr 0, [.t 1], none⟩,
     ⟨(some 36), .iaddrA 3 1, [.t 35, .c (.int .i64 2)], none⟩,
     ⟨(some 37), .load 1 false, [.t 36], none⟩,
     ⟨(some 38), .mov, [.t 5], none⟩,
     ⟨(some 39), .bin .add, [.t 37, .t 38], none⟩,
     ⟨(some 40), .build [(.int .i64 0), (.int .i64 0), (.int .i64 0)] [(0, 1), (1, 1), (2, 1)], [.t 29, .t 34, .t 39], none⟩,
     ⟨(some 41), .callv, [.t 24, .t 40], none⟩,
     ⟨(some 42), .un .not, [.t 41], none⟩])
   (.cond (.t 42) .ret .skip))))
   (.reg [⟨(some 43), .bin .add, [.t 21, .c (.int .i64 1)], none⟩,
     ⟨(some 21), .mov, [.t 43], none⟩])))))))))
   (.reg [⟨(some 44), .bin .add, [.t 15, .c (.int .i64 1)], none⟩,
     ⟨(some 15), .mov, [.t 44], none⟩])))))))))
   (.reg [⟨(some 45), .bin .add, [.t 9, .c (.int .i64 1)], none⟩,
     ⟨(some 9), .mov, [.t 45], none⟩])))))))
theorem chk.volume_box_cells_1 : chkF Try.prog 93 = some (46, ir.volume_box_cells_1, []) := by kernel_rfl

/-- paravane/paravaneref10.grid -/
abbrev F.ref10_grid : Nat := 94
def ir.ref10_grid : IC :=
 (.seq (.reg [⟨(some 1), .box, [.t 0], none⟩,
     ⟨(some 2), .mov, [.c (.bool false)], none⟩])
   (.seq (.reg [⟨(some 3), .iaddrA 3 1, [.t 1, .c (.int .i64 0)], none⟩,
     ⟨(some 4), .load 1 false, [.t 3], none⟩,
     ⟨(some 5), .call 25, [.t 4, .c (.int .i64 (-64)), .c (.int .i64 64)], none⟩,
     ⟨(some 6), .mov, [.t 5], none⟩,
     ⟨(some 7), .iaddrA 3 1, [.t 1, .c (.int .i64 1)], (some (6, true))⟩,
     ⟨(some 8), .load 1 false, [.t 7], (some (6, true))⟩,
     ⟨(some 9), .call 25, [.t 8, .c (.int .i64 (-64)), .c (.int .i64 64)], (some (6, true))⟩,
     ⟨(some 10), .pick, [.t 6, .t 9, .c (.bool false)], none⟩,
     ⟨(some 11), .mov, [.t 10], none⟩,
     ⟨(some 12), .iaddrA 3 1, [.t 1, .c (.int .i64 2)], (some (11, true))⟩,
     ⟨(some 13), .load 1 false, [.t 12], (some (11, true))⟩,
     ⟨(some 14), .call 25, [.t 13, .c (.int .i64 0), .c (.int .i64 64)], (some (11, true))⟩,
     ⟨(some 15), .pick, [.t 11, .t 14, .c (.bool false)], none⟩,
     ⟨(some 2), .mov, [.t 15], none⟩])
   .ret))
theorem chk.ref10_grid : chkF Try.prog 94 = some (16, ir.ref10_grid, [.tmp 2]) := by kernel_rfl

/-- paravane/volume.ringing$1 -/
abbrev F.volume_ringing_1 : Nat := 95
def ir.volume_ringing_1 : IC :=
 (.seq (.reg [⟨(some 3), .mov, [.c (.bool false)], none⟩])
   (.seq (.reg [⟨(some 4), .mov, [.t 0], none⟩,
     ⟨(some 5), .load 1 false, [.t 1], none⟩,
     ⟨(some 6), .un .neg, [.t 5], none⟩,
     ⟨(some 7), .load 1 false, [.t 1], none⟩,
     ⟨(some 8), .call 30, [.t 4, .t 6, .t 7], none⟩,
     ⟨(some 9), .un .not, [.t 8], none⟩,
     ⟨(some 3), .mov, [.t 9], none⟩])
   .ret))
theorem chk.volume_ringing_1 : chkF Try.prog 95 = some (10, ir.volume_ringing_1, [.tmp 3]) := by kernel_rfl

/-- (paravane/volume.section).worths$1 -/
abbrev F.volume_section_worths_1 : Nat := 96
def ir.volume_section_worths_1 : IC :=
 (.seq (.reg [⟨(some 4), .box, [.t 0], none⟩,
     ⟨(some 5), .mov, [.c (.int .i64 0)], none⟩])
   (.seq (.seq (.reg [⟨(some 13), .load 1 false, [.t 1], none⟩,
     ⟨(some 14), .load 2 true, [.t 4], none⟩,
     ⟨(some 15), .lookup true, [.t 13, .t 14], none⟩,
     ⟨(some 12), .mov, [.t 15], none⟩,
     ⟨(some 16), .extract 0, [.t 12], none⟩,
     ⟨(some 17), .extract 1, [.t 12], none⟩,
     ⟨(some 6), .mov, [.t 16], none⟩,
     ⟨(some 7), .mov, [.t 17], none⟩])
   (.seq (.reg [⟨(some 18), .mov, [.t 7], none⟩])
   (.cond (.t 18) (.seq (.reg [⟨(some 19), .mov, [.t 6], none⟩,
     ⟨(some 5), .mov, [.t 19], none⟩])
   .ret) .skip)))
   (.seq (.reg [⟨(some 8), .alloc [(.int .i64 0)], [], none⟩,
     ⟨(some 9), .alloc [(.bool false)], [], none⟩,
     ⟨none, .store 1, [.t 8, .c (.int .i64 0)], none⟩,
     ⟨none, .store 1, [.t 9, .c (.bool false)], none⟩])
   (.seq (.seq (.reg [⟨(some 20), .load 4 true, [.t 2], none⟩,
     ⟨(some 21), .load 2 true, [.t 4], none⟩,
     ⟨(some 22), .call 58, [.t 20, .t 21], none⟩])
   (.block 0 (.range (.t 22) [23] (.reg [⟨(some 10), .alloc [(.int .i64 0), (.int .i64 0)], [], none⟩,
     ⟨none, .store 2, [.t 10, .t 23], none⟩]) (.block 1 (.seq (.reg [⟨(some 24), .load 1 false, [.t 3], none⟩,
     ⟨(some 25), .load 2 true, [.t 10], none⟩,
     ⟨(some 26), .callv, [.t 24, .t 25], none⟩,
     ⟨(some 11), .mov, [.t 26], none⟩])
   (.seq (.reg [⟨(some 27), .load 1 false, [.t 9], none⟩,
     ⟨(some 28), .un .not, [.t 27], none⟩,
     ⟨(some 29), .mov, [.t 28], none⟩,
     ⟨(some 30), .mov, [.t 11], (some (29, false))⟩,
     ⟨(some 31), .load 1 false, [.t 8], (some (29, false))⟩,
     ⟨(some 32), .bin .gtr, [.t 30, .t 31], (some (29, false))⟩,
     ⟨(some 33), .pick, [.t 29, .c (.bool true), .t 32], none⟩])
   (.cond (.t 33) (.reg [⟨(some 34), .mov, [.t 11], none⟩,
     ⟨none, .store 1, [.t 8, .t 34], none⟩,
     ⟨none, .store 1, [.t 9, .c (.bool true)], none⟩]) .skip)))))))
   (.seq (.draw [0, 0, 0, 4, 0, 16, 60, 124, 0, 256, 1020, 2044, 0, 8188, 16383] [⟨(some 35), .load 1 false, [.t 1], none⟩,
     ⟨(some 36), .load 2 true, [.t 4], none⟩,
     ⟨(some 37), .faddr 2, [.t 2], none⟩,
     ⟨(some 38), .load 1 false, [.t 37], none⟩,
     ⟨(some 39), .faddr 0, [.t 4], none⟩,
     ⟨(some 40), .load 1 false, [.t 39], none⟩,
     ⟨(some 41), .iaddrS 1, [.t 38, .t 40], none⟩,
     ⟨(some 42), .load 1 false, [.t 41], none⟩,
     ⟨(some 43), .faddr 1, [.t 4], none⟩,
     ⟨(some 44), .load 1 false, [.t 43], none⟩,
     ⟨(some 45), .iaddrS 1, [.t 42, .t 44], none⟩,
     ⟨(some 46), .load 1 false, [.t 45], none⟩,
     ⟨(some 47), .load 1 false, [.t 8], none⟩,
     ⟨(some 48), .bin .add, [.t 46, .t 47], none⟩,
     ⟨none, .mapup, [.t 35, .t 36, .t 48], none⟩])
   (.seq (.reg [⟨(some 49), .load 1 false, [.t 1], none⟩,
     ⟨(some 50), .load 2 true, [.t 4], none⟩,
     ⟨(some 51), .lookup false, [.t 49, .t 50], none⟩,
     ⟨(some 5), .mov, [.t 51], none⟩])
   .ret))))))
theorem chk.volume_section_worths_1 : chkF Try.prog 96 = some (52, ir.volume_section_worths_1, [.tmp 5]) := by kernel_rfl

/-- (paravane/volume.section).next$1 -/
abbrev F.volume_section_next_1 : Nat := 97
def ir.volume_section_next_1 : IC :=
 (.seq (.seq (.reg [⟨(some 5), .faddr 0, [.t 1], none⟩,
     ⟨(some 6), .load 1 false, [.t 5], none⟩,
     ⟨(some 7), .bin .add, [.t 6, .c (.int .i64 1)], none⟩,
     ⟨(some 8), .faddr 0, [.t 2], none⟩,
     ⟨(some 9), .iaddrA 2 1, [.t 8, .c (.int .i64 0)], none⟩,
     ⟨(some 10), .load 1 false, [.t 9], none⟩,
     ⟨(some 11), .bin .eql, [.t 7, .t 10], none⟩])
   (.cond (.t 11) .ret .skip))
   (.seq (.reg [⟨(some 12), .faddr 1, [.t 1], none⟩,
     ⟨(some 13), .load 1 false, [.t 12], none⟩,
     ⟨(some 14), .faddr 3, [.t 2], none⟩,
     ⟨(some 15), .load 1 false, [.t 14], none⟩,
     ⟨(some 16), .bin .sub, [.t 13, .t 15], none⟩,
     ⟨(some 17), .minmax true, [.c (.int .i64 0), .t 16], none⟩,
     ⟨(some 4), .mov, [.t 17], none⟩])
   (.block 0 (.loop (.seq (.seq (.reg [⟨(some 18), .mov, [.t 4], none⟩,
     ⟨(some 19), .faddr 0, [.t 2], none⟩,
     ⟨(some 20), .iaddrA 2 1, [.t 19, .c (.int .i64 1)], none⟩,
     ⟨(some 21), .load 1 false, [.t 20], none⟩,
     ⟨(some 22), .bin .sub, [.t 21, .c (.int .i64 1)], none⟩,
     ⟨(some 23), .faddr 1, [.t 1], none⟩,
     ⟨(some 24), .load 1 false, [.t 23], none⟩,
     ⟨(some 25), .faddr 3, [.t 2], none⟩,
     ⟨(some 26), .load 1 false, [.t 25], none⟩,
     ⟨(some 27), .bin .add, [.t 24, .t 26], none⟩,
     ⟨(some 28), .minmax false, [.t 22, .t 27], none⟩,
     ⟨(some 29), .bin .leq, [.t 18, .t 28], none⟩])
   (.cond (.t 29) .skip (.exit 0)))
   (.seq (.block 1 (.seq (.reg [⟨(some 32), .mov, [.t 0], none⟩,
     ⟨(some 33), .faddr 0, [.t 1], none⟩,
     ⟨(some 34), .load 1 false, [.t 33], none⟩,
     ⟨(some 35), .bin .add, [.t 34, .c (.int .i64 1)], none⟩,
     ⟨(some 36), .mov, [.t 4], none⟩,
     ⟨(some 37), .build [(.int .i64 0), (.int .i64 0)] [(0, 1), (1, 1)], [.t 35, .t 36], none⟩,
     ⟨(some 38), .callv, [.t 32, .t 37], none⟩,
     ⟨(some 39), .un .not, [.t 38], none⟩])
   (.cond (.t 39) .ret .skip)))
   (.reg [⟨(some 30), .mov, [.t 4], none⟩,
     ⟨(some 31), .bin .add, [.t 30, .c (.int .i64 1)], none⟩,
     ⟨(some 4), .mov, [.t 31], none⟩])))))))
theorem chk.volume_section_next_1 : chkF Try.prog 97 = some (40, ir.volume_section_next_1, []) := by kernel_rfl

/-- slices.ContainsFunc[[][]int,[]int] -/
abbrev F.slices_ContainsFunc_int_int_98 : Nat := 98
def ir.slices_ContainsFunc_int_int_98 : IC :=
 (.seq (.reg [⟨(some 4), .mov, [.c (.bool false)], none⟩])
   (.seq (.reg [⟨(some 5), .mov, [.t 0], none⟩,
     ⟨(some 6), .mov, [.t 1], none⟩,
     ⟨(some 7), .call 114, [.t 5, .t 6], none⟩,
     ⟨(some 8), .bin .geq, [.t 7, .c (.int .i64 0)], none⟩,
     ⟨(some 4), .mov, [.t 8], none⟩])
   .ret))
theorem chk.slices_ContainsFunc_int_int_98 : chkF Try.prog 98 = some (9, ir.slices_ContainsFunc_int_int_98, [.tmp 4]) := by kernel_rfl

/-- paravane/volume.shapeOf$1 -/
abbrev F.volume_shapeOf_1 : Nat := 99
def ir.volume_shapeOf_1 : IC :=
 (.seq (.reg [⟨(some 3), .mov, [.c (.bool false)], none⟩])
   (.seq (.reg [⟨(some 4), .mov, [.t 0], none⟩,
     ⟨(some 5), .len false, [.t 4], none⟩,
     ⟨(some 6), .load 1 false, [.t 1], none⟩,
     ⟨(some 7), .iaddrS 1, [.t 6, .c (.int .i64 0)], none⟩,
     ⟨(some 8), .load 1 false, [.t 7], none⟩,
     ⟨(some 9), .len false, [.t 8], none⟩,
     ⟨(some 10), .bin .neq, [.t 5, .t 9], none⟩,
     ⟨(some 3), .mov, [.t 10], none⟩])
   .ret))
theorem chk.volume_shapeOf_1 : chkF Try.prog 99 = some (11, ir.volume_shapeOf_1, [.tmp 3]) := by kernel_rfl

/-- paravane/volume.numbers$1 -/
abbrev F.volume_numbers_1 : Nat := 100
def ir.volume_numbers_1 : IC :=
 (.seq (.reg [⟨(some 3), .mov, [.c (.bool false)], none⟩])
   (.seq (.reg [⟨(some 4), .mov, [.t 0], none⟩,
     ⟨(some 5), .mkfunc (.func 101) 0, [.t 1], none⟩,
     ⟨(some 6), .call 90, [.t 4, .t 5], none⟩,
     ⟨(some 3), .mov, [.t 6], none⟩])
   .ret))
theorem chk.volume_numbers_1 : chkF Try.prog 100 = some (7, ir.volume_numbers_1, [.tmp 3]) := by kernel_rfl

/-- paravane/volume.numbers$1$1 -/
abbrev F.volume_numbers_1_1 : Nat := 101
def ir.volume_numbers_1_1 : IC :=
 (.seq (.reg [⟨(some 3), .mov, [.c (.bool false)], none⟩])
   (.seq (.reg [⟨(some 4), .mov, [.t 0], none⟩,
     ⟨(some 5), .load 1 false, [.t 1], none⟩,
     ⟨(some 6), .un .neg, [.t 5], none⟩,
     ⟨(some 7), .load 1 false, [.t 1], none⟩,
     ⟨(some 8), .call 30, [.t 4, .t 6, .t 7], none⟩,
     ⟨(some 9), .un .not, [.t 8], none⟩,
     ⟨(some 3), .mov, [.t 9], none⟩])
   .ret))
theorem chk.volume_numbers_1_1 : chkF Try.prog 101 = some (10, ir.volume_numbers_1_1, [.tmp 3]) := by kernel_rfl

/-- (paravane/volume.ear).near -/
abbrev F.volume_ear_near : Nat := 102
def ir.volume_ear_near : IC :=
 (.seq (.reg [⟨(some 2), .box, [.t 0], none⟩,
     ⟨(some 3), .box, [.t 1], none⟩,
     ⟨(some 4), .mov, [.c .nilf], none⟩])
   (.seq (.reg [⟨(some 5), .mkfunc (.func 115) 0, [.t 2, .t 3], none⟩,
     ⟨(some 4), .mov, [.t 5], none⟩])
   .ret))
theorem chk.volume_ear_near : chkF Try.prog 102 = some (6, ir.volume_ear_near, [.tmp 4]) := by kernel_rfl

/-- paravane/volume.fold[paravane/volume.sum] -/
abbrev F.volume_fold_volume_sum : Nat := 103
def ir.volume_fold_volume_sum : IC :=
 (.seq (.reg [⟨(some 3), .box, [.t 0], none⟩,
     ⟨(some 5), .box, [.t 2], none⟩,
     ⟨(some 6), .alloc [(.int .i64 0), (.int .i64 0)], [], none⟩])
   (.seq (.seq (.reg [⟨(some 8), .mov, [.t 1], none⟩])
   (.block 0 (.range (.t 8) [9] (.reg [⟨(some 7), .alloc [(.int .i64 0), (.int .i64 0)], [], none⟩,
     ⟨none, .store 2, [.t 7, .t 9], none⟩]) (.block 1 (.reg [⟨(some 10), .load 1 false, [.t 5], none⟩,
     ⟨(some 11), .load 2 true, [.t 3], none⟩,
     ⟨(some 12), .load 2 true, [.t 7], none⟩,
     ⟨(some 13), .callv, [.t 10, .t 11, .t 12], none⟩,
     ⟨none, .store 2, [.t 3, .t 13], none⟩])))))
   (.seq (.reg [⟨(some 14), .load 2 true, [.t 3], none⟩,
     ⟨none, .store 2, [.t 6, .t 14], none⟩])
   .ret)))
theorem chk.volume_fold_volume_sum : chkF Try.prog 103 = some (15, ir.volume_fold_volume_sum, [.cell 6 166]) := by kernel_rfl

/-- (paravane/volume.ear).value$1 -/
abbrev F.volume_ear_value_1 : Nat := 104
def ir.volume_ear_value_1 : IC :=
 (.seq (.reg [⟨(some 6), .load 4 true, [.t 1], none⟩,
     ⟨(some 7), .load 3 true, [.t 2], none⟩,
     ⟨(some 8), .call 64, [.t 6, .t 7], none⟩,
     ⟨(some 9), .len false, [.t 8], none⟩,
     ⟨(some 10), .mov, [.c (.int .i64 0)], none⟩])
   (.block 0 (.loop (.seq (.reg [⟨(some 11), .bin .lss, [.t 10, .t 9], none⟩])
   (.seq (.cond (.t 11) .skip (.exit 0))
   (.seq (.block 1 (.seq (.reg [⟨(some 12), .iaddrS 2, [.t 8, .t 10], none⟩,
     ⟨(some 13), .load 2 true, [.t 12], none⟩,
     ⟨(some 5), .alloc [(.int .i64 0), (.int .i64 0)], [], none⟩,
     ⟨none, .store 2, [.t 5, .t 13], none⟩])
   (.seq (.draw [0, 0, 2, 0, 8, 30, 62, 126, 0, 256, 1022, 2046, 4095, 8191] [⟨(some 14), .mov, [.t 0], none⟩,
     ⟨(some 15), .faddr 0, [.t 1], none⟩,
     ⟨(some 16), .load 1 false, [.t 15], none⟩,
     ⟨(some 17), .faddr 0, [.t 5], none⟩,
     ⟨(some 18), .load 1 false, [.t 17], none⟩,
     ⟨(some 19), .iaddrS 3, [.t 16, .t 18], none⟩,
     ⟨(some 20), .faddr 2, [.t 19], none⟩,
     ⟨(some 21), .load 1 false, [.t 20], none⟩,
     ⟨(some 22), .faddr 1, [.t 5], none⟩,
     ⟨(some 23), .load 1 false, [.t 22], none⟩,
     ⟨(some 24), .iaddrS 2, [.t 21, .t 23], none⟩,
     ⟨(some 25), .load 2 true, [.t 24], none⟩,
     ⟨(some 26), .callv, [.t 14, .t 25], none⟩,
     ⟨(some 27), .un .not, [.t 26], none⟩])
   (.cond (.t 27) .ret .skip))))
   (.reg [⟨(some 28), .bin .add, [.t 10, .c (.int .i64 1)], none⟩,
     ⟨(some 10), .mov, [.t 28], none⟩])))))))
theorem chk.volume_ear_value_1 : chkF Try.prog 104 = some (29, ir.volume_ear_value_1, []) := by kernel_rfl

/-- (paravane/volume.sum).plus -/
abbrev F.volume_sum_plus : Nat := 105
def ir.volume_sum_plus : IC :=
 (.seq (.reg [⟨(some 2), .box, [.t 0], none⟩,
     ⟨(some 3), .box, [.t 1], none⟩,
     ⟨(some 4), .alloc [(.int .i64 0), (.int .i64 0)], [], none⟩])
   (.seq (.reg [⟨(some 5), .faddr 0, [.t 2], none⟩,
     ⟨(some 6), .load 1 false, [.t 5], none⟩,
     ⟨(some 7), .faddr 0, [.t 3], none⟩,
     ⟨(some 8), .load 1 false, [.t 7], none⟩,
     ⟨(some 9), .bin .add, [.t 6, .t 8], none⟩,
     ⟨(some 10), .faddr 1, [.t 2], none⟩,
     ⟨(some 11), .load 1 false, [.t 10], none⟩,
     ⟨(some 12), .faddr 1, [.t 3], none⟩,
     ⟨(some 13), .load 1 false, [.t 12], none⟩,
     ⟨(some 14), .bin .add, [.t 11, .t 13], none⟩,
     ⟨(some 15), .build [(.int .i64 0), (.int .i64 0)] [(0, 1), (1, 1)], [.t 9, .t 14], none⟩,
     ⟨none, .store 2, [.t 4, .t 15], none⟩])
   .ret))
theorem chk.volume_sum_plus : chkF Try.prog 105 = some (16, ir.volume_sum_plus, [.cell 4 166]) := by kernel_rfl

/-- paravane/region.root -/
abbrev F.region_root : Nat := 110
def ir.region_root : IC :=
 (.seq (.reg [⟨(some 2), .mov, [.c (.int .i64 0)], none⟩])
   (.seq (.reg [⟨(some 3), .mov, [.c (.int .i64 0)], none⟩])
   (.seq (.seq (.reg [⟨(some 4), .mov, [.c (.int .i64 1048576)], none⟩])
   (.block 0 (.loop (.seq (.seq (.reg [⟨(some 5), .mov, [.t 4], none⟩,
     ⟨(some 6), .bin .gtr, [.t 5, .c (.int .i64 0)], none⟩])
   (.cond (.t 6) .skip (.exit 0)))
   (.seq (.block 1 (.seq (.reg [⟨(some 9), .mov, [.t 3], none⟩,
     ⟨(some 10), .mov, [.t 4], none⟩,
     ⟨(some 11), .bin .add, [.t 9, .t 10], none⟩,
     ⟨(some 12), .mov, [.t 3], none⟩,
     ⟨(some 13), .mov, [.t 4], none⟩,
     ⟨(some 14), .bin .add, [.t 12, .t 13], none⟩,
     ⟨(some 15), .bin .mul, [.t 11, .t 14], none⟩,
     ⟨(some 16), .mov, [.t 0], none⟩,
     ⟨(some 17), .bin .leq, [.t 15, .t 16], none⟩])
   (.cond (.t 17) (.reg [⟨(some 18), .mov, [.t 3], none⟩,
     ⟨(some 19), .mov, [.t 4], none⟩,
     ⟨(some 20), .bin .add, [.t 18, .t 19], none⟩,
     ⟨(some 3), .mov, [.t 20], none⟩]) .skip)))
   (.reg [⟨(some 7), .mov, [.t 4], none⟩,
     ⟨(some 8), .bin .quo, [.t 7, .c (.int .i64 2)], none⟩,
     ⟨(some 4), .mov, [.t 8], none⟩]))))))
   (.seq (.reg [⟨(some 21), .mov, [.t 3], none⟩,
     ⟨(some 2), .mov, [.t 21], none⟩])
   .ret))))
theorem chk.region_root : chkF Try.prog 110 = some (22, ir.region_root, [.tmp 2]) := by kernel_rfl

/-- (paravane/volume.ear).enclosure$1 -/
abbrev F.volume_ear_enclosure_1 : Nat := 111
def ir.volume_ear_enclosure_1 : IC :=
 (.seq (.reg [⟨(some 3), .box, [.t 0], none⟩])
   (.seq (.reg [⟨(some 6), .load 4 true, [.t 1], none⟩,
     ⟨(some 7), .load 3 true, [.t 2], none⟩,
     ⟨(some 8), .call 102, [.t 6, .t 7], none⟩])
   (.block 0 (.range (.t 8) [9, 10] (.seq (.reg [⟨(some 4), .mov, [.t 9], none⟩])
   (.reg [⟨(some 5), .mov, [.t 10], none⟩])) (.block 1 (.seq (.draw [0, 0, 0, 4, 0, 28, 60, 124, 0, 256, 0, 2046, 4095, 8191] [⟨(some 11), .load 1 false, [.t 3], none⟩,
     ⟨(some 12), .load 4 true, [.t 1], none⟩,
     ⟨(some 13), .faddr 0, [.t 1], none⟩,
     ⟨(some 14), .load 1 false, [.t 13], none⟩,
     ⟨(some 15), .mov, [.t 4], none⟩,
     ⟨(some 16), .iaddrS 3, [.t 14, .t 15], none⟩,
     ⟨(some 17), .faddr 2, [.t 16], none⟩,
     ⟨(some 18), .load 1 false, [.t 17], none⟩,
     ⟨(some 19), .iaddrA 3 1, [.t 2, .c (.int .i64 2)], none⟩,
     ⟨(some 20), .load 1 false, [.t 19], none⟩,
     ⟨(some 21), .mov, [.t 5], none⟩,
     ⟨(some 22), .call 112, [.t 12, .t 18, .t 20, .t 21], none⟩,
     ⟨(some 23), .callv, [.t 11, .t 22], none⟩,
     ⟨(some 24), .un .not, [.t 23], none⟩])
   (.cond (.t 24) .ret .skip)))))))
theorem chk.volume_ear_enclosure_1 : chkF Try.prog 111 = some (25, ir.volume_ear_enclosure_1, []) := by kernel_rfl

/-- (paravane/volume.ear).reach -/
abbrev F.volume_ear_reach : Nat := 112
def ir.volume_ear_reach : IC :=
 (.seq (.reg [⟨(some 4), .box, [.t 0], none⟩,
     ⟨(some 8), .alloc [(.int .i64 0), (.int .i64 0)], [], none⟩])
   (.seq (.draw [0, 0, 0, 4, 12, 31, 0, 0, 0, 256, 768, 2047, 4095, 8191] [⟨(some 14), .mov, [.t 2], none⟩,
     ⟨(some 15), .mov, [.t 3], none⟩,
     ⟨(some 16), .faddr 2, [.t 4], none⟩,
     ⟨(some 17), .faddr 0, [.t 16], none⟩,
     ⟨(some 18), .load 1 false, [.t 17], none⟩,
     ⟨(some 19), .call 31, [.t 14, .t 15, .t 18], none⟩,
     ⟨(some 20), .mov, [.t 2], none⟩,
     ⟨(some 21), .mov, [.t 3], none⟩,
     ⟨(some 22), .faddr 2, [.t 4], none⟩,
     ⟨(some 23), .faddr 1, [.t 22], none⟩,
     ⟨(some 24), .load 1 false, [.t 23], none⟩,
     ⟨(some 25), .call 31, [.t 20, .t 21, .t 24], none⟩,
     ⟨(some 9), .mov, [.t 19], none⟩,
     ⟨(some 10), .mov, [.t 25], none⟩])
   (.seq (.reg [⟨(some 11), .alloc [(.int .i64 0), (.int .i64 0)], [], none⟩])
   (.seq (.reg [⟨(some 26), .mov, [.t 10], none⟩,
     ⟨(some 27), .mov, [.t 1], none⟩,
     ⟨(some 28), .len false, [.t 27], none⟩,
     ⟨(some 29), .bin .geq, [.t 26, .t 28], none⟩,
     ⟨(some 12), .mov, [.t 29], none⟩])
   (.seq (.seq (.reg [⟨(some 30), .mov, [.t 9], none⟩,
     ⟨(some 13), .mov, [.t 30], none⟩])
   (.block 0 (.loop (.seq (.seq (.reg [⟨(some 31), .mov, [.t 13], none⟩,
     ⟨(some 32), .mov, [.t 10], none⟩,
     ⟨(some 33), .bin .leq, [.t 31, .t 32], none⟩,
     ⟨(some 34), .mov, [.t 33], none⟩,
     ⟨(some 35), .mov, [.t 13], (some (34, true))⟩,
     ⟨(some 36), .mov, [.t 1], (some (34, true))⟩,
     ⟨(some 37), .len false, [.t 36], (some (34, true))⟩,
     ⟨(some 38), .bin .lss, [.t 35, .t 37], (some (34, true))⟩,
     ⟨(some 39), .pick, [.t 34, .t 38, .c (.bool false)], none⟩])
   (.cond (.t 39) .skip (.exit 0)))
   (.seq (.block 1 (.seq (.seq (.reg [⟨(some 42), .mov, [.t 12], none⟩,
     ⟨(some 43), .un .not, [.t 42], none⟩])
   (.cond (.t 43) (.reg [⟨(some 44), .mov, [.t 1], none⟩,
     ⟨(some 45), .mov, [.t 13], none⟩,
     ⟨(some 46), .iaddrS 2, [.t 44, .t 45], none⟩,
     ⟨(some 47), .load 2 true, [.t 46], none⟩,
     ⟨none, .store 2, [.t 11, .t 47], none⟩,
     ⟨(some 12), .mov, [.c (.bool true)], none⟩]) .skip))
   (.draw [0, 1, 0, 0, 12, 28, 60, 127, 0, 256, 0, 0, 3072, 7168, 15360, 32512, 65535, 131071] [⟨(some 48), .faddr 0, [.t 11], none⟩,
     ⟨(some 49), .load 1 false, [.t 48], none⟩,
     ⟨(some 50), .mov, [.t 1], none⟩,
     ⟨(some 51), .mov, [.t 13], none⟩,
     ⟨(some 52), .iaddrS 2, [.t 50, .t 51], none⟩,
     ⟨(some 53), .faddr 0, [.t 52], none⟩,
     ⟨(some 54), .load 1 false, [.t 53], none⟩,
     ⟨(some 55), .minmax false, [.t 49, .t 54], none⟩,
     ⟨(some 56), .faddr 1, [.t 11], none⟩,
     ⟨(some 57), .load 1 false, [.t 56], none⟩,
     ⟨(some 58), .mov, [.t 1], none⟩,
     ⟨(some 59), .mov, [.t 13], none⟩,
     ⟨(some 60), .iaddrS 2, [.t 58, .t 59], none⟩,
     ⟨(some 61), .faddr 1, [.t 60], none⟩,
     ⟨(some 62), .load 1 false, [.t 61], none⟩,
     ⟨(some 63), .minmax true, [.t 57, .t 62], none⟩,
     ⟨(some 64), .build [(.int .i64 0), (.int .i64 0)] [(0, 1), (1, 1)], [.t 55, .t 63], none⟩,
     ⟨none, .store 2, [.t 11, .t 64], none⟩])))
   (.reg [⟨(some 40), .mov, [.t 13], none⟩,
     ⟨(some 41), .bin .add, [.t 40, .c (.int .i64 1)], none⟩,
     ⟨(some 13), .mov, [.t 41], none⟩]))))))
   (.seq (.reg [⟨(some 65), .load 2 true, [.t 11], none⟩,
     ⟨none, .store 2, [.t 8, .t 65], none⟩])
   .ret))))))
theorem chk.volume_ear_reach : chkF Try.prog 112 = some (66, ir.volume_ear_reach, [.cell 8 166]) := by kernel_rfl

/-- slices.IndexFunc[[]int,int] -/
abbrev F.slices_IndexFunc_int_int : Nat := 113
def ir.slices_IndexFunc_int_int : IC :=
 (.seq (.reg [⟨(some 4), .mov, [.c (.int .i64 0)], none⟩])
   (.seq (.seq (.reg [⟨(some 6), .mov, [.t 0], none⟩,
     ⟨(some 7), .len false, [.t 6], none⟩,
     ⟨(some 8), .mov, [.c (.int .i64 0)], none⟩])
   (.block 0 (.loop (.seq (.reg [⟨(some 9), .bin .lss, [.t 8, .t 7], none⟩])
   (.seq (.cond (.t 9) .skip (.exit 0))
   (.seq (.block 1 (.seq (.reg [⟨(some 10), .mov, [.t 8], none⟩,
     ⟨(some 5), .mov, [.t 10], none⟩])
   (.seq (.reg [⟨(some 11), .mov, [.t 1], none⟩,
     ⟨(some 12), .mov, [.t 0], none⟩,
     ⟨(some 13), .mov, [.t 5], none⟩,
     ⟨(some 14), .iaddrS 1, [.t 12, .t 13], none⟩,
     ⟨(some 15), .load 1 false, [.t 14], none⟩,
     ⟨(some 16), .callv, [.t 11, .t 15], none⟩])
   (.cond (.t 16) (.seq (.reg [⟨(some 17), .mov, [.t 5], none⟩,
     ⟨(some 4), .mov, [.t 17], none⟩])
   .ret) .skip))))
   (.reg [⟨(some 18), .bin .add, [.t 8, .c (.int .i64 1)], none⟩,
     ⟨(some 8), .mov, [.t 18], none⟩])))))))
   (.seq (.reg [⟨(some 4), .mov, [.c (.int .i64 (-1))], none⟩])
   .ret)))
theorem chk.slices_IndexFunc_int_int : chkF Try.prog 113 = some (19, ir.slices_IndexFunc_int_int, [.tmp 4]) := by kernel_rfl

/-- slices.IndexFunc[[][]int,[]int] -/
abbrev F.slices_IndexFunc_int_int_114 : Nat := 114
def ir.slices_IndexFunc_int_int_114 : IC :=
 (.seq (.reg [⟨(some 4), .mov, [.c (.int .i64 0)], none⟩])
   (.seq (.seq (.reg [⟨(some 6), .mov, [.t 0], none⟩,
     ⟨(some 7), .len false, [.t 6], none⟩,
     ⟨(some 8), .mov, [.c (.int .i64 0)], none⟩])
   (.block 0 (.loop (.seq (.reg [⟨(some 9), .bin .lss, [.t 8, .t 7], none⟩])
   (.seq (.cond (.t 9) .skip (.exit 0))
   (.seq (.block 1 (.seq (.reg [⟨(some 10), .mov, [.t 8], none⟩,
     ⟨(some 5), .mov, [.t 10], none⟩])
   (.seq (.reg [⟨(some 11), .mov, [.t 1], none⟩,
     ⟨(some 12), .mov, [.t 0], none⟩,
     ⟨(some 13), .mov, [.t 5], none⟩,
     ⟨(some 14), .iaddrS 1, [.t 12, .t 13], none⟩,
     ⟨(some 15), .load 1 false, [.t 14], none⟩,
     ⟨(some 16), .callv, [.t 11, .t 15], none⟩])
   (.cond (.t 16) (.seq (.reg [⟨(some 17), .mov, [.t 5], none⟩,
     ⟨(some 4), .mov, [.t 17], none⟩])
   .ret) .skip))))
   (.reg [⟨(some 18), .bin .add, [.t 8, .c (.int .i64 1)], none⟩,
     ⟨(some 8), .mov, [.t 18], none⟩])))))))
   (.seq (.reg [⟨(some 4), .mov, [.c (.int .i64 (-1))], none⟩])
   .ret)))
theorem chk.slices_IndexFunc_int_int_114 : chkF Try.prog 114 = some (19, ir.slices_IndexFunc_int_int_114, [.tmp 4]) := by kernel_rfl

/-- (paravane/volume.ear).near$1 -/
abbrev F.volume_ear_near_1 : Nat := 115
def ir.volume_ear_near_1 : IC :=
 (.seq (.reg [⟨(some 7), .faddr 0, [.t 1], none⟩,
     ⟨(some 8), .load 1 false, [.t 7], none⟩,
     ⟨(some 9), .len false, [.t 8], none⟩,
     ⟨(some 10), .mov, [.c (.int .i64 0)], none⟩])
   (.block 0 (.loop (.seq (.reg [⟨(some 11), .bin .lss, [.t 10, .t 9], none⟩])
   (.seq (.cond (.t 11) .skip (.exit 0))
   (.seq (.block 1 (.seq (.reg [⟨(some 12), .mov, [.t 10], none⟩,
     ⟨(some 13), .iaddrS 3, [.t 8, .t 10], none⟩,
     ⟨(some 14), .load 3 true, [.t 13], none⟩,
     ⟨(some 5), .alloc [(.int .i64 0), (.int .i64 0), .nils], [], none⟩,
     ⟨(some 4), .mov, [.t 12], none⟩,
     ⟨none, .store 3, [.t 5, .t 14], none⟩])
   (.seq (.reg [⟨(some 15), .iaddrA 3 1, [.t 2, .c (.int .i64 0)], none⟩,
     ⟨(some 16), .load 1 false, [.t 15], none⟩,
     ⟨(some 17), .faddr 0, [.t 5], none⟩,
     ⟨(some 18), .load 1 false, [.t 17], none⟩,
     ⟨(some 19), .bin .sub, [.t 16, .t 18], none⟩,
     ⟨(some 20), .iaddrA 3 1, [.t 2, .c (.int .i64 0)], none⟩,
     ⟨(some 21), .load 1 false, [.t 20], none⟩,
     ⟨(some 22), .faddr 0, [.t 5], none⟩,
     ⟨(some 23), .load 1 false, [.t 22], none⟩,
     ⟨(some 24), .bin .sub, [.t 21, .t 23], none⟩,
     ⟨(some 25), .bin .mul, [.t 19, .t 24], none⟩,
     ⟨(some 26), .iaddrA 3 1, [.t 2, .c (.int .i64 1)], none⟩,
     ⟨(some 27), .load 1 false, [.t 26], none⟩,
     ⟨(some 28), .faddr 1, [.t 5], none⟩,
     ⟨(some 29), .load 1 false, [.t 28], none⟩,
     ⟨(some 30), .bin .sub, [.t 27, .t 29], none⟩,
     ⟨(some 31), .iaddrA 3 1, [.t 2, .c (.int .i64 1)], none⟩,
     ⟨(some 32), .load 1 false, [.t 31], none⟩,
     ⟨(some 33), .faddr 1, [.t 5], none⟩,
     ⟨(some 34), .load 1 false, [.t 33], none⟩,
     ⟨(some 35), .bin .sub, [.t 32, .t 34], none⟩,
     ⟨(some 36), .bin .mul, [.t 30, .t 35], none⟩,
     ⟨(some 37), .bin .add, [.t 25, .t 36], none⟩,
     ⟨(some 6), .mov, [.t 37], none⟩])
   (.seq (.reg [⟨(some 38), .mov, [.t 6], none⟩,
     ⟨(some 39), .faddr 1, [.t 1], none⟩,
     ⟨(some 40), .load 1 false, [.t 39], none⟩,
     ⟨(some 41), .faddr 1, [.t 1], none⟩,
     ⟨(some 42), .load 1 false, [.t 41], none⟩,
     ⟨(some 43), .bin .mul, [.t 40, .t 42], none⟩,
     ⟨(some 44), .bin .leq, [.t 38, .t 43], none⟩,
     ⟨(some 45), .mov, [.t 44], none⟩,
     ⟨(some 46), .mov, [.t 0], (some (45, true))⟩,
     ⟨(some 47), .mov, [.t 4], (some (45, true))⟩,
     ⟨(some 48), .mov, [.t 6], (some (45, true))⟩,
     ⟨(some 49), .callv, [.t 46, .t 47, .t 48], (some (45, true))⟩,
     ⟨(some 50), .un .not, [.t 49], (some (45, true))⟩,
     ⟨(some 51), .pick, [.t 45, .t 50, .c (.bool false)], none⟩])
   (.cond (.t 51) .ret .skip)))))
   (.reg [⟨(some 52), .bin .add, [.t 10, .c (.int .i64 1)], none⟩,
     ⟨(some 10), .mov, [.t 52], none⟩])))))))
theorem chk.volume_ear_near_1 : chkF Try.prog 115 = some (53, ir.volume_ear_near_1, []) := by kernel_rfl

end Go.Proofs.Ytecggpjpckicgaa

/-! Contracts: plain numbers. -/
set_option linter.unusedVariables false
set_option linter.unusedSimpArgs false
set_option maxRecDepth 20000
namespace Go.Proofs.Ytecggpjpckicgaa
open Go.Am

abbrev I (n : Int) : V := .int .i64 n

def btw (n lo hi : Int) : Bool := decide (n ≥ lo) && decide (n ≤ hi)

theorem w64 {n : Int} (h1 : -9223372036854775808 ≤ n) (h2 : n < 9223372036854775808) : IntKind.wrap .i64 n = n := by
  have e : ∀ m : Int, m = n % 18446744073709551616 → (if (true && decide (m ≥ 9223372036854775808)) = true then m - 18446744073709551616 else m) = n := by
    intro m hm
    by_cases h : m ≥ 9223372036854775808
    · simp only [h, decide_true, Bool.and_self, if_true]; omega
    · simp only [h, decide_false, Bool.and_false, Bool.false_eq_true, if_false]; omega
  exact e _ rfl

theorem VLe.i {k : IntKind} {a b : Int} (h : a = b) : VLe (.int k a) (.int k b) := h ▸ .refl _

theorem c_within (n lo hi : Int) : C Try.prog F.volume_within [I n, I lo, I hi] (.bool (btw n lo hi)) := by
  refine C_of mixed chk.volume_within (by simp) fun S ok => ?_
  refine Tr.seqR rfl (by simp) ?_
  refine Tr.seqR rfl (by simp) ?_
  refine Tr.retQ rfl rfl ?_ trivial
  simp [packR, btw]

theorem c_rwithin (n lo hi : Int) : C Try.prog F.region_within [I n, I lo, I hi] (.bool (btw n lo hi)) := by
  refine C_of mixed chk.region_within (by simp) fun S ok => ?_
  refine Tr.seqR rfl (by simp) ?_
  refine Tr.seqR rfl (by simp) ?_
  refine Tr.retQ rfl rfl ?_ trivial
  simp [packR, btw]

theorem c_between (n lo hi : Int) : C Try.prog F.ref00_Between [I n, I lo, I hi] (.bool (btw n lo hi)) := by
  refine C_of mixed chk.ref00_Between (by simp) fun S ok => ?_
  refine Tr.seqR rfl (by simp) ?_
  refine Tr.seqR rfl (by simp) ?_
  refine Tr.retQ rfl rfl ?_ trivial
  simp [packR, btw]

/-- The first k bits of a root. -/
def isqL (n : Int) : Nat → Int
  | 0 => 0
  | k + 1 => if (isqL n k + 2 ^ (20 - k)) * (isqL n k + 2 ^ (20 - k)) ≤ n then isqL n k + 2 ^ (20 - k) else isqL n k

def isq (n : Int) : Int := isqL n 21

theorem isqL_le (n : Int) : ∀ k, k ≤ 21 → 0 ≤ isqL n k ∧ isqL n k ≤ 2 ^ 21 - 2 ^ (21 - k)
  | 0, _ => by simp [isqL]
  | k + 1, h => by
    have ih := isqL_le n k (by omega)
    have e1 : (2 : Int) ^ (21 - k) = 2 * 2 ^ (20 - k) := by
      rw [show 21 - k = (20 - k) + 1 by omega, Int.pow_succ]; omega
    have e2 : 21 - (k + 1) = 20 - k := by omega
    have e3 : (0 : Int) < 2 ^ (20 - k) := Int.pow_pos (by omega)
    rw [e2]
    simp only [isqL]
    split <;> omega

def bitAt (k : Nat) : Int := if k ≤ 20 then 2 ^ (20 - k) else 0

theorem c_root (n : Int) : C Try.prog F.region_root [I n] (I (isq n)) := by
  refine C_of mixed chk.region_root (by simp) fun S ok => ?_
  refine Tr.seqR rfl (by simp) ?_
  refine Tr.seqR rfl (by simp) ?_
  refine Tr.seq (Tr.seqR rfl (by simp) (Tr.block ?_))
  refine Tr.loop (fun k s => k ≤ 21 ∧ s = { env := [(0, I n), (3, I (isqL n k)), (4, I (bitAt k))], bx := [], rw := [], log := [], stp := false }) (fun k => 21 - k) 0
    (Wk.le (.cons rfl (.refl _) (.cons rfl (.refl _) (.cons rfl (.of_eq (by rfl)) .nil))) .nil .nil rfl rfl) ⟨by omega, rfl⟩ ?_
  rintro k s ⟨hk, rfl⟩
  have hb := isqL_le n k hk
  refine Tr.seq (Tr.seqR rfl (by simp) (Tr.cond rfl rfl (fun h1 => ?_) (fun h1 => ?_)))
  · have hk20 : k ≤ 20 := by
      rcases Nat.lt_or_ge 20 k with h | h
      · simp [bitAt, show ¬ k ≤ 20 by omega] at h1
      · exact h
    have eb : bitAt k = 2 ^ (20 - k) := by simp [bitAt, hk20]
    have ebn : (bitAt k).tdiv 2 = bitAt (k + 1) := by
      rw [eb]
      unfold bitAt
      by_cases h : k + 1 ≤ 20
      · rw [if_pos h, show 20 - k = (20 - (k + 1)) + 1 by omega, Int.pow_succ]; exact Int.mul_tdiv_cancel _ (by decide)
      · rw [if_neg h, show 20 - k = 0 by omega]; rfl
    have ep : (1 : Int) ≤ bitAt k ∧ bitAt k ≤ 1048576 := by
      rw [eb]
      have h1 : (0 : Int) < 2 ^ (20 - k) := Int.pow_pos (by omega)
      have h2 : (2 : Nat) ^ (20 - k) ≤ 2 ^ 20 := Nat.pow_le_pow_right (by omega) (by omega)
      have h3 : ((2 ^ (20 - k) : Nat) : Int) ≤ ((2 ^ 20 : Nat) : Int) := by exact_mod_cast h2
      simp at h3
      omega
    have e21 : (2 : Int) ^ (21 - k) = 2 * bitAt k := by
      rw [eb, show 21 - k = (20 - k) + 1 by omega, Int.pow_succ]; omega
    have hr : 0 ≤ isqL n k ∧ isqL n k + bitAt k ≤ 2097152 := by
      rw [e21] at hb
      have : (2 : Int) ^ 21 = 2097152 := by rfl
      omega
    have ew : IntKind.wrap .i64 (isqL n k + bitAt k) = isqL n k + bitAt k := w64 (by omega) (by omega)
    have ew2 : IntKind.wrap .i64 ((isqL n k + bitAt k) * (isqL n k + bitAt k)) = (isqL n k + bitAt k) * (isqL n k + bitAt k) := by
      have h1 : 0 ≤ (isqL n k + bitAt k) * (isqL n k + bitAt k) := Int.mul_nonneg (by omega) (by omega)
      have h2 : (isqL n k + bitAt k) * (isqL n k + bitAt k) ≤ 2097152 * 2097152 := Int.mul_le_mul (by omega) (by omega) (by omega) (by omega)
      exact w64 (by omega) (by omega)
    have ewb : IntKind.wrap .i64 ((bitAt k).tdiv 2) = bitAt (k + 1) := by
      have h0 : (bitAt k).tdiv 2 = bitAt k / 2 := Int.tdiv_eq_ediv_of_nonneg (by omega)
      rw [← ebn, h0]; exact w64 (by omega) (by omega)
    have es : isqL n (k + 1) = if (isqL n k + bitAt k) * (isqL n k + bitAt k) ≤ n then isqL n k + bitAt k else isqL n k := by rw [eb]; rfl
    refine Tr.skipT (Tr.seq (Tr.block (Tr.seqR rfl (by simp) (Tr.cond rfl rfl (fun h2 => ?_) (fun h2 => ?_)))))
    · rw [ew, ew2] at h2
      refine Tr.regR rfl (by simp) ?_
      refine Tr.regR rfl (by simp) ?_
      refine ⟨k + 1, _, ?_, ⟨by omega, rfl⟩, by omega⟩
      refine Wk.le (.cons rfl (.refl _) (.cons rfl (VLe.i ?_) (.cons rfl (VLe.i ?_) .nil))) .nil .nil rfl rfl
      · rw [ew, es, if_pos (by simpa using h2)]
      · exact ewb
    · rw [ew, ew2] at h2
      refine Tr.skip ?_
      refine Tr.regR rfl (by simp) ?_
      refine ⟨k + 1, _, ?_, ⟨by omega, rfl⟩, by omega⟩
      refine Wk.le (.cons rfl (.refl _) (.cons rfl (VLe.i ?_) (.cons rfl (VLe.i ?_) .nil))) .nil .nil rfl rfl
      · rw [es, if_neg (by simpa using h2)]
      · exact ewb
  · have hk21 : k = 21 := by
      rcases Nat.lt_or_ge 20 k with h | h
      · omega
      · have h1' : (0 : Int) < 2 ^ (20 - k) := Int.pow_pos (by omega)
        simp [bitAt, h] at h1
        omega
    subst hk21
    refine Tr.exit ?_
    refine Tr.seqR rfl (by simp) ?_
    exact Tr.retQ rfl rfl rfl trivial

end Go.Proofs.Ytecggpjpckicgaa

/-! Contracts: roots and times. -/
set_option linter.unusedVariables false
set_option linter.unusedSimpArgs false
set_option maxRecDepth 20000
namespace Go.Proofs.Ytecggpjpckicgaa
open Go.Am

def rootR (n : Int) : V := if btw n 0 1099511627776 then .tuple [I (isq n), I 0] else .tuple [I 0, I 7]

theorem c_Root (n : Int) : C Try.prog F.region_Root [I n] (rootR n) := by
  refine C_of mixed chk.region_Root (by simp) fun S ok => ?_
  refine Tr.seqR rfl (by simp) ?_
  refine Tr.seq (Tr.seqC rfl (by simp) (Steps.call rfl rfl (c_rwithin _ _ _) (Steps.fin rfl (by simp) ?_)))
  refine Tr.cond rfl rfl (fun h => ?_) (fun h => ?_)
  · refine Tr.seqR rfl (by simp) (Tr.retT rfl rfl ?_ trivial)
    have h : btw n 0 1099511627776 = false := by simpa using h
    simp [rootR, h, packR]
  · refine Tr.skipT (Tr.seqC rfl (by simp) (Steps.call rfl rfl (c_root _) (Steps.fin rfl (by simp) (Tr.retQ rfl rfl ?_ trivial))))
    have h : btw n 0 1099511627776 = true := by simpa using h
    simp [rootR, h, packR]

theorem sq_lt {a b : Int} (ha : 0 ≤ a) (hb : 0 ≤ b) (h : a * a < b * b) : a < b := by
  rcases Int.lt_or_le a b with h1 | h1
  · exact h1
  · have := Int.mul_le_mul h1 h1 hb ha; omega

theorem isqL_spec {n : Int} (h0 : 0 ≤ n) (h1 : n ≤ 1099511627776) : ∀ k, k ≤ 21 → isqL n k * isqL n k ≤ n ∧ n < (isqL n k + 2 ^ (21 - k)) * (isqL n k + 2 ^ (21 - k))
  | 0, _ => by simp [isqL]; omega
  | k + 1, h => by
    have ih := isqL_spec h0 h1 k (by omega)
    have e1 : (2 : Int) ^ (21 - k) = 2 ^ (20 - k) + 2 ^ (20 - k) := by
      rw [show 21 - k = (20 - k) + 1 by omega, Int.pow_succ]; omega
    rw [e1] at ih
    rw [show 21 - (k + 1) = 20 - k by omega]
    simp only [isqL]
    split
    · rename_i h2
      refine ⟨h2, ?_⟩
      rw [Int.add_assoc]; exact ih.2
    · rename_i h2
      exact ⟨ih.1, by omega⟩

theorem isq_spec {n : Int} (h0 : 0 ≤ n) (h1 : n ≤ 1099511627776) : 0 ≤ isq n ∧ isq n * isq n ≤ n ∧ n < (isq n + 1) * (isq n + 1) := by
  have h := isqL_spec h0 h1 21 (by omega)
  exact ⟨(isqL_le n 21 (by omega)).1, h.1, by simpa [isq] using h.2⟩

theorem isq_unique {n r : Int} (h0 : 0 ≤ n) (h1 : n ≤ 1099511627776) (hr : 0 ≤ r) (h2 : r * r ≤ n) (h3 : n < (r + 1) * (r + 1)) : isq n = r := by
  obtain ⟨g0, g1, g2⟩ := isq_spec h0 h1
  have a1 := sq_lt g0 (by omega) (show isq n * isq n < (r + 1) * (r + 1) by omega)
  have a2 := sq_lt hr (by omega) (show r * r < (isq n + 1) * (isq n + 1) by omega)
  omega

theorem c_Root01 (n : Int) : C Try.prog F.ref01_Root [I n] (rootR n) := by
  refine C_of mixed chk.ref01_Root (by simp) fun S ok => ?_
  refine Tr.seqR rfl (by simp) ?_
  refine Tr.seq (Tr.seqC rfl (by simp) (Steps.call rfl rfl (c_between _ _ _) (Steps.fin rfl (by simp) ?_)))
  refine Tr.cond rfl rfl (fun h => ?_) (fun h => ?_)
  · refine Tr.seqR rfl (by simp) (Tr.retT rfl rfl ?_ trivial)
    have h : btw n 0 1099511627776 = false := by simpa using h
    simp [rootR, h, packR]
  · have h : btw n 0 1099511627776 = true := by simpa using h
    have hn : 0 ≤ n ∧ n ≤ 1099511627776 := by simpa [btw] using h
    refine Tr.skipT (Tr.seqR rfl (by simp) (Tr.seq (Tr.block ?_)))
    refine Tr.loop (α := Int × Int) (fun p s => (0 ≤ p.1 ∧ p.1 < p.2 ∧ p.2 ≤ 2097152 ∧ p.1 * p.1 ≤ n ∧ n < p.2 * p.2) ∧ s = { env := [(0, I n), (4, I p.1), (5, I p.2)], bx := [], rw := [], log := [], stp := false }) (fun p => (p.2 - p.1).toNat) (0, 2097152)
      (Wk.le (.cons rfl (.refl _) (.cons rfl (.refl _) (.cons rfl (.refl _) .nil))) .nil .nil rfl rfl) ⟨by simp; omega, rfl⟩ ?_
    rintro ⟨lo, hi⟩ s ⟨⟨p1, p2, p3, p4, p5⟩, rfl⟩
    simp only at p1 p2 p3 p4 p5
    have ew : IntKind.wrap .i64 (hi - lo) = hi - lo := w64 (by omega) (by omega)
    have em : IntKind.wrap .i64 ((IntKind.wrap .i64 (lo + hi)).tdiv 2) = (lo + hi) / 2 := by
      have e1 : IntKind.wrap .i64 (lo + hi) = lo + hi := w64 (by omega) (by omega)
      have e2 : (lo + hi).tdiv 2 = (lo + hi) / 2 := Int.tdiv_eq_ediv_of_nonneg (by omega)
      rw [e1, e2]
      exact w64 (by omega) (by omega)
    have hm0 : 0 ≤ (lo + hi) / 2 ∧ (lo + hi) / 2 ≤ 2097152 := by omega
    have ew2 : IntKind.wrap .i64 (((lo + hi) / 2) * ((lo + hi) / 2)) = ((lo + hi) / 2) * ((lo + hi) / 2) := by
      have h1 : 0 ≤ ((lo + hi) / 2) * ((lo + hi) / 2) := Int.mul_nonneg (by omega) (by omega)
      have h2 : ((lo + hi) / 2) * ((lo + hi) / 2) ≤ 2097152 * 2097152 := Int.mul_le_mul (by omega) (by omega) (by omega) (by omega)
      exact w64 (by omega) (by omega)
    refine Tr.seq (Tr.seqR rfl (by simp) (Tr.cond rfl rfl (fun h1 => ?_) (fun h1 => ?_)))
    · rw [ew] at h1
      have h1 : hi - lo > 1 := by simpa using h1
      refine Tr.skipT (Tr.block (Tr.seqR rfl (by simp) (Tr.seqR rfl (by simp) (Tr.cond rfl rfl (fun h2 => ?_) (fun h2 => ?_)))))
      · rw [em, ew2] at h2
        refine Tr.regR rfl (by simp) ?_
        refine ⟨((lo + hi) / 2, hi), _, ?_, ⟨⟨?_, ?_, ?_, ?_, ?_⟩, rfl⟩, ?_⟩
        · exact Wk.le (.cons rfl (.refl _) (.cons rfl (VLe.i em) (.cons rfl (.refl _) .nil))) .nil .nil rfl rfl
        all_goals (simp only; try omega)
        · simpa using h2
      · rw [em, ew2] at h2
        refine Tr.regR rfl (by simp) ?_
        refine ⟨(lo, (lo + hi) / 2), _, ?_, ⟨⟨?_, ?_, ?_, ?_, ?_⟩, rfl⟩, ?_⟩
        · exact Wk.le (.cons rfl (.refl _) (.cons rfl (.refl _) (.cons rfl (VLe.i em) .nil))) .nil .nil rfl rfl
        all_goals (simp only; try omega)
        · simpa using h2
    · rw [ew] at h1
      have h1 : ¬ hi - lo > 1 := by simpa using h1
      have hh : hi = lo + 1 := by omega
      subst hh
      refine Tr.exit (Tr.seqR rfl (by simp) (Tr.retQ rfl rfl ?_ trivial))
      simp [rootR, h, packR, isq_unique hn.1 hn.2 p1 p4 p5]

end Go.Proofs.Ytecggpjpckicgaa

/-! Contracts: times, places of the grid. -/
set_option linter.unusedVariables false
set_option linter.unusedSimpArgs false
set_option maxRecDepth 20000
namespace Go.Proofs.Ytecggpjpckicgaa
open Go.Am

/-- The number in front, of what a root hands back. -/
def rootN (n : Int) : Int := if btw n 0 1099511627776 then isq n else 0

theorem rootR_eq (n : Int) : ∃ e : Int, rootR n = .tuple [I (rootN n), I e] := by
  unfold rootR rootN
  cases btw n 0 1099511627776
  · exact ⟨7, rfl⟩
  · exact ⟨0, rfl⟩

/-- The time of a depth and a distance. -/
def timeN (z d slow : Int) : Int := rootN (IntKind.wrap .i64 (IntKind.wrap .i64 (z * z) + IntKind.wrap .i64 ((IntKind.wrap .i64 (slow * d)).tdiv 64)))

theorem c_time (z d slow : Int) : C Try.prog F.volume_time [I z, I d, I slow] (I (timeN z d slow)) := by
  refine C_of mixed chk.volume_time (by simp) fun S ok => ?_
  refine Tr.seqR rfl (by simp) ?_
  obtain ⟨e, he⟩ := rootR_eq (IntKind.wrap .i64 (IntKind.wrap .i64 (z * z) + IntKind.wrap .i64 ((IntKind.wrap .i64 (slow * d)).tdiv 64)))
  have hc := c_Root (IntKind.wrap .i64 (IntKind.wrap .i64 (z * z) + IntKind.wrap .i64 ((IntKind.wrap .i64 (slow * d)).tdiv 64)))
  rw [he] at hc
  refine Tr.seqC rfl (by simp) (Steps.call rfl rfl hc (Steps.fin rfl (by simp) ?_))
  exact Tr.seqR rfl (by simp) (Tr.retQ rfl rfl rfl trivial)

theorem c_time10 (z d slow : Int) : C Try.prog F.ref10_time [I z, I d, I slow] (I (timeN z d slow)) := by
  refine C_of mixed chk.ref10_time (by simp) fun S ok => ?_
  refine Tr.seqR rfl (by simp) ?_
  obtain ⟨e, he⟩ := rootR_eq (IntKind.wrap .i64 (IntKind.wrap .i64 (z * z) + IntKind.wrap .i64 ((IntKind.wrap .i64 (slow * d)).tdiv 64)))
  have hc := c_Root01 (IntKind.wrap .i64 (IntKind.wrap .i64 (z * z) + IntKind.wrap .i64 ((IntKind.wrap .i64 (slow * d)).tdiv 64)))
  rw [he] at hc
  refine Tr.seqC rfl (by simp) (Steps.call rfl rfl hc (Steps.fin rfl (by simp) ?_))
  exact Tr.seqR rfl (by simp) (Tr.retQ rfl rfl rfl trivial)

/-- Time. -/
def timeOk (z d slow : Int) : Bool := btw z 0 64 && btw d 0 32768 && btw slow 0 4096
def TimeR (z d slow : Int) : V := if timeOk z d slow then .tuple [I (timeN z d slow), I 0] else .tuple [I 0, I 7]

theorem c_Time (z d slow : Int) : C Try.prog F.volume_Time [I z, I d, I slow] (TimeR z d slow) := by
  refine C_of mixed chk.volume_Time (by simp) fun S ok => ?_
  refine Tr.seqR rfl (by simp) ?_
  refine Tr.seq (Tr.seqC rfl (by simp) (Steps.call rfl rfl (c_within _ _ _) (Steps.run rfl (by simp) ?_)))
  refine Steps.gcall rfl rfl rfl rfl (by simp) (fun _ => c_within _ _ _) (Steps.run rfl (by simp) ?_)
  refine Steps.gcall rfl rfl rfl rfl (by simp) (fun _ => c_within _ _ _) (Steps.fin rfl (by simp) ?_)
  refine Tr.cond rfl rfl (fun h => ?_) (fun h => ?_)
  · refine Tr.seqR rfl (by simp) (Tr.retT rfl rfl ?_ trivial)
    have h : timeOk z d slow = false := by
      unfold timeOk
      revert h
      cases btw z 0 64 <;> cases btw d 0 32768 <;> cases btw slow 0 4096 <;> simp
    simp [TimeR, h, packR]
  · refine Tr.skipT (Tr.seqC rfl (by simp) (Steps.call rfl rfl (c_time _ _ _) (Steps.fin rfl (by simp) (Tr.retQ rfl rfl ?_ trivial))))
    have h : timeOk z d slow = true := by
      unfold timeOk
      revert h
      cases btw z 0 64 <;> cases btw d 0 32768 <;> cases btw slow 0 4096 <;> simp
    simp [TimeR, h, packR]

theorem c_slowness (n : Int) : C Try.prog F.ref10_slowness [I n] (.bool (btw n 0 4096)) := by
  refine C_of mixed chk.ref10_slowness (by simp) fun S ok => ?_
  refine Tr.seqR rfl (by simp) ?_
  exact Tr.seqC rfl (by simp) (Steps.call rfl rfl (c_between _ _ _) (Steps.fin rfl (by simp) (Tr.retQ rfl rfl rfl trivial)))

theorem c_Time10 (z d slow : Int) : C Try.prog F.ref10_Time [I z, I d, I slow] (TimeR z d slow) := by
  refine C_of mixed chk.ref10_Time (by simp) fun S ok => ?_
  refine Tr.seqR rfl (by simp) ?_
  refine Tr.seq (Tr.seqC rfl (by simp) (Steps.call rfl rfl (c_between _ _ _) (Steps.run rfl (by simp) ?_)))
  refine Steps.gcall rfl rfl rfl rfl (by simp) (fun _ => c_between _ _ _) (Steps.run rfl (by simp) ?_)
  refine Steps.gcall rfl rfl rfl rfl (by simp) (fun _ => c_slowness _) (Steps.fin rfl (by simp) ?_)
  refine Tr.cond rfl rfl (fun h => ?_) (fun h => ?_)
  · refine Tr.seqR rfl (by simp) (Tr.retT rfl rfl ?_ trivial)
    have h : timeOk z d slow = false := by
      unfold timeOk
      revert h
      cases btw z 0 64 <;> cases btw d 0 32768 <;> cases btw slow 0 4096 <;> simp
    simp [TimeR, h, packR]
  · refine Tr.skipT (Tr.seqC rfl (by simp) (Steps.call rfl rfl (c_time10 _ _ _) (Steps.fin rfl (by simp) (Tr.retQ rfl rfl ?_ trivial))))
    have h : timeOk z d slow = true := by
      unfold timeOk
      revert h
      cases btw z 0 64 <;> cases btw d 0 32768 <;> cases btw slow 0 4096 <;> simp
    simp [TimeR, h, packR]

end Go.Proofs.Ytecggpjpckicgaa

/-! Contracts: echoes. -/
set_option linter.unusedVariables false
set_option linter.unusedSimpArgs false
set_option maxRecDepth 20000
namespace Go.Proofs.Ytecggpjpckicgaa
open Go.Am

structure Echo where
  x : Int
  y : Int
  s : List (Int × Int)

def eB (b : Int × Int) : V := .agg [I b.1, I b.2]
def sB (l : List (Int × Int)) : V := .slice 0 2 (l.map eB)
def eE (e : Echo) : V := .agg [I e.x, I e.y, sB e.s]
def sE (l : List Echo) : V := .slice 0 3 (l.map eE)

theorem getD_map {α : Type} {e : α → V} {l : List α} {k : Nat} (h : k < l.length) : (l.map e).getD (Int.toNat (k : Int)) nothing = e l[k] := by
  simp [h]

/-- The first index at which p holds. -/
def firstI {α : Type} (p : α → Bool) : List α → Nat → Int
  | [], _ => -1
  | x :: l, k => if p x then k else firstI p l (k + 1)

theorem firstI_nn {α : Type} (p : α → Bool) : ∀ (l : List α) (k : Nat), decide (firstI p l k ≥ 0) = l.any p
  | [], k => by simp [firstI]
  | x :: l, k => by
    simp only [firstI, List.any_cons]
    by_cases h : p x = true
    · simp [h]
    · simp only [h, if_false, Bool.false_eq_true]
      rw [firstI_nn p l (k + 1)]
      simp [h]

theorem firstI_drop {α : Type} (p : α → Bool) (l : List α) {k : Nat} (h : k < l.length) : firstI p (l.drop k) k = if p l[k] then (k : Int) else firstI p (l.drop (k + 1)) (k + 1) := by
  rw [List.drop_eq_getElem_cons h]; rfl

theorem c_indexB {l : List (Int × Int)} {p : Int × Int → Bool} {f : FuncId} (hl : l.length ≤ 9223372036854775807) (hp : ∀ b ∈ l, C Try.prog f [eB b] (.bool (p b))) :
    C Try.prog F.slices_IndexFunc_api_Bound_api_Bound [sB l, .func (.func f) [] []] (I (firstI p l 0)) := by
  refine C_of mixed chk.slices_IndexFunc_api_Bound_api_Bound (by simp) fun S ok => ?_
  refine Tr.seqR rfl (by simp) ?_
  refine Tr.seq (Tr.seqR rfl (by simp) (Tr.block ?_))
  refine Tr.loop (fun k s => (k ≤ l.length ∧ firstI p l 0 = firstI p (l.drop k) k) ∧ s = { env := [(0, sB l), (1, .func (.func f) [] []), (7, I l.length), (8, I k)], bx := [], rw := [], log := [], stp := false }) (fun k => l.length - k) 0
    (Wk.le (.cons rfl (.refl _) (.cons rfl (.refl _) (.cons rfl (VLe.i (by simp)) (.cons rfl (.refl _) .nil)))) .nil .nil rfl rfl) ⟨⟨by omega, by simp⟩, rfl⟩ ?_
  rintro k s ⟨⟨hk, hf⟩, rfl⟩
  refine Tr.seqR rfl (by simp) (Tr.seqI rfl (fun h1 => ?_) (fun h1 => ?_))
  · have h1 : k < l.length := by simpa using h1
    refine Tr.skipT (Tr.seq (Tr.block (Tr.seqR rfl (by simp) (Tr.seqC rfl ?_ ?_))))
    · rw [getD_map h1]; simp [eB, cells]; omega
    · rw [getD_map h1]
      refine Steps.callv rfl rfl (hp l[k] (List.getElem_mem h1)) (Steps.fin rfl (by simp) ?_)
      refine Tr.cond rfl rfl (fun h2 => ?_) (fun h2 => ?_)
      · refine Tr.seqR rfl (by simp) (Tr.ret ?_)
        refine ⟨trivial, _, _, _, resVs_ok rfl, rfl, ?_⟩
        rw [hf, firstI_drop p l h1, if_pos h2]; rfl
      · refine Tr.skip (Tr.regR rfl (by simp) ?_)
        refine ⟨k + 1, _, ?_, ⟨⟨by omega, ?_⟩, rfl⟩, by omega⟩
        · exact Wk.le (.cons rfl (.refl _) (.cons rfl (.refl _) (.cons rfl (.refl _) (.cons rfl (VLe.i (w64 (by omega) (by omega))) .nil)))) .nil .nil rfl rfl
        · rw [hf, firstI_drop p l h1, if_neg (by simp [h2])]
  · have h1 : k = l.length := by simp at h1; omega
    subst h1
    refine Tr.exit (Tr.seqR rfl (by simp) (Tr.retQ rfl rfl ?_ trivial))
    rw [hf, List.drop_length]; rfl

theorem c_containsB {l : List (Int × Int)} {p : Int × Int → Bool} {f : FuncId} (hl : l.length ≤ 9223372036854775807) (hp : ∀ b ∈ l, C Try.prog f [eB b] (.bool (p b))) :
    C Try.prog F.slices_ContainsFunc_api_Bound_api_Bound [sB l, .func (.func f) [] []] (.bool (l.any p)) := by
  refine C_of mixed chk.slices_ContainsFunc_api_Bound_api_Bound (by simp) fun S ok => ?_
  refine Tr.seqR rfl (by simp) ?_
  refine Tr.seqC rfl (by simp) (Steps.call rfl rfl (c_indexB hl hp) (Steps.fin rfl (by simp) (Tr.retQ rfl rfl ?_ trivial)))
  rw [← firstI_nn p l 0]; rfl

def loud (b : Int × Int) : Bool := decide (b.1 ≥ -16777216) && decide (b.1 ≤ b.2) && decide (b.2 ≤ 16777216)

theorem c_quiet (b : Int × Int) : C Try.prog F.volume_CheckEchoes_1 [eB b] (.bool (!loud b)) := by
  refine C_of mixed chk.volume_CheckEchoes_1 (by simp) fun S ok => ?_
  refine Tr.seqR rfl (by simp [eB, cells, scalar]) ?_
  refine Tr.seqR rfl (by simp [eB, cells]) (Tr.retQ rfl rfl ?_ trivial)
  simp only [packR, loud, V.bool.injEq]
  by_cases h1 : b.1 > b.2 <;> by_cases h2 : b.1 < -16777216 <;> by_cases h3 : b.2 > 16777216 <;> simp [h1, h2, h3] <;> omega

theorem c_loud (b : Int × Int) : C Try.prog F.ref10_loud [eB b] (.bool (loud b)) := by
  refine C_of mixed chk.ref10_loud (by simp) fun S ok => ?_
  refine Tr.seqR rfl (by simp [eB, cells, scalar]) ?_
  refine Tr.seqR rfl (by simp [eB, cells]) (Tr.retQ rfl rfl ?_ trivial)
  simp only [packR, loud, V.bool.injEq]
  by_cases h1 : b.1 ≤ b.2 <;> by_cases h2 : b.1 ≥ -16777216 <;> by_cases h3 : b.2 ≤ 16777216 <;> simp [h1, h2, h3]

def cellOk (x y z : Int) : Bool := btw x (-64) 64 && btw y (-64) 64 && btw z 0 64

theorem c_cellValid (x y z : Int) : C Try.prog F.volume_cell_valid [.agg [I x, I y, I z]] (.bool (cellOk x y z)) := by
  refine C_of mixed chk.volume_cell_valid (by simp) fun S ok => ?_
  refine Tr.seqR rfl (by simp [cells, scalar]) ?_
  refine Tr.seqC rfl (by simp [cells]) (Steps.call rfl rfl (c_within _ _ _) (Steps.run rfl (by simp [cells]) ?_))
  refine Steps.gcall rfl rfl rfl rfl (by simp [cells]) (fun _ => c_within _ _ _) (Steps.run rfl (by simp [cells]) ?_)
  refine Steps.gcall rfl rfl rfl rfl (by simp [cells]) (fun _ => c_within _ _ _) (Steps.fin rfl (by simp [cells]) (Tr.retQ rfl rfl ?_ trivial))
  simp only [packR, cellOk, V.bool.injEq]
  cases btw x (-64) 64 <;> cases btw y (-64) 64 <;> cases btw z 0 64 <;> rfl

theorem c_grid (x y z : Int) : C Try.prog F.ref10_grid [.agg [I x, I y, I z]] (.bool (cellOk x y z)) := by
  refine C_of mixed chk.ref10_grid (by simp) fun S ok => ?_
  refine Tr.seqR rfl (by simp [cells, scalar]) ?_
  refine Tr.seqC rfl (by simp [cells]) (Steps.call rfl rfl (c_between _ _ _) (Steps.run rfl (by simp [cells]) ?_))
  refine Steps.gcall rfl rfl rfl rfl (by simp) (fun _ => c_between _ _ _) (Steps.run rfl (by simp [cells]) ?_)
  refine Steps.gcall rfl rfl rfl rfl (by simp) (fun _ => c_between _ _ _) (Steps.fin rfl (by simp [cells]) (Tr.retQ rfl rfl ?_ trivial))
  simp only [packR, cellOk, V.bool.injEq]
  cases btw x (-64) 64 <;> cases btw y (-64) 64 <;> cases btw z 0 64 <;> rfl

end Go.Proofs.Ytecggpjpckicgaa

/-! Contracts: CheckEchoes. -/
set_option linter.unusedVariables false
set_option linter.unusedSimpArgs false
set_option maxRecDepth 20000
namespace Go.Proofs.Ytecggpjpckicgaa
open Go.Am

def echoOk (e : Echo) : Bool := btw e.x (-64) 64 && btw e.y (-64) 64 && btw e.s.length 1 64 && e.s.all loud
def echoesOk (l : List Echo) : Bool := decide (l.length ≤ 32) && l.all echoOk
/-- Lengths that slices may have. -/
def sane (l : List Echo) : Prop := l.length ≤ 9223372036854775807 ∧ ∀ e ∈ l, e.s.length ≤ 9223372036854775807
def CheckR (l : List Echo) : V := I (if echoesOk l then 0 else 100)

theorem c_CheckEchoes {l : List Echo} (hl : sane l) : C Try.prog F.volume_CheckEchoes [sE l] (CheckR l) := by
  refine C_of mixed chk.volume_CheckEchoes (by simp) fun S ok => ?_
  refine Tr.seqR rfl (by simp) ?_
  refine Tr.seq (Tr.seqR rfl (by simp) (Tr.cond rfl rfl (fun h => ?_) (fun h => ?_)))
  · refine Tr.seqR rfl (by simp) (Tr.retT rfl rfl ?_ trivial)
    have h : ¬ l.length ≤ 32 := by simp at h; omega
    simp [CheckR, echoesOk, h, packR]
  have h32 : l.length ≤ 32 := by simp at h; omega
  refine Tr.skipT (Tr.seq (Tr.seqR rfl (by simp) (Tr.block ?_)))
  refine Tr.loop (fun k s => (k ≤ l.length ∧ (l.take k).all echoOk = true) ∧ s = { env := [(0, sE l), (9, sE l), (10, I l.length), (11, I k)], bx := [], rw := [], log := [], stp := false }) (fun k => l.length - k) 0
    (Wk.le (.cons rfl (.refl _) (.cons rfl (.refl _) (.cons rfl (VLe.i (by simp)) (.cons rfl (.refl _) .nil)))) .nil .nil rfl rfl) ⟨⟨by omega, by simp⟩, rfl⟩ ?_
  rintro k s ⟨⟨hk, hf⟩, rfl⟩
  refine Tr.seqR rfl (by simp) (Tr.seqI rfl (fun h1 => ?_) (fun h1 => ?_))
  · have h1 : k < l.length := by simpa using h1
    have hmem := List.getElem_mem h1
    refine Tr.skipT (Tr.seq (Tr.block (Tr.seqR rfl ?_ ?_)))
    · rw [getD_map h1]; simp [eE, cells, scalar, sB, mkv, splice]; omega
    rw [getD_map h1]
    refine Tr.seqC rfl (by simp [eE, cells, scalar, sB, mkv, splice]) ?_
    refine Steps.call rfl rfl (c_containsB (hl.2 _ hmem) fun b _ => c_quiet b) (Steps.fin rfl (by simp) ?_)
    refine Tr.seqC rfl (by simp [eE, cells, scalar, sB, mkv, splice, under2, under, dem, dem1]) ?_
    refine Steps.gcall rfl rfl rfl rfl (by simp) (fun _ => c_cellValid _ _ _) (Steps.run rfl (by simp [eE, cells, scalar, sB, mkv, splice]) ?_)
    refine Steps.gcall rfl rfl rfl rfl (by simp) (fun _ => c_within _ _ _) (Steps.fin rfl (by simp [eE, cells, scalar, sB, mkv, splice]) ?_)
    have hE : echoOk l[k] = (btw l[k].x (-64) 64 && btw l[k].y (-64) 64 && btw l[k].s.length 1 64 && l[k].s.all loud) := rfl
    have hany : (l[k].s.any fun b => !loud b) = !l[k].s.all loud := by rw [List.all_eq_not_any_not]; simp
    refine Tr.cond rfl rfl (fun h2 => ?_) (fun h2 => ?_)
    · refine Tr.seqR rfl (by simp) (Tr.ret ?_)
      refine ⟨trivial, _, _, _, resVs_ok rfl, rfl, ?_⟩
      have hno : echoOk l[k] = false := by
        rw [hE]
        revert h2
        simp only [hany, cellOk, List.length_map]
        cases btw l[k].x (-64) 64 <;> cases btw l[k].y (-64) 64 <;> cases btw l[k].s.length 1 64 <;> cases l[k].s.all loud <;> simp [btw]
      have : l.all echoOk = false := by
        rw [List.all_eq_false]
        exact ⟨l[k], hmem, by simp [hno]⟩
      simp [CheckR, echoesOk, this, packR]
    · refine Tr.skip (Tr.regR rfl (by simp) ?_)
      have hyes : echoOk l[k] = true := by
        rw [hE]
        revert h2
        simp only [hany, cellOk, List.length_map]
        cases btw l[k].x (-64) 64 <;> cases btw l[k].y (-64) 64 <;> cases btw l[k].s.length 1 64 <;> cases l[k].s.all loud <;> simp [btw]
      refine ⟨k + 1, _, ?_, ⟨⟨by omega, ?_⟩, rfl⟩, by omega⟩
      · exact Wk.le (.cons rfl (.refl _) (.cons rfl (.refl _) (.cons rfl (.refl _) (.cons rfl (VLe.i (w64 (by omega) (by omega))) .nil)))) .nil .nil rfl rfl
      · rw [List.take_add_one, List.all_append, hf, List.getElem?_eq_getElem h1]
        simp [hyes]
  · have h1 : k = l.length := by simp at h1; omega
    subst h1
    refine Tr.exit (Tr.seqR rfl (by simp) (Tr.retQ rfl rfl ?_ trivial))
    have : l.all echoOk = true := by simpa using hf
    simp [CheckR, echoesOk, h32, this, packR]

theorem c_CheckEchoes10 {l : List Echo} (hl : sane l) : C Try.prog F.ref10_CheckEchoes [sE l] (CheckR l) := by
  refine C_of mixed chk.ref10_CheckEchoes (by simp) fun S ok => ?_
  refine Tr.seqR rfl (by simp) ?_
  refine Tr.seq (Tr.seqR rfl (by simp) (Tr.cond rfl rfl (fun h => ?_) (fun h => ?_)))
  · refine Tr.seqR rfl (by simp) (Tr.retT rfl rfl ?_ trivial)
    have h : ¬ l.length ≤ 32 := by simp at h; omega
    simp [CheckR, echoesOk, h, packR]
  have h32 : l.length ≤ 32 := by simp at h; omega
  refine Tr.skipT (Tr.seq (Tr.seqR rfl (by simp) (Tr.block ?_)))
  refine Tr.loop (fun k s => (k ≤ l.length ∧ (l.take k).all echoOk = true) ∧ s = { env := [(0, sE l), (3, I k)], bx := [], rw := [], log := [], stp := false }) (fun k => l.length - k) 0
    (Wk.le (.cons rfl (.refl _) (.cons rfl (.refl _) .nil)) .nil .nil rfl rfl) ⟨⟨by omega, by simp⟩, rfl⟩ ?_
  rintro k s ⟨⟨hk, hf⟩, rfl⟩
  refine Tr.seq (Tr.seqR rfl (by simp) (Tr.cond rfl rfl (fun h1 => ?_) (fun h1 => ?_)))
  · have h1 : k < l.length := by simpa using h1
    have hmem := List.getElem_mem h1
    have hE : echoOk l[k] = (btw l[k].x (-64) 64 && btw l[k].y (-64) 64 && btw l[k].s.length 1 64 && l[k].s.all loud) := rfl
    have hlen := hl.2 _ hmem
    have bad : echoOk l[k] = false → echoesOk l = false := fun hno => by
      have : l.all echoOk = false := by
        rw [List.all_eq_false]
        exact ⟨l[k], hmem, by simp [hno]⟩
      simp [echoesOk, this]
    refine Tr.skipT (Tr.seq (Tr.block (Tr.seqR rfl ?_ ?_)))
    · rw [getD_map h1]; simp [eE, cells, scalar, sB, mkv, splice]; omega
    rw [getD_map h1]
    refine Tr.seq (Tr.seqC rfl (by simp [eE, cells, scalar, sB, mkv, splice]) (Steps.call rfl rfl (c_between _ _ _) (Steps.run rfl (by simp [eE, cells, scalar, sB, mkv, splice]) ?_)))
    refine Steps.gcall rfl rfl rfl rfl (by simp) (fun _ => c_between _ _ _) (Steps.run rfl (by simp [eE, cells, scalar, sB, mkv, splice]) ?_)
    refine Steps.gcall rfl rfl rfl rfl (by simp) (fun _ => c_between _ _ _) (Steps.fin rfl (by simp [eE, cells, scalar, sB, mkv, splice]) ?_)
    refine Tr.cond rfl rfl (fun h2 => ?_) (fun h2 => ?_)
    · refine Tr.seqR rfl (by simp) (Tr.ret ?_)
      refine ⟨trivial, _, _, _, resVs_ok rfl, rfl, ?_⟩
      have hno : echoOk l[k] = false := by
        rw [hE]
        revert h2
        simp only [List.length_map]
        cases btw l[k].x (-64) 64 <;> cases btw l[k].y (-64) 64 <;> cases btw l[k].s.length 1 64 <;> simp
      simp [CheckR, bad hno, packR]
    have h3 : btw l[k].x (-64) 64 = true ∧ btw l[k].y (-64) 64 = true ∧ btw l[k].s.length 1 64 = true := by
      revert h2
      simp only [List.length_map]
      cases btw l[k].x (-64) 64 <;> cases btw l[k].y (-64) 64 <;> cases btw l[k].s.length 1 64 <;> simp
    have h64 : l[k].s.length ≤ 64 := by have := h3.2.2; simp [btw] at this; omega
    refine Tr.skipT (Tr.seqR rfl (by simp) (Tr.block ?_))
    refine Tr.loop (fun j s => (j ≤ l[k].s.length ∧ (l[k].s.take j).all loud = true) ∧ s = { env := [(0, sE l), (3, I k), (4, .ptr 4 0), (5, I j)], bx := [(4, ⟨[I l[k].x, I l[k].y, sB l[k].s], false⟩)], rw := [], log := [], stp := false }) (fun j => l[k].s.length - j) 0
      (Wk.le (.cons rfl (.refl _) (.cons rfl (.refl _) (.cons rfl (.refl _) (.cons rfl (.refl _) .nil)))) (.cons rfl (LLe.refl _) .nil) .nil rfl rfl) ⟨⟨by omega, by simp⟩, rfl⟩ ?_
    rintro j s ⟨⟨hj, hg⟩, rfl⟩
    refine Tr.seq (Tr.seqR rfl (by simp) (Tr.cond rfl rfl (fun h4 => ?_) (fun h4 => ?_)))
    · have h4 : j < l[k].s.length := by simpa using h4
      refine Tr.skipT (Tr.seq (Tr.block (Tr.seqC rfl ?_ ?_)))
      · rw [getD_map h4]; simp [cells, eB]; omega
      rw [getD_map h4]
      refine Steps.call rfl rfl (c_loud _) (Steps.fin rfl (by simp) ?_)
      refine Tr.cond rfl rfl (fun h5 => ?_) (fun h5 => ?_)
      · refine Tr.seqR rfl (by simp) (Tr.ret ?_)
        refine ⟨trivial, _, _, _, resVs_ok rfl, rfl, ?_⟩
        have hno : echoOk l[k] = false := by
          have : l[k].s.all loud = false := by
            rw [List.all_eq_false]
            exact ⟨l[k].s[j], List.getElem_mem h4, by simpa using h5⟩
          rw [hE, this, Bool.and_false]
        simp [CheckR, bad hno, packR]
      · refine Tr.skip (Tr.regR rfl (by simp) ?_)
        refine ⟨j + 1, _, ?_, ⟨⟨by omega, ?_⟩, rfl⟩, by omega⟩
        · exact Wk.le (.cons rfl (.refl _) (.cons rfl (.refl _) (.cons rfl (.refl _) (.cons rfl (VLe.i (w64 (by omega) (by omega))) .nil)))) (.cons rfl (LLe.refl _) .nil) .nil rfl rfl
        · rw [List.take_add_one, List.all_append, hg, List.getElem?_eq_getElem h4]
          simpa using h5
    · have h4 : j = l[k].s.length := by simp at h4; omega
      subst h4
      have hyes : echoOk l[k] = true := by
        rw [hE, h3.1, h3.2.1, h3.2.2]
        simpa using hg
      refine Tr.exit (Tr.regR rfl (by simp) ?_)
      refine ⟨k + 1, _, ?_, ⟨⟨by omega, ?_⟩, rfl⟩, by omega⟩
      · exact Wk.le (.cons rfl (.refl _) (.cons rfl (VLe.i (w64 (by omega) (by omega))) .nil)) .nil .nil rfl rfl
      · rw [List.take_add_one, List.all_append, hf, List.getElem?_eq_getElem h1]
        simp [hyes]
  · have h1 : k = l.length := by simp at h1; omega
    subst h1
    refine Tr.exit (Tr.seqR rfl (by simp) (Tr.retQ rfl rfl ?_ trivial))
    have : l.all echoOk = true := by simpa using hf
    simp [CheckR, echoesOk, h32, this, packR]

end Go.Proofs.Ytecggpjpckicgaa

/-! Contracts: sums over what is produced. -/
set_option linter.unusedVariables false
set_option linter.unusedSimpArgs false
set_option maxRecDepth 20000
namespace Go.Proofs.Ytecggpjpckicgaa
open Go.Am

/-- Captured data that stand for themselves. -/
structure Plain (us : List V) : Prop where
  d : ∀ b, toDs b us = some (us, [])
  r : ∀ B R, us.all (refsOk B R 5) = true

theorem refs_plain {us : List V} (h : Plain us) {fn : Fn} {B : Nat → Bool} {R : Nat → Option (Nat × Nat × Nat)} : refsOk B R 6 (.func fn [] us) = true := by
  show (([] : List V).all (refsOk B R 5) && us.all (refsOk B R 5)) = true
  rw [h.r]; rfl

theorem c_fold {f g : FuncId} {us : List V} {step : Int × Int → Int × Int → Int × Int} (first : Int × Int) {l : List (Int × Int)} (hus : Plain us) (hit : Iter Try.prog f us (l.map fun b => [eB b])) (hg : ∀ a b, C Try.prog g [eB a, eB b] (eB (step a b))) :
    C Try.prog F.volume_fold_volume_sum [eB first, .func (.func f) [] us, .func (.func g) [] []] (eB (l.foldl step first)) := by
  refine C_of mixed chk.volume_fold_volume_sum (by simp) fun S ok => ?_
  refine Tr.seqR rfl (by simp [eB, cells, scalar]) ?_
  refine Tr.seq (Tr.seqR rfl (by simp) (Tr.block ?_))
  refine Tr.weak (s' := { env := [(8, .func (.func f) [] us), (3, .ptr 3 0), (5, .ptr 5 0), (6, .ptr 6 0)], bx := [(3, ⟨[I first.1, I first.2], false⟩), (5, ⟨[.func (.func g) [] []], false⟩), (6, ⟨[I 0, I 0], false⟩)], rw := [], log := [], stp := false })
    (Wk.le (.cons rfl (.refl _) (.cons rfl (.refl _) (.cons rfl (.refl _) (.cons rfl (.refl _) .nil)))) (.cons rfl (LLe.refl _) (.cons rfl (LLe.refl _) (.cons rfl (LLe.refl _) .nil))) .nil (by simp only [okRefs, List.all_cons, refs_plain hus]; rfl) rfl) ?_
  refine Tr.range rfl (hus.d _) hit rfl (by simp only [List.all_cons, refs_plain hus]; rfl) rfl (by intro x hx; obtain ⟨b, _, rfl⟩ := List.mem_map.1 hx; rfl)
    (fun pre t => ∃ m, m ≤ l.length ∧ pre = (l.take m).map (fun b => [eB b]) ∧ t.bx = [(3, ⟨[I ((l.take m).foldl step first).1, I ((l.take m).foldl step first).2], false⟩), (5, ⟨[.func (.func g) [] []], false⟩), (6, ⟨[I 0, I 0], false⟩)] ∧ t.rw = [] ∧ t.log = [])
    (fun _ _ => False) ⟨0, by omega, rfl, rfl, rfl, rfl⟩ ?_ ?_ ?_
  · rintro a0 L0 rc0 h0 S1 S2 ok1 ok2 pre x t lp hpre ⟨m, hm, rfl, hbx, hrw, hlog⟩ henv hstp
    obtain ⟨env, bx, rw, log, stp⟩ := t
    simp only at hbx hrw hlog henv hstp
    subst hbx hrw hlog henv hstp
    have hmx : m < l.length ∧ ∃ b, l[m]? = some b ∧ x = [eB b] := by
      have h1 : ((l.take m).map fun b => [eB b]).length = m := by simp; omega
      have h2 := hpre.length_le
      simp at h2
      have hml : m < l.length := by omega
      refine ⟨hml, l[m], List.getElem?_eq_getElem hml, ?_⟩
      have h3 := List.IsPrefix.getElem hpre (i := m) (by simp; omega)
      simp only [List.getElem_map] at h3
      rw [List.getElem_append_right (by omega)] at h3
      simpa using h3
    obtain ⟨hml, b, hb, rfl⟩ := hmx
    refine Tr.regR rfl (by simp [eB, cells, scalar, splice]) ?_
    refine Tr.block (Tr.regP rfl (by simp [cells, eB, splice]) ?_)
    refine Steps.callv rfl rfl (hg ((l.take m).foldl step first) b) (Steps.fin rfl (by simp [eB, cells, scalar, splice]) ?_)
    refine ⟨{ env := [], bx := [(3, ⟨[I ((l.take (m + 1)).foldl step first).1, I ((l.take (m + 1)).foldl step first).2], false⟩), (5, ⟨[.func (.func g) [] []], false⟩), (6, ⟨[I 0, I 0], false⟩)], rw := [], log := [], stp := false }, ?_, ⟨m + 1, by omega, ?_, rfl, rfl, rfl⟩, rfl⟩
    · have e : (l.take (m + 1)).foldl step first = step ((l.take m).foldl step first) b := by
        rw [List.take_add_one, hb]; simp
      rw [e]
      exact Wk.le .nil (.cons rfl (LLe.refl _) (.cons rfl (LLe.refl _) (.cons rfl (LLe.refl _) .nil))) .nil rfl rfl
    · rw [List.take_add_one, hb]; simp
  · rintro ⟨env, bx, rw, log, stp⟩ henv hstp ⟨m, hm, hpre, hbx, hrw, hlog⟩
    simp only at hbx hrw hlog henv hstp
    subst hbx hrw hlog henv hstp
    have hml : m = l.length := by
      have := congrArg List.length hpre
      simp at this; omega
    subst hml
    refine Tr.seqR rfl (by simp [cells, scalar, splice, mkv]) (Tr.retQ rfl rfl ?_ trivial)
    rw [List.take_length]; rfl
  · intro e t _ h; exact h.elim

end Go.Proofs.Ytecggpjpckicgaa

/-! Contracts: what is heard at a place. -/
set_option linter.unusedVariables false
set_option linter.unusedSimpArgs false
set_option maxRecDepth 20000
namespace Go.Proofs.Ytecggpjpckicgaa
open Go.Am

abbrev w (n : Int) : Int := IntKind.wrap .i64 n

structure Ear where
  l : List Echo
  aper : Int
  slow : Int × Int

def earC (h : Ear) : List V := [sE h.l, I h.aper, I h.slow.1, I h.slow.2]
def cellC (x y z : Int) : List V := [I x, I y, I z]

def dst (x y : Int) (e : Echo) : Int := w (w (w (x - e.x) * w (x - e.x)) + w (w (y - e.y) * w (y - e.y)))
def hears (aper x y : Int) (e : Echo) : Bool := decide (dst x y e ≤ w (aper * aper))
def nears (aper x y : Int) : List Echo → Nat → List (Int × Int)
  | [], _ => []
  | e :: r, k => if hears aper x y e then ((k : Int), dst x y e) :: nears aper x y r (k + 1) else nears aper x y r (k + 1)

def eP (p : Int × Int) : List V := [I p.1, I p.2]

theorem nears_drop (aper x y : Int) (l : List Echo) {k : Nat} (h : k < l.length) : nears aper x y (l.drop k) k = if hears aper x y l[k] then ((k : Int), dst x y l[k]) :: nears aper x y (l.drop (k + 1)) (k + 1) else nears aper x y (l.drop (k + 1)) (k + 1) := by
  rw [List.drop_eq_getElem_cons h]; rfl

theorem c_near (h : Ear) (x y z : Int) : C Try.prog F.volume_ear_near [.agg (earC h), .agg (cellC x y z)] (.func (.func F.volume_ear_near_1) [] [.vptr (earC h) 0, .vptr (cellC x y z) 0]) := by
  refine C_of mixed chk.volume_ear_near (by simp) fun S ok => ?_
  refine Tr.seqR rfl (by simp [cells, scalar, earC, cellC, sE]) ?_
  exact Tr.seqR rfl (by simp [scalar]) (Tr.retQ rfl rfl rfl trivial)

theorem i_near (h : Ear) (x y z : Int) (hl : h.l.length ≤ 9223372036854775807) : Iter Try.prog F.volume_ear_near_1 [.vptr (earC h) 0, .vptr (cellC x y z) 0] ((nears h.aper x y h.l 0).map eP) := by
  refine Iter_of mixed chk.volume_ear_near_1 (by simp) fun S ok => ?_
  refine Tr.seqR rfl (by simp [earC]) (Tr.block ?_)
  refine Tr.loop (α := Nat × List (List V)) (fun p s => (p.1 ≤ h.l.length ∧ p.2 ++ (nears h.aper x y (h.l.drop p.1) p.1).map eP = (nears h.aper x y h.l 0).map eP) ∧
      s = { env := [(0, .yld), (1, .vptr (earC h) 0), (2, .vptr (cellC x y z) 0), (8, sE h.l), (9, I h.l.length), (10, I p.1)], bx := [], rw := [], log := p.2, stp := false }) (fun p => h.l.length - p.1) (0, [])
    (Wk.le (.cons rfl (.refl _) (.cons rfl (.refl _) (.cons rfl (.refl _) (.cons rfl (.refl _) (.cons rfl (VLe.i (by simp)) (.cons rfl (.refl _) .nil)))))) .nil .nil rfl rfl) ⟨⟨by simp, by simp⟩, rfl⟩ ?_
  rintro ⟨k, lg⟩ s ⟨⟨hk, hf⟩, rfl⟩
  simp only at hk hf
  refine Tr.seqR rfl (by simp) (Tr.seqI rfl (fun h1 => ?_) (fun h1 => ?_))
  · have h1 : k < h.l.length := by simpa using h1
    refine Tr.skipT (Tr.seq (Tr.block (Tr.seqR rfl ?_ ?_)))
    · rw [getD_map h1]; simp [eE, cells, scalar, sB, mkv, splice]; omega
    rw [getD_map h1]
    refine Tr.seqR rfl (by simp [eE, cells, scalar, sB, mkv, splice, cellC]) ?_
    refine Tr.seqC rfl (by simp [earC]) ?_
    have hd := nears_drop h.aper x y h.l h1
    by_cases hh : hears h.aper x y h.l[k] = true
    · rw [if_pos hh] at hd
      have hp : lg ++ [eP ((k : Int), dst x y h.l[k])] ++ (nears h.aper x y (h.l.drop (k + 1)) (k + 1)).map eP = (nears h.aper x y h.l 0).map eP := by
        rw [← hf, hd]; simp
      refine Steps.gyield (want := true) rfl rfl ?_ rfl ?_ rfl ⟨_, hp⟩ rfl (fun b => ?_)
      · show some (hears h.aper x y h.l[k] == true) = some true
        rw [hh]; rfl
      · show (hears h.aper x y h.l[k] == true) = true ∧ (hears h.aper x y h.l[k] == true) = true ∧ (hears h.aper x y h.l[k] == true) = true ∧ True
        rw [hh]; simp
      refine Steps.fin rfl (by simp) ?_
      refine Tr.cond rfl rfl (fun h2 => ?_) (fun h2 => ?_)
      · refine Tr.ret ⟨.inl ?_, [], [], [], rfl, rfl, rfl⟩
        have h2 : (bif hears h.aper x y h.l[k] then !b else false) = true := h2
        rw [hh] at h2
        exact h2
      · have h2 : (bif hears h.aper x y h.l[k] then !b else false) = false := h2
        rw [hh] at h2
        have hb : b = true := by simpa using h2
        subst hb
        refine Tr.skip (Tr.regR rfl (by simp) ?_)
        refine ⟨(k + 1, lg ++ [eP ((k : Int), dst x y h.l[k])]), _, ?_, ⟨⟨by simp; omega, hp⟩, rfl⟩, by simp; omega⟩
        exact Wk.le (.cons rfl (.refl _) (.cons rfl (.refl _) (.cons rfl (.refl _) (.cons rfl (.refl _) (.cons rfl (.refl _) (.cons rfl (VLe.i (w64 (by omega) (by omega))) .nil)))))) .nil .nil rfl rfl
    · have hh : hears h.aper x y h.l[k] = false := by simpa using hh
      rw [hh, if_neg (by simp)] at hd
      refine Steps.off (want := true) (.bool true) rfl rfl ?_ ?_
      · show some (hears h.aper x y h.l[k] == true) = some false
        rw [hh]; rfl
      refine Steps.fin rfl ?_ ?_
      · have e : (decide (dst x y h.l[k] ≤ w (h.aper * h.aper))) = false := hh
        have e2 := Int.lt_of_not_ge (of_decide_eq_false e)
        simp
        exact e2
      refine Tr.cond rfl rfl (fun h2 => ?_) (fun h2 => ?_)
      · have h2 : (bif hears h.aper x y h.l[k] then !true else false) = true := h2
        rw [hh] at h2; cases h2
      · refine Tr.skip (Tr.regR rfl (by simp) ?_)
        refine ⟨(k + 1, lg), _, ?_, ⟨⟨by simp; omega, ?_⟩, rfl⟩, by simp; omega⟩
        · exact Wk.le (.cons rfl (.refl _) (.cons rfl (.refl _) (.cons rfl (.refl _) (.cons rfl (.refl _) (.cons rfl (.refl _) (.cons rfl (VLe.i (w64 (by omega) (by omega))) .nil)))))) .nil .nil rfl rfl
        · simp only; rw [← hd]; exact hf
  · have h1 : k = h.l.length := by simp at h1; omega
    subst h1
    refine Tr.exit ?_
    refine ⟨.inr ?_, [], [], [], rfl, rfl, rfl⟩
    rw [List.drop_length] at hf
    have e : lg = (nears h.aper x y h.l 0).map eP := by simpa [nears] using hf
    exact e

end Go.Proofs.Ytecggpjpckicgaa

/-! Contracts: sums of bounds, distances. -/
set_option linter.unusedVariables false
set_option linter.unusedSimpArgs false
set_option maxRecDepth 20000
namespace Go.Proofs.Ytecggpjpckicgaa
open Go.Am

def plusB (a b : Int × Int) : Int × Int := (w (a.1 + b.1), w (a.2 + b.2))

theorem c_plus (a b : Int × Int) : C Try.prog F.volume_sum_plus [eB a, eB b] (eB (plusB a b)) := by
  refine C_of mixed chk.volume_sum_plus (by simp) fun S ok => ?_
  refine Tr.seqR rfl (by simp [eB, cells, scalar]) ?_
  exact Tr.seqR rfl (by simp [eB, cells, scalar, splice]) (Tr.retQ rfl rfl rfl trivial)

end Go.Proofs.Ytecggpjpckicgaa

/-! Contracts: what a place names. -/
set_option linter.unusedVariables false
set_option linter.unusedSimpArgs false
set_option maxRecDepth 20000
namespace Go.Proofs.Ytecggpjpckicgaa
open Go.Am

theorem nears_mem {aper x y : Int} : ∀ {l : List Echo} {k : Nat} {p : Int × Int}, p ∈ nears aper x y l k → ∃ i : Nat, p.1 = ((k + i : Nat) : Int) ∧ i < l.length
  | [], k, p, h => by simp [nears] at h
  | e :: r, k, p, h => by
    simp only [nears] at h
    have rest : p ∈ nears aper x y r (k + 1) → ∃ i : Nat, p.1 = ((k + i : Nat) : Int) ∧ i < (e :: r).length := fun h => by
      obtain ⟨i, h1, h2⟩ := nears_mem h
      exact ⟨i + 1, by rw [h1]; congr 1; omega, by simpa using h2⟩
    split at h
    · rcases List.mem_cons.1 h with rfl | h
      · exact ⟨0, by simp, by simp⟩
      · exact rest h
    · exact rest h

def refOf (h : Ear) (z : Int) (p : Int × Int) : Option (Int × Int) :=
  if timeN z p.2 h.slow.1 < ((h.l[p.1.toNat]?.map fun e => e.s.length).getD 0 : Nat) then some (p.1, timeN z p.2 h.slow.1) else none

def namedL (h : Ear) (x y z : Int) : List (Int × Int) := (nears h.aper x y h.l 0).filterMap (refOf h z)

theorem plain_near (h : Ear) (x y z : Int) : Plain [.vptr (earC h) 0, .vptr (cellC x y z) 0] := ⟨fun b => rfl, fun B R => rfl⟩

theorem nears_len {aper x y : Int} : ∀ {l : List Echo} {k : Nat}, (nears aper x y l k).length ≤ l.length
  | [], k => by simp [nears]
  | e :: r, k => by
    have := nears_len (aper := aper) (x := x) (y := y) (l := r) (k := k + 1)
    simp only [nears]
    split <;> simp <;> omega

theorem c_named (h : Ear) (x y z : Int) (hl : h.l.length ≤ 32) (hs : ∀ e ∈ h.l, e.s.length ≤ 9223372036854775807) :
    C Try.prog F.volume_ear_named [.agg (earC h), .agg (cellC x y z)] (.slice 0 2 ((namedL h x y z).map eB)) := by
  refine C_of mixed chk.volume_ear_named (by simp) fun S ok => ?_
  refine Tr.seqR rfl (by simp [cells, scalar, earC, cellC, sE]) ?_
  refine Tr.seqR rfl (by simp) ?_
  refine Tr.seq (Tr.seqC rfl (by simp [cells, earC, cellC]) (Steps.call rfl rfl (c_near h x y z) (Steps.fin rfl (by simp) (Tr.block ?_))))
  refine Tr.weak (s' := { env := [(11, .func (.func F.volume_ear_near_1) [] [.vptr (earC h) 0, .vptr (cellC x y z) 0]), (2, .ptr 2 0), (3, .ptr 3 0), (5, .ptr 5 0)], bx := [(2, ⟨earC h, false⟩), (3, ⟨cellC x y z, false⟩), (5, ⟨[.slice 36 2 []], false⟩)], rw := [(35, 0, 2, 70)], log := [], stp := false })
    (Wk.le (.cons rfl (.refl _) (.cons rfl (.refl _) (.cons rfl (.refl _) (.cons rfl (.refl _) .nil)))) (.cons rfl (LLe.refl _) (.cons rfl (LLe.refl _) (.cons rfl (.cons (.nil 36 2) .nil) .nil))) (.new rfl .nil) rfl rfl) ?_
  refine Tr.range rfl rfl (i_near h x y z (by omega)) rfl rfl rfl (by intro x hx; obtain ⟨b, _, rfl⟩ := List.mem_map.1 hx; rfl)
    (fun pre t => ∃ m, m ≤ (nears h.aper x y h.l 0).length ∧ pre = ((nears h.aper x y h.l 0).take m).map eP ∧ t.bx = [(2, ⟨earC h, false⟩), (3, ⟨cellC x y z, false⟩), (5, ⟨[.slice 36 2 ((((nears h.aper x y h.l 0).take m).filterMap (refOf h z)).map eB)], false⟩)] ∧ t.rw = [(35, (((nears h.aper x y h.l 0).take m).filterMap (refOf h z)).length, 2, 70)] ∧ t.log = [])
    (fun _ _ => False) ⟨0, by omega, rfl, rfl, rfl, rfl⟩ ?_ ?_ ?_
  · rintro a0 L0 rc0 h0 S1 S2 ok1 ok2 pre q t lp hpre ⟨m, hm, rfl, hbx, hrw, hlog⟩ henv hstp
    obtain ⟨env, bx, rw, log, stp⟩ := t
    simp only at hbx hrw hlog henv hstp
    subst hbx hrw hlog henv hstp
    have hmx : m < (nears h.aper x y h.l 0).length ∧ ∃ b, (nears h.aper x y h.l 0)[m]? = some b ∧ q = eP b := by
      have h1 : (((nears h.aper x y h.l 0).take m).map eP).length = m := by simp; omega
      have h2 := hpre.length_le
      simp at h2
      have hml : m < (nears h.aper x y h.l 0).length := by omega
      refine ⟨hml, _, List.getElem?_eq_getElem hml, ?_⟩
      have h3 := List.IsPrefix.getElem hpre (i := m) (by simp; omega)
      simp only [List.getElem_map] at h3
      rw [List.getElem_append_right (by omega)] at h3
      simpa using h3
    obtain ⟨hml, ⟨p1, p2⟩, hb, rfl⟩ := hmx
    obtain ⟨i, hi, hil⟩ := nears_mem (List.mem_of_getElem? hb)
    have hi : p1 = (i : Int) := by simpa using hi
    subst hi
    have hsl := hs _ (List.getElem_mem hil)
    have eref : refOf h z ((i : Int), p2) = if timeN z p2 h.slow.1 < (h.l[i].s.length : Int) then some ((i : Int), timeN z p2 h.slow.1) else none := by
      simp [refOf, List.getElem?_eq_getElem hil]
    have etk : ((nears h.aper x y h.l 0).take (m + 1)).filterMap (refOf h z) = ((nears h.aper x y h.l 0).take m).filterMap (refOf h z) ++ (refOf h z ((i : Int), p2)).toList := by
      rw [List.take_add_one, hb, List.filterMap_append]
      clear eref
      cases hr : refOf h z ((i : Int), p2) <;> simp [List.filterMap_cons, hr]
    refine Tr.seqR rfl (by simp) (Tr.regR rfl (by simp) ?_)
    refine Tr.block (Tr.seqC rfl (by simp [earC, cellC]) (Steps.call rfl rfl (c_time _ _ _) (Steps.fin rfl (by simp) ?_)))
    refine Tr.seqN 5 rfl (by simp [earC]; omega) ?_
    rw [getD_map hil]
    refine Steps.fin rfl (by simp [eE, cells]) ?_
    refine Tr.cond rfl rfl (fun h2 => ?_) (fun h2 => ?_)
    · have h2 : timeN z p2 h.slow.1 < (h.l[i].s.length : Int) := by simpa using h2
      have hlen : (((nears h.aper x y h.l 0).take m).filterMap (refOf h z)).length ≤ 32 := by
        have h5 := List.length_filterMap_le (refOf h z) ((nears h.aper x y h.l 0).take m)
        have h6 := nears_len (aper := h.aper) (x := x) (y := y) (l := h.l) (k := 0)
        simp at h5
        omega
      refine Tr.regR rfl (by simp [cells, scalar, splice]; omega) ?_
      refine ⟨{ env := [], bx := [(2, ⟨earC h, false⟩), (3, ⟨cellC x y z, false⟩), (5, ⟨[.slice 36 2 ((((nears h.aper x y h.l 0).take m).filterMap (refOf h z)).map eB ++ [eB ((i : Int), timeN z p2 h.slow.1)])], false⟩)], rw := [(35, (((nears h.aper x y h.l 0).take m).filterMap (refOf h z)).length + 1, 2, 70)], log := [], stp := false }, ?_, ⟨m + 1, by omega, ?_, ?_, ?_, rfl⟩, rfl⟩
      · refine Wk.le .nil (.cons rfl (LLe.refl _) (.cons rfl (LLe.refl _) (.cons rfl (LLe.refl _) .nil))) (.cons ?_ .nil) rfl rfl
        show some _ = some _
        simp
      · rw [List.take_add_one, hb]; simp
      · rw [etk, eref, if_pos h2]; simp
      · rw [etk, eref, if_pos h2]; simp
    · have h2 : ¬ timeN z p2 h.slow.1 < (h.l[i].s.length : Int) := by simpa using h2
      refine Tr.skip ?_
      refine ⟨{ env := [], bx := [(2, ⟨earC h, false⟩), (3, ⟨cellC x y z, false⟩), (5, ⟨[.slice 36 2 ((((nears h.aper x y h.l 0).take m).filterMap (refOf h z)).map eB)], false⟩)], rw := [(35, (((nears h.aper x y h.l 0).take m).filterMap (refOf h z)).length, 2, 70)], log := [], stp := false }, ?_, ⟨m + 1, by omega, ?_, ?_, ?_, rfl⟩, rfl⟩
      · exact Wk.le .nil (.cons rfl (LLe.refl _) (.cons rfl (LLe.refl _) (.cons rfl (LLe.refl _) .nil))) (.cons rfl .nil) rfl rfl
      · rw [List.take_add_one, hb]; simp
      · rw [etk, eref, if_neg h2]; simp
      · rw [etk, eref, if_neg h2]; simp
  · rintro ⟨env, bx, rw, log, stp⟩ henv hstp ⟨m, hm, hpre, hbx, hrw, hlog⟩
    simp only at hbx hrw hlog henv hstp
    subst hbx hrw hlog henv hstp
    have hml : m = (nears h.aper x y h.l 0).length := by
      have := congrArg List.length hpre
      simp at this; omega
    subst hml
    refine Tr.seqR rfl (by simp) (Tr.retQ rfl rfl ?_ trivial)
    rw [List.take_length]; rfl
  · intro e t _ h; exact h.elim

end Go.Proofs.Ytecggpjpckicgaa

/-! Contracts: values. -/
set_option linter.unusedVariables false
set_option linter.unusedSimpArgs false
set_option maxRecDepth 20000
namespace Go.Proofs.Ytecggpjpckicgaa
open Go.Am

theorem timeN_nn (z d slow : Int) : 0 ≤ timeN z d slow := by
  unfold timeN rootN
  split
  · exact (isqL_le _ 21 (by omega)).1
  · omega

def boundAt (h : Ear) (r : Int × Int) : Int × Int := (((h.l[r.1.toNat]?.map fun e => e.s).getD [])[r.2.toNat]?).getD (0, 0)

theorem named_mem {h : Ear} {x y z : Int} {r : Int × Int} (hr : r ∈ namedL h x y z) : ∃ (i j : Nat) (hi : i < h.l.length) (hj : j < h.l[i].s.length), r = ((i : Int), (j : Int)) ∧ boundAt h r = h.l[i].s[j] := by
  unfold namedL at hr
  obtain ⟨p, hp, hr⟩ := List.mem_filterMap.1 hr
  obtain ⟨i, h1, h2⟩ := nears_mem hp
  have h1 : p.1 = (i : Int) := by simpa using h1
  unfold refOf at hr
  rw [h1] at hr
  simp only [Int.toNat_natCast, List.getElem?_eq_getElem h2, Option.map_some, Option.getD_some] at hr
  split at hr
  · rename_i h3
    cases hr
    have h4 := timeN_nn z p.2 h.slow.1
    refine ⟨i, (timeN z p.2 h.slow.1).toNat, h2, by omega, by simp [Int.toNat_of_nonneg h4], ?_⟩
    have h5 : (timeN z p.2 h.slow.1).toNat < h.l[i].s.length := by omega
    simp [boundAt, List.getElem?_eq_getElem h2, List.getElem?_eq_getElem h5]
  · cases hr

theorem i_value (h : Ear) (x y z : Int) (hl : h.l.length ≤ 32) (hs : ∀ e ∈ h.l, e.s.length ≤ 9223372036854775807) :
    Iter Try.prog F.volume_ear_value_1 [.vptr (earC h) 0, .vptr (cellC x y z) 0] (((namedL h x y z).map (boundAt h)).map fun b => [eB b]) := by
  refine Iter_of mixed chk.volume_ear_value_1 (by simp) fun S ok => ?_
  refine Tr.seqC rfl (by simp [earC, cellC]) (Steps.call rfl rfl (c_named h x y z hl hs) (Steps.fin rfl (by simp) (Tr.block ?_)))
  have hlen : (namedL h x y z).length ≤ 32 := by
    have h5 := List.length_filterMap_le (refOf h z) (nears h.aper x y h.l 0)
    have h6 := nears_len (aper := h.aper) (x := x) (y := y) (l := h.l) (k := 0)
    unfold namedL; omega
  refine Tr.loop (fun k s => k ≤ (namedL h x y z).length ∧ s = { env := [(0, .yld), (1, .vptr (earC h) 0), (2, .vptr (cellC x y z) 0), (8, .slice 0 2 ((namedL h x y z).map eB)), (9, I (namedL h x y z).length), (10, I k)], bx := [], rw := [], log := (((namedL h x y z).take k).map (boundAt h)).map (fun b => [eB b]), stp := false }) (fun k => (namedL h x y z).length - k) 0
    (Wk.le (.cons rfl (.refl _) (.cons rfl (.refl _) (.cons rfl (.refl _) (.cons rfl (.refl _) (.cons rfl (VLe.i (by simp)) (.cons rfl (.refl _) .nil)))))) .nil .nil rfl rfl) ⟨by omega, rfl⟩ ?_
  rintro k s ⟨hk, rfl⟩
  refine Tr.seqR rfl (by simp) (Tr.seqI rfl (fun h1 => ?_) (fun h1 => ?_))
  · have h1 : k < (namedL h x y z).length := by simpa using h1
    obtain ⟨i, j, hi, hj, hr, hbd⟩ := named_mem (List.getElem_mem h1)
    refine Tr.skipT (Tr.seq (Tr.block (Tr.seqR rfl ?_ ?_)))
    · rw [getD_map h1]; simp [eB, cells, scalar, mkv, splice]; omega
    rw [getD_map h1, hr]
    refine Tr.seq (Tr.drawK (TraceK.runN 7 rfl (by simp [earC, eB, cells, splice]; omega) ?_))
    rw [getD_map hi]
    refine TraceK.runN 4 rfl (by simp [eE, eB, cells, splice]; omega) ?_
    rw [getD_map hj]
    refine TraceK.runN 1 rfl (by simp [eB, cells]) (.done ⟨by kernel_rfl, by kernel_rfl, ?_⟩)
    have hlog : (((namedL h x y z).take (k + 1)).map (boundAt h)).map (fun b => [eB b]) = (((namedL h x y z).take k).map (boundAt h)).map (fun b => [eB b]) ++ [[eB h.l[i].s[j]]] := by
      rw [List.take_add_one, List.getElem?_eq_getElem h1, hr]
      simp [← hbd, hr]
    have hp : List.IsPrefix ((((namedL h x y z).take k).map (boundAt h)).map (fun b => [eB b]) ++ [[eB h.l[i].s[j]]]) (((namedL h x y z).map (boundAt h)).map fun b => [eB b]) := by
      rw [← hlog]
      exact ((List.take_prefix _ _).map _).map _
    refine Steps.yield rfl (by simp [eB, cells, mkv]) rfl hp rfl (fun b => Steps.fin rfl (by simp) ?_)
    refine Tr.cond rfl rfl (fun h2 => ?_) (fun h2 => ?_)
    · exact Tr.ret ⟨.inl h2, [], [], [], rfl, rfl, rfl⟩
    · have hb : b = true := by simpa using h2
      subst hb
      refine Tr.skip (Tr.regR rfl (by simp) ?_)
      refine ⟨k + 1, _, ?_, ⟨by omega, rfl⟩, by omega⟩
      rw [hlog]
      exact Wk.le (.cons rfl (.refl _) (.cons rfl (.refl _) (.cons rfl (.refl _) (.cons rfl (.refl _) (.cons rfl (.refl _) (.cons rfl (VLe.i (w64 (by omega) (by omega))) .nil)))))) .nil .nil rfl rfl
  · have h1 : k = (namedL h x y z).length := by simp at h1; omega
    subst h1
    refine Tr.exit ?_
    refine ⟨.inr ?_, [], [], [], rfl, rfl, rfl⟩
    have e : (((namedL h x y z).take (namedL h x y z).length).map (boundAt h)).map (fun b => [eB b]) = ((namedL h x y z).map (boundAt h)).map fun b => [eB b] := by rw [List.take_length]
    exact e

def valueB (h : Ear) (x y z : Int) : Int × Int := ((namedL h x y z).map (boundAt h)).foldl plusB (0, 0)

theorem c_value (h : Ear) (x y z : Int) (hl : h.l.length ≤ 32) (hs : ∀ e ∈ h.l, e.s.length ≤ 9223372036854775807) :
    C Try.prog F.volume_ear_value [.agg (earC h), .agg (cellC x y z)] (eB (valueB h x y z)) := by
  refine C_of mixed chk.volume_ear_value (by simp) fun S ok => ?_
  refine Tr.seqR rfl (by simp [cells, scalar, earC, cellC, sE]) ?_
  refine Tr.seqC rfl (by simp [scalar]) (Steps.call rfl rfl (c_fold (0, 0) (plain_near h x y z) (i_value h x y z hl hs) c_plus) (Steps.fin rfl (by simp [eB, cells, scalar, splice]) ?_))
  exact Tr.retQ rfl rfl rfl trivial

end Go.Proofs.Ytecggpjpckicgaa

/-! Contracts: what an echo may give. -/
set_option linter.unusedVariables false
set_option linter.unusedSimpArgs false
set_option maxRecDepth 20000
namespace Go.Proofs.Ytecggpjpckicgaa
open Go.Am

def stepB (is : Bool) (out b : Int × Int) : Int × Int := if is then (min out.1 b.1, max out.2 b.2) else b

def reachG (to : Int) : List (Int × Int) → Nat → Bool → Int × Int → Int × Int
  | [], _, _, out => out
  | b :: r, t, is, out => if (t : Int) ≤ to then reachG to r (t + 1) true (stepB is out b) else out

def reachB (s : List (Int × Int)) (z d : Int) (slow : Int × Int) : Int × Int :=
  reachG (timeN z d slow.2) (s.drop (timeN z d slow.1).toNat) (timeN z d slow.1).toNat (decide (timeN z d slow.2 ≥ s.length)) (0, 0)

theorem reachG_drop {to : Int} {s : List (Int × Int)} {t : Nat} (h : t < s.length) (is : Bool) (out : Int × Int) : reachG to (s.drop t) t is out = if (t : Int) ≤ to then reachG to (s.drop (t + 1)) (t + 1) true (stepB is out s[t]) else out := by
  rw [List.drop_eq_getElem_cons h]; rfl

theorem c_reach (h : Ear) (s : List (Int × Int)) (z d : Int) (hs : s.length ≤ 9223372036854775807) : C Try.prog F.volume_ear_reach [.agg (earC h), sB s, I z, I d] (eB (reachB s z d h.slow)) := by
  refine C_of mixed chk.volume_ear_reach (by simp) fun S ok => ?_
  refine Tr.seqR rfl (by simp [cells, scalar, earC, sE]) ?_
  refine Tr.seq (Tr.drawK (TraceK.run rfl (by simp [cells, earC]) (TraceK.call rfl rfl (c_time _ _ _) (TraceK.run rfl (by simp [cells, earC]) (TraceK.call rfl rfl (c_time _ _ _) (TraceK.run rfl (by simp) (.done ⟨by kernel_rfl, by kernel_rfl, ?_⟩)))))))
  refine Tr.seqR rfl (by simp) (Tr.seqR rfl (by simp) ?_)
  refine Tr.seq (Tr.seqR rfl (by simp) (Tr.block ?_))
  have hf0 := timeN_nn z d h.slow.1
  refine Tr.loop (α := Nat × Bool × (Int × Int)) (fun p st => reachG (timeN z d h.slow.2) (s.drop p.1) p.1 p.2.1 p.2.2 = reachB s z d h.slow ∧
      st = { env := [(1, sB s), (8, .ptr 8 0), (10, I (timeN z d h.slow.2)), (11, .ptr 11 0), (12, .bool p.2.1), (13, I p.1)], bx := [(8, ⟨[I 0, I 0], false⟩), (11, ⟨[I p.2.2.1, I p.2.2.2], false⟩)], rw := [], log := [], stp := false }) (fun p => s.length - p.1)
    ((timeN z d h.slow.1).toNat, decide (timeN z d h.slow.2 ≥ s.length), (0, 0))
    (Wk.le (.cons rfl (.refl _) (.cons rfl (.refl _) (.cons rfl (.refl _) (.cons rfl (.refl _) (.cons rfl (.of_eq (by simp)) (.cons rfl (VLe.i (by simp [Int.toNat_of_nonneg hf0])) .nil)))))) (.cons rfl (LLe.refl _) (.cons rfl (LLe.refl _) .nil)) .nil rfl rfl) ⟨rfl, rfl⟩ ?_
  rintro ⟨t, is, out⟩ st ⟨hinv, rfl⟩
  simp only at hinv
  have hcond : ∀ c : Bool, (bif decide ((t : Int) ≤ timeN z d h.slow.2) then decide ((t : Int) < (s.map eB).length) else false) = c → (c = true ↔ (t : Int) ≤ timeN z d h.slow.2 ∧ t < s.length) := by
    rintro c rfl
    by_cases h1 : (t : Int) ≤ timeN z d h.slow.2 <;> simp [h1]
  refine Tr.seq (Tr.seqR rfl (by simp [sB]) (Tr.cond rfl rfl (fun h1 => ?_) (fun h1 => ?_)))
  · obtain ⟨h2, h3⟩ := (hcond true h1).1 rfl
    rw [reachG_drop h3, if_pos h2] at hinv
    refine Tr.skipT (Tr.seq (Tr.block (Tr.seq (Tr.seqR rfl (by simp) (Tr.cond rfl rfl (fun h4 => ?_) (fun h4 => ?_))))))
    · have h4 : is = false := by simpa using h4
      subst h4
      refine Tr.reg (Steps.runN 3 rfl (by simp [sB]; omega) ?_)
      rw [getD_map h3]
      refine Steps.fin rfl (by simp [eB, cells, mkv, scalar, splice]) ?_
      refine Tr.drawK (TraceK.runN 5 rfl (by simp [eB, cells, mkv, scalar, splice]; omega) ?_)
      rw [getD_map h3]
      refine TraceK.runN 8 rfl (by simp [eB, cells, mkv, scalar, splice]; omega) ?_
      rw [getD_map h3]
      refine TraceK.run rfl (by simp [eB, cells, mkv, scalar, splice]) (.done ⟨by kernel_rfl, by kernel_rfl, ?_⟩)
      refine Tr.regR rfl (by simp) ?_
      refine ⟨(t + 1, true, stepB false out s[t]), _, ?_, ⟨hinv, rfl⟩, by simp; omega⟩
      refine Wk.le (.cons rfl (.refl _) (.cons rfl (.refl _) (.cons rfl (.refl _) (.cons rfl (.refl _) (.cons rfl (.refl _) (.cons rfl (VLe.i (w64 (by omega) (by omega))) .nil)))))) (.cons rfl (LLe.refl _) (.cons rfl (.cons (VLe.i ?_) (.cons (VLe.i ?_) .nil)) .nil)) .nil rfl rfl
      · simp [stepB]
      · simp [stepB]
    · have h4 : is = true := by simpa using h4
      subst h4
      refine Tr.skip ?_
      refine Tr.drawK (TraceK.runN 5 rfl (by simp [sB]; omega) ?_)
      rw [getD_map h3]
      refine TraceK.runN 8 rfl (by simp [eB, cells, mkv, scalar, splice, sB]; omega) ?_
      rw [getD_map h3]
      refine TraceK.run rfl (by simp [eB, cells, mkv, scalar, splice]) (.done ⟨by kernel_rfl, by kernel_rfl, ?_⟩)
      refine Tr.regR rfl (by simp) ?_
      refine ⟨(t + 1, true, stepB true out s[t]), _, ?_, ⟨hinv, rfl⟩, by simp; omega⟩
      refine Wk.le (.cons rfl (.refl _) (.cons rfl (.refl _) (.cons rfl (.refl _) (.cons rfl (.refl _) (.cons rfl (.refl _) (.cons rfl (VLe.i (w64 (by omega) (by omega))) .nil)))))) (.cons rfl (LLe.refl _) (.cons rfl (.cons (VLe.i ?_) (.cons (VLe.i ?_) .nil)) .nil)) .nil rfl rfl
      · simp only [stepB, if_true, cond_false]; split <;> omega
      · simp only [stepB, if_true, cond_true]; split <;> omega
  · have h1 := (hcond false h1)
    have hfin : out = reachB s z d h.slow := by
      rw [← hinv]
      by_cases h3 : t < s.length
      · rw [reachG_drop h3, if_neg (by intro h2; simpa using h1.2 ⟨h2, h3⟩)]
      · rw [List.drop_eq_nil_of_le (by omega)]; rfl
    subst hfin
    refine Tr.exit (Tr.seqR rfl (by simp [eB, cells, scalar, splice, mkv]) (Tr.retQ rfl rfl rfl trivial))

end Go.Proofs.Ytecggpjpckicgaa

/-! Contracts: enclosures. -/
set_option linter.unusedVariables false
set_option linter.unusedSimpArgs false
set_option maxRecDepth 20000
namespace Go.Proofs.Ytecggpjpckicgaa
open Go.Am

def sAt (h : Ear) (i : Int) : List (Int × Int) := (h.l[i.toNat]?.map fun e => e.s).getD []
def reachOf (h : Ear) (z : Int) (p : Int × Int) : Int × Int := reachB (sAt h p.1) z p.2 h.slow

theorem i_enclosure (h : Ear) (x y z : Int) (hl : h.l.length ≤ 32) (hs : ∀ e ∈ h.l, e.s.length ≤ 9223372036854775807) :
    Iter Try.prog F.volume_ear_enclosure_1 [.vptr (earC h) 0, .vptr (cellC x y z) 0] (((nears h.aper x y h.l 0).map (reachOf h z)).map fun b => [eB b]) := by
  refine Iter_of mixed chk.volume_ear_enclosure_1 (by simp) fun S ok => ?_
  refine Tr.seqR rfl (by simp [cells, scalar]) ?_
  refine Tr.seqC rfl (by simp [earC, cellC]) (Steps.call rfl rfl (c_near h x y z) (Steps.fin rfl (by simp) (Tr.block ?_)))
  refine Tr.weak (s' := { env := [(8, .func (.func F.volume_ear_near_1) [] [.vptr (earC h) 0, .vptr (cellC x y z) 0]), (1, .vptr (earC h) 0), (2, .vptr (cellC x y z) 0), (3, .ptr 3 0)], bx := [(3, ⟨[.yld], false⟩)], rw := [], log := [], stp := false })
    (Wk.le (.cons rfl (.refl _) (.cons rfl (.refl _) (.cons rfl (.refl _) (.cons rfl (.refl _) .nil)))) (.cons rfl (LLe.refl _) .nil) .nil rfl rfl) ?_
  refine Tr.range rfl rfl (i_near h x y z (by omega)) rfl rfl rfl (by intro x hx; obtain ⟨b, _, rfl⟩ := List.mem_map.1 hx; rfl)
    (fun pre t => ∃ m, m ≤ (nears h.aper x y h.l 0).length ∧ pre = ((nears h.aper x y h.l 0).take m).map eP ∧ t.bx = [(3, ⟨[.yld], false⟩)] ∧ t.rw = [] ∧ t.log = (((nears h.aper x y h.l 0).take m).map (reachOf h z)).map fun b => [eB b])
    (fun e t => e = .ret ∧ t.stp = true) ⟨0, by omega, rfl, rfl, rfl, rfl⟩ ?_ ?_ ?_
  · rintro a0 L0 rc0 h0 S1 S2 ok1 ok2 pre q t lp hpre ⟨m, hm, rfl, hbx, hrw, hlog⟩ henv hstp
    obtain ⟨env, bx, rw, log, stp⟩ := t
    simp only at hbx hrw hlog henv hstp
    subst hbx hrw hlog henv hstp
    have hmx : m < (nears h.aper x y h.l 0).length ∧ ∃ b, (nears h.aper x y h.l 0)[m]? = some b ∧ q = eP b := by
      have h1 : (((nears h.aper x y h.l 0).take m).map eP).length = m := by simp; omega
      have h2 := hpre.length_le
      simp at h2
      have hml : m < (nears h.aper x y h.l 0).length := by omega
      refine ⟨hml, _, List.getElem?_eq_getElem hml, ?_⟩
      have h3 := List.IsPrefix.getElem hpre (i := m) (by simp; omega)
      simp only [List.getElem_map] at h3
      rw [List.getElem_append_right (by omega)] at h3
      simpa using h3
    obtain ⟨hml, ⟨p1, p2⟩, hb, rfl⟩ := hmx
    obtain ⟨i, hi, hil⟩ := nears_mem (List.mem_of_getElem? hb)
    have hi : p1 = (i : Int) := by simpa using hi
    subst hi
    have hsl := hs _ (List.getElem_mem hil)
    have er : reachOf h z ((i : Int), p2) = reachB h.l[i].s z p2 h.slow := by simp [reachOf, sAt, List.getElem?_eq_getElem hil]
    have hlog : (((nears h.aper x y h.l 0).take (m + 1)).map (reachOf h z)).map (fun b => [eB b]) = (((nears h.aper x y h.l 0).take m).map (reachOf h z)).map (fun b => [eB b]) ++ [[eB (reachB h.l[i].s z p2 h.slow)]] := by
      rw [List.take_add_one, hb]; simp [er]
    have hp : List.IsPrefix ((((nears h.aper x y h.l 0).take m).map (reachOf h z)).map (fun b => [eB b]) ++ [[eB (reachB h.l[i].s z p2 h.slow)]]) (((nears h.aper x y h.l 0).map (reachOf h z)).map fun b => [eB b]) := by
      rw [← hlog]
      exact ((List.take_prefix _ _).map _).map _
    refine Tr.seqR rfl (by simp) (Tr.regR rfl (by simp) ?_)
    refine Tr.block (Tr.seq (Tr.drawK (TraceK.runN 6 rfl (by simp [earC, cells]; omega) ?_)))
    rw [getD_map hil]
    refine TraceK.run rfl (by simp [eE, cells, cellC, earC]) ?_
    refine TraceK.call rfl rfl (c_reach h h.l[i].s z p2 hsl) ?_
    refine .done ⟨by kernel_rfl, by kernel_rfl, ?_⟩
    refine Steps.yield rfl (by simp [eB, cells, mkv]) rfl hp rfl (fun b => Steps.fin rfl (by simp) ?_)
    refine Tr.cond rfl rfl (fun h2 => ?_) (fun h2 => ?_)
    · have hb : b = false := by simpa using h2
      subst hb
      exact Tr.ret ⟨{ env := [], bx := [(3, ⟨[.yld], false⟩)], rw := [], log := _, stp := true }, Wk.le .nil (.cons rfl (LLe.refl _) .nil) .nil rfl rfl, rfl, rfl⟩
    · have hb : b = true := by simpa using h2
      subst hb
      refine Tr.skip ?_
      refine ⟨{ env := [], bx := [(3, ⟨[.yld], false⟩)], rw := [], log := _, stp := false }, Wk.le .nil (.cons rfl (LLe.refl _) .nil) .nil rfl rfl, ⟨m + 1, by omega, ?_, rfl, rfl, ?_⟩, rfl⟩
      · rw [List.take_add_one, hb]; simp
      · exact hlog.symm
  · rintro ⟨env, bx, rw, log, stp⟩ henv hstp ⟨m, hm, hpre, hbx, hrw, hlog⟩
    simp only at hbx hrw hlog henv hstp
    subst hbx hrw hlog henv hstp
    have hml : m = (nears h.aper x y h.l 0).length := by
      have := congrArg List.length hpre
      simp at this; omega
    subst hml
    refine ⟨.inr ?_, [], [], [], rfl, rfl, rfl⟩
    simp only [List.take_length]
  · rintro e t _ ⟨rfl, h⟩
    exact ⟨.inl h, [], [], [], rfl, rfl, rfl⟩

def encB (h : Ear) (x y z : Int) : Int × Int := ((nears h.aper x y h.l 0).map (reachOf h z)).foldl plusB (0, 0)

theorem c_enclosure (h : Ear) (x y z : Int) (hl : h.l.length ≤ 32) (hs : ∀ e ∈ h.l, e.s.length ≤ 9223372036854775807) :
    C Try.prog F.volume_ear_enclosure [.agg (earC h), .agg (cellC x y z)] (eB (encB h x y z)) := by
  refine C_of mixed chk.volume_ear_enclosure (by simp) fun S ok => ?_
  refine Tr.seqR rfl (by simp [cells, scalar, earC, cellC, sE]) ?_
  refine Tr.seqC rfl (by simp [scalar]) (Steps.call rfl rfl (c_fold (0, 0) (plain_near h x y z) (i_enclosure h x y z hl hs) c_plus) (Steps.fin rfl (by simp [eB, cells, scalar, splice]) ?_))
  exact Tr.retQ rfl rfl rfl trivial

end Go.Proofs.Ytecggpjpckicgaa

/-! Contracts: boxes. -/
set_option linter.unusedVariables false
set_option linter.unusedSimpArgs false
set_option maxRecDepth 20000
namespace Go.Proofs.Ytecggpjpckicgaa
open Go.Am

@[simp] theorem wr1 : IntKind.i64.wrap 1 = 1 := by decide
@[simp] theorem wr2 : IntKind.i64.wrap 2 = 2 := by decide
@[simp] theorem wr3 : IntKind.i64.wrap 3 = 3 := by decide

structure Bx where
  x : Int
  y : Int
  z : Int
  a : Int
  b : Int
  c : Int

def boxC (b : Bx) : List V := [I b.x, I b.y, I b.z, I b.a, I b.b, I b.c]

attribute [local simp] cells scalar mkv splice under2 under dem dem1 boxC earC cellC eB

/-- Sizes that are small enough to reckon with. -/
def Bx.mid (b : Bx) : Prop := (-1000 ≤ b.x ∧ b.x ≤ 1000) ∧ (-1000 ≤ b.y ∧ b.y ≤ 1000) ∧ (-1000 ≤ b.z ∧ b.z ≤ 1000) ∧ (0 ≤ b.a ∧ b.a ≤ 1000) ∧ (0 ≤ b.b ∧ b.b ≤ 1000) ∧ (0 ≤ b.c ∧ b.c ≤ 1000)

theorem c_many (b : Bx) (h : (0 ≤ b.a ∧ b.a ≤ 1000) ∧ (0 ≤ b.b ∧ b.b ≤ 1000) ∧ (0 ≤ b.c ∧ b.c ≤ 1000)) : C Try.prog F.volume_box_many [.agg (boxC b)] (I (b.a * b.b * b.c)) := by
  obtain ⟨⟨h1, h2⟩, ⟨h3, h4⟩, h5, h6⟩ := h
  refine C_of mixed chk.volume_box_many (by simp) fun S ok => ?_
  refine Tr.seqR rfl (by simp [cells, scalar, boxC]) (Tr.seqR rfl (by simp [boxC, cells]) (Tr.retQ rfl rfl ?_ trivial))
  have h7 : 0 ≤ b.a * b.b := Int.mul_nonneg h1 h3
  have h8 : b.a * b.b ≤ 1000 * 1000 := Int.mul_le_mul h2 h4 h3 (by omega)
  have h9 : 0 ≤ b.a * b.b * b.c := Int.mul_nonneg h7 h5
  have h10 : b.a * b.b * b.c ≤ 1000 * 1000 * 1000 := Int.mul_le_mul h8 h6 h5 (by omega)
  have e1 : IntKind.i64.wrap (b.a * b.b) = b.a * b.b := w64 (by omega) (by omega)
  have e2 : IntKind.i64.wrap (b.a * b.b * b.c) = b.a * b.b * b.c := w64 (by omega) (by omega)
  simp [packR, e1, e2]

theorem c_last (b : Bx) (h : b.mid) : C Try.prog F.volume_box_last [.agg (boxC b)] (.agg [I (b.x + b.a - 1), I (b.y + b.b - 1), I (b.z + b.c - 1)]) := by
  obtain ⟨h1, h2, h3, h4, h5, h6⟩ := h
  refine C_of mixed chk.volume_box_last (by simp) fun S ok => ?_
  refine Tr.seqR rfl (by simp [cells, scalar, boxC]) (Tr.seqR rfl (by simp) ?_)
  refine Tr.seq (Tr.seqR rfl (by simp) (Tr.block ?_))
  refine Tr.rounds 4 (TrN.succ ?_)
  iterate 3
    refine Tr.seqR rfl (by simp) (Tr.seq (Tr.condT rfl (Tr.skip ?_)))
    refine Tr.seq (Tr.block (Tr.seqR rfl (by simp) ?_))
    refine Tr.drawR rfl (by simp [boxC, cells, scalar, mkv, splice]) (by kernel_rfl) (Tr.regR rfl (by simp) ?_)
    refine TrN.succ ?_
  refine Tr.seqR rfl (by simp) (Tr.seq (Tr.condF rfl (Tr.exit ?_)))
  refine Tr.seqR rfl (by simp [boxC, cells, scalar, mkv, splice]) (Tr.retQ rfl rfl ?_ trivial)
  simp (disch := omega) [packR, w64]

def smallB (b : Bx) : Bool := btw b.a 1 16 && btw b.b 1 16 && btw b.c 1 16 && decide (b.a * b.b * b.c ≤ 1024)

theorem c_small (b : Bx) : C Try.prog F.volume_box_small [.agg (boxC b)] (.bool (smallB b)) := by
  refine C_of mixed chk.volume_box_small (by simp) fun S ok => ?_
  refine Tr.seqR rfl (by simp [cells, scalar, boxC]) (Tr.seq (Tr.seqR rfl (by simp [boxC, cells]) (Tr.block ?_)))
  refine Tr.rounds 4 (TrN.succ ?_)
  refine Tr.seqR rfl (by simp) (Tr.seq (Tr.condT rfl (Tr.skip ?_)))
  refine Tr.seq (Tr.block (Tr.seqR rfl (by simp [cells, scalar]) (Tr.seqC rfl (by simp) (Steps.call rfl rfl (c_within _ _ _) (Steps.fin rfl (by simp) ?_)))))
  refine Tr.cond rfl rfl (fun h1 => Tr.seqR rfl (by simp) (Tr.retX rfl rfl rfl ?_ trivial)) (fun h1 => Tr.skip (Tr.regR rfl (by simp) (TrN.succ ?_)))
  · have h1 : btw b.a 1 16 = false := by simpa using h1
    simp [packR, smallB, h1]
  have h1 : btw b.a 1 16 = true := by simpa using h1
  refine Tr.seqR rfl (by simp) (Tr.seq (Tr.condT rfl (Tr.skip ?_)))
  refine Tr.seq (Tr.block (Tr.seqR rfl (by simp [cells, scalar]) (Tr.seqC rfl (by simp) (Steps.call rfl rfl (c_within _ _ _) (Steps.fin rfl (by simp) ?_)))))
  refine Tr.cond rfl rfl (fun h2 => Tr.seqR rfl (by simp) (Tr.retX rfl rfl rfl ?_ trivial)) (fun h2 => Tr.skip (Tr.regR rfl (by simp) (TrN.succ ?_)))
  · have h2 : btw b.b 1 16 = false := by simpa using h2
    simp [packR, smallB, h2]
  have h2 : btw b.b 1 16 = true := by simpa using h2
  refine Tr.seqR rfl (by simp) (Tr.seq (Tr.condT rfl (Tr.skip ?_)))
  refine Tr.seq (Tr.block (Tr.seqR rfl (by simp [cells, scalar]) (Tr.seqC rfl (by simp) (Steps.call rfl rfl (c_within _ _ _) (Steps.fin rfl (by simp) ?_)))))
  refine Tr.cond rfl rfl (fun h3 => Tr.seqR rfl (by simp) (Tr.retX rfl rfl rfl ?_ trivial)) (fun h3 => Tr.skip (Tr.regR rfl (by simp) (TrN.succ ?_)))
  · have h3 : btw b.c 1 16 = false := by simpa using h3
    simp [packR, smallB, h3]
  have h3 : btw b.c 1 16 = true := by simpa using h3
  refine Tr.seqR rfl (by simp) (Tr.seq (Tr.condF rfl (Tr.exit ?_)))
  have k1 := (by simpa [btw] using h1 : 1 ≤ b.a ∧ b.a ≤ 16)
  have k2 := (by simpa [btw] using h2 : 1 ≤ b.b ∧ b.b ≤ 16)
  have k3 := (by simpa [btw] using h3 : 1 ≤ b.c ∧ b.c ≤ 16)
  refine Tr.seqC rfl (by simp [boxC]) (Steps.call rfl rfl (c_many b (by omega)) (Steps.fin rfl (by simp) (Tr.retX rfl rfl rfl ?_ trivial)))
  simp [packR, smallB, h1, h2, h3]

def boxOk (b : Bx) : Bool := smallB b && cellOk b.x b.y b.z && cellOk (b.x + b.a - 1) (b.y + b.b - 1) (b.z + b.c - 1)

theorem small_spec {b : Bx} (h : smallB b = true) : (1 ≤ b.a ∧ b.a ≤ 16) ∧ (1 ≤ b.b ∧ b.b ≤ 16) ∧ (1 ≤ b.c ∧ b.c ≤ 16) ∧ b.a * b.b * b.c ≤ 1024 := by
  simp only [smallB, Bool.and_eq_true, decide_eq_true_eq, btw] at h
  omega

theorem small_mid {b : Bx} (h : smallB b = true) (hx : cellOk b.x b.y b.z = true) : b.mid := by
  have := small_spec h
  simp only [cellOk, Bool.and_eq_true, btw, decide_eq_true_eq] at hx
  unfold Bx.mid; omega

theorem c_boxValid (b : Bx) : C Try.prog F.volume_box_valid [.agg (boxC b)] (.bool (boxOk b)) := by
  refine C_of mixed chk.volume_box_valid (by simp) fun S ok => ?_
  refine Tr.seqR rfl (by simp) ?_
  refine Tr.seqC rfl (by simp) (Steps.call rfl rfl (c_small b) (Steps.run rfl (by simp) ?_))
  refine Steps.gcall (r := .bool (cellOk b.x b.y b.z)) rfl rfl rfl rfl (by simp) (fun _ => c_cellValid _ _ _) (Steps.run rfl (by simp) ?_)
  by_cases hs : smallB b = true
  · by_cases hx : cellOk b.x b.y b.z = true
    · refine Steps.gcall (gb := true) rfl rfl (by simp [guardOf, hs, hx]) rfl (by simp [hs, hx]) (fun _ => c_last b (small_mid hs hx)) (Steps.run rfl (by simp) ?_)
      refine Steps.gcall (gb := true) rfl rfl (by simp [guardOf, hs, hx]) rfl (by simp) (fun _ => c_cellValid _ _ _) (Steps.fin rfl (by simp) (Tr.retQ rfl rfl ?_ trivial))
      simp [packR, boxOk, hs, hx]
    · have hx : cellOk b.x b.y b.z = false := by simpa using hx
      refine Steps.gcall (gb := false) (r := .agg [I 0, I 0, I 0]) rfl rfl (by simp [guardOf, hs, hx]) rfl (fun e => (by cases e)) (fun e => (by cases e)) (Steps.run rfl (by simp) ?_)
      refine Steps.gcall (gb := false) (r := .bool false) rfl rfl (by simp [guardOf, hs, hx]) rfl (fun e => (by cases e)) (fun e => (by cases e)) (Steps.fin rfl (by simp [hs, hx]) (Tr.retQ rfl rfl ?_ trivial))
      simp [packR, boxOk, hs, hx]
  · have hs : smallB b = false := by simpa using hs
    refine Steps.gcall (gb := false) (r := .agg [I 0, I 0, I 0]) rfl rfl (by simp [guardOf, hs]) rfl (fun e => (by cases e)) (fun e => (by cases e)) (Steps.run rfl (by simp) ?_)
    refine Steps.gcall (gb := false) (r := .bool false) rfl rfl (by simp [guardOf, hs]) rfl (fun e => (by cases e)) (fun e => (by cases e)) (Steps.fin rfl (by simp [hs]) (Tr.retQ rfl rfl ?_ trivial))
    simp [packR, boxOk, hs]

theorem mul_bd {a b A B : Int} (ha : -A ≤ a ∧ a ≤ A) (hb : 0 ≤ b ∧ b ≤ B) : -(A * B) ≤ a * b ∧ a * b ≤ A * B := by
  have hA : 0 ≤ A := by omega
  have h1 : a * b ≤ A * b := Int.mul_le_mul_of_nonneg_right ha.2 hb.1
  have h2 : A * b ≤ A * B := Int.mul_le_mul_of_nonneg_left hb.2 hA
  have h3 : -A * b ≤ a * b := Int.mul_le_mul_of_nonneg_right ha.1 hb.1
  have h4 : -A * b = -(A * b) := Int.neg_mul ..
  omega

def idxOf (b : Bx) (x y z : Int) : Int := ((x - b.x) * b.b + y - b.y) * b.c + z - b.z

theorem c_index (b : Bx) (x y z : Int) (h : b.mid) (hx : (-1000 ≤ x ∧ x ≤ 1000) ∧ (-1000 ≤ y ∧ y ≤ 1000) ∧ (-1000 ≤ z ∧ z ≤ 1000)) :
    C Try.prog F.volume_box_index [.agg (boxC b), .agg (cellC x y z)] (I (idxOf b x y z)) := by
  obtain ⟨h1, h2, h3, h4, h5, h6⟩ := h
  obtain ⟨k1, k2, k3⟩ := hx
  refine C_of mixed chk.volume_box_index (by simp) fun S ok => ?_
  refine Tr.seqR rfl (by simp) (Tr.seqR rfl (by simp) (Tr.retQ rfl rfl ?_ trivial))
  have b1 := mul_bd (a := x - b.x) (b := b.b) (A := 2000) (B := 1000) (by omega) (by omega)
  have b2 := mul_bd (a := (x - b.x) * b.b + y - b.y) (b := b.c) (A := 3000000) (B := 1000) (by omega) (by omega)
  simp (disch := omega) [packR, w64, idxOf]

def hasB (b : Bx) (x y z : Int) : Bool := btw x b.x (b.x + b.a - 1) && btw y b.y (b.y + b.b - 1) && btw z b.z (b.z + b.c - 1)

theorem c_has (b : Bx) (x y z : Int) (h : b.mid) : C Try.prog F.volume_box_has [.agg (boxC b), .agg (cellC x y z)] (.bool (hasB b x y z)) := by
  refine C_of mixed chk.volume_box_has (by simp) fun S ok => ?_
  refine Tr.seqR rfl (by simp) (Tr.seq (Tr.seqC rfl (by simp) (Steps.call rfl rfl (c_last b h) (Steps.fin rfl (by simp) (Tr.block ?_)))))
  refine Tr.rounds 4 (TrN.succ ?_)
  refine Tr.seqR rfl (by simp) (Tr.seq (Tr.condT rfl (Tr.skip ?_)))
  refine Tr.seq (Tr.block (Tr.seqR rfl (by simp) (Tr.seq (Tr.drawK (TraceK.run rfl (by simp) (TraceK.call rfl rfl (c_within _ _ _) (TraceK.run rfl (by simp) (.done ⟨by kernel_rfl, by kernel_rfl, ?_⟩))))))))
  refine Tr.cond rfl rfl (fun h1 => Tr.seqR rfl (by simp) (Tr.retX rfl rfl rfl ?_ trivial)) (fun h1 => Tr.skip (Tr.regR rfl (by simp) (TrN.succ ?_)))
  · have h1 : btw x b.x (b.x + b.a - 1) = false := by simpa using h1
    simp [packR, hasB, h1]
  have h1 : btw x b.x (b.x + b.a - 1) = true := by simpa using h1
  refine Tr.seqR rfl (by simp) (Tr.seq (Tr.condT rfl (Tr.skip ?_)))
  refine Tr.seq (Tr.block (Tr.seqR rfl (by simp) (Tr.seq (Tr.drawK (TraceK.run rfl (by simp) (TraceK.call rfl rfl (c_within _ _ _) (TraceK.run rfl (by simp) (.done ⟨by kernel_rfl, by kernel_rfl, ?_⟩))))))))
  refine Tr.cond rfl rfl (fun h2 => Tr.seqR rfl (by simp) (Tr.retX rfl rfl rfl ?_ trivial)) (fun h2 => Tr.skip (Tr.regR rfl (by simp) (TrN.succ ?_)))
  · have h2 : btw y b.y (b.y + b.b - 1) = false := by simpa using h2
    simp [packR, hasB, h2]
  have h2 : btw y b.y (b.y + b.b - 1) = true := by simpa using h2
  refine Tr.seqR rfl (by simp) (Tr.seq (Tr.condT rfl (Tr.skip ?_)))
  refine Tr.seq (Tr.block (Tr.seqR rfl (by simp) (Tr.seq (Tr.drawK (TraceK.run rfl (by simp) (TraceK.call rfl rfl (c_within _ _ _) (TraceK.run rfl (by simp) (.done ⟨by kernel_rfl, by kernel_rfl, ?_⟩))))))))
  refine Tr.cond rfl rfl (fun h3 => Tr.seqR rfl (by simp) (Tr.retX rfl rfl rfl ?_ trivial)) (fun h3 => Tr.skip (Tr.regR rfl (by simp) (TrN.succ ?_)))
  · have h3 : btw z b.z (b.z + b.c - 1) = false := by simpa using h3
    simp [packR, hasB, h3]
  have h3 : btw z b.z (b.z + b.c - 1) = true := by simpa using h3
  refine Tr.seqR rfl (by simp) (Tr.seq (Tr.condF rfl (Tr.exit ?_)))
  refine Tr.seqR rfl (by simp) (Tr.retX rfl rfl rfl ?_ trivial)
  simp [packR, hasB, h1, h2, h3]

def cut1 (p q x y : Int) : Int := max 0 (min p q - max x y + 1)

theorem ite_max (a b : Int) : (if b > a then b else a) = max a b := by split <;> omega
theorem ite_min (a b : Int) : (if b < a then b else a) = min a b := by split <;> omega

theorem c_common (b o : Bx) (h : b.mid) (h' : o.mid) : C Try.prog F.volume_box_common [.agg (boxC b), .agg (boxC o)]
    (I (cut1 (b.x + b.a - 1) (o.x + o.a - 1) b.x o.x * cut1 (b.y + b.b - 1) (o.y + o.b - 1) b.y o.y * cut1 (b.z + b.c - 1) (o.z + o.c - 1) b.z o.z)) := by
  refine C_of mixed chk.volume_box_common (by simp) fun S ok => ?_
  refine Tr.seqR rfl (by simp) (Tr.seqR rfl (by simp) ?_)
  refine Tr.seq (Tr.drawK (TraceK.run rfl (by simp) (TraceK.call rfl rfl (c_last b h) (TraceK.run rfl (by simp) (TraceK.call rfl rfl (c_last o h') (TraceK.run rfl (by simp) (.done ⟨by kernel_rfl, by kernel_rfl, ?_⟩)))))))
  refine Tr.seq (Tr.seqR rfl (by simp) (Tr.block ?_))
  refine Tr.rounds 4 (TrN.succ ?_)
  iterate 3
    refine Tr.seqR rfl (by simp) (Tr.seq (Tr.condT rfl (Tr.skip ?_)))
    refine Tr.seq (Tr.block (Tr.seqR rfl (by simp) ?_))
    refine Tr.drawR rfl (by simp) (by kernel_rfl) (Tr.regR rfl (by simp) ?_)
    refine TrN.succ ?_
  refine Tr.seqR rfl (by simp) (Tr.seq (Tr.condF rfl (Tr.exit ?_)))
  refine Tr.seqR rfl (by simp) (Tr.retX rfl rfl rfl ?_ trivial)
  obtain ⟨h1, h2, h3, h4, h5, h6⟩ := h
  obtain ⟨k1, k2, k3, k4, k5, k6⟩ := h'
  simp (disch := omega) only [packR, cond_true, cond_false, ite_max, ite_min, w64, Int.one_mul]
  have c1 : 0 ≤ cut1 (b.x + b.a - 1) (o.x + o.a - 1) b.x o.x ∧ cut1 (b.x + b.a - 1) (o.x + o.a - 1) b.x o.x ≤ 4000 := by unfold cut1; omega
  have c2 : 0 ≤ cut1 (b.y + b.b - 1) (o.y + o.b - 1) b.y o.y ∧ cut1 (b.y + b.b - 1) (o.y + o.b - 1) b.y o.y ≤ 4000 := by unfold cut1; omega
  have c3 : 0 ≤ cut1 (b.z + b.c - 1) (o.z + o.c - 1) b.z o.z ∧ cut1 (b.z + b.c - 1) (o.z + o.c - 1) b.z o.z ≤ 4000 := by unfold cut1; omega
  have d1 := mul_bd (A := 4000) (by omega) c2 (a := cut1 (b.x + b.a - 1) (o.x + o.a - 1) b.x o.x)
  have d2 := mul_bd (A := 4000 * 4000) (by omega) c3 (a := cut1 (b.x + b.a - 1) (o.x + o.a - 1) b.x o.x * cut1 (b.y + b.b - 1) (o.y + o.b - 1) b.y o.y)
  show I _ = I (IntKind.i64.wrap (IntKind.i64.wrap (cut1 (b.x + b.a - 1) (o.x + o.a - 1) b.x o.x * cut1 (b.y + b.b - 1) (o.y + o.b - 1) b.y o.y) * cut1 (b.z + b.c - 1) (o.z + o.c - 1) b.z o.z))
  rw [w64 (n := cut1 (b.x + b.a - 1) (o.x + o.a - 1) b.x o.x * cut1 (b.y + b.b - 1) (o.y + o.b - 1) b.y o.y) (by omega) (by omega), w64 (by omega) (by omega)]


theorem lle6 {a b c d e f a' b' c' d' e' f' : Int} (h1 : a = a') (h2 : b = b') (h3 : c = c') (h4 : d = d') (h5 : e = e') (h6 : f = f') : LLe [I a, I b, I c, I d, I e, I f] [I a', I b', I c', I d', I e', I f'] :=
  .cons (VLe.i h1) (.cons (VLe.i h2) (.cons (VLe.i h3) (.cons (VLe.i h4) (.cons (VLe.i h5) (.cons (VLe.i h6) .nil)))))

def aroundB (b o : Bx) : Bx := ⟨min b.x o.x, min b.y o.y, min b.z o.z, max (b.x + b.a - 1) (o.x + o.a - 1) - min b.x o.x + 1, max (b.y + b.b - 1) (o.y + o.b - 1) - min b.y o.y + 1, max (b.z + b.c - 1) (o.z + o.c - 1) - min b.z o.z + 1⟩

theorem c_around (b o : Bx) (h : b.mid) (h' : o.mid) : C Try.prog F.volume_box_around [.agg (boxC b), .agg (boxC o)] (.agg (boxC (aroundB b o))) := by
  refine C_of mixed chk.volume_box_around (by simp) fun S ok => ?_
  refine Tr.seqR rfl (by simp) (Tr.seqR rfl (by simp) ?_)
  refine Tr.seq (Tr.drawK (TraceK.run rfl (by simp) (TraceK.call rfl rfl (c_last b h) (TraceK.run rfl (by simp) (TraceK.call rfl rfl (c_last o h') (TraceK.run rfl (by simp) (.done ⟨by kernel_rfl, by kernel_rfl, ?_⟩)))))))
  obtain ⟨h1, h2, h3, h4, h5, h6⟩ := h
  obtain ⟨k1, k2, k3, k4, k5, k6⟩ := h'
  refine Tr.seq (Tr.seqR rfl (by simp) (Tr.block ?_))
  refine Tr.rounds 4 (TrN.succ ?_)
  refine Tr.seqR rfl (by simp) (Tr.seq (Tr.condT rfl (Tr.skip ?_)))
  refine Tr.seq (Tr.block (Tr.seqR rfl (by simp) ?_))
  refine Tr.seqD rfl (by simp) (by kernel_rfl) ?_
  refine Tr.drawR rfl (by simp) (by kernel_rfl) (Tr.regR rfl (by simp) ?_)
  refine TrN.succ (Tr.weak (s' := { env := [(2, .ptr 2 0), (3, .ptr 3 0), (4, .ptr 4 0), (5, .ptr 5 0), (6, .ptr 6 0), (7, .ptr 7 0), (13, I 1)], bx := [(2, ⟨boxC b, false⟩), (3, ⟨boxC o, false⟩), (4, ⟨[I 0, I 0, I 0, I 0, I 0, I 0], false⟩), (5, ⟨[I (aroundB b o).x, I 0, I 0, I (aroundB b o).a, I 0, I 0], false⟩), (6, ⟨[I (b.x + b.a - 1), I (b.y + b.b - 1), I (b.z + b.c - 1)], false⟩), (7, ⟨[I (o.x + o.a - 1), I (o.y + o.b - 1), I (o.z + o.c - 1)], false⟩)], rw := [], log := [], stp := false })
    (Wk.le (.cons rfl (.refl _) (.cons rfl (.refl _) (.cons rfl (.refl _) (.cons rfl (.refl _) (.cons rfl (.refl _) (.cons rfl (.refl _) (.cons rfl (VLe.i (by simp)) .nil)))))))
      (.cons rfl (LLe.refl _) (.cons rfl (LLe.refl _) (.cons rfl (LLe.refl _) (.cons rfl (lle6 ?_ ?_ ?_ ?_ ?_ ?_) (.cons rfl (LLe.refl _) (.cons rfl (LLe.refl _) .nil)))))) .nil rfl rfl) ?_)
  iterate 6
    · simp (disch := omega) [aroundB, w64, ite_max, ite_min] <;> (split <;> omega)
  refine Tr.seqR rfl (by simp) (Tr.seq (Tr.condT rfl (Tr.skip ?_)))
  refine Tr.seq (Tr.block (Tr.seqR rfl (by simp) ?_))
  refine Tr.seqD rfl (by simp) (by kernel_rfl) ?_
  refine Tr.drawR rfl (by simp) (by kernel_rfl) (Tr.regR rfl (by simp) ?_)
  refine TrN.succ (Tr.weak (s' := { env := [(2, .ptr 2 0), (3, .ptr 3 0), (4, .ptr 4 0), (5, .ptr 5 0), (6, .ptr 6 0), (7, .ptr 7 0), (13, I 2)], bx := [(2, ⟨boxC b, false⟩), (3, ⟨boxC o, false⟩), (4, ⟨[I 0, I 0, I 0, I 0, I 0, I 0], false⟩), (5, ⟨[I (aroundB b o).x, I (aroundB b o).y, I 0, I (aroundB b o).a, I (aroundB b o).b, I 0], false⟩), (6, ⟨[I (b.x + b.a - 1), I (b.y + b.b - 1), I (b.z + b.c - 1)], false⟩), (7, ⟨[I (o.x + o.a - 1), I (o.y + o.b - 1), I (o.z + o.c - 1)], false⟩)], rw := [], log := [], stp := false })
    (Wk.le (.cons rfl (.refl _) (.cons rfl (.refl _) (.cons rfl (.refl _) (.cons rfl (.refl _) (.cons rfl (.refl _) (.cons rfl (.refl _) (.cons rfl (VLe.i (by simp)) .nil)))))))
      (.cons rfl (LLe.refl _) (.cons rfl (LLe.refl _) (.cons rfl (LLe.refl _) (.cons rfl (lle6 ?_ ?_ ?_ ?_ ?_ ?_) (.cons rfl (LLe.refl _) (.cons rfl (LLe.refl _) .nil)))))) .nil rfl rfl) ?_)
  iterate 6
    · simp (disch := omega) [aroundB, w64, ite_max, ite_min] <;> (split <;> omega)
  refine Tr.seqR rfl (by simp) (Tr.seq (Tr.condT rfl (Tr.skip ?_)))
  refine Tr.seq (Tr.block (Tr.seqR rfl (by simp) ?_))
  refine Tr.seqD rfl (by simp) (by kernel_rfl) ?_
  refine Tr.drawR rfl (by simp) (by kernel_rfl) (Tr.regR rfl (by simp) ?_)
  refine TrN.succ (Tr.weak (s' := { env := [(2, .ptr 2 0), (3, .ptr 3 0), (4, .ptr 4 0), (5, .ptr 5 0), (6, .ptr 6 0), (7, .ptr 7 0), (13, I 3)], bx := [(2, ⟨boxC b, false⟩), (3, ⟨boxC o, false⟩), (4, ⟨[I 0, I 0, I 0, I 0, I 0, I 0], false⟩), (5, ⟨[I (aroundB b o).x, I (aroundB b o).y, I (aroundB b o).z, I (aroundB b o).a, I (aroundB b o).b, I (aroundB b o).c], false⟩), (6, ⟨[I (b.x + b.a - 1), I (b.y + b.b - 1), I (b.z + b.c - 1)], false⟩), (7, ⟨[I (o.x + o.a - 1), I (o.y + o.b - 1), I (o.z + o.c - 1)], false⟩)], rw := [], log := [], stp := false })
    (Wk.le (.cons rfl (.refl _) (.cons rfl (.refl _) (.cons rfl (.refl _) (.cons rfl (.refl _) (.cons rfl (.refl _) (.cons rfl (.refl _) (.cons rfl (VLe.i (by simp)) .nil)))))))
      (.cons rfl (LLe.refl _) (.cons rfl (LLe.refl _) (.cons rfl (LLe.refl _) (.cons rfl (lle6 ?_ ?_ ?_ ?_ ?_ ?_) (.cons rfl (LLe.refl _) (.cons rfl (LLe.refl _) .nil)))))) .nil rfl rfl) ?_)
  iterate 6
    · simp (disch := omega) [aroundB, w64, ite_max, ite_min] <;> (split <;> omega)
  refine Tr.seqR rfl (by simp) (Tr.seq (Tr.condF rfl (Tr.exit ?_)))
  exact Tr.seqR rfl (by simp) (Tr.retX rfl rfl rfl rfl trivial)

end Go.Proofs.Ytecggpjpckicgaa

/-! Contracts: the places of a box, in order; images. -/
set_option linter.unusedVariables false
set_option linter.unusedSimpArgs false
set_option maxRecDepth 20000
namespace Go.Proofs.Ytecggpjpckicgaa
open Go.Am
attribute [local simp] cells scalar mkv splice under2 under dem dem1 boxC earC cellC eB

def zsC (b : Bx) (x y n : Nat) : List (Int × Int × Int) := (List.range n).map fun (z : Nat) => (b.x + (x : Int), b.y + (y : Int), b.z + (z : Int))
def ysC (b : Bx) (x n : Nat) : List (Int × Int × Int) := (List.range n).flatMap fun y => zsC b x y b.c.toNat
def xsC (b : Bx) (n : Nat) : List (Int × Int × Int) := (List.range n).flatMap fun x => ysC b x b.b.toNat
def boxCells (b : Bx) : List (Int × Int × Int) := xsC b b.a.toNat

def cellV (p : Int × Int × Int) : List V := [.agg (cellC p.1 p.2.1 p.2.2)]

theorem zsC_succ (b : Bx) (x y n : Nat) : zsC b x y (n + 1) = zsC b x y n ++ [(b.x + x, b.y + y, b.z + n)] := by simp [zsC, List.range_succ]
theorem ysC_succ (b : Bx) (x n : Nat) : ysC b x (n + 1) = ysC b x n ++ zsC b x n b.c.toNat := by simp [ysC, List.range_succ]
theorem xsC_succ (b : Bx) (n : Nat) : xsC b (n + 1) = xsC b n ++ ysC b n b.b.toNat := by simp [xsC, List.range_succ]

theorem zsC_pre (b : Bx) (x y : Nat) {n m : Nat} (h : n ≤ m) : List.IsPrefix (zsC b x y n) (zsC b x y m) := by
  induction m with
  | zero => rw [show n = 0 by omega]; exact List.prefix_refl _
  | succ m ih =>
    by_cases e : n = m + 1
    · subst e; exact List.prefix_refl _
    · rw [zsC_succ]; exact (ih (by omega)).trans (List.prefix_append _ _)
theorem ysC_pre (b : Bx) (x : Nat) {n m : Nat} (h : n ≤ m) : List.IsPrefix (ysC b x n) (ysC b x m) := by
  induction m with
  | zero => rw [show n = 0 by omega]; exact List.prefix_refl _
  | succ m ih =>
    by_cases e : n = m + 1
    · subst e; exact List.prefix_refl _
    · rw [ysC_succ]; exact (ih (by omega)).trans (List.prefix_append _ _)
theorem xsC_pre (b : Bx) {n m : Nat} (h : n ≤ m) : List.IsPrefix (xsC b n) (xsC b m) := by
  induction m with
  | zero => rw [show n = 0 by omega]; exact List.prefix_refl _
  | succ m ih =>
    by_cases e : n = m + 1
    · subst e; exact List.prefix_refl _
    · rw [xsC_succ]; exact (ih (by omega)).trans (List.prefix_append _ _)

theorem cells_pre (b : Bx) {x y z : Nat} (hx : x < b.a.toNat) (hy : y < b.b.toNat) (hz : z < b.c.toNat) : List.IsPrefix (xsC b x ++ ysC b x y ++ zsC b x y z ++ [(b.x + (x : Int), b.y + (y : Int), b.z + (z : Int))]) (boxCells b) := by
  have h1 : List.IsPrefix (zsC b x y z ++ [(b.x + (x : Int), b.y + (y : Int), b.z + (z : Int))]) (zsC b x y b.c.toNat) := by
    rw [← zsC_succ]; exact zsC_pre b x y hz
  have h2 : List.IsPrefix (ysC b x y ++ (zsC b x y z ++ [(b.x + (x : Int), b.y + (y : Int), b.z + (z : Int))])) (ysC b x b.b.toNat) := by
    refine List.IsPrefix.trans ((List.prefix_append_right_inj _).2 h1) ?_
    rw [← ysC_succ]; exact ysC_pre b x hy
  have h3 : List.IsPrefix (xsC b x ++ (ysC b x y ++ (zsC b x y z ++ [(b.x + (x : Int), b.y + (y : Int), b.z + (z : Int))]))) (xsC b b.a.toNat) := by
    refine List.IsPrefix.trans ((List.prefix_append_right_inj _).2 h2) ?_
    rw [← xsC_succ]; exact xsC_pre b hx
  simpa [List.append_assoc, boxCells] using h3

theorem zsC_len (b : Bx) (x y n : Nat) : (zsC b x y n).length = n := by simp [zsC]
theorem ysC_len (b : Bx) (x n : Nat) : (ysC b x n).length = n * b.c.toNat := by
  induction n with
  | zero => simp [ysC]
  | succ n ih => rw [ysC_succ, List.length_append, ih, zsC_len, Nat.succ_mul]
theorem xsC_len (b : Bx) (n : Nat) : (xsC b n).length = n * (b.b.toNat * b.c.toNat) := by
  induction n with
  | zero => simp [xsC]
  | succ n ih => rw [xsC_succ, List.length_append, ih, ysC_len, Nat.succ_mul]

theorem boxCells_len {b : Bx} (h : smallB b = true) : (boxCells b).length ≤ 4096 := by
  have := small_spec h
  unfold boxCells
  rw [xsC_len]
  calc b.a.toNat * (b.b.toNat * b.c.toNat) ≤ 16 * (16 * 16) := Nat.mul_le_mul (by omega) (Nat.mul_le_mul (by omega) (by omega))
    _ = 4096 := rfl

theorem i_cells (b : Bx) (h : b.mid) : Iter Try.prog F.volume_box_cells_1 [.vptr (boxC b) 0] ((boxCells b).map cellV) := by
  obtain ⟨h1, h2, h3, h4, h5, h6⟩ := h
  refine Iter_of mixed chk.volume_box_cells_1 (by simp) fun S ok => ?_
  refine Tr.seqR rfl (by simp) (Tr.block ?_)
  refine Tr.loop (fun k s => k ≤ b.a.toNat ∧ s = { env := [(0, .yld), (1, .vptr (boxC b) 0), (8, I b.a), (9, I k)], bx := [], rw := [], log := (xsC b k).map cellV, stp := false }) (fun k => b.a.toNat - k) 0
    (Wk.le (.cons rfl (.refl _) (.cons rfl (.refl _) (.cons rfl (.refl _) (.cons rfl (.refl _) .nil)))) .nil .nil rfl rfl) ⟨by omega, rfl⟩ ?_
  rintro k s ⟨hk, rfl⟩
  refine Tr.seqR rfl (by simp) (Tr.seqI rfl (fun e1 => ?_) (fun e1 => ?_))
  · have e1 : (k : Int) < b.a := by simpa using e1
    refine Tr.skipT (Tr.seq (Tr.block (Tr.seqR rfl (by simp) (Tr.seqR rfl (by simp) (Tr.block ?_)))))
    refine Tr.loop (fun j s => j ≤ b.b.toNat ∧ s = { env := [(0, .yld), (1, .vptr (boxC b) 0), (8, I b.a), (9, I k), (3, I k), (14, I b.b), (15, I j)], bx := [], rw := [], log := (xsC b k ++ ysC b k j).map cellV, stp := false }) (fun j => b.b.toNat - j) 0
      (Wk.leL (.cons rfl (.refl _) (.cons rfl (.refl _) (.cons rfl (.refl _) (.cons rfl (.refl _) (.cons rfl (.refl _) (.cons rfl (.refl _) (.cons rfl (.refl _) .nil))))))) .nil .nil rfl rfl ?_) ⟨by omega, rfl⟩ ?_
    · show List.map cellV (xsC b k) = List.map cellV (xsC b k ++ ysC b k 0)
      simp [ysC]
    rintro j s ⟨hj, rfl⟩
    refine Tr.seqR rfl (by simp) (Tr.seqI rfl (fun e2 => ?_) (fun e2 => ?_))
    · have e2 : (j : Int) < b.b := by simpa using e2
      refine Tr.skipT (Tr.seq (Tr.block (Tr.seqR rfl (by simp) (Tr.seqR rfl (by simp) (Tr.block ?_)))))
      refine Tr.loop (fun m s => m ≤ b.c.toNat ∧ s = { env := [(0, .yld), (1, .vptr (boxC b) 0), (8, I b.a), (9, I k), (3, I k), (14, I b.b), (15, I j), (4, I j), (20, I b.c), (21, I m)], bx := [], rw := [], log := (xsC b k ++ ysC b k j ++ zsC b k j m).map cellV, stp := false }) (fun m => b.c.toNat - m) 0
        (Wk.leL (.cons rfl (.refl _) (.cons rfl (.refl _) (.cons rfl (.refl _) (.cons rfl (.refl _) (.cons rfl (.refl _) (.cons rfl (.refl _) (.cons rfl (.refl _) (.cons rfl (.refl _) (.cons rfl (.refl _) (.cons rfl (.refl _) .nil)))))))))) .nil .nil rfl rfl ?_) ⟨by omega, rfl⟩ ?_
      · show List.map cellV (xsC b k ++ ysC b k j) = List.map cellV (xsC b k ++ ysC b k j ++ zsC b k j 0)
        simp [zsC]
      rintro m s ⟨hm, rfl⟩
      refine Tr.seqR rfl (by simp) (Tr.seqI rfl (fun e3 => ?_) (fun e3 => ?_))
      · have e3 : (m : Int) < b.c := by simpa using e3
        have w1 : IntKind.i64.wrap (b.x + k) = b.x + k := w64 (by omega) (by omega)
        have w2 : IntKind.i64.wrap (b.y + j) = b.y + j := w64 (by omega) (by omega)
        have w3 : IntKind.i64.wrap (b.z + m) = b.z + m := w64 (by omega) (by omega)
        have hp : List.IsPrefix ((xsC b k ++ ysC b k j ++ zsC b k j m).map cellV ++ [cellV (IntKind.i64.wrap (b.x + k), IntKind.i64.wrap (b.y + j), IntKind.i64.wrap (b.z + m))]) ((boxCells b).map cellV) := by
          rw [w1, w2, w3]
          have := (cells_pre b (x := k) (y := j) (z := m) (by omega) (by omega) (by omega)).map cellV
          simpa using this
        refine Tr.skipT (Tr.seq (Tr.block (Tr.seqR rfl (by simp) (Tr.seqC rfl (by simp) ?_))))
        refine Steps.yield rfl (by simp) rfl hp rfl (fun c => Steps.fin rfl (by simp) ?_)
        refine Tr.cond rfl rfl (fun e4 => ?_) (fun e4 => ?_)
        · exact Tr.ret ⟨.inl e4, [], [], [], rfl, rfl, rfl⟩
        · have hc : c = true := by simpa using e4
          subst hc
          refine Tr.skip (Tr.regR rfl (by simp) ?_)
          refine ⟨m + 1, _, Wk.leL (.cons rfl (.refl _) (.cons rfl (.refl _) (.cons rfl (.refl _) (.cons rfl (.refl _) (.cons rfl (.refl _) (.cons rfl (.refl _) (.cons rfl (.refl _) (.cons rfl (.refl _) (.cons rfl (.refl _) (.cons rfl (VLe.i (w64 (by omega) (by omega))) .nil)))))))))) .nil .nil rfl rfl ?_, ⟨by omega, rfl⟩, by omega⟩
          show List.map cellV (xsC b k ++ ysC b k j ++ zsC b k j m) ++ [cellV (IntKind.i64.wrap (b.x + k), IntKind.i64.wrap (b.y + j), IntKind.i64.wrap (b.z + m))] = List.map cellV (xsC b k ++ ysC b k j ++ zsC b k j (m + 1))
          rw [w1, w2, w3, zsC_succ]
          simp
      · have e3 : m = b.c.toNat := by simp at e3; omega
        subst e3
        refine Tr.exit (Tr.regR rfl (by simp) ?_)
        refine ⟨j + 1, _, Wk.leL (.cons rfl (.refl _) (.cons rfl (.refl _) (.cons rfl (.refl _) (.cons rfl (.refl _) (.cons rfl (.refl _) (.cons rfl (.refl _) (.cons rfl (VLe.i (w64 (by omega) (by omega))) .nil))))))) .nil .nil rfl rfl ?_, ⟨by omega, rfl⟩, by omega⟩
        show List.map cellV (xsC b k ++ ysC b k j ++ zsC b k j b.c.toNat) = _
        rw [ysC_succ]
        simp
    · have e2 : j = b.b.toNat := by simp at e2; omega
      subst e2
      refine Tr.exit (Tr.regR rfl (by simp) ?_)
      refine ⟨k + 1, _, Wk.leL (.cons rfl (.refl _) (.cons rfl (.refl _) (.cons rfl (.refl _) (.cons rfl (VLe.i (w64 (by omega) (by omega))) .nil)))) .nil .nil rfl rfl ?_, ⟨by omega, rfl⟩, by omega⟩
      show List.map cellV (xsC b k ++ ysC b k b.b.toNat) = _
      rw [xsC_succ]
  · have e1 : k = b.a.toNat := by simp at e1; omega
    subst e1
    refine Tr.exit ?_
    exact ⟨.inr rfl, [], [], [], rfl, rfl, rfl⟩

theorem c_cells (b : Bx) : C Try.prog F.volume_box_cells [.agg (boxC b)] (.func (.func F.volume_box_cells_1) [] [.vptr (boxC b) 0]) := by
  refine C_of mixed chk.volume_box_cells (by simp) fun S ok => ?_
  exact Tr.seqR rfl (by simp) (Tr.seqR rfl (by simp) (Tr.retQ rfl rfl rfl trivial))

def errImg (nl : V) (e : Int) : V := .tuple [.agg [I 0, I 0, I 0, I 0, I 0, I 0, nl], I e]

/-- An image of a box, of values that are given. -/
def imageR (nl : V) (b : Bx) (of : Int × Int × Int → Int × Int) : V :=
  if boxOk b then .tuple [.agg [I b.x, I b.y, I b.z, I b.a, I b.b, I b.c, .slice 0 2 ((boxCells b).map fun p => eB (of p))], I 0] else errImg nl 102

theorem boxOk_spec {b : Bx} (h : boxOk b = true) : smallB b = true ∧ b.mid := by
  simp only [boxOk, Bool.and_eq_true] at h
  exact ⟨h.1.1, small_mid h.1.1 h.1.2⟩

theorem c_image (b : Bx) (h : Ear) {f : FuncId} {of : Int × Int × Int → Int × Int} (hof : ∀ p, C Try.prog f [.agg (earC h), .agg (cellC p.1 p.2.1 p.2.2)] (eB (of p))) :
    C Try.prog F.volume_image [.agg (cellC b.x b.y b.z), .agg (cellC b.a b.b b.c), .func (.func f) [.agg (earC h)] []] (imageR .nils b of) := by
  refine C_of mixed chk.volume_image (by simp) fun S ok => ?_
  refine Tr.seqR rfl (by simp) (Tr.seqR rfl (by simp) ?_)
  refine Tr.seq (Tr.seqC rfl (by simp) (Steps.call rfl rfl (c_boxValid b) (Steps.fin rfl (by simp) (Tr.cond rfl rfl (fun h1 => ?_) (fun h1 => ?_)))))
  · have h1 : boxOk b = false := by simpa using h1
    refine Tr.seqR rfl (by simp) (Tr.retX rfl rfl rfl ?_ trivial)
    simp [packR, imageR, h1, errImg]
  have h1 : boxOk b = true := by simpa using h1
  obtain ⟨hsm, hmid⟩ := boxOk_spec h1
  have hlen := boxCells_len hsm
  refine Tr.skip (Tr.seqR rfl (by simp) ?_)
  refine Tr.seq (Tr.seqC rfl (by simp) (Steps.call rfl rfl (c_cells b) (Steps.fin rfl (by simp) (Tr.block ?_))))
  refine Tr.weak (s' := { env := [(22, .func (.func F.volume_box_cells_1) [] [.vptr (boxC b) 0]), (5, .ptr 5 0), (6, .ptr 6 0), (9, .ptr 9 0)], bx := [(5, ⟨[.func (.func f) [.agg (earC h)] []], false⟩), (6, ⟨[I 0, I 0, I 0, I 0, I 0, I 0, .nils], false⟩), (9, ⟨[I b.x, I b.y, I b.z, I b.a, I b.b, I b.c, .slice 31 2 []], false⟩)], rw := [(30, 0, 2, 56)], log := [], stp := false })
    (Wk.le (.cons rfl (.refl _) (.cons rfl (.refl _) (.cons rfl (.refl _) (.cons rfl (.refl _) .nil)))) (.cons rfl (LLe.refl _) (.cons rfl (LLe.refl _) (.cons rfl (.cons (.refl _) (.cons (.refl _) (.cons (.refl _) (.cons (.refl _) (.cons (.refl _) (.cons (.refl _) (.cons (.nil 31 2) .nil))))))) .nil))) (.new rfl .nil) rfl rfl) ?_
  refine Tr.range rfl rfl (i_cells b hmid) rfl rfl rfl (by intro x hx; obtain ⟨p, _, rfl⟩ := List.mem_map.1 hx; rfl)
    (fun pre t => ∃ m, m ≤ (boxCells b).length ∧ pre = ((boxCells b).take m).map cellV ∧ t.bx = [(5, ⟨[.func (.func f) [.agg (earC h)] []], false⟩), (6, ⟨[I 0, I 0, I 0, I 0, I 0, I 0, .nils], false⟩), (9, ⟨[I b.x, I b.y, I b.z, I b.a, I b.b, I b.c, .slice 31 2 (((boxCells b).take m).map fun p => eB (of p))], false⟩)] ∧ t.rw = [(30, m, 2, 56)] ∧ t.log = [])
    (fun _ _ => False) ⟨0, by omega, rfl, rfl, rfl, rfl⟩ ?_ ?_ ?_
  · rintro a0 L0 rc0 h0 S1 S2 ok1 ok2 pre q t lp hpre ⟨m, hm, rfl, hbx, hrw, hlog⟩ henv hstp
    obtain ⟨env, bx, rw, log, stp⟩ := t
    simp only at hbx hrw hlog henv hstp
    subst hbx hrw hlog henv hstp
    have hmx : m < (boxCells b).length ∧ ∃ p, (boxCells b)[m]? = some p ∧ q = cellV p := by
      have h1 : (((boxCells b).take m).map cellV).length = m := by simp; omega
      have h2 := hpre.length_le
      simp at h2
      have hml : m < (boxCells b).length := by omega
      refine ⟨hml, _, List.getElem?_eq_getElem hml, ?_⟩
      have h3 := List.IsPrefix.getElem hpre (i := m) (by simp; omega)
      simp only [List.getElem_map] at h3
      rw [List.getElem_append_right (by omega)] at h3
      simpa using h3
    obtain ⟨hml, p, hb, rfl⟩ := hmx
    refine Tr.regR rfl (by simp) ?_
    refine Tr.block (Tr.drawK (TraceK.run rfl (by simp) (TraceK.callv rfl rfl (hof p) (TraceK.run rfl (by simp; omega) (.done ⟨by kernel_rfl, by kernel_rfl, ?_⟩)))))
    refine ⟨{ env := [], bx := [(5, ⟨[.func (.func f) [.agg (earC h)] []], false⟩), (6, ⟨[I 0, I 0, I 0, I 0, I 0, I 0, .nils], false⟩), (9, ⟨[I b.x, I b.y, I b.z, I b.a, I b.b, I b.c, .slice 31 2 ((((boxCells b).take m).map fun p => eB (of p)) ++ [eB (of p)])], false⟩)], rw := [(30, m + 1, 2, 56)], log := [], stp := false }, ?_, ⟨m + 1, by omega, ?_, ?_, rfl, rfl⟩, rfl⟩
    · refine Wk.le .nil (.cons rfl (LLe.refl _) (.cons rfl (LLe.refl _) (.cons rfl (LLe.refl _) .nil))) (.cons ?_ .nil) rfl rfl
      show some _ = some _
      simp; omega
    · rw [List.take_add_one, hb]; simp
    · rw [List.take_add_one, hb]; simp
  · rintro ⟨env, bx, rw, log, stp⟩ henv hstp ⟨m, hm, hpre, hbx, hrw, hlog⟩
    simp only at hbx hrw hlog henv hstp
    subst hbx hrw hlog henv hstp
    have hml : m = (boxCells b).length := by
      have := congrArg List.length hpre
      simp at this; omega
    subst hml
    refine Tr.seqR rfl (by simp) (Tr.retX rfl rfl rfl ?_ trivial)
    rw [List.take_length]
    simp [packR, imageR, h1]
  · intro e t _ h; exact h.elim

end Go.Proofs.Ytecggpjpckicgaa

/-! Contracts: the value of a place, in the program and in the specification. -/
set_option linter.unusedVariables false
set_option linter.unusedSimpArgs false
set_option maxRecDepth 20000
namespace Go.Proofs.Ytecggpjpckicgaa
open Go.Am
attribute [local simp] cells scalar mkv splice under2 under dem dem1 boxC earC cellC eB

def earOk (aper : Int) (slow : Int × Int) : Bool := btw aper 0 128 && decide (0 ≤ slow.1) && btw slow.2 slow.1 4096

def earR (l : List Echo) (aper : Int) (slow : Int × Int) : V :=
  if echoesOk l then (if earOk aper slow then .tuple [.agg (earC ⟨l, aper, slow⟩), I 0] else .tuple [.agg [.nils, I 0, I 0, I 0], I 102]) else .tuple [.agg [.nils, I 0, I 0, I 0], I 100]

theorem c_earOf {l : List Echo} (hl : sane l) (aper : Int) (slow : Int × Int) : C Try.prog F.volume_earOf [sE l, I aper, .agg [I slow.1, I slow.2]] (earR l aper slow) := by
  refine C_of mixed chk.volume_earOf (by simp) fun S ok => ?_
  refine Tr.seqR rfl (by simp) ?_
  refine Tr.seq (Tr.seqC rfl (by simp) (Steps.call rfl rfl (c_CheckEchoes hl) (Steps.fin rfl (by simp [CheckR]) ?_)))
  refine Tr.seqR rfl (by simp [CheckR]) ?_
  by_cases hE : echoesOk l = true
  · refine Tr.condF (by simp [CheckR, hE]; rfl) (Tr.skip ?_)
    refine Tr.seq (Tr.seqC rfl (by simp) (Steps.call rfl rfl (c_within _ _ _) (Steps.run rfl (by simp) ?_)))
    refine Steps.gcall rfl rfl rfl rfl (by simp) (fun _ => c_within _ _ _) (Steps.fin rfl (by simp) ?_)
    have hc : ∀ c : Bool, (bif (bif (!btw aper 0 128) then true else decide (slow.1 < 0)) then true else !btw slow.2 slow.1 4096) = c → c = !earOk aper slow := by
      rintro c rfl
      unfold earOk
      by_cases h : slow.1 < 0 <;> cases btw aper 0 128 <;> cases btw slow.2 slow.1 4096 <;> simp [h] <;> omega
    refine Tr.cond rfl rfl (fun h1 => Tr.seqR rfl (by simp) (Tr.retX rfl rfl rfl ?_ trivial)) (fun h1 => Tr.skip (Tr.seqR rfl (by simp [sE]) (Tr.retX rfl rfl rfl ?_ trivial)))
    · have := hc true h1
      have h2 : earOk aper slow = false := by simpa using this.symm
      simp [packR, earR, hE, h2]
    · have := hc false h1
      have h2 : earOk aper slow = true := by simpa using this.symm
      simp [packR, earR, hE, h2, sE]
  · have hE : echoesOk l = false := by simpa using hE
    refine Tr.condT (by simp [CheckR, hE]; rfl) (Tr.seqR rfl (by simp) (Tr.retX rfl rfl rfl ?_ trivial))
    simp [packR, earR, hE, CheckR]

def nameErr (nl : V) (e : Int) : V := .tuple [.agg [I 0, I 0, I 0, nl, I 0, I 0], I e]
def nameC (h : Ear) (x y z : Int) : List V := [I x, I y, I z, .slice 0 2 ((namedL h x y z).map eB), I (valueB h x y z).1, I (valueB h x y z).2]
def nameR (nl : V) (l : List Echo) (x y z aper slow : Int) : V :=
  if echoesOk l then (if earOk aper (slow, slow) && cellOk x y z then .tuple [.agg (nameC ⟨l, aper, (slow, slow)⟩ x y z), I 0] else nameErr nl 102) else nameErr nl 100

theorem echoesOk_len {l : List Echo} (h : echoesOk l = true) : l.length ≤ 32 := by
  simp only [echoesOk, Bool.and_eq_true, decide_eq_true_eq] at h
  exact h.1

theorem c_Name {l : List Echo} (hl : sane l) (x y z aper slow : Int) : C Try.prog F.volume_Name [sE l, .agg (cellC x y z), I aper, I slow] (nameR .nils l x y z aper slow) := by
  refine C_of mixed chk.volume_Name (by simp) fun S ok => ?_
  refine Tr.seqR rfl (by simp) ?_
  by_cases hE : echoesOk l = true
  · by_cases hA : earOk aper (slow, slow) = true
    · have hr : earR l aper (slow, slow) = .tuple [.agg (earC ⟨l, aper, (slow, slow)⟩), I 0] := by simp [earR, hE, hA]
      refine Tr.seqC rfl (by simp) (Steps.call rfl rfl (hr ▸ c_earOf hl aper (slow, slow)) (Steps.fin rfl (by simp [sE]) ?_))
      refine Tr.seq (Tr.seqR rfl (by simp) (Tr.condF rfl (Tr.skip ?_)))
      refine Tr.seq (Tr.seqC rfl (by simp) (Steps.call rfl rfl (c_cellValid x y z) (Steps.fin rfl (by simp) ?_)))
      refine Tr.cond rfl rfl (fun h1 => Tr.seqR rfl (by simp) (Tr.retX rfl rfl rfl ?_ trivial)) (fun h1 => Tr.skip ?_)
      · have h1 : cellOk x y z = false := by simpa using h1
        simp [packR, nameR, hE, hA, h1, nameErr]
      · have h1 : cellOk x y z = true := by simpa using h1
        have hlen := echoesOk_len hE
        refine Tr.seq (Tr.drawK (TraceK.run rfl (by simp) (TraceK.call rfl rfl (c_named ⟨l, aper, (slow, slow)⟩ x y z hlen hl.2) (TraceK.run rfl (by simp) (TraceK.call rfl rfl (c_value ⟨l, aper, (slow, slow)⟩ x y z hlen hl.2) (TraceK.run rfl (by simp) (.done ⟨by kernel_rfl, by kernel_rfl, ?_⟩)))))))
        refine Tr.retX rfl rfl rfl ?_ trivial
        simp [packR, nameR, hE, hA, h1, nameC]
    · have hA : earOk aper (slow, slow) = false := by simpa using hA
      have hr : earR l aper (slow, slow) = .tuple [.agg [.nils, I 0, I 0, I 0], I 102] := by simp [earR, hE, hA]
      refine Tr.seqC rfl (by simp) (Steps.call rfl rfl (hr ▸ c_earOf hl aper (slow, slow)) (Steps.fin rfl (by simp [sE]) ?_))
      refine Tr.seq (Tr.seqR rfl (by simp) (Tr.condT rfl (Tr.seqR rfl (by simp) (Tr.retX rfl rfl rfl ?_ trivial))))
      simp [packR, nameR, hE, hA, nameErr]
  · have hE : echoesOk l = false := by simpa using hE
    have hr : earR l aper (slow, slow) = .tuple [.agg [.nils, I 0, I 0, I 0], I 100] := by simp [earR, hE]
    refine Tr.seqC rfl (by simp) (Steps.call rfl rfl (hr ▸ c_earOf hl aper (slow, slow)) (Steps.fin rfl (by simp [sE]) ?_))
    refine Tr.seq (Tr.seqR rfl (by simp) (Tr.condT rfl (Tr.seqR rfl (by simp) (Tr.retX rfl rfl rfl ?_ trivial))))
    simp [packR, nameR, hE, nameErr]

theorem nears_append (aper x y : Int) : ∀ (l1 l2 : List Echo) (k : Nat), nears aper x y (l1 ++ l2) k = nears aper x y l1 k ++ nears aper x y l2 (k + l1.length)
  | [], l2, k => by simp [nears]
  | e :: r, l2, k => by
    simp only [List.cons_append, nears, nears_append aper x y r l2 (k + 1), List.length_cons]
    rw [show k + 1 + r.length = k + (r.length + 1) by omega]
    split <;> simp

def refsTo (h : Ear) (x y z : Int) (k : Nat) : List (Int × Int) := (nears h.aper x y (h.l.take k) 0).filterMap (refOf h z)

theorem refsTo_succ (h : Ear) (x y z : Int) {k : Nat} (hk : k < h.l.length) : refsTo h x y z (k + 1) = refsTo h x y z k ++
    (if hears h.aper x y h.l[k] = true ∧ timeN z (dst x y h.l[k]) h.slow.1 < (h.l[k].s.length : Int) then [((k : Int), timeN z (dst x y h.l[k]) h.slow.1)] else []) := by
  unfold refsTo
  rw [List.take_add_one, List.getElem?_eq_getElem hk, nears_append, List.filterMap_append]
  congr 1
  simp only [Option.toList, nears, List.length_take, Nat.zero_add, Nat.min_eq_left (Nat.le_of_lt hk)]
  by_cases hh : hears h.aper x y h.l[k] = true
  · simp only [hh, if_true, true_and]
    by_cases ht : timeN z (dst x y h.l[k]) h.slow.1 < (h.l[k].s.length : Int)
    · simp [refOf, List.getElem?_eq_getElem hk, ht]
    · simp [refOf, List.getElem?_eq_getElem hk, ht]
  · simp [hh]

theorem refsTo_len (h : Ear) (x y z : Int) (k : Nat) : (refsTo h x y z k).length ≤ k := by
  have h5 := List.length_filterMap_le (refOf h z) (nears h.aper x y (h.l.take k) 0)
  have h6 := nears_len (aper := h.aper) (x := x) (y := y) (l := h.l.take k) (k := 0)
  have h7 := List.length_take_le k h.l
  unfold refsTo; omega

def sumTo (h : Ear) (x y z : Int) (k : Nat) : Int × Int := ((refsTo h x y z k).map (boundAt h)).foldl plusB (0, 0)

end Go.Proofs.Ytecggpjpckicgaa
