/-
  Parts of the proof, 3: the abstract machine, the compiled code, contracts of the functions, plain laws.
-/
import Derived.Test.YtdejdblopmfjfaaGreatDoorZ2
import Derived.Test.YtdejdblopmfjfaaGreatDoorProg
import Derived.Maps.RangeRun
import Derived.Carry
import Derived.WalkSpells
import Derived.Laws.IdiomStrings
import Derived.Lib.BufferRead


/-! The code of the loaded functions, compiled. -/
namespace Go.Am
abbrev Ins.n (d : Nat) (k : K) (xs : List X) : Ins := ⟨some d, k, xs, none⟩
abbrev Ins.w (d : Nat) (k : K) (xs : List X) (t : Nat) (b : Bool) : Ins := ⟨some d, k, xs, some (t, b)⟩
abbrev Ins.s (k : K) (xs : List X) : Ins := ⟨none, k, xs, none⟩
abbrev X.i (n : Int) : X := .c (.int .i64 n)
end Go.Am
set_option maxRecDepth 100000
set_option maxRecDepth 100000
namespace Go.Proofs.YtdejdblopmfjfaaGreatDoor
open Go.Am
theorem mixed : Tryz.prog.follows .mixedOrders = true := by kernel_rfl
/-- paravane/paravanelaw07.BinFolds -/
abbrev F.law07_BinFolds : Nat := 4
def ir.law07_BinFolds : IC :=
 (.seq (.reg [.n 3 .box [.t 0], .n 4 .box [.t 1], .n 6 .mov [.c (.bool false)]])
   (.seq (.reg [.n 16 (.load 6 true) [.t 3], .n 17 (.load 2 true) [.t 4], .n 18 (.call 20) [.t 16, .t 17], .n 15 .mov [.t 18], .n 19 (.extract 0) [.t 15], .n 20 (.extract 1) [.t 15], .n 21 (.extract 2) [.t 15], .n 7 .mov [.t 19], .n 8 .mov [.t 20], .n 9 .mov [.t 21]])
   (.seq (.reg [.n 23 (.load 6 true) [.t 3], .n 24 (.load 2 true) [.t 4], .n 25 (.call 21) [.t 23, .t 24], .n 22 .mov [.t 25], .n 26 (.extract 0) [.t 22], .n 27 (.extract 1) [.t 22], .n 28 (.extract 2) [.t 22], .n 10 .mov [.t 26], .n 11 .mov [.t 27], .n 12 .mov [.t 28]])
   (.seq (.seq (.reg [.n 29 .mov [.t 7], .n 30 .mov [.t 10], .n 31 (.call 22) [.t 29, .t 30], .n 32 (.un .not) [.t 31], .n 33 .mov [.t 32], .w 34 .mov [.t 8] 33 false, .w 35 .mov [.t 11] 33 false, .w 36 (.call 22) [.t 34, .t 35] 33 false, .w 37 (.un .not) [.t 36] 33 false, .n 38 .pick [.t 33, .c (.bool true), .t 37], .n 39 .mov [.t 38], .w 40 .mov [.t 9] 39 false, .w 41 .mov [.t 12] 39 false, .w 42 (.bin .neq) [.t 40, .t 41] 39 false, .n 43 .pick [.t 39, .c (.bool true), .t 42]])
   (.cond (.t 43) (.seq (.reg [.n 6 .mov [.c (.bool false)]])
   .ret) .skip))
   (.seq (.reg [.n 45 (.load 6 true) [.t 3], .n 46 (.load 2 true) [.t 4], .n 47 .mov [.t 2], .n 48 (.call 23) [.t 45, .t 46, .t 47], .n 44 .mov [.t 48], .n 49 (.extract 0) [.t 44], .n 50 (.extract 1) [.t 44], .n 13 .mov [.t 49], .n 9 .mov [.t 50]])
   (.seq (.reg [.n 52 (.load 6 true) [.t 3], .n 53 (.load 2 true) [.t 4], .n 54 .mov [.t 2], .n 55 (.call 24) [.t 52, .t 53, .t 54], .n 51 .mov [.t 55], .n 56 (.extract 0) [.t 51], .n 57 (.extract 1) [.t 51], .n 14 .mov [.t 56], .n 12 .mov [.t 57]])
   (.seq (.reg [.n 58 .mov [.t 13], .n 59 .mov [.t 14], .n 60 (.call 25) [.t 58, .t 59], .n 61 .mov [.t 60], .w 62 .mov [.t 9] 61 true, .w 63 .mov [.t 12] 61 true, .w 64 (.bin .eql) [.t 62, .t 63] 61 true, .n 65 .pick [.t 61, .t 64, .c (.bool false)], .n 66 .mov [.t 65], .w 67 (.call 19) [] 66 true, .n 68 .pick [.t 66, .t 67, .c (.bool false)], .n 6 .mov [.t 68]])
   .ret)))))))
theorem chk.law07_BinFolds : chkF Tryz.prog 4 = some (69, ir.law07_BinFolds, [.tmp 6]) := by kernel_rfl

/-- paravane/paravanelaw07.BinGains -/
abbrev F.law07_BinGains : Nat := 5
def ir.law07_BinGains : IC :=
 (.seq (.reg [.n 3 .box [.t 0], .n 4 .box [.t 1], .n 6 .mov [.c (.bool false)]])
   (.seq (.reg [.n 12 (.load 6 true) [.t 3], .n 13 (.load 2 true) [.t 4], .n 14 .mov [.t 2], .n 15 (.call 26) [.t 12, .t 13, .t 14], .n 11 .mov [.t 15], .n 16 (.extract 0) [.t 11], .n 17 (.extract 1) [.t 11], .n 7 .mov [.t 16], .n 8 .mov [.t 17]])
   (.seq (.reg [.n 19 (.load 6 true) [.t 3], .n 20 (.load 2 true) [.t 4], .n 21 .mov [.t 2], .n 22 (.call 27) [.t 19, .t 20, .t 21], .n 18 .mov [.t 22], .n 23 (.extract 0) [.t 18], .n 24 (.extract 1) [.t 18], .n 9 .mov [.t 23], .n 10 .mov [.t 24]])
   (.seq (.reg [.n 25 .mov [.t 7], .n 26 .mov [.t 9], .n 27 (.bin .eql) [.t 25, .t 26], .n 28 .mov [.t 27], .w 29 .mov [.t 8] 28 true, .w 30 .mov [.t 10] 28 true, .w 31 (.bin .eql) [.t 29, .t 30] 28 true, .n 32 .pick [.t 28, .t 31, .c (.bool false)], .n 33 .mov [.t 32], .w 34 (.call 19) [] 33 true, .n 35 .pick [.t 33, .t 34, .c (.bool false)], .n 6 .mov [.t 35]])
   .ret))))
theorem chk.law07_BinGains : chkF Tryz.prog 5 = some (36, ir.law07_BinGains, [.tmp 6]) := by kernel_rfl

/-- paravane/bin.CheckGrid -/
abbrev F.bin_CheckGrid : Nat := 10
def ir.bin_CheckGrid : IC :=
 (.seq (.reg [.n 1 .box [.t 0], .n 2 .mov [.i 0]])
   (.seq (.seq (.reg [.n 6 (.faddr 0) [.t 1], .n 7 (.load 2 true) [.t 6], .n 8 (.call 43) [.t 7], .n 9 (.bin .neq) [.t 8, .i 0], .n 10 .mov [.t 9], .w 11 (.faddr 2) [.t 1] 10 false, .w 12 (.load 1 false) [.t 11] 10 false, .w 13 (.call 44) [.t 12, .i 1, .i 1000] 10 false, .w 14 (.un .not) [.t 13] 10 false, .n 15 .pick [.t 10, .c (.bool true), .t 14], .n 16 .mov [.t 15], .w 17 (.faddr 3) [.t 1] 16 false, .w 18 (.load 1 false) [.t 17] 16 false, .w 19 (.call 44) [.t 18, .i 1, .i 16] 16 false, .w 20 (.un .not) [.t 19] 16 false, .n 21 .pick [.t 16, .c (.bool true), .t 20], .n 22 .mov [.t 21], .w 23 (.faddr 4) [.t 1] 22 false, .w 24 (.load 1 false) [.t 23] 22 false, .w 25 (.call 44) [.t 24, .i 1, .i 16] 22 false, .w 26 (.un .not) [.t 25] 22 false, .n 27 .pick [.t 22, .c (.bool true), .t 26], .n 28 .mov [.t 27], .w 29 (.faddr 5) [.t 1] 28 false, .w 30 (.load 1 false) [.t 29] 28 false, .w 31 (.len false) [.t 30] 28 false, .w 32 (.call 44) [.t 31, .i 1, .i 4] 28 false, .w 33 (.un .not) [.t 32] 28 false, .n 34 .pick [.t 28, .c (.bool true), .t 33]])
   (.cond (.t 34) (.seq (.reg [.n 2 .mov [.i 70]])
   .ret) .skip))
   (.seq (.reg [.n 3 .mov [.i (-1)]])
   (.seq (.seq (.reg [.n 35 (.faddr 5) [.t 1], .n 36 (.load 1 false) [.t 35], .n 37 (.len false) [.t 36], .n 38 .mov [.i 0]])
   (.block 0 (.loop (.seq (.reg [.n 39 (.bin .lss) [.t 38, .t 37]])
   (.seq (.cond (.t 39) .skip (.exit 0))
   (.seq (.block 1 (.seq (.reg [.n 40 (.iaddrS 2) [.t 36, .t 38], .n 41 (.load 2 true) [.t 40], .n 5 (.alloc [(.int .i64 0), (.int .i64 0)]) [], .s (.store 2) [.t 5, .t 41]])
   (.seq (.seq (.reg [.n 42 (.faddr 0) [.t 5], .n 43 (.load 1 false) [.t 42], .n 44 .mov [.t 3], .n 45 (.bin .leq) [.t 43, .t 44], .n 46 .mov [.t 45], .w 47 (.faddr 0) [.t 5] 46 false, .w 48 (.load 1 false) [.t 47] 46 false, .w 49 (.faddr 1) [.t 5] 46 false, .w 50 (.load 1 false) [.t 49] 46 false, .w 51 (.bin .gtr) [.t 48, .t 50] 46 false, .n 52 .pick [.t 46, .c (.bool true), .t 51], .n 53 .mov [.t 52], .w 54 (.faddr 1) [.t 5] 53 false, .w 55 (.load 1 false) [.t 54] 53 false, .w 56 (.bin .gtr) [.t 55, .i 17179869184] 53 false, .n 57 .pick [.t 53, .c (.bool true), .t 56]])
   (.cond (.t 57) (.seq (.reg [.n 2 .mov [.i 70]])
   .ret) .skip))
   (.reg [.n 58 (.faddr 1) [.t 5], .n 59 (.load 1 false) [.t 58], .n 3 .mov [.t 59]]))))
   (.reg [.n 60 (.bin .add) [.t 38, .i 1], .n 38 .mov [.t 60]])))))))
   (.seq (.reg [.n 2 .mov [.i 0]])
   .ret)))))
theorem chk.bin_CheckGrid : chkF Tryz.prog 10 = some (61, ir.bin_CheckGrid, [.tmp 2]) := by kernel_rfl

/-- paravane/paravaneref07.CheckGrid -/
abbrev F.ref07_CheckGrid : Nat := 11
def ir.ref07_CheckGrid : IC :=
 (.seq (.reg [.n 1 .box [.t 0], .n 2 .mov [.i 0]])
   (.seq (.reg [.n 6 (.faddr 0) [.t 1], .n 7 (.load 2 true) [.t 6], .n 8 (.call 45) [.t 7], .n 9 (.bin .eql) [.t 8, .i 0], .n 10 .mov [.t 9], .w 11 (.faddr 2) [.t 1] 10 true, .w 12 (.load 1 false) [.t 11] 10 true, .w 13 (.call 39) [.t 12, .i 1, .i 1000] 10 true, .n 14 .pick [.t 10, .t 13, .c (.bool false)], .n 15 .mov [.t 14], .w 16 (.faddr 3) [.t 1] 15 true, .w 17 (.load 1 false) [.t 16] 15 true, .w 18 (.call 39) [.t 17, .i 1, .i 16] 15 true, .n 19 .pick [.t 15, .t 18, .c (.bool false)], .n 20 .mov [.t 19], .w 21 (.faddr 4) [.t 1] 20 true, .w 22 (.load 1 false) [.t 21] 20 true, .w 23 (.call 39) [.t 22, .i 1, .i 16] 20 true, .n 24 .pick [.t 20, .t 23, .c (.bool false)], .n 25 .mov [.t 24], .w 26 (.faddr 5) [.t 1] 25 true, .w 27 (.load 1 false) [.t 26] 25 true, .w 28 (.len false) [.t 27] 25 true, .w 29 (.call 39) [.t 28, .i 1, .i 4] 25 true, .n 30 .pick [.t 25, .t 29, .c (.bool false)], .n 3 .mov [.t 30]])
   (.seq (.seq (.reg [.n 4 .mov [.i 0]])
   (.block 0 (.loop (.seq (.seq (.reg [.n 31 .mov [.t 4], .n 32 (.faddr 5) [.t 1], .n 33 (.load 1 false) [.t 32], .n 34 (.len false) [.t 33], .n 35 (.bin .lss) [.t 31, .t 34]])
   (.cond (.t 35) .skip (.exit 0)))
   (.seq (.block 1 (.seq (.reg [.n 38 (.faddr 5) [.t 1], .n 39 (.load 1 false) [.t 38], .n 40 .mov [.t 4], .n 41 (.iaddrS 2) [.t 39, .t 40], .n 42 (.load 2 true) [.t 41], .n 5 (.alloc [(.int .i64 0), (.int .i64 0)]) [], .s (.store 2) [.t 5, .t 42]])
   (.draw [0, 1, 3, 7, 15, 31, 63, 127, 255, 127, 639, 2047, 4095, 8191, 16383, 32767, 65535, 131071, 262143, 524287, 1048575, 2097151, 4194303, 8388607, 4194303, 20971519, 4194303, 71303167, 255852543, 524287999, 1061158911, 2147483647, 4294967295, 8589934591, 17179869183] [.n 43 .mov [.t 3], .n 44 .mov [.t 43], .w 45 (.faddr 0) [.t 5] 44 true, .w 46 (.load 1 false) [.t 45] 44 true, .w 47 (.bin .geq) [.t 46, .i 0] 44 true, .n 48 .pick [.t 44, .t 47, .c (.bool false)], .n 49 .mov [.t 48], .w 50 (.faddr 0) [.t 5] 49 true, .w 51 (.load 1 false) [.t 50] 49 true, .w 52 (.faddr 1) [.t 5] 49 true, .w 53 (.load 1 false) [.t 52] 49 true, .w 54 (.bin .leq) [.t 51, .t 53] 49 true, .n 55 .pick [.t 49, .t 54, .c (.bool false)], .n 56 .mov [.t 55], .w 57 (.faddr 1) [.t 5] 56 true, .w 58 (.load 1 false) [.t 57] 56 true, .w 59 (.bin .leq) [.t 58, .i 17179869184] 56 true, .n 60 .pick [.t 56, .t 59, .c (.bool false)], .n 61 .mov [.t 60], .w 62 .mov [.t 4] 61 true, .w 63 (.bin .eql) [.t 62, .i 0] 61 true, .w 64 .mov [.t 63] 61 true, .w 65 (.faddr 0) [.t 5] 64 false, .w 66 (.load 1 false) [.t 65] 64 false, .w 67 (.faddr 5) [.t 1] 64 false, .w 68 (.load 1 false) [.t 67] 64 false, .w 69 .mov [.t 4] 64 false, .w 70 (.bin .sub) [.t 69, .i 1] 64 false, .w 71 (.iaddrS 2) [.t 68, .t 70] 64 false, .w 72 (.faddr 1) [.t 71] 64 false, .w 73 (.load 1 false) [.t 72] 64 false, .w 74 (.bin .gtr) [.t 66, .t 73] 64 false, .w 75 .pick [.t 64, .c (.bool true), .t 74] 61 true, .n 76 .pick [.t 61, .t 75, .c (.bool false)], .n 3 .mov [.t 76]])))
   (.reg [.n 36 .mov [.t 4], .n 37 (.bin .add) [.t 36, .i 1], .n 4 .mov [.t 37]]))))))
   (.seq (.seq (.reg [.n 77 .mov [.t 3], .n 78 (.un .not) [.t 77]])
   (.cond (.t 78) (.seq (.reg [.n 2 .mov [.i 70]])
   .ret) .skip))
   (.seq (.reg [.n 2 .mov [.i 0]])
   .ret)))))
theorem chk.ref07_CheckGrid : chkF Tryz.prog 11 = some (79, ir.ref07_CheckGrid, [.tmp 2]) := by kernel_rfl

/-- paravane/bin.CheckLayout -/
abbrev F.bin_CheckLayout : Nat := 12
def ir.bin_CheckLayout : IC :=
 (.seq (.reg [.n 1 .box [.t 0], .n 2 .mov [.i 0]])
   (.seq (.seq (.reg [.n 9 (.faddr 0) [.t 1], .n 10 (.load 1 false) [.t 9], .n 11 (.len false) [.t 10], .n 12 (.bin .gtr) [.t 11, .i 16], .n 13 .mov [.t 12], .w 14 (.faddr 1) [.t 1] 13 false, .w 15 (.load 1 false) [.t 14] 13 false, .w 16 (.len false) [.t 15] 13 false, .w 17 (.bin .gtr) [.t 16, .i 64] 13 false, .n 18 .pick [.t 13, .c (.bool true), .t 17]])
   (.cond (.t 18) (.seq (.reg [.n 2 .mov [.i 71]])
   .ret) .skip))
   (.seq (.seq (.reg [.n 19 (.faddr 0) [.t 1], .n 20 (.load 1 false) [.t 19], .n 21 (.len false) [.t 20], .n 22 .mov [.i 0]])
   (.block 0 (.loop (.seq (.reg [.n 23 (.bin .lss) [.t 22, .t 21]])
   (.seq (.cond (.t 23) .skip (.exit 0))
   (.seq (.block 1 (.seq (.reg [.n 24 (.iaddrS 8) [.t 20, .t 22], .n 25 (.load 8 true) [.t 24], .n 4 (.alloc [(.int .i64 0), (.int .i64 0), (.int .i64 0), (.int .i64 0), (.int .i64 0), (.int .i64 0), (.int .i64 0), (.int .i64 0)]) [], .s (.store 8) [.t 4, .t 25]])
   (.seq (.reg [.n 27 (.load 8 true) [.t 4], .n 28 (.call 46) [.t 27], .n 26 .mov [.t 28], .n 29 (.extract 0) [.t 26], .n 30 (.extract 1) [.t 26], .n 5 .mov [.t 29], .n 6 .mov [.t 30]])
   (.seq (.reg [.n 31 .mov [.t 6], .n 32 (.bin .neq) [.t 31, .i 0], .n 33 .mov [.t 32], .w 34 .mov [.t 5] 33 false, .w 35 (.call 44) [.t 34, .i 1, .i 64] 33 false, .w 36 (.un .not) [.t 35] 33 false, .n 37 .pick [.t 33, .c (.bool true), .t 36]])
   (.cond (.t 37) (.seq (.reg [.n 2 .mov [.i 71]])
   .ret) .skip)))))
   (.reg [.n 38 (.bin .add) [.t 22, .i 1], .n 22 .mov [.t 38]])))))))
   (.seq (.seq (.reg [.n 39 (.faddr 1) [.t 1], .n 40 (.load 1 false) [.t 39], .n 41 (.len false) [.t 40], .n 42 .mov [.i 0]])
   (.block 2 (.loop (.seq (.reg [.n 43 (.bin .lss) [.t 42, .t 41]])
   (.seq (.cond (.t 43) .skip (.exit 2))
   (.seq (.block 3 (.seq (.reg [.n 44 (.iaddrS 2) [.t 40, .t 42], .n 45 (.load 2 true) [.t 44], .n 8 (.alloc [(.int .i64 0), (.int .i64 0)]) [], .s (.store 2) [.t 8, .t 45]])
   (.seq (.reg [.n 46 (.iaddrA 2 1) [.t 8, .i 0], .n 47 (.load 1 false) [.t 46], .n 48 (.faddr 0) [.t 1], .n 49 (.load 1 false) [.t 48], .n 50 (.len false) [.t 49], .n 51 (.bin .sub) [.t 50, .i 1], .n 52 (.call 44) [.t 47, .i 0, .t 51], .n 53 (.un .not) [.t 52], .n 54 .mov [.t 53], .w 55 (.iaddrA 2 1) [.t 8, .i 1] 54 false, .w 56 (.load 1 false) [.t 55] 54 false, .w 57 (.faddr 0) [.t 1] 54 false, .w 58 (.load 1 false) [.t 57] 54 false, .w 59 (.len false) [.t 58] 54 false, .w 60 (.bin .sub) [.t 59, .i 1] 54 false, .w 61 (.call 44) [.t 56, .i 0, .t 60] 54 false, .w 62 (.un .not) [.t 61] 54 false, .n 63 .pick [.t 54, .c (.bool true), .t 62], .n 64 .mov [.t 63], .w 65 (.iaddrA 2 1) [.t 8, .i 0] 64 false, .w 66 (.load 1 false) [.t 65] 64 false, .w 67 (.iaddrA 2 1) [.t 8, .i 1] 64 false, .w 68 (.load 1 false) [.t 67] 64 false, .w 69 (.bin .eql) [.t 66, .t 68] 64 false, .n 70 .pick [.t 64, .c (.bool true), .t 69]])
   (.cond (.t 70) (.seq (.reg [.n 2 .mov [.i 71]])
   .ret) .skip))))
   (.reg [.n 71 (.bin .add) [.t 42, .i 1], .n 42 .mov [.t 71]])))))))
   (.seq (.reg [.n 2 .mov [.i 0]])
   .ret)))))
theorem chk.bin_CheckLayout : chkF Tryz.prog 12 = some (72, ir.bin_CheckLayout, [.tmp 2]) := by kernel_rfl

/-- paravane/paravaneref07.CheckLayout -/
abbrev F.ref07_CheckLayout : Nat := 13
def ir.ref07_CheckLayout : IC :=
 (.seq (.reg [.n 1 .box [.t 0], .n 2 .mov [.i 0]])
   (.seq (.reg [.n 9 (.faddr 0) [.t 1], .n 10 (.load 1 false) [.t 9], .n 11 (.len false) [.t 10], .n 12 (.bin .leq) [.t 11, .i 16], .n 13 .mov [.t 12], .w 14 (.faddr 1) [.t 1] 13 true, .w 15 (.load 1 false) [.t 14] 13 true, .w 16 (.len false) [.t 15] 13 true, .w 17 (.bin .leq) [.t 16, .i 64] 13 true, .n 18 .pick [.t 13, .t 17, .c (.bool false)], .n 3 .mov [.t 18]])
   (.seq (.seq (.reg [.n 4 .mov [.i 0]])
   (.block 0 (.loop (.seq (.seq (.reg [.n 19 .mov [.t 3], .n 20 .mov [.t 19], .w 21 .mov [.t 4] 20 true, .w 22 (.faddr 0) [.t 1] 20 true, .w 23 (.load 1 false) [.t 22] 20 true, .w 24 (.len false) [.t 23] 20 true, .w 25 (.bin .lss) [.t 21, .t 24] 20 true, .n 26 .pick [.t 20, .t 25, .c (.bool false)]])
   (.cond (.t 26) .skip (.exit 0)))
   (.seq (.block 1 (.seq (.reg [.n 30 (.faddr 0) [.t 1], .n 31 (.load 1 false) [.t 30], .n 32 .mov [.t 4], .n 33 (.iaddrS 8) [.t 31, .t 32], .n 34 (.load 8 true) [.t 33], .n 35 (.call 47) [.t 34], .n 29 .mov [.t 35], .n 36 (.extract 0) [.t 29], .n 37 (.extract 1) [.t 29], .n 5 .mov [.t 36], .n 6 .mov [.t 37]])
   (.reg [.n 38 .mov [.t 6], .n 39 (.bin .eql) [.t 38, .i 0], .n 40 .mov [.t 39], .w 41 .mov [.t 5] 40 true, .w 42 (.call 39) [.t 41, .i 1, .i 64] 40 true, .n 43 .pick [.t 40, .t 42, .c (.bool false)], .n 3 .mov [.t 43]])))
   (.reg [.n 27 .mov [.t 4], .n 28 (.bin .add) [.t 27, .i 1], .n 4 .mov [.t 28]]))))))
   (.seq (.seq (.reg [.n 7 .mov [.i 0]])
   (.block 2 (.loop (.seq (.seq (.reg [.n 44 .mov [.t 7], .n 45 (.faddr 1) [.t 1], .n 46 (.load 1 false) [.t 45], .n 47 (.len false) [.t 46], .n 48 (.bin .lss) [.t 44, .t 47]])
   (.cond (.t 48) .skip (.exit 2)))
   (.seq (.block 3 (.seq (.reg [.n 51 (.faddr 1) [.t 1], .n 52 (.load 1 false) [.t 51], .n 53 .mov [.t 7], .n 54 (.iaddrS 2) [.t 52, .t 53], .n 55 (.load 2 true) [.t 54], .n 8 (.alloc [(.int .i64 0), (.int .i64 0)]) [], .s (.store 2) [.t 8, .t 55]])
   (.reg [.n 56 .mov [.t 3], .n 57 .mov [.t 56], .w 58 (.iaddrA 2 1) [.t 8, .i 0] 57 true, .w 59 (.load 1 false) [.t 58] 57 true, .w 60 (.faddr 0) [.t 1] 57 true, .w 61 (.load 1 false) [.t 60] 57 true, .w 62 (.len false) [.t 61] 57 true, .w 63 (.bin .sub) [.t 62, .i 1] 57 true, .w 64 (.call 39) [.t 59, .i 0, .t 63] 57 true, .n 65 .pick [.t 57, .t 64, .c (.bool false)], .n 66 .mov [.t 65], .w 67 (.iaddrA 2 1) [.t 8, .i 1] 66 true, .w 68 (.load 1 false) [.t 67] 66 true, .w 69 (.faddr 0) [.t 1] 66 true, .w 70 (.load 1 false) [.t 69] 66 true, .w 71 (.len false) [.t 70] 66 true, .w 72 (.bin .sub) [.t 71, .i 1] 66 true, .w 73 (.call 39) [.t 68, .i 0, .t 72] 66 true, .n 74 .pick [.t 66, .t 73, .c (.bool false)], .n 75 .mov [.t 74], .w 76 (.iaddrA 2 1) [.t 8, .i 0] 75 true, .w 77 (.load 1 false) [.t 76] 75 true, .w 78 (.iaddrA 2 1) [.t 8, .i 1] 75 true, .w 79 (.load 1 false) [.t 78] 75 true, .w 80 (.bin .neq) [.t 77, .t 79] 75 true, .n 81 .pick [.t 75, .t 80, .c (.bool false)], .n 3 .mov [.t 81]])))
   (.reg [.n 49 .mov [.t 7], .n 50 (.bin .add) [.t 49, .i 1], .n 7 .mov [.t 50]]))))))
   (.seq (.seq (.reg [.n 82 .mov [.t 3], .n 83 (.un .not) [.t 82]])
   (.cond (.t 83) (.seq (.reg [.n 2 .mov [.i 71]])
   .ret) .skip))
   (.seq (.reg [.n 2 .mov [.i 0]])
   .ret))))))
theorem chk.ref07_CheckLayout : chkF Tryz.prog 13 = some (84, ir.ref07_CheckLayout, [.tmp 2]) := by kernel_rfl

/-- paravane/bin.Cell -/
abbrev F.bin_Cell : Nat := 14
def ir.bin_Cell : IC :=
 (.seq (.reg [.n 3 .box [.t 0], .n 4 .box [.t 1], .n 5 .box [.t 2], .n 6 (.alloc [(.int .i64 0), (.int .i64 0)]) [], .n 7 .mov [.i 0]])
   (.seq (.seq (.reg [.n 9 (.load 6 true) [.t 3], .n 10 (.call 10) [.t 9], .n 8 .mov [.t 10]])
   (.seq (.reg [.n 11 .mov [.t 8], .n 12 (.bin .neq) [.t 11, .i 0]])
   (.cond (.t 12) (.seq (.reg [.n 13 (.build [(.int .i64 0), (.int .i64 0)] []) [], .n 14 .mov [.t 8], .s (.store 2) [.t 6, .t 13], .n 7 .mov [.t 14]])
   .ret) .skip)))
   (.seq (.seq (.reg [.n 15 (.load 2 true) [.t 4], .n 16 (.call 43) [.t 15], .n 17 (.bin .neq) [.t 16, .i 0], .n 18 .mov [.t 17], .w 19 (.load 2 true) [.t 5] 18 false, .w 20 (.call 43) [.t 19] 18 false, .w 21 (.bin .neq) [.t 20, .i 0] 18 false, .n 22 .pick [.t 18, .c (.bool true), .t 21]])
   (.cond (.t 22) (.seq (.reg [.n 23 (.build [(.int .i64 0), (.int .i64 0)] []) [], .s (.store 2) [.t 6, .t 23], .n 7 .mov [.i 10]])
   .ret) .skip))
   (.seq (.reg [.n 24 (.load 6 true) [.t 3], .n 25 (.load 2 true) [.t 4], .n 26 (.load 2 true) [.t 5], .n 27 (.call 48) [.t 24, .t 25, .t 26], .s (.store 2) [.t 6, .t 27], .n 7 .mov [.i 0]])
   .ret))))
theorem chk.bin_Cell : chkF Tryz.prog 14 = some (28, ir.bin_Cell, [.cell 6 39, .tmp 7]) := by kernel_rfl

/-- paravane/bin.Hits -/
abbrev F.bin_Hits : Nat := 16
def ir.bin_Hits : IC :=
 (.seq (.reg [.n 3 .box [.t 0], .n 4 .box [.t 1], .n 6 .mov [.c .nils], .n 7 .mov [.i 0]])
   (.seq (.reg [.n 11 (.load 6 true) [.t 3], .n 12 (.load 2 true) [.t 4], .n 13 (.call 50) [.t 11, .t 12], .n 10 .mov [.t 13], .n 14 (.extract 0) [.t 10], .n 15 (.extract 1) [.t 10], .n 8 (.alloc [(.int .i64 0), (.int .i64 0), (.int .i64 0), (.int .i64 0), (.int .i64 0), .nils, .nils, .nils]) [], .s (.store 8) [.t 8, .t 14], .n 9 .mov [.t 15]])
   (.seq (.seq (.reg [.n 16 .mov [.t 9], .n 17 (.bin .neq) [.t 16, .i 0]])
   (.cond (.t 17) (.seq (.reg [.n 18 .mov [.t 9], .n 6 .mov [.c .nils], .n 7 .mov [.t 18]])
   .ret) .skip))
   (.seq (.seq (.reg [.n 19 .mov [.t 2], .n 20 (.faddr 1) [.t 4], .n 21 (.load 1 false) [.t 20], .n 22 (.len false) [.t 21], .n 23 (.bin .sub) [.t 22, .i 1], .n 24 (.call 44) [.t 19, .i 0, .t 23], .n 25 (.un .not) [.t 24]])
   (.cond (.t 25) (.seq (.reg [.n 6 .mov [.c .nils], .n 7 .mov [.i 72]])
   .ret) .skip))
   (.seq (.reg [.n 26 (.load 8 true) [.t 8], .n 27 .mov [.t 2], .n 28 (.call 51) [.t 26, .t 27], .n 6 .mov [.t 28], .n 7 .mov [.i 0]])
   .ret)))))
theorem chk.bin_Hits : chkF Tryz.prog 16 = some (29, ir.bin_Hits, [.tmp 6, .tmp 7]) := by kernel_rfl

/-- paravane/paravanelaw07.cells -/
abbrev F.law07_cells : Nat := 18
def ir.law07_cells : IC :=
 (.seq (.reg [.n 4 .mov [.c (.bool false)]])
   (.seq (.seq (.reg [.n 6 .mov [.t 0], .n 7 (.len false) [.t 6], .n 8 .mov [.t 1], .n 9 (.len false) [.t 8], .n 10 (.bin .neq) [.t 7, .t 9]])
   (.cond (.t 10) (.seq (.reg [.n 4 .mov [.c (.bool false)]])
   .ret) .skip))
   (.seq (.seq (.reg [.n 5 .mov [.i 0]])
   (.block 0 (.loop (.seq (.seq (.reg [.n 11 .mov [.t 5], .n 12 .mov [.t 0], .n 13 (.len false) [.t 12], .n 14 (.bin .lss) [.t 11, .t 13]])
   (.cond (.t 14) .skip (.exit 0)))
   (.seq (.block 1 (.seq (.draw [0, 0, 3, 7, 0, 0, 48, 112, 255] [.n 17 .mov [.t 0], .n 18 .mov [.t 5], .n 19 (.iaddrS 2) [.t 17, .t 18], .n 20 (.load 2 true) [.t 19], .n 21 .mov [.t 1], .n 22 .mov [.t 5], .n 23 (.iaddrS 2) [.t 21, .t 22], .n 24 (.load 2 true) [.t 23], .n 25 (.eqs true [0, 0]) [.t 20, .t 24]])
   (.cond (.t 25) (.seq (.reg [.n 4 .mov [.c (.bool false)]])
   .ret) .skip)))
   (.reg [.n 15 .mov [.t 5], .n 16 (.bin .add) [.t 15, .i 1], .n 5 .mov [.t 16]]))))))
   (.seq (.reg [.n 4 .mov [.c (.bool true)]])
   .ret))))
theorem chk.law07_cells : chkF Tryz.prog 18 = some (26, ir.law07_cells, [.tmp 4]) := by kernel_rfl

/-- paravane/paravanelaw07.works -/
abbrev F.law07_works : Nat := 19
def ir.law07_works : IC :=
 (.seq (.reg [.n 0 .mov [.c (.bool false)]])
   (.seq (.reg [.n 19 (.call 55) [], .n 20 (.build [(.int .i64 0), (.int .i64 0)] [(0, 1), (1, 1)]) [.i 1, .i 1], .n 21 (.build [(.int .i64 0), (.int .i64 0)] [(0, 1), (1, 1)]) [.i 9, .i 3], .n 22 (.call 14) [.t 19, .t 20, .t 21], .n 18 .mov [.t 22], .n 23 (.extract 0) [.t 18], .n 24 (.extract 1) [.t 18], .n 1 (.alloc [(.int .i64 0), (.int .i64 0)]) [], .s (.store 2) [.t 1, .t 23], .n 2 .mov [.t 24]])
   (.seq (.reg [.n 26 (.call 55) [], .n 27 (.call 56) [], .n 28 (.call 16) [.t 26, .t 27, .i 2], .n 25 .mov [.t 28], .n 29 (.extract 0) [.t 25], .n 30 (.extract 1) [.t 25], .n 3 .mov [.t 29], .n 4 .mov [.t 30]])
   (.seq (.reg [.n 32 (.call 55) [], .n 33 (.call 56) [], .n 34 (.call 20) [.t 32, .t 33], .n 31 .mov [.t 34], .n 35 (.extract 0) [.t 31], .n 36 (.extract 1) [.t 31], .n 37 (.extract 2) [.t 31], .n 5 .mov [.t 35], .n 6 .mov [.t 36], .n 7 .mov [.t 37]])
   (.seq (.seq (.reg [.n 38 .mov [.t 2], .n 39 (.bin .neq) [.t 38, .i 0], .n 40 .mov [.t 39], .w 41 .mov [.t 4] 40 false, .w 42 (.bin .neq) [.t 41, .i 0] 40 false, .n 43 .pick [.t 40, .c (.bool true), .t 42], .n 44 .mov [.t 43], .w 45 .mov [.t 7] 44 false, .w 46 (.bin .neq) [.t 45, .i 0] 44 false, .n 47 .pick [.t 44, .c (.bool true), .t 46], .n 48 .mov [.t 47], .w 49 (.load 2 true) [.t 1] 48 false, .w 50 (.build [(.int .i64 0), (.int .i64 0)] [(0, 1), (1, 1)]) [.i 5, .i 1] 48 false, .w 51 (.eqs true [0, 0]) [.t 49, .t 50] 48 false, .n 52 .pick [.t 48, .c (.bool true), .t 51], .n 53 .mov [.t 52], .w 54 .mov [.t 3] 53 false, .w 55 (.build [(.int .i64 0), (.int .i64 0)] [(0, 1), (1, 1)]) [.i (-1), .i (-1)] 53 false, .w 56 (.build [(.int .i64 0), (.int .i64 0)] [(0, 1)]) [.i 5] 53 false, .w 57 (.mkslice 2 39) [.t 55, .t 56] 53 false, .w 58 (.call 18) [.t 54, .t 57] 53 false, .w 59 (.un .not) [.t 58] 53 false, .n 60 .pick [.t 53, .c (.bool true), .t 59], .n 61 .mov [.t 60], .w 62 .mov [.t 5] 61 false, .w 63 (.mkslice 1 3) [.i 0, .i 0] 61 false, .w 64 (.mkslice 1 3) [.i 0, .i 0] 61 false, .w 65 (.mkslice 1 3) [.i 0, .i 0] 61 false, .w 66 (.mkslice 1 3) [.i 0, .i 0] 61 false, .w 67 (.mkslice 1 3) [.i 1, .i 0] 61 false, .w 68 (.mkslice 1 3) [.i 0, .i 1] 61 false, .w 69 (.mkslice 1 48) [.t 63, .t 64, .t 65, .t 66, .t 67, .t 68] 61 false, .w 70 (.call 22) [.t 62, .t 69] 61 false, .w 71 (.un .not) [.t 70] 61 false, .n 72 .pick [.t 61, .c (.bool true), .t 71], .n 73 .mov [.t 72], .w 74 .mov [.t 6] 73 false, .w 75 (.mkslice 1 3) [.i 0, .i 0] 73 false, .w 76 (.mkslice 1 3) [.i 0, .i 0] 73 false, .w 77 (.mkslice 1 3) [.i 0, .i 0] 73 false, .w 78 (.mkslice 1 3) [.i 0, .i 0] 73 false, .w 79 (.mkslice 1 3) [.i 1, .i 0] 73 false, .w 80 (.mkslice 1 3) [.i 1, .i 1] 73 false, .w 81 (.mkslice 1 48) [.t 75, .t 76, .t 77, .t 78, .t 79, .t 80] 73 false, .w 82 (.call 22) [.t 74, .t 81] 73 false, .w 83 (.un .not) [.t 82] 73 false, .n 84 .pick [.t 73, .c (.bool true), .t 83]])
   (.cond (.t 84) (.seq (.reg [.n 0 .mov [.c (.bool false)]])
   .ret) .skip))
   (.seq (.reg [.n 86 (.call 55) [], .n 87 .mov [.t 5], .n 88 (.call 57) [.t 86, .t 87, .i 0], .n 85 .mov [.t 88], .n 89 (.extract 0) [.t 85], .n 90 (.extract 1) [.t 85], .n 8 .mov [.t 89], .n 2 .mov [.t 90]])
   (.seq (.reg [.n 92 (.call 55) [], .n 93 (.call 56) [], .n 94 (.mkslice 1 3) [.i 0, .i 2], .n 95 (.call 23) [.t 92, .t 93, .t 94], .n 91 .mov [.t 95], .n 96 (.extract 0) [.t 91], .n 97 (.extract 1) [.t 91], .n 9 .mov [.t 96], .n 4 .mov [.t 97]])
   (.seq (.reg [.n 99 (.call 55) [], .n 100 (.call 56) [], .n 101 (.call 26) [.t 99, .t 100, .i 2], .n 98 .mov [.t 101], .n 102 (.extract 0) [.t 98], .n 103 (.extract 1) [.t 98], .n 10 .mov [.t 102], .n 7 .mov [.t 103]])
   (.seq (.reg [.n 105 (.call 58) [], .n 106 (.call 40) [.t 105], .n 104 .mov [.t 106], .n 107 (.extract 0) [.t 104], .n 108 (.extract 1) [.t 104], .n 109 (.extract 2) [.t 104], .n 11 .mov [.t 107], .n 12 .mov [.t 108], .n 13 .mov [.t 109]])
   (.seq (.reg [.n 111 (.call 58) [], .n 112 (.call 59) [.t 111, .i 3], .n 110 .mov [.t 112], .n 113 (.extract 0) [.t 110], .n 114 (.extract 1) [.t 110], .n 14 .mov [.t 113], .n 15 .mov [.t 114]])
   (.seq (.reg [.n 116 (.call 58) [], .n 117 (.mkslice 1 3) [.i 2, .i 2], .n 118 (.build [(.int .i64 0), .nils] [(0, 1), (1, 1)]) [.i (-1), .t 117], .n 119 (.mkslice 2 115) [.t 118], .n 120 (.call 31) [.t 116, .t 119], .n 115 .mov [.t 120], .n 121 (.extract 0) [.t 115], .n 122 (.extract 1) [.t 115], .n 16 .mov [.t 121], .n 17 .mov [.t 122]])
   (.seq (.reg [.n 123 .mov [.t 2], .n 124 (.bin .eql) [.t 123, .i 0], .n 125 .mov [.t 124], .w 126 .mov [.t 4] 125 true, .w 127 (.bin .eql) [.t 126, .i 0] 125 true, .n 128 .pick [.t 125, .t 127, .c (.bool false)], .n 129 .mov [.t 128], .w 130 .mov [.t 7] 129 true, .w 131 (.bin .eql) [.t 130, .i 0] 129 true, .n 132 .pick [.t 129, .t 131, .c (.bool false)], .n 133 .mov [.t 132], .w 134 .mov [.t 13] 133 true, .w 135 (.bin .eql) [.t 134, .i 0] 133 true, .n 136 .pick [.t 133, .t 135, .c (.bool false)], .n 137 .mov [.t 136], .w 138 .mov [.t 15] 137 true, .w 139 (.bin .eql) [.t 138, .i 0] 137 true, .n 140 .pick [.t 137, .t 139, .c (.bool false)], .n 141 .mov [.t 140], .w 142 .mov [.t 17] 141 true, .w 143 (.bin .eql) [.t 142, .i 0] 141 true, .n 144 .pick [.t 141, .t 143, .c (.bool false)], .n 145 .mov [.t 144], .w 146 .mov [.t 8] 145 true, ⟨(some 147), .bin .eql, [.t 146, .c (.str ⟨#[46, 49, 46, 10, 46, 46, 46, 10]⟩)], (some (145, true))⟩, .n 148 .pick [.t 145, .t 147, .c (.bool false)], .n 149 .mov [.t 148], .w 150 .mov [.t 9] 149 true, .w 151 (.len false) [.t 150] 149 true, .w 152 (.bin .eql) [.t 151, .i 6] 149 true, .n 153 .pick [.t 149, .t 152, .c (.bool false)], .n 154 .mov [.t 153], .w 155 .mov [.t 9] 154 true, .w 156 (.iaddrS 3) [.t 155, .i 5] 154 true, .w 157 (.load 3 true) [.t 156] 154 true, .w 158 (.build [(.int .i64 0), (.int .i64 0), (.int .i64 0)] [(0, 1), (1, 1), (2, 1)]) [.i 5, .i 1, .i 1] 154 true, .w 159 (.eqs false [0, 0, 0]) [.t 157, .t 158] 154 true, .n 160 .pick [.t 154, .t 159, .c (.bool false)], .n 161 .mov [.t 160], .w 162 .mov [.t 10] 161 true, .w 163 (.bin .eql) [.t 162, .i 0] 161 true, .n 164 .pick [.t 161, .t 163, .c (.bool false)], .n 165 .mov [.t 164], .w 166 .mov [.t 11] 165 true, .w 167 (.mkslice 1 3) [.i 3] 165 true, .w 168 (.call 60) [.t 166, .t 167] 165 true, .n 169 .pick [.t 165, .t 168, .c (.bool false)], .n 170 .mov [.t 169], .w 171 .mov [.t 12] 170 true, .w 172 (.bin .eql) [.t 171, .i 6] 170 true, .n 173 .pick [.t 170, .t 172, .c (.bool false)], .n 174 .mov [.t 173], .w 175 .mov [.t 14] 174 true, .w 176 (.bin .eql) [.t 175, .i 1] 174 true, .n 177 .pick [.t 174, .t 176, .c (.bool false)], .n 178 .mov [.t 177], .w 179 .mov [.t 16] 178 true, .w 180 (.bin .eql) [.t 179, .i 6] 178 true, .n 181 .pick [.t 178, .t 180, .c (.bool false)], .n 0 .mov [.t 181]])
   .ret))))))))))))
theorem chk.law07_works : chkF Tryz.prog 19 = some (182, ir.law07_works, [.tmp 0]) := by kernel_rfl

/-- paravane/bin.Fold -/
abbrev F.bin_Fold : Nat := 20
def ir.bin_Fold : IC :=
 (.seq (.reg [.n 2 .box [.t 0], .n 3 .box [.t 1], .n 4 .mov [.c .nils], .n 5 .mov [.c .nils], .n 6 .mov [.i 0]])
   (.seq (.reg [.n 11 (.load 6 true) [.t 2], .n 12 (.load 2 true) [.t 3], .n 13 (.call 50) [.t 11, .t 12], .n 10 .mov [.t 13], .n 14 (.extract 0) [.t 10], .n 15 (.extract 1) [.t 10], .n 7 (.alloc [(.int .i64 0), (.int .i64 0), (.int .i64 0), (.int .i64 0), (.int .i64 0), .nils, .nils, .nils]) [], .s (.store 8) [.t 7, .t 14], .n 6 .mov [.t 15]])
   (.seq (.seq (.reg [.n 16 .mov [.t 6], .n 17 (.bin .neq) [.t 16, .i 0]])
   (.cond (.t 17) (.seq (.reg [.n 18 .mov [.t 6], .n 4 .mov [.c .nils], .n 5 .mov [.c .nils], .n 6 .mov [.t 18]])
   .ret) .skip))
   (.seq (.draw [0, 1, 0, 4, 3, 31] [.n 19 (.load 8 true) [.t 7], .n 20 (.mkfunc (.func 61) 1) [.t 19], .n 21 (.load 8 true) [.t 7], .n 22 (.mkfunc (.func 51) 1) [.t 21], .n 8 .mov [.t 20], .n 9 .mov [.t 22]])
   (.seq (.draw [0, 0, 3, 0, 0, 31, 63, 127, 255] [.n 23 (.load 8 true) [.t 7], .n 24 .mov [.t 8], .n 25 (.call 62) [.t 23, .t 24], .n 26 (.load 8 true) [.t 7], .n 27 .mov [.t 9], .n 28 (.call 62) [.t 26, .t 27], .n 4 .mov [.t 25], .n 5 .mov [.t 28], .n 6 .mov [.i 0]])
   .ret)))))
theorem chk.bin_Fold : chkF Tryz.prog 20 = some (29, ir.bin_Fold, [.tmp 4, .tmp 5, .tmp 6]) := by kernel_rfl

/-- paravane/paravaneref07.Fold -/
abbrev F.ref07_Fold : Nat := 21
def ir.ref07_Fold : IC :=
 (.seq (.reg [.n 2 .box [.t 0], .n 3 .box [.t 1], .n 4 .mov [.c .nils], .n 5 .mov [.c .nils], .n 6 .mov [.i 0]])
   (.seq (.seq (.reg [.n 10 (.load 6 true) [.t 2], .n 11 (.load 2 true) [.t 3], .n 12 (.call 52) [.t 10, .t 11], .n 7 .mov [.t 12]])
   (.seq (.reg [.n 13 .mov [.t 7], .n 14 (.bin .neq) [.t 13, .i 0]])
   (.cond (.t 14) (.seq (.reg [.n 15 .mov [.t 7], .n 4 .mov [.c .nils], .n 5 .mov [.c .nils], .n 6 .mov [.t 15]])
   .ret) .skip)))
   (.seq (.reg [.n 17 (.load 6 true) [.t 2], .n 18 (.load 2 true) [.t 3], .n 19 (.call 63) [.t 17, .t 18], .n 16 .mov [.t 19], .n 20 (.extract 0) [.t 16], .n 21 (.extract 1) [.t 16], .n 8 .mov [.t 20], .n 9 .mov [.t 21]])
   (.seq (.reg [.n 22 .mov [.t 8], .n 23 .mov [.t 9], .n 4 .mov [.t 22], .n 5 .mov [.t 23], .n 6 .mov [.i 0]])
   .ret))))
theorem chk.ref07_Fold : chkF Tryz.prog 21 = some (24, ir.ref07_Fold, [.tmp 4, .tmp 5, .tmp 6]) := by kernel_rfl

/-- paravane/paravaneref00.AlikeLists -/
abbrev F.ref00_AlikeLists : Nat := 22
def ir.ref00_AlikeLists : IC :=
 (.seq (.reg [.n 4 .mov [.c (.bool false)]])
   (.seq (.seq (.reg [.n 6 .mov [.t 0], .n 7 (.len false) [.t 6], .n 8 .mov [.t 1], .n 9 (.len false) [.t 8], .n 10 (.bin .neq) [.t 7, .t 9]])
   (.cond (.t 10) (.seq (.reg [.n 4 .mov [.c (.bool false)]])
   .ret) .skip))
   (.seq (.seq (.reg [.n 5 .mov [.i 0]])
   (.block 0 (.loop (.seq (.seq (.reg [.n 11 .mov [.t 5], .n 12 .mov [.t 0], .n 13 (.len false) [.t 12], .n 14 (.bin .lss) [.t 11, .t 13]])
   (.cond (.t 14) .skip (.exit 0)))
   (.seq (.block 1 (.seq (.draw [0, 0, 3, 7, 0, 0, 48, 112, 255, 511] [.n 17 .mov [.t 0], .n 18 .mov [.t 5], .n 19 (.iaddrS 1) [.t 17, .t 18], .n 20 (.load 1 false) [.t 19], .n 21 .mov [.t 1], .n 22 .mov [.t 5], .n 23 (.iaddrS 1) [.t 21, .t 22], .n 24 (.load 1 false) [.t 23], .n 25 (.call 60) [.t 20, .t 24], .n 26 (.un .not) [.t 25]])
   (.cond (.t 26) (.seq (.reg [.n 4 .mov [.c (.bool false)]])
   .ret) .skip)))
   (.reg [.n 15 .mov [.t 5], .n 16 (.bin .add) [.t 15, .i 1], .n 5 .mov [.t 16]]))))))
   (.seq (.reg [.n 4 .mov [.c (.bool true)]])
   .ret))))
theorem chk.ref00_AlikeLists : chkF Tryz.prog 22 = some (27, ir.ref00_AlikeLists, [.tmp 4]) := by kernel_rfl

/-- paravane/bin.Lacks -/
abbrev F.bin_Lacks : Nat := 23
def ir.bin_Lacks : IC :=
 (.seq (.reg [.n 3 .box [.t 0], .n 4 .box [.t 1], .n 6 .mov [.c .nils], .n 7 .mov [.i 0]])
   (.seq (.reg [.n 11 (.load 6 true) [.t 3], .n 12 (.load 2 true) [.t 4], .n 13 (.call 50) [.t 11, .t 12], .n 10 .mov [.t 13], .n 14 (.extract 0) [.t 10], .n 15 (.extract 1) [.t 10], .n 8 (.alloc [(.int .i64 0), (.int .i64 0), (.int .i64 0), (.int .i64 0), (.int .i64 0), .nils, .nils, .nils]) [], .s (.store 8) [.t 8, .t 14], .n 9 .mov [.t 15]])
   (.seq (.seq (.reg [.n 16 .mov [.t 9], .n 17 (.bin .neq) [.t 16, .i 0]])
   (.cond (.t 17) (.seq (.reg [.n 18 .mov [.t 9], .n 6 .mov [.c .nils], .n 7 .mov [.t 18]])
   .ret) .skip))
   (.seq (.seq (.reg [.n 19 (.load 6 true) [.t 3], .n 20 .mov [.t 2], .n 21 (.call 64) [.t 19, .t 20], .n 22 (.un .not) [.t 21]])
   (.cond (.t 22) (.seq (.reg [.n 6 .mov [.c .nils], .n 7 .mov [.i 73]])
   .ret) .skip))
   (.seq (.reg [.n 23 (.load 8 true) [.t 8], .n 24 .mov [.t 2], .n 25 (.call 65) [.t 23, .t 24], .n 6 .mov [.t 25], .n 7 .mov [.i 0]])
   .ret)))))
theorem chk.bin_Lacks : chkF Tryz.prog 23 = some (26, ir.bin_Lacks, [.tmp 6, .tmp 7]) := by kernel_rfl

/-- paravane/paravaneref07.Lacks -/
abbrev F.ref07_Lacks : Nat := 24
def ir.ref07_Lacks : IC :=
 (.seq (.reg [.n 3 .box [.t 0], .n 4 .box [.t 1], .n 6 .mov [.c .nils], .n 7 .mov [.i 0]])
   (.seq (.seq (.reg [.n 9 (.load 6 true) [.t 3], .n 10 (.load 2 true) [.t 4], .n 11 (.call 52) [.t 9, .t 10], .n 8 .mov [.t 11]])
   (.seq (.reg [.n 12 .mov [.t 8], .n 13 (.bin .neq) [.t 12, .i 0]])
   (.cond (.t 13) (.seq (.reg [.n 14 .mov [.t 8], .n 6 .mov [.c .nils], .n 7 .mov [.t 14]])
   .ret) .skip)))
   (.seq (.seq (.reg [.n 15 (.load 6 true) [.t 3], .n 16 .mov [.t 2], .n 17 (.call 66) [.t 15, .t 16], .n 18 (.un .not) [.t 17]])
   (.cond (.t 18) (.seq (.reg [.n 6 .mov [.c .nils], .n 7 .mov [.i 73]])
   .ret) .skip))
   (.seq (.reg [.n 19 (.load 6 true) [.t 3], .n 20 (.load 2 true) [.t 4], .n 21 .mov [.t 2], .n 22 (.call 67) [.t 19, .t 20, .t 21], .n 6 .mov [.t 22], .n 7 .mov [.i 0]])
   .ret))))
theorem chk.ref07_Lacks : chkF Tryz.prog 24 = some (23, ir.ref07_Lacks, [.tmp 6, .tmp 7]) := by kernel_rfl

/-- paravane/paravanelaw07.lacks -/
abbrev F.law07_lacks : Nat := 25
def ir.law07_lacks : IC :=
 (.seq (.reg [.n 4 .mov [.c (.bool false)]])
   (.seq (.seq (.reg [.n 6 .mov [.t 0], .n 7 (.len false) [.t 6], .n 8 .mov [.t 1], .n 9 (.len false) [.t 8], .n 10 (.bin .neq) [.t 7, .t 9]])
   (.cond (.t 10) (.seq (.reg [.n 4 .mov [.c (.bool false)]])
   .ret) .skip))
   (.seq (.seq (.reg [.n 5 .mov [.i 0]])
   (.block 0 (.loop (.seq (.seq (.reg [.n 11 .mov [.t 5], .n 12 .mov [.t 0], .n 13 (.len false) [.t 12], .n 14 (.bin .lss) [.t 11, .t 13]])
   (.cond (.t 14) .skip (.exit 0)))
   (.seq (.block 1 (.seq (.draw [0, 0, 3, 7, 0, 0, 48, 112, 255] [.n 17 .mov [.t 0], .n 18 .mov [.t 5], .n 19 (.iaddrS 3) [.t 17, .t 18], .n 20 (.load 3 true) [.t 19], .n 21 .mov [.t 1], .n 22 .mov [.t 5], .n 23 (.iaddrS 3) [.t 21, .t 22], .n 24 (.load 3 true) [.t 23], .n 25 (.eqs true [0, 0, 0]) [.t 20, .t 24]])
   (.cond (.t 25) (.seq (.reg [.n 4 .mov [.c (.bool false)]])
   .ret) .skip)))
   (.reg [.n 15 .mov [.t 5], .n 16 (.bin .add) [.t 15, .i 1], .n 5 .mov [.t 16]]))))))
   (.seq (.reg [.n 4 .mov [.c (.bool true)]])
   .ret))))
theorem chk.law07_lacks : chkF Tryz.prog 25 = some (26, ir.law07_lacks, [.tmp 4]) := by kernel_rfl

/-- paravane/bin.Gain -/
abbrev F.bin_Gain : Nat := 26
def ir.bin_Gain : IC :=
 (.seq (.reg [.n 3 .box [.t 0], .n 4 .box [.t 1], .n 6 .mov [.i 0], .n 7 .mov [.i 0]])
   (.seq (.reg [.n 17 (.load 6 true) [.t 3], .n 18 (.load 2 true) [.t 4], .n 19 (.call 50) [.t 17, .t 18], .n 16 .mov [.t 19], .n 20 (.extract 0) [.t 16], .n 21 (.extract 1) [.t 16], .n 8 (.alloc [(.int .i64 0), (.int .i64 0), (.int .i64 0), (.int .i64 0), (.int .i64 0), .nils, .nils, .nils]) [], .s (.store 8) [.t 8, .t 20], .n 9 .mov [.t 21]])
   (.seq (.seq (.reg [.n 22 .mov [.t 9], .n 23 (.bin .neq) [.t 22, .i 0]])
   (.cond (.t 23) (.seq (.reg [.n 24 .mov [.t 9], .n 6 .mov [.i 0], .n 7 .mov [.t 24]])
   .ret) .skip))
   (.seq (.seq (.reg [.n 25 .mov [.t 2], .n 26 (.faddr 0) [.t 4], .n 27 (.load 1 false) [.t 26], .n 28 (.len false) [.t 27], .n 29 (.bin .sub) [.t 28, .i 1], .n 30 (.call 44) [.t 25, .i 0, .t 29], .n 31 (.un .not) [.t 30]])
   (.cond (.t 31) (.seq (.reg [.n 6 .mov [.i 0], .n 7 .mov [.i 72]])
   .ret) .skip))
   (.seq (.reg [.n 32 (.load 8 true) [.t 8], .n 33 (.call 68) [.t 32], .n 10 .mov [.t 33]])
   (.seq (.reg [.n 11 .mov [.i (-1)]])
   (.seq (.seq (.reg [.n 34 (.faddr 7) [.t 8], .n 35 (.load 1 false) [.t 34], .n 36 .mov [.t 2], .n 37 (.iaddrS 1) [.t 35, .t 36], .n 38 (.load 1 false) [.t 37], .n 39 (.len false) [.t 38], .n 40 .mov [.i 0]])
   (.block 0 (.loop (.seq (.reg [.n 41 (.bin .lss) [.t 40, .t 39]])
   (.seq (.cond (.t 41) .skip (.exit 0))
   (.seq (.block 1 (.seq (.reg [.n 42 (.iaddrS 2) [.t 38, .t 40], .n 43 (.load 2 true) [.t 42], .n 13 (.alloc [(.int .i64 0), (.int .i64 0)]) [], .s (.store 2) [.t 13, .t 43]])
   (.seq (.reg [.n 44 (.load 8 true) [.t 8], .n 14 (.alloc [(.int .i64 0), (.int .i64 0), (.int .i64 0), (.int .i64 0), (.int .i64 0), .nils, .nils, .nils]) [], .s (.store 8) [.t 14, .t 44]])
   (.seq (.reg [.n 45 (.faddr 7) [.t 8], .n 46 (.load 1 false) [.t 45], .n 47 (.call 69) [.t 46], .n 48 (.faddr 7) [.t 14], .s (.store 1) [.t 48, .t 47]])
   (.seq (.reg [.n 49 (.faddr 7) [.t 14], .n 50 (.load 1 false) [.t 49], .n 51 .mov [.t 2], .n 52 (.load 2 true) [.t 13], .n 53 (.mkslice 2 23) [.t 52], .n 54 (.iaddrS 1) [.t 50, .t 51], .s (.store 1) [.t 54, .t 53]])
   (.seq (.reg [.n 55 (.load 8 true) [.t 14], .n 56 (.call 68) [.t 55], .n 15 .mov [.t 56]])
   (.seq (.reg [.n 57 .mov [.t 11], .n 58 (.bin .lss) [.t 57, .i 0], .n 59 .mov [.t 58], .w 60 .mov [.t 15] 59 false, .w 61 .mov [.t 11] 59 false, .w 62 (.bin .lss) [.t 60, .t 61] 59 false, .n 63 .pick [.t 59, .c (.bool true), .t 62]])
   (.cond (.t 63) (.reg [.n 64 .mov [.t 15], .n 11 .mov [.t 64]]) .skip))))))))
   (.reg [.n 65 (.bin .add) [.t 40, .i 1], .n 40 .mov [.t 65]])))))))
   (.seq (.reg [.n 66 .mov [.t 11], .n 67 .mov [.t 10], .n 68 (.bin .sub) [.t 66, .t 67], .n 6 .mov [.t 68], .n 7 .mov [.i 0]])
   .ret))))))))
theorem chk.bin_Gain : chkF Tryz.prog 26 = some (69, ir.bin_Gain, [.tmp 6, .tmp 7]) := by kernel_rfl

/-- paravane/paravaneref07.Gain -/
abbrev F.ref07_Gain : Nat := 27
def ir.ref07_Gain : IC :=
 (.seq (.reg [.n 3 .box [.t 0], .n 4 .box [.t 1], .n 6 .mov [.i 0], .n 7 .mov [.i 0]])
   (.seq (.seq (.reg [.n 14 (.load 6 true) [.t 3], .n 15 (.load 2 true) [.t 4], .n 16 (.call 52) [.t 14, .t 15], .n 8 .mov [.t 16]])
   (.seq (.reg [.n 17 .mov [.t 8], .n 18 (.bin .neq) [.t 17, .i 0]])
   (.cond (.t 18) (.seq (.reg [.n 19 .mov [.t 8], .n 6 .mov [.i 0], .n 7 .mov [.t 19]])
   .ret) .skip)))
   (.seq (.seq (.reg [.n 20 .mov [.t 2], .n 21 (.faddr 0) [.t 4], .n 22 (.load 1 false) [.t 21], .n 23 (.len false) [.t 22], .n 24 (.bin .sub) [.t 23, .i 1], .n 25 (.call 39) [.t 20, .i 0, .t 24], .n 26 (.un .not) [.t 25]])
   (.cond (.t 26) (.seq (.reg [.n 6 .mov [.i 0], .n 7 .mov [.i 72]])
   .ret) .skip))
   (.seq (.reg [.n 27 (.load 2 true) [.t 4], .n 28 (.call 70) [.t 27], .n 9 .mov [.t 28]])
   (.seq (.reg [.n 29 (.faddr 1) [.t 4], .n 30 (.load 1 false) [.t 29], .n 31 (.len false) [.t 30], .n 10 .mov [.t 31]])
   (.seq (.reg [.n 32 .mov [.t 9], .n 33 .mov [.t 2], .n 34 (.iaddrS 1) [.t 32, .t 33], .n 35 (.load 1 false) [.t 34], .n 11 .mov [.t 35]])
   (.seq (.reg [.n 36 (.load 6 true) [.t 3], .n 37 (.faddr 1) [.t 4], .n 38 (.load 1 false) [.t 37], .n 39 .mov [.t 9], .n 40 (.call 72) [.t 36, .t 38, .t 39], .n 41 (.call 71) [.t 40], .n 12 .mov [.t 41]])
   (.seq (.seq (.reg [.n 13 .mov [.i 0]])
   (.block 0 (.loop (.seq (.seq (.reg [.n 42 .mov [.t 13], .n 43 .mov [.t 11], .n 44 (.len false) [.t 43], .n 45 (.bin .lss) [.t 42, .t 44]])
   (.cond (.t 45) .skip (.exit 0)))
   (.seq (.block 1 (.seq (.reg [.n 48 .mov [.t 9], .n 49 .mov [.t 2], .n 50 .mov [.t 11], .n 51 .mov [.t 13], .n 52 .mov [.t 13], .n 53 (.bin .add) [.t 52, .i 1], .n 54 (.slx 2 true true) [.t 50, .t 51, .t 53], .n 55 (.iaddrS 1) [.t 48, .t 49], .s (.store 1) [.t 55, .t 54]])
   (.reg [.n 56 .mov [.t 10], .n 57 (.load 6 true) [.t 3], .n 58 (.faddr 1) [.t 4], .n 59 (.load 1 false) [.t 58], .n 60 .mov [.t 9], .n 61 (.call 72) [.t 57, .t 59, .t 60], .n 62 (.call 71) [.t 61], .n 63 (.minmax false) [.t 56, .t 62], .n 10 .mov [.t 63]])))
   (.reg [.n 46 .mov [.t 13], .n 47 (.bin .add) [.t 46, .i 1], .n 13 .mov [.t 47]]))))))
   (.seq (.reg [.n 64 .mov [.t 10], .n 65 .mov [.t 12], .n 66 (.bin .sub) [.t 64, .t 65], .n 6 .mov [.t 66], .n 7 .mov [.i 0]])
   .ret)))))))))
theorem chk.ref07_Gain : chkF Tryz.prog 27 = some (67, ir.ref07_Gain, [.tmp 6, .tmp 7]) := by kernel_rfl

/-- paravane/bin.Bound -/
abbrev F.bin_Bound : Nat := 31
def ir.bin_Bound : IC :=
 (.seq (.reg [.n 2 .box [.t 0], .n 3 .box [.t 1], .n 4 .mov [.i 0], .n 5 .mov [.i 0]])
   (.seq (.seq (.reg [.n 12 (.load 2 true) [.t 2], .n 13 (.call 73) [.t 12], .n 6 .mov [.t 13]])
   (.seq (.reg [.n 14 .mov [.t 6], .n 15 (.bin .neq) [.t 14, .i 0]])
   (.cond (.t 15) (.seq (.reg [.n 16 .mov [.t 6], .n 4 .mov [.i 0], .n 5 .mov [.t 16]])
   .ret) .skip)))
   (.seq (.seq (.reg [.n 17 (.load 1 false) [.t 3], .n 18 (.len false) [.t 17], .n 19 (.bin .gtr) [.t 18, .i 2048]])
   (.cond (.t 19) (.seq (.reg [.n 4 .mov [.i 0], .n 5 .mov [.i 76]])
   .ret) .skip))
   (.seq (.reg [.n 7 (.alloc [(.int .i64 0)]) [], .n 8 (.alloc [(.bool false)]) [], .n 9 (.alloc [(.bool false)]) [], .n 10 (.alloc [(.int .i64 0)]) [], .s (.store 1) [.t 7, .i 0], .s (.store 1) [.t 8, .c (.bool false)], .s (.store 1) [.t 9, .c (.bool true)], .s (.store 1) [.t 10, .i 0]])
   (.seq (.reg [.n 11 (.alloc [.nilf]) []])
   (.seq (.reg [.n 20 (.mkfunc (.func 79) 0) [.t 9, .t 10, .t 3, .t 2, .t 11, .t 8, .t 7], .s (.store 1) [.t 11, .t 20]])
   (.seq (.reg [.n 21 (.load 1 false) [.t 11], .n 22 .callv [.t 21, .i 0, .i 0]])
   (.seq (.seq (.reg [.n 23 (.load 1 false) [.t 9], .n 24 (.un .not) [.t 23], .n 25 .mov [.t 24], .w 26 (.load 1 false) [.t 10] 25 false, .w 27 (.load 1 false) [.t 3] 25 false, .w 28 (.len false) [.t 27] 25 false, .w 29 (.bin .neq) [.t 26, .t 28] 25 false, .n 30 .pick [.t 25, .c (.bool true), .t 29]])
   (.cond (.t 30) (.seq (.reg [.n 4 .mov [.i 0], .n 5 .mov [.i 76]])
   .ret) .skip))
   (.seq (.reg [.n 31 (.load 1 false) [.t 7], .n 4 .mov [.t 31], .n 5 .mov [.i 0]])
   .ret)))))))))
theorem chk.bin_Bound : chkF Tryz.prog 31 = some (32, ir.bin_Bound, [.tmp 4, .tmp 5]) := by kernel_rfl

/-- paravane/paravaneref00.Between -/
abbrev F.ref00_Between : Nat := 39
def ir.ref00_Between : IC :=
 (.seq (.reg [.n 6 .mov [.c (.bool false)]])
   (.seq (.reg [.n 7 .mov [.t 0], .n 8 .mov [.t 1], .n 9 (.bin .geq) [.t 7, .t 8], .n 10 .mov [.t 9], .w 11 .mov [.t 0] 10 true, .w 12 .mov [.t 2] 10 true, .w 13 (.bin .leq) [.t 11, .t 12] 10 true, .n 14 .pick [.t 10, .t 13, .c (.bool false)], .n 6 .mov [.t 14]])
   .ret))
theorem chk.ref00_Between : chkF Tryz.prog 39 = some (15, ir.ref00_Between, [.tmp 6]) := by kernel_rfl

/-- paravane/bin.Best -/
abbrev F.bin_Best : Nat := 40
def ir.bin_Best : IC :=
 (.seq (.reg [.n 1 .box [.t 0], .n 2 .mov [.c .nils], .n 3 .mov [.i 0], .n 4 .mov [.i 0]])
   (.seq (.seq (.reg [.n 8 (.load 2 true) [.t 1], .n 9 (.call 73) [.t 8], .n 5 .mov [.t 9]])
   (.seq (.reg [.n 10 .mov [.t 5], .n 11 (.bin .neq) [.t 10, .i 0]])
   (.cond (.t 11) (.seq (.reg [.n 12 .mov [.t 5], .n 2 .mov [.c .nils], .n 3 .mov [.i 0], .n 4 .mov [.t 12]])
   .ret) .skip)))
   (.seq (.reg [.n 14 (.load 2 true) [.t 1], .n 15 (.call 90) [.t 14, .i 0], .n 13 .mov [.t 15], .n 16 (.extract 0) [.t 13], .n 17 (.extract 1) [.t 13], .n 6 .mov [.t 16], .n 7 .mov [.t 17]])
   (.seq (.seq (.reg [.n 18 .mov [.t 7], .n 19 (.un .not) [.t 18]])
   (.cond (.t 19) (.seq (.reg [.n 2 .mov [.c .nils], .n 3 .mov [.i 0], .n 4 .mov [.i 4]])
   .ret) .skip))
   (.seq (.draw [0, 1, 0, 0, 15, 31, 63, 127] [.n 20 .mov [.t 6], .n 21 (.call 91) [.t 20], .n 22 (.load 2 true) [.t 1], .n 23 .mov [.t 6], .n 24 (.call 92) [.t 22, .t 23], .n 2 .mov [.t 21], .n 3 .mov [.t 24], .n 4 .mov [.i 0]])
   .ret)))))
theorem chk.bin_Best : chkF Tryz.prog 40 = some (25, ir.bin_Best, [.tmp 2, .tmp 3, .tmp 4]) := by kernel_rfl

/-- paravane/region.CheckPoint -/
abbrev F.region_CheckPoint : Nat := 43
def ir.region_CheckPoint : IC :=
 (.seq (.reg [.n 1 .box [.t 0], .n 2 .mov [.i 0]])
   (.seq (.seq (.reg [.n 5 (.faddr 0) [.t 1], .n 6 (.load 1 false) [.t 5], .n 7 (.faddr 1) [.t 1], .n 8 (.load 1 false) [.t 7], .n 9 (.build [(.int .i64 0), (.int .i64 0)] [(0, 1), (1, 1)]) [.t 6, .t 8], .n 10 .mov [.i 0]])
   (.block 0 (.loop (.seq (.reg [.n 11 (.bin .lss) [.t 10, .i 2]])
   (.seq (.cond (.t 11) .skip (.exit 0))
   (.seq (.block 1 (.seq (.reg [.n 12 (.idxA 2 1 false) [.t 9, .t 10], .n 4 .mov [.t 12]])
   (.seq (.reg [.n 13 .mov [.t 4], .n 14 (.call 93) [.i 32768, .t 13], .n 15 .mov [.t 4], .n 16 (.bin .neq) [.t 14, .t 15]])
   (.cond (.t 16) (.seq (.reg [.n 2 .mov [.i 10]])
   .ret) .skip))))
   (.reg [.n 17 (.bin .add) [.t 10, .i 1], .n 10 .mov [.t 17]])))))))
   (.seq (.reg [.n 2 .mov [.i 0]])
   .ret)))
theorem chk.region_CheckPoint : chkF Tryz.prog 43 = some (18, ir.region_CheckPoint, [.tmp 2]) := by kernel_rfl

/-- paravane/bin.within -/
abbrev F.bin_within : Nat := 44
def ir.bin_within : IC :=
 (.seq (.reg [.n 6 .mov [.c (.bool false)]])
   (.seq (.reg [.n 7 .mov [.t 0], .n 8 .mov [.t 1], .n 9 (.bin .geq) [.t 7, .t 8], .n 10 .mov [.t 9], .w 11 .mov [.t 0] 10 true, .w 12 .mov [.t 2] 10 true, .w 13 (.bin .leq) [.t 11, .t 12] 10 true, .n 14 .pick [.t 10, .t 13, .c (.bool false)], .n 6 .mov [.t 14]])
   .ret))
theorem chk.bin_within : chkF Tryz.prog 44 = some (15, ir.bin_within, [.tmp 6]) := by kernel_rfl

/-- paravane/paravaneref01.CheckPoint -/
abbrev F.ref01_CheckPoint : Nat := 45
def ir.ref01_CheckPoint : IC :=
 (.seq (.reg [.n 1 .box [.t 0], .n 2 .mov [.i 0]])
   (.seq (.seq (.reg [.n 3 (.load 2 true) [.t 1], .n 4 (.call 94) [.t 3], .n 5 (.un .not) [.t 4]])
   (.cond (.t 5) (.seq (.reg [.n 2 .mov [.i 10]])
   .ret) .skip))
   (.seq (.reg [.n 2 .mov [.i 0]])
   .ret)))
theorem chk.ref01_CheckPoint : chkF Tryz.prog 45 = some (6, ir.ref01_CheckPoint, [.tmp 2]) := by kernel_rfl

/-- paravane/region.Count -/
abbrev F.region_Count : Nat := 46
def ir.region_Count : IC :=
 (.seq (.reg [.n 1 .box [.t 0], .n 2 .mov [.i 0], .n 3 .mov [.i 0]])
   (.seq (.seq (.reg [.n 7 (.load 8 true) [.t 1], .n 8 (.call 95) [.t 7], .n 4 .mov [.t 8]])
   (.seq (.reg [.n 9 .mov [.t 4], .n 10 (.bin .neq) [.t 9, .i 0]])
   (.cond (.t 10) (.seq (.reg [.n 11 .mov [.t 4], .n 2 .mov [.i 0], .n 3 .mov [.t 11]])
   .ret) .skip)))
   (.seq (.reg [.n 5 (.alloc [(.int .i64 0)]) [], .s (.store 1) [.t 5, .i 0]])
   (.seq (.seq (.reg [.n 12 (.load 8 true) [.t 1], .n 13 (.call 96) [.t 12], .n 14 (.call 97) [.t 13]])
   (.block 0 (.range (.t 14) [15] (.reg [.n 6 (.alloc [(.int .i64 0), (.int .i64 0), (.int .i64 0)]) [], .s (.store 3) [.t 6, .t 15]]) (.block 1 (.reg [.n 16 (.load 1 false) [.t 5], .n 17 (.faddr 2) [.t 6], .n 18 (.load 1 false) [.t 17], .n 19 (.faddr 1) [.t 6], .n 20 (.load 1 false) [.t 19], .n 21 (.bin .sub) [.t 18, .t 20], .n 22 (.bin .add) [.t 21, .i 1], .n 23 (.bin .add) [.t 16, .t 22], .s (.store 1) [.t 5, .t 23]])))))
   (.seq (.reg [.n 24 (.load 1 false) [.t 5], .n 2 .mov [.t 24], .n 3 .mov [.i 0]])
   .ret)))))
theorem chk.region_Count : chkF Tryz.prog 46 = some (25, ir.region_Count, [.tmp 2, .tmp 3]) := by kernel_rfl

/-- paravane/paravaneref01.Count -/
abbrev F.ref01_Count : Nat := 47
def ir.ref01_Count : IC :=
 (.seq (.reg [.n 1 .box [.t 0], .n 2 .mov [.i 0], .n 3 .mov [.i 0]])
   (.seq (.seq (.reg [.n 8 (.load 8 true) [.t 1], .n 9 (.call 98) [.t 8], .n 4 .mov [.t 9]])
   (.seq (.reg [.n 10 .mov [.t 4], .n 11 (.bin .neq) [.t 10, .i 0]])
   (.cond (.t 11) (.seq (.reg [.n 12 .mov [.t 4], .n 2 .mov [.i 0], .n 3 .mov [.t 12]])
   .ret) .skip)))
   (.seq (.reg [.n 5 .mov [.i 0]])
   (.seq (.seq (.reg [.n 13 (.faddr 0) [.t 1], .n 14 (.faddr 0) [.t 13], .n 15 (.load 1 false) [.t 14], .n 6 .mov [.t 15]])
   (.block 0 (.loop (.seq (.seq (.reg [.n 16 .mov [.t 6], .n 17 (.faddr 0) [.t 1], .n 18 (.faddr 1) [.t 17], .n 19 (.load 1 false) [.t 18], .n 20 (.bin .leq) [.t 16, .t 19]])
   (.cond (.t 20) .skip (.exit 0)))
   (.seq (.block 1 (.seq (.reg [.n 23 (.load 8 true) [.t 1], .n 24 .mov [.t 6], .n 25 (.call 99) [.t 23, .t 24], .n 7 (.alloc [(.int .i64 0), (.int .i64 0), (.int .i64 0)]) [], .s (.store 3) [.t 7, .t 25]])
   (.reg [.n 26 .mov [.t 5], .n 27 (.faddr 2) [.t 7], .n 28 (.load 1 false) [.t 27], .n 29 (.faddr 1) [.t 7], .n 30 (.load 1 false) [.t 29], .n 31 (.bin .sub) [.t 28, .t 30], .n 32 (.bin .add) [.t 31, .i 1], .n 33 (.minmax true) [.i 0, .t 32], .n 34 (.bin .add) [.t 26, .t 33], .n 5 .mov [.t 34]])))
   (.reg [.n 21 .mov [.t 6], .n 22 (.bin .add) [.t 21, .i 1], .n 6 .mov [.t 22]]))))))
   (.seq (.reg [.n 35 .mov [.t 5], .n 2 .mov [.t 35], .n 3 .mov [.i 0]])
   .ret)))))
theorem chk.ref01_Count : chkF Tryz.prog 47 = some (36, ir.ref01_Count, [.tmp 2, .tmp 3]) := by kernel_rfl

/-- paravane/bin.cell -/
abbrev F.bin_cell : Nat := 48
def ir.bin_cell : IC :=
 (.seq (.reg [.n 3 .box [.t 0], .n 4 .box [.t 1], .n 5 .box [.t 2], .n 6 (.alloc [(.int .i64 0), (.int .i64 0)]) []])
   (.seq (.draw [0, 1, 0, 4, 15, 0, 32, 96, 224, 511, 0, 1024, 3072, 8191, 0, 16384, 0, 65536, 245760, 0, 524288, 1572864, 3670016, 8372224, 0, 16777216, 50331648, 134217727, 268435455, 536870911] [.n 13 (.faddr 0) [.t 4], .n 14 (.load 1 false) [.t 13], .n 15 (.faddr 0) [.t 5], .n 16 (.load 1 false) [.t 15], .n 17 (.bin .add) [.t 14, .t 16], .n 18 (.faddr 0) [.t 3], .n 19 (.faddr 0) [.t 18], .n 20 (.load 1 false) [.t 19], .n 21 (.bin .mul) [.i 2, .t 20], .n 22 (.bin .sub) [.t 17, .t 21], .n 23 (.faddr 2) [.t 3], .n 24 (.load 1 false) [.t 23], .n 25 (.bin .mul) [.i 2, .t 24], .n 26 (.call 100) [.t 22, .t 25], .n 27 (.faddr 1) [.t 4], .n 28 (.load 1 false) [.t 27], .n 29 (.faddr 1) [.t 5], .n 30 (.load 1 false) [.t 29], .n 31 (.bin .add) [.t 28, .t 30], .n 32 (.faddr 0) [.t 3], .n 33 (.faddr 1) [.t 32], .n 34 (.load 1 false) [.t 33], .n 35 (.bin .mul) [.i 2, .t 34], .n 36 (.bin .sub) [.t 31, .t 35], .n 37 (.faddr 2) [.t 3], .n 38 (.load 1 false) [.t 37], .n 39 (.bin .mul) [.i 2, .t 38], .n 40 (.call 100) [.t 36, .t 39], .n 7 .mov [.t 26], .n 8 .mov [.t 40]])
   (.seq (.seq (.reg [.n 41 .mov [.t 7], .n 42 (.faddr 3) [.t 3], .n 43 (.load 1 false) [.t 42], .n 44 (.bin .sub) [.t 43, .i 1], .n 45 (.call 44) [.t 41, .i 0, .t 44], .n 46 (.un .not) [.t 45], .n 47 .mov [.t 46], .w 48 .mov [.t 8] 47 false, .w 49 (.faddr 4) [.t 3] 47 false, .w 50 (.load 1 false) [.t 49] 47 false, .w 51 (.bin .sub) [.t 50, .i 1] 47 false, .w 52 (.call 44) [.t 48, .i 0, .t 51] 47 false, .w 53 (.un .not) [.t 52] 47 false, .n 54 .pick [.t 47, .c (.bool true), .t 53]])
   (.cond (.t 54) (.seq (.reg [.n 55 (.load 2 true) [.c (.rptr 0 0)], .s (.store 2) [.t 6, .t 55]])
   .ret) .skip))
   (.seq (.draw [0, 1, 0, 4, 15, 0, 32, 0, 128, 480, 31, 2047] [.n 56 (.faddr 0) [.t 4], .n 57 (.load 1 false) [.t 56], .n 58 (.faddr 0) [.t 5], .n 59 (.load 1 false) [.t 58], .n 60 (.bin .sub) [.t 57, .t 59], .n 61 (.faddr 1) [.t 4], .n 62 (.load 1 false) [.t 61], .n 63 (.faddr 1) [.t 5], .n 64 (.load 1 false) [.t 63], .n 65 (.bin .sub) [.t 62, .t 64], .n 9 .mov [.t 60], .n 10 .mov [.t 65]])
   (.seq (.seq (.reg [.n 66 (.faddr 5) [.t 3], .n 67 (.load 1 false) [.t 66], .n 68 (.len false) [.t 67], .n 69 .mov [.i 0]])
   (.block 0 (.loop (.seq (.reg [.n 70 (.bin .lss) [.t 69, .t 68]])
   (.seq (.cond (.t 70) .skip (.exit 0))
   (.seq (.block 1 (.seq (.reg [.n 71 .mov [.t 69], .n 72 (.iaddrS 2) [.t 67, .t 69], .n 73 (.load 2 true) [.t 72], .n 12 (.alloc [(.int .i64 0), (.int .i64 0)]) [], .n 11 .mov [.t 71], .s (.store 2) [.t 12, .t 73]])
   (.seq (.reg [.n 74 .mov [.t 9], .n 75 .mov [.t 9], .n 76 (.bin .mul) [.t 74, .t 75], .n 77 .mov [.t 10], .n 78 .mov [.t 10], .n 79 (.bin .mul) [.t 77, .t 78], .n 80 (.bin .add) [.t 76, .t 79], .n 81 (.faddr 0) [.t 12], .n 82 (.load 1 false) [.t 81], .n 83 (.faddr 1) [.t 12], .n 84 (.load 1 false) [.t 83], .n 85 (.call 44) [.t 80, .t 82, .t 84]])
   (.cond (.t 85) (.seq (.reg [.n 86 .mov [.t 8], .n 87 (.faddr 3) [.t 3], .n 88 (.load 1 false) [.t 87], .n 89 (.bin .mul) [.t 86, .t 88], .n 90 .mov [.t 7], .n 91 (.bin .add) [.t 89, .t 90], .n 92 .mov [.t 11], .n 93 (.build [(.int .i64 0), (.int .i64 0)] [(0, 1), (1, 1)]) [.t 91, .t 92], .s (.store 2) [.t 6, .t 93]])
   .ret) .skip))))
   (.reg [.n 94 (.bin .add) [.t 69, .i 1], .n 69 .mov [.t 94]])))))))
   (.seq (.reg [.n 95 (.load 2 true) [.c (.rptr 0 0)], .s (.store 2) [.t 6, .t 95]])
   .ret))))))
theorem chk.bin_cell : chkF Tryz.prog 48 = some (96, ir.bin_cell, [.cell 6 39]) := by kernel_rfl

/-- paravane/paravaneref07.cell -/
abbrev F.ref07_cell : Nat := 49
def ir.ref07_cell : IC :=
 (.seq (.reg [.n 3 .box [.t 0], .n 4 .box [.t 1], .n 5 .box [.t 2], .n 6 (.alloc [(.int .i64 0), (.int .i64 0)]) []])
   (.seq (.draw [0, 1, 0, 4, 15, 0, 32, 96, 224, 511, 0, 1024, 3072, 8191, 0, 16384, 0, 65536, 245760, 0, 524288, 1572864, 3670016, 8372224, 0, 16777216, 50331648, 134217727, 268435455, 536870911] [.n 11 (.faddr 0) [.t 4], .n 12 (.load 1 false) [.t 11], .n 13 (.faddr 0) [.t 5], .n 14 (.load 1 false) [.t 13], .n 15 (.bin .add) [.t 12, .t 14], .n 16 (.faddr 0) [.t 3], .n 17 (.faddr 0) [.t 16], .n 18 (.load 1 false) [.t 17], .n 19 (.bin .mul) [.i 2, .t 18], .n 20 (.bin .sub) [.t 15, .t 19], .n 21 (.faddr 2) [.t 3], .n 22 (.load 1 false) [.t 21], .n 23 (.bin .mul) [.i 2, .t 22], .n 24 (.call 101) [.t 20, .t 23], .n 25 (.faddr 1) [.t 4], .n 26 (.load 1 false) [.t 25], .n 27 (.faddr 1) [.t 5], .n 28 (.load 1 false) [.t 27], .n 29 (.bin .add) [.t 26, .t 28], .n 30 (.faddr 0) [.t 3], .n 31 (.faddr 1) [.t 30], .n 32 (.load 1 false) [.t 31], .n 33 (.bin .mul) [.i 2, .t 32], .n 34 (.bin .sub) [.t 29, .t 33], .n 35 (.faddr 2) [.t 3], .n 36 (.load 1 false) [.t 35], .n 37 (.bin .mul) [.i 2, .t 36], .n 38 (.call 101) [.t 34, .t 37], .n 7 .mov [.t 24], .n 8 .mov [.t 38]])
   (.seq (.seq (.reg [.n 39 .mov [.t 7], .n 40 (.faddr 3) [.t 3], .n 41 (.load 1 false) [.t 40], .n 42 (.bin .sub) [.t 41, .i 1], .n 43 (.call 39) [.t 39, .i 0, .t 42], .n 44 (.un .not) [.t 43], .n 45 .mov [.t 44], .w 46 .mov [.t 8] 45 false, .w 47 (.faddr 4) [.t 3] 45 false, .w 48 (.load 1 false) [.t 47] 45 false, .w 49 (.bin .sub) [.t 48, .i 1] 45 false, .w 50 (.call 39) [.t 46, .i 0, .t 49] 45 false, .w 51 (.un .not) [.t 50] 45 false, .n 52 .pick [.t 45, .c (.bool true), .t 51]])
   (.cond (.t 52) (.seq (.reg [.n 53 (.call 102) [], .s (.store 2) [.t 6, .t 53]])
   .ret) .skip))
   (.seq (.reg [.n 54 (.faddr 0) [.t 4], .n 55 (.load 1 false) [.t 54], .n 56 (.faddr 0) [.t 5], .n 57 (.load 1 false) [.t 56], .n 58 (.bin .sub) [.t 55, .t 57], .n 59 (.faddr 0) [.t 4], .n 60 (.load 1 false) [.t 59], .n 61 (.faddr 0) [.t 5], .n 62 (.load 1 false) [.t 61], .n 63 (.bin .sub) [.t 60, .t 62], .n 64 (.bin .mul) [.t 58, .t 63], .n 65 (.faddr 1) [.t 4], .n 66 (.load 1 false) [.t 65], .n 67 (.faddr 1) [.t 5], .n 68 (.load 1 false) [.t 67], .n 69 (.bin .sub) [.t 66, .t 68], .n 70 (.faddr 1) [.t 4], .n 71 (.load 1 false) [.t 70], .n 72 (.faddr 1) [.t 5], .n 73 (.load 1 false) [.t 72], .n 74 (.bin .sub) [.t 71, .t 73], .n 75 (.bin .mul) [.t 69, .t 74], .n 76 (.bin .add) [.t 64, .t 75], .n 9 .mov [.t 76]])
   (.seq (.seq (.reg [.n 10 .mov [.i 0]])
   (.block 0 (.loop (.seq (.seq (.reg [.n 77 .mov [.t 10], .n 78 (.faddr 5) [.t 3], .n 79 (.load 1 false) [.t 78], .n 80 (.len false) [.t 79], .n 81 (.bin .lss) [.t 77, .t 80]])
   (.cond (.t 81) .skip (.exit 0)))
   (.seq (.block 1 (.seq (.draw [0, 0, 2, 0, 14, 30, 62, 0, 128, 0, 896, 1920, 3968, 8191] [.n 84 .mov [.t 9], .n 85 (.faddr 5) [.t 3], .n 86 (.load 1 false) [.t 85], .n 87 .mov [.t 10], .n 88 (.iaddrS 2) [.t 86, .t 87], .n 89 (.faddr 0) [.t 88], .n 90 (.load 1 false) [.t 89], .n 91 (.faddr 5) [.t 3], .n 92 (.load 1 false) [.t 91], .n 93 .mov [.t 10], .n 94 (.iaddrS 2) [.t 92, .t 93], .n 95 (.faddr 1) [.t 94], .n 96 (.load 1 false) [.t 95], .n 97 (.call 39) [.t 84, .t 90, .t 96]])
   (.cond (.t 97) (.seq (.reg [.n 98 .mov [.t 8], .n 99 (.faddr 3) [.t 3], .n 100 (.load 1 false) [.t 99], .n 101 (.bin .mul) [.t 98, .t 100], .n 102 .mov [.t 7], .n 103 (.bin .add) [.t 101, .t 102], .n 104 .mov [.t 10], .n 105 (.build [(.int .i64 0), (.int .i64 0)] [(0, 1), (1, 1)]) [.t 103, .t 104], .s (.store 2) [.t 6, .t 105]])
   .ret) .skip)))
   (.reg [.n 82 .mov [.t 10], .n 83 (.bin .add) [.t 82, .i 1], .n 10 .mov [.t 83]]))))))
   (.seq (.reg [.n 106 (.call 102) [], .s (.store 2) [.t 6, .t 106]])
   .ret))))))
theorem chk.ref07_cell : chkF Tryz.prog 49 = some (107, ir.ref07_cell, [.cell 6 39]) := by kernel_rfl

/-- paravane/bin.begun -/
abbrev F.bin_begun : Nat := 50
def ir.bin_begun : IC :=
 (.seq (.reg [.n 2 .box [.t 0], .n 3 .box [.t 1], .n 4 (.alloc [(.int .i64 0), (.int .i64 0), (.int .i64 0), (.int .i64 0), (.int .i64 0), .nils, .nils, .nils]) [], .n 5 .mov [.i 0]])
   (.seq (.seq (.reg [.n 8 (.load 6 true) [.t 2], .n 9 (.call 10) [.t 8], .n 6 .mov [.t 9]])
   (.seq (.reg [.n 10 .mov [.t 6], .n 11 (.bin .neq) [.t 10, .i 0]])
   (.cond (.t 11) (.seq (.reg [.n 12 (.build [(.int .i64 0), (.int .i64 0), (.int .i64 0), (.int .i64 0), (.int .i64 0), .nils, .nils, .nils] []) [], .n 13 .mov [.t 6], .s (.store 8) [.t 4, .t 12], .n 5 .mov [.t 13]])
   .ret) .skip)))
   (.seq (.seq (.reg [.n 14 (.load 2 true) [.t 3], .n 15 (.call 12) [.t 14], .n 7 .mov [.t 15]])
   (.seq (.reg [.n 16 .mov [.t 7], .n 17 (.bin .neq) [.t 16, .i 0]])
   (.cond (.t 17) (.seq (.reg [.n 18 (.build [(.int .i64 0), (.int .i64 0), (.int .i64 0), (.int .i64 0), (.int .i64 0), .nils, .nils, .nils] []) [], .n 19 .mov [.t 7], .s (.store 8) [.t 4, .t 18], .n 5 .mov [.t 19]])
   .ret) .skip)))
   (.seq (.reg [.n 20 (.load 6 true) [.t 2], .n 21 (.load 2 true) [.t 3], .n 22 (.call 83) [.t 20, .t 21], .s (.store 8) [.t 4, .t 22], .n 5 .mov [.i 0]])
   .ret))))
theorem chk.bin_begun : chkF Tryz.prog 50 = some (23, ir.bin_begun, [.cell 4 101, .tmp 5]) := by kernel_rfl

/-- (paravane/bin.laid).hits -/
abbrev F.bin_laid_hits : Nat := 51
def ir.bin_laid_hits : IC :=
 (.seq (.reg [.n 2 .box [.t 0], .n 4 .mov [.c .nils]])
   (.seq (.reg [.n 11 (.raw 0 173 0) [], .n 5 (.alloc [.nilm]) [], .s (.store 1) [.t 5, .t 11]])
   (.seq (.reg [.n 12 (.faddr 6) [.t 2], .n 13 (.load 1 false) [.t 12], .n 14 .mov [.t 1], .n 15 (.iaddrS 2) [.t 13, .t 14], .n 16 (.load 2 true) [.t 15], .n 6 (.alloc [(.int .i64 0), (.int .i64 0)]) [], .s (.store 2) [.t 6, .t 16]])
   (.seq (.seq (.draw [0, 1, 0, 4, 15, 31, 0, 64, 0, 256, 960, 1984, 4095] [.n 17 (.faddr 7) [.t 2], .n 18 (.load 1 false) [.t 17], .n 19 (.iaddrA 2 1) [.t 6, .i 0], .n 20 (.load 1 false) [.t 19], .n 21 (.iaddrS 1) [.t 18, .t 20], .n 22 (.load 1 false) [.t 21], .n 23 (.faddr 7) [.t 2], .n 24 (.load 1 false) [.t 23], .n 25 (.iaddrA 2 1) [.t 6, .i 1], .n 26 (.load 1 false) [.t 25], .n 27 (.iaddrS 1) [.t 24, .t 26], .n 28 (.load 1 false) [.t 27], .n 29 (.call 103) [.t 22, .t 28]])
   (.block 0 (.range (.t 29) [30, 31] (.seq (.reg [.n 7 (.alloc [(.int .i64 0), (.int .i64 0)]) [], .s (.store 2) [.t 7, .t 30]])
   (.reg [.n 8 (.alloc [(.int .i64 0), (.int .i64 0)]) [], .s (.store 2) [.t 8, .t 31]])) (.block 1 (.draw [0, 0, 2, 0, 0, 30, 63] [.n 32 (.load 1 false) [.t 5], .n 33 (.faddr 0) [.t 2], .n 34 (.load 6 true) [.t 33], .n 35 (.load 2 true) [.t 7], .n 36 (.load 2 true) [.t 8], .n 37 (.call 48) [.t 34, .t 35, .t 36], .s (.raw 1 173 0) [.t 32, .t 37, .c (.bool true)]])))))
   (.seq (.reg [.n 9 .mov [.c .nils]])
   (.seq (.seq (.reg [.n 38 (.load 1 false) [.t 5], .n 39 (.raw 2 173 0) [.t 38]])
   (.block 2 (.loop (.seq (.reg [.n 40 (.raw 3 0 0) [.t 39], .n 41 (.extract 0) [.t 40]])
   (.seq (.cond (.t 41) .skip (.exit 2))
   (.block 3 (.seq (.reg [.n 42 (.raw 4 0 0) [.t 39], .n 43 (.extract 0) [.t 42], .n 10 (.alloc [(.int .i64 0), (.int .i64 0)]) [], .s (.store 2) [.t 10, .t 43]])
   (.reg [.n 44 .mov [.t 9], .n 45 (.load 2 true) [.t 10], .n 46 (.mkslice 2 39) [.t 45], .n 47 (.append 2 16 39) [.t 44, .t 46], .n 9 .mov [.t 47]]))))))))
   (.seq (.reg [.n 48 .mov [.t 9], .n 49 (.call 104) [.t 48, .c (.func (.func 105) [] [])]])
   (.seq (.reg [.n 50 .mov [.t 9], .n 4 .mov [.t 50]])
   .ret))))))))
theorem chk.bin_laid_hits : chkF Tryz.prog 51 = some (51, ir.bin_laid_hits, [.tmp 4]) := by kernel_rfl

/-- paravane/paravaneref07.both -/
abbrev F.ref07_both : Nat := 52
def ir.ref07_both : IC :=
 (.seq (.reg [.n 2 .box [.t 0], .n 3 .box [.t 1], .n 4 .mov [.i 0]])
   (.seq (.seq (.reg [.n 6 (.load 6 true) [.t 2], .n 7 (.call 11) [.t 6], .n 5 .mov [.t 7]])
   (.seq (.reg [.n 8 .mov [.t 5], .n 9 (.bin .neq) [.t 8, .i 0]])
   (.cond (.t 9) (.seq (.reg [.n 10 .mov [.t 5], .n 4 .mov [.t 10]])
   .ret) .skip)))
   (.seq (.reg [.n 11 (.load 2 true) [.t 3], .n 12 (.call 13) [.t 11], .n 4 .mov [.t 12]])
   .ret)))
theorem chk.ref07_both : chkF Tryz.prog 52 = some (13, ir.ref07_both, [.tmp 4]) := by kernel_rfl

/-- paravane/paravaneref07.hits -/
abbrev F.ref07_hits : Nat := 53
def ir.ref07_hits : IC :=
 (.seq (.reg [.n 3 .box [.t 0], .n 6 .mov [.c .nils]])
   (.seq (.reg [.n 7 .mov [.c .nils]])
   (.seq (.seq (.reg [.n 8 .mov [.i 0]])
   (.block 0 (.loop (.seq (.seq (.reg [.n 10 .mov [.t 8], .n 11 .mov [.t 1], .n 12 (.len false) [.t 11], .n 13 (.bin .lss) [.t 10, .t 12]])
   (.cond (.t 13) .skip (.exit 0)))
   (.seq (.block 1 (.seq (.reg [.n 9 .mov [.i 0]])
   (.block 2 (.loop (.seq (.seq (.reg [.n 16 .mov [.t 9], .n 17 .mov [.t 2], .n 18 (.len false) [.t 17], .n 19 (.bin .lss) [.t 16, .t 18]])
   (.cond (.t 19) .skip (.exit 2)))
   (.seq (.block 3 (.draw [0, 0, 0, 0, 12, 28, 0, 0, 192, 448, 1022, 2047, 4095] [.n 22 .mov [.t 7], .n 23 (.load 6 true) [.t 3], .n 24 .mov [.t 1], .n 25 .mov [.t 8], .n 26 (.iaddrS 2) [.t 24, .t 25], .n 27 (.load 2 true) [.t 26], .n 28 .mov [.t 2], .n 29 .mov [.t 9], .n 30 (.iaddrS 2) [.t 28, .t 29], .n 31 (.load 2 true) [.t 30], .n 32 (.call 49) [.t 23, .t 27, .t 31], .n 33 (.call 106) [.t 22, .t 32], .n 7 .mov [.t 33]]))
   (.reg [.n 20 .mov [.t 9], .n 21 (.bin .add) [.t 20, .i 1], .n 9 .mov [.t 21]])))))))
   (.reg [.n 14 .mov [.t 8], .n 15 (.bin .add) [.t 14, .i 1], .n 8 .mov [.t 15]]))))))
   (.seq (.reg [.n 34 .mov [.t 7], .n 6 .mov [.t 34]])
   .ret))))
theorem chk.ref07_hits : chkF Tryz.prog 53 = some (35, ir.ref07_hits, [.tmp 6]) := by kernel_rfl

/-- paravane/paravaneref07.places -/
abbrev F.ref07_places : Nat := 54
def ir.ref07_places : IC :=
 (.seq (.reg [.n 1 .box [.t 0], .n 2 .mov [.c .nils]])
   (.seq (.reg [.n 3 .mov [.c .nils]])
   (.seq (.reg [.n 12 (.load 8 true) [.t 1], .n 13 (.call 107) [.t 12], .n 11 .mov [.t 13], .n 14 (.extract 0) [.t 11], .n 15 (.extract 1) [.t 11], .n 4 (.alloc [(.int .i64 0), (.int .i64 0), (.int .i64 0), (.int .i64 0), (.int .i64 0), (.int .i64 0), (.int .i64 0), (.int .i64 0)]) [], .s (.store 8) [.t 4, .t 14], .n 5 .mov [.t 15]])
   (.seq (.seq (.reg [.n 16 (.faddr 0) [.t 4], .n 17 (.faddr 0) [.t 16], .n 18 (.load 1 false) [.t 17], .n 6 .mov [.t 18]])
   (.block 0 (.loop (.seq (.seq (.reg [.n 19 .mov [.t 6], .n 20 (.faddr 0) [.t 4], .n 21 (.faddr 1) [.t 20], .n 22 (.load 1 false) [.t 21], .n 23 (.bin .leq) [.t 19, .t 22]])
   (.cond (.t 23) .skip (.exit 0)))
   (.seq (.block 1 (.seq (.reg [.n 26 (.faddr 2) [.t 4], .n 27 (.faddr 0) [.t 26], .n 28 (.load 1 false) [.t 27], .n 7 .mov [.t 28]])
   (.block 2 (.loop (.seq (.seq (.reg [.n 29 .mov [.t 7], .n 30 (.faddr 2) [.t 4], .n 31 (.faddr 1) [.t 30], .n 32 (.load 1 false) [.t 31], .n 33 (.bin .leq) [.t 29, .t 32]])
   (.cond (.t 33) .skip (.exit 2)))
   (.seq (.block 3 (.seq (.reg [.n 36 .mov [.t 6], .n 37 .mov [.t 7], .n 38 (.build [(.int .i64 0), (.int .i64 0)] [(0, 1), (1, 1)]) [.t 36, .t 37], .n 8 (.alloc [(.int .i64 0), (.int .i64 0)]) [], .s (.store 2) [.t 8, .t 38]])
   (.seq (.reg [.n 40 (.load 8 true) [.t 4], .n 41 (.load 2 true) [.t 8], .n 42 (.call 108) [.t 40, .t 41], .n 39 .mov [.t 42], .n 43 (.extract 0) [.t 39], .n 44 (.extract 1) [.t 39], .n 9 .mov [.t 43], .n 10 .mov [.t 44]])
   (.seq (.reg [.n 45 .mov [.t 9], .n 46 .mov [.t 45], .w 47 .mov [.t 10] 46 true, .w 48 (.bin .eql) [.t 47, .i 0] 46 true, .n 49 .pick [.t 46, .t 48, .c (.bool false)]])
   (.cond (.t 49) (.reg [.n 50 .mov [.t 3], .n 51 (.load 2 true) [.t 8], .n 52 (.mkslice 2 23) [.t 51], .n 53 (.append 2 16 23) [.t 50, .t 52], .n 3 .mov [.t 53]]) .skip)))))
   (.reg [.n 34 .mov [.t 7], .n 35 (.bin .add) [.t 34, .i 1], .n 7 .mov [.t 35]])))))))
   (.reg [.n 24 .mov [.t 6], .n 25 (.bin .add) [.t 24, .i 1], .n 6 .mov [.t 25]]))))))
   (.seq (.reg [.n 54 .mov [.t 3], .n 2 .mov [.t 54]])
   .ret)))))
theorem chk.ref07_places : chkF Tryz.prog 54 = some (55, ir.ref07_places, [.tmp 2]) := by kernel_rfl

/-- paravane/paravanelaw07.grid -/
abbrev F.law07_grid : Nat := 55
def ir.law07_grid : IC :=
 (.seq (.reg [.n 0 (.alloc [(.int .i64 0), (.int .i64 0), (.int .i64 0), (.int .i64 0), (.int .i64 0), .nils]) []])
   (.seq (.reg [.n 1 (.call 109) [.i 0, .i 25], .n 2 (.call 109) [.i 26, .i 400], .n 3 (.mkslice 2 83) [.t 1, .t 2], .n 4 (.build [(.int .i64 0), (.int .i64 0), (.int .i64 0), (.int .i64 0), (.int .i64 0), .nils] [(2, 1), (3, 1), (4, 1), (5, 1)]) [.i 2, .i 3, .i 2, .t 3], .s (.store 6) [.t 0, .t 4]])
   .ret))
theorem chk.law07_grid : chkF Tryz.prog 55 = some (5, ir.law07_grid, [.cell 0 26]) := by kernel_rfl

/-- paravane/paravanelaw07.lines -/
abbrev F.law07_lines : Nat := 56
def ir.law07_lines : IC :=
 (.seq (.reg [.n 0 (.alloc [.nils, .nils]) []])
   (.seq (.reg [.n 1 (.call 110) [.i 1, .i 1], .n 2 (.call 110) [.i 3, .i 3], .n 3 (.call 109) [.i 7, .i 9], .n 4 (.call 109) [.i 3, .i 3], .n 5 (.call 109) [.i 10, .i 12], .n 6 (.call 109) [.i 4, .i 6], .n 7 (.build [(.int .i64 0), (.int .i64 0), (.int .i64 0), (.int .i64 0), (.int .i64 0), (.int .i64 0), (.int .i64 0), (.int .i64 0)] [(0, 2), (2, 2), (4, 2), (6, 2)]) [.t 3, .t 4, .t 5, .t 6], .n 8 (.mkslice 8 85) [.t 1, .t 2, .t 7], .n 9 (.build [(.int .i64 0), (.int .i64 0)] [(0, 1), (1, 1)]) [.i 0, .i 1], .n 10 (.build [(.int .i64 0), (.int .i64 0)] [(0, 1), (1, 1)]) [.i 0, .i 2], .n 11 (.build [(.int .i64 0), (.int .i64 0)] [(0, 1), (1, 1)]) [.i 1, .i 2], .n 12 (.mkslice 2 97) [.t 9, .t 10, .t 11], .n 13 (.build [.nils, .nils] [(0, 1), (1, 1)]) [.t 8, .t 12], .s (.store 2) [.t 0, .t 13]])
   .ret))
theorem chk.law07_lines : chkF Tryz.prog 56 = some (14, ir.law07_lines, [.cell 0 30]) := by kernel_rfl

/-- paravane/bin.Map -/
abbrev F.bin_Map : Nat := 57
def ir.bin_Map : IC :=
 (.seq (.reg [.n 3 .box [.t 0], ⟨(some 6), .mov, [.c (.str ⟨#[]⟩)], none⟩, .n 7 .mov [.i 0]])
   (.seq (.seq (.reg [.n 16 (.load 6 true) [.t 3], .n 17 (.call 10) [.t 16], .n 8 .mov [.t 17]])
   (.seq (.reg [.n 18 .mov [.t 8], .n 19 (.bin .neq) [.t 18, .i 0]])
   (.cond (.t 19) (.seq (.reg [.n 20 .mov [.t 8], ⟨(some 6), .mov, [.c (.str ⟨#[]⟩)], none⟩, .n 7 .mov [.t 20]])
   .ret) .skip)))
   (.seq (.reg [.n 21 .mov [.t 1], .n 22 (.len false) [.t 21], .n 23 (.faddr 3) [.t 3], .n 24 (.load 1 false) [.t 23], .n 25 (.faddr 4) [.t 3], .n 26 (.load 1 false) [.t 25], .n 27 (.bin .mul) [.t 24, .t 26], .n 28 (.bin .eql) [.t 22, .t 27], .n 9 .mov [.t 28]])
   (.seq (.seq (.reg [.n 29 .mov [.t 1], .n 30 (.len false) [.t 29], .n 31 .mov [.i 0]])
   (.block 0 (.loop (.seq (.reg [.n 32 (.bin .lss) [.t 31, .t 30]])
   (.seq (.cond (.t 32) .skip (.exit 0))
   (.seq (.block 1 (.seq (.reg [.n 33 (.iaddrS 1) [.t 29, .t 31], .n 34 (.load 1 false) [.t 33], .n 11 .mov [.t 34]])
   (.reg [.n 35 .mov [.t 9], .n 36 .mov [.t 35], .w 37 .mov [.t 11] 36 true, .w 38 (.len false) [.t 37] 36 true, .w 39 (.faddr 5) [.t 3] 36 true, .w 40 (.load 1 false) [.t 39] 36 true, .w 41 (.len false) [.t 40] 36 true, .w 42 (.bin .eql) [.t 38, .t 41] 36 true, .n 43 .pick [.t 36, .t 42, .c (.bool false)], .n 44 .mov [.t 43], .w 45 .mov [.t 11] 44 true, .w 46 (.call 81) [.t 45, .c (.func (.func 111) [] [])] 44 true, .w 47 (.un .not) [.t 46] 44 true, .n 48 .pick [.t 44, .t 47, .c (.bool false)], .n 9 .mov [.t 48]])))
   (.reg [.n 49 (.bin .add) [.t 31, .i 1], .n 31 .mov [.t 49]])))))))
   (.seq (.seq (.reg [.n 50 .mov [.t 9], .n 51 (.un .not) [.t 50]])
   (.cond (.t 51) (.seq (.reg [⟨(some 6), .mov, [.c (.str ⟨#[]⟩)], none⟩, .n 7 .mov [.i 73]])
   .ret) .skip))
   (.seq (.seq (.reg [.n 52 .mov [.t 2], .n 53 (.faddr 5) [.t 3], .n 54 (.load 1 false) [.t 53], .n 55 (.len false) [.t 54], .n 56 (.bin .sub) [.t 55, .i 1], .n 57 (.call 44) [.t 52, .i 0, .t 56], .n 58 (.un .not) [.t 57]])
   (.cond (.t 58) (.seq (.reg [⟨(some 6), .mov, [.c (.str ⟨#[]⟩)], none⟩, .n 7 .mov [.i 72]])
   .ret) .skip))
   (.seq (.reg [.n 12 .mov [.c .nils]])
   (.seq (.seq (.reg [.n 59 (.faddr 4) [.t 3], .n 60 (.load 1 false) [.t 59], .n 61 (.bin .sub) [.t 60, .i 1], .n 13 .mov [.t 61]])
   (.block 2 (.loop (.seq (.seq (.reg [.n 62 .mov [.t 13], .n 63 (.bin .geq) [.t 62, .i 0]])
   (.cond (.t 63) .skip (.exit 2)))
   (.seq (.block 3 (.seq (.seq (.reg [.n 66 (.faddr 3) [.t 3], .n 67 (.load 1 false) [.t 66], .n 68 .mov [.i 0]])
   (.block 4 (.loop (.seq (.reg [.n 69 (.bin .lss) [.t 68, .t 67]])
   (.seq (.cond (.t 69) .skip (.exit 4))
   (.seq (.block 5 (.seq (.reg [.n 70 .mov [.t 68], .n 14 .mov [.t 70]])
   (.seq (.reg [.n 71 .mov [.t 1], .n 72 .mov [.t 13], .n 73 (.faddr 3) [.t 3], .n 74 (.load 1 false) [.t 73], .n 75 (.bin .mul) [.t 72, .t 74], .n 76 .mov [.t 14], .n 77 (.bin .add) [.t 75, .t 76], .n 78 (.iaddrS 1) [.t 71, .t 77], .n 79 (.load 1 false) [.t 78], .n 80 .mov [.t 2], .n 81 (.iaddrS 1) [.t 79, .t 80], .n 82 (.load 1 false) [.t 81], .n 15 .mov [.t 82]])
   (.block 6 (.seq (.reg [.n 87 .mov [.t 15], .n 88 (.bin .eql) [.t 87, .i 0], .n 86 .mov [.t 88]])
   (.cond (.t 86) (.reg [.n 89 .mov [.t 12], .n 90 (.mkslice 1 5) [.c (.int .u8 46)], .n 91 (.append 1 1 5) [.t 89, .t 90], .n 12 .mov [.t 91]]) (.seq (.reg [.n 93 .mov [.t 15], .n 94 (.bin .leq) [.t 93, .i 9], .n 92 .mov [.t 94]])
   (.cond (.t 92) (.reg [.n 95 .mov [.t 12], .n 96 .mov [.t 15], .n 97 (.bin .add) [.i 48, .t 96], .n 98 (.conv .u8) [.t 97], .n 99 (.mkslice 1 5) [.t 98], .n 100 (.append 1 1 5) [.t 95, .t 99], .n 12 .mov [.t 100]]) (.reg [.n 83 .mov [.t 12], .n 84 (.mkslice 1 5) [.c (.int .u8 43)], .n 85 (.append 1 1 5) [.t 83, .t 84], .n 12 .mov [.t 85]])))))))))
   (.reg [.n 101 (.bin .add) [.t 68, .i 1], .n 68 .mov [.t 101]])))))))
   (.reg [.n 102 .mov [.t 12], .n 103 (.mkslice 1 5) [.c (.int .u8 10)], .n 104 (.append 1 1 5) [.t 102, .t 103], .n 12 .mov [.t 104]])))
   (.reg [.n 64 .mov [.t 13], .n 65 (.bin .sub) [.t 64, .i 1], .n 13 .mov [.t 65]]))))))
   (.seq (.reg [.n 105 .mov [.t 12], .n 106 (.raw 5 183 9) [.t 105], .n 6 .mov [.t 106], .n 7 .mov [.i 0]])
   .ret)))))))))
theorem chk.bin_Map : chkF Tryz.prog 57 = some (107, ir.bin_Map, [.tmp 6, .tmp 7]) := by kernel_rfl

/-- paravane/paravanelaw07.gaps -/
abbrev F.law07_gaps : Nat := 58
def ir.law07_gaps : IC :=
 (.seq (.reg [.n 0 (.alloc [.nils, .nils]) []])
   (.seq (.reg [.n 1 (.mkslice 1 3) [.i 2, .i 1], .n 2 (.mkslice 1 3) [.i 2, .i 0], .n 3 (.build [(.int .i64 0), .nils] [(0, 1), (1, 1)]) [.i 4, .t 2], .n 4 (.mkslice 1 3) [.i 0, .i 1], .n 5 (.build [(.int .i64 0), .nils] [(0, 1), (1, 1)]) [.i 3, .t 4], .n 6 (.mkslice 1 3) [.i 1, .i 1], .n 7 (.build [(.int .i64 0), .nils] [(0, 1), (1, 1)]) [.i 5, .t 6], .n 8 (.mkslice 1 3) [.i 2, .i 1], .n 9 (.build [(.int .i64 0), .nils] [(0, 1), (1, 1)]) [.i 6, .t 8], .n 10 (.mkslice 2 147) [.t 3, .t 5, .t 7, .t 9], .n 11 (.build [.nils, .nils] [(0, 1), (1, 1)]) [.t 1, .t 10], .s (.store 2) [.t 0, .t 11]])
   .ret))
theorem chk.law07_gaps : chkF Tryz.prog 58 = some (12, ir.law07_gaps, [.cell 0 63]) := by kernel_rfl

/-- paravane/bin.Without -/
abbrev F.bin_Without : Nat := 59
def ir.bin_Without : IC :=
 (.seq (.reg [.n 2 .box [.t 0], .n 4 .mov [.i 0], .n 5 .mov [.i 0]])
   (.seq (.seq (.reg [.n 11 (.load 2 true) [.t 2], .n 12 (.call 73) [.t 11], .n 6 .mov [.t 12]])
   (.seq (.reg [.n 13 .mov [.t 6], .n 14 (.bin .neq) [.t 13, .i 0]])
   (.cond (.t 14) (.seq (.reg [.n 15 .mov [.t 6], .n 4 .mov [.i 0], .n 5 .mov [.t 15]])
   .ret) .skip)))
   (.seq (.seq (.reg [.n 16 .mov [.t 1], .n 17 (.faddr 1) [.t 2], .n 18 (.load 1 false) [.t 17], .n 19 (.len false) [.t 18], .n 20 (.bin .sub) [.t 19, .i 1], .n 21 (.call 44) [.t 16, .i 0, .t 20], .n 22 (.un .not) [.t 21]])
   (.cond (.t 22) (.seq (.reg [.n 4 .mov [.i 0], .n 5 .mov [.i 75]])
   .ret) .skip))
   (.seq (.draw [0, 0, 2, 7, 15, 31, 31, 63, 255] [.n 24 (.load 2 true) [.t 2], .n 25 .mov [.t 1], .n 26 (.bin .shl) [.i 1, .t 25], .n 27 (.call 90) [.t 24, .t 26], .n 23 .mov [.t 27], .n 28 (.extract 0) [.t 23], .n 29 (.extract 1) [.t 23], .n 7 .mov [.t 28], .n 8 .mov [.t 29]])
   (.seq (.seq (.reg [.n 30 .mov [.t 8], .n 31 (.un .not) [.t 30]])
   (.cond (.t 31) (.seq (.reg [.n 4 .mov [.i 0], .n 5 .mov [.i 4]])
   .ret) .skip))
   (.seq (.reg [.n 33 (.load 2 true) [.t 2], .n 34 (.call 90) [.t 33, .i 0], .n 32 .mov [.t 34], .n 35 (.extract 0) [.t 32], .n 36 (.extract 1) [.t 32], .n 9 .mov [.t 35], .n 10 .mov [.t 36]])
   (.seq (.draw [0, 0, 3, 0, 0, 31, 63, 127, 255] [.n 37 (.load 2 true) [.t 2], .n 38 .mov [.t 7], .n 39 (.call 92) [.t 37, .t 38], .n 40 (.load 2 true) [.t 2], .n 41 .mov [.t 9], .n 42 (.call 92) [.t 40, .t 41], .n 43 (.bin .sub) [.t 39, .t 42], .n 4 .mov [.t 43], .n 5 .mov [.i 0]])
   .ret)))))))
theorem chk.bin_Without : chkF Tryz.prog 59 = some (44, ir.bin_Without, [.tmp 4, .tmp 5]) := by kernel_rfl

/-- paravane/paravaneref00.Alike -/
abbrev F.ref00_Alike : Nat := 60
def ir.ref00_Alike : IC :=
 (.seq (.reg [.n 4 .mov [.c (.bool false)]])
   (.seq (.seq (.reg [.n 6 .mov [.t 0], .n 7 (.len false) [.t 6], .n 8 .mov [.t 1], .n 9 (.len false) [.t 8], .n 10 (.bin .neq) [.t 7, .t 9]])
   (.cond (.t 10) (.seq (.reg [.n 4 .mov [.c (.bool false)]])
   .ret) .skip))
   (.seq (.seq (.reg [.n 5 .mov [.i 0]])
   (.block 0 (.loop (.seq (.seq (.reg [.n 11 .mov [.t 5], .n 12 .mov [.t 0], .n 13 (.len false) [.t 12], .n 14 (.bin .lss) [.t 11, .t 13]])
   (.cond (.t 14) .skip (.exit 0)))
   (.seq (.block 1 (.seq (.draw [0, 0, 3, 7, 0, 0, 48, 112, 255] [.n 17 .mov [.t 0], .n 18 .mov [.t 5], .n 19 (.iaddrS 1) [.t 17, .t 18], .n 20 (.load 1 false) [.t 19], .n 21 .mov [.t 1], .n 22 .mov [.t 5], .n 23 (.iaddrS 1) [.t 21, .t 22], .n 24 (.load 1 false) [.t 23], .n 25 (.bin .neq) [.t 20, .t 24]])
   (.cond (.t 25) (.seq (.reg [.n 4 .mov [.c (.bool false)]])
   .ret) .skip)))
   (.reg [.n 15 .mov [.t 5], .n 16 (.bin .add) [.t 15, .i 1], .n 5 .mov [.t 16]]))))))
   (.seq (.reg [.n 4 .mov [.c (.bool true)]])
   .ret))))
theorem chk.ref00_Alike : chkF Tryz.prog 60 = some (26, ir.ref00_Alike, [.tmp 4]) := by kernel_rfl

/-- (paravane/bin.laid).surely -/
abbrev F.bin_laid_surely : Nat := 61
def ir.bin_laid_surely : IC :=
 (.seq (.reg [.n 2 .box [.t 0], .n 4 .mov [.c .nils]])
   (.seq (.seq (.reg [.n 6 (.load 8 true) [.t 2], .n 7 .mov [.t 1], .n 8 (.call 51) [.t 6, .t 7], .n 5 .mov [.t 8]])
   (.seq (.draw [0, 1, 3, 7, 15, 31, 63, 15, 255, 511] [.n 9 .mov [.t 5], .n 10 (.len false) [.t 9], .n 11 (.bin .eql) [.t 10, .i 1], .n 12 .mov [.t 11], .w 13 .mov [.t 5] 12 true, .w 14 (.iaddrS 2) [.t 13, .i 0] 12 true, .w 15 (.load 2 true) [.t 14] 12 true, .w 16 (.load 2 true) [.c (.rptr 0 0)] 12 true, .w 17 (.eqs true [0, 0]) [.t 15, .t 16] 12 true, .n 18 .pick [.t 12, .t 17, .c (.bool false)]])
   (.cond (.t 18) (.seq (.reg [.n 19 .mov [.t 5], .n 4 .mov [.t 19]])
   .ret) .skip)))
   (.seq (.reg [.n 4 .mov [.c .nils]])
   .ret)))
theorem chk.bin_laid_surely : chkF Tryz.prog 61 = some (20, ir.bin_laid_surely, [.tmp 4]) := by kernel_rfl

/-- (paravane/bin.laid).count -/
abbrev F.bin_laid_count : Nat := 62
def ir.bin_laid_count : IC :=
 (.seq (.reg [.n 2 .box [.t 0], .n 4 .mov [.c .nils]])
   (.seq (.reg [.n 10 (.faddr 0) [.t 2], .n 11 (.faddr 3) [.t 10], .n 12 (.load 1 false) [.t 11], .n 13 (.faddr 0) [.t 2], .n 14 (.faddr 4) [.t 13], .n 15 (.load 1 false) [.t 14], .n 16 (.bin .mul) [.t 12, .t 15], .n 17 (.mkbox 1 24 [.nils]) [.t 16, .t 16], .n 5 .mov [.t 17]])
   (.seq (.seq (.reg [.n 18 .mov [.t 5], .n 19 (.len false) [.t 18], .n 20 .mov [.i 0]])
   (.block 0 (.loop (.seq (.reg [.n 21 (.bin .lss) [.t 20, .t 19]])
   (.seq (.cond (.t 21) .skip (.exit 0))
   (.seq (.block 1 (.seq (.reg [.n 22 .mov [.t 20], .n 6 .mov [.t 22]])
   (.reg [.n 23 .mov [.t 5], .n 24 .mov [.t 6], .n 25 (.faddr 0) [.t 2], .n 26 (.faddr 5) [.t 25], .n 27 (.load 1 false) [.t 26], .n 28 (.len false) [.t 27], .n 29 (.mkbox 1 8 [(.int .i64 0)]) [.t 28, .t 28], .n 30 (.iaddrS 1) [.t 23, .t 24], .s (.store 1) [.t 30, .t 29]])))
   (.reg [.n 31 (.bin .add) [.t 20, .i 1], .n 20 .mov [.t 31]])))))))
   (.seq (.seq (.reg [.n 32 (.faddr 6) [.t 2], .n 33 (.load 1 false) [.t 32], .n 34 (.len false) [.t 33], .n 35 .mov [.i 0]])
   (.block 2 (.loop (.seq (.reg [.n 36 (.bin .lss) [.t 35, .t 34]])
   (.seq (.cond (.t 36) .skip (.exit 2))
   (.seq (.block 3 (.seq (.reg [.n 37 .mov [.t 35], .n 7 .mov [.t 37]])
   (.seq (.reg [.n 38 .mov [.t 1], .n 39 .mov [.t 7], .n 40 .callv [.t 38, .t 39], .n 41 (.len false) [.t 40], .n 42 .mov [.i 0]])
   (.block 4 (.loop (.seq (.reg [.n 43 (.bin .lss) [.t 42, .t 41]])
   (.seq (.cond (.t 43) .skip (.exit 4))
   (.seq (.block 5 (.seq (.reg [.n 44 (.iaddrS 2) [.t 40, .t 42], .n 45 (.load 2 true) [.t 44], .n 9 (.alloc [(.int .i64 0), (.int .i64 0)]) [], .s (.store 2) [.t 9, .t 45]])
   (.seq (.reg [.n 46 (.load 2 true) [.t 9], .n 47 (.load 2 true) [.c (.rptr 0 0)], .n 48 (.eqs true [0, 0]) [.t 46, .t 47]])
   (.cond (.t 48) (.draw [0, 0, 2, 7, 15, 0, 32, 127, 255, 511, 1023, 2047] [.n 49 .mov [.t 5], .n 50 (.faddr 0) [.t 9], .n 51 (.load 1 false) [.t 50], .n 52 (.iaddrS 1) [.t 49, .t 51], .n 53 (.load 1 false) [.t 52], .n 54 (.faddr 1) [.t 9], .n 55 (.load 1 false) [.t 54], .n 56 (.iaddrS 1) [.t 53, .t 55], .n 57 (.load 1 false) [.t 56], .n 58 (.bin .add) [.t 57, .i 1], .n 59 (.iaddrS 1) [.t 53, .t 55], .s (.store 1) [.t 59, .t 58]]) .skip))))
   (.reg [.n 60 (.bin .add) [.t 42, .i 1], .n 42 .mov [.t 60]])))))))))
   (.reg [.n 61 (.bin .add) [.t 35, .i 1], .n 35 .mov [.t 61]])))))))
   (.seq (.reg [.n 62 .mov [.t 5], .n 4 .mov [.t 62]])
   .ret)))))
theorem chk.bin_laid_count : chkF Tryz.prog 62 = some (63, ir.bin_laid_count, [.tmp 4]) := by kernel_rfl

/-- paravane/paravaneref07.fold -/
abbrev F.ref07_fold : Nat := 63
def ir.ref07_fold : IC :=
 (.seq (.reg [.n 2 .box [.t 0], .n 3 .box [.t 1], .n 4 .mov [.c .nils], .n 5 .mov [.c .nils]])
   (.seq (.draw [0, 0, 2, 0, 8, 31, 63] [.n 15 (.load 6 true) [.t 2], .n 16 (.faddr 1) [.t 3], .n 17 (.load 1 false) [.t 16], .n 18 (.load 2 true) [.t 3], .n 19 (.call 70) [.t 18], .n 20 (.call 72) [.t 15, .t 17, .t 19], .n 6 .mov [.t 20]])
   (.seq (.reg [.n 7 .mov [.c .nils], .n 8 .mov [.c .nils]])
   (.seq (.seq (.reg [.n 9 .mov [.i 0]])
   (.block 0 (.loop (.seq (.seq (.reg [.n 21 .mov [.t 9], .n 22 (.faddr 3) [.t 2], .n 23 (.load 1 false) [.t 22], .n 24 (.faddr 4) [.t 2], .n 25 (.load 1 false) [.t 24], .n 26 (.bin .mul) [.t 23, .t 25], .n 27 (.bin .lss) [.t 21, .t 26]])
   (.cond (.t 27) .skip (.exit 0)))
   (.seq (.block 1 (.seq (.draw [0, 1, 3, 7, 0, 16, 48, 112, 15, 511] [.n 30 (.faddr 5) [.t 2], .n 31 (.load 1 false) [.t 30], .n 32 (.len false) [.t 31], .n 33 (.mkbox 1 8 [(.int .i64 0)]) [.t 32, .t 32], .n 34 (.faddr 5) [.t 2], .n 35 (.load 1 false) [.t 34], .n 36 (.len false) [.t 35], .n 37 (.mkbox 1 8 [(.int .i64 0)]) [.t 36, .t 36], .n 10 .mov [.t 33], .n 11 .mov [.t 37]])
   (.seq (.seq (.reg [.n 12 .mov [.i 0]])
   (.block 2 (.loop (.seq (.seq (.reg [.n 38 .mov [.t 12], .n 39 (.faddr 5) [.t 2], .n 40 (.load 1 false) [.t 39], .n 41 (.len false) [.t 40], .n 42 (.bin .lss) [.t 38, .t 41]])
   (.cond (.t 42) .skip (.exit 2)))
   (.seq (.block 3 (.seq (.reg [.n 13 .mov [.i 0]])
   (.block 4 (.loop (.seq (.seq (.reg [.n 45 .mov [.t 13], .n 46 .mov [.t 6], .n 47 (.len false) [.t 46], .n 48 (.bin .lss) [.t 45, .t 47]])
   (.cond (.t 48) .skip (.exit 4)))
   (.seq (.block 5 (.seq (.reg [.n 14 .mov [.i 0]])
   (.block 6 (.loop (.seq (.seq (.reg [.n 51 .mov [.t 14], .n 52 .mov [.t 6], .n 53 .mov [.t 13], .n 54 (.iaddrS 1) [.t 52, .t 53], .n 55 (.load 1 false) [.t 54], .n 56 (.len false) [.t 55], .n 57 (.bin .lss) [.t 51, .t 56]])
   (.cond (.t 57) .skip (.exit 6)))
   (.seq (.block 7 (.seq (.reg [.n 60 .mov [.t 6], .n 61 .mov [.t 13], .n 62 (.iaddrS 1) [.t 60, .t 61], .n 63 (.load 1 false) [.t 62], .n 64 .mov [.t 14], .n 65 (.iaddrS 2) [.t 63, .t 64], .n 66 (.load 2 true) [.t 65], .n 67 .mov [.t 9], .n 68 .mov [.t 12], .n 69 (.build [(.int .i64 0), (.int .i64 0)] [(0, 1), (1, 1)]) [.t 67, .t 68], .n 70 (.eqs false [0, 0]) [.t 66, .t 69]])
   (.cond (.t 70) (.seq (.reg [.n 71 .mov [.t 11], .n 72 .mov [.t 12], .n 73 (.iaddrS 1) [.t 71, .t 72], .n 74 (.load 1 false) [.t 73], .n 75 (.bin .add) [.t 74, .i 1], .n 76 (.iaddrS 1) [.t 71, .t 72], .s (.store 1) [.t 76, .t 75]])
   (.seq (.reg [.n 77 .mov [.t 6], .n 78 .mov [.t 13], .n 79 (.iaddrS 1) [.t 77, .t 78], .n 80 (.load 1 false) [.t 79], .n 81 (.call 112) [.t 80]])
   (.cond (.t 81) (.reg [.n 82 .mov [.t 10], .n 83 .mov [.t 12], .n 84 (.iaddrS 1) [.t 82, .t 83], .n 85 (.load 1 false) [.t 84], .n 86 (.bin .add) [.t 85, .i 1], .n 87 (.iaddrS 1) [.t 82, .t 83], .s (.store 1) [.t 87, .t 86]]) .skip))) .skip)))
   (.reg [.n 58 .mov [.t 14], .n 59 (.bin .add) [.t 58, .i 1], .n 14 .mov [.t 59]])))))))
   (.reg [.n 49 .mov [.t 13], .n 50 (.bin .add) [.t 49, .i 1], .n 13 .mov [.t 50]])))))))
   (.reg [.n 43 .mov [.t 12], .n 44 (.bin .add) [.t 43, .i 1], .n 12 .mov [.t 44]]))))))
   (.reg [.n 88 .mov [.t 7], .n 89 .mov [.t 10], .n 90 (.mkslice 1 48) [.t 89], .n 91 (.append 1 24 48) [.t 88, .t 90], .n 92 .mov [.t 8], .n 93 .mov [.t 11], .n 94 (.mkslice 1 48) [.t 93], .n 95 (.append 1 24 48) [.t 92, .t 94], .n 7 .mov [.t 91], .n 8 .mov [.t 95]]))))
   (.reg [.n 28 .mov [.t 9], .n 29 (.bin .add) [.t 28, .i 1], .n 9 .mov [.t 29]]))))))
   (.seq (.reg [.n 96 .mov [.t 7], .n 97 .mov [.t 8], .n 4 .mov [.t 96], .n 5 .mov [.t 97]])
   .ret)))))
theorem chk.ref07_fold : chkF Tryz.prog 63 = some (98, ir.ref07_fold, [.tmp 4, .tmp 5]) := by kernel_rfl

/-- paravane/bin.needed -/
abbrev F.bin_needed : Nat := 64
def ir.bin_needed : IC :=
 (.seq (.reg [.n 2 .box [.t 0], .n 4 .mov [.c (.bool false)]])
   (.seq (.reg [.n 5 .mov [.t 1], .n 6 (.len false) [.t 5], .n 7 (.faddr 5) [.t 2], .n 8 (.load 1 false) [.t 7], .n 9 (.len false) [.t 8], .n 10 (.bin .eql) [.t 6, .t 9], .n 11 .mov [.t 10], .w 12 .mov [.t 1] 11 true, .w 13 (.call 81) [.t 12, .c (.func (.func 113) [] [])] 11 true, .w 14 (.un .not) [.t 13] 11 true, .n 15 .pick [.t 11, .t 14, .c (.bool false)], .n 4 .mov [.t 15]])
   .ret))
theorem chk.bin_needed : chkF Tryz.prog 64 = some (16, ir.bin_needed, [.tmp 4]) := by kernel_rfl

/-- (paravane/bin.laid).lacks -/
abbrev F.bin_laid_lacks : Nat := 65
def ir.bin_laid_lacks : IC :=
 (.seq (.reg [.n 2 .box [.t 0], .n 4 .mov [.c .nils]])
   (.seq (.reg [.n 5 .mov [.c .nils]])
   (.seq (.seq (.reg [.n 10 (.load 8 true) [.t 2], .n 11 (.load 8 true) [.t 2], .n 12 (.mkfunc (.func 61) 1) [.t 11], .n 13 (.call 62) [.t 10, .t 12], .n 14 (.len false) [.t 13], .n 15 .mov [.i 0]])
   (.block 0 (.loop (.seq (.reg [.n 16 (.bin .lss) [.t 15, .t 14]])
   (.seq (.cond (.t 16) .skip (.exit 0))
   (.seq (.block 1 (.seq (.reg [.n 17 .mov [.t 15], .n 18 (.iaddrS 1) [.t 13, .t 15], .n 19 (.load 1 false) [.t 18], .n 6 .mov [.t 17], .n 7 .mov [.t 19]])
   (.seq (.reg [.n 20 .mov [.t 7], .n 21 (.len false) [.t 20], .n 22 .mov [.i 0]])
   (.block 2 (.loop (.seq (.reg [.n 23 (.bin .lss) [.t 22, .t 21]])
   (.seq (.cond (.t 23) .skip (.exit 2))
   (.seq (.block 3 (.seq (.reg [.n 24 .mov [.t 22], .n 25 (.iaddrS 1) [.t 20, .t 22], .n 26 (.load 1 false) [.t 25], .n 8 .mov [.t 24], .n 9 .mov [.t 26]])
   (.seq (.reg [.n 27 .mov [.t 9], .n 28 .mov [.t 1], .n 29 .mov [.t 8], .n 30 (.iaddrS 1) [.t 28, .t 29], .n 31 (.load 1 false) [.t 30], .n 32 (.bin .lss) [.t 27, .t 31]])
   (.cond (.t 32) (.reg [.n 33 .mov [.t 5], .n 34 .mov [.t 6], .n 35 .mov [.t 8], .n 36 .mov [.t 1], .n 37 .mov [.t 8], .n 38 (.iaddrS 1) [.t 36, .t 37], .n 39 (.load 1 false) [.t 38], .n 40 .mov [.t 9], .n 41 (.bin .sub) [.t 39, .t 40], .n 42 (.build [(.int .i64 0), (.int .i64 0), (.int .i64 0)] [(0, 1), (1, 1), (2, 1)]) [.t 34, .t 35, .t 41], .n 43 (.mkslice 3 117) [.t 42], .n 44 (.append 3 24 117) [.t 33, .t 43], .n 5 .mov [.t 44]]) .skip))))
   (.reg [.n 45 (.bin .add) [.t 22, .i 1], .n 22 .mov [.t 45]])))))))))
   (.reg [.n 46 (.bin .add) [.t 15, .i 1], .n 15 .mov [.t 46]])))))))
   (.seq (.reg [.n 47 .mov [.t 5], .n 4 .mov [.t 47]])
   .ret))))
theorem chk.bin_laid_lacks : chkF Tryz.prog 65 = some (48, ir.bin_laid_lacks, [.tmp 4]) := by kernel_rfl

/-- paravane/paravaneref07.needs -/
abbrev F.ref07_needs : Nat := 66
def ir.ref07_needs : IC :=
 (.seq (.reg [.n 2 .box [.t 0], .n 4 .mov [.c (.bool false)]])
   (.seq (.seq (.reg [.n 5 .mov [.i 0]])
   (.block 0 (.loop (.seq (.seq (.reg [.n 6 .mov [.t 5], .n 7 .mov [.t 1], .n 8 (.len false) [.t 7], .n 9 (.bin .lss) [.t 6, .t 8]])
   (.cond (.t 9) .skip (.exit 0)))
   (.seq (.block 1 (.seq (.reg [.n 12 .mov [.t 1], .n 13 .mov [.t 5], .n 14 (.iaddrS 1) [.t 12, .t 13], .n 15 (.load 1 false) [.t 14], .n 16 (.call 39) [.t 15, .i 0, .i 100], .n 17 (.un .not) [.t 16]])
   (.cond (.t 17) (.seq (.reg [.n 4 .mov [.c (.bool false)]])
   .ret) .skip)))
   (.reg [.n 10 .mov [.t 5], .n 11 (.bin .add) [.t 10, .i 1], .n 5 .mov [.t 11]]))))))
   (.seq (.reg [.n 18 .mov [.t 1], .n 19 (.len false) [.t 18], .n 20 (.faddr 5) [.t 2], .n 21 (.load 1 false) [.t 20], .n 22 (.len false) [.t 21], .n 23 (.bin .eql) [.t 19, .t 22], .n 4 .mov [.t 23]])
   .ret)))
theorem chk.ref07_needs : chkF Tryz.prog 66 = some (24, ir.ref07_needs, [.tmp 4]) := by kernel_rfl

/-- paravane/paravaneref07.lacks -/
abbrev F.ref07_lacks : Nat := 67
def ir.ref07_lacks : IC :=
 (.seq (.reg [.n 3 .box [.t 0], .n 4 .box [.t 1], .n 6 .mov [.c .nils]])
   (.seq (.reg [.n 7 .mov [.c .nils]])
   (.seq (.reg [.n 13 (.load 6 true) [.t 3], .n 14 (.load 2 true) [.t 4], .n 15 (.call 63) [.t 13, .t 14], .n 12 .mov [.t 15], .n 16 (.extract 0) [.t 12], .n 17 (.extract 1) [.t 12], .n 8 .mov [.t 16], .n 9 .mov [.t 17]])
   (.seq (.seq (.reg [.n 10 .mov [.i 0]])
   (.block 0 (.loop (.seq (.seq (.reg [.n 18 .mov [.t 10], .n 19 .mov [.t 8], .n 20 (.len false) [.t 19], .n 21 (.bin .lss) [.t 18, .t 20]])
   (.cond (.t 21) .skip (.exit 0)))
   (.seq (.block 1 (.seq (.reg [.n 11 .mov [.i 0]])
   (.block 2 (.loop (.seq (.seq (.reg [.n 24 .mov [.t 11], .n 25 .mov [.t 2], .n 26 (.len false) [.t 25], .n 27 (.bin .lss) [.t 24, .t 26]])
   (.cond (.t 27) .skip (.exit 2)))
   (.seq (.block 3 (.seq (.draw [0, 0, 3, 7, 0, 0, 48, 112, 0, 496, 1008, 2047] [.n 30 .mov [.t 2], .n 31 .mov [.t 11], .n 32 (.iaddrS 1) [.t 30, .t 31], .n 33 (.load 1 false) [.t 32], .n 34 .mov [.t 8], .n 35 .mov [.t 10], .n 36 (.iaddrS 1) [.t 34, .t 35], .n 37 (.load 1 false) [.t 36], .n 38 .mov [.t 11], .n 39 (.iaddrS 1) [.t 37, .t 38], .n 40 (.load 1 false) [.t 39], .n 41 (.bin .gtr) [.t 33, .t 40]])
   (.cond (.t 41) (.draw [0, 0, 0, 0, 0, 24, 56, 0, 0, 384, 896, 0, 3968, 8064, 16376, 32766, 65534, 131071, 262143] [.n 42 .mov [.t 7], .n 43 .mov [.t 10], .n 44 .mov [.t 11], .n 45 .mov [.t 2], .n 46 .mov [.t 11], .n 47 (.iaddrS 1) [.t 45, .t 46], .n 48 (.load 1 false) [.t 47], .n 49 .mov [.t 8], .n 50 .mov [.t 10], .n 51 (.iaddrS 1) [.t 49, .t 50], .n 52 (.load 1 false) [.t 51], .n 53 .mov [.t 11], .n 54 (.iaddrS 1) [.t 52, .t 53], .n 55 (.load 1 false) [.t 54], .n 56 (.bin .sub) [.t 48, .t 55], .n 57 (.build [(.int .i64 0), (.int .i64 0), (.int .i64 0)] [(0, 1), (1, 1), (2, 1)]) [.t 43, .t 44, .t 56], .n 58 (.mkslice 3 117) [.t 57], .n 59 (.append 3 24 117) [.t 42, .t 58], .n 7 .mov [.t 59]]) .skip)))
   (.reg [.n 28 .mov [.t 11], .n 29 (.bin .add) [.t 28, .i 1], .n 11 .mov [.t 29]])))))))
   (.reg [.n 22 .mov [.t 10], .n 23 (.bin .add) [.t 22, .i 1], .n 10 .mov [.t 23]]))))))
   (.seq (.reg [.n 60 .mov [.t 7], .n 6 .mov [.t 60]])
   .ret)))))
theorem chk.ref07_lacks : chkF Tryz.prog 67 = some (61, ir.ref07_lacks, [.tmp 6]) := by kernel_rfl

/-- (paravane/bin.laid).sure -/
abbrev F.bin_laid_sure : Nat := 68
def ir.bin_laid_sure : IC :=
 (.seq (.reg [.n 1 .box [.t 0], .n 2 .mov [.i 0]])
   (.seq (.reg [.n 3 .mov [.i 0]])
   (.seq (.seq (.reg [.n 5 (.faddr 6) [.t 1], .n 6 (.load 1 false) [.t 5], .n 7 (.len false) [.t 6], .n 8 .mov [.i 0]])
   (.block 0 (.loop (.seq (.reg [.n 9 (.bin .lss) [.t 8, .t 7]])
   (.seq (.cond (.t 9) .skip (.exit 0))
   (.seq (.block 1 (.seq (.reg [.n 10 .mov [.t 8], .n 4 .mov [.t 10]])
   (.reg [.n 11 .mov [.t 3], .n 12 (.load 8 true) [.t 1], .n 13 .mov [.t 4], .n 14 (.call 61) [.t 12, .t 13], .n 15 (.len false) [.t 14], .n 16 (.bin .add) [.t 11, .t 15], .n 3 .mov [.t 16]])))
   (.reg [.n 17 (.bin .add) [.t 8, .i 1], .n 8 .mov [.t 17]])))))))
   (.seq (.reg [.n 18 .mov [.t 3], .n 2 .mov [.t 18]])
   .ret))))
theorem chk.bin_laid_sure : chkF Tryz.prog 68 = some (19, ir.bin_laid_sure, [.tmp 2]) := by kernel_rfl

/-- slices.Clone[[][]paravane/api.Point,[]paravane/api.Point] -/
abbrev F.slices_Clone_api_Point_api_Point : Nat := 69
def ir.slices_Clone_api_Point_api_Point : IC :=
 (.seq (.reg [.n 2 .mov [.c .nils]])
   (.seq (.seq (.reg [.n 3 .mov [.t 0], .n 4 (.raw 8 0 99) [.t 3, .c .nils]])
   (.cond (.t 4) (.seq (.reg [.n 2 .mov [.c .nils]])
   .ret) .skip))
   (.seq (.reg [.n 5 (.mkslice 1 88) [], .n 6 .mov [.t 0], .n 7 (.append 1 24 88) [.t 5, .t 6], .n 2 .mov [.t 7]])
   .ret)))
theorem chk.slices_Clone_api_Point_api_Point : chkF Tryz.prog 69 = some (8, ir.slices_Clone_api_Point_api_Point, [.tmp 2]) := by kernel_rfl

/-- paravane/paravaneref07.spread -/
abbrev F.ref07_spread : Nat := 70
def ir.ref07_spread : IC :=
 (.seq (.reg [.n 1 .box [.t 0], .n 2 .mov [.c .nils]])
   (.seq (.reg [.n 3 .mov [.c .nils]])
   (.seq (.seq (.reg [.n 4 .mov [.i 0]])
   (.block 0 (.loop (.seq (.seq (.reg [.n 5 .mov [.t 4], .n 6 (.faddr 0) [.t 1], .n 7 (.load 1 false) [.t 6], .n 8 (.len false) [.t 7], .n 9 (.bin .lss) [.t 5, .t 8]])
   (.cond (.t 9) .skip (.exit 0)))
   (.seq (.block 1 (.reg [.n 12 .mov [.t 3], .n 13 (.faddr 0) [.t 1], .n 14 (.load 1 false) [.t 13], .n 15 .mov [.t 4], .n 16 (.iaddrS 8) [.t 14, .t 15], .n 17 (.load 8 true) [.t 16], .n 18 (.call 54) [.t 17], .n 19 (.mkslice 1 88) [.t 18], .n 20 (.append 1 24 88) [.t 12, .t 19], .n 3 .mov [.t 20]]))
   (.reg [.n 10 .mov [.t 4], .n 11 (.bin .add) [.t 10, .i 1], .n 4 .mov [.t 11]]))))))
   (.seq (.reg [.n 21 .mov [.t 3], .n 2 .mov [.t 21]])
   .ret))))
theorem chk.ref07_spread : chkF Tryz.prog 70 = some (22, ir.ref07_spread, [.tmp 2]) := by kernel_rfl

/-- paravane/paravaneref07.surely -/
abbrev F.ref07_surely : Nat := 71
def ir.ref07_surely : IC :=
 (.seq (.reg [.n 2 .mov [.i 0]])
   (.seq (.reg [.n 3 .mov [.i 0]])
   (.seq (.seq (.reg [.n 4 .mov [.i 0]])
   (.block 0 (.loop (.seq (.seq (.reg [.n 5 .mov [.t 4], .n 6 .mov [.t 0], .n 7 (.len false) [.t 6], .n 8 (.bin .lss) [.t 5, .t 7]])
   (.cond (.t 8) .skip (.exit 0)))
   (.seq (.block 1 (.seq (.reg [.n 11 .mov [.t 0], .n 12 .mov [.t 4], .n 13 (.iaddrS 1) [.t 11, .t 12], .n 14 (.load 1 false) [.t 13], .n 15 (.call 112) [.t 14]])
   (.cond (.t 15) (.reg [.n 16 .mov [.t 3], .n 17 (.bin .add) [.t 16, .i 1], .n 3 .mov [.t 17]]) .skip)))
   (.reg [.n 9 .mov [.t 4], .n 10 (.bin .add) [.t 9, .i 1], .n 4 .mov [.t 10]]))))))
   (.seq (.reg [.n 18 .mov [.t 3], .n 2 .mov [.t 18]])
   .ret))))
theorem chk.ref07_surely : chkF Tryz.prog 71 = some (19, ir.ref07_surely, [.tmp 2]) := by kernel_rfl

/-- paravane/paravaneref07.all -/
abbrev F.ref07_all : Nat := 72
def ir.ref07_all : IC :=
 (.seq (.reg [.n 3 .box [.t 0], .n 6 .mov [.c .nils]])
   (.seq (.reg [.n 7 .mov [.c .nils]])
   (.seq (.seq (.reg [.n 8 .mov [.i 0]])
   (.block 0 (.loop (.seq (.seq (.reg [.n 10 .mov [.t 8], .n 11 .mov [.t 1], .n 12 (.len false) [.t 11], .n 13 (.bin .lss) [.t 10, .t 12]])
   (.cond (.t 13) .skip (.exit 0)))
   (.seq (.block 1 (.seq (.reg [.n 16 .mov [.t 1], .n 17 .mov [.t 8], .n 18 (.iaddrS 2) [.t 16, .t 17], .n 19 (.load 2 true) [.t 18], .n 9 (.alloc [(.int .i64 0), (.int .i64 0)]) [], .s (.store 2) [.t 9, .t 19]])
   (.draw [0, 0, 0, 0, 8, 28, 60, 0, 0, 256, 896, 1920, 4094, 8190, 16383, 32767] [.n 20 .mov [.t 7], .n 21 (.load 6 true) [.t 3], .n 22 .mov [.t 2], .n 23 (.iaddrA 2 1) [.t 9, .i 0], .n 24 (.load 1 false) [.t 23], .n 25 (.iaddrS 1) [.t 22, .t 24], .n 26 (.load 1 false) [.t 25], .n 27 .mov [.t 2], .n 28 (.iaddrA 2 1) [.t 9, .i 1], .n 29 (.load 1 false) [.t 28], .n 30 (.iaddrS 1) [.t 27, .t 29], .n 31 (.load 1 false) [.t 30], .n 32 (.call 53) [.t 21, .t 26, .t 31], .n 33 (.mkslice 1 42) [.t 32], .n 34 (.append 1 24 42) [.t 20, .t 33], .n 7 .mov [.t 34]])))
   (.reg [.n 14 .mov [.t 8], .n 15 (.bin .add) [.t 14, .i 1], .n 8 .mov [.t 15]]))))))
   (.seq (.reg [.n 35 .mov [.t 7], .n 6 .mov [.t 35]])
   .ret))))
theorem chk.ref07_all : chkF Tryz.prog 72 = some (36, ir.ref07_all, [.tmp 6]) := by kernel_rfl

/-- paravane/bin.CheckInfill -/
abbrev F.bin_CheckInfill : Nat := 73
def ir.bin_CheckInfill : IC :=
 (.seq (.reg [.n 1 .box [.t 0], .n 2 .mov [.i 0]])
   (.seq (.seq (.reg [.n 7 (.faddr 0) [.t 1], .n 8 (.load 1 false) [.t 7], .n 9 (.len false) [.t 8], .n 10 (.bin .gtr) [.t 9, .i 16], .n 11 .mov [.t 10], .w 12 (.faddr 1) [.t 1] 11 false, .w 13 (.load 1 false) [.t 12] 11 false, .w 14 (.len false) [.t 13] 11 false, .w 15 (.bin .gtr) [.t 14, .i 10] 11 false, .n 16 .pick [.t 11, .c (.bool true), .t 15]])
   (.cond (.t 16) (.seq (.reg [.n 2 .mov [.i 74]])
   .ret) .skip))
   (.seq (.seq (.reg [.n 17 (.faddr 0) [.t 1], .n 18 (.load 1 false) [.t 17], .n 19 (.len false) [.t 18], .n 20 .mov [.i 0]])
   (.block 0 (.loop (.seq (.reg [.n 21 (.bin .lss) [.t 20, .t 19]])
   (.seq (.cond (.t 21) .skip (.exit 0))
   (.seq (.block 1 (.seq (.reg [.n 22 (.iaddrS 1) [.t 18, .t 20], .n 23 (.load 1 false) [.t 22], .n 4 .mov [.t 23]])
   (.seq (.reg [.n 24 .mov [.t 4], .n 25 (.call 44) [.t 24, .i 1, .i 100], .n 26 (.un .not) [.t 25]])
   (.cond (.t 26) (.seq (.reg [.n 2 .mov [.i 74]])
   .ret) .skip))))
   (.reg [.n 27 (.bin .add) [.t 20, .i 1], .n 20 .mov [.t 27]])))))))
   (.seq (.seq (.reg [.n 28 (.faddr 1) [.t 1], .n 29 (.load 1 false) [.t 28], .n 30 (.len false) [.t 29], .n 31 .mov [.i 0]])
   (.block 2 (.loop (.seq (.reg [.n 32 (.bin .lss) [.t 31, .t 30]])
   (.seq (.cond (.t 32) .skip (.exit 2))
   (.seq (.block 3 (.seq (.reg [.n 33 (.iaddrS 2) [.t 29, .t 31], .n 34 (.load 2 true) [.t 33], .n 6 (.alloc [(.int .i64 0), .nils]) [], .s (.store 2) [.t 6, .t 34]])
   (.seq (.reg [.n 35 (.faddr 0) [.t 6], .n 36 (.load 1 false) [.t 35], .n 37 (.call 44) [.t 36, .i 1, .i 1000], .n 38 (.un .not) [.t 37], .n 39 .mov [.t 38], .w 40 (.faddr 1) [.t 6] 39 false, .w 41 (.load 1 false) [.t 40] 39 false, .w 42 (.len false) [.t 41] 39 false, .w 43 (.faddr 0) [.t 1] 39 false, .w 44 (.load 1 false) [.t 43] 39 false, .w 45 (.len false) [.t 44] 39 false, .w 46 (.bin .neq) [.t 42, .t 45] 39 false, .n 47 .pick [.t 39, .c (.bool true), .t 46], .n 48 .mov [.t 47], .w 49 (.faddr 1) [.t 6] 48 false, .w 50 (.load 1 false) [.t 49] 48 false, .w 51 (.call 81) [.t 50, .c (.func (.func 114) [] [])] 48 false, .n 52 .pick [.t 48, .c (.bool true), .t 51]])
   (.cond (.t 52) (.seq (.reg [.n 2 .mov [.i 74]])
   .ret) .skip))))
   (.reg [.n 53 (.bin .add) [.t 31, .i 1], .n 31 .mov [.t 53]])))))))
   (.seq (.reg [.n 2 .mov [.i 0]])
   .ret)))))
theorem chk.bin_CheckInfill : chkF Tryz.prog 73 = some (54, ir.bin_CheckInfill, [.tmp 2]) := by kernel_rfl

/-- paravane/bin.covers -/
abbrev F.bin_covers : Nat := 74
def ir.bin_covers : IC :=
 (.seq (.reg [.n 2 .box [.t 0], .n 4 .mov [.c (.bool false)]])
   (.seq (.reg [.n 5 (.load 2 true) [.t 2], .n 6 .mov [.t 1], .n 7 (.call 116) [.t 5, .t 6], .n 8 (.call 115) [.t 7, .c (.func (.func 117) [] [])], .n 9 (.bin .eql) [.t 8, .i 0], .n 4 .mov [.t 9]])
   .ret))
theorem chk.bin_covers : chkF Tryz.prog 74 = some (10, ir.bin_covers, [.tmp 4]) := by kernel_rfl

/-- paravane/bin.Bound$1 -/
abbrev F.bin_Bound_1 : Nat := 79
def ir.bin_Bound_1 : IC :=
 (.scope (.seq (.seq (.reg [.n 15 (.load 1 false) [.t 2], .n 16 (.un .not) [.t 15], .n 17 .mov [.t 16], .w 18 (.load 1 false) [.t 3] 17 false, .w 19 (.load 1 false) [.t 4] 17 false, .w 20 (.len false) [.t 19] 17 false, .w 21 (.bin .geq) [.t 18, .t 20] 17 false, .n 22 .pick [.t 17, .c (.bool true), .t 21]])
   (.cond (.t 22) (.seq (.reg [.s (.store 1) [.t 2, .c (.bool false)]])
   .ret) .skip))
   (.seq (.reg [.n 23 (.load 1 false) [.t 4], .n 24 (.load 1 false) [.t 3], .n 25 (.iaddrS 2) [.t 23, .t 24], .n 26 (.load 2 true) [.t 25], .n 11 (.alloc [(.int .i64 0), .nils]) [], .s (.store 2) [.t 11, .t 26]])
   (.seq (.reg [.n 27 (.load 1 false) [.t 3], .n 28 (.bin .add) [.t 27, .i 1], .s (.store 1) [.t 3, .t 28]])
   (.seq (.seq (.reg [.n 29 (.faddr 0) [.t 11], .n 30 (.load 1 false) [.t 29], .n 31 (.bin .neq) [.t 30, .i (-1)]])
   (.cond (.t 31) (.seq (.seq (.reg [.n 32 (.faddr 0) [.t 11], .n 33 (.load 1 false) [.t 32], .n 34 (.faddr 1) [.t 5], .n 35 (.load 1 false) [.t 34], .n 36 (.len false) [.t 35], .n 37 (.bin .sub) [.t 36, .i 1], .n 38 (.call 44) [.t 33, .i 0, .t 37], .n 39 .mov [.t 38], .w 40 .mov [.t 1] 39 true, .w 41 (.faddr 0) [.t 11] 39 true, .w 42 (.load 1 false) [.t 41] 39 true, .w 43 (.bin .shr) [.t 40, .t 42] 39 true, .w 44 (.bin .rem) [.t 43, .i 2] 39 true, .w 45 (.bin .eql) [.t 44, .i 0] 39 true, .n 46 .pick [.t 39, .t 45, .c (.bool false)], .n 47 .mov [.t 46], .w 48 (.faddr 1) [.t 11] 47 true, .w 49 (.load 1 false) [.t 48] 47 true, .w 50 (.len false) [.t 49] 47 true, .w 51 (.bin .eql) [.t 50, .i 0] 47 true, .n 52 .pick [.t 47, .t 51, .c (.bool false)], .s (.store 1) [.t 2, .t 52]])
   (.seq (.reg [.n 53 (.load 1 false) [.t 2]])
   (.cond (.t 53) (.seq (.draw [0, 0, 0, 4, 12, 30, 0, 0, 128, 384, 960, 2047] [.n 54 (.load 1 false) [.t 6], .n 55 .mov [.t 0], .n 56 (.faddr 0) [.t 11], .n 57 (.load 1 false) [.t 56], .n 58 (.bin .shl) [.i 1, .t 57], .n 59 (.bin .or) [.t 55, .t 58], .n 60 .mov [.t 1], .n 61 (.faddr 0) [.t 11], .n 62 (.load 1 false) [.t 61], .n 63 (.bin .shl) [.i 1, .t 62], .n 64 (.bin .or) [.t 60, .t 63], .n 65 .callv [.t 54, .t 59, .t 64]])
   (.draw [0, 0, 0, 0, 8, 24, 60, 127] [.n 66 (.load 1 false) [.t 6], .n 67 .mov [.t 0], .n 68 .mov [.t 1], .n 69 (.faddr 0) [.t 11], .n 70 (.load 1 false) [.t 69], .n 71 (.bin .shl) [.i 1, .t 70], .n 72 (.bin .or) [.t 68, .t 71], .n 73 .callv [.t 66, .t 67, .t 72]])) .skip)))
   .ret) .skip))
   (.seq (.reg [.n 74 (.faddr 1) [.t 11], .n 75 (.load 1 false) [.t 74], .n 76 (.len false) [.t 75], .n 77 (.faddr 0) [.t 5], .n 78 (.load 1 false) [.t 77], .n 79 (.len false) [.t 78], .n 80 (.bin .eql) [.t 76, .t 79], .s (.store 1) [.t 2, .t 80]])
   (.seq (.label 0)
   (.seq (.seq (.reg [.n 81 (.faddr 1) [.t 11], .n 82 (.load 1 false) [.t 81], .n 83 (.len false) [.t 82], .n 84 .mov [.i 0]])
   (.block 0 (.loop (.seq (.reg [.n 85 (.bin .lss) [.t 84, .t 83]])
   (.seq (.cond (.t 85) .skip (.exit 0))
   (.seq (.block 1 (.seq (.reg [.n 86 (.iaddrS 1) [.t 82, .t 84], .n 87 (.load 1 false) [.t 86], .n 13 .mov [.t 87]])
   (.seq (.reg [.n 88 (.load 1 false) [.t 2], .n 89 .mov [.t 88], .w 90 .mov [.t 13] 89 true, .w 91 (.call 44) [.t 90, .i 0, .i 1000000] 89 true, .n 92 .pick [.t 89, .t 91, .c (.bool false)], .s (.store 1) [.t 2, .t 92]])
   (.seq (.reg [.n 93 (.load 1 false) [.t 2], .n 94 (.un .not) [.t 93]])
   (.cond (.t 94) (.exit 0) .skip)))))
   (.reg [.n 95 (.bin .add) [.t 84, .i 1], .n 84 .mov [.t 95]])))))))
   (.seq (.reg [.n 96 (.load 1 false) [.t 2]])
   (.cond (.t 96) (.seq (.reg [.n 97 (.load 2 true) [.t 5], .n 98 (.faddr 1) [.t 11], .n 99 (.load 1 false) [.t 98], .n 100 .mov [.t 0], .n 101 .mov [.t 1], .n 102 (.call 80) [.t 97, .t 99, .t 100, .t 101], .n 14 .mov [.t 102]])
   (.seq (.reg [.n 103 (.load 1 false) [.t 7], .n 104 (.un .not) [.t 103], .n 105 .mov [.t 104], .w 106 .mov [.t 14] 105 false, .w 107 (.load 1 false) [.t 8] 105 false, .w 108 (.bin .lss) [.t 106, .t 107] 105 false, .n 109 .pick [.t 105, .c (.bool true), .t 108]])
   (.cond (.t 109) (.reg [.n 110 .mov [.t 14], .s (.store 1) [.t 8, .t 110], .s (.store 1) [.t 7, .c (.bool true)]]) .skip))) .skip))))))))))
theorem chk.bin_Bound_1 : chkF Tryz.prog 79 = some (111, ir.bin_Bound_1, []) := by kernel_rfl

/-- paravane/bin.leaf -/
abbrev F.bin_leaf : Nat := 80
def ir.bin_leaf : IC :=
 (.seq (.reg [.n 4 .box [.t 0], .n 8 .mov [.i 0]])
   (.seq (.reg [.n 18 (.load 2 true) [.t 4], .n 19 .mov [.t 2], .n 20 (.call 116) [.t 18, .t 19], .n 9 .mov [.t 20]])
   (.seq (.reg [.n 21 (.load 2 true) [.t 4], .n 22 .mov [.t 2], .n 23 (.call 92) [.t 21, .t 22], .n 10 .mov [.t 23]])
   (.seq (.seq (.reg [.n 24 .mov [.t 1], .n 25 (.len false) [.t 24], .n 26 .mov [.i 0]])
   (.block 0 (.loop (.seq (.reg [.n 27 (.bin .lss) [.t 26, .t 25]])
   (.seq (.cond (.t 27) .skip (.exit 0))
   (.seq (.block 1 (.seq (.reg [.n 28 .mov [.t 26], .n 29 (.iaddrS 1) [.t 24, .t 26], .n 30 (.load 1 false) [.t 29], .n 11 .mov [.t 28], .n 12 .mov [.t 30]])
   (.reg [.n 31 .mov [.t 10], .n 32 .mov [.t 12], .n 33 .mov [.t 9], .n 34 .mov [.t 11], .n 35 (.iaddrS 1) [.t 33, .t 34], .n 36 (.load 1 false) [.t 35], .n 37 (.bin .mul) [.t 32, .t 36], .n 38 (.bin .add) [.t 31, .t 37], .n 10 .mov [.t 38]])))
   (.reg [.n 39 (.bin .add) [.t 26, .i 1], .n 26 .mov [.t 39]])))))))
   (.seq (.seq (.reg [.n 40 (.faddr 1) [.t 4], .n 41 (.load 1 false) [.t 40], .n 42 (.len false) [.t 41], .n 43 .mov [.i 0]])
   (.block 2 (.loop (.seq (.reg [.n 44 (.bin .lss) [.t 43, .t 42]])
   (.seq (.cond (.t 44) .skip (.exit 2))
   (.seq (.block 3 (.seq (.reg [.n 45 .mov [.t 43], .n 46 (.iaddrS 2) [.t 41, .t 43], .n 47 (.load 2 true) [.t 46], .n 14 (.alloc [(.int .i64 0), .nils]) [], .n 13 .mov [.t 45], .s (.store 2) [.t 14, .t 47]])
   (.seq (.seq (.reg [.n 48 .mov [.t 3], .n 49 .mov [.t 13], .n 50 (.bin .shr) [.t 48, .t 49], .n 51 (.bin .rem) [.t 50, .i 2], .n 52 (.bin .eql) [.t 51, .i 1]])
   (.cond (.t 52) (.exit 3) .skip))
   (.seq (.reg [.n 53 (.faddr 0) [.t 14], .n 54 (.load 1 false) [.t 53], .n 55 (.un .neg) [.t 54], .n 15 .mov [.t 55]])
   (.seq (.seq (.reg [.n 56 (.faddr 1) [.t 14], .n 57 (.load 1 false) [.t 56], .n 58 (.len false) [.t 57], .n 59 .mov [.i 0]])
   (.block 4 (.loop (.seq (.reg [.n 60 (.bin .lss) [.t 59, .t 58]])
   (.seq (.cond (.t 60) .skip (.exit 4))
   (.seq (.block 5 (.seq (.reg [.n 61 .mov [.t 59], .n 62 (.iaddrS 1) [.t 57, .t 59], .n 63 (.load 1 false) [.t 62], .n 16 .mov [.t 61], .n 17 .mov [.t 63]])
   (.draw [0, 0, 0, 6, 14, 0, 0, 0, 192, 448, 992, 2046, 4095, 8191] [.n 64 .mov [.t 15], .n 65 .mov [.t 1], .n 66 .mov [.t 16], .n 67 (.iaddrS 1) [.t 65, .t 66], .n 68 (.load 1 false) [.t 67], .n 69 .mov [.t 17], .n 70 .mov [.t 9], .n 71 .mov [.t 16], .n 72 (.iaddrS 1) [.t 70, .t 71], .n 73 (.load 1 false) [.t 72], .n 74 (.minmax false) [.t 69, .t 73], .n 75 (.bin .mul) [.t 68, .t 74], .n 76 (.bin .add) [.t 64, .t 75], .n 15 .mov [.t 76]])))
   (.reg [.n 77 (.bin .add) [.t 59, .i 1], .n 59 .mov [.t 77]])))))))
   (.reg [.n 78 .mov [.t 10], .n 79 .mov [.t 15], .n 80 (.minmax true) [.i 0, .t 79], .n 81 (.bin .sub) [.t 78, .t 80], .n 10 .mov [.t 81]]))))))
   (.reg [.n 82 (.bin .add) [.t 43, .i 1], .n 43 .mov [.t 82]])))))))
   (.seq (.reg [.n 83 .mov [.t 10], .n 8 .mov [.t 83]])
   .ret))))))
theorem chk.bin_leaf : chkF Tryz.prog 80 = some (84, ir.bin_leaf, [.tmp 8]) := by kernel_rfl

/-- slices.ContainsFunc[[]int,int] -/
abbrev F.slices_ContainsFunc_int_int : Nat := 81
def ir.slices_ContainsFunc_int_int : IC :=
 (.seq (.reg [.n 4 .mov [.c (.bool false)]])
   (.seq (.reg [.n 5 .mov [.t 0], .n 6 .mov [.t 1], .n 7 (.call 123) [.t 5, .t 6], .n 8 (.bin .geq) [.t 7, .i 0], .n 4 .mov [.t 8]])
   .ret))
theorem chk.slices_ContainsFunc_int_int : chkF Tryz.prog 81 = some (9, ir.slices_ContainsFunc_int_int, [.tmp 4]) := by kernel_rfl

/-- paravane/bin.lay -/
abbrev F.bin_lay : Nat := 83
def ir.bin_lay : IC :=
 (.seq (.reg [.n 2 .box [.t 0], .n 3 .box [.t 1], .n 4 (.alloc [(.int .i64 0), (.int .i64 0), (.int .i64 0), (.int .i64 0), (.int .i64 0), .nils, .nils, .nils]) []])
   (.seq (.reg [.n 8 (.load 6 true) [.t 2], .n 9 (.faddr 1) [.t 3], .n 10 (.load 1 false) [.t 9], .n 11 (.build [(.int .i64 0), (.int .i64 0), (.int .i64 0), (.int .i64 0), (.int .i64 0), .nils, .nils, .nils] [(0, 6), (6, 1)]) [.t 8, .t 10], .n 5 (.alloc [(.int .i64 0), (.int .i64 0), (.int .i64 0), (.int .i64 0), (.int .i64 0), .nils, .nils, .nils]) [], .s (.store 8) [.t 5, .t 11]])
   (.seq (.seq (.reg [.n 12 (.faddr 0) [.t 3], .n 13 (.load 1 false) [.t 12], .n 14 (.len false) [.t 13], .n 15 .mov [.i 0]])
   (.block 0 (.loop (.seq (.reg [.n 16 (.bin .lss) [.t 15, .t 14]])
   (.seq (.cond (.t 16) .skip (.exit 0))
   (.seq (.block 1 (.seq (.reg [.n 17 (.iaddrS 8) [.t 13, .t 15], .n 18 (.load 8 true) [.t 17], .n 7 (.alloc [(.int .i64 0), (.int .i64 0), (.int .i64 0), (.int .i64 0), (.int .i64 0), (.int .i64 0), (.int .i64 0), (.int .i64 0)]) [], .s (.store 8) [.t 7, .t 18]])
   (.draw [0, 1, 0, 4, 12, 31, 63, 127] [.n 19 (.faddr 7) [.t 5], .n 20 (.load 1 false) [.t 19], .n 21 (.load 8 true) [.t 7], .n 22 (.call 124) [.t 21], .n 23 (.mkslice 1 88) [.t 22], .n 24 (.append 1 24 88) [.t 20, .t 23], .n 25 (.faddr 7) [.t 5], .s (.store 1) [.t 25, .t 24]])))
   (.reg [.n 26 (.bin .add) [.t 15, .i 1], .n 15 .mov [.t 26]])))))))
   (.seq (.reg [.n 27 (.load 8 true) [.t 5], .s (.store 8) [.t 4, .t 27]])
   .ret))))
theorem chk.bin_lay : chkF Tryz.prog 83 = some (28, ir.bin_lay, [.cell 4 101]) := by kernel_rfl

/-- paravane/bin.best -/
abbrev F.bin_best : Nat := 90
def ir.bin_best : IC :=
 (.seq (.reg [.n 2 .box [.t 0], .n 4 .mov [.i 0], .n 5 .mov [.c (.bool false)]])
   (.seq (.reg [.n 6 (.alloc [(.int .i64 0), (.int .i64 0), (.int .i64 0), (.int .i64 0), (.int .i64 0), (.int .i64 0), (.int .i64 0), (.int .i64 0), (.int .i64 0), (.int .i64 0), (.int .i64 0), (.int .i64 0), (.int .i64 0), (.int .i64 0), (.int .i64 0), (.int .i64 0), (.int .i64 0), (.int .i64 0), (.int .i64 0), (.int .i64 0), (.int .i64 0), (.int .i64 0), (.int .i64 0), (.int .i64 0), (.int .i64 0), (.int .i64 0), (.int .i64 0), (.int .i64 0), (.int .i64 0), (.int .i64 0), (.int .i64 0), (.int .i64 0), (.int .i64 0), (.int .i64 0), (.int .i64 0), (.int .i64 0), (.int .i64 0), (.int .i64 0), (.int .i64 0), (.int .i64 0), (.int .i64 0), (.int .i64 0), (.int .i64 0), (.int .i64 0), (.int .i64 0), (.int .i64 0), (.int .i64 0), (.int .i64 0), (.int .i64 0), (.int .i64 0), (.int .i64 0), (.int .i64 0), (.int .i64 0), (.int .i64 0), (.int .i64 0), (.int .i64 0), (.int .i64 0), (.int .i64 0), (.int .i64 0), (.int .i64 0), (.int .i64 0), (.int .i64 0), (.int .i64 0), (.int .i64 0), (.int .i64 0), (.int .i64 0), (.int .i64 0), (.int .i64 0), (.int .i64 0), (.int .i64 0), (.int .i64 0), (.int .i64 0), (.int .i64 0), (.int .i64 0), (.int .i64 0), (.int .i64 0), (.int .i64 0), (.int .i64 0), (.int .i64 0), (.int .i64 0), (.int .i64 0), (.int .i64 0), (.int .i64 0), (.int .i64 0), (.int .i64 0), (.int .i64 0), (.int .i64 0), (.int .i64 0), (.int .i64 0), (.int .i64 0), (.int .i64 0), (.int .i64 0), (.int .i64 0), (.int .i64 0), (.int .i64 0), (.int .i64 0), (.int .i64 0), (.int .i64 0), (.int .i64 0), (.int .i64 0), (.int .i64 0), (.int .i64 0), (.int .i64 0), (.int .i64 0), (.int .i64 0), (.int .i64 0), (.int .i64 0), (.int .i64 0), (.int .i64 0), (.int .i64 0), (.int .i64 0), (.int .i64 0), (.int .i64 0), (.int .i64 0), (.int .i64 0), (.int .i64 0), (.int .i64 0), (.int .i64 0), (.int .i64 0), (.int .i64 0), (.int .i64 0), (.int .i64 0), (.int .i64 0), (.int .i64 0), (.int .i64 0), (.int .i64 0), (.int .i64 0), (.int .i64 0), (.int .i64 0), (.int .i64 0), (.int .i64 0), (.int .i64 0), (.int .i64 0), (.int .i64 0), (.int .i64 0), (.int .i64 0), (.int .i64 0), (.int .i64 0), (.int .i64 0), (.int .i64 0), (.int .i64 0), (.int .i64 0), (.int .i64 0), (.int .i64 0), (.int .i64 0), (.int .i64 0), (.int .i64 0), (.int .i64 0), (.int .i64 0), (.int .i64 0), (.int .i64 0), (.int .i64 0), (.int .i64 0), (.int .i64 0), (.int .i64 0), (.int .i64 0), (.int .i64 0), (.int .i64 0), (.int .i64 0), (.int .i64 0), (.int .i64 0), (.int .i64 0), (.int .i64 0), (.int .i64 0), (.int .i64 0), (.int .i64 0), (.int .i64 0), (.int .i64 0), (.int .i64 0), (.int .i64 0), (.int .i64 0), (.int .i64 0), (.int .i64 0), (.int .i64 0), (.int .i64 0), (.int .i64 0), (.int .i64 0), (.int .i64 0), (.int .i64 0), (.int .i64 0), (.int .i64 0), (.int .i64 0), (.int .i64 0), (.int .i64 0), (.int .i64 0), (.int .i64 0), (.int .i64 0), (.int .i64 0), (.int .i64 0), (.int .i64 0), (.int .i64 0), (.int .i64 0), (.int .i64 0), (.int .i64 0), (.int .i64 0), (.int .i64 0), (.int .i64 0), (.int .i64 0), (.int .i64 0), (.int .i64 0), (.int .i64 0), (.int .i64 0), (.int .i64 0), (.int .i64 0), (.int .i64 0), (.int .i64 0), (.int .i64 0), (.int .i64 0), (.int .i64 0), (.int .i64 0), (.int .i64 0), (.int .i64 0), (.int .i64 0), (.int .i64 0), (.int .i64 0), (.int .i64 0), (.int .i64 0), (.int .i64 0), (.int .i64 0), (.int .i64 0), (.int .i64 0), (.int .i64 0), (.int .i64 0), (.int .i64 0), (.int .i64 0), (.int .i64 0), (.int .i64 0), (.int .i64 0), (.int .i64 0), (.int .i64 0), (.int .i64 0), (.int .i64 0), (.int .i64 0), (.int .i64 0), (.int .i64 0), (.int .i64 0), (.int .i64 0), (.int .i64 0), (.int .i64 0), (.int .i64 0), (.int .i64 0), (.int .i64 0), (.int .i64 0), (.int .i64 0), (.int .i64 0), (.int .i64 0), (.int .i64 0), (.int .i64 0), (.int .i64 0), (.int .i64 0), (.int .i64 0), (.int .i64 0), (.int .i64 0), (.int .i64 0), (.int .i64 0), (.int .i64 0), (.int .i64 0), (.int .i64 0), (.int .i64 0), (.int .i64 0), (.int .i64 0), (.int .i64 0), (.int .i64 0), (.int .i64 0), (.int .i64 0), (.int .i64 0), (.int .i64 0), (.int .i64 0), (.int .i64 0), (.int .i64 0), (.int .i64 0), (.int .i64 0), (.int .i64 0), (.int .i64 0), (.int .i64 0), (.int .i64 0), (.int .i64 0), (.int .i64 0), (.int .i64 0), (.int .i64 0), (.int .i64 0), (.int .i64 0), (.int .i64 0), (.int .i64 0), (.int .i64 0), (.int .i64 0), (.int .i64 0), (.int .i64 0), (.int .i64 0), (.int .i64 0), (.int .i64 0), (.int .i64 0), (.int .i64 0), (.int .i64 0), (.int .i64 0), (.int .i64 0), (.int .i64 0), (.int .i64 0), (.int .i64 0), (.int .i64 0), (.int .i64 0), (.int .i64 0), (.int .i64 0), (.int .i64 0), (.int .i64 0), (.int .i64 0), (.int .i64 0), (.int .i64 0), (.int .i64 0), (.int .i64 0), (.int .i64 0), (.int .i64 0), (.int .i64 0), (.int .i64 0), (.int .i64 0), (.int .i64 0), (.int .i64 0), (.int .i64 0), (.int .i64 0), (.int .i64 0), (.int .i64 0), (.int .i64 0), (.int .i64 0), (.int .i64 0), (.int .i64 0), (.int .i64 0), (.int .i64 0), (.int .i64 0), (.int .i64 0), (.int .i64 0), (.int .i64 0), (.int .i64 0), (.int .i64 0), (.int .i64 0), (.int .i64 0), (.int .i64 0), (.int .i64 0), (.int .i64 0), (.int .i64 0), (.int .i64 0), (.int .i64 0), (.int .i64 0), (.int .i64 0), (.int .i64 0), (.int .i64 0), (.int .i64 0), (.int .i64 0), (.int .i64 0), (.int .i64 0), (.int .i64 0), (.int .i64 0), (.int .i64 0), (.int .i64 0), (.int .i64 0), (.int .i64 0), (.int .i64 0), (.int .i64 0), (.int .i64 0), (.int .i64 0), (.int .i64 0), (.int .i64 0), (.int .i64 0), (.int .i64 0), (.int .i64 0), (.int .i64 0), (.int .i64 0), (.int .i64 0), (.int .i64 0), (.int .i64 0), (.int .i64 0), (.int .i64 0), (.int .i64 0), (.int .i64 0), (.int .i64 0), (.int .i64 0), (.int .i64 0), (.int .i64 0), (.int .i64 0), (.int .i64 0), (.int .i64 0), (.int .i64 0), (.int .i64 0), (.int .i64 0), (.int .i64 0), (.int .i64 0), (.int .i64 0), (.int .i64 0), (.int .i64 0), (.int .i64 0), (.int .i64 0), (.int .i64 0), (.int .i64 0), (.int .i64 0), (.int .i64 0), (.int .i64 0), (.int .i64 0), (.int .i64 0), (.int .i64 0), (.int .i64 0), (.int .i64 0), (.int .i64 0), (.int .i64 0), (.int .i64 0), (.int .i64 0), (.int .i64 0), (.int .i64 0), (.int .i64 0), (.int .i64 0), (.int .i64 0), (.int .i64 0), (.int .i64 0), (.int .i64 0), (.int .i64 0), (.int .i64 0), (.int .i64 0), (.int .i64 0), (.int .i64 0), (.int .i64 0), (.int .i64 0), (.int .i64 0), (.int .i64 0), (.int .i64 0), (.int .i64 0), (.int .i64 0), (.int .i64 0), (.int .i64 0), (.int .i64 0), (.int .i64 0), (.int .i64 0), (.int .i64 0), (.int .i64 0), (.int .i64 0), (.int .i64 0), (.int .i64 0), (.int .i64 0), (.int .i64 0), (.int .i64 0), (.int .i64 0), (.int .i64 0), (.int .i64 0), (.int .i64 0), (.int .i64 0), (.int .i64 0), (.int .i64 0), (.int .i64 0), (.int .i64 0), (.int .i64 0), (.int .i64 0), (.int .i64 0), (.int .i64 0), (.int .i64 0), (.int .i64 0), (.int .i64 0), (.int .i64 0), (.int .i64 0), (.int .i64 0), (.int .i64 0), (.int .i64 0), (.int .i64 0), (.int .i64 0), (.int .i64 0), (.int .i64 0), (.int .i64 0), (.int .i64 0), (.int .i64 0), (.int .i64 0), (.int .i64 0), (.int .i64 0), (.int .i64 0), (.int .i64 0), (.int .i64 0), (.int .i64 0), (.int .i64 0), (.int .i64 0), (.int .i64 0), (.int .i64 0), (.int .i64 0), (.int .i64 0), (.int .i64 0), (.int .i64 0), (.int .i64 0), (.int .i64 0), (.int .i64 0), (.int .i64 0), (.int .i64 0), (.int .i64 0), (.int .i64 0), (.int .i64 0), (.int .i64 0), (.int .i64 0), (.int .i64 0), (.int .i64 0), (.int .i64 0), (.int .i64 0), (.int .i64 0), (.int .i64 0), (.int .i64 0), (.int .i64 0), (.int .i64 0), (.int .i64 0), (.int .i64 0), (.int .i64 0), (.int .i64 0), (.int .i64 0), (.int .i64 0), (.int .i64 0), (.int .i64 0), (.int .i64 0), (.int .i64 0), (.int .i64 0), (.int .i64 0), (.int .i64 0), (.int .i64 0), (.int .i64 0), (.int .i64 0), (.int .i64 0), (.int .i64 0), (.int .i64 0), (.int .i64 0), (.int .i64 0), (.int .i64 0), (.int .i64 0), (.int .i64 0), (.int .i64 0), (.int .i64 0), (.int .i64 0), (.int .i64 0), (.int .i64 0), (.int .i64 0), (.int .i64 0), (.int .i64 0), (.int .i64 0), (.int .i64 0), (.int .i64 0), (.int .i64 0), (.int .i64 0), (.int .i64 0), (.int .i64 0), (.int .i64 0), (.int .i64 0), (.int .i64 0), (.int .i64 0), (.int .i64 0), (.int .i64 0), (.int .i64 0), (.int .i64 0), (.int .i64 0), (.int .i64 0), (.int .i64 0), (.int .i64 0), (.int .i64 0), (.int .i64 0), (.int .i64 0), (.int .i64 0), (.int .i64 0), (.int .i64 0), (.int .i64 0), (.int .i64 0), (.int .i64 0), (.int .i64 0), (.int .i64 0), (.int .i64 0), (.int .i64 0), (.int .i64 0), (.int .i64 0), (.int .i64 0), (.int .i64 0), (.int .i64 0), (.int .i64 0), (.int .i64 0), (.int .i64 0), (.int .i64 0), (.int .i64 0), (.int .i64 0), (.int .i64 0), (.int .i64 0), (.int .i64 0), (.int .i64 0), (.int .i64 0), (.int .i64 0), (.int .i64 0), (.int .i64 0), (.int .i64 0), (.int .i64 0), (.int .i64 0), (.int .i64 0), (.int .i64 0), (.int .i64 0), (.int .i64 0), (.int .i64 0), (.int .i64 0), (.int .i64 0), (.int .i64 0), (.int .i64 0), (.int .i64 0), (.int .i64 0), (.int .i64 0), (.int .i64 0), (.int .i64 0), (.int .i64 0), (.int .i64 0), (.int .i64 0), (.int .i64 0), (.int .i64 0), (.int .i64 0), (.int .i64 0), (.int .i64 0), (.int .i64 0), (.int .i64 0), (.int .i64 0), (.int .i64 0), (.int .i64 0), (.int .i64 0), (.int .i64 0), (.int .i64 0), (.int .i64 0), (.int .i64 0), (.int .i64 0), (.int .i64 0), (.int .i64 0), (.int .i64 0), (.int .i64 0), (.int .i64 0), (.int .i64 0), (.int .i64 0), (.int .i64 0), (.int .i64 0), (.int .i64 0), (.int .i64 0), (.int .i64 0), (.int .i64 0), (.int .i64 0), (.int .i64 0), (.int .i64 0), (.int .i64 0), (.int .i64 0), (.int .i64 0), (.int .i64 0), (.int .i64 0), (.int .i64 0), (.int .i64 0), (.int .i64 0), (.int .i64 0), (.int .i64 0), (.int .i64 0), (.int .i64 0), (.int .i64 0), (.int .i64 0), (.int .i64 0), (.int .i64 0), (.int .i64 0), (.int .i64 0), (.int .i64 0), (.int .i64 0), (.int .i64 0), (.int .i64 0), (.int .i64 0), (.int .i64 0), (.int .i64 0), (.int .i64 0), (.int .i64 0), (.int .i64 0), (.int .i64 0), (.int .i64 0), (.int .i64 0), (.int .i64 0), (.int .i64 0), (.int .i64 0), (.int .i64 0), (.int .i64 0), (.int .i64 0), (.int .i64 0), (.int .i64 0), (.int .i64 0), (.int .i64 0), (.int .i64 0), (.int .i64 0), (.int .i64 0), (.int .i64 0), (.int .i64 0), (.int .i64 0), (.int .i64 0), (.int .i64 0), (.int .i64 0), (.int .i64 0), (.int .i64 0), (.int .i64 0), (.int .i64 0), (.int .i64 0), (.int .i64 0), (.int .i64 0), (.int .i64 0), (.int .i64 0), (.int .i64 0), (.int .i64 0), (.int .i64 0), (.int .i64 0), (.int .i64 0), (.int .i64 0), (.int .i64 0), (.int .i64 0), (.int .i64 0), (.int .i64 0), (.int .i64 0), (.int .i64 0), (.int .i64 0), (.int .i64 0), (.int .i64 0), (.int .i64 0), (.int .i64 0), (.int .i64 0), (.int .i64 0), (.int .i64 0), (.int .i64 0), (.int .i64 0), (.int .i64 0), (.int .i64 0), (.int .i64 0), (.int .i64 0), (.int .i64 0), (.int .i64 0), (.int .i64 0), (.int .i64 0), (.int .i64 0), (.int .i64 0), (.int .i64 0), (.int .i64 0), (.int .i64 0), (.int .i64 0), (.int .i64 0), (.int .i64 0), (.int .i64 0), (.int .i64 0), (.int .i64 0), (.int .i64 0), (.int .i64 0), (.int .i64 0), (.int .i64 0), (.int .i64 0), (.int .i64 0), (.int .i64 0), (.int .i64 0), (.int .i64 0), (.int .i64 0), (.int .i64 0), (.int .i64 0), (.int .i64 0), (.int .i64 0), (.int .i64 0), (.int .i64 0), (.int .i64 0), (.int .i64 0), (.int .i64 0), (.int .i64 0), (.int .i64 0), (.int .i64 0), (.int .i64 0), (.int .i64 0), (.int .i64 0), (.int .i64 0), (.int .i64 0), (.int .i64 0), (.int .i64 0), (.int .i64 0), (.int .i64 0), (.int .i64 0), (.int .i64 0), (.int .i64 0), (.int .i64 0), (.int .i64 0), (.int .i64 0), (.int .i64 0), (.int .i64 0), (.int .i64 0), (.int .i64 0), (.int .i64 0), (.int .i64 0), (.int .i64 0), (.int .i64 0), (.int .i64 0), (.int .i64 0), (.int .i64 0), (.int .i64 0), (.int .i64 0), (.int .i64 0), (.int .i64 0), (.int .i64 0), (.int .i64 0), (.int .i64 0), (.int .i64 0), (.int .i64 0), (.int .i64 0), (.int .i64 0), (.int .i64 0), (.int .i64 0), (.int .i64 0), (.int .i64 0), (.int .i64 0), (.int .i64 0), (.int .i64 0), (.int .i64 0), (.int .i64 0), (.int .i64 0), (.int .i64 0), (.int .i64 0), (.int .i64 0), (.int .i64 0), (.int .i64 0), (.int .i64 0), (.int .i64 0), (.int .i64 0), (.int .i64 0), (.int .i64 0), (.int .i64 0), (.int .i64 0), (.int .i64 0), (.int .i64 0), (.int .i64 0), (.int .i64 0), (.int .i64 0), (.int .i64 0), (.int .i64 0), (.int .i64 0), (.int .i64 0), (.int .i64 0), (.int .i64 0), (.int .i64 0), (.int .i64 0), (.int .i64 0), (.int .i64 0), (.int .i64 0), (.int .i64 0), (.int .i64 0), (.int .i64 0), (.int .i64 0), (.int .i64 0), (.int .i64 0), (.int .i64 0), (.int .i64 0), (.int .i64 0), (.int .i64 0), (.int .i64 0), (.int .i64 0), (.int .i64 0), (.int .i64 0), (.int .i64 0), (.int .i64 0), (.int .i64 0), (.int .i64 0), (.int .i64 0), (.int .i64 0), (.int .i64 0), (.int .i64 0), (.int .i64 0), (.int .i64 0), (.int .i64 0), (.int .i64 0), (.int .i64 0), (.int .i64 0), (.int .i64 0), (.int .i64 0), (.int .i64 0), (.int .i64 0), (.int .i64 0), (.int .i64 0), (.int .i64 0), (.int .i64 0), (.int .i64 0), (.int .i64 0), (.int .i64 0), (.int .i64 0), (.int .i64 0), (.int .i64 0), (.int .i64 0), (.int .i64 0), (.int .i64 0), (.int .i64 0), (.int .i64 0), (.int .i64 0), (.int .i64 0), (.int .i64 0), (.int .i64 0), (.int .i64 0), (.int .i64 0), (.int .i64 0), (.int .i64 0), (.int .i64 0), (.int .i64 0), (.int .i64 0), (.int .i64 0), (.int .i64 0), (.int .i64 0), (.int .i64 0), (.int .i64 0), (.int .i64 0), (.int .i64 0), (.int .i64 0), (.int .i64 0), (.int .i64 0), (.int .i64 0), (.int .i64 0), (.int .i64 0), (.int .i64 0), (.int .i64 0), (.int .i64 0), (.int .i64 0), (.int .i64 0), (.int .i64 0), (.int .i64 0), (.int .i64 0), (.int .i64 0), (.int .i64 0), (.int .i64 0), (.int .i64 0), (.int .i64 0), (.int .i64 0), (.int .i64 0), (.int .i64 0), (.int .i64 0), (.int .i64 0), (.int .i64 0), (.int .i64 0), (.int .i64 0), (.int .i64 0), (.int .i64 0), (.int .i64 0), (.int .i64 0), (.int .i64 0), (.int .i64 0), (.int .i64 0), (.int .i64 0), (.int .i64 0), (.int .i64 0), (.int .i64 0), (.int .i64 0), (.int .i64 0), (.int .i64 0), (.int .i64 0), (.int .i64 0), (.int .i64 0), (.int .i64 0), (.int .i64 0), (.int .i64 0), (.int .i64 0), (.int .i64 0), (.int .i64 0), (.int .i64 0), (.int .i64 0), (.int .i64 0), (.int .i64 0), (.int .i64 0), (.int .i64 0), (.int .i64 0), (.int .i64 0), (.int .i64 0), (.int .i64 0), (.int .i64 0), (.int .i64 0), (.int .i64 0), (.int .i64 0), (.int .i64 0), (.int .i64 0), (.int .i64 0), (.int .i64 0), (.int .i64 0), (.int .i64 0), (.int .i64 0), (.int .i64 0), (.int .i64 0), (.int .i64 0), (.int .i64 0), (.int .i64 0), (.int .i64 0), (.int .i64 0), (.int .i64 0), (.int .i64 0), (.int .i64 0), (.int .i64 0), (.int .i64 0), (.int .i64 0), (.int .i64 0), (.int .i64 0), (.int .i64 0), (.int .i64 0), (.int .i64 0), (.int .i64 0), (.int .i64 0), (.int .i64 0), (.int .i64 0), (.int .i64 0), (.int .i64 0), (.int .i64 0), (.int .i64 0), (.int .i64 0), (.int .i64 0), (.int .i64 0), (.int .i64 0), (.int .i64 0), (.int .i64 0), (.int .i64 0), (.int .i64 0), (.int .i64 0), (.int .i64 0), (.int .i64 0), (.int .i64 0), (.int .i64 0), (.int .i64 0), (.int .i64 0), (.int .i64 0), (.int .i64 0), (.int .i64 0), (.int .i64 0), (.int .i64 0), (.int .i64 0), (.int .i64 0), (.int .i64 0), (.int .i64 0), (.int .i64 0), (.int .i64 0), (.int .i64 0), (.int .i64 0), (.int .i64 0), (.int .i64 0), (.int .i64 0)]) []])
   (.seq (.reg [.n 7 .mov [.i 0], .n 8 .mov [.c (.bool false)]])
   (.seq (.seq (.reg [.n 12 (.faddr 1) [.t 2], .n 13 (.load 1 false) [.t 12], .n 14 (.len false) [.t 13], .n 15 (.bin .shl) [.i 1, .t 14], .n 16 .mov [.i 0]])
   (.block 0 (.loop (.seq (.reg [.n 17 (.bin .lss) [.t 16, .t 15]])
   (.seq (.cond (.t 17) .skip (.exit 0))
   (.seq (.block 1 (.seq (.reg [.n 18 .mov [.t 16], .n 9 .mov [.t 18]])
   (.seq (.seq (.reg [.n 19 .mov [.t 9], .n 20 .mov [.t 1], .n 21 (.bin .and) [.t 19, .t 20], .n 22 (.bin .neq) [.t 21, .i 0], .n 23 .mov [.t 22], .w 24 (.load 2 true) [.t 2] 23 false, .w 25 .mov [.t 9] 23 false, .w 26 (.call 74) [.t 24, .t 25] 23 false, .w 27 (.un .not) [.t 26] 23 false, .n 28 .pick [.t 23, .c (.bool true), .t 27]])
   (.cond (.t 28) (.exit 1) .skip))
   (.seq (.reg [.n 29 .mov [.t 9], .n 30 (.load 2 true) [.t 2], .n 31 .mov [.t 9], .n 32 (.call 92) [.t 30, .t 31], .n 33 (.iaddrA 1024 1) [.t 6, .t 29], .s (.store 1) [.t 33, .t 32]])
   (.seq (.seq (.reg [.n 34 .mov [.t 8], .n 35 (.un .not) [.t 34]])
   (.cond (.t 35) (.seq (.reg [.n 36 .mov [.t 9], .n 7 .mov [.t 36], .n 8 .mov [.c (.bool true)]])
   (.exit 1)) .skip))
   (.seq (.reg [.n 37 .mov [.t 9], .n 38 (.call 91) [.t 37], .n 39 .mov [.t 7], .n 40 (.call 91) [.t 39], .n 10 .mov [.t 38], .n 11 .mov [.t 40]])
   (.block 2 (.seq (.draw [0, 1, 3, 0, 8, 24, 63, 127] [.n 42 .mov [.t 9], .n 43 (.iaddrA 1024 1) [.t 6, .t 42], .n 44 (.load 1 false) [.t 43], .n 45 .mov [.t 7], .n 46 (.iaddrA 1024 1) [.t 6, .t 45], .n 47 (.load 1 false) [.t 46], .n 48 (.bin .neq) [.t 44, .t 47], .n 41 .mov [.t 48]])
   (.cond (.t 41) (.seq (.draw [0, 1, 3, 0, 8, 24, 63] [.n 49 .mov [.t 9], .n 50 (.iaddrA 1024 1) [.t 6, .t 49], .n 51 (.load 1 false) [.t 50], .n 52 .mov [.t 7], .n 53 (.iaddrA 1024 1) [.t 6, .t 52], .n 54 (.load 1 false) [.t 53], .n 55 (.bin .lss) [.t 51, .t 54]])
   (.cond (.t 55) (.reg [.n 56 .mov [.t 9], .n 7 .mov [.t 56]]) .skip)) (.seq (.reg [.n 58 .mov [.t 10], .n 59 (.len false) [.t 58], .n 60 .mov [.t 11], .n 61 (.len false) [.t 60], .n 62 (.bin .neq) [.t 59, .t 61], .n 57 .mov [.t 62]])
   (.cond (.t 57) (.seq (.reg [.n 63 .mov [.t 10], .n 64 (.len false) [.t 63], .n 65 .mov [.t 11], .n 66 (.len false) [.t 65], .n 67 (.bin .lss) [.t 64, .t 66]])
   (.cond (.t 67) (.reg [.n 68 .mov [.t 9], .n 7 .mov [.t 68]]) .skip)) (.seq (.reg [.n 70 .mov [.t 10], .n 71 .mov [.t 11], .n 72 (.call 131) [.t 70, .t 71], .n 73 (.bin .lss) [.t 72, .i 0], .n 69 .mov [.t 73]])
   (.cond (.t 69) (.reg [.n 74 .mov [.t 9], .n 7 .mov [.t 74]]) .skip)))))))))))))
   (.reg [.n 75 (.bin .add) [.t 16, .i 1], .n 16 .mov [.t 75]])))))))
   (.seq (.reg [.n 76 .mov [.t 7], .n 77 .mov [.t 8], .n 4 .mov [.t 76], .n 5 .mov [.t 77]])
   .ret)))))
theorem chk.bin_best : chkF Tryz.prog 90 = some (78, ir.bin_best, [.tmp 4, .tmp 5]) := by kernel_rfl

/-- paravane/bin.choice -/
abbrev F.bin_choice : Nat := 91
def ir.bin_choice : IC :=
 (.seq (.reg [.n 2 .mov [.c .nils]])
   (.seq (.reg [.n 3 .mov [.c .nils]])
   (.seq (.seq (.reg [.n 5 .mov [.i 0]])
   (.block 0 (.loop (.seq (.reg [.n 6 (.bin .lss) [.t 5, .i 10]])
   (.seq (.cond (.t 6) .skip (.exit 0))
   (.seq (.block 1 (.seq (.reg [.n 7 .mov [.t 5], .n 4 .mov [.t 7]])
   (.seq (.reg [.n 8 .mov [.t 0], .n 9 .mov [.t 4], .n 10 (.bin .shr) [.t 8, .t 9], .n 11 (.bin .rem) [.t 10, .i 2], .n 12 (.bin .eql) [.t 11, .i 1]])
   (.cond (.t 12) (.reg [.n 13 .mov [.t 3], .n 14 .mov [.t 4], .n 15 (.mkslice 1 3) [.t 14], .n 16 (.append 1 8 3) [.t 13, .t 15], .n 3 .mov [.t 16]]) .skip))))
   (.reg [.n 17 (.bin .add) [.t 5, .i 1], .n 5 .mov [.t 17]])))))))
   (.seq (.reg [.n 18 .mov [.t 3], .n 2 .mov [.t 18]])
   .ret))))
theorem chk.bin_choice : chkF Tryz.prog 91 = some (19, ir.bin_choice, [.tmp 2]) := by kernel_rfl

/-- paravane/bin.cost -/
abbrev F.bin_cost : Nat := 92
def ir.bin_cost : IC :=
 (.seq (.reg [.n 2 .box [.t 0], .n 4 .mov [.i 0]])
   (.seq (.reg [.n 5 .mov [.t 1], .n 6 (.call 91) [.t 5], .n 7 (.mkfunc (.func 132) 0) [.t 2], .n 8 (.call 115) [.t 6, .t 7], .n 4 .mov [.t 8]])
   .ret))
theorem chk.bin_cost : chkF Tryz.prog 92 = some (9, ir.bin_cost, [.tmp 4]) := by kernel_rfl

/-- (paravane/region.limit).into -/
abbrev F.region_limit_into : Nat := 93
def ir.region_limit_into : IC :=
 (.seq (.reg [.n 4 .mov [.i 0]])
   (.seq (.reg [.n 5 .mov [.t 0], .n 6 (.un .neg) [.t 5], .n 7 .mov [.t 1], .n 8 .mov [.t 0], .n 9 (.minmax false) [.t 7, .t 8], .n 10 (.minmax true) [.t 6, .t 9], .n 4 .mov [.t 10]])
   .ret))
theorem chk.region_limit_into : chkF Tryz.prog 93 = some (11, ir.region_limit_into, [.tmp 4]) := by kernel_rfl

/-- paravane/paravaneref01.place -/
abbrev F.ref01_place : Nat := 94
def ir.ref01_place : IC :=
 (.seq (.reg [.n 1 .box [.t 0], .n 2 .mov [.c (.bool false)]])
   (.seq (.reg [.n 3 (.faddr 0) [.t 1], .n 4 (.load 1 false) [.t 3], .n 5 (.call 39) [.t 4, .i (-32768), .i 32768], .n 6 .mov [.t 5], .w 7 (.faddr 1) [.t 1] 6 true, .w 8 (.load 1 false) [.t 7] 6 true, .w 9 (.call 39) [.t 8, .i (-32768), .i 32768] 6 true, .n 10 .pick [.t 6, .t 9, .c (.bool false)], .n 2 .mov [.t 10]])
   .ret))
theorem chk.ref01_place : chkF Tryz.prog 94 = some (11, ir.ref01_place, [.tmp 2]) := by kernel_rfl

/-- paravane/region.Check -/
abbrev F.region_Check : Nat := 95
def ir.region_Check : IC :=
 (.seq (.reg [.n 1 .box [.t 0], .n 2 .mov [.i 0]])
   (.seq (.reg [.n 6 (.mkfunc (.func 133) 1) [.i 32768], .n 7 (.mkfunc (.func 133) 1) [.i 32768], .n 8 (.mkfunc (.func 133) 1) [.i 65536], .n 9 (.mkfunc (.func 133) 1) [.i 65536], .n 10 (.build [.nilf, .nilf, .nilf, .nilf] [(0, 1), (1, 1), (2, 1), (3, 1)]) [.t 6, .t 7, .t 8, .t 9], .n 3 (.alloc [.nilf, .nilf, .nilf, .nilf]) [], .s (.store 4) [.t 3, .t 10]])
   (.seq (.seq (.reg [.n 11 (.load 8 true) [.t 1], .n 12 (.call 96) [.t 11], .n 13 .mov [.i 0]])
   (.block 0 (.loop (.seq (.reg [.n 14 (.bin .lss) [.t 13, .i 4]])
   (.seq (.cond (.t 14) .skip (.exit 0))
   (.seq (.block 1 (.seq (.reg [.n 15 .mov [.t 13], .n 16 (.idxA 4 2 true) [.t 12, .t 13], .n 5 (.alloc [(.int .i64 0), (.int .i64 0)]) [], .n 4 .mov [.t 15], .s (.store 2) [.t 5, .t 16]])
   (.seq (.draw [0, 1, 3, 0, 15, 31] [.n 17 .mov [.t 4], .n 18 (.iaddrA 4 1) [.t 3, .t 17], .n 19 (.load 1 false) [.t 18], .n 20 (.load 2 true) [.t 5], .n 21 .callv [.t 19, .t 20], .n 22 (.un .not) [.t 21]])
   (.cond (.t 22) (.seq (.reg [.n 2 .mov [.i 11]])
   .ret) .skip))))
   (.reg [.n 23 (.bin .add) [.t 13, .i 1], .n 13 .mov [.t 23]])))))))
   (.seq (.reg [.n 2 .mov [.i 0]])
   .ret))))
theorem chk.region_Check : chkF Tryz.prog 95 = some (24, ir.region_Check, [.tmp 2]) := by kernel_rfl

/-- paravane/region.bounds -/
abbrev F.region_bounds : Nat := 96
def ir.region_bounds : IC :=
 (.seq (.reg [.n 1 .box [.t 0], .n 2 (.alloc [(.int .i64 0), (.int .i64 0), (.int .i64 0), (.int .i64 0), (.int .i64 0), (.int .i64 0), (.int .i64 0), (.int .i64 0)]) []])
   (.seq (.reg [.n 3 (.faddr 0) [.t 1], .n 4 (.load 2 true) [.t 3], .n 5 (.faddr 2) [.t 1], .n 6 (.load 2 true) [.t 5], .n 7 (.faddr 4) [.t 1], .n 8 (.load 2 true) [.t 7], .n 9 (.faddr 6) [.t 1], .n 10 (.load 2 true) [.t 9], .n 11 (.build [(.int .i64 0), (.int .i64 0), (.int .i64 0), (.int .i64 0), (.int .i64 0), (.int .i64 0), (.int .i64 0), (.int .i64 0)] [(0, 2), (2, 2), (4, 2), (6, 2)]) [.t 4, .t 6, .t 8, .t 10], .s (.store 8) [.t 2, .t 11]])
   .ret))
theorem chk.region_bounds : chkF Tryz.prog 96 = some (12, ir.region_bounds, [.cell 2 152]) := by kernel_rfl

/-- (paravane/region.four).rows -/
abbrev F.region_four_rows : Nat := 97
def ir.region_four_rows : IC :=
 (.seq (.reg [.n 1 .box [.t 0], .n 2 .mov [.c .nilf]])
   (.seq (.reg [.n 3 (.mkfunc (.func 134) 0) [.t 1], .n 2 .mov [.t 3]])
   .ret))
theorem chk.region_four_rows : chkF Tryz.prog 97 = some (4, ir.region_four_rows, [.tmp 2]) := by kernel_rfl

/-- paravane/paravaneref01.Check -/
abbrev F.ref01_Check : Nat := 98
def ir.ref01_Check : IC :=
 (.seq (.reg [.n 1 .box [.t 0], .n 2 .mov [.i 0]])
   (.seq (.seq (.reg [.n 3 (.faddr 0) [.t 1], .n 4 (.load 2 true) [.t 3], .n 5 (.call 135) [.t 4, .i 32768], .n 6 (.un .not) [.t 5], .n 7 .mov [.t 6], .w 8 (.faddr 2) [.t 1] 7 false, .w 9 (.load 2 true) [.t 8] 7 false, .w 10 (.call 135) [.t 9, .i 32768] 7 false, .w 11 (.un .not) [.t 10] 7 false, .n 12 .pick [.t 7, .c (.bool true), .t 11], .n 13 .mov [.t 12], .w 14 (.faddr 4) [.t 1] 13 false, .w 15 (.load 2 true) [.t 14] 13 false, .w 16 (.call 135) [.t 15, .i 65536] 13 false, .w 17 (.un .not) [.t 16] 13 false, .n 18 .pick [.t 13, .c (.bool true), .t 17], .n 19 .mov [.t 18], .w 20 (.faddr 6) [.t 1] 19 false, .w 21 (.load 2 true) [.t 20] 19 false, .w 22 (.call 135) [.t 21, .i 65536] 19 false, .w 23 (.un .not) [.t 22] 19 false, .n 24 .pick [.t 19, .c (.bool true), .t 23]])
   (.cond (.t 24) (.seq (.reg [.n 2 .mov [.i 11]])
   .ret) .skip))
   (.seq (.reg [.n 2 .mov [.i 0]])
   .ret)))
theorem chk.ref01_Check : chkF Tryz.prog 98 = some (25, ir.ref01_Check, [.tmp 2]) := by kernel_rfl

/-- paravane/paravaneref01.row -/
abbrev F.ref01_row : Nat := 99
def ir.ref01_row : IC :=
 (.seq (.reg [.n 2 .box [.t 0], .n 4 (.alloc [(.int .i64 0), (.int .i64 0), (.int .i64 0)]) []])
   (.seq (.reg [.n 5 .mov [.t 1], .n 6 (.faddr 2) [.t 2], .n 7 (.faddr 0) [.t 6], .n 8 (.load 1 false) [.t 7], .n 9 (.faddr 4) [.t 2], .n 10 (.faddr 0) [.t 9], .n 11 (.load 1 false) [.t 10], .n 12 .mov [.t 1], .n 13 (.bin .sub) [.t 11, .t 12], .n 14 .mov [.t 1], .n 15 (.faddr 6) [.t 2], .n 16 (.faddr 1) [.t 15], .n 17 (.load 1 false) [.t 16], .n 18 (.bin .sub) [.t 14, .t 17], .n 19 (.minmax true) [.t 8, .t 13, .t 18], .n 20 (.faddr 2) [.t 2], .n 21 (.faddr 1) [.t 20], .n 22 (.load 1 false) [.t 21], .n 23 (.faddr 4) [.t 2], .n 24 (.faddr 1) [.t 23], .n 25 (.load 1 false) [.t 24], .n 26 .mov [.t 1], .n 27 (.bin .sub) [.t 25, .t 26], .n 28 .mov [.t 1], .n 29 (.faddr 6) [.t 2], .n 30 (.faddr 0) [.t 29], .n 31 (.load 1 false) [.t 30], .n 32 (.bin .sub) [.t 28, .t 31], .n 33 (.minmax false) [.t 22, .t 27, .t 32], .n 34 (.build [(.int .i64 0), (.int .i64 0), (.int .i64 0)] [(0, 1), (1, 1), (2, 1)]) [.t 5, .t 19, .t 33], .s (.store 3) [.t 4, .t 34]])
   .ret))
theorem chk.ref01_row : chkF Tryz.prog 99 = some (35, ir.ref01_row, [.cell 4 170]) := by kernel_rfl

/-- paravane/bin.floor -/
abbrev F.bin_floor : Nat := 100
def ir.bin_floor : IC :=
 (.seq (.reg [.n 4 .mov [.i 0]])
   (.seq (.reg [.n 6 .mov [.t 0], .n 7 .mov [.t 1], .n 8 (.bin .quo) [.t 6, .t 7], .n 5 .mov [.t 8]])
   (.seq (.seq (.reg [.n 9 .mov [.t 0], .n 10 .mov [.t 1], .n 11 (.bin .rem) [.t 9, .t 10], .n 12 (.bin .lss) [.t 11, .i 0]])
   (.cond (.t 12) (.reg [.n 13 .mov [.t 5], .n 14 (.bin .sub) [.t 13, .i 1], .n 5 .mov [.t 14]]) .skip))
   (.seq (.reg [.n 15 .mov [.t 5], .n 4 .mov [.t 15]])
   .ret))))
theorem chk.bin_floor : chkF Tryz.prog 100 = some (16, ir.bin_floor, [.tmp 4]) := by kernel_rfl

/-- paravane/paravaneref00.Down -/
abbrev F.ref00_Down : Nat := 101
def ir.ref00_Down : IC :=
 (.seq (.reg [.n 4 .mov [.i 0]])
   (.seq (.reg [.n 6 .mov [.t 0], .n 7 .mov [.t 1], .n 8 (.bin .quo) [.t 6, .t 7], .n 5 .mov [.t 8]])
   (.seq (.seq (.reg [.n 9 .mov [.t 0], .n 10 .mov [.t 1], .n 11 (.bin .rem) [.t 9, .t 10], .n 12 (.bin .neq) [.t 11, .i 0], .n 13 .mov [.t 12], .w 14 .mov [.t 0] 13 true, .w 15 (.bin .lss) [.t 14, .i 0] 13 true, .w 16 .mov [.t 1] 13 true, .w 17 (.bin .lss) [.t 16, .i 0] 13 true, .w 18 (.binb true) [.t 15, .t 17] 13 true, .n 19 .pick [.t 13, .t 18, .c (.bool false)]])
   (.cond (.t 19) (.reg [.n 20 .mov [.t 5], .n 21 (.bin .sub) [.t 20, .i 1], .n 5 .mov [.t 21]]) .skip))
   (.seq (.reg [.n 22 .mov [.t 5], .n 4 .mov [.t 22]])
   .ret))))
theorem chk.ref00_Down : chkF Tryz.prog 101 = some (23, ir.ref00_Down, [.tmp 4]) := by kernel_rfl

/-- paravane/paravaneref07.none -/
abbrev F.ref07_none : Nat := 102
def ir.ref07_none : IC :=
 (.seq (.reg [.n 0 (.alloc [(.int .i64 0), (.int .i64 0)]) []])
   (.seq (.reg [.n 1 (.build [(.int .i64 0), (.int .i64 0)] [(0, 1), (1, 1)]) [.i (-1), .i (-1)], .s (.store 2) [.t 0, .t 1]])
   .ret))
theorem chk.ref07_none : chkF Tryz.prog 102 = some (2, ir.ref07_none, [.cell 0 39]) := by kernel_rfl

/-- paravane/bin.pairs -/
abbrev F.bin_pairs : Nat := 103
def ir.bin_pairs : IC :=
 (.seq (.reg [.n 2 .box [.t 0], .n 3 .box [.t 1], .n 4 .mov [.c .nilf]])
   (.seq (.reg [.n 5 (.mkfunc (.func 136) 0) [.t 2, .t 3], .n 4 .mov [.t 5]])
   .ret))
theorem chk.bin_pairs : chkF Tryz.prog 103 = some (6, ir.bin_pairs, [.tmp 4]) := by kernel_rfl

/-- slices.SortFunc[[]paravane/api.Cell,paravane/api.Cell] -/
abbrev F.slices_SortFunc_api_Cell_api_Cell : Nat := 104
def ir.slices_SortFunc_api_Cell_api_Cell : IC :=
 (.seq (.reg [.n 5 .mov [.t 0], .n 6 (.len false) [.t 5], .n 4 .mov [.t 6]])
   (.reg [.n 7 .mov [.t 0], .n 8 .mov [.t 4], .n 9 .mov [.t 4], .n 10 (.conv .u64) [.t 9], .n 11 (.call 138) [.t 10], .n 12 .mov [.t 1], .n 13 (.call 137) [.t 7, .i 0, .t 8, .t 11, .t 12]]))
theorem chk.slices_SortFunc_api_Cell_api_Cell : chkF Tryz.prog 104 = some (14, ir.slices_SortFunc_api_Cell_api_Cell, []) := by kernel_rfl

/-- paravane/bin.ordered -/
abbrev F.bin_ordered : Nat := 105
def ir.bin_ordered : IC :=
 (.seq (.reg [.n 2 .box [.t 0], .n 3 .box [.t 1], .n 4 .mov [.i 0]])
   (.seq (.seq (.reg [.n 5 (.faddr 0) [.t 2], .n 6 (.load 1 false) [.t 5], .n 7 (.faddr 0) [.t 3], .n 8 (.load 1 false) [.t 7], .n 9 (.bin .neq) [.t 6, .t 8]])
   (.cond (.t 9) (.seq (.reg [.n 10 (.faddr 0) [.t 2], .n 11 (.load 1 false) [.t 10], .n 12 (.faddr 0) [.t 3], .n 13 (.load 1 false) [.t 12], .n 14 (.bin .sub) [.t 11, .t 13], .n 4 .mov [.t 14]])
   .ret) .skip))
   (.seq (.reg [.n 15 (.faddr 1) [.t 2], .n 16 (.load 1 false) [.t 15], .n 17 (.faddr 1) [.t 3], .n 18 (.load 1 false) [.t 17], .n 19 (.bin .sub) [.t 16, .t 18], .n 4 .mov [.t 19]])
   .ret)))
theorem chk.bin_ordered : chkF Tryz.prog 105 = some (20, ir.bin_ordered, [.tmp 4]) := by kernel_rfl

/-- paravane/paravaneref07.with -/
abbrev F.ref07_with : Nat := 106
def ir.ref07_with : IC :=
 (.seq (.reg [.n 3 .box [.t 1], .n 4 .mov [.c .nils]])
   (.seq (.reg [.n 5 .mov [.i 0]])
   (.seq (.block 0 (.loop (.seq (.seq (.draw [0, 0, 2, 7, 15, 31, 31, 127, 255, 31, 1023, 2047] [.n 7 .mov [.t 5], .n 8 .mov [.t 0], .n 9 (.len false) [.t 8], .n 10 (.bin .lss) [.t 7, .t 9], .n 11 .mov [.t 10], .w 12 .mov [.t 0] 11 true, .w 13 .mov [.t 5] 11 true, .w 14 (.iaddrS 2) [.t 12, .t 13] 11 true, .w 15 (.load 2 true) [.t 14] 11 true, .w 16 (.load 2 true) [.t 3] 11 true, .w 17 (.call 139) [.t 15, .t 16] 11 true, .n 18 .pick [.t 11, .t 17, .c (.bool false)]])
   (.cond (.t 18) .skip (.exit 0)))
   (.block 1 (.reg [.n 19 .mov [.t 5], .n 20 (.bin .add) [.t 19, .i 1], .n 5 .mov [.t 20]])))))
   (.seq (.seq (.draw [0, 0, 2, 7, 15, 31, 31, 127, 255, 31, 1023, 2047] [.n 21 .mov [.t 5], .n 22 .mov [.t 0], .n 23 (.len false) [.t 22], .n 24 (.bin .lss) [.t 21, .t 23], .n 25 .mov [.t 24], .w 26 .mov [.t 0] 25 true, .w 27 .mov [.t 5] 25 true, .w 28 (.iaddrS 2) [.t 26, .t 27] 25 true, .w 29 (.load 2 true) [.t 28] 25 true, .w 30 (.load 2 true) [.t 3] 25 true, .w 31 (.eqs false [0, 0]) [.t 29, .t 30] 25 true, .n 32 .pick [.t 25, .t 31, .c (.bool false)]])
   (.cond (.t 32) (.seq (.reg [.n 33 .mov [.t 0], .n 4 .mov [.t 33]])
   .ret) .skip))
   (.seq (.reg [.n 6 .mov [.c .nils]])
   (.seq (.draw [0, 0, 0, 6, 15, 0, 32, 127, 255] [.n 34 .mov [.t 6], .n 35 .mov [.t 0], .n 36 .mov [.t 5], .n 37 (.slx 2 false true) [.t 35, .t 36], .n 38 (.append 2 16 39) [.t 34, .t 37], .n 39 (.load 2 true) [.t 3], .n 40 (.mkslice 2 39) [.t 39], .n 41 (.append 2 16 39) [.t 38, .t 40], .n 6 .mov [.t 41]])
   (.seq (.reg [.n 42 .mov [.t 6], .n 43 .mov [.t 0], .n 44 .mov [.t 5], .n 45 (.slx 2 true false) [.t 43, .t 44], .n 46 (.append 2 16 39) [.t 42, .t 45], .n 4 .mov [.t 46]])
   .ret)))))))
theorem chk.ref07_with : chkF Tryz.prog 106 = some (47, ir.ref07_with, [.tmp 4]) := by kernel_rfl

/-- paravane/paravaneref01.Tight -/
abbrev F.ref01_Tight : Nat := 107
def ir.ref01_Tight : IC :=
 (.seq (.reg [.n 1 .box [.t 0], .n 2 (.alloc [(.int .i64 0), (.int .i64 0), (.int .i64 0), (.int .i64 0), (.int .i64 0), (.int .i64 0), (.int .i64 0), (.int .i64 0)]) [], .n 3 .mov [.i 0]])
   (.seq (.seq (.reg [.n 5 (.load 8 true) [.t 1], .n 6 (.call 98) [.t 5], .n 4 .mov [.t 6]])
   (.seq (.reg [.n 7 .mov [.t 4], .n 8 (.bin .neq) [.t 7, .i 0]])
   (.cond (.t 8) (.seq (.reg [.n 9 (.build [(.int .i64 0), (.int .i64 0), (.int .i64 0), (.int .i64 0), (.int .i64 0), (.int .i64 0), (.int .i64 0), (.int .i64 0)] []) [], .n 10 .mov [.t 4], .s (.store 8) [.t 2, .t 9], .n 3 .mov [.t 10]])
   .ret) .skip)))
   (.seq (.reg [.n 11 (.load 8 true) [.t 1], .n 12 (.mkslice 8 85) [.t 11], .n 13 (.call 140) [.t 12], .n 14 (.extract 0) [.t 13], .n 15 (.extract 1) [.t 13], .s (.store 8) [.t 2, .t 14], .n 3 .mov [.t 15]])
   .ret)))
theorem chk.ref01_Tight : chkF Tryz.prog 107 = some (16, ir.ref01_Tight, [.cell 2 85, .tmp 3]) := by kernel_rfl

/-- paravane/paravaneref01.Has -/
abbrev F.ref01_Has : Nat := 108
def ir.ref01_Has : IC :=
 (.seq (.reg [.n 2 .box [.t 0], .n 3 .box [.t 1], .n 4 .mov [.c (.bool false)], .n 5 .mov [.i 0]])
   (.seq (.seq (.reg [.n 7 (.load 8 true) [.t 2], .n 8 (.call 98) [.t 7], .n 6 .mov [.t 8]])
   (.seq (.reg [.n 9 .mov [.t 6], .n 10 (.bin .neq) [.t 9, .i 0]])
   (.cond (.t 10) (.seq (.reg [.n 11 .mov [.t 6], .n 4 .mov [.c (.bool false)], .n 5 .mov [.t 11]])
   .ret) .skip)))
   (.seq (.seq (.reg [.n 12 (.load 2 true) [.t 3], .n 13 (.call 94) [.t 12], .n 14 (.un .not) [.t 13]])
   (.cond (.t 14) (.seq (.reg [.n 4 .mov [.c (.bool false)], .n 5 .mov [.i 10]])
   .ret) .skip))
   (.seq (.reg [.n 15 (.load 8 true) [.t 2], .n 16 (.load 2 true) [.t 3], .n 17 (.call 141) [.t 15, .t 16], .n 4 .mov [.t 17], .n 5 .mov [.i 0]])
   .ret))))
theorem chk.ref01_Has : chkF Tryz.prog 108 = some (18, ir.ref01_Has, [.tmp 4, .tmp 5]) := by kernel_rfl

/-- paravane/paravanelaw07.bound -/
abbrev F.law07_bound : Nat := 109
def ir.law07_bound : IC :=
 (.seq (.reg [.n 4 (.alloc [(.int .i64 0), (.int .i64 0)]) []])
   (.seq (.reg [.n 5 .mov [.t 0], .n 6 .mov [.t 1], .n 7 (.build [(.int .i64 0), (.int .i64 0)] [(0, 1), (1, 1)]) [.t 5, .t 6], .s (.store 2) [.t 4, .t 7]])
   .ret))
theorem chk.law07_bound : chkF Tryz.prog 109 = some (8, ir.law07_bound, [.cell 4 83]) := by kernel_rfl

/-- paravane/paravanelaw07.spot -/
abbrev F.law07_spot : Nat := 110
def ir.law07_spot : IC :=
 (.seq (.reg [.n 4 (.alloc [(.int .i64 0), (.int .i64 0), (.int .i64 0), (.int .i64 0), (.int .i64 0), (.int .i64 0), (.int .i64 0), (.int .i64 0)]) []])
   (.seq (.reg [.n 5 .mov [.t 0], .n 6 .mov [.t 0], .n 7 (.call 109) [.t 5, .t 6], .n 8 .mov [.t 1], .n 9 .mov [.t 1], .n 10 (.call 109) [.t 8, .t 9], .n 11 .mov [.t 0], .n 12 .mov [.t 1], .n 13 (.bin .add) [.t 11, .t 12], .n 14 .mov [.t 0], .n 15 .mov [.t 1], .n 16 (.bin .add) [.t 14, .t 15], .n 17 (.call 109) [.t 13, .t 16], .n 18 .mov [.t 0], .n 19 .mov [.t 1], .n 20 (.bin .sub) [.t 18, .t 19], .n 21 .mov [.t 0], .n 22 .mov [.t 1], .n 23 (.bin .sub) [.t 21, .t 22], .n 24 (.call 109) [.t 20, .t 23], .n 25 (.build [(.int .i64 0), (.int .i64 0), (.int .i64 0), (.int .i64 0), (.int .i64 0), (.int .i64 0), (.int .i64 0), (.int .i64 0)] [(0, 2), (2, 2), (4, 2), (6, 2)]) [.t 7, .t 10, .t 17, .t 24], .s (.store 8) [.t 4, .t 25]])
   .ret))
theorem chk.law07_spot : chkF Tryz.prog 110 = some (26, ir.law07_spot, [.cell 4 85]) := by kernel_rfl

/-- paravane/bin.Map$1 -/
abbrev F.bin_Map_1 : Nat := 111
def ir.bin_Map_1 : IC :=
 (.seq (.reg [.n 2 .mov [.c (.bool false)]])
   (.seq (.reg [.n 3 .mov [.t 0], .n 4 (.bin .lss) [.t 3, .i 0], .n 2 .mov [.t 4]])
   .ret))
theorem chk.bin_Map_1 : chkF Tryz.prog 111 = some (5, ir.bin_Map_1, [.tmp 2]) := by kernel_rfl

/-- paravane/paravaneref07.sure -/
abbrev F.ref07_sure : Nat := 112
def ir.ref07_sure : IC :=
 (.seq (.reg [.n 2 .mov [.c (.bool false)]])
   (.seq (.draw [0, 1, 3, 7, 15, 31, 63, 15, 255, 511, 1023] [.n 3 .mov [.t 0], .n 4 (.len false) [.t 3], .n 5 (.bin .eql) [.t 4, .i 1], .n 6 .mov [.t 5], .w 7 .mov [.t 0] 6 true, .w 8 (.iaddrS 2) [.t 7, .i 0] 6 true, .w 9 (.load 2 true) [.t 8] 6 true, .w 10 (.call 102) [] 6 true, .w 11 (.eqs true [0, 0]) [.t 9, .t 10] 6 true, .n 12 .pick [.t 6, .t 11, .c (.bool false)], .n 2 .mov [.t 12]])
   .ret))
theorem chk.ref07_sure : chkF Tryz.prog 112 = some (13, ir.ref07_sure, [.tmp 2]) := by kernel_rfl

/-- paravane/bin.needed$1 -/
abbrev F.bin_needed_1 : Nat := 113
def ir.bin_needed_1 : IC :=
 (.seq (.reg [.n 2 .mov [.c (.bool false)]])
   (.seq (.reg [.n 3 .mov [.t 0], .n 4 (.call 44) [.t 3, .i 0, .i 100], .n 5 (.un .not) [.t 4], .n 2 .mov [.t 5]])
   .ret))
theorem chk.bin_needed_1 : chkF Tryz.prog 113 = some (6, ir.bin_needed_1, [.tmp 2]) := by kernel_rfl

/-- paravane/bin.CheckInfill$1 -/
abbrev F.bin_CheckInfill_1 : Nat := 114
def ir.bin_CheckInfill_1 : IC :=
 (.seq (.reg [.n 2 .mov [.c (.bool false)]])
   (.seq (.reg [.n 3 .mov [.t 0], .n 4 (.call 44) [.t 3, .i 0, .i 100], .n 5 (.un .not) [.t 4], .n 2 .mov [.t 5]])
   .ret))
theorem chk.bin_CheckInfill_1 : chkF Tryz.prog 114 = some (6, ir.bin_CheckInfill_1, [.tmp 2]) := by kernel_rfl

/-- paravane/bin.sum[int] -/
abbrev F.bin_sum_int : Nat := 115
def ir.bin_sum_int : IC :=
 (.seq (.reg [.n 4 .mov [.i 0]])
   (.seq (.reg [.n 5 .mov [.i 0]])
   (.seq (.seq (.reg [.n 8 .mov [.t 0], .n 9 (.len false) [.t 8], .n 10 .mov [.i 0]])
   (.block 0 (.loop (.seq (.reg [.n 11 (.bin .lss) [.t 10, .t 9]])
   (.seq (.cond (.t 11) .skip (.exit 0))
   (.seq (.block 1 (.seq (.reg [.n 12 (.iaddrS 1) [.t 8, .t 10], .n 13 (.load 1 false) [.t 12], .n 7 .mov [.t 13]])
   (.reg [.n 14 .mov [.t 5], .n 15 .mov [.t 1], .n 16 .mov [.t 7], .n 17 .callv [.t 15, .t 16], .n 18 (.bin .add) [.t 14, .t 17], .n 5 .mov [.t 18]])))
   (.reg [.n 19 (.bin .add) [.t 10, .i 1], .n 10 .mov [.t 19]])))))))
   (.seq (.reg [.n 20 .mov [.t 5], .n 4 .mov [.t 20]])
   .ret))))
theorem chk.bin_sum_int : chkF Tryz.prog 115 = some (21, ir.bin_sum_int, [.tmp 4]) := by kernel_rfl

/-- paravane/bin.rests -/
abbrev F.bin_rests : Nat := 116
def ir.bin_rests : IC :=
 (.seq (.reg [.n 2 .box [.t 0], .n 4 .mov [.c .nils]])
   (.seq (.reg [.n 10 (.faddr 0) [.t 2], .n 11 (.load 1 false) [.t 10], .n 12 (.call 142) [.t 11], .n 5 .mov [.t 12]])
   (.seq (.seq (.reg [.n 13 .mov [.t 1], .n 14 (.call 91) [.t 13], .n 15 (.len false) [.t 14], .n 16 .mov [.i 0]])
   (.block 0 (.loop (.seq (.reg [.n 17 (.bin .lss) [.t 16, .t 15]])
   (.seq (.cond (.t 17) .skip (.exit 0))
   (.seq (.block 1 (.seq (.reg [.n 18 (.iaddrS 1) [.t 14, .t 16], .n 19 (.load 1 false) [.t 18], .n 7 .mov [.t 19]])
   (.seq (.reg [.n 20 (.faddr 1) [.t 2], .n 21 (.load 1 false) [.t 20], .n 22 .mov [.t 7], .n 23 (.iaddrS 2) [.t 21, .t 22], .n 24 (.faddr 1) [.t 23], .n 25 (.load 1 false) [.t 24], .n 26 (.len false) [.t 25], .n 27 .mov [.i 0]])
   (.block 2 (.loop (.seq (.reg [.n 28 (.bin .lss) [.t 27, .t 26]])
   (.seq (.cond (.t 28) .skip (.exit 2))
   (.seq (.block 3 (.seq (.reg [.n 29 .mov [.t 27], .n 30 (.iaddrS 1) [.t 25, .t 27], .n 31 (.load 1 false) [.t 30], .n 8 .mov [.t 29], .n 9 .mov [.t 31]])
   (.reg [.n 32 .mov [.t 5], .n 33 .mov [.t 8], .n 34 .mov [.t 5], .n 35 .mov [.t 8], .n 36 (.iaddrS 1) [.t 34, .t 35], .n 37 (.load 1 false) [.t 36], .n 38 .mov [.t 9], .n 39 (.bin .sub) [.t 37, .t 38], .n 40 (.minmax true) [.i 0, .t 39], .n 41 (.iaddrS 1) [.t 32, .t 33], .s (.store 1) [.t 41, .t 40]])))
   (.reg [.n 42 (.bin .add) [.t 27, .i 1], .n 27 .mov [.t 42]])))))))))
   (.reg [.n 43 (.bin .add) [.t 16, .i 1], .n 16 .mov [.t 43]])))))))
   (.seq (.reg [.n 44 .mov [.t 5], .n 4 .mov [.t 44]])
   .ret))))
theorem chk.bin_rests : chkF Tryz.prog 116 = some (45, ir.bin_rests, [.tmp 4]) := by kernel_rfl

/-- paravane/bin.covers$1 -/
abbrev F.bin_covers_1 : Nat := 117
def ir.bin_covers_1 : IC :=
 (.seq (.reg [.n 2 .mov [.i 0]])
   (.seq (.reg [.n 3 .mov [.t 0], .n 2 .mov [.t 3]])
   .ret))
theorem chk.bin_covers_1 : chkF Tryz.prog 117 = some (4, ir.bin_covers_1, [.tmp 2]) := by kernel_rfl

/-- slices.IndexFunc[[]int,int] -/
abbrev F.slices_IndexFunc_int_int : Nat := 123
def ir.slices_IndexFunc_int_int : IC :=
 (.seq (.reg [.n 4 .mov [.i 0]])
   (.seq (.seq (.reg [.n 6 .mov [.t 0], .n 7 (.len false) [.t 6], .n 8 .mov [.i 0]])
   (.block 0 (.loop (.seq (.reg [.n 9 (.bin .lss) [.t 8, .t 7]])
   (.seq (.cond (.t 9) .skip (.exit 0))
   (.seq (.block 1 (.seq (.reg [.n 10 .mov [.t 8], .n 5 .mov [.t 10]])
   (.seq (.reg [.n 11 .mov [.t 1], .n 12 .mov [.t 0], .n 13 .mov [.t 5], .n 14 (.iaddrS 1) [.t 12, .t 13], .n 15 (.load 1 false) [.t 14], .n 16 .callv [.t 11, .t 15]])
   (.cond (.t 16) (.seq (.reg [.n 17 .mov [.t 5], .n 4 .mov [.t 17]])
   .ret) .skip))))
   (.reg [.n 18 (.bin .add) [.t 8, .i 1], .n 8 .mov [.t 18]])))))))
   (.seq (.reg [.n 4 .mov [.i (-1)]])
   .ret)))
theorem chk.slices_IndexFunc_int_int : chkF Tryz.prog 123 = some (19, ir.slices_IndexFunc_int_int, [.tmp 4]) := by kernel_rfl

/-- paravane/bin.places -/
abbrev F.bin_places : Nat := 124
def ir.bin_places : IC :=
 (.seq (.reg [.n 1 .box [.t 0], .n 2 .mov [.c .nils]])
   (.seq (.reg [.n 3 .mov [.c .nils]])
   (.seq (.seq (.reg [.n 6 (.faddr 0) [.t 1], .n 7 (.faddr 0) [.t 6], .n 8 (.load 1 false) [.t 7], .n 4 .mov [.t 8]])
   (.block 0 (.loop (.seq (.seq (.reg [.n 9 .mov [.t 4], .n 10 (.faddr 0) [.t 1], .n 11 (.faddr 1) [.t 10], .n 12 (.load 1 false) [.t 11], .n 13 (.bin .leq) [.t 9, .t 12]])
   (.cond (.t 13) .skip (.exit 0)))
   (.seq (.block 1 (.seq (.reg [.n 16 (.faddr 2) [.t 1], .n 17 (.faddr 0) [.t 16], .n 18 (.load 1 false) [.t 17], .n 19 (.faddr 4) [.t 1], .n 20 (.faddr 0) [.t 19], .n 21 (.load 1 false) [.t 20], .n 22 .mov [.t 4], .n 23 (.bin .sub) [.t 21, .t 22], .n 24 .mov [.t 4], .n 25 (.faddr 6) [.t 1], .n 26 (.faddr 1) [.t 25], .n 27 (.load 1 false) [.t 26], .n 28 (.bin .sub) [.t 24, .t 27], .n 29 (.minmax true) [.t 18, .t 23, .t 28], .n 5 .mov [.t 29]])
   (.block 2 (.loop (.seq (.seq (.reg [.n 30 .mov [.t 5], .n 31 (.faddr 2) [.t 1], .n 32 (.faddr 1) [.t 31], .n 33 (.load 1 false) [.t 32], .n 34 (.faddr 4) [.t 1], .n 35 (.faddr 1) [.t 34], .n 36 (.load 1 false) [.t 35], .n 37 .mov [.t 4], .n 38 (.bin .sub) [.t 36, .t 37], .n 39 .mov [.t 4], .n 40 (.faddr 6) [.t 1], .n 41 (.faddr 0) [.t 40], .n 42 (.load 1 false) [.t 41], .n 43 (.bin .sub) [.t 39, .t 42], .n 44 (.minmax false) [.t 33, .t 38, .t 43], .n 45 (.bin .leq) [.t 30, .t 44]])
   (.cond (.t 45) .skip (.exit 2)))
   (.seq (.block 3 (.reg [.n 48 .mov [.t 3], .n 49 .mov [.t 4], .n 50 .mov [.t 5], .n 51 (.build [(.int .i64 0), (.int .i64 0)] [(0, 1), (1, 1)]) [.t 49, .t 50], .n 52 (.mkslice 2 23) [.t 51], .n 53 (.append 2 16 23) [.t 48, .t 52], .n 3 .mov [.t 53]]))
   (.reg [.n 46 .mov [.t 5], .n 47 (.bin .add) [.t 46, .i 1], .n 5 .mov [.t 47]])))))))
   (.reg [.n 14 .mov [.t 4], .n 15 (.bin .add) [.t 14, .i 1], .n 4 .mov [.t 15]]))))))
   (.seq (.reg [.n 54 .mov [.t 3], .n 2 .mov [.t 54]])
   .ret))))
theorem chk.bin_places : chkF Tryz.prog 124 = some (55, ir.bin_places, [.tmp 2]) := by kernel_rfl

/-- slices.Compare[[]int,int] -/
abbrev F.slices_Compare_int_int : Nat := 131
def ir.slices_Compare_int_int : IC :=
 (.seq (.reg [.n 4 .mov [.i 0]])
   (.seq (.seq (.reg [.n 9 .mov [.t 0], .n 10 (.len false) [.t 9], .n 11 .mov [.i 0]])
   (.block 0 (.loop (.seq (.reg [.n 12 (.bin .lss) [.t 11, .t 10]])
   (.seq (.cond (.t 12) .skip (.exit 0))
   (.seq (.block 1 (.seq (.reg [.n 13 .mov [.t 11], .n 14 (.iaddrS 1) [.t 9, .t 11], .n 15 (.load 1 false) [.t 14], .n 5 .mov [.t 13], .n 6 .mov [.t 15]])
   (.seq (.seq (.reg [.n 16 .mov [.t 5], .n 17 .mov [.t 1], .n 18 (.len false) [.t 17], .n 19 (.bin .geq) [.t 16, .t 18]])
   (.cond (.t 19) (.seq (.reg [.n 4 .mov [.i 1]])
   .ret) .skip))
   (.seq (.reg [.n 20 .mov [.t 1], .n 21 .mov [.t 5], .n 22 (.iaddrS 1) [.t 20, .t 21], .n 23 (.load 1 false) [.t 22], .n 7 .mov [.t 23]])
   (.seq (.reg [.n 24 .mov [.t 6], .n 25 .mov [.t 7], .n 26 (.call 148) [.t 24, .t 25], .n 8 .mov [.t 26]])
   (.seq (.reg [.n 27 .mov [.t 8], .n 28 (.bin .neq) [.t 27, .i 0]])
   (.cond (.t 28) (.seq (.reg [.n 29 .mov [.t 8], .n 4 .mov [.t 29]])
   .ret) .skip)))))))
   (.reg [.n 30 (.bin .add) [.t 11, .i 1], .n 11 .mov [.t 30]])))))))
   (.seq (.seq (.reg [.n 31 .mov [.t 0], .n 32 (.len false) [.t 31], .n 33 .mov [.t 1], .n 34 (.len false) [.t 33], .n 35 (.bin .lss) [.t 32, .t 34]])
   (.cond (.t 35) (.seq (.reg [.n 4 .mov [.i (-1)]])
   .ret) .skip))
   (.seq (.reg [.n 4 .mov [.i 0]])
   .ret))))
theorem chk.slices_Compare_int_int : chkF Tryz.prog 131 = some (36, ir.slices_Compare_int_int, [.tmp 4]) := by kernel_rfl

/-- paravane/bin.cost$1 -/
abbrev F.bin_cost_1 : Nat := 132
def ir.bin_cost_1 : IC :=
 (.seq (.reg [.n 3 .mov [.i 0]])
   (.seq (.reg [.n 4 (.faddr 1) [.t 1], .n 5 (.load 1 false) [.t 4], .n 6 .mov [.t 0], .n 7 (.iaddrS 2) [.t 5, .t 6], .n 8 (.faddr 0) [.t 7], .n 9 (.load 1 false) [.t 8], .n 3 .mov [.t 9]])
   .ret))
theorem chk.bin_cost_1 : chkF Tryz.prog 132 = some (10, ir.bin_cost_1, [.tmp 3]) := by kernel_rfl

/-- (paravane/region.limit).fits -/
abbrev F.region_limit_fits : Nat := 133
def ir.region_limit_fits : IC :=
 (.seq (.reg [.n 3 .box [.t 1], .n 4 .mov [.c (.bool false)]])
   (.seq (.reg [.n 5 (.faddr 0) [.t 3], .n 6 (.load 1 false) [.t 5], .n 7 .mov [.t 0], .n 8 (.un .neg) [.t 7], .n 9 (.bin .geq) [.t 6, .t 8], .n 10 .mov [.t 9], .w 11 (.faddr 0) [.t 3] 10 true, .w 12 (.load 1 false) [.t 11] 10 true, .w 13 (.faddr 1) [.t 3] 10 true, .w 14 (.load 1 false) [.t 13] 10 true, .w 15 (.bin .leq) [.t 12, .t 14] 10 true, .n 16 .pick [.t 10, .t 15, .c (.bool false)], .n 17 .mov [.t 16], .w 18 (.faddr 1) [.t 3] 17 true, .w 19 (.load 1 false) [.t 18] 17 true, .w 20 .mov [.t 0] 17 true, .w 21 (.bin .leq) [.t 19, .t 20] 17 true, .n 22 .pick [.t 17, .t 21, .c (.bool false)], .n 4 .mov [.t 22]])
   .ret))
theorem chk.region_limit_fits : chkF Tryz.prog 133 = some (23, ir.region_limit_fits, [.tmp 4]) := by kernel_rfl

/-- (paravane/region.four).rows$1 -/
abbrev F.region_four_rows_1 : Nat := 134
def ir.region_four_rows_1 : IC :=
 (.seq (.reg [.n 5 (.iaddrA 4 2) [.t 1, .i 0], .n 6 (.faddr 0) [.t 5], .n 7 (.load 1 false) [.t 6], .n 3 .mov [.t 7]])
   (.block 0 (.loop (.seq (.seq (.reg [.n 8 .mov [.t 3], .n 9 (.iaddrA 4 2) [.t 1, .i 0], .n 10 (.faddr 1) [.t 9], .n 11 (.load 1 false) [.t 10], .n 12 (.bin .leq) [.t 8, .t 11]])
   (.cond (.t 12) .skip (.exit 0)))
   (.seq (.block 1 (.seq (.reg [.n 15 .mov [.t 3], .n 16 (.iaddrA 4 2) [.t 1, .i 1], .n 17 (.faddr 0) [.t 16], .n 18 (.load 1 false) [.t 17], .n 19 (.iaddrA 4 2) [.t 1, .i 2], .n 20 (.faddr 0) [.t 19], .n 21 (.load 1 false) [.t 20], .n 22 .mov [.t 3], .n 23 (.bin .sub) [.t 21, .t 22], .n 24 .mov [.t 3], .n 25 (.iaddrA 4 2) [.t 1, .i 3], .n 26 (.faddr 1) [.t 25], .n 27 (.load 1 false) [.t 26], .n 28 (.bin .sub) [.t 24, .t 27], .n 29 (.minmax true) [.t 18, .t 23, .t 28], .n 30 (.iaddrA 4 2) [.t 1, .i 1], .n 31 (.faddr 1) [.t 30], .n 32 (.load 1 false) [.t 31], .n 33 (.iaddrA 4 2) [.t 1, .i 2], .n 34 (.faddr 1) [.t 33], .n 35 (.load 1 false) [.t 34], .n 36 .mov [.t 3], .n 37 (.bin .sub) [.t 35, .t 36], .n 38 .mov [.t 3], .n 39 (.iaddrA 4 2) [.t 1, .i 3], .n 40 (.faddr 0) [.t 39], .n 41 (.load 1 false) [.t 40], .n 42 (.bin .sub) [.t 38, .t 41], .n 43 (.minmax false) [.t 32, .t 37, .t 42], .n 44 (.build [(.int .i64 0), (.int .i64 0), (.int .i64 0)] [(0, 1), (1, 1), (2, 1)]) [.t 15, .t 29, .t 43], .n 4 (.alloc [(.int .i64 0), (.int .i64 0), (.int .i64 0)]) [], .s (.store 3) [.t 4, .t 44]])
   (.seq (.reg [.n 45 (.faddr 1) [.t 4], .n 46 (.load 1 false) [.t 45], .n 47 (.faddr 2) [.t 4], .n 48 (.load 1 false) [.t 47], .n 49 (.bin .leq) [.t 46, .t 48], .n 50 .mov [.t 49], .w 51 .mov [.t 0] 50 true, .w 52 (.load 3 true) [.t 4] 50 true, .w 53 .callv [.t 51, .t 52] 50 true, .w 54 (.un .not) [.t 53] 50 true, .n 55 .pick [.t 50, .t 54, .c (.bool false)]])
   (.cond (.t 55) .ret .skip))))
   (.reg [.n 13 .mov [.t 3], .n 14 (.bin .add) [.t 13, .i 1], .n 3 .mov [.t 14]]))))))
theorem chk.region_four_rows_1 : chkF Tryz.prog 134 = some (56, ir.region_four_rows_1, []) := by kernel_rfl

/-- paravane/paravaneref01.ends -/
abbrev F.ref01_ends : Nat := 135
def ir.ref01_ends : IC :=
 (.seq (.reg [.n 2 .box [.t 0], .n 4 .mov [.c (.bool false)]])
   (.seq (.reg [.n 5 (.faddr 0) [.t 2], .n 6 (.load 1 false) [.t 5], .n 7 .mov [.t 1], .n 8 (.un .neg) [.t 7], .n 9 (.bin .geq) [.t 6, .t 8], .n 10 .mov [.t 9], .w 11 (.faddr 0) [.t 2] 10 true, .w 12 (.load 1 false) [.t 11] 10 true, .w 13 (.faddr 1) [.t 2] 10 true, .w 14 (.load 1 false) [.t 13] 10 true, .w 15 (.bin .leq) [.t 12, .t 14] 10 true, .n 16 .pick [.t 10, .t 15, .c (.bool false)], .n 17 .mov [.t 16], .w 18 (.faddr 1) [.t 2] 17 true, .w 19 (.load 1 false) [.t 18] 17 true, .w 20 .mov [.t 1] 17 true, .w 21 (.bin .leq) [.t 19, .t 20] 17 true, .n 22 .pick [.t 17, .t 21, .c (.bool false)], .n 4 .mov [.t 22]])
   .ret))
theorem chk.ref01_ends : chkF Tryz.prog 135 = some (23, ir.ref01_ends, [.tmp 4]) := by kernel_rfl

/-- paravane/bin.pairs$1 -/
abbrev F.bin_pairs_1 : Nat := 136
def ir.bin_pairs_1 : IC :=
 (.seq (.reg [.n 8 (.load 1 false) [.t 1], .n 9 (.len false) [.t 8], .n 10 .mov [.i 0]])
   (.block 0 (.loop (.seq (.reg [.n 11 (.bin .lss) [.t 10, .t 9]])
   (.seq (.cond (.t 11) .skip (.exit 0))
   (.seq (.block 1 (.seq (.reg [.n 12 (.iaddrS 2) [.t 8, .t 10], .n 13 (.load 2 true) [.t 12], .n 5 (.alloc [(.int .i64 0), (.int .i64 0)]) [], .s (.store 2) [.t 5, .t 13]])
   (.seq (.reg [.n 14 (.load 1 false) [.t 2], .n 15 (.len false) [.t 14], .n 16 .mov [.i 0]])
   (.block 2 (.loop (.seq (.reg [.n 17 (.bin .lss) [.t 16, .t 15]])
   (.seq (.cond (.t 17) .skip (.exit 2))
   (.seq (.block 3 (.seq (.reg [.n 18 (.iaddrS 2) [.t 14, .t 16], .n 19 (.load 2 true) [.t 18], .n 7 (.alloc [(.int .i64 0), (.int .i64 0)]) [], .s (.store 2) [.t 7, .t 19]])
   (.seq (.reg [.n 20 .mov [.t 0], .n 21 (.load 2 true) [.t 5], .n 22 (.load 2 true) [.t 7], .n 23 .callv [.t 20, .t 21, .t 22], .n 24 (.un .not) [.t 23]])
   (.cond (.t 24) .ret .skip))))
   (.reg [.n 25 (.bin .add) [.t 16, .i 1], .n 16 .mov [.t 25]])))))))))
   (.reg [.n 26 (.bin .add) [.t 10, .i 1], .n 10 .mov [.t 26]])))))))
theorem chk.bin_pairs_1 : chkF Tryz.prog 136 = some (27, ir.bin_pairs_1, []) := by kernel_rfl

/-- paravane/paravaneref07.before -/
abbrev F.ref07_before : Nat := 139
def ir.ref07_before : IC :=
 (.seq (.reg [.n 2 .box [.t 0], .n 3 .box [.t 1], .n 4 .mov [.c (.bool false)]])
   (.seq (.reg [.n 5 (.faddr 0) [.t 2], .n 6 (.load 1 false) [.t 5], .n 7 (.faddr 0) [.t 3], .n 8 (.load 1 false) [.t 7], .n 9 (.bin .lss) [.t 6, .t 8], .n 10 .mov [.t 9], .w 11 (.faddr 0) [.t 2] 10 false, .w 12 (.load 1 false) [.t 11] 10 false, .w 13 (.faddr 0) [.t 3] 10 false, .w 14 (.load 1 false) [.t 13] 10 false, .w 15 (.bin .eql) [.t 12, .t 14] 10 false, .w 16 .mov [.t 15] 10 false, .w 17 (.faddr 1) [.t 2] 16 true, .w 18 (.load 1 false) [.t 17] 16 true, .w 19 (.faddr 1) [.t 3] 16 true, .w 20 (.load 1 false) [.t 19] 16 true, .w 21 (.bin .lss) [.t 18, .t 20] 16 true, .w 22 .pick [.t 16, .t 21, .c (.bool false)] 10 false, .n 23 .pick [.t 10, .c (.bool true), .t 22], .n 4 .mov [.t 23]])
   .ret))
theorem chk.ref07_before : chkF Tryz.prog 139 = some (24, ir.ref07_before, [.tmp 4]) := by kernel_rfl

/-- paravane/paravaneref01.hulls -/
abbrev F.ref01_hulls : Nat := 140
def ir.ref01_hulls : IC :=
 (.seq (.reg [.n 2 (.alloc [(.int .i64 0), (.int .i64 0), (.int .i64 0), (.int .i64 0), (.int .i64 0), (.int .i64 0), (.int .i64 0), (.int .i64 0)]) [], .n 3 .mov [.i 0]])
   (.seq (.reg [.n 6 (.build [(.int .i64 0), (.int .i64 0), (.int .i64 0), (.int .i64 0), (.int .i64 0), (.int .i64 0), (.int .i64 0), (.int .i64 0), (.bool false)] []) [], .n 7 .box [.t 6], .n 4 .mov [.t 7]])
   (.seq (.seq (.reg [.n 5 .mov [.i 0]])
   (.block 0 (.loop (.seq (.seq (.reg [.n 8 .mov [.t 5], .n 9 .mov [.t 0], .n 10 (.len false) [.t 9], .n 11 (.bin .lss) [.t 8, .t 10]])
   (.cond (.t 11) .skip (.exit 0)))
   (.seq (.block 1 (.reg [.n 14 .mov [.t 4], .n 15 .mov [.t 0], .n 16 .mov [.t 5], .n 17 (.iaddrS 8) [.t 15, .t 16], .n 18 (.load 8 true) [.t 17], .n 19 (.call 159) [.t 14, .t 18]]))
   (.reg [.n 12 .mov [.t 5], .n 13 (.bin .add) [.t 12, .i 1], .n 5 .mov [.t 13]]))))))
   (.seq (.seq (.reg [.n 20 .mov [.t 4], .n 21 .nilck [.t 20], .n 22 (.faddr 8) [.t 21], .n 23 (.load 1 false) [.t 22], .n 24 (.un .not) [.t 23]])
   (.cond (.t 24) (.seq (.reg [.n 25 (.build [(.int .i64 0), (.int .i64 0), (.int .i64 0), (.int .i64 0), (.int .i64 0), (.int .i64 0), (.int .i64 0), (.int .i64 0)] []) [], .s (.store 8) [.t 2, .t 25], .n 3 .mov [.i 4]])
   .ret) .skip))
   (.seq (.reg [.n 26 .mov [.t 4], .n 27 .nilck [.t 26], .n 28 (.faddr 0) [.t 27], .n 29 (.load 8 true) [.t 28], .s (.store 8) [.t 2, .t 29], .n 3 .mov [.i 0]])
   .ret)))))
theorem chk.ref01_hulls : chkF Tryz.prog 140 = some (30, ir.ref01_hulls, [.cell 2 85, .tmp 3]) := by kernel_rfl

/-- paravane/paravaneref01.lies -/
abbrev F.ref01_lies : Nat := 141
def ir.ref01_lies : IC :=
 (.seq (.reg [.n 2 .box [.t 0], .n 3 .box [.t 1], .n 4 .mov [.c (.bool false)]])
   (.seq (.reg [.n 5 (.faddr 0) [.t 3], .n 6 (.load 1 false) [.t 5], .n 7 (.faddr 0) [.t 2], .n 8 (.faddr 0) [.t 7], .n 9 (.load 1 false) [.t 8], .n 10 (.faddr 0) [.t 2], .n 11 (.faddr 1) [.t 10], .n 12 (.load 1 false) [.t 11], .n 13 (.call 39) [.t 6, .t 9, .t 12], .n 14 .mov [.t 13], .w 15 (.faddr 1) [.t 3] 14 true, .w 16 (.load 1 false) [.t 15] 14 true, .w 17 (.faddr 2) [.t 2] 14 true, .w 18 (.faddr 0) [.t 17] 14 true, .w 19 (.load 1 false) [.t 18] 14 true, .w 20 (.faddr 2) [.t 2] 14 true, .w 21 (.faddr 1) [.t 20] 14 true, .w 22 (.load 1 false) [.t 21] 14 true, .w 23 (.call 39) [.t 16, .t 19, .t 22] 14 true, .n 24 .pick [.t 14, .t 23, .c (.bool false)], .n 25 .mov [.t 24], .w 26 (.faddr 0) [.t 3] 25 true, .w 27 (.load 1 false) [.t 26] 25 true, .w 28 (.faddr 1) [.t 3] 25 true, .w 29 (.load 1 false) [.t 28] 25 true, .w 30 (.bin .add) [.t 27, .t 29] 25 true, .w 31 (.faddr 4) [.t 2] 25 true, .w 32 (.faddr 0) [.t 31] 25 true, .w 33 (.load 1 false) [.t 32] 25 true, .w 34 (.faddr 4) [.t 2] 25 true, .w 35 (.faddr 1) [.t 34] 25 true, .w 36 (.load 1 false) [.t 35] 25 true, .w 37 (.call 39) [.t 30, .t 33, .t 36] 25 true, .n 38 .pick [.t 25, .t 37, .c (.bool false)], .n 39 .mov [.t 38], .w 40 (.faddr 0) [.t 3] 39 true, .w 41 (.load 1 false) [.t 40] 39 true, .w 42 (.faddr 1) [.t 3] 39 true, .w 43 (.load 1 false) [.t 42] 39 true, .w 44 (.bin .sub) [.t 41, .t 43] 39 true, .w 45 (.faddr 6) [.t 2] 39 true, .w 46 (.faddr 0) [.t 45] 39 true, .w 47 (.load 1 false) [.t 46] 39 true, .w 48 (.faddr 6) [.t 2] 39 true, .w 49 (.faddr 1) [.t 48] 39 true, .w 50 (.load 1 false) [.t 49] 39 true, .w 51 (.call 39) [.t 44, .t 47, .t 50] 39 true, .n 52 .pick [.t 39, .t 51, .c (.bool false)], .n 4 .mov [.t 52]])
   .ret))
theorem chk.ref01_lies : chkF Tryz.prog 141 = some (53, ir.ref01_lies, [.tmp 4]) := by kernel_rfl

/-- slices.Clone[[]int,int] -/
abbrev F.slices_Clone_int_int : Nat := 142
def ir.slices_Clone_int_int : IC :=
 (.seq (.reg [.n 2 .mov [.c .nils]])
   (.seq (.seq (.reg [.n 3 .mov [.t 0], .n 4 (.raw 8 0 48) [.t 3, .c .nils]])
   (.cond (.t 4) (.seq (.reg [.n 2 .mov [.c .nils]])
   .ret) .skip))
   (.seq (.reg [.n 5 (.mkslice 1 3) [], .n 6 .mov [.t 0], .n 7 (.append 1 8 3) [.t 5, .t 6], .n 2 .mov [.t 7]])
   .ret)))
theorem chk.slices_Clone_int_int : chkF Tryz.prog 142 = some (8, ir.slices_Clone_int_int, [.tmp 2]) := by kernel_rfl

/-- cmp.Compare[int] -/
abbrev F.cmp_Compare_int : Nat := 148
def ir.cmp_Compare_int : IC :=
 (.seq (.reg [.n 4 .mov [.i 0]])
   (.seq (.reg [.n 7 .mov [.t 0], .n 8 (.call 161) [.t 7], .n 5 .mov [.t 8]])
   (.seq (.reg [.n 9 .mov [.t 1], .n 10 (.call 161) [.t 9], .n 6 .mov [.t 10]])
   (.seq (.seq (.reg [.n 11 .mov [.t 5]])
   (.cond (.t 11) (.seq (.seq (.reg [.n 12 .mov [.t 6]])
   (.cond (.t 12) (.seq (.reg [.n 4 .mov [.i 0]])
   .ret) .skip))
   (.seq (.reg [.n 4 .mov [.i (-1)]])
   .ret)) .skip))
   (.seq (.seq (.reg [.n 13 .mov [.t 6]])
   (.cond (.t 13) (.seq (.reg [.n 4 .mov [.i 1]])
   .ret) .skip))
   (.seq (.seq (.reg [.n 14 .mov [.t 0], .n 15 .mov [.t 1], .n 16 (.bin .lss) [.t 14, .t 15]])
   (.cond (.t 16) (.seq (.reg [.n 4 .mov [.i (-1)]])
   .ret) .skip))
   (.seq (.seq (.reg [.n 17 .mov [.t 0], .n 18 .mov [.t 1], .n 19 (.bin .gtr) [.t 17, .t 18]])
   (.cond (.t 19) (.seq (.reg [.n 4 .mov [.i 1]])
   .ret) .skip))
   (.seq (.reg [.n 4 .mov [.i 0]])
   .ret))))))))
theorem chk.cmp_Compare_int : chkF Tryz.prog 148 = some (20, ir.cmp_Compare_int, [.tmp 4]) := by kernel_rfl

/-- (*paravane/paravaneref01.Hull).fill -/
abbrev F.ref01_Hull_fill : Nat := 159
def ir.ref01_Hull_fill : IC :=
 (.seq (.reg [.n 3 .box [.t 1]])
   (.seq (.reg [.n 6 (.faddr 0) [.t 3], .n 7 (.faddr 0) [.t 6], .n 8 (.load 1 false) [.t 7], .n 4 .mov [.t 8]])
   (.block 0 (.loop (.seq (.seq (.reg [.n 9 .mov [.t 4], .n 10 (.faddr 0) [.t 3], .n 11 (.faddr 1) [.t 10], .n 12 (.load 1 false) [.t 11], .n 13 (.bin .leq) [.t 9, .t 12]])
   (.cond (.t 13) .skip (.exit 0)))
   (.seq (.block 1 (.seq (.reg [.n 16 (.load 8 true) [.t 3], .n 17 .mov [.t 4], .n 18 (.call 99) [.t 16, .t 17], .n 5 (.alloc [(.int .i64 0), (.int .i64 0), (.int .i64 0)]) [], .s (.store 3) [.t 5, .t 18]])
   (.seq (.reg [.n 19 (.faddr 1) [.t 5], .n 20 (.load 1 false) [.t 19], .n 21 (.faddr 2) [.t 5], .n 22 (.load 1 false) [.t 21], .n 23 (.bin .leq) [.t 20, .t 22]])
   (.cond (.t 23) (.seq (.reg [.n 24 .mov [.t 0], .n 25 .mov [.t 4], .n 26 (.faddr 1) [.t 5], .n 27 (.load 1 false) [.t 26], .n 28 (.build [(.int .i64 0), (.int .i64 0)] [(0, 1), (1, 1)]) [.t 25, .t 27], .n 29 (.call 167) [.t 24, .t 28]])
   (.reg [.n 30 .mov [.t 0], .n 31 .mov [.t 4], .n 32 (.faddr 2) [.t 5], .n 33 (.load 1 false) [.t 32], .n 34 (.build [(.int .i64 0), (.int .i64 0)] [(0, 1), (1, 1)]) [.t 31, .t 33], .n 35 (.call 167) [.t 30, .t 34]])) .skip))))
   (.reg [.n 14 .mov [.t 4], .n 15 (.bin .add) [.t 14, .i 1], .n 4 .mov [.t 15]])))))))
theorem chk.ref01_Hull_fill : chkF Tryz.prog 159 = some (36, ir.ref01_Hull_fill, []) := by kernel_rfl

/-- cmp.isNaN[int] -/
abbrev F.cmp_isNaN_int : Nat := 161
def ir.cmp_isNaN_int : IC :=
 (.seq (.reg [.n 2 .mov [.c (.bool false)]])
   (.seq (.reg [.n 3 .mov [.t 0], .n 4 .mov [.t 0], .n 5 (.bin .neq) [.t 3, .t 4], .n 2 .mov [.t 5]])
   .ret))
theorem chk.cmp_isNaN_int : chkF Tryz.prog 161 = some (6, ir.cmp_isNaN_int, [.tmp 2]) := by kernel_rfl

/-- (*paravane/paravaneref01.Hull).add -/
abbrev F.ref01_Hull_add : Nat := 167
def ir.ref01_Hull_add : IC :=
 (.seq (.reg [.n 3 .box [.t 1]])
   (.seq (.draw [0, 1, 0, 4, 15, 0, 32, 0, 128, 480, 31, 2047] [.n 6 (.faddr 0) [.t 3], .n 7 (.load 1 false) [.t 6], .n 8 (.faddr 1) [.t 3], .n 9 (.load 1 false) [.t 8], .n 10 (.bin .add) [.t 7, .t 9], .n 11 (.faddr 0) [.t 3], .n 12 (.load 1 false) [.t 11], .n 13 (.faddr 1) [.t 3], .n 14 (.load 1 false) [.t 13], .n 15 (.bin .sub) [.t 12, .t 14], .n 4 .mov [.t 10], .n 5 .mov [.t 15]])
   (.seq (.seq (.reg [.n 16 .mov [.t 0], .n 17 .nilck [.t 16], .n 18 (.faddr 8) [.t 17], .n 19 (.load 1 false) [.t 18], .n 20 (.un .not) [.t 19]])
   (.cond (.t 20) (.reg [.n 21 .mov [.t 0], .n 22 .mov [.t 0], .n 23 (.faddr 0) [.t 3], .n 24 (.load 1 false) [.t 23], .n 25 (.faddr 0) [.t 3], .n 26 (.load 1 false) [.t 25], .n 27 (.build [(.int .i64 0), (.int .i64 0)] [(0, 1), (1, 1)]) [.t 24, .t 26], .n 28 (.faddr 1) [.t 3], .n 29 (.load 1 false) [.t 28], .n 30 (.faddr 1) [.t 3], .n 31 (.load 1 false) [.t 30], .n 32 (.build [(.int .i64 0), (.int .i64 0)] [(0, 1), (1, 1)]) [.t 29, .t 31], .n 33 .mov [.t 4], .n 34 .mov [.t 4], .n 35 (.build [(.int .i64 0), (.int .i64 0)] [(0, 1), (1, 1)]) [.t 33, .t 34], .n 36 .mov [.t 5], .n 37 .mov [.t 5], .n 38 (.build [(.int .i64 0), (.int .i64 0)] [(0, 1), (1, 1)]) [.t 36, .t 37], .n 39 (.build [(.int .i64 0), (.int .i64 0), (.int .i64 0), (.int .i64 0), (.int .i64 0), (.int .i64 0), (.int .i64 0), (.int .i64 0)] [(0, 2), (2, 2), (4, 2), (6, 2)]) [.t 27, .t 32, .t 35, .t 38], .n 40 .nilck [.t 21], .n 41 (.faddr 0) [.t 40], .s (.store 8) [.t 41, .t 39], .n 42 .nilck [.t 22], .n 43 (.faddr 8) [.t 42], .s (.store 1) [.t 43, .c (.bool true)]]) .skip))
   (.draw [0, 0, 2, 6, 14, 30, 0, 64, 254, 0, 512, 1536, 3584, 7680, 0, 16384, 65534, 0, 131072, 393216, 917504, 1966080, 0, 8388606, 0, 16777216, 50331648, 117440512, 251658240, 0, 1073741822, 2147483646, 4294967295, 8589934591, 17179869183] [.n 44 .mov [.t 0], .n 45 .mov [.t 0], .n 46 .nilck [.t 45], .n 47 (.faddr 0) [.t 46], .n 48 (.faddr 0) [.t 47], .n 49 (.load 2 true) [.t 48], .n 50 (.faddr 0) [.t 3], .n 51 (.load 1 false) [.t 50], .n 52 (.call 169) [.t 49, .t 51], .n 53 .mov [.t 0], .n 54 .nilck [.t 53], .n 55 (.faddr 0) [.t 54], .n 56 (.faddr 2) [.t 55], .n 57 (.load 2 true) [.t 56], .n 58 (.faddr 1) [.t 3], .n 59 (.load 1 false) [.t 58], .n 60 (.call 169) [.t 57, .t 59], .n 61 .mov [.t 0], .n 62 .nilck [.t 61], .n 63 (.faddr 0) [.t 62], .n 64 (.faddr 4) [.t 63], .n 65 (.load 2 true) [.t 64], .n 66 .mov [.t 4], .n 67 (.call 169) [.t 65, .t 66], .n 68 .mov [.t 0], .n 69 .nilck [.t 68], .n 70 (.faddr 0) [.t 69], .n 71 (.faddr 6) [.t 70], .n 72 (.load 2 true) [.t 71], .n 73 .mov [.t 5], .n 74 (.call 169) [.t 72, .t 73], .n 75 (.build [(.int .i64 0), (.int .i64 0), (.int .i64 0), (.int .i64 0), (.int .i64 0), (.int .i64 0), (.int .i64 0), (.int .i64 0)] [(0, 2), (2, 2), (4, 2), (6, 2)]) [.t 52, .t 60, .t 67, .t 74], .n 76 .nilck [.t 44], .n 77 (.faddr 0) [.t 76], .s (.store 8) [.t 77, .t 75]]))))
theorem chk.ref01_Hull_add : chkF Tryz.prog 167 = some (78, ir.ref01_Hull_add, []) := by kernel_rfl

/-- paravane/paravaneref01.with -/
abbrev F.ref01_with : Nat := 169
def ir.ref01_with : IC :=
 (.seq (.reg [.n 2 .box [.t 0], .n 4 (.alloc [(.int .i64 0), (.int .i64 0)]) []])
   (.seq (.reg [.n 5 (.faddr 0) [.t 2], .n 6 (.load 1 false) [.t 5], .n 7 .mov [.t 1], .n 8 (.minmax false) [.t 6, .t 7], .n 9 (.faddr 1) [.t 2], .n 10 (.load 1 false) [.t 9], .n 11 .mov [.t 1], .n 12 (.minmax true) [.t 10, .t 11], .n 13 (.build [(.int .i64 0), (.int .i64 0)] [(0, 1), (1, 1)]) [.t 8, .t 12], .s (.store 2) [.t 4, .t 13]])
   .ret))
theorem chk.ref01_with : chkF Tryz.prog 169 = some (14, ir.ref01_with, [.cell 4 83]) := by kernel_rfl

end Go.Proofs.YtdejdblopmfjfaaGreatDoor

/-! AM, part Zg: sets of pairs of numbers in an arena: made, filled, gone through in whatever order. -/
set_option linter.unusedVariables false
set_option linter.unusedSimpArgs false
namespace Go.Am
open Go.RowKit

theorem setOk_law {P : Program} {kt e : TypeId} (hm : setOk P kt e = true) : Maps.Keyed P kt ∧ P.underlying e = some .bool ∧
    ∀ a b : Int, (-9223372036854775808 ≤ a ∧ a < 9223372036854775808) → (-9223372036854775808 ≤ b ∧ b < 9223372036854775808) → ∃ l, keyOf P kt (.agg #[.int .i64 a, .int .i64 b]) = some l := by
  unfold setOk at hm
  simp only [Bool.and_eq_true, decide_eq_true_eq, beq_iff_eq] at hm
  obtain ⟨⟨⟨⟨⟨⟨⟨h1, h2⟩, h3⟩, h4⟩, h5⟩, h6⟩, h7⟩, h8⟩ := hm
  have i64 : ∀ {t : TypeId}, isI64 P t = true → P.underlying t = some (.int .i64) := by
    intro t h
    unfold isI64 at h
    split at h
    · assumption
    · cases h
  refine ⟨Maps.Keyed.of_law (deep_law_laid h1 (m := 2) (by omega) h2 h3 ?_), ?_, ?_⟩
  · split at h8
    · rename_i fs hfs; rw [hfs]
    · cases h8
  · split at h5
    · assumption
    · cases h5
  · intro a b ha hb
    split at h8
    · rename_i fs hfs
      split at h8
      · rename_i f g hfg
        simp only [Bool.and_eq_true, beq_iff_eq, bne_iff_ne, ne_eq] at h8
        obtain ⟨⟨⟨⟨⟨⟨⟨g1, g2⟩, g3⟩, g4⟩, g5⟩, g6⟩, g7⟩, g8⟩ := h8
        have wf : ∀ n : Int, (-9223372036854775808 ≤ n ∧ n < 9223372036854775808) → (Lit.int .i64 n).wf = true := fun n hn => WalkArith.wf_i64 ⟨hn.1, by omega⟩
        obtain ⟨n, hn⟩ : ∃ n, P.types.size = n + 1 := by
          cases hs : P.types.size with
          | zero => rw [hs] at h2; exact absurd h2 (Nat.not_lt_zero _)
          | succ n => exact ⟨n, rfl⟩
        have hall : fs.all (fun f => f.name != "_") = true := by
          rw [← Array.all_toList, hfg]; simp [g1, g2]
        refine ⟨_, by
          unfold keyOf
          rw [hfs]
          simp only [h4, Value.formed, hfs, h7, Bool.true_and]
          rw [if_pos (by simp)]
          rw [hn]
          simp only [Program.keyLits, hfs, Value.cells]
          rw [if_pos ⟨by simp [h7], hall⟩, hfg]
          simp [g3, g4, g7, g8, i64 g5, i64 g6, wf a ha, wf b hb]
          rfl⟩
      · cases h8
    · cases h8

theorem setB_same {w : World} {b : Nat} {x : Obj} (h : w.heap[b]? = some x) (o : Obj) : (ChangeMaps.setBlock w b o).heap[b]? = some o := by
  have := (Array.getElem?_eq_some_iff.1 h).1
  simp [ChangeMaps.setBlock, this]

theorem setB_other {w : World} {b k : Nat} (o : Obj) (h : k ≠ b) : (ChangeMaps.setBlock w b o).heap[k]? = w.heap[k]? := by
  simp only [ChangeMaps.setBlock]
  rw [Array.getElem?_setIfInBounds_ne (fun e => h e.symm)]

def keyV (k : Int × Int) : Value := .agg #[.int .i64 k.1, .int .i64 k.2]

theorem keyV_inj {a b : Int × Int} (h : keyV a = keyV b) : a = b := by
  unfold keyV at h
  simp only [Value.agg.injEq, Array.mk.injEq, List.cons.injEq, Value.int.injEq, true_and, and_true] at h
  exact Prod.ext h.1 h.2

/-- A map that holds just these keys, each with 'true'. -/
structure SetIs (es : Array MapEntry) (clock : Nat) (ks : List (Int × Int)) : Prop where
  st : MapKept.Stamped es clock
  max : es.size ≤ 100000
  ent : ∀ e ∈ es.toList, ∃ k ∈ ks, e.key = keyV k ∧ e.val = .bool true
  all : ∀ k ∈ ks, (inI k.1 ∧ inI k.2) ∧ ∃ e ∈ es.toList, e.key = keyV k
  nd : es.toList.Pairwise fun x y => x.key ≠ y.key

theorem SetIs.made : SetIs #[] 0 [] := ⟨MapKept.stamped_empty 0, by simp, by simp, by simp, by simp⟩

theorem SetIs.fit {P : Program} {kt e : TypeId} {es : Array MapEntry} {clock : Nat} {ks : List (Int × Int)} (hm : setOk P kt e = true) (h : SetIs es clock ks) : WideElems.Fit (H := Unit) P kt (Go.plainElem P e) es clock := by
  obtain ⟨K, hu, hkey⟩ := setOk_law hm
  refine ⟨by have := h.max; unfold maxLen; omega, h.st, fun x hx => ?_⟩
  obtain ⟨k, hk, k1, k2⟩ := h.ent x hx
  obtain ⟨⟨i1, i2⟩, _⟩ := h.all k hk
  obtain ⟨kl, hkl⟩ := hkey k.1 k.2 i1 i2
  unfold WideElems.rd
  rw [k1, keyV, hkl, k2, Go.plainElem_bool hu]
  exact ⟨_, rfl⟩

/-- A key is put. -/
theorem SetIs.put {P : Program} {t kt e : TypeId} {w : World} {mb : Nat} {es : Array MapEntry} {clock : Nat} {ks : List (Int × Int)} (hm : setOk P kt e = true) (ht : P.underlying t = some (.map kt e)) (hb : w.heap[mb]? = some (.map es clock)) (h : SetIs es clock ks) {k : Int × Int} (hk : inI k.1 ∧ inI k.2) (hroom : es.size < 100000) :
    ∃ es' clock', (Instr.mapUpdate t (.map (some mb)) (keyV k) (.bool true)).run P w = .ok () (ChangeMaps.setBlock w mb (.map es' clock')) ∧ SetIs es' clock' (ks ++ [k]) ∧ es'.size ≤ es.size + 1 := by
  obtain ⟨K, hu, hkey⟩ := setOk_law hm
  obtain ⟨kl, hkl⟩ := hkey k.1 k.2 hk.1 hk.2
  have F := h.fit hm
  obtain ⟨es', clock', hrun, F', hput, _, _, hall⟩ := Maps.fit_store (R' := Go.plainElem (H := Unit) P e) K ht hb F (by have := h.max; unfold maxLen; omega) (fun _ _ _ _ hz => hz) hkl (Go.plainElem_bool hu true)
  have hsz : es'.size ≤ es.size + 1 := by
    have e1 : es'.size = ((es'.toList.map (WideElems.rg P kt (Go.plainElem (H := Unit) P e))).foldr DataW.insert []).length := by rw [Go.length_sorted]; simp
    rw [e1, hput]
    unfold ChangeMaps.putKey
    rw [Go.length_insert]
    have e2 := List.length_filter_le (ChangeMaps.notKey kl) ((es.toList.map (WideElems.rg P kt (Go.plainElem (H := Unit) P e))).foldr DataW.insert [])
    rw [Go.length_sorted] at e2
    simp at e2
    omega
  have hnd' : es'.toList.Pairwise fun x y => x.key ≠ y.key := by
    have key1 : ∀ x ∈ es.toList, keyOf P kt x.key = some (WideElems.rg P kt (Go.plainElem (H := Unit) P e) x).1 := fun x hx => by
      obtain ⟨y, hy⟩ := F.reads x hx
      rw [WideElems.rg_of hy]; exact WideElems.rd_key hy
    have key2 : ∀ x ∈ es'.toList, keyOf P kt x.key = some (WideElems.rg P kt (Go.plainElem (H := Unit) P e) x).1 := fun x hx => by
      obtain ⟨y, hy⟩ := F'.reads x hx
      rw [WideElems.rg_of hy]; exact WideElems.rd_key hy
    have n1 : ((es.toList.map (WideElems.rg P kt (Go.plainElem (H := Unit) P e))).map (·.1)).Nodup := by
      rw [List.map_map]
      unfold List.Nodup
      rw [List.pairwise_map]
      refine h.nd.imp_of_mem fun {x y} hx hy hne e => hne ?_
      exact K.inj (key1 x hx) (by rw [key1 y hy]; exact congrArg some e.symm)
    have n2 : (((es.toList.map (WideElems.rg P kt (Go.plainElem (H := Unit) P e))).foldr DataW.insert []).map (·.1)).Nodup := (((WideShapes.sorted_perm _).map _).nodup_iff).2 n1
    have n3 : (((es'.toList.map (WideElems.rg P kt (Go.plainElem (H := Unit) P e))).foldr DataW.insert []).map (·.1)).Nodup := by
      rw [hput]
      unfold ChangeMaps.putKey
      refine (((WideShapes.insert_perm _ _).map _).nodup_iff).2 ?_
      rw [List.map_cons, List.nodup_cons]
      refine ⟨fun hm => ?_, n2.sublist (List.Sublist.map _ List.filter_sublist)⟩
      obtain ⟨q, hq, e⟩ := List.mem_map.1 hm
      exact (Maps.notKey_iff (K.key hkl)).1 (List.mem_filter.1 hq).2 e
    have n4 : ((es'.toList.map (WideElems.rg P kt (Go.plainElem (H := Unit) P e))).map (·.1)).Nodup := (((WideShapes.sorted_perm _).map _).nodup_iff).1 n3
    rw [List.map_map] at n4
    unfold List.Nodup at n4
    rw [List.pairwise_map] at n4
    refine n4.imp_of_mem fun {x y} hx hy hne e => hne ?_
    have e1 := key2 x hx
    rw [e, key2 y hy] at e1
    exact (Option.some.inj e1).symm
  refine ⟨es', clock', hrun, ⟨F'.stamped, by omega, fun x hx => ?_, fun j hj => ?_, hnd'⟩, hsz⟩
  · rcases hall x hx with ⟨hx1, _⟩ | ⟨hx1, hx2⟩
    · obtain ⟨j, hj, j1, j2⟩ := h.ent x hx1
      exact ⟨j, by simp [hj], j1, j2⟩
    · exact ⟨k, by simp, hx1, hx2⟩
  · have hmem : ∀ q, q ∈ es'.toList.map (WideElems.rg P kt (Go.plainElem (H := Unit) P e)) ↔ q ∈ ChangeMaps.putKey kl (.lit (.bool true)) ((es.toList.map (WideElems.rg P kt (Go.plainElem (H := Unit) P e))).foldr DataW.insert []) := fun q => by
      rw [← hput, (WideShapes.sorted_perm _).mem_iff]
    have key_of : ∀ x ∈ es'.toList, ∀ l d, WideElems.rg P kt (Go.plainElem (H := Unit) P e) x = (l, d) → keyOf P kt x.key = some l := fun x hx l d hxe => by
      obtain ⟨y, hy⟩ := F'.reads x hx
      have := WideElems.rd_key hy
      rw [WideElems.rg_of hy] at hxe
      rw [this, hxe]
    have last : ∃ x ∈ es'.toList, x.key = keyV k := by
      have : (kl, DataW.lit (.bool true)) ∈ es'.toList.map (WideElems.rg P kt (Go.plainElem (H := Unit) P e)) := by
        rw [hmem]; unfold ChangeMaps.putKey; rw [ChangeMaps.mem_insert_iff]; exact .inl rfl
      obtain ⟨x, hx, hxe⟩ := List.mem_map.1 this
      exact ⟨x, hx, K.inj (key_of x hx _ _ hxe) hkl⟩
    rcases List.mem_append.1 hj with hj | hj
    · obtain ⟨hi, x0, hx0, hk0⟩ := h.all j hj
      refine ⟨hi, ?_⟩
      by_cases ejk : j = k
      · subst ejk; exact last
      obtain ⟨y0, hy0⟩ := F.reads x0 hx0
      have hk1 := WideElems.rd_key hy0
      have hne : y0.1 ≠ kl := fun he => by
        rw [he] at hk1
        have := K.inj hk1 hkl
        rw [hk0] at this
        exact ejk (keyV_inj this)
      have : y0 ∈ es'.toList.map (WideElems.rg P kt (Go.plainElem (H := Unit) P e)) := by
        rw [hmem]; unfold ChangeMaps.putKey; rw [ChangeMaps.mem_insert_iff]
        refine .inr (List.mem_filter.2 ⟨?_, ?_⟩)
        · rw [(WideShapes.sorted_perm _).mem_iff]
          exact List.mem_map.2 ⟨x0, hx0, WideElems.rg_of hy0⟩
        · exact (Maps.notKey_iff (K.key hkl)).2 hne
      obtain ⟨x1, hx1, hxe⟩ := List.mem_map.1 this
      refine ⟨x1, hx1, ?_⟩
      have := K.inj (key_of x1 hx1 y0.1 y0.2 hxe) hk1
      rw [this, hk0]
    · obtain rfl : j = k := by simpa using hj
      exact ⟨hk, last⟩

theorem opK_raw0 {P : Program} {o : Oper} {os : List Operand} {t u : Nat} (hk : opK P o.op = some (.raw 0 t u, os)) : ∃ kt e, o.op = .makeMap t none ∧ P.underlying t = some (.map kt e) ∧ setOk P kt e = true ∧ os = [] := by
  cases ho : o.op <;> rw [ho] at hk <;> simp only [opK] at hk <;> (try (cases hk; done)) <;> (try (repeat' (split at hk <;> (try (cases hk; done)))))
  all_goals first
    | (simp only [Option.map_eq_some_iff, Prod.mk.injEq] at hk; obtain ⟨_, _, h1, _⟩ := hk; cases h1; done)
    | (simp only [eqKind] at hk; repeat' (split at hk <;> (try (cases hk; done))))
    | (cases hk; exact ⟨_, _, rfl, by assumption, by assumption, rfl⟩)

theorem opK_raw1 {P : Program} {o : Oper} {os : List Operand} {t u : Nat} (hk : opK P o.op = some (.raw 1 t u, os)) : ∃ p q r kt e, o.op = .mapUpdate t p q r ∧ P.underlying t = some (.map kt e) ∧ setOk P kt e = true ∧ os = [p, q, r] := by
  cases ho : o.op <;> rw [ho] at hk <;> simp only [opK] at hk <;> (try (cases hk; done)) <;> (try (repeat' (split at hk <;> (try (cases hk; done)))))
  all_goals first
    | (simp only [Option.map_eq_some_iff, Prod.mk.injEq] at hk; obtain ⟨_, _, h1, _⟩ := hk; cases h1; done)
    | (simp only [eqKind] at hk; repeat' (split at hk <;> (try (cases hk; done))))
    | (cases hk; exact ⟨_, _, _, _, _, rfl, by assumption, by assumption, rfl⟩)

theorem opK_raw2 {P : Program} {o : Oper} {os : List Operand} {t u : Nat} (hk : opK P o.op = some (.raw 2 t u, os)) : ∃ p kt e, o.op = .range t p ∧ P.underlying t = some (.map kt e) ∧ setOk P kt e = true ∧ os = [p] := by
  cases ho : o.op <;> rw [ho] at hk <;> simp only [opK] at hk <;> (try (cases hk; done)) <;> (try (repeat' (split at hk <;> (try (cases hk; done)))))
  all_goals first
    | (simp only [Option.map_eq_some_iff, Prod.mk.injEq] at hk; obtain ⟨_, _, h1, _⟩ := hk; cases h1; done)
    | (simp only [eqKind] at hk; repeat' (split at hk <;> (try (cases hk; done))))
    | (cases hk; exact ⟨_, _, _, rfl, by assumption, by assumption, rfl⟩)

theorem opK_raw3 {P : Program} {o : Oper} {os : List Operand} {t u : Nat} (hk : opK P o.op = some (.raw 3 t u, os)) : ∃ p, o.op = .next p false ∧ os = [p] := by
  cases ho : o.op <;> rw [ho] at hk <;> simp only [opK] at hk <;> (try (cases hk; done)) <;> (try (repeat' (split at hk <;> (try (cases hk; done)))))
  all_goals first
    | (simp only [Option.map_eq_some_iff, Prod.mk.injEq] at hk; obtain ⟨_, _, h1, _⟩ := hk; cases h1; done)
    | (simp only [eqKind] at hk; repeat' (split at hk <;> (try (cases hk; done))))
    | (cases hk; exact ⟨_, by simp_all, rfl⟩)

theorem opK_raw4 {P : Program} {o : Oper} {os : List Operand} {t u : Nat} (hk : opK P o.op = some (.raw 4 t u, os)) : ∃ p, o.op = .entry p ∧ os = [p] := by
  cases ho : o.op <;> rw [ho] at hk <;> simp only [opK] at hk <;> (try (cases hk; done)) <;> (try (repeat' (split at hk <;> (try (cases hk; done)))))
  all_goals first
    | (simp only [Option.map_eq_some_iff, Prod.mk.injEq] at hk; obtain ⟨_, _, h1, _⟩ := hk; cases h1; done)
    | (simp only [eqKind] at hk; repeat' (split at hk <;> (try (cases hk; done))))
    | (cases hk; exact ⟨_, rfl, rfl⟩)

section
variable {E : Env} {S0 : Sur} {l0 : List (List V)} {s0 : Bool} {A : Arena}

theorem ok_rmap {σ : FSt} {h : Gh} {w : World} {blk : Nat} {x : Value} (o : Ok σ h w (.rmap blk) x) : x = .map (some blk) := by
  obtain ⟨r, _⟩ := o
  cases r with
  | data r => cases r; rfl

theorem ok_pair {σ : FSt} {h : Gh} {w : World} {a b : Int} {x : Value} (o : Ok σ h w (.agg [.int .i64 a, .int .i64 b]) x) : x = keyV (a, b) := by
  obtain ⟨ws, hw, hlen, hh⟩ := ok_agg o
  rw [hw]
  obtain ⟨ws⟩ := ws
  match ws, hlen with
  | [y, z], _ => rw [rep_int (hh 0 _ y rfl rfl).1, rep_int (hh 1 _ z rfl rfl).1]; rfl

theorem rel_putA {B : Arena} {s : St} {a : Act} {w' : World} {h : Gh} {o : Oper} {os : List Operand} {slots : List (Option Nat)} {ins : Ins} {v : V} {x : Value} (cc : Comp E.P E.nt slots o ins os) (R2 : E.relF (encA B) s.stp s.fs a w' h) (ok : Ok s.fs h w' v x) {d : Nat} (hd : ins.d = some d) : E.rel { s.put (some d) v with log := encA B } (a.put o.dst x) w' h := by
  have R3 := rel_after (eff := { v := v }) cc R2 R2.1 ok rfl
  rw [hd] at R3
  show E.relF (encA B) s.stp (s.put (some d) v).fs _ _ _
  rw [fs_put]
  exact R3

/-- A new object in the arena. -/
theorem InA.fresh (hE : InA E S0 l0 s0) {stp : Bool} {σ : FSt} {a : Act} {w : World} {h : Gh} (R : E.relF (encA A) stp σ a w h) (ob : Obj) (o : Ob) (ho : Ext w h.φ (w.alloc ob) h.φ → ObOk (w.alloc ob) h.φ w.heap.size o) : E.relF (encA ((w.heap.size, o) :: A)) stp σ a (w.alloc ob) h ∧ w.heap.size ∉ A.map (·.1) := by
  have hAr := hE.ar R
  have hn : w.heap.size ∉ A.map (·.1) := fun hm => by
    obtain ⟨p, hp, e⟩ := List.mem_map.1 hm
    have := hAr.lt p hp; omega
  have hsz : (w.alloc ob).heap.size = w.heap.size + 1 := by
    show (w.heap.push ob).size = _
    rw [Array.size_push]
  refine ⟨hE.step R (fun b hb _ => heap_alloc_old w ob hb) (by omega) rfl rfl rfl (fun p hp => ?_) (fun p hp => by simp; exact .inr ⟨p.2, hp⟩) (by simp only [List.map_cons, List.nodup_cons]; exact ⟨hn, hAr.nd⟩) (fun ext p hp => ?_) (fun p hp => ?_), hn⟩
  · rcases List.mem_cons.1 hp with rfl | hp
    · exact .inr (Nat.le_refl _)
    · exact .inl (List.mem_map.2 ⟨p, hp, rfl⟩)
  · rcases List.mem_cons.1 hp with rfl | hp
    · exact ho ext
    · exact (hAr.ok p hp).mono (heap_alloc_old w ob (hAr.lt p hp)) ext
  · rcases List.mem_cons.1 hp with rfl | hp
    · simp only; omega
    · have := hAr.lt p hp; omega

/-- One object is turned. -/
theorem InA.turn (hE : InA E S0 l0 s0) {stp : Bool} {σ : FSt} {a : Act} {w w' : World} {h : Gh} (R : E.relF (encA A) stp σ a w h) {b : Nat} {o1 : Ob} (hA : (b, o1) ∈ A) (o : Ob) (hold : ∀ k, k ≠ b → w'.heap[k]? = w.heap[k]?) (hsz : w'.heap.size = w.heap.size) (hos : w'.os = w.os) (htp : w'.tape = w.tape) (hou : w'.output = w.output)
    (ho : Ext w h.φ w' h.φ → ObOk w' h.φ b o) : E.relF (encA (setA A b o)) stp σ a w' h := by
  have hAr := hE.ar R
  have key : ∀ p ∈ setA A b o, p.1 ∈ A.map (·.1) := fun p hp => by rw [← setA_keys A b o]; exact List.mem_map.2 ⟨p, hp, rfl⟩
  refine hE.step R (fun k hk hn => hold k fun e => hn (e ▸ List.mem_map.2 ⟨_, hA, rfl⟩)) (by omega) hos htp hou (fun p hp => .inl (key p hp)) (fun p hp => by rw [setA_keys]; exact List.mem_map.2 ⟨p, hp, rfl⟩) (by rw [setA_keys]; exact hAr.nd) (fun ext p hp => ?_) (fun p hp => ?_)
  · rcases setA_mem hp with ⟨e, e'⟩ | ⟨hne, hp⟩
    · rw [e, e']; exact ho ext
    · exact (hAr.ok p hp).mono (hold _ hne) ext
  · obtain ⟨q, hq, e⟩ := List.mem_map.1 (key p hp)
    have := hAr.lt q hq
    rw [← e]; omega

/-- A set is made. -/
theorem Steps.mkset (hE : InA E S0 l0 s0) {K : St → Prop} {s : St} {d t u : Nat} {rest : List Ins} (hl : s.log = encA A)
    (hk : ∀ mb, mb ∉ A.map (·.1) → Steps E rest K { s.put (some d) (.rmap mb) with log := encA ((mb, .raw (.map #[] 0)) :: A) }) : Steps E (⟨some d, .raw 0 t u, [], none⟩ :: rest) K s := by
  refine Step1.raw fun slots ops o i ro n a w h hc hs hi R Q next hn => ?_
  obtain ⟨os, cc⟩ := comp_of hc
  obtain ⟨kt, e, e1, e2, e3, rfl⟩ := opK_raw0 cc.op
  have R' : E.relF (encA A) s.stp s.fs a w h := by rw [← hl]; exact R
  obtain ⟨R2, hnm⟩ := hE.fresh R' (.map #[] 0) (.raw (.map #[] 0)) (fun _ => heap_alloc_new w _)
  refine wpOp_done hi (wanted_none (guard_none cc rfl)) (opK_defer cc.op) (.inl ?_) (hn _ _ _ h (hk _ hnm) (rel_putA cc R2 (.data (.rmap _)) rfl) rfl)
  simp only [execOp, e1, Sem.run_bind]
  rfl

/-- A key is put. -/
theorem Steps.setput (hE : InA E S0 l0 s0) {K : St → Prop} {s : St} {t u : Nat} {x y z : X} {rest : List Ins} {mb : Nat} {es : Array MapEntry} {clock : Nat} {ks : List (Int × Int)} {k : Int × Int} (hx : evXs s.env [x, y, z] = some [.rmap mb, .agg [.int .i64 k.1, .int .i64 k.2], .bool true]) (hl : s.log = encA A)
    (hA : (mb, .raw (.map es clock)) ∈ A) (hS : SetIs es clock ks) (hi64 : inI k.1 ∧ inI k.2) (hroom : es.size < 100000)
    (hk : ∀ es' clock', SetIs es' clock' (ks ++ [k]) → es'.size ≤ es.size + 1 → Steps E rest K { s with log := encA (setA A mb (.raw (.map es' clock'))) }) : Steps E (⟨none, .raw 1 t u, [x, y, z], none⟩ :: rest) K s := by
  refine Step1.raw fun slots ops o i ro n a w h hc hs hi R Q next hn => ?_
  obtain ⟨os, cc⟩ := comp_of hc
  obtain ⟨p, q, r, kt, e, e1, e2, e3, rfl⟩ := opK_raw1 cc.op
  obtain ⟨v1, v2, v3, hu, o1, o2, o3⟩ := (opds_of R.1 cc.xs (evXs_ok hx)).three
  simp only [List.cons.injEq, and_true] at hu
  obtain ⟨hu1, hu2, hu3⟩ := hu
  subst hu1 hu2 hu3
  have R' : E.relF (encA A) s.stp s.fs a w h := by rw [← hl]; exact R
  have hb : w.heap[mb]? = some (.map es clock) := (hE.ar R').ok _ hA
  obtain ⟨es', clock', hrun, hS', hsz⟩ := hS.put e3 e2 hb hi64 hroom
  have R2 := hE.turn R' hA (.raw (.map es' clock')) (w' := ChangeMaps.setBlock w mb (.map es' clock')) (fun k hk => setB_other _ hk) (by simp [ChangeMaps.setBlock]) rfl rfl rfl (fun _ => setB_same hb _)
  have hd : o.dst = none := cc.d.symm
  have R3 : E.rel { s with log := encA (setA A mb (.raw (.map es' clock'))) } (a.put o.dst undef) (ChangeMaps.setBlock w mb (.map es' clock')) h := by rw [hd]; exact R2
  have o3' : a.eval r = .bool true := by
    obtain ⟨rr, _⟩ := o3
    revert rr
    generalize a.eval r = zz
    intro rr
    cases rr with
    | data rr => cases rr; rfl
  refine wpOp_done (x := undef) hi (wanted_none (guard_none cc rfl)) (opK_defer cc.op) (.inr ⟨?_, rfl⟩) (hn _ _ _ h (hk _ _ hS' hsz) R3 rfl)
  simp only [execOp, e1, ok_rmap o1, ok_pair o2, o3', Sem.run_bind]
  rw [hrun]; rfl

/-- A set is gone through. -/
theorem Steps.mrange (hE : InA E S0 l0 s0) {K : St → Prop} {s : St} {d t u : Nat} {x : X} {rest : List Ins} {mb : Nat} {es : Array MapEntry} {clock : Nat} (hx : evXs s.env [x] = some [.rmap mb]) (hl : s.log = encA A) (hA : (mb, .raw (.map es clock)) ∈ A)
    (hk : ∀ ib, ib ∉ A.map (·.1) → Steps E rest K { s.put (some d) (.rptr ib 0) with log := encA ((ib, .raw (.mapIter (some mb) clock #[] clock)) :: A) }) : Steps E (⟨some d, .raw 2 t u, [x], none⟩ :: rest) K s := by
  refine Step1.raw fun slots ops o i ro n a w h hc hs hi R Q next hn => ?_
  obtain ⟨os, cc⟩ := comp_of hc
  obtain ⟨p, kt, e, e1, e2, e3, rfl⟩ := opK_raw2 cc.op
  obtain ⟨v, hu, o1⟩ := (opds_of R.1 cc.xs (evXs_ok hx)).one
  simp only [List.cons.injEq, and_true] at hu
  subst hu
  have R' : E.relF (encA A) s.stp s.fs a w h := by rw [← hl]; exact R
  have hb : w.heap[mb]? = some (.map es clock) := (hE.ar R').ok _ hA
  obtain ⟨R2, hnm⟩ := hE.fresh R' (.mapIter (some mb) clock #[] clock) (.raw (.mapIter (some mb) clock #[] clock)) (fun _ => heap_alloc_new w _)
  refine wpOp_done hi (wanted_none (guard_none cc rfl)) (opK_defer cc.op) (.inl ?_) (hn _ _ _ h (hk _ hnm) (rel_putA cc R2 (.data (.rptr _ _)) rfl) rfl)
  simp only [execOp, e1, ok_rmap o1, Sem.run_bind]
  rw [run_range_map w t kt e mb es clock e2 hb]; rfl

theorem relF_drew {σ : FSt} {a : Act} {w : World} {h : Gh} (R : E.relF l0 s0 σ a w h) : E.relF l0 s0 σ a w.drew h := ⟨R.1.drew E.ok, R.2⟩

/-- The next one, whichever it is. -/
theorem Steps.mnext (hE : InA E S0 l0 s0) {K : St → Prop} {s : St} {d t u : Nat} {x : X} {rest : List Ins} {ib mb since c0 : Nat} {seen : Array Nat} {es : Array MapEntry} {clock : Nat} {ks : List (Int × Int)} (hx : evXs s.env [x] = some [.rptr ib 0]) (hl : s.log = encA A)
    (hI : (ib, .raw (.mapIter (some mb) since seen c0)) ∈ A) (hM : (mb, .raw (.map es clock)) ∈ A) (hS : SetIs es clock ks) (hold : ∀ e ∈ es.toList, e.born < since) (hsc : since ≤ c0)
    (h0 : (leftOf es seen).size = 0 → Steps E rest K (s.put (some d) (.tuple [.bool false])))
    (h1 : ∀ e ∈ (leftOf es seen).toList, ∀ k ∈ ks, e.key = keyV k → e.val = .bool true → Steps E rest K { s.put (some d) (.tuple [.bool true, .agg [.int .i64 k.1, .int .i64 k.2], .bool true]) with log := encA (setA A ib (.raw (.mapIter (some mb) since (seen.push e.born) clock))) }) : Steps E (⟨some d, .raw 3 t u, [x], none⟩ :: rest) K s := by
  refine Step1.raw fun slots ops o i ro n a w h hc hs hi R Q next hn => ?_
  obtain ⟨os, cc⟩ := comp_of hc
  obtain ⟨p, e1, rfl⟩ := opK_raw3 cc.op
  obtain ⟨v, hu, o1⟩ := (opds_of R.1 cc.xs (evXs_ok hx)).one
  simp only [List.cons.injEq, and_true] at hu
  subst hu
  have R' : E.relF (encA A) s.stp s.fs a w h := by rw [← hl]; exact R
  have hb : w.heap[mb]? = some (.map es clock) := (hE.ar R').ok _ hM
  have hr : w.heap[ib]? = some (.mapIter (some mb) since seen c0) := (hE.ar R').ok _ hI
  rcases run_next_at (P := E.P) w o.type ib mb since c0 seen es clock hr hb hold hsc with ⟨hz, hrun⟩ | ⟨e, he, w1, hal, hrun⟩
  · have ok : Ok s.fs h w (.tuple [.bool false]) (.tuple #[.bool false]) := ⟨.tuple _ _ rfl (fun i v x h1 h2 => by
      match i with
      | 0 => cases h1; cases h2; exact .bool _), fun j u z hu hz => by
      cases j with
      | zero => simp [cells] at hu; subst hu; intro r sz xs e; cases e
      | succ j => simp [cells] at hu⟩
    refine wpOp_done (x := .tuple #[.bool false]) (w' := w) hi (wanted_none (guard_none cc rfl)) (opK_defer cc.op) (.inl ?_) (hn _ _ w h (h0 hz) ?_ rfl)
    · simp only [execOp, e1, ok_rptr o1, Sem.run_bind]
      rw [hrun]; rfl
    · show E.relF _ _ _ _ _ _
      rw [(put_log _ _ _).1, (put_log _ _ _).2, fs_put]
      exact rel_after (eff := { v := _ }) cc R R.1 ok rfl
  · have hee : e ∈ es.toList := by
      unfold leftOf at he; simp at he; simpa using he.1
    obtain ⟨k, hk, k1, k2⟩ := hS.ent e hee
    have R1 : E.relF (encA A) s.stp s.fs a w1 h := by
      rcases hal with rfl | rfl
      · exact R'
      · exact relF_drew R'
    have hr1 : w1.heap[ib]? = some (.mapIter (some mb) since seen c0) := (hE.ar R1).ok _ hI
    have R2 := hE.turn R1 hI (.raw (.mapIter (some mb) since (seen.push e.born) clock)) (w' := ChangeMaps.setBlock w1 ib (.mapIter (some mb) since (seen.push e.born) clock)) (fun k hk => setB_other _ hk) (by simp [ChangeMaps.setBlock]) rfl rfl rfl (fun _ => setB_same hr1 _)
    have ok : ∀ w2, Ok s.fs h w2 (.tuple [.bool true, .agg [.int .i64 k.1, .int .i64 k.2], .bool true]) (.tuple #[.bool true, e.key, e.val]) := fun w2 => ⟨.tuple _ _ rfl (fun i v x h1 h2 => by
      match i with
      | 0 => cases h1; cases h2; exact .bool _
      | 1 =>
        cases h1; cases h2; rw [k1]
        exact .agg _ _ rfl fun j u z g1 g2 => by
          match j with
          | 0 => cases g1; cases g2; exact .int _ _
          | 1 => cases g1; cases g2; exact .int _ _
      | 2 => cases h1; cases h2; rw [k2]; exact .bool _), fun j u z hu hz => by
      cases j with
      | zero => simp [cells] at hu; subst hu; intro r sz xs e; cases e
      | succ j => simp [cells] at hu⟩
    refine wpOp_done (x := .tuple #[.bool true, e.key, e.val]) hi (wanted_none (guard_none cc rfl)) (opK_defer cc.op) (.inl ?_) (hn _ _ _ h (h1 e he k hk k1 k2) (rel_putA cc R2 (ok _) rfl) rfl)
    simp only [execOp, e1, ok_rptr o1, Sem.run_bind]
    rw [hrun]; rfl

/-- The entry at hand. -/
theorem Steps.mentry (hE : InA E S0 l0 s0) {K : St → Prop} {s : St} {d t u : Nat} {x : X} {rest : List Ins} {ib mb since : Nat} {seen : Array Nat} {es : Array MapEntry} {clock : Nat} {e : MapEntry} {k : Int × Int} (hx : evXs s.env [x] = some [.rptr ib 0]) (hl : s.log = encA A)
    (hI : (ib, .raw (.mapIter (some mb) since (seen.push e.born) clock)) ∈ A) (hM : (mb, .raw (.map es clock)) ∈ A) (hst : MapKept.Stamped es clock) (he : e ∈ es.toList) (hkey : e.key = keyV k) (hval : e.val = .bool true)
    (hk : Steps E rest K (s.put (some d) (.tuple [.agg [.int .i64 k.1, .int .i64 k.2], .bool true]))) : Steps E (⟨some d, .raw 4 t u, [x], none⟩ :: rest) K s := by
  refine Step1.raw fun slots ops o i ro n a w h hc hs hi R Q next hn => ?_
  obtain ⟨os, cc⟩ := comp_of hc
  obtain ⟨p, e1, rfl⟩ := opK_raw4 cc.op
  obtain ⟨v, hu, o1⟩ := (opds_of R.1 cc.xs (evXs_ok hx)).one
  simp only [List.cons.injEq, and_true] at hu
  subst hu
  have R' : E.relF (encA A) s.stp s.fs a w h := by rw [← hl]; exact R
  have hb : w.heap[mb]? = some (.map es clock) := (hE.ar R').ok _ hM
  have hr : w.heap[ib]? = some (.mapIter (some mb) since (seen.push e.born) clock) := (hE.ar R').ok _ hI
  have hrun := run_entry_at (P := E.P) w ib mb since seen es clock e hr hb he hst.2.1
  have ok : Ok s.fs h w (.tuple [.agg [.int .i64 k.1, .int .i64 k.2], .bool true]) (.tuple #[e.key, e.val]) := ⟨.tuple _ _ rfl (fun i v x h1 h2 => by
    match i with
    | 0 =>
      cases h1; cases h2; rw [hkey]
      exact .agg _ _ rfl fun j u z g1 g2 => by
        match j with
        | 0 => cases g1; cases g2; exact .int _ _
        | 1 => cases g1; cases g2; exact .int _ _
    | 1 => cases h1; cases h2; rw [hval]; exact .bool _), fun j u z hu hz => by
    cases j with
    | zero => simp [cells] at hu; subst hu; intro r sz xs e; cases e
    | succ j => simp [cells] at hu⟩
  refine wpOp_done (x := .tuple #[e.key, e.val]) (w' := w) hi (wanted_none (guard_none cc rfl)) (opK_defer cc.op) (.inl ?_) (hn _ _ w h hk ?_ rfl)
  · simp only [execOp, e1, ok_rptr o1, Sem.run_bind]
    rw [hrun]; rfl
  · show E.relF _ _ _ _ _ _
    rw [(put_log _ _ _).1, (put_log _ _ _).2, fs_put]
    exact rel_after (eff := { v := _ }) cc R R.1 ok rfl

end

end Go.Am


/-! AM, part Zh: the package's variables are read. -/
set_option linter.unusedVariables false
set_option linter.unusedSimpArgs false
namespace Go.Am
open Go.RowKit

theorem rptr_value {σ : FSt} {h : Gh} {w : World} {blk off : Nat} {x : Value} (o : Ok σ h w (.rptr blk off) x) : x = .pointer (some ⟨blk, off, none⟩) := by
  obtain ⟨r, _⟩ := o
  cases r with
  | data r => cases r; rfl

/-- A load from a package's variable. -/
theorem does_gload {E : Env} {σ : FSt} {d n g : Nat} {agg : Bool} {cs : List V} {x : X} (hg : (g, cs) ∈ globalsV) (hx : [x].mapM (evX σ) = some [.rptr g 0]) (hn : n ≤ cs.length) : Does E σ ⟨some d, .load n agg, [x], none⟩ { v := mkv agg n cs } (xslots [x]) := by
  refine .sem fun τ hτ slots ops j o ro nn log stp a w h hc hs hi R Q next hnx => ?_
  have hx' : [x].mapM (evX τ) = some [.rptr g 0] := evX_reads hx fun l hl => hτ l hl
  obtain ⟨os, cc⟩ := comp_of hc
  have hdf := opK_defer cc.op
  have hgo : o.guard = none := by
    rcases cc.guard with ⟨_, e⟩ | ⟨_, _, _, _, _, e⟩
    · exact e
    · cases e
  have hO := opds_of R.1 cc.xs hx'
  cases hO with
  | cons o1 r1 =>
    cases r1
    have e1 := rptr_value o1
    have rd : RepD w h.φ (.vptr cs 0) _ := E.ok.gl _ _ _ _ _ R.1.sur (g, cs) hg
    rename_i p
    have hO2 : Opds τ h w a [p] [.vptr cs 0] := .cons (by rw [e1]; exact .data rd) .nil
    obtain ⟨x', w', h', hr, R', ok, hy⟩ := evalK_ok (d := d) (eff := { pre := 0 + n ≤ cs.length, v := mkv agg n (cs.drop 0) }) R.1 E.ok cc.op hO2 (fun e => by cases e) rfl (by simpa using hn)
    exact wpOp_done hi (wanted_none hgo) hdf hr (hnx _ _ h' (rel_after (eff := { v := mkv agg n cs }) cc R R' ok hy) hy)

/-- The same, under a guard. -/
theorem does_ggload {E : Env} {σ : FSt} {d n g t : Nat} {agg want gb : Bool} {gv : V} {cs : List V} {x : X} (hg : (g, cs) ∈ globalsV) (hgv : σ.g t = some gv) (hgb : guardOf want gv = some gb) (hx : [x].mapM (evX σ) = some [.rptr g 0]) (hn : n ≤ cs.length) : Does E σ ⟨some d, .load n agg, [x], some (t, want)⟩ { v := .cond gb (mkv agg n cs) } (.slot t :: xslots [x]) := by
  refine .sem fun τ hτ slots ops j o ro nn log stp a w h hc hs hi R Q next hnx => ?_
  have hx' : [x].mapM (evX τ) = some [.rptr g 0] := evX_reads hx fun l hl => hτ l (by simp [hl])
  have hgv' : τ.g t = some gv := by rw [g_eq (hτ (.slot t) (by simp))]; exact hgv
  obtain ⟨os, cc⟩ := comp_of hc
  have hdf := opK_defer cc.op
  obtain ⟨j', want', t', g1, g2, g3⟩ : ∃ j want t, o.guard = some (j, want) ∧ slots[j]? = some (some t) ∧ (some (t, want) : Option (Nat × Bool)) = some (t, want) ∧ True := by
    rcases cc.guard with ⟨e, _⟩ | ⟨j, want, t, e1, e2, e3⟩
    · cases e
    · exact ⟨j, want, t, e1, e2, rfl, trivial⟩
  have g3' : (some (t, want) : Option (Nat × Bool)) = some (t', want') := by
    rcases cc.guard with ⟨e, _⟩ | ⟨j, want1, t1, e1, e2, e3⟩
    · cases e
    · rw [g1] at e1; cases e1; rw [g2] at e2; cases e2; exact e3
  cases g3'
  obtain ⟨wt, wf⟩ := guard_wanted R hs g1 g2 hgv' hgb
  have hO := opds_of R.1 cc.xs hx'
  cases hO with
  | cons o1 r1 =>
    cases r1
    have e1 := rptr_value o1
    have rd : RepD w h.φ (.vptr cs 0) _ := E.ok.gl _ _ _ _ _ R.1.sur (g, cs) hg
    rename_i p
    have hO2 : Opds τ h w a [p] [.vptr cs 0] := .cons (by rw [e1]; exact .data rd) .nil
    cases gb with
    | true =>
      obtain ⟨x', w', h', hr, R', ok, hy⟩ := evalK_ok (d := d) (eff := { pre := 0 + n ≤ cs.length, v := mkv agg n (cs.drop 0) }) R.1 E.ok cc.op hO2 (fun e => by cases e) rfl (by simpa using hn)
      refine wpOp_done hi (wt rfl) hdf hr (hnx _ _ h' (rel_after (eff := { v := .cond true (mkv agg n cs) }) cc R R' ⟨.cond true _ _ (fun _ => ok.1) (fun e => (by cases e)), fun j u z hu hz => ?_⟩ hy) hy)
      cases j with
      | zero => simp [cells] at hu; subst hu; intro r' sz xs' e; cases e
      | succ j => simp [cells] at hu
    | false => exact wp_unwanted cc R hi (wf rfl) R.1 rfl (mkv agg n cs) hnx

theorem Steps.gload {E : Env} {s : St} {K : St → Prop} {d n g : Nat} {agg : Bool} {cs : List V} {x : X} {rest : List Ins} (hg : (g, cs) ∈ globalsV) (hx : evXs s.env [x] = some [.rptr g 0]) (hn : n ≤ cs.length) (hk : Steps E rest K (s.put (some d) (mkv agg n cs))) : Steps E (⟨some d, .load n agg, [x], none⟩ :: rest) K s :=
  Step1.does (ins := ⟨some d, .load n agg, [x], none⟩) (does_gload hg (evXs_ok hx) hn) hk

theorem TraceK.gload {E : Env} {s : St} {K : List (List Loc × List Loc) → St → List Ins → Prop} {d n g : Nat} {agg : Bool} {cs : List V} {x : X} {rest : List Ins} (hg : (g, cs) ∈ globalsV) (hx : evXs s.env [x] = some [.rptr g 0]) (hn : n ≤ cs.length)
    (tr : TraceK E (s.put (some d) (mkv agg n cs)) rest fun fp s' r' => K (([.slot d], xslots [x]) :: fp) s' r') : TraceK E s (⟨some d, .load n agg, [x], none⟩ :: rest) K :=
  .step (ins := ⟨some d, .load n agg, [x], none⟩) (eff := { v := mkv agg n cs }) (does_gload hg (evXs_ok hx) hn) tr

theorem TraceK.ggload {E : Env} {s : St} {K : List (List Loc × List Loc) → St → List Ins → Prop} {d n g t : Nat} {agg want gb : Bool} {gv : V} {cs : List V} {x : X} {rest : List Ins} (hg : (g, cs) ∈ globalsV) (hgv : get s.env t = some gv) (hgb : guardOf want gv = some gb) (hx : evXs s.env [x] = some [.rptr g 0]) (hn : n ≤ cs.length)
    (tr : TraceK E (s.put (some d) (.cond gb (mkv agg n cs))) rest fun fp s' r' => K (([.slot d], .slot t :: xslots [x]) :: fp) s' r') : TraceK E s (⟨some d, .load n agg, [x], some (t, want)⟩ :: rest) K :=
  .step (ins := ⟨some d, .load n agg, [x], some (t, want)⟩) (eff := { v := .cond gb (mkv agg n cs) }) (does_ggload hg (by rw [fs_g]; exact hgv) hgb (evXs_ok hx) hn) tr

end Go.Am


/-! AM, part Zi: copies: a test for nil, an empty slice that is made, what is appended to it. -/
set_option linter.unusedVariables false
set_option linter.unusedSimpArgs false
namespace Go.Am
open Go.RowKit

theorem opK_nilS {P : Program} {o : Oper} {os : List Operand} {t : Nat} (hk : opK P o.op = some (.raw 8 0 t, os)) : ∃ p q u e, o.op = .binOp .eql t p q u ∧ P.underlying t = some (.slice e) ∧ os = [p, q] := by
  cases ho : o.op <;> rw [ho] at hk <;> simp only [opK] at hk <;> (try (cases hk; done)) <;> (try (repeat' (split at hk <;> (try (cases hk; done)))))
  all_goals first
    | (simp only [Option.map_eq_some_iff, Prod.mk.injEq] at hk; obtain ⟨_, _, h1, _⟩ := hk; cases h1; done)
    | (simp only [eqKind] at hk
       split at hk <;> (try (cases hk; done)) <;> (try (split at hk <;> (try (cases hk; done)))) <;> (try (cases hk; done))
       all_goals first
         | (simp at hk; done)
         | (simp at hk
            obtain ⟨rfl, rfl⟩ := hk
            exact ⟨_, _, _, _, rfl, by assumption, rfl⟩))

section
variable {E : Env}

/-- Is a slice nil? -/
theorem Steps.nilS {s : St} {K : St → Prop} {d t r sz : Nat} {x y : X} {xs : List V} {rest : List Ins} (hx : evXs s.env [x, y] = some [.slice r sz xs, .nils]) (hk : ∀ b, (xs ≠ [] → b = false) → Steps E rest K (s.put (some d) (.bool b))) : Steps E (⟨some d, .raw 8 0 t, [x, y], none⟩ :: rest) K s := by
  refine Step1.raw fun slots ops o i ro n a w h hc hs hi R Q next hn => ?_
  obtain ⟨os, cc⟩ := comp_of hc
  have hgo : o.guard = none := by
    rcases cc.guard with ⟨_, e⟩ | ⟨j, want, t, _, _, e⟩
    · exact e
    · cases e
  obtain ⟨p, q, u, e, e1, e2, rfl⟩ := opK_nilS cc.op
  obtain ⟨v1, v2, hu, o1, o2⟩ := (opds_of R.1 cc.xs (evXs_ok hx)).two
  simp only [List.cons.injEq, and_true] at hu
  obtain ⟨hu1, hu2⟩ := hu
  subst hu1 hu2
  have hq := ok_nils o2
  have key : ∃ (ad : Option Addr) (m c : Nat), a.eval p = .slice ad m c ∧ (xs ≠ [] → ad.isSome = true) := by
    have r := ok_slice o1
    generalize a.eval p = z at r
    rcases slice_at r with ⟨⟨ad, cap, rfl⟩, e0⟩ | ⟨blk, off, cap, cv, rfl, _⟩
    · exact ⟨ad, 0, cap, rfl, fun h => absurd e0 h⟩
    · exact ⟨_, _, _, rfl, fun _ => rfl⟩
  obtain ⟨ad, m, c, ep, had⟩ := key
  have hex : (execOp a.eval o).run E.P w = .ok (.value (.bool ad.isNone)) w := by
    have g1 : (eqGuard .eql t p q (.slice ad m c) (.slice none 0 0)).run E.P w = .ok () w := by
      cases ad <;> rfl
    have g2 : (binOp .eql t (.slice ad m c) (.slice none 0 0)).run E.P w = .ok (.bool ad.isNone) w := Lib.run_eql_slice_nil w t e ad m c 0 0 e2
    simp only [execOp, e1, ep, hq, Sem.run_bind, g1, g2, Result.andThen_ok, Sem.run_pure]
  refine wpOp_done (x := .bool ad.isNone) (w' := w) hi (wanted_none hgo) (opK_defer cc.op) (.inl hex) (hn _ _ w h (hk ad.isNone fun hne => by have := had hne; cases ad <;> simp_all) ?_ rfl)
  show E.relF _ _ _ _ _ _
  rw [(put_log _ _ _).1, (put_log _ _ _).2, fs_put]
  exact rel_after (eff := { v := .bool ad.isNone }) cc R R.1 (.data (.bool _)) rfl

end

section
variable {P : Program} {nt : Nat} {S : Sur} {log : List (List V)} {stp : Bool} {σ : FSt} {a : Act} {w : World} {h : Gh} {o : Oper}

theorem opK_mksliceE {os : List Operand} {sz e : Nat} (hk : opK P o.op = some (.mkslice sz e, os)) : ∃ t len parts ie z, o.op = .buildSlice t len parts ∧ P.underlying t = some (.slice e) ∧ P.info? e = some ie ∧ ie.zero = some z ∧ z.cells.size = ie.size ∧ ie.size = sz ∧ parts.toList.map (·.1) = List.range len ∧ os = parts.toList.map (·.2) := by
  cases ho : o.op <;> rw [ho] at hk <;> simp only [opK] at hk <;> (try (cases hk; done)) <;> (try (repeat' (split at hk <;> (try (cases hk; done)))))
  all_goals first
    | (simp only [Option.map_eq_some_iff, Prod.mk.injEq] at hk; obtain ⟨_, _, h1, _⟩ := hk; cases h1; done)
    | (rename_i hz hc; rw [hz] at hc; simp at hc; done)
    | (rename_i t len parts x5 e' ht x4 ie hi x3 z hz hc
       cases hk
       simp only [hz, Option.isSome_some, Bool.true_and, Bool.and_eq_true, beq_iff_eq] at hc
       exact ⟨t, len, parts, ie, z, rfl, ht, hi, hz, hc.1, rfl, hc.2, rfl⟩)
    | (exfalso; simp only [eqKind] at hk; repeat' (split at hk <;> (try (cases hk; done))))

end

section
variable {E : Env}

/-- An empty slice that is made. -/
theorem Steps.mkE {s : St} {K : St → Prop} {d sz e : Nat} {rest : List Ins} (hd : get s.bx d = none)
    (hk : ∀ blk, Steps E rest K ((s.setB d ⟨[], false⟩).put (some d) (.sref blk 0 0 0))) : Steps E (⟨some d, .mkslice sz e, [], none⟩ :: rest) K s := by
  refine Step1.raw fun slots ops o i ro n a w h hc hs hi R Q next hn => ?_
  obtain ⟨os, cc⟩ := comp_of hc
  have hgo := guard_none cc rfl
  obtain ⟨t, len, parts, ie, z, ho, ht, hie, hz, hzs, hsz, hidx, rfl⟩ := opK_mksliceE cc.op
  have hO := opds_of R.1 cc.xs (vs := []) rfl
  have hlen : len = 0 := by
    have h1 := hO.get.1
    have h2 := congrArg List.length hidx
    simp at h1 h2
    omega
  subst hlen
  have hp : parts = #[] := by
    have h1 := hO.get.1
    simp at h1
    exact Array.size_eq_zero_iff.1 h1.symm
  have hrun : (Instr.buildSlice t 0 (parts.map fun (i, x) => (i, a.eval x))).run E.P w = .ok (.slice (some ⟨w.heap.size, 0, none⟩) 0 0) (w.alloc (.cells #[] e)) := by
    subst hp
    have hr0 : Array.range 0 = #[] := rfl
    simp [Instr.buildSlice, run_underlying ht, sizeOf, typeInfo, zeroValue, hie, hz, newRow, Instr.fill, hr0]
  have R1 := R.1.newBox (e := e) (cs := #[]) (zs := []) (d := d) E.ok (by rw [fs_b]; exact hd) (by simp) (fun j v x hv hx => by simp at hv)
  have hex : (execOp a.eval o).run E.P w = .ok (.value (.slice (some ⟨w.heap.size, 0, none⟩) 0 0)) (w.alloc (.cells #[] e)) := by
    simp only [execOp, ho, Sem.run_bind, hrun]; rfl
  have key := rel_after (eff := { v := .sref w.heap.size 0 0 0, wb := [(d, ⟨[], false⟩)] }) cc R R1 ⟨.data (.sref _ _ _ _), GrowV.of_data (w0 := w) (φ0 := h.φ) (.sref _ _ _ _)⟩ rfl
  refine wpOp_done hi (wanted_none hgo) (opK_defer cc.op) (.inl hex) (hn _ _ _ { h with M := fun b => h.M b ∨ b = w.heap.size, β := fun i => if i = d then some w.heap.size else h.β i } (hk w.heap.size) ?_ rfl)
  show E.relF _ _ _ _ _ _
  rw [(put_log _ _ _).1, (put_log _ _ _).2, fs_put, fs_setB]
  exact key

theorem done_appendE {P : Program} {nt : Nat} {S : Sur} {log : List (List V)} {stp : Bool} {σ : FSt} {a : Act} {w : World} {h : Gh} {o : Oper} {t e sz bytes d blk : Nat} {p q : Operand} {c : Call} {ie : TypeInfo} {z : Value} {ys : List V} {y : Value} (R : Rel nt S log stp σ a w h) (hS : S.ok) (ho : o.op = .call c) (hc : c.callee = .builtin .append) (hca : c.args.toList = [p, q]) (hct : c.argTypes.toList = [t, t])
    (ht : P.underlying t = some (.slice e)) (hi : P.info? e = some ie) (hz : ie.zero = some z) (hzs : z.cells.size = ie.size) (hsz : ie.size = sz) (hby : ie.bytes = bytes) (hx : a.eval p = .slice (some ⟨blk, 0, none⟩) 0 0) (hy : a.eval q = y)
    (ry : RepD w h.φ (.slice 0 sz ys) y) (hd : σ.b d = none) (h0 : 0 < sz) (hb : ys.length * bytes ≤ 2 ^ 47) (hm : ys.length ≤ 2 ^ 47) (hne : ys ≠ []) {pre : Prop} {rb : List Nat} :
    Done P nt S log stp σ a w h o { pre := pre, v := .bsl d 0 sz ys.length, wb := [(d, ⟨ys.flatMap cells, false⟩)], rb := rb } := by
  subst hsz hby
  have ea : c.args = #[p, q] := by rw [← Array.toList_inj]; simpa using hca
  have et : c.argTypes = #[t, t] := by rw [← Array.toList_inj]; simpa using hct
  have hexec : ∀ v w', (Builtin.append_ #[t, t] o.type #[.slice (some ⟨blk, 0, none⟩) 0 0, y]).run P w = .ok v w' → (execOp a.eval o).run P w = .ok (.value v) w' := fun v w' hr => by
    simp only [execOp, ho, resolve, hc, ea, et, Sem.run_bind, Sem.run_pure, Result.andThen_ok, invoke, builtin]
    simp [hx, hy, hr]
  have hml : ys.length ≤ maxLen := by unfold maxLen; omega
  have hpos : 0 < ys.length := List.length_pos_iff.2 hne
  rcases slice_at ry with ⟨_, e0⟩ | ⟨yb, yo, ycap, cvy, rfl, _, _, hys, ay⟩
  · exact absurd e0 hne
  have ylen := flat_len hys
  obtain ⟨news, hnews⟩ : ∃ news, news = (List.range (ys.length * ie.size)).map cvy := ⟨_, rfl⟩
  have nl : news.length = ys.length * ie.size := by rw [hnews]; simp
  have nget : ∀ j, j < ys.length * ie.size → news[j]? = some (cvy j) := fun j hj => by rw [hnews]; simp [hj]
  have ncell : ∀ j u, news[j]? = some u → w.cell? ((⟨yb, yo, none⟩ : Addr).add j) = some u := fun j u hu => by
    have hj : j < ys.length * ie.size := by have := (List.getElem?_eq_some_iff.1 hu).1; omega
    rw [nget j hj] at hu
    cases hu
    rw [Addr.add_lit]
    exact (ay j _ (List.getElem?_eq_getElem (by omega))).2.1
  have hrun := run_append_grow (P := P) w t o.type e ie z ht hi hz ⟨blk, 0, none⟩ 0 0 [] (by simp) (fun j v hv => by simp at hv) ⟨yb, yo, none⟩ ys.length ycap news nl ncell (by omega) (by omega) (by rw [Nat.zero_add, nextslicecap_zero hpos]; omega)
  have hge := grownCap_ge w (0 + ys.length) 0 e
  have R1 := (R.drew hS).newBox (e := e) (cs := [].toArray ++ news.toArray ++ Builtin.zeroCells z.cells (grownCap w (0 + ys.length) 0 e - (0 + ys.length))) (zs := ys.flatMap cells) hS hd
    (by rw [Array.size_append, Array.size_append]; simp only [List.size_toArray, nl, List.length_nil]; omega) (fun j v x hv hx => by
      have hlt := (List.getElem?_eq_some_iff.1 hv).1
      rw [Array.getElem?_append_left (by simp [nl]; omega)] at hx
      simp only [Array.empty_append, List.getElem?_toArray] at hx
      rw [nget j (by omega)] at hx
      cases hx
      obtain ⟨_, _, k3, k4⟩ := ay j v hv
      have r1 : RepD w.drew h.φ v (cvy j) := k3.mono (fun _ _ ho => ⟨ho, rfl, rfl⟩)
      exact ⟨.data r1, Grow.of_data r1, k4⟩)
  refine ⟨_, _, _, .inl (hexec _ _ hrun), R1, ⟨?_, fun j u zz hu hzz => ?_⟩, rfl⟩
  · rw [Nat.zero_add]
    exact .bsl d 0 _ ys.length _ w.heap.size (by simp) (by simpa using hge)
  cases j with
  | zero => simp [cells] at hu; subst hu; intro r sz xs e; cases e
  | succ j => simp [cells] at hu

/-- An append to an empty slice makes a box. -/
theorem Steps.appendE {s : St} {K : St → Prop} {d : Nat} {x y : X} {sz bytes e r blk : Nat} {ys : List V} {rest : List Ins} (hx : evXs s.env [x, y] = some [.sref blk 0 0 0, .slice r sz ys]) (hd : get s.bx d = none) (h0 : 0 < sz) (hb : ys.length * bytes ≤ 2 ^ 47) (hm : ys.length ≤ 2 ^ 47) (hne : ys ≠ [])
    (hk : Steps E rest K ((s.setB d ⟨ys.flatMap cells, false⟩).put (some d) (.bsl d 0 sz ys.length))) : Steps E (⟨some d, .append sz bytes e, [x, y], none⟩ :: rest) K s := by
  refine Step1.raw fun slots ops o i ro n a w h hc hs hi R Q next hn => ?_
  obtain ⟨os, cc⟩ := comp_of hc
  have hgo := guard_none cc rfl
  obtain ⟨c, p, q, t, ie, z, ho, hcal, hca, hct, ht, hie, hz, hzs, hsz, hby, rfl⟩ := opK_append cc.op
  obtain ⟨u, v, huv, hu, hv'⟩ := (opds_of R.1 cc.xs (evXs_ok hx)).two
  cases huv
  obtain ⟨x1, w', h', hr', R', ok, hy⟩ := done_appendE (d := d) (pre := True) (rb := [d]) R.1 E.ok ho hcal hca hct ht hie hz hzs hsz hby (ok_sref hu) rfl (ok_slice hv') (by rw [fs_b]; exact hd) h0 hb hm hne
  have key := rel_after cc R R' ok hy
  refine wpOp_done hi (wanted_none hgo) (opK_defer cc.op) hr' (hn _ _ _ h' hk ?_ hy)
  show E.relF _ _ _ _ _ _
  rw [(put_log _ _ _).1, (put_log _ _ _).2, fs_put, fs_setB]
  exact key

/-- Nothing is appended to an empty slice. -/
theorem Steps.appendE0 {s : St} {K : St → Prop} {d : Nat} {x y : X} {sz bytes e r blk : Nat} {rest : List Ins} (hx : evXs s.env [x, y] = some [.sref blk 0 0 0, .slice r sz []])
    (hk : Steps E rest K (s.put (some d) (.slice 0 sz []))) : Steps E (⟨some d, .append sz bytes e, [x, y], none⟩ :: rest) K s := by
  refine Step1.raw fun slots ops o i ro n a w h hc hs hi R Q next hn => ?_
  obtain ⟨os, cc⟩ := comp_of hc
  have hgo := guard_none cc rfl
  obtain ⟨c, p, q, t, ie, z, ho, hcal, hca, hct, ht, hie, hz, hzs, hsz, hby, rfl⟩ := opK_append cc.op
  obtain ⟨u, v, huv, hu, hv'⟩ := (opds_of R.1 cc.xs (evXs_ok hx)).two
  cases huv
  have hp := ok_sref hu
  have key : ∃ (ad : Option Addr) (cp : Nat), a.eval q = .slice ad 0 cp := by
    have r := ok_slice hv'
    generalize a.eval q = z at r
    rcases slice_at r with ⟨⟨ad, cap, rfl⟩, e0⟩ | ⟨blk, off, cap, cv, rfl, _⟩
    · exact ⟨ad, cap, rfl⟩
    · exact ⟨_, _, rfl⟩
  obtain ⟨ad, cp, eq⟩ := key
  have ea : c.args = #[p, q] := by rw [← Array.toList_inj]; simpa using hca
  have et : c.argTypes = #[t, t] := by rw [← Array.toList_inj]; simpa using hct
  have hex : (execOp a.eval o).run E.P w = .ok (.value (.slice (some ⟨blk, 0, none⟩) 0 0)) w := by
    simp only [execOp, ho, resolve, hcal, ea, et, Sem.run_bind, Sem.run_pure, Result.andThen_ok, invoke, builtin]
    cases ad with
    | none => simp [hp, eq, Builtin.append_, run_underlying ht, sizeOf, typeInfo, hie, Builtin.lenOf, run_firstCells_none, storeCells]
    | some ad =>
      have hf := run_firstCells_some (P := E.P) w ie.size 0 ad 0 cp [] (by simp) (fun j v hv => by simp at hv)
      simp [hp, eq, Builtin.append_, run_underlying ht, sizeOf, typeInfo, hie, Builtin.lenOf, hf, storeCells]
  have key := rel_after (eff := { v := .slice 0 sz [] }) cc R R.1 (x := .slice (some ⟨blk, 0, none⟩) 0 0) ⟨.data (.slice0 _ _ _), GrowV.of_data (w0 := w) (φ0 := h.φ) (.slice0 _ _ _)⟩ rfl
  refine wpOp_done hi (wanted_none hgo) (opK_defer cc.op) (.inl hex) (hn _ _ _ h hk ?_ rfl)
  show E.relF _ _ _ _ _ _
  rw [(put_log _ _ _).1, (put_log _ _ _).2, fs_put]
  exact key

end
end Go.Am


/-! AM, part Zj: calls that read and write an arena; constants beside it. -/
set_option linter.unusedVariables false
set_option linter.unusedSimpArgs false
namespace Go.Am
open Go.RowKit

/-- Blocks that keep what they hold. -/
def Kons (w : World) (φ : Nat → Nat) (K : List (Nat × List V)) : Prop := ∀ p ∈ K, ObOk w φ p.1 (.cells p.2) ∧ p.1 < w.heap.size

/-- **A CONTRACT OVER AN ARENA**: called with these data while the arena is A, it returns r and leaves B. -/
def CA (P : Program) (f : FuncId) (A : Arena) (K : List (Nat × List V)) (args : List V) (r : V) (B : Arena) : Prop :=
  callable P f = true ∧ ∀ (w : World) (φ : Nat → Nat) (xs : Array Value), (∀ b, w.heap.size ≤ b → φ b = 0) → Gl w φ → Ar w φ (fun _ => False) A → Kons w φ K → (∀ p ∈ K, p.1 ∉ A.map (·.1)) → RepL w φ args xs →
    Calls P f xs w fun e w' => ∃ φ' x, e = .returned x ∧ RepR w' φ' r x ∧ Ar w' φ' (fun _ => False) B ∧ Moved (fun b => b ∈ A.map (·.1)) w φ (fun b => b ∈ B.map (·.1)) w' φ'

/-- The surroundings of a call over an arena. -/
def SQ (w0 : World) (φ0 : Nat → Nat) (A : Arena) : Sur := fun _ _ M w φ => Moved (fun b => b ∈ A.map (·.1)) w0 φ0 M w φ

theorem SQ_ok (w0 : World) (φ0 : Nat → Nat) (A : Arena) (hg : Gl w0 φ0) : (SQ w0 φ0 A).ok := ⟨fun _ _ _ _ _ _ _ _ h k => Moved.trans h k, fun _ _ _ _ _ h => hg.mono h.ext⟩

/-- The same, with the arena that was there at the start. -/
def SQ1 (w0 : World) (φ0 : Nat → Nat) (A : Arena) : Sur := fun log stp M w φ =>
  ∃ B, (log = [] ∧ B = A ∨ log = encA B) ∧ stp = false ∧ Ar w φ M B ∧ SQ w0 φ0 A [] false (fun b => M b ∨ b ∈ B.map (·.1)) w φ

theorem SQ1_ok (w0 : World) (φ0 : Nat → Nat) (A : Arena) (hg : Gl w0 φ0) : (SQ1 w0 φ0 A).ok := by
  refine ⟨?_, fun _ _ _ _ _ ⟨_, _, _, _, h4⟩ => (SQ_ok w0 φ0 A hg).gl _ _ _ _ _ h4⟩
  intro log s M w φ M' w' φ' ⟨B, h1, h2, h3, h4⟩ mv
  have := (SA_ok (SQ_ok w0 φ0 A hg) [] false).move (encA B) s M w φ M' w' φ' ⟨B, rfl, h2, h3, h4⟩ mv
  obtain ⟨B', e1, e2, e3, e4⟩ := this
  obtain rfl := encA_inj e1
  exact ⟨B, h1, e2, e3, e4⟩

/-- Constants are at hand. -/
def InK (E : Env) (K : List (Nat × List V)) : Prop := ∀ log stp M w φ, E.S log stp M w φ → Kons w φ K

theorem encA_ne (A : Arena) : encA A ≠ [] := by simp [encA]

theorem CA_of {P : Program} {f nt : Nat} {ic : IC} {rs : List ResultVar} (hmix : P.follows .mixedOrders = true) (hch : chkF P f = some (nt, ic, rs)) {A B : Arena} {K : List (Nat × List V)} {args : List V} {r : V} (hlen : args.length ≤ nt)
    (hT : ∀ (S : Sur) (ok : S.ok) (S1 : Sur), InA (env0 P hmix nt S ok) S1 [] false → InK (env0 P hmix nt S ok) K → Tr (env0 P hmix nt S ok) none ic (qRet P rs r fun s => s.log = encA B) { entry args with log := encA A }) : CA P f A K args r B := by
  obtain ⟨fn, c, hf, hb, hnt, hc, rfl, hcall⟩ := chkF_ok hch
  refine ⟨hcall, fun w φ xs htop hgl hA hK hKA hrep => ?_⟩
  have okI := SQ_ok w φ A hgl
  have hInK : InK (env0 P hmix nt (SA (SQ w φ A) [] false) (SA_ok okI [] false)) K := by
    rintro log stp M w' φ' ⟨B', _, _, _, hm⟩ p hp
    obtain ⟨h1, h2⟩ := hK p hp
    have := hm.old p.1 h2 (hKA p hp)
    exact ⟨h1.mono this.1 hm.ext, Nat.lt_of_lt_of_le h2 hm.size⟩
  have hT1 := hT (SA (SQ w φ A) [] false) (SA_ok okI [] false) (SQ w φ A) (⟨Sub.refl _, okI⟩) hInK
  have e0 : (fun b => False ∨ b ∈ A.map (·.1)) = fun b => b ∈ A.map (·.1) := by funext b; simp
  have hT2 : Tr (env0 P hmix nt (SQ1 w φ A) (SQ1_ok w φ A hgl)) none ic (qRet P fn.results.toList r fun s => s.log = encA B) (entry args) := by
    intro c hc n a w1 g R Q' hq
    obtain ⟨B0, h1, h2, h3, h4⟩ := R.1.sur
    have hB0 : B0 = A := by
      rcases h1 with ⟨_, h⟩ | h
      · exact h
      · exact absurd h.symm (encA_ne _)
    subst hB0
    have R1 : (env0 P hmix nt (SA (SQ w φ B0) [] false) (SA_ok okI [] false)).rel { entry args with log := encA B0 } a w1 g := by
      refine ⟨{ R.1 with sur := ⟨B0, rfl, rfl, h3, h4⟩ }, fun l hl => ⟨?_, trivial⟩, R.2.2⟩
      intro log x M w φ xs hp
      exact absurd hp.length_le (by simp)
    refine hT1 c hc n a w1 g R1 Q' fun e t a' w' h' hQ R' hy => ?_
    refine hq e t a' w' h' hQ ?_ hy
    obtain ⟨B', k1, k2, k3, k4⟩ := R'.1.sur
    refine ⟨{ R'.1 with sur := ⟨B', .inr k1, k2, k3, k4⟩ }, fun l hl => ⟨?_, trivial⟩, R'.2.2⟩
    intro log x M w φ xs hp
    exact absurd hp.length_le (by simp)
  refine (calls_body (E := env0 P hmix nt (SQ1 w φ A) (SQ1_ok w φ A hgl)) (φ := φ) (y := none) hf hb hc hnt hlen hrep.1 (fun i v x h1 h2 => ⟨.data (hrep.2 i v x h1 h2), fun σ h => GrowV.of_data (hrep.2 i v x h1 h2)⟩)
    ⟨A, .inl ⟨rfl, rfl⟩, rfl, hA, by rw [e0]; exact Moved.refl _ htop⟩ htop (fun _ h => ((by cases h))) hT2).mono ?_
  rintro e w' ⟨s', h', x, rfl, hr, ⟨B', k1, k2, k3, k4⟩, ht, hk⟩
  have hB : B' = B := by
    rw [hk] at k1
    rcases k1 with ⟨h, _⟩ | h
    · exact absurd h (encA_ne _)
    · exact (encA_inj h).symm
  subst hB
  exact ⟨h'.φ, x, rfl, hr, ⟨k3.nd, k3.ok, fun _ _ h => h, k3.lt, k3.z⟩, ⟨k4.ext, k4.old, k4.size, k4.os, k4.tape, k4.output, fun b hb => k4.mine b (.inr hb), k4.top⟩⟩

section
variable {E : Env} {S0 : Sur} {l0 : List (List V)} {s0 : Bool} {A : Arena} {stp : Bool} {σ : FSt} {a : Act} {w : World} {h : Gh}

/-- A part of the arena is turned by a call. -/
theorem InA.moved {F A1 B : Arena} (hE : InA E S0 l0 s0) (R : E.relF (encA (F ++ A1)) stp σ a w h) {w' : World} {φ' : Nat → Nat} (m : Moved (fun b => b ∈ A1.map (·.1)) w h.φ (fun b => b ∈ B.map (·.1)) w' φ') (hB : Ar w' φ' (fun _ => False) B) : E.relF (encA (F ++ B)) stp σ a w' { h with φ := φ' } := by
  obtain ⟨M1, hM1, hlt1, ⟨A0, e, hs, hA, hS⟩, back⟩ := hE.sub _ _ _ _ _ R.1.sur R.1.mine
  obtain rfl := encA_inj e
  have hnd := hA.nd
  rw [List.map_append, List.nodup_append] at hnd
  have inA1 : ∀ b, b ∈ A1.map (·.1) → b ∈ (F ++ A1).map (·.1) := fun b hb => by rw [List.map_append]; exact List.mem_append.2 (.inr hb)
  have own : ∀ b, M1 b → w'.heap[b]? = w.heap[b]? ∧ φ' b = h.φ b := fun b hb => m.old b (hlt1 b hb) fun hm => by
    obtain ⟨p, hp, rfl⟩ := List.mem_map.1 (inA1 _ hm)
    exact hA.fr p hp hb
  have oldF : ∀ p ∈ F, p.1 < w.heap.size ∧ p.1 ∉ A1.map (·.1) ∧ (w'.heap[p.1]? = w.heap[p.1]? ∧ φ' p.1 = h.φ p.1) := fun p hp => by
    have h1 := hA.lt p (List.mem_append.2 (.inl hp))
    have h2 : p.1 ∉ A1.map (·.1) := fun h => hnd.2.2 _ (List.mem_map.2 ⟨p, hp, rfl⟩) _ h rfl
    exact ⟨h1, h2, m.old _ h1 h2⟩
  have ar : Ar w' φ' M1 (F ++ B) := by
    refine ⟨?_, fun p hp => ?_, fun p hp hM => ?_, fun p hp => ?_, fun p hp => ?_⟩
    · rw [List.map_append, List.nodup_append]
      refine ⟨hnd.1, hB.nd, fun x hx y hy e => ?_⟩
      subst e
      obtain ⟨p, hp, rfl⟩ := List.mem_map.1 hx
      obtain ⟨h1, h2, _⟩ := oldF p hp
      rcases m.mine _ hy with h3 | h3
      · exact h2 h3
      · omega
    · rcases List.mem_append.1 hp with hp | hp
      · exact (hA.ok p (List.mem_append.2 (.inl hp))).mono (oldF p hp).2.2.1 m.ext
      · exact hB.ok p hp
    · rcases List.mem_append.1 hp with hp | hp
      · exact hA.fr p (List.mem_append.2 (.inl hp)) hM
      · rcases m.mine p.1 (List.mem_map.2 ⟨p, hp, rfl⟩) with h3 | h3
        · obtain ⟨q, hq, e⟩ := List.mem_map.1 (inA1 _ h3)
          exact hA.fr q hq (e ▸ hM)
        · have := hlt1 _ hM; omega
    · rcases List.mem_append.1 hp with hp | hp
      · exact Nat.lt_of_lt_of_le (oldF p hp).1 m.size
      · exact hB.lt p hp
    · rcases List.mem_append.1 hp with hp | hp
      · exact (oldF p hp).2.2.2.trans (hA.z p (List.mem_append.2 (.inl hp)))
      · exact hB.z p hp
  have sa : SA S0 l0 s0 (encA (F ++ B)) stp M1 w' φ' := by
    refine ⟨F ++ B, rfl, hs, ar, hE.ok _ _ _ _ _ _ _ _ hS ⟨m.ext, fun b hb hn => m.old b hb fun hm => hn (.inr (inA1 b hm)), m.size, m.os, m.tape, m.output, fun b hb => ?_, m.top⟩⟩
    rcases hb with hb | hb
    · exact .inl (.inl hb)
    · rw [List.map_append] at hb
      rcases List.mem_append.1 hb with hb | hb
      · exact .inl (.inr (by rw [List.map_append]; exact List.mem_append.2 (.inl hb)))
      · rcases m.mine b hb with h3 | h3
        · exact .inl (.inr (inA1 b h3))
        · exact .inr h3
  have sur' := back (encA (F ++ B)) stp w' φ' sa m.ext own m.size m.top m.os m.tape m.output
  exact ⟨rel_round R.1 m.ext (fun b hb => own b (hM1 b hb)) m.size m.top sur', R.2⟩

/-- A call over an arena. -/
theorem wp_callA (hE : InA E S0 l0 s0) {F A1 B : Arena} {K : List (Nat × List V)} {ro : Option Nat} {n i : Nat} {ops : Array Oper} {slots : List (Option Nat)} {o : Oper} {ins : Ins} (R : E.relF (encA (F ++ A1)) stp σ a w h) {f : FuncId} {vs us : List V} {ids : List Nat} {r : V} {os : List Operand} (cc : Comp E.P E.nt slots o ins os) (hd : toDs σ.b vs = some (us, ids)) (hC : CA E.P f A1 K us r B)
    (hK : ∀ h', E.relF (encA (F ++ A1)) stp ((freeze σ.b ids).foldl (fun τ p => τ.set (.bx p.1) (.b p.2)) σ) a w h' → Kons w h'.φ K) (hKA : ∀ p ∈ K, p.1 ∉ A1.map (·.1)) (xs : Array Value) (hl : vs.length = xs.size)
    (hr : ∀ (i : Nat) v x, vs[i]? = some v → xs[i]? = some x → Rep w h.φ h.β h.y.l v x) (hi : ops[i]? = some o) (hw : Region.wanted o (yielded ops a.tmps) = true) (hrun : (execOp a.eval o).run E.P w = .ok (.enter f xs) w)
    {Q : Exit → Act → World → Prop} {next : Act → World → Prop} (hn : ∀ a' w' h', E.relF (encA (F ++ B)) stp ((σ.eff { v := r, wb := freeze σ.b ids }).put ins.d r) a' w' h' → h'.y = h.y → next a' w') : wpOpIn (wideR ro) n E.P ops Q i next a w := by
  unfold wpOpIn
  simp only [hi, hw, if_true, Oper.wpIn]
  refine ⟨fun _ _ => trivial, ?_⟩
  rw [Oper.semAt_eq _ _ _ (opK_defer cc.op), hrun]
  simp only [Oper.uponIn]
  refine ⟨fun e => by simp [wideR, Fence.wide] at e, ?_⟩
  obtain ⟨h1, R1, ext1, q1, q2, q3, hrep⟩ := args_data R.1 hd
  have R1' : E.relF (encA (F ++ A1)) stp ((freeze σ.b ids).foldl (fun τ p => τ.set (.bx p.1) (.b p.2)) σ) a w h1 := ⟨R1, by rw [q3]; exact R.2⟩
  have hAr := hE.ar R1'
  have hnd := hAr.nd
  rw [List.map_append, List.nodup_append] at hnd
  have arA : Ar w h1.φ (fun _ => False) A1 := ⟨hnd.2.1, fun p hp => hAr.ok p (List.mem_append.2 (.inr hp)), fun _ _ h => h, fun p hp => hAr.lt p (List.mem_append.2 (.inr hp)), fun p hp => hAr.z p (List.mem_append.2 (.inr hp))⟩
  refine (callsIn_wideR (hC.2 w h1.φ xs R1.top (E.ok.gl _ _ _ _ _ R1.sur) arA (hK h1 R1') hKA (hrep xs hl hr))).mono ?_
  rintro e w' ⟨φ', x, rfl, hres, hB, hm⟩
  have R2 := hE.moved R1' hm hB
  have hx : Rep w' φ' h1.β h1.y.l r x ∧ ∀ σ h w0, GrowV σ h w0 r x := by
    cases hres with
    | data hh => exact ⟨.data hh, fun σ h w0 => GrowV.of_data hh⟩
    | tuple vs xs hl hh =>
      refine ⟨.tuple vs xs hl hh, fun σ h w0 j u z hu hz => ?_⟩
      cases j with
      | zero => simp [cells] at hu; subst hu; intro r' sz xs' e; cases e
      | succ j => simp [cells] at hu
  have fin : Ok (σ.eff { v := r, wb := freeze σ.b ids }) { h1 with φ := φ' } w' r x := ⟨hx.1, hx.2 _ _ _⟩
  have R0 : E.relF (encA (F ++ B)) stp σ a w h → True := fun _ => trivial
  refine hn _ _ { h1 with φ := φ' } ⟨?_, ?_⟩ (by simpa using q3)
  · rw [cc.d]
    cases hd : o.dst with
    | none => exact R2.1
    | some d => exact R2.1.put (cc.dst d hd) fin.1 fin.2
  · exact R2.2

theorem Steps.callvA (hE : InA E S0 l0 s0) {K : St → Prop} {Ks : List (Nat × List V)} {s : St} {d : Option Nat} {f : FuncId} {xs : List X} {rest : List Ins} {vs first cap us : List V} {ids : List Nat} {r : V} {F A1 B : Arena} (hx : evXs s.env xs = some (.func (.func f) first cap :: vs)) (hd : toDs s.fs.b (first ++ vs ++ cap) = some (us, ids)) (hl : s.log = encA (F ++ A1))
    (hC : CA E.P f A1 Ks us r B) (hKs : (∀ p ∈ Ks, (p.1, Ob.cells p.2) ∈ F) ∨ InK E Ks ∧ ∀ p ∈ Ks, p.1 ∉ A1.map (·.1))
    (hk : Steps E rest K { (s.eff { v := r, wb := freeze s.fs.b ids }).put d r with log := encA (F ++ B) }) : Steps E (⟨d, .callv, xs, none⟩ :: rest) K s := by
  refine Step1.raw fun slots ops o i ro n a w h hc hs hi R Q next hn => ?_
  obtain ⟨os, cc⟩ := comp_of hc
  have hgo := guard_none cc rfl
  obtain ⟨c, t, e1, e2, rfl⟩ := opK_callv cc.op
  have hO := opds_of R.1 cc.xs (evXs_ok hx)
  have R' : E.relF (encA (F ++ A1)) s.stp s.fs a w h := by rw [← hl]; exact R
  have hAr := hE.ar R'
  have hnd := hAr.nd
  rw [List.map_append, List.nodup_append] at hnd
  cases hO with
  | cons o1 o2 =>
    obtain ⟨f', c', ef, hf, hc', h1, h2⟩ := ok_func o1
    obtain ⟨l1, l2⟩ := opds_args o2
    obtain ⟨m1, m2⟩ := arr3 hf hc' l1 h1 h2 l2
    refine wp_callA hE R' cc hd hC (fun h' R1 => ?_) (fun p hp => ?_) _ m1 m2 hi (wanted_none hgo) (run_callv hC.1 e2 e1 ef) fun a' w' h' R2 hy => hn _ a' w' h' hk ?_ hy
    · rcases hKs with hKs | hKs
      · intro p hp
        have := (hE.ar R1)
        exact ⟨this.ok _ (List.mem_append.2 (.inl (hKs p hp))), this.lt _ (List.mem_append.2 (.inl (hKs p hp)))⟩
      · exact hKs.1 _ _ _ _ _ R1.1.sur
    · rcases hKs with hKs | hKs
      · exact fun h => hnd.2.2 _ (List.mem_map.2 ⟨_, hKs p hp, rfl⟩) _ h rfl
      · exact hKs.2 p hp
    · show E.relF _ _ _ _ _ _
      have e : ({ (s.eff { v := r, wb := freeze s.fs.b ids }).put d r with log := encA (F ++ B) } : St).fs = ((s.fs.eff { v := r, wb := freeze s.fs.b ids }).put d r) := by
        cases d with
        | none => exact fs_eff s _
        | some d => show ((s.eff _).put (some d) r).fs = _; rw [fs_put, fs_eff]; rfl
      have e2 : ({ (s.eff { v := r, wb := freeze s.fs.b ids }).put d r with log := encA (F ++ B) } : St).stp = s.stp := by
        show ((s.eff _).put d r).stp = _
        rw [(put_log _ _ _).2, (eff_log _ _).2]
      rw [e, e2]
      exact R2

end
end Go.Am


/-! AM, part Zk: variables that lie in an arena; loads under guards, and of constants. -/
set_option linter.unusedVariables false
set_option linter.unusedSimpArgs false
namespace Go.Am
open Go.RowKit

theorem opK_alloc {P : Program} {o : Oper} {os : List Operand} {zs : List V} (hk : opK P o.op = some (.alloc zs, os)) : ∃ e i z, o.op = .alloc e ∧ P.info? e = some i ∧ i.zero = some z ∧ ofScs z.cells.toList = some zs ∧ os = [] := by
  cases ho : o.op <;> rw [ho] at hk <;> simp only [opK] at hk <;> (try (cases hk; done)) <;> (try (repeat' (split at hk <;> (try (cases hk; done)))))
  all_goals first
    | (simp only [Option.map_eq_some_iff, Prod.mk.injEq, K.alloc.injEq] at hk; obtain ⟨m, hm, rfl, rfl⟩ := hk; exact ⟨_, _, _, rfl, by assumption, by assumption, hm, rfl⟩)
    | (simp only [Option.map_eq_some_iff, Prod.mk.injEq] at hk; obtain ⟨_, _, h1, _⟩ := hk; cases h1; done)
    | (simp only [eqKind] at hk; repeat' (split at hk <;> (try (cases hk; done))))

section
variable {E : Env} {S0 : Sur} {l0 : List (List V)} {s0 : Bool} {A : Arena}

/-- A variable of an arena. -/
theorem Steps.aalloc (hE : InA E S0 l0 s0) {K : St → Prop} {s : St} {d : Nat} {zs : List V} {rest : List Ins} (hl : s.log = encA A)
    (hk : ∀ b, b ∉ A.map (·.1) → Steps E rest K { s.put (some d) (.rptr b 0) with log := encA ((b, .cells zs) :: A) }) : Steps E (⟨some d, .alloc zs, [], none⟩ :: rest) K s := by
  refine Step1.raw fun slots ops o i ro n a w h hc hs hi R Q next hn => ?_
  obtain ⟨os, cc⟩ := comp_of hc
  obtain ⟨e, ie, z, ho, hie, hz, hzs, rfl⟩ := opK_alloc cc.op
  have R' : E.relF (encA A) s.stp s.fs a w h := by rw [← hl]; exact R
  have hq : ∀ φ, zs.length = z.cells.toList.length ∧ ∀ (j : Nat) v x, zs[j]? = some v → z.cells.toList[j]? = some x → RepD (w.alloc (.cells z.cells e)) φ v x ∧ scalar v = true := fun φ => ofScs_rep hzs
  obtain ⟨R2, hnm⟩ := hE.fresh R' (.cells z.cells e) (.cells zs) (fun _ => ⟨z.cells, e, heap_alloc_new w _, by have := (hq h.φ).1; simp at this; omega, fun j v x hv hx => (hq h.φ).2 j v x hv (by simpa using hx)⟩)
  refine wpOp_done hi (wanted_none (guard_none cc rfl)) (opK_defer cc.op) (.inl ?_) (hn _ _ _ h (hk _ hnm) (rel_putA cc R2 (.data (.rptr _ _)) rfl) rfl)
  simp [execOp, ho, Instr.alloc, zeroValue, typeInfo, hie, hz, newVar, newRow]

/-- The same, with a closure. -/
theorem Steps.astoreD (hE : InA E S0 l0 s0) {K : St → Prop} {s : St} {x y : X} {rest : List Ins} {blk off : Nat} {cs : List V} {v : V} (hx : evXs s.env [x, y] = some [.rptr blk off, v]) (hl : s.log = encA A) (hA : (blk, .cells cs) ∈ A) (hoff : off < cs.length) (hv : toD s.fs.b 6 v = some (v, [])) (hsc : scalar v = true)
    (hk : Steps E rest K { s with log := encA (setA A blk (.cells (cs.set off v))) }) : Steps E (⟨none, .store 1, [x, y], none⟩ :: rest) K s := by
  refine Step1.raw fun slots ops o i ro n a w h hc hs hi R Q next hn => ?_
  obtain ⟨os, cc⟩ := comp_of hc
  have hgo := guard_none cc rfl
  have hdf := opK_defer cc.op
  obtain ⟨t, p, q, e1, e2, rfl⟩ := opK_store1 cc.op
  obtain ⟨u, u', hu, o1, o2⟩ := (opds_of R.1 cc.xs (evXs_ok hx)).two
  simp only [List.cons.injEq, and_true] at hu
  obtain ⟨hu1, rfl⟩ := hu
  subst hu1
  have ep := ok_rptr o1
  have R' : E.relF (encA A) s.stp s.fs a w h := by rw [← hl]; exact R
  have hAr := hE.ar R'
  obtain ⟨vs, et, h1, h2, h3⟩ := hAr.ok _ hA
  have rv : RepD w h.φ v (a.eval q) := (toD_rep R.1 6 _ v _ [] hv (fun i hi => by cases hi) o2.1).1
  have hc1 : (a.eval q).cells = #[a.eval q] := (scalar_value o2.1 hsc).2
  have hone : ∀ z ∈ [a.eval q], z.oneCell' = true := fun z hz => by
    obtain rfl : z = a.eval q := by simpa using hz
    exact (scalar_value o2.1 hsc).1
  have hrun := run_storeCells_at E.P blk off et [a.eval q] 0 vs w h1 (by simp; omega) hone
  simp only [Nat.add_zero] at hrun
  have R2 := hE.step R' (B := setA A blk (.cells (cs.set off v)))
    (fun b hb hn => setRow_other w blk b (vs.toList.take off ++ [a.eval q] ++ vs.toList.drop (off + [a.eval q].length)).toArray (fun e => hn (e ▸ List.mem_map.2 ⟨_, hA, rfl⟩))) (by simp) rfl rfl rfl
    (fun p hp => .inl (by rw [← setA_keys A blk (.cells (cs.set off v))]; exact List.mem_map.2 ⟨p, hp, rfl⟩)) (fun p hp => by rw [setA_keys]; exact List.mem_map.2 ⟨p, hp, rfl⟩) (by rw [setA_keys]; exact hAr.nd)
    (fun ext p hp => by
      rcases setA_mem hp with ⟨e, e'⟩ | ⟨hne, hp⟩
      · rw [e, e']
        refine ⟨_, et, setRow_heap w blk vs _ et (0, 0) h1, by simp; omega, fun j u z hu hz => ?_⟩
        rw [List.getElem?_toArray, splice_get (by simp; omega)] at hz
        by_cases ej : j = off
        · subst ej
          rw [List.getElem?_set_self hoff] at hu
          rw [if_neg (by omega), if_pos (by simp)] at hz
          cases hu
          simp at hz
          subst hz
          exact ⟨rv.mono ext, hsc⟩
        · rw [List.getElem?_set_ne (fun h => ej h.symm)] at hu
          have hz' : vs[j]? = some z := by
            by_cases h5 : j < off
            · rw [if_pos h5] at hz; simpa using hz
            · rw [if_neg h5, if_neg (by simp; omega)] at hz; simpa using hz
          exact ⟨(h3 j u z hu hz').1.mono ext, (h3 j u z hu hz').2⟩
      · exact (hAr.ok p hp).mono (setRow_other w blk p.1 _ hne) ext) (fun p hp => by
      have hk : p.1 ∈ A.map (·.1) := by rw [← setA_keys A blk (.cells (cs.set off v))]; exact List.mem_map.2 ⟨p, hp, rfl⟩
      obtain ⟨q', hq', e⟩ := List.mem_map.1 hk
      have := hAr.lt q' hq'
      rw [← e]; simpa using this)
  have hd : o.dst = none := cc.d.symm
  have R3 : E.rel { s with log := encA (setA A blk (.cells (cs.set off v))) } (a.put o.dst undef) (w.setRow blk (vs.toList.take off ++ [a.eval q] ++ vs.toList.drop (off + [a.eval q].length)).toArray) h := by rw [hd]; exact R2
  refine wpOp_done (x := undef) hi (wanted_none hgo) hdf (.inr ⟨?_, rfl⟩) (hn _ _ _ h hk R3 rfl)
  simp only [execOp, e1, ep, Instr.storeAt, Instr.sureAddr, Sem.run_bind, Sem.run_pure, Result.andThen_ok, storeVar, run_szOf e2]
  rw [if_neg (by rw [hc1]; simp), hc1]
  rw [hrun]
  rfl

theorem wanted_on {slots : List (Option Nat)} {ops : Array Oper} {log : List (List V)} {stp : Bool} {σ : FSt} {a : Act} {w : World} {h : Gh} {o : Oper} {ins : Ins} {os : List Operand} (cc : Comp E.P E.nt slots o ins os) (R : E.relF log stp σ a w h) (hs : slots = ops.toList.map (·.dst)) {t : Nat} {want gb : Bool} {gv : V} (hg : ins.g = some (t, want)) (hgv : σ.g t = some gv) (hgb : guardOf want gv = some gb) :
    (gb = true → Region.wanted o (yielded ops a.tmps) = true) ∧ (gb = false → Region.wanted o (yielded ops a.tmps) = false) := by
  rcases cc.guard with ⟨e, _⟩ | ⟨j, want1, t1, e1, e2, e3⟩
  · rw [hg] at e; cases e
  · rw [hg] at e3
    cases e3
    exact guard_wanted R hs e1 e2 hgv hgb

/-- A cell of an arena's block is read, under a guard that holds. -/
theorem Steps.gaload (hE : InA E S0 l0 s0) {K : St → Prop} {s : St} {d t : Nat} {want : Bool} {gv : V} {x : X} {rest : List Ins} {blk off : Nat} {cs : List V} {v : V} (hgv : get s.env t = some gv) (hgb : guardOf want gv = some true) (hx : evXs s.env [x] = some [.rptr blk off]) (hl : s.log = encA A) (hA : (blk, .cells cs) ∈ A) (hv : cs[off]? = some v)
    (hk : Steps E rest K (s.put (some d) (.cond true v))) : Steps E (⟨some d, .load 1 false, [x], some (t, want)⟩ :: rest) K s := by
  refine Step1.raw fun slots ops o i ro n a w h hc hs hi R Q next hn => ?_
  obtain ⟨os, cc⟩ := comp_of hc
  have hwt := (wanted_on cc R hs rfl (by rw [fs_g]; exact hgv) hgb).1 rfl
  have hdf := opK_defer cc.op
  obtain ⟨t, p, dd, e1, e2, e3, e4, rfl⟩ := opK_load1 cc.op
  obtain ⟨u, hu, o1⟩ := (opds_of R.1 cc.xs (evXs_ok hx)).one
  simp only [List.cons.injEq, and_true] at hu
  subst hu
  have ep := ok_rptr o1
  have R' : E.relF (encA A) s.stp s.fs a w h := by rw [← hl]; exact R
  obtain ⟨vs, et, h1, h2, h3⟩ := (hE.ar R').ok _ hA
  have hlt : off < vs.size := by have := (List.getElem?_eq_some_iff.1 hv).1; omega
  obtain ⟨r, sc⟩ := h3 off v _ hv (Array.getElem?_eq_getElem hlt)
  have hcell : w.cell? ⟨blk, off, none⟩ = some vs[off] := by rw [cell_of_row w blk off vs et (0, 0) h1]; simp [hlt]
  have hex : (execOp a.eval o).run E.P w = .ok (.value vs[off]) w := by
    simp only [execOp, e1, ep, Sem.run_bind]
    rw [run_loadAt (cs := [vs[off]]) e2 e3 rfl (fun j v hv => by
      cases j with
      | zero => cases hv; exact hcell
      | succ j => cases hv) (by rw [e4]; rfl)]
    rfl
  refine wpOp_done hi hwt hdf (.inl hex) (hn _ _ _ h hk ?_ rfl)
  have ok : Ok s.fs h w (.cond true v) vs[off] := ⟨.cond true v _ (fun _ => .data r) (fun e => (by cases e)), fun j u z hu hz => by
    cases j with
    | zero => simp [cells] at hu; subst hu; intro r' sz xs' e; cases e
    | succ j => simp [cells] at hu⟩
  show E.relF _ _ _ _ _ _
  rw [(put_log _ _ _).1, (put_log _ _ _).2, fs_put]
  exact rel_after (eff := { v := _ }) cc R R.1 ok rfl

end

section
variable {E : Env} {K : List (Nat × List V)}

/-- A constant is read. -/
theorem does_kload (hE : InK E K) {σ : FSt} {d blk off : Nat} {x : X} {cs : List V} {v : V} (hx : [x].mapM (evX σ) = some [.rptr blk off]) (hA : (blk, cs) ∈ K) (hv : cs[off]? = some v) : Does E σ ⟨some d, .load 1 false, [x], none⟩ { v := v } (xslots [x]) := by
  refine .ext rfl hx fun o os log stp σ' a w h ho R hO => ?_
  obtain ⟨t, p, dd, e1, e2, e3, e4, rfl⟩ := opK_load1 ho
  obtain ⟨u, hu, o1⟩ := hO.one
  simp only [List.cons.injEq, and_true] at hu
  subst hu
  have ep := ok_rptr o1
  obtain ⟨⟨vs, et, h1, h2, h3⟩, _⟩ := hE _ _ _ _ _ R.1.sur _ hA
  have hlt : off < vs.size := by have := (List.getElem?_eq_some_iff.1 hv).1; simp only at h2; omega
  obtain ⟨r, sc⟩ := h3 off v _ hv (Array.getElem?_eq_getElem hlt)
  have hcell : w.cell? ⟨blk, off, none⟩ = some vs[off] := by rw [cell_of_row w blk off vs et (0, 0) h1]; simp [hlt]
  refine ⟨vs[off], ?_, .data r, GrowV.of_data r⟩
  simp only [execOp, e1, ep, Sem.run_bind]
  rw [run_loadAt (cs := [vs[off]]) e2 e3 rfl (fun j v hv => by
    cases j with
    | zero => cases hv; exact hcell
    | succ j => cases hv) (by rw [e4]; rfl)]
  rfl

theorem Steps.kload (hE : InK E K) {s : St} {Kt : St → Prop} {d blk off : Nat} {x : X} {cs : List V} {v : V} {rest : List Ins} (hx : evXs s.env [x] = some [.rptr blk off]) (hA : (blk, cs) ∈ K) (hv : cs[off]? = some v) (hk : Steps E rest Kt (s.put (some d) v)) : Steps E (⟨some d, .load 1 false, [x], none⟩ :: rest) Kt s :=
  Step1.does (ins := ⟨some d, .load 1 false, [x], none⟩) (does_kload hE (evXs_ok hx) hA hv) hk

theorem TraceK.kload (hE : InK E K) {s : St} {Kt : List (List Loc × List Loc) → St → List Ins → Prop} {d blk off : Nat} {x : X} {cs : List V} {v : V} {rest : List Ins} (hx : evXs s.env [x] = some [.rptr blk off]) (hA : (blk, cs) ∈ K) (hv : cs[off]? = some v)
    (tr : TraceK E (s.put (some d) v) rest fun fp s' r' => Kt (([.slot d], xslots [x]) :: fp) s' r') : TraceK E s (⟨some d, .load 1 false, [x], none⟩ :: rest) Kt :=
  .step (ins := ⟨some d, .load 1 false, [x], none⟩) (eff := { v := v }) (does_kload hE (evXs_ok hx) hA hv) tr

end
end Go.Am


/-! AM, part Zl: a scope that no jump leaves. -/
set_option linter.unusedVariables false
set_option linter.unusedSimpArgs false
set_option maxRecDepth 20000
namespace Go

theorem stepR_scope' {P : Program} {b : Frame} {a : Act} {k : List Item} {cs : List Frame} {w : World} {c : Code} : step P (lone (b.atR a (.code (.scope c) :: k)) cs w) = .next (lone (b.atR a (.code c :: .inScope c :: k)) cs w) :=
  step_lone_go (by simp [stepG, stepG.exec, Frame.atR])
theorem stepR_inScope' {P : Program} {b : Frame} {a : Act} {k : List Item} {cs : List Frame} {w : World} {c : Code} : step P (lone (b.atR a (.inScope c :: k)) cs w) = .next (lone (b.atR a k) cs w) :=
  step_lone_go (by simp [stepG, stepG.exec, Frame.atR])

theorem wpIn_scope_straight {F : Fence} {n : Nat} {P : Program} {Q : Exit → Act → World → Prop} {a : Act} {w : World} {c : Code} (h : c.wpIn F n P (Exit.noGoto Q) a w) : (Code.scope c).wpIn F n P Q a w := by
  intro b k cs hro hb hr
  have h0 : (lone (b.atR a (.code (.scope c) :: k)) cs w).fenced P F := fenced_calm hb hr rfl
  obtain ⟨e, a₁, w₁, hq, harr⟩ := h b (.inScope c :: k) cs hro hb hr
  cases e with
  | normal => exact ⟨.normal, a₁, w₁, hq, .head h0 stepR_scope' (StepsIn.trans harr (.one (fenced_calm hb hr rfl) stepR_inScope'))⟩
  | exit id =>
    have hx : exitTo id (.inScope c :: k) = exitTo id k := by simp [exitTo]
    exact ⟨.exit id, a₁, w₁, hq, fun k' hk => .head h0 stepR_scope' (harr.1 k' (by rw [hx]; exact hk)),
      fun hr' hk => let ⟨k₁, h1, h2⟩ := harr.2 hr' (by rw [hx]; exact hk); ⟨k₁, h1, .head h0 stepR_scope' h2⟩⟩
  | goto l => exact hq.elim
  | ret => exact ⟨_, a₁, w₁, hq, .of_steps (.one h0 stepR_scope') harr⟩
  | panic ch => exact ⟨_, a₁, w₁, hq, .of_steps (.one h0 stepR_scope') harr⟩
  | outgrown => exact ⟨_, a₁, w₁, hq, .of_steps (.one h0 stepR_scope') harr⟩
end Go

namespace Go.Am
/-- What does not jump to a label. -/
def qScope (Q : Exit → St → Prop) : Exit → St → Prop
  | .goto _, _ => False
  | e, s => Q e s

theorem Tr.scope {E : Env} {ro : Option Nat} {Q : Exit → St → Prop} {s : St} {x : IC} (h : Tr E ro x (qScope Q) s) : Tr E ro (.scope x) Q s := fun c hc n a w g R Q' hq => by
  obtain ⟨ca, rfl, h1⟩ := compC_inv hc
  refine wpIn_scope_straight (h ca h1 n a w g R _ fun e s' a' w' h' k R' ey => ?_)
  cases e with
  | goto l => exact k.elim
  | _ => exact hq _ s' a' w' h' k R' ey
end Go.Am


/-! AM, part Zm: bytes as a string. -/
set_option linter.unusedVariables false
set_option linter.unusedSimpArgs false
namespace Go.Am
open Go.RowKit

theorem opK_raw5 {P : Program} {o : Oper} {os : List Operand} {t u : Nat} (hk : opK P o.op = some (.raw 5 t u, os)) : ∃ p, o.op = .convert t u p ∧ os = [p] := by
  cases ho : o.op <;> rw [ho] at hk <;> simp only [opK] at hk <;> (try (cases hk; done)) <;> (try (repeat' (split at hk <;> (try (cases hk; done)))))
  all_goals first
    | (simp only [Option.map_eq_some_iff, Prod.mk.injEq] at hk; obtain ⟨_, _, h1, _⟩ := hk; cases h1; done)
    | (simp only [eqKind] at hk; repeat' (split at hk <;> (try (cases hk; done))))
    | (cases hk; exact ⟨_, rfl, rfl⟩)

def byteV (b : UInt8) : V := .int .u8 (b.toNat : Int)

theorem flat_bytes (bs : List UInt8) : (bs.map byteV).flatMap cells = bs.map byteV := by
  induction bs with
  | nil => rfl
  | cons b bs ih => rw [List.map_cons, List.flatMap_cons, ih]; rfl

section
variable {E : Env}

/-- Bytes as a string. -/
theorem Steps.toStr {s : St} {K : St → Prop} {d t u e r : Nat} {x : X} {bs : List UInt8} {rest : List Ins} (h1 : E.P.underlying t = some (.slice e)) (h2 : E.P.underlying e = some (.int .u8)) (h3 : E.P.underlying u = some .string) (hx : evXs s.env [x] = some [.slice r 1 (bs.map byteV)])
    (hk : Steps E rest K (s.put (some d) (.str ⟨bs.toArray⟩))) : Steps E (⟨some d, .raw 5 t u, [x], none⟩ :: rest) K s := by
  refine Step1.raw fun slots ops o i ro n a w h hc hs hi R Q next hn => ?_
  obtain ⟨os, cc⟩ := comp_of hc
  obtain ⟨p, ho, rfl⟩ := opK_raw5 cc.op
  obtain ⟨v, hv, o1⟩ := (opds_of R.1 cc.xs (evXs_ok hx)).one
  simp only [List.cons.injEq, and_true] at hv
  subst hv
  have rr := ok_slice o1
  have key : (execOp a.eval o).run E.P w = .ok (.value (.string ⟨bs.toArray⟩)) w := by
    generalize hz : a.eval p = z at rr
    have hrun : (convert t u z).run E.P w = .ok (.string ⟨bs.toArray⟩) w := by
      rcases slice_at rr with ⟨⟨ad, cap, rfl⟩, e0⟩ | ⟨blk, off, cap, cv, rfl, hpos, _, hys, ay⟩
      · obtain rfl : bs = [] := by simpa using e0
        cases ad with
        | none => exact Go.Lib.run_convert_nil_bytes w t u e cap h1 h2 h3
        | some ad => exact run_convert_bytes_back (P := E.P) w t u e ad cap [] h1 h2 h3 (fun j hj => by simp at hj)
      · have hb := run_convert_bytes_back (P := E.P) w t u e ⟨blk, off, none⟩ cap bs h1 h2 h3 (fun j hj => by
          have hfl : ((bs.map byteV).flatMap cells)[j]? = some (byteV bs[j]) := by
            have e1 : (bs.map byteV).flatMap cells = bs.map byteV := by
              exact flat_bytes bs
            rw [e1]; simp [hj]
          obtain ⟨_, k2, k3, _⟩ := ay j _ hfl
          rw [Addr.add_lit, k2]
          have : cv j = .int .u8 (bs[j].toNat : Int) := by
            exact rep_int (.data k3 : Rep w h.φ h.β h.y.l _ _)
          rw [this])
        rw [List.length_map]
        exact hb
    simp only [execOp, ho, hz, Sem.run_bind, hrun]; rfl
  refine wpOp_done hi (wanted_none (guard_none cc rfl)) (opK_defer cc.op) (.inl key) (hn _ _ w h hk ?_ rfl)
  show E.relF _ _ _ _ _ _
  rw [(put_log _ _ _).1, (put_log _ _ _).2, fs_put]
  exact rel_after (eff := { v := _ }) cc R R.1 ⟨.data (.str _), GrowV.of_data (w0 := w) (φ0 := h.φ) (.str _)⟩ rfl

end
end Go.Am


/-! AM, part Zn: slices that grow in an arena. -/
set_option linter.unusedVariables false
set_option linter.unusedSimpArgs false
namespace Go.Am
open Go.RowKit

/-- A slice of an arena: it holds these, and there may be room behind them. -/
def OwnS (A : Arena) (sz : Nat) (xs : List V) (v : V) : Prop :=
  (xs = [] ∧ v = .nils) ∨ ∃ (blk cap : Nat) (cs : List V), v = .sref blk 0 xs.length cap ∧ (blk, Ob.cells cs) ∈ A ∧ cs.length = cap * sz ∧ xs.length ≤ cap ∧ cs.take (xs.length * sz) = xs.flatMap cells

/-- A block that is not this slice's. -/
def offS (v : V) (b : Nat) : Prop := ∀ blk off n cap, v = .sref blk off n cap → b ≠ blk

theorem ownS_refs {A : Arena} {sz : Nat} {xs : List V} {v : V} (h : OwnS A sz xs v) (B : Nat → Bool) (R : Nat → Option (Nat × Nat × Nat)) (n : Nat) : refsOk B R (n + 1) v = true := by
  rcases h with ⟨_, rfl⟩ | ⟨_, _, _, rfl, _⟩ <;> rfl

/-- A type's zero value, as data. -/
def zeroOf (P : Program) (e : Nat) : Option (List V) := match P.info? e with
  | some i => match i.zero with
    | some z => ofScs z.cells.toList
    | none => none
  | none => none

section
variable {E : Env} {S0 : Sur} {l0 : List (List V)} {s0 : Bool} {A : Arena}

theorem zero_rep {w : World} {φ : Nat → Nat} {z : Value} {zs : List V} (hz : ofScs z.cells.toList = some zs) (k : Nat) : (List.replicate k zs).flatten.length = (Builtin.zeroCells z.cells k).size ∧ ∀ (j : Nat) v x, (List.replicate k zs).flatten[j]? = some v → (Builtin.zeroCells z.cells k)[j]? = some x → RepD w φ v x ∧ scalar v = true := by
  obtain ⟨h1, h2⟩ := ofScs_rep (w := w) (φ := φ) hz
  have hl : zs.length = z.cells.size := by simpa using h1
  have hsz : (Builtin.zeroCells z.cells k).size = k * z.cells.size := by simp [Builtin.zeroCells]
  have hfl : ∀ k, (List.replicate k zs).flatten.length = k * zs.length := fun k => by simp
  refine ⟨by rw [hfl, hsz, hl], fun j v x hv hx => ?_⟩
  have hj : j < k * zs.length := by rw [← hfl]; exact (List.getElem?_eq_some_iff.1 hv).1
  have hpos : 0 < zs.length := by
    rcases Nat.eq_zero_or_pos zs.length with h | h
    · rw [h] at hj; simp at hj
    · exact h
  have key : ∀ (k j : Nat), j < k * zs.length → (List.replicate k zs).flatten[j]? = zs[j % zs.length]? := by
    intro k
    induction k with
    | zero => intro j hj; simp at hj
    | succ k ih =>
      intro j hj
      rw [List.replicate_succ, List.flatten_cons, List.getElem?_append]
      split
      · rename_i h; rw [Nat.mod_eq_of_lt h]
      · rename_i h
        rw [ih (j - zs.length) (by rw [Nat.add_mul] at hj; omega)]
        congr 1
        rw [← Nat.mod_eq_sub_mod (by omega)]
  rw [key k j hj] at hv
  have hx' : x = z.cells[j % z.cells.size]! := by
    unfold Builtin.zeroCells at hx
    rw [Array.getElem?_map] at hx
    rw [← hl] at hx ⊢
    simp [hj] at hx
    exact hx.symm
  have hm : j % zs.length < z.cells.size := by rw [← hl]; exact Nat.mod_lt _ hpos
  refine h2 (j % zs.length) v x hv ?_
  rw [hx', ← hl]
  simp [hm]

theorem opK_app {P : Program} {o : Oper} {os : List Operand} {sz bytes e : Nat} (hk : opK P o.op = some (.append sz bytes e, os)) : ∃ c p q t ie z, o.op = .call c ∧ c.callee = .builtin .append ∧ c.args.toList = [p, q] ∧ c.argTypes.toList = [t, t] ∧ P.underlying t = some (.slice e) ∧ P.info? e = some ie ∧ ie.zero = some z ∧ z.cells.size = ie.size ∧ ie.size = sz ∧ ie.bytes = bytes ∧ os = [p, q] := opK_append hk

/-- What is appended, as cells. -/
theorem app_news {σ : FSt} {h : Gh} {w : World} {sz : Nat} {ys : List V} {y : Value} {r : Nat} (hv : Ok σ h w (.slice r sz ys) y) (hne : ys ≠ []) :
    ∃ (a : Addr) (cap : Nat) (news : List Value), y = .slice (some a) ys.length cap ∧ news.length = ys.length * sz ∧ (ys.flatMap cells).length = ys.length * sz ∧ (∀ j u, news[j]? = some u → w.cell? (a.add j) = some u) ∧ (∀ u ∈ news, u.oneCell' = true) ∧ ∀ (j : Nat) v x, (ys.flatMap cells)[j]? = some v → news[j]? = some x → RepD w h.φ v x ∧ scalar v = true := by
  rcases slice_at (ok_slice hv) with ⟨_, e0⟩ | ⟨yb, yo, ycap, cvy, rfl, _, _, hys, ay⟩
  · exact absurd e0 hne
  have ylen := flat_len hys
  have nget : ∀ j, j < ys.length * sz → ((List.range (ys.length * sz)).map cvy)[j]? = some (cvy j) := fun j hj => by simp [hj]
  refine ⟨_, _, (List.range (ys.length * sz)).map cvy, rfl, by simp, ylen, fun j u hu => ?_, fun u hu => ?_, fun j v x hv hx => ?_⟩
  · have hj : j < ys.length * sz := by have := (List.getElem?_eq_some_iff.1 hu).1; simpa using this
    rw [nget j hj] at hu
    cases hu
    rw [Addr.add_lit]
    exact (ay j _ (List.getElem?_eq_getElem (by omega))).2.1
  · obtain ⟨j, hj⟩ := List.getElem?_of_mem hu
    have hlt : j < ys.length * sz := by have := (List.getElem?_eq_some_iff.1 hj).1; simpa using this
    rw [nget j hlt] at hj
    cases hj
    obtain ⟨_, _, k3, k4⟩ := ay j _ (List.getElem?_eq_getElem (by omega))
    exact (scalar_value (Rep.data (β := h.β) (y := h.y.l) k3) k4).1
  · have hlt : j < ys.length * sz := by have := (List.getElem?_eq_some_iff.1 hx).1; simpa using this
    rw [nget j hlt] at hx
    cases hx
    exact ⟨(ay j v hv).2.2.1, (ay j v hv).2.2.2⟩

/-- An append to nothing. -/
theorem Steps.appendA0 (hE : InA E S0 l0 s0) {K : St → Prop} {s : St} {d : Nat} {x y : X} {sz bytes e r : Nat} {ys zs : List V} {rest : List Ins} (hx : evXs s.env [x, y] = some [.nils, .slice r sz ys]) (hl : s.log = encA A) (hz0 : zeroOf E.P e = some zs) (h0 : 0 < sz) (hb : ys.length * bytes ≤ 2 ^ 47) (hm : ys.length ≤ 2 ^ 47) (hne : ys ≠ [])
    (hk : ∀ blk cap A', OwnS A' sz ys (.sref blk 0 ys.length cap) → (∀ p ∈ A, p ∈ A' ∧ p.1 ≠ blk) → Steps E rest K { s.put (some d) (.sref blk 0 ys.length cap) with log := encA A' }) : Steps E (⟨some d, .append sz bytes e, [x, y], none⟩ :: rest) K s := by
  refine Step1.raw fun slots ops o i ro n a w h hc hs hi R Q next hn => ?_
  obtain ⟨os, cc⟩ := comp_of hc
  obtain ⟨c, p, q, t, ie, z, ho, hcal, hca, hct, ht, hie, hz, hzs, rfl, rfl, rfl⟩ := opK_app cc.op
  obtain ⟨u, v, huv, hu, hv'⟩ := (opds_of R.1 cc.xs (evXs_ok hx)).two
  cases huv
  have hzs0 : ofScs z.cells.toList = some zs := by unfold zeroOf at hz0; rw [hie] at hz0; simp only [hz] at hz0; exact hz0
  obtain ⟨ad, cp, news, ey, nl, fl, ncell, none1, nrep⟩ := app_news hv' hne
  have hpos : 0 < ys.length := List.length_pos_iff.2 hne
  have ea : c.args = #[p, q] := by rw [← Array.toList_inj]; simpa using hca
  have et : c.argTypes = #[t, t] := by rw [← Array.toList_inj]; simpa using hct
  have hrun := run_append_nil (P := E.P) w t o.type e ie z ht hie hz ad ys.length cp news nl ncell hpos (by omega) (by omega)
  have hge := grownCap_ge w ys.length 0 e
  obtain ⟨g, hg⟩ : ∃ g, grownCap w ys.length 0 e = g := ⟨_, rfl⟩
  rw [hg] at hrun hge
  have hex : (execOp a.eval o).run E.P w = .ok (.value (.slice (some ⟨w.heap.size, 0, none⟩) ys.length g)) (w.drew.alloc (.cells (news.toArray ++ Builtin.zeroCells z.cells (g - ys.length)) e)) := by
    simp only [execOp, ho, resolve, hcal, ea, et, Sem.run_bind, Sem.run_pure, Result.andThen_ok, invoke, builtin]
    simp [ok_nils hu, ey, hrun]
  have R' : E.relF (encA A) s.stp s.fs a w h := by rw [← hl]; exact R
  have R1 := relF_drew R'
  have zr := zero_rep (w := w.drew.alloc (.cells (news.toArray ++ Builtin.zeroCells z.cells (g - ys.length)) e)) (φ := h.φ) hzs0 (g - ys.length)
  have hcl : (ys.flatMap cells ++ (List.replicate (g - ys.length) zs).flatten).length = g * ie.size := by
    have h1 : zs.length = ie.size := by have := (ofScs_rep (w := w) (φ := h.φ) hzs0).1; simp at this; omega
    rw [List.length_append, fl]
    simp only [List.length_flatten, List.map_replicate, List.sum_replicate_nat, h1]
    rw [← Nat.add_mul]; congr 1; omega
  obtain ⟨R2, hnm⟩ := hE.fresh R1 (.cells (news.toArray ++ Builtin.zeroCells z.cells (g - ys.length)) e) (.cells (ys.flatMap cells ++ (List.replicate (g - ys.length) zs).flatten)) (fun ext => ⟨_, e, heap_alloc_new w.drew _, by rw [Array.size_append, List.length_append, zr.1]; simp [nl, fl], fun j v x hv hx => by
    rw [List.getElem?_append] at hv
    rw [Array.getElem?_append] at hx
    simp only [List.size_toArray, nl] at hx
    rw [fl] at hv
    by_cases hj : j < ys.length * ie.size
    · rw [if_pos hj] at hv hx
      simp only [List.getElem?_toArray] at hx
      have := nrep j v x hv hx
      exact ⟨this.1.mono (Ext.trans (fun _ _ ho => ⟨ho, rfl, rfl⟩) ext), this.2⟩
    · rw [if_neg hj] at hv hx
      exact zr.2 _ v x hv hx⟩)
  refine wpOp_done hi (wanted_none (guard_none cc rfl)) (opK_defer cc.op) (.inl hex) (hn _ _ _ h (hk w.heap.size g _ (.inr ⟨w.heap.size, g, _, rfl, by simp, hcl, hge, ?_⟩) fun p hp => ⟨List.mem_cons_of_mem _ hp, fun e => hnm (List.mem_map.2 ⟨p, hp, e⟩)⟩) (rel_putA cc R2 (.data (.sref _ _ _ _)) rfl) rfl)
  rw [← fl, List.take_left]

/-- An append to a slice of the arena. -/
theorem Steps.appendA (hE : InA E S0 l0 s0) {K : St → Prop} {s : St} {d : Nat} {x y : X} {sz bytes e r blk cap : Nat} {xs ys zs : List V} {rest : List Ins} (hx : evXs s.env [x, y] = some [.sref blk 0 xs.length cap, .slice r sz ys]) (hl : s.log = encA A) (hO : OwnS A sz xs (.sref blk 0 xs.length cap)) (hz0 : zeroOf E.P e = some zs) (h0 : 0 < sz) (hb : (xs.length + ys.length) * bytes ≤ 2 ^ 47) (hm : xs.length + ys.length ≤ 2 ^ 47) (hne : ys ≠ [])
    (hk : ∀ blk' cap' A', OwnS A' sz (xs ++ ys) (.sref blk' 0 (xs ++ ys).length cap') → (∀ p ∈ A, p.1 ≠ blk → p ∈ A' ∧ p.1 ≠ blk') → Steps E rest K { s.put (some d) (.sref blk' 0 (xs ++ ys).length cap') with log := encA A' }) : Steps E (⟨some d, .append sz bytes e, [x, y], none⟩ :: rest) K s := by
  refine Step1.raw fun slots ops o i ro n a w h hc hs hi R Q next hn => ?_
  obtain ⟨os, cc⟩ := comp_of hc
  obtain ⟨c, p, q, t, ie, z, ho, hcal, hca, hct, ht, hie, hz, hzs, rfl, rfl, rfl⟩ := opK_app cc.op
  obtain ⟨u, v, huv, hu, hv'⟩ := (opds_of R.1 cc.xs (evXs_ok hx)).two
  cases huv
  obtain ⟨cs, hA, hcs, hcap, htk⟩ : ∃ cs, (blk, Ob.cells cs) ∈ A ∧ cs.length = cap * ie.size ∧ xs.length ≤ cap ∧ cs.take (xs.length * ie.size) = xs.flatMap cells := by
    rcases hO with ⟨_, h⟩ | ⟨b', c', cs, e1, e2, e3, e4, e5⟩
    · cases h
    · cases e1; exact ⟨cs, e2, e3, e4, e5⟩
  have hzs0 : ofScs z.cells.toList = some zs := by unfold zeroOf at hz0; rw [hie] at hz0; simp only [hz] at hz0; exact hz0
  obtain ⟨ad, cp, news, ey, nl, fl, ncell, none1, nrep⟩ := app_news hv' hne
  have hpos : 0 < ys.length := List.length_pos_iff.2 hne
  have ea : c.args = #[p, q] := by rw [← Array.toList_inj]; simpa using hca
  have et : c.argTypes = #[t, t] := by rw [← Array.toList_inj]; simpa using hct
  have ep := ok_sref hu
  have R' : E.relF (encA A) s.stp s.fs a w h := by rw [← hl]; exact R
  obtain ⟨vs, vt, w1, w2, w3⟩ := (hE.ar R').ok _ hA
  have hxl : xs.length * ie.size ≤ cs.length := by rw [hcs]; exact Nat.mul_le_mul_right _ hcap
  have fxl : (xs.flatMap cells).length = xs.length * ie.size := by rw [← htk, List.length_take]; omega
  have hfl2 : ((xs ++ ys).flatMap cells).length = (xs ++ ys).length * ie.size := by rw [List.flatMap_append, List.length_append, fxl, fl, List.length_append, Nat.add_mul]
  by_cases hroom : xs.length + ys.length ≤ cap
  · -- there is room
    have hin : 0 + xs.length * ie.size + news.length ≤ vs.size := by
      rw [w2, hcs, nl, Nat.zero_add, ← Nat.add_mul]; exact Nat.mul_le_mul_right _ hroom
    have hst := run_storeCells_at E.P blk (0 + xs.length * ie.size) vt news 0 vs w w1 (by simpa using hin) none1
    simp only [Nat.add_zero] at hst
    have hfc := run_firstCells_some (P := E.P) w ie.size ys.length ad ys.length cp news nl ncell
    have hrun : (Builtin.append_ #[t, t] o.type #[.slice (some ⟨blk, 0, none⟩) xs.length cap, .slice (some ad) ys.length cp]).run E.P w = .ok (.slice (some ⟨blk, 0, none⟩) (xs.length + ys.length) cap) (w.setRow blk (vs.toList.take (0 + xs.length * ie.size) ++ news ++ vs.toList.drop (0 + xs.length * ie.size + news.length)).toArray) := by
      simp [Builtin.append_, run_underlying ht, sizeOf, typeInfo, hie, Builtin.lenOf, hroom, hfc, Addr.add_lit]
      simp only [Nat.zero_add] at hst
      rw [hst]
      simp
    have hex : (execOp a.eval o).run E.P w = .ok (.value (.slice (some ⟨blk, 0, none⟩) (xs.length + ys.length) cap)) (w.setRow blk (vs.toList.take (0 + xs.length * ie.size) ++ news ++ vs.toList.drop (0 + xs.length * ie.size + news.length)).toArray) := by
      simp only [execOp, ho, resolve, hcal, ea, et, Sem.run_bind, Sem.run_pure, Result.andThen_ok, invoke, builtin]
      simp only [List.map_toArray, List.map_cons, List.map_nil, ep, ey, hrun]
      rfl
    have hsl : (vs.toList.take (0 + xs.length * ie.size) ++ news ++ vs.toList.drop (0 + xs.length * ie.size + news.length)).length = vs.size := by simp; omega
    have R2 := hE.turn R' hA (.cells (cs.take (xs.length * ie.size) ++ ys.flatMap cells ++ cs.drop (xs.length * ie.size + ys.length * ie.size))) (w' := w.setRow blk (vs.toList.take (0 + xs.length * ie.size) ++ news ++ vs.toList.drop (0 + xs.length * ie.size + news.length)).toArray)
      (fun k hk => setRow_other w blk k _ hk) (by simp) rfl rfl rfl (fun ext => ⟨_, vt, setRow_heap w blk vs _ vt (0, 0) w1, by simp [fl, nl]; omega, fun j v x hv hx => by
        rw [List.getElem?_toArray] at hx
        rw [List.append_assoc, List.getElem?_append] at hv hx
        have l1 : (cs.take (xs.length * ie.size)).length = xs.length * ie.size := by rw [List.length_take]; omega
        have l2 : (vs.toList.take (0 + xs.length * ie.size)).length = xs.length * ie.size := by rw [List.length_take]; simp; omega
        rw [l1] at hv
        rw [l2] at hx
        by_cases hj : j < xs.length * ie.size
        · rw [if_pos hj, List.getElem?_take_of_lt hj] at hv
          rw [if_pos hj, List.getElem?_take_of_lt (by omega)] at hx
          have := w3 j v x hv (by simpa using hx)
          exact ⟨this.1.mono ext, this.2⟩
        · rw [if_neg hj, List.getElem?_append] at hv hx
          rw [fl] at hv
          rw [nl] at hx
          by_cases hj2 : j - xs.length * ie.size < ys.length * ie.size
          · rw [if_pos hj2] at hv hx
            have := nrep _ v x hv hx
            exact ⟨this.1.mono ext, this.2⟩
          · rw [if_neg hj2, List.getElem?_drop] at hv hx
            have := w3 _ v x hv (by rw [← hx]; simp [nl])
            exact ⟨this.1.mono ext, this.2⟩⟩)
    have own : OwnS (setA A blk (.cells (cs.take (xs.length * ie.size) ++ ys.flatMap cells ++ cs.drop (xs.length * ie.size + ys.length * ie.size)))) ie.size (xs ++ ys) (.sref blk 0 (xs ++ ys).length cap) := by
      refine .inr ⟨blk, cap, cs.take (xs.length * ie.size) ++ ys.flatMap cells ++ cs.drop (xs.length * ie.size + ys.length * ie.size), rfl, ?_, ?_, ?_, ?_⟩
      · exact List.mem_map.2 ⟨_, hA, by simp⟩
      · have : (xs.length + ys.length) * ie.size ≤ cap * ie.size := Nat.mul_le_mul_right _ hroom
        rw [Nat.add_mul] at this
        simp [fl]; omega
      · simpa using hroom
      · rw [List.length_append, Nat.add_mul, List.flatMap_append, ← htk]
        rw [List.take_append_of_le_length (by rw [List.length_append, List.length_take, fl]; omega), List.take_of_length_le (by rw [List.length_append, List.length_take, fl]; omega)]
    refine wpOp_done hi (wanted_none (guard_none cc rfl)) (opK_defer cc.op) (.inl hex) (hn _ _ _ h (hk blk cap _ own fun p hp hne => ⟨List.mem_map.2 ⟨p, hp, by rw [if_neg hne]⟩, hne⟩) (rel_putA cc R2 (by rw [List.length_append]; exact ⟨.data (.sref _ _ _ _), GrowV.of_data (w0 := w) (φ0 := h.φ) (.sref _ _ _ _)⟩) rfl) rfl)
  · -- it grows
    obtain ⟨olds, holds⟩ : ∃ olds, olds = vs.toList.take (xs.length * ie.size) := ⟨_, rfl⟩
    have ol : olds.length = xs.length * ie.size := by rw [holds, List.length_take]; simp; omega
    have ocell : ∀ j v, olds[j]? = some v → w.cell? ((⟨blk, 0, none⟩ : Addr).add j) = some v := fun j v hv => by
      have hj : j < xs.length * ie.size := by have := (List.getElem?_eq_some_iff.1 hv).1; omega
      rw [Addr.add_lit, Nat.zero_add, cell_of_row w blk j vs vt (0, 0) w1]
      rw [holds, List.getElem?_take_of_lt hj] at hv
      simpa using hv
    have hrun := run_append_grow (P := E.P) w t o.type e ie z ht hie hz ⟨blk, 0, none⟩ xs.length cap olds ol ocell ad ys.length cp news nl ncell (by omega) (by omega) (growslice_fits (by omega) (by omega))
    have hge := grownCap_ge w (xs.length + ys.length) cap e
    obtain ⟨g, hg⟩ : ∃ g, grownCap w (xs.length + ys.length) cap e = g := ⟨_, rfl⟩
    rw [hg] at hrun hge
    have hex : (execOp a.eval o).run E.P w = .ok (.value (.slice (some ⟨w.heap.size, 0, none⟩) (xs.length + ys.length) g)) (w.drew.alloc (.cells (olds.toArray ++ news.toArray ++ Builtin.zeroCells z.cells (g - (xs.length + ys.length))) e)) := by
      simp only [execOp, ho, resolve, hcal, ea, et, Sem.run_bind, Sem.run_pure, Result.andThen_ok, invoke, builtin]
      simp only [List.map_toArray, List.map_cons, List.map_nil, ep, ey, hrun]
      rfl
    have R1 := relF_drew R'
    have zr := zero_rep (w := w.drew.alloc (.cells (olds.toArray ++ news.toArray ++ Builtin.zeroCells z.cells (g - (xs.length + ys.length))) e)) (φ := h.φ) hzs0 (g - (xs.length + ys.length))
    have zl : zs.length = ie.size := by have := (ofScs_rep (w := w) (φ := h.φ) hzs0).1; simp at this; omega
    have hcl : ((xs ++ ys).flatMap cells ++ (List.replicate (g - (xs.length + ys.length)) zs).flatten).length = g * ie.size := by
      rw [List.length_append, hfl2]
      simp only [List.length_flatten, List.map_replicate, List.sum_replicate_nat, zl, List.length_append]
      rw [← Nat.add_mul]; congr 1; omega
    obtain ⟨R2, hnm⟩ := hE.fresh R1 (.cells (olds.toArray ++ news.toArray ++ Builtin.zeroCells z.cells (g - (xs.length + ys.length))) e) (.cells ((xs ++ ys).flatMap cells ++ (List.replicate (g - (xs.length + ys.length)) zs).flatten)) (fun ext => ⟨_, e, heap_alloc_new w.drew _, by rw [Array.size_append, List.length_append, zr.1, hfl2]; simp [nl, ol, Nat.add_mul], fun j v x hv hx => by
      have ext' : Ext w h.φ (w.drew.alloc (.cells (olds.toArray ++ news.toArray ++ Builtin.zeroCells z.cells (g - (xs.length + ys.length))) e)) h.φ := Ext.trans (fun _ _ ho => ⟨ho, rfl, rfl⟩) ext
      rw [List.flatMap_append, List.append_assoc, List.getElem?_append, fxl] at hv
      rw [Array.append_assoc, Array.getElem?_append] at hx
      simp only [List.size_toArray, ol] at hx
      by_cases hj : j < xs.length * ie.size
      · rw [if_pos hj] at hv hx
        simp only [List.getElem?_toArray] at hx
        rw [← htk, List.getElem?_take_of_lt hj] at hv
        rw [holds, List.getElem?_take_of_lt hj] at hx
        have := w3 j v x hv (by simpa using hx)
        exact ⟨this.1.mono ext', this.2⟩
      · rw [if_neg hj, List.getElem?_append, fl] at hv
        rw [if_neg hj, Array.getElem?_append] at hx
        simp only [List.size_toArray, nl] at hx
        by_cases hj2 : j - xs.length * ie.size < ys.length * ie.size
        · rw [if_pos hj2] at hv hx
          simp only [List.getElem?_toArray] at hx
          have := nrep _ v x hv hx
          exact ⟨this.1.mono ext', this.2⟩
        · rw [if_neg hj2] at hv hx
          exact zr.2 _ v x hv hx⟩)
    refine wpOp_done hi (wanted_none (guard_none cc rfl)) (opK_defer cc.op) (.inl hex) (hn _ _ _ h (hk w.heap.size g _ (.inr ⟨w.heap.size, g, _, rfl, by simp, hcl, by simpa using hge, ?_⟩) fun p hp _ => ⟨List.mem_cons_of_mem _ hp, fun e => hnm (List.mem_map.2 ⟨p, hp, e⟩)⟩) (rel_putA cc R2 (by rw [List.length_append]; exact ⟨.data (.sref _ _ _ _), GrowV.of_data (w0 := w) (φ0 := h.φ) (.sref _ _ _ _)⟩) rfl) rfl)
    rw [← hfl2, List.take_left]

end
end Go.Am


/-! AM, part Zo: calls by name over an arena; what lies in an arena becomes data. -/
set_option linter.unusedVariables false
set_option linter.unusedSimpArgs false
namespace Go.Am
open Go.RowKit

section
variable {E : Env} {S0 : Sur} {l0 : List (List V)} {s0 : Bool} {A : Arena}

theorem Steps.callA (hE : InA E S0 l0 s0) {K : St → Prop} {Ks : List (Nat × List V)} {s : St} {d : Option Nat} {f : FuncId} {xs : List X} {rest : List Ins} {vs us : List V} {ids : List Nat} {r : V} {F A1 B : Arena} (hx : evXs s.env xs = some vs) (hd : toDs s.fs.b vs = some (us, ids)) (hl : s.log = encA (F ++ A1))
    (hC : CA E.P f A1 Ks us r B) (hKs : (∀ p ∈ Ks, (p.1, Ob.cells p.2) ∈ F) ∨ InK E Ks ∧ ∀ p ∈ Ks, p.1 ∉ A1.map (·.1))
    (hk : Steps E rest K { (s.eff { v := r, wb := freeze s.fs.b ids }).put d r with log := encA (F ++ B) }) : Steps E (⟨d, .call f, xs, none⟩ :: rest) K s := by
  refine Step1.raw fun slots ops o i ro n a w h hc hs hi R Q next hn => ?_
  obtain ⟨os, cc⟩ := comp_of hc
  have hgo := guard_none cc rfl
  obtain ⟨c, e1, e2, rfl⟩ := opK_call cc.op
  have R' : E.relF (encA (F ++ A1)) s.stp s.fs a w h := by rw [← hl]; exact R
  have hAr := hE.ar R'
  have hnd := hAr.nd
  rw [List.map_append, List.nodup_append] at hnd
  obtain ⟨l1, l2⟩ := opds_args (opds_of R.1 cc.xs (evXs_ok hx))
  refine wp_callA hE R' cc hd hC (fun h' R1 => ?_) (fun p hp => ?_) _ l1 l2 hi (wanted_none hgo) (run_call hC.1 e2 e1) fun a' w' h' R2 hy => hn _ a' w' h' hk ?_ hy
  · rcases hKs with hKs | hKs
    · intro p hp
      have := (hE.ar R1)
      exact ⟨this.ok _ (List.mem_append.2 (.inl (hKs p hp))), this.lt _ (List.mem_append.2 (.inl (hKs p hp)))⟩
    · exact hKs.1 _ _ _ _ _ R1.1.sur
  · rcases hKs with hKs | hKs
    · exact fun h => hnd.2.2 _ (List.mem_map.2 ⟨_, hKs p hp, rfl⟩) _ h rfl
    · exact hKs.2 p hp
  · show E.relF _ _ _ _ _ _
    have e : ({ (s.eff { v := r, wb := freeze s.fs.b ids }).put d r with log := encA (F ++ B) } : St).fs = ((s.fs.eff { v := r, wb := freeze s.fs.b ids }).put d r) := by
      cases d with
      | none => exact fs_eff s _
      | some d => show ((s.eff _).put (some d) r).fs = _; rw [fs_put, fs_eff]; rfl
    have e2 : ({ (s.eff { v := r, wb := freeze s.fs.b ids }).put d r with log := encA (F ++ B) } : St).stp = s.stp := by
      show ((s.eff _).put d r).stp = _
      rw [(put_log _ _ _).2, (eff_log _ _).2]
    rw [e, e2]
    exact R2

/-- A block's cells are frozen. -/
def cut (φ : Nat → Nat) (blk len : Nat) : Nat → Nat := fun b => if b = blk then len else φ b

theorem InA.close (hE : InA E S0 l0 s0) {stp : Bool} {σ : FSt} {a : Act} {w : World} {h : Gh} (R : E.relF (encA A) stp σ a w h) {blk : Nat} {o : Ob} (hA : (blk, o) ∈ A) (len : Nat) {B : Arena} (hkeys : ∀ p ∈ B, p.1 ∈ A.map (·.1) ∧ p.1 ≠ blk) (hnd : (B.map (·.1)).Nodup)
    (hB : Ext w h.φ w (cut h.φ blk len) → ∀ p ∈ B, ObOk w (cut h.φ blk len) p.1 p.2) : Ext w h.φ w (cut h.φ blk len) ∧ E.relF (encA B) stp σ a w { h with φ := cut h.φ blk len } := by
  obtain ⟨M1, hM1, hlt1, ⟨A0, e, hs, hAr, hS⟩, back⟩ := hE.sub _ _ _ _ _ R.1.sur R.1.mine
  obtain rfl := encA_inj e
  have hz := hAr.z _ hA
  simp only at hz
  have other : ∀ b, b ≠ blk → cut h.φ blk len b = h.φ b := fun b hb => by unfold cut; rw [if_neg hb]
  have ext : Ext w h.φ w (cut h.φ blk len) := fun b o ho => by
    have hb : b ≠ blk := fun e => by rw [e, hz] at ho; omega
    exact ⟨by rw [other b hb]; exact ho, rfl, rfl⟩
  have top' : ∀ b, w.heap.size ≤ b → cut h.φ blk len b = 0 := fun b hb => by
    have := hAr.lt _ hA
    simp only at this
    rw [other b (by omega)]; exact R.1.top b hb
  have own : ∀ b, M1 b → w.heap[b]? = w.heap[b]? ∧ cut h.φ blk len b = h.φ b := fun b hb => ⟨rfl, other b fun e => by
    have := hAr.fr _ hA
    exact this (e ▸ hb)⟩
  have keyOld : ∀ p ∈ B, ∃ q ∈ A, q.1 = p.1 := fun p hp => by
    obtain ⟨q, hq, e⟩ := List.mem_map.1 (hkeys p hp).1
    exact ⟨q, hq, e⟩
  have sa : SA S0 l0 s0 (encA B) stp M1 w (cut h.φ blk len) := by
    refine ⟨B, rfl, hs, ⟨hnd, hB ext, fun p hp hM => ?_, fun p hp => ?_, fun p hp => ?_⟩, hE.ok _ _ _ _ _ _ _ _ hS ⟨ext, fun b hb hn => ⟨rfl, other b fun e => hn (.inr (List.mem_map.2 ⟨_, hA, e.symm⟩))⟩, Nat.le_refl _, rfl, rfl, rfl, fun b hb => .inl ?_, top'⟩⟩
    · obtain ⟨q, hq, e⟩ := keyOld p hp
      exact hAr.fr q hq (e ▸ hM)
    · obtain ⟨q, hq, e⟩ := keyOld p hp
      rw [← e]; exact hAr.lt q hq
    · obtain ⟨q, hq, e⟩ := keyOld p hp
      rw [other _ (hkeys p hp).2, ← e]; exact hAr.z q hq
    · rcases hb with hb | hb
      · exact .inl hb
      · obtain ⟨p, hp, rfl⟩ := List.mem_map.1 hb
        exact .inr (hkeys p hp).1
  have sur' := back (encA B) stp w (cut h.φ blk len) sa ext own (Nat.le_refl _) top' rfl rfl rfl
  exact ⟨ext, rel_round R.1 ext (fun b hb => own b (hM1 b hb)) (Nat.le_refl _) top' sur', R.2⟩

/-- A block's cells, as a slice of data. -/
theorem close_rep {w : World} {φ : Nat → Nat} {blk cap sz : Nat} {cs xs : List V} (ho : ObOk w φ blk (.cells cs)) (h0 : 0 < sz) (hcap : xs.length ≤ cap) (hxs : ∀ x ∈ xs, (cells x).length = sz) (htk : cs.take (xs.length * sz) = xs.flatMap cells) (ext : Ext w φ w (cut φ blk (xs.length * sz))) :
    RepD w (cut φ blk (xs.length * sz)) (.slice 0 sz xs) (.slice (some ⟨blk, 0, none⟩) xs.length cap) := by
  obtain ⟨vs, et, h1, h2, h3⟩ := ho
  have fl := flat_len hxs
  have at' : ∀ (j : Nat) v, (xs.flatMap cells)[j]? = some v → j < xs.length * sz ∧ j < vs.size ∧ cs[j]? = some v := fun j v hv => by
    have hj : j < xs.length * sz := by have := (List.getElem?_eq_some_iff.1 hv).1; omega
    rw [← htk, List.getElem?_take_of_lt hj] at hv
    have := (List.getElem?_eq_some_iff.1 hv).1
    exact ⟨hj, by omega, hv⟩
  refine .slice sz xs blk 0 xs.length cap (fun j => vs.getD j undef) h0 rfl hcap hxs (fun j v hv => ?_) (fun j v hv => ?_)
  · obtain ⟨a1, a2, a3⟩ := at' j v hv
    have e : vs[j]? = some (vs.getD j undef) := by simp [a2]
    refine ⟨by unfold cut; rw [if_pos rfl]; omega, ?_, (h3 j v _ a3 e).2⟩
    rw [Nat.zero_add, cell_of_row w blk j vs et (0, 0) h1, e]
  · obtain ⟨a1, a2, a3⟩ := at' j v hv
    have e : vs[j]? = some (vs.getD j undef) := by simp [a2]
    exact (h3 j v _ a3 e).1.mono ext

def dropA (A : Arena) (blk : Nat) : Arena := A.filter fun p => p.1 != blk

theorem dropA_mem {A : Arena} {blk : Nat} {p : Nat × Ob} : p ∈ dropA A blk ↔ p ∈ A ∧ p.1 ≠ blk := by
  unfold dropA; rw [List.mem_filter]; simp

theorem dropA_nd {A : Arena} {blk : Nat} (h : (A.map (·.1)).Nodup) : ((dropA A blk).map (·.1)).Nodup := h.sublist (List.Sublist.map _ List.filter_sublist)

/-- A slice of an arena becomes data. -/
theorem Wk.close (hE : InA E S0 l0 s0) {s : St} {t blk cap sz : Nat} {cs xs : List V} (ht : get s.env t = some (.sref blk 0 xs.length cap)) (hl : s.log = encA A) (hA : (blk, Ob.cells cs) ∈ A) (h0 : 0 < sz) (hcap : xs.length ≤ cap) (hxs : ∀ x ∈ xs, (cells x).length = sz) (htk : cs.take (xs.length * sz) = xs.flatMap cells) :
    Wk E s { s.put (some t) (.slice 0 sz xs) with log := encA (dropA A blk) } := by
  intro a w h R
  obtain ⟨q1, q2, _⟩ := R.1.env t _ (by rw [fs_g]; exact ht)
  have R' : E.relF (encA A) s.stp s.fs a w h := by rw [← hl]; exact R
  have hAr := hE.ar R'
  obtain ⟨ext, R2⟩ := hE.close R' hA (xs.length * sz) (B := dropA A blk) (fun p hp => ⟨List.mem_map.2 ⟨p, (dropA_mem.1 hp).1, rfl⟩, (dropA_mem.1 hp).2⟩) (dropA_nd hAr.nd) (fun ext p hp => (hAr.ok p (dropA_mem.1 hp).1).mono rfl ext)
  have rd := close_rep (cap := cap) (hAr.ok _ hA) h0 hcap hxs htk ext
  have e : a.tmps.getD t undef = .slice (some ⟨blk, 0, none⟩) xs.length cap := by
    revert q2
    generalize a.tmps.getD t undef = x1
    intro q2
    cases q2 with
    | data r => cases r; rfl
  have R3 := R2.1.put (d := t) (v := .slice 0 sz xs) (x := a.tmps.getD t undef) q1 (by rw [e]; exact .data rd) (by rw [e]; exact GrowV.of_data rd)
  rw [put_self (by rw [R.1.size]; exact q1)] at R3
  refine ⟨_, ⟨?_, R2.2⟩, rfl⟩
  show Rel E.nt E.S _ s.stp (s.put (some t) (.slice 0 sz xs)).fs _ _ _
  rw [fs_put]
  exact R3

/-- Less of an arena, in whatever order. -/
theorem Wk.keep (hE : InA E S0 l0 s0) {s : St} {B : Arena} (hl : s.log = encA A) (hsub : ∀ p ∈ B, p ∈ A) (hnd : (B.map (·.1)).Nodup) : Wk E s { s with log := encA B } := by
  intro a w h R
  have R' : E.relF (encA A) s.stp s.fs a w h := by rw [← hl]; exact R
  obtain ⟨M1, hM1, hlt1, ⟨A0, e, hs, hAr, hS⟩, back⟩ := hE.sub _ _ _ _ _ R'.1.sur R'.1.mine
  obtain rfl := encA_inj e
  have sa : SA S0 l0 s0 (encA B) s.stp M1 w h.φ := by
    refine ⟨B, rfl, hs, ⟨hnd, fun p hp => hAr.ok p (hsub p hp), fun p hp => hAr.fr p (hsub p hp), fun p hp => hAr.lt p (hsub p hp), fun p hp => hAr.z p (hsub p hp)⟩, hE.ok _ _ _ _ _ _ _ _ hS ⟨Ext.refl _ _, fun _ _ _ => ⟨rfl, rfl⟩, Nat.le_refl _, rfl, rfl, rfl, fun b hb => .inl ?_, R'.1.top⟩⟩
    rcases hb with hb | hb
    · exact .inl hb
    · obtain ⟨p, hp, rfl⟩ := List.mem_map.1 hb
      exact .inr (List.mem_map.2 ⟨p, hsub p hp, rfl⟩)
  have sur' := back (encA B) s.stp w h.φ sa (Ext.refl _ _) (fun _ _ => ⟨rfl, rfl⟩) (Nat.le_refl _) R'.1.top rfl rfl rfl
  exact ⟨h, ⟨{ R'.1 with sur := sur' }, R'.2⟩, rfl⟩

theorem mem_setA_ne {b : Nat} {o : Ob} {p : Nat × Ob} (h : p ∈ A) (hne : p.1 ≠ b) : p ∈ setA A b o := List.mem_map.2 ⟨p, h, by rw [if_neg hne]⟩
theorem mem_setA_self {b : Nat} {o o' : Ob} (h : (b, o') ∈ A) : (b, o) ∈ setA A b o := List.mem_map.2 ⟨_, h, by rw [if_pos rfl]⟩

/-- An append to a slice of one's own. -/
theorem Steps.appendOwn (hE : InA E S0 l0 s0) {K : St → Prop} {s : St} {d : Nat} {x y : X} {v : V} {sz bytes e r : Nat} {xs ys zs : List V} {rest : List Ins} (hx : evXs s.env [x, y] = some [v, .slice r sz ys]) (hl : s.log = encA A) (hO : OwnS A sz xs v) (hz0 : zeroOf E.P e = some zs) (h0 : 0 < sz) (hb : (xs.length + ys.length) * bytes ≤ 2 ^ 47) (hm : xs.length + ys.length ≤ 2 ^ 47) (hne : ys ≠ [])
    (hk : ∀ v' A', OwnS A' sz (xs ++ ys) v' → (∀ p ∈ A, offS v p.1 → p ∈ A' ∧ offS v' p.1) → Steps E rest K { s.put (some d) v' with log := encA A' }) : Steps E (⟨some d, .append sz bytes e, [x, y], none⟩ :: rest) K s := by
  rcases hO with ⟨rfl, rfl⟩ | ⟨blk, cap, cs, rfl, h2, h3, h4, h5⟩
  · refine Steps.appendA0 hE hx hl hz0 h0 (by simpa using hb) (by simpa using hm) hne fun blk cap A' hO hp => hk _ A' hO fun p hpA _ => ⟨(hp p hpA).1, fun b o n c e => ?_⟩
    cases e; exact (hp p hpA).2
  · refine Steps.appendA hE hx hl (.inr ⟨blk, cap, cs, rfl, h2, h3, h4, h5⟩) hz0 h0 hb hm hne fun blk' cap' A' hO hp => hk _ A' hO fun p hpA hoff => ?_
    have := hp p hpA (hoff _ _ _ _ rfl)
    refine ⟨this.1, fun b o n c e => ?_⟩
    cases e; exact this.2

end
end Go.Am

