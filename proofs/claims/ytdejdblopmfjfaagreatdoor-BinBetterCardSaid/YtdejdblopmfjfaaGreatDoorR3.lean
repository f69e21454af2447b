/-
  Parts of the proof, 3: the abstract machine, the compiled code, contracts of the functions, plain laws.
-/
import Derived.Test.YtdejdblopmfjfaaGreatDoorR2
import Derived.Test.YtdejdblopmfjfaaGreatDoorProg


/-! The code of the loaded functions, compiled. -/
namespace Go.Am
abbrev Ins.n (d : Nat) (k : K) (xs : List X) : Ins := ⟨some d, k, xs, none⟩
abbrev Ins.w (d : Nat) (k : K) (xs : List X) (t : Nat) (b : Bool) : Ins := ⟨some d, k, xs, some (t, b)⟩
abbrev Ins.s (k : K) (xs : List X) : Ins := ⟨none, k, xs, none⟩
abbrev X.i (n : Int) : X := .c (.int .i64 n)
end Go.Am
set_option maxRecDepth 100000
set_option maxRecDepth 100000
namespace Go.Proofs.YtdejdblopmfjfaaGreatDoor
open Go.Am
theorem mixed : Tryz.prog.follows .mixedOrders = true := by kernel_rfl
/-- paravane/paravanelaw07.BinBetter -/
abbrev F.law07_BinBetter : Nat := 8
def ir.law07_BinBetter : IC :=
 (.seq (.reg [.n 3 .box [.t 0], .n 4 .box [.t 1], .n 6 .mov [.c (.bool false)]])
   (.seq (.reg [.n 23 (.load 6 true) [.t 3], .n 24 (.load 2 true) [.t 4], .n 25 (.call 20) [.t 23, .t 24], .n 22 .mov [.t 25], .n 26 (.extract 0) [.t 22], .n 27 (.extract 1) [.t 22], .n 28 (.extract 2) [.t 22], .n 7 .mov [.t 26], .n 8 .mov [.t 27], .n 9 .mov [.t 28]])
   (.seq (.seq (.reg [.n 29 .mov [.t 9], .n 30 (.bin .neq) [.t 29, .i 0], .n 31 .mov [.t 30], .w 32 (.faddr 0) [.t 4] 31 false, .w 33 (.load 1 false) [.t 32] 31 false, .w 34 (.len false) [.t 33] 31 false, .w 35 (.bin .eql) [.t 34, .i 0] 31 false, .n 36 .pick [.t 31, .c (.bool true), .t 35]])
   (.cond (.t 36) (.seq (.reg [.n 37 (.call 19) [], .n 6 .mov [.t 37]])
   .ret) .skip))
   (.seq (.draw [0, 1, 0, 4, 12, 31, 63] [.n 38 .mov [.t 2], .n 39 (.call 36) [.t 38, .i 0], .n 40 (.faddr 0) [.t 4], .n 41 (.load 1 false) [.t 40], .n 42 (.len false) [.t 41], .n 43 (.call 35) [.t 39, .t 42], .n 10 .mov [.t 43]])
   (.seq (.draw [0, 1, 0, 7, 15, 0, 32, 0, 224, 511, 1023, 2047, 2047, 0, 12287, 32767] [.n 45 (.faddr 0) [.t 4], .n 46 (.load 1 false) [.t 45], .n 47 .mov [.t 10], .n 48 (.iaddrS 8) [.t 46, .t 47], .n 49 (.load 8 true) [.t 48], .n 50 .mov [.t 2], .n 51 (.call 36) [.t 50, .i 1], .n 52 .mov [.t 2], .n 53 (.call 36) [.t 52, .i 2], .n 54 (.call 37) [.t 49, .t 51, .t 53], .n 44 .mov [.t 54], .n 55 (.extract 0) [.t 44], .n 56 (.extract 1) [.t 44], .n 11 (.alloc [(.int .i64 0), (.int .i64 0)]) [], .s (.store 2) [.t 11, .t 55], .n 12 .mov [.t 56]])
   (.seq (.reg [.n 58 (.load 2 true) [.t 11], .n 59 (.mkslice 2 23) [.t 58], .n 60 (.call 38) [.t 59], .n 57 .mov [.t 60], .n 61 (.extract 0) [.t 57], .n 62 (.extract 1) [.t 57], .n 13 (.alloc [(.int .i64 0), (.int .i64 0), (.int .i64 0), (.int .i64 0), (.int .i64 0), (.int .i64 0), (.int .i64 0), (.int .i64 0)]) [], .s (.store 8) [.t 13, .t 61], .n 9 .mov [.t 62]])
   (.seq (.seq (.reg [.n 63 .mov [.t 12], .n 64 (.un .not) [.t 63], .n 65 .mov [.t 64], .w 66 .mov [.t 9] 65 false, .w 67 (.bin .neq) [.t 66, .i 0] 65 false, .n 68 .pick [.t 65, .c (.bool true), .t 67]])
   (.cond (.t 68) (.seq (.reg [.n 6 .mov [.c (.bool false)]])
   .ret) .skip))
   (.seq (.draw [0, 0, 2, 7, 0, 16, 63, 0, 255] [.n 69 (.mkslice 8 85) [], .n 70 (.faddr 0) [.t 4], .n 71 (.load 1 false) [.t 70], .n 72 (.append 8 64 85) [.t 69, .t 71], .n 73 (.faddr 1) [.t 4], .n 74 (.load 1 false) [.t 73], .n 75 (.build [.nils, .nils] [(0, 1), (1, 1)]) [.t 72, .t 74], .n 14 (.alloc [.nils, .nils]) [], .s (.store 2) [.t 14, .t 75]])
   (.seq (.reg [.n 76 (.faddr 0) [.t 14], .n 77 (.load 1 false) [.t 76], .n 78 .mov [.t 10], .n 79 (.load 8 true) [.t 13], .n 80 (.iaddrS 8) [.t 77, .t 78], .s (.store 8) [.t 80, .t 79]])
   (.seq (.reg [.n 82 (.load 6 true) [.t 3], .n 83 (.load 2 true) [.t 14], .n 84 (.call 20) [.t 82, .t 83], .n 81 .mov [.t 84], .n 85 (.extract 0) [.t 81], .n 86 (.extract 1) [.t 81], .n 87 (.extract 2) [.t 81], .n 15 .mov [.t 85], .n 16 .mov [.t 86], .n 9 .mov [.t 87]])
   (.seq (.seq (.reg [.n 88 .mov [.t 9], .n 89 (.bin .neq) [.t 88, .i 0], .n 90 .mov [.t 89], .w 91 .mov [.t 15] 90 false, .w 92 (.len false) [.t 91] 90 false, .w 93 .mov [.t 7] 90 false, .w 94 (.len false) [.t 93] 90 false, .w 95 (.bin .neq) [.t 92, .t 94] 90 false, .n 96 .pick [.t 90, .c (.bool true), .t 95], .n 97 .mov [.t 96], .w 98 .mov [.t 16] 97 false, .w 99 (.len false) [.t 98] 97 false, .w 100 .mov [.t 8] 97 false, .w 101 (.len false) [.t 100] 97 false, .w 102 (.bin .neq) [.t 99, .t 101] 97 false, .n 103 .pick [.t 97, .c (.bool true), .t 102]])
   (.cond (.t 103) (.seq (.reg [.n 6 .mov [.c (.bool false)]])
   .ret) .skip))
   (.seq (.reg [.n 17 .mov [.i 0], .n 18 .mov [.i 0]])
   (.seq (.seq (.reg [.n 19 .mov [.i 0]])
   (.block 0 (.loop (.seq (.seq (.reg [.n 104 .mov [.t 19], .n 105 .mov [.t 15], .n 106 (.len false) [.t 105], .n 107 (.bin .lss) [.t 104, .t 106]])
   (.cond (.t 107) .skip (.exit 0)))
   (.seq (.block 1 (.seq (.seq (.draw [0, 0, 3, 7, 15, 0, 0, 96, 224, 480, 1023, 2047, 4095, 4095, 16383, 32767, 65535, 4095, 4095, 397311, 921599, 1970175, 4194303, 8388607, 16777215, 33554431, 33554431, 134217727, 268435455, 536870911, 33554431, 33554431, 3254779903, 7549747199, 16139681791, 34359738367, 68719476735] [.n 110 .mov [.t 15], .n 111 .mov [.t 19], .n 112 (.iaddrS 1) [.t 110, .t 111], .n 113 (.load 1 false) [.t 112], .n 114 (.len false) [.t 113], .n 115 .mov [.t 7], .n 116 .mov [.t 19], .n 117 (.iaddrS 1) [.t 115, .t 116], .n 118 (.load 1 false) [.t 117], .n 119 (.len false) [.t 118], .n 120 (.bin .neq) [.t 114, .t 119], .n 121 .mov [.t 120], .w 122 .mov [.t 16] 121 false, .w 123 .mov [.t 19] 121 false, .w 124 (.iaddrS 1) [.t 122, .t 123] 121 false, .w 125 (.load 1 false) [.t 124] 121 false, .w 126 (.len false) [.t 125] 121 false, .w 127 .mov [.t 8] 121 false, .w 128 .mov [.t 19] 121 false, .w 129 (.iaddrS 1) [.t 127, .t 128] 121 false, .w 130 (.load 1 false) [.t 129] 121 false, .w 131 (.len false) [.t 130] 121 false, .w 132 (.bin .neq) [.t 126, .t 131] 121 false, .n 133 .pick [.t 121, .c (.bool true), .t 132], .n 134 .mov [.t 133], .w 135 .mov [.t 15] 134 false, .w 136 .mov [.t 19] 134 false, .w 137 (.iaddrS 1) [.t 135, .t 136] 134 false, .w 138 (.load 1 false) [.t 137] 134 false, .w 139 (.len false) [.t 138] 134 false, .w 140 .mov [.t 16] 134 false, .w 141 .mov [.t 19] 134 false, .w 142 (.iaddrS 1) [.t 140, .t 141] 134 false, .w 143 (.load 1 false) [.t 142] 134 false, .w 144 (.len false) [.t 143] 134 false, .w 145 (.bin .neq) [.t 139, .t 144] 134 false, .n 146 .pick [.t 134, .c (.bool true), .t 145]])
   (.cond (.t 146) (.seq (.reg [.n 6 .mov [.c (.bool false)]])
   .ret) .skip))
   (.seq (.reg [.n 20 .mov [.i 0]])
   (.block 2 (.loop (.seq (.seq (.reg [.n 147 .mov [.t 20], .n 148 .mov [.t 15], .n 149 .mov [.t 19], .n 150 (.iaddrS 1) [.t 148, .t 149], .n 151 (.load 1 false) [.t 150], .n 152 (.len false) [.t 151], .n 153 (.bin .lss) [.t 147, .t 152]])
   (.cond (.t 153) .skip (.exit 2)))
   (.seq (.block 3 (.seq (.draw [0, 0, 0, 6, 14, 0, 62, 126, 255, 0, 0, 0, 3072, 7168, 0, 31744, 64512, 130560, 511, 524287] [.n 156 .mov [.t 17], .n 157 .mov [.t 7], .n 158 .mov [.t 19], .n 159 (.iaddrS 1) [.t 157, .t 158], .n 160 (.load 1 false) [.t 159], .n 161 .mov [.t 20], .n 162 (.iaddrS 1) [.t 160, .t 161], .n 163 (.load 1 false) [.t 162], .n 164 (.bin .add) [.t 156, .t 163], .n 165 .mov [.t 18], .n 166 .mov [.t 15], .n 167 .mov [.t 19], .n 168 (.iaddrS 1) [.t 166, .t 167], .n 169 (.load 1 false) [.t 168], .n 170 .mov [.t 20], .n 171 (.iaddrS 1) [.t 169, .t 170], .n 172 (.load 1 false) [.t 171], .n 173 (.bin .add) [.t 165, .t 172], .n 17 .mov [.t 164], .n 18 .mov [.t 173]])
   (.seq (.draw [0, 0, 3, 7, 0, 31, 63, 0, 0, 384, 896, 0, 3968, 8064, 16383, 32767, 65535, 65535, 262143, 524287, 65535, 2097151, 4194303, 65535, 65535, 25231359, 58785791, 65535, 260112383, 528547839, 1073741823, 2147483647] [.n 174 .mov [.t 15], .n 175 .mov [.t 19], .n 176 (.iaddrS 1) [.t 174, .t 175], .n 177 (.load 1 false) [.t 176], .n 178 .mov [.t 20], .n 179 (.iaddrS 1) [.t 177, .t 178], .n 180 (.load 1 false) [.t 179], .n 181 .mov [.t 7], .n 182 .mov [.t 19], .n 183 (.iaddrS 1) [.t 181, .t 182], .n 184 (.load 1 false) [.t 183], .n 185 .mov [.t 20], .n 186 (.iaddrS 1) [.t 184, .t 185], .n 187 (.load 1 false) [.t 186], .n 188 (.bin .lss) [.t 180, .t 187], .n 189 .mov [.t 188], .w 190 .mov [.t 16] 189 false, .w 191 .mov [.t 19] 189 false, .w 192 (.iaddrS 1) [.t 190, .t 191] 189 false, .w 193 (.load 1 false) [.t 192] 189 false, .w 194 .mov [.t 20] 189 false, .w 195 (.iaddrS 1) [.t 193, .t 194] 189 false, .w 196 (.load 1 false) [.t 195] 189 false, .w 197 .mov [.t 8] 189 false, .w 198 .mov [.t 19] 189 false, .w 199 (.iaddrS 1) [.t 197, .t 198] 189 false, .w 200 (.load 1 false) [.t 199] 189 false, .w 201 .mov [.t 20] 189 false, .w 202 (.iaddrS 1) [.t 200, .t 201] 189 false, .w 203 (.load 1 false) [.t 202] 189 false, .w 204 (.bin .gtr) [.t 196, .t 203] 189 false, .n 205 .pick [.t 189, .c (.bool true), .t 204]])
   (.cond (.t 205) (.seq (.reg [.n 6 .mov [.c (.bool false)]])
   .ret) .skip))))
   (.reg [.n 154 .mov [.t 20], .n 155 (.bin .add) [.t 154, .i 1], .n 20 .mov [.t 155]]))))))))
   (.reg [.n 108 .mov [.t 19], .n 109 (.bin .add) [.t 108, .i 1], .n 19 .mov [.t 109]]))))))
   (.seq (.reg [.n 207 (.load 6 true) [.t 3], .n 208 (.load 2 true) [.t 4], .n 209 .mov [.t 10], .n 210 (.call 26) [.t 207, .t 208, .t 209], .n 206 .mov [.t 210], .n 211 (.extract 0) [.t 206], .n 212 (.extract 1) [.t 206], .n 21 .mov [.t 211], .n 9 .mov [.t 212]])
   (.seq (.reg [.n 213 .mov [.t 9], .n 214 (.bin .eql) [.t 213, .i 0], .n 215 .mov [.t 214], .w 216 .mov [.t 21] 215 true, .w 217 .mov [.t 18] 215 true, .w 218 .mov [.t 17] 215 true, .w 219 (.bin .sub) [.t 217, .t 218] 215 true, .w 220 (.call 39) [.t 216, .i 0, .t 219] 215 true, .n 221 .pick [.t 215, .t 220, .c (.bool false)], .n 222 .mov [.t 221], .w 223 (.call 19) [] 222 true, .n 224 .pick [.t 222, .t 223, .c (.bool false)], .n 6 .mov [.t 224]])
   .ret)))))))))))))))
theorem chk.law07_BinBetter : chkF Tryz.prog 8 = some (225, ir.law07_BinBetter, [.tmp 6]) := by kernel_rfl

/-- paravane/bin.CheckGrid -/
abbrev F.bin_CheckGrid : Nat := 10
def ir.bin_CheckGrid : IC :=
 (.seq (.reg [.n 1 .box [.t 0], .n 2 .mov [.i 0]])
   (.seq (.seq (.reg [.n 6 (.faddr 0) [.t 1], .n 7 (.load 2 true) [.t 6], .n 8 (.call 43) [.t 7], .n 9 (.bin .neq) [.t 8, .i 0], .n 10 .mov [.t 9], .w 11 (.faddr 2) [.t 1] 10 false, .w 12 (.load 1 false) [.t 11] 10 false, .w 13 (.call 44) [.t 12, .i 1, .i 1000] 10 false, .w 14 (.un .not) [.t 13] 10 false, .n 15 .pick [.t 10, .c (.bool true), .t 14], .n 16 .mov [.t 15], .w 17 (.faddr 3) [.t 1] 16 false, .w 18 (.load 1 false) [.t 17] 16 false, .w 19 (.call 44) [.t 18, .i 1, .i 16] 16 false, .w 20 (.un .not) [.t 19] 16 false, .n 21 .pick [.t 16, .c (.bool true), .t 20], .n 22 .mov [.t 21], .w 23 (.faddr 4) [.t 1] 22 false, .w 24 (.load 1 false) [.t 23] 22 false, .w 25 (.call 44) [.t 24, .i 1, .i 16] 22 false, .w 26 (.un .not) [.t 25] 22 false, .n 27 .pick [.t 22, .c (.bool true), .t 26], .n 28 .mov [.t 27], .w 29 (.faddr 5) [.t 1] 28 false, .w 30 (.load 1 false) [.t 29] 28 false, .w 31 (.len false) [.t 30] 28 false, .w 32 (.call 44) [.t 31, .i 1, .i 4] 28 false, .w 33 (.un .not) [.t 32] 28 false, .n 34 .pick [.t 28, .c (.bool true), .t 33]])
   (.cond (.t 34) (.seq (.reg [.n 2 .mov [.i 70]])
   .ret) .skip))
   (.seq (.reg [.n 3 .mov [.i (-1)]])
   (.seq (.seq (.reg [.n 35 (.faddr 5) [.t 1], .n 36 (.load 1 false) [.t 35], .n 37 (.len false) [.t 36], .n 38 .mov [.i 0]])
   (.block 0 (.loop (.seq (.reg [.n 39 (.bin .lss) [.t 38, .t 37]])
   (.seq (.cond (.t 39) .skip (.exit 0))
   (.seq (.block 1 (.seq (.reg [.n 40 (.iaddrS 2) [.t 36, .t 38], .n 41 (.load 2 true) [.t 40], .n 5 (.alloc [(.int .i64 0), (.int .i64 0)]) [], .s (.store 2) [.t 5, .t 41]])
   (.seq (.seq (.reg [.n 42 (.faddr 0) [.t 5], .n 43 (.load 1 false) [.t 42], .n 44 .mov [.t 3], .n 45 (.bin .leq) [.t 43, .t 44], .n 46 .mov [.t 45], .w 47 (.faddr 0) [.t 5] 46 false, .w 48 (.load 1 false) [.t 47] 46 false, .w 49 (.faddr 1) [.t 5] 46 false, .w 50 (.load 1 false) [.t 49] 46 false, .w 51 (.bin .gtr) [.t 48, .t 50] 46 false, .n 52 .pick [.t 46, .c (.bool true), .t 51], .n 53 .mov [.t 52], .w 54 (.faddr 1) [.t 5] 53 false, .w 55 (.load 1 false) [.t 54] 53 false, .w 56 (.bin .gtr) [.t 55, .i 17179869184] 53 false, .n 57 .pick [.t 53, .c (.bool true), .t 56]])
   (.cond (.t 57) (.seq (.reg [.n 2 .mov [.i 70]])
   .ret) .skip))
   (.reg [.n 58 (.faddr 1) [.t 5], .n 59 (.load 1 false) [.t 58], .n 3 .mov [.t 59]]))))
   (.reg [.n 60 (.bin .add) [.t 38, .i 1], .n 38 .mov [.t 60]])))))))
   (.seq (.reg [.n 2 .mov [.i 0]])
   .ret)))))
theorem chk.bin_CheckGrid : chkF Tryz.prog 10 = some (61, ir.bin_CheckGrid, [.tmp 2]) := by kernel_rfl

/-- paravane/bin.CheckLayout -/
abbrev F.bin_CheckLayout : Nat := 12
def ir.bin_CheckLayout : IC :=
 (.seq (.reg [.n 1 .box [.t 0], .n 2 .mov [.i 0]])
   (.seq (.seq (.reg [.n 9 (.faddr 0) [.t 1], .n 10 (.load 1 false) [.t 9], .n 11 (.len false) [.t 10], .n 12 (.bin .gtr) [.t 11, .i 16], .n 13 .mov [.t 12], .w 14 (.faddr 1) [.t 1] 13 false, .w 15 (.load 1 false) [.t 14] 13 false, .w 16 (.len false) [.t 15] 13 false, .w 17 (.bin .gtr) [.t 16, .i 64] 13 false, .n 18 .pick [.t 13, .c (.bool true), .t 17]])
   (.cond (.t 18) (.seq (.reg [.n 2 .mov [.i 71]])
   .ret) .skip))
   (.seq (.seq (.reg [.n 19 (.faddr 0) [.t 1], .n 20 (.load 1 false) [.t 19], .n 21 (.len false) [.t 20], .n 22 .mov [.i 0]])
   (.block 0 (.loop (.seq (.reg [.n 23 (.bin .lss) [.t 22, .t 21]])
   (.seq (.cond (.t 23) .skip (.exit 0))
   (.seq (.block 1 (.seq (.reg [.n 24 (.iaddrS 8) [.t 20, .t 22], .n 25 (.load 8 true) [.t 24], .n 4 (.alloc [(.int .i64 0), (.int .i64 0), (.int .i64 0), (.int .i64 0), (.int .i64 0), (.int .i64 0), (.int .i64 0), (.int .i64 0)]) [], .s (.store 8) [.t 4, .t 25]])
   (.seq (.reg [.n 27 (.load 8 true) [.t 4], .n 28 (.call 46) [.t 27], .n 26 .mov [.t 28], .n 29 (.extract 0) [.t 26], .n 30 (.extract 1) [.t 26], .n 5 .mov [.t 29], .n 6 .mov [.t 30]])
   (.seq (.reg [.n 31 .mov [.t 6], .n 32 (.bin .neq) [.t 31, .i 0], .n 33 .mov [.t 32], .w 34 .mov [.t 5] 33 false, .w 35 (.call 44) [.t 34, .i 1, .i 64] 33 false, .w 36 (.un .not) [.t 35] 33 false, .n 37 .pick [.t 33, .c (.bool true), .t 36]])
   (.cond (.t 37) (.seq (.reg [.n 2 .mov [.i 71]])
   .ret) .skip)))))
   (.reg [.n 38 (.bin .add) [.t 22, .i 1], .n 22 .mov [.t 38]])))))))
   (.seq (.seq (.reg [.n 39 (.faddr 1) [.t 1], .n 40 (.load 1 false) [.t 39], .n 41 (.len false) [.t 40], .n 42 .mov [.i 0]])
   (.block 2 (.loop (.seq (.reg [.n 43 (.bin .lss) [.t 42, .t 41]])
   (.seq (.cond (.t 43) .skip (.exit 2))
   (.seq (.block 3 (.seq (.reg [.n 44 (.iaddrS 2) [.t 40, .t 42], .n 45 (.load 2 true) [.t 44], .n 8 (.alloc [(.int .i64 0), (.int .i64 0)]) [], .s (.store 2) [.t 8, .t 45]])
   (.seq (.reg [.n 46 (.iaddrA 2 1) [.t 8, .i 0], .n 47 (.load 1 false) [.t 46], .n 48 (.faddr 0) [.t 1], .n 49 (.load 1 false) [.t 48], .n 50 (.len false) [.t 49], .n 51 (.bin .sub) [.t 50, .i 1], .n 52 (.call 44) [.t 47, .i 0, .t 51], .n 53 (.un .not) [.t 52], .n 54 .mov [.t 53], .w 55 (.iaddrA 2 1) [.t 8, .i 1] 54 false, .w 56 (.load 1 false) [.t 55] 54 false, .w 57 (.faddr 0) [.t 1] 54 false, .w 58 (.load 1 false) [.t 57] 54 false, .w 59 (.len false) [.t 58] 54 false, .w 60 (.bin .sub) [.t 59, .i 1] 54 false, .w 61 (.call 44) [.t 56, .i 0, .t 60] 54 false, .w 62 (.un .not) [.t 61] 54 false, .n 63 .pick [.t 54, .c (.bool true), .t 62], .n 64 .mov [.t 63], .w 65 (.iaddrA 2 1) [.t 8, .i 0] 64 false, .w 66 (.load 1 false) [.t 65] 64 false, .w 67 (.iaddrA 2 1) [.t 8, .i 1] 64 false, .w 68 (.load 1 false) [.t 67] 64 false, .w 69 (.bin .eql) [.t 66, .t 68] 64 false, .n 70 .pick [.t 64, .c (.bool true), .t 69]])
   (.cond (.t 70) (.seq (.reg [.n 2 .mov [.i 71]])
   .ret) .skip))))
   (.reg [.n 71 (.bin .add) [.t 42, .i 1], .n 42 .mov [.t 71]])))))))
   (.seq (.reg [.n 2 .mov [.i 0]])
   .ret)))))
theorem chk.bin_CheckLayout : chkF Tryz.prog 12 = some (72, ir.bin_CheckLayout, [.tmp 2]) := by kernel_rfl

/-- paravane/bin.Cell -/
abbrev F.bin_Cell : Nat := 14
def ir.bin_Cell : IC :=
 (.seq (.reg [.n 3 .box [.t 0], .n 4 .box [.t 1], .n 5 .box [.t 2], .n 6 (.alloc [(.int .i64 0), (.int .i64 0)]) [], .n 7 .mov [.i 0]])
   (.seq (.seq (.reg [.n 9 (.load 6 true) [.t 3], .n 10 (.call 10) [.t 9], .n 8 .mov [.t 10]])
   (.seq (.reg [.n 11 .mov [.t 8], .n 12 (.bin .neq) [.t 11, .i 0]])
   (.cond (.t 12) (.seq (.reg [.n 13 (.build [(.int .i64 0), (.int .i64 0)] []) [], .n 14 .mov [.t 8], .s (.store 2) [.t 6, .t 13], .n 7 .mov [.t 14]])
   .ret) .skip)))
   (.seq (.seq (.reg [.n 15 (.load 2 true) [.t 4], .n 16 (.call 43) [.t 15], .n 17 (.bin .neq) [.t 16, .i 0], .n 18 .mov [.t 17], .w 19 (.load 2 true) [.t 5] 18 false, .w 20 (.call 43) [.t 19] 18 false, .w 21 (.bin .neq) [.t 20, .i 0] 18 false, .n 22 .pick [.t 18, .c (.bool true), .t 21]])
   (.cond (.t 22) (.seq (.reg [.n 23 (.build [(.int .i64 0), (.int .i64 0)] []) [], .s (.store 2) [.t 6, .t 23], .n 7 .mov [.i 10]])
   .ret) .skip))
   (.seq (.reg [.n 24 (.load 6 true) [.t 3], .n 25 (.load 2 true) [.t 4], .n 26 (.load 2 true) [.t 5], .n 27 (.call 48) [.t 24, .t 25, .t 26], .s (.store 2) [.t 6, .t 27], .n 7 .mov [.i 0]])
   .ret))))
theorem chk.bin_Cell : chkF Tryz.prog 14 = some (28, ir.bin_Cell, [.cell 6 39, .tmp 7]) := by kernel_rfl

/-- paravane/bin.Hits -/
abbrev F.bin_Hits : Nat := 16
def ir.bin_Hits : IC :=
 (.seq (.reg [.n 3 .box [.t 0], .n 4 .box [.t 1], .n 6 .mov [.c .nils], .n 7 .mov [.i 0]])
   (.seq (.reg [.n 11 (.load 6 true) [.t 3], .n 12 (.load 2 true) [.t 4], .n 13 (.call 50) [.t 11, .t 12], .n 10 .mov [.t 13], .n 14 (.extract 0) [.t 10], .n 15 (.extract 1) [.t 10], .n 8 (.alloc [(.int .i64 0), (.int .i64 0), (.int .i64 0), (.int .i64 0), (.int .i64 0), .nils, .nils, .nils]) [], .s (.store 8) [.t 8, .t 14], .n 9 .mov [.t 15]])
   (.seq (.seq (.reg [.n 16 .mov [.t 9], .n 17 (.bin .neq) [.t 16, .i 0]])
   (.cond (.t 17) (.seq (.reg [.n 18 .mov [.t 9], .n 6 .mov [.c .nils], .n 7 .mov [.t 18]])
   .ret) .skip))
   (.seq (.seq (.reg [.n 19 .mov [.t 2], .n 20 (.faddr 1) [.t 4], .n 21 (.load 1 false) [.t 20], .n 22 (.len false) [.t 21], .n 23 (.bin .sub) [.t 22, .i 1], .n 24 (.call 44) [.t 19, .i 0, .t 23], .n 25 (.un .not) [.t 24]])
   (.cond (.t 25) (.seq (.reg [.n 6 .mov [.c .nils], .n 7 .mov [.i 72]])
   .ret) .skip))
   (.seq (.reg [.n 26 (.load 8 true) [.t 8], .n 27 .mov [.t 2], .n 28 (.call 51) [.t 26, .t 27], .n 6 .mov [.t 28], .n 7 .mov [.i 0]])
   .ret)))))
theorem chk.bin_Hits : chkF Tryz.prog 16 = some (29, ir.bin_Hits, [.tmp 6, .tmp 7]) := by kernel_rfl

/-- paravane/paravanelaw07.cells -/
abbrev F.law07_cells : Nat := 18
def ir.law07_cells : IC :=
 (.seq (.reg [.n 4 .mov [.c (.bool false)]])
   (.seq (.seq (.reg [.n 6 .mov [.t 0], .n 7 (.len false) [.t 6], .n 8 .mov [.t 1], .n 9 (.len false) [.t 8], .n 10 (.bin .neq) [.t 7, .t 9]])
   (.cond (.t 10) (.seq (.reg [.n 4 .mov [.c (.bool false)]])
   .ret) .skip))
   (.seq (.seq (.reg [.n 5 .mov [.i 0]])
   (.block 0 (.loop (.seq (.seq (.reg [.n 11 .mov [.t 5], .n 12 .mov [.t 0], .n 13 (.len false) [.t 12], .n 14 (.bin .lss) [.t 11, .t 13]])
   (.cond (.t 14) .skip (.exit 0)))
   (.seq (.block 1 (.seq (.draw [0, 0, 3, 7, 0, 0, 48, 112, 255] [.n 17 .mov [.t 0], .n 18 .mov [.t 5], .n 19 (.iaddrS 2) [.t 17, .t 18], .n 20 (.load 2 true) [.t 19], .n 21 .mov [.t 1], .n 22 .mov [.t 5], .n 23 (.iaddrS 2) [.t 21, .t 22], .n 24 (.load 2 true) [.t 23], .n 25 (.eqs true [0, 0]) [.t 20, .t 24]])
   (.cond (.t 25) (.seq (.reg [.n 4 .mov [.c (.bool false)]])
   .ret) .skip)))
   (.reg [.n 15 .mov [.t 5], .n 16 (.bin .add) [.t 15, .i 1], .n 5 .mov [.t 16]]))))))
   (.seq (.reg [.n 4 .mov [.c (.bool true)]])
   .ret))))
theorem chk.law07_cells : chkF Tryz.prog 18 = some (26, ir.law07_cells, [.tmp 4]) := by kernel_rfl

/-- paravane/paravanelaw07.works -/
abbrev F.law07_works : Nat := 19
def ir.law07_works : IC :=
 (.seq (.reg [.n 0 .mov [.c (.bool false)]])
   (.seq (.reg [.n 19 (.call 55) [], .n 20 (.build [(.int .i64 0), (.int .i64 0)] [(0, 1), (1, 1)]) [.i 1, .i 1], .n 21 (.build [(.int .i64 0), (.int .i64 0)] [(0, 1), (1, 1)]) [.i 9, .i 3], .n 22 (.call 14) [.t 19, .t 20, .t 21], .n 18 .mov [.t 22], .n 23 (.extract 0) [.t 18], .n 24 (.extract 1) [.t 18], .n 1 (.alloc [(.int .i64 0), (.int .i64 0)]) [], .s (.store 2) [.t 1, .t 23], .n 2 .mov [.t 24]])
   (.seq (.reg [.n 26 (.call 55) [], .n 27 (.call 56) [], .n 28 (.call 16) [.t 26, .t 27, .i 2], .n 25 .mov [.t 28], .n 29 (.extract 0) [.t 25], .n 30 (.extract 1) [.t 25], .n 3 .mov [.t 29], .n 4 .mov [.t 30]])
   (.seq (.reg [.n 32 (.call 55) [], .n 33 (.call 56) [], .n 34 (.call 20) [.t 32, .t 33], .n 31 .mov [.t 34], .n 35 (.extract 0) [.t 31], .n 36 (.extract 1) [.t 31], .n 37 (.extract 2) [.t 31], .n 5 .mov [.t 35], .n 6 .mov [.t 36], .n 7 .mov [.t 37]])
   (.seq (.seq (.reg [.n 38 .mov [.t 2], .n 39 (.bin .neq) [.t 38, .i 0], .n 40 .mov [.t 39], .w 41 .mov [.t 4] 40 false, .w 42 (.bin .neq) [.t 41, .i 0] 40 false, .n 43 .pick [.t 40, .c (.bool true), .t 42], .n 44 .mov [.t 43], .w 45 .mov [.t 7] 44 false, .w 46 (.bin .neq) [.t 45, .i 0] 44 false, .n 47 .pick [.t 44, .c (.bool true), .t 46], .n 48 .mov [.t 47], .w 49 (.load 2 true) [.t 1] 48 false, .w 50 (.build [(.int .i64 0), (.int .i64 0)] [(0, 1), (1, 1)]) [.i 5, .i 1] 48 false, .w 51 (.eqs true [0, 0]) [.t 49, .t 50] 48 false, .n 52 .pick [.t 48, .c (.bool true), .t 51], .n 53 .mov [.t 52], .w 54 .mov [.t 3] 53 false, .w 55 (.build [(.int .i64 0), (.int .i64 0)] [(0, 1), (1, 1)]) [.i (-1), .i (-1)] 53 false, .w 56 (.build [(.int .i64 0), (.int .i64 0)] [(0, 1)]) [.i 5] 53 false, .w 57 (.mkslice 2 39) [.t 55, .t 56] 53 false, .w 58 (.call 18) [.t 54, .t 57] 53 false, .w 59 (.un .not) [.t 58] 53 false, .n 60 .pick [.t 53, .c (.bool true), .t 59], .n 61 .mov [.t 60], .w 62 .mov [.t 5] 61 false, .w 63 (.mkslice 1 3) [.i 0, .i 0] 61 false, .w 64 (.mkslice 1 3) [.i 0, .i 0] 61 false, .w 65 (.mkslice 1 3) [.i 0, .i 0] 61 false, .w 66 (.mkslice 1 3) [.i 0, .i 0] 61 false, .w 67 (.mkslice 1 3) [.i 1, .i 0] 61 false, .w 68 (.mkslice 1 3) [.i 0, .i 1] 61 false, .w 69 (.mkslice 1 48) [.t 63, .t 64, .t 65, .t 66, .t 67, .t 68] 61 false, .w 70 (.call 22) [.t 62, .t 69] 61 false, .w 71 (.un .not) [.t 70] 61 false, .n 72 .pick [.t 61, .c (.bool true), .t 71], .n 73 .mov [.t 72], .w 74 .mov [.t 6] 73 false, .w 75 (.mkslice 1 3) [.i 0, .i 0] 73 false, .w 76 (.mkslice 1 3) [.i 0, .i 0] 73 false, .w 77 (.mkslice 1 3) [.i 0, .i 0] 73 false, .w 78 (.mkslice 1 3) [.i 0, .i 0] 73 false, .w 79 (.mkslice 1 3) [.i 1, .i 0] 73 false, .w 80 (.mkslice 1 3) [.i 1, .i 1] 73 false, .w 81 (.mkslice 1 48) [.t 75, .t 76, .t 77, .t 78, .t 79, .t 80] 73 false, .w 82 (.call 22) [.t 74, .t 81] 73 false, .w 83 (.un .not) [.t 82] 73 false, .n 84 .pick [.t 73, .c (.bool true), .t 83]])
   (.cond (.t 84) (.seq (.reg [.n 0 .mov [.c (.bool false)]])
   .ret) .skip))
   (.seq (.reg [.n 86 (.call 55) [], .n 87 .mov [.t 5], .n 88 (.call 57) [.t 86, .t 87, .i 0], .n 85 .mov [.t 88], .n 89 (.extract 0) [.t 85], .n 90 (.extract 1) [.t 85], .n 8 .mov [.t 89], .n 2 .mov [.t 90]])
   (.seq (.reg [.n 92 (.call 55) [], .n 93 (.call 56) [], .n 94 (.mkslice 1 3) [.i 0, .i 2], .n 95 (.call 23) [.t 92, .t 93, .t 94], .n 91 .mov [.t 95], .n 96 (.extract 0) [.t 91], .n 97 (.extract 1) [.t 91], .n 9 .mov [.t 96], .n 4 .mov [.t 97]])
   (.seq (.reg [.n 99 (.call 55) [], .n 100 (.call 56) [], .n 101 (.call 26) [.t 99, .t 100, .i 2], .n 98 .mov [.t 101], .n 102 (.extract 0) [.t 98], .n 103 (.extract 1) [.t 98], .n 10 .mov [.t 102], .n 7 .mov [.t 103]])
   (.seq (.reg [.n 105 (.call 58) [], .n 106 (.call 40) [.t 105], .n 104 .mov [.t 106], .n 107 (.extract 0) [.t 104], .n 108 (.extract 1) [.t 104], .n 109 (.extract 2) [.t 104], .n 11 .mov [.t 107], .n 12 .mov [.t 108], .n 13 .mov [.t 109]])
   (.seq (.reg [.n 111 (.call 58) [], .n 112 (.call 59) [.t 111, .i 3], .n 110 .mov [.t 112], .n 113 (.extract 0) [.t 110], .n 114 (.extract 1) [.t 110], .n 14 .mov [.t 113], .n 15 .mov [.t 114]])
   (.seq (.reg [.n 116 (.call 58) [], .n 117 (.mkslice 1 3) [.i 2, .i 2], .n 118 (.build [(.int .i64 0), .nils] [(0, 1), (1, 1)]) [.i (-1), .t 117], .n 119 (.mkslice 2 115) [.t 118], .n 120 (.call 31) [.t 116, .t 119], .n 115 .mov [.t 120], .n 121 (.extract 0) [.t 115], .n 122 (.extract 1) [.t 115], .n 16 .mov [.t 121], .n 17 .mov [.t 122]])
   (.seq (.reg [.n 123 .mov [.t 2], .n 124 (.bin .eql) [.t 123, .i 0], .n 125 .mov [.t 124], .w 126 .mov [.t 4] 125 true, .w 127 (.bin .eql) [.t 126, .i 0] 125 true, .n 128 .pick [.t 125, .t 127, .c (.bool false)], .n 129 .mov [.t 128], .w 130 .mov [.t 7] 129 true, .w 131 (.bin .eql) [.t 130, .i 0] 129 true, .n 132 .pick [.t 129, .t 131, .c (.bool false)], .n 133 .mov [.t 132], .w 134 .mov [.t 13] 133 true, .w 135 (.bin .eql) [.t 134, .i 0] 133 true, .n 136 .pick [.t 133, .t 135, .c (.bool false)], .n 137 .mov [.t 136], .w 138 .mov [.t 15] 137 true, .w 139 (.bin .eql) [.t 138, .i 0] 137 true, .n 140 .pick [.t 137, .t 139, .c (.bool false)], .n 141 .mov [.t 140], .w 142 .mov [.t 17] 141 true, .w 143 (.bin .eql) [.t 142, .i 0] 141 true, .n 144 .pick [.t 141, .t 143, .c (.bool false)], .n 145 .mov [.t 144], .w 146 .mov [.t 8] 145 true, ⟨(some 147), .bin .eql, [.t 146, .c (.str ⟨#[46, 49, 46, 10, 46, 46, 46, 10]⟩)], (some (145, true))⟩, .n 148 .pick [.t 145, .t 147, .c (.bool false)], .n 149 .mov [.t 148], .w 150 .mov [.t 9] 149 true, .w 151 (.len false) [.t 150] 149 true, .w 152 (.bin .eql) [.t 151, .i 6] 149 true, .n 153 .pick [.t 149, .t 152, .c (.bool false)], .n 154 .mov [.t 153], .w 155 .mov [.t 9] 154 true, .w 156 (.iaddrS 3) [.t 155, .i 5] 154 true, .w 157 (.load 3 true) [.t 156] 154 true, .w 158 (.build [(.int .i64 0), (.int .i64 0), (.int .i64 0)] [(0, 1), (1, 1), (2, 1)]) [.i 5, .i 1, .i 1] 154 true, .w 159 (.eqs false [0, 0, 0]) [.t 157, .t 158] 154 true, .n 160 .pick [.t 154, .t 159, .c (.bool false)], .n 161 .mov [.t 160], .w 162 .mov [.t 10] 161 true, .w 163 (.bin .eql) [.t 162, .i 0] 161 true, .n 164 .pick [.t 161, .t 163, .c (.bool false)], .n 165 .mov [.t 164], .w 166 .mov [.t 11] 165 true, .w 167 (.mkslice 1 3) [.i 3] 165 true, .w 168 (.call 60) [.t 166, .t 167] 165 true, .n 169 .pick [.t 165, .t 168, .c (.bool false)], .n 170 .mov [.t 169], .w 171 .mov [.t 12] 170 true, .w 172 (.bin .eql) [.t 171, .i 6] 170 true, .n 173 .pick [.t 170, .t 172, .c (.bool false)], .n 174 .mov [.t 173], .w 175 .mov [.t 14] 174 true, .w 176 (.bin .eql) [.t 175, .i 1] 174 true, .n 177 .pick [.t 174, .t 176, .c (.bool false)], .n 178 .mov [.t 177], .w 179 .mov [.t 16] 178 true, .w 180 (.bin .eql) [.t 179, .i 6] 178 true, .n 181 .pick [.t 178, .t 180, .c (.bool false)], .n 0 .mov [.t 181]])
   .ret))))))))))))
theorem chk.law07_works : chkF Tryz.prog 19 = some (182, ir.law07_works, [.tmp 0]) := by kernel_rfl

/-- paravane/bin.Fold -/
abbrev F.bin_Fold : Nat := 20
def ir.bin_Fold : IC :=
 (.seq (.reg [.n 2 .box [.t 0], .n 3 .box [.t 1], .n 4 .mov [.c .nils], .n 5 .mov [.c .nils], .n 6 .mov [.i 0]])
   (.seq (.reg [.n 11 (.load 6 true) [.t 2], .n 12 (.load 2 true) [.t 3], .n 13 (.call 50) [.t 11, .t 12], .n 10 .mov [.t 13], .n 14 (.extract 0) [.t 10], .n 15 (.extract 1) [.t 10], .n 7 (.alloc [(.int .i64 0), (.int .i64 0), (.int .i64 0), (.int .i64 0), (.int .i64 0), .nils, .nils, .nils]) [], .s (.store 8) [.t 7, .t 14], .n 6 .mov [.t 15]])
   (.seq (.seq (.reg [.n 16 .mov [.t 6], .n 17 (.bin .neq) [.t 16, .i 0]])
   (.cond (.t 17) (.seq (.reg [.n 18 .mov [.t 6], .n 4 .mov [.c .nils], .n 5 .mov [.c .nils], .n 6 .mov [.t 18]])
   .ret) .skip))
   (.seq (.draw [0, 1, 0, 4, 3, 31] [.n 19 (.load 8 true) [.t 7], .n 20 (.mkfunc (.func 61) 1) [.t 19], .n 21 (.load 8 true) [.t 7], .n 22 (.mkfunc (.func 51) 1) [.t 21], .n 8 .mov [.t 20], .n 9 .mov [.t 22]])
   (.seq (.draw [0, 0, 3, 0, 0, 31, 63, 127, 255] [.n 23 (.load 8 true) [.t 7], .n 24 .mov [.t 8], .n 25 (.call 62) [.t 23, .t 24], .n 26 (.load 8 true) [.t 7], .n 27 .mov [.t 9], .n 28 (.call 62) [.t 26, .t 27], .n 4 .mov [.t 25], .n 5 .mov [.t 28], .n 6 .mov [.i 0]])
   .ret)))))
theorem chk.bin_Fold : chkF Tryz.prog 20 = some (29, ir.bin_Fold, [.tmp 4, .tmp 5, .tmp 6]) := by kernel_rfl

/-- paravane/paravaneref00.AlikeLists -/
abbrev F.ref00_AlikeLists : Nat := 22
def ir.ref00_AlikeLists : IC :=
 (.seq (.reg [.n 4 .mov [.c (.bool false)]])
   (.seq (.seq (.reg [.n 6 .mov [.t 0], .n 7 (.len false) [.t 6], .n 8 .mov [.t 1], .n 9 (.len false) [.t 8], .n 10 (.bin .neq) [.t 7, .t 9]])
   (.cond (.t 10) (.seq (.reg [.n 4 .mov [.c (.bool false)]])
   .ret) .skip))
   (.seq (.seq (.reg [.n 5 .mov [.i 0]])
   (.block 0 (.loop (.seq (.seq (.reg [.n 11 .mov [.t 5], .n 12 .mov [.t 0], .n 13 (.len false) [.t 12], .n 14 (.bin .lss) [.t 11, .t 13]])
   (.cond (.t 14) .skip (.exit 0)))
   (.seq (.block 1 (.seq (.draw [0, 0, 3, 7, 0, 0, 48, 112, 255, 511] [.n 17 .mov [.t 0], .n 18 .mov [.t 5], .n 19 (.iaddrS 1) [.t 17, .t 18], .n 20 (.load 1 false) [.t 19], .n 21 .mov [.t 1], .n 22 .mov [.t 5], .n 23 (.iaddrS 1) [.t 21, .t 22], .n 24 (.load 1 false) [.t 23], .n 25 (.call 60) [.t 20, .t 24], .n 26 (.un .not) [.t 25]])
   (.cond (.t 26) (.seq (.reg [.n 4 .mov [.c (.bool false)]])
   .ret) .skip)))
   (.reg [.n 15 .mov [.t 5], .n 16 (.bin .add) [.t 15, .i 1], .n 5 .mov [.t 16]]))))))
   (.seq (.reg [.n 4 .mov [.c (.bool true)]])
   .ret))))
theorem chk.ref00_AlikeLists : chkF Tryz.prog 22 = some (27, ir.ref00_AlikeLists, [.tmp 4]) := by kernel_rfl

/-- paravane/bin.Lacks -/
abbrev F.bin_Lacks : Nat := 23
def ir.bin_Lacks : IC :=
 (.seq (.reg [.n 3 .box [.t 0], .n 4 .box [.t 1], .n 6 .mov [.c .nils], .n 7 .mov [.i 0]])
   (.seq (.reg [.n 11 (.load 6 true) [.t 3], .n 12 (.load 2 true) [.t 4], .n 13 (.call 50) [.t 11, .t 12], .n 10 .mov [.t 13], .n 14 (.extract 0) [.t 10], .n 15 (.extract 1) [.t 10], .n 8 (.alloc [(.int .i64 0), (.int .i64 0), (.int .i64 0), (.int .i64 0), (.int .i64 0), .nils, .nils, .nils]) [], .s (.store 8) [.t 8, .t 14], .n 9 .mov [.t 15]])
   (.seq (.seq (.reg [.n 16 .mov [.t 9], .n 17 (.bin .neq) [.t 16, .i 0]])
   (.cond (.t 17) (.seq (.reg [.n 18 .mov [.t 9], .n 6 .mov [.c .nils], .n 7 .mov [.t 18]])
   .ret) .skip))
   (.seq (.seq (.reg [.n 19 (.load 6 true) [.t 3], .n 20 .mov [.t 2], .n 21 (.call 64) [.t 19, .t 20], .n 22 (.un .not) [.t 21]])
   (.cond (.t 22) (.seq (.reg [.n 6 .mov [.c .nils], .n 7 .mov [.i 73]])
   .ret) .skip))
   (.seq (.reg [.n 23 (.load 8 true) [.t 8], .n 24 .mov [.t 2], .n 25 (.call 65) [.t 23, .t 24], .n 6 .mov [.t 25], .n 7 .mov [.i 0]])
   .ret)))))
theorem chk.bin_Lacks : chkF Tryz.prog 23 = some (26, ir.bin_Lacks, [.tmp 6, .tmp 7]) := by kernel_rfl

/-- paravane/bin.Gain -/
abbrev F.bin_Gain : Nat := 26
def ir.bin_Gain : IC :=
 (.seq (.reg [.n 3 .box [.t 0], .n 4 .box [.t 1], .n 6 .mov [.i 0], .n 7 .mov [.i 0]])
   (.seq (.reg [.n 17 (.load 6 true) [.t 3], .n 18 (.load 2 true) [.t 4], .n 19 (.call 50) [.t 17, .t 18], .n 16 .mov [.t 19], .n 20 (.extract 0) [.t 16], .n 21 (.extract 1) [.t 16], .n 8 (.alloc [(.int .i64 0), (.int .i64 0), (.int .i64 0), (.int .i64 0), (.int .i64 0), .nils, .nils, .nils]) [], .s (.store 8) [.t 8, .t 20], .n 9 .mov [.t 21]])
   (.seq (.seq (.reg [.n 22 .mov [.t 9], .n 23 (.bin .neq) [.t 22, .i 0]])
   (.cond (.t 23) (.seq (.reg [.n 24 .mov [.t 9], .n 6 .mov [.i 0], .n 7 .mov [.t 24]])
   .ret) .skip))
   (.seq (.seq (.reg [.n 25 .mov [.t 2], .n 26 (.faddr 0) [.t 4], .n 27 (.load 1 false) [.t 26], .n 28 (.len false) [.t 27], .n 29 (.bin .sub) [.t 28, .i 1], .n 30 (.call 44) [.t 25, .i 0, .t 29], .n 31 (.un .not) [.t 30]])
   (.cond (.t 31) (.seq (.reg [.n 6 .mov [.i 0], .n 7 .mov [.i 72]])
   .ret) .skip))
   (.seq (.reg [.n 32 (.load 8 true) [.t 8], .n 33 (.call 68) [.t 32], .n 10 .mov [.t 33]])
   (.seq (.reg [.n 11 .mov [.i (-1)]])
   (.seq (.seq (.reg [.n 34 (.faddr 7) [.t 8], .n 35 (.load 1 false) [.t 34], .n 36 .mov [.t 2], .n 37 (.iaddrS 1) [.t 35, .t 36], .n 38 (.load 1 false) [.t 37], .n 39 (.len false) [.t 38], .n 40 .mov [.i 0]])
   (.block 0 (.loop (.seq (.reg [.n 41 (.bin .lss) [.t 40, .t 39]])
   (.seq (.cond (.t 41) .skip (.exit 0))
   (.seq (.block 1 (.seq (.reg [.n 42 (.iaddrS 2) [.t 38, .t 40], .n 43 (.load 2 true) [.t 42], .n 13 (.alloc [(.int .i64 0), (.int .i64 0)]) [], .s (.store 2) [.t 13, .t 43]])
   (.seq (.reg [.n 44 (.load 8 true) [.t 8], .n 14 (.alloc [(.int .i64 0), (.int .i64 0), (.int .i64 0), (.int .i64 0), (.int .i64 0), .nils, .nils, .nils]) [], .s (.store 8) [.t 14, .t 44]])
   (.seq (.reg [.n 45 (.faddr 7) [.t 8], .n 46 (.load 1 false) [.t 45], .n 47 (.call 69) [.t 46], .n 48 (.faddr 7) [.t 14], .s (.store 1) [.t 48, .t 47]])
   (.seq (.reg [.n 49 (.faddr 7) [.t 14], .n 50 (.load 1 false) [.t 49], .n 51 .mov [.t 2], .n 52 (.load 2 true) [.t 13], .n 53 (.mkslice 2 23) [.t 52], .n 54 (.iaddrS 1) [.t 50, .t 51], .s (.store 1) [.t 54, .t 53]])
   (.seq (.reg [.n 55 (.load 8 true) [.t 14], .n 56 (.call 68) [.t 55], .n 15 .mov [.t 56]])
   (.seq (.reg [.n 57 .mov [.t 11], .n 58 (.bin .lss) [.t 57, .i 0], .n 59 .mov [.t 58], .w 60 .mov [.t 15] 59 false, .w 61 .mov [.t 11] 59 false, .w 62 (.bin .lss) [.t 60, .t 61] 59 false, .n 63 .pick [.t 59, .c (.bool true), .t 62]])
   (.cond (.t 63) (.reg [.n 64 .mov [.t 15], .n 11 .mov [.t 64]]) .skip))))))))
   (.reg [.n 65 (.bin .add) [.t 40, .i 1], .n 40 .mov [.t 65]])))))))
   (.seq (.reg [.n 66 .mov [.t 11], .n 67 .mov [.t 10], .n 68 (.bin .sub) [.t 66, .t 67], .n 6 .mov [.t 68], .n 7 .mov [.i 0]])
   .ret))))))))
theorem chk.bin_Gain : chkF Tryz.prog 26 = some (69, ir.bin_Gain, [.tmp 6, .tmp 7]) := by kernel_rfl

/-- paravane/bin.Bound -/
abbrev F.bin_Bound : Nat := 31
def ir.bin_Bound : IC :=
 (.seq (.reg [.n 2 .box [.t 0], .n 3 .box [.t 1], .n 4 .mov [.i 0], .n 5 .mov [.i 0]])
   (.seq (.seq (.reg [.n 12 (.load 2 true) [.t 2], .n 13 (.call 73) [.t 12], .n 6 .mov [.t 13]])
   (.seq (.reg [.n 14 .mov [.t 6], .n 15 (.bin .neq) [.t 14, .i 0]])
   (.cond (.t 15) (.seq (.reg [.n 16 .mov [.t 6], .n 4 .mov [.i 0], .n 5 .mov [.t 16]])
   .ret) .skip)))
   (.seq (.seq (.reg [.n 17 (.load 1 false) [.t 3], .n 18 (.len false) [.t 17], .n 19 (.bin .gtr) [.t 18, .i 2048]])
   (.cond (.t 19) (.seq (.reg [.n 4 .mov [.i 0], .n 5 .mov [.i 76]])
   .ret) .skip))
   (.seq (.reg [.n 7 (.alloc [(.int .i64 0)]) [], .n 8 (.alloc [(.bool false)]) [], .n 9 (.alloc [(.bool false)]) [], .n 10 (.alloc [(.int .i64 0)]) [], .s (.store 1) [.t 7, .i 0], .s (.store 1) [.t 8, .c (.bool false)], .s (.store 1) [.t 9, .c (.bool true)], .s (.store 1) [.t 10, .i 0]])
   (.seq (.reg [.n 11 (.alloc [.nilf]) []])
   (.seq (.reg [.n 20 (.mkfunc (.func 79) 0) [.t 9, .t 10, .t 3, .t 2, .t 11, .t 8, .t 7], .s (.store 1) [.t 11, .t 20]])
   (.seq (.reg [.n 21 (.load 1 false) [.t 11], .n 22 .callv [.t 21, .i 0, .i 0]])
   (.seq (.seq (.reg [.n 23 (.load 1 false) [.t 9], .n 24 (.un .not) [.t 23], .n 25 .mov [.t 24], .w 26 (.load 1 false) [.t 10] 25 false, .w 27 (.load 1 false) [.t 3] 25 false, .w 28 (.len false) [.t 27] 25 false, .w 29 (.bin .neq) [.t 26, .t 28] 25 false, .n 30 .pick [.t 25, .c (.bool true), .t 29]])
   (.cond (.t 30) (.seq (.reg [.n 4 .mov [.i 0], .n 5 .mov [.i 76]])
   .ret) .skip))
   (.seq (.reg [.n 31 (.load 1 false) [.t 7], .n 4 .mov [.t 31], .n 5 .mov [.i 0]])
   .ret)))))))))
theorem chk.bin_Bound : chkF Tryz.prog 31 = some (32, ir.bin_Bound, [.tmp 4, .tmp 5]) := by kernel_rfl

/-- paravane/paravaneref00.Rest -/
abbrev F.ref00_Rest : Nat := 35
def ir.ref00_Rest : IC :=
 (.seq (.reg [.n 4 .mov [.i 0]])
   (.seq (.seq (.reg [.n 5 .mov [.t 1], .n 6 (.bin .lss) [.t 5, .i 1]])
   (.cond (.t 6) (.seq (.reg [.n 4 .mov [.i 0]])
   .ret) .skip))
   (.seq (.reg [.n 7 .mov [.t 0], .n 8 .mov [.t 1], .n 9 (.bin .rem) [.t 7, .t 8], .n 0 .mov [.t 9]])
   (.seq (.seq (.reg [.n 10 .mov [.t 0], .n 11 (.bin .lss) [.t 10, .i 0]])
   (.cond (.t 11) (.reg [.n 12 .mov [.t 0], .n 13 .mov [.t 1], .n 14 (.bin .add) [.t 12, .t 13], .n 0 .mov [.t 14]]) .skip))
   (.seq (.reg [.n 15 .mov [.t 0], .n 4 .mov [.t 15]])
   .ret)))))
theorem chk.ref00_Rest : chkF Tryz.prog 35 = some (16, ir.ref00_Rest, [.tmp 4]) := by kernel_rfl

/-- paravane/paravaneref00.Pick -/
abbrev F.ref00_Pick : Nat := 36
def ir.ref00_Pick : IC :=
 (.seq (.reg [.n 4 .mov [.i 0]])
   (.seq (.seq (.reg [.n 5 .mov [.t 0], .n 6 (.len false) [.t 5], .n 7 (.bin .eql) [.t 6, .i 0]])
   (.cond (.t 7) (.seq (.reg [.n 4 .mov [.i 0]])
   .ret) .skip))
   (.seq (.reg [.n 8 .mov [.t 0], .n 9 .mov [.t 1], .n 10 .mov [.t 0], .n 11 (.len false) [.t 10], .n 12 (.call 35) [.t 9, .t 11], .n 13 (.iaddrS 1) [.t 8, .t 12], .n 14 (.load 1 false) [.t 13], .n 4 .mov [.t 14]])
   .ret)))
theorem chk.ref00_Pick : chkF Tryz.prog 36 = some (15, ir.ref00_Pick, [.tmp 4]) := by kernel_rfl

/-- paravane/paravanelaw07.chosen -/
abbrev F.law07_chosen : Nat := 37
def ir.law07_chosen : IC :=
 (.seq (.reg [.n 3 .box [.t 0], .n 6 (.alloc [(.int .i64 0), (.int .i64 0)]) [], .n 7 .mov [.c (.bool false)]])
   (.seq (.reg [.n 14 (.load 8 true) [.t 3], .n 15 (.call 84) [.t 14], .n 13 .mov [.t 15], .n 16 (.extract 0) [.t 13], .n 17 (.extract 1) [.t 13], .n 8 (.alloc [(.int .i64 0), (.int .i64 0), (.int .i64 0), (.int .i64 0), (.int .i64 0), (.int .i64 0), (.int .i64 0), (.int .i64 0)]) [], .s (.store 8) [.t 8, .t 16], .n 9 .mov [.t 17]])
   (.seq (.seq (.reg [.n 18 .mov [.t 9], .n 19 (.bin .neq) [.t 18, .i 0]])
   (.cond (.t 19) (.seq (.reg [.n 20 (.build [(.int .i64 0), (.int .i64 0)] []) [], .s (.store 2) [.t 6, .t 20], .n 7 .mov [.c (.bool false)]])
   .ret) .skip))
   (.seq (.draw [0, 1, 3, 0, 0, 16, 48, 0, 128, 384, 1008, 2032, 4088, 8191, 16383] [.n 21 (.faddr 0) [.t 8], .n 22 (.faddr 0) [.t 21], .n 23 (.load 1 false) [.t 22], .n 24 .mov [.t 1], .n 25 (.faddr 0) [.t 8], .n 26 (.faddr 1) [.t 25], .n 27 (.load 1 false) [.t 26], .n 28 (.faddr 0) [.t 8], .n 29 (.faddr 0) [.t 28], .n 30 (.load 1 false) [.t 29], .n 31 (.bin .sub) [.t 27, .t 30], .n 32 (.bin .add) [.t 31, .i 1], .n 33 (.call 35) [.t 24, .t 32], .n 34 (.bin .add) [.t 23, .t 33], .n 10 .mov [.t 34]])
   (.seq (.draw [0, 1, 3, 0, 8, 24, 0, 120, 0, 0, 512, 1536, 3840, 8191, 0, 16384, 49152, 0, 131072, 393216, 0, 1966080, 0, 0, 8388608, 25165824, 62914560, 134201344, 16383, 536870911] [.n 35 (.faddr 2) [.t 8], .n 36 (.faddr 0) [.t 35], .n 37 (.load 1 false) [.t 36], .n 38 (.faddr 4) [.t 8], .n 39 (.faddr 0) [.t 38], .n 40 (.load 1 false) [.t 39], .n 41 .mov [.t 10], .n 42 (.bin .sub) [.t 40, .t 41], .n 43 .mov [.t 10], .n 44 (.faddr 6) [.t 8], .n 45 (.faddr 1) [.t 44], .n 46 (.load 1 false) [.t 45], .n 47 (.bin .sub) [.t 43, .t 46], .n 48 (.minmax true) [.t 37, .t 42, .t 47], .n 49 (.faddr 2) [.t 8], .n 50 (.faddr 1) [.t 49], .n 51 (.load 1 false) [.t 50], .n 52 (.faddr 4) [.t 8], .n 53 (.faddr 1) [.t 52], .n 54 (.load 1 false) [.t 53], .n 55 .mov [.t 10], .n 56 (.bin .sub) [.t 54, .t 55], .n 57 .mov [.t 10], .n 58 (.faddr 6) [.t 8], .n 59 (.faddr 0) [.t 58], .n 60 (.load 1 false) [.t 59], .n 61 (.bin .sub) [.t 57, .t 60], .n 62 (.minmax false) [.t 51, .t 56, .t 61], .n 11 .mov [.t 48], .n 12 .mov [.t 62]])
   (.seq (.reg [.n 63 .mov [.t 10], .n 64 .mov [.t 11], .n 65 .mov [.t 2], .n 66 .mov [.t 12], .n 67 .mov [.t 11], .n 68 (.bin .sub) [.t 66, .t 67], .n 69 (.bin .add) [.t 68, .i 1], .n 70 (.call 35) [.t 65, .t 69], .n 71 (.bin .add) [.t 64, .t 70], .n 72 (.build [(.int .i64 0), (.int .i64 0)] [(0, 1), (1, 1)]) [.t 63, .t 71], .n 73 .mov [.t 11], .n 74 .mov [.t 12], .n 75 (.bin .leq) [.t 73, .t 74], .s (.store 2) [.t 6, .t 72], .n 7 .mov [.t 75]])
   .ret))))))
theorem chk.law07_chosen : chkF Tryz.prog 37 = some (76, ir.law07_chosen, [.cell 6 23, .tmp 7]) := by kernel_rfl

/-- paravane/region.Of -/
abbrev F.region_Of : Nat := 38
def ir.region_Of : IC :=
 (.seq (.reg [.n 1 .box [.t 0], .n 2 (.alloc [(.int .i64 0), (.int .i64 0), (.int .i64 0), (.int .i64 0), (.int .i64 0), (.int .i64 0), (.int .i64 0), (.int .i64 0)]) [], .n 3 .mov [.i 0]])
   (.seq (.block 0 (.seq (.reg [.n 7 (.load 1 false) [.t 1], .n 8 (.len false) [.t 7], .n 9 (.bin .eql) [.t 8, .i 0], .n 6 .mov [.t 9]])
   (.cond (.t 6) (.seq (.reg [.n 10 (.build [(.int .i64 0), (.int .i64 0), (.int .i64 0), (.int .i64 0), (.int .i64 0), (.int .i64 0), (.int .i64 0), (.int .i64 0)] []) [], .s (.store 8) [.t 2, .t 10], .n 3 .mov [.i 4]])
   .ret) (.seq (.reg [.n 12 (.load 1 false) [.t 1], .n 13 (.len false) [.t 12], .n 14 (.bin .gtr) [.t 13, .i 256], .n 11 .mov [.t 14]])
   (.cond (.t 11) (.seq (.reg [.n 15 (.build [(.int .i64 0), (.int .i64 0), (.int .i64 0), (.int .i64 0), (.int .i64 0), (.int .i64 0), (.int .i64 0), (.int .i64 0)] []) [], .s (.store 8) [.t 2, .t 15], .n 3 .mov [.i 3]])
   .ret) (.seq (.reg [.n 17 (.load 1 false) [.t 1], .n 18 (.call 85) [.t 17, .c (.func (.func 86) [] [])], .n 16 .mov [.t 18]])
   (.cond (.t 16) (.seq (.reg [.n 19 (.build [(.int .i64 0), (.int .i64 0), (.int .i64 0), (.int .i64 0), (.int .i64 0), (.int .i64 0), (.int .i64 0), (.int .i64 0)] []) [], .s (.store 8) [.t 2, .t 19], .n 3 .mov [.i 10]])
   .ret) .skip)))))))
   (.seq (.reg [.n 21 (.mkfunc (.func 88) 0) [.t 1], .n 22 (.mkslice 1 155) [.t 21], .n 23 (.call 87) [.t 22], .n 20 .mov [.t 23], .n 24 (.extract 0) [.t 20], .n 25 (.extract 1) [.t 20], .n 4 (.alloc [(.int .i64 0), (.int .i64 0), (.int .i64 0), (.int .i64 0), (.int .i64 0), (.int .i64 0), (.int .i64 0), (.int .i64 0)]) [], .s (.store 8) [.t 4, .t 24], .n 5 .mov [.t 25]])
   (.seq (.reg [.n 26 (.load 8 true) [.t 4], .n 27 (.call 89) [.t 26], .s (.store 8) [.t 2, .t 27], .n 3 .mov [.i 0]])
   .ret))))
theorem chk.region_Of : chkF Tryz.prog 38 = some (28, ir.region_Of, [.cell 2 85, .tmp 3]) := by kernel_rfl

/-- paravane/paravaneref00.Between -/
abbrev F.ref00_Between : Nat := 39
def ir.ref00_Between : IC :=
 (.seq (.reg [.n 6 .mov [.c (.bool false)]])
   (.seq (.reg [.n 7 .mov [.t 0], .n 8 .mov [.t 1], .n 9 (.bin .geq) [.t 7, .t 8], .n 10 .mov [.t 9], .w 11 .mov [.t 0] 10 true, .w 12 .mov [.t 2] 10 true, .w 13 (.bin .leq) [.t 11, .t 12] 10 true, .n 14 .pick [.t 10, .t 13, .c (.bool false)], .n 6 .mov [.t 14]])
   .ret))
theorem chk.ref00_Between : chkF Tryz.prog 39 = some (15, ir.ref00_Between, [.tmp 6]) := by kernel_rfl

/-- paravane/bin.Best -/
abbrev F.bin_Best : Nat := 40
def ir.bin_Best : IC :=
 (.seq (.reg [.n 1 .box [.t 0], .n 2 .mov [.c .nils], .n 3 .mov [.i 0], .n 4 .mov [.i 0]])
   (.seq (.seq (.reg [.n 8 (.load 2 true) [.t 1], .n 9 (.call 73) [.t 8], .n 5 .mov [.t 9]])
   (.seq (.reg [.n 10 .mov [.t 5], .n 11 (.bin .neq) [.t 10, .i 0]])
   (.cond (.t 11) (.seq (.reg [.n 12 .mov [.t 5], .n 2 .mov [.c .nils], .n 3 .mov [.i 0], .n 4 .mov [.t 12]])
   .ret) .skip)))
   (.seq (.reg [.n 14 (.load 2 true) [.t 1], .n 15 (.call 90) [.t 14, .i 0], .n 13 .mov [.t 15], .n 16 (.extract 0) [.t 13], .n 17 (.extract 1) [.t 13], .n 6 .mov [.t 16], .n 7 .mov [.t 17]])
   (.seq (.seq (.reg [.n 18 .mov [.t 7], .n 19 (.un .not) [.t 18]])
   (.cond (.t 19) (.seq (.reg [.n 2 .mov [.c .nils], .n 3 .mov [.i 0], .n 4 .mov [.i 4]])
   .ret) .skip))
   (.seq (.draw [0, 1, 0, 0, 15, 31, 63, 127] [.n 20 .mov [.t 6], .n 21 (.call 91) [.t 20], .n 22 (.load 2 true) [.t 1], .n 23 .mov [.t 6], .n 24 (.call 92) [.t 22, .t 23], .n 2 .mov [.t 21], .n 3 .mov [.t 24], .n 4 .mov [.i 0]])
   .ret)))))
theorem chk.bin_Best : chkF Tryz.prog 40 = some (25, ir.bin_Best, [.tmp 2, .tmp 3, .tmp 4]) := by kernel_rfl

/-- paravane/region.CheckPoint -/
abbrev F.region_CheckPoint : Nat := 43
def ir.region_CheckPoint : IC :=
 (.seq (.reg [.n 1 .box [.t 0], .n 2 .mov [.i 0]])
   (.seq (.seq (.reg [.n 5 (.faddr 0) [.t 1], .n 6 (.load 1 false) [.t 5], .n 7 (.faddr 1) [.t 1], .n 8 (.load 1 false) [.t 7], .n 9 (.build [(.int .i64 0), (.int .i64 0)] [(0, 1), (1, 1)]) [.t 6, .t 8], .n 10 .mov [.i 0]])
   (.block 0 (.loop (.seq (.reg [.n 11 (.bin .lss) [.t 10, .i 2]])
   (.seq (.cond (.t 11) .skip (.exit 0))
   (.seq (.block 1 (.seq (.reg [.n 12 (.idxA 2 1 false) [.t 9, .t 10], .n 4 .mov [.t 12]])
   (.seq (.reg [.n 13 .mov [.t 4], .n 14 (.call 93) [.i 32768, .t 13], .n 15 .mov [.t 4], .n 16 (.bin .neq) [.t 14, .t 15]])
   (.cond (.t 16) (.seq (.reg [.n 2 .mov [.i 10]])
   .ret) .skip))))
   (.reg [.n 17 (.bin .add) [.t 10, .i 1], .n 10 .mov [.t 17]])))))))
   (.seq (.reg [.n 2 .mov [.i 0]])
   .ret)))
theorem chk.region_CheckPoint : chkF Tryz.prog 43 = some (18, ir.region_CheckPoint, [.tmp 2]) := by kernel_rfl

/-- paravane/bin.within -/
abbrev F.bin_within : Nat := 44
def ir.bin_within : IC :=
 (.seq (.reg [.n 6 .mov [.c (.bool false)]])
   (.seq (.reg [.n 7 .mov [.t 0], .n 8 .mov [.t 1], .n 9 (.bin .geq) [.t 7, .t 8], .n 10 .mov [.t 9], .w 11 .mov [.t 0] 10 true, .w 12 .mov [.t 2] 10 true, .w 13 (.bin .leq) [.t 11, .t 12] 10 true, .n 14 .pick [.t 10, .t 13, .c (.bool false)], .n 6 .mov [.t 14]])
   .ret))
theorem chk.bin_within : chkF Tryz.prog 44 = some (15, ir.bin_within, [.tmp 6]) := by kernel_rfl

/-- paravane/region.Count -/
abbrev F.region_Count : Nat := 46
def ir.region_Count : IC :=
 (.seq (.reg [.n 1 .box [.t 0], .n 2 .mov [.i 0], .n 3 .mov [.i 0]])
   (.seq (.seq (.reg [.n 7 (.load 8 true) [.t 1], .n 8 (.call 95) [.t 7], .n 4 .mov [.t 8]])
   (.seq (.reg [.n 9 .mov [.t 4], .n 10 (.bin .neq) [.t 9, .i 0]])
   (.cond (.t 10) (.seq (.reg [.n 11 .mov [.t 4], .n 2 .mov [.i 0], .n 3 .mov [.t 11]])
   .ret) .skip)))
   (.seq (.reg [.n 5 (.alloc [(.int .i64 0)]) [], .s (.store 1) [.t 5, .i 0]])
   (.seq (.seq (.reg [.n 12 (.load 8 true) [.t 1], .n 13 (.call 96) [.t 12], .n 14 (.call 97) [.t 13]])
   (.block 0 (.range (.t 14) [15] (.reg [.n 6 (.alloc [(.int .i64 0), (.int .i64 0), (.int .i64 0)]) [], .s (.store 3) [.t 6, .t 15]]) (.block 1 (.reg [.n 16 (.load 1 false) [.t 5], .n 17 (.faddr 2) [.t 6], .n 18 (.load 1 false) [.t 17], .n 19 (.faddr 1) [.t 6], .n 20 (.load 1 false) [.t 19], .n 21 (.bin .sub) [.t 18, .t 20], .n 22 (.bin .add) [.t 21, .i 1], .n 23 (.bin .add) [.t 16, .t 22], .s (.store 1) [.t 5, .t 23]])))))
   (.seq (.reg [.n 24 (.load 1 false) [.t 5], .n 2 .mov [.t 24], .n 3 .mov [.i 0]])
   .ret)))))
theorem chk.region_Count : chkF Tryz.prog 46 = some (25, ir.region_Count, [.tmp 2, .tmp 3]) := by kernel_rfl

/-- paravane/bin.cell -/
abbrev F.bin_cell : Nat := 48
def ir.bin_cell : IC :=
 (.seq (.reg [.n 3 .box [.t 0], .n 4 .box [.t 1], .n 5 .box [.t 2], .n 6 (.alloc [(.int .i64 0), (.int .i64 0)]) []])
   (.seq (.draw [0, 1, 0, 4, 15, 0, 32, 96, 224, 511, 0, 1024, 3072, 8191, 0, 16384, 0, 65536, 245760, 0, 524288, 1572864, 3670016, 8372224, 0, 16777216, 50331648, 134217727, 268435455, 536870911] [.n 13 (.faddr 0) [.t 4], .n 14 (.load 1 false) [.t 13], .n 15 (.faddr 0) [.t 5], .n 16 (.load 1 false) [.t 15], .n 17 (.bin .add) [.t 14, .t 16], .n 18 (.faddr 0) [.t 3], .n 19 (.faddr 0) [.t 18], .n 20 (.load 1 false) [.t 19], .n 21 (.bin .mul) [.i 2, .t 20], .n 22 (.bin .sub) [.t 17, .t 21], .n 23 (.faddr 2) [.t 3], .n 24 (.load 1 false) [.t 23], .n 25 (.bin .mul) [.i 2, .t 24], .n 26 (.call 100) [.t 22, .t 25], .n 27 (.faddr 1) [.t 4], .n 28 (.load 1 false) [.t 27], .n 29 (.faddr 1) [.t 5], .n 30 (.load 1 false) [.t 29], .n 31 (.bin .add) [.t 28, .t 30], .n 32 (.faddr 0) [.t 3], .n 33 (.faddr 1) [.t 32], .n 34 (.load 1 false) [.t 33], .n 35 (.bin .mul) [.i 2, .t 34], .n 36 (.bin .sub) [.t 31, .t 35], .n 37 (.faddr 2) [.t 3], .n 38 (.load 1 false) [.t 37], .n 39 (.bin .mul) [.i 2, .t 38], .n 40 (.call 100) [.t 36, .t 39], .n 7 .mov [.t 26], .n 8 .mov [.t 40]])
   (.seq (.seq (.reg [.n 41 .mov [.t 7], .n 42 (.faddr 3) [.t 3], .n 43 (.load 1 false) [.t 42], .n 44 (.bin .sub) [.t 43, .i 1], .n 45 (.call 44) [.t 41, .i 0, .t 44], .n 46 (.un .not) [.t 45], .n 47 .mov [.t 46], .w 48 .mov [.t 8] 47 false, .w 49 (.faddr 4) [.t 3] 47 false, .w 50 (.load 1 false) [.t 49] 47 false, .w 51 (.bin .sub) [.t 50, .i 1] 47 false, .w 52 (.call 44) [.t 48, .i 0, .t 51] 47 false, .w 53 (.un .not) [.t 52] 47 false, .n 54 .pick [.t 47, .c (.bool true), .t 53]])
   (.cond (.t 54) (.seq (.reg [.n 55 (.load 2 true) [.c (.rptr 0 0)], .s (.store 2) [.t 6, .t 55]])
   .ret) .skip))
   (.seq (.draw [0, 1, 0, 4, 15, 0, 32, 0, 128, 480, 31, 2047] [.n 56 (.faddr 0) [.t 4], .n 57 (.load 1 false) [.t 56], .n 58 (.faddr 0) [.t 5], .n 59 (.load 1 false) [.t 58], .n 60 (.bin .sub) [.t 57, .t 59], .n 61 (.faddr 1) [.t 4], .n 62 (.load 1 false) [.t 61], .n 63 (.faddr 1) [.t 5], .n 64 (.load 1 false) [.t 63], .n 65 (.bin .sub) [.t 62, .t 64], .n 9 .mov [.t 60], .n 10 .mov [.t 65]])
   (.seq (.seq (.reg [.n 66 (.faddr 5) [.t 3], .n 67 (.load 1 false) [.t 66], .n 68 (.len false) [.t 67], .n 69 .mov [.i 0]])
   (.block 0 (.loop (.seq (.reg [.n 70 (.bin .lss) [.t 69, .t 68]])
   (.seq (.cond (.t 70) .skip (.exit 0))
   (.seq (.block 1 (.seq (.reg [.n 71 .mov [.t 69], .n 72 (.iaddrS 2) [.t 67, .t 69], .n 73 (.load 2 true) [.t 72], .n 12 (.alloc [(.int .i64 0), (.int .i64 0)]) [], .n 11 .mov [.t 71], .s (.store 2) [.t 12, .t 73]])
   (.seq (.reg [.n 74 .mov [.t 9], .n 75 .mov [.t 9], .n 76 (.bin .mul) [.t 74, .t 75], .n 77 .mov [.t 10], .n 78 .mov [.t 10], .n 79 (.bin .mul) [.t 77, .t 78], .n 80 (.bin .add) [.t 76, .t 79], .n 81 (.faddr 0) [.t 12], .n 82 (.load 1 false) [.t 81], .n 83 (.faddr 1) [.t 12], .n 84 (.load 1 false) [.t 83], .n 85 (.call 44) [.t 80, .t 82, .t 84]])
   (.cond (.t 85) (.seq (.reg [.n 86 .mov [.t 8], .n 87 (.faddr 3) [.t 3], .n 88 (.load 1 false) [.t 87], .n 89 (.bin .mul) [.t 86, .t 88], .n 90 .mov [.t 7], .n 91 (.bin .add) [.t 89, .t 90], .n 92 .mov [.t 11], .n 93 (.build [(.int .i64 0), (.int .i64 0)] [(0, 1), (1, 1)]) [.t 91, .t 92], .s (.store 2) [.t 6, .t 93]])
   .ret) .skip))))
   (.reg [.n 94 (.bin .add) [.t 69, .i 1], .n 69 .mov [.t 94]])))))))
   (.seq (.reg [.n 95 (.load 2 true) [.c (.rptr 0 0)], .s (.store 2) [.t 6, .t 95]])
   .ret))))))
theorem chk.bin_cell : chkF Tryz.prog 48 = some (96, ir.bin_cell, [.cell 6 39]) := by kernel_rfl

/-- paravane/bin.begun -/
abbrev F.bin_begun : Nat := 50
def ir.bin_begun : IC :=
 (.seq (.reg [.n 2 .box [.t 0], .n 3 .box [.t 1], .n 4 (.alloc [(.int .i64 0), (.int .i64 0), (.int .i64 0), (.int .i64 0), (.int .i64 0), .nils, .nils, .nils]) [], .n 5 .mov [.i 0]])
   (.seq (.seq (.reg [.n 8 (.load 6 true) [.t 2], .n 9 (.call 10) [.t 8], .n 6 .mov [.t 9]])
   (.seq (.reg [.n 10 .mov [.t 6], .n 11 (.bin .neq) [.t 10, .i 0]])
   (.cond (.t 11) (.seq (.reg [.n 12 (.build [(.int .i64 0), (.int .i64 0), (.int .i64 0), (.int .i64 0), (.int .i64 0), .nils, .nils, .nils] []) [], .n 13 .mov [.t 6], .s (.store 8) [.t 4, .t 12], .n 5 .mov [.t 13]])
   .ret) .skip)))
   (.seq (.seq (.reg [.n 14 (.load 2 true) [.t 3], .n 15 (.call 12) [.t 14], .n 7 .mov [.t 15]])
   (.seq (.reg [.n 16 .mov [.t 7], .n 17 (.bin .neq) [.t 16, .i 0]])
   (.cond (.t 17) (.seq (.reg [.n 18 (.build [(.int .i64 0), (.int .i64 0), (.int .i64 0), (.int .i64 0), (.int .i64 0), .nils, .nils, .nils] []) [], .n 19 .mov [.t 7], .s (.store 8) [.t 4, .t 18], .n 5 .mov [.t 19]])
   .ret) .skip)))
   (.seq (.reg [.n 20 (.load 6 true) [.t 2], .n 21 (.load 2 true) [.t 3], .n 22 (.call 83) [.t 20, .t 21], .s (.store 8) [.t 4, .t 22], .n 5 .mov [.i 0]])
   .ret))))
theorem chk.bin_begun : chkF Tryz.prog 50 = some (23, ir.bin_begun, [.cell 4 101, .tmp 5]) := by kernel_rfl

/-- (paravane/bin.laid).hits -/
abbrev F.bin_laid_hits : Nat := 51
def ir.bin_laid_hits : IC :=
 (.seq (.reg [.n 2 .box [.t 0], .n 4 .mov [.c .nils]])
   (.seq (.reg [.n 11 (.raw 0 173 0) [], .n 5 (.alloc [.nilm]) [], .s (.store 1) [.t 5, .t 11]])
   (.seq (.reg [.n 12 (.faddr 6) [.t 2], .n 13 (.load 1 false) [.t 12], .n 14 .mov [.t 1], .n 15 (.iaddrS 2) [.t 13, .t 14], .n 16 (.load 2 true) [.t 15], .n 6 (.alloc [(.int .i64 0), (.int .i64 0)]) [], .s (.store 2) [.t 6, .t 16]])
   (.seq (.seq (.draw [0, 1, 0, 4, 15, 31, 0, 64, 0, 256, 960, 1984, 4095] [.n 17 (.faddr 7) [.t 2], .n 18 (.load 1 false) [.t 17], .n 19 (.iaddrA 2 1) [.t 6, .i 0], .n 20 (.load 1 false) [.t 19], .n 21 (.iaddrS 1) [.t 18, .t 20], .n 22 (.load 1 false) [.t 21], .n 23 (.faddr 7) [.t 2], .n 24 (.load 1 false) [.t 23], .n 25 (.iaddrA 2 1) [.t 6, .i 1], .n 26 (.load 1 false) [.t 25], .n 27 (.iaddrS 1) [.t 24, .t 26], .n 28 (.load 1 false) [.t 27], .n 29 (.call 103) [.t 22, .t 28]])
   (.block 0 (.range (.t 29) [30, 31] (.seq (.reg [.n 7 (.alloc [(.int .i64 0), (.int .i64 0)]) [], .s (.store 2) [.t 7, .t 30]])
   (.reg [.n 8 (.alloc [(.int .i64 0), (.int .i64 0)]) [], .s (.store 2) [.t 8, .t 31]])) (.block 1 (.draw [0, 0, 2, 0, 0, 30, 63] [.n 32 (.load 1 false) [.t 5], .n 33 (.faddr 0) [.t 2], .n 34 (.load 6 true) [.t 33], .n 35 (.load 2 true) [.t 7], .n 36 (.load 2 true) [.t 8], .n 37 (.call 48) [.t 34, .t 35, .t 36], .s (.raw 1 173 0) [.t 32, .t 37, .c (.bool true)]])))))
   (.seq (.reg [.n 9 .mov [.c .nils]])
   (.seq (.seq (.reg [.n 38 (.load 1 false) [.t 5], .n 39 (.raw 2 173 0) [.t 38]])
   (.block 2 (.loop (.seq (.reg [.n 40 (.raw 3 0 0) [.t 39], .n 41 (.extract 0) [.t 40]])
   (.seq (.cond (.t 41) .skip (.exit 2))
   (.block 3 (.seq (.reg [.n 42 (.raw 4 0 0) [.t 39], .n 43 (.extract 0) [.t 42], .n 10 (.alloc [(.int .i64 0), (.int .i64 0)]) [], .s (.store 2) [.t 10, .t 43]])
   (.reg [.n 44 .mov [.t 9], .n 45 (.load 2 true) [.t 10], .n 46 (.mkslice 2 39) [.t 45], .n 47 (.append 2 16 39) [.t 44, .t 46], .n 9 .mov [.t 47]]))))))))
   (.seq (.reg [.n 48 .mov [.t 9], .n 49 (.call 104) [.t 48, .c (.func (.func 105) [] [])]])
   (.seq (.reg [.n 50 .mov [.t 9], .n 4 .mov [.t 50]])
   .ret))))))))
theorem chk.bin_laid_hits : chkF Tryz.prog 51 = some (51, ir.bin_laid_hits, [.tmp 4]) := by kernel_rfl

/-- paravane/paravanelaw07.grid -/
abbrev F.law07_grid : Nat := 55
def ir.law07_grid : IC :=
 (.seq (.reg [.n 0 (.alloc [(.int .i64 0), (.int .i64 0), (.int .i64 0), (.int .i64 0), (.int .i64 0), .nils]) []])
   (.seq (.reg [.n 1 (.call 109) [.i 0, .i 25], .n 2 (.call 109) [.i 26, .i 400], .n 3 (.mkslice 2 83) [.t 1, .t 2], .n 4 (.build [(.int .i64 0), (.int .i64 0), (.int .i64 0), (.int .i64 0), (.int .i64 0), .nils] [(2, 1), (3, 1), (4, 1), (5, 1)]) [.i 2, .i 3, .i 2, .t 3], .s (.store 6) [.t 0, .t 4]])
   .ret))
theorem chk.law07_grid : chkF Tryz.prog 55 = some (5, ir.law07_grid, [.cell 0 26]) := by kernel_rfl

/-- paravane/paravanelaw07.lines -/
abbrev F.law07_lines : Nat := 56
def ir.law07_lines : IC :=
 (.seq (.reg [.n 0 (.alloc [.nils, .nils]) []])
   (.seq (.reg [.n 1 (.call 110) [.i 1, .i 1], .n 2 (.call 110) [.i 3, .i 3], .n 3 (.call 109) [.i 7, .i 9], .n 4 (.call 109) [.i 3, .i 3], .n 5 (.call 109) [.i 10, .i 12], .n 6 (.call 109) [.i 4, .i 6], .n 7 (.build [(.int .i64 0), (.int .i64 0), (.int .i64 0), (.int .i64 0), (.int .i64 0), (.int .i64 0), (.int .i64 0), (.int .i64 0)] [(0, 2), (2, 2), (4, 2), (6, 2)]) [.t 3, .t 4, .t 5, .t 6], .n 8 (.mkslice 8 85) [.t 1, .t 2, .t 7], .n 9 (.build [(.int .i64 0), (.int .i64 0)] [(0, 1), (1, 1)]) [.i 0, .i 1], .n 10 (.build [(.int .i64 0), (.int .i64 0)] [(0, 1), (1, 1)]) [.i 0, .i 2], .n 11 (.build [(.int .i64 0), (.int .i64 0)] [(0, 1), (1, 1)]) [.i 1, .i 2], .n 12 (.mkslice 2 97) [.t 9, .t 10, .t 11], .n 13 (.build [.nils, .nils] [(0, 1), (1, 1)]) [.t 8, .t 12], .s (.store 2) [.t 0, .t 13]])
   .ret))
theorem chk.law07_lines : chkF Tryz.prog 56 = some (14, ir.law07_lines, [.cell 0 30]) := by kernel_rfl

/-- paravane/bin.Map -/
abbrev F.bin_Map : Nat := 57
def ir.bin_Map : IC :=
 (.seq (.reg [.n 3 .box [.t 0], ⟨(some 6), .mov, [.c (.str ⟨#[]⟩)], none⟩, .n 7 .mov [.i 0]])
   (.seq (.seq (.reg [.n 16 (.load 6 true) [.t 3], .n 17 (.call 10) [.t 16], .n 8 .mov [.t 17]])
   (.seq (.reg [.n 18 .mov [.t 8], .n 19 (.bin .neq) [.t 18, .i 0]])
   (.cond (.t 19) (.seq (.reg [.n 20 .mov [.t 8], ⟨(some 6), .mov, [.c (.str ⟨#[]⟩)], none⟩, .n 7 .mov [.t 20]])
   .ret) .skip)))
   (.seq (.reg [.n 21 .mov [.t 1], .n 22 (.len false) [.t 21], .n 23 (.faddr 3) [.t 3], .n 24 (.load 1 false) [.t 23], .n 25 (.faddr 4) [.t 3], .n 26 (.load 1 false) [.t 25], .n 27 (.bin .mul) [.t 24, .t 26], .n 28 (.bin .eql) [.t 22, .t 27], .n 9 .mov [.t 28]])
   (.seq (.seq (.reg [.n 29 .mov [.t 1], .n 30 (.len false) [.t 29], .n 31 .mov [.i 0]])
   (.block 0 (.loop (.seq (.reg [.n 32 (.bin .lss) [.t 31, .t 30]])
   (.seq (.cond (.t 32) .skip (.exit 0))
   (.seq (.block 1 (.seq (.reg [.n 33 (.iaddrS 1) [.t 29, .t 31], .n 34 (.load 1 false) [.t 33], .n 11 .mov [.t 34]])
   (.reg [.n 35 .mov [.t 9], .n 36 .mov [.t 35], .w 37 .mov [.t 11] 36 true, .w 38 (.len false) [.t 37] 36 true, .w 39 (.faddr 5) [.t 3] 36 true, .w 40 (.load 1 false) [.t 39] 36 true, .w 41 (.len false) [.t 40] 36 true, .w 42 (.bin .eql) [.t 38, .t 41] 36 true, .n 43 .pick [.t 36, .t 42, .c (.bool false)], .n 44 .mov [.t 43], .w 45 .mov [.t 11] 44 true, .w 46 (.call 81) [.t 45, .c (.func (.func 111) [] [])] 44 true, .w 47 (.un .not) [.t 46] 44 true, .n 48 .pick [.t 44, .t 47, .c (.bool false)], .n 9 .mov [.t 48]])))
   (.reg [.n 49 (.bin .add) [.t 31, .i 1], .n 31 .mov [.t 49]])))))))
   (.seq (.seq (.reg [.n 50 .mov [.t 9], .n 51 (.un .not) [.t 50]])
   (.cond (.t 51) (.seq (.reg [⟨(some 6), .mov, [.c (.str ⟨#[]⟩)], none⟩, .n 7 .mov [.i 73]])
   .ret) .skip))
   (.seq (.seq (.reg [.n 52 .mov [.t 2], .n 53 (.faddr 5) [.t 3], .n 54 (.load 1 false) [.t 53], .n 55 (.len false) [.t 54], .n 56 (.bin .sub) [.t 55, .i 1], .n 57 (.call 44) [.t 52, .i 0, .t 56], .n 58 (.un .not) [.t 57]])
   (.cond (.t 58) (.seq (.reg [⟨(some 6), .mov, [.c (.str ⟨#[]⟩)], none⟩, .n 7 .mov [.i 72]])
   .ret) .skip))
   (.seq (.reg [.n 12 .mov [.c .nils]])
   (.seq (.seq (.reg [.n 59 (.faddr 4) [.t 3], .n 60 (.load 1 false) [.t 59], .n 61 (.bin .sub) [.t 60, .i 1], .n 13 .mov [.t 61]])
   (.block 2 (.loop (.seq (.seq (.reg [.n 62 .mov [.t 13], .n 63 (.bin .geq) [.t 62, .i 0]])
   (.cond (.t 63) .skip (.exit 2)))
   (.seq (.block 3 (.seq (.seq (.reg [.n 66 (.faddr 3) [.t 3], .n 67 (.load 1 false) [.t 66], .n 68 .mov [.i 0]])
   (.block 4 (.loop (.seq (.reg [.n 69 (.bin .lss) [.t 68, .t 67]])
   (.seq (.cond (.t 69) .skip (.exit 4))
   (.seq (.block 5 (.seq (.reg [.n 70 .mov [.t 68], .n 14 .mov [.t 70]])
   (.seq (.reg [.n 71 .mov [.t 1], .n 72 .mov [.t 13], .n 73 (.faddr 3) [.t 3], .n 74 (.load 1 false) [.t 73], .n 75 (.bin .mul) [.t 72, .t 74], .n 76 .mov [.t 14], .n 77 (.bin .add) [.t 75, .t 76], .n 78 (.iaddrS 1) [.t 71, .t 77], .n 79 (.load 1 false) [.t 78], .n 80 .mov [.t 2], .n 81 (.iaddrS 1) [.t 79, .t 80], .n 82 (.load 1 false) [.t 81], .n 15 .mov [.t 82]])
   (.block 6 (.seq (.reg [.n 87 .mov [.t 15], .n 88 (.bin .eql) [.t 87, .i 0], .n 86 .mov [.t 88]])
   (.cond (.t 86) (.reg [.n 89 .mov [.t 12], .n 90 (.mkslice 1 5) [.c (.int .u8 46)], .n 91 (.append 1 1 5) [.t 89, .t 90], .n 12 .mov [.t 91]]) (.seq (.reg [.n 93 .mov [.t 15], .n 94 (.bin .leq) [.t 93, .i 9], .n 92 .mov [.t 94]])
   (.cond (.t 92) (.reg [.n 95 .mov [.t 12], .n 96 .mov [.t 15], .n 97 (.bin .add) [.i 48, .t 96], .n 98 (.conv .u8) [.t 97], .n 99 (.mkslice 1 5) [.t 98], .n 100 (.append 1 1 5) [.t 95, .t 99], .n 12 .mov [.t 100]]) (.reg [.n 83 .mov [.t 12], .n 84 (.mkslice 1 5) [.c (.int .u8 43)], .n 85 (.append 1 1 5) [.t 83, .t 84], .n 12 .mov [.t 85]])))))))))
   (.reg [.n 101 (.bin .add) [.t 68, .i 1], .n 68 .mov [.t 101]])))))))
   (.reg [.n 102 .mov [.t 12], .n 103 (.mkslice 1 5) [.c (.int .u8 10)], .n 104 (.append 1 1 5) [.t 102, .t 103], .n 12 .mov [.t 104]])))
   (.reg [.n 64 .mov [.t 13], .n 65 (.bin .sub) [.t 64, .i 1], .n 13 .mov [.t 65]]))))))
   (.seq (.reg [.n 105 .mov [.t 12], .n 106 (.raw 5 183 9) [.t 105], .n 6 .mov [.t 106], .n 7 .mov [.i 0]])
   .ret)))))))))
theorem chk.bin_Map : chkF Tryz.prog 57 = some (107, ir.bin_Map, [.tmp 6, .tmp 7]) := by kernel_rfl

/-- paravane/paravanelaw07.gaps -/
abbrev F.law07_gaps : Nat := 58
def ir.law07_gaps : IC :=
 (.seq (.reg [.n 0 (.alloc [.nils, .nils]) []])
   (.seq (.reg [.n 1 (.mkslice 1 3) [.i 2, .i 1], .n 2 (.mkslice 1 3) [.i 2, .i 0], .n 3 (.build [(.int .i64 0), .nils] [(0, 1), (1, 1)]) [.i 4, .t 2], .n 4 (.mkslice 1 3) [.i 0, .i 1], .n 5 (.build [(.int .i64 0), .nils] [(0, 1), (1, 1)]) [.i 3, .t 4], .n 6 (.mkslice 1 3) [.i 1, .i 1], .n 7 (.build [(.int .i64 0), .nils] [(0, 1), (1, 1)]) [.i 5, .t 6], .n 8 (.mkslice 1 3) [.i 2, .i 1], .n 9 (.build [(.int .i64 0), .nils] [(0, 1), (1, 1)]) [.i 6, .t 8], .n 10 (.mkslice 2 147) [.t 3, .t 5, .t 7, .t 9], .n 11 (.build [.nils, .nils] [(0, 1), (1, 1)]) [.t 1, .t 10], .s (.store 2) [.t 0, .t 11]])
   .ret))
theorem chk.law07_gaps : chkF Tryz.prog 58 = some (12, ir.law07_gaps, [.cell 0 63]) := by kernel_rfl

/-- paravane/bin.Without -/
abbrev F.bin_Without : Nat := 59
def ir.bin_Without : IC :=
 (.seq (.reg [.n 2 .box [.t 0], .n 4 .mov [.i 0], .n 5 .mov [.i 0]])
   (.seq (.seq (.reg [.n 11 (.load 2 true) [.t 2], .n 12 (.call 73) [.t 11], .n 6 .mov [.t 12]])
   (.seq (.reg [.n 13 .mov [.t 6], .n 14 (.bin .neq) [.t 13, .i 0]])
   (.cond (.t 14) (.seq (.reg [.n 15 .mov [.t 6], .n 4 .mov [.i 0], .n 5 .mov [.t 15]])
   .ret) .skip)))
   (.seq (.seq (.reg [.n 16 .mov [.t 1], .n 17 (.faddr 1) [.t 2], .n 18 (.load 1 false) [.t 17], .n 19 (.len false) [.t 18], .n 20 (.bin .sub) [.t 19, .i 1], .n 21 (.call 44) [.t 16, .i 0, .t 20], .n 22 (.un .not) [.t 21]])
   (.cond (.t 22) (.seq (.reg [.n 4 .mov [.i 0], .n 5 .mov [.i 75]])
   .ret) .skip))
   (.seq (.draw [0, 0, 2, 7, 15, 31, 31, 63, 255] [.n 24 (.load 2 true) [.t 2], .n 25 .mov [.t 1], .n 26 (.bin .shl) [.i 1, .t 25], .n 27 (.call 90) [.t 24, .t 26], .n 23 .mov [.t 27], .n 28 (.extract 0) [.t 23], .n 29 (.extract 1) [.t 23], .n 7 .mov [.t 28], .n 8 .mov [.t 29]])
   (.seq (.seq (.reg [.n 30 .mov [.t 8], .n 31 (.un .not) [.t 30]])
   (.cond (.t 31) (.seq (.reg [.n 4 .mov [.i 0], .n 5 .mov [.i 4]])
   .ret) .skip))
   (.seq (.reg [.n 33 (.load 2 true) [.t 2], .n 34 (.call 90) [.t 33, .i 0], .n 32 .mov [.t 34], .n 35 (.extract 0) [.t 32], .n 36 (.extract 1) [.t 32], .n 9 .mov [.t 35], .n 10 .mov [.t 36]])
   (.seq (.draw [0, 0, 3, 0, 0, 31, 63, 127, 255] [.n 37 (.load 2 true) [.t 2], .n 38 .mov [.t 7], .n 39 (.call 92) [.t 37, .t 38], .n 40 (.load 2 true) [.t 2], .n 41 .mov [.t 9], .n 42 (.call 92) [.t 40, .t 41], .n 43 (.bin .sub) [.t 39, .t 42], .n 4 .mov [.t 43], .n 5 .mov [.i 0]])
   .ret)))))))
theorem chk.bin_Without : chkF Tryz.prog 59 = some (44, ir.bin_Without, [.tmp 4, .tmp 5]) := by kernel_rfl

/-- paravane/paravaneref00.Alike -/
abbrev F.ref00_Alike : Nat := 60
def ir.ref00_Alike : IC :=
 (.seq (.reg [.n 4 .mov [.c (.bool false)]])
   (.seq (.seq (.reg [.n 6 .mov [.t 0], .n 7 (.len false) [.t 6], .n 8 .mov [.t 1], .n 9 (.len false) [.t 8], .n 10 (.bin .neq) [.t 7, .t 9]])
   (.cond (.t 10) (.seq (.reg [.n 4 .mov [.c (.bool false)]])
   .ret) .skip))
   (.seq (.seq (.reg [.n 5 .mov [.i 0]])
   (.block 0 (.loop (.seq (.seq (.reg [.n 11 .mov [.t 5], .n 12 .mov [.t 0], .n 13 (.len false) [.t 12], .n 14 (.bin .lss) [.t 11, .t 13]])
   (.cond (.t 14) .skip (.exit 0)))
   (.seq (.block 1 (.seq (.draw [0, 0, 3, 7, 0, 0, 48, 112, 255] [.n 17 .mov [.t 0], .n 18 .mov [.t 5], .n 19 (.iaddrS 1) [.t 17, .t 18], .n 20 (.load 1 false) [.t 19], .n 21 .mov [.t 1], .n 22 .mov [.t 5], .n 23 (.iaddrS 1) [.t 21, .t 22], .n 24 (.load 1 false) [.t 23], .n 25 (.bin .neq) [.t 20, .t 24]])
   (.cond (.t 25) (.seq (.reg [.n 4 .mov [.c (.bool false)]])
   .ret) .skip)))
   (.reg [.n 15 .mov [.t 5], .n 16 (.bin .add) [.t 15, .i 1], .n 5 .mov [.t 16]]))))))
   (.seq (.reg [.n 4 .mov [.c (.bool true)]])
   .ret))))
theorem chk.ref00_Alike : chkF Tryz.prog 60 = some (26, ir.ref00_Alike, [.tmp 4]) := by kernel_rfl

/-- (paravane/bin.laid).surely -/
abbrev F.bin_laid_surely : Nat := 61
def ir.bin_laid_surely : IC :=
 (.seq (.reg [.n 2 .box [.t 0], .n 4 .mov [.c .nils]])
   (.seq (.seq (.reg [.n 6 (.load 8 true) [.t 2], .n 7 .mov [.t 1], .n 8 (.call 51) [.t 6, .t 7], .n 5 .mov [.t 8]])
   (.seq (.draw [0, 1, 3, 7, 15, 31, 63, 15, 255, 511] [.n 9 .mov [.t 5], .n 10 (.len false) [.t 9], .n 11 (.bin .eql) [.t 10, .i 1], .n 12 .mov [.t 11], .w 13 .mov [.t 5] 12 true, .w 14 (.iaddrS 2) [.t 13, .i 0] 12 true, .w 15 (.load 2 true) [.t 14] 12 true, .w 16 (.load 2 true) [.c (.rptr 0 0)] 12 true, .w 17 (.eqs true [0, 0]) [.t 15, .t 16] 12 true, .n 18 .pick [.t 12, .t 17, .c (.bool false)]])
   (.cond (.t 18) (.seq (.reg [.n 19 .mov [.t 5], .n 4 .mov [.t 19]])
   .ret) .skip)))
   (.seq (.reg [.n 4 .mov [.c .nils]])
   .ret)))
theorem chk.bin_laid_surely : chkF Tryz.prog 61 = some (20, ir.bin_laid_surely, [.tmp 4]) := by kernel_rfl

/-- (paravane/bin.laid).count -/
abbrev F.bin_laid_count : Nat := 62
def ir.bin_laid_count : IC :=
 (.seq (.reg [.n 2 .box [.t 0], .n 4 .mov [.c .nils]])
   (.seq (.reg [.n 10 (.faddr 0) [.t 2], .n 11 (.faddr 3) [.t 10], .n 12 (.load 1 false) [.t 11], .n 13 (.faddr 0) [.t 2], .n 14 (.faddr 4) [.t 13], .n 15 (.load 1 false) [.t 14], .n 16 (.bin .mul) [.t 12, .t 15], .n 17 (.mkbox 1 24 [.nils]) [.t 16, .t 16], .n 5 .mov [.t 17]])
   (.seq (.seq (.reg [.n 18 .mov [.t 5], .n 19 (.len false) [.t 18], .n 20 .mov [.i 0]])
   (.block 0 (.loop (.seq (.reg [.n 21 (.bin .lss) [.t 20, .t 19]])
   (.seq (.cond (.t 21) .skip (.exit 0))
   (.seq (.block 1 (.seq (.reg [.n 22 .mov [.t 20], .n 6 .mov [.t 22]])
   (.reg [.n 23 .mov [.t 5], .n 24 .mov [.t 6], .n 25 (.faddr 0) [.t 2], .n 26 (.faddr 5) [.t 25], .n 27 (.load 1 false) [.t 26], .n 28 (.len false) [.t 27], .n 29 (.mkbox 1 8 [(.int .i64 0)]) [.t 28, .t 28], .n 30 (.iaddrS 1) [.t 23, .t 24], .s (.store 1) [.t 30, .t 29]])))
   (.reg [.n 31 (.bin .add) [.t 20, .i 1], .n 20 .mov [.t 31]])))))))
   (.seq (.seq (.reg [.n 32 (.faddr 6) [.t 2], .n 33 (.load 1 false) [.t 32], .n 34 (.len false) [.t 33], .n 35 .mov [.i 0]])
   (.block 2 (.loop (.seq (.reg [.n 36 (.bin .lss) [.t 35, .t 34]])
   (.seq (.cond (.t 36) .skip (.exit 2))
   (.seq (.block 3 (.seq (.reg [.n 37 .mov [.t 35], .n 7 .mov [.t 37]])
   (.seq (.reg [.n 38 .mov [.t 1], .n 39 .mov [.t 7], .n 40 .callv [.t 38, .t 39], .n 41 (.len false) [.t 40], .n 42 .mov [.i 0]])
   (.block 4 (.loop (.seq (.reg [.n 43 (.bin .lss) [.t 42, .t 41]])
   (.seq (.cond (.t 43) .skip (.exit 4))
   (.seq (.block 5 (.seq (.reg [.n 44 (.iaddrS 2) [.t 40, .t 42], .n 45 (.load 2 true) [.t 44], .n 9 (.alloc [(.int .i64 0), (.int .i64 0)]) [], .s (.store 2) [.t 9, .t 45]])
   (.seq (.reg [.n 46 (.load 2 true) [.t 9], .n 47 (.load 2 true) [.c (.rptr 0 0)], .n 48 (.eqs true [0, 0]) [.t 46, .t 47]])
   (.cond (.t 48) (.draw [0, 0, 2, 7, 15, 0, 32, 127, 255, 511, 1023, 2047] [.n 49 .mov [.t 5], .n 50 (.faddr 0) [.t 9], .n 51 (.load 1 false) [.t 50], .n 52 (.iaddrS 1) [.t 49, .t 51], .n 53 (.load 1 false) [.t 52], .n 54 (.faddr 1) [.t 9], .n 55 (.load 1 false) [.t 54], .n 56 (.iaddrS 1) [.t 53, .t 55], .n 57 (.load 1 false) [.t 56], .n 58 (.bin .add) [.t 57, .i 1], .n 59 (.iaddrS 1) [.t 53, .t 55], .s (.store 1) [.t 59, .t 58]]) .skip))))
   (.reg [.n 60 (.bin .add) [.t 42, .i 1], .n 42 .mov [.t 60]])))))))))
   (.reg [.n 61 (.bin .add) [.t 35, .i 1], .n 35 .mov [.t 61]])))))))
   (.seq (.reg [.n 62 .mov [.t 5], .n 4 .mov [.t 62]])
   .ret)))))
theorem chk.bin_laid_count : chkF Tryz.prog 62 = some (63, ir.bin_laid_count, [.tmp 4]) := by kernel_rfl

/-- paravane/bin.needed -/
abbrev F.bin_needed : Nat := 64
def ir.bin_needed : IC :=
 (.seq (.reg [.n 2 .box [.t 0], .n 4 .mov [.c (.bool false)]])
   (.seq (.reg [.n 5 .mov [.t 1], .n 6 (.len false) [.t 5], .n 7 (.faddr 5) [.t 2], .n 8 (.load 1 false) [.t 7], .n 9 (.len false) [.t 8], .n 10 (.bin .eql) [.t 6, .t 9], .n 11 .mov [.t 10], .w 12 .mov [.t 1] 11 true, .w 13 (.call 81) [.t 12, .c (.func (.func 113) [] [])] 11 true, .w 14 (.un .not) [.t 13] 11 true, .n 15 .pick [.t 11, .t 14, .c (.bool false)], .n 4 .mov [.t 15]])
   .ret))
theorem chk.bin_needed : chkF Tryz.prog 64 = some (16, ir.bin_needed, [.tmp 4]) := by kernel_rfl

/-- (paravane/bin.laid).lacks -/
abbrev F.bin_laid_lacks : Nat := 65
def ir.bin_laid_lacks : IC :=
 (.seq (.reg [.n 2 .box [.t 0], .n 4 .mov [.c .nils]])
   (.seq (.reg [.n 5 .mov [.c .nils]])
   (.seq (.seq (.reg [.n 10 (.load 8 true) [.t 2], .n 11 (.load 8 true) [.t 2], .n 12 (.mkfunc (.func 61) 1) [.t 11], .n 13 (.call 62) [.t 10, .t 12], .n 14 (.len false) [.t 13], .n 15 .mov [.i 0]])
   (.block 0 (.loop (.seq (.reg [.n 16 (.bin .lss) [.t 15, .t 14]])
   (.seq (.cond (.t 16) .skip (.exit 0))
   (.seq (.block 1 (.seq (.reg [.n 17 .mov [.t 15], .n 18 (.iaddrS 1) [.t 13, .t 15], .n 19 (.load 1 false) [.t 18], .n 6 .mov [.t 17], .n 7 .mov [.t 19]])
   (.seq (.reg [.n 20 .mov [.t 7], .n 21 (.len false) [.t 20], .n 22 .mov [.i 0]])
   (.block 2 (.loop (.seq (.reg [.n 23 (.bin .lss) [.t 22, .t 21]])
   (.seq (.cond (.t 23) .skip (.exit 2))
   (.seq (.block 3 (.seq (.reg [.n 24 .mov [.t 22], .n 25 (.iaddrS 1) [.t 20, .t 22], .n 26 (.load 1 false) [.t 25], .n 8 .mov [.t 24], .n 9 .mov [.t 26]])
   (.seq (.reg [.n 27 .mov [.t 9], .n 28 .mov [.t 1], .n 29 .mov [.t 8], .n 30 (.iaddrS 1) [.t 28, .t 29], .n 31 (.load 1 false) [.t 30], .n 32 (.bin .lss) [.t 27, .t 31]])
   (.cond (.t 32) (.reg [.n 33 .mov [.t 5], .n 34 .mov [.t 6], .n 35 .mov [.t 8], .n 36 .mov [.t 1], .n 37 .mov [.t 8], .n 38 (.iaddrS 1) [.t 36, .t 37], .n 39 (.load 1 false) [.t 38], .n 40 .mov [.t 9], .n 41 (.bin .sub) [.t 39, .t 40], .n 42 (.build [(.int .i64 0), (.int .i64 0), (.int .i64 0)] [(0, 1), (1, 1), (2, 1)]) [.t 34, .t 35, .t 41], .n 43 (.mkslice 3 117) [.t 42], .n 44 (.append 3 24 117) [.t 33, .t 43], .n 5 .mov [.t 44]]) .skip))))
   (.reg [.n 45 (.bin .add) [.t 22, .i 1], .n 22 .mov [.t 45]])))))))))
   (.reg [.n 46 (.bin .add) [.t 15, .i 1], .n 15 .mov [.t 46]])))))))
   (.seq (.reg [.n 47 .mov [.t 5], .n 4 .mov [.t 47]])
   .ret))))
theorem chk.bin_laid_lacks : chkF Tryz.prog 65 = some (48, ir.bin_laid_lacks, [.tmp 4]) := by kernel_rfl

/-- (paravane/bin.laid).sure -/
abbrev F.bin_laid_sure : Nat := 68
def ir.bin_laid_sure : IC :=
 (.seq (.reg [.n 1 .box [.t 0], .n 2 .mov [.i 0]])
   (.seq (.reg [.n 3 .mov [.i 0]])
   (.seq (.seq (.reg [.n 5 (.faddr 6) [.t 1], .n 6 (.load 1 false) [.t 5], .n 7 (.len false) [.t 6], .n 8 .mov [.i 0]])
   (.block 0 (.loop (.seq (.reg [.n 9 (.bin .lss) [.t 8, .t 7]])
   (.seq (.cond (.t 9) .skip (.exit 0))
   (.seq (.block 1 (.seq (.reg [.n 10 .mov [.t 8], .n 4 .mov [.t 10]])
   (.reg [.n 11 .mov [.t 3], .n 12 (.load 8 true) [.t 1], .n 13 .mov [.t 4], .n 14 (.call 61) [.t 12, .t 13], .n 15 (.len false) [.t 14], .n 16 (.bin .add) [.t 11, .t 15], .n 3 .mov [.t 16]])))
   (.reg [.n 17 (.bin .add) [.t 8, .i 1], .n 8 .mov [.t 17]])))))))
   (.seq (.reg [.n 18 .mov [.t 3], .n 2 .mov [.t 18]])
   .ret))))
theorem chk.bin_laid_sure : chkF Tryz.prog 68 = some (19, ir.bin_laid_sure, [.tmp 2]) := by kernel_rfl

/-- slices.Clone[[][]paravane/api.Point,[]paravane/api.Point] -/
abbrev F.slices_Clone_api_Point_api_Point : Nat := 69
def ir.slices_Clone_api_Point_api_Point : IC :=
 (.seq (.reg [.n 2 .mov [.c .nils]])
   (.seq (.seq (.reg [.n 3 .mov [.t 0], .n 4 (.raw 8 0 99) [.t 3, .c .nils]])
   (.cond (.t 4) (.seq (.reg [.n 2 .mov [.c .nils]])
   .ret) .skip))
   (.seq (.reg [.n 5 (.mkslice 1 88) [], .n 6 .mov [.t 0], .n 7 (.append 1 24 88) [.t 5, .t 6], .n 2 .mov [.t 7]])
   .ret)))
theorem chk.slices_Clone_api_Point_api_Point : chkF Tryz.prog 69 = some (8, ir.slices_Clone_api_Point_api_Point, [.tmp 2]) := by kernel_rfl

/-- paravane/bin.CheckInfill -/
abbrev F.bin_CheckInfill : Nat := 73
def ir.bin_CheckInfill : IC :=
 (.seq (.reg [.n 1 .box [.t 0], .n 2 .mov [.i 0]])
   (.seq (.seq (.reg [.n 7 (.faddr 0) [.t 1], .n 8 (.load 1 false) [.t 7], .n 9 (.len false) [.t 8], .n 10 (.bin .gtr) [.t 9, .i 16], .n 11 .mov [.t 10], .w 12 (.faddr 1) [.t 1] 11 false, .w 13 (.load 1 false) [.t 12] 11 false, .w 14 (.len false) [.t 13] 11 false, .w 15 (.bin .gtr) [.t 14, .i 10] 11 false, .n 16 .pick [.t 11, .c (.bool true), .t 15]])
   (.cond (.t 16) (.seq (.reg [.n 2 .mov [.i 74]])
   .ret) .skip))
   (.seq (.seq (.reg [.n 17 (.faddr 0) [.t 1], .n 18 (.load 1 false) [.t 17], .n 19 (.len false) [.t 18], .n 20 .mov [.i 0]])
   (.block 0 (.loop (.seq (.reg [.n 21 (.bin .lss) [.t 20, .t 19]])
   (.seq (.cond (.t 21) .skip (.exit 0))
   (.seq (.block 1 (.seq (.reg [.n 22 (.iaddrS 1) [.t 18, .t 20], .n 23 (.load 1 false) [.t 22], .n 4 .mov [.t 23]])
   (.seq (.reg [.n 24 .mov [.t 4], .n 25 (.call 44) [.t 24, .i 1, .i 100], .n 26 (.un .not) [.t 25]])
   (.cond (.t 26) (.seq (.reg [.n 2 .mov [.i 74]])
   .ret) .skip))))
   (.reg [.n 27 (.bin .add) [.t 20, .i 1], .n 20 .mov [.t 27]])))))))
   (.seq (.seq (.reg [.n 28 (.faddr 1) [.t 1], .n 29 (.load 1 false) [.t 28], .n 30 (.len false) [.t 29], .n 31 .mov [.i 0]])
   (.block 2 (.loop (.seq (.reg [.n 32 (.bin .lss) [.t 31, .t 30]])
   (.seq (.cond (.t 32) .skip (.exit 2))
   (.seq (.block 3 (.seq (.reg [.n 33 (.iaddrS 2) [.t 29, .t 31], .n 34 (.load 2 true) [.t 33], .n 6 (.alloc [(.int .i64 0), .nils]) [], .s (.store 2) [.t 6, .t 34]])
   (.seq (.reg [.n 35 (.faddr 0) [.t 6], .n 36 (.load 1 false) [.t 35], .n 37 (.call 44) [.t 36, .i 1, .i 1000], .n 38 (.un .not) [.t 37], .n 39 .mov [.t 38], .w 40 (.faddr 1) [.t 6] 39 false, .w 41 (.load 1 false) [.t 40] 39 false, .w 42 (.len false) [.t 41] 39 false, .w 43 (.faddr 0) [.t 1] 39 false, .w 44 (.load 1 false) [.t 43] 39 false, .w 45 (.len false) [.t 44] 39 false, .w 46 (.bin .neq) [.t 42, .t 45] 39 false, .n 47 .pick [.t 39, .c (.bool true), .t 46], .n 48 .mov [.t 47], .w 49 (.faddr 1) [.t 6] 48 false, .w 50 (.load 1 false) [.t 49] 48 false, .w 51 (.call 81) [.t 50, .c (.func (.func 114) [] [])] 48 false, .n 52 .pick [.t 48, .c (.bool true), .t 51]])
   (.cond (.t 52) (.seq (.reg [.n 2 .mov [.i 74]])
   .ret) .skip))))
   (.reg [.n 53 (.bin .add) [.t 31, .i 1], .n 31 .mov [.t 53]])))))))
   (.seq (.reg [.n 2 .mov [.i 0]])
   .ret)))))
theorem chk.bin_CheckInfill : chkF Tryz.prog 73 = some (54, ir.bin_CheckInfill, [.tmp 2]) := by kernel_rfl

/-- paravane/bin.covers -/
abbrev F.bin_covers : Nat := 74
def ir.bin_covers : IC :=
 (.seq (.reg [.n 2 .box [.t 0], .n 4 .mov [.c (.bool false)]])
   (.seq (.reg [.n 5 (.load 2 true) [.t 2], .n 6 .mov [.t 1], .n 7 (.call 116) [.t 5, .t 6], .n 8 (.call 115) [.t 7, .c (.func (.func 117) [] [])], .n 9 (.bin .eql) [.t 8, .i 0], .n 4 .mov [.t 9]])
   .ret))
theorem chk.bin_covers : chkF Tryz.prog 74 = some (10, ir.bin_covers, [.tmp 4]) := by kernel_rfl

/-- paravane/bin.Bound$1 -/
abbrev F.bin_Bound_1 : Nat := 79
def ir.bin_Bound_1 : IC :=
 (.scope (.seq (.seq (.reg [.n 15 (.load 1 false) [.t 2], .n 16 (.un .not) [.t 15], .n 17 .mov [.t 16], .w 18 (.load 1 false) [.t 3] 17 false, .w 19 (.load 1 false) [.t 4] 17 false, .w 20 (.len false) [.t 19] 17 false, .w 21 (.bin .geq) [.t 18, .t 20] 17 false, .n 22 .pick [.t 17, .c (.bool true), .t 21]])
   (.cond (.t 22) (.seq (.reg [.s (.store 1) [.t 2, .c (.bool false)]])
   .ret) .skip))
   (.seq (.reg [.n 23 (.load 1 false) [.t 4], .n 24 (.load 1 false) [.t 3], .n 25 (.iaddrS 2) [.t 23, .t 24], .n 26 (.load 2 true) [.t 25], .n 11 (.alloc [(.int .i64 0), .nils]) [], .s (.store 2) [.t 11, .t 26]])
   (.seq (.reg [.n 27 (.load 1 false) [.t 3], .n 28 (.bin .add) [.t 27, .i 1], .s (.store 1) [.t 3, .t 28]])
   (.seq (.seq (.reg [.n 29 (.faddr 0) [.t 11], .n 30 (.load 1 false) [.t 29], .n 31 (.bin .neq) [.t 30, .i (-1)]])
   (.cond (.t 31) (.seq (.seq (.reg [.n 32 (.faddr 0) [.t 11], .n 33 (.load 1 false) [.t 32], .n 34 (.faddr 1) [.t 5], .n 35 (.load 1 false) [.t 34], .n 36 (.len false) [.t 35], .n 37 (.bin .sub) [.t 36, .i 1], .n 38 (.call 44) [.t 33, .i 0, .t 37], .n 39 .mov [.t 38], .w 40 .mov [.t 1] 39 true, .w 41 (.faddr 0) [.t 11] 39 true, .w 42 (.load 1 false) [.t 41] 39 true, .w 43 (.bin .shr) [.t 40, .t 42] 39 true, .w 44 (.bin .rem) [.t 43, .i 2] 39 true, .w 45 (.bin .eql) [.t 44, .i 0] 39 true, .n 46 .pick [.t 39, .t 45, .c (.bool false)], .n 47 .mov [.t 46], .w 48 (.faddr 1) [.t 11] 47 true, .w 49 (.load 1 false) [.t 48] 47 true, .w 50 (.len false) [.t 49] 47 true, .w 51 (.bin .eql) [.t 50, .i 0] 47 true, .n 52 .pick [.t 47, .t 51, .c (.bool false)], .s (.store 1) [.t 2, .t 52]])
   (.seq (.reg [.n 53 (.load 1 false) [.t 2]])
   (.cond (.t 53) (.seq (.draw [0, 0, 0, 4, 12, 30, 0, 0, 128, 384, 960, 2047] [.n 54 (.load 1 false) [.t 6], .n 55 .mov [.t 0], .n 56 (.faddr 0) [.t 11], .n 57 (.load 1 false) [.t 56], .n 58 (.bin .shl) [.i 1, .t 57], .n 59 (.bin .or) [.t 55, .t 58], .n 60 .mov [.t 1], .n 61 (.faddr 0) [.t 11], .n 62 (.load 1 false) [.t 61], .n 63 (.bin .shl) [.i 1, .t 62], .n 64 (.bin .or) [.t 60, .t 63], .n 65 .callv [.t 54, .t 59, .t 64]])
   (.draw [0, 0, 0, 0, 8, 24, 60, 127] [.n 66 (.load 1 false) [.t 6], .n 67 .mov [.t 0], .n 68 .mov [.t 1], .n 69 (.faddr 0) [.t 11], .n 70 (.load 1 false) [.t 69], .n 71 (.bin .shl) [.i 1, .t 70], .n 72 (.bin .or) [.t 68, .t 71], .n 73 .callv [.t 66, .t 67, .t 72]])) .skip)))
   .ret) .skip))
   (.seq (.reg [.n 74 (.faddr 1) [.t 11], .n 75 (.load 1 false) [.t 74], .n 76 (.len false) [.t 75], .n 77 (.faddr 0) [.t 5], .n 78 (.load 1 false) [.t 77], .n 79 (.len false) [.t 78], .n 80 (.bin .eql) [.t 76, .t 79], .s (.store 1) [.t 2, .t 80]])
   (.seq (.label 0)
   (.seq (.seq (.reg [.n 81 (.faddr 1) [.t 11], .n 82 (.load 1 false) [.t 81], .n 83 (.len false) [.t 82], .n 84 .mov [.i 0]])
   (.block 0 (.loop (.seq (.reg [.n 85 (.bin .lss) [.t 84, .t 83]])
   (.seq (.cond (.t 85) .skip (.exit 0))
   (.seq (.block 1 (.seq (.reg [.n 86 (.iaddrS 1) [.t 82, .t 84], .n 87 (.load 1 false) [.t 86], .n 13 .mov [.t 87]])
   (.seq (.reg [.n 88 (.load 1 false) [.t 2], .n 89 .mov [.t 88], .w 90 .mov [.t 13] 89 true, .w 91 (.call 44) [.t 90, .i 0, .i 1000000] 89 true, .n 92 .pick [.t 89, .t 91, .c (.bool false)], .s (.store 1) [.t 2, .t 92]])
   (.seq (.reg [.n 93 (.load 1 false) [.t 2], .n 94 (.un .not) [.t 93]])
   (.cond (.t 94) (.exit 0) .skip)))))
   (.reg [.n 95 (.bin .add) [.t 84, .i 1], .n 84 .mov [.t 95]])))))))
   (.seq (.reg [.n 96 (.load 1 false) [.t 2]])
   (.cond (.t 96) (.seq (.reg [.n 97 (.load 2 true) [.t 5], .n 98 (.faddr 1) [.t 11], .n 99 (.load 1 false) [.t 98], .n 100 .mov [.t 0], .n 101 .mov [.t 1], .n 102 (.call 80) [.t 97, .t 99, .t 100, .t 101], .n 14 .mov [.t 102]])
   (.seq (.reg [.n 103 (.load 1 false) [.t 7], .n 104 (.un .not) [.t 103], .n 105 .mov [.t 104], .w 106 .mov [.t 14] 105 false, .w 107 (.load 1 false) [.t 8] 105 false, .w 108 (.bin .lss) [.t 106, .t 107] 105 false, .n 109 .pick [.t 105, .c (.bool true), .t 108]])
   (.cond (.t 109) (.reg [.n 110 .mov [.t 14], .s (.store 1) [.t 8, .t 110], .s (.store 1) [.t 7, .c (.bool true)]]) .skip))) .skip))))))))))
theorem chk.bin_Bound_1 : chkF Tryz.prog 79 = some (111, ir.bin_Bound_1, []) := by kernel_rfl

/-- paravane/bin.leaf -/
abbrev F.bin_leaf : Nat := 80
def ir.bin_leaf : IC :=
 (.seq (.reg [.n 4 .box [.t 0], .n 8 .mov [.i 0]])
   (.seq (.reg [.n 18 (.load 2 true) [.t 4], .n 19 .mov [.t 2], .n 20 (.call 116) [.t 18, .t 19], .n 9 .mov [.t 20]])
   (.seq (.reg [.n 21 (.load 2 true) [.t 4], .n 22 .mov [.t 2], .n 23 (.call 92) [.t 21, .t 22], .n 10 .mov [.t 23]])
   (.seq (.seq (.reg [.n 24 .mov [.t 1], .n 25 (.len false) [.t 24], .n 26 .mov [.i 0]])
   (.block 0 (.loop (.seq (.reg [.n 27 (.bin .lss) [.t 26, .t 25]])
   (.seq (.cond (.t 27) .skip (.exit 0))
   (.seq (.block 1 (.seq (.reg [.n 28 .mov [.t 26], .n 29 (.iaddrS 1) [.t 24, .t 26], .n 30 (.load 1 false) [.t 29], .n 11 .mov [.t 28], .n 12 .mov [.t 30]])
   (.reg [.n 31 .mov [.t 10], .n 32 .mov [.t 12], .n 33 .mov [.t 9], .n 34 .mov [.t 11], .n 35 (.iaddrS 1) [.t 33, .t 34], .n 36 (.load 1 false) [.t 35], .n 37 (.bin .mul) [.t 32, .t 36], .n 38 (.bin .add) [.t 31, .t 37], .n 10 .mov [.t 38]])))
   (.reg [.n 39 (.bin .add) [.t 26, .i 1], .n 26 .mov [.t 39]])))))))
   (.seq (.seq (.reg [.n 40 (.faddr 1) [.t 4], .n 41 (.load 1 false) [.t 40], .n 42 (.len false) [.t 41], .n 43 .mov [.i 0]])
   (.block 2 (.loop (.seq (.reg [.n 44 (.bin .lss) [.t 43, .t 42]])
   (.seq (.cond (.t 44) .skip (.exit 2))
   (.seq (.block 3 (.seq (.reg [.n 45 .mov [.t 43], .n 46 (.iaddrS 2) [.t 41, .t 43], .n 47 (.load 2 true) [.t 46], .n 14 (.alloc [(.int .i64 0), .nils]) [], .n 13 .mov [.t 45], .s (.store 2) [.t 14, .t 47]])
   (.seq (.seq (.reg [.n 48 .mov [.t 3], .n 49 .mov [.t 13], .n 50 (.bin .shr) [.t 48, .t 49], .n 51 (.bin .rem) [.t 50, .i 2], .n 52 (.bin .eql) [.t 51, .i 1]])
   (.cond (.t 52) (.exit 3) .skip))
   (.seq (.reg [.n 53 (.faddr 0) [.t 14], .n 54 (.load 1 false) [.t 53], .n 55 (.un .neg) [.t 54], .n 15 .mov [.t 55]])
   (.seq (.seq (.reg [.n 56 (.faddr 1) [.t 14], .n 57 (.load 1 false) [.t 56], .n 58 (.len false) [.t 57], .n 59 .mov [.i 0]])
   (.block 4 (.loop (.seq (.reg [.n 60 (.bin .lss) [.t 59, .t 58]])
   (.seq (.cond (.t 60) .skip (.exit 4))
   (.seq (.block 5 (.seq (.reg [.n 61 .mov [.t 59], .n 62 (.iaddrS 1) [.t 57, .t 59], .n 63 (.load 1 false) [.t 62], .n 16 .mov [.t 61], .n 17 .mov [.t 63]])
   (.draw [0, 0, 0, 6, 14, 0, 0, 0, 192, 448, 992, 2046, 4095, 8191] [.n 64 .mov [.t 15], .n 65 .mov [.t 1], .n 66 .mov [.t 16], .n 67 (.iaddrS 1) [.t 65, .t 66], .n 68 (.load 1 false) [.t 67], .n 69 .mov [.t 17], .n 70 .mov [.t 9], .n 71 .mov [.t 16], .n 72 (.iaddrS 1) [.t 70, .t 71], .n 73 (.load 1 false) [.t 72], .n 74 (.minmax false) [.t 69, .t 73], .n 75 (.bin .mul) [.t 68, .t 74], .n 76 (.bin .add) [.t 64, .t 75], .n 15 .mov [.t 76]])))
   (.reg [.n 77 (.bin .add) [.t 59, .i 1], .n 59 .mov [.t 77]])))))))
   (.reg [.n 78 .mov [.t 10], .n 79 .mov [.t 15], .n 80 (.minmax true) [.i 0, .t 79], .n 81 (.bin .sub) [.t 78, .t 80], .n 10 .mov [.t 81]]))))))
   (.reg [.n 82 (.bin .add) [.t 43, .i 1], .n 43 .mov [.t 82]])))))))
   (.seq (.reg [.n 83 .mov [.t 10], .n 8 .mov [.t 83]])
   .ret))))))
theorem chk.bin_leaf : chkF Tryz.prog 80 = some (84, ir.bin_leaf, [.tmp 8]) := by kernel_rfl

/-- slices.ContainsFunc[[]int,int] -/
abbrev F.slices_ContainsFunc_int_int : Nat := 81
def ir.slices_ContainsFunc_int_int : IC :=
 (.seq (.reg [.n 4 .mov [.c (.bool false)]])
   (.seq (.reg [.n 5 .mov [.t 0], .n 6 .mov [.t 1], .n 7 (.call 123) [.t 5, .t 6], .n 8 (.bin .geq) [.t 7, .i 0], .n 4 .mov [.t 8]])
   .ret))
theorem chk.slices_ContainsFunc_int_int : chkF Tryz.prog 81 = some (9, ir.slices_ContainsFunc_int_int, [.tmp 4]) := by kernel_rfl

/-- paravane/bin.lay -/
abbrev F.bin_lay : Nat := 83
def ir.bin_lay : IC :=
 (.seq (.reg [.n 2 .box [.t 0], .n 3 .box [.t 1], .n 4 (.alloc [(.int .i64 0), (.int .i64 0), (.int .i64 0), (.int .i64 0), (.int .i64 0), .nils, .nils, .nils]) []])
   (.seq (.reg [.n 8 (.load 6 true) [.t 2], .n 9 (.faddr 1) [.t 3], .n 10 (.load 1 false) [.t 9], .n 11 (.build [(.int .i64 0), (.int .i64 0), (.int .i64 0), (.int .i64 0), (.int .i64 0), .nils, .nils, .nils] [(0, 6), (6, 1)]) [.t 8, .t 10], .n 5 (.alloc [(.int .i64 0), (.int .i64 0), (.int .i64 0), (.int .i64 0), (.int .i64 0), .nils, .nils, .nils]) [], .s (.store 8) [.t 5, .t 11]])
   (.seq (.seq (.reg [.n 12 (.faddr 0) [.t 3], .n 13 (.load 1 false) [.t 12], .n 14 (.len false) [.t 13], .n 15 .mov [.i 0]])
   (.block 0 (.loop (.seq (.reg [.n 16 (.bin .lss) [.t 15, .t 14]])
   (.seq (.cond (.t 16) .skip (.exit 0))
   (.seq (.block 1 (.seq (.reg [.n 17 (.iaddrS 8) [.t 13, .t 15], .n 18 (.load 8 true) [.t 17], .n 7 (.alloc [(.int .i64 0), (.int .i64 0), (.int .i64 0), (.int .i64 0), (.int .i64 0), (.int .i64 0), (.int .i64 0), (.int .i64 0)]) [], .s (.store 8) [.t 7, .t 18]])
   (.draw [0, 1, 0, 4, 12, 31, 63, 127] [.n 19 (.faddr 7) [.t 5], .n 20 (.load 1 false) [.t 19], .n 21 (.load 8 true) [.t 7], .n 22 (.call 124) [.t 21], .n 23 (.mkslice 1 88) [.t 22], .n 24 (.append 1 24 88) [.t 20, .t 23], .n 25 (.faddr 7) [.t 5], .s (.store 1) [.t 25, .t 24]])))
   (.reg [.n 26 (.bin .add) [.t 15, .i 1], .n 15 .mov [.t 26]])))))))
   (.seq (.reg [.n 27 (.load 8 true) [.t 5], .s (.store 8) [.t 4, .t 27]])
   .ret))))
theorem chk.bin_lay : chkF Tryz.prog 83 = some (28, ir.bin_lay, [.cell 4 101]) := by kernel_rfl

/-- paravane/region.Tight -/
abbrev F.region_Tight : Nat := 84
def ir.region_Tight : IC :=
 (.seq (.reg [.n 1 .box [.t 0], .n 2 (.alloc [(.int .i64 0), (.int .i64 0), (.int .i64 0), (.int .i64 0), (.int .i64 0), (.int .i64 0), (.int .i64 0), (.int .i64 0)]) [], .n 3 .mov [.i 0]])
   (.seq (.seq (.reg [.n 5 (.load 8 true) [.t 1], .n 6 (.call 95) [.t 5], .n 4 .mov [.t 6]])
   (.seq (.reg [.n 7 .mov [.t 4], .n 8 (.bin .neq) [.t 7, .i 0]])
   (.cond (.t 8) (.seq (.reg [.n 9 (.build [(.int .i64 0), (.int .i64 0), (.int .i64 0), (.int .i64 0), (.int .i64 0), (.int .i64 0), (.int .i64 0), (.int .i64 0)] []) [], .n 10 .mov [.t 4], .s (.store 8) [.t 2, .t 9], .n 3 .mov [.t 10]])
   .ret) .skip)))
   (.seq (.reg [.n 11 (.load 8 true) [.t 1], .n 12 (.call 96) [.t 11], .n 13 (.call 126) [.t 12], .n 14 (.extract 0) [.t 13], .n 15 (.extract 1) [.t 13], .n 16 (.call 125) [.t 14, .t 15], .n 17 (.extract 0) [.t 16], .n 18 (.extract 1) [.t 16], .s (.store 8) [.t 2, .t 17], .n 3 .mov [.t 18]])
   .ret)))
theorem chk.region_Tight : chkF Tryz.prog 84 = some (19, ir.region_Tight, [.cell 2 85, .tmp 3]) := by kernel_rfl

/-- slices.ContainsFunc[[]paravane/api.Point,paravane/api.Point] -/
abbrev F.slices_ContainsFunc_api_Point_api_Point : Nat := 85
def ir.slices_ContainsFunc_api_Point_api_Point : IC :=
 (.seq (.reg [.n 4 .mov [.c (.bool false)]])
   (.seq (.reg [.n 5 .mov [.t 0], .n 6 .mov [.t 1], .n 7 (.call 127) [.t 5, .t 6], .n 8 (.bin .geq) [.t 7, .i 0], .n 4 .mov [.t 8]])
   .ret))
theorem chk.slices_ContainsFunc_api_Point_api_Point : chkF Tryz.prog 85 = some (9, ir.slices_ContainsFunc_api_Point_api_Point, [.tmp 4]) := by kernel_rfl

/-- paravane/region.Of$1 -/
abbrev F.region_Of_1 : Nat := 86
def ir.region_Of_1 : IC :=
 (.seq (.reg [.n 1 .box [.t 0], .n 2 .mov [.c (.bool false)]])
   (.seq (.reg [.n 3 (.load 2 true) [.t 1], .n 4 (.call 43) [.t 3], .n 5 (.bin .neq) [.t 4, .i 0], .n 2 .mov [.t 5]])
   .ret))
theorem chk.region_Of_1 : chkF Tryz.prog 86 = some (6, ir.region_Of_1, [.tmp 2]) := by kernel_rfl

/-- paravane/region.hull -/
abbrev F.region_hull : Nat := 87
def ir.region_hull : IC :=
 (.seq (.reg [.n 2 (.alloc [(.int .i64 0), (.int .i64 0), (.int .i64 0), (.int .i64 0), (.int .i64 0), (.int .i64 0), (.int .i64 0), (.int .i64 0)]) [], .n 3 (.alloc [(.bool false)]) []])
   (.seq (.seq (.reg [.n 7 .mov [.t 0], .n 8 (.len false) [.t 7], .n 9 .mov [.i 0]])
   (.block 0 (.loop (.seq (.reg [.n 10 (.bin .lss) [.t 9, .t 8]])
   (.seq (.cond (.t 10) .skip (.exit 0))
   (.seq (.block 1 (.seq (.reg [.n 11 (.iaddrS 1) [.t 7, .t 9], .n 12 (.load 1 false) [.t 11], .n 5 .mov [.t 12]])
   (.seq (.reg [.n 13 .mov [.t 5]])
   (.block 2 (.range (.t 13) [14] (.reg [.n 6 (.alloc [(.int .i64 0), (.int .i64 0)]) [], .s (.store 2) [.t 6, .t 14]]) (.block 3 (.seq (.seq (.reg [.n 15 (.load 1 false) [.t 3], .n 16 (.un .not) [.t 15]])
   (.cond (.t 16) (.reg [.n 17 (.load 2 true) [.t 6], .n 18 (.call 128) [.t 17], .s (.store 8) [.t 2, .t 18], .s (.store 1) [.t 3, .c (.bool true)]]) .skip))
   (.draw [0, 0, 2, 7, 15] [.n 19 (.load 8 true) [.t 2], .n 20 (.load 2 true) [.t 6], .n 21 (.call 128) [.t 20], .n 22 (.call 129) [.t 19, .t 21, .c (.func (.func 130) [] [])], .s (.store 8) [.t 2, .t 22]]))))))))
   (.reg [.n 23 (.bin .add) [.t 9, .i 1], .n 9 .mov [.t 23]])))))))
   (.seq (.draw [0, 0, 1, 7] [.n 24 (.load 8 true) [.t 2], .n 25 (.load 1 false) [.t 3], .s (.store 8) [.t 2, .t 24], .s (.store 1) [.t 3, .t 25]])
   .ret)))
theorem chk.region_hull : chkF Tryz.prog 87 = some (26, ir.region_hull, [.cell 2 152, .cell 3 4]) := by kernel_rfl

/-- paravane/region.Of$2 -/
abbrev F.region_Of_2 : Nat := 88
def ir.region_Of_2 : IC :=
 (.seq (.reg [.n 5 (.load 1 false) [.t 1], .n 6 (.len false) [.t 5], .n 7 .mov [.i 0]])
   (.block 0 (.loop (.seq (.reg [.n 8 (.bin .lss) [.t 7, .t 6]])
   (.seq (.cond (.t 8) .skip (.exit 0))
   (.seq (.block 1 (.seq (.reg [.n 9 (.iaddrS 2) [.t 5, .t 7], .n 10 (.load 2 true) [.t 9], .n 4 (.alloc [(.int .i64 0), (.int .i64 0)]) [], .s (.store 2) [.t 4, .t 10]])
   (.seq (.reg [.n 11 .mov [.t 0], .n 12 (.load 2 true) [.t 4], .n 13 .callv [.t 11, .t 12], .n 14 (.un .not) [.t 13]])
   (.cond (.t 14) .ret .skip))))
   (.reg [.n 15 (.bin .add) [.t 7, .i 1], .n 7 .mov [.t 15]])))))))
theorem chk.region_Of_2 : chkF Tryz.prog 88 = some (16, ir.region_Of_2, []) := by kernel_rfl

/-- (paravane/region.four).region -/
abbrev F.region_four_region : Nat := 89
def ir.region_four_region : IC :=
 (.seq (.reg [.n 1 .box [.t 0], .n 2 (.alloc [(.int .i64 0), (.int .i64 0), (.int .i64 0), (.int .i64 0), (.int .i64 0), (.int .i64 0), (.int .i64 0), (.int .i64 0)]) []])
   (.seq (.reg [.n 3 (.iaddrA 4 2) [.t 1, .i 0], .n 4 (.load 2 true) [.t 3], .n 5 (.iaddrA 4 2) [.t 1, .i 1], .n 6 (.load 2 true) [.t 5], .n 7 (.iaddrA 4 2) [.t 1, .i 2], .n 8 (.load 2 true) [.t 7], .n 9 (.iaddrA 4 2) [.t 1, .i 3], .n 10 (.load 2 true) [.t 9], .n 11 (.build [(.int .i64 0), (.int .i64 0), (.int .i64 0), (.int .i64 0), (.int .i64 0), (.int .i64 0), (.int .i64 0), (.int .i64 0)] [(0, 2), (2, 2), (4, 2), (6, 2)]) [.t 4, .t 6, .t 8, .t 10], .s (.store 8) [.t 2, .t 11]])
   .ret))
theorem chk.region_four_region : chkF Tryz.prog 89 = some (12, ir.region_four_region, [.cell 2 85]) := by kernel_rfl

/-- paravane/bin.best -/
abbrev F.bin_best : Nat := 90
def ir.bin_best : IC :=
 (.seq (.reg [.n 2 .box [.t 0], .n 4 .mov [.i 0], .n 5 .mov [.c (.bool false)]])
   (.seq (.reg [.n 6 (.alloc [(.int .i64 0), (.int .i64 0), (.int .i64 0), (.int .i64 0), (.int .i64 0), (.int .i64 0), (.int .i64 0), (.int .i64 0), (.int .i64 0), (.int .i64 0), (.int .i64 0), (.int .i64 0), (.int .i64 0), (.int .i64 0), (.int .i64 0), (.int .i64 0), (.int .i64 0), (.int .i64 0), (.int .i64 0), (.int .i64 0), (.int .i64 0), (.int .i64 0), (.int .i64 0), (.int .i64 0), (.int .i64 0), (.int .i64 0), (.int .i64 0), (.int .i64 0), (.int .i64 0), (.int .i64 0), (.int .i64 0), (.int .i64 0), (.int .i64 0), (.int .i64 0), (.int .i64 0), (.int .i64 0), (.int .i64 0), (.int .i64 0), (.int .i64 0), (.int .i64 0), (.int .i64 0), (.int .i64 0), (.int .i64 0), (.int .i64 0), (.int .i64 0), (.int .i64 0), (.int .i64 0), (.int .i64 0), (.int .i64 0), (.int .i64 0), (.int .i64 0), (.int .i64 0), (.int .i64 0), (.int .i64 0), (.int .i64 0), (.int .i64 0), (.int .i64 0), (.int .i64 0), (.int .i64 0), (.int .i64 0), (.int .i64 0), (.int .i64 0), (.int .i64 0), (.int .i64 0), (.int .i64 0), (.int .i64 0), (.int .i64 0), (.int .i64 0), (.int .i64 0), (.int .i64 0), (.int .i64 0), (.int .i64 0), (.int .i64 0), (.int .i64 0), (.int .i64 0), (.int .i64 0), (.int .i64 0), (.int .i64 0), (.int .i64 0), (.int .i64 0), (.int .i64 0), (.int .i64 0), (.int .i64 0), (.int .i64 0), (.int .i64 0), (.int .i64 0), (.int .i64 0), (.int .i64 0), (.int .i64 0), (.int .i64 0), (.int .i64 0), (.int .i64 0), (.int .i64 0), (.int .i64 0), (.int .i64 0), (.int .i64 0), (.int .i64 0), (.int .i64 0), (.int .i64 0), (.int .i64 0), (.int .i64 0), (.int .i64 0), (.int .i64 0), (.int .i64 0), (.int .i64 0), (.int .i64 0), (.int .i64 0), (.int .i64 0), (.int .i64 0), (.int .i64 0), (.int .i64 0), (.int .i64 0), (.int .i64 0), (.int .i64 0), (.int .i64 0), (.int .i64 0), (.int .i64 0), (.int .i64 0), (.int .i64 0), (.int .i64 0), (.int .i64 0), (.int .i64 0), (.int .i64 0), (.int .i64 0), (.int .i64 0), (.int .i64 0), (.int .i64 0), (.int .i64 0), (.int .i64 0), (.int .i64 0), (.int .i64 0), (.int .i64 0), (.int .i64 0), (.int .i64 0), (.int .i64 0), (.int .i64 0), (.int .i64 0), (.int .i64 0), (.int .i64 0), (.int .i64 0), (.int .i64 0), (.int .i64 0), (.int .i64 0), (.int .i64 0), (.int .i64 0), (.int .i64 0), (.int .i64 0), (.int .i64 0), (.int .i64 0), (.int .i64 0), (.int .i64 0), (.int .i64 0), (.int .i64 0), (.int .i64 0), (.int .i64 0), (.int .i64 0), (.int .i64 0), (.int .i64 0), (.int .i64 0), (.int .i64 0), (.int .i64 0), (.int .i64 0), (.int .i64 0), (.int .i64 0), (.int .i64 0), (.int .i64 0), (.int .i64 0), (.int .i64 0), (.int .i64 0), (.int .i64 0), (.int .i64 0), (.int .i64 0), (.int .i64 0), (.int .i64 0), (.int .i64 0), (.int .i64 0), (.int .i64 0), (.int .i64 0), (.int .i64 0), (.int .i64 0), (.int .i64 0), (.int .i64 0), (.int .i64 0), (.int .i64 0), (.int .i64 0), (.int .i64 0), (.int .i64 0), (.int .i64 0), (.int .i64 0), (.int .i64 0), (.int .i64 0), (.int .i64 0), (.int .i64 0), (.int .i64 0), (.int .i64 0), (.int .i64 0), (.int .i64 0), (.int .i64 0), (.int .i64 0), (.int .i64 0), (.int .i64 0), (.int .i64 0), (.int .i64 0), (.int .i64 0), (.int .i64 0), (.int .i64 0), (.int .i64 0), (.int .i64 0), (.int .i64 0), (.int .i64 0), (.int .i64 0), (.int .i64 0), (.int .i64 0), (.int .i64 0), (.int .i64 0), (.int .i64 0), (.int .i64 0), (.int .i64 0), (.int .i64 0), (.int .i64 0), (.int .i64 0), (.int .i64 0), (.int .i64 0), (.int .i64 0), (.int .i64 0), (.int .i64 0), (.int .i64 0), (.int .i64 0), (.int .i64 0), (.int .i64 0), (.int .i64 0), (.int .i64 0), (.int .i64 0), (.int .i64 0), (.int .i64 0), (.int .i64 0), (.int .i64 0), (.int .i64 0), (.int .i64 0), (.int .i64 0), (.int .i64 0), (.int .i64 0), (.int .i64 0), (.int .i64 0), (.int .i64 0), (.int .i64 0), (.int .i64 0), (.int .i64 0), (.int .i64 0), (.int .i64 0), (.int .i64 0), (.int .i64 0), (.int .i64 0), (.int .i64 0), (.int .i64 0), (.int .i64 0), (.int .i64 0), (.int .i64 0), (.int .i64 0), (.int .i64 0), (.int .i64 0), (.int .i64 0), (.int .i64 0), (.int .i64 0), (.int .i64 0), (.int .i64 0), (.int .i64 0), (.int .i64 0), (.int .i64 0), (.int .i64 0), (.int .i64 0), (.int .i64 0), (.int .i64 0), (.int .i64 0), (.int .i64 0), (.int .i64 0), (.int .i64 0), (.int .i64 0), (.int .i64 0), (.int .i64 0), (.int .i64 0), (.int .i64 0), (.int .i64 0), (.int .i64 0), (.int .i64 0), (.int .i64 0), (.int .i64 0), (.int .i64 0), (.int .i64 0), (.int .i64 0), (.int .i64 0), (.int .i64 0), (.int .i64 0), (.int .i64 0), (.int .i64 0), (.int .i64 0), (.int .i64 0), (.int .i64 0), (.int .i64 0), (.int .i64 0), (.int .i64 0), (.int .i64 0), (.int .i64 0), (.int .i64 0), (.int .i64 0), (.int .i64 0), (.int .i64 0), (.int .i64 0), (.int .i64 0), (.int .i64 0), (.int .i64 0), (.int .i64 0), (.int .i64 0), (.int .i64 0), (.int .i64 0), (.int .i64 0), (.int .i64 0), (.int .i64 0), (.int .i64 0), (.int .i64 0), (.int .i64 0), (.int .i64 0), (.int .i64 0), (.int .i64 0), (.int .i64 0), (.int .i64 0), (.int .i64 0), (.int .i64 0), (.int .i64 0), (.int .i64 0), (.int .i64 0), (.int .i64 0), (.int .i64 0), (.int .i64 0), (.int .i64 0), (.int .i64 0), (.int .i64 0), (.int .i64 0), (.int .i64 0), (.int .i64 0), (.int .i64 0), (.int .i64 0), (.int .i64 0), (.int .i64 0), (.int .i64 0), (.int .i64 0), (.int .i64 0), (.int .i64 0), (.int .i64 0), (.int .i64 0), (.int .i64 0), (.int .i64 0), (.int .i64 0), (.int .i64 0), (.int .i64 0), (.int .i64 0), (.int .i64 0), (.int .i64 0), (.int .i64 0), (.int .i64 0), (.int .i64 0), (.int .i64 0), (.int .i64 0), (.int .i64 0), (.int .i64 0), (.int .i64 0), (.int .i64 0), (.int .i64 0), (.int .i64 0), (.int .i64 0), (.int .i64 0), (.int .i64 0), (.int .i64 0), (.int .i64 0), (.int .i64 0), (.int .i64 0), (.int .i64 0), (.int .i64 0), (.int .i64 0), (.int .i64 0), (.int .i64 0), (.int .i64 0), (.int .i64 0), (.int .i64 0), (.int .i64 0), (.int .i64 0), (.int .i64 0), (.int .i64 0), (.int .i64 0), (.int .i64 0), (.int .i64 0), (.int .i64 0), (.int .i64 0), (.int .i64 0), (.int .i64 0), (.int .i64 0), (.int .i64 0), (.int .i64 0), (.int .i64 0), (.int .i64 0), (.int .i64 0), (.int .i64 0), (.int .i64 0), (.int .i64 0), (.int .i64 0), (.int .i64 0), (.int .i64 0), (.int .i64 0), (.int .i64 0), (.int .i64 0), (.int .i64 0), (.int .i64 0), (.int .i64 0), (.int .i64 0), (.int .i64 0), (.int .i64 0), (.int .i64 0), (.int .i64 0), (.int .i64 0), (.int .i64 0), (.int .i64 0), (.int .i64 0), (.int .i64 0), (.int .i64 0), (.int .i64 0), (.int .i64 0), (.int .i64 0), (.int .i64 0), (.int .i64 0), (.int .i64 0), (.int .i64 0), (.int .i64 0), (.int .i64 0), (.int .i64 0), (.int .i64 0), (.int .i64 0), (.int .i64 0), (.int .i64 0), (.int .i64 0), (.int .i64 0), (.int .i64 0), (.int .i64 0), (.int .i64 0), (.int .i64 0), (.int .i64 0), (.int .i64 0), (.int .i64 0), (.int .i64 0), (.int .i64 0), (.int .i64 0), (.int .i64 0), (.int .i64 0), (.int .i64 0), (.int .i64 0), (.int .i64 0), (.int .i64 0), (.int .i64 0), (.int .i64 0), (.int .i64 0), (.int .i64 0), (.int .i64 0), (.int .i64 0), (.int .i64 0), (.int .i64 0), (.int .i64 0), (.int .i64 0), (.int .i64 0), (.int .i64 0), (.int .i64 0), (.int .i64 0), (.int .i64 0), (.int .i64 0), (.int .i64 0), (.int .i64 0), (.int .i64 0), (.int .i64 0), (.int .i64 0), (.int .i64 0), (.int .i64 0), (.int .i64 0), (.int .i64 0), (.int .i64 0), (.int .i64 0), (.int .i64 0), (.int .i64 0), (.int .i64 0), (.int .i64 0), (.int .i64 0), (.int .i64 0), (.int .i64 0), (.int .i64 0), (.int .i64 0), (.int .i64 0), (.int .i64 0), (.int .i64 0), (.int .i64 0), (.int .i64 0), (.int .i64 0), (.int .i64 0), (.int .i64 0), (.int .i64 0), (.int .i64 0), (.int .i64 0), (.int .i64 0), (.int .i64 0), (.int .i64 0), (.int .i64 0), (.int .i64 0), (.int .i64 0), (.int .i64 0), (.int .i64 0), (.int .i64 0), (.int .i64 0), (.int .i64 0), (.int .i64 0), (.int .i64 0), (.int .i64 0), (.int .i64 0), (.int .i64 0), (.int .i64 0), (.int .i64 0), (.int .i64 0), (.int .i64 0), (.int .i64 0), (.int .i64 0), (.int .i64 0), (.int .i64 0), (.int .i64 0), (.int .i64 0), (.int .i64 0), (.int .i64 0), (.int .i64 0), (.int .i64 0), (.int .i64 0), (.int .i64 0), (.int .i64 0), (.int .i64 0), (.int .i64 0), (.int .i64 0), (.int .i64 0), (.int .i64 0), (.int .i64 0), (.int .i64 0), (.int .i64 0), (.int .i64 0), (.int .i64 0), (.int .i64 0), (.int .i64 0), (.int .i64 0), (.int .i64 0), (.int .i64 0), (.int .i64 0), (.int .i64 0), (.int .i64 0), (.int .i64 0), (.int .i64 0), (.int .i64 0), (.int .i64 0), (.int .i64 0), (.int .i64 0), (.int .i64 0), (.int .i64 0), (.int .i64 0), (.int .i64 0), (.int .i64 0), (.int .i64 0), (.int .i64 0), (.int .i64 0), (.int .i64 0), (.int .i64 0), (.int .i64 0), (.int .i64 0), (.int .i64 0), (.int .i64 0), (.int .i64 0), (.int .i64 0), (.int .i64 0), (.int .i64 0), (.int .i64 0), (.int .i64 0), (.int .i64 0), (.int .i64 0), (.int .i64 0), (.int .i64 0), (.int .i64 0), (.int .i64 0), (.int .i64 0), (.int .i64 0), (.int .i64 0), (.int .i64 0), (.int .i64 0), (.int .i64 0), (.int .i64 0), (.int .i64 0), (.int .i64 0), (.int .i64 0), (.int .i64 0), (.int .i64 0), (.int .i64 0), (.int .i64 0), (.int .i64 0), (.int .i64 0), (.int .i64 0), (.int .i64 0), (.int .i64 0), (.int .i64 0), (.int .i64 0), (.int .i64 0), (.int .i64 0), (.int .i64 0), (.int .i64 0), (.int .i64 0), (.int .i64 0), (.int .i64 0), (.int .i64 0), (.int .i64 0), (.int .i64 0), (.int .i64 0), (.int .i64 0), (.int .i64 0), (.int .i64 0), (.int .i64 0), (.int .i64 0), (.int .i64 0), (.int .i64 0), (.int .i64 0), (.int .i64 0), (.int .i64 0), (.int .i64 0), (.int .i64 0), (.int .i64 0), (.int .i64 0), (.int .i64 0), (.int .i64 0), (.int .i64 0), (.int .i64 0), (.int .i64 0), (.int .i64 0), (.int .i64 0), (.int .i64 0), (.int .i64 0), (.int .i64 0), (.int .i64 0), (.int .i64 0), (.int .i64 0), (.int .i64 0), (.int .i64 0), (.int .i64 0), (.int .i64 0), (.int .i64 0), (.int .i64 0), (.int .i64 0), (.int .i64 0), (.int .i64 0), (.int .i64 0), (.int .i64 0), (.int .i64 0), (.int .i64 0), (.int .i64 0), (.int .i64 0), (.int .i64 0), (.int .i64 0), (.int .i64 0), (.int .i64 0), (.int .i64 0), (.int .i64 0), (.int .i64 0), (.int .i64 0), (.int .i64 0), (.int .i64 0), (.int .i64 0), (.int .i64 0), (.int .i64 0), (.int .i64 0), (.int .i64 0), (.int .i64 0), (.int .i64 0), (.int .i64 0), (.int .i64 0), (.int .i64 0), (.int .i64 0), (.int .i64 0), (.int .i64 0), (.int .i64 0), (.int .i64 0), (.int .i64 0), (.int .i64 0), (.int .i64 0), (.int .i64 0), (.int .i64 0), (.int .i64 0), (.int .i64 0), (.int .i64 0), (.int .i64 0), (.int .i64 0), (.int .i64 0), (.int .i64 0), (.int .i64 0), (.int .i64 0), (.int .i64 0), (.int .i64 0), (.int .i64 0), (.int .i64 0), (.int .i64 0), (.int .i64 0), (.int .i64 0), (.int .i64 0), (.int .i64 0), (.int .i64 0), (.int .i64 0), (.int .i64 0), (.int .i64 0), (.int .i64 0), (.int .i64 0), (.int .i64 0), (.int .i64 0), (.int .i64 0), (.int .i64 0), (.int .i64 0), (.int .i64 0), (.int .i64 0), (.int .i64 0), (.int .i64 0), (.int .i64 0), (.int .i64 0), (.int .i64 0), (.int .i64 0), (.int .i64 0), (.int .i64 0), (.int .i64 0), (.int .i64 0), (.int .i64 0), (.int .i64 0), (.int .i64 0), (.int .i64 0), (.int .i64 0), (.int .i64 0), (.int .i64 0), (.int .i64 0), (.int .i64 0), (.int .i64 0), (.int .i64 0), (.int .i64 0), (.int .i64 0), (.int .i64 0), (.int .i64 0), (.int .i64 0), (.int .i64 0), (.int .i64 0), (.int .i64 0), (.int .i64 0), (.int .i64 0), (.int .i64 0), (.int .i64 0), (.int .i64 0), (.int .i64 0), (.int .i64 0), (.int .i64 0), (.int .i64 0), (.int .i64 0), (.int .i64 0), (.int .i64 0), (.int .i64 0), (.int .i64 0), (.int .i64 0), (.int .i64 0), (.int .i64 0), (.int .i64 0), (.int .i64 0), (.int .i64 0), (.int .i64 0), (.int .i64 0), (.int .i64 0), (.int .i64 0), (.int .i64 0), (.int .i64 0), (.int .i64 0), (.int .i64 0), (.int .i64 0), (.int .i64 0), (.int .i64 0), (.int .i64 0), (.int .i64 0), (.int .i64 0), (.int .i64 0), (.int .i64 0), (.int .i64 0), (.int .i64 0), (.int .i64 0), (.int .i64 0), (.int .i64 0), (.int .i64 0), (.int .i64 0), (.int .i64 0), (.int .i64 0), (.int .i64 0), (.int .i64 0), (.int .i64 0), (.int .i64 0), (.int .i64 0), (.int .i64 0), (.int .i64 0), (.int .i64 0), (.int .i64 0), (.int .i64 0), (.int .i64 0), (.int .i64 0), (.int .i64 0), (.int .i64 0), (.int .i64 0), (.int .i64 0), (.int .i64 0), (.int .i64 0), (.int .i64 0), (.int .i64 0), (.int .i64 0), (.int .i64 0), (.int .i64 0), (.int .i64 0), (.int .i64 0), (.int .i64 0), (.int .i64 0), (.int .i64 0), (.int .i64 0), (.int .i64 0), (.int .i64 0), (.int .i64 0), (.int .i64 0), (.int .i64 0), (.int .i64 0), (.int .i64 0), (.int .i64 0), (.int .i64 0), (.int .i64 0), (.int .i64 0), (.int .i64 0), (.int .i64 0), (.int .i64 0), (.int .i64 0), (.int .i64 0), (.int .i64 0), (.int .i64 0), (.int .i64 0), (.int .i64 0), (.int .i64 0), (.int .i64 0), (.int .i64 0), (.int .i64 0), (.int .i64 0), (.int .i64 0), (.int .i64 0), (.int .i64 0), (.int .i64 0), (.int .i64 0), (.int .i64 0), (.int .i64 0), (.int .i64 0), (.int .i64 0), (.int .i64 0), (.int .i64 0), (.int .i64 0), (.int .i64 0), (.int .i64 0), (.int .i64 0), (.int .i64 0), (.int .i64 0), (.int .i64 0), (.int .i64 0), (.int .i64 0), (.int .i64 0), (.int .i64 0), (.int .i64 0), (.int .i64 0), (.int .i64 0), (.int .i64 0), (.int .i64 0), (.int .i64 0), (.int .i64 0), (.int .i64 0), (.int .i64 0), (.int .i64 0), (.int .i64 0), (.int .i64 0), (.int .i64 0), (.int .i64 0), (.int .i64 0), (.int .i64 0), (.int .i64 0), (.int .i64 0), (.int .i64 0), (.int .i64 0), (.int .i64 0), (.int .i64 0), (.int .i64 0), (.int .i64 0), (.int .i64 0), (.int .i64 0), (.int .i64 0), (.int .i64 0), (.int .i64 0), (.int .i64 0), (.int .i64 0), (.int .i64 0), (.int .i64 0), (.int .i64 0), (.int .i64 0), (.int .i64 0), (.int .i64 0), (.int .i64 0), (.int .i64 0), (.int .i64 0), (.int .i64 0), (.int .i64 0), (.int .i64 0), (.int .i64 0), (.int .i64 0), (.int .i64 0), (.int .i64 0), (.int .i64 0), (.int .i64 0), (.int .i64 0), (.int .i64 0), (.int .i64 0), (.int .i64 0), (.int .i64 0), (.int .i64 0), (.int .i64 0), (.int .i64 0), (.int .i64 0), (.int .i64 0), (.int .i64 0), (.int .i64 0), (.int .i64 0), (.int .i64 0), (.int .i64 0), (.int .i64 0), (.int .i64 0), (.int .i64 0), (.int .i64 0), (.int .i64 0), (.int .i64 0), (.int .i64 0), (.int .i64 0), (.int .i64 0), (.int .i64 0), (.int .i64 0), (.int .i64 0), (.int .i64 0), (.int .i64 0), (.int .i64 0), (.int .i64 0), (.int .i64 0), (.int .i64 0), (.int .i64 0), (.int .i64 0), (.int .i64 0), (.int .i64 0), (.int .i64 0), (.int .i64 0), (.int .i64 0), (.int .i64 0), (.int .i64 0), (.int .i64 0), (.int .i64 0), (.int .i64 0), (.int .i64 0), (.int .i64 0), (.int .i64 0), (.int .i64 0), (.int .i64 0), (.int .i64 0), (.int .i64 0), (.int .i64 0), (.int .i64 0), (.int .i64 0), (.int .i64 0), (.int .i64 0), (.int .i64 0), (.int .i64 0), (.int .i64 0), (.int .i64 0), (.int .i64 0), (.int .i64 0), (.int .i64 0), (.int .i64 0), (.int .i64 0), (.int .i64 0), (.int .i64 0), (.int .i64 0), (.int .i64 0), (.int .i64 0), (.int .i64 0), (.int .i64 0), (.int .i64 0), (.int .i64 0), (.int .i64 0), (.int .i64 0), (.int .i64 0), (.int .i64 0), (.int .i64 0), (.int .i64 0), (.int .i64 0), (.int .i64 0), (.int .i64 0), (.int .i64 0), (.int .i64 0), (.int .i64 0), (.int .i64 0), (.int .i64 0), (.int .i64 0), (.int .i64 0), (.int .i64 0), (.int .i64 0), (.int .i64 0), (.int .i64 0), (.int .i64 0), (.int .i64 0), (.int .i64 0), (.int .i64 0), (.int .i64 0), (.int .i64 0), (.int .i64 0), (.int .i64 0), (.int .i64 0)]) []])
   (.seq (.reg [.n 7 .mov [.i 0], .n 8 .mov [.c (.bool false)]])
   (.seq (.seq (.reg [.n 12 (.faddr 1) [.t 2], .n 13 (.load 1 false) [.t 12], .n 14 (.len false) [.t 13], .n 15 (.bin .shl) [.i 1, .t 14], .n 16 .mov [.i 0]])
   (.block 0 (.loop (.seq (.reg [.n 17 (.bin .lss) [.t 16, .t 15]])
   (.seq (.cond (.t 17) .skip (.exit 0))
   (.seq (.block 1 (.seq (.reg [.n 18 .mov [.t 16], .n 9 .mov [.t 18]])
   (.seq (.seq (.reg [.n 19 .mov [.t 9], .n 20 .mov [.t 1], .n 21 (.bin .and) [.t 19, .t 20], .n 22 (.bin .neq) [.t 21, .i 0], .n 23 .mov [.t 22], .w 24 (.load 2 true) [.t 2] 23 false, .w 25 .mov [.t 9] 23 false, .w 26 (.call 74) [.t 24, .t 25] 23 false, .w 27 (.un .not) [.t 26] 23 false, .n 28 .pick [.t 23, .c (.bool true), .t 27]])
   (.cond (.t 28) (.exit 1) .skip))
   (.seq (.reg [.n 29 .mov [.t 9], .n 30 (.load 2 true) [.t 2], .n 31 .mov [.t 9], .n 32 (.call 92) [.t 30, .t 31], .n 33 (.iaddrA 1024 1) [.t 6, .t 29], .s (.store 1) [.t 33, .t 32]])
   (.seq (.seq (.reg [.n 34 .mov [.t 8], .n 35 (.un .not) [.t 34]])
   (.cond (.t 35) (.seq (.reg [.n 36 .mov [.t 9], .n 7 .mov [.t 36], .n 8 .mov [.c (.bool true)]])
   (.exit 1)) .skip))
   (.seq (.reg [.n 37 .mov [.t 9], .n 38 (.call 91) [.t 37], .n 39 .mov [.t 7], .n 40 (.call 91) [.t 39], .n 10 .mov [.t 38], .n 11 .mov [.t 40]])
   (.block 2 (.seq (.draw [0, 1, 3, 0, 8, 24, 63, 127] [.n 42 .mov [.t 9], .n 43 (.iaddrA 1024 1) [.t 6, .t 42], .n 44 (.load 1 false) [.t 43], .n 45 .mov [.t 7], .n 46 (.iaddrA 1024 1) [.t 6, .t 45], .n 47 (.load 1 false) [.t 46], .n 48 (.bin .neq) [.t 44, .t 47], .n 41 .mov [.t 48]])
   (.cond (.t 41) (.seq (.draw [0, 1, 3, 0, 8, 24, 63] [.n 49 .mov [.t 9], .n 50 (.iaddrA 1024 1) [.t 6, .t 49], .n 51 (.load 1 false) [.t 50], .n 52 .mov [.t 7], .n 53 (.iaddrA 1024 1) [.t 6, .t 52], .n 54 (.load 1 false) [.t 53], .n 55 (.bin .lss) [.t 51, .t 54]])
   (.cond (.t 55) (.reg [.n 56 .mov [.t 9], .n 7 .mov [.t 56]]) .skip)) (.seq (.reg [.n 58 .mov [.t 10], .n 59 (.len false) [.t 58], .n 60 .mov [.t 11], .n 61 (.len false) [.t 60], .n 62 (.bin .neq) [.t 59, .t 61], .n 57 .mov [.t 62]])
   (.cond (.t 57) (.seq (.reg [.n 63 .mov [.t 10], .n 64 (.len false) [.t 63], .n 65 .mov [.t 11], .n 66 (.len false) [.t 65], .n 67 (.bin .lss) [.t 64, .t 66]])
   (.cond (.t 67) (.reg [.n 68 .mov [.t 9], .n 7 .mov [.t 68]]) .skip)) (.seq (.reg [.n 70 .mov [.t 10], .n 71 .mov [.t 11], .n 72 (.call 131) [.t 70, .t 71], .n 73 (.bin .lss) [.t 72, .i 0], .n 69 .mov [.t 73]])
   (.cond (.t 69) (.reg [.n 74 .mov [.t 9], .n 7 .mov [.t 74]]) .skip)))))))))))))
   (.reg [.n 75 (.bin .add) [.t 16, .i 1], .n 16 .mov [.t 75]])))))))
   (.seq (.reg [.n 76 .mov [.t 7], .n 77 .mov [.t 8], .n 4 .mov [.t 76], .n 5 .mov [.t 77]])
   .ret)))))
theorem chk.bin_best : chkF Tryz.prog 90 = some (78, ir.bin_best, [.tmp 4, .tmp 5]) := by kernel_rfl

/-- paravane/bin.choice -/
abbrev F.bin_choice : Nat := 91
def ir.bin_choice : IC :=
 (.seq (.reg [.n 2 .mov [.c .nils]])
   (.seq (.reg [.n 3 .mov [.c .nils]])
   (.seq (.seq (.reg [.n 5 .mov [.i 0]])
   (.block 0 (.loop (.seq (.reg [.n 6 (.bin .lss) [.t 5, .i 10]])
   (.seq (.cond (.t 6) .skip (.exit 0))
   (.seq (.block 1 (.seq (.reg [.n 7 .mov [.t 5], .n 4 .mov [.t 7]])
   (.seq (.reg [.n 8 .mov [.t 0], .n 9 .mov [.t 4], .n 10 (.bin .shr) [.t 8, .t 9], .n 11 (.bin .rem) [.t 10, .i 2], .n 12 (.bin .eql) [.t 11, .i 1]])
   (.cond (.t 12) (.reg [.n 13 .mov [.t 3], .n 14 .mov [.t 4], .n 15 (.mkslice 1 3) [.t 14], .n 16 (.append 1 8 3) [.t 13, .t 15], .n 3 .mov [.t 16]]) .skip))))
   (.reg [.n 17 (.bin .add) [.t 5, .i 1], .n 5 .mov [.t 17]])))))))
   (.seq (.reg [.n 18 .mov [.t 3], .n 2 .mov [.t 18]])
   .ret))))
theorem chk.bin_choice : chkF Tryz.prog 91 = some (19, ir.bin_choice, [.tmp 2]) := by kernel_rfl

/-- paravane/bin.cost -/
abbrev F.bin_cost : Nat := 92
def ir.bin_cost : IC :=
 (.seq (.reg [.n 2 .box [.t 0], .n 4 .mov [.i 0]])
   (.seq (.reg [.n 5 .mov [.t 1], .n 6 (.call 91) [.t 5], .n 7 (.mkfunc (.func 132) 0) [.t 2], .n 8 (.call 115) [.t 6, .t 7], .n 4 .mov [.t 8]])
   .ret))
theorem chk.bin_cost : chkF Tryz.prog 92 = some (9, ir.bin_cost, [.tmp 4]) := by kernel_rfl

/-- (paravane/region.limit).into -/
abbrev F.region_limit_into : Nat := 93
def ir.region_limit_into : IC :=
 (.seq (.reg [.n 4 .mov [.i 0]])
   (.seq (.reg [.n 5 .mov [.t 0], .n 6 (.un .neg) [.t 5], .n 7 .mov [.t 1], .n 8 .mov [.t 0], .n 9 (.minmax false) [.t 7, .t 8], .n 10 (.minmax true) [.t 6, .t 9], .n 4 .mov [.t 10]])
   .ret))
theorem chk.region_limit_into : chkF Tryz.prog 93 = some (11, ir.region_limit_into, [.tmp 4]) := by kernel_rfl

/-- paravane/region.Check -/
abbrev F.region_Check : Nat := 95
def ir.region_Check : IC :=
 (.seq (.reg [.n 1 .box [.t 0], .n 2 .mov [.i 0]])
   (.seq (.reg [.n 6 (.mkfunc (.func 133) 1) [.i 32768], .n 7 (.mkfunc (.func 133) 1) [.i 32768], .n 8 (.mkfunc (.func 133) 1) [.i 65536], .n 9 (.mkfunc (.func 133) 1) [.i 65536], .n 10 (.build [.nilf, .nilf, .nilf, .nilf] [(0, 1), (1, 1), (2, 1), (3, 1)]) [.t 6, .t 7, .t 8, .t 9], .n 3 (.alloc [.nilf, .nilf, .nilf, .nilf]) [], .s (.store 4) [.t 3, .t 10]])
   (.seq (.seq (.reg [.n 11 (.load 8 true) [.t 1], .n 12 (.call 96) [.t 11], .n 13 .mov [.i 0]])
   (.block 0 (.loop (.seq (.reg [.n 14 (.bin .lss) [.t 13, .i 4]])
   (.seq (.cond (.t 14) .skip (.exit 0))
   (.seq (.block 1 (.seq (.reg [.n 15 .mov [.t 13], .n 16 (.idxA 4 2 true) [.t 12, .t 13], .n 5 (.alloc [(.int .i64 0), (.int .i64 0)]) [], .n 4 .mov [.t 15], .s (.store 2) [.t 5, .t 16]])
   (.seq (.draw [0, 1, 3, 0, 15, 31] [.n 17 .mov [.t 4], .n 18 (.iaddrA 4 1) [.t 3, .t 17], .n 19 (.load 1 false) [.t 18], .n 20 (.load 2 true) [.t 5], .n 21 .callv [.t 19, .t 20], .n 22 (.un .not) [.t 21]])
   (.cond (.t 22) (.seq (.reg [.n 2 .mov [.i 11]])
   .ret) .skip))))
   (.reg [.n 23 (.bin .add) [.t 13, .i 1], .n 13 .mov [.t 23]])))))))
   (.seq (.reg [.n 2 .mov [.i 0]])
   .ret))))
theorem chk.region_Check : chkF Tryz.prog 95 = some (24, ir.region_Check, [.tmp 2]) := by kernel_rfl

/-- paravane/region.bounds -/
abbrev F.region_bounds : Nat := 96
def ir.region_bounds : IC :=
 (.seq (.reg [.n 1 .box [.t 0], .n 2 (.alloc [(.int .i64 0), (.int .i64 0), (.int .i64 0), (.int .i64 0), (.int .i64 0), (.int .i64 0), (.int .i64 0), (.int .i64 0)]) []])
   (.seq (.reg [.n 3 (.faddr 0) [.t 1], .n 4 (.load 2 true) [.t 3], .n 5 (.faddr 2) [.t 1], .n 6 (.load 2 true) [.t 5], .n 7 (.faddr 4) [.t 1], .n 8 (.load 2 true) [.t 7], .n 9 (.faddr 6) [.t 1], .n 10 (.load 2 true) [.t 9], .n 11 (.build [(.int .i64 0), (.int .i64 0), (.int .i64 0), (.int .i64 0), (.int .i64 0), (.int .i64 0), (.int .i64 0), (.int .i64 0)] [(0, 2), (2, 2), (4, 2), (6, 2)]) [.t 4, .t 6, .t 8, .t 10], .s (.store 8) [.t 2, .t 11]])
   .ret))
theorem chk.region_bounds : chkF Tryz.prog 96 = some (12, ir.region_bounds, [.cell 2 152]) := by kernel_rfl

/-- (paravane/region.four).rows -/
abbrev F.region_four_rows : Nat := 97
def ir.region_four_rows : IC :=
 (.seq (.reg [.n 1 .box [.t 0], .n 2 .mov [.c .nilf]])
   (.seq (.reg [.n 3 (.mkfunc (.func 134) 0) [.t 1], .n 2 .mov [.t 3]])
   .ret))
theorem chk.region_four_rows : chkF Tryz.prog 97 = some (4, ir.region_four_rows, [.tmp 2]) := by kernel_rfl

/-- paravane/bin.floor -/
abbrev F.bin_floor : Nat := 100
def ir.bin_floor : IC :=
 (.seq (.reg [.n 4 .mov [.i 0]])
   (.seq (.reg [.n 6 .mov [.t 0], .n 7 .mov [.t 1], .n 8 (.bin .quo) [.t 6, .t 7], .n 5 .mov [.t 8]])
   (.seq (.seq (.reg [.n 9 .mov [.t 0], .n 10 .mov [.t 1], .n 11 (.bin .rem) [.t 9, .t 10], .n 12 (.bin .lss) [.t 11, .i 0]])
   (.cond (.t 12) (.reg [.n 13 .mov [.t 5], .n 14 (.bin .sub) [.t 13, .i 1], .n 5 .mov [.t 14]]) .skip))
   (.seq (.reg [.n 15 .mov [.t 5], .n 4 .mov [.t 15]])
   .ret))))
theorem chk.bin_floor : chkF Tryz.prog 100 = some (16, ir.bin_floor, [.tmp 4]) := by kernel_rfl

/-- paravane/bin.pairs -/
abbrev F.bin_pairs : Nat := 103
def ir.bin_pairs : IC :=
 (.seq (.reg [.n 2 .box [.t 0], .n 3 .box [.t 1], .n 4 .mov [.c .nilf]])
   (.seq (.reg [.n 5 (.mkfunc (.func 136) 0) [.t 2, .t 3], .n 4 .mov [.t 5]])
   .ret))
theorem chk.bin_pairs : chkF Tryz.prog 103 = some (6, ir.bin_pairs, [.tmp 4]) := by kernel_rfl

/-- slices.SortFunc[[]paravane/api.Cell,paravane/api.Cell] -/
abbrev F.slices_SortFunc_api_Cell_api_Cell : Nat := 104
def ir.slices_SortFunc_api_Cell_api_Cell : IC :=
 (.seq (.reg [.n 5 .mov [.t 0], .n 6 (.len false) [.t 5], .n 4 .mov [.t 6]])
   (.reg [.n 7 .mov [.t 0], .n 8 .mov [.t 4], .n 9 .mov [.t 4], .n 10 (.conv .u64) [.t 9], .n 11 (.call 138) [.t 10], .n 12 .mov [.t 1], .n 13 (.call 137) [.t 7, .i 0, .t 8, .t 11, .t 12]]))
theorem chk.slices_SortFunc_api_Cell_api_Cell : chkF Tryz.prog 104 = some (14, ir.slices_SortFunc_api_Cell_api_Cell, []) := by kernel_rfl

/-- paravane/bin.ordered -/
abbrev F.bin_ordered : Nat := 105
def ir.bin_ordered : IC :=
 (.seq (.reg [.n 2 .box [.t 0], .n 3 .box [.t 1], .n 4 .mov [.i 0]])
   (.seq (.seq (.reg [.n 5 (.faddr 0) [.t 2], .n 6 (.load 1 false) [.t 5], .n 7 (.faddr 0) [.t 3], .n 8 (.load 1 false) [.t 7], .n 9 (.bin .neq) [.t 6, .t 8]])
   (.cond (.t 9) (.seq (.reg [.n 10 (.faddr 0) [.t 2], .n 11 (.load 1 false) [.t 10], .n 12 (.faddr 0) [.t 3], .n 13 (.load 1 false) [.t 12], .n 14 (.bin .sub) [.t 11, .t 13], .n 4 .mov [.t 14]])
   .ret) .skip))
   (.seq (.reg [.n 15 (.faddr 1) [.t 2], .n 16 (.load 1 false) [.t 15], .n 17 (.faddr 1) [.t 3], .n 18 (.load 1 false) [.t 17], .n 19 (.bin .sub) [.t 16, .t 18], .n 4 .mov [.t 19]])
   .ret)))
theorem chk.bin_ordered : chkF Tryz.prog 105 = some (20, ir.bin_ordered, [.tmp 4]) := by kernel_rfl

/-- paravane/paravanelaw07.bound -/
abbrev F.law07_bound : Nat := 109
def ir.law07_bound : IC :=
 (.seq (.reg [.n 4 (.alloc [(.int .i64 0), (.int .i64 0)]) []])
   (.seq (.reg [.n 5 .mov [.t 0], .n 6 .mov [.t 1], .n 7 (.build [(.int .i64 0), (.int .i64 0)] [(0, 1), (1, 1)]) [.t 5, .t 6], .s (.store 2) [.t 4, .t 7]])
   .ret))
theorem chk.law07_bound : chkF Tryz.prog 109 = some (8, ir.law07_bound, [.cell 4 83]) := by kernel_rfl

/-- paravane/paravanelaw07.spot -/
abbrev F.law07_spot : Nat := 110
def ir.law07_spot : IC :=
 (.seq (.reg [.n 4 (.alloc [(.int .i64 0), (.int .i64 0), (.int .i64 0), (.int .i64 0), (.int .i64 0), (.int .i64 0), (.int .i64 0), (.int .i64 0)]) []])
   (.seq (.reg [.n 5 .mov [.t 0], .n 6 .mov [.t 0], .n 7 (.call 109) [.t 5, .t 6], .n 8 .mov [.t 1], .n 9 .mov [.t 1], .n 10 (.call 109) [.t 8, .t 9], .n 11 .mov [.t 0], .n 12 .mov [.t 1], .n 13 (.bin .add) [.t 11, .t 12], .n 14 .mov [.t 0], .n 15 .mov [.t 1], .n 16 (.bin .add) [.t 14, .t 15], .n 17 (.call 109) [.t 13, .t 16], .n 18 .mov [.t 0], .n 19 .mov [.t 1], .n 20 (.bin .sub) [.t 18, .t 19], .n 21 .mov [.t 0], .n 22 .mov [.t 1], .n 23 (.bin .sub) [.t 21, .t 22], .n 24 (.call 109) [.t 20, .t 23], .n 25 (.build [(.int .i64 0), (.int .i64 0), (.int .i64 0), (.int .i64 0), (.int .i64 0), (.int .i64 0), (.int .i64 0), (.int .i64 0)] [(0, 2), (2, 2), (4, 2), (6, 2)]) [.t 7, .t 10, .t 17, .t 24], .s (.store 8) [.t 4, .t 25]])
   .ret))
theorem chk.law07_spot : chkF Tryz.prog 110 = some (26, ir.law07_spot, [.cell 4 85]) := by kernel_rfl

/-- paravane/bin.Map$1 -/
abbrev F.bin_Map_1 : Nat := 111
def ir.bin_Map_1 : IC :=
 (.seq (.reg [.n 2 .mov [.c (.bool false)]])
   (.seq (.reg [.n 3 .mov [.t 0], .n 4 (.bin .lss) [.t 3, .i 0], .n 2 .mov [.t 4]])
   .ret))
theorem chk.bin_Map_1 : chkF Tryz.prog 111 = some (5, ir.bin_Map_1, [.tmp 2]) := by kernel_rfl

/-- paravane/bin.needed$1 -/
abbrev F.bin_needed_1 : Nat := 113
def ir.bin_needed_1 : IC :=
 (.seq (.reg [.n 2 .mov [.c (.bool false)]])
   (.seq (.reg [.n 3 .mov [.t 0], .n 4 (.call 44) [.t 3, .i 0, .i 100], .n 5 (.un .not) [.t 4], .n 2 .mov [.t 5]])
   .ret))
theorem chk.bin_needed_1 : chkF Tryz.prog 113 = some (6, ir.bin_needed_1, [.tmp 2]) := by kernel_rfl

/-- paravane/bin.CheckInfill$1 -/
abbrev F.bin_CheckInfill_1 : Nat := 114
def ir.bin_CheckInfill_1 : IC :=
 (.seq (.reg [.n 2 .mov [.c (.bool false)]])
   (.seq (.reg [.n 3 .mov [.t 0], .n 4 (.call 44) [.t 3, .i 0, .i 100], .n 5 (.un .not) [.t 4], .n 2 .mov [.t 5]])
   .ret))
theorem chk.bin_CheckInfill_1 : chkF Tryz.prog 114 = some (6, ir.bin_CheckInfill_1, [.tmp 2]) := by kernel_rfl

/-- paravane/bin.sum[int] -/
abbrev F.bin_sum_int : Nat := 115
def ir.bin_sum_int : IC :=
 (.seq (.reg [.n 4 .mov [.i 0]])
   (.seq (.reg [.n 5 .mov [.i 0]])
   (.seq (.seq (.reg [.n 8 .mov [.t 0], .n 9 (.len false) [.t 8], .n 10 .mov [.i 0]])
   (.block 0 (.loop (.seq (.reg [.n 11 (.bin .lss) [.t 10, .t 9]])
   (.seq (.cond (.t 11) .skip (.exit 0))
   (.seq (.block 1 (.seq (.reg [.n 12 (.iaddrS 1) [.t 8, .t 10], .n 13 (.load 1 false) [.t 12], .n 7 .mov [.t 13]])
   (.reg [.n 14 .mov [.t 5], .n 15 .mov [.t 1], .n 16 .mov [.t 7], .n 17 .callv [.t 15, .t 16], .n 18 (.bin .add) [.t 14, .t 17], .n 5 .mov [.t 18]])))
   (.reg [.n 19 (.bin .add) [.t 10, .i 1], .n 10 .mov [.t 19]])))))))
   (.seq (.reg [.n 20 .mov [.t 5], .n 4 .mov [.t 20]])
   .ret))))
theorem chk.bin_sum_int : chkF Tryz.prog 115 = some (21, ir.bin_sum_int, [.tmp 4]) := by kernel_rfl

/-- paravane/bin.rests -/
abbrev F.bin_rests : Nat := 116
def ir.bin_rests : IC :=
 (.seq (.reg [.n 2 .box [.t 0], .n 4 .mov [.c .nils]])
   (.seq (.reg [.n 10 (.faddr 0) [.t 2], .n 11 (.load 1 false) [.t 10], .n 12 (.call 142) [.t 11], .n 5 .mov [.t 12]])
   (.seq (.seq (.reg [.n 13 .mov [.t 1], .n 14 (.call 91) [.t 13], .n 15 (.len false) [.t 14], .n 16 .mov [.i 0]])
   (.block 0 (.loop (.seq (.reg [.n 17 (.bin .lss) [.t 16, .t 15]])
   (.seq (.cond (.t 17) .skip (.exit 0))
   (.seq (.block 1 (.seq (.reg [.n 18 (.iaddrS 1) [.t 14, .t 16], .n 19 (.load 1 false) [.t 18], .n 7 .mov [.t 19]])
   (.seq (.reg [.n 20 (.faddr 1) [.t 2], .n 21 (.load 1 false) [.t 20], .n 22 .mov [.t 7], .n 23 (.iaddrS 2) [.t 21, .t 22], .n 24 (.faddr 1) [.t 23], .n 25 (.load 1 false) [.t 24], .n 26 (.len false) [.t 25], .n 27 .mov [.i 0]])
   (.block 2 (.loop (.seq (.reg [.n 28 (.bin .lss) [.t 27, .t 26]])
   (.seq (.cond (.t 28) .skip (.exit 2))
   (.seq (.block 3 (.seq (.reg [.n 29 .mov [.t 27], .n 30 (.iaddrS 1) [.t 25, .t 27], .n 31 (.load 1 false) [.t 30], .n 8 .mov [.t 29], .n 9 .mov [.t 31]])
   (.reg [.n 32 .mov [.t 5], .n 33 .mov [.t 8], .n 34 .mov [.t 5], .n 35 .mov [.t 8], .n 36 (.iaddrS 1) [.t 34, .t 35], .n 37 (.load 1 false) [.t 36], .n 38 .mov [.t 9], .n 39 (.bin .sub) [.t 37, .t 38], .n 40 (.minmax true) [.i 0, .t 39], .n 41 (.iaddrS 1) [.t 32, .t 33], .s (.store 1) [.t 41, .t 40]])))
   (.reg [.n 42 (.bin .add) [.t 27, .i 1], .n 27 .mov [.t 42]])))))))))
   (.reg [.n 43 (.bin .add) [.t 16, .i 1], .n 16 .mov [.t 43]])))))))
   (.seq (.reg [.n 44 .mov [.t 5], .n 4 .mov [.t 44]])
   .ret))))
theorem chk.bin_rests : chkF Tryz.prog 116 = some (45, ir.bin_rests, [.tmp 4]) := by kernel_rfl

/-- paravane/bin.covers$1 -/
abbrev F.bin_covers_1 : Nat := 117
def ir.bin_covers_1 : IC :=
 (.seq (.reg [.n 2 .mov [.i 0]])
   (.seq (.reg [.n 3 .mov [.t 0], .n 2 .mov [.t 3]])
   .ret))
theorem chk.bin_covers_1 : chkF Tryz.prog 117 = some (4, ir.bin_covers_1, [.tmp 2]) := by kernel_rfl

/-- slices.IndexFunc[[]int,int] -/
abbrev F.slices_IndexFunc_int_int : Nat := 123
def ir.slices_IndexFunc_int_int : IC :=
 (.seq (.reg [.n 4 .mov [.i 0]])
   (.seq (.seq (.reg [.n 6 .mov [.t 0], .n 7 (.len false) [.t 6], .n 8 .mov [.i 0]])
   (.block 0 (.loop (.seq (.reg [.n 9 (.bin .lss) [.t 8, .t 7]])
   (.seq (.cond (.t 9) .skip (.exit 0))
   (.seq (.block 1 (.seq (.reg [.n 10 .mov [.t 8], .n 5 .mov [.t 10]])
   (.seq (.reg [.n 11 .mov [.t 1], .n 12 .mov [.t 0], .n 13 .mov [.t 5], .n 14 (.iaddrS 1) [.t 12, .t 13], .n 15 (.load 1 false) [.t 14], .n 16 .callv [.t 11, .t 15]])
   (.cond (.t 16) (.seq (.reg [.n 17 .mov [.t 5], .n 4 .mov [.t 17]])
   .ret) .skip))))
   (.reg [.n 18 (.bin .add) [.t 8, .i 1], .n 8 .mov [.t 18]])))))))
   (.seq (.reg [.n 4 .mov [.i (-1)]])
   .ret)))
theorem chk.slices_IndexFunc_int_int : chkF Tryz.prog 123 = some (19, ir.slices_IndexFunc_int_int, [.tmp 4]) := by kernel_rfl

/-- paravane/bin.places -/
abbrev F.bin_places : Nat := 124
def ir.bin_places : IC :=
 (.seq (.reg [.n 1 .box [.t 0], .n 2 .mov [.c .nils]])
   (.seq (.reg [.n 3 .mov [.c .nils]])
   (.seq (.seq (.reg [.n 6 (.faddr 0) [.t 1], .n 7 (.faddr 0) [.t 6], .n 8 (.load 1 false) [.t 7], .n 4 .mov [.t 8]])
   (.block 0 (.loop (.seq (.seq (.reg [.n 9 .mov [.t 4], .n 10 (.faddr 0) [.t 1], .n 11 (.faddr 1) [.t 10], .n 12 (.load 1 false) [.t 11], .n 13 (.bin .leq) [.t 9, .t 12]])
   (.cond (.t 13) .skip (.exit 0)))
   (.seq (.block 1 (.seq (.reg [.n 16 (.faddr 2) [.t 1], .n 17 (.faddr 0) [.t 16], .n 18 (.load 1 false) [.t 17], .n 19 (.faddr 4) [.t 1], .n 20 (.faddr 0) [.t 19], .n 21 (.load 1 false) [.t 20], .n 22 .mov [.t 4], .n 23 (.bin .sub) [.t 21, .t 22], .n 24 .mov [.t 4], .n 25 (.faddr 6) [.t 1], .n 26 (.faddr 1) [.t 25], .n 27 (.load 1 false) [.t 26], .n 28 (.bin .sub) [.t 24, .t 27], .n 29 (.minmax true) [.t 18, .t 23, .t 28], .n 5 .mov [.t 29]])
   (.block 2 (.loop (.seq (.seq (.reg [.n 30 .mov [.t 5], .n 31 (.faddr 2) [.t 1], .n 32 (.faddr 1) [.t 31], .n 33 (.load 1 false) [.t 32], .n 34 (.faddr 4) [.t 1], .n 35 (.faddr 1) [.t 34], .n 36 (.load 1 false) [.t 35], .n 37 .mov [.t 4], .n 38 (.bin .sub) [.t 36, .t 37], .n 39 .mov [.t 4], .n 40 (.faddr 6) [.t 1], .n 41 (.faddr 0) [.t 40], .n 42 (.load 1 false) [.t 41], .n 43 (.bin .sub) [.t 39, .t 42], .n 44 (.minmax false) [.t 33, .t 38, .t 43], .n 45 (.bin .leq) [.t 30, .t 44]])
   (.cond (.t 45) .skip (.exit 2)))
   (.seq (.block 3 (.reg [.n 48 .mov [.t 3], .n 49 .mov [.t 4], .n 50 .mov [.t 5], .n 51 (.build [(.int .i64 0), (.int .i64 0)] [(0, 1), (1, 1)]) [.t 49, .t 50], .n 52 (.mkslice 2 23) [.t 51], .n 53 (.append 2 16 23) [.t 48, .t 52], .n 3 .mov [.t 53]]))
   (.reg [.n 46 .mov [.t 5], .n 47 (.bin .add) [.t 46, .i 1], .n 5 .mov [.t 47]])))))))
   (.reg [.n 14 .mov [.t 4], .n 15 (.bin .add) [.t 14, .i 1], .n 4 .mov [.t 15]]))))))
   (.seq (.reg [.n 54 .mov [.t 3], .n 2 .mov [.t 54]])
   .ret))))
theorem chk.bin_places : chkF Tryz.prog 124 = some (55, ir.bin_places, [.tmp 2]) := by kernel_rfl

/-- paravane/region.done -/
abbrev F.region_done : Nat := 125
def ir.region_done : IC :=
 (.seq (.reg [.n 2 .box [.t 0], .n 4 (.alloc [(.int .i64 0), (.int .i64 0), (.int .i64 0), (.int .i64 0), (.int .i64 0), (.int .i64 0), (.int .i64 0), (.int .i64 0)]) [], .n 5 .mov [.i 0]])
   (.seq (.seq (.reg [.n 6 .mov [.t 1], .n 7 (.bin .neq) [.t 6, .i 0]])
   (.cond (.t 7) (.seq (.reg [.n 8 (.build [(.int .i64 0), (.int .i64 0), (.int .i64 0), (.int .i64 0), (.int .i64 0), (.int .i64 0), (.int .i64 0), (.int .i64 0)] []) [], .n 9 .mov [.t 1], .s (.store 8) [.t 4, .t 8], .n 5 .mov [.t 9]])
   .ret) .skip))
   (.seq (.reg [.n 10 (.load 8 true) [.t 2], .n 11 (.call 89) [.t 10], .s (.store 8) [.t 4, .t 11], .n 5 .mov [.i 0]])
   .ret)))
theorem chk.region_done : chkF Tryz.prog 125 = some (12, ir.region_done, [.cell 4 85, .tmp 5]) := by kernel_rfl

/-- (paravane/region.four).tight -/
abbrev F.region_four_tight : Nat := 126
def ir.region_four_tight : IC :=
 (.seq (.reg [.n 1 .box [.t 0], .n 2 (.alloc [(.int .i64 0), (.int .i64 0), (.int .i64 0), (.int .i64 0), (.int .i64 0), (.int .i64 0), (.int .i64 0), (.int .i64 0)]) [], .n 3 .mov [.i 0]])
   (.seq (.reg [.n 7 (.load 8 true) [.t 1], .n 8 (.call 147) [.t 7], .n 9 (.mkslice 1 155) [.t 8], .n 10 (.call 87) [.t 9], .n 6 .mov [.t 10], .n 11 (.extract 0) [.t 6], .n 12 (.extract 1) [.t 6], .n 4 (.alloc [(.int .i64 0), (.int .i64 0), (.int .i64 0), (.int .i64 0), (.int .i64 0), (.int .i64 0), (.int .i64 0), (.int .i64 0)]) [], .s (.store 8) [.t 4, .t 11], .n 5 .mov [.t 12]])
   (.seq (.seq (.reg [.n 13 .mov [.t 5], .n 14 (.un .not) [.t 13]])
   (.cond (.t 14) (.seq (.reg [.n 15 (.build [(.int .i64 0), (.int .i64 0), (.int .i64 0), (.int .i64 0), (.int .i64 0), (.int .i64 0), (.int .i64 0), (.int .i64 0)] []) [], .s (.store 8) [.t 2, .t 15], .n 3 .mov [.i 4]])
   .ret) .skip))
   (.seq (.reg [.n 16 (.load 8 true) [.t 4], .s (.store 8) [.t 2, .t 16], .n 3 .mov [.i 0]])
   .ret))))
theorem chk.region_four_tight : chkF Tryz.prog 126 = some (17, ir.region_four_tight, [.cell 2 152, .tmp 3]) := by kernel_rfl

/-- slices.IndexFunc[[]paravane/api.Point,paravane/api.Point] -/
abbrev F.slices_IndexFunc_api_Point_api_Point : Nat := 127
def ir.slices_IndexFunc_api_Point_api_Point : IC :=
 (.seq (.reg [.n 4 .mov [.i 0]])
   (.seq (.seq (.reg [.n 6 .mov [.t 0], .n 7 (.len false) [.t 6], .n 8 .mov [.i 0]])
   (.block 0 (.loop (.seq (.reg [.n 9 (.bin .lss) [.t 8, .t 7]])
   (.seq (.cond (.t 9) .skip (.exit 0))
   (.seq (.block 1 (.seq (.reg [.n 10 .mov [.t 8], .n 5 .mov [.t 10]])
   (.seq (.reg [.n 11 .mov [.t 1], .n 12 .mov [.t 0], .n 13 .mov [.t 5], .n 14 (.iaddrS 2) [.t 12, .t 13], .n 15 (.load 2 true) [.t 14], .n 16 .callv [.t 11, .t 15]])
   (.cond (.t 16) (.seq (.reg [.n 17 .mov [.t 5], .n 4 .mov [.t 17]])
   .ret) .skip))))
   (.reg [.n 18 (.bin .add) [.t 8, .i 1], .n 8 .mov [.t 18]])))))))
   (.seq (.reg [.n 4 .mov [.i (-1)]])
   .ret)))
theorem chk.slices_IndexFunc_api_Point_api_Point : chkF Tryz.prog 127 = some (19, ir.slices_IndexFunc_api_Point_api_Point, [.tmp 4]) := by kernel_rfl

/-- paravane/region.of -/
abbrev F.region_of : Nat := 128
def ir.region_of : IC :=
 (.seq (.reg [.n 1 .box [.t 0], .n 2 (.alloc [(.int .i64 0), (.int .i64 0), (.int .i64 0), (.int .i64 0), (.int .i64 0), (.int .i64 0), (.int .i64 0), (.int .i64 0)]) []])
   (.seq (.reg [.n 3 (.alloc [(.int .i64 0), (.int .i64 0), (.int .i64 0), (.int .i64 0), (.int .i64 0), (.int .i64 0), (.int .i64 0), (.int .i64 0)]) []])
   (.seq (.seq (.reg [.n 6 (.faddr 0) [.t 1], .n 7 (.load 1 false) [.t 6], .n 8 (.faddr 1) [.t 1], .n 9 (.load 1 false) [.t 8], .n 10 (.faddr 0) [.t 1], .n 11 (.load 1 false) [.t 10], .n 12 (.faddr 1) [.t 1], .n 13 (.load 1 false) [.t 12], .n 14 (.bin .add) [.t 11, .t 13], .n 15 (.faddr 0) [.t 1], .n 16 (.load 1 false) [.t 15], .n 17 (.faddr 1) [.t 1], .n 18 (.load 1 false) [.t 17], .n 19 (.bin .sub) [.t 16, .t 18], .n 20 (.build [(.int .i64 0), (.int .i64 0), (.int .i64 0), (.int .i64 0)] [(0, 1), (1, 1), (2, 1), (3, 1)]) [.t 7, .t 9, .t 14, .t 19], .n 21 .mov [.i 0]])
   (.block 0 (.loop (.seq (.reg [.n 22 (.bin .lss) [.t 21, .i 4]])
   (.seq (.cond (.t 22) .skip (.exit 0))
   (.seq (.block 1 (.seq (.reg [.n 23 .mov [.t 21], .n 24 (.idxA 4 1 false) [.t 20, .t 21], .n 4 .mov [.t 23], .n 5 .mov [.t 24]])
   (.reg [.n 25 .mov [.t 4], .n 26 .mov [.t 5], .n 27 .mov [.t 5], .n 28 (.build [(.int .i64 0), (.int .i64 0)] [(0, 1), (1, 1)]) [.t 26, .t 27], .n 29 (.iaddrA 4 2) [.t 3, .t 25], .s (.store 2) [.t 29, .t 28]])))
   (.reg [.n 30 (.bin .add) [.t 21, .i 1], .n 21 .mov [.t 30]])))))))
   (.seq (.reg [.n 31 (.load 8 true) [.t 3], .s (.store 8) [.t 2, .t 31]])
   .ret))))
theorem chk.region_of : chkF Tryz.prog 128 = some (32, ir.region_of, [.cell 2 152]) := by kernel_rfl

/-- (paravane/region.four).combined -/
abbrev F.region_four_combined : Nat := 129
def ir.region_four_combined : IC :=
 (.seq (.reg [.n 3 .box [.t 0], .n 4 .box [.t 1], .n 6 (.alloc [(.int .i64 0), (.int .i64 0), (.int .i64 0), (.int .i64 0), (.int .i64 0), (.int .i64 0), (.int .i64 0), (.int .i64 0)]) []])
   (.seq (.seq (.reg [.n 8 .mov [.i 0]])
   (.block 0 (.loop (.seq (.reg [.n 9 (.bin .lss) [.t 8, .i 4]])
   (.seq (.cond (.t 9) .skip (.exit 0))
   (.seq (.block 1 (.seq (.reg [.n 10 .mov [.t 8], .n 7 .mov [.t 10]])
   (.draw [0, 0, 0, 4, 12, 0, 32, 96, 254, 511, 1023] [.n 11 .mov [.t 7], .n 12 .mov [.t 2], .n 13 .mov [.t 7], .n 14 (.iaddrA 4 2) [.t 3, .t 13], .n 15 (.load 2 true) [.t 14], .n 16 .mov [.t 7], .n 17 (.iaddrA 4 2) [.t 4, .t 16], .n 18 (.load 2 true) [.t 17], .n 19 .callv [.t 12, .t 15, .t 18], .n 20 (.iaddrA 4 2) [.t 3, .t 11], .s (.store 2) [.t 20, .t 19]])))
   (.reg [.n 21 (.bin .add) [.t 8, .i 1], .n 8 .mov [.t 21]])))))))
   (.seq (.reg [.n 22 (.load 8 true) [.t 3], .s (.store 8) [.t 6, .t 22]])
   .ret)))
theorem chk.region_four_combined : chkF Tryz.prog 129 = some (23, ir.region_four_combined, [.cell 6 152]) := by kernel_rfl

/-- paravane/region.span -/
abbrev F.region_span : Nat := 130
def ir.region_span : IC :=
 (.seq (.reg [.n 2 .box [.t 0], .n 3 .box [.t 1], .n 4 (.alloc [(.int .i64 0), (.int .i64 0)]) []])
   (.seq (.reg [.n 5 (.faddr 0) [.t 2], .n 6 (.load 1 false) [.t 5], .n 7 (.faddr 0) [.t 3], .n 8 (.load 1 false) [.t 7], .n 9 (.minmax false) [.t 6, .t 8], .n 10 (.faddr 1) [.t 2], .n 11 (.load 1 false) [.t 10], .n 12 (.faddr 1) [.t 3], .n 13 (.load 1 false) [.t 12], .n 14 (.minmax true) [.t 11, .t 13], .n 15 (.build [(.int .i64 0), (.int .i64 0)] [(0, 1), (1, 1)]) [.t 9, .t 14], .s (.store 2) [.t 4, .t 15]])
   .ret))
theorem chk.region_span : chkF Tryz.prog 130 = some (16, ir.region_span, [.cell 4 83]) := by kernel_rfl

/-- slices.Compare[[]int,int] -/
abbrev F.slices_Compare_int_int : Nat := 131
def ir.slices_Compare_int_int : IC :=
 (.seq (.reg [.n 4 .mov [.i 0]])
   (.seq (.seq (.reg [.n 9 .mov [.t 0], .n 10 (.len false) [.t 9], .n 11 .mov [.i 0]])
   (.block 0 (.loop (.seq (.reg [.n 12 (.bin .lss) [.t 11, .t 10]])
   (.seq (.cond (.t 12) .skip (.exit 0))
   (.seq (.block 1 (.seq (.reg [.n 13 .mov [.t 11], .n 14 (.iaddrS 1) [.t 9, .t 11], .n 15 (.load 1 false) [.t 14], .n 5 .mov [.t 13], .n 6 .mov [.t 15]])
   (.seq (.seq (.reg [.n 16 .mov [.t 5], .n 17 .mov [.t 1], .n 18 (.len false) [.t 17], .n 19 (.bin .geq) [.t 16, .t 18]])
   (.cond (.t 19) (.seq (.reg [.n 4 .mov [.i 1]])
   .ret) .skip))
   (.seq (.reg [.n 20 .mov [.t 1], .n 21 .mov [.t 5], .n 22 (.iaddrS 1) [.t 20, .t 21], .n 23 (.load 1 false) [.t 22], .n 7 .mov [.t 23]])
   (.seq (.reg [.n 24 .mov [.t 6], .n 25 .mov [.t 7], .n 26 (.call 148) [.t 24, .t 25], .n 8 .mov [.t 26]])
   (.seq (.reg [.n 27 .mov [.t 8], .n 28 (.bin .neq) [.t 27, .i 0]])
   (.cond (.t 28) (.seq (.reg [.n 29 .mov [.t 8], .n 4 .mov [.t 29]])
   .ret) .skip)))))))
   (.reg [.n 30 (.bin .add) [.t 11, .i 1], .n 11 .mov [.t 30]])))))))
   (.seq (.seq (.reg [.n 31 .mov [.t 0], .n 32 (.len false) [.t 31], .n 33 .mov [.t 1], .n 34 (.len false) [.t 33], .n 35 (.bin .lss) [.t 32, .t 34]])
   (.cond (.t 35) (.seq (.reg [.n 4 .mov [.i (-1)]])
   .ret) .skip))
   (.seq (.reg [.n 4 .mov [.i 0]])
   .ret))))
theorem chk.slices_Compare_int_int : chkF Tryz.prog 131 = some (36, ir.slices_Compare_int_int, [.tmp 4]) := by kernel_rfl

/-- paravane/bin.cost$1 -/
abbrev F.bin_cost_1 : Nat := 132
def ir.bin_cost_1 : IC :=
 (.seq (.reg [.n 3 .mov [.i 0]])
   (.seq (.reg [.n 4 (.faddr 1) [.t 1], .n 5 (.load 1 false) [.t 4], .n 6 .mov [.t 0], .n 7 (.iaddrS 2) [.t 5, .t 6], .n 8 (.faddr 0) [.t 7], .n 9 (.load 1 false) [.t 8], .n 3 .mov [.t 9]])
   .ret))
theorem chk.bin_cost_1 : chkF Tryz.prog 132 = some (10, ir.bin_cost_1, [.tmp 3]) := by kernel_rfl

/-- (paravane/region.limit).fits -/
abbrev F.region_limit_fits : Nat := 133
def ir.region_limit_fits : IC :=
 (.seq (.reg [.n 3 .box [.t 1], .n 4 .mov [.c (.bool false)]])
   (.seq (.reg [.n 5 (.faddr 0) [.t 3], .n 6 (.load 1 false) [.t 5], .n 7 .mov [.t 0], .n 8 (.un .neg) [.t 7], .n 9 (.bin .geq) [.t 6, .t 8], .n 10 .mov [.t 9], .w 11 (.faddr 0) [.t 3] 10 true, .w 12 (.load 1 false) [.t 11] 10 true, .w 13 (.faddr 1) [.t 3] 10 true, .w 14 (.load 1 false) [.t 13] 10 true, .w 15 (.bin .leq) [.t 12, .t 14] 10 true, .n 16 .pick [.t 10, .t 15, .c (.bool false)], .n 17 .mov [.t 16], .w 18 (.faddr 1) [.t 3] 17 true, .w 19 (.load 1 false) [.t 18] 17 true, .w 20 .mov [.t 0] 17 true, .w 21 (.bin .leq) [.t 19, .t 20] 17 true, .n 22 .pick [.t 17, .t 21, .c (.bool false)], .n 4 .mov [.t 22]])
   .ret))
theorem chk.region_limit_fits : chkF Tryz.prog 133 = some (23, ir.region_limit_fits, [.tmp 4]) := by kernel_rfl

/-- (paravane/region.four).rows$1 -/
abbrev F.region_four_rows_1 : Nat := 134
def ir.region_four_rows_1 : IC :=
 (.seq (.reg [.n 5 (.iaddrA 4 2) [.t 1, .i 0], .n 6 (.faddr 0) [.t 5], .n 7 (.load 1 false) [.t 6], .n 3 .mov [.t 7]])
   (.block 0 (.loop (.seq (.seq (.reg [.n 8 .mov [.t 3], .n 9 (.iaddrA 4 2) [.t 1, .i 0], .n 10 (.faddr 1) [.t 9], .n 11 (.load 1 false) [.t 10], .n 12 (.bin .leq) [.t 8, .t 11]])
   (.cond (.t 12) .skip (.exit 0)))
   (.seq (.block 1 (.seq (.reg [.n 15 .mov [.t 3], .n 16 (.iaddrA 4 2) [.t 1, .i 1], .n 17 (.faddr 0) [.t 16], .n 18 (.load 1 false) [.t 17], .n 19 (.iaddrA 4 2) [.t 1, .i 2], .n 20 (.faddr 0) [.t 19], .n 21 (.load 1 false) [.t 20], .n 22 .mov [.t 3], .n 23 (.bin .sub) [.t 21, .t 22], .n 24 .mov [.t 3], .n 25 (.iaddrA 4 2) [.t 1, .i 3], .n 26 (.faddr 1) [.t 25], .n 27 (.load 1 false) [.t 26], .n 28 (.bin .sub) [.t 24, .t 27], .n 29 (.minmax true) [.t 18, .t 23, .t 28], .n 30 (.iaddrA 4 2) [.t 1, .i 1], .n 31 (.faddr 1) [.t 30], .n 32 (.load 1 false) [.t 31], .n 33 (.iaddrA 4 2) [.t 1, .i 2], .n 34 (.faddr 1) [.t 33], .n 35 (.load 1 false) [.t 34], .n 36 .mov [.t 3], .n 37 (.bin .sub) [.t 35, .t 36], .n 38 .mov [.t 3], .n 39 (.iaddrA 4 2) [.t 1, .i 3], .n 40 (.faddr 0) [.t 39], .n 41 (.load 1 false) [.t 40], .n 42 (.bin .sub) [.t 38, .t 41], .n 43 (.minmax false) [.t 32, .t 37, .t 42], .n 44 (.build [(.int .i64 0), (.int .i64 0), (.int .i64 0)] [(0, 1), (1, 1), (2, 1)]) [.t 15, .t 29, .t 43], .n 4 (.alloc [(.int .i64 0), (.int .i64 0), (.int .i64 0)]) [], .s (.store 3) [.t 4, .t 44]])
   (.seq (.reg [.n 45 (.faddr 1) [.t 4], .n 46 (.load 1 false) [.t 45], .n 47 (.faddr 2) [.t 4], .n 48 (.load 1 false) [.t 47], .n 49 (.bin .leq) [.t 46, .t 48], .n 50 .mov [.t 49], .w 51 .mov [.t 0] 50 true, .w 52 (.load 3 true) [.t 4] 50 true, .w 53 .callv [.t 51, .t 52] 50 true, .w 54 (.un .not) [.t 53] 50 true, .n 55 .pick [.t 50, .t 54, .c (.bool false)]])
   (.cond (.t 55) .ret .skip))))
   (.reg [.n 13 .mov [.t 3], .n 14 (.bin .add) [.t 13, .i 1], .n 3 .mov [.t 14]]))))))
theorem chk.region_four_rows_1 : chkF Tryz.prog 134 = some (56, ir.region_four_rows_1, []) := by kernel_rfl

/-- paravane/bin.pairs$1 -/
abbrev F.bin_pairs_1 : Nat := 136
def ir.bin_pairs_1 : IC :=
 (.seq (.reg [.n 8 (.load 1 false) [.t 1], .n 9 (.len false) [.t 8], .n 10 .mov [.i 0]])
   (.block 0 (.loop (.seq (.reg [.n 11 (.bin .lss) [.t 10, .t 9]])
   (.seq (.cond (.t 11) .skip (.exit 0))
   (.seq (.block 1 (.seq (.reg [.n 12 (.iaddrS 2) [.t 8, .t 10], .n 13 (.load 2 true) [.t 12], .n 5 (.alloc [(.int .i64 0), (.int .i64 0)]) [], .s (.store 2) [.t 5, .t 13]])
   (.seq (.reg [.n 14 (.load 1 false) [.t 2], .n 15 (.len false) [.t 14], .n 16 .mov [.i 0]])
   (.block 2 (.loop (.seq (.reg [.n 17 (.bin .lss) [.t 16, .t 15]])
   (.seq (.cond (.t 17) .skip (.exit 2))
   (.seq (.block 3 (.seq (.reg [.n 18 (.iaddrS 2) [.t 14, .t 16], .n 19 (.load 2 true) [.t 18], .n 7 (.alloc [(.int .i64 0), (.int .i64 0)]) [], .s (.store 2) [.t 7, .t 19]])
   (.seq (.reg [.n 20 .mov [.t 0], .n 21 (.load 2 true) [.t 5], .n 22 (.load 2 true) [.t 7], .n 23 .callv [.t 20, .t 21, .t 22], .n 24 (.un .not) [.t 23]])
   (.cond (.t 24) .ret .skip))))
   (.reg [.n 25 (.bin .add) [.t 16, .i 1], .n 16 .mov [.t 25]])))))))))
   (.reg [.n 26 (.bin .add) [.t 10, .i 1], .n 10 .mov [.t 26]])))))))
theorem chk.bin_pairs_1 : chkF Tryz.prog 136 = some (27, ir.bin_pairs_1, []) := by kernel_rfl

/-- slices.Clone[[]int,int] -/
abbrev F.slices_Clone_int_int : Nat := 142
def ir.slices_Clone_int_int : IC :=
 (.seq (.reg [.n 2 .mov [.c .nils]])
   (.seq (.seq (.reg [.n 3 .mov [.t 0], .n 4 (.raw 8 0 48) [.t 3, .c .nils]])
   (.cond (.t 4) (.seq (.reg [.n 2 .mov [.c .nils]])
   .ret) .skip))
   (.seq (.reg [.n 5 (.mkslice 1 3) [], .n 6 .mov [.t 0], .n 7 (.append 1 8 3) [.t 5, .t 6], .n 2 .mov [.t 7]])
   .ret)))
theorem chk.slices_Clone_int_int : chkF Tryz.prog 142 = some (8, ir.slices_Clone_int_int, [.tmp 2]) := by kernel_rfl

/-- (paravane/region.four).ends -/
abbrev F.region_four_ends : Nat := 147
def ir.region_four_ends : IC :=
 (.seq (.reg [.n 1 .box [.t 0], .n 2 .mov [.c .nilf]])
   (.seq (.reg [.n 3 (.mkfunc (.func 160) 0) [.t 1], .n 2 .mov [.t 3]])
   .ret))
theorem chk.region_four_ends : chkF Tryz.prog 147 = some (4, ir.region_four_ends, [.tmp 2]) := by kernel_rfl

/-- cmp.Compare[int] -/
abbrev F.cmp_Compare_int : Nat := 148
def ir.cmp_Compare_int : IC :=
 (.seq (.reg [.n 4 .mov [.i 0]])
   (.seq (.reg [.n 7 .mov [.t 0], .n 8 (.call 161) [.t 7], .n 5 .mov [.t 8]])
   (.seq (.reg [.n 9 .mov [.t 1], .n 10 (.call 161) [.t 9], .n 6 .mov [.t 10]])
   (.seq (.seq (.reg [.n 11 .mov [.t 5]])
   (.cond (.t 11) (.seq (.seq (.reg [.n 12 .mov [.t 6]])
   (.cond (.t 12) (.seq (.reg [.n 4 .mov [.i 0]])
   .ret) .skip))
   (.seq (.reg [.n 4 .mov [.i (-1)]])
   .ret)) .skip))
   (.seq (.seq (.reg [.n 13 .mov [.t 6]])
   (.cond (.t 13) (.seq (.reg [.n 4 .mov [.i 1]])
   .ret) .skip))
   (.seq (.seq (.reg [.n 14 .mov [.t 0], .n 15 .mov [.t 1], .n 16 (.bin .lss) [.t 14, .t 15]])
   (.cond (.t 16) (.seq (.reg [.n 4 .mov [.i (-1)]])
   .ret) .skip))
   (.seq (.seq (.reg [.n 17 .mov [.t 0], .n 18 .mov [.t 1], .n 19 (.bin .gtr) [.t 17, .t 18]])
   (.cond (.t 19) (.seq (.reg [.n 4 .mov [.i 1]])
   .ret) .skip))
   (.seq (.reg [.n 4 .mov [.i 0]])
   .ret))))))))
theorem chk.cmp_Compare_int : chkF Tryz.prog 148 = some (20, ir.cmp_Compare_int, [.tmp 4]) := by kernel_rfl

/-- (paravane/region.four).ends$1 -/
abbrev F.region_four_ends_1 : Nat := 160
def ir.region_four_ends_1 : IC :=
 (.seq (.reg [.n 2 .box [.t 0]])
   (.seq (.reg [.n 6 (.load 8 true) [.t 1], .n 7 (.call 97) [.t 6]])
   (.block 0 (.range (.t 7) [8] (.reg [.n 3 (.alloc [(.int .i64 0), (.int .i64 0), (.int .i64 0)]) [], .s (.store 3) [.t 3, .t 8]]) (.block 1 (.seq (.draw [0, 1, 0, 4, 15, 0, 32, 0, 128, 480, 0, 0, 3103, 8191] [.n 9 (.faddr 0) [.t 3], .n 10 (.load 1 false) [.t 9], .n 11 (.faddr 1) [.t 3], .n 12 (.load 1 false) [.t 11], .n 13 (.build [(.int .i64 0), (.int .i64 0)] [(0, 1), (1, 1)]) [.t 10, .t 12], .n 14 (.faddr 0) [.t 3], .n 15 (.load 1 false) [.t 14], .n 16 (.faddr 2) [.t 3], .n 17 (.load 1 false) [.t 16], .n 18 (.build [(.int .i64 0), (.int .i64 0)] [(0, 1), (1, 1)]) [.t 15, .t 17], .n 4 (.alloc [(.int .i64 0), (.int .i64 0)]) [], .n 5 (.alloc [(.int .i64 0), (.int .i64 0)]) [], .s (.store 2) [.t 4, .t 13], .s (.store 2) [.t 5, .t 18]])
   (.seq (.reg [.n 19 (.load 1 false) [.t 2], .n 20 (.load 2 true) [.t 4], .n 21 .callv [.t 19, .t 20], .n 22 (.un .not) [.t 21], .n 23 .mov [.t 22], .w 24 (.load 2 true) [.t 4] 23 false, .w 25 (.load 2 true) [.t 5] 23 false, .w 26 (.eqs true [0, 0]) [.t 24, .t 25] 23 false, .w 27 .mov [.t 26] 23 false, .w 28 (.load 1 false) [.t 2] 27 true, .w 29 (.load 2 true) [.t 5] 27 true, .w 30 .callv [.t 28, .t 29] 27 true, .w 31 (.un .not) [.t 30] 27 true, .w 32 .pick [.t 27, .t 31, .c (.bool false)] 23 false, .n 33 .pick [.t 23, .c (.bool true), .t 32]])
   (.cond (.t 33) .ret .skip))))))))
theorem chk.region_four_ends_1 : chkF Tryz.prog 160 = some (34, ir.region_four_ends_1, []) := by kernel_rfl

/-- cmp.isNaN[int] -/
abbrev F.cmp_isNaN_int : Nat := 161
def ir.cmp_isNaN_int : IC :=
 (.seq (.reg [.n 2 .mov [.c (.bool false)]])
   (.seq (.reg [.n 3 .mov [.t 0], .n 4 .mov [.t 0], .n 5 (.bin .neq) [.t 3, .t 4], .n 2 .mov [.t 5]])
   .ret))
theorem chk.cmp_isNaN_int : chkF Tryz.prog 161 = some (6, ir.cmp_isNaN_int, [.tmp 2]) := by kernel_rfl

end Go.Proofs.YtdejdblopmfjfaaGreatDoor

/-! Contracts for the laws on bins: plain things. -/
set_option linter.unusedVariables false
set_option linter.unusedSimpArgs false
set_option maxRecDepth 20000
set_option maxHeartbeats 1000000
namespace Go.Proofs.YtdejdblopmfjfaaGreatDoor
open Go.Am

abbrev I (n : Int) : V := .int .i64 n

def btw (n lo hi : Int) : Bool := decide (n ≥ lo) && decide (n ≤ hi)

theorem w64 {n : Int} (h1 : -9223372036854775808 ≤ n) (h2 : n < 9223372036854775808) : IntKind.wrap .i64 n = n := by
  have e : ∀ m : Int, m = n % 18446744073709551616 → (if (true && decide (m ≥ 9223372036854775808)) = true then m - 18446744073709551616 else m) = n := by
    intro m hm
    by_cases h : m ≥ 9223372036854775808
    · simp only [h, decide_true, Bool.and_self, if_true]; omega
    · simp only [h, decide_false, Bool.and_false, Bool.false_eq_true, if_false]; omega
  exact e _ rfl

theorem VLe.i {k : IntKind} {a b : Int} (h : a = b) : VLe (.int k a) (.int k b) := h ▸ .refl _

abbrev w (n : Int) : Int := IntKind.wrap .i64 n

@[simp] theorem wr1 : IntKind.i64.wrap 1 = 1 := by decide
@[simp] theorem wr2 : IntKind.i64.wrap 2 = 2 := by decide
@[simp] theorem wr3 : IntKind.i64.wrap 3 = 3 := by decide

theorem btw_iff (n lo hi : Int) : btw n lo hi = true ↔ lo ≤ n ∧ n ≤ hi := by
  simp only [btw, Bool.and_eq_true, decide_eq_true_eq, ge_iff_le]

def eB (b : Int × Int) : V := .agg [I b.1, I b.2]
def sB (l : List (Int × Int)) : V := .slice 0 2 (l.map eB)
theorem getD_map {α : Type} {e : α → V} {l : List α} {k : Nat} (h : k < l.length) : (l.map e).getD (Int.toNat (k : Int)) nothing = e l[k] := by
  simp [h]

/-- The first index at which p holds. -/
def firstI {α : Type} (p : α → Bool) : List α → Nat → Int
  | [], _ => -1
  | x :: l, k => if p x then k else firstI p l (k + 1)

theorem firstI_nn {α : Type} (p : α → Bool) : ∀ (l : List α) (k : Nat), decide (firstI p l k ≥ 0) = l.any p
  | [], k => by simp [firstI]
  | x :: l, k => by
    simp only [firstI, List.any_cons]
    by_cases h : p x = true
    · simp [h]
    · simp only [h, if_false, Bool.false_eq_true]
      rw [firstI_nn p l (k + 1)]
      simp [h]

theorem firstI_drop {α : Type} (p : α → Bool) (l : List α) {k : Nat} (h : k < l.length) : firstI p (l.drop k) k = if p l[k] then (k : Int) else firstI p (l.drop (k + 1)) (k + 1) := by
  rw [List.drop_eq_getElem_cons h]; rfl

theorem ite_max (a b : Int) : (if b > a then b else a) = max a b := by split <;> omega
theorem ite_min (a b : Int) : (if b < a then b else a) = min a b := by split <;> omega

/-- Captured data that stand for themselves. -/
structure Plain (us : List V) : Prop where
  d : ∀ b, toDs b us = some (us, [])
  r : ∀ B R, us.all (refsOk B R 5) = true

theorem refs_plain {us : List V} (h : Plain us) {fn : Fn} {B : Nat → Bool} {R : Nat → Option (Nat × Nat × Nat)} : refsOk B R 6 (.func fn [] us) = true := by
  show (([] : List V).all (refsOk B R 5) && us.all (refsOk B R 5)) = true
  rw [h.r]; rfl

theorem take_ext {α : Type} {l l' : List α} {k : Nat} (hk : k < l.length) (hk' : k < l'.length) (h : l.take k = l'.take k) (e : l[k] = l'[k]) : l.take (k + 1) = l'.take (k + 1) := by
  rw [List.take_add_one, List.take_add_one, h, List.getElem?_eq_getElem hk, List.getElem?_eq_getElem hk', e]
def intsV (l : List Int) : V := .slice 0 1 (l.map I)

theorem flat_ints (l : List Int) : (l.map I).flatMap cells = l.map I := by
  induction l with
  | nil => rfl
  | cons a l ih => rw [List.map_cons, List.flatMap_cons, ih]; rfl

theorem ints_isD (l : List Int) : (l.map I).all isD = true := by
  rw [List.all_eq_true]
  intro x hx
  obtain ⟨n, _, rfl⟩ := List.mem_map.1 hx
  rfl

theorem ints_refs (l : List Int) (B : Nat → Bool) (R : Nat → Option (Nat × Nat × Nat)) : (l.map I).all (refsOk B R 6) = true := by
  rw [List.all_eq_true]
  intro x hx
  obtain ⟨n, _, rfl⟩ := List.mem_map.1 hx
  rfl

theorem okI {k : Nat} {l : List Int} {env : List (Nat × V)} {bx : List (Nat × Box)} {rw : List (Nat × Nat × Nat × Nat)} (h : okRefs env ((k, ⟨[], false⟩) :: bx) rw = true) : okRefs env ((k, ⟨l.map I, false⟩) :: bx) rw = true := by
  have e : hasKey ((k, (⟨l.map I, false⟩ : Box)) :: bx) = hasKey ((k, (⟨[], false⟩ : Box)) :: bx) := rfl
  unfold okRefs at h ⊢
  rw [e]
  rw [Bool.and_eq_true] at h ⊢
  refine ⟨h.1, ?_⟩
  have h2 := h.2
  rw [List.all_cons, Bool.and_eq_true] at h2 ⊢
  exact ⟨ints_refs _ _ _, h2.2⟩

theorem holds_ints (l : List Int) : Holds (l.map I) 0 1 l.length (l.map I) := by
  refine ⟨by omega, by simp, fun x hx => ?_, ?_, fun x hx => ?_⟩
  · obtain ⟨c, _, rfl⟩ := List.mem_map.1 hx; rfl
  · rw [List.drop_zero, List.take_of_length_le (by simp), flat_ints]
  · obtain ⟨c, _, rfl⟩ := List.mem_map.1 hx; rfl

theorem c_within (n lo hi : Int) : C Tryz.prog F.bin_within [I n, I lo, I hi] (.bool (btw n lo hi)) := by
  refine C_of mixed chk.bin_within (by simp) fun S ok => ?_
  refine Tr.seqR rfl (by simp) (Tr.seqR rfl (by simp) (Tr.retQ rfl rfl ?_ trivial))
  simp [packR, btw]

theorem c_between (n lo hi : Int) : C Tryz.prog F.ref00_Between [I n, I lo, I hi] (.bool (btw n lo hi)) := by
  refine C_of mixed chk.ref00_Between (by simp) fun S ok => ?_
  refine Tr.seqR rfl (by simp) (Tr.seqR rfl (by simp) (Tr.retQ rfl rfl ?_ trivial))
  simp [packR, btw]

theorem c_indexI {l : List Int} {p : Int → Bool} {f : FuncId} (hl : l.length ≤ 9223372036854775807) (hp : ∀ b ∈ l, C Tryz.prog f [I b] (.bool (p b))) :
    C Tryz.prog F.slices_IndexFunc_int_int [intsV l, .func (.func f) [] []] (I (firstI p l 0)) := by
  refine C_of mixed chk.slices_IndexFunc_int_int (by simp) fun S ok => ?_
  refine Tr.seqR rfl (by simp) ?_
  refine Tr.seq (Tr.seqR rfl (by simp) (Tr.block ?_))
  refine Tr.loop (fun k s => (k ≤ l.length ∧ firstI p l 0 = firstI p (l.drop k) k) ∧ s = { env := [(0, intsV l), (1, .func (.func f) [] []), (7, I l.length), (8, I k)], bx := [], rw := [], log := [], stp := false }) (fun k => l.length - k) 0
    (Wk.le (.cons rfl (.refl _) (.cons rfl (.refl _) (.cons rfl (VLe.i (by simp)) (.cons rfl (.refl _) .nil)))) .nil .nil rfl rfl) ⟨⟨by omega, by simp⟩, rfl⟩ ?_
  rintro k s ⟨⟨hk, hf⟩, rfl⟩
  refine Tr.seqR rfl (by simp) (Tr.seqI rfl (fun h1 => ?_) (fun h1 => ?_))
  · have h1 : k < l.length := by simpa using h1
    refine Tr.skipT (Tr.seq (Tr.block (Tr.seqR rfl (by simp) (Tr.seqC rfl ?_ ?_))))
    · rw [getD_map h1]; simp [cells]; omega
    · rw [getD_map h1]
      refine Steps.callv rfl rfl (hp l[k] (List.getElem_mem h1)) (Steps.fin rfl (by simp) ?_)
      refine Tr.cond rfl rfl (fun h2 => ?_) (fun h2 => ?_)
      · refine Tr.seqR rfl (by simp) (Tr.ret ?_)
        refine ⟨trivial, _, _, _, resVs_ok rfl, rfl, ?_⟩
        rw [hf, firstI_drop p l h1, if_pos h2]; rfl
      · refine Tr.skip (Tr.regR rfl (by simp) ?_)
        refine ⟨k + 1, _, ?_, ⟨⟨by omega, ?_⟩, rfl⟩, by omega⟩
        · exact Wk.le (.cons rfl (.refl _) (.cons rfl (.refl _) (.cons rfl (.refl _) (.cons rfl (VLe.i (w64 (by omega) (by omega))) .nil)))) .nil .nil rfl rfl
        · rw [hf, firstI_drop p l h1, if_neg (by simp [h2])]
  · have h1 : k = l.length := by simp at h1; omega
    subst h1
    refine Tr.exit (Tr.seqR rfl (by simp) (Tr.retQ rfl rfl ?_ trivial))
    rw [hf, List.drop_length]; rfl

theorem c_containsI {l : List Int} {p : Int → Bool} {f : FuncId} (hl : l.length ≤ 9223372036854775807) (hp : ∀ b ∈ l, C Tryz.prog f [I b] (.bool (p b))) :
    C Tryz.prog F.slices_ContainsFunc_int_int [intsV l, .func (.func f) [] []] (.bool (l.any p)) := by
  refine C_of mixed chk.slices_ContainsFunc_int_int (by simp) fun S ok => ?_
  refine Tr.seqR rfl (by simp) ?_
  refine Tr.seqC rfl (by simp) (Steps.call rfl rfl (c_indexI hl hp) (Steps.fin rfl (by simp) (Tr.retQ rfl rfl ?_ trivial)))
  rw [← firstI_nn p l 0]; rfl

attribute [local simp] cells scalar mkv splice under2 under dem dem1
theorem c_Alike (l l' : List Int) (hl : l.length ≤ 9223372036854775807) : C Tryz.prog F.ref00_Alike [intsV l, intsV l'] (.bool (decide (l = l'))) := by
  refine C_of mixed chk.ref00_Alike (by simp) fun S ok => ?_
  refine Tr.seqR rfl (by simp) (Tr.seq (Tr.seqR rfl (by simp) ?_))
  refine Tr.cond rfl rfl (fun h1 => Tr.seqR rfl (by simp) (Tr.retX rfl rfl rfl ?_ trivial)) (fun h1 => Tr.skip ?_)
  · have h1 : (((l.map I).length : Int) != ((l'.map I).length : Int)) = true := h1
    simp only [packR, V.bool.injEq]
    rw [decide_eq_false]
    rintro rfl
    simp at h1
  · have h1 : (((l.map I).length : Int) != ((l'.map I).length : Int)) = false := h1
    have hll : l.length = l'.length := by simp at h1; omega
    refine Tr.seq (Tr.seqR rfl (by simp) (Tr.block ?_))
    refine Tr.loop (fun k st => (k ≤ l.length ∧ l.take k = l'.take k) ∧ st = { env := [(0, intsV l), (1, intsV l'), (5, I k)], bx := [], rw := [], log := [], stp := false }) (fun k => l.length - k) 0
      (Wk.le (.cons rfl (.refl _) (.cons rfl (.refl _) (.cons rfl (.refl _) .nil))) .nil .nil rfl rfl) ⟨⟨by omega, by simp⟩, rfl⟩ ?_
    rintro k st ⟨⟨hk, he⟩, rfl⟩
    refine Tr.seq (Tr.seqR rfl (by simp) (Tr.cond rfl rfl (fun h3 => ?_) (fun h3 => ?_)))
    · have h3 : k < l.length := by simpa using h3
      have h4 : k < l'.length := by omega
      refine Tr.skip (Tr.seq (Tr.block (Tr.seq (Tr.drawK (TraceK.runN 3 rfl (by simp; omega) ?_)))))
      rw [getD_map h3]
      refine TraceK.runN 4 rfl (by simp; omega) ?_
      rw [getD_map h4]
      refine TraceK.run rfl (by simp) (.done ⟨by kernel_rfl, by kernel_rfl, ?_⟩)
      refine Tr.cond rfl rfl (fun h5 => Tr.seqR rfl (by simp) (Tr.retX rfl rfl rfl ?_ trivial)) (fun h5 => Tr.skip (Tr.regR rfl (by simp) ?_))
      · have h5 : (l[k] != l'[k]) = true := h5
        simp only [packR, V.bool.injEq]
        rw [decide_eq_false]
        rintro rfl
        simp at h5
      · have h5 : (l[k] != l'[k]) = false := h5
        have h5 : l[k] = l'[k] := by simpa using h5
        exact ⟨k + 1, _, Wk.le (.cons rfl (.refl _) (.cons rfl (.refl _) (.cons rfl (VLe.i (w64 (by omega) (by omega))) .nil))) .nil .nil rfl rfl, ⟨⟨h3, take_ext h3 h4 he h5⟩, rfl⟩, by omega⟩
    · have h3 : k = l.length := by simp at h3; omega
      subst h3
      refine Tr.exit (Tr.seqR rfl (by simp) (Tr.retX rfl rfl rfl ?_ trivial))
      rw [List.take_length, hll, List.take_length] at he
      simp [packR, he]

end Go.Proofs.YtdejdblopmfjfaaGreatDoor


/-! Contracts: regions of the plane, by their four bounds. -/
set_option linter.unusedVariables false
set_option linter.unusedSimpArgs false
set_option maxRecDepth 20000
set_option maxHeartbeats 2000000
namespace Go.Proofs.YtdejdblopmfjfaaGreatDoor
open Go.Am
attribute [local simp] cells scalar mkv splice under2 under dem dem1 eB
/-- Bounds of x, y, their sum and difference. -/
structure Fr where
  x : Int × Int
  y : Int × Int
  s : Int × Int
  d : Int × Int

def fourC (f : Fr) : List V := [I f.x.1, I f.x.2, I f.y.1, I f.y.2, I f.s.1, I f.s.2, I f.d.1, I f.d.2]
attribute [local simp] fourC
def comb (g : Int × Int → Int × Int → Int × Int) (f h : Fr) : Fr := ⟨g f.x h.x, g f.y h.y, g f.s h.s, g f.d h.d⟩
def spanB (a b : Int × Int) : Int × Int := (min a.1 b.1, max a.2 b.2)
theorem ifMin (a b : Int) : (if b < a then b else a) = min a b := by split <;> omega
theorem ifMax (a b : Int) : (if b > a then b else a) = max a b := by split <;> omega

theorem c_span (a b : Int × Int) : C Tryz.prog F.region_span [eB a, eB b] (eB (spanB a b)) := by
  refine C_of mixed chk.region_span (by simp) fun S ok => ?_
  refine Tr.seqR rfl (by simp) (Tr.seqR rfl (by simp) (Tr.retQ rfl rfl ?_ trivial))
  simp only [packR, eB, spanB, ← ifMin, ← ifMax]
  rfl

theorem c_bounds (f : Fr) : C Tryz.prog F.region_bounds [.agg (fourC f)] (.agg (fourC f)) := by
  refine C_of mixed chk.region_bounds (by simp) fun S ok => ?_
  exact Tr.seqR rfl (by simp) (Tr.seqR rfl (by simp) (Tr.retQ rfl rfl rfl trivial))

theorem c_region (f : Fr) : C Tryz.prog F.region_four_region [.agg (fourC f)] (.agg (fourC f)) := by
  refine C_of mixed chk.region_four_region (by simp) fun S ok => ?_
  exact Tr.seqR rfl (by simp) (Tr.seqR rfl (by simp) (Tr.retQ rfl rfl rfl trivial))

theorem c_combined {op : FuncId} {g : Int × Int → Int × Int → Int × Int} (hg : ∀ a b, C Tryz.prog op [eB a, eB b] (eB (g a b))) (f h : Fr) : C Tryz.prog F.region_four_combined [.agg (fourC f), .agg (fourC h), .func (.func op) [] []] (.agg (fourC (comb g f h))) := by
  refine C_of mixed chk.region_four_combined (by simp) fun S ok => ?_
  refine Tr.seqR rfl (by simp) (Tr.seq (Tr.seqR rfl (by simp) (Tr.block ?_)))
  refine Tr.rounds 5 (TrN.succ ?_)
  refine Tr.weak (s' := { env := [(2, .func (.func op) [] []), (3, .ptr 3 0), (4, .ptr 4 0), (6, .ptr 6 0), (8, I 0)], bx := [(3, ⟨[I f.x.1, I f.x.2, I f.y.1, I f.y.2, I f.s.1, I f.s.2, I f.d.1, I f.d.2], false⟩), (4, ⟨fourC h, false⟩), (6, ⟨[I 0, I 0, I 0, I 0, I 0, I 0, I 0, I 0], false⟩)], rw := [], log := [], stp := false })
    (Wk.le (.cons rfl (.refl _) (.cons rfl (.refl _) (.cons rfl (.refl _) (.cons rfl (.refl _) (.cons rfl (VLe.i rfl) .nil))))) (.cons rfl (LLe.refl _) (.cons rfl (LLe.refl _) (.cons rfl (LLe.refl _) .nil))) .nil rfl rfl) ?_
  refine Tr.seqR rfl (by simp) (Tr.seq (Tr.condT rfl (Tr.skip (Tr.seq (Tr.block (Tr.seqR rfl (by simp) ?_))))))
  refine Tr.drawK (TraceK.run rfl (by simp) (TraceK.callv rfl rfl (hg f.x h.x) (TraceK.run rfl (by simp) (.done ⟨by kernel_rfl, by kernel_rfl, ?_⟩))))
  refine Tr.regR rfl (by simp) (TrN.succ ?_)
  refine Tr.weak (s' := { env := [(2, .func (.func op) [] []), (3, .ptr 3 0), (4, .ptr 4 0), (6, .ptr 6 0), (8, I 1)], bx := [(3, ⟨[I (g f.x h.x).1, I (g f.x h.x).2, I f.y.1, I f.y.2, I f.s.1, I f.s.2, I f.d.1, I f.d.2], false⟩), (4, ⟨fourC h, false⟩), (6, ⟨[I 0, I 0, I 0, I 0, I 0, I 0, I 0, I 0], false⟩)], rw := [], log := [], stp := false })
    (Wk.le (.cons rfl (.refl _) (.cons rfl (.refl _) (.cons rfl (.refl _) (.cons rfl (.refl _) (.cons rfl (VLe.i rfl) .nil))))) (.cons rfl (LLe.refl _) (.cons rfl (LLe.refl _) (.cons rfl (LLe.refl _) .nil))) .nil rfl rfl) ?_
  refine Tr.seqR rfl (by simp) (Tr.seq (Tr.condT rfl (Tr.skip (Tr.seq (Tr.block (Tr.seqR rfl (by simp) ?_))))))
  refine Tr.drawK (TraceK.run rfl (by simp) (TraceK.callv rfl rfl (hg f.y h.y) (TraceK.run rfl (by simp) (.done ⟨by kernel_rfl, by kernel_rfl, ?_⟩))))
  refine Tr.regR rfl (by simp) (TrN.succ ?_)
  refine Tr.weak (s' := { env := [(2, .func (.func op) [] []), (3, .ptr 3 0), (4, .ptr 4 0), (6, .ptr 6 0), (8, I 2)], bx := [(3, ⟨[I (g f.x h.x).1, I (g f.x h.x).2, I (g f.y h.y).1, I (g f.y h.y).2, I f.s.1, I f.s.2, I f.d.1, I f.d.2], false⟩), (4, ⟨fourC h, false⟩), (6, ⟨[I 0, I 0, I 0, I 0, I 0, I 0, I 0, I 0], false⟩)], rw := [], log := [], stp := false })
    (Wk.le (.cons rfl (.refl _) (.cons rfl (.refl _) (.cons rfl (.refl _) (.cons rfl (.refl _) (.cons rfl (VLe.i rfl) .nil))))) (.cons rfl (LLe.refl _) (.cons rfl (LLe.refl _) (.cons rfl (LLe.refl _) .nil))) .nil rfl rfl) ?_
  refine Tr.seqR rfl (by simp) (Tr.seq (Tr.condT rfl (Tr.skip (Tr.seq (Tr.block (Tr.seqR rfl (by simp) ?_))))))
  refine Tr.drawK (TraceK.run rfl (by simp) (TraceK.callv rfl rfl (hg f.s h.s) (TraceK.run rfl (by simp) (.done ⟨by kernel_rfl, by kernel_rfl, ?_⟩))))
  refine Tr.regR rfl (by simp) (TrN.succ ?_)
  refine Tr.weak (s' := { env := [(2, .func (.func op) [] []), (3, .ptr 3 0), (4, .ptr 4 0), (6, .ptr 6 0), (8, I 3)], bx := [(3, ⟨[I (g f.x h.x).1, I (g f.x h.x).2, I (g f.y h.y).1, I (g f.y h.y).2, I (g f.s h.s).1, I (g f.s h.s).2, I f.d.1, I f.d.2], false⟩), (4, ⟨fourC h, false⟩), (6, ⟨[I 0, I 0, I 0, I 0, I 0, I 0, I 0, I 0], false⟩)], rw := [], log := [], stp := false })
    (Wk.le (.cons rfl (.refl _) (.cons rfl (.refl _) (.cons rfl (.refl _) (.cons rfl (.refl _) (.cons rfl (VLe.i rfl) .nil))))) (.cons rfl (LLe.refl _) (.cons rfl (LLe.refl _) (.cons rfl (LLe.refl _) .nil))) .nil rfl rfl) ?_
  refine Tr.seqR rfl (by simp) (Tr.seq (Tr.condT rfl (Tr.skip (Tr.seq (Tr.block (Tr.seqR rfl (by simp) ?_))))))
  refine Tr.drawK (TraceK.run rfl (by simp) (TraceK.callv rfl rfl (hg f.d h.d) (TraceK.run rfl (by simp) (.done ⟨by kernel_rfl, by kernel_rfl, ?_⟩))))
  refine Tr.regR rfl (by simp) (TrN.succ ?_)
  refine Tr.seqR rfl (by simp) (Tr.seq (Tr.condF rfl (Tr.exit ?_)))
  exact Tr.seqR rfl (by simp) (Tr.retQ rfl rfl rfl trivial)

def ofF (p : Int × Int) : Fr := ⟨(p.1, p.1), (p.2, p.2), (w (p.1 + p.2), w (p.1 + p.2)), (w (p.1 - p.2), w (p.1 - p.2))⟩

theorem c_ofP (p : Int × Int) : C Tryz.prog F.region_of [eB p] (.agg (fourC (ofF p))) := by
  refine C_of mixed chk.region_of (by simp) fun S ok => ?_
  refine Tr.seqR rfl (by simp) (Tr.seqR rfl (by simp) (Tr.seq (Tr.seqR rfl (by simp) (Tr.block ?_))))
  refine Tr.rounds 5 (TrN.succ ?_)
  refine Tr.weak (s' := { env := [(2, .ptr 2 0), (3, .ptr 3 0), (20, .agg [I p.1, I p.2, I (w (p.1 + p.2)), I (w (p.1 - p.2))]), (21, I 0)], bx := [(2, ⟨[I 0, I 0, I 0, I 0, I 0, I 0, I 0, I 0], false⟩), (3, ⟨[I 0, I 0, I 0, I 0, I 0, I 0, I 0, I 0], false⟩)], rw := [], log := [], stp := false })
    (Wk.le (.cons rfl (.refl _) (.cons rfl (.refl _) (.cons rfl (.refl _) (.cons rfl (VLe.i rfl) .nil)))) (.cons rfl (LLe.refl _) (.cons rfl (LLe.refl _) .nil)) .nil rfl rfl) ?_
  refine Tr.seqR rfl (by simp) (Tr.seq (Tr.condT rfl (Tr.skip (Tr.seq (Tr.block (Tr.seqR rfl (by simp) (Tr.regR rfl (by simp) (Tr.regR rfl (by simp) (TrN.succ ?_)))))))))
  refine Tr.weak (s' := { env := [(2, .ptr 2 0), (3, .ptr 3 0), (20, .agg [I p.1, I p.2, I (w (p.1 + p.2)), I (w (p.1 - p.2))]), (21, I 1)], bx := [(2, ⟨[I 0, I 0, I 0, I 0, I 0, I 0, I 0, I 0], false⟩), (3, ⟨[I (p.1), I (p.1), I 0, I 0, I 0, I 0, I 0, I 0], false⟩)], rw := [], log := [], stp := false })
    (Wk.le (.cons rfl (.refl _) (.cons rfl (.refl _) (.cons rfl (.refl _) (.cons rfl (VLe.i rfl) .nil)))) (.cons rfl (LLe.refl _) (.cons rfl (LLe.refl _) .nil)) .nil rfl rfl) ?_
  refine Tr.seqR rfl (by simp) (Tr.seq (Tr.condT rfl (Tr.skip (Tr.seq (Tr.block (Tr.seqR rfl (by simp) (Tr.regR rfl (by simp) (Tr.regR rfl (by simp) (TrN.succ ?_)))))))))
  refine Tr.weak (s' := { env := [(2, .ptr 2 0), (3, .ptr 3 0), (20, .agg [I p.1, I p.2, I (w (p.1 + p.2)), I (w (p.1 - p.2))]), (21, I 2)], bx := [(2, ⟨[I 0, I 0, I 0, I 0, I 0, I 0, I 0, I 0], false⟩), (3, ⟨[I (p.1), I (p.1), I (p.2), I (p.2), I 0, I 0, I 0, I 0], false⟩)], rw := [], log := [], stp := false })
    (Wk.le (.cons rfl (.refl _) (.cons rfl (.refl _) (.cons rfl (.refl _) (.cons rfl (VLe.i rfl) .nil)))) (.cons rfl (LLe.refl _) (.cons rfl (LLe.refl _) .nil)) .nil rfl rfl) ?_
  refine Tr.seqR rfl (by simp) (Tr.seq (Tr.condT rfl (Tr.skip (Tr.seq (Tr.block (Tr.seqR rfl (by simp) (Tr.regR rfl (by simp) (Tr.regR rfl (by simp) (TrN.succ ?_)))))))))
  refine Tr.weak (s' := { env := [(2, .ptr 2 0), (3, .ptr 3 0), (20, .agg [I p.1, I p.2, I (w (p.1 + p.2)), I (w (p.1 - p.2))]), (21, I 3)], bx := [(2, ⟨[I 0, I 0, I 0, I 0, I 0, I 0, I 0, I 0], false⟩), (3, ⟨[I (p.1), I (p.1), I (p.2), I (p.2), I (w (p.1 + p.2)), I (w (p.1 + p.2)), I 0, I 0], false⟩)], rw := [], log := [], stp := false })
    (Wk.le (.cons rfl (.refl _) (.cons rfl (.refl _) (.cons rfl (.refl _) (.cons rfl (VLe.i rfl) .nil)))) (.cons rfl (LLe.refl _) (.cons rfl (LLe.refl _) .nil)) .nil rfl rfl) ?_
  refine Tr.seqR rfl (by simp) (Tr.seq (Tr.condT rfl (Tr.skip (Tr.seq (Tr.block (Tr.seqR rfl (by simp) (Tr.regR rfl (by simp) (Tr.regR rfl (by simp) (TrN.succ ?_)))))))))
  refine Tr.seqR rfl (by simp) (Tr.seq (Tr.condF rfl (Tr.exit ?_)))
  exact Tr.seqR rfl (by simp) (Tr.retQ rfl rfl rfl trivial)

/-- A number, brought into the range. -/
def intoL (l n : Int) : Int := max (-l) (min n l)

theorem c_into {l : Int} (n : Int) (hl : 0 ≤ l ∧ l ≤ 65536) : C Tryz.prog F.region_limit_into [I l, I n] (I (intoL l n)) := by
  refine C_of mixed chk.region_limit_into (by simp) fun S ok => ?_
  refine Tr.seqR rfl (by simp) (Tr.seqR rfl (by simp) (Tr.retQ rfl rfl ?_ trivial))
  have e : IntKind.wrap .i64 (0 - l) = -l := by rw [w64 (by omega) (by omega)]; omega
  simp only [packR, intoL, ← ifMin, ← ifMax, ← e]
  rfl

def inPlane (p : Int × Int) : Prop := (-32768 ≤ p.1 ∧ p.1 ≤ 32768) ∧ -32768 ≤ p.2 ∧ p.2 ≤ 32768

theorem into_self {l n : Int} (h : -l ≤ n ∧ n ≤ l) : intoL l n = n := by unfold intoL; omega

theorem c_CheckPoint {p : Int × Int} (h : inPlane p) : C Tryz.prog F.region_CheckPoint [eB p] (I 0) := by
  refine C_of mixed chk.region_CheckPoint (by simp) fun S ok => ?_
  have k1 := c_into (l := 32768) p.1 (by omega)
  have k2 := c_into (l := 32768) p.2 (by omega)
  rw [into_self (by have := h.1; omega)] at k1
  rw [into_self (by have := h.2; omega)] at k2
  refine Tr.seqR rfl (by simp) (Tr.seq (Tr.seqR rfl (by simp) (Tr.block ?_)))
  refine Tr.rounds 3 (TrN.succ ?_)
  refine Tr.seqR rfl (by simp) (Tr.seq (Tr.condT rfl (Tr.skip (Tr.seq (Tr.block (Tr.seqR rfl (by simp) ?_))))))
  refine Tr.seqC rfl (by simp) (Steps.call rfl rfl k1 (Steps.fin rfl (by simp) (Tr.cond rfl rfl (fun h => ?_) (fun _ => Tr.skip (Tr.regR rfl (by simp) (TrN.succ ?_))))))
  · simp at h
  refine Tr.seqR rfl (by simp) (Tr.seq (Tr.condT rfl (Tr.skip (Tr.seq (Tr.block (Tr.seqR rfl (by simp) ?_))))))
  refine Tr.seqC rfl (by simp) (Steps.call rfl rfl k2 (Steps.fin rfl (by simp) (Tr.cond rfl rfl (fun h => ?_) (fun _ => Tr.skip (Tr.regR rfl (by simp) (TrN.succ ?_))))))
  · simp at h
  refine Tr.seqR rfl (by simp) (Tr.seq (Tr.condF rfl (Tr.exit ?_)))
  exact Tr.seqR rfl (by simp) (Tr.retX rfl rfl rfl rfl trivial)

def fitB (l : Int) (b : Int × Int) : Prop := -l ≤ b.1 ∧ b.1 ≤ b.2 ∧ b.2 ≤ l
def fitF (f : Fr) : Prop := (fitB 32768 f.x ∧ fitB 32768 f.y) ∧ fitB 65536 f.s ∧ fitB 65536 f.d

theorem c_done (f : Fr) : C Tryz.prog F.region_done [.agg (fourC f), I 0] (.tuple [.agg (fourC f), I 0]) := by
  refine C_of mixed chk.region_done (by simp) fun S ok => ?_
  refine Tr.seqR rfl (by simp) (Tr.seq (Tr.seqR rfl (by simp) (Tr.condF rfl (Tr.skip ?_))))
  refine Tr.seqC rfl (by simp) (Steps.call rfl rfl (c_region f) (Steps.fin rfl (by simp) (Tr.retX rfl rfl rfl rfl trivial)))

end Go.Proofs.YtdejdblopmfjfaaGreatDoor


/-! Contracts: rows of a region. -/
set_option linter.unusedVariables false
set_option linter.unusedSimpArgs false
set_option maxRecDepth 20000
set_option maxHeartbeats 2000000
namespace Go.Proofs.YtdejdblopmfjfaaGreatDoor
open Go.Am
attribute [local simp] cells scalar mkv splice under2 under dem dem1 eB fourC
def lowY (f : Fr) (x : Int) : Int := max (max f.y.1 (f.s.1 - x)) (x - f.d.2)
def highY (f : Fr) (x : Int) : Int := min (min f.y.2 (f.s.2 - x)) (x - f.d.1)

def rowsN (f : Fr) : Nat → Int → List (Int × Int × Int)
  | 0, _ => []
  | n + 1, x => if lowY f x ≤ highY f x then (x, lowY f x, highY f x) :: rowsN f n (x + 1) else rowsN f n (x + 1)
def rowsL (f : Fr) : List (Int × Int × Int) := rowsN f (f.x.2 + 1 - f.x.1).toNat f.x.1
def eRow (r : Int × Int × Int) : List V := [.agg [I r.1, I r.2.1, I r.2.2]]

/-- Bounds that are not great. -/
def midF (f : Fr) : Prop := ((-1000000 ≤ f.x.1 ∧ f.x.1 ≤ 1000000) ∧ -1000000 ≤ f.x.2 ∧ f.x.2 ≤ 1000000) ∧ ((-1000000 ≤ f.y.1 ∧ f.y.1 ≤ 1000000) ∧ -1000000 ≤ f.y.2 ∧ f.y.2 ≤ 1000000) ∧ ((-1000000 ≤ f.s.1 ∧ f.s.1 ≤ 1000000) ∧ -1000000 ≤ f.s.2 ∧ f.s.2 ≤ 1000000) ∧ (-1000000 ≤ f.d.1 ∧ f.d.1 ≤ 1000000) ∧ -1000000 ≤ f.d.2 ∧ f.d.2 ≤ 1000000

theorem c_rows (f : Fr) : C Tryz.prog F.region_four_rows [.agg (fourC f)] (.func (.func F.region_four_rows_1) [] [.vptr (fourC f) 0]) := by
  refine C_of mixed chk.region_four_rows (by simp) fun S ok => ?_
  exact Tr.seqR rfl (by simp) (Tr.seqR rfl (by simp) (Tr.retQ rfl rfl rfl trivial))

theorem c_ends (f : Fr) : C Tryz.prog F.region_four_ends [.agg (fourC f)] (.func (.func F.region_four_ends_1) [] [.vptr (fourC f) 0]) := by
  refine C_of mixed chk.region_four_ends (by simp) fun S ok => ?_
  exact Tr.seqR rfl (by simp) (Tr.seqR rfl (by simp) (Tr.retQ rfl rfl rfl trivial))

theorem i_rows {f : Fr} (hf : midF f) : Iter Tryz.prog F.region_four_rows_1 [.vptr (fourC f) 0] ((rowsL f).map eRow) := by
  refine Iter_of mixed chk.region_four_rows_1 (by simp) fun S ok => ?_
  obtain ⟨⟨⟨hx1, hx2⟩, hx3, hx4⟩, ⟨⟨hy1, hy2⟩, hy3, hy4⟩, ⟨⟨hs1, hs2⟩, hs3, hs4⟩, ⟨hd1, hd2⟩, hd3, hd4⟩ := hf
  refine Tr.seqR rfl (by simp) (Tr.block ?_)
  refine Tr.loop (α := Nat × List (List V)) (fun p s => (p.1 ≤ (f.x.2 + 1 - f.x.1).toNat ∧ p.2 ++ (rowsN f ((f.x.2 + 1 - f.x.1).toNat - p.1) (f.x.1 + p.1)).map eRow = (rowsL f).map eRow) ∧
      s = { env := [(0, .yld), (1, .vptr (fourC f) 0), (3, I (f.x.1 + p.1))], bx := [], rw := [], log := p.2, stp := false }) (fun p => (f.x.2 + 1 - f.x.1).toNat - p.1) (0, [])
    (Wk.le (.cons rfl (.refl _) (.cons rfl (.refl _) (.cons rfl (VLe.i (by simp)) .nil))) .nil .nil rfl rfl) ⟨⟨by simp, by simp [rowsL]⟩, rfl⟩ ?_
  rintro ⟨k, lg⟩ s ⟨⟨hk, hl⟩, rfl⟩
  simp only at hk hl
  refine Tr.seq (Tr.seqR rfl (by simp) (Tr.cond rfl rfl (fun h1 => Tr.skip ?_) (fun h1 => Tr.exit ?_)))
  · have h1 : f.x.1 + (k : Int) ≤ f.x.2 := by simpa using h1
    obtain ⟨x, hx⟩ : ∃ x, f.x.1 + (k : Int) = x := ⟨_, rfl⟩
    obtain ⟨n, hn⟩ : ∃ n, (f.x.2 + 1 - f.x.1).toNat - k = n + 1 := ⟨(f.x.2 + 1 - f.x.1).toNat - k - 1, by omega⟩
    have hn2 : (f.x.2 + 1 - f.x.1).toNat - (k + 1) = n := by omega
    have hx' : f.x.1 + ((k + 1 : Nat) : Int) = x + 1 := by omega
    rw [hn, hx] at hl
    rw [hx] at h1
    rw [hx]
    refine Tr.seq (Tr.block (Tr.seqR rfl (by simp) ?_))
    refine Tr.weak (s' := { env := [(0, .yld), (1, .vptr (fourC f) 0), (3, I x), (4, .ptr 4 0)], bx := [(4, ⟨[I x, I (lowY f x), I (highY f x)], false⟩)], rw := [], log := lg, stp := false })
      (Wk.le (.cons rfl (.refl _) (.cons rfl (.refl _) (.cons rfl (.refl _) (.cons rfl (.refl _) .nil)))) (.cons rfl (.cons (.refl _) (.cons (VLe.i ?_) (.cons (VLe.i ?_) .nil))) .nil) .nil rfl rfl) ?_
    · simp (disch := omega) only [cond_true, cond_false, ite_max, ite_min, w64, lowY]
    · simp (disch := omega) only [cond_true, cond_false, ite_max, ite_min, w64, highY]
    refine Tr.seqC rfl (by simp) ?_
    by_cases hh : lowY f x ≤ highY f x
    · have hp : lg ++ [eRow (x, lowY f x, highY f x)] ++ (rowsN f n (x + 1)).map eRow = (rowsL f).map eRow := by
        rw [← hl, rowsN, if_pos hh]; simp
      refine Steps.gyield (want := true) rfl rfl ?_ rfl ?_ rfl ⟨_, hp⟩ rfl (fun b => ?_)
      · show some (decide (lowY f x ≤ highY f x) == true) = some true
        simp [hh]
      · simp [hh]
      refine Steps.fin rfl (by simp) ?_
      refine Tr.cond rfl rfl (fun h2 => ?_) (fun h2 => ?_)
      · refine Tr.ret ⟨.inl ?_, [], [], [], rfl, rfl, rfl⟩
        have h2 : (bif decide (lowY f x ≤ highY f x) then !b else false) = true := h2
        have hb : b = false := by simpa [hh] using h2
        subst hb; rfl
      · have h2 : (bif decide (lowY f x ≤ highY f x) then !b else false) = false := h2
        have hb : b = true := by simpa [hh] using h2
        subst hb
        refine Tr.skip (Tr.regR rfl (by simp) ?_)
        refine ⟨(k + 1, lg ++ [eRow (x, lowY f x, highY f x)]), _, Wk.le (.cons rfl (.refl _) (.cons rfl (.refl _) (.cons rfl (VLe.i ?_) .nil))) .nil .nil rfl rfl, ⟨⟨by simp; omega, ?_⟩, rfl⟩, by simp; omega⟩
        · show IntKind.wrap .i64 (x + 1) = f.x.1 + ((k + 1 : Nat) : Int)
          rw [w64 (by omega) (by omega)]; exact hx'.symm
        · simp only; rw [hn2, hx']; exact hp
    · have hl2 : lg ++ (rowsN f n (x + 1)).map eRow = (rowsL f).map eRow := by
        rw [← hl, rowsN, if_neg hh]
      refine Steps.off (want := true) (.bool true) rfl rfl ?_ ?_
      · show some (decide (lowY f x ≤ highY f x) == true) = some false
        simp [hh]
      refine Steps.fin rfl (by simp; omega) ?_
      refine Tr.cond rfl rfl (fun h2 => ?_) (fun h2 => ?_)
      · have h2 : (bif decide (lowY f x ≤ highY f x) then !true else false) = true := h2
        simp [hh] at h2
      · refine Tr.skip (Tr.regR rfl (by simp) ?_)
        refine ⟨(k + 1, lg), _, Wk.le (.cons rfl (.refl _) (.cons rfl (.refl _) (.cons rfl (VLe.i ?_) .nil))) .nil .nil rfl rfl, ⟨⟨by simp; omega, ?_⟩, rfl⟩, by simp; omega⟩
        · show IntKind.wrap .i64 (x + 1) = f.x.1 + ((k + 1 : Nat) : Int)
          rw [w64 (by omega) (by omega)]; exact hx'.symm
        · simp only; rw [hn2, hx']; exact hl2
  · have h1 : ¬ f.x.1 + (k : Int) ≤ f.x.2 := by simpa using h1
    refine ⟨.inr ?_, [], [], [], rfl, rfl, rfl⟩
    rw [show (f.x.2 + 1 - f.x.1).toNat - k = 0 by omega] at hl
    have e : lg = (rowsL f).map eRow := by simpa [rowsN] using hl
    exact e

/-! ### The ends of rows -/
def endsR (r : Int × Int × Int) : List (Int × Int) := if r.2.1 = r.2.2 then [(r.1, r.2.1)] else [(r.1, r.2.1), (r.1, r.2.2)]
def endsL (f : Fr) : List (Int × Int) := (rowsL f).flatMap endsR
def eEnd (p : Int × Int) : List V := [eB p]

theorem plain_fr (f : Fr) : Plain [.vptr (fourC f) 0] := ⟨fun b => rfl, fun B R => rfl⟩

theorem ends_take {L : List (Int × Int × Int)} {m : Nat} {r : Int × Int × Int} (h : L[m]? = some r) : ∃ T, L.flatMap endsR = (L.take m).flatMap endsR ++ (endsR r ++ T) ∧ (L.take (m + 1)).flatMap endsR = (L.take m).flatMap endsR ++ endsR r := by
  have hm := (List.getElem?_eq_some_iff.1 h).1
  have hr : L[m] = r := (List.getElem?_eq_some_iff.1 h).2
  refine ⟨(L.drop (m + 1)).flatMap endsR, ?_, ?_⟩
  · have e : L = L.take m ++ (r :: L.drop (m + 1)) := by
      rw [← hr, ← List.drop_eq_getElem_cons hm, List.take_append_drop]
    have e2 := congrArg (List.flatMap endsR) e
    rw [List.flatMap_append, List.flatMap_cons] at e2
    exact e2
  · rw [List.take_add_one, h, List.flatMap_append]; simp

theorem i_ends {f : Fr} (hf : midF f) : Iter Tryz.prog F.region_four_ends_1 [.vptr (fourC f) 0] ((endsL f).map eEnd) := by
  refine Iter_of mixed chk.region_four_ends_1 (by simp) fun S ok => ?_
  refine Tr.seqR rfl (by simp) ?_
  refine Tr.seqC rfl (by simp) (Steps.call rfl rfl (c_rows f) (Steps.fin rfl (by simp) (Tr.block ?_)))
  refine Tr.weak (s' := { env := [(7, .func (.func F.region_four_rows_1) [] [.vptr (fourC f) 0]), (2, .ptr 2 0)], bx := [(2, ⟨[.yld], false⟩)], rw := [], log := [], stp := false })
    (Wk.le (.cons rfl (.refl _) (.cons rfl (.refl _) .nil)) (.cons rfl (LLe.refl _) .nil) .nil rfl rfl) ?_
  refine Tr.range rfl rfl (i_rows hf) rfl rfl rfl (by intro x hx; obtain ⟨b, _, rfl⟩ := List.mem_map.1 hx; rfl)
    (fun pre t => ∃ m, m ≤ (rowsL f).length ∧ pre = ((rowsL f).take m).map eRow ∧ t.bx = [(2, ⟨[.yld], false⟩)] ∧ t.rw = [] ∧ t.log = (((rowsL f).take m).flatMap endsR).map eEnd)
    (fun e t => e = .ret ∧ t.stp = true) ⟨0, by omega, rfl, rfl, rfl, rfl⟩ ?_ ?_ ?_
  · rintro a0 L0 rc0 h0 S1 S2 ok1 ok2 pre q t lp hpre ⟨m, hm, rfl, hbx, hrw, hlog⟩ henv hstp
    obtain ⟨env, bx, rw, log, stp⟩ := t
    simp only at hbx hrw hlog henv hstp
    subst hbx hrw hlog henv hstp
    have hmx : m < (rowsL f).length ∧ ∃ b, (rowsL f)[m]? = some b ∧ q = eRow b := by
      have h1 : (((rowsL f).take m).map eRow).length = m := by simp; omega
      have h2 := hpre.length_le
      simp at h2
      have hml : m < (rowsL f).length := by omega
      refine ⟨hml, _, List.getElem?_eq_getElem hml, ?_⟩
      have h3 := List.IsPrefix.getElem hpre (i := m) (by simp; omega)
      simp only [List.getElem_map] at h3
      rw [List.getElem_append_right (by omega)] at h3
      simpa using h3
    obtain ⟨hml, ⟨x, a, b⟩, hb, rfl⟩ := hmx
    obtain ⟨T, eT, eN⟩ := ends_take hb
    obtain ⟨lg, hlg⟩ : ∃ lg, (((rowsL f).take m).flatMap endsR).map eEnd = lg := ⟨_, rfl⟩
    have hp1 : List.IsPrefix (lg ++ [eEnd (x, a)]) ((endsL f).map eEnd) := by
      refine ⟨((endsR (x, a, b)).drop 1 ++ T).map eEnd, ?_⟩
      rw [← hlg]; unfold endsL; rw [eT]
      unfold endsR; split <;> simp
    rw [hlg]
    refine Tr.regR rfl (by simp) ?_
    refine Tr.block (Tr.seqD rfl (by simp) (by kernel_rfl) ?_)
    refine Tr.weak (s' := { env := [(2, .ptr 2 0), (4, .ptr 4 0), (5, .ptr 5 0)], bx := [(2, ⟨[.yld], false⟩), (4, ⟨[I x, I a], false⟩), (5, ⟨[I x, I b], false⟩)], rw := [], log := lg, stp := false })
      (Wk.le (.cons rfl (.refl _) (.cons rfl (.refl _) (.cons rfl (.refl _) .nil))) (.cons rfl (LLe.refl _) (.cons rfl (LLe.refl _) (.cons rfl (LLe.refl _) .nil))) .nil rfl rfl) ?_
    refine Tr.seqC rfl (by simp) ?_
    refine Steps.yield rfl (by simp) rfl hp1 rfl (fun c => ?_)
    cases c with
    | false =>
      refine Steps.run rfl (by simp) ?_
      refine Steps.off (want := true) (.bool true) rfl rfl ?_ (Steps.fin rfl (by simp) (Tr.condT rfl ?_))
      · rfl
      exact Tr.ret ⟨{ env := [], bx := [(2, ⟨[.yld], false⟩)], rw := [], log := _, stp := true }, Wk.le .nil (.cons rfl (LLe.refl _) .nil) .nil rfl rfl, rfl, rfl⟩
    | true =>
      refine Steps.run rfl (by simp) ?_
      by_cases hab : a = b
      · subst hab
        refine Steps.off (want := true) (.bool true) rfl rfl ?_ ?_
        · show some (((!true) == false) && ((!(x == x && (a == a && true))) == true)) = some false
          simp
        refine Steps.runN 1 rfl (by simp) (Steps.gpick rfl rfl rfl (fun _ => rfl) rfl rfl (by simp) (Steps.fin rfl (by simp) ?_))
        refine Tr.cond rfl rfl (fun h2 => ?_) (fun h2 => ?_)
        · have h2 : (bif (!true) then true else (bif (!(x == x && (a == a && true))) then !true else false)) = true := h2
          simp at h2
        refine Tr.skip ⟨{ env := [], bx := [(2, ⟨[.yld], false⟩)], rw := [], log := lg ++ [eEnd (x, a)], stp := false }, Wk.le .nil (.cons rfl (LLe.refl _) .nil) .nil rfl rfl, ⟨m + 1, by omega, ?_, rfl, rfl, ?_⟩, rfl⟩
        · rw [List.take_add_one, hb]; simp
        · rw [eN, List.map_append, hlg]
          unfold endsR; simp
      · have hp2 : List.IsPrefix (lg ++ [eEnd (x, a)] ++ [eEnd (x, b)]) ((endsL f).map eEnd) := by
          refine ⟨T.map eEnd, ?_⟩
          rw [← hlg]; unfold endsL; rw [eT]
          unfold endsR; rw [if_neg hab]; simp
        refine Steps.gyield (want := true) rfl rfl ?_ rfl ?_ rfl hp2 rfl (fun c => ?_)
        · show some (((!true) == false) && ((!(x == x && (a == b && true))) == true)) = some true
          simp [hab]
        · simp [hab]
        refine Steps.fin rfl (by simp [hab]) ?_
        refine Tr.cond rfl rfl (fun h2 => ?_) (fun h2 => ?_)
        · have h2 : (bif (!true) then true else (bif (!(x == x && (a == b && true))) then !c else false)) = true := h2
          have hc : c = false := by simpa [hab] using h2
          subst hc
          exact Tr.ret ⟨{ env := [], bx := [(2, ⟨[.yld], false⟩)], rw := [], log := _, stp := true }, Wk.le .nil (.cons rfl (LLe.refl _) .nil) .nil rfl rfl, rfl, rfl⟩
        · have h2 : (bif (!true) then true else (bif (!(x == x && (a == b && true))) then !c else false)) = false := h2
          have hc : c = true := by simpa [hab] using h2
          subst hc
          refine Tr.skip ⟨{ env := [], bx := [(2, ⟨[.yld], false⟩)], rw := [], log := lg ++ [eEnd (x, a)] ++ [eEnd (x, b)], stp := false }, Wk.le .nil (.cons rfl (LLe.refl _) .nil) .nil rfl rfl, ⟨m + 1, by omega, ?_, rfl, rfl, ?_⟩, rfl⟩
          · rw [List.take_add_one, hb]; simp
          · rw [eN, List.map_append, hlg]
            unfold endsR; rw [if_neg hab]; simp
  · rintro ⟨env, bx, rw, log, stp⟩ henv hstp ⟨m, hm, hpre, hbx, hrw, hlog⟩
    simp only at hbx hrw hlog henv hstp
    subst hbx hrw hlog henv hstp
    have hml : m = (rowsL f).length := by
      have := congrArg List.length hpre
      simp at this; omega
    subst hml
    refine ⟨.inr ?_, [], [], [], rfl, rfl, rfl⟩
    simp only [List.take_length]
    rfl
  · rintro e t _ ⟨rfl, h⟩
    exact ⟨.inl h, [], [], [], rfl, rfl, rfl⟩

end Go.Proofs.YtdejdblopmfjfaaGreatDoor


/-! Contracts: the hull of points. -/
set_option linter.unusedVariables false
set_option linter.unusedSimpArgs false
set_option maxRecDepth 20000
set_option maxHeartbeats 2000000
namespace Go.Proofs.YtdejdblopmfjfaaGreatDoor
open Go.Am
attribute [local simp] cells scalar mkv splice under2 under dem dem1 eB fourC
def hstep (a : Fr × Bool) (p : Int × Int) : Fr × Bool := (comb spanB (if a.2 then a.1 else ofF p) (ofF p), true)
def hullS (l : List (Int × Int)) : Fr × Bool := l.foldl hstep (⟨(0, 0), (0, 0), (0, 0), (0, 0)⟩, false)

theorem hull_take {l : List (Int × Int)} {m : Nat} {p : Int × Int} (h : l[m]? = some p) : hullS (l.take (m + 1)) = hstep (hullS (l.take m)) p := by
  unfold hullS; rw [List.take_add_one, h, List.foldl_append]; rfl

theorem c_hull {it : FuncId} {us : List V} {l : List (Int × Int)} (hus : Plain us) (hit : Iter Tryz.prog it us (l.map eEnd)) :
    C Tryz.prog F.region_hull [.slice 0 1 [.func (.func it) [] us]] (.tuple [.agg (fourC (hullS l).1), .bool (hullS l).2]) := by
  refine C_of mixed chk.region_hull (by simp) fun S ok => ?_
  refine Tr.seqR rfl (by simp) (Tr.seq (Tr.seqR rfl (by simp) (Tr.block ?_)))
  refine Tr.rounds 2 (TrN.succ ?_)
  refine Tr.seqR rfl (by simp) (Tr.seq (Tr.condT rfl (Tr.skip (Tr.seq (Tr.block (Tr.seqR rfl (by simp) (Tr.seqR rfl (by simp) (Tr.block ?_))))))))
  refine Tr.weak (s' := { env := [(13, .func (.func it) [] us), (2, .ptr 2 0), (3, .ptr 3 0), (7, .slice 0 1 [.func (.func it) [] us]), (8, I 1), (9, I 0)], bx := [(2, ⟨fourC (hullS []).1, false⟩), (3, ⟨[.bool (hullS []).2], false⟩)], rw := [], log := [], stp := false })
    (Wk.le (.cons rfl (.refl _) (.cons rfl (.refl _) (.cons rfl (.refl _) (.cons rfl (.refl _) (.cons rfl (VLe.i rfl) (.cons rfl (.refl _) .nil)))))) (.cons rfl (LLe.refl _) (.cons rfl (LLe.refl _) .nil)) .nil (by simp only [okRefs, List.all_cons, refs_plain hus]; rfl) rfl) ?_
  refine Tr.range rfl (hus.d _) hit rfl (by simp only [List.all_cons, refs_plain hus]; rfl) rfl (by intro x hx; obtain ⟨b, _, rfl⟩ := List.mem_map.1 hx; rfl)
    (fun pre t => ∃ m, m ≤ l.length ∧ pre = (l.take m).map eEnd ∧ t.bx = [(2, ⟨fourC (hullS (l.take m)).1, false⟩), (3, ⟨[.bool (hullS (l.take m)).2], false⟩)] ∧ t.rw = [] ∧ t.log = [])
    (fun _ _ => False) ⟨0, by omega, rfl, rfl, rfl, rfl⟩ ?_ ?_ ?_
  · rintro a0 L0 rc0 h0 S1 S2 ok1 ok2 pre q t lp hpre ⟨m, hm, rfl, hbx, hrw, hlog⟩ henv hstp
    obtain ⟨env, bx, rw, log, stp⟩ := t
    simp only at hbx hrw hlog henv hstp
    subst hbx hrw hlog henv hstp
    have hmx : m < l.length ∧ ∃ b, l[m]? = some b ∧ q = eEnd b := by
      have h1 : ((l.take m).map eEnd).length = m := by simp; omega
      have h2 := hpre.length_le
      simp at h2
      have hml : m < l.length := by omega
      refine ⟨hml, _, List.getElem?_eq_getElem hml, ?_⟩
      have h3 := List.IsPrefix.getElem hpre (i := m) (by simp; omega)
      simp only [List.getElem_map] at h3
      rw [List.getElem_append_right (by omega)] at h3
      simpa using h3
    obtain ⟨hml, p, hb, rfl⟩ := hmx
    have eH := hull_take hb
    obtain ⟨⟨f, b⟩, hH⟩ : ∃ H, hullS (l.take m) = H := ⟨_, rfl⟩
    rw [hH] at eH ⊢
    refine Tr.regR rfl (by simp) ?_
    refine Tr.weak (s' := { env := [(2, .ptr 2 0), (3, .ptr 3 0), (6, .ptr 6 0)], bx := [(2, ⟨fourC f, false⟩), (3, ⟨[.bool b], false⟩), (6, ⟨[I p.1, I p.2], false⟩)], rw := [], log := [], stp := false })
      (Wk.le (.cons rfl (.refl _) (.cons rfl (.refl _) (.cons rfl (.refl _) .nil))) (.cons rfl (LLe.refl _) (.cons rfl (LLe.refl _) (.cons rfl (LLe.refl _) .nil))) .nil rfl rfl) ?_
    refine Tr.block (Tr.meet { env := [(2, .ptr 2 0), (3, .ptr 3 0), (6, .ptr 6 0)], bx := [(2, ⟨fourC (if b then f else ofF p), false⟩), (3, ⟨[.bool true], false⟩), (6, ⟨[I p.1, I p.2], false⟩)], rw := [], log := [], stp := false } ?_ ?_)
    · cases b with
      | true =>
        refine Tr.seqR rfl (by simp) (Tr.condF rfl (Tr.skip ?_))
        exact Wk.le (.cons rfl (.refl _) (.cons rfl (.refl _) (.cons rfl (.refl _) .nil))) (.cons rfl (LLe.refl _) (.cons rfl (LLe.refl _) (.cons rfl (LLe.refl _) .nil))) .nil rfl rfl
      | false =>
        refine Tr.seqR rfl (by simp) (Tr.condT rfl ?_)
        refine Tr.reg (Steps.run rfl (by simp) (Steps.call rfl rfl (c_ofP p) (Steps.fin rfl (by simp) ?_)))
        exact Wk.le (.cons rfl (.refl _) (.cons rfl (.refl _) (.cons rfl (.refl _) .nil))) (.cons rfl (LLe.refl _) (.cons rfl (LLe.refl _) (.cons rfl (LLe.refl _) .nil))) .nil rfl rfl
    refine Tr.drawK (TraceK.run rfl (by simp) (TraceK.call rfl rfl (c_ofP p) (TraceK.call rfl rfl (c_combined c_span (if b then f else ofF p) (ofF p)) (TraceK.run rfl (by simp) (.done ⟨by kernel_rfl, by kernel_rfl, ?_⟩)))))
    refine ⟨{ env := [], bx := [(2, ⟨fourC (hullS (l.take (m + 1))).1, false⟩), (3, ⟨[.bool (hullS (l.take (m + 1))).2], false⟩)], rw := [], log := [], stp := false }, ?_, ⟨m + 1, by omega, ?_, rfl, rfl, rfl⟩, rfl⟩
    · rw [eH]
      exact Wk.le .nil (.cons rfl (LLe.refl _) (.cons rfl (LLe.refl _) .nil)) .nil rfl rfl
    · rw [List.take_add_one, hb]; simp
  · rintro ⟨env, bx, rw, log, stp⟩ henv hstp ⟨m, hm, hpre, hbx, hrw, hlog⟩
    simp only at hbx hrw hlog henv hstp
    subst hbx hrw hlog henv hstp
    have hml : m = l.length := by
      have := congrArg List.length hpre
      simp at this; omega
    subst hml
    rw [List.take_length]
    refine Tr.regR rfl (by simp) (TrN.succ ?_)
    refine Tr.seqR rfl (by simp) (Tr.seq (Tr.condF rfl (Tr.exit ?_)))
    exact Tr.seqD rfl (by simp) (by kernel_rfl) (Tr.retX rfl rfl rfl rfl trivial)
  · intro e t _ h; exact h.elim

theorem c_tight {f : Fr} (hf : midF f) (h : (hullS (endsL f)).2 = true) : C Tryz.prog F.region_four_tight [.agg (fourC f)] (.tuple [.agg (fourC (hullS (endsL f)).1), I 0]) := by
  have kh := c_hull (plain_fr f) (i_ends hf)
  rw [h] at kh
  refine C_of mixed chk.region_four_tight (by simp) fun S ok => ?_
  refine Tr.seqR rfl (by simp) (Tr.seqC rfl (by simp) (Steps.call rfl rfl (c_ends f) (Steps.run rfl (by simp) (Steps.call rfl rfl kh (Steps.fin rfl (by simp) ?_)))))
  refine Tr.seq (Tr.seqR rfl (by simp) (Tr.condF rfl (Tr.skip ?_)))
  exact Tr.seqR rfl (by simp) (Tr.retX rfl rfl rfl rfl trivial)

end Go.Proofs.YtdejdblopmfjfaaGreatDoor


/-! Contracts: grids; the cell of two places. -/
set_option linter.unusedVariables false
set_option linter.unusedSimpArgs false
set_option maxRecDepth 20000
set_option maxHeartbeats 2000000
namespace Go.Proofs.YtdejdblopmfjfaaGreatDoor
open Go.Am
attribute [local simp] cells scalar mkv splice under2 under dem dem1 eB
def planeB (p : Int × Int) : Bool := btw p.1 (-32768) 32768 && btw p.2 (-32768) 32768

theorem into_ne {l n : Int} (h : ¬ (-l ≤ n ∧ n ≤ l)) (hl : 0 ≤ l) : intoL l n ≠ n := by unfold intoL; omega

theorem c_CheckPointF (p : Int × Int) : C Tryz.prog F.region_CheckPoint [eB p] (I (if planeB p then 0 else 10)) := by
  by_cases h : planeB p = true
  · rw [if_pos h]
    simp only [planeB, Bool.and_eq_true, btw_iff] at h
    exact c_CheckPoint (by unfold inPlane; omega)
  rw [if_neg h]
  have h : planeB p = false := by simpa using h
  refine C_of mixed chk.region_CheckPoint (by simp) fun S ok => ?_
  have k1 := c_into (l := 32768) p.1 (by omega)
  have k2 := c_into (l := 32768) p.2 (by omega)
  refine Tr.seqR rfl (by simp) (Tr.seq (Tr.seqR rfl (by simp) (Tr.block ?_)))
  refine Tr.rounds 3 (TrN.succ ?_)
  refine Tr.seqR rfl (by simp) (Tr.seq (Tr.condT rfl (Tr.skip (Tr.seq (Tr.block (Tr.seqR rfl (by simp) ?_))))))
  refine Tr.seqC rfl (by simp) (Steps.call rfl rfl k1 (Steps.fin rfl (by simp) (Tr.cond rfl rfl (fun _ => Tr.seqR rfl (by simp) (Tr.retX rfl rfl rfl rfl trivial)) (fun h1 => Tr.skip (Tr.regR rfl (by simp) (TrN.succ ?_))))))
  refine Tr.seqR rfl (by simp) (Tr.seq (Tr.condT rfl (Tr.skip (Tr.seq (Tr.block (Tr.seqR rfl (by simp) ?_))))))
  refine Tr.seqC rfl (by simp) (Steps.call rfl rfl k2 (Steps.fin rfl (by simp) (Tr.cond rfl rfl (fun _ => Tr.seqR rfl (by simp) (Tr.retX rfl rfl rfl rfl trivial)) (fun h2 => ?_))))
  exfalso
  have h1 : (intoL 32768 p.1 != p.1) = false := h1
  have h2 : (intoL 32768 p.2 != p.2) = false := h2
  simp at h1 h2
  have g1 : -32768 ≤ p.1 ∧ p.1 ≤ 32768 := by
    by_cases g : -32768 ≤ p.1 ∧ p.1 ≤ 32768
    · exact g
    · exact absurd h1 (into_ne g (by omega))
  have g2 : -32768 ≤ p.2 ∧ p.2 ≤ 32768 := by
    by_cases g : -32768 ≤ p.2 ∧ p.2 ≤ 32768
    · exact g
    · exact absurd h2 (into_ne g (by omega))
  have : planeB p = true := by simp only [planeB, Bool.and_eq_true, btw_iff]; omega
  rw [h] at this; cases this

/-! ### Grids -/
structure Gd where
  o : Int × Int
  size : Int
  a : Int
  d : Int
  cls : List (Int × Int)

def gridC (g : Gd) : List V := [I g.o.1, I g.o.2, I g.size, I g.a, I g.d, sB g.cls]
attribute [local simp] gridC sB
def clsOk : Int → List (Int × Int) → Bool
  | _, [] => true
  | last, c :: r => decide (last < c.1) && decide (c.1 ≤ c.2) && decide (c.2 ≤ 17179869184) && clsOk c.2 r

def gridOk (g : Gd) : Bool := planeB g.o && btw g.size 1 1000 && btw g.a 1 16 && btw g.d 1 16 && btw g.cls.length 1 4 && clsOk (-1) g.cls

theorem cls_drop {l : List (Int × Int)} {k : Nat} (h : k < l.length) (last : Int) : clsOk last (l.drop k) = (decide (last < l[k].1) && decide (l[k].1 ≤ l[k].2) && decide (l[k].2 ≤ 17179869184) && clsOk l[k].2 (l.drop (k + 1))) := by
  rw [List.drop_eq_getElem_cons h]; rfl

theorem c_CheckGrid {g : Gd} (hl : g.cls.length ≤ 9223372036854775807) : C Tryz.prog F.bin_CheckGrid [.agg (gridC g)] (I (if gridOk g then 0 else 70)) := by
  refine C_of mixed chk.bin_CheckGrid (by simp) fun S ok => ?_
  refine Tr.seqR rfl (by simp) ?_
  refine Tr.seq (Tr.seqC rfl (by simp) (Steps.call rfl rfl (c_CheckPointF g.o) (Steps.run rfl (by simp) ?_)))
  refine Steps.gcall rfl rfl rfl rfl (by simp) (fun _ => c_within g.size 1 1000) (Steps.run rfl (by simp) ?_)
  refine Steps.gcall rfl rfl rfl rfl (by simp) (fun _ => c_within g.a 1 16) (Steps.run rfl (by simp) ?_)
  refine Steps.gcall rfl rfl rfl rfl (by simp) (fun _ => c_within g.d 1 16) (Steps.run rfl (by simp) ?_)
  refine Steps.gcall rfl rfl rfl rfl (by simp) (fun _ => c_within ((g.cls.map eB).length : Int) 1 4) (Steps.fin rfl (by simp) ?_)
  have hlen : (((g.cls.map eB).length : Int)) = (g.cls.length : Int) := by simp
  refine Tr.cond rfl rfl (fun h1 => ?_) (fun h1 => Tr.skip ?_)
  · refine Tr.seqR rfl (by simp) (Tr.retX rfl rfl rfl ?_ trivial)
    have : gridOk g = false := by
      revert h1
      simp only [gridOk, hlen]
      cases planeB g.o <;> cases btw g.size 1 1000 <;> cases btw g.a 1 16 <;> cases btw g.d 1 16 <;> cases btw (g.cls.length : Int) 1 4 <;> first | (intro _; rfl) | (intro h; cases h)
    rw [this]; rfl
  have hok : gridOk g = clsOk (-1) g.cls := by
    revert h1
    simp only [gridOk, hlen]
    cases planeB g.o <;> cases btw g.size 1 1000 <;> cases btw g.a 1 16 <;> cases btw g.d 1 16 <;> cases btw (g.cls.length : Int) 1 4 <;> first | (intro _; rfl) | (intro h; cases h)
  rw [hok]
  refine Tr.seqR rfl (by simp) (Tr.seq (Tr.seqR rfl (by simp) (Tr.block ?_)))
  refine Tr.loop (α := Nat × Int) (fun p s => (p.1 ≤ g.cls.length ∧ clsOk (-1) g.cls = clsOk p.2 (g.cls.drop p.1)) ∧ s = { env := [(3, I p.2), (36, sB g.cls), (37, I (g.cls.length : Nat)), (38, I (p.1 : Nat))], bx := [], rw := [], log := [], stp := false }) (fun p => g.cls.length - p.1) (0, -1)
    (Wk.le (.cons rfl (.refl _) (.cons rfl (.refl _) (.cons rfl (VLe.i hlen) (.cons rfl (.refl _) .nil)))) .nil .nil rfl rfl) ⟨⟨by simp, by simp⟩, rfl⟩ ?_
  rintro ⟨k, last⟩ s ⟨⟨hk, hf⟩, rfl⟩
  simp only at hk hf
  refine Tr.seqR rfl (by simp) (Tr.seqI rfl (fun h2 => ?_) (fun h2 => ?_))
  · have h2 : k < g.cls.length := by simpa using h2
    rw [cls_drop h2] at hf
    refine Tr.skipT (Tr.seq (Tr.block (Tr.seq (Tr.reg (Steps.runN 1 rfl (by simp; omega) ?_)))))
    rw [getD_map h2]
    refine Steps.fin rfl (by simp) (Tr.seq (Tr.seqR rfl (by simp) (Tr.cond rfl rfl (fun h3 => ?_) (fun h3 => Tr.skip ?_))))
    · refine Tr.seqR rfl (by simp) (Tr.retX rfl rfl rfl ?_ trivial)
      have : clsOk (-1) g.cls = false := by
        rw [hf]
        have h3 : (bif (bif decide (g.cls[k].1 ≤ last) then true else decide (g.cls[k].1 > g.cls[k].2)) then true else decide (g.cls[k].2 > 17179869184)) = true := h3
        by_cases a1 : g.cls[k].1 ≤ last
        · rw [decide_eq_false (by omega : ¬ last < g.cls[k].1)]; rfl
        · by_cases a2 : g.cls[k].1 > g.cls[k].2
          · rw [decide_eq_false (by omega : ¬ g.cls[k].1 ≤ g.cls[k].2)]; simp
          · rw [decide_eq_false a1, decide_eq_false a2] at h3
            simp only [cond_false, decide_eq_true_eq] at h3
            rw [decide_eq_false (by omega : ¬ g.cls[k].2 ≤ 17179869184)]; simp
      rw [this]; rfl
    · have h3 : (bif (bif decide (g.cls[k].1 ≤ last) then true else decide (g.cls[k].1 > g.cls[k].2)) then true else decide (g.cls[k].2 > 17179869184)) = false := h3
      have h3' : (last < g.cls[k].1 ∧ g.cls[k].1 ≤ g.cls[k].2) ∧ g.cls[k].2 ≤ 17179869184 := by
        by_cases a1 : g.cls[k].1 ≤ last
        · rw [decide_eq_true a1] at h3; cases h3
        · by_cases a2 : g.cls[k].1 > g.cls[k].2
          · rw [decide_eq_false a1, decide_eq_true a2] at h3; cases h3
          · rw [decide_eq_false a1, decide_eq_false a2] at h3
            simp only [cond_false, decide_eq_false_iff_not] at h3
            omega
      rw [decide_eq_true h3'.1.1, decide_eq_true h3'.1.2, decide_eq_true h3'.2] at hf
      refine Tr.regR rfl (by simp) (Tr.regR rfl (by simp) ?_)
      exact ⟨(k + 1, g.cls[k].2), _, Wk.le (.cons rfl (.refl _) (.cons rfl (.refl _) (.cons rfl (.refl _) (.cons rfl (VLe.i (w64 (by omega) (by omega))) .nil)))) .nil .nil rfl rfl, ⟨⟨by simp; omega, by simpa using hf⟩, rfl⟩, by simp; omega⟩
  · have h2 : k = g.cls.length := by simp at h2; omega
    subst h2
    rw [List.drop_length] at hf
    refine Tr.exit (Tr.seqR rfl (by simp) (Tr.retX rfl rfl rfl ?_ trivial))
    rw [hf]; rfl

end Go.Proofs.YtdejdblopmfjfaaGreatDoor


/-! Contracts: the cell of two places. -/
set_option linter.unusedVariables false
set_option linter.unusedSimpArgs false
set_option maxRecDepth 20000
set_option maxHeartbeats 2000000
namespace Go.Proofs.YtdejdblopmfjfaaGreatDoor
open Go.Am
attribute [local simp] cells scalar mkv splice under2 under dem dem1 eB gridC sB
theorem floor_eq {a b : Int} (hb : 0 < b) : (if a.tmod b < 0 then a.tdiv b - 1 else a.tdiv b) = a / b := by
  have h1 := Int.mul_tdiv_add_tmod a b
  have h2 := Int.tmod_lt_of_pos a hb
  have h3 := Int.lt_tmod_of_pos a hb
  split
  · rename_i h
    refine ((Int.ediv_emod_unique hb (r := a.tmod b + b) (q := a.tdiv b - 1)).2 ⟨?_, by omega, by omega⟩).1.symm
    rw [Int.mul_sub]; omega
  · refine ((Int.ediv_emod_unique hb (r := a.tmod b) (q := a.tdiv b)).2 ⟨by omega, by omega, by omega⟩).1.symm

theorem tdiv_bd {a b : Int} (hb : 0 < b) {K : Int} (h : -K ≤ a ∧ a ≤ K) : -K ≤ a.tdiv b ∧ a.tdiv b ≤ K := by
  have h1 := Int.natAbs_tdiv_le_natAbs a b
  omega

theorem c_floor {a b : Int} (hb : 0 < b) (ha : -1000000000000 ≤ a ∧ a ≤ 1000000000000) : C Tryz.prog F.bin_floor [I a, I b] (I (a / b)) := by
  have hq := tdiv_bd hb ha
  have e := floor_eq (a := a) hb
  have ew : IntKind.wrap .i64 (a.tdiv b) = a.tdiv b := w64 (by omega) (by omega)
  refine C_of mixed chk.bin_floor (by simp) fun S ok => ?_
  refine Tr.seqR rfl (by simp) (Tr.seqR rfl (by simp; omega) ?_)
  refine Tr.seq (Tr.seqR rfl (by simp; omega) (Tr.cond rfl rfl (fun h => Tr.regR rfl (by simp) ?_) (fun h => Tr.skip ?_)))
  · have h : a.tmod b < 0 := by simpa using h
    rw [if_pos h] at e
    refine Tr.seqR rfl (by simp) (Tr.retX rfl rfl rfl ?_ trivial)
    rw [← e]
    show I (a.tdiv b - 1) = I (IntKind.wrap .i64 (IntKind.wrap .i64 (a.tdiv b) - 1))
    rw [ew, w64 (by omega) (by omega)]
  · have h : ¬ a.tmod b < 0 := by simpa using h
    rw [if_neg h] at e
    refine Tr.seqR rfl (by simp) (Tr.retX rfl rfl rfl ?_ trivial)
    rw [← e]
    show I (a.tdiv b) = I (IntKind.wrap .i64 (a.tdiv b))
    rw [ew]

/-- The class of a squared distance. -/
def clsAt (n : Int) : List (Int × Int) → Nat → Option Nat
  | [], _ => none
  | c :: r, i => if btw n c.1 c.2 then some i else clsAt n r (i + 1)

theorem clsAt_drop {l : List (Int × Int)} {k : Nat} (h : k < l.length) (n : Int) : clsAt n (l.drop k) k = if btw n l[k].1 l[k].2 then some k else clsAt n (l.drop (k + 1)) (k + 1) := by
  rw [List.drop_eq_getElem_cons h]; rfl

def colN (g : Gd) (a b : Int × Int) : Int := (a.1 + b.1 - 2 * g.o.1) / (2 * g.size)
def rowN (g : Gd) (a b : Int × Int) : Int := (a.2 + b.2 - 2 * g.o.2) / (2 * g.size)
def sqN (a b : Int × Int) : Int := (a.1 - b.1) * (a.1 - b.1) + (a.2 - b.2) * (a.2 - b.2)
def cellN (g : Gd) (a b : Int × Int) : Int × Int :=
  if btw (colN g a b) 0 (g.a - 1) && btw (rowN g a b) 0 (g.d - 1) then (match clsAt (sqN a b) g.cls 0 with | some i => (rowN g a b * g.a + colN g a b, (i : Int)) | none => (-1, -1)) else (-1, -1)

theorem gridOk_spec {g : Gd} (h : gridOk g = true) : ((-32768 ≤ g.o.1 ∧ g.o.1 ≤ 32768) ∧ -32768 ≤ g.o.2 ∧ g.o.2 ≤ 32768) ∧ (1 ≤ g.size ∧ g.size ≤ 1000) ∧ (1 ≤ g.a ∧ g.a ≤ 16) ∧ (1 ≤ g.d ∧ g.d ≤ 16) ∧ (1 ≤ g.cls.length ∧ g.cls.length ≤ 4) ∧ clsOk (-1) g.cls = true := by
  simp only [gridOk, planeB, Bool.and_eq_true, btw_iff] at h
  obtain ⟨⟨⟨⟨⟨h1, h2⟩, h3⟩, h4⟩, h5⟩, h6⟩ := h
  exact ⟨h1, h2, h3, h4, by omega, h6⟩

theorem planeB_spec {p : Int × Int} (h : planeB p = true) : (-32768 ≤ p.1 ∧ p.1 ≤ 32768) ∧ -32768 ≤ p.2 ∧ p.2 ≤ 32768 := by
  simpa only [planeB, Bool.and_eq_true, btw_iff] using h

theorem sq64 {x : Int} (h : -65536 ≤ x ∧ x ≤ 65536) : 0 ≤ x * x ∧ x * x ≤ 4294967296 := by
  have h1 : 0 ≤ x * x := by
    rcases Int.le_total 0 x with h | h
    · exact Int.mul_nonneg h h
    · have := Int.mul_nonneg (Int.neg_nonneg_of_nonpos h) (Int.neg_nonneg_of_nonpos h)
      rwa [Int.neg_mul_neg] at this
  have h2 := Int.mul_nonneg (show 0 ≤ 65536 - x by omega) (show 0 ≤ 65536 + x by omega)
  rw [Int.sub_mul, Int.mul_add, Int.mul_add, Int.mul_comm x 65536] at h2
  omega

theorem c_cell {g : Gd} (hg : gridOk g = true) {a b : Int × Int} (ha : planeB a = true) (hb : planeB b = true) : C Tryz.prog F.bin_cell [.agg (gridC g), eB a, eB b] (eB (cellN g a b)) := by
  obtain ⟨ho, hsz, hga, hgd, hcl, _⟩ := gridOk_spec hg
  have ha' := planeB_spec ha
  have hb' := planeB_spec hb
  have k1 := c_floor (a := a.1 + b.1 - 2 * g.o.1) (b := 2 * g.size) (by omega) (by omega)
  have k2 := c_floor (a := a.2 + b.2 - 2 * g.o.2) (b := 2 * g.size) (by omega) (by omega)
  have e1 : IntKind.wrap .i64 (IntKind.wrap .i64 (a.1 + b.1) - IntKind.wrap .i64 (2 * g.o.1)) = a.1 + b.1 - 2 * g.o.1 := by
    rw [w64 (n := a.1 + b.1) (by omega) (by omega), w64 (n := 2 * g.o.1) (by omega) (by omega), w64 (by omega) (by omega)]
  have e2 : IntKind.wrap .i64 (IntKind.wrap .i64 (a.2 + b.2) - IntKind.wrap .i64 (2 * g.o.2)) = a.2 + b.2 - 2 * g.o.2 := by
    rw [w64 (n := a.2 + b.2) (by omega) (by omega), w64 (n := 2 * g.o.2) (by omega) (by omega), w64 (by omega) (by omega)]
  have e3 : IntKind.wrap .i64 (2 * g.size) = 2 * g.size := w64 (by omega) (by omega)
  rw [← e1, ← e3] at k1
  rw [← e2, ← e3] at k2
  refine C_of mixed chk.bin_cell (by simp) fun S ok => ?_
  refine Tr.seqR rfl (by simp) ?_
  refine Tr.seq (Tr.drawK (TraceK.run rfl (by simp) (TraceK.call rfl rfl k1 (TraceK.run rfl (by simp) (TraceK.call rfl rfl k2 ?_)))))
  refine TraceK.run rfl (by simp) (.done ⟨by kernel_rfl, by kernel_rfl, ?_⟩)
  refine Tr.weak (s' := { env := [(3, .ptr 3 0), (4, .ptr 4 0), (5, .ptr 5 0), (6, .ptr 6 0), (7, I (colN g a b)), (8, I (rowN g a b))], bx := [(3, ⟨gridC g, false⟩), (4, ⟨[I a.1, I a.2], false⟩), (5, ⟨[I b.1, I b.2], false⟩), (6, ⟨[I 0, I 0], false⟩)], rw := [], log := [], stp := false })
    (Wk.le (.cons rfl (.refl _) (.cons rfl (.refl _) (.cons rfl (.refl _) (.cons rfl (.refl _) (.cons rfl (VLe.i ?_) (.cons rfl (VLe.i ?_) .nil)))))) (.cons rfl (LLe.refl _) (.cons rfl (LLe.refl _) (.cons rfl (LLe.refl _) (.cons rfl (LLe.refl _) .nil)))) .nil rfl rfl) ?_
  · rw [e1, e3]; rfl
  · rw [e2, e3]; rfl
  have hwa : IntKind.wrap .i64 (g.a - 1) = g.a - 1 := w64 (by omega) (by omega)
  have hwd : IntKind.wrap .i64 (g.d - 1) = g.d - 1 := w64 (by omega) (by omega)
  refine Tr.seq (Tr.seqC rfl (by simp) (Steps.call rfl rfl (c_within (colN g a b) 0 (IntKind.wrap .i64 (g.a - 1))) (Steps.run rfl (by simp) ?_)))
  refine Steps.gcall rfl rfl rfl rfl (by simp) (fun _ => c_within (rowN g a b) 0 (IntKind.wrap .i64 (g.d - 1))) (Steps.fin rfl (by simp) ?_)
  rw [hwa, hwd]
  have hnone : ∀ {s : St} {K : St → Prop} {d : Nat} {rest : List Ins}, Am.Steps (env0 Tryz.prog mixed 96 S ok) rest K (s.put (some d) (.agg [I (-1), I (-1)])) → Am.Steps (env0 Tryz.prog mixed 96 S ok) (⟨some d, .load 2 true, [.c (.rptr 0 0)], none⟩ :: rest) K s := fun h =>
    Steps.gload (g := 0) (cs := [I (-1), I (-1)]) (by simp [globalsV]) rfl (by simp) h
  refine Tr.cond rfl rfl (fun h1 => ?_) (fun h1 => Tr.skip ?_)
  · refine Tr.seq (Tr.reg (hnone (Steps.fin rfl (by simp) (Tr.retX rfl rfl rfl ?_ trivial))))
    have : (btw (colN g a b) 0 (g.a - 1) && btw (rowN g a b) 0 (g.d - 1)) = false := by
      revert h1
      cases btw (colN g a b) 0 (g.a - 1) <;> cases btw (rowN g a b) 0 (g.d - 1) <;> first | (intro _; rfl) | (intro h; cases h)
    simp [packR, cellN, this]
  have hin : (btw (colN g a b) 0 (g.a - 1) && btw (rowN g a b) 0 (g.d - 1)) = true := by
    revert h1
    cases btw (colN g a b) 0 (g.a - 1) <;> cases btw (rowN g a b) 0 (g.d - 1) <;> first | (intro _; rfl) | (intro h; cases h)
  have hin2 := hin
  simp only [Bool.and_eq_true, btw_iff] at hin2
  have s1 := sq64 (x := a.1 - b.1) (by omega)
  have s2 := sq64 (x := a.2 - b.2) (by omega)
  have w1 : IntKind.wrap .i64 (a.1 - b.1) = a.1 - b.1 := w64 (by omega) (by omega)
  have w2 : IntKind.wrap .i64 (a.2 - b.2) = a.2 - b.2 := w64 (by omega) (by omega)
  refine Tr.seqD rfl (by simp) (by kernel_rfl) ?_
  refine Tr.seq (Tr.seqR rfl (by simp) (Tr.block ?_))
  refine Tr.loop (fun (k : Nat) s => (k ≤ g.cls.length ∧ clsAt (sqN a b) g.cls 0 = clsAt (sqN a b) (g.cls.drop k) k) ∧ s = { env := [(3, .ptr 3 0), (6, .ptr 6 0), (7, I (colN g a b)), (8, I (rowN g a b)), (9, I (a.1 - b.1)), (10, I (a.2 - b.2)), (67, sB g.cls), (68, I (g.cls.length : Nat)), (69, I (k : Nat))], bx := [(3, ⟨gridC g, false⟩), (6, ⟨[I 0, I 0], false⟩)], rw := [], log := [], stp := false }) (fun k => g.cls.length - k) 0
    (Wk.le (.cons rfl (.refl _) (.cons rfl (.refl _) (.cons rfl (.refl _) (.cons rfl (.refl _) (.cons rfl (VLe.i w1) (.cons rfl (VLe.i w2) (.cons rfl (.refl _) (.cons rfl (VLe.i (by simp)) (.cons rfl (.refl _) .nil))))))))) (.cons rfl (LLe.refl _) (.cons rfl (LLe.refl _) .nil)) .nil rfl rfl) ⟨⟨by omega, by simp⟩, rfl⟩ ?_
  rintro k s ⟨⟨hk, hf⟩, rfl⟩
  refine Tr.seqR rfl (by simp) (Tr.seqI rfl (fun h2 => ?_) (fun h2 => ?_))
  · have h2 : k < g.cls.length := by simpa using h2
    rw [clsAt_drop h2] at hf
    have w3 : IntKind.wrap .i64 ((a.1 - b.1) * (a.1 - b.1)) = (a.1 - b.1) * (a.1 - b.1) := w64 (by omega) (by omega)
    have w4 : IntKind.wrap .i64 ((a.2 - b.2) * (a.2 - b.2)) = (a.2 - b.2) * (a.2 - b.2) := w64 (by omega) (by omega)
    have w5 : IntKind.wrap .i64 (IntKind.wrap .i64 ((a.1 - b.1) * (a.1 - b.1)) + IntKind.wrap .i64 ((a.2 - b.2) * (a.2 - b.2))) = sqN a b := by rw [w3, w4]; exact w64 (by omega) (by omega)
    have kw := c_within (sqN a b) g.cls[k].1 g.cls[k].2
    rw [← w5] at kw
    refine Tr.skipT (Tr.seq (Tr.block (Tr.seq (Tr.reg (Steps.runN 2 rfl (by simp; omega) ?_)))))
    rw [getD_map h2]
    refine Steps.fin rfl (by simp) (Tr.seqC rfl (by simp) (Steps.call rfl rfl kw (Steps.fin rfl (by simp) ?_)))
    rw [w5]
    refine Tr.cond rfl rfl (fun h3 => ?_) (fun h3 => Tr.skip (Tr.regR rfl (by simp) ?_))
    · have h3 : btw (sqN a b) g.cls[k].1 g.cls[k].2 = true := h3
      rw [if_pos h3] at hf
      refine Tr.seqR rfl (by simp) (Tr.retX rfl rfl rfl ?_ trivial)
      have m1 : 0 ≤ rowN g a b * g.a ∧ rowN g a b * g.a ≤ 256 := by
        refine ⟨Int.mul_nonneg (by omega) (by omega), ?_⟩
        have := Int.mul_le_mul (show rowN g a b ≤ 16 by omega) (show g.a ≤ 16 by omega) (by omega) (by omega)
        omega
      have e : IntKind.wrap .i64 (IntKind.wrap .i64 (rowN g a b * g.a) + colN g a b) = rowN g a b * g.a + colN g a b := by
        rw [w64 (n := rowN g a b * g.a) (by omega) (by omega), w64 (by omega) (by omega)]
      show eB (cellN g a b) = .agg [I (IntKind.wrap .i64 (IntKind.wrap .i64 (rowN g a b * g.a) + colN g a b)), I (k : Int)]
      rw [e]
      simp [cellN, hin, hf]
    · have h3 : btw (sqN a b) g.cls[k].1 g.cls[k].2 = false := h3
      rw [h3, if_neg (by simp)] at hf
      exact ⟨k + 1, _, Wk.le (.cons rfl (.refl _) (.cons rfl (.refl _) (.cons rfl (.refl _) (.cons rfl (.refl _) (.cons rfl (.refl _) (.cons rfl (.refl _) (.cons rfl (.refl _) (.cons rfl (.refl _) (.cons rfl (VLe.i (w64 (by omega) (by omega))) .nil))))))))) (.cons rfl (LLe.refl _) (.cons rfl (LLe.refl _) .nil)) .nil rfl rfl, ⟨⟨h2, hf⟩, rfl⟩, by omega⟩
  · have h2 : k = g.cls.length := by simp at h2; omega
    subst h2
    rw [List.drop_length] at hf
    refine Tr.exit (Tr.seq (Tr.reg (hnone (Steps.fin rfl (by simp) (Tr.retX rfl rfl rfl ?_ trivial)))))
    simp [packR, cellN, hin, hf, clsAt]

end Go.Proofs.YtdejdblopmfjfaaGreatDoor


/-! Contracts: layouts. -/
set_option linter.unusedVariables false
set_option linter.unusedSimpArgs false
set_option maxRecDepth 20000
set_option maxHeartbeats 2000000
namespace Go.Proofs.YtdejdblopmfjfaaGreatDoor
open Go.Am
attribute [local simp] cells scalar mkv splice under2 under dem dem1 eB gridC sB fourC
theorem c_Cell {g : Gd} (hl : g.cls.length ≤ 9223372036854775807) (a b : Int × Int) : C Tryz.prog F.bin_Cell [.agg (gridC g), eB a, eB b] (if gridOk g then (if planeB a && planeB b then .tuple [eB (cellN g a b), I 0] else .tuple [.agg [I 0, I 0], I 10]) else .tuple [.agg [I 0, I 0], I 70]) := by
  have kg := c_CheckGrid (g := g) hl
  refine C_of mixed chk.bin_Cell (by simp) fun S ok => ?_
  refine Tr.seqR rfl (by simp) ?_
  by_cases hg : gridOk g = true
  rotate_left
  · rw [if_neg hg] at kg
    refine Tr.seq (Tr.seqC rfl (by simp) (Steps.call rfl rfl kg (Steps.fin rfl (by simp) (Tr.seqR rfl (by simp) (Tr.condT rfl ?_)))))
    refine Tr.seqR rfl (by simp) (Tr.retX rfl rfl rfl ?_ trivial)
    rw [if_neg hg]; rfl
  rw [if_pos hg] at kg ⊢
  refine Tr.seq (Tr.seqC rfl (by simp) (Steps.call rfl rfl kg (Steps.fin rfl (by simp) (Tr.seqR rfl (by simp) (Tr.condF rfl (Tr.skip ?_))))))
  refine Tr.seq (Tr.seqC rfl (by simp) (Steps.call rfl rfl (c_CheckPointF a) (Steps.run rfl (by simp) (Steps.gcall rfl rfl rfl rfl (by simp) (fun _ => c_CheckPointF b) (Steps.fin rfl (by simp) ?_)))))
  refine Tr.cond rfl rfl (fun h1 => ?_) (fun h1 => Tr.skip ?_)
  · refine Tr.seqR rfl (by simp) (Tr.retX rfl rfl rfl ?_ trivial)
    have : (planeB a && planeB b) = false := by
      revert h1
      cases planeB a <;> cases planeB b <;> first | (intro _; rfl) | (intro h; cases h)
    rw [this]; rfl
  have hp : planeB a = true ∧ planeB b = true := by
    revert h1
    cases planeB a <;> cases planeB b <;> first | (intro _; exact ⟨rfl, rfl⟩) | (intro h; cases h)
  refine Tr.seqC rfl (by simp) (Steps.call rfl rfl (c_cell hg hp.1 hp.2) (Steps.fin rfl (by simp) (Tr.retX rfl rfl rfl ?_ trivial)))
  rw [hp.1, hp.2]; rfl

/-! ### Regions, checked -/
def fitBB (l : Int) (b : Int × Int) : Bool := decide (-l ≤ b.1) && decide (b.1 ≤ b.2) && decide (b.2 ≤ l)
def fitFB (f : Fr) : Bool := fitBB 32768 f.x && fitBB 32768 f.y && fitBB 65536 f.s && fitBB 65536 f.d

theorem fitFB_iff (f : Fr) : fitFB f = true ↔ fitF f := by
  simp only [fitFB, fitBB, Bool.and_eq_true, decide_eq_true_eq, fitF, fitB]
  omega

theorem c_fitsF {l : Int} (b : Int × Int) (hl : 0 ≤ l ∧ l ≤ 65536) : C Tryz.prog F.region_limit_fits [I l, eB b] (.bool (fitBB l b)) := by
  refine C_of mixed chk.region_limit_fits (by simp) fun S ok => ?_
  have e : IntKind.wrap .i64 (0 - l) = -l := by rw [w64 (by omega) (by omega)]; omega
  refine Tr.seqR rfl (by simp) (Tr.seqR rfl (by simp) (Tr.retQ rfl rfl ?_ trivial))
  show V.bool (fitBB l b) = .bool (bif (bif decide (b.1 ≥ IntKind.wrap .i64 (0 - l)) then decide (b.1 ≤ b.2) else false) then decide (b.2 ≤ l) else false)
  rw [e, fitBB]
  congr 1
  by_cases h1 : -l ≤ b.1 <;> by_cases h2 : b.1 ≤ b.2 <;> simp [h1, h2]

theorem c_CheckF (f : Fr) : C Tryz.prog F.region_Check [.agg (fourC f)] (I (if fitFB f then 0 else 11)) := by
  refine C_of mixed chk.region_Check (by simp) fun S ok => ?_
  refine Tr.seqR rfl (by simp) (Tr.seqR rfl (by simp) (Tr.seq (Tr.seqC rfl (by simp) (Steps.call rfl rfl (c_bounds f) (Steps.fin rfl (by simp) (Tr.block ?_))))))
  refine Tr.rounds 5 (TrN.succ ?_)
  refine Tr.weak (s' := { env := [(3, .ptr 3 0), (12, .agg (fourC f)), (13, I 0)], bx := [(3, ⟨[.func (.func F.region_limit_fits) [I 32768] [], .func (.func F.region_limit_fits) [I 32768] [], .func (.func F.region_limit_fits) [I 65536] [], .func (.func F.region_limit_fits) [I 65536] []], false⟩)], rw := [], log := [], stp := false })
    (Wk.le (.cons rfl (.refl _) (.cons rfl (.refl _) (.cons rfl (VLe.i rfl) .nil))) (.cons rfl (LLe.refl _) .nil) .nil rfl rfl) ?_
  refine Tr.seqR rfl (by simp) (Tr.seq (Tr.condT rfl (Tr.skip (Tr.seq (Tr.block (Tr.seqR rfl (by simp) (Tr.seq ?_)))))))
  refine Tr.drawK (TraceK.run rfl (by simp) (TraceK.callv rfl rfl (c_fitsF (l := 32768) f.x (by omega)) (TraceK.run rfl (by simp) (.done ⟨by kernel_rfl, by kernel_rfl, ?_⟩))))
  refine Tr.cond rfl rfl (fun h0 => Tr.seqR rfl (by simp) (Tr.retX rfl rfl rfl ?_ trivial)) (fun h0 => Tr.skip (Tr.regR rfl (by simp) (TrN.succ ?_)))
  · have h0 : fitBB 32768 f.x = false := by simpa using h0
    simp [packR, fitFB, h0]
  have h0 : fitBB 32768 f.x = true := by simpa using h0
  refine Tr.weak (s' := { env := [(3, .ptr 3 0), (12, .agg (fourC f)), (13, I 1)], bx := [(3, ⟨[.func (.func F.region_limit_fits) [I 32768] [], .func (.func F.region_limit_fits) [I 32768] [], .func (.func F.region_limit_fits) [I 65536] [], .func (.func F.region_limit_fits) [I 65536] []], false⟩)], rw := [], log := [], stp := false })
    (Wk.le (.cons rfl (.refl _) (.cons rfl (.refl _) (.cons rfl (VLe.i rfl) .nil))) (.cons rfl (LLe.refl _) .nil) .nil rfl rfl) ?_
  refine Tr.seqR rfl (by simp) (Tr.seq (Tr.condT rfl (Tr.skip (Tr.seq (Tr.block (Tr.seqR rfl (by simp) (Tr.seq ?_)))))))
  refine Tr.drawK (TraceK.run rfl (by simp) (TraceK.callv rfl rfl (c_fitsF (l := 32768) f.y (by omega)) (TraceK.run rfl (by simp) (.done ⟨by kernel_rfl, by kernel_rfl, ?_⟩))))
  refine Tr.cond rfl rfl (fun h1 => Tr.seqR rfl (by simp) (Tr.retX rfl rfl rfl ?_ trivial)) (fun h1 => Tr.skip (Tr.regR rfl (by simp) (TrN.succ ?_)))
  · have h1 : fitBB 32768 f.y = false := by simpa using h1
    simp [packR, fitFB, h1]
  have h1 : fitBB 32768 f.y = true := by simpa using h1
  refine Tr.weak (s' := { env := [(3, .ptr 3 0), (12, .agg (fourC f)), (13, I 2)], bx := [(3, ⟨[.func (.func F.region_limit_fits) [I 32768] [], .func (.func F.region_limit_fits) [I 32768] [], .func (.func F.region_limit_fits) [I 65536] [], .func (.func F.region_limit_fits) [I 65536] []], false⟩)], rw := [], log := [], stp := false })
    (Wk.le (.cons rfl (.refl _) (.cons rfl (.refl _) (.cons rfl (VLe.i rfl) .nil))) (.cons rfl (LLe.refl _) .nil) .nil rfl rfl) ?_
  refine Tr.seqR rfl (by simp) (Tr.seq (Tr.condT rfl (Tr.skip (Tr.seq (Tr.block (Tr.seqR rfl (by simp) (Tr.seq ?_)))))))
  refine Tr.drawK (TraceK.run rfl (by simp) (TraceK.callv rfl rfl (c_fitsF (l := 65536) f.s (by omega)) (TraceK.run rfl (by simp) (.done ⟨by kernel_rfl, by kernel_rfl, ?_⟩))))
  refine Tr.cond rfl rfl (fun h2 => Tr.seqR rfl (by simp) (Tr.retX rfl rfl rfl ?_ trivial)) (fun h2 => Tr.skip (Tr.regR rfl (by simp) (TrN.succ ?_)))
  · have h2 : fitBB 65536 f.s = false := by simpa using h2
    simp [packR, fitFB, h2]
  have h2 : fitBB 65536 f.s = true := by simpa using h2
  refine Tr.weak (s' := { env := [(3, .ptr 3 0), (12, .agg (fourC f)), (13, I 3)], bx := [(3, ⟨[.func (.func F.region_limit_fits) [I 32768] [], .func (.func F.region_limit_fits) [I 32768] [], .func (.func F.region_limit_fits) [I 65536] [], .func (.func F.region_limit_fits) [I 65536] []], false⟩)], rw := [], log := [], stp := false })
    (Wk.le (.cons rfl (.refl _) (.cons rfl (.refl _) (.cons rfl (VLe.i rfl) .nil))) (.cons rfl (LLe.refl _) .nil) .nil rfl rfl) ?_
  refine Tr.seqR rfl (by simp) (Tr.seq (Tr.condT rfl (Tr.skip (Tr.seq (Tr.block (Tr.seqR rfl (by simp) (Tr.seq ?_)))))))
  refine Tr.drawK (TraceK.run rfl (by simp) (TraceK.callv rfl rfl (c_fitsF (l := 65536) f.d (by omega)) (TraceK.run rfl (by simp) (.done ⟨by kernel_rfl, by kernel_rfl, ?_⟩))))
  refine Tr.cond rfl rfl (fun h3 => Tr.seqR rfl (by simp) (Tr.retX rfl rfl rfl ?_ trivial)) (fun h3 => Tr.skip (Tr.regR rfl (by simp) (TrN.succ ?_)))
  · have h3 : fitBB 65536 f.d = false := by simpa using h3
    simp [packR, fitFB, h3]
  have h3 : fitBB 65536 f.d = true := by simpa using h3
  refine Tr.seqR rfl (by simp) (Tr.seq (Tr.condF rfl (Tr.exit ?_)))
  refine Tr.seqR rfl (by simp) (Tr.retX rfl rfl rfl ?_ trivial)
  simp [packR, fitFB, h0, h1, h2, h3]

theorem mid_of {f : Fr} (h : fitFB f = true) : midF f := by
  have h := (fitFB_iff f).1 h
  obtain ⟨⟨⟨h1, h2, h3⟩, h4, h5, h6⟩, ⟨h7, h8, h9⟩, h10, h11, h12⟩ := h
  unfold midF; omega

/-! ### How many places -/
def rowM (r : Int × Int × Int) : Int := r.2.2 - r.2.1 + 1
def countN (f : Fr) : Int := ((rowsL f).map rowM).foldl (· + ·) 0

theorem rows_bd {f : Fr} (h : midF f) : ∀ (n : Nat) (x : Int) (r : Int × Int × Int), r ∈ rowsN f n x → -1000000 ≤ r.2.1 ∧ r.2.1 ≤ r.2.2 ∧ r.2.2 ≤ 1000000
  | 0, x, r, hr => by cases hr
  | n + 1, x, r, hr => by
    simp only [rowsN] at hr
    split at hr
    · rename_i h1
      rcases List.mem_cons.1 hr with rfl | hr
      · obtain ⟨_, ⟨⟨h2, h3⟩, h4, h5⟩, _⟩ := h
        refine ⟨?_, h1, ?_⟩
        · show -1000000 ≤ lowY f x
          unfold lowY; omega
        · show highY f x ≤ 1000000
          unfold highY; omega
      · exact rows_bd h n (x + 1) r hr
    · exact rows_bd h n (x + 1) r hr

theorem rowsN_len (f : Fr) : ∀ (n : Nat) (x : Int), (rowsN f n x).length ≤ n
  | 0, x => by simp [rowsN]
  | n + 1, x => by
    have := rowsN_len f n (x + 1)
    simp only [rowsN]
    split <;> simp <;> omega

theorem sum_bd : ∀ (l : List (Int × Int × Int)) (a : Int), (∀ r ∈ l, -1000000 ≤ r.2.1 ∧ r.2.1 ≤ r.2.2 ∧ r.2.2 ≤ 1000000) → a ≤ (l.map rowM).foldl (· + ·) a ∧ (l.map rowM).foldl (· + ·) a ≤ a + l.length * 2000001
  | [], a, _ => by simp
  | r :: l, a, h => by
    have h1 := h r (by simp)
    have h2 := sum_bd l (a + rowM r) (fun r hr => h r (by simp [hr]))
    simp only [List.map_cons, List.foldl_cons, List.length_cons]
    unfold rowM at h2 ⊢
    push_cast
    omega

theorem c_Count (f : Fr) : C Tryz.prog F.region_Count [.agg (fourC f)] (if fitFB f then .tuple [I (countN f), I 0] else .tuple [I 0, I 11]) := by
  have kc := c_CheckF f
  refine C_of mixed chk.region_Count (by simp) fun S ok => ?_
  refine Tr.seqR rfl (by simp) ?_
  by_cases hf : fitFB f = true
  rotate_left
  · rw [if_neg hf] at kc
    refine Tr.seq (Tr.seqC rfl (by simp) (Steps.call rfl rfl kc (Steps.fin rfl (by simp) (Tr.seqR rfl (by simp) (Tr.condT rfl ?_)))))
    refine Tr.seqR rfl (by simp) (Tr.retX rfl rfl rfl ?_ trivial)
    rw [if_neg hf]; rfl
  rw [if_pos hf] at kc ⊢
  have hm := mid_of hf
  have hlen : (rowsL f).length ≤ 2000001 := by
    have h1 := rowsN_len f (f.x.2 + 1 - f.x.1).toNat f.x.1
    obtain ⟨⟨⟨h2, h3⟩, h4, h5⟩, _⟩ := hm
    unfold rowsL; omega
  have hrb : ∀ r ∈ rowsL f, -1000000 ≤ r.2.1 ∧ r.2.1 ≤ r.2.2 ∧ r.2.2 ≤ 1000000 := fun r hr => rows_bd hm _ _ r hr
  refine Tr.seq (Tr.seqC rfl (by simp) (Steps.call rfl rfl kc (Steps.fin rfl (by simp) (Tr.seqR rfl (by simp) (Tr.condF rfl (Tr.skip ?_))))))
  refine Tr.seqR rfl (by simp) (Tr.seq (Tr.seqC rfl (by simp) (Steps.call rfl rfl (c_bounds f) (Steps.call rfl rfl (c_rows f) (Steps.fin rfl (by simp) (Tr.block ?_))))))
  refine Tr.weak (s' := { env := [(14, .func (.func F.region_four_rows_1) [] [.vptr (fourC f) 0]), (5, .ptr 5 0)], bx := [(5, ⟨[I 0], false⟩)], rw := [], log := [], stp := false })
    (Wk.le (.cons rfl (.refl _) (.cons rfl (.refl _) .nil)) (.cons rfl (LLe.refl _) .nil) .nil rfl rfl) ?_
  refine Tr.range rfl rfl (i_rows hm) rfl rfl rfl (by intro x hx; obtain ⟨b, _, rfl⟩ := List.mem_map.1 hx; rfl)
    (fun pre t => ∃ m, m ≤ (rowsL f).length ∧ pre = ((rowsL f).take m).map eRow ∧ t.bx = [(5, ⟨[I ((((rowsL f).take m).map rowM).foldl (· + ·) 0)], false⟩)] ∧ t.rw = [] ∧ t.log = [])
    (fun _ _ => False) ⟨0, by omega, rfl, rfl, rfl, rfl⟩ ?_ ?_ ?_
  · rintro a0 L0 rc0 h0 S1 S2 ok1 ok2 pre q t lp hpre ⟨m, hm', rfl, hbx, hrw, hlog⟩ henv hstp
    obtain ⟨env, bx, rw, log, stp⟩ := t
    simp only at hbx hrw hlog henv hstp
    subst hbx hrw hlog henv hstp
    have hmx : m < (rowsL f).length ∧ ∃ b, (rowsL f)[m]? = some b ∧ q = eRow b := by
      have h1 : (((rowsL f).take m).map eRow).length = m := by simp; omega
      have h2 := hpre.length_le
      simp at h2
      have hml : m < (rowsL f).length := by omega
      refine ⟨hml, _, List.getElem?_eq_getElem hml, ?_⟩
      have h3 := List.IsPrefix.getElem hpre (i := m) (by simp; omega)
      simp only [List.getElem_map] at h3
      rw [List.getElem_append_right (by omega)] at h3
      simpa using h3
    obtain ⟨hml, r, hb, rfl⟩ := hmx
    have hr := hrb r (List.mem_of_getElem? hb)
    have hs := sum_bd ((rowsL f).take m) 0 (fun r hr => hrb r (List.mem_of_mem_take hr))
    have hl2 : ((rowsL f).take m).length ≤ 2000001 := by rw [List.length_take]; omega
    have eT : ((rowsL f).take (m + 1)).map rowM = ((rowsL f).take m).map rowM ++ [rowM r] := by
      rw [List.take_add_one, hb, List.map_append]; rfl
    refine Tr.regR rfl (by simp) ?_
    refine Tr.block (Tr.regR rfl (by simp) ?_)
    refine ⟨{ env := [], bx := [(5, ⟨[I ((((rowsL f).take (m + 1)).map rowM).foldl (· + ·) 0)], false⟩)], rw := [], log := [], stp := false }, Wk.le .nil (.cons rfl (.cons (VLe.i ?_) .nil) .nil) .nil rfl rfl, ⟨m + 1, by omega, ?_, rfl, rfl, rfl⟩, rfl⟩
    · rw [eT, List.foldl_append]
      show IntKind.wrap .i64 ((((rowsL f).take m).map rowM).foldl (· + ·) 0 + IntKind.wrap .i64 (IntKind.wrap .i64 (r.2.2 - r.2.1) + 1)) = (((rowsL f).take m).map rowM).foldl (· + ·) 0 + rowM r
      unfold rowM at hs ⊢
      rw [w64 (n := r.2.2 - r.2.1) (by omega) (by omega), w64 (n := r.2.2 - r.2.1 + 1) (by omega) (by omega), w64 (by omega) (by omega)]
    · rw [List.take_add_one, hb]; simp
  · rintro ⟨env, bx, rw, log, stp⟩ henv hstp ⟨m, hm', hpre, hbx, hrw, hlog⟩
    simp only at hbx hrw hlog henv hstp
    subst hbx hrw hlog henv hstp
    have hml : m = (rowsL f).length := by
      have := congrArg List.length hpre
      simp at this; omega
    subst hml
    rw [List.take_length]
    exact Tr.seqR rfl (by simp) (Tr.retX rfl rfl rfl rfl trivial)
  · intro e t _ h; exact h.elim

end Go.Proofs.YtdejdblopmfjfaaGreatDoor


/-! Contracts: layouts, laid. -/
set_option linter.unusedVariables false
set_option linter.unusedSimpArgs false
set_option maxRecDepth 20000
set_option maxHeartbeats 2000000
namespace Go.Proofs.YtdejdblopmfjfaaGreatDoor
open Go.Am
attribute [local simp] cells scalar mkv splice under2 under dem dem1 eB gridC sB fourC
structure Ly where
  nodes : List Fr
  traces : List (Int × Int)

def eF (f : Fr) : V := .agg (fourC f)
def layC (s : Ly) : List V := [.slice 0 8 (s.nodes.map eF), .slice 0 2 (s.traces.map eB)]
attribute [local simp] eF layC
def nodeOk (f : Fr) : Bool := fitFB f && btw (countN f) 1 64
def traceOk (n : Nat) (t : Int × Int) : Bool := btw t.1 0 ((n : Int) - 1) && btw t.2 0 ((n : Int) - 1) && t.1 != t.2
def layOk (s : Ly) : Bool := decide (s.nodes.length ≤ 16) && decide (s.traces.length ≤ 64) && s.nodes.all nodeOk && s.traces.all (traceOk s.nodes.length)

theorem all_take_succ {α : Type} {p : α → Bool} {l : List α} {k : Nat} (h : k < l.length) : (l.take (k + 1)).all p = ((l.take k).all p && p l[k]) := by
  rw [List.take_add_one, List.getElem?_eq_getElem h, List.all_append]
  simp

theorem all_false {α : Type} {p : α → Bool} {l : List α} {k : Nat} (h : k < l.length) (hp : p l[k] = false) : l.all p = false := by
  rw [List.all_eq_false]
  exact ⟨_, List.getElem_mem h, by simp [hp]⟩

theorem c_CheckLayout {s : Ly} (hn : s.nodes.length ≤ 9223372036854775807) (ht : s.traces.length ≤ 9223372036854775807) : C Tryz.prog F.bin_CheckLayout [.agg (layC s)] (I (if layOk s then 0 else 71)) := by
  refine C_of mixed chk.bin_CheckLayout (by simp) fun S ok => ?_
  refine Tr.seqR rfl (by simp) (Tr.seq (Tr.seqR rfl (by simp) (Tr.cond rfl rfl (fun h1 => ?_) (fun h1 => Tr.skip ?_))))
  · refine Tr.seqR rfl (by simp) (Tr.retX rfl rfl rfl ?_ trivial)
    have h1 : (bif decide (((s.nodes.map eF).length : Int) > 16) then true else decide (((s.traces.map eB).length : Int) > 64)) = true := h1
    have : layOk s = false := by
      unfold layOk
      by_cases a1 : s.nodes.length ≤ 16
      · by_cases a2 : s.traces.length ≤ 64
        · simp at h1; omega
        · simp [a2]
      · simp [a1]
    rw [this]; rfl
  have h1 : (bif decide (((s.nodes.map eF).length : Int) > 16) then true else decide (((s.traces.map eB).length : Int) > 64)) = false := h1
  have hnl : s.nodes.length ≤ 16 ∧ s.traces.length ≤ 64 := by
    simp at h1; omega
  refine Tr.seq (Tr.seqR rfl (by simp) (Tr.block ?_))
  refine Tr.loop (fun (k : Nat) st => (k ≤ s.nodes.length ∧ (s.nodes.take k).all nodeOk = true) ∧ st = { env := [(1, .ptr 1 0), (20, .slice 0 8 (s.nodes.map eF)), (21, I (s.nodes.length : Nat)), (22, I (k : Nat))], bx := [(1, ⟨layC s, false⟩)], rw := [], log := [], stp := false }) (fun k => s.nodes.length - k) 0
    (Wk.le (.cons rfl (.refl _) (.cons rfl (.refl _) (.cons rfl (VLe.i (by simp)) (.cons rfl (.refl _) .nil)))) (.cons rfl (LLe.refl _) .nil) .nil rfl rfl) ⟨⟨by omega, by simp⟩, rfl⟩ ?_
  rintro k st ⟨⟨hk, hall⟩, rfl⟩
  refine Tr.seqR rfl (by simp) (Tr.seqI rfl (fun h2 => ?_) (fun h2 => ?_))
  · have h2 : k < s.nodes.length := by simpa using h2
    refine Tr.skipT (Tr.seq (Tr.block (Tr.seq (Tr.reg (Steps.runN 1 rfl (by simp; omega) ?_)))))
    rw [getD_map h2]
    refine Steps.fin rfl (by simp) ?_
    have kc := c_Count s.nodes[k]
    by_cases hf : fitFB s.nodes[k] = true
    · rw [if_pos hf] at kc
      refine Tr.seqC rfl (by simp) (Steps.call rfl rfl kc (Steps.fin rfl (by simp) ?_))
      refine Tr.seqC rfl (by simp) (Steps.gcall rfl rfl rfl rfl (by simp) (fun _ => c_within (countN s.nodes[k]) 1 64) (Steps.fin rfl (by simp) ?_))
      refine Tr.cond rfl rfl (fun h3 => ?_) (fun h3 => Tr.skip (Tr.regR rfl (by simp) ?_))
      · have h3 : btw (countN s.nodes[k]) 1 64 = false := by simpa using h3
        refine Tr.seqR rfl (by simp) (Tr.retX rfl rfl rfl ?_ trivial)
        have : layOk s = false := by
          unfold layOk
          rw [all_false (p := nodeOk) h2 (by simp [nodeOk, h3])]; simp
        rw [this]; rfl
      · have h3 : btw (countN s.nodes[k]) 1 64 = true := by simpa using h3
        exact ⟨k + 1, _, Wk.le (.cons rfl (.refl _) (.cons rfl (.refl _) (.cons rfl (.refl _) (.cons rfl (VLe.i (w64 (by omega) (by omega))) .nil)))) (.cons rfl (LLe.refl _) .nil) .nil rfl rfl, ⟨⟨h2, by rw [all_take_succ h2, hall]; simp [nodeOk, hf, h3]⟩, rfl⟩, by omega⟩
    · rw [if_neg hf] at kc
      refine Tr.seqC rfl (by simp) (Steps.call rfl rfl kc (Steps.fin rfl (by simp) ?_))
      refine Tr.seqC rfl (by simp) (Steps.off (want := false) (.bool true) rfl rfl rfl (Steps.fin rfl (by simp) ?_))
      refine Tr.condT rfl (Tr.seqR rfl (by simp) (Tr.retX rfl rfl rfl ?_ trivial))
      have : layOk s = false := by
        unfold layOk
        rw [all_false (p := nodeOk) h2 (by simp [nodeOk, hf])]; simp
      rw [this]; rfl
  have h2 : k = s.nodes.length := by simp at h2; omega
  subst h2
  rw [List.take_length] at hall
  refine Tr.exit (Tr.seq (Tr.seqR rfl (by simp) (Tr.block ?_)))
  refine Tr.loop (fun (k : Nat) st => (k ≤ s.traces.length ∧ (s.traces.take k).all (traceOk s.nodes.length) = true) ∧ st = { env := [(1, .ptr 1 0), (40, .slice 0 2 (s.traces.map eB)), (41, I (s.traces.length : Nat)), (42, I (k : Nat))], bx := [(1, ⟨layC s, false⟩)], rw := [], log := [], stp := false }) (fun k => s.traces.length - k) 0
    (Wk.le (.cons rfl (.refl _) (.cons rfl (.refl _) (.cons rfl (VLe.i (by simp)) (.cons rfl (.refl _) .nil)))) (.cons rfl (LLe.refl _) .nil) .nil rfl rfl) ⟨⟨by omega, by simp⟩, rfl⟩ ?_
  rintro k st ⟨⟨hk, hallT⟩, rfl⟩
  refine Tr.seqR rfl (by simp) (Tr.seqI rfl (fun h2 => ?_) (fun h2 => ?_))
  · have h2 : k < s.traces.length := by simpa using h2
    refine Tr.skipT (Tr.seq (Tr.block (Tr.seq (Tr.reg (Steps.runN 1 rfl (by simp; omega) ?_)))))
    rw [getD_map h2]
    refine Steps.fin rfl (by simp) ?_
    have hw1 : IntKind.wrap .i64 (((s.nodes.map eF).length : Int) - 1) = (s.nodes.length : Int) - 1 := by rw [List.length_map, w64 (by omega) (by omega)]
    refine Tr.seqC rfl (by simp) (Steps.call rfl rfl (c_within s.traces[k].1 0 (IntKind.wrap .i64 (((s.nodes.map eF).length : Int) - 1))) (Steps.run rfl (by simp) ?_))
    refine Steps.gcall rfl rfl rfl rfl (by simp) (fun _ => c_within s.traces[k].2 0 (IntKind.wrap .i64 (((s.nodes.map eF).length : Int) - 1))) (Steps.fin rfl (by simp) ?_)
    rw [hw1]
    have hT : traceOk s.nodes.length s.traces[k] = (btw s.traces[k].1 0 ((s.nodes.length : Int) - 1) && btw s.traces[k].2 0 ((s.nodes.length : Int) - 1) && !(s.traces[k].1 == s.traces[k].2)) := rfl
    refine Tr.cond rfl rfl (fun h3 => ?_) (fun h3 => Tr.skip (Tr.regR rfl (by simp) ?_))
    · refine Tr.seqR rfl (by simp) (Tr.retX rfl rfl rfl ?_ trivial)
      have hf : traceOk s.nodes.length s.traces[k] = false := by
        rw [hT]
        revert h3
        cases btw s.traces[k].1 0 ((s.nodes.length : Int) - 1) <;> cases btw s.traces[k].2 0 ((s.nodes.length : Int) - 1) <;> cases (s.traces[k].1 == s.traces[k].2) <;> first | (intro _; rfl) | (intro h; cases h)
      have : layOk s = false := by
        unfold layOk
        rw [all_false (p := traceOk s.nodes.length) h2 hf]; simp
      rw [this]; rfl
    · have hf : traceOk s.nodes.length s.traces[k] = true := by
        rw [hT]
        revert h3
        cases btw s.traces[k].1 0 ((s.nodes.length : Int) - 1) <;> cases btw s.traces[k].2 0 ((s.nodes.length : Int) - 1) <;> cases (s.traces[k].1 == s.traces[k].2) <;> first | (intro _; rfl) | (intro h; cases h)
      exact ⟨k + 1, _, Wk.le (.cons rfl (.refl _) (.cons rfl (.refl _) (.cons rfl (.refl _) (.cons rfl (VLe.i (w64 (by omega) (by omega))) .nil)))) (.cons rfl (LLe.refl _) .nil) .nil rfl rfl, ⟨⟨h2, by rw [all_take_succ h2, hallT, hf]; rfl⟩, rfl⟩, by omega⟩
  have h2 : k = s.traces.length := by simp at h2; omega
  subst h2
  rw [List.take_length] at hallT
  refine Tr.exit (Tr.seqR rfl (by simp) (Tr.retX rfl rfl rfl ?_ trivial))
  have : layOk s = true := by
    unfold layOk
    rw [hall, hallT, decide_eq_true hnl.1, decide_eq_true hnl.2]; rfl
  rw [this]; rfl

end Go.Proofs.YtdejdblopmfjfaaGreatDoor


/-! What a slot holds becomes data (the boxes that it leads to are shut for good). -/
set_option linter.unusedVariables false
set_option linter.unusedSimpArgs false
namespace Go.Proofs.YtdejdblopmfjfaaGreatDoor
open Go.Am

theorem wkData {E : Env} {s : St} {t : Nat} {v u : V} {ids : List Nat} (ht : get s.env t = some v) (hd : toDs s.fs.b [v] = some ([u], ids)) : Wk E s ((s.eff { v := nothing, wb := Am.freeze s.fs.b ids }).put (some t) u) := by
  intro a w h R
  obtain ⟨q1, q2, _⟩ := R.1.env t _ (by rw [fs_g]; exact ht)
  obtain ⟨h1, R1, ext, b1, g1, y1, hrep⟩ := args_data R.1 hd
  have rd : RepD w h1.φ u (a.tmps.getD t undef) := (hrep #[a.tmps.getD t undef] rfl (fun i v' x e1 e2 => by
    cases i with
    | zero => simp at e1 e2; subst e1 e2; simpa using q2
    | succ i => simp at e1)).2 0 u _ rfl rfl
  have R2 := R1.put (d := t) q1 (.data rd) (GrowV.of_data rd)
  rw [put_self (by rw [R.1.size]; exact q1)] at R2
  refine ⟨h1, ⟨?_, by rw [y1]; exact R.2⟩, y1⟩
  have e : ((s.eff { v := nothing, wb := Am.freeze s.fs.b ids }).put (some t) u).fs = (((Am.freeze s.fs.b ids).foldl (fun τ p => τ.set (.bx p.1) (.b p.2)) s.fs)).set (.slot t) (.v u) := by
    rw [fs_put, fs_eff]; rfl
  have e2 : ∀ (l : List (Nat × Box)) (s : St), (l.foldl (fun s p => s.setB p.1 p.2) s).log = s.log ∧ (l.foldl (fun s p => s.setB p.1 p.2) s).stp = s.stp := by
    intro l
    induction l with
    | nil => intro s; exact ⟨rfl, rfl⟩
    | cons p l ih => intro s; exact ih _
  have e3 := e2 (Am.freeze s.fs.b ids) s
  show Rel E.nt E.S _ _ _ a w h1
  rw [e]
  have e4 : ((s.eff { v := nothing, wb := Am.freeze s.fs.b ids }).put (some t) u).log = s.log := e3.1
  have e5 : ((s.eff { v := nothing, wb := Am.freeze s.fs.b ids }).put (some t) u).stp = s.stp := e3.2
  rw [e4, e5]
  exact R2

/-- Weakening inside a region. -/
theorem stepsWk {E : Env} {s s' : St} {i : Ins} {r : List Ins} {K : St → Prop} (h : Wk E s s') (k : Am.Steps E (i :: r) K s') : Am.Steps E (i :: r) K s := by
  refine Step1.raw fun slots ops o j ro n a w hh hc hs hi R Q next hn => ?_
  obtain ⟨h', R', hy⟩ := h a w hh R
  exact step_ok (k : Step1 E i (Am.Steps E r K) s') hc hs hi R' fun s'' a' w' h'' k R ey => hn s'' a' w' h'' k R (ey.trans hy)

end Go.Proofs.YtdejdblopmfjfaaGreatDoor


/-! Contracts: the places of a region; pairs; layouts, laid. -/
set_option linter.unusedVariables false
set_option linter.unusedSimpArgs false
set_option maxRecDepth 20000
set_option maxHeartbeats 2000000
namespace Go.Proofs.YtdejdblopmfjfaaGreatDoor
open Go.Am
attribute [local simp] cells scalar mkv splice under2 under dem dem1 eB gridC sB fourC eF layC
/-! ### All places of a region -/
def ptsN (x : Int) : Nat → Int → List (Int × Int)
  | 0, _ => []
  | n + 1, y => (x, y) :: ptsN x n (y + 1)
def colP (r : Int × Int × Int) : List (Int × Int) := ptsN r.1 (r.2.2 + 1 - r.2.1).toNat r.2.1
def placesL (f : Fr) : List (Int × Int) := (rowsL f).flatMap colP
def colAt (f : Fr) (x : Int) : List (Int × Int) := ptsN x (highY f x + 1 - lowY f x).toNat (lowY f x)

theorem ptsN_len (x : Int) : ∀ (n : Nat) (y : Int), (ptsN x n y).length = n
  | 0, _ => rfl
  | n + 1, y => by simp [ptsN, ptsN_len x n]

theorem rowsN_flat (f : Fr) (n : Nat) (x : Int) : (rowsN f (n + 1) x).flatMap colP = colAt f x ++ (rowsN f n (x + 1)).flatMap colP := by
  simp only [rowsN]
  split
  · rfl
  · have : (highY f x + 1 - lowY f x).toNat = 0 := by omega
    unfold colAt
    rw [this]; rfl

theorem count_len {f : Fr} (hm : midF f) : ((placesL f).length : Int) = countN f := by
  have key : ∀ (l : List (Int × Int × Int)) (a : Int), (∀ r ∈ l, r.2.1 ≤ r.2.2) → a + ((l.flatMap colP).length : Int) = (l.map rowM).foldl (· + ·) a := by
    intro l
    induction l with
    | nil => intro a _; simp
    | cons r l ih =>
      intro a h
      have h1 := h r (by simp)
      rw [List.map_cons, List.foldl_cons, ← ih (a + rowM r) (fun r hr => h r (by simp [hr])), List.flatMap_cons, List.length_append, colP, ptsN_len]
      unfold rowM
      push_cast
      omega
  have := key (rowsL f) 0 (fun r hr => (rows_bd hm _ _ r hr).2.1)
  unfold placesL countN
  omega

theorem c_places {f : Fr} (h : nodeOk f = true) : C Tryz.prog F.bin_places [.agg (fourC f)] (.slice 0 2 ((placesL f).map eB)) := by
  simp only [nodeOk, Bool.and_eq_true, btw_iff] at h
  have hm := mid_of h.1
  have hcl := count_len hm
  have hPl : (placesL f).length ≤ 64 := by omega
  obtain ⟨⟨⟨hx1, hx2⟩, hx3, hx4⟩, ⟨⟨hy1, hy2⟩, hy3, hy4⟩, ⟨⟨hs1, hs2⟩, hs3, hs4⟩, ⟨hd1, hd2⟩, hd3, hd4⟩ := hm
  refine C_of mixed chk.bin_places (by simp) fun S ok => ?_
  refine Tr.seqR rfl (by simp) (Tr.seqR rfl (by simp) (Tr.seq (Tr.seqR rfl (by simp) (Tr.block ?_))))
  refine Tr.loop (α := Nat × List (Int × Int)) (fun p s => (p.1 ≤ (f.x.2 + 1 - f.x.1).toNat ∧ p.2 ++ (rowsN f ((f.x.2 + 1 - f.x.1).toNat - p.1) (f.x.1 + p.1)).flatMap colP = placesL f) ∧
      s = { env := [(1, .ptr 1 0), (3, .slice 54 2 (p.2.map eB)), (4, I (f.x.1 + p.1))], bx := [(1, ⟨fourC f, false⟩)], rw := [(53, p.2.length, 2, 23)], log := [], stp := false }) (fun p => (f.x.2 + 1 - f.x.1).toNat - p.1) (0, [])
    (Wk.le (.cons rfl (.refl _) (.cons rfl (.nil 54 2) (.cons rfl (VLe.i (by simp)) .nil))) (.cons rfl (LLe.refl _) .nil) (.new rfl .nil) rfl rfl) ⟨⟨by simp, by simp [placesL, rowsL]⟩, rfl⟩ ?_
  rintro ⟨k, out⟩ s ⟨⟨hk, hl⟩, rfl⟩
  simp only at hk hl
  refine Tr.seq (Tr.seqR rfl (by simp) (Tr.cond rfl rfl (fun h1 => Tr.skip ?_) (fun h1 => Tr.exit ?_)))
  · have h1 : f.x.1 + (k : Int) ≤ f.x.2 := by simpa using h1
    obtain ⟨x, hx⟩ : ∃ x, f.x.1 + (k : Int) = x := ⟨_, rfl⟩
    obtain ⟨n, hn⟩ : ∃ n, (f.x.2 + 1 - f.x.1).toNat - k = n + 1 := ⟨(f.x.2 + 1 - f.x.1).toNat - k - 1, by omega⟩
    have hn2 : (f.x.2 + 1 - f.x.1).toNat - (k + 1) = n := by omega
    have hx' : f.x.1 + ((k + 1 : Nat) : Int) = x + 1 := by omega
    rw [hn, hx, rowsN_flat] at hl
    rw [hx] at h1
    rw [hx]
    refine Tr.seq (Tr.block (Tr.seqR rfl (by simp) (Tr.block ?_)))
    obtain ⟨M, hM⟩ : ∃ M, (highY f x + 1 - lowY f x).toNat = M := ⟨_, rfl⟩
    have hcol : colAt f x = ptsN x M (lowY f x) := by unfold colAt; rw [hM]
    rw [hcol] at hl
    have hlow : -1000000 ≤ lowY f x ∧ highY f x ≤ 1000000 := by unfold lowY highY; omega
    have hlow2 : lowY f x ≤ 3000000 ∧ -3000000 ≤ highY f x := by unfold lowY highY; omega
    refine Tr.loop (α := Nat × List (Int × Int)) (fun p s => (p.1 ≤ M ∧ p.2 ++ (ptsN x (M - p.1) (lowY f x + p.1) ++ (rowsN f n (x + 1)).flatMap colP) = placesL f) ∧
        s = { env := [(1, .ptr 1 0), (3, .slice 54 2 (p.2.map eB)), (4, I (x)), (5, I (lowY f x + p.1))], bx := [(1, ⟨fourC f, false⟩)], rw := [(53, p.2.length, 2, 23)], log := [], stp := false }) (fun p => M - p.1) (0, out)
      (Wk.le (.cons rfl (.refl _) (.cons rfl (.refl _) (.cons rfl (.refl _) (.cons rfl (VLe.i ?_) .nil)))) (.cons rfl (LLe.refl _) .nil) (.cons rfl .nil) rfl rfl) ⟨⟨by simp, by simpa using hl⟩, rfl⟩ ?_
    · simp (disch := omega) only [cond_true, cond_false, ite_max, ite_min, w64]
      unfold lowY; omega
    rintro ⟨j, o2⟩ s ⟨⟨hj, hl2⟩, rfl⟩
    simp only at hj hl2
    have ho2 : o2.length ≤ 64 := by
      have := congrArg List.length hl2
      rw [List.length_append] at this; omega
    refine Tr.seq (Tr.seqN 15 rfl (by simp) ?_)
    refine stepsWk (s' := { env := [(1, .ptr 1 0), (3, .slice 54 2 (o2.map eB)), (4, I (x)), (5, I (lowY f x + j)), (30, I (lowY f x + j)), (44, I (highY f x))], bx := [(1, ⟨fourC f, false⟩)], rw := [(53, o2.length, 2, 23)], log := [], stp := false })
      (Wk.le (.cons rfl (.refl _) (.cons rfl (.refl _) (.cons rfl (.refl _) (.cons rfl (.refl _) (.cons rfl (.refl _) (.cons rfl (VLe.i ?_) .nil)))))) (.cons rfl (LLe.refl _) .nil) (.cons rfl .nil) rfl rfl) ?_
    · simp (disch := omega) only [cond_true, cond_false, ite_max, ite_min, w64, highY]
    refine Steps.fin rfl (by simp) (Tr.cond rfl rfl (fun h2 => Tr.skip ?_) (fun h2 => Tr.exit ?_))
    · have h2 : lowY f x + (j : Int) ≤ highY f x := by simpa using h2
      obtain ⟨q, hq⟩ : ∃ q, M - j = q + 1 := ⟨M - j - 1, by omega⟩
      have hq2 : M - (j + 1) = q := by omega
      have e1 : lowY f x + ((j + 1 : Nat) : Int) = lowY f x + j + 1 := by omega
      refine Tr.seq (Tr.block (Tr.regR rfl (by simp; omega) (Tr.regR rfl (by simp) ?_)))
      refine ⟨(j + 1, o2 ++ [(x, lowY f x + j)]), _, Wk.le (.cons rfl (.refl _) (.cons rfl (.of_eq (by simp)) (.cons rfl (.refl _) (.cons rfl (VLe.i ?_) .nil)))) (.cons rfl (LLe.refl _) .nil) (.cons ?_ .nil) rfl rfl, ⟨⟨by simp only; omega, ?_⟩, rfl⟩, by simp only; omega⟩
      · show IntKind.wrap .i64 (lowY f x + (j : Int) + 1) = _
        rw [w64 (by omega) (by omega)]; simp only; omega
      · show some _ = some _
        simp
      · simp only
        rw [hq2, e1, ← hl2, hq]
        simp [ptsN]
    · have h2 : ¬ lowY f x + (j : Int) ≤ highY f x := by simpa using h2
      rw [show M - j = 0 by omega] at hl2
      refine Tr.regR rfl (by simp) ?_
      refine ⟨(k + 1, o2), _, Wk.le (.cons rfl (.refl _) (.cons rfl (.refl _) (.cons rfl (VLe.i ?_) .nil))) (.cons rfl (LLe.refl _) .nil) (.cons rfl .nil) rfl rfl, ⟨⟨by simp only; omega, ?_⟩, rfl⟩, by simp only; omega⟩
      · show IntKind.wrap .i64 (x + 1) = f.x.1 + ((k + 1 : Nat) : Int)
        rw [w64 (by omega) (by omega)]; omega
      · simp only
        rw [hn2, hx']
        simpa [ptsN] using hl2
  · have h1 : ¬ f.x.1 + (k : Int) ≤ f.x.2 := by simpa using h1
    rw [show (f.x.2 + 1 - f.x.1).toNat - k = 0 by omega] at hl
    have e : out = placesL f := by simpa [rowsN] using hl
    refine Tr.seqR rfl (by simp) (Tr.retX rfl rfl rfl ?_ trivial)
    rw [← e]; rfl

end Go.Proofs.YtdejdblopmfjfaaGreatDoor


/-! Contracts: pairs; layouts, laid. -/
set_option linter.unusedVariables false
set_option linter.unusedSimpArgs false
set_option maxRecDepth 20000
set_option maxHeartbeats 2000000
namespace Go.Proofs.YtdejdblopmfjfaaGreatDoor
open Go.Am
attribute [local simp] cells scalar mkv splice under2 under dem dem1 eB gridC sB fourC eF layC
def pairsL (l m : List (Int × Int)) : List ((Int × Int) × (Int × Int)) := l.flatMap fun a => m.map fun b => (a, b)
def eP2 (p : (Int × Int) × (Int × Int)) : List V := [eB p.1, eB p.2]

theorem pairs_drop {l m : List (Int × Int)} {k : Nat} (h : k < l.length) : pairsL (l.drop k) m = (m.map fun b => (l[k], b)) ++ pairsL (l.drop (k + 1)) m := by
  rw [List.drop_eq_getElem_cons h]; rfl

theorem c_pairs (l m : List (Int × Int)) : C Tryz.prog F.bin_pairs [sB l, sB m] (.func (.func F.bin_pairs_1) [] [.vptr [sB l] 0, .vptr [sB m] 0]) := by
  refine C_of mixed chk.bin_pairs (by simp) fun S ok => ?_
  exact Tr.seqR rfl (by simp) (Tr.seqR rfl (by simp) (Tr.retQ rfl rfl rfl trivial))

theorem i_pairs {l m : List (Int × Int)} (hl : l.length ≤ 1000000) (hm : m.length ≤ 1000000) : Iter Tryz.prog F.bin_pairs_1 [.vptr [sB l] 0, .vptr [sB m] 0] ((pairsL l m).map eP2) := by
  refine Iter_of mixed chk.bin_pairs_1 (by simp) fun S ok => ?_
  refine Tr.seqR rfl (by simp) (Tr.block ?_)
  refine Tr.loop (α := Nat × List (List V)) (fun p s => (p.1 ≤ l.length ∧ p.2 ++ (pairsL (l.drop p.1) m).map eP2 = (pairsL l m).map eP2) ∧
      s = { env := [(0, .yld), (1, .vptr [sB l] 0), (2, .vptr [sB m] 0), (8, sB l), (9, I (l.length : Nat)), (10, I (p.1 : Nat))], bx := [], rw := [], log := p.2, stp := false }) (fun p => l.length - p.1) (0, [])
    (Wk.le (.cons rfl (.refl _) (.cons rfl (.refl _) (.cons rfl (.refl _) (.cons rfl (.refl _) (.cons rfl (VLe.i (by simp)) (.cons rfl (.refl _) .nil)))))) .nil .nil rfl rfl) ⟨⟨by simp, by simp⟩, rfl⟩ ?_
  rintro ⟨k, lg⟩ s ⟨⟨hk, hf⟩, rfl⟩
  simp only at hk hf
  refine Tr.seqR rfl (by simp) (Tr.seqI rfl (fun h1 => ?_) (fun h1 => ?_))
  · have h1 : k < l.length := by simpa using h1
    rw [pairs_drop h1, List.map_append, ← List.append_assoc] at hf
    have hf' : lg ++ ((m.drop 0).map fun b => eP2 (l[k], b)) ++ (pairsL (l.drop (k + 1)) m).map eP2 = (pairsL l m).map eP2 := by
      rw [List.map_map] at hf; rw [List.drop_zero]; exact hf
    refine Tr.skipT (Tr.seq (Tr.block (Tr.seq (Tr.reg (Steps.runN 1 rfl (by simp; omega) ?_)))))
    rw [getD_map h1]
    refine Steps.fin rfl (by simp) ?_
    refine Tr.seqR rfl (by simp) (Tr.block ?_)
    refine Tr.loop (α := Nat × List (List V)) (fun p s => (p.1 ≤ m.length ∧ p.2 ++ ((m.drop p.1).map fun b => eP2 (l[k], b)) ++ (pairsL (l.drop (k + 1)) m).map eP2 = (pairsL l m).map eP2) ∧
        s = { env := [(0, .yld), (1, .vptr [sB l] 0), (2, .vptr [sB m] 0), (8, sB l), (9, I (l.length : Nat)), (10, I (k : Nat)), (5, .ptr 5 0), (14, sB m), (15, I (m.length : Nat)), (16, I (p.1 : Nat))], bx := [(5, ⟨[I l[k].1, I l[k].2], false⟩)], rw := [], log := p.2, stp := false }) (fun p => m.length - p.1) (0, lg)
      (Wk.le (.cons rfl (.refl _) (.cons rfl (.refl _) (.cons rfl (.refl _) (.cons rfl (.refl _) (.cons rfl (.refl _) (.cons rfl (.refl _) (.cons rfl (.refl _) (.cons rfl (.refl _) (.cons rfl (VLe.i (by show ((m.map eB).length : Int) = (m.length : Int); rw [List.length_map])) (.cons rfl (.refl _) .nil)))))))))) (.cons rfl (LLe.refl _) .nil) .nil rfl rfl) ⟨⟨Nat.zero_le _, hf'⟩, rfl⟩ ?_
    rintro ⟨j, lg2⟩ s ⟨⟨hj, hf2⟩, rfl⟩
    simp only at hj hf2
    refine Tr.seqR rfl (by simp) (Tr.seqI rfl (fun h2 => ?_) (fun h2 => ?_))
    · have h2 : j < m.length := by simpa using h2
      have hp : lg2 ++ [eP2 (l[k], m[j])] ++ ((m.drop (j + 1)).map fun b => eP2 (l[k], b)) ++ (pairsL (l.drop (k + 1)) m).map eP2 = (pairsL l m).map eP2 := by
        rw [← hf2, List.drop_eq_getElem_cons h2, List.map_cons]
        simp only [List.append_assoc, List.cons_append, List.nil_append]
      refine Tr.skipT (Tr.seq (Tr.block (Tr.seq (Tr.reg (Steps.runN 1 rfl (by simp; omega) ?_)))))
      rw [getD_map h2]
      refine Steps.fin rfl (by simp) ?_
      refine Tr.seqC rfl (by simp) (Steps.yield rfl (by simp) rfl ⟨_, by rw [List.append_assoc] at hp; exact hp⟩ rfl (fun b => Steps.fin rfl (by simp) ?_))
      cases b with
      | false => exact Tr.condT rfl (Tr.ret ⟨.inl rfl, [], [], [], rfl, rfl, rfl⟩)
      | true =>
        refine Tr.condF rfl (Tr.skip (Tr.regR rfl (by simp) ?_))
        exact ⟨(j + 1, lg2 ++ [eP2 (l[k], m[j])]), _, Wk.le (.cons rfl (.refl _) (.cons rfl (.refl _) (.cons rfl (.refl _) (.cons rfl (.refl _) (.cons rfl (.refl _) (.cons rfl (.refl _) (.cons rfl (.refl _) (.cons rfl (.refl _) (.cons rfl (.refl _) (.cons rfl (VLe.i (w64 (by omega) (by omega))) .nil)))))))))) (.cons rfl (LLe.refl _) .nil) .nil rfl rfl, ⟨⟨by simp only; omega, hp⟩, rfl⟩, by simp only; omega⟩
    · have h2 : j = m.length := by simp at h2; omega
      subst h2
      rw [List.drop_length] at hf2
      refine Tr.exit (Tr.regR rfl (by simp) ?_)
      exact ⟨(k + 1, lg2), _, Wk.le (.cons rfl (.refl _) (.cons rfl (.refl _) (.cons rfl (.refl _) (.cons rfl (.refl _) (.cons rfl (.refl _) (.cons rfl (VLe.i (w64 (by omega) (by omega))) .nil)))))) .nil .nil rfl rfl, ⟨⟨by simp only; omega, by simpa using hf2⟩, rfl⟩, by simp only; omega⟩
  · have h1 : k = l.length := by simp at h1; omega
    subst h1
    rw [List.drop_length] at hf
    refine Tr.exit ⟨.inr ?_, [], [], [], rfl, rfl, rfl⟩
    have e : lg = (pairsL l m).map eP2 := by simpa [pairsL] using hf
    exact e

/-! ### Laid -/
structure Ld where
  g : Gd
  traces : List (Int × Int)
  places : List (List (Int × Int))

def laidC (l : Ld) : List V := gridC l.g ++ [sB l.traces, .slice 0 1 (l.places.map sB)]
def layD (g : Gd) (s : Ly) : Ld := ⟨g, s.traces, s.nodes.map placesL⟩

theorem layOk_spec {s : Ly} (h : layOk s = true) : (s.nodes.length ≤ 16 ∧ s.traces.length ≤ 64) ∧ (∀ f ∈ s.nodes, nodeOk f = true) ∧ ∀ t ∈ s.traces, traceOk s.nodes.length t = true := by
  simp only [layOk, Bool.and_eq_true, decide_eq_true_eq, List.all_eq_true] at h
  exact ⟨h.1.1, h.1.2, h.2⟩

theorem c_lay (g : Gd) {s : Ly} (h : layOk s = true) : C Tryz.prog F.bin_lay [.agg (gridC g), .agg (layC s)] (.agg (laidC (layD g s))) := by
  obtain ⟨⟨hn, ht⟩, hN, hT⟩ := layOk_spec h
  refine C_of mixed chk.bin_lay (by simp) fun S ok => ?_
  refine Tr.seqR rfl (by simp) (Tr.seqR rfl (by simp) (Tr.seq (Tr.seqR rfl (by simp) (Tr.block ?_))))
  refine Tr.loop (fun (k : Nat) st => k ≤ s.nodes.length ∧ st = { env := [(4, .ptr 4 0), (5, .ptr 5 0), (13, .slice 0 8 (s.nodes.map eF)), (14, I (s.nodes.length : Nat)), (15, I (k : Nat))], bx := [(4, ⟨[I 0, I 0, I 0, I 0, I 0, .nils, .nils, .nils], false⟩), (5, ⟨gridC g ++ [sB s.traces, .slice 25 1 (((s.nodes.take k).map placesL).map sB)], false⟩)], rw := [(24, k, 1, 88)], log := [], stp := false }) (fun k => s.nodes.length - k) 0
    (Wk.le (.cons rfl (.refl _) (.cons rfl (.refl _) (.cons rfl (.refl _) (.cons rfl (VLe.i (by simp)) (.cons rfl (.refl _) .nil))))) (.cons rfl (LLe.refl _) (.cons rfl (.cons (.refl _) (.cons (.refl _) (.cons (.refl _) (.cons (.refl _) (.cons (.refl _) (.cons (.refl _) (.cons (.refl _) (.cons (.nil 25 1) .nil)))))))) .nil)) (.new rfl .nil) rfl rfl) ⟨by omega, rfl⟩ ?_
  rintro k st ⟨hk, rfl⟩
  refine Tr.seqR rfl (by simp) (Tr.seqI rfl (fun h1 => ?_) (fun h1 => ?_))
  · have h1 : k < s.nodes.length := by simpa using h1
    have hlen : (((s.nodes.take k).map placesL).map sB).length = k := by simp; omega
    refine Tr.skipT (Tr.seq (Tr.block (Tr.seq (Tr.reg (Steps.runN 1 rfl (by simp; omega) ?_)))))
    rw [getD_map h1]
    refine Steps.fin rfl (by simp) ?_
    refine Tr.drawK (TraceK.run rfl (by simp) (TraceK.call rfl rfl (c_places (hN _ (List.getElem_mem h1))) ?_))
    refine TraceK.run rfl (by simp; omega) (.done ⟨by kernel_rfl, by kernel_rfl, ?_⟩)
    refine Tr.regR rfl (by simp) ?_
    have e : ((s.nodes.take (k + 1)).map placesL).map sB = ((s.nodes.take k).map placesL).map sB ++ [sB (placesL s.nodes[k])] := by
      rw [List.take_add_one, List.getElem?_eq_getElem h1, List.map_append, List.map_append]; rfl
    refine ⟨k + 1, _, Wk.le (.cons rfl (.refl _) (.cons rfl (.refl _) (.cons rfl (.refl _) (.cons rfl (.refl _) (.cons rfl (VLe.i (w64 (by omega) (by omega))) .nil))))) (.cons rfl (LLe.refl _) (.cons rfl (.cons (.refl _) (.cons (.refl _) (.cons (.refl _) (.cons (.refl _) (.cons (.refl _) (.cons (.refl _) (.cons (.refl _) (.cons (.of_eq ?_) .nil)))))))) .nil)) (.cons ?_ .nil) rfl rfl, ⟨h1, rfl⟩, by omega⟩
    · rw [e]; rfl
    · show some _ = some _
      simp; omega
  · have h1 : k = s.nodes.length := by simp at h1; omega
    subst h1
    rw [List.take_length]
    exact Tr.exit (Tr.seqR rfl (by simp) (Tr.retX rfl rfl rfl rfl trivial))

theorem c_begun {g : Gd} {s : Ly} (hl : g.cls.length ≤ 9223372036854775807) (hn : s.nodes.length ≤ 9223372036854775807) (ht : s.traces.length ≤ 9223372036854775807) : C Tryz.prog F.bin_begun [.agg (gridC g), .agg (layC s)]
    (if gridOk g then (if layOk s then .tuple [.agg (laidC (layD g s)), I 0] else .tuple [.agg [I 0, I 0, I 0, I 0, I 0, .nils, .nils, .nils], I 71]) else .tuple [.agg [I 0, I 0, I 0, I 0, I 0, .nils, .nils, .nils], I 70]) := by
  have kg := c_CheckGrid (g := g) hl
  have ks := c_CheckLayout (s := s) hn ht
  refine C_of mixed chk.bin_begun (by simp) fun S ok => ?_
  refine Tr.seqR rfl (by simp) ?_
  by_cases hg : gridOk g = true
  rotate_left
  · rw [if_neg hg] at kg ⊢
    refine Tr.seq (Tr.seqC rfl (by simp) (Steps.call rfl rfl kg (Steps.fin rfl (by simp) (Tr.seqR rfl (by simp) (Tr.condT rfl ?_)))))
    exact Tr.seqR rfl (by simp) (Tr.retX rfl rfl rfl rfl trivial)
  rw [if_pos hg] at kg ⊢
  refine Tr.seq (Tr.seqC rfl (by simp) (Steps.call rfl rfl kg (Steps.fin rfl (by simp) (Tr.seqR rfl (by simp) (Tr.condF rfl (Tr.skip ?_))))))
  by_cases hs : layOk s = true
  rotate_left
  · rw [if_neg hs] at ks ⊢
    refine Tr.seq (Tr.seqC rfl (by simp) (Steps.call rfl rfl ks (Steps.fin rfl (by simp) (Tr.seqR rfl (by simp) (Tr.condT rfl ?_)))))
    exact Tr.seqR rfl (by simp) (Tr.retX rfl rfl rfl rfl trivial)
  rw [if_pos hs] at ks ⊢
  refine Tr.seq (Tr.seqC rfl (by simp) (Steps.call rfl rfl ks (Steps.fin rfl (by simp) (Tr.seqR rfl (by simp) (Tr.condF rfl (Tr.skip ?_))))))
  exact Tr.seqC rfl (by simp) (Steps.call rfl rfl (c_lay g hs) (Steps.fin rfl (by simp [laidC]) (Tr.retX rfl rfl rfl rfl trivial)))

/-! ### Needs -/
def needOk (g : Gd) (l : List Int) : Bool := decide (l.length = g.cls.length) && !(l.any fun n => !btw n 0 100)

theorem c_need1 (n : Int) : C Tryz.prog F.bin_needed_1 [I n] (.bool (!btw n 0 100)) := by
  refine C_of mixed chk.bin_needed_1 (by simp) fun S ok => ?_
  exact Tr.seqR rfl (by simp) (Tr.seqC rfl (by simp) (Steps.call rfl rfl (c_within n 0 100) (Steps.fin rfl (by simp) (Tr.retX rfl rfl rfl rfl trivial))))

theorem c_needed {g : Gd} {l : List Int} (hl : l.length ≤ 9223372036854775807) : C Tryz.prog F.bin_needed [.agg (gridC g), intsV l] (.bool (needOk g l)) := by
  refine C_of mixed chk.bin_needed (by simp) fun S ok => ?_
  refine Tr.seqR rfl (by simp) ?_
  refine Tr.seqC rfl (by simp [intsV]) (Steps.gcall rfl rfl rfl rfl (by simp) (fun _ => c_containsI hl fun n _ => c_need1 n) (Steps.fin rfl (by simp) (Tr.retX rfl rfl rfl ?_ trivial)))
  show V.bool (needOk g l) = .bool (bif (((l.map I).length : Int) == ((g.cls.map eB).length : Int)) then !(l.any fun n => !btw n 0 100) else false)
  unfold needOk
  congr 1
  by_cases h : l.length = g.cls.length
  · simp [h]
  · have : ¬ ((l.length : Int) = (g.cls.length : Int)) := by omega
    simp [h, this]

end Go.Proofs.YtdejdblopmfjfaaGreatDoor


/-! AM, part Zf: an arena: blocks beside the frame's own boxes, known by their exact addresses; what lies in them is told by the log. -/
set_option linter.unusedVariables false
set_option linter.unusedSimpArgs false
namespace Go.Am
open Go.RowKit

/-- What lies in a block: cells of data, or an object that is known exactly. -/
inductive Ob where
  | cells (cs : List V)
  | raw (o : Obj)

def encOb : Nat × Ob → V
  | (b, .cells cs) => .agg (.rptr b 0 :: cs)
  | (b, .raw o) => .tuple [.rptr b 0, .obj o]

theorem encOb_inj : ∀ {p q : Nat × Ob}, encOb p = encOb q → p = q
  | (b, .cells cs), (c, .cells ds), h => by simp [encOb] at h; simp [h]
  | (b, .raw o), (c, .raw u), h => by simp [encOb] at h; simp [h]
  | (b, .cells cs), (c, .raw u), h => by simp [encOb] at h
  | (b, .raw o), (c, .cells ds), h => by simp [encOb] at h

abbrev Arena := List (Nat × Ob)

def encA (A : Arena) : List (List V) := [A.map encOb]

theorem encA_inj {A B : Arena} (h : encA A = encA B) : A = B := by
  simp only [encA, List.cons.injEq, and_true] at h
  revert B
  induction A with
  | nil => intro B h; cases B with
    | nil => rfl
    | cons => simp at h
  | cons p A ih => intro B h; cases B with
    | nil => simp at h
    | cons q B =>
      simp only [List.map_cons, List.cons.injEq] at h
      rw [encOb_inj h.1, ih h.2]

def ObOk (w : World) (φ : Nat → Nat) (b : Nat) : Ob → Prop
  | .cells cs => ∃ vs e, w.heap[b]? = some (.cells vs e (0, 0)) ∧ vs.size = cs.length ∧ ∀ (j : Nat) v x, cs[j]? = some v → vs[j]? = some x → RepD w φ v x ∧ scalar v = true
  | .raw o => w.heap[b]? = some o

theorem ObOk.mono {w w' : World} {φ φ' : Nat → Nat} {b : Nat} {o : Ob} (h : ObOk w φ b o) (hb : w'.heap[b]? = w.heap[b]?) (e : Ext w φ w' φ') : ObOk w' φ' b o := by
  cases o with
  | cells cs =>
    obtain ⟨vs, et, h1, h2, h3⟩ := h
    exact ⟨vs, et, hb.trans h1, h2, fun j v x hv hx => ⟨(h3 j v x hv hx).1.mono e, (h3 j v x hv hx).2⟩⟩
  | raw o => exact hb.trans h

structure Ar (w : World) (φ : Nat → Nat) (M : Nat → Prop) (A : Arena) : Prop where
  nd : (A.map (·.1)).Nodup
  ok : ∀ p ∈ A, ObOk w φ p.1 p.2
  fr : ∀ p ∈ A, ¬ M p.1
  lt : ∀ p ∈ A, p.1 < w.heap.size
  z : ∀ p ∈ A, φ p.1 = 0

/-- The surroundings with an arena in them. -/
def SA (S0 : Sur) (l0 : List (List V)) (s0 : Bool) : Sur := fun log stp M w φ =>
  ∃ A, log = encA A ∧ stp = s0 ∧ Ar w φ M A ∧ S0 l0 s0 (fun b => M b ∨ b ∈ A.map (·.1)) w φ

theorem SA_ok {S0 : Sur} (h0 : S0.ok) (l0 : List (List V)) (s0 : Bool) : (SA S0 l0 s0).ok := by
  refine ⟨?_, fun _ _ _ _ _ ⟨_, _, _, _, h4⟩ => h0.gl _ _ _ _ _ h4⟩
  intro log s M w φ M' w' φ' ⟨A, h1, h2, h3, h4⟩ mv
  have old : ∀ p ∈ A, w'.heap[p.1]? = w.heap[p.1]? ∧ φ' p.1 = φ p.1 := fun p hp => mv.old _ (h3.lt p hp) (h3.fr p hp)
  refine ⟨A, h1, h2, ⟨h3.nd, fun p hp => (h3.ok p hp).mono (old p hp).1 mv.ext, fun p hp hM => ?_, fun p hp => Nat.lt_of_lt_of_le (h3.lt p hp) mv.size, fun p hp => (old p hp).2.trans (h3.z p hp)⟩, h0 _ _ _ _ _ _ _ _ h4 ⟨mv.ext, fun b hb hn => mv.old b hb fun hM => hn (.inl hM), mv.size, mv.os, mv.tape, mv.output, fun b hb => ?_, mv.top⟩⟩
  · rcases mv.mine _ hM with h | h
    · exact h3.fr p hp h
    · have := h3.lt p hp; omega
  · rcases hb with hb | hb
    · exact (mv.mine b hb).imp .inl id
    · exact .inl (.inr hb)

/-- More blocks are the frame's own. -/
theorem Rel.grow {nt : Nat} {S S' : Sur} {log log' : List (List V)} {stp stp' : Bool} {σ : FSt} {a : Act} {w : World} {h : Gh} (R : Rel nt S log stp σ a w h) (M' : Nat → Prop) (hM : ∀ b, h.M b → M' b) (hlt : ∀ b, M' b → b < w.heap.size) (sur : S' log' stp' M' w h.φ) : Rel nt S' log' stp' σ a w { h with M := M' } where
  size := R.size
  env := fun t v hv => R.env t v hv
  bx := fun i bo hb => by
    obtain ⟨blk, cs, e, h1, h2, h3, h4, h5, h6⟩ := R.bx i bo hb
    exact ⟨blk, cs, e, h1, hM _ h2, h3, h4, h5, h6⟩
  dom := R.dom
  inj := R.inj
  rows := fun r n sz et hr => by
    rcases R.rows r n sz et hr with ⟨e, e'⟩ | ⟨b, cs, hb', hMb, hh, hp, hn⟩
    · exact .inl ⟨e, e'⟩
    · exact .inr ⟨b, cs, hb', hM _ hMb, hh, hp, hn⟩
  rdom := R.rdom
  rinj := R.rinj
  apart := R.apart
  pins := R.pins
  mine := hlt
  top := R.top
  marks := R.marks.congr fun r hMr hh => ⟨hM _ hMr, hh⟩
  sur := sur

abbrev Env.withA (E : Env) (l0 : List (List V)) (s0 : Bool) : Env := { E with S := SA E.S l0 s0, ys := [], ok := SA_ok E.ok l0 s0, lk := fun _ => True }

/-- **A FRAME WITH AN ARENA.** -/
theorem Tr.arena {E : Env} {ro : Option Nat} {ic : IC} {Q : Exit → St → Prop} {s : St} (hys : E.ys = []) (hlk : E.lk = fun _ => True)
    (h : Tr (E.withA s.log s.stp) ro ic (fun e t => Q e { t with log := s.log, stp := s.stp }) { s with log := encA [] }) : Tr E ro ic Q s := fun c hc n a w g R Q' hq => by
  have R1 : (E.withA s.log s.stp).rel { s with log := encA [] } a w g := by
    refine ⟨?_, ?_⟩
    · have e : (fun b => g.M b ∨ b ∈ (([] : Arena).map (·.1))) = g.M := by funext b; simp
      exact { R.1 with sur := ⟨[], rfl, rfl, ⟨by simp, by simp, by simp, by simp, by simp⟩, by rw [e]; exact R.1.sur⟩ }
    · refine ⟨fun l hl => ⟨?_, trivial⟩, R.2.2⟩
      intro log x M w φ xs hp
      exact absurd hp.length_le (by simp)
  refine h c hc n a w g R1 Q' fun e t a' w' h' hQ R' hy => ?_
  obtain ⟨A, h1, h2, h3, h4⟩ := R'.1.sur
  refine hq e _ a' w' { h' with M := fun b => h'.M b ∨ b ∈ A.map (·.1) } hQ ⟨?_, ?_⟩ hy
  · exact R'.1.grow _ (fun b hb => .inl hb) (fun b hb => by
      rcases hb with hb | hb
      · exact R'.1.mine b hb
      · obtain ⟨p, hp, rfl⟩ := List.mem_map.1 hb
        exact h3.lt p hp) h4
  · refine ⟨fun l hl => ⟨?_, by rw [hlk]; trivial⟩, R'.2.2⟩
    intro log x M w φ xs hp
    rw [hys] at hp
    exact absurd hp.length_le (by simp)

/-- A frame in which an arena is at hand. -/
structure InA (E : Env) (S0 : Sur) (l0 : List (List V)) (s0 : Bool) : Prop where
  sub : Sub E.S (SA S0 l0 s0)
  ok : S0.ok

theorem InA.main {E : Env} (l0 : List (List V)) (s0 : Bool) : InA (E.withA l0 s0) E.S l0 s0 := ⟨Sub.refl _, E.ok⟩

section
variable {E : Env} {S0 : Sur} {l0 : List (List V)} {s0 : Bool} {A : Arena} {stp : Bool} {σ : FSt} {a : Act} {w : World} {h : Gh}

/-- What is known of the arena. -/
theorem InA.ar (hE : InA E S0 l0 s0) (R : E.relF (encA A) stp σ a w h) : Ar w h.φ h.M A := by
  obtain ⟨M1, hM1, hlt, ⟨A0, e, hs, hA, hS⟩, back⟩ := hE.sub _ _ _ _ _ R.1.sur R.1.mine
  obtain rfl := encA_inj e
  exact ⟨hA.nd, hA.ok, fun p hp hM => hA.fr p hp (hM1 _ hM), hA.lt, hA.z⟩

/-- The arena is turned, or grows. -/
theorem InA.step (hE : InA E S0 l0 s0) (R : E.relF (encA A) stp σ a w h) {w' : World} {B : Arena} (hold : ∀ b, b < w.heap.size → b ∉ A.map (·.1) → w'.heap[b]? = w.heap[b]?) (hsz : w.heap.size ≤ w'.heap.size) (hos : w'.os = w.os) (htp : w'.tape = w.tape) (hou : w'.output = w.output)
    (hnew : ∀ p ∈ B, p.1 ∈ A.map (·.1) ∨ w.heap.size ≤ p.1) (hkeep : ∀ p ∈ A, p.1 ∈ B.map (·.1)) (hnd : (B.map (·.1)).Nodup) (hok : Ext w h.φ w' h.φ → ∀ p ∈ B, ObOk w' h.φ p.1 p.2) (hlt : ∀ p ∈ B, p.1 < w'.heap.size) : E.relF (encA B) stp σ a w' h := by
  obtain ⟨M1, hM1, hlt1, ⟨A0, e, hs, hA, hS⟩, back⟩ := hE.sub _ _ _ _ _ R.1.sur R.1.mine
  obtain rfl := encA_inj e
  have notA : ∀ b o, o < h.φ b → b < w.heap.size ∧ b ∉ A.map (·.1) := fun b o ho => by
    refine ⟨?_, fun hb => ?_⟩
    · rcases Nat.lt_or_ge b w.heap.size with h1 | h1
      · exact h1
      · rw [R.1.top b h1] at ho; omega
    · obtain ⟨p, hp, rfl⟩ := List.mem_map.1 hb
      rw [hA.z p hp] at ho; omega
  have ext : Ext w h.φ w' h.φ := fun b o ho => by
    obtain ⟨h1, h2⟩ := notA b o ho
    exact ⟨ho, World.cell?_of_block (hold b h1 h2), mapAt_of_block (hold b h1 h2)⟩
  have top' : ∀ b, w'.heap.size ≤ b → h.φ b = 0 := fun b hb => R.1.top b (by omega)
  have own : ∀ b, M1 b → w'.heap[b]? = w.heap[b]? ∧ h.φ b = h.φ b := fun b hb => ⟨hold b (hlt1 b hb) fun hm => by
    obtain ⟨p, hp, rfl⟩ := List.mem_map.1 hm
    exact hA.fr p hp hb, rfl⟩
  have sa : SA S0 l0 s0 (encA B) stp M1 w' h.φ := by
    refine ⟨B, rfl, hs, ⟨hnd, hok ext, fun p hp hM => ?_, hlt, fun p hp => ?_⟩, hE.ok _ _ _ _ _ _ _ _ hS ⟨ext, fun b hb hn => ⟨hold b hb fun hm => hn (.inr hm), rfl⟩, hsz, hos, htp, hou, fun b hb => ?_, top'⟩⟩
    · rcases hnew p hp with h1 | h1
      · obtain ⟨q, hq, e⟩ := List.mem_map.1 h1
        exact hA.fr q hq (e ▸ hM)
      · have := hlt1 _ hM; omega
    · rcases hnew p hp with h1 | h1
      · obtain ⟨q, hq, e⟩ := List.mem_map.1 h1
        rw [← e]; exact hA.z q hq
      · exact R.1.top _ h1
    · rcases hb with hb | hb
      · exact .inl (.inl hb)
      · obtain ⟨p, hp, rfl⟩ := List.mem_map.1 hb
        exact (hnew p hp).imp .inr id
  have sur' := back (encA B) stp w' h.φ sa ext own hsz top' hos htp hou
  exact ⟨rel_round R.1 ext (fun b hb => own b (hM1 b hb)) hsz top' sur', R.2⟩

end

/-! ### What lies in an arena is read, and written -/
/-- The arena with another object in a block. -/
def setA (A : Arena) (b : Nat) (o : Ob) : Arena := A.map fun p => if p.1 = b then (b, o) else p

theorem setA_keys (A : Arena) (b : Nat) (o : Ob) : (setA A b o).map (·.1) = A.map (·.1) := by
  unfold setA
  rw [List.map_map]
  congr 1
  funext p
  simp only [Function.comp]
  split
  · rename_i h; exact h.symm
  · rfl

theorem setA_mem {A : Arena} {b : Nat} {o : Ob} {p : Nat × Ob} (h : p ∈ setA A b o) : (p.1 = b ∧ p.2 = o) ∨ (p.1 ≠ b ∧ p ∈ A) := by
  obtain ⟨q, hq, e⟩ := List.mem_map.1 h
  split at e
  · subst e; exact .inl ⟨rfl, rfl⟩
  · subst e; rename_i h1; exact .inr ⟨h1, hq⟩

section
variable {E : Env} {S0 : Sur} {l0 : List (List V)} {s0 : Bool} {A : Arena}

theorem opK_load1 {P : Program} {o : Oper} {os : List Operand} (hk : opK P o.op = some (.load 1 false, os)) : ∃ t p d, o.op = .load t p ∧ szOf P t = some 1 ∧ P.underlying t = some d ∧ aggB P t = false ∧ os = [p] := by
  cases ho : o.op <;> rw [ho] at hk <;> simp only [opK] at hk <;> (try (cases hk; done)) <;> (try (repeat' (split at hk <;> (try (cases hk; done)))))
  all_goals first
    | (simp only [Option.map_eq_some_iff, Prod.mk.injEq] at hk; obtain ⟨_, _, h1, _⟩ := hk; cases h1; done)
    | (simp only [eqKind] at hk; repeat' (split at hk <;> (try (cases hk; done))))
    | (rename_i h1 h2 h3 h4; subst h4; cases hk; exact ⟨_, _, _, rfl, by assumption, by assumption, Bool.eq_false_iff.2 h3, rfl⟩)

theorem opK_store1 {P : Program} {o : Oper} {os : List Operand} {n : Nat} (hk : opK P o.op = some (.store n, os)) : ∃ t p q, o.op = .store t p q ∧ szOf P t = some n ∧ os = [p, q] := by
  cases ho : o.op <;> rw [ho] at hk <;> simp only [opK] at hk <;> (try (cases hk; done)) <;> (try (repeat' (split at hk <;> (try (cases hk; done)))))
  all_goals first
    | (simp only [Option.map_eq_some_iff, Prod.mk.injEq, K.store.injEq] at hk; obtain ⟨m, hm, rfl, rfl⟩ := hk; exact ⟨_, _, _, rfl, hm, rfl⟩)
    | (simp only [Option.map_eq_some_iff, Prod.mk.injEq] at hk; obtain ⟨_, _, h1, _⟩ := hk; cases h1; done)
    | (simp only [eqKind] at hk; repeat' (split at hk <;> (try (cases hk; done))))

theorem ok_rptr {σ : FSt} {h : Gh} {w : World} {blk off : Nat} {x : Value} (o : Ok σ h w (.rptr blk off) x) : x = .pointer (some ⟨blk, off, none⟩) := by
  obtain ⟨r, _⟩ := o
  cases r with
  | data r => cases r; rfl

theorem ok_sref {σ : FSt} {h : Gh} {w : World} {blk off len cap : Nat} {x : Value} (o : Ok σ h w (.sref blk off len cap) x) : x = .slice (some ⟨blk, off, none⟩) len cap := by
  obtain ⟨r, _⟩ := o
  cases r with
  | data r => cases r; rfl

theorem guard_none {slots : List (Option Nat)} {P : Program} {nt : Nat} {o : Oper} {ins : Ins} {os : List Operand} (cc : Comp P nt slots o ins os) (hg : ins.g = none) : o.guard = none := by
  rcases cc.guard with ⟨_, e⟩ | ⟨j, want, t, _, _, e⟩
  · exact e
  · rw [hg] at e; cases e

/-- A cell of an arena's block is read. -/
theorem Steps.aload (hE : InA E S0 l0 s0) {K : St → Prop} {s : St} {d : Nat} {x : X} {rest : List Ins} {blk off : Nat} {cs : List V} {v : V} (hx : evXs s.env [x] = some [.rptr blk off]) (hl : s.log = encA A) (hA : (blk, .cells cs) ∈ A) (hv : cs[off]? = some v)
    (hk : Steps E rest K (s.put (some d) v)) : Steps E (⟨some d, .load 1 false, [x], none⟩ :: rest) K s := by
  refine Step1.raw fun slots ops o i ro n a w h hc hs hi R Q next hn => ?_
  obtain ⟨os, cc⟩ := comp_of hc
  have hgo := guard_none cc rfl
  have hdf := opK_defer cc.op
  obtain ⟨t, p, dd, e1, e2, e3, e4, rfl⟩ := opK_load1 cc.op
  obtain ⟨u, hu, o1⟩ := (opds_of R.1 cc.xs (evXs_ok hx)).one
  simp only [List.cons.injEq, and_true] at hu
  subst hu
  have ep := ok_rptr o1
  have R' : E.relF (encA A) s.stp s.fs a w h := by rw [← hl]; exact R
  obtain ⟨vs, et, h1, h2, h3⟩ := (hE.ar R').ok _ hA
  have hlt : off < vs.size := by have := (List.getElem?_eq_some_iff.1 hv).1; omega
  obtain ⟨r, sc⟩ := h3 off v _ hv (Array.getElem?_eq_getElem hlt)
  have hcell : w.cell? ⟨blk, off, none⟩ = some vs[off] := by rw [cell_of_row w blk off vs et (0, 0) h1]; simp [hlt]
  have hex : (execOp a.eval o).run E.P w = .ok (.value vs[off]) w := by
    simp only [execOp, e1, ep, Sem.run_bind]
    rw [run_loadAt (cs := [vs[off]]) e2 e3 rfl (fun j v hv => by
      cases j with
      | zero => cases hv; exact hcell
      | succ j => cases hv) (by rw [e4]; rfl)]
    rfl
  refine wpOp_done hi (wanted_none hgo) hdf (.inl hex) (hn _ _ _ h hk ?_ rfl)
  have ok : Ok s.fs h w v vs[off] := ⟨.data r, GrowV.of_data r⟩
  show E.relF _ _ _ _ _ _
  rw [(put_log _ _ _).1, (put_log _ _ _).2, fs_put]
  exact rel_after (eff := { v := _ }) cc R R.1 ok rfl

/-- A cell of an arena's block is written. -/
theorem Steps.astore (hE : InA E S0 l0 s0) {K : St → Prop} {s : St} {x y : X} {rest : List Ins} {blk off : Nat} {cs : List V} {v : V} (hx : evXs s.env [x, y] = some [.rptr blk off, v]) (hl : s.log = encA A) (hA : (blk, .cells cs) ∈ A) (hoff : off < cs.length) (hv : isD v = true) (hsc : scalar v = true)
    (hk : Steps E rest K { s with log := encA (setA A blk (.cells (cs.set off v))) }) : Steps E (⟨none, .store 1, [x, y], none⟩ :: rest) K s := by
  refine Step1.raw fun slots ops o i ro n a w h hc hs hi R Q next hn => ?_
  obtain ⟨os, cc⟩ := comp_of hc
  have hgo := guard_none cc rfl
  have hdf := opK_defer cc.op
  obtain ⟨t, p, q, e1, e2, rfl⟩ := opK_store1 cc.op
  obtain ⟨u, u', hu, o1, o2⟩ := (opds_of R.1 cc.xs (evXs_ok hx)).two
  simp only [List.cons.injEq, and_true] at hu
  obtain ⟨hu1, rfl⟩ := hu
  subst hu1
  have ep := ok_rptr o1
  have R' : E.relF (encA A) s.stp s.fs a w h := by rw [← hl]; exact R
  have hAr := hE.ar R'
  obtain ⟨vs, et, h1, h2, h3⟩ := hAr.ok _ hA
  have rv : RepD w h.φ v (a.eval q) := rep_isD hv o2.1
  have hc1 : (a.eval q).cells = #[a.eval q] := (scalar_value o2.1 hsc).2
  have hone : ∀ z ∈ [a.eval q], z.oneCell' = true := fun z hz => by
    obtain rfl : z = a.eval q := by simpa using hz
    exact (scalar_value o2.1 hsc).1
  have hrun := run_storeCells_at E.P blk off et [a.eval q] 0 vs w h1 (by simp; omega) hone
  simp only [Nat.add_zero] at hrun
  have R2 := hE.step R' (B := setA A blk (.cells (cs.set off v)))
    (fun b hb hn => setRow_other w blk b (vs.toList.take off ++ [a.eval q] ++ vs.toList.drop (off + [a.eval q].length)).toArray (fun e => hn (e ▸ List.mem_map.2 ⟨_, hA, rfl⟩))) (by simp) rfl rfl rfl
    (fun p hp => .inl (by rw [← setA_keys A blk (.cells (cs.set off v))]; exact List.mem_map.2 ⟨p, hp, rfl⟩)) (fun p hp => by rw [setA_keys]; exact List.mem_map.2 ⟨p, hp, rfl⟩) (by rw [setA_keys]; exact hAr.nd)
    (fun ext p hp => by
      rcases setA_mem hp with ⟨e, e'⟩ | ⟨hne, hp⟩
      · rw [e, e']
        refine ⟨_, et, setRow_heap w blk vs _ et (0, 0) h1, by simp; omega, fun j u z hu hz => ?_⟩
        rw [List.getElem?_toArray, splice_get (by simp; omega)] at hz
        by_cases ej : j = off
        · subst ej
          rw [List.getElem?_set_self hoff] at hu
          rw [if_neg (by omega), if_pos (by simp)] at hz
          cases hu
          simp at hz
          subst hz
          exact ⟨rv.mono ext, hsc⟩
        · rw [List.getElem?_set_ne (fun h => ej h.symm)] at hu
          have hz' : vs[j]? = some z := by
            by_cases h5 : j < off
            · rw [if_pos h5] at hz; simpa using hz
            · rw [if_neg h5, if_neg (by simp; omega)] at hz; simpa using hz
          exact ⟨(h3 j u z hu hz').1.mono ext, (h3 j u z hu hz').2⟩
      · exact (hAr.ok p hp).mono (setRow_other w blk p.1 _ hne) ext) (fun p hp => by
      have hk : p.1 ∈ A.map (·.1) := by rw [← setA_keys A blk (.cells (cs.set off v))]; exact List.mem_map.2 ⟨p, hp, rfl⟩
      obtain ⟨q', hq', e⟩ := List.mem_map.1 hk
      have := hAr.lt q' hq'
      rw [← e]; simpa using this)
  have hd : o.dst = none := cc.d.symm
  have R3 : E.rel { s with log := encA (setA A blk (.cells (cs.set off v))) } (a.put o.dst undef) (w.setRow blk (vs.toList.take off ++ [a.eval q] ++ vs.toList.drop (off + [a.eval q].length)).toArray) h := by rw [hd]; exact R2
  refine wpOp_done (x := undef) hi (wanted_none hgo) hdf (.inr ⟨?_, rfl⟩) (hn _ _ _ h hk R3 rfl)
  simp only [execOp, e1, ep, Instr.storeAt, Instr.sureAddr, Sem.run_bind, Sem.run_pure, Result.andThen_ok, storeVar, run_szOf e2]
  rw [if_neg (by rw [hc1]; simp), hc1]
  rw [hrun]
  rfl

end
end Go.Am

