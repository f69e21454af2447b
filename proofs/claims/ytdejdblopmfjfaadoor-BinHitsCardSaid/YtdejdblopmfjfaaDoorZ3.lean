/-
  Parts of the proof, 3: the abstract machine, the compiled code, contracts of the functions, plain laws.
-/
import Derived.Test.YtdejdblopmfjfaaDoorZ2
import Derived.Test.YtdejdblopmfjfaaDoorProg
import Derived.Maps.RangeRun
import Derived.Carry
import Derived.WalkSpells


/-! The code of the loaded functions, compiled. -/
namespace Go.Am
abbrev Ins.n (d : Nat) (k : K) (xs : List X) : Ins := ⟨some d, k, xs, none⟩
abbrev Ins.w (d : Nat) (k : K) (xs : List X) (t : Nat) (b : Bool) : Ins := ⟨some d, k, xs, some (t, b)⟩
abbrev Ins.s (k : K) (xs : List X) : Ins := ⟨none, k, xs, none⟩
abbrev X.i (n : Int) : X := .c (.int .i64 n)
end Go.Am
set_option maxRecDepth 100000
set_option maxRecDepth 100000
namespace Go.Proofs.YtdejdblopmfjfaaDoor
open Go.Am
theorem mixed : Tryd.prog.follows .mixedOrders = true := by kernel_rfl
/-- paravane/paravanelaw07.BinHits -/
abbrev F.law07_BinHits : Nat := 3
def ir.law07_BinHits : IC :=
 (.seq (.reg [.n 2 .box [.t 0], .n 3 .box [.t 1], .n 4 .mov [.c (.bool false)]])
   (.seq (.reg [.n 19 (.load 6 true) [.t 2], .n 20 (.load 2 true) [.t 3], .n 21 (.call 4) [.t 19, .t 20], .n 18 .mov [.t 21], .n 22 (.extract 0) [.t 18], .n 23 (.extract 1) [.t 18], .n 24 (.extract 2) [.t 18], .n 5 .mov [.t 22], .n 6 .mov [.t 23], .n 7 .mov [.t 24]])
   (.seq (.seq (.reg [.n 25 .mov [.t 7], .n 26 (.bin .neq) [.t 25, .i 0]])
   (.cond (.t 26) (.seq (.reg [.n 27 .mov [.t 5], .n 28 (.len false) [.t 27], .n 29 (.bin .eql) [.t 28, .i 0], .n 30 .mov [.t 29], .w 31 .mov [.t 6] 30 true, .w 32 (.len false) [.t 31] 30 true, .w 33 (.bin .eql) [.t 32, .i 0] 30 true, .n 34 .pick [.t 30, .t 33, .c (.bool false)], .n 35 .mov [.t 34], .w 36 (.call 5) [] 35 true, .n 37 .pick [.t 35, .t 36, .c (.bool false)], .n 4 .mov [.t 37]])
   .ret) .skip))
   (.seq (.seq (.reg [.n 38 (.faddr 3) [.t 2], .n 39 (.load 1 false) [.t 38], .n 40 (.call 6) [.t 39, .i 1, .i 16], .n 41 (.un .not) [.t 40], .n 42 .mov [.t 41], .w 43 (.faddr 4) [.t 2] 42 false, .w 44 (.load 1 false) [.t 43] 42 false, .w 45 (.call 6) [.t 44, .i 1, .i 16] 42 false, .w 46 (.un .not) [.t 45] 42 false, .n 47 .pick [.t 42, .c (.bool true), .t 46]])
   (.cond (.t 47) (.seq (.reg [.n 4 .mov [.c (.bool false)]])
   .ret) .skip))
   (.seq (.reg [.n 48 (.faddr 3) [.t 2], .n 49 (.load 1 false) [.t 48], .n 50 (.faddr 4) [.t 2], .n 51 (.load 1 false) [.t 50], .n 52 (.bin .mul) [.t 49, .t 51], .n 8 .mov [.t 52]])
   (.seq (.draw [0, 1, 0, 4, 3, 31] [.n 53 .mov [.t 8], .n 54 (.mkbox 1 24 [.nils]) [.t 53, .t 53], .n 55 .mov [.t 8], .n 56 (.mkbox 1 24 [.nils]) [.t 55, .t 55], .n 9 .mov [.t 54], .n 10 .mov [.t 56]])
   (.seq (.seq (.reg [.n 11 .mov [.i 0]])
   (.block 0 (.loop (.seq (.seq (.reg [.n 57 .mov [.t 11], .n 58 .mov [.t 8], .n 59 (.bin .lss) [.t 57, .t 58]])
   (.cond (.t 59) .skip (.exit 0)))
   (.seq (.block 1 (.draw [0, 0, 0, 0, 0, 16, 48, 112, 0, 256, 768, 1792, 243, 4339, 16383, 32767] [.n 62 .mov [.t 9], .n 63 .mov [.t 11], .n 64 .mov [.t 10], .n 65 .mov [.t 11], .n 66 (.faddr 5) [.t 2], .n 67 (.load 1 false) [.t 66], .n 68 (.len false) [.t 67], .n 69 (.mkbox 1 8 [(.int .i64 0)]) [.t 68, .t 68], .n 70 (.faddr 5) [.t 2], .n 71 (.load 1 false) [.t 70], .n 72 (.len false) [.t 71], .n 73 (.mkbox 1 8 [(.int .i64 0)]) [.t 72, .t 72], .n 74 (.iaddrS 1) [.t 62, .t 63], .s (.store 1) [.t 74, .t 69], .n 75 (.iaddrS 1) [.t 64, .t 65], .s (.store 1) [.t 75, .t 73]]))
   (.reg [.n 60 .mov [.t 11], .n 61 (.bin .add) [.t 60, .i 1], .n 11 .mov [.t 61]]))))))
   (.seq (.seq (.reg [.n 12 .mov [.i 0]])
   (.block 2 (.loop (.seq (.seq (.reg [.n 76 .mov [.t 12], .n 77 (.faddr 1) [.t 3], .n 78 (.load 1 false) [.t 77], .n 79 (.len false) [.t 78], .n 80 (.bin .lss) [.t 76, .t 79]])
   (.cond (.t 80) .skip (.exit 2)))
   (.seq (.block 3 (.seq (.reg [.n 84 (.load 6 true) [.t 2], .n 85 (.load 2 true) [.t 3], .n 86 .mov [.t 12], .n 87 (.call 7) [.t 84, .t 85, .t 86], .n 83 .mov [.t 87], .n 88 (.extract 0) [.t 83], .n 89 (.extract 1) [.t 83], .n 13 .mov [.t 88], .n 14 .mov [.t 89]])
   (.seq (.seq (.reg [.n 90 .mov [.t 14], .n 91 (.bin .neq) [.t 90, .i 0], .n 92 .mov [.t 91], .w 93 .mov [.t 13] 92 false, .w 94 (.len false) [.t 93] 92 false, .w 95 (.bin .eql) [.t 94, .i 0] 92 false, .n 96 .pick [.t 92, .c (.bool true), .t 95]])
   (.cond (.t 96) (.seq (.reg [.n 4 .mov [.c (.bool false)]])
   .ret) .skip))
   (.seq (.reg [.n 15 .mov [.i 0]])
   (.block 4 (.loop (.seq (.seq (.reg [.n 97 .mov [.t 15], .n 98 .mov [.t 13], .n 99 (.len false) [.t 98], .n 100 (.bin .lss) [.t 97, .t 99]])
   (.cond (.t 100) .skip (.exit 4)))
   (.seq (.block 5 (.seq (.reg [.n 103 .mov [.t 13], .n 104 .mov [.t 15], .n 105 (.iaddrS 2) [.t 103, .t 104], .n 106 (.load 2 true) [.t 105], .n 16 (.alloc [(.int .i64 0), (.int .i64 0)]) [], .s (.store 2) [.t 16, .t 106]])
   (.seq (.seq (.draw [0, 1, 3, 7, 7, 23, 63, 127, 255, 7, 519, 2047, 4095, 8191, 8191, 24575, 65535, 131071, 262143, 8191, 532479, 2097151, 4194303, 8388607, 8388607, 25165823, 67108863, 134217727, 268435455, 8388607, 545259519, 2147483647, 4294967295, 8589934591, 17179869183] [.n 107 .mov [.t 15], .n 108 (.bin .gtr) [.t 107, .i 0], .n 109 .mov [.t 108], .w 110 .mov [.t 13] 109 true, .w 111 .mov [.t 15] 109 true, .w 112 (.bin .sub) [.t 111, .i 1] 109 true, .w 113 (.iaddrS 2) [.t 110, .t 112] 109 true, .w 114 (.faddr 0) [.t 113] 109 true, .w 115 (.load 1 false) [.t 114] 109 true, .w 116 (.faddr 0) [.t 16] 109 true, .w 117 (.load 1 false) [.t 116] 109 true, .w 118 (.bin .gtr) [.t 115, .t 117] 109 true, .w 119 .mov [.t 118] 109 true, .w 120 .mov [.t 13] 119 false, .w 121 .mov [.t 15] 119 false, .w 122 (.bin .sub) [.t 121, .i 1] 119 false, .w 123 (.iaddrS 2) [.t 120, .t 122] 119 false, .w 124 (.faddr 0) [.t 123] 119 false, .w 125 (.load 1 false) [.t 124] 119 false, .w 126 (.faddr 0) [.t 16] 119 false, .w 127 (.load 1 false) [.t 126] 119 false, .w 128 (.bin .eql) [.t 125, .t 127] 119 false, .w 129 .mov [.t 128] 119 false, .w 130 .mov [.t 13] 129 true, .w 131 .mov [.t 15] 129 true, .w 132 (.bin .sub) [.t 131, .i 1] 129 true, .w 133 (.iaddrS 2) [.t 130, .t 132] 129 true, .w 134 (.faddr 1) [.t 133] 129 true, .w 135 (.load 1 false) [.t 134] 129 true, .w 136 (.faddr 1) [.t 16] 129 true, .w 137 (.load 1 false) [.t 136] 129 true, .w 138 (.bin .geq) [.t 135, .t 137] 129 true, .w 139 .pick [.t 129, .t 138, .c (.bool false)] 119 false, .w 140 .pick [.t 119, .c (.bool true), .t 139] 109 true, .n 141 .pick [.t 109, .t 140, .c (.bool false)]])
   (.cond (.t 141) (.seq (.reg [.n 4 .mov [.c (.bool false)]])
   .ret) .skip))
   (.seq (.seq (.reg [.n 142 (.load 2 true) [.t 16], .n 143 (.build [(.int .i64 0), (.int .i64 0)] [(0, 1), (1, 1)]) [.i (-1), .i (-1)], .n 144 (.eqs false [0, 0]) [.t 142, .t 143]])
   (.cond (.t 144) (.exit 5) .skip))
   (.seq (.seq (.reg [.n 145 (.faddr 0) [.t 16], .n 146 (.load 1 false) [.t 145], .n 147 .mov [.t 8], .n 148 (.bin .sub) [.t 147, .i 1], .n 149 (.call 6) [.t 146, .i 0, .t 148], .n 150 (.un .not) [.t 149], .n 151 .mov [.t 150], .w 152 (.faddr 1) [.t 16] 151 false, .w 153 (.load 1 false) [.t 152] 151 false, .w 154 (.faddr 5) [.t 2] 151 false, .w 155 (.load 1 false) [.t 154] 151 false, .w 156 (.len false) [.t 155] 151 false, .w 157 (.bin .sub) [.t 156, .i 1] 151 false, .w 158 (.call 6) [.t 153, .i 0, .t 157] 151 false, .w 159 (.un .not) [.t 158] 151 false, .n 160 .pick [.t 151, .c (.bool true), .t 159]])
   (.cond (.t 160) (.seq (.reg [.n 4 .mov [.c (.bool false)]])
   .ret) .skip))
   (.seq (.reg [.n 161 .mov [.t 10], .n 162 (.faddr 0) [.t 16], .n 163 (.load 1 false) [.t 162], .n 164 (.iaddrS 1) [.t 161, .t 163], .n 165 (.load 1 false) [.t 164], .n 17 .mov [.t 165]])
   (.seq (.reg [.n 166 .mov [.t 17], .n 167 (.faddr 1) [.t 16], .n 168 (.load 1 false) [.t 167], .n 169 (.iaddrS 1) [.t 166, .t 168], .n 170 (.load 1 false) [.t 169], .n 171 (.bin .add) [.t 170, .i 1], .n 172 (.iaddrS 1) [.t 166, .t 168], .s (.store 1) [.t 172, .t 171]])
   (.seq (.reg [.n 173 .mov [.t 13], .n 174 (.len false) [.t 173], .n 175 (.bin .eql) [.t 174, .i 1]])
   (.cond (.t 175) (.seq (.reg [.n 176 .mov [.t 9], .n 177 (.faddr 0) [.t 16], .n 178 (.load 1 false) [.t 177], .n 179 (.iaddrS 1) [.t 176, .t 178], .n 180 (.load 1 false) [.t 179], .n 17 .mov [.t 180]])
   (.reg [.n 181 .mov [.t 17], .n 182 (.faddr 1) [.t 16], .n 183 (.load 1 false) [.t 182], .n 184 (.iaddrS 1) [.t 181, .t 183], .n 185 (.load 1 false) [.t 184], .n 186 (.bin .add) [.t 185, .i 1], .n 187 (.iaddrS 1) [.t 181, .t 183], .s (.store 1) [.t 187, .t 186]])) .skip)))))))))
   (.reg [.n 101 .mov [.t 15], .n 102 (.bin .add) [.t 101, .i 1], .n 15 .mov [.t 102]])))))))))
   (.reg [.n 81 .mov [.t 12], .n 82 (.bin .add) [.t 81, .i 1], .n 12 .mov [.t 82]]))))))
   (.seq (.reg [.n 188 .mov [.t 5], .n 189 .mov [.t 9], .n 190 (.call 8) [.t 188, .t 189], .n 191 .mov [.t 190], .w 192 .mov [.t 6] 191 true, .w 193 .mov [.t 10] 191 true, .w 194 (.call 8) [.t 192, .t 193] 191 true, .n 195 .pick [.t 191, .t 194, .c (.bool false)], .n 196 .mov [.t 195], .w 197 (.call 5) [] 196 true, .n 198 .pick [.t 196, .t 197, .c (.bool false)], .n 4 .mov [.t 198]])
   .ret)))))))))
theorem chk.law07_BinHits : chkF Tryd.prog 3 = some (199, ir.law07_BinHits, [.tmp 4]) := by kernel_rfl

/-- paravane/bin.Fold -/
abbrev F.bin_Fold : Nat := 4
def ir.bin_Fold : IC :=
 (.seq (.reg [.n 2 .box [.t 0], .n 3 .box [.t 1], .n 4 .mov [.c .nils], .n 5 .mov [.c .nils], .n 6 .mov [.i 0]])
   (.seq (.reg [.n 11 (.load 6 true) [.t 2], .n 12 (.load 2 true) [.t 3], .n 13 (.call 9) [.t 11, .t 12], .n 10 .mov [.t 13], .n 14 (.extract 0) [.t 10], .n 15 (.extract 1) [.t 10], .n 7 (.alloc [(.int .i64 0), (.int .i64 0), (.int .i64 0), (.int .i64 0), (.int .i64 0), .nils, .nils, .nils]) [], .s (.store 8) [.t 7, .t 14], .n 6 .mov [.t 15]])
   (.seq (.seq (.reg [.n 16 .mov [.t 6], .n 17 (.bin .neq) [.t 16, .i 0]])
   (.cond (.t 17) (.seq (.reg [.n 18 .mov [.t 6], .n 4 .mov [.c .nils], .n 5 .mov [.c .nils], .n 6 .mov [.t 18]])
   .ret) .skip))
   (.seq (.draw [0, 1, 0, 4, 3, 31] [.n 19 (.load 8 true) [.t 7], .n 20 (.mkfunc (.func 10) 1) [.t 19], .n 21 (.load 8 true) [.t 7], .n 22 (.mkfunc (.func 11) 1) [.t 21], .n 8 .mov [.t 20], .n 9 .mov [.t 22]])
   (.seq (.draw [0, 0, 3, 0, 0, 31, 63, 127, 255] [.n 23 (.load 8 true) [.t 7], .n 24 .mov [.t 8], .n 25 (.call 12) [.t 23, .t 24], .n 26 (.load 8 true) [.t 7], .n 27 .mov [.t 9], .n 28 (.call 12) [.t 26, .t 27], .n 4 .mov [.t 25], .n 5 .mov [.t 28], .n 6 .mov [.i 0]])
   .ret)))))
theorem chk.bin_Fold : chkF Tryd.prog 4 = some (29, ir.bin_Fold, [.tmp 4, .tmp 5, .tmp 6]) := by kernel_rfl

/-- paravane/paravanelaw07.works -/
abbrev F.law07_works : Nat := 5
def ir.law07_works : IC :=
 (.seq (.reg [.n 0 .mov [.c (.bool false)]])
   (.seq (.reg [.n 19 (.call 14) [], .n 20 (.build [(.int .i64 0), (.int .i64 0)] [(0, 1), (1, 1)]) [.i 1, .i 1], .n 21 (.build [(.int .i64 0), (.int .i64 0)] [(0, 1), (1, 1)]) [.i 9, .i 3], .n 22 (.call 13) [.t 19, .t 20, .t 21], .n 18 .mov [.t 22], .n 23 (.extract 0) [.t 18], .n 24 (.extract 1) [.t 18], .n 1 (.alloc [(.int .i64 0), (.int .i64 0)]) [], .s (.store 2) [.t 1, .t 23], .n 2 .mov [.t 24]])
   (.seq (.reg [.n 26 (.call 14) [], .n 27 (.call 15) [], .n 28 (.call 7) [.t 26, .t 27, .i 2], .n 25 .mov [.t 28], .n 29 (.extract 0) [.t 25], .n 30 (.extract 1) [.t 25], .n 3 .mov [.t 29], .n 4 .mov [.t 30]])
   (.seq (.reg [.n 32 (.call 14) [], .n 33 (.call 15) [], .n 34 (.call 4) [.t 32, .t 33], .n 31 .mov [.t 34], .n 35 (.extract 0) [.t 31], .n 36 (.extract 1) [.t 31], .n 37 (.extract 2) [.t 31], .n 5 .mov [.t 35], .n 6 .mov [.t 36], .n 7 .mov [.t 37]])
   (.seq (.seq (.reg [.n 38 .mov [.t 2], .n 39 (.bin .neq) [.t 38, .i 0], .n 40 .mov [.t 39], .w 41 .mov [.t 4] 40 false, .w 42 (.bin .neq) [.t 41, .i 0] 40 false, .n 43 .pick [.t 40, .c (.bool true), .t 42], .n 44 .mov [.t 43], .w 45 .mov [.t 7] 44 false, .w 46 (.bin .neq) [.t 45, .i 0] 44 false, .n 47 .pick [.t 44, .c (.bool true), .t 46], .n 48 .mov [.t 47], .w 49 (.load 2 true) [.t 1] 48 false, .w 50 (.build [(.int .i64 0), (.int .i64 0)] [(0, 1), (1, 1)]) [.i 5, .i 1] 48 false, .w 51 (.eqs true [0, 0]) [.t 49, .t 50] 48 false, .n 52 .pick [.t 48, .c (.bool true), .t 51], .n 53 .mov [.t 52], .w 54 .mov [.t 3] 53 false, .w 55 (.build [(.int .i64 0), (.int .i64 0)] [(0, 1), (1, 1)]) [.i (-1), .i (-1)] 53 false, .w 56 (.build [(.int .i64 0), (.int .i64 0)] [(0, 1)]) [.i 5] 53 false, .w 57 (.mkslice 2 42) [.t 55, .t 56] 53 false, .w 58 (.call 16) [.t 54, .t 57] 53 false, .w 59 (.un .not) [.t 58] 53 false, .n 60 .pick [.t 53, .c (.bool true), .t 59], .n 61 .mov [.t 60], .w 62 .mov [.t 5] 61 false, .w 63 (.mkslice 1 3) [.i 0, .i 0] 61 false, .w 64 (.mkslice 1 3) [.i 0, .i 0] 61 false, .w 65 (.mkslice 1 3) [.i 0, .i 0] 61 false, .w 66 (.mkslice 1 3) [.i 0, .i 0] 61 false, .w 67 (.mkslice 1 3) [.i 1, .i 0] 61 false, .w 68 (.mkslice 1 3) [.i 0, .i 1] 61 false, .w 69 (.mkslice 1 37) [.t 63, .t 64, .t 65, .t 66, .t 67, .t 68] 61 false, .w 70 (.call 8) [.t 62, .t 69] 61 false, .w 71 (.un .not) [.t 70] 61 false, .n 72 .pick [.t 61, .c (.bool true), .t 71], .n 73 .mov [.t 72], .w 74 .mov [.t 6] 73 false, .w 75 (.mkslice 1 3) [.i 0, .i 0] 73 false, .w 76 (.mkslice 1 3) [.i 0, .i 0] 73 false, .w 77 (.mkslice 1 3) [.i 0, .i 0] 73 false, .w 78 (.mkslice 1 3) [.i 0, .i 0] 73 false, .w 79 (.mkslice 1 3) [.i 1, .i 0] 73 false, .w 80 (.mkslice 1 3) [.i 1, .i 1] 73 false, .w 81 (.mkslice 1 37) [.t 75, .t 76, .t 77, .t 78, .t 79, .t 80] 73 false, .w 82 (.call 8) [.t 74, .t 81] 73 false, .w 83 (.un .not) [.t 82] 73 false, .n 84 .pick [.t 73, .c (.bool true), .t 83]])
   (.cond (.t 84) (.seq (.reg [.n 0 .mov [.c (.bool false)]])
   .ret) .skip))
   (.seq (.reg [.n 86 (.call 14) [], .n 87 .mov [.t 5], .n 88 (.call 17) [.t 86, .t 87, .i 0], .n 85 .mov [.t 88], .n 89 (.extract 0) [.t 85], .n 90 (.extract 1) [.t 85], .n 8 .mov [.t 89], .n 2 .mov [.t 90]])
   (.seq (.reg [.n 92 (.call 14) [], .n 93 (.call 15) [], .n 94 (.mkslice 1 3) [.i 0, .i 2], .n 95 (.call 18) [.t 92, .t 93, .t 94], .n 91 .mov [.t 95], .n 96 (.extract 0) [.t 91], .n 97 (.extract 1) [.t 91], .n 9 .mov [.t 96], .n 4 .mov [.t 97]])
   (.seq (.reg [.n 99 (.call 14) [], .n 100 (.call 15) [], .n 101 (.call 19) [.t 99, .t 100, .i 2], .n 98 .mov [.t 101], .n 102 (.extract 0) [.t 98], .n 103 (.extract 1) [.t 98], .n 10 .mov [.t 102], .n 7 .mov [.t 103]])
   (.seq (.reg [.n 105 (.call 21) [], .n 106 (.call 20) [.t 105], .n 104 .mov [.t 106], .n 107 (.extract 0) [.t 104], .n 108 (.extract 1) [.t 104], .n 109 (.extract 2) [.t 104], .n 11 .mov [.t 107], .n 12 .mov [.t 108], .n 13 .mov [.t 109]])
   (.seq (.reg [.n 111 (.call 21) [], .n 112 (.call 22) [.t 111, .i 3], .n 110 .mov [.t 112], .n 113 (.extract 0) [.t 110], .n 114 (.extract 1) [.t 110], .n 14 .mov [.t 113], .n 15 .mov [.t 114]])
   (.seq (.reg [.n 116 (.call 21) [], .n 117 (.mkslice 1 3) [.i 2, .i 2], .n 118 (.build [(.int .i64 0), .nils] [(0, 1), (1, 1)]) [.i (-1), .t 117], .n 119 (.mkslice 2 73) [.t 118], .n 120 (.call 23) [.t 116, .t 119], .n 115 .mov [.t 120], .n 121 (.extract 0) [.t 115], .n 122 (.extract 1) [.t 115], .n 16 .mov [.t 121], .n 17 .mov [.t 122]])
   (.seq (.reg [.n 123 .mov [.t 2], .n 124 (.bin .eql) [.t 123, .i 0], .n 125 .mov [.t 124], .w 126 .mov [.t 4] 125 true, .w 127 (.bin .eql) [.t 126, .i 0] 125 true, .n 128 .pick [.t 125, .t 127, .c (.bool false)], .n 129 .mov [.t 128], .w 130 .mov [.t 7] 129 true, .w 131 (.bin .eql) [.t 130, .i 0] 129 true, .n 132 .pick [.t 129, .t 131, .c (.bool false)], .n 133 .mov [.t 132], .w 134 .mov [.t 13] 133 true, .w 135 (.bin .eql) [.t 134, .i 0] 133 true, .n 136 .pick [.t 133, .t 135, .c (.bool false)], .n 137 .mov [.t 136], .w 138 .mov [.t 15] 137 true, .w 139 (.bin .eql) [.t 138, .i 0] 137 true, .n 140 .pick [.t 137, .t 139, .c (.bool false)], .n 141 .mov [.t 140], .w 142 .mov [.t 17] 141 true, .w 143 (.bin .eql) [.t 142, .i 0] 141 true, .n 144 .pick [.t 141, .t 143, .c (.bool false)], .n 145 .mov [.t 144], .w 146 .mov [.t 8] 145 true, ⟨(some 147), .bin .eql, [.t 146, .c (.str ⟨#[46, 49, 46, 10, 46, 46, 46, 10]⟩)], (some (145, true))⟩, .n 148 .pick [.t 145, .t 147, .c (.bool false)], .n 149 .mov [.t 148], .w 150 .mov [.t 9] 149 true, .w 151 (.len false) [.t 150] 149 true, .w 152 (.bin .eql) [.t 151, .i 6] 149 true, .n 153 .pick [.t 149, .t 152, .c (.bool false)], .n 154 .mov [.t 153], .w 155 .mov [.t 9] 154 true, .w 156 (.iaddrS 3) [.t 155, .i 5] 154 true, .w 157 (.load 3 true) [.t 156] 154 true, .w 158 (.build [(.int .i64 0), (.int .i64 0), (.int .i64 0)] [(0, 1), (1, 1), (2, 1)]) [.i 5, .i 1, .i 1] 154 true, .w 159 (.eqs false [0, 0, 0]) [.t 157, .t 158] 154 true, .n 160 .pick [.t 154, .t 159, .c (.bool false)], .n 161 .mov [.t 160], .w 162 .mov [.t 10] 161 true, .w 163 (.bin .eql) [.t 162, .i 0] 161 true, .n 164 .pick [.t 161, .t 163, .c (.bool false)], .n 165 .mov [.t 164], .w 166 .mov [.t 11] 165 true, .w 167 (.mkslice 1 3) [.i 3] 165 true, .w 168 (.call 24) [.t 166, .t 167] 165 true, .n 169 .pick [.t 165, .t 168, .c (.bool false)], .n 170 .mov [.t 169], .w 171 .mov [.t 12] 170 true, .w 172 (.bin .eql) [.t 171, .i 6] 170 true, .n 173 .pick [.t 170, .t 172, .c (.bool false)], .n 174 .mov [.t 173], .w 175 .mov [.t 14] 174 true, .w 176 (.bin .eql) [.t 175, .i 1] 174 true, .n 177 .pick [.t 174, .t 176, .c (.bool false)], .n 178 .mov [.t 177], .w 179 .mov [.t 16] 178 true, .w 180 (.bin .eql) [.t 179, .i 6] 178 true, .n 181 .pick [.t 178, .t 180, .c (.bool false)], .n 0 .mov [.t 181]])
   .ret))))))))))))
theorem chk.law07_works : chkF Tryd.prog 5 = some (182, ir.law07_works, [.tmp 0]) := by kernel_rfl

/-- paravane/paravaneref00.Between -/
abbrev F.ref00_Between : Nat := 6
def ir.ref00_Between : IC :=
 (.seq (.reg [.n 6 .mov [.c (.bool false)]])
   (.seq (.reg [.n 7 .mov [.t 0], .n 8 .mov [.t 1], .n 9 (.bin .geq) [.t 7, .t 8], .n 10 .mov [.t 9], .w 11 .mov [.t 0] 10 true, .w 12 .mov [.t 2] 10 true, .w 13 (.bin .leq) [.t 11, .t 12] 10 true, .n 14 .pick [.t 10, .t 13, .c (.bool false)], .n 6 .mov [.t 14]])
   .ret))
theorem chk.ref00_Between : chkF Tryd.prog 6 = some (15, ir.ref00_Between, [.tmp 6]) := by kernel_rfl

/-- paravane/bin.Hits -/
abbrev F.bin_Hits : Nat := 7
def ir.bin_Hits : IC :=
 (.seq (.reg [.n 3 .box [.t 0], .n 4 .box [.t 1], .n 6 .mov [.c .nils], .n 7 .mov [.i 0]])
   (.seq (.reg [.n 11 (.load 6 true) [.t 3], .n 12 (.load 2 true) [.t 4], .n 13 (.call 9) [.t 11, .t 12], .n 10 .mov [.t 13], .n 14 (.extract 0) [.t 10], .n 15 (.extract 1) [.t 10], .n 8 (.alloc [(.int .i64 0), (.int .i64 0), (.int .i64 0), (.int .i64 0), (.int .i64 0), .nils, .nils, .nils]) [], .s (.store 8) [.t 8, .t 14], .n 9 .mov [.t 15]])
   (.seq (.seq (.reg [.n 16 .mov [.t 9], .n 17 (.bin .neq) [.t 16, .i 0]])
   (.cond (.t 17) (.seq (.reg [.n 18 .mov [.t 9], .n 6 .mov [.c .nils], .n 7 .mov [.t 18]])
   .ret) .skip))
   (.seq (.seq (.reg [.n 19 .mov [.t 2], .n 20 (.faddr 1) [.t 4], .n 21 (.load 1 false) [.t 20], .n 22 (.len false) [.t 21], .n 23 (.bin .sub) [.t 22, .i 1], .n 24 (.call 25) [.t 19, .i 0, .t 23], .n 25 (.un .not) [.t 24]])
   (.cond (.t 25) (.seq (.reg [.n 6 .mov [.c .nils], .n 7 .mov [.i 72]])
   .ret) .skip))
   (.seq (.reg [.n 26 (.load 8 true) [.t 8], .n 27 .mov [.t 2], .n 28 (.call 11) [.t 26, .t 27], .n 6 .mov [.t 28], .n 7 .mov [.i 0]])
   .ret)))))
theorem chk.bin_Hits : chkF Tryd.prog 7 = some (29, ir.bin_Hits, [.tmp 6, .tmp 7]) := by kernel_rfl

/-- paravane/paravaneref00.AlikeLists -/
abbrev F.ref00_AlikeLists : Nat := 8
def ir.ref00_AlikeLists : IC :=
 (.seq (.reg [.n 4 .mov [.c (.bool false)]])
   (.seq (.seq (.reg [.n 6 .mov [.t 0], .n 7 (.len false) [.t 6], .n 8 .mov [.t 1], .n 9 (.len false) [.t 8], .n 10 (.bin .neq) [.t 7, .t 9]])
   (.cond (.t 10) (.seq (.reg [.n 4 .mov [.c (.bool false)]])
   .ret) .skip))
   (.seq (.seq (.reg [.n 5 .mov [.i 0]])
   (.block 0 (.loop (.seq (.seq (.reg [.n 11 .mov [.t 5], .n 12 .mov [.t 0], .n 13 (.len false) [.t 12], .n 14 (.bin .lss) [.t 11, .t 13]])
   (.cond (.t 14) .skip (.exit 0)))
   (.seq (.block 1 (.seq (.draw [0, 0, 3, 7, 0, 0, 48, 112, 255, 511] [.n 17 .mov [.t 0], .n 18 .mov [.t 5], .n 19 (.iaddrS 1) [.t 17, .t 18], .n 20 (.load 1 false) [.t 19], .n 21 .mov [.t 1], .n 22 .mov [.t 5], .n 23 (.iaddrS 1) [.t 21, .t 22], .n 24 (.load 1 false) [.t 23], .n 25 (.call 24) [.t 20, .t 24], .n 26 (.un .not) [.t 25]])
   (.cond (.t 26) (.seq (.reg [.n 4 .mov [.c (.bool false)]])
   .ret) .skip)))
   (.reg [.n 15 .mov [.t 5], .n 16 (.bin .add) [.t 15, .i 1], .n 5 .mov [.t 16]]))))))
   (.seq (.reg [.n 4 .mov [.c (.bool true)]])
   .ret))))
theorem chk.ref00_AlikeLists : chkF Tryd.prog 8 = some (27, ir.ref00_AlikeLists, [.tmp 4]) := by kernel_rfl

/-- paravane/bin.begun -/
abbrev F.bin_begun : Nat := 9
def ir.bin_begun : IC :=
 (.seq (.reg [.n 2 .box [.t 0], .n 3 .box [.t 1], .n 4 (.alloc [(.int .i64 0), (.int .i64 0), (.int .i64 0), (.int .i64 0), (.int .i64 0), .nils, .nils, .nils]) [], .n 5 .mov [.i 0]])
   (.seq (.seq (.reg [.n 8 (.load 6 true) [.t 2], .n 9 (.call 26) [.t 8], .n 6 .mov [.t 9]])
   (.seq (.reg [.n 10 .mov [.t 6], .n 11 (.bin .neq) [.t 10, .i 0]])
   (.cond (.t 11) (.seq (.reg [.n 12 (.build [(.int .i64 0), (.int .i64 0), (.int .i64 0), (.int .i64 0), (.int .i64 0), .nils, .nils, .nils] []) [], .n 13 .mov [.t 6], .s (.store 8) [.t 4, .t 12], .n 5 .mov [.t 13]])
   .ret) .skip)))
   (.seq (.seq (.reg [.n 14 (.load 2 true) [.t 3], .n 15 (.call 27) [.t 14], .n 7 .mov [.t 15]])
   (.seq (.reg [.n 16 .mov [.t 7], .n 17 (.bin .neq) [.t 16, .i 0]])
   (.cond (.t 17) (.seq (.reg [.n 18 (.build [(.int .i64 0), (.int .i64 0), (.int .i64 0), (.int .i64 0), (.int .i64 0), .nils, .nils, .nils] []) [], .n 19 .mov [.t 7], .s (.store 8) [.t 4, .t 18], .n 5 .mov [.t 19]])
   .ret) .skip)))
   (.seq (.reg [.n 20 (.load 6 true) [.t 2], .n 21 (.load 2 true) [.t 3], .n 22 (.call 28) [.t 20, .t 21], .s (.store 8) [.t 4, .t 22], .n 5 .mov [.i 0]])
   .ret))))
theorem chk.bin_begun : chkF Tryd.prog 9 = some (23, ir.bin_begun, [.cell 4 47, .tmp 5]) := by kernel_rfl

/-- (paravane/bin.laid).surely -/
abbrev F.bin_laid_surely : Nat := 10
def ir.bin_laid_surely : IC :=
 (.seq (.reg [.n 2 .box [.t 0], .n 4 .mov [.c .nils]])
   (.seq (.seq (.reg [.n 6 (.load 8 true) [.t 2], .n 7 .mov [.t 1], .n 8 (.call 11) [.t 6, .t 7], .n 5 .mov [.t 8]])
   (.seq (.draw [0, 1, 3, 7, 15, 31, 63, 15, 255, 511] [.n 9 .mov [.t 5], .n 10 (.len false) [.t 9], .n 11 (.bin .eql) [.t 10, .i 1], .n 12 .mov [.t 11], .w 13 .mov [.t 5] 12 true, .w 14 (.iaddrS 2) [.t 13, .i 0] 12 true, .w 15 (.load 2 true) [.t 14] 12 true, .w 16 (.load 2 true) [.c (.rptr 0 0)] 12 true, .w 17 (.eqs true [0, 0]) [.t 15, .t 16] 12 true, .n 18 .pick [.t 12, .t 17, .c (.bool false)]])
   (.cond (.t 18) (.seq (.reg [.n 19 .mov [.t 5], .n 4 .mov [.t 19]])
   .ret) .skip)))
   (.seq (.reg [.n 4 .mov [.c .nils]])
   .ret)))
theorem chk.bin_laid_surely : chkF Tryd.prog 10 = some (20, ir.bin_laid_surely, [.tmp 4]) := by kernel_rfl

/-- (paravane/bin.laid).hits -/
abbrev F.bin_laid_hits : Nat := 11
def ir.bin_laid_hits : IC :=
 (.seq (.reg [.n 2 .box [.t 0], .n 4 .mov [.c .nils]])
   (.seq (.reg [.n 11 (.raw 0 81 0) [], .n 5 (.alloc [.nilm]) [], .s (.store 1) [.t 5, .t 11]])
   (.seq (.reg [.n 12 (.faddr 6) [.t 2], .n 13 (.load 1 false) [.t 12], .n 14 .mov [.t 1], .n 15 (.iaddrS 2) [.t 13, .t 14], .n 16 (.load 2 true) [.t 15], .n 6 (.alloc [(.int .i64 0), (.int .i64 0)]) [], .s (.store 2) [.t 6, .t 16]])
   (.seq (.seq (.draw [0, 1, 0, 4, 15, 31, 0, 64, 0, 256, 960, 1984, 4095] [.n 17 (.faddr 7) [.t 2], .n 18 (.load 1 false) [.t 17], .n 19 (.iaddrA 2 1) [.t 6, .i 0], .n 20 (.load 1 false) [.t 19], .n 21 (.iaddrS 1) [.t 18, .t 20], .n 22 (.load 1 false) [.t 21], .n 23 (.faddr 7) [.t 2], .n 24 (.load 1 false) [.t 23], .n 25 (.iaddrA 2 1) [.t 6, .i 1], .n 26 (.load 1 false) [.t 25], .n 27 (.iaddrS 1) [.t 24, .t 26], .n 28 (.load 1 false) [.t 27], .n 29 (.call 29) [.t 22, .t 28]])
   (.block 0 (.range (.t 29) [30, 31] (.seq (.reg [.n 7 (.alloc [(.int .i64 0), (.int .i64 0)]) [], .s (.store 2) [.t 7, .t 30]])
   (.reg [.n 8 (.alloc [(.int .i64 0), (.int .i64 0)]) [], .s (.store 2) [.t 8, .t 31]])) (.block 1 (.draw [0, 0, 2, 0, 0, 30, 63] [.n 32 (.load 1 false) [.t 5], .n 33 (.faddr 0) [.t 2], .n 34 (.load 6 true) [.t 33], .n 35 (.load 2 true) [.t 7], .n 36 (.load 2 true) [.t 8], .n 37 (.call 30) [.t 34, .t 35, .t 36], .s (.raw 1 81 0) [.t 32, .t 37, .c (.bool true)]])))))
   (.seq (.reg [.n 9 .mov [.c .nils]])
   (.seq (.seq (.reg [.n 38 (.load 1 false) [.t 5], .n 39 (.raw 2 81 0) [.t 38]])
   (.block 2 (.loop (.seq (.reg [.n 40 (.raw 3 0 0) [.t 39], .n 41 (.extract 0) [.t 40]])
   (.seq (.cond (.t 41) .skip (.exit 2))
   (.block 3 (.seq (.reg [.n 42 (.raw 4 0 0) [.t 39], .n 43 (.extract 0) [.t 42], .n 10 (.alloc [(.int .i64 0), (.int .i64 0)]) [], .s (.store 2) [.t 10, .t 43]])
   (.reg [.n 44 .mov [.t 9], .n 45 (.load 2 true) [.t 10], .n 46 (.mkslice 2 42) [.t 45], .n 47 (.append 2 16 42) [.t 44, .t 46], .n 9 .mov [.t 47]]))))))))
   (.seq (.reg [.n 48 .mov [.t 9], .n 49 (.call 31) [.t 48, .c (.func (.func 32) [] [])]])
   (.seq (.reg [.n 50 .mov [.t 9], .n 4 .mov [.t 50]])
   .ret))))))))
theorem chk.bin_laid_hits : chkF Tryd.prog 11 = some (51, ir.bin_laid_hits, [.tmp 4]) := by kernel_rfl

/-- (paravane/bin.laid).count -/
abbrev F.bin_laid_count : Nat := 12
def ir.bin_laid_count : IC :=
 (.seq (.reg [.n 2 .box [.t 0], .n 4 .mov [.c .nils]])
   (.seq (.reg [.n 10 (.faddr 0) [.t 2], .n 11 (.faddr 3) [.t 10], .n 12 (.load 1 false) [.t 11], .n 13 (.faddr 0) [.t 2], .n 14 (.faddr 4) [.t 13], .n 15 (.load 1 false) [.t 14], .n 16 (.bin .mul) [.t 12, .t 15], .n 17 (.mkbox 1 24 [.nils]) [.t 16, .t 16], .n 5 .mov [.t 17]])
   (.seq (.seq (.reg [.n 18 .mov [.t 5], .n 19 (.len false) [.t 18], .n 20 .mov [.i 0]])
   (.block 0 (.loop (.seq (.reg [.n 21 (.bin .lss) [.t 20, .t 19]])
   (.seq (.cond (.t 21) .skip (.exit 0))
   (.seq (.block 1 (.seq (.reg [.n 22 .mov [.t 20], .n 6 .mov [.t 22]])
   (.reg [.n 23 .mov [.t 5], .n 24 .mov [.t 6], .n 25 (.faddr 0) [.t 2], .n 26 (.faddr 5) [.t 25], .n 27 (.load 1 false) [.t 26], .n 28 (.len false) [.t 27], .n 29 (.mkbox 1 8 [(.int .i64 0)]) [.t 28, .t 28], .n 30 (.iaddrS 1) [.t 23, .t 24], .s (.store 1) [.t 30, .t 29]])))
   (.reg [.n 31 (.bin .add) [.t 20, .i 1], .n 20 .mov [.t 31]])))))))
   (.seq (.seq (.reg [.n 32 (.faddr 6) [.t 2], .n 33 (.load 1 false) [.t 32], .n 34 (.len false) [.t 33], .n 35 .mov [.i 0]])
   (.block 2 (.loop (.seq (.reg [.n 36 (.bin .lss) [.t 35, .t 34]])
   (.seq (.cond (.t 36) .skip (.exit 2))
   (.seq (.block 3 (.seq (.reg [.n 37 .mov [.t 35], .n 7 .mov [.t 37]])
   (.seq (.reg [.n 38 .mov [.t 1], .n 39 .mov [.t 7], .n 40 .callv [.t 38, .t 39], .n 41 (.len false) [.t 40], .n 42 .mov [.i 0]])
   (.block 4 (.loop (.seq (.reg [.n 43 (.bin .lss) [.t 42, .t 41]])
   (.seq (.cond (.t 43) .skip (.exit 4))
   (.seq (.block 5 (.seq (.reg [.n 44 (.iaddrS 2) [.t 40, .t 42], .n 45 (.load 2 true) [.t 44], .n 9 (.alloc [(.int .i64 0), (.int .i64 0)]) [], .s (.store 2) [.t 9, .t 45]])
   (.seq (.reg [.n 46 (.load 2 true) [.t 9], .n 47 (.load 2 true) [.c (.rptr 0 0)], .n 48 (.eqs true [0, 0]) [.t 46, .t 47]])
   (.cond (.t 48) (.draw [0, 0, 2, 7, 15, 0, 32, 127, 255, 511, 1023, 2047] [.n 49 .mov [.t 5], .n 50 (.faddr 0) [.t 9], .n 51 (.load 1 false) [.t 50], .n 52 (.iaddrS 1) [.t 49, .t 51], .n 53 (.load 1 false) [.t 52], .n 54 (.faddr 1) [.t 9], .n 55 (.load 1 false) [.t 54], .n 56 (.iaddrS 1) [.t 53, .t 55], .n 57 (.load 1 false) [.t 56], .n 58 (.bin .add) [.t 57, .i 1], .n 59 (.iaddrS 1) [.t 53, .t 55], .s (.store 1) [.t 59, .t 58]]) .skip))))
   (.reg [.n 60 (.bin .add) [.t 42, .i 1], .n 42 .mov [.t 60]])))))))))
   (.reg [.n 61 (.bin .add) [.t 35, .i 1], .n 35 .mov [.t 61]])))))))
   (.seq (.reg [.n 62 .mov [.t 5], .n 4 .mov [.t 62]])
   .ret)))))
theorem chk.bin_laid_count : chkF Tryd.prog 12 = some (63, ir.bin_laid_count, [.tmp 4]) := by kernel_rfl

/-- paravane/bin.Cell -/
abbrev F.bin_Cell : Nat := 13
def ir.bin_Cell : IC :=
 (.seq (.reg [.n 3 .box [.t 0], .n 4 .box [.t 1], .n 5 .box [.t 2], .n 6 (.alloc [(.int .i64 0), (.int .i64 0)]) [], .n 7 .mov [.i 0]])
   (.seq (.seq (.reg [.n 9 (.load 6 true) [.t 3], .n 10 (.call 26) [.t 9], .n 8 .mov [.t 10]])
   (.seq (.reg [.n 11 .mov [.t 8], .n 12 (.bin .neq) [.t 11, .i 0]])
   (.cond (.t 12) (.seq (.reg [.n 13 (.build [(.int .i64 0), (.int .i64 0)] []) [], .n 14 .mov [.t 8], .s (.store 2) [.t 6, .t 13], .n 7 .mov [.t 14]])
   .ret) .skip)))
   (.seq (.seq (.reg [.n 15 (.load 2 true) [.t 4], .n 16 (.call 33) [.t 15], .n 17 (.bin .neq) [.t 16, .i 0], .n 18 .mov [.t 17], .w 19 (.load 2 true) [.t 5] 18 false, .w 20 (.call 33) [.t 19] 18 false, .w 21 (.bin .neq) [.t 20, .i 0] 18 false, .n 22 .pick [.t 18, .c (.bool true), .t 21]])
   (.cond (.t 22) (.seq (.reg [.n 23 (.build [(.int .i64 0), (.int .i64 0)] []) [], .s (.store 2) [.t 6, .t 23], .n 7 .mov [.i 10]])
   .ret) .skip))
   (.seq (.reg [.n 24 (.load 6 true) [.t 3], .n 25 (.load 2 true) [.t 4], .n 26 (.load 2 true) [.t 5], .n 27 (.call 30) [.t 24, .t 25, .t 26], .s (.store 2) [.t 6, .t 27], .n 7 .mov [.i 0]])
   .ret))))
theorem chk.bin_Cell : chkF Tryd.prog 13 = some (28, ir.bin_Cell, [.cell 6 42, .tmp 7]) := by kernel_rfl

/-- paravane/paravanelaw07.grid -/
abbrev F.law07_grid : Nat := 14
def ir.law07_grid : IC :=
 (.seq (.reg [.n 0 (.alloc [(.int .i64 0), (.int .i64 0), (.int .i64 0), (.int .i64 0), (.int .i64 0), .nils]) []])
   (.seq (.reg [.n 1 (.call 34) [.i 0, .i 25], .n 2 (.call 34) [.i 26, .i 400], .n 3 (.mkslice 2 91) [.t 1, .t 2], .n 4 (.build [(.int .i64 0), (.int .i64 0), (.int .i64 0), (.int .i64 0), (.int .i64 0), .nils] [(2, 1), (3, 1), (4, 1), (5, 1)]) [.i 2, .i 3, .i 2, .t 3], .s (.store 6) [.t 0, .t 4]])
   .ret))
theorem chk.law07_grid : chkF Tryd.prog 14 = some (5, ir.law07_grid, [.cell 0 26]) := by kernel_rfl

/-- paravane/paravanelaw07.lines -/
abbrev F.law07_lines : Nat := 15
def ir.law07_lines : IC :=
 (.seq (.reg [.n 0 (.alloc [.nils, .nils]) []])
   (.seq (.reg [.n 1 (.call 35) [.i 1, .i 1], .n 2 (.call 35) [.i 3, .i 3], .n 3 (.call 34) [.i 7, .i 9], .n 4 (.call 34) [.i 3, .i 3], .n 5 (.call 34) [.i 10, .i 12], .n 6 (.call 34) [.i 4, .i 6], .n 7 (.build [(.int .i64 0), (.int .i64 0), (.int .i64 0), (.int .i64 0), (.int .i64 0), (.int .i64 0), (.int .i64 0), (.int .i64 0)] [(0, 2), (2, 2), (4, 2), (6, 2)]) [.t 3, .t 4, .t 5, .t 6], .n 8 (.mkslice 8 94) [.t 1, .t 2, .t 7], .n 9 (.build [(.int .i64 0), (.int .i64 0)] [(0, 1), (1, 1)]) [.i 0, .i 1], .n 10 (.build [(.int .i64 0), (.int .i64 0)] [(0, 1), (1, 1)]) [.i 0, .i 2], .n 11 (.build [(.int .i64 0), (.int .i64 0)] [(0, 1), (1, 1)]) [.i 1, .i 2], .n 12 (.mkslice 2 82) [.t 9, .t 10, .t 11], .n 13 (.build [.nils, .nils] [(0, 1), (1, 1)]) [.t 8, .t 12], .s (.store 2) [.t 0, .t 13]])
   .ret))
theorem chk.law07_lines : chkF Tryd.prog 15 = some (14, ir.law07_lines, [.cell 0 30]) := by kernel_rfl

/-- paravane/paravanelaw07.cells -/
abbrev F.law07_cells : Nat := 16
def ir.law07_cells : IC :=
 (.seq (.reg [.n 4 .mov [.c (.bool false)]])
   (.seq (.seq (.reg [.n 6 .mov [.t 0], .n 7 (.len false) [.t 6], .n 8 .mov [.t 1], .n 9 (.len false) [.t 8], .n 10 (.bin .neq) [.t 7, .t 9]])
   (.cond (.t 10) (.seq (.reg [.n 4 .mov [.c (.bool false)]])
   .ret) .skip))
   (.seq (.seq (.reg [.n 5 .mov [.i 0]])
   (.block 0 (.loop (.seq (.seq (.reg [.n 11 .mov [.t 5], .n 12 .mov [.t 0], .n 13 (.len false) [.t 12], .n 14 (.bin .lss) [.t 11, .t 13]])
   (.cond (.t 14) .skip (.exit 0)))
   (.seq (.block 1 (.seq (.draw [0, 0, 3, 7, 0, 0, 48, 112, 255] [.n 17 .mov [.t 0], .n 18 .mov [.t 5], .n 19 (.iaddrS 2) [.t 17, .t 18], .n 20 (.load 2 true) [.t 19], .n 21 .mov [.t 1], .n 22 .mov [.t 5], .n 23 (.iaddrS 2) [.t 21, .t 22], .n 24 (.load 2 true) [.t 23], .n 25 (.eqs true [0, 0]) [.t 20, .t 24]])
   (.cond (.t 25) (.seq (.reg [.n 4 .mov [.c (.bool false)]])
   .ret) .skip)))
   (.reg [.n 15 .mov [.t 5], .n 16 (.bin .add) [.t 15, .i 1], .n 5 .mov [.t 16]]))))))
   (.seq (.reg [.n 4 .mov [.c (.bool true)]])
   .ret))))
theorem chk.law07_cells : chkF Tryd.prog 16 = some (26, ir.law07_cells, [.tmp 4]) := by kernel_rfl

/-- paravane/bin.Map -/
abbrev F.bin_Map : Nat := 17
def ir.bin_Map : IC :=
 (.seq (.reg [.n 3 .box [.t 0], ⟨(some 6), .mov, [.c (.str ⟨#[]⟩)], none⟩, .n 7 .mov [.i 0]])
   (.seq (.seq (.reg [.n 16 (.load 6 true) [.t 3], .n 17 (.call 26) [.t 16], .n 8 .mov [.t 17]])
   (.seq (.reg [.n 18 .mov [.t 8], .n 19 (.bin .neq) [.t 18, .i 0]])
   (.cond (.t 19) (.seq (.reg [.n 20 .mov [.t 8], ⟨(some 6), .mov, [.c (.str ⟨#[]⟩)], none⟩, .n 7 .mov [.t 20]])
   .ret) .skip)))
   (.seq (.reg [.n 21 .mov [.t 1], .n 22 (.len false) [.t 21], .n 23 (.faddr 3) [.t 3], .n 24 (.load 1 false) [.t 23], .n 25 (.faddr 4) [.t 3], .n 26 (.load 1 false) [.t 25], .n 27 (.bin .mul) [.t 24, .t 26], .n 28 (.bin .eql) [.t 22, .t 27], .n 9 .mov [.t 28]])
   (.seq (.seq (.reg [.n 29 .mov [.t 1], .n 30 (.len false) [.t 29], .n 31 .mov [.i 0]])
   (.block 0 (.loop (.seq (.reg [.n 32 (.bin .lss) [.t 31, .t 30]])
   (.seq (.cond (.t 32) .skip (.exit 0))
   (.seq (.block 1 (.seq (.reg [.n 33 (.iaddrS 1) [.t 29, .t 31], .n 34 (.load 1 false) [.t 33], .n 11 .mov [.t 34]])
   (.reg [.n 35 .mov [.t 9], .n 36 .mov [.t 35], .w 37 .mov [.t 11] 36 true, .w 38 (.len false) [.t 37] 36 true, .w 39 (.faddr 5) [.t 3] 36 true, .w 40 (.load 1 false) [.t 39] 36 true, .w 41 (.len false) [.t 40] 36 true, .w 42 (.bin .eql) [.t 38, .t 41] 36 true, .n 43 .pick [.t 36, .t 42, .c (.bool false)], .n 44 .mov [.t 43], .w 45 .mov [.t 11] 44 true, .w 46 (.call 36) [.t 45, .c (.func (.func 37) [] [])] 44 true, .w 47 (.un .not) [.t 46] 44 true, .n 48 .pick [.t 44, .t 47, .c (.bool false)], .n 9 .mov [.t 48]])))
   (.reg [.n 49 (.bin .add) [.t 31, .i 1], .n 31 .mov [.t 49]])))))))
   (.seq (.seq (.reg [.n 50 .mov [.t 9], .n 51 (.un .not) [.t 50]])
   (.cond (.t 51) (.seq (.reg [⟨(some 6), .mov, [.c (.str ⟨#[]⟩)], none⟩, .n 7 .mov [.i 73]])
   .ret) .skip))
   (.seq (.seq (.reg [.n 52 .mov [.t 2], .n 53 (.faddr 5) [.t 3], .n 54 (.load 1 false) [.t 53], .n 55 (.len false) [.t 54], .n 56 (.bin .sub) [.t 55, .i 1], .n 57 (.call 25) [.t 52, .i 0, .t 56], .n 58 (.un .not) [.t 57]])
   (.cond (.t 58) (.seq (.reg [⟨(some 6), .mov, [.c (.str ⟨#[]⟩)], none⟩, .n 7 .mov [.i 72]])
   .ret) .skip))
   (.seq (.reg [.n 12 .mov [.c .nils]])
   (.seq (.seq (.reg [.n 59 (.faddr 4) [.t 3], .n 60 (.load 1 false) [.t 59], .n 61 (.bin .sub) [.t 60, .i 1], .n 13 .mov [.t 61]])
   (.block 2 (.loop (.seq (.seq (.reg [.n 62 .mov [.t 13], .n 63 (.bin .geq) [.t 62, .i 0]])
   (.cond (.t 63) .skip (.exit 2)))
   (.seq (.block 3 (.seq (.seq (.reg [.n 66 (.faddr 3) [.t 3], .n 67 (.load 1 false) [.t 66], .n 68 .mov [.i 0]])
   (.block 4 (.loop (.seq (.reg [.n 69 (.bin .lss) [.t 68, .t 67]])
   (.seq (.cond (.t 69) .skip (.exit 4))
   (.seq (.block 5 (.seq (.reg [.n 70 .mov [.t 68], .n 14 .mov [.t 70]])
   (.seq (.reg [.n 71 .mov [.t 1], .n 72 .mov [.t 13], .n 73 (.faddr 3) [.t 3], .n 74 (.load 1 false) [.t 73], .n 75 (.bin .mul) [.t 72, .t 74], .n 76 .mov [.t 14], .n 77 (.bin .add) [.t 75, .t 76], .n 78 (.iaddrS 1) [.t 71, .t 77], .n 79 (.load 1 false) [.t 78], .n 80 .mov [.t 2], .n 81 (.iaddrS 1) [.t 79, .t 80], .n 82 (.load 1 false) [.t 81], .n 15 .mov [.t 82]])
   (.block 6 (.seq (.reg [.n 87 .mov [.t 15], .n 88 (.bin .eql) [.t 87, .i 0], .n 86 .mov [.t 88]])
   (.cond (.t 86) (.reg [.n 89 .mov [.t 12], .n 90 (.mkslice 1 5) [.c (.int .u8 46)], .n 91 (.append 1 1 5) [.t 89, .t 90], .n 12 .mov [.t 91]]) (.seq (.reg [.n 93 .mov [.t 15], .n 94 (.bin .leq) [.t 93, .i 9], .n 92 .mov [.t 94]])
   (.cond (.t 92) (.reg [.n 95 .mov [.t 12], .n 96 .mov [.t 15], .n 97 (.bin .add) [.i 48, .t 96], .n 98 (.conv .u8) [.t 97], .n 99 (.mkslice 1 5) [.t 98], .n 100 (.append 1 1 5) [.t 95, .t 99], .n 12 .mov [.t 100]]) (.reg [.n 83 .mov [.t 12], .n 84 (.mkslice 1 5) [.c (.int .u8 43)], .n 85 (.append 1 1 5) [.t 83, .t 84], .n 12 .mov [.t 85]])))))))))
   (.reg [.n 101 (.bin .add) [.t 68, .i 1], .n 68 .mov [.t 101]])))))))
   (.reg [.n 102 .mov [.t 12], .n 103 (.mkslice 1 5) [.c (.int .u8 10)], .n 104 (.append 1 1 5) [.t 102, .t 103], .n 12 .mov [.t 104]])))
   (.reg [.n 64 .mov [.t 13], .n 65 (.bin .sub) [.t 64, .i 1], .n 13 .mov [.t 65]]))))))
   (.seq (.reg [.n 105 .mov [.t 12], .n 106 (.raw 5 98 9) [.t 105], .n 6 .mov [.t 106], .n 7 .mov [.i 0]])
   .ret)))))))))
theorem chk.bin_Map : chkF Tryd.prog 17 = some (107, ir.bin_Map, [.tmp 6, .tmp 7]) := by kernel_rfl

/-- paravane/bin.Lacks -/
abbrev F.bin_Lacks : Nat := 18
def ir.bin_Lacks : IC :=
 (.seq (.reg [.n 3 .box [.t 0], .n 4 .box [.t 1], .n 6 .mov [.c .nils], .n 7 .mov [.i 0]])
   (.seq (.reg [.n 11 (.load 6 true) [.t 3], .n 12 (.load 2 true) [.t 4], .n 13 (.call 9) [.t 11, .t 12], .n 10 .mov [.t 13], .n 14 (.extract 0) [.t 10], .n 15 (.extract 1) [.t 10], .n 8 (.alloc [(.int .i64 0), (.int .i64 0), (.int .i64 0), (.int .i64 0), (.int .i64 0), .nils, .nils, .nils]) [], .s (.store 8) [.t 8, .t 14], .n 9 .mov [.t 15]])
   (.seq (.seq (.reg [.n 16 .mov [.t 9], .n 17 (.bin .neq) [.t 16, .i 0]])
   (.cond (.t 17) (.seq (.reg [.n 18 .mov [.t 9], .n 6 .mov [.c .nils], .n 7 .mov [.t 18]])
   .ret) .skip))
   (.seq (.seq (.reg [.n 19 (.load 6 true) [.t 3], .n 20 .mov [.t 2], .n 21 (.call 38) [.t 19, .t 20], .n 22 (.un .not) [.t 21]])
   (.cond (.t 22) (.seq (.reg [.n 6 .mov [.c .nils], .n 7 .mov [.i 73]])
   .ret) .skip))
   (.seq (.reg [.n 23 (.load 8 true) [.t 8], .n 24 .mov [.t 2], .n 25 (.call 39) [.t 23, .t 24], .n 6 .mov [.t 25], .n 7 .mov [.i 0]])
   .ret)))))
theorem chk.bin_Lacks : chkF Tryd.prog 18 = some (26, ir.bin_Lacks, [.tmp 6, .tmp 7]) := by kernel_rfl

/-- paravane/bin.Gain -/
abbrev F.bin_Gain : Nat := 19
def ir.bin_Gain : IC :=
 (.seq (.reg [.n 3 .box [.t 0], .n 4 .box [.t 1], .n 6 .mov [.i 0], .n 7 .mov [.i 0]])
   (.seq (.reg [.n 17 (.load 6 true) [.t 3], .n 18 (.load 2 true) [.t 4], .n 19 (.call 9) [.t 17, .t 18], .n 16 .mov [.t 19], .n 20 (.extract 0) [.t 16], .n 21 (.extract 1) [.t 16], .n 8 (.alloc [(.int .i64 0), (.int .i64 0), (.int .i64 0), (.int .i64 0), (.int .i64 0), .nils, .nils, .nils]) [], .s (.store 8) [.t 8, .t 20], .n 9 .mov [.t 21]])
   (.seq (.seq (.reg [.n 22 .mov [.t 9], .n 23 (.bin .neq) [.t 22, .i 0]])
   (.cond (.t 23) (.seq (.reg [.n 24 .mov [.t 9], .n 6 .mov [.i 0], .n 7 .mov [.t 24]])
   .ret) .skip))
   (.seq (.seq (.reg [.n 25 .mov [.t 2], .n 26 (.faddr 0) [.t 4], .n 27 (.load 1 false) [.t 26], .n 28 (.len false) [.t 27], .n 29 (.bin .sub) [.t 28, .i 1], .n 30 (.call 25) [.t 25, .i 0, .t 29], .n 31 (.un .not) [.t 30]])
   (.cond (.t 31) (.seq (.reg [.n 6 .mov [.i 0], .n 7 .mov [.i 72]])
   .ret) .skip))
   (.seq (.reg [.n 32 (.load 8 true) [.t 8], .n 33 (.call 40) [.t 32], .n 10 .mov [.t 33]])
   (.seq (.reg [.n 11 .mov [.i (-1)]])
   (.seq (.seq (.reg [.n 34 (.faddr 7) [.t 8], .n 35 (.load 1 false) [.t 34], .n 36 .mov [.t 2], .n 37 (.iaddrS 1) [.t 35, .t 36], .n 38 (.load 1 false) [.t 37], .n 39 (.len false) [.t 38], .n 40 .mov [.i 0]])
   (.block 0 (.loop (.seq (.reg [.n 41 (.bin .lss) [.t 40, .t 39]])
   (.seq (.cond (.t 41) .skip (.exit 0))
   (.seq (.block 1 (.seq (.reg [.n 42 (.iaddrS 2) [.t 38, .t 40], .n 43 (.load 2 true) [.t 42], .n 13 (.alloc [(.int .i64 0), (.int .i64 0)]) [], .s (.store 2) [.t 13, .t 43]])
   (.seq (.reg [.n 44 (.load 8 true) [.t 8], .n 14 (.alloc [(.int .i64 0), (.int .i64 0), (.int .i64 0), (.int .i64 0), (.int .i64 0), .nils, .nils, .nils]) [], .s (.store 8) [.t 14, .t 44]])
   (.seq (.reg [.n 45 (.faddr 7) [.t 8], .n 46 (.load 1 false) [.t 45], .n 47 (.call 41) [.t 46], .n 48 (.faddr 7) [.t 14], .s (.store 1) [.t 48, .t 47]])
   (.seq (.reg [.n 49 (.faddr 7) [.t 14], .n 50 (.load 1 false) [.t 49], .n 51 .mov [.t 2], .n 52 (.load 2 true) [.t 13], .n 53 (.mkslice 2 23) [.t 52], .n 54 (.iaddrS 1) [.t 50, .t 51], .s (.store 1) [.t 54, .t 53]])
   (.seq (.reg [.n 55 (.load 8 true) [.t 14], .n 56 (.call 40) [.t 55], .n 15 .mov [.t 56]])
   (.seq (.reg [.n 57 .mov [.t 11], .n 58 (.bin .lss) [.t 57, .i 0], .n 59 .mov [.t 58], .w 60 .mov [.t 15] 59 false, .w 61 .mov [.t 11] 59 false, .w 62 (.bin .lss) [.t 60, .t 61] 59 false, .n 63 .pick [.t 59, .c (.bool true), .t 62]])
   (.cond (.t 63) (.reg [.n 64 .mov [.t 15], .n 11 .mov [.t 64]]) .skip))))))))
   (.reg [.n 65 (.bin .add) [.t 40, .i 1], .n 40 .mov [.t 65]])))))))
   (.seq (.reg [.n 66 .mov [.t 11], .n 67 .mov [.t 10], .n 68 (.bin .sub) [.t 66, .t 67], .n 6 .mov [.t 68], .n 7 .mov [.i 0]])
   .ret))))))))
theorem chk.bin_Gain : chkF Tryd.prog 19 = some (69, ir.bin_Gain, [.tmp 6, .tmp 7]) := by kernel_rfl

/-- paravane/bin.Best -/
abbrev F.bin_Best : Nat := 20
def ir.bin_Best : IC :=
 (.seq (.reg [.n 1 .box [.t 0], .n 2 .mov [.c .nils], .n 3 .mov [.i 0], .n 4 .mov [.i 0]])
   (.seq (.seq (.reg [.n 8 (.load 2 true) [.t 1], .n 9 (.call 42) [.t 8], .n 5 .mov [.t 9]])
   (.seq (.reg [.n 10 .mov [.t 5], .n 11 (.bin .neq) [.t 10, .i 0]])
   (.cond (.t 11) (.seq (.reg [.n 12 .mov [.t 5], .n 2 .mov [.c .nils], .n 3 .mov [.i 0], .n 4 .mov [.t 12]])
   .ret) .skip)))
   (.seq (.reg [.n 14 (.load 2 true) [.t 1], .n 15 (.call 43) [.t 14, .i 0], .n 13 .mov [.t 15], .n 16 (.extract 0) [.t 13], .n 17 (.extract 1) [.t 13], .n 6 .mov [.t 16], .n 7 .mov [.t 17]])
   (.seq (.seq (.reg [.n 18 .mov [.t 7], .n 19 (.un .not) [.t 18]])
   (.cond (.t 19) (.seq (.reg [.n 2 .mov [.c .nils], .n 3 .mov [.i 0], .n 4 .mov [.i 4]])
   .ret) .skip))
   (.seq (.draw [0, 1, 0, 0, 15, 31, 63, 127] [.n 20 .mov [.t 6], .n 21 (.call 44) [.t 20], .n 22 (.load 2 true) [.t 1], .n 23 .mov [.t 6], .n 24 (.call 45) [.t 22, .t 23], .n 2 .mov [.t 21], .n 3 .mov [.t 24], .n 4 .mov [.i 0]])
   .ret)))))
theorem chk.bin_Best : chkF Tryd.prog 20 = some (25, ir.bin_Best, [.tmp 2, .tmp 3, .tmp 4]) := by kernel_rfl

/-- paravane/paravanelaw07.gaps -/
abbrev F.law07_gaps : Nat := 21
def ir.law07_gaps : IC :=
 (.seq (.reg [.n 0 (.alloc [.nils, .nils]) []])
   (.seq (.reg [.n 1 (.mkslice 1 3) [.i 2, .i 1], .n 2 (.mkslice 1 3) [.i 2, .i 0], .n 3 (.build [(.int .i64 0), .nils] [(0, 1), (1, 1)]) [.i 4, .t 2], .n 4 (.mkslice 1 3) [.i 0, .i 1], .n 5 (.build [(.int .i64 0), .nils] [(0, 1), (1, 1)]) [.i 3, .t 4], .n 6 (.mkslice 1 3) [.i 1, .i 1], .n 7 (.build [(.int .i64 0), .nils] [(0, 1), (1, 1)]) [.i 5, .t 6], .n 8 (.mkslice 1 3) [.i 2, .i 1], .n 9 (.build [(.int .i64 0), .nils] [(0, 1), (1, 1)]) [.i 6, .t 8], .n 10 (.mkslice 2 109) [.t 3, .t 5, .t 7, .t 9], .n 11 (.build [.nils, .nils] [(0, 1), (1, 1)]) [.t 1, .t 10], .s (.store 2) [.t 0, .t 11]])
   .ret))
theorem chk.law07_gaps : chkF Tryd.prog 21 = some (12, ir.law07_gaps, [.cell 0 68]) := by kernel_rfl

/-- paravane/bin.Without -/
abbrev F.bin_Without : Nat := 22
def ir.bin_Without : IC :=
 (.seq (.reg [.n 2 .box [.t 0], .n 4 .mov [.i 0], .n 5 .mov [.i 0]])
   (.seq (.seq (.reg [.n 11 (.load 2 true) [.t 2], .n 12 (.call 42) [.t 11], .n 6 .mov [.t 12]])
   (.seq (.reg [.n 13 .mov [.t 6], .n 14 (.bin .neq) [.t 13, .i 0]])
   (.cond (.t 14) (.seq (.reg [.n 15 .mov [.t 6], .n 4 .mov [.i 0], .n 5 .mov [.t 15]])
   .ret) .skip)))
   (.seq (.seq (.reg [.n 16 .mov [.t 1], .n 17 (.faddr 1) [.t 2], .n 18 (.load 1 false) [.t 17], .n 19 (.len false) [.t 18], .n 20 (.bin .sub) [.t 19, .i 1], .n 21 (.call 25) [.t 16, .i 0, .t 20], .n 22 (.un .not) [.t 21]])
   (.cond (.t 22) (.seq (.reg [.n 4 .mov [.i 0], .n 5 .mov [.i 75]])
   .ret) .skip))
   (.seq (.draw [0, 0, 2, 7, 15, 31, 31, 63, 255] [.n 24 (.load 2 true) [.t 2], .n 25 .mov [.t 1], .n 26 (.bin .shl) [.i 1, .t 25], .n 27 (.call 43) [.t 24, .t 26], .n 23 .mov [.t 27], .n 28 (.extract 0) [.t 23], .n 29 (.extract 1) [.t 23], .n 7 .mov [.t 28], .n 8 .mov [.t 29]])
   (.seq (.seq (.reg [.n 30 .mov [.t 8], .n 31 (.un .not) [.t 30]])
   (.cond (.t 31) (.seq (.reg [.n 4 .mov [.i 0], .n 5 .mov [.i 4]])
   .ret) .skip))
   (.seq (.reg [.n 33 (.load 2 true) [.t 2], .n 34 (.call 43) [.t 33, .i 0], .n 32 .mov [.t 34], .n 35 (.extract 0) [.t 32], .n 36 (.extract 1) [.t 32], .n 9 .mov [.t 35], .n 10 .mov [.t 36]])
   (.seq (.draw [0, 0, 3, 0, 0, 31, 63, 127, 255] [.n 37 (.load 2 true) [.t 2], .n 38 .mov [.t 7], .n 39 (.call 45) [.t 37, .t 38], .n 40 (.load 2 true) [.t 2], .n 41 .mov [.t 9], .n 42 (.call 45) [.t 40, .t 41], .n 43 (.bin .sub) [.t 39, .t 42], .n 4 .mov [.t 43], .n 5 .mov [.i 0]])
   .ret)))))))
theorem chk.bin_Without : chkF Tryd.prog 22 = some (44, ir.bin_Without, [.tmp 4, .tmp 5]) := by kernel_rfl

/-- paravane/bin.Bound -/
abbrev F.bin_Bound : Nat := 23
def ir.bin_Bound : IC :=
 (.seq (.reg [.n 2 .box [.t 0], .n 3 .box [.t 1], .n 4 .mov [.i 0], .n 5 .mov [.i 0]])
   (.seq (.seq (.reg [.n 12 (.load 2 true) [.t 2], .n 13 (.call 42) [.t 12], .n 6 .mov [.t 13]])
   (.seq (.reg [.n 14 .mov [.t 6], .n 15 (.bin .neq) [.t 14, .i 0]])
   (.cond (.t 15) (.seq (.reg [.n 16 .mov [.t 6], .n 4 .mov [.i 0], .n 5 .mov [.t 16]])
   .ret) .skip)))
   (.seq (.seq (.reg [.n 17 (.load 1 false) [.t 3], .n 18 (.len false) [.t 17], .n 19 (.bin .gtr) [.t 18, .i 2048]])
   (.cond (.t 19) (.seq (.reg [.n 4 .mov [.i 0], .n 5 .mov [.i 76]])
   .ret) .skip))
   (.seq (.reg [.n 7 (.alloc [(.int .i64 0)]) [], .n 8 (.alloc [(.bool false)]) [], .n 9 (.alloc [(.bool false)]) [], .n 10 (.alloc [(.int .i64 0)]) [], .s (.store 1) [.t 7, .i 0], .s (.store 1) [.t 8, .c (.bool false)], .s (.store 1) [.t 9, .c (.bool true)], .s (.store 1) [.t 10, .i 0]])
   (.seq (.reg [.n 11 (.alloc [.nilf]) []])
   (.seq (.reg [.n 20 (.mkfunc (.func 46) 0) [.t 9, .t 10, .t 3, .t 2, .t 11, .t 8, .t 7], .s (.store 1) [.t 11, .t 20]])
   (.seq (.reg [.n 21 (.load 1 false) [.t 11], .n 22 .callv [.t 21, .i 0, .i 0]])
   (.seq (.seq (.reg [.n 23 (.load 1 false) [.t 9], .n 24 (.un .not) [.t 23], .n 25 .mov [.t 24], .w 26 (.load 1 false) [.t 10] 25 false, .w 27 (.load 1 false) [.t 3] 25 false, .w 28 (.len false) [.t 27] 25 false, .w 29 (.bin .neq) [.t 26, .t 28] 25 false, .n 30 .pick [.t 25, .c (.bool true), .t 29]])
   (.cond (.t 30) (.seq (.reg [.n 4 .mov [.i 0], .n 5 .mov [.i 76]])
   .ret) .skip))
   (.seq (.reg [.n 31 (.load 1 false) [.t 7], .n 4 .mov [.t 31], .n 5 .mov [.i 0]])
   .ret)))))))))
theorem chk.bin_Bound : chkF Tryd.prog 23 = some (32, ir.bin_Bound, [.tmp 4, .tmp 5]) := by kernel_rfl

/-- paravane/paravaneref00.Alike -/
abbrev F.ref00_Alike : Nat := 24
def ir.ref00_Alike : IC :=
 (.seq (.reg [.n 4 .mov [.c (.bool false)]])
   (.seq (.seq (.reg [.n 6 .mov [.t 0], .n 7 (.len false) [.t 6], .n 8 .mov [.t 1], .n 9 (.len false) [.t 8], .n 10 (.bin .neq) [.t 7, .t 9]])
   (.cond (.t 10) (.seq (.reg [.n 4 .mov [.c (.bool false)]])
   .ret) .skip))
   (.seq (.seq (.reg [.n 5 .mov [.i 0]])
   (.block 0 (.loop (.seq (.seq (.reg [.n 11 .mov [.t 5], .n 12 .mov [.t 0], .n 13 (.len false) [.t 12], .n 14 (.bin .lss) [.t 11, .t 13]])
   (.cond (.t 14) .skip (.exit 0)))
   (.seq (.block 1 (.seq (.draw [0, 0, 3, 7, 0, 0, 48, 112, 255] [.n 17 .mov [.t 0], .n 18 .mov [.t 5], .n 19 (.iaddrS 1) [.t 17, .t 18], .n 20 (.load 1 false) [.t 19], .n 21 .mov [.t 1], .n 22 .mov [.t 5], .n 23 (.iaddrS 1) [.t 21, .t 22], .n 24 (.load 1 false) [.t 23], .n 25 (.bin .neq) [.t 20, .t 24]])
   (.cond (.t 25) (.seq (.reg [.n 4 .mov [.c (.bool false)]])
   .ret) .skip)))
   (.reg [.n 15 .mov [.t 5], .n 16 (.bin .add) [.t 15, .i 1], .n 5 .mov [.t 16]]))))))
   (.seq (.reg [.n 4 .mov [.c (.bool true)]])
   .ret))))
theorem chk.ref00_Alike : chkF Tryd.prog 24 = some (26, ir.ref00_Alike, [.tmp 4]) := by kernel_rfl

/-- paravane/bin.within -/
abbrev F.bin_within : Nat := 25
def ir.bin_within : IC :=
 (.seq (.reg [.n 6 .mov [.c (.bool false)]])
   (.seq (.reg [.n 7 .mov [.t 0], .n 8 .mov [.t 1], .n 9 (.bin .geq) [.t 7, .t 8], .n 10 .mov [.t 9], .w 11 .mov [.t 0] 10 true, .w 12 .mov [.t 2] 10 true, .w 13 (.bin .leq) [.t 11, .t 12] 10 true, .n 14 .pick [.t 10, .t 13, .c (.bool false)], .n 6 .mov [.t 14]])
   .ret))
theorem chk.bin_within : chkF Tryd.prog 25 = some (15, ir.bin_within, [.tmp 6]) := by kernel_rfl

/-- paravane/bin.CheckGrid -/
abbrev F.bin_CheckGrid : Nat := 26
def ir.bin_CheckGrid : IC :=
 (.seq (.reg [.n 1 .box [.t 0], .n 2 .mov [.i 0]])
   (.seq (.seq (.reg [.n 6 (.faddr 0) [.t 1], .n 7 (.load 2 true) [.t 6], .n 8 (.call 33) [.t 7], .n 9 (.bin .neq) [.t 8, .i 0], .n 10 .mov [.t 9], .w 11 (.faddr 2) [.t 1] 10 false, .w 12 (.load 1 false) [.t 11] 10 false, .w 13 (.call 25) [.t 12, .i 1, .i 1000] 10 false, .w 14 (.un .not) [.t 13] 10 false, .n 15 .pick [.t 10, .c (.bool true), .t 14], .n 16 .mov [.t 15], .w 17 (.faddr 3) [.t 1] 16 false, .w 18 (.load 1 false) [.t 17] 16 false, .w 19 (.call 25) [.t 18, .i 1, .i 16] 16 false, .w 20 (.un .not) [.t 19] 16 false, .n 21 .pick [.t 16, .c (.bool true), .t 20], .n 22 .mov [.t 21], .w 23 (.faddr 4) [.t 1] 22 false, .w 24 (.load 1 false) [.t 23] 22 false, .w 25 (.call 25) [.t 24, .i 1, .i 16] 22 false, .w 26 (.un .not) [.t 25] 22 false, .n 27 .pick [.t 22, .c (.bool true), .t 26], .n 28 .mov [.t 27], .w 29 (.faddr 5) [.t 1] 28 false, .w 30 (.load 1 false) [.t 29] 28 false, .w 31 (.len false) [.t 30] 28 false, .w 32 (.call 25) [.t 31, .i 1, .i 4] 28 false, .w 33 (.un .not) [.t 32] 28 false, .n 34 .pick [.t 28, .c (.bool true), .t 33]])
   (.cond (.t 34) (.seq (.reg [.n 2 .mov [.i 70]])
   .ret) .skip))
   (.seq (.reg [.n 3 .mov [.i (-1)]])
   (.seq (.seq (.reg [.n 35 (.faddr 5) [.t 1], .n 36 (.load 1 false) [.t 35], .n 37 (.len false) [.t 36], .n 38 .mov [.i 0]])
   (.block 0 (.loop (.seq (.reg [.n 39 (.bin .lss) [.t 38, .t 37]])
   (.seq (.cond (.t 39) .skip (.exit 0))
   (.seq (.block 1 (.seq (.reg [.n 40 (.iaddrS 2) [.t 36, .t 38], .n 41 (.load 2 true) [.t 40], .n 5 (.alloc [(.int .i64 0), (.int .i64 0)]) [], .s (.store 2) [.t 5, .t 41]])
   (.seq (.seq (.reg [.n 42 (.faddr 0) [.t 5], .n 43 (.load 1 false) [.t 42], .n 44 .mov [.t 3], .n 45 (.bin .leq) [.t 43, .t 44], .n 46 .mov [.t 45], .w 47 (.faddr 0) [.t 5] 46 false, .w 48 (.load 1 false) [.t 47] 46 false, .w 49 (.faddr 1) [.t 5] 46 false, .w 50 (.load 1 false) [.t 49] 46 false, .w 51 (.bin .gtr) [.t 48, .t 50] 46 false, .n 52 .pick [.t 46, .c (.bool true), .t 51], .n 53 .mov [.t 52], .w 54 (.faddr 1) [.t 5] 53 false, .w 55 (.load 1 false) [.t 54] 53 false, .w 56 (.bin .gtr) [.t 55, .i 17179869184] 53 false, .n 57 .pick [.t 53, .c (.bool true), .t 56]])
   (.cond (.t 57) (.seq (.reg [.n 2 .mov [.i 70]])
   .ret) .skip))
   (.reg [.n 58 (.faddr 1) [.t 5], .n 59 (.load 1 false) [.t 58], .n 3 .mov [.t 59]]))))
   (.reg [.n 60 (.bin .add) [.t 38, .i 1], .n 38 .mov [.t 60]])))))))
   (.seq (.reg [.n 2 .mov [.i 0]])
   .ret)))))
theorem chk.bin_CheckGrid : chkF Tryd.prog 26 = some (61, ir.bin_CheckGrid, [.tmp 2]) := by kernel_rfl

/-- paravane/bin.CheckLayout -/
abbrev F.bin_CheckLayout : Nat := 27
def ir.bin_CheckLayout : IC :=
 (.seq (.reg [.n 1 .box [.t 0], .n 2 .mov [.i 0]])
   (.seq (.seq (.reg [.n 9 (.faddr 0) [.t 1], .n 10 (.load 1 false) [.t 9], .n 11 (.len false) [.t 10], .n 12 (.bin .gtr) [.t 11, .i 16], .n 13 .mov [.t 12], .w 14 (.faddr 1) [.t 1] 13 false, .w 15 (.load 1 false) [.t 14] 13 false, .w 16 (.len false) [.t 15] 13 false, .w 17 (.bin .gtr) [.t 16, .i 64] 13 false, .n 18 .pick [.t 13, .c (.bool true), .t 17]])
   (.cond (.t 18) (.seq (.reg [.n 2 .mov [.i 71]])
   .ret) .skip))
   (.seq (.seq (.reg [.n 19 (.faddr 0) [.t 1], .n 20 (.load 1 false) [.t 19], .n 21 (.len false) [.t 20], .n 22 .mov [.i 0]])
   (.block 0 (.loop (.seq (.reg [.n 23 (.bin .lss) [.t 22, .t 21]])
   (.seq (.cond (.t 23) .skip (.exit 0))
   (.seq (.block 1 (.seq (.reg [.n 24 (.iaddrS 8) [.t 20, .t 22], .n 25 (.load 8 true) [.t 24], .n 4 (.alloc [(.int .i64 0), (.int .i64 0), (.int .i64 0), (.int .i64 0), (.int .i64 0), (.int .i64 0), (.int .i64 0), (.int .i64 0)]) [], .s (.store 8) [.t 4, .t 25]])
   (.seq (.reg [.n 27 (.load 8 true) [.t 4], .n 28 (.call 48) [.t 27], .n 26 .mov [.t 28], .n 29 (.extract 0) [.t 26], .n 30 (.extract 1) [.t 26], .n 5 .mov [.t 29], .n 6 .mov [.t 30]])
   (.seq (.reg [.n 31 .mov [.t 6], .n 32 (.bin .neq) [.t 31, .i 0], .n 33 .mov [.t 32], .w 34 .mov [.t 5] 33 false, .w 35 (.call 25) [.t 34, .i 1, .i 64] 33 false, .w 36 (.un .not) [.t 35] 33 false, .n 37 .pick [.t 33, .c (.bool true), .t 36]])
   (.cond (.t 37) (.seq (.reg [.n 2 .mov [.i 71]])
   .ret) .skip)))))
   (.reg [.n 38 (.bin .add) [.t 22, .i 1], .n 22 .mov [.t 38]])))))))
   (.seq (.seq (.reg [.n 39 (.faddr 1) [.t 1], .n 40 (.load 1 false) [.t 39], .n 41 (.len false) [.t 40], .n 42 .mov [.i 0]])
   (.block 2 (.loop (.seq (.reg [.n 43 (.bin .lss) [.t 42, .t 41]])
   (.seq (.cond (.t 43) .skip (.exit 2))
   (.seq (.block 3 (.seq (.reg [.n 44 (.iaddrS 2) [.t 40, .t 42], .n 45 (.load 2 true) [.t 44], .n 8 (.alloc [(.int .i64 0), (.int .i64 0)]) [], .s (.store 2) [.t 8, .t 45]])
   (.seq (.reg [.n 46 (.iaddrA 2 1) [.t 8, .i 0], .n 47 (.load 1 false) [.t 46], .n 48 (.faddr 0) [.t 1], .n 49 (.load 1 false) [.t 48], .n 50 (.len false) [.t 49], .n 51 (.bin .sub) [.t 50, .i 1], .n 52 (.call 25) [.t 47, .i 0, .t 51], .n 53 (.un .not) [.t 52], .n 54 .mov [.t 53], .w 55 (.iaddrA 2 1) [.t 8, .i 1] 54 false, .w 56 (.load 1 false) [.t 55] 54 false, .w 57 (.faddr 0) [.t 1] 54 false, .w 58 (.load 1 false) [.t 57] 54 false, .w 59 (.len false) [.t 58] 54 false, .w 60 (.bin .sub) [.t 59, .i 1] 54 false, .w 61 (.call 25) [.t 56, .i 0, .t 60] 54 false, .w 62 (.un .not) [.t 61] 54 false, .n 63 .pick [.t 54, .c (.bool true), .t 62], .n 64 .mov [.t 63], .w 65 (.iaddrA 2 1) [.t 8, .i 0] 64 false, .w 66 (.load 1 false) [.t 65] 64 false, .w 67 (.iaddrA 2 1) [.t 8, .i 1] 64 false, .w 68 (.load 1 false) [.t 67] 64 false, .w 69 (.bin .eql) [.t 66, .t 68] 64 false, .n 70 .pick [.t 64, .c (.bool true), .t 69]])
   (.cond (.t 70) (.seq (.reg [.n 2 .mov [.i 71]])
   .ret) .skip))))
   (.reg [.n 71 (.bin .add) [.t 42, .i 1], .n 42 .mov [.t 71]])))))))
   (.seq (.reg [.n 2 .mov [.i 0]])
   .ret)))))
theorem chk.bin_CheckLayout : chkF Tryd.prog 27 = some (72, ir.bin_CheckLayout, [.tmp 2]) := by kernel_rfl

/-- paravane/bin.lay -/
abbrev F.bin_lay : Nat := 28
def ir.bin_lay : IC :=
 (.seq (.reg [.n 2 .box [.t 0], .n 3 .box [.t 1], .n 4 (.alloc [(.int .i64 0), (.int .i64 0), (.int .i64 0), (.int .i64 0), (.int .i64 0), .nils, .nils, .nils]) []])
   (.seq (.reg [.n 8 (.load 6 true) [.t 2], .n 9 (.faddr 1) [.t 3], .n 10 (.load 1 false) [.t 9], .n 11 (.build [(.int .i64 0), (.int .i64 0), (.int .i64 0), (.int .i64 0), (.int .i64 0), .nils, .nils, .nils] [(0, 6), (6, 1)]) [.t 8, .t 10], .n 5 (.alloc [(.int .i64 0), (.int .i64 0), (.int .i64 0), (.int .i64 0), (.int .i64 0), .nils, .nils, .nils]) [], .s (.store 8) [.t 5, .t 11]])
   (.seq (.seq (.reg [.n 12 (.faddr 0) [.t 3], .n 13 (.load 1 false) [.t 12], .n 14 (.len false) [.t 13], .n 15 .mov [.i 0]])
   (.block 0 (.loop (.seq (.reg [.n 16 (.bin .lss) [.t 15, .t 14]])
   (.seq (.cond (.t 16) .skip (.exit 0))
   (.seq (.block 1 (.seq (.reg [.n 17 (.iaddrS 8) [.t 13, .t 15], .n 18 (.load 8 true) [.t 17], .n 7 (.alloc [(.int .i64 0), (.int .i64 0), (.int .i64 0), (.int .i64 0), (.int .i64 0), (.int .i64 0), (.int .i64 0), (.int .i64 0)]) [], .s (.store 8) [.t 7, .t 18]])
   (.draw [0, 1, 0, 4, 12, 31, 63, 127] [.n 19 (.faddr 7) [.t 5], .n 20 (.load 1 false) [.t 19], .n 21 (.load 8 true) [.t 7], .n 22 (.call 49) [.t 21], .n 23 (.mkslice 1 85) [.t 22], .n 24 (.append 1 24 85) [.t 20, .t 23], .n 25 (.faddr 7) [.t 5], .s (.store 1) [.t 25, .t 24]])))
   (.reg [.n 26 (.bin .add) [.t 15, .i 1], .n 15 .mov [.t 26]])))))))
   (.seq (.reg [.n 27 (.load 8 true) [.t 5], .s (.store 8) [.t 4, .t 27]])
   .ret))))
theorem chk.bin_lay : chkF Tryd.prog 28 = some (28, ir.bin_lay, [.cell 4 47]) := by kernel_rfl

/-- paravane/bin.pairs -/
abbrev F.bin_pairs : Nat := 29
def ir.bin_pairs : IC :=
 (.seq (.reg [.n 2 .box [.t 0], .n 3 .box [.t 1], .n 4 .mov [.c .nilf]])
   (.seq (.reg [.n 5 (.mkfunc (.func 50) 0) [.t 2, .t 3], .n 4 .mov [.t 5]])
   .ret))
theorem chk.bin_pairs : chkF Tryd.prog 29 = some (6, ir.bin_pairs, [.tmp 4]) := by kernel_rfl

/-- paravane/bin.cell -/
abbrev F.bin_cell : Nat := 30
def ir.bin_cell : IC :=
 (.seq (.reg [.n 3 .box [.t 0], .n 4 .box [.t 1], .n 5 .box [.t 2], .n 6 (.alloc [(.int .i64 0), (.int .i64 0)]) []])
   (.seq (.draw [0, 1, 0, 4, 15, 0, 32, 96, 224, 511, 0, 1024, 3072, 8191, 0, 16384, 0, 65536, 245760, 0, 524288, 1572864, 3670016, 8372224, 0, 16777216, 50331648, 134217727, 268435455, 536870911] [.n 13 (.faddr 0) [.t 4], .n 14 (.load 1 false) [.t 13], .n 15 (.faddr 0) [.t 5], .n 16 (.load 1 false) [.t 15], .n 17 (.bin .add) [.t 14, .t 16], .n 18 (.faddr 0) [.t 3], .n 19 (.faddr 0) [.t 18], .n 20 (.load 1 false) [.t 19], .n 21 (.bin .mul) [.i 2, .t 20], .n 22 (.bin .sub) [.t 17, .t 21], .n 23 (.faddr 2) [.t 3], .n 24 (.load 1 false) [.t 23], .n 25 (.bin .mul) [.i 2, .t 24], .n 26 (.call 51) [.t 22, .t 25], .n 27 (.faddr 1) [.t 4], .n 28 (.load 1 false) [.t 27], .n 29 (.faddr 1) [.t 5], .n 30 (.load 1 false) [.t 29], .n 31 (.bin .add) [.t 28, .t 30], .n 32 (.faddr 0) [.t 3], .n 33 (.faddr 1) [.t 32], .n 34 (.load 1 false) [.t 33], .n 35 (.bin .mul) [.i 2, .t 34], .n 36 (.bin .sub) [.t 31, .t 35], .n 37 (.faddr 2) [.t 3], .n 38 (.load 1 false) [.t 37], .n 39 (.bin .mul) [.i 2, .t 38], .n 40 (.call 51) [.t 36, .t 39], .n 7 .mov [.t 26], .n 8 .mov [.t 40]])
   (.seq (.seq (.reg [.n 41 .mov [.t 7], .n 42 (.faddr 3) [.t 3], .n 43 (.load 1 false) [.t 42], .n 44 (.bin .sub) [.t 43, .i 1], .n 45 (.call 25) [.t 41, .i 0, .t 44], .n 46 (.un .not) [.t 45], .n 47 .mov [.t 46], .w 48 .mov [.t 8] 47 false, .w 49 (.faddr 4) [.t 3] 47 false, .w 50 (.load 1 false) [.t 49] 47 false, .w 51 (.bin .sub) [.t 50, .i 1] 47 false, .w 52 (.call 25) [.t 48, .i 0, .t 51] 47 false, .w 53 (.un .not) [.t 52] 47 false, .n 54 .pick [.t 47, .c (.bool true), .t 53]])
   (.cond (.t 54) (.seq (.reg [.n 55 (.load 2 true) [.c (.rptr 0 0)], .s (.store 2) [.t 6, .t 55]])
   .ret) .skip))
   (.seq (.draw [0, 1, 0, 4, 15, 0, 32, 0, 128, 480, 31, 2047] [.n 56 (.faddr 0) [.t 4], .n 57 (.load 1 false) [.t 56], .n 58 (.faddr 0) [.t 5], .n 59 (.load 1 false) [.t 58], .n 60 (.bin .sub) [.t 57, .t 59], .n 61 (.faddr 1) [.t 4], .n 62 (.load 1 false) [.t 61], .n 63 (.faddr 1) [.t 5], .n 64 (.load 1 false) [.t 63], .n 65 (.bin .sub) [.t 62, .t 64], .n 9 .mov [.t 60], .n 10 .mov [.t 65]])
   (.seq (.seq (.reg [.n 66 (.faddr 5) [.t 3], .n 67 (.load 1 false) [.t 66], .n 68 (.len false) [.t 67], .n 69 .mov [.i 0]])
   (.block 0 (.loop (.seq (.reg [.n 70 (.bin .lss) [.t 69, .t 68]])
   (.seq (.cond (.t 70) .skip (.exit 0))
   (.seq (.block 1 (.seq (.reg [.n 71 .mov [.t 69], .n 72 (.iaddrS 2) [.t 67, .t 69], .n 73 (.load 2 true) [.t 72], .n 12 (.alloc [(.int .i64 0), (.int .i64 0)]) [], .n 11 .mov [.t 71], .s (.store 2) [.t 12, .t 73]])
   (.seq (.reg [.n 74 .mov [.t 9], .n 75 .mov [.t 9], .n 76 (.bin .mul) [.t 74, .t 75], .n 77 .mov [.t 10], .n 78 .mov [.t 10], .n 79 (.bin .mul) [.t 77, .t 78], .n 80 (.bin .add) [.t 76, .t 79], .n 81 (.faddr 0) [.t 12], .n 82 (.load 1 false) [.t 81], .n 83 (.faddr 1) [.t 12], .n 84 (.load 1 false) [.t 83], .n 85 (.call 25) [.t 80, .t 82, .t 84]])
   (.cond (.t 85) (.seq (.reg [.n 86 .mov [.t 8], .n 87 (.faddr 3) [.t 3], .n 88 (.load 1 false) [.t 87], .n 89 (.bin .mul) [.t 86, .t 88], .n 90 .mov [.t 7], .n 91 (.bin .add) [.t 89, .t 90], .n 92 .mov [.t 11], .n 93 (.build [(.int .i64 0), (.int .i64 0)] [(0, 1), (1, 1)]) [.t 91, .t 92], .s (.store 2) [.t 6, .t 93]])
   .ret) .skip))))
   (.reg [.n 94 (.bin .add) [.t 69, .i 1], .n 69 .mov [.t 94]])))))))
   (.seq (.reg [.n 95 (.load 2 true) [.c (.rptr 0 0)], .s (.store 2) [.t 6, .t 95]])
   .ret))))))
theorem chk.bin_cell : chkF Tryd.prog 30 = some (96, ir.bin_cell, [.cell 6 42]) := by kernel_rfl

/-- slices.SortFunc[[]paravane/api.Cell,paravane/api.Cell] -/
abbrev F.slices_SortFunc_api_Cell_api_Cell : Nat := 31
def ir.slices_SortFunc_api_Cell_api_Cell : IC :=
 (.seq (.reg [.n 5 .mov [.t 0], .n 6 (.len false) [.t 5], .n 4 .mov [.t 6]])
   (.reg [.n 7 .mov [.t 0], .n 8 .mov [.t 4], .n 9 .mov [.t 4], .n 10 (.conv .u64) [.t 9], .n 11 (.call 53) [.t 10], .n 12 .mov [.t 1], .n 13 (.call 52) [.t 7, .i 0, .t 8, .t 11, .t 12]]))
theorem chk.slices_SortFunc_api_Cell_api_Cell : chkF Tryd.prog 31 = some (14, ir.slices_SortFunc_api_Cell_api_Cell, []) := by kernel_rfl

/-- paravane/bin.ordered -/
abbrev F.bin_ordered : Nat := 32
def ir.bin_ordered : IC :=
 (.seq (.reg [.n 2 .box [.t 0], .n 3 .box [.t 1], .n 4 .mov [.i 0]])
   (.seq (.seq (.reg [.n 5 (.faddr 0) [.t 2], .n 6 (.load 1 false) [.t 5], .n 7 (.faddr 0) [.t 3], .n 8 (.load 1 false) [.t 7], .n 9 (.bin .neq) [.t 6, .t 8]])
   (.cond (.t 9) (.seq (.reg [.n 10 (.faddr 0) [.t 2], .n 11 (.load 1 false) [.t 10], .n 12 (.faddr 0) [.t 3], .n 13 (.load 1 false) [.t 12], .n 14 (.bin .sub) [.t 11, .t 13], .n 4 .mov [.t 14]])
   .ret) .skip))
   (.seq (.reg [.n 15 (.faddr 1) [.t 2], .n 16 (.load 1 false) [.t 15], .n 17 (.faddr 1) [.t 3], .n 18 (.load 1 false) [.t 17], .n 19 (.bin .sub) [.t 16, .t 18], .n 4 .mov [.t 19]])
   .ret)))
theorem chk.bin_ordered : chkF Tryd.prog 32 = some (20, ir.bin_ordered, [.tmp 4]) := by kernel_rfl

/-- paravane/region.CheckPoint -/
abbrev F.region_CheckPoint : Nat := 33
def ir.region_CheckPoint : IC :=
 (.seq (.reg [.n 1 .box [.t 0], .n 2 .mov [.i 0]])
   (.seq (.seq (.reg [.n 5 (.faddr 0) [.t 1], .n 6 (.load 1 false) [.t 5], .n 7 (.faddr 1) [.t 1], .n 8 (.load 1 false) [.t 7], .n 9 (.build [(.int .i64 0), (.int .i64 0)] [(0, 1), (1, 1)]) [.t 6, .t 8], .n 10 .mov [.i 0]])
   (.block 0 (.loop (.seq (.reg [.n 11 (.bin .lss) [.t 10, .i 2]])
   (.seq (.cond (.t 11) .skip (.exit 0))
   (.seq (.block 1 (.seq (.reg [.n 12 (.idxA 2 1 false) [.t 9, .t 10], .n 4 .mov [.t 12]])
   (.seq (.reg [.n 13 .mov [.t 4], .n 14 (.call 54) [.i 32768, .t 13], .n 15 .mov [.t 4], .n 16 (.bin .neq) [.t 14, .t 15]])
   (.cond (.t 16) (.seq (.reg [.n 2 .mov [.i 10]])
   .ret) .skip))))
   (.reg [.n 17 (.bin .add) [.t 10, .i 1], .n 10 .mov [.t 17]])))))))
   (.seq (.reg [.n 2 .mov [.i 0]])
   .ret)))
theorem chk.region_CheckPoint : chkF Tryd.prog 33 = some (18, ir.region_CheckPoint, [.tmp 2]) := by kernel_rfl

/-- paravane/paravanelaw07.bound -/
abbrev F.law07_bound : Nat := 34
def ir.law07_bound : IC :=
 (.seq (.reg [.n 4 (.alloc [(.int .i64 0), (.int .i64 0)]) []])
   (.seq (.reg [.n 5 .mov [.t 0], .n 6 .mov [.t 1], .n 7 (.build [(.int .i64 0), (.int .i64 0)] [(0, 1), (1, 1)]) [.t 5, .t 6], .s (.store 2) [.t 4, .t 7]])
   .ret))
theorem chk.law07_bound : chkF Tryd.prog 34 = some (8, ir.law07_bound, [.cell 4 91]) := by kernel_rfl

/-- paravane/paravanelaw07.spot -/
abbrev F.law07_spot : Nat := 35
def ir.law07_spot : IC :=
 (.seq (.reg [.n 4 (.alloc [(.int .i64 0), (.int .i64 0), (.int .i64 0), (.int .i64 0), (.int .i64 0), (.int .i64 0), (.int .i64 0), (.int .i64 0)]) []])
   (.seq (.reg [.n 5 .mov [.t 0], .n 6 .mov [.t 0], .n 7 (.call 34) [.t 5, .t 6], .n 8 .mov [.t 1], .n 9 .mov [.t 1], .n 10 (.call 34) [.t 8, .t 9], .n 11 .mov [.t 0], .n 12 .mov [.t 1], .n 13 (.bin .add) [.t 11, .t 12], .n 14 .mov [.t 0], .n 15 .mov [.t 1], .n 16 (.bin .add) [.t 14, .t 15], .n 17 (.call 34) [.t 13, .t 16], .n 18 .mov [.t 0], .n 19 .mov [.t 1], .n 20 (.bin .sub) [.t 18, .t 19], .n 21 .mov [.t 0], .n 22 .mov [.t 1], .n 23 (.bin .sub) [.t 21, .t 22], .n 24 (.call 34) [.t 20, .t 23], .n 25 (.build [(.int .i64 0), (.int .i64 0), (.int .i64 0), (.int .i64 0), (.int .i64 0), (.int .i64 0), (.int .i64 0), (.int .i64 0)] [(0, 2), (2, 2), (4, 2), (6, 2)]) [.t 7, .t 10, .t 17, .t 24], .s (.store 8) [.t 4, .t 25]])
   .ret))
theorem chk.law07_spot : chkF Tryd.prog 35 = some (26, ir.law07_spot, [.cell 4 94]) := by kernel_rfl

/-- slices.ContainsFunc[[]int,int] -/
abbrev F.slices_ContainsFunc_int_int : Nat := 36
def ir.slices_ContainsFunc_int_int : IC :=
 (.seq (.reg [.n 4 .mov [.c (.bool false)]])
   (.seq (.reg [.n 5 .mov [.t 0], .n 6 .mov [.t 1], .n 7 (.call 55) [.t 5, .t 6], .n 8 (.bin .geq) [.t 7, .i 0], .n 4 .mov [.t 8]])
   .ret))
theorem chk.slices_ContainsFunc_int_int : chkF Tryd.prog 36 = some (9, ir.slices_ContainsFunc_int_int, [.tmp 4]) := by kernel_rfl

/-- paravane/bin.Map$1 -/
abbrev F.bin_Map_1 : Nat := 37
def ir.bin_Map_1 : IC :=
 (.seq (.reg [.n 2 .mov [.c (.bool false)]])
   (.seq (.reg [.n 3 .mov [.t 0], .n 4 (.bin .lss) [.t 3, .i 0], .n 2 .mov [.t 4]])
   .ret))
theorem chk.bin_Map_1 : chkF Tryd.prog 37 = some (5, ir.bin_Map_1, [.tmp 2]) := by kernel_rfl

/-- paravane/bin.needed -/
abbrev F.bin_needed : Nat := 38
def ir.bin_needed : IC :=
 (.seq (.reg [.n 2 .box [.t 0], .n 4 .mov [.c (.bool false)]])
   (.seq (.reg [.n 5 .mov [.t 1], .n 6 (.len false) [.t 5], .n 7 (.faddr 5) [.t 2], .n 8 (.load 1 false) [.t 7], .n 9 (.len false) [.t 8], .n 10 (.bin .eql) [.t 6, .t 9], .n 11 .mov [.t 10], .w 12 .mov [.t 1] 11 true, .w 13 (.call 36) [.t 12, .c (.func (.func 56) [] [])] 11 true, .w 14 (.un .not) [.t 13] 11 true, .n 15 .pick [.t 11, .t 14, .c (.bool false)], .n 4 .mov [.t 15]])
   .ret))
theorem chk.bin_needed : chkF Tryd.prog 38 = some (16, ir.bin_needed, [.tmp 4]) := by kernel_rfl

/-- (paravane/bin.laid).lacks -/
abbrev F.bin_laid_lacks : Nat := 39
def ir.bin_laid_lacks : IC :=
 (.seq (.reg [.n 2 .box [.t 0], .n 4 .mov [.c .nils]])
   (.seq (.reg [.n 5 .mov [.c .nils]])
   (.seq (.seq (.reg [.n 10 (.load 8 true) [.t 2], .n 11 (.load 8 true) [.t 2], .n 12 (.mkfunc (.func 10) 1) [.t 11], .n 13 (.call 12) [.t 10, .t 12], .n 14 (.len false) [.t 13], .n 15 .mov [.i 0]])
   (.block 0 (.loop (.seq (.reg [.n 16 (.bin .lss) [.t 15, .t 14]])
   (.seq (.cond (.t 16) .skip (.exit 0))
   (.seq (.block 1 (.seq (.reg [.n 17 .mov [.t 15], .n 18 (.iaddrS 1) [.t 13, .t 15], .n 19 (.load 1 false) [.t 18], .n 6 .mov [.t 17], .n 7 .mov [.t 19]])
   (.seq (.reg [.n 20 .mov [.t 7], .n 21 (.len false) [.t 20], .n 22 .mov [.i 0]])
   (.block 2 (.loop (.seq (.reg [.n 23 (.bin .lss) [.t 22, .t 21]])
   (.seq (.cond (.t 23) .skip (.exit 2))
   (.seq (.block 3 (.seq (.reg [.n 24 .mov [.t 22], .n 25 (.iaddrS 1) [.t 20, .t 22], .n 26 (.load 1 false) [.t 25], .n 8 .mov [.t 24], .n 9 .mov [.t 26]])
   (.seq (.reg [.n 27 .mov [.t 9], .n 28 .mov [.t 1], .n 29 .mov [.t 8], .n 30 (.iaddrS 1) [.t 28, .t 29], .n 31 (.load 1 false) [.t 30], .n 32 (.bin .lss) [.t 27, .t 31]])
   (.cond (.t 32) (.reg [.n 33 .mov [.t 5], .n 34 .mov [.t 6], .n 35 .mov [.t 8], .n 36 .mov [.t 1], .n 37 .mov [.t 8], .n 38 (.iaddrS 1) [.t 36, .t 37], .n 39 (.load 1 false) [.t 38], .n 40 .mov [.t 9], .n 41 (.bin .sub) [.t 39, .t 40], .n 42 (.build [(.int .i64 0), (.int .i64 0), (.int .i64 0)] [(0, 1), (1, 1), (2, 1)]) [.t 34, .t 35, .t 41], .n 43 (.mkslice 3 76) [.t 42], .n 44 (.append 3 24 76) [.t 33, .t 43], .n 5 .mov [.t 44]]) .skip))))
   (.reg [.n 45 (.bin .add) [.t 22, .i 1], .n 22 .mov [.t 45]])))))))))
   (.reg [.n 46 (.bin .add) [.t 15, .i 1], .n 15 .mov [.t 46]])))))))
   (.seq (.reg [.n 47 .mov [.t 5], .n 4 .mov [.t 47]])
   .ret))))
theorem chk.bin_laid_lacks : chkF Tryd.prog 39 = some (48, ir.bin_laid_lacks, [.tmp 4]) := by kernel_rfl

/-- (paravane/bin.laid).sure -/
abbrev F.bin_laid_sure : Nat := 40
def ir.bin_laid_sure : IC :=
 (.seq (.reg [.n 1 .box [.t 0], .n 2 .mov [.i 0]])
   (.seq (.reg [.n 3 .mov [.i 0]])
   (.seq (.seq (.reg [.n 5 (.faddr 6) [.t 1], .n 6 (.load 1 false) [.t 5], .n 7 (.len false) [.t 6], .n 8 .mov [.i 0]])
   (.block 0 (.loop (.seq (.reg [.n 9 (.bin .lss) [.t 8, .t 7]])
   (.seq (.cond (.t 9) .skip (.exit 0))
   (.seq (.block 1 (.seq (.reg [.n 10 .mov [.t 8], .n 4 .mov [.t 10]])
   (.reg [.n 11 .mov [.t 3], .n 12 (.load 8 true) [.t 1], .n 13 .mov [.t 4], .n 14 (.call 10) [.t 12, .t 13], .n 15 (.len false) [.t 14], .n 16 (.bin .add) [.t 11, .t 15], .n 3 .mov [.t 16]])))
   (.reg [.n 17 (.bin .add) [.t 8, .i 1], .n 8 .mov [.t 17]])))))))
   (.seq (.reg [.n 18 .mov [.t 3], .n 2 .mov [.t 18]])
   .ret))))
theorem chk.bin_laid_sure : chkF Tryd.prog 40 = some (19, ir.bin_laid_sure, [.tmp 2]) := by kernel_rfl

/-- slices.Clone[[][]paravane/api.Point,[]paravane/api.Point] -/
abbrev F.slices_Clone_api_Point_api_Point : Nat := 41
def ir.slices_Clone_api_Point_api_Point : IC :=
 (.seq (.reg [.n 2 .mov [.c .nils]])
   (.seq (.seq (.reg [.n 3 .mov [.t 0], .n 4 (.raw 8 0 45) [.t 3, .c .nils]])
   (.cond (.t 4) (.seq (.reg [.n 2 .mov [.c .nils]])
   .ret) .skip))
   (.seq (.reg [.n 5 (.mkslice 1 85) [], .n 6 .mov [.t 0], .n 7 (.append 1 24 85) [.t 5, .t 6], .n 2 .mov [.t 7]])
   .ret)))
theorem chk.slices_Clone_api_Point_api_Point : chkF Tryd.prog 41 = some (8, ir.slices_Clone_api_Point_api_Point, [.tmp 2]) := by kernel_rfl

/-- paravane/bin.CheckInfill -/
abbrev F.bin_CheckInfill : Nat := 42
def ir.bin_CheckInfill : IC :=
 (.seq (.reg [.n 1 .box [.t 0], .n 2 .mov [.i 0]])
   (.seq (.seq (.reg [.n 7 (.faddr 0) [.t 1], .n 8 (.load 1 false) [.t 7], .n 9 (.len false) [.t 8], .n 10 (.bin .gtr) [.t 9, .i 16], .n 11 .mov [.t 10], .w 12 (.faddr 1) [.t 1] 11 false, .w 13 (.load 1 false) [.t 12] 11 false, .w 14 (.len false) [.t 13] 11 false, .w 15 (.bin .gtr) [.t 14, .i 10] 11 false, .n 16 .pick [.t 11, .c (.bool true), .t 15]])
   (.cond (.t 16) (.seq (.reg [.n 2 .mov [.i 74]])
   .ret) .skip))
   (.seq (.seq (.reg [.n 17 (.faddr 0) [.t 1], .n 18 (.load 1 false) [.t 17], .n 19 (.len false) [.t 18], .n 20 .mov [.i 0]])
   (.block 0 (.loop (.seq (.reg [.n 21 (.bin .lss) [.t 20, .t 19]])
   (.seq (.cond (.t 21) .skip (.exit 0))
   (.seq (.block 1 (.seq (.reg [.n 22 (.iaddrS 1) [.t 18, .t 20], .n 23 (.load 1 false) [.t 22], .n 4 .mov [.t 23]])
   (.seq (.reg [.n 24 .mov [.t 4], .n 25 (.call 25) [.t 24, .i 1, .i 100], .n 26 (.un .not) [.t 25]])
   (.cond (.t 26) (.seq (.reg [.n 2 .mov [.i 74]])
   .ret) .skip))))
   (.reg [.n 27 (.bin .add) [.t 20, .i 1], .n 20 .mov [.t 27]])))))))
   (.seq (.seq (.reg [.n 28 (.faddr 1) [.t 1], .n 29 (.load 1 false) [.t 28], .n 30 (.len false) [.t 29], .n 31 .mov [.i 0]])
   (.block 2 (.loop (.seq (.reg [.n 32 (.bin .lss) [.t 31, .t 30]])
   (.seq (.cond (.t 32) .skip (.exit 2))
   (.seq (.block 3 (.seq (.reg [.n 33 (.iaddrS 2) [.t 29, .t 31], .n 34 (.load 2 true) [.t 33], .n 6 (.alloc [(.int .i64 0), .nils]) [], .s (.store 2) [.t 6, .t 34]])
   (.seq (.reg [.n 35 (.faddr 0) [.t 6], .n 36 (.load 1 false) [.t 35], .n 37 (.call 25) [.t 36, .i 1, .i 1000], .n 38 (.un .not) [.t 37], .n 39 .mov [.t 38], .w 40 (.faddr 1) [.t 6] 39 false, .w 41 (.load 1 false) [.t 40] 39 false, .w 42 (.len false) [.t 41] 39 false, .w 43 (.faddr 0) [.t 1] 39 false, .w 44 (.load 1 false) [.t 43] 39 false, .w 45 (.len false) [.t 44] 39 false, .w 46 (.bin .neq) [.t 42, .t 45] 39 false, .n 47 .pick [.t 39, .c (.bool true), .t 46], .n 48 .mov [.t 47], .w 49 (.faddr 1) [.t 6] 48 false, .w 50 (.load 1 false) [.t 49] 48 false, .w 51 (.call 36) [.t 50, .c (.func (.func 57) [] [])] 48 false, .n 52 .pick [.t 48, .c (.bool true), .t 51]])
   (.cond (.t 52) (.seq (.reg [.n 2 .mov [.i 74]])
   .ret) .skip))))
   (.reg [.n 53 (.bin .add) [.t 31, .i 1], .n 31 .mov [.t 53]])))))))
   (.seq (.reg [.n 2 .mov [.i 0]])
   .ret)))))
theorem chk.bin_CheckInfill : chkF Tryd.prog 42 = some (54, ir.bin_CheckInfill, [.tmp 2]) := by kernel_rfl

/-- paravane/bin.best -/
abbrev F.bin_best : Nat := 43
def ir.bin_best : IC :=
 (.seq (.reg [.n 2 .box [.t 0], .n 4 .mov [.i 0], .n 5 .mov [.c (.bool false)]])
   (.seq (.reg [.n 6 (.alloc [(.int .i64 0), (.int .i64 0), (.int .i64 0), (.int .i64 0), (.int .i64 0), (.int .i64 0), (.int .i64 0), (.int .i64 0), (.int .i64 0), (.int .i64 0), (.int .i64 0), (.int .i64 0), (.int .i64 0), (.int .i64 0), (.int .i64 0), (.int .i64 0), (.int .i64 0), (.int .i64 0), (.int .i64 0), (.int .i64 0), (.int .i64 0), (.int .i64 0), (.int .i64 0), (.int .i64 0), (.int .i64 0), (.int .i64 0), (.int .i64 0), (.int .i64 0), (.int .i64 0), (.int .i64 0), (.int .i64 0), (.int .i64 0), (.int .i64 0), (.int .i64 0), (.int .i64 0), (.int .i64 0), (.int .i64 0), (.int .i64 0), (.int .i64 0), (.int .i64 0), (.int .i64 0), (.int .i64 0), (.int .i64 0), (.int .i64 0), (.int .i64 0), (.int .i64 0), (.int .i64 0), (.int .i64 0), (.int .i64 0), (.int .i64 0), (.int .i64 0), (.int .i64 0), (.int .i64 0), (.int .i64 0), (.int .i64 0), (.int .i64 0), (.int .i64 0), (.int .i64 0), (.int .i64 0), (.int .i64 0), (.int .i64 0), (.int .i64 0), (.int .i64 0), (.int .i64 0), (.int .i64 0), (.int .i64 0), (.int .i64 0), (.int .i64 0), (.int .i64 0), (.int .i64 0), (.int .i64 0), (.int .i64 0), (.int .i64 0), (.int .i64 0), (.int .i64 0), (.int .i64 0), (.int .i64 0), (.int .i64 0), (.int .i64 0), (.int .i64 0), (.int .i64 0), (.int .i64 0), (.int .i64 0), (.int .i64 0), (.int .i64 0), (.int .i64 0), (.int .i64 0), (.int .i64 0), (.int .i64 0), (.int .i64 0), (.int .i64 0), (.int .i64 0), (.int .i64 0), (.int .i64 0), (.int .i64 0), (.int .i64 0), (.int .i64 0), (.int .i64 0), (.int .i64 0), (.int .i64 0), (.int .i64 0), (.int .i64 0), (.int .i64 0), (.int .i64 0), (.int .i64 0), (.int .i64 0), (.int .i64 0), (.int .i64 0), (.int .i64 0), (.int .i64 0), (.int .i64 0), (.int .i64 0), (.int .i64 0), (.int .i64 0), (.int .i64 0), (.int .i64 0), (.int .i64 0), (.int .i64 0), (.int .i64 0), (.int .i64 0), (.int .i64 0), (.int .i64 0), (.int .i64 0), (.int .i64 0), (.int .i64 0), (.int .i64 0), (.int .i64 0), (.int .i64 0), (.int .i64 0), (.int .i64 0), (.int .i64 0), (.int .i64 0), (.int .i64 0), (.int .i64 0), (.int .i64 0), (.int .i64 0), (.int .i64 0), (.int .i64 0), (.int .i64 0), (.int .i64 0), (.int .i64 0), (.int .i64 0), (.int .i64 0), (.int .i64 0), (.int .i64 0), (.int .i64 0), (.int .i64 0), (.int .i64 0), (.int .i64 0), (.int .i64 0), (.int .i64 0), (.int .i64 0), (.int .i64 0), (.int .i64 0), (.int .i64 0), (.int .i64 0), (.int .i64 0), (.int .i64 0), (.int .i64 0), (.int .i64 0), (.int .i64 0), (.int .i64 0), (.int .i64 0), (.int .i64 0), (.int .i64 0), (.int .i64 0), (.int .i64 0), (.int .i64 0), (.int .i64 0), (.int .i64 0), (.int .i64 0), (.int .i64 0), (.int .i64 0), (.int .i64 0), (.int .i64 0), (.int .i64 0), (.int .i64 0), (.int .i64 0), (.int .i64 0), (.int .i64 0), (.int .i64 0), (.int .i64 0), (.int .i64 0), (.int .i64 0), (.int .i64 0), (.int .i64 0), (.int .i64 0), (.int .i64 0), (.int .i64 0), (.int .i64 0), (.int .i64 0), (.int .i64 0), (.int .i64 0), (.int .i64 0), (.int .i64 0), (.int .i64 0), (.int .i64 0), (.int .i64 0), (.int .i64 0), (.int .i64 0), (.int .i64 0), (.int .i64 0), (.int .i64 0), (.int .i64 0), (.int .i64 0), (.int .i64 0), (.int .i64 0), (.int .i64 0), (.int .i64 0), (.int .i64 0), (.int .i64 0), (.int .i64 0), (.int .i64 0), (.int .i64 0), (.int .i64 0), (.int .i64 0), (.int .i64 0), (.int .i64 0), (.int .i64 0), (.int .i64 0), (.int .i64 0), (.int .i64 0), (.int .i64 0), (.int .i64 0), (.int .i64 0), (.int .i64 0), (.int .i64 0), (.int .i64 0), (.int .i64 0), (.int .i64 0), (.int .i64 0), (.int .i64 0), (.int .i64 0), (.int .i64 0), (.int .i64 0), (.int .i64 0), (.int .i64 0), (.int .i64 0), (.int .i64 0), (.int .i64 0), (.int .i64 0), (.int .i64 0), (.int .i64 0), (.int .i64 0), (.int .i64 0), (.int .i64 0), (.int .i64 0), (.int .i64 0), (.int .i64 0), (.int .i64 0), (.int .i64 0), (.int .i64 0), (.int .i64 0), (.int .i64 0), (.int .i64 0), (.int .i64 0), (.int .i64 0), (.int .i64 0), (.int .i64 0), (.int .i64 0), (.int .i64 0), (.int .i64 0), (.int .i64 0), (.int .i64 0), (.int .i64 0), (.int .i64 0), (.int .i64 0), (.int .i64 0), (.int .i64 0), (.int .i64 0), (.int .i64 0), (.int .i64 0), (.int .i64 0), (.int .i64 0), (.int .i64 0), (.int .i64 0), (.int .i64 0), (.int .i64 0), (.int .i64 0), (.int .i64 0), (.int .i64 0), (.int .i64 0), (.int .i64 0), (.int .i64 0), (.int .i64 0), (.int .i64 0), (.int .i64 0), (.int .i64 0), (.int .i64 0), (.int .i64 0), (.int .i64 0), (.int .i64 0), (.int .i64 0), (.int .i64 0), (.int .i64 0), (.int .i64 0), (.int .i64 0), (.int .i64 0), (.int .i64 0), (.int .i64 0), (.int .i64 0), (.int .i64 0), (.int .i64 0), (.int .i64 0), (.int .i64 0), (.int .i64 0), (.int .i64 0), (.int .i64 0), (.int .i64 0), (.int .i64 0), (.int .i64 0), (.int .i64 0), (.int .i64 0), (.int .i64 0), (.int .i64 0), (.int .i64 0), (.int .i64 0), (.int .i64 0), (.int .i64 0), (.int .i64 0), (.int .i64 0), (.int .i64 0), (.int .i64 0), (.int .i64 0), (.int .i64 0), (.int .i64 0), (.int .i64 0), (.int .i64 0), (.int .i64 0), (.int .i64 0), (.int .i64 0), (.int .i64 0), (.int .i64 0), (.int .i64 0), (.int .i64 0), (.int .i64 0), (.int .i64 0), (.int .i64 0), (.int .i64 0), (.int .i64 0), (.int .i64 0), (.int .i64 0), (.int .i64 0), (.int .i64 0), (.int .i64 0), (.int .i64 0), (.int .i64 0), (.int .i64 0), (.int .i64 0), (.int .i64 0), (.int .i64 0), (.int .i64 0), (.int .i64 0), (.int .i64 0), (.int .i64 0), (.int .i64 0), (.int .i64 0), (.int .i64 0), (.int .i64 0), (.int .i64 0), (.int .i64 0), (.int .i64 0), (.int .i64 0), (.int .i64 0), (.int .i64 0), (.int .i64 0), (.int .i64 0), (.int .i64 0), (.int .i64 0), (.int .i64 0), (.int .i64 0), (.int .i64 0), (.int .i64 0), (.int .i64 0), (.int .i64 0), (.int .i64 0), (.int .i64 0), (.int .i64 0), (.int .i64 0), (.int .i64 0), (.int .i64 0), (.int .i64 0), (.int .i64 0), (.int .i64 0), (.int .i64 0), (.int .i64 0), (.int .i64 0), (.int .i64 0), (.int .i64 0), (.int .i64 0), (.int .i64 0), (.int .i64 0), (.int .i64 0), (.int .i64 0), (.int .i64 0), (.int .i64 0), (.int .i64 0), (.int .i64 0), (.int .i64 0), (.int .i64 0), (.int .i64 0), (.int .i64 0), (.int .i64 0), (.int .i64 0), (.int .i64 0), (.int .i64 0), (.int .i64 0), (.int .i64 0), (.int .i64 0), (.int .i64 0), (.int .i64 0), (.int .i64 0), (.int .i64 0), (.int .i64 0), (.int .i64 0), (.int .i64 0), (.int .i64 0), (.int .i64 0), (.int .i64 0), (.int .i64 0), (.int .i64 0), (.int .i64 0), (.int .i64 0), (.int .i64 0), (.int .i64 0), (.int .i64 0), (.int .i64 0), (.int .i64 0), (.int .i64 0), (.int .i64 0), (.int .i64 0), (.int .i64 0), (.int .i64 0), (.int .i64 0), (.int .i64 0), (.int .i64 0), (.int .i64 0), (.int .i64 0), (.int .i64 0), (.int .i64 0), (.int .i64 0), (.int .i64 0), (.int .i64 0), (.int .i64 0), (.int .i64 0), (.int .i64 0), (.int .i64 0), (.int .i64 0), (.int .i64 0), (.int .i64 0), (.int .i64 0), (.int .i64 0), (.int .i64 0), (.int .i64 0), (.int .i64 0), (.int .i64 0), (.int .i64 0), (.int .i64 0), (.int .i64 0), (.int .i64 0), (.int .i64 0), (.int .i64 0), (.int .i64 0), (.int .i64 0), (.int .i64 0), (.int .i64 0), (.int .i64 0), (.int .i64 0), (.int .i64 0), (.int .i64 0), (.int .i64 0), (.int .i64 0), (.int .i64 0), (.int .i64 0), (.int .i64 0), (.int .i64 0), (.int .i64 0), (.int .i64 0), (.int .i64 0), (.int .i64 0), (.int .i64 0), (.int .i64 0), (.int .i64 0), (.int .i64 0), (.int .i64 0), (.int .i64 0), (.int .i64 0), (.int .i64 0), (.int .i64 0), (.int .i64 0), (.int .i64 0), (.int .i64 0), (.int .i64 0), (.int .i64 0), (.int .i64 0), (.int .i64 0), (.int .i64 0), (.int .i64 0), (.int .i64 0), (.int .i64 0), (.int .i64 0), (.int .i64 0), (.int .i64 0), (.int .i64 0), (.int .i64 0), (.int .i64 0), (.int .i64 0), (.int .i64 0), (.int .i64 0), (.int .i64 0), (.int .i64 0), (.int .i64 0), (.int .i64 0), (.int .i64 0), (.int .i64 0), (.int .i64 0), (.int .i64 0), (.int .i64 0), (.int .i64 0), (.int .i64 0), (.int .i64 0), (.int .i64 0), (.int .i64 0), (.int .i64 0), (.int .i64 0), (.int .i64 0), (.int .i64 0), (.int .i64 0), (.int .i64 0), (.int .i64 0), (.int .i64 0), (.int .i64 0), (.int .i64 0), (.int .i64 0), (.int .i64 0), (.int .i64 0), (.int .i64 0), (.int .i64 0), (.int .i64 0), (.int .i64 0), (.int .i64 0), (.int .i64 0), (.int .i64 0), (.int .i64 0), (.int .i64 0), (.int .i64 0), (.int .i64 0), (.int .i64 0), (.int .i64 0), (.int .i64 0), (.int .i64 0), (.int .i64 0), (.int .i64 0), (.int .i64 0), (.int .i64 0), (.int .i64 0), (.int .i64 0), (.int .i64 0), (.int .i64 0), (.int .i64 0), (.int .i64 0), (.int .i64 0), (.int .i64 0), (.int .i64 0), (.int .i64 0), (.int .i64 0), (.int .i64 0), (.int .i64 0), (.int .i64 0), (.int .i64 0), (.int .i64 0), (.int .i64 0), (.int .i64 0), (.int .i64 0), (.int .i64 0), (.int .i64 0), (.int .i64 0), (.int .i64 0), (.int .i64 0), (.int .i64 0), (.int .i64 0), (.int .i64 0), (.int .i64 0), (.int .i64 0), (.int .i64 0), (.int .i64 0), (.int .i64 0), (.int .i64 0), (.int .i64 0), (.int .i64 0), (.int .i64 0), (.int .i64 0), (.int .i64 0), (.int .i64 0), (.int .i64 0), (.int .i64 0), (.int .i64 0), (.int .i64 0), (.int .i64 0), (.int .i64 0), (.int .i64 0), (.int .i64 0), (.int .i64 0), (.int .i64 0), (.int .i64 0), (.int .i64 0), (.int .i64 0), (.int .i64 0), (.int .i64 0), (.int .i64 0), (.int .i64 0), (.int .i64 0), (.int .i64 0), (.int .i64 0), (.int .i64 0), (.int .i64 0), (.int .i64 0), (.int .i64 0), (.int .i64 0), (.int .i64 0), (.int .i64 0), (.int .i64 0), (.int .i64 0), (.int .i64 0), (.int .i64 0), (.int .i64 0), (.int .i64 0), (.int .i64 0), (.int .i64 0), (.int .i64 0), (.int .i64 0), (.int .i64 0), (.int .i64 0), (.int .i64 0), (.int .i64 0), (.int .i64 0), (.int .i64 0), (.int .i64 0), (.int .i64 0), (.int .i64 0), (.int .i64 0), (.int .i64 0), (.int .i64 0), (.int .i64 0), (.int .i64 0), (.int .i64 0), (.int .i64 0), (.int .i64 0), (.int .i64 0), (.int .i64 0), (.int .i64 0), (.int .i64 0), (.int .i64 0), (.int .i64 0), (.int .i64 0), (.int .i64 0), (.int .i64 0), (.int .i64 0), (.int .i64 0), (.int .i64 0), (.int .i64 0), (.int .i64 0), (.int .i64 0), (.int .i64 0), (.int .i64 0), (.int .i64 0), (.int .i64 0), (.int .i64 0), (.int .i64 0), (.int .i64 0), (.int .i64 0), (.int .i64 0), (.int .i64 0), (.int .i64 0), (.int .i64 0), (.int .i64 0), (.int .i64 0), (.int .i64 0), (.int .i64 0), (.int .i64 0), (.int .i64 0), (.int .i64 0), (.int .i64 0), (.int .i64 0), (.int .i64 0), (.int .i64 0), (.int .i64 0), (.int .i64 0), (.int .i64 0), (.int .i64 0), (.int .i64 0), (.int .i64 0), (.int .i64 0), (.int .i64 0), (.int .i64 0), (.int .i64 0), (.int .i64 0), (.int .i64 0), (.int .i64 0), (.int .i64 0), (.int .i64 0), (.int .i64 0), (.int .i64 0), (.int .i64 0), (.int .i64 0), (.int .i64 0), (.int .i64 0), (.int .i64 0), (.int .i64 0), (.int .i64 0), (.int .i64 0), (.int .i64 0), (.int .i64 0), (.int .i64 0), (.int .i64 0), (.int .i64 0), (.int .i64 0), (.int .i64 0), (.int .i64 0), (.int .i64 0), (.int .i64 0), (.int .i64 0), (.int .i64 0), (.int .i64 0), (.int .i64 0), (.int .i64 0), (.int .i64 0), (.int .i64 0), (.int .i64 0), (.int .i64 0), (.int .i64 0), (.int .i64 0), (.int .i64 0), (.int .i64 0), (.int .i64 0), (.int .i64 0), (.int .i64 0), (.int .i64 0), (.int .i64 0), (.int .i64 0), (.int .i64 0), (.int .i64 0), (.int .i64 0), (.int .i64 0), (.int .i64 0), (.int .i64 0), (.int .i64 0), (.int .i64 0), (.int .i64 0), (.int .i64 0), (.int .i64 0), (.int .i64 0), (.int .i64 0), (.int .i64 0), (.int .i64 0), (.int .i64 0), (.int .i64 0), (.int .i64 0), (.int .i64 0), (.int .i64 0), (.int .i64 0), (.int .i64 0), (.int .i64 0), (.int .i64 0), (.int .i64 0), (.int .i64 0), (.int .i64 0), (.int .i64 0), (.int .i64 0), (.int .i64 0), (.int .i64 0), (.int .i64 0), (.int .i64 0), (.int .i64 0), (.int .i64 0), (.int .i64 0), (.int .i64 0), (.int .i64 0), (.int .i64 0), (.int .i64 0), (.int .i64 0), (.int .i64 0), (.int .i64 0), (.int .i64 0), (.int .i64 0), (.int .i64 0), (.int .i64 0), (.int .i64 0), (.int .i64 0), (.int .i64 0), (.int .i64 0), (.int .i64 0), (.int .i64 0), (.int .i64 0), (.int .i64 0), (.int .i64 0), (.int .i64 0), (.int .i64 0), (.int .i64 0), (.int .i64 0), (.int .i64 0), (.int .i64 0), (.int .i64 0), (.int .i64 0), (.int .i64 0), (.int .i64 0), (.int .i64 0), (.int .i64 0), (.int .i64 0), (.int .i64 0), (.int .i64 0), (.int .i64 0), (.int .i64 0), (.int .i64 0), (.int .i64 0), (.int .i64 0), (.int .i64 0), (.int .i64 0), (.int .i64 0), (.int .i64 0), (.int .i64 0), (.int .i64 0), (.int .i64 0), (.int .i64 0), (.int .i64 0), (.int .i64 0), (.int .i64 0), (.int .i64 0), (.int .i64 0), (.int .i64 0), (.int .i64 0), (.int .i64 0), (.int .i64 0), (.int .i64 0), (.int .i64 0), (.int .i64 0), (.int .i64 0), (.int .i64 0), (.int .i64 0), (.int .i64 0), (.int .i64 0), (.int .i64 0), (.int .i64 0), (.int .i64 0), (.int .i64 0), (.int .i64 0), (.int .i64 0), (.int .i64 0), (.int .i64 0), (.int .i64 0), (.int .i64 0), (.int .i64 0), (.int .i64 0), (.int .i64 0), (.int .i64 0), (.int .i64 0), (.int .i64 0), (.int .i64 0), (.int .i64 0), (.int .i64 0), (.int .i64 0), (.int .i64 0), (.int .i64 0), (.int .i64 0), (.int .i64 0), (.int .i64 0), (.int .i64 0), (.int .i64 0), (.int .i64 0), (.int .i64 0), (.int .i64 0), (.int .i64 0), (.int .i64 0), (.int .i64 0), (.int .i64 0), (.int .i64 0), (.int .i64 0), (.int .i64 0), (.int .i64 0), (.int .i64 0), (.int .i64 0), (.int .i64 0), (.int .i64 0), (.int .i64 0), (.int .i64 0), (.int .i64 0), (.int .i64 0), (.int .i64 0), (.int .i64 0), (.int .i64 0), (.int .i64 0), (.int .i64 0), (.int .i64 0), (.int .i64 0), (.int .i64 0), (.int .i64 0), (.int .i64 0), (.int .i64 0), (.int .i64 0), (.int .i64 0), (.int .i64 0), (.int .i64 0), (.int .i64 0), (.int .i64 0), (.int .i64 0), (.int .i64 0), (.int .i64 0), (.int .i64 0), (.int .i64 0), (.int .i64 0), (.int .i64 0), (.int .i64 0), (.int .i64 0), (.int .i64 0), (.int .i64 0), (.int .i64 0), (.int .i64 0), (.int .i64 0), (.int .i64 0), (.int .i64 0), (.int .i64 0), (.int .i64 0), (.int .i64 0), (.int .i64 0), (.int .i64 0), (.int .i64 0), (.int .i64 0), (.int .i64 0), (.int .i64 0), (.int .i64 0), (.int .i64 0), (.int .i64 0), (.int .i64 0), (.int .i64 0), (.int .i64 0), (.int .i64 0), (.int .i64 0), (.int .i64 0), (.int .i64 0), (.int .i64 0), (.int .i64 0), (.int .i64 0), (.int .i64 0), (.int .i64 0), (.int .i64 0), (.int .i64 0), (.int .i64 0), (.int .i64 0), (.int .i64 0), (.int .i64 0), (.int .i64 0), (.int .i64 0), (.int .i64 0), (.int .i64 0), (.int .i64 0), (.int .i64 0), (.int .i64 0), (.int .i64 0), (.int .i64 0), (.int .i64 0), (.int .i64 0), (.int .i64 0), (.int .i64 0), (.int .i64 0), (.int .i64 0), (.int .i64 0), (.int .i64 0), (.int .i64 0), (.int .i64 0), (.int .i64 0), (.int .i64 0), (.int .i64 0), (.int .i64 0), (.int .i64 0), (.int .i64 0), (.int .i64 0), (.int .i64 0), (.int .i64 0), (.int .i64 0), (.int .i64 0), (.int .i64 0), (.int .i64 0), (.int .i64 0), (.int .i64 0), (.int .i64 0), (.int .i64 0), (.int .i64 0), (.int .i64 0), (.int .i64 0), (.int .i64 0), (.int .i64 0), (.int .i64 0), (.int .i64 0), (.int .i64 0), (.int .i64 0), (.int .i64 0), (.int .i64 0), (.int .i64 0), (.int .i64 0), (.int .i64 0), (.int .i64 0), (.int .i64 0), (.int .i64 0), (.int .i64 0), (.int .i64 0), (.int .i64 0), (.int .i64 0), (.int .i64 0), (.int .i64 0), (.int .i64 0), (.int .i64 0), (.int .i64 0), (.int .i64 0), (.int .i64 0), (.int .i64 0), (.int .i64 0), (.int .i64 0), (.int .i64 0), (.int .i64 0), (.int .i64 0), (.int .i64 0), (.int .i64 0), (.int .i64 0), (.int .i64 0)]) []])
   (.seq (.reg [.n 7 .mov [.i 0], .n 8 .mov [.c (.bool false)]])
   (.seq (.seq (.reg [.n 12 (.faddr 1) [.t 2], .n 13 (.load 1 false) [.t 12], .n 14 (.len false) [.t 13], .n 15 (.bin .shl) [.i 1, .t 14], .n 16 .mov [.i 0]])
   (.block 0 (.loop (.seq (.reg [.n 17 (.bin .lss) [.t 16, .t 15]])
   (.seq (.cond (.t 17) .skip (.exit 0))
   (.seq (.block 1 (.seq (.reg [.n 18 .mov [.t 16], .n 9 .mov [.t 18]])
   (.seq (.seq (.reg [.n 19 .mov [.t 9], .n 20 .mov [.t 1], .n 21 (.bin .and) [.t 19, .t 20], .n 22 (.bin .neq) [.t 21, .i 0], .n 23 .mov [.t 22], .w 24 (.load 2 true) [.t 2] 23 false, .w 25 .mov [.t 9] 23 false, .w 26 (.call 58) [.t 24, .t 25] 23 false, .w 27 (.un .not) [.t 26] 23 false, .n 28 .pick [.t 23, .c (.bool true), .t 27]])
   (.cond (.t 28) (.exit 1) .skip))
   (.seq (.reg [.n 29 .mov [.t 9], .n 30 (.load 2 true) [.t 2], .n 31 .mov [.t 9], .n 32 (.call 45) [.t 30, .t 31], .n 33 (.iaddrA 1024 1) [.t 6, .t 29], .s (.store 1) [.t 33, .t 32]])
   (.seq (.seq (.reg [.n 34 .mov [.t 8], .n 35 (.un .not) [.t 34]])
   (.cond (.t 35) (.seq (.reg [.n 36 .mov [.t 9], .n 7 .mov [.t 36], .n 8 .mov [.c (.bool true)]])
   (.exit 1)) .skip))
   (.seq (.reg [.n 37 .mov [.t 9], .n 38 (.call 44) [.t 37], .n 39 .mov [.t 7], .n 40 (.call 44) [.t 39], .n 10 .mov [.t 38], .n 11 .mov [.t 40]])
   (.block 2 (.seq (.draw [0, 1, 3, 0, 8, 24, 63, 127] [.n 42 .mov [.t 9], .n 43 (.iaddrA 1024 1) [.t 6, .t 42], .n 44 (.load 1 false) [.t 43], .n 45 .mov [.t 7], .n 46 (.iaddrA 1024 1) [.t 6, .t 45], .n 47 (.load 1 false) [.t 46], .n 48 (.bin .neq) [.t 44, .t 47], .n 41 .mov [.t 48]])
   (.cond (.t 41) (.seq (.draw [0, 1, 3, 0, 8, 24, 63] [.n 49 .mov [.t 9], .n 50 (.iaddrA 1024 1) [.t 6, .t 49], .n 51 (.load 1 false) [.t 50], .n 52 .mov [.t 7], .n 53 (.iaddrA 1024 1) [.t 6, .t 52], .n 54 (.load 1 false) [.t 53], .n 55 (.bin .lss) [.t 51, .t 54]])
   (.cond (.t 55) (.reg [.n 56 .mov [.t 9], .n 7 .mov [.t 56]]) .skip)) (.seq (.reg [.n 58 .mov [.t 10], .n 59 (.len false) [.t 58], .n 60 .mov [.t 11], .n 61 (.len false) [.t 60], .n 62 (.bin .neq) [.t 59, .t 61], .n 57 .mov [.t 62]])
   (.cond (.t 57) (.seq (.reg [.n 63 .mov [.t 10], .n 64 (.len false) [.t 63], .n 65 .mov [.t 11], .n 66 (.len false) [.t 65], .n 67 (.bin .lss) [.t 64, .t 66]])
   (.cond (.t 67) (.reg [.n 68 .mov [.t 9], .n 7 .mov [.t 68]]) .skip)) (.seq (.reg [.n 70 .mov [.t 10], .n 71 .mov [.t 11], .n 72 (.call 59) [.t 70, .t 71], .n 73 (.bin .lss) [.t 72, .i 0], .n 69 .mov [.t 73]])
   (.cond (.t 69) (.reg [.n 74 .mov [.t 9], .n 7 .mov [.t 74]]) .skip)))))))))))))
   (.reg [.n 75 (.bin .add) [.t 16, .i 1], .n 16 .mov [.t 75]])))))))
   (.seq (.reg [.n 76 .mov [.t 7], .n 77 .mov [.t 8], .n 4 .mov [.t 76], .n 5 .mov [.t 77]])
   .ret)))))
theorem chk.bin_best : chkF Tryd.prog 43 = some (78, ir.bin_best, [.tmp 4, .tmp 5]) := by kernel_rfl

/-- paravane/bin.choice -/
abbrev F.bin_choice : Nat := 44
def ir.bin_choice : IC :=
 (.seq (.reg [.n 2 .mov [.c .nils]])
   (.seq (.reg [.n 3 .mov [.c .nils]])
   (.seq (.seq (.reg [.n 5 .mov [.i 0]])
   (.block 0 (.loop (.seq (.reg [.n 6 (.bin .lss) [.t 5, .i 10]])
   (.seq (.cond (.t 6) .skip (.exit 0))
   (.seq (.block 1 (.seq (.reg [.n 7 .mov [.t 5], .n 4 .mov [.t 7]])
   (.seq (.reg [.n 8 .mov [.t 0], .n 9 .mov [.t 4], .n 10 (.bin .shr) [.t 8, .t 9], .n 11 (.bin .rem) [.t 10, .i 2], .n 12 (.bin .eql) [.t 11, .i 1]])
   (.cond (.t 12) (.reg [.n 13 .mov [.t 3], .n 14 .mov [.t 4], .n 15 (.mkslice 1 3) [.t 14], .n 16 (.append 1 8 3) [.t 13, .t 15], .n 3 .mov [.t 16]]) .skip))))
   (.reg [.n 17 (.bin .add) [.t 5, .i 1], .n 5 .mov [.t 17]])))))))
   (.seq (.reg [.n 18 .mov [.t 3], .n 2 .mov [.t 18]])
   .ret))))
theorem chk.bin_choice : chkF Tryd.prog 44 = some (19, ir.bin_choice, [.tmp 2]) := by kernel_rfl

/-- paravane/bin.cost -/
abbrev F.bin_cost : Nat := 45
def ir.bin_cost : IC :=
 (.seq (.reg [.n 2 .box [.t 0], .n 4 .mov [.i 0]])
   (.seq (.reg [.n 5 .mov [.t 1], .n 6 (.call 44) [.t 5], .n 7 (.mkfunc (.func 61) 0) [.t 2], .n 8 (.call 60) [.t 6, .t 7], .n 4 .mov [.t 8]])
   .ret))
theorem chk.bin_cost : chkF Tryd.prog 45 = some (9, ir.bin_cost, [.tmp 4]) := by kernel_rfl

/-- paravane/bin.Bound$1 -/
abbrev F.bin_Bound_1 : Nat := 46
def ir.bin_Bound_1 : IC :=
 (.scope (.seq (.seq (.reg [.n 15 (.load 1 false) [.t 2], .n 16 (.un .not) [.t 15], .n 17 .mov [.t 16], .w 18 (.load 1 false) [.t 3] 17 false, .w 19 (.load 1 false) [.t 4] 17 false, .w 20 (.len false) [.t 19] 17 false, .w 21 (.bin .geq) [.t 18, .t 20] 17 false, .n 22 .pick [.t 17, .c (.bool true), .t 21]])
   (.cond (.t 22) (.seq (.reg [.s (.store 1) [.t 2, .c (.bool false)]])
   .ret) .skip))
   (.seq (.reg [.n 23 (.load 1 false) [.t 4], .n 24 (.load 1 false) [.t 3], .n 25 (.iaddrS 2) [.t 23, .t 24], .n 26 (.load 2 true) [.t 25], .n 11 (.alloc [(.int .i64 0), .nils]) [], .s (.store 2) [.t 11, .t 26]])
   (.seq (.reg [.n 27 (.load 1 false) [.t 3], .n 28 (.bin .add) [.t 27, .i 1], .s (.store 1) [.t 3, .t 28]])
   (.seq (.seq (.reg [.n 29 (.faddr 0) [.t 11], .n 30 (.load 1 false) [.t 29], .n 31 (.bin .neq) [.t 30, .i (-1)]])
   (.cond (.t 31) (.seq (.seq (.reg [.n 32 (.faddr 0) [.t 11], .n 33 (.load 1 false) [.t 32], .n 34 (.faddr 1) [.t 5], .n 35 (.load 1 false) [.t 34], .n 36 (.len false) [.t 35], .n 37 (.bin .sub) [.t 36, .i 1], .n 38 (.call 25) [.t 33, .i 0, .t 37], .n 39 .mov [.t 38], .w 40 .mov [.t 1] 39 true, .w 41 (.faddr 0) [.t 11] 39 true, .w 42 (.load 1 false) [.t 41] 39 true, .w 43 (.bin .shr) [.t 40, .t 42] 39 true, .w 44 (.bin .rem) [.t 43, .i 2] 39 true, .w 45 (.bin .eql) [.t 44, .i 0] 39 true, .n 46 .pick [.t 39, .t 45, .c (.bool false)], .n 47 .mov [.t 46], .w 48 (.faddr 1) [.t 11] 47 true, .w 49 (.load 1 false) [.t 48] 47 true, .w 50 (.len false) [.t 49] 47 true, .w 51 (.bin .eql) [.t 50, .i 0] 47 true, .n 52 .pick [.t 47, .t 51, .c (.bool false)], .s (.store 1) [.t 2, .t 52]])
   (.seq (.reg [.n 53 (.load 1 false) [.t 2]])
   (.cond (.t 53) (.seq (.draw [0, 0, 0, 4, 12, 30, 0, 0, 128, 384, 960, 2047] [.n 54 (.load 1 false) [.t 6], .n 55 .mov [.t 0], .n 56 (.faddr 0) [.t 11], .n 57 (.load 1 false) [.t 56], .n 58 (.bin .shl) [.i 1, .t 57], .n 59 (.bin .or) [.t 55, .t 58], .n 60 .mov [.t 1], .n 61 (.faddr 0) [.t 11], .n 62 (.load 1 false) [.t 61], .n 63 (.bin .shl) [.i 1, .t 62], .n 64 (.bin .or) [.t 60, .t 63], .n 65 .callv [.t 54, .t 59, .t 64]])
   (.draw [0, 0, 0, 0, 8, 24, 60, 127] [.n 66 (.load 1 false) [.t 6], .n 67 .mov [.t 0], .n 68 .mov [.t 1], .n 69 (.faddr 0) [.t 11], .n 70 (.load 1 false) [.t 69], .n 71 (.bin .shl) [.i 1, .t 70], .n 72 (.bin .or) [.t 68, .t 71], .n 73 .callv [.t 66, .t 67, .t 72]])) .skip)))
   .ret) .skip))
   (.seq (.reg [.n 74 (.faddr 1) [.t 11], .n 75 (.load 1 false) [.t 74], .n 76 (.len false) [.t 75], .n 77 (.faddr 0) [.t 5], .n 78 (.load 1 false) [.t 77], .n 79 (.len false) [.t 78], .n 80 (.bin .eql) [.t 76, .t 79], .s (.store 1) [.t 2, .t 80]])
   (.seq (.label 0)
   (.seq (.seq (.reg [.n 81 (.faddr 1) [.t 11], .n 82 (.load 1 false) [.t 81], .n 83 (.len false) [.t 82], .n 84 .mov [.i 0]])
   (.block 0 (.loop (.seq (.reg [.n 85 (.bin .lss) [.t 84, .t 83]])
   (.seq (.cond (.t 85) .skip (.exit 0))
   (.seq (.block 1 (.seq (.reg [.n 86 (.iaddrS 1) [.t 82, .t 84], .n 87 (.load 1 false) [.t 86], .n 13 .mov [.t 87]])
   (.seq (.reg [.n 88 (.load 1 false) [.t 2], .n 89 .mov [.t 88], .w 90 .mov [.t 13] 89 true, .w 91 (.call 25) [.t 90, .i 0, .i 1000000] 89 true, .n 92 .pick [.t 89, .t 91, .c (.bool false)], .s (.store 1) [.t 2, .t 92]])
   (.seq (.reg [.n 93 (.load 1 false) [.t 2], .n 94 (.un .not) [.t 93]])
   (.cond (.t 94) (.exit 0) .skip)))))
   (.reg [.n 95 (.bin .add) [.t 84, .i 1], .n 84 .mov [.t 95]])))))))
   (.seq (.reg [.n 96 (.load 1 false) [.t 2]])
   (.cond (.t 96) (.seq (.reg [.n 97 (.load 2 true) [.t 5], .n 98 (.faddr 1) [.t 11], .n 99 (.load 1 false) [.t 98], .n 100 .mov [.t 0], .n 101 .mov [.t 1], .n 102 (.call 47) [.t 97, .t 99, .t 100, .t 101], .n 14 .mov [.t 102]])
   (.seq (.reg [.n 103 (.load 1 false) [.t 7], .n 104 (.un .not) [.t 103], .n 105 .mov [.t 104], .w 106 .mov [.t 14] 105 false, .w 107 (.load 1 false) [.t 8] 105 false, .w 108 (.bin .lss) [.t 106, .t 107] 105 false, .n 109 .pick [.t 105, .c (.bool true), .t 108]])
   (.cond (.t 109) (.reg [.n 110 .mov [.t 14], .s (.store 1) [.t 8, .t 110], .s (.store 1) [.t 7, .c (.bool true)]]) .skip))) .skip))))))))))
theorem chk.bin_Bound_1 : chkF Tryd.prog 46 = some (111, ir.bin_Bound_1, []) := by kernel_rfl

/-- paravane/bin.leaf -/
abbrev F.bin_leaf : Nat := 47
def ir.bin_leaf : IC :=
 (.seq (.reg [.n 4 .box [.t 0], .n 8 .mov [.i 0]])
   (.seq (.reg [.n 18 (.load 2 true) [.t 4], .n 19 .mov [.t 2], .n 20 (.call 62) [.t 18, .t 19], .n 9 .mov [.t 20]])
   (.seq (.reg [.n 21 (.load 2 true) [.t 4], .n 22 .mov [.t 2], .n 23 (.call 45) [.t 21, .t 22], .n 10 .mov [.t 23]])
   (.seq (.seq (.reg [.n 24 .mov [.t 1], .n 25 (.len false) [.t 24], .n 26 .mov [.i 0]])
   (.block 0 (.loop (.seq (.reg [.n 27 (.bin .lss) [.t 26, .t 25]])
   (.seq (.cond (.t 27) .skip (.exit 0))
   (.seq (.block 1 (.seq (.reg [.n 28 .mov [.t 26], .n 29 (.iaddrS 1) [.t 24, .t 26], .n 30 (.load 1 false) [.t 29], .n 11 .mov [.t 28], .n 12 .mov [.t 30]])
   (.reg [.n 31 .mov [.t 10], .n 32 .mov [.t 12], .n 33 .mov [.t 9], .n 34 .mov [.t 11], .n 35 (.iaddrS 1) [.t 33, .t 34], .n 36 (.load 1 false) [.t 35], .n 37 (.bin .mul) [.t 32, .t 36], .n 38 (.bin .add) [.t 31, .t 37], .n 10 .mov [.t 38]])))
   (.reg [.n 39 (.bin .add) [.t 26, .i 1], .n 26 .mov [.t 39]])))))))
   (.seq (.seq (.reg [.n 40 (.faddr 1) [.t 4], .n 41 (.load 1 false) [.t 40], .n 42 (.len false) [.t 41], .n 43 .mov [.i 0]])
   (.block 2 (.loop (.seq (.reg [.n 44 (.bin .lss) [.t 43, .t 42]])
   (.seq (.cond (.t 44) .skip (.exit 2))
   (.seq (.block 3 (.seq (.reg [.n 45 .mov [.t 43], .n 46 (.iaddrS 2) [.t 41, .t 43], .n 47 (.load 2 true) [.t 46], .n 14 (.alloc [(.int .i64 0), .nils]) [], .n 13 .mov [.t 45], .s (.store 2) [.t 14, .t 47]])
   (.seq (.seq (.reg [.n 48 .mov [.t 3], .n 49 .mov [.t 13], .n 50 (.bin .shr) [.t 48, .t 49], .n 51 (.bin .rem) [.t 50, .i 2], .n 52 (.bin .eql) [.t 51, .i 1]])
   (.cond (.t 52) (.exit 3) .skip))
   (.seq (.reg [.n 53 (.faddr 0) [.t 14], .n 54 (.load 1 false) [.t 53], .n 55 (.un .neg) [.t 54], .n 15 .mov [.t 55]])
   (.seq (.seq (.reg [.n 56 (.faddr 1) [.t 14], .n 57 (.load 1 false) [.t 56], .n 58 (.len false) [.t 57], .n 59 .mov [.i 0]])
   (.block 4 (.loop (.seq (.reg [.n 60 (.bin .lss) [.t 59, .t 58]])
   (.seq (.cond (.t 60) .skip (.exit 4))
   (.seq (.block 5 (.seq (.reg [.n 61 .mov [.t 59], .n 62 (.iaddrS 1) [.t 57, .t 59], .n 63 (.load 1 false) [.t 62], .n 16 .mov [.t 61], .n 17 .mov [.t 63]])
   (.draw [0, 0, 0, 6, 14, 0, 0, 0, 192, 448, 992, 2046, 4095, 8191] [.n 64 .mov [.t 15], .n 65 .mov [.t 1], .n 66 .mov [.t 16], .n 67 (.iaddrS 1) [.t 65, .t 66], .n 68 (.load 1 false) [.t 67], .n 69 .mov [.t 17], .n 70 .mov [.t 9], .n 71 .mov [.t 16], .n 72 (.iaddrS 1) [.t 70, .t 71], .n 73 (.load 1 false) [.t 72], .n 74 (.minmax false) [.t 69, .t 73], .n 75 (.bin .mul) [.t 68, .t 74], .n 76 (.bin .add) [.t 64, .t 75], .n 15 .mov [.t 76]])))
   (.reg [.n 77 (.bin .add) [.t 59, .i 1], .n 59 .mov [.t 77]])))))))
   (.reg [.n 78 .mov [.t 10], .n 79 .mov [.t 15], .n 80 (.minmax true) [.i 0, .t 79], .n 81 (.bin .sub) [.t 78, .t 80], .n 10 .mov [.t 81]]))))))
   (.reg [.n 82 (.bin .add) [.t 43, .i 1], .n 43 .mov [.t 82]])))))))
   (.seq (.reg [.n 83 .mov [.t 10], .n 8 .mov [.t 83]])
   .ret))))))
theorem chk.bin_leaf : chkF Tryd.prog 47 = some (84, ir.bin_leaf, [.tmp 8]) := by kernel_rfl

/-- paravane/region.Count -/
abbrev F.region_Count : Nat := 48
def ir.region_Count : IC :=
 (.seq (.reg [.n 1 .box [.t 0], .n 2 .mov [.i 0], .n 3 .mov [.i 0]])
   (.seq (.seq (.reg [.n 7 (.load 8 true) [.t 1], .n 8 (.call 63) [.t 7], .n 4 .mov [.t 8]])
   (.seq (.reg [.n 9 .mov [.t 4], .n 10 (.bin .neq) [.t 9, .i 0]])
   (.cond (.t 10) (.seq (.reg [.n 11 .mov [.t 4], .n 2 .mov [.i 0], .n 3 .mov [.t 11]])
   .ret) .skip)))
   (.seq (.reg [.n 5 (.alloc [(.int .i64 0)]) [], .s (.store 1) [.t 5, .i 0]])
   (.seq (.seq (.reg [.n 12 (.load 8 true) [.t 1], .n 13 (.call 64) [.t 12], .n 14 (.call 65) [.t 13]])
   (.block 0 (.range (.t 14) [15] (.reg [.n 6 (.alloc [(.int .i64 0), (.int .i64 0), (.int .i64 0)]) [], .s (.store 3) [.t 6, .t 15]]) (.block 1 (.reg [.n 16 (.load 1 false) [.t 5], .n 17 (.faddr 2) [.t 6], .n 18 (.load 1 false) [.t 17], .n 19 (.faddr 1) [.t 6], .n 20 (.load 1 false) [.t 19], .n 21 (.bin .sub) [.t 18, .t 20], .n 22 (.bin .add) [.t 21, .i 1], .n 23 (.bin .add) [.t 16, .t 22], .s (.store 1) [.t 5, .t 23]])))))
   (.seq (.reg [.n 24 (.load 1 false) [.t 5], .n 2 .mov [.t 24], .n 3 .mov [.i 0]])
   .ret)))))
theorem chk.region_Count : chkF Tryd.prog 48 = some (25, ir.region_Count, [.tmp 2, .tmp 3]) := by kernel_rfl

/-- paravane/bin.places -/
abbrev F.bin_places : Nat := 49
def ir.bin_places : IC :=
 (.seq (.reg [.n 1 .box [.t 0], .n 2 .mov [.c .nils]])
   (.seq (.reg [.n 3 .mov [.c .nils]])
   (.seq (.seq (.reg [.n 6 (.faddr 0) [.t 1], .n 7 (.faddr 0) [.t 6], .n 8 (.load 1 false) [.t 7], .n 4 .mov [.t 8]])
   (.block 0 (.loop (.seq (.seq (.reg [.n 9 .mov [.t 4], .n 10 (.faddr 0) [.t 1], .n 11 (.faddr 1) [.t 10], .n 12 (.load 1 false) [.t 11], .n 13 (.bin .leq) [.t 9, .t 12]])
   (.cond (.t 13) .skip (.exit 0)))
   (.seq (.block 1 (.seq (.reg [.n 16 (.faddr 2) [.t 1], .n 17 (.faddr 0) [.t 16], .n 18 (.load 1 false) [.t 17], .n 19 (.faddr 4) [.t 1], .n 20 (.faddr 0) [.t 19], .n 21 (.load 1 false) [.t 20], .n 22 .mov [.t 4], .n 23 (.bin .sub) [.t 21, .t 22], .n 24 .mov [.t 4], .n 25 (.faddr 6) [.t 1], .n 26 (.faddr 1) [.t 25], .n 27 (.load 1 false) [.t 26], .n 28 (.bin .sub) [.t 24, .t 27], .n 29 (.minmax true) [.t 18, .t 23, .t 28], .n 5 .mov [.t 29]])
   (.block 2 (.loop (.seq (.seq (.reg [.n 30 .mov [.t 5], .n 31 (.faddr 2) [.t 1], .n 32 (.faddr 1) [.t 31], .n 33 (.load 1 false) [.t 32], .n 34 (.faddr 4) [.t 1], .n 35 (.faddr 1) [.t 34], .n 36 (.load 1 false) [.t 35], .n 37 .mov [.t 4], .n 38 (.bin .sub) [.t 36, .t 37], .n 39 .mov [.t 4], .n 40 (.faddr 6) [.t 1], .n 41 (.faddr 0) [.t 40], .n 42 (.load 1 false) [.t 41], .n 43 (.bin .sub) [.t 39, .t 42], .n 44 (.minmax false) [.t 33, .t 38, .t 43], .n 45 (.bin .leq) [.t 30, .t 44]])
   (.cond (.t 45) .skip (.exit 2)))
   (.seq (.block 3 (.reg [.n 48 .mov [.t 3], .n 49 .mov [.t 4], .n 50 .mov [.t 5], .n 51 (.build [(.int .i64 0), (.int .i64 0)] [(0, 1), (1, 1)]) [.t 49, .t 50], .n 52 (.mkslice 2 23) [.t 51], .n 53 (.append 2 16 23) [.t 48, .t 52], .n 3 .mov [.t 53]]))
   (.reg [.n 46 .mov [.t 5], .n 47 (.bin .add) [.t 46, .i 1], .n 5 .mov [.t 47]])))))))
   (.reg [.n 14 .mov [.t 4], .n 15 (.bin .add) [.t 14, .i 1], .n 4 .mov [.t 15]]))))))
   (.seq (.reg [.n 54 .mov [.t 3], .n 2 .mov [.t 54]])
   .ret))))
theorem chk.bin_places : chkF Tryd.prog 49 = some (55, ir.bin_places, [.tmp 2]) := by kernel_rfl

/-- paravane/bin.pairs$1 -/
abbrev F.bin_pairs_1 : Nat := 50
def ir.bin_pairs_1 : IC :=
 (.seq (.reg [.n 8 (.load 1 false) [.t 1], .n 9 (.len false) [.t 8], .n 10 .mov [.i 0]])
   (.block 0 (.loop (.seq (.reg [.n 11 (.bin .lss) [.t 10, .t 9]])
   (.seq (.cond (.t 11) .skip (.exit 0))
   (.seq (.block 1 (.seq (.reg [.n 12 (.iaddrS 2) [.t 8, .t 10], .n 13 (.load 2 true) [.t 12], .n 5 (.alloc [(.int .i64 0), (.int .i64 0)]) [], .s (.store 2) [.t 5, .t 13]])
   (.seq (.reg [.n 14 (.load 1 false) [.t 2], .n 15 (.len false) [.t 14], .n 16 .mov [.i 0]])
   (.block 2 (.loop (.seq (.reg [.n 17 (.bin .lss) [.t 16, .t 15]])
   (.seq (.cond (.t 17) .skip (.exit 2))
   (.seq (.block 3 (.seq (.reg [.n 18 (.iaddrS 2) [.t 14, .t 16], .n 19 (.load 2 true) [.t 18], .n 7 (.alloc [(.int .i64 0), (.int .i64 0)]) [], .s (.store 2) [.t 7, .t 19]])
   (.seq (.reg [.n 20 .mov [.t 0], .n 21 (.load 2 true) [.t 5], .n 22 (.load 2 true) [.t 7], .n 23 .callv [.t 20, .t 21, .t 22], .n 24 (.un .not) [.t 23]])
   (.cond (.t 24) .ret .skip))))
   (.reg [.n 25 (.bin .add) [.t 16, .i 1], .n 16 .mov [.t 25]])))))))))
   (.reg [.n 26 (.bin .add) [.t 10, .i 1], .n 10 .mov [.t 26]])))))))
theorem chk.bin_pairs_1 : chkF Tryd.prog 50 = some (27, ir.bin_pairs_1, []) := by kernel_rfl

/-- paravane/bin.floor -/
abbrev F.bin_floor : Nat := 51
def ir.bin_floor : IC :=
 (.seq (.reg [.n 4 .mov [.i 0]])
   (.seq (.reg [.n 6 .mov [.t 0], .n 7 .mov [.t 1], .n 8 (.bin .quo) [.t 6, .t 7], .n 5 .mov [.t 8]])
   (.seq (.seq (.reg [.n 9 .mov [.t 0], .n 10 .mov [.t 1], .n 11 (.bin .rem) [.t 9, .t 10], .n 12 (.bin .lss) [.t 11, .i 0]])
   (.cond (.t 12) (.reg [.n 13 .mov [.t 5], .n 14 (.bin .sub) [.t 13, .i 1], .n 5 .mov [.t 14]]) .skip))
   (.seq (.reg [.n 15 .mov [.t 5], .n 4 .mov [.t 15]])
   .ret))))
theorem chk.bin_floor : chkF Tryd.prog 51 = some (16, ir.bin_floor, [.tmp 4]) := by kernel_rfl

/-- (paravane/region.limit).into -/
abbrev F.region_limit_into : Nat := 54
def ir.region_limit_into : IC :=
 (.seq (.reg [.n 4 .mov [.i 0]])
   (.seq (.reg [.n 5 .mov [.t 0], .n 6 (.un .neg) [.t 5], .n 7 .mov [.t 1], .n 8 .mov [.t 0], .n 9 (.minmax false) [.t 7, .t 8], .n 10 (.minmax true) [.t 6, .t 9], .n 4 .mov [.t 10]])
   .ret))
theorem chk.region_limit_into : chkF Tryd.prog 54 = some (11, ir.region_limit_into, [.tmp 4]) := by kernel_rfl

/-- slices.IndexFunc[[]int,int] -/
abbrev F.slices_IndexFunc_int_int : Nat := 55
def ir.slices_IndexFunc_int_int : IC :=
 (.seq (.reg [.n 4 .mov [.i 0]])
   (.seq (.seq (.reg [.n 6 .mov [.t 0], .n 7 (.len false) [.t 6], .n 8 .mov [.i 0]])
   (.block 0 (.loop (.seq (.reg [.n 9 (.bin .lss) [.t 8, .t 7]])
   (.seq (.cond (.t 9) .skip (.exit 0))
   (.seq (.block 1 (.seq (.reg [.n 10 .mov [.t 8], .n 5 .mov [.t 10]])
   (.seq (.reg [.n 11 .mov [.t 1], .n 12 .mov [.t 0], .n 13 .mov [.t 5], .n 14 (.iaddrS 1) [.t 12, .t 13], .n 15 (.load 1 false) [.t 14], .n 16 .callv [.t 11, .t 15]])
   (.cond (.t 16) (.seq (.reg [.n 17 .mov [.t 5], .n 4 .mov [.t 17]])
   .ret) .skip))))
   (.reg [.n 18 (.bin .add) [.t 8, .i 1], .n 8 .mov [.t 18]])))))))
   (.seq (.reg [.n 4 .mov [.i (-1)]])
   .ret)))
theorem chk.slices_IndexFunc_int_int : chkF Tryd.prog 55 = some (19, ir.slices_IndexFunc_int_int, [.tmp 4]) := by kernel_rfl

/-- paravane/bin.needed$1 -/
abbrev F.bin_needed_1 : Nat := 56
def ir.bin_needed_1 : IC :=
 (.seq (.reg [.n 2 .mov [.c (.bool false)]])
   (.seq (.reg [.n 3 .mov [.t 0], .n 4 (.call 25) [.t 3, .i 0, .i 100], .n 5 (.un .not) [.t 4], .n 2 .mov [.t 5]])
   .ret))
theorem chk.bin_needed_1 : chkF Tryd.prog 56 = some (6, ir.bin_needed_1, [.tmp 2]) := by kernel_rfl

/-- paravane/bin.CheckInfill$1 -/
abbrev F.bin_CheckInfill_1 : Nat := 57
def ir.bin_CheckInfill_1 : IC :=
 (.seq (.reg [.n 2 .mov [.c (.bool false)]])
   (.seq (.reg [.n 3 .mov [.t 0], .n 4 (.call 25) [.t 3, .i 0, .i 100], .n 5 (.un .not) [.t 4], .n 2 .mov [.t 5]])
   .ret))
theorem chk.bin_CheckInfill_1 : chkF Tryd.prog 57 = some (6, ir.bin_CheckInfill_1, [.tmp 2]) := by kernel_rfl

/-- paravane/bin.covers -/
abbrev F.bin_covers : Nat := 58
def ir.bin_covers : IC :=
 (.seq (.reg [.n 2 .box [.t 0], .n 4 .mov [.c (.bool false)]])
   (.seq (.reg [.n 5 (.load 2 true) [.t 2], .n 6 .mov [.t 1], .n 7 (.call 62) [.t 5, .t 6], .n 8 (.call 60) [.t 7, .c (.func (.func 76) [] [])], .n 9 (.bin .eql) [.t 8, .i 0], .n 4 .mov [.t 9]])
   .ret))
theorem chk.bin_covers : chkF Tryd.prog 58 = some (10, ir.bin_covers, [.tmp 4]) := by kernel_rfl

/-- slices.Compare[[]int,int] -/
abbrev F.slices_Compare_int_int : Nat := 59
def ir.slices_Compare_int_int : IC :=
 (.seq (.reg [.n 4 .mov [.i 0]])
   (.seq (.seq (.reg [.n 9 .mov [.t 0], .n 10 (.len false) [.t 9], .n 11 .mov [.i 0]])
   (.block 0 (.loop (.seq (.reg [.n 12 (.bin .lss) [.t 11, .t 10]])
   (.seq (.cond (.t 12) .skip (.exit 0))
   (.seq (.block 1 (.seq (.reg [.n 13 .mov [.t 11], .n 14 (.iaddrS 1) [.t 9, .t 11], .n 15 (.load 1 false) [.t 14], .n 5 .mov [.t 13], .n 6 .mov [.t 15]])
   (.seq (.seq (.reg [.n 16 .mov [.t 5], .n 17 .mov [.t 1], .n 18 (.len false) [.t 17], .n 19 (.bin .geq) [.t 16, .t 18]])
   (.cond (.t 19) (.seq (.reg [.n 4 .mov [.i 1]])
   .ret) .skip))
   (.seq (.reg [.n 20 .mov [.t 1], .n 21 .mov [.t 5], .n 22 (.iaddrS 1) [.t 20, .t 21], .n 23 (.load 1 false) [.t 22], .n 7 .mov [.t 23]])
   (.seq (.reg [.n 24 .mov [.t 6], .n 25 .mov [.t 7], .n 26 (.call 77) [.t 24, .t 25], .n 8 .mov [.t 26]])
   (.seq (.reg [.n 27 .mov [.t 8], .n 28 (.bin .neq) [.t 27, .i 0]])
   (.cond (.t 28) (.seq (.reg [.n 29 .mov [.t 8], .n 4 .mov [.t 29]])
   .ret) .skip)))))))
   (.reg [.n 30 (.bin .add) [.t 11, .i 1], .n 11 .mov [.t 30]])))))))
   (.seq (.seq (.reg [.n 31 .mov [.t 0], .n 32 (.len false) [.t 31], .n 33 .mov [.t 1], .n 34 (.len false) [.t 33], .n 35 (.bin .lss) [.t 32, .t 34]])
   (.cond (.t 35) (.seq (.reg [.n 4 .mov [.i (-1)]])
   .ret) .skip))
   (.seq (.reg [.n 4 .mov [.i 0]])
   .ret))))
theorem chk.slices_Compare_int_int : chkF Tryd.prog 59 = some (36, ir.slices_Compare_int_int, [.tmp 4]) := by kernel_rfl

/-- paravane/bin.sum[int] -/
abbrev F.bin_sum_int : Nat := 60
def ir.bin_sum_int : IC :=
 (.seq (.reg [.n 4 .mov [.i 0]])
   (.seq (.reg [.n 5 .mov [.i 0]])
   (.seq (.seq (.reg [.n 8 .mov [.t 0], .n 9 (.len false) [.t 8], .n 10 .mov [.i 0]])
   (.block 0 (.loop (.seq (.reg [.n 11 (.bin .lss) [.t 10, .t 9]])
   (.seq (.cond (.t 11) .skip (.exit 0))
   (.seq (.block 1 (.seq (.reg [.n 12 (.iaddrS 1) [.t 8, .t 10], .n 13 (.load 1 false) [.t 12], .n 7 .mov [.t 13]])
   (.reg [.n 14 .mov [.t 5], .n 15 .mov [.t 1], .n 16 .mov [.t 7], .n 17 .callv [.t 15, .t 16], .n 18 (.bin .add) [.t 14, .t 17], .n 5 .mov [.t 18]])))
   (.reg [.n 19 (.bin .add) [.t 10, .i 1], .n 10 .mov [.t 19]])))))))
   (.seq (.reg [.n 20 .mov [.t 5], .n 4 .mov [.t 20]])
   .ret))))
theorem chk.bin_sum_int : chkF Tryd.prog 60 = some (21, ir.bin_sum_int, [.tmp 4]) := by kernel_rfl

/-- paravane/bin.cost$1 -/
abbrev F.bin_cost_1 : Nat := 61
def ir.bin_cost_1 : IC :=
 (.seq (.reg [.n 3 .mov [.i 0]])
   (.seq (.reg [.n 4 (.faddr 1) [.t 1], .n 5 (.load 1 false) [.t 4], .n 6 .mov [.t 0], .n 7 (.iaddrS 2) [.t 5, .t 6], .n 8 (.faddr 0) [.t 7], .n 9 (.load 1 false) [.t 8], .n 3 .mov [.t 9]])
   .ret))
theorem chk.bin_cost_1 : chkF Tryd.prog 61 = some (10, ir.bin_cost_1, [.tmp 3]) := by kernel_rfl

/-- paravane/bin.rests -/
abbrev F.bin_rests : Nat := 62
def ir.bin_rests : IC :=
 (.seq (.reg [.n 2 .box [.t 0], .n 4 .mov [.c .nils]])
   (.seq (.reg [.n 10 (.faddr 0) [.t 2], .n 11 (.load 1 false) [.t 10], .n 12 (.call 78) [.t 11], .n 5 .mov [.t 12]])
   (.seq (.seq (.reg [.n 13 .mov [.t 1], .n 14 (.call 44) [.t 13], .n 15 (.len false) [.t 14], .n 16 .mov [.i 0]])
   (.block 0 (.loop (.seq (.reg [.n 17 (.bin .lss) [.t 16, .t 15]])
   (.seq (.cond (.t 17) .skip (.exit 0))
   (.seq (.block 1 (.seq (.reg [.n 18 (.iaddrS 1) [.t 14, .t 16], .n 19 (.load 1 false) [.t 18], .n 7 .mov [.t 19]])
   (.seq (.reg [.n 20 (.faddr 1) [.t 2], .n 21 (.load 1 false) [.t 20], .n 22 .mov [.t 7], .n 23 (.iaddrS 2) [.t 21, .t 22], .n 24 (.faddr 1) [.t 23], .n 25 (.load 1 false) [.t 24], .n 26 (.len false) [.t 25], .n 27 .mov [.i 0]])
   (.block 2 (.loop (.seq (.reg [.n 28 (.bin .lss) [.t 27, .t 26]])
   (.seq (.cond (.t 28) .skip (.exit 2))
   (.seq (.block 3 (.seq (.reg [.n 29 .mov [.t 27], .n 30 (.iaddrS 1) [.t 25, .t 27], .n 31 (.load 1 false) [.t 30], .n 8 .mov [.t 29], .n 9 .mov [.t 31]])
   (.reg [.n 32 .mov [.t 5], .n 33 .mov [.t 8], .n 34 .mov [.t 5], .n 35 .mov [.t 8], .n 36 (.iaddrS 1) [.t 34, .t 35], .n 37 (.load 1 false) [.t 36], .n 38 .mov [.t 9], .n 39 (.bin .sub) [.t 37, .t 38], .n 40 (.minmax true) [.i 0, .t 39], .n 41 (.iaddrS 1) [.t 32, .t 33], .s (.store 1) [.t 41, .t 40]])))
   (.reg [.n 42 (.bin .add) [.t 27, .i 1], .n 27 .mov [.t 42]])))))))))
   (.reg [.n 43 (.bin .add) [.t 16, .i 1], .n 16 .mov [.t 43]])))))))
   (.seq (.reg [.n 44 .mov [.t 5], .n 4 .mov [.t 44]])
   .ret))))
theorem chk.bin_rests : chkF Tryd.prog 62 = some (45, ir.bin_rests, [.tmp 4]) := by kernel_rfl

/-- paravane/region.Check -/
abbrev F.region_Check : Nat := 63
def ir.region_Check : IC :=
 (.seq (.reg [.n 1 .box [.t 0], .n 2 .mov [.i 0]])
   (.seq (.reg [.n 6 (.mkfunc (.func 79) 1) [.i 32768], .n 7 (.mkfunc (.func 79) 1) [.i 32768], .n 8 (.mkfunc (.func 79) 1) [.i 65536], .n 9 (.mkfunc (.func 79) 1) [.i 65536], .n 10 (.build [.nilf, .nilf, .nilf, .nilf] [(0, 1), (1, 1), (2, 1), (3, 1)]) [.t 6, .t 7, .t 8, .t 9], .n 3 (.alloc [.nilf, .nilf, .nilf, .nilf]) [], .s (.store 4) [.t 3, .t 10]])
   (.seq (.seq (.reg [.n 11 (.load 8 true) [.t 1], .n 12 (.call 64) [.t 11], .n 13 .mov [.i 0]])
   (.block 0 (.loop (.seq (.reg [.n 14 (.bin .lss) [.t 13, .i 4]])
   (.seq (.cond (.t 14) .skip (.exit 0))
   (.seq (.block 1 (.seq (.reg [.n 15 .mov [.t 13], .n 16 (.idxA 4 2 true) [.t 12, .t 13], .n 5 (.alloc [(.int .i64 0), (.int .i64 0)]) [], .n 4 .mov [.t 15], .s (.store 2) [.t 5, .t 16]])
   (.seq (.draw [0, 1, 3, 0, 15, 31] [.n 17 .mov [.t 4], .n 18 (.iaddrA 4 1) [.t 3, .t 17], .n 19 (.load 1 false) [.t 18], .n 20 (.load 2 true) [.t 5], .n 21 .callv [.t 19, .t 20], .n 22 (.un .not) [.t 21]])
   (.cond (.t 22) (.seq (.reg [.n 2 .mov [.i 11]])
   .ret) .skip))))
   (.reg [.n 23 (.bin .add) [.t 13, .i 1], .n 13 .mov [.t 23]])))))))
   (.seq (.reg [.n 2 .mov [.i 0]])
   .ret))))
theorem chk.region_Check : chkF Tryd.prog 63 = some (24, ir.region_Check, [.tmp 2]) := by kernel_rfl

/-- paravane/region.bounds -/
abbrev F.region_bounds : Nat := 64
def ir.region_bounds : IC :=
 (.seq (.reg [.n 1 .box [.t 0], .n 2 (.alloc [(.int .i64 0), (.int .i64 0), (.int .i64 0), (.int .i64 0), (.int .i64 0), (.int .i64 0), (.int .i64 0), (.int .i64 0)]) []])
   (.seq (.reg [.n 3 (.faddr 0) [.t 1], .n 4 (.load 2 true) [.t 3], .n 5 (.faddr 2) [.t 1], .n 6 (.load 2 true) [.t 5], .n 7 (.faddr 4) [.t 1], .n 8 (.load 2 true) [.t 7], .n 9 (.faddr 6) [.t 1], .n 10 (.load 2 true) [.t 9], .n 11 (.build [(.int .i64 0), (.int .i64 0), (.int .i64 0), (.int .i64 0), (.int .i64 0), (.int .i64 0), (.int .i64 0), (.int .i64 0)] [(0, 2), (2, 2), (4, 2), (6, 2)]) [.t 4, .t 6, .t 8, .t 10], .s (.store 8) [.t 2, .t 11]])
   .ret))
theorem chk.region_bounds : chkF Tryd.prog 64 = some (12, ir.region_bounds, [.cell 2 130]) := by kernel_rfl

/-- (paravane/region.four).rows -/
abbrev F.region_four_rows : Nat := 65
def ir.region_four_rows : IC :=
 (.seq (.reg [.n 1 .box [.t 0], .n 2 .mov [.c .nilf]])
   (.seq (.reg [.n 3 (.mkfunc (.func 80) 0) [.t 1], .n 2 .mov [.t 3]])
   .ret))
theorem chk.region_four_rows : chkF Tryd.prog 65 = some (4, ir.region_four_rows, [.tmp 2]) := by kernel_rfl

/-- paravane/bin.covers$1 -/
abbrev F.bin_covers_1 : Nat := 76
def ir.bin_covers_1 : IC :=
 (.seq (.reg [.n 2 .mov [.i 0]])
   (.seq (.reg [.n 3 .mov [.t 0], .n 2 .mov [.t 3]])
   .ret))
theorem chk.bin_covers_1 : chkF Tryd.prog 76 = some (4, ir.bin_covers_1, [.tmp 2]) := by kernel_rfl

/-- cmp.Compare[int] -/
abbrev F.cmp_Compare_int : Nat := 77
def ir.cmp_Compare_int : IC :=
 (.seq (.reg [.n 4 .mov [.i 0]])
   (.seq (.reg [.n 7 .mov [.t 0], .n 8 (.call 86) [.t 7], .n 5 .mov [.t 8]])
   (.seq (.reg [.n 9 .mov [.t 1], .n 10 (.call 86) [.t 9], .n 6 .mov [.t 10]])
   (.seq (.seq (.reg [.n 11 .mov [.t 5]])
   (.cond (.t 11) (.seq (.seq (.reg [.n 12 .mov [.t 6]])
   (.cond (.t 12) (.seq (.reg [.n 4 .mov [.i 0]])
   .ret) .skip))
   (.seq (.reg [.n 4 .mov [.i (-1)]])
   .ret)) .skip))
   (.seq (.seq (.reg [.n 13 .mov [.t 6]])
   (.cond (.t 13) (.seq (.reg [.n 4 .mov [.i 1]])
   .ret) .skip))
   (.seq (.seq (.reg [.n 14 .mov [.t 0], .n 15 .mov [.t 1], .n 16 (.bin .lss) [.t 14, .t 15]])
   (.cond (.t 16) (.seq (.reg [.n 4 .mov [.i (-1)]])
   .ret) .skip))
   (.seq (.seq (.reg [.n 17 .mov [.t 0], .n 18 .mov [.t 1], .n 19 (.bin .gtr) [.t 17, .t 18]])
   (.cond (.t 19) (.seq (.reg [.n 4 .mov [.i 1]])
   .ret) .skip))
   (.seq (.reg [.n 4 .mov [.i 0]])
   .ret))))))))
theorem chk.cmp_Compare_int : chkF Tryd.prog 77 = some (20, ir.cmp_Compare_int, [.tmp 4]) := by kernel_rfl

/-- slices.Clone[[]int,int] -/
abbrev F.slices_Clone_int_int : Nat := 78
def ir.slices_Clone_int_int : IC :=
 (.seq (.reg [.n 2 .mov [.c .nils]])
   (.seq (.seq (.reg [.n 3 .mov [.t 0], .n 4 (.raw 8 0 37) [.t 3, .c .nils]])
   (.cond (.t 4) (.seq (.reg [.n 2 .mov [.c .nils]])
   .ret) .skip))
   (.seq (.reg [.n 5 (.mkslice 1 3) [], .n 6 .mov [.t 0], .n 7 (.append 1 8 3) [.t 5, .t 6], .n 2 .mov [.t 7]])
   .ret)))
theorem chk.slices_Clone_int_int : chkF Tryd.prog 78 = some (8, ir.slices_Clone_int_int, [.tmp 2]) := by kernel_rfl

/-- (paravane/region.limit).fits -/
abbrev F.region_limit_fits : Nat := 79
def ir.region_limit_fits : IC :=
 (.seq (.reg [.n 3 .box [.t 1], .n 4 .mov [.c (.bool false)]])
   (.seq (.reg [.n 5 (.faddr 0) [.t 3], .n 6 (.load 1 false) [.t 5], .n 7 .mov [.t 0], .n 8 (.un .neg) [.t 7], .n 9 (.bin .geq) [.t 6, .t 8], .n 10 .mov [.t 9], .w 11 (.faddr 0) [.t 3] 10 true, .w 12 (.load 1 false) [.t 11] 10 true, .w 13 (.faddr 1) [.t 3] 10 true, .w 14 (.load 1 false) [.t 13] 10 true, .w 15 (.bin .leq) [.t 12, .t 14] 10 true, .n 16 .pick [.t 10, .t 15, .c (.bool false)], .n 17 .mov [.t 16], .w 18 (.faddr 1) [.t 3] 17 true, .w 19 (.load 1 false) [.t 18] 17 true, .w 20 .mov [.t 0] 17 true, .w 21 (.bin .leq) [.t 19, .t 20] 17 true, .n 22 .pick [.t 17, .t 21, .c (.bool false)], .n 4 .mov [.t 22]])
   .ret))
theorem chk.region_limit_fits : chkF Tryd.prog 79 = some (23, ir.region_limit_fits, [.tmp 4]) := by kernel_rfl

/-- (paravane/region.four).rows$1 -/
abbrev F.region_four_rows_1 : Nat := 80
def ir.region_four_rows_1 : IC :=
 (.seq (.reg [.n 5 (.iaddrA 4 2) [.t 1, .i 0], .n 6 (.faddr 0) [.t 5], .n 7 (.load 1 false) [.t 6], .n 3 .mov [.t 7]])
   (.block 0 (.loop (.seq (.seq (.reg [.n 8 .mov [.t 3], .n 9 (.iaddrA 4 2) [.t 1, .i 0], .n 10 (.faddr 1) [.t 9], .n 11 (.load 1 false) [.t 10], .n 12 (.bin .leq) [.t 8, .t 11]])
   (.cond (.t 12) .skip (.exit 0)))
   (.seq (.block 1 (.seq (.reg [.n 15 .mov [.t 3], .n 16 (.iaddrA 4 2) [.t 1, .i 1], .n 17 (.faddr 0) [.t 16], .n 18 (.load 1 false) [.t 17], .n 19 (.iaddrA 4 2) [.t 1, .i 2], .n 20 (.faddr 0) [.t 19], .n 21 (.load 1 false) [.t 20], .n 22 .mov [.t 3], .n 23 (.bin .sub) [.t 21, .t 22], .n 24 .mov [.t 3], .n 25 (.iaddrA 4 2) [.t 1, .i 3], .n 26 (.faddr 1) [.t 25], .n 27 (.load 1 false) [.t 26], .n 28 (.bin .sub) [.t 24, .t 27], .n 29 (.minmax true) [.t 18, .t 23, .t 28], .n 30 (.iaddrA 4 2) [.t 1, .i 1], .n 31 (.faddr 1) [.t 30], .n 32 (.load 1 false) [.t 31], .n 33 (.iaddrA 4 2) [.t 1, .i 2], .n 34 (.faddr 1) [.t 33], .n 35 (.load 1 false) [.t 34], .n 36 .mov [.t 3], .n 37 (.bin .sub) [.t 35, .t 36], .n 38 .mov [.t 3], .n 39 (.iaddrA 4 2) [.t 1, .i 3], .n 40 (.faddr 0) [.t 39], .n 41 (.load 1 false) [.t 40], .n 42 (.bin .sub) [.t 38, .t 41], .n 43 (.minmax false) [.t 32, .t 37, .t 42], .n 44 (.build [(.int .i64 0), (.int .i64 0), (.int .i64 0)] [(0, 1), (1, 1), (2, 1)]) [.t 15, .t 29, .t 43], .n 4 (.alloc [(.int .i64 0), (.int .i64 0), (.int .i64 0)]) [], .s (.store 3) [.t 4, .t 44]])
   (.seq (.reg [.n 45 (.faddr 1) [.t 4], .n 46 (.load 1 false) [.t 45], .n 47 (.faddr 2) [.t 4], .n 48 (.load 1 false) [.t 47], .n 49 (.bin .leq) [.t 46, .t 48], .n 50 .mov [.t 49], .w 51 .mov [.t 0] 50 true, .w 52 (.load 3 true) [.t 4] 50 true, .w 53 .callv [.t 51, .t 52] 50 true, .w 54 (.un .not) [.t 53] 50 true, .n 55 .pick [.t 50, .t 54, .c (.bool false)]])
   (.cond (.t 55) .ret .skip))))
   (.reg [.n 13 .mov [.t 3], .n 14 (.bin .add) [.t 13, .i 1], .n 3 .mov [.t 14]]))))))
theorem chk.region_four_rows_1 : chkF Tryd.prog 80 = some (56, ir.region_four_rows_1, []) := by kernel_rfl

/-- cmp.isNaN[int] -/
abbrev F.cmp_isNaN_int : Nat := 86
def ir.cmp_isNaN_int : IC :=
 (.seq (.reg [.n 2 .mov [.c (.bool false)]])
   (.seq (.reg [.n 3 .mov [.t 0], .n 4 .mov [.t 0], .n 5 (.bin .neq) [.t 3, .t 4], .n 2 .mov [.t 5]])
   .ret))
theorem chk.cmp_isNaN_int : chkF Tryd.prog 86 = some (6, ir.cmp_isNaN_int, [.tmp 2]) := by kernel_rfl

end Go.Proofs.YtdejdblopmfjfaaDoor

/-! Contracts for the laws on bins: plain things. -/
set_option linter.unusedVariables false
set_option linter.unusedSimpArgs false
set_option maxRecDepth 20000
set_option maxHeartbeats 1000000
namespace Go.Proofs.YtdejdblopmfjfaaDoor
open Go.Am

abbrev I (n : Int) : V := .int .i64 n

def btw (n lo hi : Int) : Bool := decide (n ≥ lo) && decide (n ≤ hi)

theorem w64 {n : Int} (h1 : -9223372036854775808 ≤ n) (h2 : n < 9223372036854775808) : IntKind.wrap .i64 n = n := by
  have e : ∀ m : Int, m = n % 18446744073709551616 → (if (true && decide (m ≥ 9223372036854775808)) = true then m - 18446744073709551616 else m) = n := by
    intro m hm
    by_cases h : m ≥ 9223372036854775808
    · simp only [h, decide_true, Bool.and_self, if_true]; omega
    · simp only [h, decide_false, Bool.and_false, Bool.false_eq_true, if_false]; omega
  exact e _ rfl

theorem VLe.i {k : IntKind} {a b : Int} (h : a = b) : VLe (.int k a) (.int k b) := h ▸ .refl _

abbrev w (n : Int) : Int := IntKind.wrap .i64 n

@[simp] theorem wr1 : IntKind.i64.wrap 1 = 1 := by decide
@[simp] theorem wr2 : IntKind.i64.wrap 2 = 2 := by decide
@[simp] theorem wr3 : IntKind.i64.wrap 3 = 3 := by decide

theorem btw_iff (n lo hi : Int) : btw n lo hi = true ↔ lo ≤ n ∧ n ≤ hi := by
  simp only [btw, Bool.and_eq_true, decide_eq_true_eq, ge_iff_le]

def eB (b : Int × Int) : V := .agg [I b.1, I b.2]
def sB (l : List (Int × Int)) : V := .slice 0 2 (l.map eB)
theorem getD_map {α : Type} {e : α → V} {l : List α} {k : Nat} (h : k < l.length) : (l.map e).getD (Int.toNat (k : Int)) nothing = e l[k] := by
  simp [h]

/-- The first index at which p holds. -/
def firstI {α : Type} (p : α → Bool) : List α → Nat → Int
  | [], _ => -1
  | x :: l, k => if p x then k else firstI p l (k + 1)

theorem firstI_nn {α : Type} (p : α → Bool) : ∀ (l : List α) (k : Nat), decide (firstI p l k ≥ 0) = l.any p
  | [], k => by simp [firstI]
  | x :: l, k => by
    simp only [firstI, List.any_cons]
    by_cases h : p x = true
    · simp [h]
    · simp only [h, if_false, Bool.false_eq_true]
      rw [firstI_nn p l (k + 1)]
      simp [h]

theorem firstI_drop {α : Type} (p : α → Bool) (l : List α) {k : Nat} (h : k < l.length) : firstI p (l.drop k) k = if p l[k] then (k : Int) else firstI p (l.drop (k + 1)) (k + 1) := by
  rw [List.drop_eq_getElem_cons h]; rfl

theorem ite_max (a b : Int) : (if b > a then b else a) = max a b := by split <;> omega
theorem ite_min (a b : Int) : (if b < a then b else a) = min a b := by split <;> omega

/-- Captured data that stand for themselves. -/
structure Plain (us : List V) : Prop where
  d : ∀ b, toDs b us = some (us, [])
  r : ∀ B R, us.all (refsOk B R 5) = true

theorem refs_plain {us : List V} (h : Plain us) {fn : Fn} {B : Nat → Bool} {R : Nat → Option (Nat × Nat × Nat)} : refsOk B R 6 (.func fn [] us) = true := by
  show (([] : List V).all (refsOk B R 5) && us.all (refsOk B R 5)) = true
  rw [h.r]; rfl

theorem take_ext {α : Type} {l l' : List α} {k : Nat} (hk : k < l.length) (hk' : k < l'.length) (h : l.take k = l'.take k) (e : l[k] = l'[k]) : l.take (k + 1) = l'.take (k + 1) := by
  rw [List.take_add_one, List.take_add_one, h, List.getElem?_eq_getElem hk, List.getElem?_eq_getElem hk', e]
def intsV (l : List Int) : V := .slice 0 1 (l.map I)

theorem flat_ints (l : List Int) : (l.map I).flatMap cells = l.map I := by
  induction l with
  | nil => rfl
  | cons a l ih => rw [List.map_cons, List.flatMap_cons, ih]; rfl

theorem ints_isD (l : List Int) : (l.map I).all isD = true := by
  rw [List.all_eq_true]
  intro x hx
  obtain ⟨n, _, rfl⟩ := List.mem_map.1 hx
  rfl

theorem ints_refs (l : List Int) (B : Nat → Bool) (R : Nat → Option (Nat × Nat × Nat)) : (l.map I).all (refsOk B R 6) = true := by
  rw [List.all_eq_true]
  intro x hx
  obtain ⟨n, _, rfl⟩ := List.mem_map.1 hx
  rfl

theorem okI {k : Nat} {l : List Int} {env : List (Nat × V)} {bx : List (Nat × Box)} {rw : List (Nat × Nat × Nat × Nat)} (h : okRefs env ((k, ⟨[], false⟩) :: bx) rw = true) : okRefs env ((k, ⟨l.map I, false⟩) :: bx) rw = true := by
  have e : hasKey ((k, (⟨l.map I, false⟩ : Box)) :: bx) = hasKey ((k, (⟨[], false⟩ : Box)) :: bx) := rfl
  unfold okRefs at h ⊢
  rw [e]
  rw [Bool.and_eq_true] at h ⊢
  refine ⟨h.1, ?_⟩
  have h2 := h.2
  rw [List.all_cons, Bool.and_eq_true] at h2 ⊢
  exact ⟨ints_refs _ _ _, h2.2⟩

theorem holds_ints (l : List Int) : Holds (l.map I) 0 1 l.length (l.map I) := by
  refine ⟨by omega, by simp, fun x hx => ?_, ?_, fun x hx => ?_⟩
  · obtain ⟨c, _, rfl⟩ := List.mem_map.1 hx; rfl
  · rw [List.drop_zero, List.take_of_length_le (by simp), flat_ints]
  · obtain ⟨c, _, rfl⟩ := List.mem_map.1 hx; rfl

theorem c_within (n lo hi : Int) : C Tryd.prog F.bin_within [I n, I lo, I hi] (.bool (btw n lo hi)) := by
  refine C_of mixed chk.bin_within (by simp) fun S ok => ?_
  refine Tr.seqR rfl (by simp) (Tr.seqR rfl (by simp) (Tr.retQ rfl rfl ?_ trivial))
  simp [packR, btw]

theorem c_between (n lo hi : Int) : C Tryd.prog F.ref00_Between [I n, I lo, I hi] (.bool (btw n lo hi)) := by
  refine C_of mixed chk.ref00_Between (by simp) fun S ok => ?_
  refine Tr.seqR rfl (by simp) (Tr.seqR rfl (by simp) (Tr.retQ rfl rfl ?_ trivial))
  simp [packR, btw]

theorem c_indexI {l : List Int} {p : Int → Bool} {f : FuncId} (hl : l.length ≤ 9223372036854775807) (hp : ∀ b ∈ l, C Tryd.prog f [I b] (.bool (p b))) :
    C Tryd.prog F.slices_IndexFunc_int_int [intsV l, .func (.func f) [] []] (I (firstI p l 0)) := by
  refine C_of mixed chk.slices_IndexFunc_int_int (by simp) fun S ok => ?_
  refine Tr.seqR rfl (by simp) ?_
  refine Tr.seq (Tr.seqR rfl (by simp) (Tr.block ?_))
  refine Tr.loop (fun k s => (k ≤ l.length ∧ firstI p l 0 = firstI p (l.drop k) k) ∧ s = { env := [(0, intsV l), (1, .func (.func f) [] []), (7, I l.length), (8, I k)], bx := [], rw := [], log := [], stp := false }) (fun k => l.length - k) 0
    (Wk.le (.cons rfl (.refl _) (.cons rfl (.refl _) (.cons rfl (VLe.i (by simp)) (.cons rfl (.refl _) .nil)))) .nil .nil rfl rfl) ⟨⟨by omega, by simp⟩, rfl⟩ ?_
  rintro k s ⟨⟨hk, hf⟩, rfl⟩
  refine Tr.seqR rfl (by simp) (Tr.seqI rfl (fun h1 => ?_) (fun h1 => ?_))
  · have h1 : k < l.length := by simpa using h1
    refine Tr.skipT (Tr.seq (Tr.block (Tr.seqR rfl (by simp) (Tr.seqC rfl ?_ ?_))))
    · rw [getD_map h1]; simp [cells]; omega
    · rw [getD_map h1]
      refine Steps.callv rfl rfl (hp l[k] (List.getElem_mem h1)) (Steps.fin rfl (by simp) ?_)
      refine Tr.cond rfl rfl (fun h2 => ?_) (fun h2 => ?_)
      · refine Tr.seqR rfl (by simp) (Tr.ret ?_)
        refine ⟨trivial, _, _, _, resVs_ok rfl, rfl, ?_⟩
        rw [hf, firstI_drop p l h1, if_pos h2]; rfl
      · refine Tr.skip (Tr.regR rfl (by simp) ?_)
        refine ⟨k + 1, _, ?_, ⟨⟨by omega, ?_⟩, rfl⟩, by omega⟩
        · exact Wk.le (.cons rfl (.refl _) (.cons rfl (.refl _) (.cons rfl (.refl _) (.cons rfl (VLe.i (w64 (by omega) (by omega))) .nil)))) .nil .nil rfl rfl
        · rw [hf, firstI_drop p l h1, if_neg (by simp [h2])]
  · have h1 : k = l.length := by simp at h1; omega
    subst h1
    refine Tr.exit (Tr.seqR rfl (by simp) (Tr.retQ rfl rfl ?_ trivial))
    rw [hf, List.drop_length]; rfl

theorem c_containsI {l : List Int} {p : Int → Bool} {f : FuncId} (hl : l.length ≤ 9223372036854775807) (hp : ∀ b ∈ l, C Tryd.prog f [I b] (.bool (p b))) :
    C Tryd.prog F.slices_ContainsFunc_int_int [intsV l, .func (.func f) [] []] (.bool (l.any p)) := by
  refine C_of mixed chk.slices_ContainsFunc_int_int (by simp) fun S ok => ?_
  refine Tr.seqR rfl (by simp) ?_
  refine Tr.seqC rfl (by simp) (Steps.call rfl rfl (c_indexI hl hp) (Steps.fin rfl (by simp) (Tr.retQ rfl rfl ?_ trivial)))
  rw [← firstI_nn p l 0]; rfl

attribute [local simp] cells scalar mkv splice under2 under dem dem1
theorem c_Alike (l l' : List Int) (hl : l.length ≤ 9223372036854775807) : C Tryd.prog F.ref00_Alike [intsV l, intsV l'] (.bool (decide (l = l'))) := by
  refine C_of mixed chk.ref00_Alike (by simp) fun S ok => ?_
  refine Tr.seqR rfl (by simp) (Tr.seq (Tr.seqR rfl (by simp) ?_))
  refine Tr.cond rfl rfl (fun h1 => Tr.seqR rfl (by simp) (Tr.retX rfl rfl rfl ?_ trivial)) (fun h1 => Tr.skip ?_)
  · have h1 : (((l.map I).length : Int) != ((l'.map I).length : Int)) = true := h1
    simp only [packR, V.bool.injEq]
    rw [decide_eq_false]
    rintro rfl
    simp at h1
  · have h1 : (((l.map I).length : Int) != ((l'.map I).length : Int)) = false := h1
    have hll : l.length = l'.length := by simp at h1; omega
    refine Tr.seq (Tr.seqR rfl (by simp) (Tr.block ?_))
    refine Tr.loop (fun k st => (k ≤ l.length ∧ l.take k = l'.take k) ∧ st = { env := [(0, intsV l), (1, intsV l'), (5, I k)], bx := [], rw := [], log := [], stp := false }) (fun k => l.length - k) 0
      (Wk.le (.cons rfl (.refl _) (.cons rfl (.refl _) (.cons rfl (.refl _) .nil))) .nil .nil rfl rfl) ⟨⟨by omega, by simp⟩, rfl⟩ ?_
    rintro k st ⟨⟨hk, he⟩, rfl⟩
    refine Tr.seq (Tr.seqR rfl (by simp) (Tr.cond rfl rfl (fun h3 => ?_) (fun h3 => ?_)))
    · have h3 : k < l.length := by simpa using h3
      have h4 : k < l'.length := by omega
      refine Tr.skip (Tr.seq (Tr.block (Tr.seq (Tr.drawK (TraceK.runN 3 rfl (by simp; omega) ?_)))))
      rw [getD_map h3]
      refine TraceK.runN 4 rfl (by simp; omega) ?_
      rw [getD_map h4]
      refine TraceK.run rfl (by simp) (.done ⟨by kernel_rfl, by kernel_rfl, ?_⟩)
      refine Tr.cond rfl rfl (fun h5 => Tr.seqR rfl (by simp) (Tr.retX rfl rfl rfl ?_ trivial)) (fun h5 => Tr.skip (Tr.regR rfl (by simp) ?_))
      · have h5 : (l[k] != l'[k]) = true := h5
        simp only [packR, V.bool.injEq]
        rw [decide_eq_false]
        rintro rfl
        simp at h5
      · have h5 : (l[k] != l'[k]) = false := h5
        have h5 : l[k] = l'[k] := by simpa using h5
        exact ⟨k + 1, _, Wk.le (.cons rfl (.refl _) (.cons rfl (.refl _) (.cons rfl (VLe.i (w64 (by omega) (by omega))) .nil))) .nil .nil rfl rfl, ⟨⟨h3, take_ext h3 h4 he h5⟩, rfl⟩, by omega⟩
    · have h3 : k = l.length := by simp at h3; omega
      subst h3
      refine Tr.exit (Tr.seqR rfl (by simp) (Tr.retX rfl rfl rfl ?_ trivial))
      rw [List.take_length, hll, List.take_length] at he
      simp [packR, he]

end Go.Proofs.YtdejdblopmfjfaaDoor


/-! Contracts: regions of the plane, by their four bounds. -/
set_option linter.unusedVariables false
set_option linter.unusedSimpArgs false
set_option maxRecDepth 20000
set_option maxHeartbeats 2000000
namespace Go.Proofs.YtdejdblopmfjfaaDoor
open Go.Am
attribute [local simp] cells scalar mkv splice under2 under dem dem1 eB
/-- Bounds of x, y, their sum and difference. -/
structure Fr where
  x : Int × Int
  y : Int × Int
  s : Int × Int
  d : Int × Int

def fourC (f : Fr) : List V := [I f.x.1, I f.x.2, I f.y.1, I f.y.2, I f.s.1, I f.s.2, I f.d.1, I f.d.2]
attribute [local simp] fourC
theorem ifMin (a b : Int) : (if b < a then b else a) = min a b := by split <;> omega
theorem ifMax (a b : Int) : (if b > a then b else a) = max a b := by split <;> omega

theorem c_bounds (f : Fr) : C Tryd.prog F.region_bounds [.agg (fourC f)] (.agg (fourC f)) := by
  refine C_of mixed chk.region_bounds (by simp) fun S ok => ?_
  exact Tr.seqR rfl (by simp) (Tr.seqR rfl (by simp) (Tr.retQ rfl rfl rfl trivial))

/-- A number, brought into the range. -/
def intoL (l n : Int) : Int := max (-l) (min n l)

theorem c_into {l : Int} (n : Int) (hl : 0 ≤ l ∧ l ≤ 65536) : C Tryd.prog F.region_limit_into [I l, I n] (I (intoL l n)) := by
  refine C_of mixed chk.region_limit_into (by simp) fun S ok => ?_
  refine Tr.seqR rfl (by simp) (Tr.seqR rfl (by simp) (Tr.retQ rfl rfl ?_ trivial))
  have e : IntKind.wrap .i64 (0 - l) = -l := by rw [w64 (by omega) (by omega)]; omega
  simp only [packR, intoL, ← ifMin, ← ifMax, ← e]
  rfl

def inPlane (p : Int × Int) : Prop := (-32768 ≤ p.1 ∧ p.1 ≤ 32768) ∧ -32768 ≤ p.2 ∧ p.2 ≤ 32768

theorem into_self {l n : Int} (h : -l ≤ n ∧ n ≤ l) : intoL l n = n := by unfold intoL; omega

theorem c_CheckPoint {p : Int × Int} (h : inPlane p) : C Tryd.prog F.region_CheckPoint [eB p] (I 0) := by
  refine C_of mixed chk.region_CheckPoint (by simp) fun S ok => ?_
  have k1 := c_into (l := 32768) p.1 (by omega)
  have k2 := c_into (l := 32768) p.2 (by omega)
  rw [into_self (by have := h.1; omega)] at k1
  rw [into_self (by have := h.2; omega)] at k2
  refine Tr.seqR rfl (by simp) (Tr.seq (Tr.seqR rfl (by simp) (Tr.block ?_)))
  refine Tr.rounds 3 (TrN.succ ?_)
  refine Tr.seqR rfl (by simp) (Tr.seq (Tr.condT rfl (Tr.skip (Tr.seq (Tr.block (Tr.seqR rfl (by simp) ?_))))))
  refine Tr.seqC rfl (by simp) (Steps.call rfl rfl k1 (Steps.fin rfl (by simp) (Tr.cond rfl rfl (fun h => ?_) (fun _ => Tr.skip (Tr.regR rfl (by simp) (TrN.succ ?_))))))
  · simp at h
  refine Tr.seqR rfl (by simp) (Tr.seq (Tr.condT rfl (Tr.skip (Tr.seq (Tr.block (Tr.seqR rfl (by simp) ?_))))))
  refine Tr.seqC rfl (by simp) (Steps.call rfl rfl k2 (Steps.fin rfl (by simp) (Tr.cond rfl rfl (fun h => ?_) (fun _ => Tr.skip (Tr.regR rfl (by simp) (TrN.succ ?_))))))
  · simp at h
  refine Tr.seqR rfl (by simp) (Tr.seq (Tr.condF rfl (Tr.exit ?_)))
  exact Tr.seqR rfl (by simp) (Tr.retX rfl rfl rfl rfl trivial)

def fitB (l : Int) (b : Int × Int) : Prop := -l ≤ b.1 ∧ b.1 ≤ b.2 ∧ b.2 ≤ l
def fitF (f : Fr) : Prop := (fitB 32768 f.x ∧ fitB 32768 f.y) ∧ fitB 65536 f.s ∧ fitB 65536 f.d

end Go.Proofs.YtdejdblopmfjfaaDoor


/-! Contracts: rows of a region. -/
set_option linter.unusedVariables false
set_option linter.unusedSimpArgs false
set_option maxRecDepth 20000
set_option maxHeartbeats 2000000
namespace Go.Proofs.YtdejdblopmfjfaaDoor
open Go.Am
attribute [local simp] cells scalar mkv splice under2 under dem dem1 eB fourC
def lowY (f : Fr) (x : Int) : Int := max (max f.y.1 (f.s.1 - x)) (x - f.d.2)
def highY (f : Fr) (x : Int) : Int := min (min f.y.2 (f.s.2 - x)) (x - f.d.1)

def rowsN (f : Fr) : Nat → Int → List (Int × Int × Int)
  | 0, _ => []
  | n + 1, x => if lowY f x ≤ highY f x then (x, lowY f x, highY f x) :: rowsN f n (x + 1) else rowsN f n (x + 1)
def rowsL (f : Fr) : List (Int × Int × Int) := rowsN f (f.x.2 + 1 - f.x.1).toNat f.x.1
def eRow (r : Int × Int × Int) : List V := [.agg [I r.1, I r.2.1, I r.2.2]]

/-- Bounds that are not great. -/
def midF (f : Fr) : Prop := ((-1000000 ≤ f.x.1 ∧ f.x.1 ≤ 1000000) ∧ -1000000 ≤ f.x.2 ∧ f.x.2 ≤ 1000000) ∧ ((-1000000 ≤ f.y.1 ∧ f.y.1 ≤ 1000000) ∧ -1000000 ≤ f.y.2 ∧ f.y.2 ≤ 1000000) ∧ ((-1000000 ≤ f.s.1 ∧ f.s.1 ≤ 1000000) ∧ -1000000 ≤ f.s.2 ∧ f.s.2 ≤ 1000000) ∧ (-1000000 ≤ f.d.1 ∧ f.d.1 ≤ 1000000) ∧ -1000000 ≤ f.d.2 ∧ f.d.2 ≤ 1000000

theorem c_rows (f : Fr) : C Tryd.prog F.region_four_rows [.agg (fourC f)] (.func (.func F.region_four_rows_1) [] [.vptr (fourC f) 0]) := by
  refine C_of mixed chk.region_four_rows (by simp) fun S ok => ?_
  exact Tr.seqR rfl (by simp) (Tr.seqR rfl (by simp) (Tr.retQ rfl rfl rfl trivial))

theorem i_rows {f : Fr} (hf : midF f) : Iter Tryd.prog F.region_four_rows_1 [.vptr (fourC f) 0] ((rowsL f).map eRow) := by
  refine Iter_of mixed chk.region_four_rows_1 (by simp) fun S ok => ?_
  obtain ⟨⟨⟨hx1, hx2⟩, hx3, hx4⟩, ⟨⟨hy1, hy2⟩, hy3, hy4⟩, ⟨⟨hs1, hs2⟩, hs3, hs4⟩, ⟨hd1, hd2⟩, hd3, hd4⟩ := hf
  refine Tr.seqR rfl (by simp) (Tr.block ?_)
  refine Tr.loop (α := Nat × List (List V)) (fun p s => (p.1 ≤ (f.x.2 + 1 - f.x.1).toNat ∧ p.2 ++ (rowsN f ((f.x.2 + 1 - f.x.1).toNat - p.1) (f.x.1 + p.1)).map eRow = (rowsL f).map eRow) ∧
      s = { env := [(0, .yld), (1, .vptr (fourC f) 0), (3, I (f.x.1 + p.1))], bx := [], rw := [], log := p.2, stp := false }) (fun p => (f.x.2 + 1 - f.x.1).toNat - p.1) (0, [])
    (Wk.le (.cons rfl (.refl _) (.cons rfl (.refl _) (.cons rfl (VLe.i (by simp)) .nil))) .nil .nil rfl rfl) ⟨⟨by simp, by simp [rowsL]⟩, rfl⟩ ?_
  rintro ⟨k, lg⟩ s ⟨⟨hk, hl⟩, rfl⟩
  simp only at hk hl
  refine Tr.seq (Tr.seqR rfl (by simp) (Tr.cond rfl rfl (fun h1 => Tr.skip ?_) (fun h1 => Tr.exit ?_)))
  · have h1 : f.x.1 + (k : Int) ≤ f.x.2 := by simpa using h1
    obtain ⟨x, hx⟩ : ∃ x, f.x.1 + (k : Int) = x := ⟨_, rfl⟩
    obtain ⟨n, hn⟩ : ∃ n, (f.x.2 + 1 - f.x.1).toNat - k = n + 1 := ⟨(f.x.2 + 1 - f.x.1).toNat - k - 1, by omega⟩
    have hn2 : (f.x.2 + 1 - f.x.1).toNat - (k + 1) = n := by omega
    have hx' : f.x.1 + ((k + 1 : Nat) : Int) = x + 1 := by omega
    rw [hn, hx] at hl
    rw [hx] at h1
    rw [hx]
    refine Tr.seq (Tr.block (Tr.seqR rfl (by simp) ?_))
    refine Tr.weak (s' := { env := [(0, .yld), (1, .vptr (fourC f) 0), (3, I x), (4, .ptr 4 0)], bx := [(4, ⟨[I x, I (lowY f x), I (highY f x)], false⟩)], rw := [], log := lg, stp := false })
      (Wk.le (.cons rfl (.refl _) (.cons rfl (.refl _) (.cons rfl (.refl _) (.cons rfl (.refl _) .nil)))) (.cons rfl (.cons (.refl _) (.cons (VLe.i ?_) (.cons (VLe.i ?_) .nil))) .nil) .nil rfl rfl) ?_
    · simp (disch := omega) only [cond_true, cond_false, ite_max, ite_min, w64, lowY]
    · simp (disch := omega) only [cond_true, cond_false, ite_max, ite_min, w64, highY]
    refine Tr.seqC rfl (by simp) ?_
    by_cases hh : lowY f x ≤ highY f x
    · have hp : lg ++ [eRow (x, lowY f x, highY f x)] ++ (rowsN f n (x + 1)).map eRow = (rowsL f).map eRow := by
        rw [← hl, rowsN, if_pos hh]; simp
      refine Steps.gyield (want := true) rfl rfl ?_ rfl ?_ rfl ⟨_, hp⟩ rfl (fun b => ?_)
      · show some (decide (lowY f x ≤ highY f x) == true) = some true
        simp [hh]
      · simp [hh]
      refine Steps.fin rfl (by simp) ?_
      refine Tr.cond rfl rfl (fun h2 => ?_) (fun h2 => ?_)
      · refine Tr.ret ⟨.inl ?_, [], [], [], rfl, rfl, rfl⟩
        have h2 : (bif decide (lowY f x ≤ highY f x) then !b else false) = true := h2
        have hb : b = false := by simpa [hh] using h2
        subst hb; rfl
      · have h2 : (bif decide (lowY f x ≤ highY f x) then !b else false) = false := h2
        have hb : b = true := by simpa [hh] using h2
        subst hb
        refine Tr.skip (Tr.regR rfl (by simp) ?_)
        refine ⟨(k + 1, lg ++ [eRow (x, lowY f x, highY f x)]), _, Wk.le (.cons rfl (.refl _) (.cons rfl (.refl _) (.cons rfl (VLe.i ?_) .nil))) .nil .nil rfl rfl, ⟨⟨by simp; omega, ?_⟩, rfl⟩, by simp; omega⟩
        · show IntKind.wrap .i64 (x + 1) = f.x.1 + ((k + 1 : Nat) : Int)
          rw [w64 (by omega) (by omega)]; exact hx'.symm
        · simp only; rw [hn2, hx']; exact hp
    · have hl2 : lg ++ (rowsN f n (x + 1)).map eRow = (rowsL f).map eRow := by
        rw [← hl, rowsN, if_neg hh]
      refine Steps.off (want := true) (.bool true) rfl rfl ?_ ?_
      · show some (decide (lowY f x ≤ highY f x) == true) = some false
        simp [hh]
      refine Steps.fin rfl (by simp; omega) ?_
      refine Tr.cond rfl rfl (fun h2 => ?_) (fun h2 => ?_)
      · have h2 : (bif decide (lowY f x ≤ highY f x) then !true else false) = true := h2
        simp [hh] at h2
      · refine Tr.skip (Tr.regR rfl (by simp) ?_)
        refine ⟨(k + 1, lg), _, Wk.le (.cons rfl (.refl _) (.cons rfl (.refl _) (.cons rfl (VLe.i ?_) .nil))) .nil .nil rfl rfl, ⟨⟨by simp; omega, ?_⟩, rfl⟩, by simp; omega⟩
        · show IntKind.wrap .i64 (x + 1) = f.x.1 + ((k + 1 : Nat) : Int)
          rw [w64 (by omega) (by omega)]; exact hx'.symm
        · simp only; rw [hn2, hx']; exact hl2
  · have h1 : ¬ f.x.1 + (k : Int) ≤ f.x.2 := by simpa using h1
    refine ⟨.inr ?_, [], [], [], rfl, rfl, rfl⟩
    rw [show (f.x.2 + 1 - f.x.1).toNat - k = 0 by omega] at hl
    have e : lg = (rowsL f).map eRow := by simpa [rowsN] using hl
    exact e

/-! ### The ends of rows -/
end Go.Proofs.YtdejdblopmfjfaaDoor


/-! Contracts: grids; the cell of two places. -/
set_option linter.unusedVariables false
set_option linter.unusedSimpArgs false
set_option maxRecDepth 20000
set_option maxHeartbeats 2000000
namespace Go.Proofs.YtdejdblopmfjfaaDoor
open Go.Am
attribute [local simp] cells scalar mkv splice under2 under dem dem1 eB
def planeB (p : Int × Int) : Bool := btw p.1 (-32768) 32768 && btw p.2 (-32768) 32768

theorem into_ne {l n : Int} (h : ¬ (-l ≤ n ∧ n ≤ l)) (hl : 0 ≤ l) : intoL l n ≠ n := by unfold intoL; omega

theorem c_CheckPointF (p : Int × Int) : C Tryd.prog F.region_CheckPoint [eB p] (I (if planeB p then 0 else 10)) := by
  by_cases h : planeB p = true
  · rw [if_pos h]
    simp only [planeB, Bool.and_eq_true, btw_iff] at h
    exact c_CheckPoint (by unfold inPlane; omega)
  rw [if_neg h]
  have h : planeB p = false := by simpa using h
  refine C_of mixed chk.region_CheckPoint (by simp) fun S ok => ?_
  have k1 := c_into (l := 32768) p.1 (by omega)
  have k2 := c_into (l := 32768) p.2 (by omega)
  refine Tr.seqR rfl (by simp) (Tr.seq (Tr.seqR rfl (by simp) (Tr.block ?_)))
  refine Tr.rounds 3 (TrN.succ ?_)
  refine Tr.seqR rfl (by simp) (Tr.seq (Tr.condT rfl (Tr.skip (Tr.seq (Tr.block (Tr.seqR rfl (by simp) ?_))))))
  refine Tr.seqC rfl (by simp) (Steps.call rfl rfl k1 (Steps.fin rfl (by simp) (Tr.cond rfl rfl (fun _ => Tr.seqR rfl (by simp) (Tr.retX rfl rfl rfl rfl trivial)) (fun h1 => Tr.skip (Tr.regR rfl (by simp) (TrN.succ ?_))))))
  refine Tr.seqR rfl (by simp) (Tr.seq (Tr.condT rfl (Tr.skip (Tr.seq (Tr.block (Tr.seqR rfl (by simp) ?_))))))
  refine Tr.seqC rfl (by simp) (Steps.call rfl rfl k2 (Steps.fin rfl (by simp) (Tr.cond rfl rfl (fun _ => Tr.seqR rfl (by simp) (Tr.retX rfl rfl rfl rfl trivial)) (fun h2 => ?_))))
  exfalso
  have h1 : (intoL 32768 p.1 != p.1) = false := h1
  have h2 : (intoL 32768 p.2 != p.2) = false := h2
  simp at h1 h2
  have g1 : -32768 ≤ p.1 ∧ p.1 ≤ 32768 := by
    by_cases g : -32768 ≤ p.1 ∧ p.1 ≤ 32768
    · exact g
    · exact absurd h1 (into_ne g (by omega))
  have g2 : -32768 ≤ p.2 ∧ p.2 ≤ 32768 := by
    by_cases g : -32768 ≤ p.2 ∧ p.2 ≤ 32768
    · exact g
    · exact absurd h2 (into_ne g (by omega))
  have : planeB p = true := by simp only [planeB, Bool.and_eq_true, btw_iff]; omega
  rw [h] at this; cases this

/-! ### Grids -/
structure Gd where
  o : Int × Int
  size : Int
  a : Int
  d : Int
  cls : List (Int × Int)

def gridC (g : Gd) : List V := [I g.o.1, I g.o.2, I g.size, I g.a, I g.d, sB g.cls]
attribute [local simp] gridC sB
def clsOk : Int → List (Int × Int) → Bool
  | _, [] => true
  | last, c :: r => decide (last < c.1) && decide (c.1 ≤ c.2) && decide (c.2 ≤ 17179869184) && clsOk c.2 r

def gridOk (g : Gd) : Bool := planeB g.o && btw g.size 1 1000 && btw g.a 1 16 && btw g.d 1 16 && btw g.cls.length 1 4 && clsOk (-1) g.cls

theorem cls_drop {l : List (Int × Int)} {k : Nat} (h : k < l.length) (last : Int) : clsOk last (l.drop k) = (decide (last < l[k].1) && decide (l[k].1 ≤ l[k].2) && decide (l[k].2 ≤ 17179869184) && clsOk l[k].2 (l.drop (k + 1))) := by
  rw [List.drop_eq_getElem_cons h]; rfl

theorem c_CheckGrid {g : Gd} (hl : g.cls.length ≤ 9223372036854775807) : C Tryd.prog F.bin_CheckGrid [.agg (gridC g)] (I (if gridOk g then 0 else 70)) := by
  refine C_of mixed chk.bin_CheckGrid (by simp) fun S ok => ?_
  refine Tr.seqR rfl (by simp) ?_
  refine Tr.seq (Tr.seqC rfl (by simp) (Steps.call rfl rfl (c_CheckPointF g.o) (Steps.run rfl (by simp) ?_)))
  refine Steps.gcall rfl rfl rfl rfl (by simp) (fun _ => c_within g.size 1 1000) (Steps.run rfl (by simp) ?_)
  refine Steps.gcall rfl rfl rfl rfl (by simp) (fun _ => c_within g.a 1 16) (Steps.run rfl (by simp) ?_)
  refine Steps.gcall rfl rfl rfl rfl (by simp) (fun _ => c_within g.d 1 16) (Steps.run rfl (by simp) ?_)
  refine Steps.gcall rfl rfl rfl rfl (by simp) (fun _ => c_within ((g.cls.map eB).length : Int) 1 4) (Steps.fin rfl (by simp) ?_)
  have hlen : (((g.cls.map eB).length : Int)) = (g.cls.length : Int) := by simp
  refine Tr.cond rfl rfl (fun h1 => ?_) (fun h1 => Tr.skip ?_)
  · refine Tr.seqR rfl (by simp) (Tr.retX rfl rfl rfl ?_ trivial)
    have : gridOk g = false := by
      revert h1
      simp only [gridOk, hlen]
      cases planeB g.o <;> cases btw g.size 1 1000 <;> cases btw g.a 1 16 <;> cases btw g.d 1 16 <;> cases btw (g.cls.length : Int) 1 4 <;> first | (intro _; rfl) | (intro h; cases h)
    rw [this]; rfl
  have hok : gridOk g = clsOk (-1) g.cls := by
    revert h1
    simp only [gridOk, hlen]
    cases planeB g.o <;> cases btw g.size 1 1000 <;> cases btw g.a 1 16 <;> cases btw g.d 1 16 <;> cases btw (g.cls.length : Int) 1 4 <;> first | (intro _; rfl) | (intro h; cases h)
  rw [hok]
  refine Tr.seqR rfl (by simp) (Tr.seq (Tr.seqR rfl (by simp) (Tr.block ?_)))
  refine Tr.loop (α := Nat × Int) (fun p s => (p.1 ≤ g.cls.length ∧ clsOk (-1) g.cls = clsOk p.2 (g.cls.drop p.1)) ∧ s = { env := [(3, I p.2), (36, sB g.cls), (37, I (g.cls.length : Nat)), (38, I (p.1 : Nat))], bx := [], rw := [], log := [], stp := false }) (fun p => g.cls.length - p.1) (0, -1)
    (Wk.le (.cons rfl (.refl _) (.cons rfl (.refl _) (.cons rfl (VLe.i hlen) (.cons rfl (.refl _) .nil)))) .nil .nil rfl rfl) ⟨⟨by simp, by simp⟩, rfl⟩ ?_
  rintro ⟨k, last⟩ s ⟨⟨hk, hf⟩, rfl⟩
  simp only at hk hf
  refine Tr.seqR rfl (by simp) (Tr.seqI rfl (fun h2 => ?_) (fun h2 => ?_))
  · have h2 : k < g.cls.length := by simpa using h2
    rw [cls_drop h2] at hf
    refine Tr.skipT (Tr.seq (Tr.block (Tr.seq (Tr.reg (Steps.runN 1 rfl (by simp; omega) ?_)))))
    rw [getD_map h2]
    refine Steps.fin rfl (by simp) (Tr.seq (Tr.seqR rfl (by simp) (Tr.cond rfl rfl (fun h3 => ?_) (fun h3 => Tr.skip ?_))))
    · refine Tr.seqR rfl (by simp) (Tr.retX rfl rfl rfl ?_ trivial)
      have : clsOk (-1) g.cls = false := by
        rw [hf]
        have h3 : (bif (bif decide (g.cls[k].1 ≤ last) then true else decide (g.cls[k].1 > g.cls[k].2)) then true else decide (g.cls[k].2 > 17179869184)) = true := h3
        by_cases a1 : g.cls[k].1 ≤ last
        · rw [decide_eq_false (by omega : ¬ last < g.cls[k].1)]; rfl
        · by_cases a2 : g.cls[k].1 > g.cls[k].2
          · rw [decide_eq_false (by omega : ¬ g.cls[k].1 ≤ g.cls[k].2)]; simp
          · rw [decide_eq_false a1, decide_eq_false a2] at h3
            simp only [cond_false, decide_eq_true_eq] at h3
            rw [decide_eq_false (by omega : ¬ g.cls[k].2 ≤ 17179869184)]; simp
      rw [this]; rfl
    · have h3 : (bif (bif decide (g.cls[k].1 ≤ last) then true else decide (g.cls[k].1 > g.cls[k].2)) then true else decide (g.cls[k].2 > 17179869184)) = false := h3
      have h3' : (last < g.cls[k].1 ∧ g.cls[k].1 ≤ g.cls[k].2) ∧ g.cls[k].2 ≤ 17179869184 := by
        by_cases a1 : g.cls[k].1 ≤ last
        · rw [decide_eq_true a1] at h3; cases h3
        · by_cases a2 : g.cls[k].1 > g.cls[k].2
          · rw [decide_eq_false a1, decide_eq_true a2] at h3; cases h3
          · rw [decide_eq_false a1, decide_eq_false a2] at h3
            simp only [cond_false, decide_eq_false_iff_not] at h3
            omega
      rw [decide_eq_true h3'.1.1, decide_eq_true h3'.1.2, decide_eq_true h3'.2] at hf
      refine Tr.regR rfl (by simp) (Tr.regR rfl (by simp) ?_)
      exact ⟨(k + 1, g.cls[k].2), _, Wk.le (.cons rfl (.refl _) (.cons rfl (.refl _) (.cons rfl (.refl _) (.cons rfl (VLe.i (w64 (by omega) (by omega))) .nil)))) .nil .nil rfl rfl, ⟨⟨by simp; omega, by simpa using hf⟩, rfl⟩, by simp; omega⟩
  · have h2 : k = g.cls.length := by simp at h2; omega
    subst h2
    rw [List.drop_length] at hf
    refine Tr.exit (Tr.seqR rfl (by simp) (Tr.retX rfl rfl rfl ?_ trivial))
    rw [hf]; rfl

end Go.Proofs.YtdejdblopmfjfaaDoor


/-! Contracts: the cell of two places. -/
set_option linter.unusedVariables false
set_option linter.unusedSimpArgs false
set_option maxRecDepth 20000
set_option maxHeartbeats 2000000
namespace Go.Proofs.YtdejdblopmfjfaaDoor
open Go.Am
attribute [local simp] cells scalar mkv splice under2 under dem dem1 eB gridC sB
theorem floor_eq {a b : Int} (hb : 0 < b) : (if a.tmod b < 0 then a.tdiv b - 1 else a.tdiv b) = a / b := by
  have h1 := Int.mul_tdiv_add_tmod a b
  have h2 := Int.tmod_lt_of_pos a hb
  have h3 := Int.lt_tmod_of_pos a hb
  split
  · rename_i h
    refine ((Int.ediv_emod_unique hb (r := a.tmod b + b) (q := a.tdiv b - 1)).2 ⟨?_, by omega, by omega⟩).1.symm
    rw [Int.mul_sub]; omega
  · refine ((Int.ediv_emod_unique hb (r := a.tmod b) (q := a.tdiv b)).2 ⟨by omega, by omega, by omega⟩).1.symm

theorem tdiv_bd {a b : Int} (hb : 0 < b) {K : Int} (h : -K ≤ a ∧ a ≤ K) : -K ≤ a.tdiv b ∧ a.tdiv b ≤ K := by
  have h1 := Int.natAbs_tdiv_le_natAbs a b
  omega

theorem c_floor {a b : Int} (hb : 0 < b) (ha : -1000000000000 ≤ a ∧ a ≤ 1000000000000) : C Tryd.prog F.bin_floor [I a, I b] (I (a / b)) := by
  have hq := tdiv_bd hb ha
  have e := floor_eq (a := a) hb
  have ew : IntKind.wrap .i64 (a.tdiv b) = a.tdiv b := w64 (by omega) (by omega)
  refine C_of mixed chk.bin_floor (by simp) fun S ok => ?_
  refine Tr.seqR rfl (by simp) (Tr.seqR rfl (by simp; omega) ?_)
  refine Tr.seq (Tr.seqR rfl (by simp; omega) (Tr.cond rfl rfl (fun h => Tr.regR rfl (by simp) ?_) (fun h => Tr.skip ?_)))
  · have h : a.tmod b < 0 := by simpa using h
    rw [if_pos h] at e
    refine Tr.seqR rfl (by simp) (Tr.retX rfl rfl rfl ?_ trivial)
    rw [← e]
    show I (a.tdiv b - 1) = I (IntKind.wrap .i64 (IntKind.wrap .i64 (a.tdiv b) - 1))
    rw [ew, w64 (by omega) (by omega)]
  · have h : ¬ a.tmod b < 0 := by simpa using h
    rw [if_neg h] at e
    refine Tr.seqR rfl (by simp) (Tr.retX rfl rfl rfl ?_ trivial)
    rw [← e]
    show I (a.tdiv b) = I (IntKind.wrap .i64 (a.tdiv b))
    rw [ew]

/-- The class of a squared distance. -/
def clsAt (n : Int) : List (Int × Int) → Nat → Option Nat
  | [], _ => none
  | c :: r, i => if btw n c.1 c.2 then some i else clsAt n r (i + 1)

theorem clsAt_drop {l : List (Int × Int)} {k : Nat} (h : k < l.length) (n : Int) : clsAt n (l.drop k) k = if btw n l[k].1 l[k].2 then some k else clsAt n (l.drop (k + 1)) (k + 1) := by
  rw [List.drop_eq_getElem_cons h]; rfl

def colN (g : Gd) (a b : Int × Int) : Int := (a.1 + b.1 - 2 * g.o.1) / (2 * g.size)
def rowN (g : Gd) (a b : Int × Int) : Int := (a.2 + b.2 - 2 * g.o.2) / (2 * g.size)
def sqN (a b : Int × Int) : Int := (a.1 - b.1) * (a.1 - b.1) + (a.2 - b.2) * (a.2 - b.2)
def cellN (g : Gd) (a b : Int × Int) : Int × Int :=
  if btw (colN g a b) 0 (g.a - 1) && btw (rowN g a b) 0 (g.d - 1) then (match clsAt (sqN a b) g.cls 0 with | some i => (rowN g a b * g.a + colN g a b, (i : Int)) | none => (-1, -1)) else (-1, -1)

theorem gridOk_spec {g : Gd} (h : gridOk g = true) : ((-32768 ≤ g.o.1 ∧ g.o.1 ≤ 32768) ∧ -32768 ≤ g.o.2 ∧ g.o.2 ≤ 32768) ∧ (1 ≤ g.size ∧ g.size ≤ 1000) ∧ (1 ≤ g.a ∧ g.a ≤ 16) ∧ (1 ≤ g.d ∧ g.d ≤ 16) ∧ (1 ≤ g.cls.length ∧ g.cls.length ≤ 4) ∧ clsOk (-1) g.cls = true := by
  simp only [gridOk, planeB, Bool.and_eq_true, btw_iff] at h
  obtain ⟨⟨⟨⟨⟨h1, h2⟩, h3⟩, h4⟩, h5⟩, h6⟩ := h
  exact ⟨h1, h2, h3, h4, by omega, h6⟩

theorem planeB_spec {p : Int × Int} (h : planeB p = true) : (-32768 ≤ p.1 ∧ p.1 ≤ 32768) ∧ -32768 ≤ p.2 ∧ p.2 ≤ 32768 := by
  simpa only [planeB, Bool.and_eq_true, btw_iff] using h

theorem sq64 {x : Int} (h : -65536 ≤ x ∧ x ≤ 65536) : 0 ≤ x * x ∧ x * x ≤ 4294967296 := by
  have h1 : 0 ≤ x * x := by
    rcases Int.le_total 0 x with h | h
    · exact Int.mul_nonneg h h
    · have := Int.mul_nonneg (Int.neg_nonneg_of_nonpos h) (Int.neg_nonneg_of_nonpos h)
      rwa [Int.neg_mul_neg] at this
  have h2 := Int.mul_nonneg (show 0 ≤ 65536 - x by omega) (show 0 ≤ 65536 + x by omega)
  rw [Int.sub_mul, Int.mul_add, Int.mul_add, Int.mul_comm x 65536] at h2
  omega

theorem c_cell {g : Gd} (hg : gridOk g = true) {a b : Int × Int} (ha : planeB a = true) (hb : planeB b = true) : C Tryd.prog F.bin_cell [.agg (gridC g), eB a, eB b] (eB (cellN g a b)) := by
  obtain ⟨ho, hsz, hga, hgd, hcl, _⟩ := gridOk_spec hg
  have ha' := planeB_spec ha
  have hb' := planeB_spec hb
  have k1 := c_floor (a := a.1 + b.1 - 2 * g.o.1) (b := 2 * g.size) (by omega) (by omega)
  have k2 := c_floor (a := a.2 + b.2 - 2 * g.o.2) (b := 2 * g.size) (by omega) (by omega)
  have e1 : IntKind.wrap .i64 (IntKind.wrap .i64 (a.1 + b.1) - IntKind.wrap .i64 (2 * g.o.1)) = a.1 + b.1 - 2 * g.o.1 := by
    rw [w64 (n := a.1 + b.1) (by omega) (by omega), w64 (n := 2 * g.o.1) (by omega) (by omega), w64 (by omega) (by omega)]
  have e2 : IntKind.wrap .i64 (IntKind.wrap .i64 (a.2 + b.2) - IntKind.wrap .i64 (2 * g.o.2)) = a.2 + b.2 - 2 * g.o.2 := by
    rw [w64 (n := a.2 + b.2) (by omega) (by omega), w64 (n := 2 * g.o.2) (by omega) (by omega), w64 (by omega) (by omega)]
  have e3 : IntKind.wrap .i64 (2 * g.size) = 2 * g.size := w64 (by omega) (by omega)
  rw [← e1, ← e3] at k1
  rw [← e2, ← e3] at k2
  refine C_of mixed chk.bin_cell (by simp) fun S ok => ?_
  refine Tr.seqR rfl (by simp) ?_
  refine Tr.seq (Tr.drawK (TraceK.run rfl (by simp) (TraceK.call rfl rfl k1 (TraceK.run rfl (by simp) (TraceK.call rfl rfl k2 ?_)))))
  refine TraceK.run rfl (by simp) (.done ⟨by kernel_rfl, by kernel_rfl, ?_⟩)
  refine Tr.weak (s' := { env := [(3, .ptr 3 0), (4, .ptr 4 0), (5, .ptr 5 0), (6, .ptr 6 0), (7, I (colN g a b)), (8, I (rowN g a b))], bx := [(3, ⟨gridC g, false⟩), (4, ⟨[I a.1, I a.2], false⟩), (5, ⟨[I b.1, I b.2], false⟩), (6, ⟨[I 0, I 0], false⟩)], rw := [], log := [], stp := false })
    (Wk.le (.cons rfl (.refl _) (.cons rfl (.refl _) (.cons rfl (.refl _) (.cons rfl (.refl _) (.cons rfl (VLe.i ?_) (.cons rfl (VLe.i ?_) .nil)))))) (.cons rfl (LLe.refl _) (.cons rfl (LLe.refl _) (.cons rfl (LLe.refl _) (.cons rfl (LLe.refl _) .nil)))) .nil rfl rfl) ?_
  · rw [e1, e3]; rfl
  · rw [e2, e3]; rfl
  have hwa : IntKind.wrap .i64 (g.a - 1) = g.a - 1 := w64 (by omega) (by omega)
  have hwd : IntKind.wrap .i64 (g.d - 1) = g.d - 1 := w64 (by omega) (by omega)
  refine Tr.seq (Tr.seqC rfl (by simp) (Steps.call rfl rfl (c_within (colN g a b) 0 (IntKind.wrap .i64 (g.a - 1))) (Steps.run rfl (by simp) ?_)))
  refine Steps.gcall rfl rfl rfl rfl (by simp) (fun _ => c_within (rowN g a b) 0 (IntKind.wrap .i64 (g.d - 1))) (Steps.fin rfl (by simp) ?_)
  rw [hwa, hwd]
  have hnone : ∀ {s : St} {K : St → Prop} {d : Nat} {rest : List Ins}, Am.Steps (env0 Tryd.prog mixed 96 S ok) rest K (s.put (some d) (.agg [I (-1), I (-1)])) → Am.Steps (env0 Tryd.prog mixed 96 S ok) (⟨some d, .load 2 true, [.c (.rptr 0 0)], none⟩ :: rest) K s := fun h =>
    Steps.gload (g := 0) (cs := [I (-1), I (-1)]) (by simp [globalsV]) rfl (by simp) h
  refine Tr.cond rfl rfl (fun h1 => ?_) (fun h1 => Tr.skip ?_)
  · refine Tr.seq (Tr.reg (hnone (Steps.fin rfl (by simp) (Tr.retX rfl rfl rfl ?_ trivial))))
    have : (btw (colN g a b) 0 (g.a - 1) && btw (rowN g a b) 0 (g.d - 1)) = false := by
      revert h1
      cases btw (colN g a b) 0 (g.a - 1) <;> cases btw (rowN g a b) 0 (g.d - 1) <;> first | (intro _; rfl) | (intro h; cases h)
    simp [packR, cellN, this]
  have hin : (btw (colN g a b) 0 (g.a - 1) && btw (rowN g a b) 0 (g.d - 1)) = true := by
    revert h1
    cases btw (colN g a b) 0 (g.a - 1) <;> cases btw (rowN g a b) 0 (g.d - 1) <;> first | (intro _; rfl) | (intro h; cases h)
  have hin2 := hin
  simp only [Bool.and_eq_true, btw_iff] at hin2
  have s1 := sq64 (x := a.1 - b.1) (by omega)
  have s2 := sq64 (x := a.2 - b.2) (by omega)
  have w1 : IntKind.wrap .i64 (a.1 - b.1) = a.1 - b.1 := w64 (by omega) (by omega)
  have w2 : IntKind.wrap .i64 (a.2 - b.2) = a.2 - b.2 := w64 (by omega) (by omega)
  refine Tr.seqD rfl (by simp) (by kernel_rfl) ?_
  refine Tr.seq (Tr.seqR rfl (by simp) (Tr.block ?_))
  refine Tr.loop (fun (k : Nat) s => (k ≤ g.cls.length ∧ clsAt (sqN a b) g.cls 0 = clsAt (sqN a b) (g.cls.drop k) k) ∧ s = { env := [(3, .ptr 3 0), (6, .ptr 6 0), (7, I (colN g a b)), (8, I (rowN g a b)), (9, I (a.1 - b.1)), (10, I (a.2 - b.2)), (67, sB g.cls), (68, I (g.cls.length : Nat)), (69, I (k : Nat))], bx := [(3, ⟨gridC g, false⟩), (6, ⟨[I 0, I 0], false⟩)], rw := [], log := [], stp := false }) (fun k => g.cls.length - k) 0
    (Wk.le (.cons rfl (.refl _) (.cons rfl (.refl _) (.cons rfl (.refl _) (.cons rfl (.refl _) (.cons rfl (VLe.i w1) (.cons rfl (VLe.i w2) (.cons rfl (.refl _) (.cons rfl (VLe.i (by simp)) (.cons rfl (.refl _) .nil))))))))) (.cons rfl (LLe.refl _) (.cons rfl (LLe.refl _) .nil)) .nil rfl rfl) ⟨⟨by omega, by simp⟩, rfl⟩ ?_
  rintro k s ⟨⟨hk, hf⟩, rfl⟩
  refine Tr.seqR rfl (by simp) (Tr.seqI rfl (fun h2 => ?_) (fun h2 => ?_))
  · have h2 : k < g.cls.length := by simpa using h2
    rw [clsAt_drop h2] at hf
    have w3 : IntKind.wrap .i64 ((a.1 - b.1) * (a.1 - b.1)) = (a.1 - b.1) * (a.1 - b.1) := w64 (by omega) (by omega)
    have w4 : IntKind.wrap .i64 ((a.2 - b.2) * (a.2 - b.2)) = (a.2 - b.2) * (a.2 - b.2) := w64 (by omega) (by omega)
    have w5 : IntKind.wrap .i64 (IntKind.wrap .i64 ((a.1 - b.1) * (a.1 - b.1)) + IntKind.wrap .i64 ((a.2 - b.2) * (a.2 - b.2))) = sqN a b := by rw [w3, w4]; exact w64 (by omega) (by omega)
    have kw := c_within (sqN a b) g.cls[k].1 g.cls[k].2
    rw [← w5] at kw
    refine Tr.skipT (Tr.seq (Tr.block (Tr.seq (Tr.reg (Steps.runN 2 rfl (by simp; omega) ?_)))))
    rw [getD_map h2]
    refine Steps.fin rfl (by simp) (Tr.seqC rfl (by simp) (Steps.call rfl rfl kw (Steps.fin rfl (by simp) ?_)))
    rw [w5]
    refine Tr.cond rfl rfl (fun h3 => ?_) (fun h3 => Tr.skip (Tr.regR rfl (by simp) ?_))
    · have h3 : btw (sqN a b) g.cls[k].1 g.cls[k].2 = true := h3
      rw [if_pos h3] at hf
      refine Tr.seqR rfl (by simp) (Tr.retX rfl rfl rfl ?_ trivial)
      have m1 : 0 ≤ rowN g a b * g.a ∧ rowN g a b * g.a ≤ 256 := by
        refine ⟨Int.mul_nonneg (by omega) (by omega), ?_⟩
        have := Int.mul_le_mul (show rowN g a b ≤ 16 by omega) (show g.a ≤ 16 by omega) (by omega) (by omega)
        omega
      have e : IntKind.wrap .i64 (IntKind.wrap .i64 (rowN g a b * g.a) + colN g a b) = rowN g a b * g.a + colN g a b := by
        rw [w64 (n := rowN g a b * g.a) (by omega) (by omega), w64 (by omega) (by omega)]
      show eB (cellN g a b) = .agg [I (IntKind.wrap .i64 (IntKind.wrap .i64 (rowN g a b * g.a) + colN g a b)), I (k : Int)]
      rw [e]
      simp [cellN, hin, hf]
    · have h3 : btw (sqN a b) g.cls[k].1 g.cls[k].2 = false := h3
      rw [h3, if_neg (by simp)] at hf
      exact ⟨k + 1, _, Wk.le (.cons rfl (.refl _) (.cons rfl (.refl _) (.cons rfl (.refl _) (.cons rfl (.refl _) (.cons rfl (.refl _) (.cons rfl (.refl _) (.cons rfl (.refl _) (.cons rfl (.refl _) (.cons rfl (VLe.i (w64 (by omega) (by omega))) .nil))))))))) (.cons rfl (LLe.refl _) (.cons rfl (LLe.refl _) .nil)) .nil rfl rfl, ⟨⟨h2, hf⟩, rfl⟩, by omega⟩
  · have h2 : k = g.cls.length := by simp at h2; omega
    subst h2
    rw [List.drop_length] at hf
    refine Tr.exit (Tr.seq (Tr.reg (hnone (Steps.fin rfl (by simp) (Tr.retX rfl rfl rfl ?_ trivial)))))
    simp [packR, cellN, hin, hf, clsAt]

end Go.Proofs.YtdejdblopmfjfaaDoor


/-! Contracts: layouts. -/
set_option linter.unusedVariables false
set_option linter.unusedSimpArgs false
set_option maxRecDepth 20000
set_option maxHeartbeats 2000000
namespace Go.Proofs.YtdejdblopmfjfaaDoor
open Go.Am
attribute [local simp] cells scalar mkv splice under2 under dem dem1 eB gridC sB fourC
theorem c_Cell {g : Gd} (hl : g.cls.length ≤ 9223372036854775807) (a b : Int × Int) : C Tryd.prog F.bin_Cell [.agg (gridC g), eB a, eB b] (if gridOk g then (if planeB a && planeB b then .tuple [eB (cellN g a b), I 0] else .tuple [.agg [I 0, I 0], I 10]) else .tuple [.agg [I 0, I 0], I 70]) := by
  have kg := c_CheckGrid (g := g) hl
  refine C_of mixed chk.bin_Cell (by simp) fun S ok => ?_
  refine Tr.seqR rfl (by simp) ?_
  by_cases hg : gridOk g = true
  rotate_left
  · rw [if_neg hg] at kg
    refine Tr.seq (Tr.seqC rfl (by simp) (Steps.call rfl rfl kg (Steps.fin rfl (by simp) (Tr.seqR rfl (by simp) (Tr.condT rfl ?_)))))
    refine Tr.seqR rfl (by simp) (Tr.retX rfl rfl rfl ?_ trivial)
    rw [if_neg hg]; rfl
  rw [if_pos hg] at kg ⊢
  refine Tr.seq (Tr.seqC rfl (by simp) (Steps.call rfl rfl kg (Steps.fin rfl (by simp) (Tr.seqR rfl (by simp) (Tr.condF rfl (Tr.skip ?_))))))
  refine Tr.seq (Tr.seqC rfl (by simp) (Steps.call rfl rfl (c_CheckPointF a) (Steps.run rfl (by simp) (Steps.gcall rfl rfl rfl rfl (by simp) (fun _ => c_CheckPointF b) (Steps.fin rfl (by simp) ?_)))))
  refine Tr.cond rfl rfl (fun h1 => ?_) (fun h1 => Tr.skip ?_)
  · refine Tr.seqR rfl (by simp) (Tr.retX rfl rfl rfl ?_ trivial)
    have : (planeB a && planeB b) = false := by
      revert h1
      cases planeB a <;> cases planeB b <;> first | (intro _; rfl) | (intro h; cases h)
    rw [this]; rfl
  have hp : planeB a = true ∧ planeB b = true := by
    revert h1
    cases planeB a <;> cases planeB b <;> first | (intro _; exact ⟨rfl, rfl⟩) | (intro h; cases h)
  refine Tr.seqC rfl (by simp) (Steps.call rfl rfl (c_cell hg hp.1 hp.2) (Steps.fin rfl (by simp) (Tr.retX rfl rfl rfl ?_ trivial)))
  rw [hp.1, hp.2]; rfl

/-! ### Regions, checked -/
def fitBB (l : Int) (b : Int × Int) : Bool := decide (-l ≤ b.1) && decide (b.1 ≤ b.2) && decide (b.2 ≤ l)
def fitFB (f : Fr) : Bool := fitBB 32768 f.x && fitBB 32768 f.y && fitBB 65536 f.s && fitBB 65536 f.d

theorem fitFB_iff (f : Fr) : fitFB f = true ↔ fitF f := by
  simp only [fitFB, fitBB, Bool.and_eq_true, decide_eq_true_eq, fitF, fitB]
  omega

theorem c_fitsF {l : Int} (b : Int × Int) (hl : 0 ≤ l ∧ l ≤ 65536) : C Tryd.prog F.region_limit_fits [I l, eB b] (.bool (fitBB l b)) := by
  refine C_of mixed chk.region_limit_fits (by simp) fun S ok => ?_
  have e : IntKind.wrap .i64 (0 - l) = -l := by rw [w64 (by omega) (by omega)]; omega
  refine Tr.seqR rfl (by simp) (Tr.seqR rfl (by simp) (Tr.retQ rfl rfl ?_ trivial))
  show V.bool (fitBB l b) = .bool (bif (bif decide (b.1 ≥ IntKind.wrap .i64 (0 - l)) then decide (b.1 ≤ b.2) else false) then decide (b.2 ≤ l) else false)
  rw [e, fitBB]
  congr 1
  by_cases h1 : -l ≤ b.1 <;> by_cases h2 : b.1 ≤ b.2 <;> simp [h1, h2]

theorem c_CheckF (f : Fr) : C Tryd.prog F.region_Check [.agg (fourC f)] (I (if fitFB f then 0 else 11)) := by
  refine C_of mixed chk.region_Check (by simp) fun S ok => ?_
  refine Tr.seqR rfl (by simp) (Tr.seqR rfl (by simp) (Tr.seq (Tr.seqC rfl (by simp) (Steps.call rfl rfl (c_bounds f) (Steps.fin rfl (by simp) (Tr.block ?_))))))
  refine Tr.rounds 5 (TrN.succ ?_)
  refine Tr.weak (s' := { env := [(3, .ptr 3 0), (12, .agg (fourC f)), (13, I 0)], bx := [(3, ⟨[.func (.func F.region_limit_fits) [I 32768] [], .func (.func F.region_limit_fits) [I 32768] [], .func (.func F.region_limit_fits) [I 65536] [], .func (.func F.region_limit_fits) [I 65536] []], false⟩)], rw := [], log := [], stp := false })
    (Wk.le (.cons rfl (.refl _) (.cons rfl (.refl _) (.cons rfl (VLe.i rfl) .nil))) (.cons rfl (LLe.refl _) .nil) .nil rfl rfl) ?_
  refine Tr.seqR rfl (by simp) (Tr.seq (Tr.condT rfl (Tr.skip (Tr.seq (Tr.block (Tr.seqR rfl (by simp) (Tr.seq ?_)))))))
  refine Tr.drawK (TraceK.run rfl (by simp) (TraceK.callv rfl rfl (c_fitsF (l := 32768) f.x (by omega)) (TraceK.run rfl (by simp) (.done ⟨by kernel_rfl, by kernel_rfl, ?_⟩))))
  refine Tr.cond rfl rfl (fun h0 => Tr.seqR rfl (by simp) (Tr.retX rfl rfl rfl ?_ trivial)) (fun h0 => Tr.skip (Tr.regR rfl (by simp) (TrN.succ ?_)))
  · have h0 : fitBB 32768 f.x = false := by simpa using h0
    simp [packR, fitFB, h0]
  have h0 : fitBB 32768 f.x = true := by simpa using h0
  refine Tr.weak (s' := { env := [(3, .ptr 3 0), (12, .agg (fourC f)), (13, I 1)], bx := [(3, ⟨[.func (.func F.region_limit_fits) [I 32768] [], .func (.func F.region_limit_fits) [I 32768] [], .func (.func F.region_limit_fits) [I 65536] [], .func (.func F.region_limit_fits) [I 65536] []], false⟩)], rw := [], log := [], stp := false })
    (Wk.le (.cons rfl (.refl _) (.cons rfl (.refl _) (.cons rfl (VLe.i rfl) .nil))) (.cons rfl (LLe.refl _) .nil) .nil rfl rfl) ?_
  refine Tr.seqR rfl (by simp) (Tr.seq (Tr.condT rfl (Tr.skip (Tr.seq (Tr.block (Tr.seqR rfl (by simp) (Tr.seq ?_)))))))
  refine Tr.drawK (TraceK.run rfl (by simp) (TraceK.callv rfl rfl (c_fitsF (l := 32768) f.y (by omega)) (TraceK.run rfl (by simp) (.done ⟨by kernel_rfl, by kernel_rfl, ?_⟩))))
  refine Tr.cond rfl rfl (fun h1 => Tr.seqR rfl (by simp) (Tr.retX rfl rfl rfl ?_ trivial)) (fun h1 => Tr.skip (Tr.regR rfl (by simp) (TrN.succ ?_)))
  · have h1 : fitBB 32768 f.y = false := by simpa using h1
    simp [packR, fitFB, h1]
  have h1 : fitBB 32768 f.y = true := by simpa using h1
  refine Tr.weak (s' := { env := [(3, .ptr 3 0), (12, .agg (fourC f)), (13, I 2)], bx := [(3, ⟨[.func (.func F.region_limit_fits) [I 32768] [], .func (.func F.region_limit_fits) [I 32768] [], .func (.func F.region_limit_fits) [I 65536] [], .func (.func F.region_limit_fits) [I 65536] []], false⟩)], rw := [], log := [], stp := false })
    (Wk.le (.cons rfl (.refl _) (.cons rfl (.refl _) (.cons rfl (VLe.i rfl) .nil))) (.cons rfl (LLe.refl _) .nil) .nil rfl rfl) ?_
  refine Tr.seqR rfl (by simp) (Tr.seq (Tr.condT rfl (Tr.skip (Tr.seq (Tr.block (Tr.seqR rfl (by simp) (Tr.seq ?_)))))))
  refine Tr.drawK (TraceK.run rfl (by simp) (TraceK.callv rfl rfl (c_fitsF (l := 65536) f.s (by omega)) (TraceK.run rfl (by simp) (.done ⟨by kernel_rfl, by kernel_rfl, ?_⟩))))
  refine Tr.cond rfl rfl (fun h2 => Tr.seqR rfl (by simp) (Tr.retX rfl rfl rfl ?_ trivial)) (fun h2 => Tr.skip (Tr.regR rfl (by simp) (TrN.succ ?_)))
  · have h2 : fitBB 65536 f.s = false := by simpa using h2
    simp [packR, fitFB, h2]
  have h2 : fitBB 65536 f.s = true := by simpa using h2
  refine Tr.weak (s' := { env := [(3, .ptr 3 0), (12, .agg (fourC f)), (13, I 3)], bx := [(3, ⟨[.func (.func F.region_limit_fits) [I 32768] [], .func (.func F.region_limit_fits) [I 32768] [], .func (.func F.region_limit_fits) [I 65536] [], .func (.func F.region_limit_fits) [I 65536] []], false⟩)], rw := [], log := [], stp := false })
    (Wk.le (.cons rfl (.refl _) (.cons rfl (.refl _) (.cons rfl (VLe.i rfl) .nil))) (.cons rfl (LLe.refl _) .nil) .nil rfl rfl) ?_
  refine Tr.seqR rfl (by simp) (Tr.seq (Tr.condT rfl (Tr.skip (Tr.seq (Tr.block (Tr.seqR rfl (by simp) (Tr.seq ?_)))))))
  refine Tr.drawK (TraceK.run rfl (by simp) (TraceK.callv rfl rfl (c_fitsF (l := 65536) f.d (by omega)) (TraceK.run rfl (by simp) (.done ⟨by kernel_rfl, by kernel_rfl, ?_⟩))))
  refine Tr.cond rfl rfl (fun h3 => Tr.seqR rfl (by simp) (Tr.retX rfl rfl rfl ?_ trivial)) (fun h3 => Tr.skip (Tr.regR rfl (by simp) (TrN.succ ?_)))
  · have h3 : fitBB 65536 f.d = false := by simpa using h3
    simp [packR, fitFB, h3]
  have h3 : fitBB 65536 f.d = true := by simpa using h3
  refine Tr.seqR rfl (by simp) (Tr.seq (Tr.condF rfl (Tr.exit ?_)))
  refine Tr.seqR rfl (by simp) (Tr.retX rfl rfl rfl ?_ trivial)
  simp [packR, fitFB, h0, h1, h2, h3]

theorem mid_of {f : Fr} (h : fitFB f = true) : midF f := by
  have h := (fitFB_iff f).1 h
  obtain ⟨⟨⟨h1, h2, h3⟩, h4, h5, h6⟩, ⟨h7, h8, h9⟩, h10, h11, h12⟩ := h
  unfold midF; omega

/-! ### How many places -/
def rowM (r : Int × Int × Int) : Int := r.2.2 - r.2.1 + 1
def countN (f : Fr) : Int := ((rowsL f).map rowM).foldl (· + ·) 0

theorem rows_bd {f : Fr} (h : midF f) : ∀ (n : Nat) (x : Int) (r : Int × Int × Int), r ∈ rowsN f n x → -1000000 ≤ r.2.1 ∧ r.2.1 ≤ r.2.2 ∧ r.2.2 ≤ 1000000
  | 0, x, r, hr => by cases hr
  | n + 1, x, r, hr => by
    simp only [rowsN] at hr
    split at hr
    · rename_i h1
      rcases List.mem_cons.1 hr with rfl | hr
      · obtain ⟨_, ⟨⟨h2, h3⟩, h4, h5⟩, _⟩ := h
        refine ⟨?_, h1, ?_⟩
        · show -1000000 ≤ lowY f x
          unfold lowY; omega
        · show highY f x ≤ 1000000
          unfold highY; omega
      · exact rows_bd h n (x + 1) r hr
    · exact rows_bd h n (x + 1) r hr

theorem rowsN_len (f : Fr) : ∀ (n : Nat) (x : Int), (rowsN f n x).length ≤ n
  | 0, x => by simp [rowsN]
  | n + 1, x => by
    have := rowsN_len f n (x + 1)
    simp only [rowsN]
    split <;> simp <;> omega

theorem sum_bd : ∀ (l : List (Int × Int × Int)) (a : Int), (∀ r ∈ l, -1000000 ≤ r.2.1 ∧ r.2.1 ≤ r.2.2 ∧ r.2.2 ≤ 1000000) → a ≤ (l.map rowM).foldl (· + ·) a ∧ (l.map rowM).foldl (· + ·) a ≤ a + l.length * 2000001
  | [], a, _ => by simp
  | r :: l, a, h => by
    have h1 := h r (by simp)
    have h2 := sum_bd l (a + rowM r) (fun r hr => h r (by simp [hr]))
    simp only [List.map_cons, List.foldl_cons, List.length_cons]
    unfold rowM at h2 ⊢
    push_cast
    omega

theorem c_Count (f : Fr) : C Tryd.prog F.region_Count [.agg (fourC f)] (if fitFB f then .tuple [I (countN f), I 0] else .tuple [I 0, I 11]) := by
  have kc := c_CheckF f
  refine C_of mixed chk.region_Count (by simp) fun S ok => ?_
  refine Tr.seqR rfl (by simp) ?_
  by_cases hf : fitFB f = true
  rotate_left
  · rw [if_neg hf] at kc
    refine Tr.seq (Tr.seqC rfl (by simp) (Steps.call rfl rfl kc (Steps.fin rfl (by simp) (Tr.seqR rfl (by simp) (Tr.condT rfl ?_)))))
    refine Tr.seqR rfl (by simp) (Tr.retX rfl rfl rfl ?_ trivial)
    rw [if_neg hf]; rfl
  rw [if_pos hf] at kc ⊢
  have hm := mid_of hf
  have hlen : (rowsL f).length ≤ 2000001 := by
    have h1 := rowsN_len f (f.x.2 + 1 - f.x.1).toNat f.x.1
    obtain ⟨⟨⟨h2, h3⟩, h4, h5⟩, _⟩ := hm
    unfold rowsL; omega
  have hrb : ∀ r ∈ rowsL f, -1000000 ≤ r.2.1 ∧ r.2.1 ≤ r.2.2 ∧ r.2.2 ≤ 1000000 := fun r hr => rows_bd hm _ _ r hr
  refine Tr.seq (Tr.seqC rfl (by simp) (Steps.call rfl rfl kc (Steps.fin rfl (by simp) (Tr.seqR rfl (by simp) (Tr.condF rfl (Tr.skip ?_))))))
  refine Tr.seqR rfl (by simp) (Tr.seq (Tr.seqC rfl (by simp) (Steps.call rfl rfl (c_bounds f) (Steps.call rfl rfl (c_rows f) (Steps.fin rfl (by simp) (Tr.block ?_))))))
  refine Tr.weak (s' := { env := [(14, .func (.func F.region_four_rows_1) [] [.vptr (fourC f) 0]), (5, .ptr 5 0)], bx := [(5, ⟨[I 0], false⟩)], rw := [], log := [], stp := false })
    (Wk.le (.cons rfl (.refl _) (.cons rfl (.refl _) .nil)) (.cons rfl (LLe.refl _) .nil) .nil rfl rfl) ?_
  refine Tr.range rfl rfl (i_rows hm) rfl rfl rfl (by intro x hx; obtain ⟨b, _, rfl⟩ := List.mem_map.1 hx; rfl)
    (fun pre t => ∃ m, m ≤ (rowsL f).length ∧ pre = ((rowsL f).take m).map eRow ∧ t.bx = [(5, ⟨[I ((((rowsL f).take m).map rowM).foldl (· + ·) 0)], false⟩)] ∧ t.rw = [] ∧ t.log = [])
    (fun _ _ => False) ⟨0, by omega, rfl, rfl, rfl, rfl⟩ ?_ ?_ ?_
  · rintro a0 L0 rc0 h0 S1 S2 ok1 ok2 pre q t lp hpre ⟨m, hm', rfl, hbx, hrw, hlog⟩ henv hstp
    obtain ⟨env, bx, rw, log, stp⟩ := t
    simp only at hbx hrw hlog henv hstp
    subst hbx hrw hlog henv hstp
    have hmx : m < (rowsL f).length ∧ ∃ b, (rowsL f)[m]? = some b ∧ q = eRow b := by
      have h1 : (((rowsL f).take m).map eRow).length = m := by simp; omega
      have h2 := hpre.length_le
      simp at h2
      have hml : m < (rowsL f).length := by omega
      refine ⟨hml, _, List.getElem?_eq_getElem hml, ?_⟩
      have h3 := List.IsPrefix.getElem hpre (i := m) (by simp; omega)
      simp only [List.getElem_map] at h3
      rw [List.getElem_append_right (by omega)] at h3
      simpa using h3
    obtain ⟨hml, r, hb, rfl⟩ := hmx
    have hr := hrb r (List.mem_of_getElem? hb)
    have hs := sum_bd ((rowsL f).take m) 0 (fun r hr => hrb r (List.mem_of_mem_take hr))
    have hl2 : ((rowsL f).take m).length ≤ 2000001 := by rw [List.length_take]; omega
    have eT : ((rowsL f).take (m + 1)).map rowM = ((rowsL f).take m).map rowM ++ [rowM r] := by
      rw [List.take_add_one, hb, List.map_append]; rfl
    refine Tr.regR rfl (by simp) ?_
    refine Tr.block (Tr.regR rfl (by simp) ?_)
    refine ⟨{ env := [], bx := [(5, ⟨[I ((((rowsL f).take (m + 1)).map rowM).foldl (· + ·) 0)], false⟩)], rw := [], log := [], stp := false }, Wk.le .nil (.cons rfl (.cons (VLe.i ?_) .nil) .nil) .nil rfl rfl, ⟨m + 1, by omega, ?_, rfl, rfl, rfl⟩, rfl⟩
    · rw [eT, List.foldl_append]
      show IntKind.wrap .i64 ((((rowsL f).take m).map rowM).foldl (· + ·) 0 + IntKind.wrap .i64 (IntKind.wrap .i64 (r.2.2 - r.2.1) + 1)) = (((rowsL f).take m).map rowM).foldl (· + ·) 0 + rowM r
      unfold rowM at hs ⊢
      rw [w64 (n := r.2.2 - r.2.1) (by omega) (by omega), w64 (n := r.2.2 - r.2.1 + 1) (by omega) (by omega), w64 (by omega) (by omega)]
    · rw [List.take_add_one, hb]; simp
  · rintro ⟨env, bx, rw, log, stp⟩ henv hstp ⟨m, hm', hpre, hbx, hrw, hlog⟩
    simp only at hbx hrw hlog henv hstp
    subst hbx hrw hlog henv hstp
    have hml : m = (rowsL f).length := by
      have := congrArg List.length hpre
      simp at this; omega
    subst hml
    rw [List.take_length]
    exact Tr.seqR rfl (by simp) (Tr.retX rfl rfl rfl rfl trivial)
  · intro e t _ h; exact h.elim

end Go.Proofs.YtdejdblopmfjfaaDoor


/-! Contracts: layouts, laid. -/
set_option linter.unusedVariables false
set_option linter.unusedSimpArgs false
set_option maxRecDepth 20000
set_option maxHeartbeats 2000000
namespace Go.Proofs.YtdejdblopmfjfaaDoor
open Go.Am
attribute [local simp] cells scalar mkv splice under2 under dem dem1 eB gridC sB fourC
structure Ly where
  nodes : List Fr
  traces : List (Int × Int)

def eF (f : Fr) : V := .agg (fourC f)
def layC (s : Ly) : List V := [.slice 0 8 (s.nodes.map eF), .slice 0 2 (s.traces.map eB)]
attribute [local simp] eF layC
def nodeOk (f : Fr) : Bool := fitFB f && btw (countN f) 1 64
def traceOk (n : Nat) (t : Int × Int) : Bool := btw t.1 0 ((n : Int) - 1) && btw t.2 0 ((n : Int) - 1) && t.1 != t.2
def layOk (s : Ly) : Bool := decide (s.nodes.length ≤ 16) && decide (s.traces.length ≤ 64) && s.nodes.all nodeOk && s.traces.all (traceOk s.nodes.length)

theorem all_take_succ {α : Type} {p : α → Bool} {l : List α} {k : Nat} (h : k < l.length) : (l.take (k + 1)).all p = ((l.take k).all p && p l[k]) := by
  rw [List.take_add_one, List.getElem?_eq_getElem h, List.all_append]
  simp

theorem all_false {α : Type} {p : α → Bool} {l : List α} {k : Nat} (h : k < l.length) (hp : p l[k] = false) : l.all p = false := by
  rw [List.all_eq_false]
  exact ⟨_, List.getElem_mem h, by simp [hp]⟩

theorem c_CheckLayout {s : Ly} (hn : s.nodes.length ≤ 9223372036854775807) (ht : s.traces.length ≤ 9223372036854775807) : C Tryd.prog F.bin_CheckLayout [.agg (layC s)] (I (if layOk s then 0 else 71)) := by
  refine C_of mixed chk.bin_CheckLayout (by simp) fun S ok => ?_
  refine Tr.seqR rfl (by simp) (Tr.seq (Tr.seqR rfl (by simp) (Tr.cond rfl rfl (fun h1 => ?_) (fun h1 => Tr.skip ?_))))
  · refine Tr.seqR rfl (by simp) (Tr.retX rfl rfl rfl ?_ trivial)
    have h1 : (bif decide (((s.nodes.map eF).length : Int) > 16) then true else decide (((s.traces.map eB).length : Int) > 64)) = true := h1
    have : layOk s = false := by
      unfold layOk
      by_cases a1 : s.nodes.length ≤ 16
      · by_cases a2 : s.traces.length ≤ 64
        · simp at h1; omega
        · simp [a2]
      · simp [a1]
    rw [this]; rfl
  have h1 : (bif decide (((s.nodes.map eF).length : Int) > 16) then true else decide (((s.traces.map eB).length : Int) > 64)) = false := h1
  have hnl : s.nodes.length ≤ 16 ∧ s.traces.length ≤ 64 := by
    simp at h1; omega
  refine Tr.seq (Tr.seqR rfl (by simp) (Tr.block ?_))
  refine Tr.loop (fun (k : Nat) st => (k ≤ s.nodes.length ∧ (s.nodes.take k).all nodeOk = true) ∧ st = { env := [(1, .ptr 1 0), (20, .slice 0 8 (s.nodes.map eF)), (21, I (s.nodes.length : Nat)), (22, I (k : Nat))], bx := [(1, ⟨layC s, false⟩)], rw := [], log := [], stp := false }) (fun k => s.nodes.length - k) 0
    (Wk.le (.cons rfl (.refl _) (.cons rfl (.refl _) (.cons rfl (VLe.i (by simp)) (.cons rfl (.refl _) .nil)))) (.cons rfl (LLe.refl _) .nil) .nil rfl rfl) ⟨⟨by omega, by simp⟩, rfl⟩ ?_
  rintro k st ⟨⟨hk, hall⟩, rfl⟩
  refine Tr.seqR rfl (by simp) (Tr.seqI rfl (fun h2 => ?_) (fun h2 => ?_))
  · have h2 : k < s.nodes.length := by simpa using h2
    refine Tr.skipT (Tr.seq (Tr.block (Tr.seq (Tr.reg (Steps.runN 1 rfl (by simp; omega) ?_)))))
    rw [getD_map h2]
    refine Steps.fin rfl (by simp) ?_
    have kc := c_Count s.nodes[k]
    by_cases hf : fitFB s.nodes[k] = true
    · rw [if_pos hf] at kc
      refine Tr.seqC rfl (by simp) (Steps.call rfl rfl kc (Steps.fin rfl (by simp) ?_))
      refine Tr.seqC rfl (by simp) (Steps.gcall rfl rfl rfl rfl (by simp) (fun _ => c_within (countN s.nodes[k]) 1 64) (Steps.fin rfl (by simp) ?_))
      refine Tr.cond rfl rfl (fun h3 => ?_) (fun h3 => Tr.skip (Tr.regR rfl (by simp) ?_))
      · have h3 : btw (countN s.nodes[k]) 1 64 = false := by simpa using h3
        refine Tr.seqR rfl (by simp) (Tr.retX rfl rfl rfl ?_ trivial)
        have : layOk s = false := by
          unfold layOk
          rw [all_false (p := nodeOk) h2 (by simp [nodeOk, h3])]; simp
        rw [this]; rfl
      · have h3 : btw (countN s.nodes[k]) 1 64 = true := by simpa using h3
        exact ⟨k + 1, _, Wk.le (.cons rfl (.refl _) (.cons rfl (.refl _) (.cons rfl (.refl _) (.cons rfl (VLe.i (w64 (by omega) (by omega))) .nil)))) (.cons rfl (LLe.refl _) .nil) .nil rfl rfl, ⟨⟨h2, by rw [all_take_succ h2, hall]; simp [nodeOk, hf, h3]⟩, rfl⟩, by omega⟩
    · rw [if_neg hf] at kc
      refine Tr.seqC rfl (by simp) (Steps.call rfl rfl kc (Steps.fin rfl (by simp) ?_))
      refine Tr.seqC rfl (by simp) (Steps.off (want := false) (.bool true) rfl rfl rfl (Steps.fin rfl (by simp) ?_))
      refine Tr.condT rfl (Tr.seqR rfl (by simp) (Tr.retX rfl rfl rfl ?_ trivial))
      have : layOk s = false := by
        unfold layOk
        rw [all_false (p := nodeOk) h2 (by simp [nodeOk, hf])]; simp
      rw [this]; rfl
  have h2 : k = s.nodes.length := by simp at h2; omega
  subst h2
  rw [List.take_length] at hall
  refine Tr.exit (Tr.seq (Tr.seqR rfl (by simp) (Tr.block ?_)))
  refine Tr.loop (fun (k : Nat) st => (k ≤ s.traces.length ∧ (s.traces.take k).all (traceOk s.nodes.length) = true) ∧ st = { env := [(1, .ptr 1 0), (40, .slice 0 2 (s.traces.map eB)), (41, I (s.traces.length : Nat)), (42, I (k : Nat))], bx := [(1, ⟨layC s, false⟩)], rw := [], log := [], stp := false }) (fun k => s.traces.length - k) 0
    (Wk.le (.cons rfl (.refl _) (.cons rfl (.refl _) (.cons rfl (VLe.i (by simp)) (.cons rfl (.refl _) .nil)))) (.cons rfl (LLe.refl _) .nil) .nil rfl rfl) ⟨⟨by omega, by simp⟩, rfl⟩ ?_
  rintro k st ⟨⟨hk, hallT⟩, rfl⟩
  refine Tr.seqR rfl (by simp) (Tr.seqI rfl (fun h2 => ?_) (fun h2 => ?_))
  · have h2 : k < s.traces.length := by simpa using h2
    refine Tr.skipT (Tr.seq (Tr.block (Tr.seq (Tr.reg (Steps.runN 1 rfl (by simp; omega) ?_)))))
    rw [getD_map h2]
    refine Steps.fin rfl (by simp) ?_
    have hw1 : IntKind.wrap .i64 (((s.nodes.map eF).length : Int) - 1) = (s.nodes.length : Int) - 1 := by rw [List.length_map, w64 (by omega) (by omega)]
    refine Tr.seqC rfl (by simp) (Steps.call rfl rfl (c_within s.traces[k].1 0 (IntKind.wrap .i64 (((s.nodes.map eF).length : Int) - 1))) (Steps.run rfl (by simp) ?_))
    refine Steps.gcall rfl rfl rfl rfl (by simp) (fun _ => c_within s.traces[k].2 0 (IntKind.wrap .i64 (((s.nodes.map eF).length : Int) - 1))) (Steps.fin rfl (by simp) ?_)
    rw [hw1]
    have hT : traceOk s.nodes.length s.traces[k] = (btw s.traces[k].1 0 ((s.nodes.length : Int) - 1) && btw s.traces[k].2 0 ((s.nodes.length : Int) - 1) && !(s.traces[k].1 == s.traces[k].2)) := rfl
    refine Tr.cond rfl rfl (fun h3 => ?_) (fun h3 => Tr.skip (Tr.regR rfl (by simp) ?_))
    · refine Tr.seqR rfl (by simp) (Tr.retX rfl rfl rfl ?_ trivial)
      have hf : traceOk s.nodes.length s.traces[k] = false := by
        rw [hT]
        revert h3
        cases btw s.traces[k].1 0 ((s.nodes.length : Int) - 1) <;> cases btw s.traces[k].2 0 ((s.nodes.length : Int) - 1) <;> cases (s.traces[k].1 == s.traces[k].2) <;> first | (intro _; rfl) | (intro h; cases h)
      have : layOk s = false := by
        unfold layOk
        rw [all_false (p := traceOk s.nodes.length) h2 hf]; simp
      rw [this]; rfl
    · have hf : traceOk s.nodes.length s.traces[k] = true := by
        rw [hT]
        revert h3
        cases btw s.traces[k].1 0 ((s.nodes.length : Int) - 1) <;> cases btw s.traces[k].2 0 ((s.nodes.length : Int) - 1) <;> cases (s.traces[k].1 == s.traces[k].2) <;> first | (intro _; rfl) | (intro h; cases h)
      exact ⟨k + 1, _, Wk.le (.cons rfl (.refl _) (.cons rfl (.refl _) (.cons rfl (.refl _) (.cons rfl (VLe.i (w64 (by omega) (by omega))) .nil)))) (.cons rfl (LLe.refl _) .nil) .nil rfl rfl, ⟨⟨h2, by rw [all_take_succ h2, hallT, hf]; rfl⟩, rfl⟩, by omega⟩
  have h2 : k = s.traces.length := by simp at h2; omega
  subst h2
  rw [List.take_length] at hallT
  refine Tr.exit (Tr.seqR rfl (by simp) (Tr.retX rfl rfl rfl ?_ trivial))
  have : layOk s = true := by
    unfold layOk
    rw [hall, hallT, decide_eq_true hnl.1, decide_eq_true hnl.2]; rfl
  rw [this]; rfl

end Go.Proofs.YtdejdblopmfjfaaDoor


/-! What a slot holds becomes data (the boxes that it leads to are shut for good). -/
set_option linter.unusedVariables false
set_option linter.unusedSimpArgs false
namespace Go.Proofs.YtdejdblopmfjfaaDoor
open Go.Am

theorem wkData {E : Env} {s : St} {t : Nat} {v u : V} {ids : List Nat} (ht : get s.env t = some v) (hd : toDs s.fs.b [v] = some ([u], ids)) : Wk E s ((s.eff { v := nothing, wb := Am.freeze s.fs.b ids }).put (some t) u) := by
  intro a w h R
  obtain ⟨q1, q2, _⟩ := R.1.env t _ (by rw [fs_g]; exact ht)
  obtain ⟨h1, R1, ext, b1, g1, y1, hrep⟩ := args_data R.1 hd
  have rd : RepD w h1.φ u (a.tmps.getD t undef) := (hrep #[a.tmps.getD t undef] rfl (fun i v' x e1 e2 => by
    cases i with
    | zero => simp at e1 e2; subst e1 e2; simpa using q2
    | succ i => simp at e1)).2 0 u _ rfl rfl
  have R2 := R1.put (d := t) q1 (.data rd) (GrowV.of_data rd)
  rw [put_self (by rw [R.1.size]; exact q1)] at R2
  refine ⟨h1, ⟨?_, by rw [y1]; exact R.2⟩, y1⟩
  have e : ((s.eff { v := nothing, wb := Am.freeze s.fs.b ids }).put (some t) u).fs = (((Am.freeze s.fs.b ids).foldl (fun τ p => τ.set (.bx p.1) (.b p.2)) s.fs)).set (.slot t) (.v u) := by
    rw [fs_put, fs_eff]; rfl
  have e2 : ∀ (l : List (Nat × Box)) (s : St), (l.foldl (fun s p => s.setB p.1 p.2) s).log = s.log ∧ (l.foldl (fun s p => s.setB p.1 p.2) s).stp = s.stp := by
    intro l
    induction l with
    | nil => intro s; exact ⟨rfl, rfl⟩
    | cons p l ih => intro s; exact ih _
  have e3 := e2 (Am.freeze s.fs.b ids) s
  show Rel E.nt E.S _ _ _ a w h1
  rw [e]
  have e4 : ((s.eff { v := nothing, wb := Am.freeze s.fs.b ids }).put (some t) u).log = s.log := e3.1
  have e5 : ((s.eff { v := nothing, wb := Am.freeze s.fs.b ids }).put (some t) u).stp = s.stp := e3.2
  rw [e4, e5]
  exact R2

/-- Weakening inside a region. -/
theorem stepsWk {E : Env} {s s' : St} {i : Ins} {r : List Ins} {K : St → Prop} (h : Wk E s s') (k : Am.Steps E (i :: r) K s') : Am.Steps E (i :: r) K s := by
  refine Step1.raw fun slots ops o j ro n a w hh hc hs hi R Q next hn => ?_
  obtain ⟨h', R', hy⟩ := h a w hh R
  exact step_ok (k : Step1 E i (Am.Steps E r K) s') hc hs hi R' fun s'' a' w' h'' k R ey => hn s'' a' w' h'' k R (ey.trans hy)

end Go.Proofs.YtdejdblopmfjfaaDoor


/-! Contracts: the places of a region; pairs; layouts, laid. -/
set_option linter.unusedVariables false
set_option linter.unusedSimpArgs false
set_option maxRecDepth 20000
set_option maxHeartbeats 2000000
namespace Go.Proofs.YtdejdblopmfjfaaDoor
open Go.Am
attribute [local simp] cells scalar mkv splice under2 under dem dem1 eB gridC sB fourC eF layC
/-! ### All places of a region -/
def ptsN (x : Int) : Nat → Int → List (Int × Int)
  | 0, _ => []
  | n + 1, y => (x, y) :: ptsN x n (y + 1)
def colP (r : Int × Int × Int) : List (Int × Int) := ptsN r.1 (r.2.2 + 1 - r.2.1).toNat r.2.1
def placesL (f : Fr) : List (Int × Int) := (rowsL f).flatMap colP
def colAt (f : Fr) (x : Int) : List (Int × Int) := ptsN x (highY f x + 1 - lowY f x).toNat (lowY f x)

theorem ptsN_len (x : Int) : ∀ (n : Nat) (y : Int), (ptsN x n y).length = n
  | 0, _ => rfl
  | n + 1, y => by simp [ptsN, ptsN_len x n]

theorem rowsN_flat (f : Fr) (n : Nat) (x : Int) : (rowsN f (n + 1) x).flatMap colP = colAt f x ++ (rowsN f n (x + 1)).flatMap colP := by
  simp only [rowsN]
  split
  · rfl
  · have : (highY f x + 1 - lowY f x).toNat = 0 := by omega
    unfold colAt
    rw [this]; rfl

theorem count_len {f : Fr} (hm : midF f) : ((placesL f).length : Int) = countN f := by
  have key : ∀ (l : List (Int × Int × Int)) (a : Int), (∀ r ∈ l, r.2.1 ≤ r.2.2) → a + ((l.flatMap colP).length : Int) = (l.map rowM).foldl (· + ·) a := by
    intro l
    induction l with
    | nil => intro a _; simp
    | cons r l ih =>
      intro a h
      have h1 := h r (by simp)
      rw [List.map_cons, List.foldl_cons, ← ih (a + rowM r) (fun r hr => h r (by simp [hr])), List.flatMap_cons, List.length_append, colP, ptsN_len]
      unfold rowM
      push_cast
      omega
  have := key (rowsL f) 0 (fun r hr => (rows_bd hm _ _ r hr).2.1)
  unfold placesL countN
  omega

theorem c_places {f : Fr} (h : nodeOk f = true) : C Tryd.prog F.bin_places [.agg (fourC f)] (.slice 0 2 ((placesL f).map eB)) := by
  simp only [nodeOk, Bool.and_eq_true, btw_iff] at h
  have hm := mid_of h.1
  have hcl := count_len hm
  have hPl : (placesL f).length ≤ 64 := by omega
  obtain ⟨⟨⟨hx1, hx2⟩, hx3, hx4⟩, ⟨⟨hy1, hy2⟩, hy3, hy4⟩, ⟨⟨hs1, hs2⟩, hs3, hs4⟩, ⟨hd1, hd2⟩, hd3, hd4⟩ := hm
  refine C_of mixed chk.bin_places (by simp) fun S ok => ?_
  refine Tr.seqR rfl (by simp) (Tr.seqR rfl (by simp) (Tr.seq (Tr.seqR rfl (by simp) (Tr.block ?_))))
  refine Tr.loop (α := Nat × List (Int × Int)) (fun p s => (p.1 ≤ (f.x.2 + 1 - f.x.1).toNat ∧ p.2 ++ (rowsN f ((f.x.2 + 1 - f.x.1).toNat - p.1) (f.x.1 + p.1)).flatMap colP = placesL f) ∧
      s = { env := [(1, .ptr 1 0), (3, .slice 54 2 (p.2.map eB)), (4, I (f.x.1 + p.1))], bx := [(1, ⟨fourC f, false⟩)], rw := [(53, p.2.length, 2, 23)], log := [], stp := false }) (fun p => (f.x.2 + 1 - f.x.1).toNat - p.1) (0, [])
    (Wk.le (.cons rfl (.refl _) (.cons rfl (.nil 54 2) (.cons rfl (VLe.i (by simp)) .nil))) (.cons rfl (LLe.refl _) .nil) (.new rfl .nil) rfl rfl) ⟨⟨by simp, by simp [placesL, rowsL]⟩, rfl⟩ ?_
  rintro ⟨k, out⟩ s ⟨⟨hk, hl⟩, rfl⟩
  simp only at hk hl
  refine Tr.seq (Tr.seqR rfl (by simp) (Tr.cond rfl rfl (fun h1 => Tr.skip ?_) (fun h1 => Tr.exit ?_)))
  · have h1 : f.x.1 + (k : Int) ≤ f.x.2 := by simpa using h1
    obtain ⟨x, hx⟩ : ∃ x, f.x.1 + (k : Int) = x := ⟨_, rfl⟩
    obtain ⟨n, hn⟩ : ∃ n, (f.x.2 + 1 - f.x.1).toNat - k = n + 1 := ⟨(f.x.2 + 1 - f.x.1).toNat - k - 1, by omega⟩
    have hn2 : (f.x.2 + 1 - f.x.1).toNat - (k + 1) = n := by omega
    have hx' : f.x.1 + ((k + 1 : Nat) : Int) = x + 1 := by omega
    rw [hn, hx, rowsN_flat] at hl
    rw [hx] at h1
    rw [hx]
    refine Tr.seq (Tr.block (Tr.seqR rfl (by simp) (Tr.block ?_)))
    obtain ⟨M, hM⟩ : ∃ M, (highY f x + 1 - lowY f x).toNat = M := ⟨_, rfl⟩
    have hcol : colAt f x = ptsN x M (lowY f x) := by unfold colAt; rw [hM]
    rw [hcol] at hl
    have hlow : -1000000 ≤ lowY f x ∧ highY f x ≤ 1000000 := by unfold lowY highY; omega
    have hlow2 : lowY f x ≤ 3000000 ∧ -3000000 ≤ highY f x := by unfold lowY highY; omega
    refine Tr.loop (α := Nat × List (Int × Int)) (fun p s => (p.1 ≤ M ∧ p.2 ++ (ptsN x (M - p.1) (lowY f x + p.1) ++ (rowsN f n (x + 1)).flatMap colP) = placesL f) ∧
        s = { env := [(1, .ptr 1 0), (3, .slice 54 2 (p.2.map eB)), (4, I (x)), (5, I (lowY f x + p.1))], bx := [(1, ⟨fourC f, false⟩)], rw := [(53, p.2.length, 2, 23)], log := [], stp := false }) (fun p => M - p.1) (0, out)
      (Wk.le (.cons rfl (.refl _) (.cons rfl (.refl _) (.cons rfl (.refl _) (.cons rfl (VLe.i ?_) .nil)))) (.cons rfl (LLe.refl _) .nil) (.cons rfl .nil) rfl rfl) ⟨⟨by simp, by simpa using hl⟩, rfl⟩ ?_
    · simp (disch := omega) only [cond_true, cond_false, ite_max, ite_min, w64]
      unfold lowY; omega
    rintro ⟨j, o2⟩ s ⟨⟨hj, hl2⟩, rfl⟩
    simp only at hj hl2
    have ho2 : o2.length ≤ 64 := by
      have := congrArg List.length hl2
      rw [List.length_append] at this; omega
    refine Tr.seq (Tr.seqN 15 rfl (by simp) ?_)
    refine stepsWk (s' := { env := [(1, .ptr 1 0), (3, .slice 54 2 (o2.map eB)), (4, I (x)), (5, I (lowY f x + j)), (30, I (lowY f x + j)), (44, I (highY f x))], bx := [(1, ⟨fourC f, false⟩)], rw := [(53, o2.length, 2, 23)], log := [], stp := false })
      (Wk.le (.cons rfl (.refl _) (.cons rfl (.refl _) (.cons rfl (.refl _) (.cons rfl (.refl _) (.cons rfl (.refl _) (.cons rfl (VLe.i ?_) .nil)))))) (.cons rfl (LLe.refl _) .nil) (.cons rfl .nil) rfl rfl) ?_
    · simp (disch := omega) only [cond_true, cond_false, ite_max, ite_min, w64, highY]
    refine Steps.fin rfl (by simp) (Tr.cond rfl rfl (fun h2 => Tr.skip ?_) (fun h2 => Tr.exit ?_))
    · have h2 : lowY f x + (j : Int) ≤ highY f x := by simpa using h2
      obtain ⟨q, hq⟩ : ∃ q, M - j = q + 1 := ⟨M - j - 1, by omega⟩
      have hq2 : M - (j + 1) = q := by omega
      have e1 : lowY f x + ((j + 1 : Nat) : Int) = lowY f x + j + 1 := by omega
      refine Tr.seq (Tr.block (Tr.regR rfl (by simp; omega) (Tr.regR rfl (by simp) ?_)))
      refine ⟨(j + 1, o2 ++ [(x, lowY f x + j)]), _, Wk.le (.cons rfl (.refl _) (.cons rfl (.of_eq (by simp)) (.cons rfl (.refl _) (.cons rfl (VLe.i ?_) .nil)))) (.cons rfl (LLe.refl _) .nil) (.cons ?_ .nil) rfl rfl, ⟨⟨by simp only; omega, ?_⟩, rfl⟩, by simp only; omega⟩
      · show IntKind.wrap .i64 (lowY f x + (j : Int) + 1) = _
        rw [w64 (by omega) (by omega)]; simp only; omega
      · show some _ = some _
        simp
      · simp only
        rw [hq2, e1, ← hl2, hq]
        simp [ptsN]
    · have h2 : ¬ lowY f x + (j : Int) ≤ highY f x := by simpa using h2
      rw [show M - j = 0 by omega] at hl2
      refine Tr.regR rfl (by simp) ?_
      refine ⟨(k + 1, o2), _, Wk.le (.cons rfl (.refl _) (.cons rfl (.refl _) (.cons rfl (VLe.i ?_) .nil))) (.cons rfl (LLe.refl _) .nil) (.cons rfl .nil) rfl rfl, ⟨⟨by simp only; omega, ?_⟩, rfl⟩, by simp only; omega⟩
      · show IntKind.wrap .i64 (x + 1) = f.x.1 + ((k + 1 : Nat) : Int)
        rw [w64 (by omega) (by omega)]; omega
      · simp only
        rw [hn2, hx']
        simpa [ptsN] using hl2
  · have h1 : ¬ f.x.1 + (k : Int) ≤ f.x.2 := by simpa using h1
    rw [show (f.x.2 + 1 - f.x.1).toNat - k = 0 by omega] at hl
    have e : out = placesL f := by simpa [rowsN] using hl
    refine Tr.seqR rfl (by simp) (Tr.retX rfl rfl rfl ?_ trivial)
    rw [← e]; rfl

end Go.Proofs.YtdejdblopmfjfaaDoor


/-! Contracts: pairs; layouts, laid. -/
set_option linter.unusedVariables false
set_option linter.unusedSimpArgs false
set_option maxRecDepth 20000
set_option maxHeartbeats 2000000
namespace Go.Proofs.YtdejdblopmfjfaaDoor
open Go.Am
attribute [local simp] cells scalar mkv splice under2 under dem dem1 eB gridC sB fourC eF layC
def pairsL (l m : List (Int × Int)) : List ((Int × Int) × (Int × Int)) := l.flatMap fun a => m.map fun b => (a, b)
def eP2 (p : (Int × Int) × (Int × Int)) : List V := [eB p.1, eB p.2]

theorem pairs_drop {l m : List (Int × Int)} {k : Nat} (h : k < l.length) : pairsL (l.drop k) m = (m.map fun b => (l[k], b)) ++ pairsL (l.drop (k + 1)) m := by
  rw [List.drop_eq_getElem_cons h]; rfl

theorem c_pairs (l m : List (Int × Int)) : C Tryd.prog F.bin_pairs [sB l, sB m] (.func (.func F.bin_pairs_1) [] [.vptr [sB l] 0, .vptr [sB m] 0]) := by
  refine C_of mixed chk.bin_pairs (by simp) fun S ok => ?_
  exact Tr.seqR rfl (by simp) (Tr.seqR rfl (by simp) (Tr.retQ rfl rfl rfl trivial))

theorem i_pairs {l m : List (Int × Int)} (hl : l.length ≤ 1000000) (hm : m.length ≤ 1000000) : Iter Tryd.prog F.bin_pairs_1 [.vptr [sB l] 0, .vptr [sB m] 0] ((pairsL l m).map eP2) := by
  refine Iter_of mixed chk.bin_pairs_1 (by simp) fun S ok => ?_
  refine Tr.seqR rfl (by simp) (Tr.block ?_)
  refine Tr.loop (α := Nat × List (List V)) (fun p s => (p.1 ≤ l.length ∧ p.2 ++ (pairsL (l.drop p.1) m).map eP2 = (pairsL l m).map eP2) ∧
      s = { env := [(0, .yld), (1, .vptr [sB l] 0), (2, .vptr [sB m] 0), (8, sB l), (9, I (l.length : Nat)), (10, I (p.1 : Nat))], bx := [], rw := [], log := p.2, stp := false }) (fun p => l.length - p.1) (0, [])
    (Wk.le (.cons rfl (.refl _) (.cons rfl (.refl _) (.cons rfl (.refl _) (.cons rfl (.refl _) (.cons rfl (VLe.i (by simp)) (.cons rfl (.refl _) .nil)))))) .nil .nil rfl rfl) ⟨⟨by simp, by simp⟩, rfl⟩ ?_
  rintro ⟨k, lg⟩ s ⟨⟨hk, hf⟩, rfl⟩
  simp only at hk hf
  refine Tr.seqR rfl (by simp) (Tr.seqI rfl (fun h1 => ?_) (fun h1 => ?_))
  · have h1 : k < l.length := by simpa using h1
    rw [pairs_drop h1, List.map_append, ← List.append_assoc] at hf
    have hf' : lg ++ ((m.drop 0).map fun b => eP2 (l[k], b)) ++ (pairsL (l.drop (k + 1)) m).map eP2 = (pairsL l m).map eP2 := by
      rw [List.map_map] at hf; rw [List.drop_zero]; exact hf
    refine Tr.skipT (Tr.seq (Tr.block (Tr.seq (Tr.reg (Steps.runN 1 rfl (by simp; omega) ?_)))))
    rw [getD_map h1]
    refine Steps.fin rfl (by simp) ?_
    refine Tr.seqR rfl (by simp) (Tr.block ?_)
    refine Tr.loop (α := Nat × List (List V)) (fun p s => (p.1 ≤ m.length ∧ p.2 ++ ((m.drop p.1).map fun b => eP2 (l[k], b)) ++ (pairsL (l.drop (k + 1)) m).map eP2 = (pairsL l m).map eP2) ∧
        s = { env := [(0, .yld), (1, .vptr [sB l] 0), (2, .vptr [sB m] 0), (8, sB l), (9, I (l.length : Nat)), (10, I (k : Nat)), (5, .ptr 5 0), (14, sB m), (15, I (m.length : Nat)), (16, I (p.1 : Nat))], bx := [(5, ⟨[I l[k].1, I l[k].2], false⟩)], rw := [], log := p.2, stp := false }) (fun p => m.length - p.1) (0, lg)
      (Wk.le (.cons rfl (.refl _) (.cons rfl (.refl _) (.cons rfl (.refl _) (.cons rfl (.refl _) (.cons rfl (.refl _) (.cons rfl (.refl _) (.cons rfl (.refl _) (.cons rfl (.refl _) (.cons rfl (VLe.i (by show ((m.map eB).length : Int) = (m.length : Int); rw [List.length_map])) (.cons rfl (.refl _) .nil)))))))))) (.cons rfl (LLe.refl _) .nil) .nil rfl rfl) ⟨⟨Nat.zero_le _, hf'⟩, rfl⟩ ?_
    rintro ⟨j, lg2⟩ s ⟨⟨hj, hf2⟩, rfl⟩
    simp only at hj hf2
    refine Tr.seqR rfl (by simp) (Tr.seqI rfl (fun h2 => ?_) (fun h2 => ?_))
    · have h2 : j < m.length := by simpa using h2
      have hp : lg2 ++ [eP2 (l[k], m[j])] ++ ((m.drop (j + 1)).map fun b => eP2 (l[k], b)) ++ (pairsL (l.drop (k + 1)) m).map eP2 = (pairsL l m).map eP2 := by
        rw [← hf2, List.drop_eq_getElem_cons h2, List.map_cons]
        simp only [List.append_assoc, List.cons_append, List.nil_append]
      refine Tr.skipT (Tr.seq (Tr.block (Tr.seq (Tr.reg (Steps.runN 1 rfl (by simp; omega) ?_)))))
      rw [getD_map h2]
      refine Steps.fin rfl (by simp) ?_
      refine Tr.seqC rfl (by simp) (Steps.yield rfl (by simp) rfl ⟨_, by rw [List.append_assoc] at hp; exact hp⟩ rfl (fun b => Steps.fin rfl (by simp) ?_))
      cases b with
      | false => exact Tr.condT rfl (Tr.ret ⟨.inl rfl, [], [], [], rfl, rfl, rfl⟩)
      | true =>
        refine Tr.condF rfl (Tr.skip (Tr.regR rfl (by simp) ?_))
        exact ⟨(j + 1, lg2 ++ [eP2 (l[k], m[j])]), _, Wk.le (.cons rfl (.refl _) (.cons rfl (.refl _) (.cons rfl (.refl _) (.cons rfl (.refl _) (.cons rfl (.refl _) (.cons rfl (.refl _) (.cons rfl (.refl _) (.cons rfl (.refl _) (.cons rfl (.refl _) (.cons rfl (VLe.i (w64 (by omega) (by omega))) .nil)))))))))) (.cons rfl (LLe.refl _) .nil) .nil rfl rfl, ⟨⟨by simp only; omega, hp⟩, rfl⟩, by simp only; omega⟩
    · have h2 : j = m.length := by simp at h2; omega
      subst h2
      rw [List.drop_length] at hf2
      refine Tr.exit (Tr.regR rfl (by simp) ?_)
      exact ⟨(k + 1, lg2), _, Wk.le (.cons rfl (.refl _) (.cons rfl (.refl _) (.cons rfl (.refl _) (.cons rfl (.refl _) (.cons rfl (.refl _) (.cons rfl (VLe.i (w64 (by omega) (by omega))) .nil)))))) .nil .nil rfl rfl, ⟨⟨by simp only; omega, by simpa using hf2⟩, rfl⟩, by simp only; omega⟩
  · have h1 : k = l.length := by simp at h1; omega
    subst h1
    rw [List.drop_length] at hf
    refine Tr.exit ⟨.inr ?_, [], [], [], rfl, rfl, rfl⟩
    have e : lg = (pairsL l m).map eP2 := by simpa [pairsL] using hf
    exact e

/-! ### Laid -/
structure Ld where
  g : Gd
  traces : List (Int × Int)
  places : List (List (Int × Int))

def laidC (l : Ld) : List V := gridC l.g ++ [sB l.traces, .slice 0 1 (l.places.map sB)]
def layD (g : Gd) (s : Ly) : Ld := ⟨g, s.traces, s.nodes.map placesL⟩

theorem layOk_spec {s : Ly} (h : layOk s = true) : (s.nodes.length ≤ 16 ∧ s.traces.length ≤ 64) ∧ (∀ f ∈ s.nodes, nodeOk f = true) ∧ ∀ t ∈ s.traces, traceOk s.nodes.length t = true := by
  simp only [layOk, Bool.and_eq_true, decide_eq_true_eq, List.all_eq_true] at h
  exact ⟨h.1.1, h.1.2, h.2⟩

theorem c_lay (g : Gd) {s : Ly} (h : layOk s = true) : C Tryd.prog F.bin_lay [.agg (gridC g), .agg (layC s)] (.agg (laidC (layD g s))) := by
  obtain ⟨⟨hn, ht⟩, hN, hT⟩ := layOk_spec h
  refine C_of mixed chk.bin_lay (by simp) fun S ok => ?_
  refine Tr.seqR rfl (by simp) (Tr.seqR rfl (by simp) (Tr.seq (Tr.seqR rfl (by simp) (Tr.block ?_))))
  refine Tr.loop (fun (k : Nat) st => k ≤ s.nodes.length ∧ st = { env := [(4, .ptr 4 0), (5, .ptr 5 0), (13, .slice 0 8 (s.nodes.map eF)), (14, I (s.nodes.length : Nat)), (15, I (k : Nat))], bx := [(4, ⟨[I 0, I 0, I 0, I 0, I 0, .nils, .nils, .nils], false⟩), (5, ⟨gridC g ++ [sB s.traces, .slice 25 1 (((s.nodes.take k).map placesL).map sB)], false⟩)], rw := [(24, k, 1, 85)], log := [], stp := false }) (fun k => s.nodes.length - k) 0
    (Wk.le (.cons rfl (.refl _) (.cons rfl (.refl _) (.cons rfl (.refl _) (.cons rfl (VLe.i (by simp)) (.cons rfl (.refl _) .nil))))) (.cons rfl (LLe.refl _) (.cons rfl (.cons (.refl _) (.cons (.refl _) (.cons (.refl _) (.cons (.refl _) (.cons (.refl _) (.cons (.refl _) (.cons (.refl _) (.cons (.nil 25 1) .nil)))))))) .nil)) (.new rfl .nil) rfl rfl) ⟨by omega, rfl⟩ ?_
  rintro k st ⟨hk, rfl⟩
  refine Tr.seqR rfl (by simp) (Tr.seqI rfl (fun h1 => ?_) (fun h1 => ?_))
  · have h1 : k < s.nodes.length := by simpa using h1
    have hlen : (((s.nodes.take k).map placesL).map sB).length = k := by simp; omega
    refine Tr.skipT (Tr.seq (Tr.block (Tr.seq (Tr.reg (Steps.runN 1 rfl (by simp; omega) ?_)))))
    rw [getD_map h1]
    refine Steps.fin rfl (by simp) ?_
    refine Tr.drawK (TraceK.run rfl (by simp) (TraceK.call rfl rfl (c_places (hN _ (List.getElem_mem h1))) ?_))
    refine TraceK.run rfl (by simp; omega) (.done ⟨by kernel_rfl, by kernel_rfl, ?_⟩)
    refine Tr.regR rfl (by simp) ?_
    have e : ((s.nodes.take (k + 1)).map placesL).map sB = ((s.nodes.take k).map placesL).map sB ++ [sB (placesL s.nodes[k])] := by
      rw [List.take_add_one, List.getElem?_eq_getElem h1, List.map_append, List.map_append]; rfl
    refine ⟨k + 1, _, Wk.le (.cons rfl (.refl _) (.cons rfl (.refl _) (.cons rfl (.refl _) (.cons rfl (.refl _) (.cons rfl (VLe.i (w64 (by omega) (by omega))) .nil))))) (.cons rfl (LLe.refl _) (.cons rfl (.cons (.refl _) (.cons (.refl _) (.cons (.refl _) (.cons (.refl _) (.cons (.refl _) (.cons (.refl _) (.cons (.refl _) (.cons (.of_eq ?_) .nil)))))))) .nil)) (.cons ?_ .nil) rfl rfl, ⟨h1, rfl⟩, by omega⟩
    · rw [e]; rfl
    · show some _ = some _
      simp; omega
  · have h1 : k = s.nodes.length := by simp at h1; omega
    subst h1
    rw [List.take_length]
    exact Tr.exit (Tr.seqR rfl (by simp) (Tr.retX rfl rfl rfl rfl trivial))

theorem c_begun {g : Gd} {s : Ly} (hl : g.cls.length ≤ 9223372036854775807) (hn : s.nodes.length ≤ 9223372036854775807) (ht : s.traces.length ≤ 9223372036854775807) : C Tryd.prog F.bin_begun [.agg (gridC g), .agg (layC s)]
    (if gridOk g then (if layOk s then .tuple [.agg (laidC (layD g s)), I 0] else .tuple [.agg [I 0, I 0, I 0, I 0, I 0, .nils, .nils, .nils], I 71]) else .tuple [.agg [I 0, I 0, I 0, I 0, I 0, .nils, .nils, .nils], I 70]) := by
  have kg := c_CheckGrid (g := g) hl
  have ks := c_CheckLayout (s := s) hn ht
  refine C_of mixed chk.bin_begun (by simp) fun S ok => ?_
  refine Tr.seqR rfl (by simp) ?_
  by_cases hg : gridOk g = true
  rotate_left
  · rw [if_neg hg] at kg ⊢
    refine Tr.seq (Tr.seqC rfl (by simp) (Steps.call rfl rfl kg (Steps.fin rfl (by simp) (Tr.seqR rfl (by simp) (Tr.condT rfl ?_)))))
    exact Tr.seqR rfl (by simp) (Tr.retX rfl rfl rfl rfl trivial)
  rw [if_pos hg] at kg ⊢
  refine Tr.seq (Tr.seqC rfl (by simp) (Steps.call rfl rfl kg (Steps.fin rfl (by simp) (Tr.seqR rfl (by simp) (Tr.condF rfl (Tr.skip ?_))))))
  by_cases hs : layOk s = true
  rotate_left
  · rw [if_neg hs] at ks ⊢
    refine Tr.seq (Tr.seqC rfl (by simp) (Steps.call rfl rfl ks (Steps.fin rfl (by simp) (Tr.seqR rfl (by simp) (Tr.condT rfl ?_)))))
    exact Tr.seqR rfl (by simp) (Tr.retX rfl rfl rfl rfl trivial)
  rw [if_pos hs] at ks ⊢
  refine Tr.seq (Tr.seqC rfl (by simp) (Steps.call rfl rfl ks (Steps.fin rfl (by simp) (Tr.seqR rfl (by simp) (Tr.condF rfl (Tr.skip ?_))))))
  exact Tr.seqC rfl (by simp) (Steps.call rfl rfl (c_lay g hs) (Steps.fin rfl (by simp [laidC]) (Tr.retX rfl rfl rfl rfl trivial)))

/-! ### Needs -/
def needOk (g : Gd) (l : List Int) : Bool := decide (l.length = g.cls.length) && !(l.any fun n => !btw n 0 100)

theorem c_need1 (n : Int) : C Tryd.prog F.bin_needed_1 [I n] (.bool (!btw n 0 100)) := by
  refine C_of mixed chk.bin_needed_1 (by simp) fun S ok => ?_
  exact Tr.seqR rfl (by simp) (Tr.seqC rfl (by simp) (Steps.call rfl rfl (c_within n 0 100) (Steps.fin rfl (by simp) (Tr.retX rfl rfl rfl rfl trivial))))

theorem c_needed {g : Gd} {l : List Int} (hl : l.length ≤ 9223372036854775807) : C Tryd.prog F.bin_needed [.agg (gridC g), intsV l] (.bool (needOk g l)) := by
  refine C_of mixed chk.bin_needed (by simp) fun S ok => ?_
  refine Tr.seqR rfl (by simp) ?_
  refine Tr.seqC rfl (by simp [intsV]) (Steps.gcall rfl rfl rfl rfl (by simp) (fun _ => c_containsI hl fun n _ => c_need1 n) (Steps.fin rfl (by simp) (Tr.retX rfl rfl rfl ?_ trivial)))
  show V.bool (needOk g l) = .bool (bif (((l.map I).length : Int) == ((g.cls.map eB).length : Int)) then !(l.any fun n => !btw n 0 100) else false)
  unfold needOk
  congr 1
  by_cases h : l.length = g.cls.length
  · simp [h]
  · have : ¬ ((l.length : Int) = (g.cls.length : Int)) := by omega
    simp [h, this]

end Go.Proofs.YtdejdblopmfjfaaDoor


/-! AM, part Zf: an arena: blocks beside the frame's own boxes, known by their exact addresses; what lies in them is told by the log. -/
set_option linter.unusedVariables false
set_option linter.unusedSimpArgs false
namespace Go.Am
open Go.RowKit

/-- What lies in a block: cells of data, or an object that is known exactly. -/
inductive Ob where
  | cells (cs : List V)
  | raw (o : Obj)

def encOb : Nat × Ob → V
  | (b, .cells cs) => .agg (.rptr b 0 :: cs)
  | (b, .raw o) => .tuple [.rptr b 0, .obj o]

theorem encOb_inj : ∀ {p q : Nat × Ob}, encOb p = encOb q → p = q
  | (b, .cells cs), (c, .cells ds), h => by simp [encOb] at h; simp [h]
  | (b, .raw o), (c, .raw u), h => by simp [encOb] at h; simp [h]
  | (b, .cells cs), (c, .raw u), h => by simp [encOb] at h
  | (b, .raw o), (c, .cells ds), h => by simp [encOb] at h

abbrev Arena := List (Nat × Ob)

def encA (A : Arena) : List (List V) := [A.map encOb]

theorem encA_inj {A B : Arena} (h : encA A = encA B) : A = B := by
  simp only [encA, List.cons.injEq, and_true] at h
  revert B
  induction A with
  | nil => intro B h; cases B with
    | nil => rfl
    | cons => simp at h
  | cons p A ih => intro B h; cases B with
    | nil => simp at h
    | cons q B =>
      simp only [List.map_cons, List.cons.injEq] at h
      rw [encOb_inj h.1, ih h.2]

def ObOk (w : World) (φ : Nat → Nat) (b : Nat) : Ob → Prop
  | .cells cs => ∃ vs e, w.heap[b]? = some (.cells vs e (0, 0)) ∧ cs.length ≤ vs.size ∧ ∀ (j : Nat) v x, cs[j]? = some v → vs[j]? = some x → RepD w φ v x ∧ scalar v = true
  | .raw o => w.heap[b]? = some o

theorem ObOk.mono {w w' : World} {φ φ' : Nat → Nat} {b : Nat} {o : Ob} (h : ObOk w φ b o) (hb : w'.heap[b]? = w.heap[b]?) (e : Ext w φ w' φ') : ObOk w' φ' b o := by
  cases o with
  | cells cs =>
    obtain ⟨vs, et, h1, h2, h3⟩ := h
    exact ⟨vs, et, hb.trans h1, h2, fun j v x hv hx => ⟨(h3 j v x hv hx).1.mono e, (h3 j v x hv hx).2⟩⟩
  | raw o => exact hb.trans h

structure Ar (w : World) (φ : Nat → Nat) (M : Nat → Prop) (A : Arena) : Prop where
  nd : (A.map (·.1)).Nodup
  ok : ∀ p ∈ A, ObOk w φ p.1 p.2
  fr : ∀ p ∈ A, ¬ M p.1
  lt : ∀ p ∈ A, p.1 < w.heap.size
  z : ∀ p ∈ A, φ p.1 = 0

/-- The surroundings with an arena in them. -/
def SA (S0 : Sur) (l0 : List (List V)) (s0 : Bool) : Sur := fun log stp M w φ =>
  ∃ A, log = encA A ∧ stp = s0 ∧ Ar w φ M A ∧ S0 l0 s0 (fun b => M b ∨ b ∈ A.map (·.1)) w φ

theorem SA_ok {S0 : Sur} (h0 : S0.ok) (l0 : List (List V)) (s0 : Bool) : (SA S0 l0 s0).ok := by
  refine ⟨?_, fun _ _ _ _ _ ⟨_, _, _, _, h4⟩ => h0.gl _ _ _ _ _ h4⟩
  intro log s M w φ M' w' φ' ⟨A, h1, h2, h3, h4⟩ mv
  have old : ∀ p ∈ A, w'.heap[p.1]? = w.heap[p.1]? ∧ φ' p.1 = φ p.1 := fun p hp => mv.old _ (h3.lt p hp) (h3.fr p hp)
  refine ⟨A, h1, h2, ⟨h3.nd, fun p hp => (h3.ok p hp).mono (old p hp).1 mv.ext, fun p hp hM => ?_, fun p hp => Nat.lt_of_lt_of_le (h3.lt p hp) mv.size, fun p hp => (old p hp).2.trans (h3.z p hp)⟩, h0 _ _ _ _ _ _ _ _ h4 ⟨mv.ext, fun b hb hn => mv.old b hb fun hM => hn (.inl hM), mv.size, mv.os, mv.tape, mv.output, fun b hb => ?_, mv.top⟩⟩
  · rcases mv.mine _ hM with h | h
    · exact h3.fr p hp h
    · have := h3.lt p hp; omega
  · rcases hb with hb | hb
    · exact (mv.mine b hb).imp .inl id
    · exact .inl (.inr hb)

/-- More blocks are the frame's own. -/
theorem Rel.grow {nt : Nat} {S S' : Sur} {log log' : List (List V)} {stp stp' : Bool} {σ : FSt} {a : Act} {w : World} {h : Gh} (R : Rel nt S log stp σ a w h) (M' : Nat → Prop) (hM : ∀ b, h.M b → M' b) (hlt : ∀ b, M' b → b < w.heap.size) (sur : S' log' stp' M' w h.φ) : Rel nt S' log' stp' σ a w { h with M := M' } where
  size := R.size
  env := fun t v hv => R.env t v hv
  bx := fun i bo hb => by
    obtain ⟨blk, cs, e, h1, h2, h3, h4, h5, h6⟩ := R.bx i bo hb
    exact ⟨blk, cs, e, h1, hM _ h2, h3, h4, h5, h6⟩
  dom := R.dom
  inj := R.inj
  rows := fun r n sz et hr => by
    rcases R.rows r n sz et hr with ⟨e, e'⟩ | ⟨b, cs, hb', hMb, hh, hp, hn⟩
    · exact .inl ⟨e, e'⟩
    · exact .inr ⟨b, cs, hb', hM _ hMb, hh, hp, hn⟩
  rdom := R.rdom
  rinj := R.rinj
  apart := R.apart
  pins := R.pins
  mine := hlt
  top := R.top
  marks := R.marks.congr fun r hMr hh => ⟨hM _ hMr, hh⟩
  sur := sur

abbrev Env.withA (E : Env) (l0 : List (List V)) (s0 : Bool) : Env := { E with S := SA E.S l0 s0, ys := [], ok := SA_ok E.ok l0 s0, lk := fun _ => True }

/-- **A FRAME WITH AN ARENA.** -/
theorem Tr.arena {E : Env} {ro : Option Nat} {ic : IC} {Q : Exit → St → Prop} {s : St} (hys : E.ys = []) (hlk : E.lk = fun _ => True)
    (h : Tr (E.withA s.log s.stp) ro ic (fun e t => Q e { t with log := s.log, stp := s.stp }) { s with log := encA [] }) : Tr E ro ic Q s := fun c hc n a w g R Q' hq => by
  have R1 : (E.withA s.log s.stp).rel { s with log := encA [] } a w g := by
    refine ⟨?_, ?_⟩
    · have e : (fun b => g.M b ∨ b ∈ (([] : Arena).map (·.1))) = g.M := by funext b; simp
      exact { R.1 with sur := ⟨[], rfl, rfl, ⟨by simp, by simp, by simp, by simp, by simp⟩, by rw [e]; exact R.1.sur⟩ }
    · refine ⟨fun l hl => ⟨?_, trivial⟩, R.2.2⟩
      intro log x M w φ xs hp
      exact absurd hp.length_le (by simp)
  refine h c hc n a w g R1 Q' fun e t a' w' h' hQ R' hy => ?_
  obtain ⟨A, h1, h2, h3, h4⟩ := R'.1.sur
  refine hq e _ a' w' { h' with M := fun b => h'.M b ∨ b ∈ A.map (·.1) } hQ ⟨?_, ?_⟩ hy
  · exact R'.1.grow _ (fun b hb => .inl hb) (fun b hb => by
      rcases hb with hb | hb
      · exact R'.1.mine b hb
      · obtain ⟨p, hp, rfl⟩ := List.mem_map.1 hb
        exact h3.lt p hp) h4
  · refine ⟨fun l hl => ⟨?_, by rw [hlk]; trivial⟩, R'.2.2⟩
    intro log x M w φ xs hp
    rw [hys] at hp
    exact absurd hp.length_le (by simp)

/-- A frame in which an arena is at hand. -/
structure InA (E : Env) (S0 : Sur) (l0 : List (List V)) (s0 : Bool) : Prop where
  sub : Sub E.S (SA S0 l0 s0)
  ok : S0.ok

theorem InA.main {E : Env} (l0 : List (List V)) (s0 : Bool) : InA (E.withA l0 s0) E.S l0 s0 := ⟨Sub.refl _, E.ok⟩

section
variable {E : Env} {S0 : Sur} {l0 : List (List V)} {s0 : Bool} {A : Arena} {stp : Bool} {σ : FSt} {a : Act} {w : World} {h : Gh}

/-- What is known of the arena. -/
theorem InA.ar (hE : InA E S0 l0 s0) (R : E.relF (encA A) stp σ a w h) : Ar w h.φ h.M A := by
  obtain ⟨M1, hM1, hlt, ⟨A0, e, hs, hA, hS⟩, back⟩ := hE.sub _ _ _ _ _ R.1.sur R.1.mine
  obtain rfl := encA_inj e
  exact ⟨hA.nd, hA.ok, fun p hp hM => hA.fr p hp (hM1 _ hM), hA.lt, hA.z⟩

/-- The arena is turned, or grows. -/
theorem InA.step (hE : InA E S0 l0 s0) (R : E.relF (encA A) stp σ a w h) {w' : World} {B : Arena} (hold : ∀ b, b < w.heap.size → b ∉ A.map (·.1) → w'.heap[b]? = w.heap[b]?) (hsz : w.heap.size ≤ w'.heap.size) (hos : w'.os = w.os) (htp : w'.tape = w.tape) (hou : w'.output = w.output)
    (hnew : ∀ p ∈ B, p.1 ∈ A.map (·.1) ∨ w.heap.size ≤ p.1) (hkeep : ∀ p ∈ A, p.1 ∈ B.map (·.1)) (hnd : (B.map (·.1)).Nodup) (hok : Ext w h.φ w' h.φ → ∀ p ∈ B, ObOk w' h.φ p.1 p.2) (hlt : ∀ p ∈ B, p.1 < w'.heap.size) : E.relF (encA B) stp σ a w' h := by
  obtain ⟨M1, hM1, hlt1, ⟨A0, e, hs, hA, hS⟩, back⟩ := hE.sub _ _ _ _ _ R.1.sur R.1.mine
  obtain rfl := encA_inj e
  have notA : ∀ b o, o < h.φ b → b < w.heap.size ∧ b ∉ A.map (·.1) := fun b o ho => by
    refine ⟨?_, fun hb => ?_⟩
    · rcases Nat.lt_or_ge b w.heap.size with h1 | h1
      · exact h1
      · rw [R.1.top b h1] at ho; omega
    · obtain ⟨p, hp, rfl⟩ := List.mem_map.1 hb
      rw [hA.z p hp] at ho; omega
  have ext : Ext w h.φ w' h.φ := fun b o ho => by
    obtain ⟨h1, h2⟩ := notA b o ho
    exact ⟨ho, World.cell?_of_block (hold b h1 h2), mapAt_of_block (hold b h1 h2)⟩
  have top' : ∀ b, w'.heap.size ≤ b → h.φ b = 0 := fun b hb => R.1.top b (by omega)
  have own : ∀ b, M1 b → w'.heap[b]? = w.heap[b]? ∧ h.φ b = h.φ b := fun b hb => ⟨hold b (hlt1 b hb) fun hm => by
    obtain ⟨p, hp, rfl⟩ := List.mem_map.1 hm
    exact hA.fr p hp hb, rfl⟩
  have sa : SA S0 l0 s0 (encA B) stp M1 w' h.φ := by
    refine ⟨B, rfl, hs, ⟨hnd, hok ext, fun p hp hM => ?_, hlt, fun p hp => ?_⟩, hE.ok _ _ _ _ _ _ _ _ hS ⟨ext, fun b hb hn => ⟨hold b hb fun hm => hn (.inr hm), rfl⟩, hsz, hos, htp, hou, fun b hb => ?_, top'⟩⟩
    · rcases hnew p hp with h1 | h1
      · obtain ⟨q, hq, e⟩ := List.mem_map.1 h1
        exact hA.fr q hq (e ▸ hM)
      · have := hlt1 _ hM; omega
    · rcases hnew p hp with h1 | h1
      · obtain ⟨q, hq, e⟩ := List.mem_map.1 h1
        rw [← e]; exact hA.z q hq
      · exact R.1.top _ h1
    · rcases hb with hb | hb
      · exact .inl (.inl hb)
      · obtain ⟨p, hp, rfl⟩ := List.mem_map.1 hb
        exact (hnew p hp).imp .inr id
  have sur' := back (encA B) stp w' h.φ sa ext own hsz top' hos htp hou
  exact ⟨rel_round R.1 ext (fun b hb => own b (hM1 b hb)) hsz top' sur', R.2⟩

end

/-! ### What lies in an arena is read, and written -/
/-- The arena with another object in a block. -/
def setA (A : Arena) (b : Nat) (o : Ob) : Arena := A.map fun p => if p.1 = b then (b, o) else p

theorem setA_keys (A : Arena) (b : Nat) (o : Ob) : (setA A b o).map (·.1) = A.map (·.1) := by
  unfold setA
  rw [List.map_map]
  congr 1
  funext p
  simp only [Function.comp]
  split
  · rename_i h; exact h.symm
  · rfl

theorem setA_mem {A : Arena} {b : Nat} {o : Ob} {p : Nat × Ob} (h : p ∈ setA A b o) : (p.1 = b ∧ p.2 = o) ∨ (p.1 ≠ b ∧ p ∈ A) := by
  obtain ⟨q, hq, e⟩ := List.mem_map.1 h
  split at e
  · subst e; exact .inl ⟨rfl, rfl⟩
  · subst e; rename_i h1; exact .inr ⟨h1, hq⟩

section
variable {E : Env} {S0 : Sur} {l0 : List (List V)} {s0 : Bool} {A : Arena}

theorem opK_load1 {P : Program} {o : Oper} {os : List Operand} (hk : opK P o.op = some (.load 1 false, os)) : ∃ t p d, o.op = .load t p ∧ szOf P t = some 1 ∧ P.underlying t = some d ∧ aggB P t = false ∧ os = [p] := by
  cases ho : o.op <;> rw [ho] at hk <;> simp only [opK] at hk <;> (try (cases hk; done)) <;> (try (repeat' (split at hk <;> (try (cases hk; done)))))
  all_goals first
    | (simp only [Option.map_eq_some_iff, Prod.mk.injEq] at hk; obtain ⟨_, _, h1, _⟩ := hk; cases h1; done)
    | (simp only [eqKind] at hk; repeat' (split at hk <;> (try (cases hk; done))))
    | (rename_i h1 h2 h3 h4; subst h4; cases hk; exact ⟨_, _, _, rfl, by assumption, by assumption, Bool.eq_false_iff.2 h3, rfl⟩)

theorem opK_store1 {P : Program} {o : Oper} {os : List Operand} {n : Nat} (hk : opK P o.op = some (.store n, os)) : ∃ t p q, o.op = .store t p q ∧ szOf P t = some n ∧ os = [p, q] := by
  cases ho : o.op <;> rw [ho] at hk <;> simp only [opK] at hk <;> (try (cases hk; done)) <;> (try (repeat' (split at hk <;> (try (cases hk; done)))))
  all_goals first
    | (simp only [Option.map_eq_some_iff, Prod.mk.injEq, K.store.injEq] at hk; obtain ⟨m, hm, rfl, rfl⟩ := hk; exact ⟨_, _, _, rfl, hm, rfl⟩)
    | (simp only [Option.map_eq_some_iff, Prod.mk.injEq] at hk; obtain ⟨_, _, h1, _⟩ := hk; cases h1; done)
    | (simp only [eqKind] at hk; repeat' (split at hk <;> (try (cases hk; done))))

theorem ok_rptr {σ : FSt} {h : Gh} {w : World} {blk off : Nat} {x : Value} (o : Ok σ h w (.rptr blk off) x) : x = .pointer (some ⟨blk, off, none⟩) := by
  obtain ⟨r, _⟩ := o
  cases r with
  | data r => cases r; rfl

theorem ok_sref {σ : FSt} {h : Gh} {w : World} {blk off len cap : Nat} {x : Value} (o : Ok σ h w (.sref blk off len cap) x) : x = .slice (some ⟨blk, off, none⟩) len cap := by
  obtain ⟨r, _⟩ := o
  cases r with
  | data r => cases r; rfl

theorem guard_none {slots : List (Option Nat)} {P : Program} {nt : Nat} {o : Oper} {ins : Ins} {os : List Operand} (cc : Comp P nt slots o ins os) (hg : ins.g = none) : o.guard = none := by
  rcases cc.guard with ⟨_, e⟩ | ⟨j, want, t, _, _, e⟩
  · exact e
  · rw [hg] at e; cases e

/-- A cell of an arena's block is read. -/
theorem Steps.aload (hE : InA E S0 l0 s0) {K : St → Prop} {s : St} {d : Nat} {x : X} {rest : List Ins} {blk off : Nat} {cs : List V} {v : V} (hx : evXs s.env [x] = some [.rptr blk off]) (hl : s.log = encA A) (hA : (blk, .cells cs) ∈ A) (hv : cs[off]? = some v)
    (hk : Steps E rest K (s.put (some d) v)) : Steps E (⟨some d, .load 1 false, [x], none⟩ :: rest) K s := by
  refine Step1.raw fun slots ops o i ro n a w h hc hs hi R Q next hn => ?_
  obtain ⟨os, cc⟩ := comp_of hc
  have hgo := guard_none cc rfl
  have hdf := opK_defer cc.op
  obtain ⟨t, p, dd, e1, e2, e3, e4, rfl⟩ := opK_load1 cc.op
  obtain ⟨u, hu, o1⟩ := (opds_of R.1 cc.xs (evXs_ok hx)).one
  simp only [List.cons.injEq, and_true] at hu
  subst hu
  have ep := ok_rptr o1
  have R' : E.relF (encA A) s.stp s.fs a w h := by rw [← hl]; exact R
  obtain ⟨vs, et, h1, h2, h3⟩ := (hE.ar R').ok _ hA
  have hlt : off < vs.size := by have := (List.getElem?_eq_some_iff.1 hv).1; omega
  obtain ⟨r, sc⟩ := h3 off v _ hv (Array.getElem?_eq_getElem hlt)
  have hcell : w.cell? ⟨blk, off, none⟩ = some vs[off] := by rw [cell_of_row w blk off vs et (0, 0) h1]; simp [hlt]
  have hex : (execOp a.eval o).run E.P w = .ok (.value vs[off]) w := by
    simp only [execOp, e1, ep, Sem.run_bind]
    rw [run_loadAt (cs := [vs[off]]) e2 e3 rfl (fun j v hv => by
      cases j with
      | zero => cases hv; exact hcell
      | succ j => cases hv) (by rw [e4]; rfl)]
    rfl
  refine wpOp_done hi (wanted_none hgo) hdf (.inl hex) (hn _ _ _ h hk ?_ rfl)
  have ok : Ok s.fs h w v vs[off] := ⟨.data r, GrowV.of_data r⟩
  show E.relF _ _ _ _ _ _
  rw [(put_log _ _ _).1, (put_log _ _ _).2, fs_put]
  exact rel_after (eff := { v := _ }) cc R R.1 ok rfl

/-- A cell of an arena's block is written. -/
theorem Steps.astore (hE : InA E S0 l0 s0) {K : St → Prop} {s : St} {x y : X} {rest : List Ins} {blk off : Nat} {cs : List V} {v : V} (hx : evXs s.env [x, y] = some [.rptr blk off, v]) (hl : s.log = encA A) (hA : (blk, .cells cs) ∈ A) (hoff : off < cs.length) (hv : isD v = true) (hsc : scalar v = true)
    (hk : Steps E rest K { s with log := encA (setA A blk (.cells (cs.set off v))) }) : Steps E (⟨none, .store 1, [x, y], none⟩ :: rest) K s := by
  refine Step1.raw fun slots ops o i ro n a w h hc hs hi R Q next hn => ?_
  obtain ⟨os, cc⟩ := comp_of hc
  have hgo := guard_none cc rfl
  have hdf := opK_defer cc.op
  obtain ⟨t, p, q, e1, e2, rfl⟩ := opK_store1 cc.op
  obtain ⟨u, u', hu, o1, o2⟩ := (opds_of R.1 cc.xs (evXs_ok hx)).two
  simp only [List.cons.injEq, and_true] at hu
  obtain ⟨hu1, rfl⟩ := hu
  subst hu1
  have ep := ok_rptr o1
  have R' : E.relF (encA A) s.stp s.fs a w h := by rw [← hl]; exact R
  have hAr := hE.ar R'
  obtain ⟨vs, et, h1, h2, h3⟩ := hAr.ok _ hA
  have rv : RepD w h.φ v (a.eval q) := rep_isD hv o2.1
  have hc1 : (a.eval q).cells = #[a.eval q] := (scalar_value o2.1 hsc).2
  have hone : ∀ z ∈ [a.eval q], z.oneCell' = true := fun z hz => by
    obtain rfl : z = a.eval q := by simpa using hz
    exact (scalar_value o2.1 hsc).1
  have hrun := run_storeCells_at E.P blk off et [a.eval q] 0 vs w h1 (by simp; omega) hone
  simp only [Nat.add_zero] at hrun
  have R2 := hE.step R' (B := setA A blk (.cells (cs.set off v)))
    (fun b hb hn => setRow_other w blk b (vs.toList.take off ++ [a.eval q] ++ vs.toList.drop (off + [a.eval q].length)).toArray (fun e => hn (e ▸ List.mem_map.2 ⟨_, hA, rfl⟩))) (by simp) rfl rfl rfl
    (fun p hp => .inl (by rw [← setA_keys A blk (.cells (cs.set off v))]; exact List.mem_map.2 ⟨p, hp, rfl⟩)) (fun p hp => by rw [setA_keys]; exact List.mem_map.2 ⟨p, hp, rfl⟩) (by rw [setA_keys]; exact hAr.nd)
    (fun ext p hp => by
      rcases setA_mem hp with ⟨e, e'⟩ | ⟨hne, hp⟩
      · rw [e, e']
        refine ⟨_, et, setRow_heap w blk vs _ et (0, 0) h1, by simp; omega, fun j u z hu hz => ?_⟩
        rw [List.getElem?_toArray, splice_get (by simp; omega)] at hz
        by_cases ej : j = off
        · subst ej
          rw [List.getElem?_set_self hoff] at hu
          rw [if_neg (by omega), if_pos (by simp)] at hz
          cases hu
          simp at hz
          subst hz
          exact ⟨rv.mono ext, hsc⟩
        · rw [List.getElem?_set_ne (fun h => ej h.symm)] at hu
          have hz' : vs[j]? = some z := by
            by_cases h5 : j < off
            · rw [if_pos h5] at hz; simpa using hz
            · rw [if_neg h5, if_neg (by simp; omega)] at hz; simpa using hz
          exact ⟨(h3 j u z hu hz').1.mono ext, (h3 j u z hu hz').2⟩
      · exact (hAr.ok p hp).mono (setRow_other w blk p.1 _ hne) ext) (fun p hp => by
      have hk : p.1 ∈ A.map (·.1) := by rw [← setA_keys A blk (.cells (cs.set off v))]; exact List.mem_map.2 ⟨p, hp, rfl⟩
      obtain ⟨q', hq', e⟩ := List.mem_map.1 hk
      have := hAr.lt q' hq'
      rw [← e]; simpa using this)
  have hd : o.dst = none := cc.d.symm
  have R3 : E.rel { s with log := encA (setA A blk (.cells (cs.set off v))) } (a.put o.dst undef) (w.setRow blk (vs.toList.take off ++ [a.eval q] ++ vs.toList.drop (off + [a.eval q].length)).toArray) h := by rw [hd]; exact R2
  refine wpOp_done (x := undef) hi (wanted_none hgo) hdf (.inr ⟨?_, rfl⟩) (hn _ _ _ h hk R3 rfl)
  simp only [execOp, e1, ep, Instr.storeAt, Instr.sureAddr, Sem.run_bind, Sem.run_pure, Result.andThen_ok, storeVar, run_szOf e2]
  rw [if_neg (by rw [hc1]; simp), hc1]
  rw [hrun]
  rfl

end
end Go.Am


/-! AM, part Zg: sets of pairs of numbers in an arena: made, filled, gone through in whatever order. -/
set_option linter.unusedVariables false
set_option linter.unusedSimpArgs false
namespace Go.Am
open Go.RowKit

theorem setOk_law {P : Program} {kt e : TypeId} (hm : setOk P kt e = true) : Maps.Keyed P kt ∧ P.underlying e = some .bool ∧
    ∀ a b : Int, (-9223372036854775808 ≤ a ∧ a < 9223372036854775808) → (-9223372036854775808 ≤ b ∧ b < 9223372036854775808) → ∃ l, keyOf P kt (.agg #[.int .i64 a, .int .i64 b]) = some l := by
  unfold setOk at hm
  simp only [Bool.and_eq_true, decide_eq_true_eq, beq_iff_eq] at hm
  obtain ⟨⟨⟨⟨⟨⟨⟨h1, h2⟩, h3⟩, h4⟩, h5⟩, h6⟩, h7⟩, h8⟩ := hm
  have i64 : ∀ {t : TypeId}, isI64 P t = true → P.underlying t = some (.int .i64) := by
    intro t h
    unfold isI64 at h
    split at h
    · assumption
    · cases h
  refine ⟨Maps.Keyed.of_law (deep_law_laid h1 (m := 2) (by omega) h2 h3 ?_), ?_, ?_⟩
  · split at h8
    · rename_i fs hfs; rw [hfs]
    · cases h8
  · split at h5
    · assumption
    · cases h5
  · intro a b ha hb
    split at h8
    · rename_i fs hfs
      split at h8
      · rename_i f g hfg
        simp only [Bool.and_eq_true, beq_iff_eq, bne_iff_ne, ne_eq] at h8
        obtain ⟨⟨⟨⟨⟨⟨⟨g1, g2⟩, g3⟩, g4⟩, g5⟩, g6⟩, g7⟩, g8⟩ := h8
        have wf : ∀ n : Int, (-9223372036854775808 ≤ n ∧ n < 9223372036854775808) → (Lit.int .i64 n).wf = true := fun n hn => WalkArith.wf_i64 ⟨hn.1, by omega⟩
        obtain ⟨n, hn⟩ : ∃ n, P.types.size = n + 1 := by
          cases hs : P.types.size with
          | zero => rw [hs] at h2; exact absurd h2 (Nat.not_lt_zero _)
          | succ n => exact ⟨n, rfl⟩
        have hall : fs.all (fun f => f.name != "_") = true := by
          rw [← Array.all_toList, hfg]; simp [g1, g2]
        refine ⟨_, by
          unfold keyOf
          rw [hfs]
          simp only [h4, Value.formed, hfs, h7, Bool.true_and]
          rw [if_pos (by simp)]
          rw [hn]
          simp only [Program.keyLits, hfs, Value.cells]
          rw [if_pos ⟨by simp [h7], hall⟩, hfg]
          simp [g3, g4, g7, g8, i64 g5, i64 g6, wf a ha, wf b hb]
          rfl⟩
      · cases h8
    · cases h8

theorem setB_same {w : World} {b : Nat} {x : Obj} (h : w.heap[b]? = some x) (o : Obj) : (ChangeMaps.setBlock w b o).heap[b]? = some o := by
  have := (Array.getElem?_eq_some_iff.1 h).1
  simp [ChangeMaps.setBlock, this]

theorem setB_other {w : World} {b k : Nat} (o : Obj) (h : k ≠ b) : (ChangeMaps.setBlock w b o).heap[k]? = w.heap[k]? := by
  simp only [ChangeMaps.setBlock]
  rw [Array.getElem?_setIfInBounds_ne (fun e => h e.symm)]

def keyV (k : Int × Int) : Value := .agg #[.int .i64 k.1, .int .i64 k.2]

theorem keyV_inj {a b : Int × Int} (h : keyV a = keyV b) : a = b := by
  unfold keyV at h
  simp only [Value.agg.injEq, Array.mk.injEq, List.cons.injEq, Value.int.injEq, true_and, and_true] at h
  exact Prod.ext h.1 h.2

/-- A map that holds just these keys, each with 'true'. -/
structure SetIs (es : Array MapEntry) (clock : Nat) (ks : List (Int × Int)) : Prop where
  st : MapKept.Stamped es clock
  max : es.size ≤ 100000
  ent : ∀ e ∈ es.toList, ∃ k ∈ ks, e.key = keyV k ∧ e.val = .bool true
  all : ∀ k ∈ ks, (inI k.1 ∧ inI k.2) ∧ ∃ e ∈ es.toList, e.key = keyV k
  nd : es.toList.Pairwise fun x y => x.key ≠ y.key

theorem SetIs.made : SetIs #[] 0 [] := ⟨MapKept.stamped_empty 0, by simp, by simp, by simp, by simp⟩

theorem SetIs.fit {P : Program} {kt e : TypeId} {es : Array MapEntry} {clock : Nat} {ks : List (Int × Int)} (hm : setOk P kt e = true) (h : SetIs es clock ks) : WideElems.Fit (H := Unit) P kt (Go.plainElem P e) es clock := by
  obtain ⟨K, hu, hkey⟩ := setOk_law hm
  refine ⟨by have := h.max; unfold maxLen; omega, h.st, fun x hx => ?_⟩
  obtain ⟨k, hk, k1, k2⟩ := h.ent x hx
  obtain ⟨⟨i1, i2⟩, _⟩ := h.all k hk
  obtain ⟨kl, hkl⟩ := hkey k.1 k.2 i1 i2
  unfold WideElems.rd
  rw [k1, keyV, hkl, k2, Go.plainElem_bool hu]
  exact ⟨_, rfl⟩

/-- A key is put. -/
theorem SetIs.put {P : Program} {t kt e : TypeId} {w : World} {mb : Nat} {es : Array MapEntry} {clock : Nat} {ks : List (Int × Int)} (hm : setOk P kt e = true) (ht : P.underlying t = some (.map kt e)) (hb : w.heap[mb]? = some (.map es clock)) (h : SetIs es clock ks) {k : Int × Int} (hk : inI k.1 ∧ inI k.2) (hroom : es.size < 100000) :
    ∃ es' clock', (Instr.mapUpdate t (.map (some mb)) (keyV k) (.bool true)).run P w = .ok () (ChangeMaps.setBlock w mb (.map es' clock')) ∧ SetIs es' clock' (ks ++ [k]) ∧ es'.size ≤ es.size + 1 := by
  obtain ⟨K, hu, hkey⟩ := setOk_law hm
  obtain ⟨kl, hkl⟩ := hkey k.1 k.2 hk.1 hk.2
  have F := h.fit hm
  obtain ⟨es', clock', hrun, F', hput, _, _, hall⟩ := Maps.fit_store (R' := Go.plainElem (H := Unit) P e) K ht hb F (by have := h.max; unfold maxLen; omega) (fun _ _ _ _ hz => hz) hkl (Go.plainElem_bool hu true)
  have hsz : es'.size ≤ es.size + 1 := by
    have e1 : es'.size = ((es'.toList.map (WideElems.rg P kt (Go.plainElem (H := Unit) P e))).foldr DataW.insert []).length := by rw [Go.length_sorted]; simp
    rw [e1, hput]
    unfold ChangeMaps.putKey
    rw [Go.length_insert]
    have e2 := List.length_filter_le (ChangeMaps.notKey kl) ((es.toList.map (WideElems.rg P kt (Go.plainElem (H := Unit) P e))).foldr DataW.insert [])
    rw [Go.length_sorted] at e2
    simp at e2
    omega
  have hnd' : es'.toList.Pairwise fun x y => x.key ≠ y.key := by
    have key1 : ∀ x ∈ es.toList, keyOf P kt x.key = some (WideElems.rg P kt (Go.plainElem (H := Unit) P e) x).1 := fun x hx => by
      obtain ⟨y, hy⟩ := F.reads x hx
      rw [WideElems.rg_of hy]; exact WideElems.rd_key hy
    have key2 : ∀ x ∈ es'.toList, keyOf P kt x.key = some (WideElems.rg P kt (Go.plainElem (H := Unit) P e) x).1 := fun x hx => by
      obtain ⟨y, hy⟩ := F'.reads x hx
      rw [WideElems.rg_of hy]; exact WideElems.rd_key hy
    have n1 : ((es.toList.map (WideElems.rg P kt (Go.plainElem (H := Unit) P e))).map (·.1)).Nodup := by
      rw [List.map_map]
      unfold List.Nodup
      rw [List.pairwise_map]
      refine h.nd.imp_of_mem fun {x y} hx hy hne e => hne ?_
      exact K.inj (key1 x hx) (by rw [key1 y hy]; exact congrArg some e.symm)
    have n2 : (((es.toList.map (WideElems.rg P kt (Go.plainElem (H := Unit) P e))).foldr DataW.insert []).map (·.1)).Nodup := (((WideShapes.sorted_perm _).map _).nodup_iff).2 n1
    have n3 : (((es'.toList.map (WideElems.rg P kt (Go.plainElem (H := Unit) P e))).foldr DataW.insert []).map (·.1)).Nodup := by
      rw [hput]
      unfold ChangeMaps.putKey
      refine (((WideShapes.insert_perm _ _).map _).nodup_iff).2 ?_
      rw [List.map_cons, List.nodup_cons]
      refine ⟨fun hm => ?_, n2.sublist (List.Sublist.map _ List.filter_sublist)⟩
      obtain ⟨q, hq, e⟩ := List.mem_map.1 hm
      exact (Maps.notKey_iff (K.key hkl)).1 (List.mem_filter.1 hq).2 e
    have n4 : ((es'.toList.map (WideElems.rg P kt (Go.plainElem (H := Unit) P e))).map (·.1)).Nodup := (((WideShapes.sorted_perm _).map _).nodup_iff).1 n3
    rw [List.map_map] at n4
    unfold List.Nodup at n4
    rw [List.pairwise_map] at n4
    refine n4.imp_of_mem fun {x y} hx hy hne e => hne ?_
    have e1 := key2 x hx
    rw [e, key2 y hy] at e1
    exact (Option.some.inj e1).symm
  refine ⟨es', clock', hrun, ⟨F'.stamped, by omega, fun x hx => ?_, fun j hj => ?_, hnd'⟩, hsz⟩
  · rcases hall x hx with ⟨hx1, _⟩ | ⟨hx1, hx2⟩
    · obtain ⟨j, hj, j1, j2⟩ := h.ent x hx1
      exact ⟨j, by simp [hj], j1, j2⟩
    · exact ⟨k, by simp, hx1, hx2⟩
  · have hmem : ∀ q, q ∈ es'.toList.map (WideElems.rg P kt (Go.plainElem (H := Unit) P e)) ↔ q ∈ ChangeMaps.putKey kl (.lit (.bool true)) ((es.toList.map (WideElems.rg P kt (Go.plainElem (H := Unit) P e))).foldr DataW.insert []) := fun q => by
      rw [← hput, (WideShapes.sorted_perm _).mem_iff]
    have key_of : ∀ x ∈ es'.toList, ∀ l d, WideElems.rg P kt (Go.plainElem (H := Unit) P e) x = (l, d) → keyOf P kt x.key = some l := fun x hx l d hxe => by
      obtain ⟨y, hy⟩ := F'.reads x hx
      have := WideElems.rd_key hy
      rw [WideElems.rg_of hy] at hxe
      rw [this, hxe]
    have last : ∃ x ∈ es'.toList, x.key = keyV k := by
      have : (kl, DataW.lit (.bool true)) ∈ es'.toList.map (WideElems.rg P kt (Go.plainElem (H := Unit) P e)) := by
        rw [hmem]; unfold ChangeMaps.putKey; rw [ChangeMaps.mem_insert_iff]; exact .inl rfl
      obtain ⟨x, hx, hxe⟩ := List.mem_map.1 this
      exact ⟨x, hx, K.inj (key_of x hx _ _ hxe) hkl⟩
    rcases List.mem_append.1 hj with hj | hj
    · obtain ⟨hi, x0, hx0, hk0⟩ := h.all j hj
      refine ⟨hi, ?_⟩
      by_cases ejk : j = k
      · subst ejk; exact last
      obtain ⟨y0, hy0⟩ := F.reads x0 hx0
      have hk1 := WideElems.rd_key hy0
      have hne : y0.1 ≠ kl := fun he => by
        rw [he] at hk1
        have := K.inj hk1 hkl
        rw [hk0] at this
        exact ejk (keyV_inj this)
      have : y0 ∈ es'.toList.map (WideElems.rg P kt (Go.plainElem (H := Unit) P e)) := by
        rw [hmem]; unfold ChangeMaps.putKey; rw [ChangeMaps.mem_insert_iff]
        refine .inr (List.mem_filter.2 ⟨?_, ?_⟩)
        · rw [(WideShapes.sorted_perm _).mem_iff]
          exact List.mem_map.2 ⟨x0, hx0, WideElems.rg_of hy0⟩
        · exact (Maps.notKey_iff (K.key hkl)).2 hne
      obtain ⟨x1, hx1, hxe⟩ := List.mem_map.1 this
      refine ⟨x1, hx1, ?_⟩
      have := K.inj (key_of x1 hx1 y0.1 y0.2 hxe) hk1
      rw [this, hk0]
    · obtain rfl : j = k := by simpa using hj
      exact ⟨hk, last⟩

theorem opK_raw0 {P : Program} {o : Oper} {os : List Operand} {t u : Nat} (hk : opK P o.op = some (.raw 0 t u, os)) : ∃ kt e, o.op = .makeMap t none ∧ P.underlying t = some (.map kt e) ∧ setOk P kt e = true ∧ os = [] := by
  cases ho : o.op <;> rw [ho] at hk <;> simp only [opK] at hk <;> (try (cases hk; done)) <;> (try (repeat' (split at hk <;> (try (cases hk; done)))))
  all_goals first
    | (simp only [Option.map_eq_some_iff, Prod.mk.injEq] at hk; obtain ⟨_, _, h1, _⟩ := hk; cases h1; done)
    | (simp only [eqKind] at hk; repeat' (split at hk <;> (try (cases hk; done))))
    | (cases hk; exact ⟨_, _, rfl, by assumption, by assumption, rfl⟩)

theorem opK_raw1 {P : Program} {o : Oper} {os : List Operand} {t u : Nat} (hk : opK P o.op = some (.raw 1 t u, os)) : ∃ p q r kt e, o.op = .mapUpdate t p q r ∧ P.underlying t = some (.map kt e) ∧ setOk P kt e = true ∧ os = [p, q, r] := by
  cases ho : o.op <;> rw [ho] at hk <;> simp only [opK] at hk <;> (try (cases hk; done)) <;> (try (repeat' (split at hk <;> (try (cases hk; done)))))
  all_goals first
    | (simp only [Option.map_eq_some_iff, Prod.mk.injEq] at hk; obtain ⟨_, _, h1, _⟩ := hk; cases h1; done)
    | (simp only [eqKind] at hk; repeat' (split at hk <;> (try (cases hk; done))))
    | (cases hk; exact ⟨_, _, _, _, _, rfl, by assumption, by assumption, rfl⟩)

theorem opK_raw2 {P : Program} {o : Oper} {os : List Operand} {t u : Nat} (hk : opK P o.op = some (.raw 2 t u, os)) : ∃ p kt e, o.op = .range t p ∧ P.underlying t = some (.map kt e) ∧ setOk P kt e = true ∧ os = [p] := by
  cases ho : o.op <;> rw [ho] at hk <;> simp only [opK] at hk <;> (try (cases hk; done)) <;> (try (repeat' (split at hk <;> (try (cases hk; done)))))
  all_goals first
    | (simp only [Option.map_eq_some_iff, Prod.mk.injEq] at hk; obtain ⟨_, _, h1, _⟩ := hk; cases h1; done)
    | (simp only [eqKind] at hk; repeat' (split at hk <;> (try (cases hk; done))))
    | (cases hk; exact ⟨_, _, _, rfl, by assumption, by assumption, rfl⟩)

theorem opK_raw3 {P : Program} {o : Oper} {os : List Operand} {t u : Nat} (hk : opK P o.op = some (.raw 3 t u, os)) : ∃ p, o.op = .next p false ∧ os = [p] := by
  cases ho : o.op <;> rw [ho] at hk <;> simp only [opK] at hk <;> (try (cases hk; done)) <;> (try (repeat' (split at hk <;> (try (cases hk; done)))))
  all_goals first
    | (simp only [Option.map_eq_some_iff, Prod.mk.injEq] at hk; obtain ⟨_, _, h1, _⟩ := hk; cases h1; done)
    | (simp only [eqKind] at hk; repeat' (split at hk <;> (try (cases hk; done))))
    | (cases hk; exact ⟨_, by simp_all, rfl⟩)

theorem opK_raw4 {P : Program} {o : Oper} {os : List Operand} {t u : Nat} (hk : opK P o.op = some (.raw 4 t u, os)) : ∃ p, o.op = .entry p ∧ os = [p] := by
  cases ho : o.op <;> rw [ho] at hk <;> simp only [opK] at hk <;> (try (cases hk; done)) <;> (try (repeat' (split at hk <;> (try (cases hk; done)))))
  all_goals first
    | (simp only [Option.map_eq_some_iff, Prod.mk.injEq] at hk; obtain ⟨_, _, h1, _⟩ := hk; cases h1; done)
    | (simp only [eqKind] at hk; repeat' (split at hk <;> (try (cases hk; done))))
    | (cases hk; exact ⟨_, rfl, rfl⟩)

section
variable {E : Env} {S0 : Sur} {l0 : List (List V)} {s0 : Bool} {A : Arena}

theorem ok_rmap {σ : FSt} {h : Gh} {w : World} {blk : Nat} {x : Value} (o : Ok σ h w (.rmap blk) x) : x = .map (some blk) := by
  obtain ⟨r, _⟩ := o
  cases r with
  | data r => cases r; rfl

theorem ok_pair {σ : FSt} {h : Gh} {w : World} {a b : Int} {x : Value} (o : Ok σ h w (.agg [.int .i64 a, .int .i64 b]) x) : x = keyV (a, b) := by
  obtain ⟨ws, hw, hlen, hh⟩ := ok_agg o
  rw [hw]
  obtain ⟨ws⟩ := ws
  match ws, hlen with
  | [y, z], _ => rw [rep_int (hh 0 _ y rfl rfl).1, rep_int (hh 1 _ z rfl rfl).1]; rfl

theorem rel_putA {B : Arena} {s : St} {a : Act} {w' : World} {h : Gh} {o : Oper} {os : List Operand} {slots : List (Option Nat)} {ins : Ins} {v : V} {x : Value} (cc : Comp E.P E.nt slots o ins os) (R2 : E.relF (encA B) s.stp s.fs a w' h) (ok : Ok s.fs h w' v x) {d : Nat} (hd : ins.d = some d) : E.rel { s.put (some d) v with log := encA B } (a.put o.dst x) w' h := by
  have R3 := rel_after (eff := { v := v }) cc R2 R2.1 ok rfl
  rw [hd] at R3
  show E.relF (encA B) s.stp (s.put (some d) v).fs _ _ _
  rw [fs_put]
  exact R3

/-- A new object in the arena. -/
theorem InA.fresh (hE : InA E S0 l0 s0) {stp : Bool} {σ : FSt} {a : Act} {w : World} {h : Gh} (R : E.relF (encA A) stp σ a w h) (ob : Obj) (o : Ob) (ho : Ext w h.φ (w.alloc ob) h.φ → ObOk (w.alloc ob) h.φ w.heap.size o) : E.relF (encA ((w.heap.size, o) :: A)) stp σ a (w.alloc ob) h ∧ w.heap.size ∉ A.map (·.1) := by
  have hAr := hE.ar R
  have hn : w.heap.size ∉ A.map (·.1) := fun hm => by
    obtain ⟨p, hp, e⟩ := List.mem_map.1 hm
    have := hAr.lt p hp; omega
  have hsz : (w.alloc ob).heap.size = w.heap.size + 1 := by
    show (w.heap.push ob).size = _
    rw [Array.size_push]
  refine ⟨hE.step R (fun b hb _ => heap_alloc_old w ob hb) (by omega) rfl rfl rfl (fun p hp => ?_) (fun p hp => by simp; exact .inr ⟨p.2, hp⟩) (by simp only [List.map_cons, List.nodup_cons]; exact ⟨hn, hAr.nd⟩) (fun ext p hp => ?_) (fun p hp => ?_), hn⟩
  · rcases List.mem_cons.1 hp with rfl | hp
    · exact .inr (Nat.le_refl _)
    · exact .inl (List.mem_map.2 ⟨p, hp, rfl⟩)
  · rcases List.mem_cons.1 hp with rfl | hp
    · exact ho ext
    · exact (hAr.ok p hp).mono (heap_alloc_old w ob (hAr.lt p hp)) ext
  · rcases List.mem_cons.1 hp with rfl | hp
    · simp only; omega
    · have := hAr.lt p hp; omega

/-- One object is turned. -/
theorem InA.turn (hE : InA E S0 l0 s0) {stp : Bool} {σ : FSt} {a : Act} {w w' : World} {h : Gh} (R : E.relF (encA A) stp σ a w h) {b : Nat} {o1 : Ob} (hA : (b, o1) ∈ A) (o : Ob) (hold : ∀ k, k ≠ b → w'.heap[k]? = w.heap[k]?) (hsz : w'.heap.size = w.heap.size) (hos : w'.os = w.os) (htp : w'.tape = w.tape) (hou : w'.output = w.output)
    (ho : Ext w h.φ w' h.φ → ObOk w' h.φ b o) : E.relF (encA (setA A b o)) stp σ a w' h := by
  have hAr := hE.ar R
  have key : ∀ p ∈ setA A b o, p.1 ∈ A.map (·.1) := fun p hp => by rw [← setA_keys A b o]; exact List.mem_map.2 ⟨p, hp, rfl⟩
  refine hE.step R (fun k hk hn => hold k fun e => hn (e ▸ List.mem_map.2 ⟨_, hA, rfl⟩)) (by omega) hos htp hou (fun p hp => .inl (key p hp)) (fun p hp => by rw [setA_keys]; exact List.mem_map.2 ⟨p, hp, rfl⟩) (by rw [setA_keys]; exact hAr.nd) (fun ext p hp => ?_) (fun p hp => ?_)
  · rcases setA_mem hp with ⟨e, e'⟩ | ⟨hne, hp⟩
    · rw [e, e']; exact ho ext
    · exact (hAr.ok p hp).mono (hold _ hne) ext
  · obtain ⟨q, hq, e⟩ := List.mem_map.1 (key p hp)
    have := hAr.lt q hq
    rw [← e]; omega

/-- A set is made. -/
theorem Steps.mkset (hE : InA E S0 l0 s0) {K : St → Prop} {s : St} {d t u : Nat} {rest : List Ins} (hl : s.log = encA A)
    (hk : ∀ mb, mb ∉ A.map (·.1) → Steps E rest K { s.put (some d) (.rmap mb) with log := encA ((mb, .raw (.map #[] 0)) :: A) }) : Steps E (⟨some d, .raw 0 t u, [], none⟩ :: rest) K s := by
  refine Step1.raw fun slots ops o i ro n a w h hc hs hi R Q next hn => ?_
  obtain ⟨os, cc⟩ := comp_of hc
  obtain ⟨kt, e, e1, e2, e3, rfl⟩ := opK_raw0 cc.op
  have R' : E.relF (encA A) s.stp s.fs a w h := by rw [← hl]; exact R
  obtain ⟨R2, hnm⟩ := hE.fresh R' (.map #[] 0) (.raw (.map #[] 0)) (fun _ => heap_alloc_new w _)
  refine wpOp_done hi (wanted_none (guard_none cc rfl)) (opK_defer cc.op) (.inl ?_) (hn _ _ _ h (hk _ hnm) (rel_putA cc R2 (.data (.rmap _)) rfl) rfl)
  simp only [execOp, e1, Sem.run_bind]
  rfl

/-- A key is put. -/
theorem Steps.setput (hE : InA E S0 l0 s0) {K : St → Prop} {s : St} {t u : Nat} {x y z : X} {rest : List Ins} {mb : Nat} {es : Array MapEntry} {clock : Nat} {ks : List (Int × Int)} {k : Int × Int} (hx : evXs s.env [x, y, z] = some [.rmap mb, .agg [.int .i64 k.1, .int .i64 k.2], .bool true]) (hl : s.log = encA A)
    (hA : (mb, .raw (.map es clock)) ∈ A) (hS : SetIs es clock ks) (hi64 : inI k.1 ∧ inI k.2) (hroom : es.size < 100000)
    (hk : ∀ es' clock', SetIs es' clock' (ks ++ [k]) → es'.size ≤ es.size + 1 → Steps E rest K { s with log := encA (setA A mb (.raw (.map es' clock'))) }) : Steps E (⟨none, .raw 1 t u, [x, y, z], none⟩ :: rest) K s := by
  refine Step1.raw fun slots ops o i ro n a w h hc hs hi R Q next hn => ?_
  obtain ⟨os, cc⟩ := comp_of hc
  obtain ⟨p, q, r, kt, e, e1, e2, e3, rfl⟩ := opK_raw1 cc.op
  obtain ⟨v1, v2, v3, hu, o1, o2, o3⟩ := (opds_of R.1 cc.xs (evXs_ok hx)).three
  simp only [List.cons.injEq, and_true] at hu
  obtain ⟨hu1, hu2, hu3⟩ := hu
  subst hu1 hu2 hu3
  have R' : E.relF (encA A) s.stp s.fs a w h := by rw [← hl]; exact R
  have hb : w.heap[mb]? = some (.map es clock) := (hE.ar R').ok _ hA
  obtain ⟨es', clock', hrun, hS', hsz⟩ := hS.put e3 e2 hb hi64 hroom
  have R2 := hE.turn R' hA (.raw (.map es' clock')) (w' := ChangeMaps.setBlock w mb (.map es' clock')) (fun k hk => setB_other _ hk) (by simp [ChangeMaps.setBlock]) rfl rfl rfl (fun _ => setB_same hb _)
  have hd : o.dst = none := cc.d.symm
  have R3 : E.rel { s with log := encA (setA A mb (.raw (.map es' clock'))) } (a.put o.dst undef) (ChangeMaps.setBlock w mb (.map es' clock')) h := by rw [hd]; exact R2
  have o3' : a.eval r = .bool true := by
    obtain ⟨rr, _⟩ := o3
    revert rr
    generalize a.eval r = zz
    intro rr
    cases rr with
    | data rr => cases rr; rfl
  refine wpOp_done (x := undef) hi (wanted_none (guard_none cc rfl)) (opK_defer cc.op) (.inr ⟨?_, rfl⟩) (hn _ _ _ h (hk _ _ hS' hsz) R3 rfl)
  simp only [execOp, e1, ok_rmap o1, ok_pair o2, o3', Sem.run_bind]
  rw [hrun]; rfl

/-- A set is gone through. -/
theorem Steps.mrange (hE : InA E S0 l0 s0) {K : St → Prop} {s : St} {d t u : Nat} {x : X} {rest : List Ins} {mb : Nat} {es : Array MapEntry} {clock : Nat} (hx : evXs s.env [x] = some [.rmap mb]) (hl : s.log = encA A) (hA : (mb, .raw (.map es clock)) ∈ A)
    (hk : ∀ ib, ib ∉ A.map (·.1) → Steps E rest K { s.put (some d) (.rptr ib 0) with log := encA ((ib, .raw (.mapIter (some mb) clock #[] clock)) :: A) }) : Steps E (⟨some d, .raw 2 t u, [x], none⟩ :: rest) K s := by
  refine Step1.raw fun slots ops o i ro n a w h hc hs hi R Q next hn => ?_
  obtain ⟨os, cc⟩ := comp_of hc
  obtain ⟨p, kt, e, e1, e2, e3, rfl⟩ := opK_raw2 cc.op
  obtain ⟨v, hu, o1⟩ := (opds_of R.1 cc.xs (evXs_ok hx)).one
  simp only [List.cons.injEq, and_true] at hu
  subst hu
  have R' : E.relF (encA A) s.stp s.fs a w h := by rw [← hl]; exact R
  have hb : w.heap[mb]? = some (.map es clock) := (hE.ar R').ok _ hA
  obtain ⟨R2, hnm⟩ := hE.fresh R' (.mapIter (some mb) clock #[] clock) (.raw (.mapIter (some mb) clock #[] clock)) (fun _ => heap_alloc_new w _)
  refine wpOp_done hi (wanted_none (guard_none cc rfl)) (opK_defer cc.op) (.inl ?_) (hn _ _ _ h (hk _ hnm) (rel_putA cc R2 (.data (.rptr _ _)) rfl) rfl)
  simp only [execOp, e1, ok_rmap o1, Sem.run_bind]
  rw [run_range_map w t kt e mb es clock e2 hb]; rfl

theorem relF_drew {σ : FSt} {a : Act} {w : World} {h : Gh} (R : E.relF l0 s0 σ a w h) : E.relF l0 s0 σ a w.drew h := ⟨R.1.drew E.ok, R.2⟩

/-- The next one, whichever it is. -/
theorem Steps.mnext (hE : InA E S0 l0 s0) {K : St → Prop} {s : St} {d t u : Nat} {x : X} {rest : List Ins} {ib mb since c0 : Nat} {seen : Array Nat} {es : Array MapEntry} {clock : Nat} {ks : List (Int × Int)} (hx : evXs s.env [x] = some [.rptr ib 0]) (hl : s.log = encA A)
    (hI : (ib, .raw (.mapIter (some mb) since seen c0)) ∈ A) (hM : (mb, .raw (.map es clock)) ∈ A) (hS : SetIs es clock ks) (hold : ∀ e ∈ es.toList, e.born < since) (hsc : since ≤ c0)
    (h0 : (leftOf es seen).size = 0 → Steps E rest K (s.put (some d) (.tuple [.bool false])))
    (h1 : ∀ e ∈ (leftOf es seen).toList, ∀ k ∈ ks, e.key = keyV k → e.val = .bool true → Steps E rest K { s.put (some d) (.tuple [.bool true, .agg [.int .i64 k.1, .int .i64 k.2], .bool true]) with log := encA (setA A ib (.raw (.mapIter (some mb) since (seen.push e.born) clock))) }) : Steps E (⟨some d, .raw 3 t u, [x], none⟩ :: rest) K s := by
  refine Step1.raw fun slots ops o i ro n a w h hc hs hi R Q next hn => ?_
  obtain ⟨os, cc⟩ := comp_of hc
  obtain ⟨p, e1, rfl⟩ := opK_raw3 cc.op
  obtain ⟨v, hu, o1⟩ := (opds_of R.1 cc.xs (evXs_ok hx)).one
  simp only [List.cons.injEq, and_true] at hu
  subst hu
  have R' : E.relF (encA A) s.stp s.fs a w h := by rw [← hl]; exact R
  have hb : w.heap[mb]? = some (.map es clock) := (hE.ar R').ok _ hM
  have hr : w.heap[ib]? = some (.mapIter (some mb) since seen c0) := (hE.ar R').ok _ hI
  rcases run_next_at (P := E.P) w o.type ib mb since c0 seen es clock hr hb hold hsc with ⟨hz, hrun⟩ | ⟨e, he, w1, hal, hrun⟩
  · have ok : Ok s.fs h w (.tuple [.bool false]) (.tuple #[.bool false]) := ⟨.tuple _ _ rfl (fun i v x h1 h2 => by
      match i with
      | 0 => cases h1; cases h2; exact .bool _), fun j u z hu hz => by
      cases j with
      | zero => simp [cells] at hu; subst hu; intro r sz xs e; cases e
      | succ j => simp [cells] at hu⟩
    refine wpOp_done (x := .tuple #[.bool false]) (w' := w) hi (wanted_none (guard_none cc rfl)) (opK_defer cc.op) (.inl ?_) (hn _ _ w h (h0 hz) ?_ rfl)
    · simp only [execOp, e1, ok_rptr o1, Sem.run_bind]
      rw [hrun]; rfl
    · show E.relF _ _ _ _ _ _
      rw [(put_log _ _ _).1, (put_log _ _ _).2, fs_put]
      exact rel_after (eff := { v := _ }) cc R R.1 ok rfl
  · have hee : e ∈ es.toList := by
      unfold leftOf at he; simp at he; simpa using he.1
    obtain ⟨k, hk, k1, k2⟩ := hS.ent e hee
    have R1 : E.relF (encA A) s.stp s.fs a w1 h := by
      rcases hal with rfl | rfl
      · exact R'
      · exact relF_drew R'
    have hr1 : w1.heap[ib]? = some (.mapIter (some mb) since seen c0) := (hE.ar R1).ok _ hI
    have R2 := hE.turn R1 hI (.raw (.mapIter (some mb) since (seen.push e.born) clock)) (w' := ChangeMaps.setBlock w1 ib (.mapIter (some mb) since (seen.push e.born) clock)) (fun k hk => setB_other _ hk) (by simp [ChangeMaps.setBlock]) rfl rfl rfl (fun _ => setB_same hr1 _)
    have ok : ∀ w2, Ok s.fs h w2 (.tuple [.bool true, .agg [.int .i64 k.1, .int .i64 k.2], .bool true]) (.tuple #[.bool true, e.key, e.val]) := fun w2 => ⟨.tuple _ _ rfl (fun i v x h1 h2 => by
      match i with
      | 0 => cases h1; cases h2; exact .bool _
      | 1 =>
        cases h1; cases h2; rw [k1]
        exact .agg _ _ rfl fun j u z g1 g2 => by
          match j with
          | 0 => cases g1; cases g2; exact .int _ _
          | 1 => cases g1; cases g2; exact .int _ _
      | 2 => cases h1; cases h2; rw [k2]; exact .bool _), fun j u z hu hz => by
      cases j with
      | zero => simp [cells] at hu; subst hu; intro r sz xs e; cases e
      | succ j => simp [cells] at hu⟩
    refine wpOp_done (x := .tuple #[.bool true, e.key, e.val]) hi (wanted_none (guard_none cc rfl)) (opK_defer cc.op) (.inl ?_) (hn _ _ _ h (h1 e he k hk k1 k2) (rel_putA cc R2 (ok _) rfl) rfl)
    simp only [execOp, e1, ok_rptr o1, Sem.run_bind]
    rw [hrun]; rfl

/-- The entry at hand. -/
theorem Steps.mentry (hE : InA E S0 l0 s0) {K : St → Prop} {s : St} {d t u : Nat} {x : X} {rest : List Ins} {ib mb since : Nat} {seen : Array Nat} {es : Array MapEntry} {clock : Nat} {e : MapEntry} {k : Int × Int} (hx : evXs s.env [x] = some [.rptr ib 0]) (hl : s.log = encA A)
    (hI : (ib, .raw (.mapIter (some mb) since (seen.push e.born) clock)) ∈ A) (hM : (mb, .raw (.map es clock)) ∈ A) (hst : MapKept.Stamped es clock) (he : e ∈ es.toList) (hkey : e.key = keyV k) (hval : e.val = .bool true)
    (hk : Steps E rest K (s.put (some d) (.tuple [.agg [.int .i64 k.1, .int .i64 k.2], .bool true]))) : Steps E (⟨some d, .raw 4 t u, [x], none⟩ :: rest) K s := by
  refine Step1.raw fun slots ops o i ro n a w h hc hs hi R Q next hn => ?_
  obtain ⟨os, cc⟩ := comp_of hc
  obtain ⟨p, e1, rfl⟩ := opK_raw4 cc.op
  obtain ⟨v, hu, o1⟩ := (opds_of R.1 cc.xs (evXs_ok hx)).one
  simp only [List.cons.injEq, and_true] at hu
  subst hu
  have R' : E.relF (encA A) s.stp s.fs a w h := by rw [← hl]; exact R
  have hb : w.heap[mb]? = some (.map es clock) := (hE.ar R').ok _ hM
  have hr : w.heap[ib]? = some (.mapIter (some mb) since (seen.push e.born) clock) := (hE.ar R').ok _ hI
  have hrun := run_entry_at (P := E.P) w ib mb since seen es clock e hr hb he hst.2.1
  have ok : Ok s.fs h w (.tuple [.agg [.int .i64 k.1, .int .i64 k.2], .bool true]) (.tuple #[e.key, e.val]) := ⟨.tuple _ _ rfl (fun i v x h1 h2 => by
    match i with
    | 0 =>
      cases h1; cases h2; rw [hkey]
      exact .agg _ _ rfl fun j u z g1 g2 => by
        match j with
        | 0 => cases g1; cases g2; exact .int _ _
        | 1 => cases g1; cases g2; exact .int _ _
    | 1 => cases h1; cases h2; rw [hval]; exact .bool _), fun j u z hu hz => by
    cases j with
    | zero => simp [cells] at hu; subst hu; intro r sz xs e; cases e
    | succ j => simp [cells] at hu⟩
  refine wpOp_done (x := .tuple #[e.key, e.val]) (w' := w) hi (wanted_none (guard_none cc rfl)) (opK_defer cc.op) (.inl ?_) (hn _ _ w h hk ?_ rfl)
  · simp only [execOp, e1, ok_rptr o1, Sem.run_bind]
    rw [hrun]; rfl
  · show E.relF _ _ _ _ _ _
    rw [(put_log _ _ _).1, (put_log _ _ _).2, fs_put]
    exact rel_after (eff := { v := _ }) cc R R.1 ok rfl

end

end Go.Am


/-! AM, part Zi: copies: a test for nil, an empty slice that is made, what is appended to it. -/
set_option linter.unusedVariables false
set_option linter.unusedSimpArgs false
namespace Go.Am
open Go.RowKit

theorem opK_nilS {P : Program} {o : Oper} {os : List Operand} {t : Nat} (hk : opK P o.op = some (.raw 8 0 t, os)) : ∃ p q u e, o.op = .binOp .eql t p q u ∧ P.underlying t = some (.slice e) ∧ os = [p, q] := by
  cases ho : o.op <;> rw [ho] at hk <;> simp only [opK] at hk <;> (try (cases hk; done)) <;> (try (repeat' (split at hk <;> (try (cases hk; done)))))
  all_goals first
    | (simp only [Option.map_eq_some_iff, Prod.mk.injEq] at hk; obtain ⟨_, _, h1, _⟩ := hk; cases h1; done)
    | (simp only [eqKind] at hk
       split at hk <;> (try (cases hk; done)) <;> (try (split at hk <;> (try (cases hk; done)))) <;> (try (cases hk; done))
       all_goals first
         | (simp at hk; done)
         | (simp at hk
            obtain ⟨rfl, rfl⟩ := hk
            exact ⟨_, _, _, _, rfl, by assumption, rfl⟩))

section
variable {E : Env}

/-- Is a slice nil? -/
theorem Steps.nilS {s : St} {K : St → Prop} {d t r sz : Nat} {x y : X} {xs : List V} {rest : List Ins} (hx : evXs s.env [x, y] = some [.slice r sz xs, .nils]) (hk : ∀ b, (xs ≠ [] → b = false) → Steps E rest K (s.put (some d) (.bool b))) : Steps E (⟨some d, .raw 8 0 t, [x, y], none⟩ :: rest) K s := by
  refine Step1.raw fun slots ops o i ro n a w h hc hs hi R Q next hn => ?_
  obtain ⟨os, cc⟩ := comp_of hc
  have hgo : o.guard = none := by
    rcases cc.guard with ⟨_, e⟩ | ⟨j, want, t, _, _, e⟩
    · exact e
    · cases e
  obtain ⟨p, q, u, e, e1, e2, rfl⟩ := opK_nilS cc.op
  obtain ⟨v1, v2, hu, o1, o2⟩ := (opds_of R.1 cc.xs (evXs_ok hx)).two
  simp only [List.cons.injEq, and_true] at hu
  obtain ⟨hu1, hu2⟩ := hu
  subst hu1 hu2
  have hq := ok_nils o2
  have key : ∃ (ad : Option Addr) (m c : Nat), a.eval p = .slice ad m c ∧ (xs ≠ [] → ad.isSome = true) := by
    have r := ok_slice o1
    generalize a.eval p = z at r
    rcases slice_at r with ⟨⟨ad, cap, rfl⟩, e0⟩ | ⟨blk, off, cap, cv, rfl, _⟩
    · exact ⟨ad, 0, cap, rfl, fun h => absurd e0 h⟩
    · exact ⟨_, _, _, rfl, fun _ => rfl⟩
  obtain ⟨ad, m, c, ep, had⟩ := key
  have hex : (execOp a.eval o).run E.P w = .ok (.value (.bool ad.isNone)) w := by
    have g1 : (eqGuard .eql t p q (.slice ad m c) (.slice none 0 0)).run E.P w = .ok () w := by
      cases ad <;> rfl
    have g2 : (binOp .eql t (.slice ad m c) (.slice none 0 0)).run E.P w = .ok (.bool ad.isNone) w := Lib.run_eql_slice_nil w t e ad m c 0 0 e2
    simp only [execOp, e1, ep, hq, Sem.run_bind, g1, g2, Result.andThen_ok, Sem.run_pure]
  refine wpOp_done (x := .bool ad.isNone) (w' := w) hi (wanted_none hgo) (opK_defer cc.op) (.inl hex) (hn _ _ w h (hk ad.isNone fun hne => by have := had hne; cases ad <;> simp_all) ?_ rfl)
  show E.relF _ _ _ _ _ _
  rw [(put_log _ _ _).1, (put_log _ _ _).2, fs_put]
  exact rel_after (eff := { v := .bool ad.isNone }) cc R R.1 (.data (.bool _)) rfl

end

section
variable {P : Program} {nt : Nat} {S : Sur} {log : List (List V)} {stp : Bool} {σ : FSt} {a : Act} {w : World} {h : Gh} {o : Oper}

theorem opK_mksliceE {os : List Operand} {sz e : Nat} (hk : opK P o.op = some (.mkslice sz e, os)) : ∃ t len parts ie z, o.op = .buildSlice t len parts ∧ P.underlying t = some (.slice e) ∧ P.info? e = some ie ∧ ie.zero = some z ∧ z.cells.size = ie.size ∧ ie.size = sz ∧ parts.toList.map (·.1) = List.range len ∧ os = parts.toList.map (·.2) := by
  cases ho : o.op <;> rw [ho] at hk <;> simp only [opK] at hk <;> (try (cases hk; done)) <;> (try (repeat' (split at hk <;> (try (cases hk; done)))))
  all_goals first
    | (simp only [Option.map_eq_some_iff, Prod.mk.injEq] at hk; obtain ⟨_, _, h1, _⟩ := hk; cases h1; done)
    | (rename_i hz hc; rw [hz] at hc; simp at hc; done)
    | (rename_i t len parts x5 e' ht x4 ie hi x3 z hz hc
       cases hk
       simp only [hz, Option.isSome_some, Bool.true_and, Bool.and_eq_true, beq_iff_eq] at hc
       exact ⟨t, len, parts, ie, z, rfl, ht, hi, hz, hc.1, rfl, hc.2, rfl⟩)
    | (exfalso; simp only [eqKind] at hk; repeat' (split at hk <;> (try (cases hk; done))))

end

section
variable {E : Env}

/-- An empty slice that is made. -/
theorem Steps.mkE {s : St} {K : St → Prop} {d sz e : Nat} {rest : List Ins} (hd : get s.bx d = none)
    (hk : ∀ blk, Steps E rest K ((s.setB d ⟨[], false⟩).put (some d) (.sref blk 0 0 0))) : Steps E (⟨some d, .mkslice sz e, [], none⟩ :: rest) K s := by
  refine Step1.raw fun slots ops o i ro n a w h hc hs hi R Q next hn => ?_
  obtain ⟨os, cc⟩ := comp_of hc
  have hgo := guard_none cc rfl
  obtain ⟨t, len, parts, ie, z, ho, ht, hie, hz, hzs, hsz, hidx, rfl⟩ := opK_mksliceE cc.op
  have hO := opds_of R.1 cc.xs (vs := []) rfl
  have hlen : len = 0 := by
    have h1 := hO.get.1
    have h2 := congrArg List.length hidx
    simp at h1 h2
    omega
  subst hlen
  have hp : parts = #[] := by
    have h1 := hO.get.1
    simp at h1
    exact Array.size_eq_zero_iff.1 h1.symm
  have hrun : (Instr.buildSlice t 0 (parts.map fun (i, x) => (i, a.eval x))).run E.P w = .ok (.slice (some ⟨w.heap.size, 0, none⟩) 0 0) (w.alloc (.cells #[] e)) := by
    subst hp
    have hr0 : Array.range 0 = #[] := rfl
    simp [Instr.buildSlice, run_underlying ht, sizeOf, typeInfo, zeroValue, hie, hz, newRow, Instr.fill, hr0]
  have R1 := R.1.newBox (e := e) (cs := #[]) (zs := []) (d := d) E.ok (by rw [fs_b]; exact hd) (by simp) (fun j v x hv hx => by simp at hv)
  have hex : (execOp a.eval o).run E.P w = .ok (.value (.slice (some ⟨w.heap.size, 0, none⟩) 0 0)) (w.alloc (.cells #[] e)) := by
    simp only [execOp, ho, Sem.run_bind, hrun]; rfl
  have key := rel_after (eff := { v := .sref w.heap.size 0 0 0, wb := [(d, ⟨[], false⟩)] }) cc R R1 ⟨.data (.sref _ _ _ _), GrowV.of_data (w0 := w) (φ0 := h.φ) (.sref _ _ _ _)⟩ rfl
  refine wpOp_done hi (wanted_none hgo) (opK_defer cc.op) (.inl hex) (hn _ _ _ { h with M := fun b => h.M b ∨ b = w.heap.size, β := fun i => if i = d then some w.heap.size else h.β i } (hk w.heap.size) ?_ rfl)
  show E.relF _ _ _ _ _ _
  rw [(put_log _ _ _).1, (put_log _ _ _).2, fs_put, fs_setB]
  exact key

theorem done_appendE {P : Program} {nt : Nat} {S : Sur} {log : List (List V)} {stp : Bool} {σ : FSt} {a : Act} {w : World} {h : Gh} {o : Oper} {t e sz bytes d blk : Nat} {p q : Operand} {c : Call} {ie : TypeInfo} {z : Value} {ys : List V} {y : Value} (R : Rel nt S log stp σ a w h) (hS : S.ok) (ho : o.op = .call c) (hc : c.callee = .builtin .append) (hca : c.args.toList = [p, q]) (hct : c.argTypes.toList = [t, t])
    (ht : P.underlying t = some (.slice e)) (hi : P.info? e = some ie) (hz : ie.zero = some z) (hzs : z.cells.size = ie.size) (hsz : ie.size = sz) (hby : ie.bytes = bytes) (hx : a.eval p = .slice (some ⟨blk, 0, none⟩) 0 0) (hy : a.eval q = y)
    (ry : RepD w h.φ (.slice 0 sz ys) y) (hd : σ.b d = none) (h0 : 0 < sz) (hb : ys.length * bytes ≤ 2 ^ 47) (hm : ys.length ≤ 2 ^ 47) (hne : ys ≠ []) {pre : Prop} {rb : List Nat} :
    Done P nt S log stp σ a w h o { pre := pre, v := .bsl d 0 sz ys.length, wb := [(d, ⟨ys.flatMap cells, false⟩)], rb := rb } := by
  subst hsz hby
  have ea : c.args = #[p, q] := by rw [← Array.toList_inj]; simpa using hca
  have et : c.argTypes = #[t, t] := by rw [← Array.toList_inj]; simpa using hct
  have hexec : ∀ v w', (Builtin.append_ #[t, t] o.type #[.slice (some ⟨blk, 0, none⟩) 0 0, y]).run P w = .ok v w' → (execOp a.eval o).run P w = .ok (.value v) w' := fun v w' hr => by
    simp only [execOp, ho, resolve, hc, ea, et, Sem.run_bind, Sem.run_pure, Result.andThen_ok, invoke, builtin]
    simp [hx, hy, hr]
  have hml : ys.length ≤ maxLen := by unfold maxLen; omega
  have hpos : 0 < ys.length := List.length_pos_iff.2 hne
  rcases slice_at ry with ⟨_, e0⟩ | ⟨yb, yo, ycap, cvy, rfl, _, _, hys, ay⟩
  · exact absurd e0 hne
  have ylen := flat_len hys
  obtain ⟨news, hnews⟩ : ∃ news, news = (List.range (ys.length * ie.size)).map cvy := ⟨_, rfl⟩
  have nl : news.length = ys.length * ie.size := by rw [hnews]; simp
  have nget : ∀ j, j < ys.length * ie.size → news[j]? = some (cvy j) := fun j hj => by rw [hnews]; simp [hj]
  have ncell : ∀ j u, news[j]? = some u → w.cell? ((⟨yb, yo, none⟩ : Addr).add j) = some u := fun j u hu => by
    have hj : j < ys.length * ie.size := by have := (List.getElem?_eq_some_iff.1 hu).1; omega
    rw [nget j hj] at hu
    cases hu
    rw [Addr.add_lit]
    exact (ay j _ (List.getElem?_eq_getElem (by omega))).2.1
  have hrun := run_append_grow (P := P) w t o.type e ie z ht hi hz ⟨blk, 0, none⟩ 0 0 [] (by simp) (fun j v hv => by simp at hv) ⟨yb, yo, none⟩ ys.length ycap news nl ncell (by omega) (by omega) (by rw [Nat.zero_add, nextslicecap_zero hpos]; omega)
  have hge := grownCap_ge w (0 + ys.length) 0 e
  have R1 := (R.drew hS).newBox (e := e) (cs := [].toArray ++ news.toArray ++ Builtin.zeroCells z.cells (grownCap w (0 + ys.length) 0 e - (0 + ys.length))) (zs := ys.flatMap cells) hS hd
    (by rw [Array.size_append, Array.size_append]; simp only [List.size_toArray, nl, List.length_nil]; omega) (fun j v x hv hx => by
      have hlt := (List.getElem?_eq_some_iff.1 hv).1
      rw [Array.getElem?_append_left (by simp [nl]; omega)] at hx
      simp only [Array.empty_append, List.getElem?_toArray] at hx
      rw [nget j (by omega)] at hx
      cases hx
      obtain ⟨_, _, k3, k4⟩ := ay j v hv
      have r1 : RepD w.drew h.φ v (cvy j) := k3.mono (fun _ _ ho => ⟨ho, rfl, rfl⟩)
      exact ⟨.data r1, Grow.of_data r1, k4⟩)
  refine ⟨_, _, _, .inl (hexec _ _ hrun), R1, ⟨?_, fun j u zz hu hzz => ?_⟩, rfl⟩
  · rw [Nat.zero_add]
    exact .bsl d 0 _ ys.length _ w.heap.size (by simp) (by simpa using hge)
  cases j with
  | zero => simp [cells] at hu; subst hu; intro r sz xs e; cases e
  | succ j => simp [cells] at hu

/-- An append to an empty slice makes a box. -/
theorem Steps.appendE {s : St} {K : St → Prop} {d : Nat} {x y : X} {sz bytes e r blk : Nat} {ys : List V} {rest : List Ins} (hx : evXs s.env [x, y] = some [.sref blk 0 0 0, .slice r sz ys]) (hd : get s.bx d = none) (h0 : 0 < sz) (hb : ys.length * bytes ≤ 2 ^ 47) (hm : ys.length ≤ 2 ^ 47) (hne : ys ≠ [])
    (hk : Steps E rest K ((s.setB d ⟨ys.flatMap cells, false⟩).put (some d) (.bsl d 0 sz ys.length))) : Steps E (⟨some d, .append sz bytes e, [x, y], none⟩ :: rest) K s := by
  refine Step1.raw fun slots ops o i ro n a w h hc hs hi R Q next hn => ?_
  obtain ⟨os, cc⟩ := comp_of hc
  have hgo := guard_none cc rfl
  obtain ⟨c, p, q, t, ie, z, ho, hcal, hca, hct, ht, hie, hz, hzs, hsz, hby, rfl⟩ := opK_append cc.op
  obtain ⟨u, v, huv, hu, hv'⟩ := (opds_of R.1 cc.xs (evXs_ok hx)).two
  cases huv
  obtain ⟨x1, w', h', hr', R', ok, hy⟩ := done_appendE (d := d) (pre := True) (rb := [d]) R.1 E.ok ho hcal hca hct ht hie hz hzs hsz hby (ok_sref hu) rfl (ok_slice hv') (by rw [fs_b]; exact hd) h0 hb hm hne
  have key := rel_after cc R R' ok hy
  refine wpOp_done hi (wanted_none hgo) (opK_defer cc.op) hr' (hn _ _ _ h' hk ?_ hy)
  show E.relF _ _ _ _ _ _
  rw [(put_log _ _ _).1, (put_log _ _ _).2, fs_put, fs_setB]
  exact key

/-- Nothing is appended to an empty slice. -/
theorem Steps.appendE0 {s : St} {K : St → Prop} {d : Nat} {x y : X} {sz bytes e r blk : Nat} {rest : List Ins} (hx : evXs s.env [x, y] = some [.sref blk 0 0 0, .slice r sz []])
    (hk : Steps E rest K (s.put (some d) (.slice 0 sz []))) : Steps E (⟨some d, .append sz bytes e, [x, y], none⟩ :: rest) K s := by
  refine Step1.raw fun slots ops o i ro n a w h hc hs hi R Q next hn => ?_
  obtain ⟨os, cc⟩ := comp_of hc
  have hgo := guard_none cc rfl
  obtain ⟨c, p, q, t, ie, z, ho, hcal, hca, hct, ht, hie, hz, hzs, hsz, hby, rfl⟩ := opK_append cc.op
  obtain ⟨u, v, huv, hu, hv'⟩ := (opds_of R.1 cc.xs (evXs_ok hx)).two
  cases huv
  have hp := ok_sref hu
  have key : ∃ (ad : Option Addr) (cp : Nat), a.eval q = .slice ad 0 cp := by
    have r := ok_slice hv'
    generalize a.eval q = z at r
    rcases slice_at r with ⟨⟨ad, cap, rfl⟩, e0⟩ | ⟨blk, off, cap, cv, rfl, _⟩
    · exact ⟨ad, cap, rfl⟩
    · exact ⟨_, _, rfl⟩
  obtain ⟨ad, cp, eq⟩ := key
  have ea : c.args = #[p, q] := by rw [← Array.toList_inj]; simpa using hca
  have et : c.argTypes = #[t, t] := by rw [← Array.toList_inj]; simpa using hct
  have hex : (execOp a.eval o).run E.P w = .ok (.value (.slice (some ⟨blk, 0, none⟩) 0 0)) w := by
    simp only [execOp, ho, resolve, hcal, ea, et, Sem.run_bind, Sem.run_pure, Result.andThen_ok, invoke, builtin]
    cases ad with
    | none => simp [hp, eq, Builtin.append_, run_underlying ht, sizeOf, typeInfo, hie, Builtin.lenOf, run_firstCells_none, storeCells]
    | some ad =>
      have hf := run_firstCells_some (P := E.P) w ie.size 0 ad 0 cp [] (by simp) (fun j v hv => by simp at hv)
      simp [hp, eq, Builtin.append_, run_underlying ht, sizeOf, typeInfo, hie, Builtin.lenOf, hf, storeCells]
  have key := rel_after (eff := { v := .slice 0 sz [] }) cc R R.1 (x := .slice (some ⟨blk, 0, none⟩) 0 0) ⟨.data (.slice0 _ _ _), GrowV.of_data (w0 := w) (φ0 := h.φ) (.slice0 _ _ _)⟩ rfl
  refine wpOp_done hi (wanted_none hgo) (opK_defer cc.op) (.inl hex) (hn _ _ _ h hk ?_ rfl)
  show E.relF _ _ _ _ _ _
  rw [(put_log _ _ _).1, (put_log _ _ _).2, fs_put]
  exact key

end
end Go.Am


/-! Contracts: copies; infills, checked. -/
set_option linter.unusedVariables false
set_option linter.unusedSimpArgs false
set_option maxRecDepth 20000
set_option maxHeartbeats 2000000
namespace Go.Proofs.YtdejdblopmfjfaaDoor
open Go.Am
attribute [local simp] cells scalar mkv splice under2 under dem dem1 eB
theorem c_CloneI {l : List Int} (hne : l ≠ []) (hl : l.length ≤ 2 ^ 24) : CO Tryd.prog F.slices_Clone_int_int [intsV l] 1 (l.map I) := by
  refine CO_of mixed chk.slices_Clone_int_int (by simp) fun S ok => ?_
  refine Tr.seqR rfl (by simp) (Tr.seq (Tr.seq (Tr.reg (Steps.runN 1 rfl (by simp) ?_))))
  refine Steps.nilS rfl fun b hb => ?_
  obtain rfl := hb (by simpa using hne)
  refine Steps.fin rfl (by simp) (Tr.condF rfl (Tr.skip (Tr.seq (Tr.reg ?_))))
  refine Steps.mkE rfl fun blk => Steps.runN 1 rfl (by simp) ?_
  refine Steps.appendE (r := 0) (sz := 1) (ys := l.map I) rfl rfl (by omega) (by simp; omega) (by simp; omega) (by simpa using hne) ?_
  refine Steps.fin rfl (by simp) (Tr.ret ?_)
  exact ⟨7, rfl, rfl, by rw [flat_ints]; exact ints_isD l⟩

theorem c_CloneI0 : C Tryd.prog F.slices_Clone_int_int [intsV []] (intsV []) := by
  refine C_of mixed chk.slices_Clone_int_int (by simp) fun S ok => ?_
  refine Tr.seqR rfl (by simp) (Tr.seq (Tr.seq (Tr.reg (Steps.runN 1 rfl (by simp) ?_))))
  refine Steps.nilS rfl fun b hb => ?_
  cases b with
  | true =>
    refine Steps.fin rfl (by simp) (Tr.condT rfl (Tr.seqR rfl (by simp) ?_))
    exact Tr.weak (s' := { env := [(2, intsV [])], bx := [], rw := [], log := [], stp := false }) (Wk.le (.cons rfl (.nil 0 1) .nil) .nil .nil rfl rfl) (Tr.retX rfl rfl rfl rfl trivial)
  | false =>
    refine Steps.fin rfl (by simp) (Tr.condF rfl (Tr.skip (Tr.seq (Tr.reg ?_))))
    refine Steps.mkE rfl fun blk => Steps.runN 1 rfl (by simp) ?_
    refine Steps.appendE0 (r := 0) (sz := 1) rfl ?_
    exact Steps.fin rfl (by simp) (Tr.retX rfl rfl rfl rfl trivial)

/-! ### Infills -/
structure Ps where
  cost : Int
  adds : List Int

structure Nf where
  lacks : List Int
  passes : List Ps

def eQ (p : Ps) : V := .agg [I p.cost, intsV p.adds]
def nfC (x : Nf) : List V := [intsV x.lacks, .slice 0 2 (x.passes.map eQ)]
attribute [local simp] eQ nfC intsV
def passOk (n : Nat) (p : Ps) : Bool := btw p.cost 1 1000 && decide (p.adds.length = n) && !(p.adds.any fun n => !btw n 0 100)
def nfOk (x : Nf) : Bool := decide (x.lacks.length ≤ 16) && decide (x.passes.length ≤ 10) && x.lacks.all (btw · 1 100) && x.passes.all (passOk x.lacks.length)

theorem c_inf1 (n : Int) : C Tryd.prog F.bin_CheckInfill_1 [I n] (.bool (!btw n 0 100)) := by
  refine C_of mixed chk.bin_CheckInfill_1 (by simp) fun S ok => ?_
  exact Tr.seqR rfl (by simp) (Tr.seqC rfl (by simp) (Steps.call rfl rfl (c_within n 0 100) (Steps.fin rfl (by simp) (Tr.retX rfl rfl rfl rfl trivial))))

theorem c_CheckInfill {x : Nf} (hx : ∀ p ∈ x.passes, p.adds.length ≤ 9223372036854775807) : C Tryd.prog F.bin_CheckInfill [.agg (nfC x)] (I (if nfOk x then 0 else 74)) := by
  refine C_of mixed chk.bin_CheckInfill (by simp) fun S ok => ?_
  refine Tr.seqR rfl (by simp) (Tr.seq (Tr.seqR rfl (by simp) (Tr.cond rfl rfl (fun h1 => ?_) (fun h1 => Tr.skip ?_))))
  · refine Tr.seqR rfl (by simp) (Tr.retX rfl rfl rfl ?_ trivial)
    have h1 : (bif decide (((x.lacks.map I).length : Int) > 16) then true else decide (((x.passes.map eQ).length : Int) > 10)) = true := h1
    have : nfOk x = false := by
      unfold nfOk
      by_cases a1 : x.lacks.length ≤ 16
      · by_cases a2 : x.passes.length ≤ 10
        · simp at h1; omega
        · simp [a2]
      · simp [a1]
    rw [this]; rfl
  have h1 : (bif decide (((x.lacks.map I).length : Int) > 16) then true else decide (((x.passes.map eQ).length : Int) > 10)) = false := h1
  have hnl : x.lacks.length ≤ 16 ∧ x.passes.length ≤ 10 := by
    simp at h1; omega
  refine Tr.seq (Tr.seqR rfl (by simp) (Tr.block ?_))
  refine Tr.loop (fun (k : Nat) st => (k ≤ x.lacks.length ∧ (x.lacks.take k).all (btw · 1 100) = true) ∧ st = { env := [(1, .ptr 1 0), (18, intsV x.lacks), (19, I (x.lacks.length : Nat)), (20, I (k : Nat))], bx := [(1, ⟨nfC x, false⟩)], rw := [], log := [], stp := false }) (fun k => x.lacks.length - k) 0
    (Wk.le (.cons rfl (.refl _) (.cons rfl (.refl _) (.cons rfl (VLe.i (by simp)) (.cons rfl (.refl _) .nil)))) (.cons rfl (LLe.refl _) .nil) .nil rfl rfl) ⟨⟨by omega, by simp⟩, rfl⟩ ?_
  rintro k st ⟨⟨hk, hall⟩, rfl⟩
  refine Tr.seqR rfl (by simp) (Tr.seqI rfl (fun h2 => ?_) (fun h2 => ?_))
  · have h2 : k < x.lacks.length := by simpa using h2
    refine Tr.skipT (Tr.seq (Tr.block (Tr.seq (Tr.reg (Steps.runN 1 rfl (by simp; omega) ?_)))))
    rw [getD_map h2]
    refine Steps.fin rfl (by simp) ?_
    refine Tr.seqC rfl (by simp) (Steps.call rfl rfl (c_within x.lacks[k] 1 100) (Steps.fin rfl (by simp) ?_))
    refine Tr.cond rfl rfl (fun h3 => ?_) (fun h3 => Tr.skip (Tr.regR rfl (by simp) ?_))
    · have h3 : btw x.lacks[k] 1 100 = false := by simpa using h3
      refine Tr.seqR rfl (by simp) (Tr.retX rfl rfl rfl ?_ trivial)
      have : nfOk x = false := by
        unfold nfOk
        rw [all_false (p := fun n => btw n 1 100) h2 h3]; simp
      rw [this]; rfl
    · have h3 : btw x.lacks[k] 1 100 = true := by simpa using h3
      exact ⟨k + 1, _, Wk.le (.cons rfl (.refl _) (.cons rfl (.refl _) (.cons rfl (.refl _) (.cons rfl (VLe.i (w64 (by omega) (by omega))) .nil)))) (.cons rfl (LLe.refl _) .nil) .nil rfl rfl, ⟨⟨h2, by rw [all_take_succ h2, hall, h3]; rfl⟩, rfl⟩, by omega⟩
  have h2 : k = x.lacks.length := by simp at h2; omega
  subst h2
  rw [List.take_length] at hall
  refine Tr.exit (Tr.seq (Tr.seqR rfl (by simp) (Tr.block ?_)))
  refine Tr.loop (fun (k : Nat) st => (k ≤ x.passes.length ∧ (x.passes.take k).all (passOk x.lacks.length) = true) ∧ st = { env := [(1, .ptr 1 0), (29, .slice 0 2 (x.passes.map eQ)), (30, I (x.passes.length : Nat)), (31, I (k : Nat))], bx := [(1, ⟨nfC x, false⟩)], rw := [], log := [], stp := false }) (fun k => x.passes.length - k) 0
    (Wk.le (.cons rfl (.refl _) (.cons rfl (.refl _) (.cons rfl (VLe.i (by simp)) (.cons rfl (.refl _) .nil)))) (.cons rfl (LLe.refl _) .nil) .nil rfl rfl) ⟨⟨by omega, by simp⟩, rfl⟩ ?_
  rintro k st ⟨⟨hk, hallT⟩, rfl⟩
  refine Tr.seqR rfl (by simp) (Tr.seqI rfl (fun h2 => ?_) (fun h2 => ?_))
  · have h2 : k < x.passes.length := by simpa using h2
    refine Tr.skipT (Tr.seq (Tr.block (Tr.seq (Tr.reg (Steps.runN 1 rfl (by simp; omega) ?_)))))
    rw [getD_map h2]
    refine Steps.fin rfl (by simp) ?_
    have hpl := hx _ (List.getElem_mem h2)
    refine Tr.seqC rfl (by simp) (Steps.call rfl rfl (c_within x.passes[k].cost 1 1000) (Steps.run rfl (by simp) ?_))
    refine Steps.gcall rfl rfl rfl rfl (by simp) (fun _ => c_containsI hpl fun n _ => c_inf1 n) (Steps.fin rfl (by simp) ?_)
    have hT : passOk x.lacks.length x.passes[k] = (btw x.passes[k].cost 1 1000 && decide (x.passes[k].adds.length = x.lacks.length) && !(x.passes[k].adds.any fun n => !btw n 0 100)) := rfl
    have hne : ((((x.passes[k].adds.map I).length : Int)) != (((x.lacks.map I).length : Int))) = !decide (x.passes[k].adds.length = x.lacks.length) := by
      by_cases h : x.passes[k].adds.length = x.lacks.length
      · simp [h]
      · have : ¬ ((x.passes[k].adds.length : Int) = (x.lacks.length : Int)) := by omega
        simp [h, this]
    refine Tr.cond rfl rfl (fun h3 => ?_) (fun h3 => Tr.skip (Tr.regR rfl (by simp) ?_))
    · refine Tr.seqR rfl (by simp) (Tr.retX rfl rfl rfl ?_ trivial)
      have hf : passOk x.lacks.length x.passes[k] = false := by
        rw [hT]
        revert h3
        simp only [hne]
        cases btw x.passes[k].cost 1 1000 <;> cases decide (x.passes[k].adds.length = x.lacks.length) <;> cases (x.passes[k].adds.any fun n => !btw n 0 100) <;> first | (intro _; rfl) | (intro h; cases h)
      have : nfOk x = false := by
        unfold nfOk
        rw [all_false (p := passOk x.lacks.length) h2 hf]; simp
      rw [this]; rfl
    · have hf : passOk x.lacks.length x.passes[k] = true := by
        rw [hT]
        revert h3
        simp only [hne]
        cases btw x.passes[k].cost 1 1000 <;> cases decide (x.passes[k].adds.length = x.lacks.length) <;> cases (x.passes[k].adds.any fun n => !btw n 0 100) <;> first | (intro _; rfl) | (intro h; cases h)
      exact ⟨k + 1, _, Wk.le (.cons rfl (.refl _) (.cons rfl (.refl _) (.cons rfl (.refl _) (.cons rfl (VLe.i (w64 (by omega) (by omega))) .nil)))) (.cons rfl (LLe.refl _) .nil) .nil rfl rfl, ⟨⟨h2, by rw [all_take_succ h2, hallT, hf]; rfl⟩, rfl⟩, by omega⟩
  have h2 : k = x.passes.length := by simp at h2; omega
  subst h2
  rw [List.take_length] at hallT
  refine Tr.exit (Tr.seqR rfl (by simp) (Tr.retX rfl rfl rfl ?_ trivial))
  have : nfOk x = true := by
    unfold nfOk
    rw [hall, hallT, decide_eq_true hnl.1, decide_eq_true hnl.2]; rfl
  rw [this]; rfl

end Go.Proofs.YtdejdblopmfjfaaDoor


/-! Contracts: choices as numbers; sums; costs. -/
set_option linter.unusedVariables false
set_option linter.unusedSimpArgs false
set_option maxRecDepth 20000
set_option maxHeartbeats 2000000
namespace Go.Proofs.YtdejdblopmfjfaaDoor
open Go.Am
attribute [local simp] cells scalar mkv splice under2 under dem dem1 eB eQ nfC intsV
/-! ### Bits -/
theorem bit_shr (b k : Nat) (hk : k < 64) : ((b : Int).fdiv (2 ^ (min (k : Int).toNat 64))).tmod 2 = if b.testBit k then 1 else 0 := by
  have e1 : min (k : Int).toNat 64 = k := by omega
  rw [e1, Nat.testBit_eq_decide_div_mod_eq]
  have e2 : ((2 : Int) ^ k) = ((2 ^ k : Nat) : Int) := by simp
  rw [e2]
  generalize 2 ^ k = m
  rw [Int.fdiv_eq_ediv_of_nonneg _ (Int.natCast_nonneg _), ← Int.natCast_ediv]
  generalize b / m = q
  have : ((q : Int)).tmod 2 = ((q % 2 : Nat) : Int) := by
    rw [Int.tmod_eq_emod_of_nonneg (Int.natCast_nonneg _)]; simp
  rw [this]
  have := Nat.mod_lt q (show 0 < 2 by omega)
  by_cases h : q % 2 = 1
  · simp [h]
  · have h0 : q % 2 = 0 := by omega
    simp [h0]

theorem bits_or (a b : Nat) (ha : a < 2 ^ 62) (hb : b < 2 ^ 62) : bitsV .or .i64 a b = ((a ||| b : Nat) : Int) := by
  have hlt : a ||| b < 2 ^ 62 := Nat.or_lt_two_pow ha hb
  show IntKind.wrap .i64 ((BitVec.ofInt 64 (a : Int) ||| BitVec.ofInt 64 (b : Int)).toNat : Int) = _
  have e : (BitVec.ofInt 64 (a : Int) ||| BitVec.ofInt 64 (b : Int)).toNat = a ||| b := by
    rw [BitVec.toNat_or, BitVec.ofInt_natCast, BitVec.ofInt_natCast, BitVec.toNat_ofNat, BitVec.toNat_ofNat, Nat.mod_eq_of_lt (by omega), Nat.mod_eq_of_lt (by omega)]
  rw [e, w64 (by omega) (by omega)]

theorem bits_and (a b : Nat) (ha : a < 2 ^ 62) (hb : b < 2 ^ 62) : bitsV .and .i64 a b = ((a &&& b : Nat) : Int) := by
  have hlt : a &&& b < 2 ^ 62 := Nat.lt_of_le_of_lt Nat.and_le_left ha
  show IntKind.wrap .i64 ((BitVec.ofInt 64 (a : Int) &&& BitVec.ofInt 64 (b : Int)).toNat : Int) = _
  have e : (BitVec.ofInt 64 (a : Int) &&& BitVec.ofInt 64 (b : Int)).toNat = a &&& b := by
    rw [BitVec.toNat_and, BitVec.ofInt_natCast, BitVec.ofInt_natCast, BitVec.toNat_ofNat, BitVec.toNat_ofNat, Nat.mod_eq_of_lt (by omega), Nat.mod_eq_of_lt (by omega)]
  rw [e, w64 (by omega) (by omega)]

theorem bit_shl (k : Nat) (hk : k ≤ 61) : IntKind.wrap .i64 (1 * 2 ^ (min (k : Int).toNat 64)) = ((2 ^ k : Nat) : Int) := by
  have e1 : min (k : Int).toNat 64 = k := by omega
  have h : 2 ^ k ≤ 2 ^ 61 := Nat.pow_le_pow_right (by omega) hk
  rw [e1, Int.one_mul]
  have e2 : ((2 : Int) ^ k) = ((2 ^ k : Nat) : Int) := by simp
  rw [e2]
  generalize 2 ^ k = m at h
  rw [w64 (by omega) (by omega)]

/-- A number as a choice. -/
def choiceN (b : Nat) : List Nat := (List.range 10).filter fun i => b.testBit i
def castL (l : List Nat) : List Int := l.map fun (i : Nat) => (i : Int)
def choiceL (b : Nat) : List Int := castL (choiceN b)

theorem c_choice (b : Nat) : C Tryd.prog F.bin_choice [I (b : Nat)] (intsV (choiceL b)) := by
  refine C_of mixed chk.bin_choice (by simp) fun S ok => ?_
  refine Tr.seqR rfl (by simp) (Tr.seqR rfl (by simp) (Tr.seq (Tr.seqR rfl (by simp) (Tr.block ?_))))
  refine Tr.loop (fun (k : Nat) st => k ≤ 10 ∧ st = { env := [(0, I (b : Nat)), (3, .slice 17 1 ((castL ((List.range k).filter fun i => b.testBit i)).map I)), (5, I (k : Nat))], bx := [], rw := [(16, (castL ((List.range k).filter fun i => b.testBit i)).length, 1, 3)], log := [], stp := false }) (fun k => 10 - k) 0
    (Wk.le (.cons rfl (.refl _) (.cons rfl (.nil 17 1) (.cons rfl (.refl _) .nil))) .nil (.new rfl .nil) rfl rfl) ⟨by omega, rfl⟩ ?_
  rintro k st ⟨hk, rfl⟩
  refine Tr.seqR rfl (by simp) (Tr.seqI rfl (fun h1 => ?_) (fun h1 => ?_))
  · have h1 : k < 10 := by
      have h1 : decide ((k : Int) < 10) = true := h1
      simp at h1; omega
    have hlen : (castL ((List.range k).filter fun i => b.testBit i)).length ≤ 10 := by
      have := List.length_filter_le (fun i => b.testBit i) (List.range k)
      simp [castL] at this ⊢; omega
    have e : ((List.range (k + 1)).filter fun i => b.testBit i) = ((List.range k).filter fun i => b.testBit i) ++ (if b.testBit k then [k] else []) := by
      rw [List.range_succ, List.filter_append]
      congr 1
      by_cases h : b.testBit k <;> simp [h]
    refine Tr.skipT (Tr.seq (Tr.block (Tr.seqR rfl (by simp) (Tr.seqR rfl (by simp) ?_))))
    have hb := bit_shr b k (by omega)
    refine Tr.cond rfl rfl (fun h2 => ?_) (fun h2 => Tr.skip ?_)
    · have h2 : ((((b : Int).fdiv (2 ^ (min (k : Int).toNat 64))).tmod 2) == 1) = true := h2
      have ht : b.testBit k = true := by
        rw [hb] at h2
        by_cases h : b.testBit k
        · exact h
        · simp [h] at h2
      refine Tr.regR rfl (by simp; omega) (Tr.regR rfl (by simp) ?_)
      rw [ht] at e
      refine ⟨k + 1, _, Wk.le (.cons rfl (.refl _) (.cons rfl (.of_eq ?_) (.cons rfl (VLe.i (w64 (by omega) (by omega))) .nil))) .nil (.cons ?_ .nil) rfl rfl, ⟨h1, rfl⟩, by omega⟩
      · rw [e]; simp [castL]
      · rw [e]
        show some _ = some _
        simp [castL]
    · have h2 : ((((b : Int).fdiv (2 ^ (min (k : Int).toNat 64))).tmod 2) == 1) = false := h2
      have ht : b.testBit k = false := by
        rw [hb] at h2
        by_cases h : b.testBit k
        · simp [h] at h2
        · simpa using h
      refine Tr.regR rfl (by simp) ?_
      rw [ht] at e
      refine ⟨k + 1, _, Wk.le (.cons rfl (.refl _) (.cons rfl (.of_eq ?_) (.cons rfl (VLe.i (w64 (by omega) (by omega))) .nil))) .nil (.cons ?_ .nil) rfl rfl, ⟨h1, rfl⟩, by omega⟩
      · rw [e]; simp
      · rw [e]
        show some _ = some _
        simp [castL]
  · have h1 : k = 10 := by
      have h1 : decide ((k : Int) < 10) = false := h1
      simp at h1; omega
    subst h1
    exact Tr.exit (Tr.seqR rfl (by simp) (Tr.retX rfl rfl rfl rfl trivial))

/-! ### Sums -/
def sumF (v : Int → Int) (l : List Int) : Int := (l.map v).foldl (· + ·) 0

theorem sumF_bd {v : Int → Int} {m : Int} : ∀ (l : List Int) (a : Int), (∀ n ∈ l, 0 ≤ v n ∧ v n ≤ m) → a ≤ (l.map v).foldl (· + ·) a ∧ (l.map v).foldl (· + ·) a ≤ a + l.length * m
  | [], a, _ => by simp
  | n :: l, a, h => by
    have h1 := h n (by simp)
    have h2 := sumF_bd l (a + v n) (fun r hr => h r (by simp [hr]))
    simp only [List.map_cons, List.foldl_cons, List.length_cons]
    have : ((l.length + 1 : Nat) : Int) * m = l.length * m + m := by push_cast; rw [Int.add_mul]; omega
    omega

theorem c_sum {f : FuncId} {us : List V} {v : Int → Int} {l : List Int} (hpl : Plain us) (hl : l.length ≤ 16) (hv : ∀ n ∈ l, 0 ≤ v n ∧ v n ≤ 1000) (hf : ∀ n ∈ l, C Tryd.prog f (I n :: us) (I (v n))) :
    C Tryd.prog F.bin_sum_int [intsV l, .func (.func f) [] us] (I (sumF v l)) := by
  refine C_of mixed chk.bin_sum_int (by simp) fun S ok => ?_
  refine Tr.seqR rfl (by simp) (Tr.seqR rfl (by simp) (Tr.seq (Tr.seqR rfl (by simp) (Tr.block ?_))))
  refine Tr.loop (fun (k : Nat) st => k ≤ l.length ∧ st = { env := [(1, .func (.func f) [] us), (5, I (sumF v (l.take k))), (8, intsV l), (9, I (l.length : Nat)), (10, I (k : Nat))], bx := [], rw := [], log := [], stp := false }) (fun k => l.length - k) 0
    (Wk.le (.cons rfl (.refl _) (.cons rfl (.refl _) (.cons rfl (.refl _) (.cons rfl (VLe.i (by simp)) (.cons rfl (.refl _) .nil))))) .nil .nil (by simp only [okRefs, List.all_cons, refs_plain hpl]; rfl) rfl) ⟨by omega, rfl⟩ ?_
  rintro k st ⟨hk, rfl⟩
  refine Tr.seqR rfl (by simp) (Tr.seqI rfl (fun h1 => ?_) (fun h1 => ?_))
  · have h1 : k < l.length := by simpa using h1
    refine Tr.skipT (Tr.seq (Tr.block (Tr.seq (Tr.reg (Steps.runN 1 rfl (by simp; omega) ?_)))))
    rw [getD_map h1]
    refine Steps.fin rfl (by simp) ?_
    refine Tr.reg (Steps.run rfl (by simp) (Steps.callv (us := I l[k] :: us) (ids := []) rfl ?_ (hf _ (List.getElem_mem h1)) (Steps.fin rfl (by simp) (Tr.regR rfl (by simp) ?_))))
    · show cons2 _ (toDs _ us) = _
      rw [hpl.d]; rfl
    have hb := sumF_bd (l.take k) 0 (v := v) (m := 1000) (fun n hn => hv n (List.mem_of_mem_take hn))
    have hb2 := hv _ (List.getElem_mem h1)
    have hlt : (l.take k).length = k := by simp; omega
    rw [hlt] at hb
    have e : sumF v (l.take (k + 1)) = sumF v (l.take k) + v l[k] := by
      unfold sumF
      rw [List.take_add_one, List.getElem?_eq_getElem h1, List.map_append, List.foldl_append]; rfl
    refine ⟨k + 1, _, Wk.le (.cons rfl (.refl _) (.cons rfl (VLe.i ?_) (.cons rfl (.refl _) (.cons rfl (.refl _) (.cons rfl (VLe.i (w64 (by omega) (by omega))) .nil))))) .nil .nil (by simp only [okRefs, List.all_cons, refs_plain hpl]; rfl) rfl, ⟨h1, rfl⟩, by omega⟩
    rw [e]
    unfold sumF
    exact w64 (by omega) (by omega)
  · have h1 : k = l.length := by simp at h1; omega
    subst h1
    rw [List.take_length]
    exact Tr.exit (Tr.seqR rfl (by simp) (Tr.retX rfl rfl rfl rfl trivial))

theorem plain_nil : Plain [] := ⟨fun _ => rfl, fun _ _ => rfl⟩

theorem c_covers1 (n : Int) : C Tryd.prog F.bin_covers_1 [I n] (I n) := by
  refine C_of mixed chk.bin_covers_1 (by simp) fun S ok => ?_
  exact Tr.seqR rfl (by simp) (Tr.seqR rfl (by simp) (Tr.retX rfl rfl rfl rfl trivial))

/-! ### Infills that are such -/
theorem nfOk_spec {x : Nf} (h : nfOk x = true) : (x.lacks.length ≤ 16 ∧ x.passes.length ≤ 10) ∧ (∀ n ∈ x.lacks, 1 ≤ n ∧ n ≤ 100) ∧ ∀ p ∈ x.passes, (1 ≤ p.cost ∧ p.cost ≤ 1000) ∧ p.adds.length = x.lacks.length ∧ ∀ n ∈ p.adds, 0 ≤ n ∧ n ≤ 100 := by
  simp only [nfOk, passOk, Bool.and_eq_true, decide_eq_true_eq, List.all_eq_true, btw_iff, Bool.not_eq_true', List.any_eq_false, Bool.not_eq_true, Bool.not_eq_false'] at h
  obtain ⟨⟨h1, h2⟩, h3⟩ := h
  refine ⟨h1, h2, fun p hp => ⟨(h3 p hp).1.1, (h3 p hp).1.2, fun n hn => ?_⟩⟩
  have := (h3 p hp).2 n hn
  simpa [btw_iff] using this

def p0 : Ps := ⟨0, []⟩
def costOf (x : Nf) (i : Nat) : Int := (x.passes.getD i p0).cost
def costB (x : Nf) (b : Nat) : Int := sumF (fun i => costOf x i.toNat) (choiceL b)

theorem mem_choice {b i : Nat} : i ∈ choiceN b ↔ i < 10 ∧ b.testBit i = true := by simp [choiceN]

theorem bit_lt {b i m : Nat} (h : b < 2 ^ m) (hi : b.testBit i = true) : i < m := by
  rcases Nat.lt_or_ge i m with h1 | h1
  · exact h1
  · have := Nat.testBit_lt_two_pow (i := i) (Nat.lt_of_lt_of_le h (Nat.pow_le_pow_right (by omega) h1))
    rw [hi] at this; cases this

theorem choice_lt {b : Nat} {x : Nf} (h : b < 2 ^ x.passes.length) {n : Int} (hn : n ∈ choiceL b) : ∃ i : Nat, n = (i : Nat) ∧ i < x.passes.length := by
  obtain ⟨i, hi, rfl⟩ := List.mem_map.1 hn
  exact ⟨i, rfl, bit_lt h (mem_choice.1 hi).2⟩

theorem choiceN_len (b : Nat) : (choiceN b).length ≤ 10 := by
  have := List.length_filter_le (fun i => b.testBit i) (List.range 10)
  simpa [choiceN] using this

theorem choiceL_len (b : Nat) : (choiceL b).length ≤ 10 := by
  have := choiceN_len b
  simpa [choiceL, castL] using this

theorem c_cost1 {x : Nf} {i : Nat} (hi : i < x.passes.length) : C Tryd.prog F.bin_cost_1 [I (i : Nat), .vptr (nfC x) 0] (I (costOf x i)) := by
  refine C_of mixed chk.bin_cost_1 (by simp) fun S ok => ?_
  refine Tr.seqR rfl (by simp) (Tr.seq (Tr.reg (Steps.runN 4 rfl (by simp; omega) ?_)))
  rw [getD_map hi]
  refine Steps.fin rfl (by simp) (Tr.retX rfl rfl rfl ?_ trivial)
  simp [packR, costOf, hi]

theorem plain_vptr (x : Nf) : Plain [.vptr (nfC x) 0] := ⟨fun _ => rfl, fun _ _ => rfl⟩

theorem c_cost {x : Nf} (hx : nfOk x = true) {b : Nat} (hb : b < 2 ^ x.passes.length) : C Tryd.prog F.bin_cost [.agg (nfC x), I (b : Nat)] (I (costB x b)) := by
  have hs := nfOk_spec hx
  have hC : ∀ n ∈ choiceL b, 0 ≤ costOf x n.toNat ∧ costOf x n.toNat ≤ 1000 := fun n hn => by
    obtain ⟨i, rfl, hi⟩ := choice_lt hb hn
    have := (hs.2.2 _ (List.getElem_mem hi)).1
    simp [costOf, hi]; omega
  have k := c_sum (f := F.bin_cost_1) (us := [.vptr (nfC x) 0]) (v := fun i => costOf x i.toNat) (l := choiceL b) (plain_vptr x) (by have := choiceL_len b; omega) hC fun n hn => by
    obtain ⟨i, rfl, hi⟩ := choice_lt hb hn
    exact c_cost1 hi
  refine C_of mixed chk.bin_cost (by simp) fun S ok => ?_
  refine Tr.seqR rfl (by simp) (Tr.seqC rfl (by simp) (Steps.call rfl rfl (c_choice b) (Steps.run rfl (by simp) (Steps.call rfl rfl k (Steps.fin rfl (by simp) (Tr.retX rfl rfl rfl rfl trivial))))))

end Go.Proofs.YtdejdblopmfjfaaDoor

