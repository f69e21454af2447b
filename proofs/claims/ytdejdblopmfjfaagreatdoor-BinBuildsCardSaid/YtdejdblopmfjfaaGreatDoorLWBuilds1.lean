/-
  Parts of the proof, 1: the abstract machine, the compiled code, contracts of the functions, plain laws.
-/
import Derived.Test.YtdejdblopmfjfaaGreatDoorZ6


/-! The code of further functions, compiled. -/
set_option maxRecDepth 100000
namespace Go.Proofs.YtdejdblopmfjfaaGreatDoor
open Go.Am
/-- paravane/paravanelaw07.BinBuilds -/
abbrev F.law07_BinBuilds : Nat := 7
def ir.law07_BinBuilds : IC :=
 (.seq (.reg [.n 3 .box [.t 0], .n 4 .box [.t 1], .n 5 .box [.t 2], .n 6 .mov [.c (.bool false)]])
   (.seq (.reg [.n 12 (.load 6 true) [.t 3], .n 13 (.load 2 true) [.t 4], .n 14 (.faddr 0) [.t 5], .n 15 (.load 1 false) [.t 14], .n 16 (.faddr 1) [.t 5], .n 17 (.load 1 false) [.t 16], .n 18 (.faddr 2) [.t 5], .n 19 (.load 1 false) [.t 18], .n 20 (.call 32) [.t 12, .t 13, .t 15, .t 17, .t 19], .n 11 .mov [.t 20], .n 21 (.extract 0) [.t 11], .n 22 (.extract 1) [.t 11], .n 7 (.alloc [.nils, .nils]) [], .s (.store 2) [.t 7, .t 21], .n 8 .mov [.t 22]])
   (.seq (.reg [.n 24 (.load 6 true) [.t 3], .n 25 (.load 2 true) [.t 4], .n 26 (.faddr 0) [.t 5], .n 27 (.load 1 false) [.t 26], .n 28 (.faddr 1) [.t 5], .n 29 (.load 1 false) [.t 28], .n 30 (.faddr 2) [.t 5], .n 31 (.load 1 false) [.t 30], .n 32 (.call 33) [.t 24, .t 25, .t 27, .t 29, .t 31], .n 23 .mov [.t 32], .n 33 (.extract 0) [.t 23], .n 34 (.extract 1) [.t 23], .n 9 (.alloc [.nils, .nils]) [], .s (.store 2) [.t 9, .t 33], .n 10 .mov [.t 34]])
   (.seq (.reg [.n 35 (.load 2 true) [.t 7], .n 36 (.load 2 true) [.t 9], .n 37 (.call 34) [.t 35, .t 36], .n 38 .mov [.t 37], .w 39 .mov [.t 8] 38 true, .w 40 .mov [.t 10] 38 true, .w 41 (.bin .eql) [.t 39, .t 40] 38 true, .n 42 .pick [.t 38, .t 41, .c (.bool false)], .n 43 .mov [.t 42], .w 44 (.call 19) [] 43 true, .n 45 .pick [.t 43, .t 44, .c (.bool false)], .n 6 .mov [.t 45]])
   .ret))))
theorem chk.law07_BinBuilds : chkF Tryz.prog 7 = some (46, ir.law07_BinBuilds, [.tmp 6]) := by kernel_rfl

/-- paravane/bin.Build -/
abbrev F.bin_Build : Nat := 32
def ir.bin_Build : IC :=
 (.seq (.reg [.n 5 .box [.t 0], .n 6 .box [.t 1], .n 10 (.alloc [.nils, .nils]) [], .n 11 .mov [.i 0]])
   (.seq (.reg [.n 29 (.load 6 true) [.t 5], .n 30 (.load 2 true) [.t 6], .n 31 (.call 50) [.t 29, .t 30], .n 28 .mov [.t 31], .n 32 (.extract 0) [.t 28], .n 33 (.extract 1) [.t 28], .n 12 (.alloc [(.int .i64 0), (.int .i64 0), (.int .i64 0), (.int .i64 0), (.int .i64 0), .nils, .nils, .nils]) [], .s (.store 8) [.t 12, .t 32], .n 13 .mov [.t 33]])
   (.seq (.seq (.reg [.n 34 .mov [.t 13], .n 35 (.bin .neq) [.t 34, .i 0]])
   (.cond (.t 35) (.seq (.reg [.n 36 (.build [.nils, .nils] []) [], .n 37 .mov [.t 13], .s (.store 2) [.t 10, .t 36], .n 11 .mov [.t 37]])
   .ret) .skip))
   (.seq (.seq (.reg [.n 38 (.load 6 true) [.t 5], .n 39 .mov [.t 2], .n 40 (.call 64) [.t 38, .t 39], .n 41 (.un .not) [.t 40]])
   (.cond (.t 41) (.seq (.reg [.n 42 (.build [.nils, .nils] []) [], .s (.store 2) [.t 10, .t 42], .n 11 .mov [.i 73]])
   .ret) .skip))
   (.seq (.seq (.reg [.n 43 .mov [.t 3], .n 44 (.len false) [.t 43], .n 45 .mov [.i 0]])
   (.block 0 (.loop (.seq (.reg [.n 46 (.bin .lss) [.t 45, .t 44]])
   (.seq (.cond (.t 46) .skip (.exit 0))
   (.seq (.block 1 (.seq (.reg [.n 47 (.iaddrS 2) [.t 43, .t 45], .n 48 (.load 2 true) [.t 47], .n 15 (.alloc [.nils, .nils]) [], .s (.store 2) [.t 15, .t 48]])
   (.seq (.reg [.n 49 (.load 2 true) [.t 15], .n 50 (.call 12) [.t 49], .n 16 .mov [.t 50]])
   (.seq (.reg [.n 51 .mov [.t 16], .n 52 (.bin .neq) [.t 51, .i 0]])
   (.cond (.t 52) (.seq (.reg [.n 53 (.build [.nils, .nils] []) [], .n 54 .mov [.t 16], .s (.store 2) [.t 10, .t 53], .n 11 .mov [.t 54]])
   .ret) .skip)))))
   (.reg [.n 55 (.bin .add) [.t 45, .i 1], .n 45 .mov [.t 55]])))))))
   (.seq (.seq (.reg [.n 56 .mov [.t 3], .n 57 (.len false) [.t 56], .n 58 (.bin .gtr) [.t 57, .i 10], .n 59 .mov [.t 58], .w 60 .mov [.t 4] 59 false, .w 61 (.len false) [.t 60] 59 false, .w 62 .mov [.t 3] 59 false, .w 63 (.len false) [.t 62] 59 false, .w 64 (.bin .neq) [.t 61, .t 63] 59 false, .n 65 .pick [.t 59, .c (.bool true), .t 64], .n 66 .mov [.t 65], .w 67 .mov [.t 4] 66 false, .w 68 (.call 81) [.t 67, .c (.func (.func 82) [] [])] 66 false, .n 69 .pick [.t 66, .c (.bool true), .t 68]])
   (.cond (.t 69) (.seq (.reg [.n 70 (.build [.nils, .nils] []) [], .s (.store 2) [.t 10, .t 70], .n 11 .mov [.i 75]])
   .ret) .skip))
   (.seq (.reg [.n 71 (.load 8 true) [.t 12], .n 72 .mov [.t 2], .n 73 (.call 65) [.t 71, .t 72], .n 17 .mov [.t 73]])
   (.seq (.seq (.reg [.n 74 .mov [.t 17], .n 75 (.len false) [.t 74], .n 76 (.bin .gtr) [.t 75, .i 16]])
   (.cond (.t 76) (.seq (.reg [.n 77 (.build [.nils, .nils] []) [], .s (.store 2) [.t 10, .t 77], .n 11 .mov [.i 3]])
   .ret) .skip))
   (.seq (.reg [.n 18 (.alloc [.nils, .nils]) []])
   (.seq (.seq (.reg [.n 78 .mov [.t 17], .n 79 (.len false) [.t 78], .n 80 .mov [.i 0]])
   (.block 2 (.loop (.seq (.reg [.n 81 (.bin .lss) [.t 80, .t 79]])
   (.seq (.cond (.t 81) .skip (.exit 2))
   (.seq (.block 3 (.seq (.reg [.n 82 (.iaddrS 3) [.t 78, .t 80], .n 83 (.load 3 true) [.t 82], .n 20 (.alloc [(.int .i64 0), (.int .i64 0), (.int .i64 0)]) [], .s (.store 3) [.t 20, .t 83]])
   (.reg [.n 84 (.faddr 0) [.t 18], .n 85 (.load 1 false) [.t 84], .n 86 (.faddr 2) [.t 20], .n 87 (.load 1 false) [.t 86], .n 88 (.mkslice 1 3) [.t 87], .n 89 (.append 1 8 3) [.t 85, .t 88], .n 90 (.faddr 0) [.t 18], .s (.store 1) [.t 90, .t 89]])))
   (.reg [.n 91 (.bin .add) [.t 80, .i 1], .n 80 .mov [.t 91]])))))))
   (.seq (.seq (.reg [.n 92 .mov [.t 3], .n 93 (.len false) [.t 92], .n 94 .mov [.i 0]])
   (.block 4 (.loop (.seq (.reg [.n 95 (.bin .lss) [.t 94, .t 93]])
   (.seq (.cond (.t 95) .skip (.exit 4))
   (.seq (.block 5 (.seq (.reg [.n 96 .mov [.t 94], .n 97 (.iaddrS 2) [.t 92, .t 94], .n 98 (.load 2 true) [.t 97], .n 22 (.alloc [.nils, .nils]) [], .n 21 .mov [.t 96], .s (.store 2) [.t 22, .t 98]])
   (.seq (.reg [.n 99 (.load 6 true) [.t 5], .n 100 (.load 2 true) [.t 22], .n 101 (.call 83) [.t 99, .t 100], .n 23 (.alloc [(.int .i64 0), (.int .i64 0), (.int .i64 0), (.int .i64 0), (.int .i64 0), .nils, .nils, .nils]) [], .s (.store 8) [.t 23, .t 101]])
   (.seq (.reg [.n 102 (.load 8 true) [.t 23], .n 103 (.load 8 true) [.t 23], .n 104 (.mkfunc (.func 61) 1) [.t 103], .n 105 (.call 62) [.t 102, .t 104], .n 24 .mov [.t 105]])
   (.seq (.reg [.n 106 .mov [.t 4], .n 107 .mov [.t 21], .n 108 (.iaddrS 1) [.t 106, .t 107], .n 109 (.load 1 false) [.t 108], .n 110 (.build [(.int .i64 0), .nils] [(0, 1)]) [.t 109], .n 25 (.alloc [(.int .i64 0), .nils]) [], .s (.store 2) [.t 25, .t 110]])
   (.seq (.seq (.reg [.n 111 .mov [.t 17], .n 112 (.len false) [.t 111], .n 113 .mov [.i 0]])
   (.block 6 (.loop (.seq (.reg [.n 114 (.bin .lss) [.t 113, .t 112]])
   (.seq (.cond (.t 114) .skip (.exit 6))
   (.seq (.block 7 (.seq (.reg [.n 115 (.iaddrS 3) [.t 111, .t 113], .n 116 (.load 3 true) [.t 115], .n 27 (.alloc [(.int .i64 0), (.int .i64 0), (.int .i64 0)]) [], .s (.store 3) [.t 27, .t 116]])
   (.draw [0, 1, 0, 0, 8, 28, 60, 0, 128, 508, 1020, 2044, 4092, 8191, 16383, 32767] [.n 117 (.faddr 1) [.t 25], .n 118 (.load 1 false) [.t 117], .n 119 .mov [.t 24], .n 120 (.faddr 0) [.t 27], .n 121 (.load 1 false) [.t 120], .n 122 (.iaddrS 1) [.t 119, .t 121], .n 123 (.load 1 false) [.t 122], .n 124 (.faddr 1) [.t 27], .n 125 (.load 1 false) [.t 124], .n 126 (.iaddrS 1) [.t 123, .t 125], .n 127 (.load 1 false) [.t 126], .n 128 (.minmax false) [.i 100, .t 127], .n 129 (.mkslice 1 3) [.t 128], .n 130 (.append 1 8 3) [.t 118, .t 129], .n 131 (.faddr 1) [.t 25], .s (.store 1) [.t 131, .t 130]])))
   (.reg [.n 132 (.bin .add) [.t 113, .i 1], .n 113 .mov [.t 132]])))))))
   (.reg [.n 133 (.faddr 1) [.t 18], .n 134 (.load 1 false) [.t 133], .n 135 (.load 2 true) [.t 25], .n 136 (.mkslice 2 147) [.t 135], .n 137 (.append 2 32 147) [.t 134, .t 136], .n 138 (.faddr 1) [.t 18], .s (.store 1) [.t 138, .t 137]])))))))
   (.reg [.n 139 (.bin .add) [.t 94, .i 1], .n 94 .mov [.t 139]])))))))
   (.seq (.reg [.n 140 (.load 2 true) [.t 18], .s (.store 2) [.t 10, .t 140], .n 11 .mov [.i 0]])
   .ret))))))))))))
theorem chk.bin_Build : chkF Tryz.prog 32 = some (141, ir.bin_Build, [.cell 10 63, .tmp 11]) := by kernel_rfl

/-- paravane/paravaneref07.Build -/
abbrev F.ref07_Build : Nat := 33
def ir.ref07_Build : IC :=
 (.seq (.reg [.n 5 .box [.t 0], .n 6 .box [.t 1], .n 10 (.alloc [.nils, .nils]) [], .n 11 .mov [.i 0]])
   (.seq (.seq (.reg [.n 25 (.load 6 true) [.t 5], .n 26 (.load 2 true) [.t 6], .n 27 (.call 52) [.t 25, .t 26], .n 12 .mov [.t 27]])
   (.seq (.reg [.n 28 .mov [.t 12], .n 29 (.bin .neq) [.t 28, .i 0]])
   (.cond (.t 29) (.seq (.reg [.n 30 (.build [.nils, .nils] []) [], .n 31 .mov [.t 12], .s (.store 2) [.t 10, .t 30], .n 11 .mov [.t 31]])
   .ret) .skip)))
   (.seq (.seq (.reg [.n 32 (.load 6 true) [.t 5], .n 33 .mov [.t 2], .n 34 (.call 66) [.t 32, .t 33], .n 35 (.un .not) [.t 34]])
   (.cond (.t 35) (.seq (.reg [.n 36 (.build [.nils, .nils] []) [], .s (.store 2) [.t 10, .t 36], .n 11 .mov [.i 73]])
   .ret) .skip))
   (.seq (.seq (.reg [.n 13 .mov [.i 0]])
   (.block 0 (.loop (.seq (.seq (.reg [.n 37 .mov [.t 13], .n 38 .mov [.t 3], .n 39 (.len false) [.t 38], .n 40 (.bin .lss) [.t 37, .t 39]])
   (.cond (.t 40) .skip (.exit 0)))
   (.seq (.block 1 (.seq (.reg [.n 43 .mov [.t 3], .n 44 .mov [.t 13], .n 45 (.iaddrS 2) [.t 43, .t 44], .n 46 (.load 2 true) [.t 45], .n 47 (.call 13) [.t 46], .n 14 .mov [.t 47]])
   (.seq (.reg [.n 48 .mov [.t 14], .n 49 (.bin .neq) [.t 48, .i 0]])
   (.cond (.t 49) (.seq (.reg [.n 50 (.build [.nils, .nils] []) [], .n 51 .mov [.t 14], .s (.store 2) [.t 10, .t 50], .n 11 .mov [.t 51]])
   .ret) .skip))))
   (.reg [.n 41 .mov [.t 13], .n 42 (.bin .add) [.t 41, .i 1], .n 13 .mov [.t 42]]))))))
   (.seq (.reg [.n 52 .mov [.t 3], .n 53 (.len false) [.t 52], .n 54 (.bin .leq) [.t 53, .i 10], .n 55 .mov [.t 54], .w 56 .mov [.t 4] 55 true, .w 57 (.len false) [.t 56] 55 true, .w 58 .mov [.t 3] 55 true, .w 59 (.len false) [.t 58] 55 true, .w 60 (.bin .eql) [.t 57, .t 59] 55 true, .n 61 .pick [.t 55, .t 60, .c (.bool false)], .n 15 .mov [.t 61]])
   (.seq (.seq (.reg [.n 16 .mov [.i 0]])
   (.block 2 (.loop (.seq (.seq (.reg [.n 62 .mov [.t 16], .n 63 .mov [.t 4], .n 64 (.len false) [.t 63], .n 65 (.bin .lss) [.t 62, .t 64]])
   (.cond (.t 65) .skip (.exit 2)))
   (.seq (.block 3 (.reg [.n 68 .mov [.t 15], .n 69 .mov [.t 68], .w 70 .mov [.t 4] 69 true, .w 71 .mov [.t 16] 69 true, .w 72 (.iaddrS 1) [.t 70, .t 71] 69 true, .w 73 (.load 1 false) [.t 72] 69 true, .w 74 (.call 39) [.t 73, .i 1, .i 1000] 69 true, .n 75 .pick [.t 69, .t 74, .c (.bool false)], .n 15 .mov [.t 75]]))
   (.reg [.n 66 .mov [.t 16], .n 67 (.bin .add) [.t 66, .i 1], .n 16 .mov [.t 67]]))))))
   (.seq (.seq (.reg [.n 76 .mov [.t 15], .n 77 (.un .not) [.t 76]])
   (.cond (.t 77) (.seq (.reg [.n 78 (.build [.nils, .nils] []) [], .s (.store 2) [.t 10, .t 78], .n 11 .mov [.i 75]])
   .ret) .skip))
   (.seq (.reg [.n 79 (.load 6 true) [.t 5], .n 80 (.load 2 true) [.t 6], .n 81 .mov [.t 2], .n 82 (.call 67) [.t 79, .t 80, .t 81], .n 17 .mov [.t 82]])
   (.seq (.seq (.reg [.n 83 .mov [.t 17], .n 84 (.len false) [.t 83], .n 85 (.bin .gtr) [.t 84, .i 16]])
   (.cond (.t 85) (.seq (.reg [.n 86 (.build [.nils, .nils] []) [], .s (.store 2) [.t 10, .t 86], .n 11 .mov [.i 3]])
   .ret) .skip))
   (.seq (.reg [.n 18 (.alloc [.nils, .nils]) []])
   (.seq (.seq (.reg [.n 19 .mov [.i 0]])
   (.block 4 (.loop (.seq (.seq (.reg [.n 87 .mov [.t 19], .n 88 .mov [.t 17], .n 89 (.len false) [.t 88], .n 90 (.bin .lss) [.t 87, .t 89]])
   (.cond (.t 90) .skip (.exit 4)))
   (.seq (.block 5 (.draw [0, 1, 0, 0, 12, 28, 60, 124, 255, 511, 1023] [.n 93 (.faddr 0) [.t 18], .n 94 (.load 1 false) [.t 93], .n 95 .mov [.t 17], .n 96 .mov [.t 19], .n 97 (.iaddrS 3) [.t 95, .t 96], .n 98 (.faddr 2) [.t 97], .n 99 (.load 1 false) [.t 98], .n 100 (.mkslice 1 3) [.t 99], .n 101 (.append 1 8 3) [.t 94, .t 100], .n 102 (.faddr 0) [.t 18], .s (.store 1) [.t 102, .t 101]]))
   (.reg [.n 91 .mov [.t 19], .n 92 (.bin .add) [.t 91, .i 1], .n 19 .mov [.t 92]]))))))
   (.seq (.seq (.reg [.n 20 .mov [.i 0]])
   (.block 6 (.loop (.seq (.seq (.reg [.n 103 .mov [.t 20], .n 104 .mov [.t 3], .n 105 (.len false) [.t 104], .n 106 (.bin .lss) [.t 103, .t 105]])
   (.cond (.t 106) .skip (.exit 6)))
   (.seq (.block 7 (.seq (.draw [0, 0, 0, 6, 14, 31, 63, 127, 127, 255, 1023] [.n 110 (.load 6 true) [.t 5], .n 111 .mov [.t 3], .n 112 .mov [.t 20], .n 113 (.iaddrS 2) [.t 111, .t 112], .n 114 (.load 2 true) [.t 113], .n 115 (.call 63) [.t 110, .t 114], .n 109 .mov [.t 115], .n 116 (.extract 0) [.t 109], .n 117 (.extract 1) [.t 109], .n 21 .mov [.t 116], .n 22 .mov [.t 117]])
   (.seq (.reg [.n 118 .mov [.t 4], .n 119 .mov [.t 20], .n 120 (.iaddrS 1) [.t 118, .t 119], .n 121 (.load 1 false) [.t 120], .n 122 (.build [(.int .i64 0), .nils] [(0, 1)]) [.t 121], .n 23 (.alloc [(.int .i64 0), .nils]) [], .s (.store 2) [.t 23, .t 122]])
   (.seq (.seq (.reg [.n 24 .mov [.i 0]])
   (.block 8 (.loop (.seq (.seq (.reg [.n 123 .mov [.t 24], .n 124 .mov [.t 17], .n 125 (.len false) [.t 124], .n 126 (.bin .lss) [.t 123, .t 125]])
   (.cond (.t 126) .skip (.exit 8)))
   (.seq (.block 9 (.draw [0, 1, 0, 0, 0, 24, 56, 120, 252, 508, 0, 0, 3072, 7168, 15360, 32764, 65532, 131068, 262140, 524287, 1048575, 2097151] [.n 129 (.faddr 1) [.t 23], .n 130 (.load 1 false) [.t 129], .n 131 .mov [.t 21], .n 132 .mov [.t 17], .n 133 .mov [.t 24], .n 134 (.iaddrS 3) [.t 132, .t 133], .n 135 (.faddr 0) [.t 134], .n 136 (.load 1 false) [.t 135], .n 137 (.iaddrS 1) [.t 131, .t 136], .n 138 (.load 1 false) [.t 137], .n 139 .mov [.t 17], .n 140 .mov [.t 24], .n 141 (.iaddrS 3) [.t 139, .t 140], .n 142 (.faddr 1) [.t 141], .n 143 (.load 1 false) [.t 142], .n 144 (.iaddrS 1) [.t 138, .t 143], .n 145 (.load 1 false) [.t 144], .n 146 (.minmax false) [.i 100, .t 145], .n 147 (.mkslice 1 3) [.t 146], .n 148 (.append 1 8 3) [.t 130, .t 147], .n 149 (.faddr 1) [.t 23], .s (.store 1) [.t 149, .t 148]]))
   (.reg [.n 127 .mov [.t 24], .n 128 (.bin .add) [.t 127, .i 1], .n 24 .mov [.t 128]]))))))
   (.reg [.n 150 (.faddr 1) [.t 18], .n 151 (.load 1 false) [.t 150], .n 152 (.load 2 true) [.t 23], .n 153 (.mkslice 2 147) [.t 152], .n 154 (.append 2 32 147) [.t 151, .t 153], .n 155 (.faddr 1) [.t 18], .s (.store 1) [.t 155, .t 154]])))))
   (.reg [.n 107 .mov [.t 20], .n 108 (.bin .add) [.t 107, .i 1], .n 20 .mov [.t 108]]))))))
   (.seq (.reg [.n 156 (.load 2 true) [.t 18], .s (.store 2) [.t 10, .t 156], .n 11 .mov [.i 0]])
   .ret)))))))))))))
theorem chk.ref07_Build : chkF Tryz.prog 33 = some (157, ir.ref07_Build, [.cell 10 63, .tmp 11]) := by kernel_rfl

/-- paravane/paravanelaw07.alike -/
abbrev F.law07_alike : Nat := 34
def ir.law07_alike : IC :=
 (.seq (.reg [.n 2 .box [.t 0], .n 3 .box [.t 1], .n 4 .mov [.c (.bool false)]])
   (.seq (.seq (.reg [.n 6 (.faddr 0) [.t 2], .n 7 (.load 1 false) [.t 6], .n 8 (.faddr 0) [.t 3], .n 9 (.load 1 false) [.t 8], .n 10 (.call 60) [.t 7, .t 9], .n 11 (.un .not) [.t 10], .n 12 .mov [.t 11], .w 13 (.faddr 1) [.t 2] 12 false, .w 14 (.load 1 false) [.t 13] 12 false, .w 15 (.len false) [.t 14] 12 false, .w 16 (.faddr 1) [.t 3] 12 false, .w 17 (.load 1 false) [.t 16] 12 false, .w 18 (.len false) [.t 17] 12 false, .w 19 (.bin .neq) [.t 15, .t 18] 12 false, .n 20 .pick [.t 12, .c (.bool true), .t 19]])
   (.cond (.t 20) (.seq (.reg [.n 4 .mov [.c (.bool false)]])
   .ret) .skip))
   (.seq (.seq (.reg [.n 5 .mov [.i 0]])
   (.block 0 (.loop (.seq (.seq (.reg [.n 21 .mov [.t 5], .n 22 (.faddr 1) [.t 2], .n 23 (.load 1 false) [.t 22], .n 24 (.len false) [.t 23], .n 25 (.bin .lss) [.t 21, .t 24]])
   (.cond (.t 25) .skip (.exit 0)))
   (.seq (.block 1 (.seq (.draw [0, 1, 0, 7, 15, 31, 0, 64, 0, 448, 960, 1984, 4095, 8191, 16383, 32767, 16383, 131071, 262143, 524287, 16383, 1064959, 16383, 7356415, 15745023, 32522239, 67108863, 134217727, 268435455] [.n 28 (.faddr 1) [.t 2], .n 29 (.load 1 false) [.t 28], .n 30 .mov [.t 5], .n 31 (.iaddrS 2) [.t 29, .t 30], .n 32 (.faddr 0) [.t 31], .n 33 (.load 1 false) [.t 32], .n 34 (.faddr 1) [.t 3], .n 35 (.load 1 false) [.t 34], .n 36 .mov [.t 5], .n 37 (.iaddrS 2) [.t 35, .t 36], .n 38 (.faddr 0) [.t 37], .n 39 (.load 1 false) [.t 38], .n 40 (.bin .neq) [.t 33, .t 39], .n 41 .mov [.t 40], .w 42 (.faddr 1) [.t 2] 41 false, .w 43 (.load 1 false) [.t 42] 41 false, .w 44 .mov [.t 5] 41 false, .w 45 (.iaddrS 2) [.t 43, .t 44] 41 false, .w 46 (.faddr 1) [.t 45] 41 false, .w 47 (.load 1 false) [.t 46] 41 false, .w 48 (.faddr 1) [.t 3] 41 false, .w 49 (.load 1 false) [.t 48] 41 false, .w 50 .mov [.t 5] 41 false, .w 51 (.iaddrS 2) [.t 49, .t 50] 41 false, .w 52 (.faddr 1) [.t 51] 41 false, .w 53 (.load 1 false) [.t 52] 41 false, .w 54 (.call 60) [.t 47, .t 53] 41 false, .w 55 (.un .not) [.t 54] 41 false, .n 56 .pick [.t 41, .c (.bool true), .t 55]])
   (.cond (.t 56) (.seq (.reg [.n 4 .mov [.c (.bool false)]])
   .ret) .skip)))
   (.reg [.n 26 .mov [.t 5], .n 27 (.bin .add) [.t 26, .i 1], .n 5 .mov [.t 27]]))))))
   (.seq (.reg [.n 4 .mov [.c (.bool true)]])
   .ret))))
theorem chk.law07_alike : chkF Tryz.prog 34 = some (57, ir.law07_alike, [.tmp 4]) := by kernel_rfl

/-- paravane/bin.Build$1 -/
abbrev F.bin_Build_1 : Nat := 82
def ir.bin_Build_1 : IC :=
 (.seq (.reg [.n 2 .mov [.c (.bool false)]])
   (.seq (.reg [.n 3 .mov [.t 0], .n 4 (.call 44) [.t 3, .i 1, .i 1000], .n 5 (.un .not) [.t 4], .n 2 .mov [.t 5]])
   .ret))
theorem chk.bin_Build_1 : chkF Tryz.prog 82 = some (6, ir.bin_Build_1, [.tmp 2]) := by kernel_rfl

end Go.Proofs.YtdejdblopmfjfaaGreatDoor

/-! Contracts: Build. -/
set_option linter.unusedVariables false
set_option linter.unusedSimpArgs false
set_option maxRecDepth 40000
set_option maxHeartbeats 4000000
namespace Go.Proofs.YtdejdblopmfjfaaGreatDoor
open Go.Am
attribute [local simp] cells scalar mkv splice under2 under dem dem1 eB gridC sB laidC fourC eF layC eQ nfC intsV foldV eL sL
def eY (s : Ly) : V := .agg (layC s)
attribute [local simp] eY
def lySane (s : Ly) : Prop := s.nodes.length ≤ 9223372036854775807 ∧ s.traces.length ≤ 9223372036854775807

def addK (F : List (List Int)) (k : Int × Int × Int) : Int := min 100 (at2 F k.1.toNat k.2.1.toNat)
def addsK (F : List (List Int)) (K : List (Int × Int × Int)) : List Int := K.map (addK F)
def foldS (g : Gd) (s : Ly) : List (List Int) := cntN (layD g s) (sureT (layD g s))
def passesK (g : Gd) (K : List (Int × Int × Int)) (lines : List Ly) (costs : List Int) : List Ps := List.zipWith (fun s c => ⟨c, addsK (foldS g s) K⟩) lines costs
def buildN (g : Gd) (K : List (Int × Int × Int)) (lines : List Ly) (costs : List Int) : Nf := ⟨K.map (·.2.2), passesK g K lines costs⟩
def nf0 : Nf := ⟨[], []⟩

theorem c_build1 (n : Int) : C Tryz.prog F.bin_Build_1 [I n] (.bool (!btw n 1 1000)) := by
  refine C_of mixed chk.bin_Build_1 (by simp) fun S ok => ?_
  exact Tr.seqR rfl (by simp) (Tr.seqC rfl (by simp) (Steps.call rfl rfl (c_within n 1 1000) (Steps.fin rfl (by simp) (Tr.retX rfl rfl rfl rfl trivial))))

def BuildR (g : Gd) (s : Ly) (ns : List Int) (lines : List Ly) (costs : List Int) : V :=
  if gridOk g then (if layOk s then (if needOk g ns then (if lines.all layOk then (if lines.length ≤ 10 ∧ costs.length = lines.length ∧ (costs.any fun n => !btw n 1 1000) = false then
    (if (lacksL (layD g s) ns).length ≤ 16 then .tuple [.agg (nfC (buildN g (lacksL (layD g s) ns) lines costs)), I 0] else .tuple [.agg (nfC nf0), I 3]) else .tuple [.agg (nfC nf0), I 75]) else .tuple [.agg (nfC nf0), I 71]) else .tuple [.agg (nfC nf0), I 73]) else .tuple [.agg (nfC nf0), I 71]) else .tuple [.agg (nfC nf0), I 70]

theorem lackAt_mem {ns : List Int} {f : List (List Int)} {i k : Nat} {x : Int × Int × Int} (h : x ∈ lackAt ns f i k) : x.1 = i ∧ x.2.1 = k := by
  unfold lackAt at h
  split at h
  · rw [List.mem_singleton.1 h]; exact ⟨rfl, rfl⟩
  · cases h

theorem lacks_mem {L : Ld} {ns : List Int} {x : Int × Int × Int} (h : x ∈ lacksL L ns) : ∃ b c : Nat, x.1 = b ∧ x.2.1 = c ∧ b < nBins L.g ∧ c < ns.length := by
  unfold lacksL lackN at h
  obtain ⟨i, hi, h⟩ := List.mem_flatMap.1 h
  unfold lackRow at h
  obtain ⟨k, hk, h⟩ := List.mem_flatMap.1 h
  obtain ⟨h1, h2⟩ := lackAt_mem h
  have hi := List.mem_range.1 hi
  rw [cntN_len] at hi
  exact ⟨i, k, h1, h2, hi, List.mem_range.1 hk⟩

theorem zip_take {α β γ : Type} {f : α → β → γ} {l : List α} {m : List β} {k : Nat} (h1 : k < l.length) (h2 : k < m.length) : (List.zipWith f l m).take (k + 1) = (List.zipWith f l m).take k ++ [f l[k] m[k]] := by
  rw [List.take_add_one, List.getElem?_zipWith, List.getElem?_eq_getElem h1, List.getElem?_eq_getElem h2]; rfl

theorem c_Build {g : Gd} {s : Ly} (hl : g.cls.length ≤ 9223372036854775807) (hs0 : lySane s) {ns : List Int} (hns : ns.length ≤ 9223372036854775807) {lines : List Ly} (hln : lines.length ≤ 9223372036854775807) (hls : ∀ y ∈ lines, lySane y) {costs : List Int} (hcs : costs.length ≤ 9223372036854775807) :
    C Tryz.prog F.bin_Build [.agg (gridC g), .agg (layC s), intsV ns, .slice 0 2 (lines.map eY), intsV costs] (BuildR g s ns lines costs) := by
  have kb := c_begun hl hs0.1 hs0.2
  have kn := c_needed (g := g) (l := ns) hns
  unfold BuildR
  refine C_of mixed chk.bin_Build (by simp) fun S ok => ?_
  refine Tr.seqR rfl (by simp) ?_
  by_cases hg : gridOk g = true
  rotate_left
  · rw [if_neg hg] at kb ⊢
    refine Tr.seqC rfl (by simp) (Steps.call rfl rfl kb (Steps.fin rfl (by simp) ?_))
    refine Tr.seq (Tr.seqR rfl (by simp) (Tr.condT rfl (Tr.seqR rfl (by simp) ?_)))
    exact Tr.weak (s' := { env := [(10, .ptr 10 0), (11, I 70)], bx := [(10, ⟨nfC nf0, false⟩)], rw := [], log := [], stp := false }) (Wk.le (.cons rfl (.refl _) (.cons rfl (.refl _) .nil)) (.cons rfl (.cons (.nil 0 1) (.cons (.nil 0 2) .nil)) .nil) .nil rfl rfl) (Tr.retX rfl rfl rfl rfl trivial)
  rw [if_pos hg] at kb ⊢
  by_cases hs : layOk s = true
  rotate_left
  · rw [if_neg hs] at kb ⊢
    refine Tr.seqC rfl (by simp) (Steps.call rfl rfl kb (Steps.fin rfl (by simp) ?_))
    refine Tr.seq (Tr.seqR rfl (by simp) (Tr.condT rfl (Tr.seqR rfl (by simp) ?_)))
    exact Tr.weak (s' := { env := [(10, .ptr 10 0), (11, I 71)], bx := [(10, ⟨nfC nf0, false⟩)], rw := [], log := [], stp := false }) (Wk.le (.cons rfl (.refl _) (.cons rfl (.refl _) .nil)) (.cons rfl (.cons (.nil 0 1) (.cons (.nil 0 2) .nil)) .nil) .nil rfl rfl) (Tr.retX rfl rfl rfl rfl trivial)
  rw [if_pos hs] at kb ⊢
  have hL := lay_ok hg hs
  have nb := (nBins_eq hg).2
  have hcl4 : g.cls.length ≤ 4 := by obtain ⟨_, _, _, _, h, _⟩ := gridOk_spec hg; exact h.2
  refine Tr.seqC rfl (by simp) (Steps.call rfl rfl kb (Steps.fin rfl (by simp [laidC]) ?_))
  refine Tr.seq (Tr.seqR rfl (by simp) (Tr.condF rfl (Tr.skip ?_)))
  by_cases hne : needOk g ns = true
  rotate_left
  · rw [if_neg hne]
    rw [show needOk g ns = false by simpa using hne] at kn
    refine Tr.seq (Tr.seqC rfl (by simp) (Steps.call rfl rfl kn (Steps.fin rfl (by simp) (Tr.condT rfl (Tr.seqR rfl (by simp) ?_)))))
    exact Tr.weak (s' := { env := [(10, .ptr 10 0), (11, I 73)], bx := [(10, ⟨nfC nf0, false⟩)], rw := [], log := [], stp := false }) (Wk.le (.cons rfl (.refl _) (.cons rfl (.refl _) .nil)) (.cons rfl (.cons (.nil 0 1) (.cons (.nil 0 2) .nil)) .nil) .nil rfl rfl) (Tr.retX rfl rfl rfl rfl trivial)
  rw [if_pos hne]
  rw [hne] at kn
  have hnl := (needOk_spec hne).1
  refine Tr.seq (Tr.seqC rfl (by simp) (Steps.call rfl rfl kn (Steps.fin rfl (by simp) (Tr.condF rfl (Tr.skip ?_)))))
  obtain ⟨L, eL0⟩ : ∃ L, layD g s = L := ⟨_, rfl⟩
  have eLg : L.g = g := by rw [← eL0]; rfl
  rw [eL0] at hL ⊢
  refine Tr.seq (Tr.seqR rfl (by simp) (Tr.block ?_))
  refine Tr.loop (fun (k : Nat) st => (k ≤ lines.length ∧ (lines.take k).all layOk = true) ∧ st = { env := [(2, intsV ns), (3, .slice 0 2 (lines.map eY)), (4, intsV costs), (5, .ptr 5 0), (10, .ptr 10 0), (12, .ptr 12 0), (43, .slice 0 2 (lines.map eY)), (44, I (lines.length : Nat)), (45, I (k : Nat))], bx := [(12, ⟨laidC L, false⟩), (10, ⟨[.nils, .nils], false⟩), (5, ⟨gridC g, false⟩)], rw := [], log := [], stp := false }) (fun k => lines.length - k) 0
    (Wk.le (.cons rfl (.refl _) (.cons rfl (.refl _) (.cons rfl (.refl _) (.cons rfl (.refl _) (.cons rfl (.refl _) (.cons rfl (.refl _) (.cons rfl (.refl _) (.cons rfl (VLe.i (by simp)) (.cons rfl (.refl _) .nil))))))))) (.cons rfl (LLe.refl _) (.cons rfl (LLe.refl _) (.cons rfl (LLe.refl _) .nil))) .nil rfl rfl) ⟨⟨by omega, by simp⟩, rfl⟩ ?_
  rintro k st ⟨⟨hk, hall⟩, rfl⟩
  refine Tr.seqR rfl (by simp) (Tr.seqI rfl (fun h1 => ?_) (fun h1 => ?_))
  · have h1 : k < lines.length := by simpa using h1
    have hlk := hls _ (List.getElem_mem h1)
    have ky := c_CheckLayout (s := lines[k]) hlk.1 hlk.2
    refine Tr.skipT (Tr.seq (Tr.block ?_))
    refine Tr.seqN 1 rfl (by simp; omega) ?_
    rw [getD_map h1]
    refine Steps.fin rfl (by simp) ?_
    by_cases hy : layOk lines[k] = true
    rotate_left
    · have hall2 : ¬ lines.all layOk = true := fun h => hy (List.all_eq_true.1 h _ (List.getElem_mem h1))
      rw [if_neg hall2]
      rw [if_neg hy] at ky
      refine Tr.seqC rfl (by simp) (Steps.call rfl rfl ky (Steps.fin rfl (by simp) ?_))
      refine Tr.seqR rfl (by simp) (Tr.condT rfl (Tr.seqR rfl (by simp) ?_))
      exact Tr.weak (s' := { env := [(10, .ptr 10 0), (11, I 71)], bx := [(10, ⟨nfC nf0, false⟩)], rw := [], log := [], stp := false }) (Wk.le (.cons rfl (.refl _) (.cons rfl (.refl _) .nil)) (.cons rfl (.cons (.nil 0 1) (.cons (.nil 0 2) .nil)) .nil) .nil rfl rfl) (Tr.retX rfl rfl rfl rfl trivial)
    · rw [if_pos hy] at ky
      refine Tr.seqC rfl (by simp) (Steps.call rfl rfl ky (Steps.fin rfl (by simp) ?_))
      refine Tr.seqR rfl (by simp) (Tr.condF rfl (Tr.skip (Tr.regR rfl (by simp) ?_)))
      refine ⟨k + 1, _, Wk.le (.cons rfl (.refl _) (.cons rfl (.refl _) (.cons rfl (.refl _) (.cons rfl (.refl _) (.cons rfl (.refl _) (.cons rfl (.refl _) (.cons rfl (.refl _) (.cons rfl (.refl _) (.cons rfl (VLe.i (w64 (by omega) (by omega))) .nil))))))))) (.cons rfl (LLe.refl _) (.cons rfl (LLe.refl _) (.cons rfl (LLe.refl _) .nil))) .nil rfl rfl, ⟨⟨h1, by rw [all_take_succ h1, hall, hy]; rfl⟩, rfl⟩, by omega⟩
  have h1 : k = lines.length := by simp at h1; omega
  subst h1
  rw [List.take_length] at hall
  rw [if_pos hall]
  refine Tr.exit ?_
  have kc := c_containsI (p := fun n => !btw n 1 1000) (f := F.bin_Build_1) hcs (fun b _ => c_build1 b)
  refine Tr.seq (Tr.seqC rfl (by simp) (Steps.gcall rfl rfl rfl rfl (by simp) (fun _ => kc) (Steps.fin rfl (by simp) ?_)))
  have hcond : (bif (bif decide (((lines.map eY).length : Int) > 10) then true else (((costs.map I).length : Int) != ((lines.map eY).length : Int))) then true else costs.any fun n => !btw n 1 1000) = !decide (lines.length ≤ 10 ∧ costs.length = lines.length ∧ (costs.any fun n => !btw n 1 1000) = false) := by
    rw [List.length_map, List.length_map]
    by_cases a1 : lines.length ≤ 10
    · rw [decide_eq_false (show ¬ ((lines.length : Int) > 10) by omega)]
      by_cases a2 : costs.length = lines.length
      · rw [a2]
        cases a3 : (costs.any fun n => !btw n 1 1000) <;> simp [a1]
      · have : (((costs.length : Int)) != (lines.length : Int)) = true := by simp; omega
        rw [this]; simp [a2]
    · rw [decide_eq_true (show ((lines.length : Int) > 10) by omega)]; simp [a1]
  refine Tr.cond rfl rfl (fun h2 => ?_) (fun h2 => Tr.skip ?_)
  · have h2 : (bif (bif decide (((lines.map eY).length : Int) > 10) then true else (((costs.map I).length : Int) != ((lines.map eY).length : Int))) then true else costs.any fun n => !btw n 1 1000) = true := h2
    rw [hcond] at h2
    rw [if_neg (by simpa only [Bool.not_eq_true', decide_eq_false_iff_not] using h2)]
    refine Tr.seqR rfl (by simp) ?_
    exact Tr.weak (s' := { env := [(10, .ptr 10 0), (11, I 75)], bx := [(10, ⟨nfC nf0, false⟩)], rw := [], log := [], stp := false }) (Wk.le (.cons rfl (.refl _) (.cons rfl (.refl _) .nil)) (.cons rfl (.cons (.nil 0 1) (.cons (.nil 0 2) .nil)) .nil) .nil rfl rfl) (Tr.retX rfl rfl rfl rfl trivial)
  have h2 : (bif (bif decide (((lines.map eY).length : Int) > 10) then true else (((costs.map I).length : Int) != ((lines.map eY).length : Int))) then true else costs.any fun n => !btw n 1 1000) = false := h2
  rw [hcond] at h2
  have h2 : lines.length ≤ 10 ∧ costs.length = lines.length ∧ (costs.any fun n => !btw n 1 1000) = false := by simpa using h2
  rw [if_pos h2]
  have kl := c_lacks hL (ns := ns) (by rw [eLg]; exact hne)
  refine Tr.seqC rfl (by simp [laidC]) (Steps.call rfl rfl kl (Steps.fin rfl (by simp) ?_))
  have hmem : ∀ x ∈ lacksL L ns, ∃ b c : Nat, x.1 = b ∧ x.2.1 = c ∧ b < nBins g ∧ c < g.cls.length := fun x hx => by
    obtain ⟨b, c, h1, h2, h3, h4⟩ := lacks_mem hx
    rw [eLg] at h3
    exact ⟨b, c, h1, h2, h3, by omega⟩
  obtain ⟨K, hK⟩ : ∃ K, lacksL L ns = K := ⟨_, rfl⟩
  rw [hK] at hmem ⊢
  refine Tr.seq (Tr.seqR rfl (by simp) (Tr.cond rfl rfl (fun h3 => ?_) (fun h3 => Tr.skip ?_)))
  · have h3 : decide (((K.map eL).length : Int) > 16) = true := h3
    rw [List.length_map] at h3
    rw [if_neg (by have := of_decide_eq_true h3; omega)]
    refine Tr.seqR rfl (by simp) ?_
    exact Tr.weak (s' := { env := [(10, .ptr 10 0), (11, I 3)], bx := [(10, ⟨nfC nf0, false⟩)], rw := [], log := [], stp := false }) (Wk.le (.cons rfl (.refl _) (.cons rfl (.refl _) .nil)) (.cons rfl (.cons (.nil 0 1) (.cons (.nil 0 2) .nil)) .nil) .nil rfl rfl) (Tr.retX rfl rfl rfl rfl trivial)
  have h3 : decide (((K.map eL).length : Int) > 16) = false := h3
  rw [List.length_map] at h3
  have hK16 : K.length ≤ 16 := by have := of_decide_eq_false h3; omega
  rw [if_pos hK16]
  refine Tr.seqR rfl (by simp) ?_
  refine Tr.seq (Tr.seqR rfl (by simp) (Tr.block ?_))
  refine Tr.loop (fun (k : Nat) st => k ≤ K.length ∧ st = { env := [(3, .slice 0 2 (lines.map eY)), (4, intsV costs), (5, .ptr 5 0), (10, .ptr 10 0), (17, sL K), (18, .ptr 18 0), (78, sL K), (79, I (K.length : Nat)), (80, I (k : Nat))], bx := [(18, ⟨[.slice 90 1 (((K.map (·.2.2)).take k).map I), .nils], false⟩), (10, ⟨[.nils, .nils], false⟩), (5, ⟨gridC g, false⟩)], rw := [(89, k, 1, 3)], log := [], stp := false }) (fun k => K.length - k) 0
    (Wk.le (.cons rfl (.refl _) (.cons rfl (.refl _) (.cons rfl (.refl _) (.cons rfl (.refl _) (.cons rfl (.refl _) (.cons rfl (.refl _) (.cons rfl (.refl _) (.cons rfl (VLe.i (by simp)) (.cons rfl (.refl _) .nil))))))))) (.cons rfl (.cons (.nil 90 1) (.cons (.refl _) .nil)) (.cons rfl (LLe.refl _) (.cons rfl (LLe.refl _) .nil))) (.new rfl .nil) rfl rfl) ⟨by omega, rfl⟩ ?_
  rintro k st ⟨hk, rfl⟩
  refine Tr.seqR rfl (by simp) (Tr.seqI rfl (fun h1 => ?_) (fun h1 => ?_))
  · have h1 : k < K.length := by simpa using h1
    refine Tr.skipT (Tr.seq (Tr.block ?_))
    refine Tr.seqN 1 rfl (by simp; omega) ?_
    rw [getD_map h1]
    refine Steps.fin rfl (by simp) ?_
    refine Tr.regR rfl (by simp; omega) (Tr.regR rfl (by simp) ?_)
    refine ⟨k + 1, _, Wk.le (.cons rfl (.refl _) (.cons rfl (.refl _) (.cons rfl (.refl _) (.cons rfl (.refl _) (.cons rfl (.refl _) (.cons rfl (.refl _) (.cons rfl (.refl _) (.cons rfl (.refl _) (.cons rfl (VLe.i (w64 (by omega) (by omega))) .nil))))))))) (.cons rfl (.cons (.of_eq ?_) (.cons (.refl _) .nil)) (.cons rfl (LLe.refl _) (.cons rfl (LLe.refl _) .nil))) (.cons ?_ .nil) rfl rfl, ⟨h1, rfl⟩, by omega⟩
    · rw [List.take_add_one, List.getElem?_map, List.getElem?_eq_getElem h1, List.map_append]; rfl
    · show some _ = some _
      simp; omega
  have h1 : k = K.length := by simp at h1; omega
  subst h1
  rw [List.take_of_length_le (by simp)]
  refine Tr.exit ?_
  obtain ⟨hl10, hcl, _⟩ := h2
  refine Tr.seq (Tr.seqR rfl (by simp) (Tr.block ?_))
  refine Tr.loop (fun (k : Nat) st => k ≤ lines.length ∧ st = { env := [(4, intsV costs), (5, .ptr 5 0), (10, .ptr 10 0), (17, sL K), (18, .ptr 18 0), (92, .slice 0 2 (lines.map eY)), (93, I (lines.length : Nat)), (94, I (k : Nat))], bx := [(18, ⟨[intsV (K.map (·.2.2)), .slice 138 2 (((passesK g K lines costs).take k).map eQ)], false⟩), (10, ⟨[.nils, .nils], false⟩), (5, ⟨gridC g, false⟩)], rw := [(137, k, 2, 147)], log := [], stp := false }) (fun k => lines.length - k) 0
    (Wk.le (.cons rfl (.refl _) (.cons rfl (.refl _) (.cons rfl (.refl _) (.cons rfl (.refl _) (.cons rfl (.refl _) (.cons rfl (.refl _) (.cons rfl (VLe.i (by show ((lines.map eY).length : Int) = _; rw [List.length_map])) (.cons rfl (.refl _) .nil)))))))) (.cons rfl (.cons (.dem _ _ _) (.cons (.nil 138 2) .nil)) (.cons rfl (LLe.refl _) (.cons rfl (LLe.refl _) .nil))) (.new rfl .nil) rfl rfl) ⟨by omega, rfl⟩ ?_
  rintro k st ⟨hk, rfl⟩
  have hpl : (passesK g K lines costs).length = lines.length := by simp [passesK, hcl]
  refine Tr.seqR rfl (by simp) (Tr.seqI rfl (fun h1 => ?_) (fun h1 => ?_))
  rotate_left
  · have h1 : k = lines.length := by simp at h1; omega
    subst h1
    rw [List.take_of_length_le (by omega)]
    refine Tr.exit (Tr.seqR rfl (by simp) ?_)
    exact Tr.weak (s' := { env := [(10, .ptr 10 0), (11, I 0)], bx := [(10, ⟨nfC (buildN g K lines costs), false⟩)], rw := [], log := [], stp := false }) (Wk.le (.cons rfl (.refl _) (.cons rfl (.refl _) .nil)) (.cons rfl (.cons (.refl _) (.cons (.dem _ _ _) .nil)) .nil) .nil rfl rfl) (Tr.retX rfl rfl rfl rfl trivial)
  have h1 : k < lines.length := by simpa using h1
  have h1c : k < costs.length := by omega
  have hyk : layOk lines[k] = true := List.all_eq_true.1 hall _ (List.getElem_mem h1)
  have hLk := lay_ok hg hyk
  have hFn := cntN_len (layD g lines[k]) (sureT (layD g lines[k]))
  have hFr : ∀ {i : Nat} (hi : i < (foldS g lines[k]).length), ((foldS g lines[k])[i]).length = g.cls.length := fun hi => cntN_row (L := layD g lines[k]) hi
  have kcount := c_countS hLk
  have hnx : (passesK g K lines costs).take (k + 1) = (passesK g K lines costs).take k ++ [⟨costs[k], addsK (foldS g lines[k]) K⟩] := zip_take h1 h1c
  have hFl : (foldS g lines[k]).length = nBins g := hFn
  have kcount2 : C Tryz.prog F.bin_laid_count [.agg (laidC (layD g lines[k])), .func (.func F.bin_laid_surely) [.agg (laidC (layD g lines[k]))] []] (foldV (foldS g lines[k])) := kcount
  obtain ⟨Fd, hFd⟩ : ∃ F, foldS g lines[k] = F := ⟨_, rfl⟩
  rw [hFd] at kcount2 hnx hFl
  have hFr2 : ∀ {i : Nat} (hi : i < Fd.length), (Fd[i]).length = g.cls.length := fun hi => by subst hFd; exact hFr hi
  refine Tr.skipT (Tr.seq (Tr.block ?_))
  refine Tr.seqN 2 rfl (by simp; omega) ?_
  rw [getD_map h1]
  refine Steps.fin rfl (by simp) ?_
  refine Tr.seqC rfl (by simp) (Steps.call rfl rfl (c_lay g hyk) (Steps.fin rfl (by simp [laidC]) ?_))
  refine Tr.seqC rfl (by simp [laidC]) (Steps.call rfl rfl kcount2 (Steps.fin rfl (by simp) ?_))
  refine Tr.seqN 3 rfl (by simp; omega) ?_
  rw [getD_map h1c]
  refine Steps.fin rfl (by simp) ?_
  refine Tr.seq (Tr.seqR rfl (by simp) (Tr.block ?_))
  refine Tr.loop (fun (j : Nat) st => j ≤ K.length ∧ st = { env := [(4, intsV costs), (5, .ptr 5 0), (10, .ptr 10 0), (17, sL K), (18, .ptr 18 0), (24, foldV Fd), (25, .ptr 25 0), (92, .slice 0 2 (lines.map eY)), (93, I (lines.length : Nat)), (94, I (k : Nat)), (111, sL K), (112, I (K.length : Nat)), (113, I (j : Nat))], bx := [(25, ⟨[I costs[k], .slice 131 1 (((addsK Fd K).take j).map I)], false⟩), (18, ⟨[intsV (K.map (·.2.2)), .slice 138 2 (((passesK g K lines costs).take k).map eQ)], false⟩), (10, ⟨[.nils, .nils], false⟩), (5, ⟨gridC g, false⟩)], rw := [(130, j, 1, 3), (137, k, 2, 147)], log := [], stp := false }) (fun j => K.length - j) 0
    (Wk.le (.cons rfl (.refl _) (.cons rfl (.refl _) (.cons rfl (.refl _) (.cons rfl (.refl _) (.cons rfl (.refl _) (.cons rfl (.refl _) (.cons rfl (.refl _) (.cons rfl (.refl _) (.cons rfl (.refl _) (.cons rfl (.refl _) (.cons rfl (.refl _) (.cons rfl (VLe.i (by show ((K.map eL).length : Int) = _; rw [List.length_map])) (.cons rfl (.refl _) .nil))))))))))))) (.cons rfl (.cons (.refl _) (.cons (.nil 131 1) .nil)) (.cons rfl (LLe.refl _) (.cons rfl (LLe.refl _) (.cons rfl (LLe.refl _) .nil)))) (.new rfl (.cons rfl .nil)) rfl rfl) ⟨by omega, rfl⟩ ?_
  rintro j st ⟨hj, rfl⟩
  have hal : (addsK Fd K).length = K.length := by simp [addsK]
  refine Tr.seqR rfl (by simp) (Tr.seqI rfl (fun h4 => ?_) (fun h4 => ?_))
  · have h4 : j < K.length := by simpa using h4
    obtain ⟨b, c, e1, e2, hb, hc⟩ := hmem _ (List.getElem_mem h4)
    have hbF : b < Fd.length := by omega
    have hcF : c < Fd[b].length := by rw [hFr2 hbF]; exact hc
    have hadd : (addsK Fd K).take (j + 1) = (addsK Fd K).take j ++ [min 100 Fd[b][c]] := by
      unfold addsK
      rw [List.take_add_one, List.getElem?_map, List.getElem?_eq_getElem h4]
      simp only [Option.map_some, Option.toList_some]
      congr 2
      unfold addK
      rw [e1, e2, Int.toNat_natCast, Int.toNat_natCast, at2_get hbF hcF]
    have eKj : eL K[j] = .agg [I (b : Nat), I (c : Nat), I K[j].2.2] := by unfold eL; rw [e1, e2]
    refine Tr.skipT (Tr.seq (Tr.block ?_))
    refine Tr.seqN 1 rfl (by simp; omega) ?_
    rw [getD_map h4, eKj]
    refine Steps.fin rfl (by simp) ?_
    refine Tr.drawK (TraceK.runN 6 rfl (by simp; omega) ?_)
    rw [getD_map hbF]
    refine TraceK.runN 4 rfl (by simp; omega) ?_
    rw [getD_map hcF]
    refine TraceK.run rfl (by simp; omega) (.done ⟨by kernel_rfl, by kernel_rfl, ?_⟩)
    refine Tr.regR rfl (by simp) ?_
    refine ⟨j + 1, _, Wk.le (.cons rfl (.refl _) (.cons rfl (.refl _) (.cons rfl (.refl _) (.cons rfl (.refl _) (.cons rfl (.refl _) (.cons rfl (.refl _) (.cons rfl (.refl _) (.cons rfl (.refl _) (.cons rfl (.refl _) (.cons rfl (.refl _) (.cons rfl (.refl _) (.cons rfl (.refl _) (.cons rfl (VLe.i (w64 (by omega) (by omega))) .nil))))))))))))) (.cons rfl (.cons (.refl _) (.cons (.of_eq ?_) .nil)) (.cons rfl (LLe.refl _) (.cons rfl (LLe.refl _) (.cons rfl (LLe.refl _) .nil)))) (.cons ?_ (.cons rfl .nil)) rfl rfl, ⟨h4, rfl⟩, by omega⟩
    · rw [hadd, List.map_append]
      show V.slice 131 1 (((addsK Fd K).take j).map I ++ [I (bif false then _ else (if Fd[b][c] < 100 then Fd[b][c] else 100))]) = _
      rw [cond_false, ifMin]; rfl
    · show some _ = some _
      simp [hal]; omega
  have h4 : j = K.length := by simp at h4; omega
  subst h4
  rw [show (addsK Fd K).take K.length = addsK Fd K from List.take_of_length_le (by omega)]
  refine Tr.exit ?_
  refine Tr.weak (s' := { env := [(4, intsV costs), (5, .ptr 5 0), (10, .ptr 10 0), (17, sL K), (18, .ptr 18 0), (25, .ptr 25 0), (92, .slice 0 2 (lines.map eY)), (93, I (lines.length : Nat)), (94, I (k : Nat))], bx := [(25, ⟨[I costs[k], intsV (addsK Fd K)], false⟩), (18, ⟨[intsV (K.map (·.2.2)), .slice 138 2 (((passesK g K lines costs).take k).map eQ)], false⟩), (10, ⟨[.nils, .nils], false⟩), (5, ⟨gridC g, false⟩)], rw := [(137, k, 2, 147)], log := [], stp := false })
    (Wk.le (.cons rfl (.refl _) (.cons rfl (.refl _) (.cons rfl (.refl _) (.cons rfl (.refl _) (.cons rfl (.refl _) (.cons rfl (.refl _) (.cons rfl (.refl _) (.cons rfl (.refl _) (.cons rfl (.refl _) .nil))))))))) (.cons rfl (.cons (.refl _) (.cons (.dem _ _ _) .nil)) (.cons rfl (LLe.refl _) (.cons rfl (LLe.refl _) (.cons rfl (LLe.refl _) .nil)))) (.cons rfl .nil) rfl rfl) ?_
  refine Tr.regR rfl (by simp; omega) (Tr.regR rfl (by simp) ?_)
  refine ⟨k + 1, _, Wk.le (.cons rfl (.refl _) (.cons rfl (.refl _) (.cons rfl (.refl _) (.cons rfl (.refl _) (.cons rfl (.refl _) (.cons rfl (.refl _) (.cons rfl (.refl _) (.cons rfl (VLe.i (w64 (by omega) (by omega))) .nil)))))))) (.cons rfl (.cons (.refl _) (.cons (.of_eq ?_) .nil)) (.cons rfl (LLe.refl _) (.cons rfl (LLe.refl _) .nil))) (.cons ?_ .nil) rfl rfl, ⟨h1, rfl⟩, by omega⟩
  · rw [hnx, List.map_append]; rfl
  · show some _ = some _
    simp [hpl]; omega

end Go.Proofs.YtdejdblopmfjfaaGreatDoor


/-! Contract of the specification: Build. -/
set_option linter.unusedVariables false
set_option linter.unusedSimpArgs false
set_option maxRecDepth 40000
set_option maxHeartbeats 4000000
namespace Go.Proofs.YtdejdblopmfjfaaGreatDoor
open Go.Am
attribute [local simp] cells scalar mkv splice under2 under dem dem1 eB gridC sB fourC eF layC eQ nfC intsV foldV eL sL eY
theorem c_Build07 {g : Gd} {s : Ly} (hl : g.cls.length ≤ 9223372036854775807) (hs0 : lySane s) {ns : List Int} (hns : ns.length ≤ 9223372036854775807) {lines : List Ly} (hln : lines.length ≤ 9223372036854775807) (hls : ∀ y ∈ lines, lySane y) {costs : List Int} (hcs : costs.length ≤ 9223372036854775807) :
    C Tryz.prog F.ref07_Build [.agg (gridC g), .agg (layC s), intsV ns, .slice 0 2 (lines.map eY), intsV costs] (BuildR g s ns lines costs) := by
  have kb := c_both07 (g := g) (s := s) hl hs0.1 hs0.2
  unfold bothE at kb
  have kn := c_needs07 (g := g) (l := ns) hns
  unfold BuildR
  refine C_of mixed chk.ref07_Build (by simp) fun S ok => ?_
  refine Tr.seqR rfl (by simp) ?_
  by_cases hg : gridOk g = true
  rotate_left
  · rw [if_neg hg] at kb ⊢
    refine Tr.seq (Tr.seqC rfl (by simp) (Steps.call rfl rfl kb (Steps.fin rfl (by simp) ?_)))
    refine Tr.seqR rfl (by simp) (Tr.condT rfl (Tr.seqR rfl (by simp) ?_))
    exact Tr.weak (s' := { env := [(10, .ptr 10 0), (11, I 70)], bx := [(10, ⟨nfC nf0, false⟩)], rw := [], log := [], stp := false }) (Wk.le (.cons rfl (.refl _) (.cons rfl (.refl _) .nil)) (.cons rfl (.cons (.nil 0 1) (.cons (.nil 0 2) .nil)) .nil) .nil rfl rfl) (Tr.retX rfl rfl rfl rfl trivial)
  rw [if_pos hg] at kb ⊢
  by_cases hs : layOk s = true
  rotate_left
  · rw [if_neg hs] at kb ⊢
    refine Tr.seq (Tr.seqC rfl (by simp) (Steps.call rfl rfl kb (Steps.fin rfl (by simp) ?_)))
    refine Tr.seqR rfl (by simp) (Tr.condT rfl (Tr.seqR rfl (by simp) ?_))
    exact Tr.weak (s' := { env := [(10, .ptr 10 0), (11, I 71)], bx := [(10, ⟨nfC nf0, false⟩)], rw := [], log := [], stp := false }) (Wk.le (.cons rfl (.refl _) (.cons rfl (.refl _) .nil)) (.cons rfl (.cons (.nil 0 1) (.cons (.nil 0 2) .nil)) .nil) .nil rfl rfl) (Tr.retX rfl rfl rfl rfl trivial)
  rw [if_pos hs] at kb ⊢
  have nb := (nBins_eq hg).2
  have hcl4 : g.cls.length ≤ 4 := by obtain ⟨_, _, _, _, h, _⟩ := gridOk_spec hg; exact h.2
  refine Tr.seq (Tr.seqC rfl (by simp) (Steps.call rfl rfl kb (Steps.fin rfl (by simp) ?_)))
  refine Tr.seqR rfl (by simp) (Tr.condF rfl (Tr.skip ?_))
  by_cases hne : needOk g ns = true
  rotate_left
  · rw [if_neg hne]
    rw [show needOk g ns = false by simpa using hne] at kn
    refine Tr.seq (Tr.seqC rfl (by simp) (Steps.call rfl rfl kn (Steps.fin rfl (by simp) (Tr.condT rfl (Tr.seqR rfl (by simp) ?_)))))
    exact Tr.weak (s' := { env := [(10, .ptr 10 0), (11, I 73)], bx := [(10, ⟨nfC nf0, false⟩)], rw := [], log := [], stp := false }) (Wk.le (.cons rfl (.refl _) (.cons rfl (.refl _) .nil)) (.cons rfl (.cons (.nil 0 1) (.cons (.nil 0 2) .nil)) .nil) .nil rfl rfl) (Tr.retX rfl rfl rfl rfl trivial)
  rw [if_pos hne]
  rw [hne] at kn
  have hnl := (needOk_spec hne).1
  refine Tr.seq (Tr.seqC rfl (by simp) (Steps.call rfl rfl kn (Steps.fin rfl (by simp) (Tr.condF rfl (Tr.skip ?_)))))
  refine Tr.seq (Tr.seqR rfl (by simp) (Tr.block ?_))
  refine Tr.loop (fun (k : Nat) st => (k ≤ lines.length ∧ (lines.take k).all layOk = true) ∧ st = { env := [(2, intsV ns), (3, .slice 0 2 (lines.map eY)), (4, intsV costs), (5, .ptr 5 0), (6, .ptr 6 0), (10, .ptr 10 0), (13, I (k : Nat))], bx := [(10, ⟨[.nils, .nils], false⟩), (6, ⟨layC s, false⟩), (5, ⟨gridC g, false⟩)], rw := [], log := [], stp := false }) (fun k => lines.length - k) 0
    (Wk.le (.cons rfl (.refl _) (.cons rfl (.refl _) (.cons rfl (.refl _) (.cons rfl (.refl _) (.cons rfl (.refl _) (.cons rfl (.refl _) (.cons rfl (.refl _) .nil))))))) (.cons rfl (LLe.refl _) (.cons rfl (LLe.refl _) (.cons rfl (LLe.refl _) .nil))) .nil rfl rfl) ⟨⟨by omega, by simp⟩, rfl⟩ ?_
  rintro k st ⟨⟨hk, hall⟩, rfl⟩
  refine Tr.seq (Tr.seqR rfl (by simp) (Tr.cond rfl rfl (fun h1 => Tr.skip ?_) (fun h1 => Tr.exit ?_)))
  · have h1 : k < lines.length := by simpa using h1
    have hlk := hls _ (List.getElem_mem h1)
    have ky := c_CheckLayout07 (s := lines[k]) hlk.1 hlk.2
    refine Tr.seq (Tr.block (Tr.seqN 3 rfl (by simp; omega) ?_))
    rw [getD_map h1]
    by_cases hy : layOk lines[k] = true
    rotate_left
    · have hall2 : ¬ lines.all layOk = true := fun h => hy (List.all_eq_true.1 h _ (List.getElem_mem h1))
      rw [if_neg hall2]
      rw [if_neg hy] at ky
      refine Steps.run rfl (by simp) (Steps.call rfl rfl ky (Steps.fin rfl (by simp) ?_))
      refine Tr.seqR rfl (by simp) (Tr.condT rfl (Tr.seqR rfl (by simp) ?_))
      exact Tr.weak (s' := { env := [(10, .ptr 10 0), (11, I 71)], bx := [(10, ⟨nfC nf0, false⟩)], rw := [], log := [], stp := false }) (Wk.le (.cons rfl (.refl _) (.cons rfl (.refl _) .nil)) (.cons rfl (.cons (.nil 0 1) (.cons (.nil 0 2) .nil)) .nil) .nil rfl rfl) (Tr.retX rfl rfl rfl rfl trivial)
    · rw [if_pos hy] at ky
      refine Steps.run rfl (by simp) (Steps.call rfl rfl ky (Steps.fin rfl (by simp) ?_))
      refine Tr.seqR rfl (by simp) (Tr.condF rfl (Tr.skip (Tr.regR rfl (by simp) ?_)))
      exact ⟨k + 1, _, Wk.le (.cons rfl (.refl _) (.cons rfl (.refl _) (.cons rfl (.refl _) (.cons rfl (.refl _) (.cons rfl (.refl _) (.cons rfl (.refl _) (.cons rfl (VLe.i (w64 (by omega) (by omega))) .nil))))))) (.cons rfl (LLe.refl _) (.cons rfl (LLe.refl _) (.cons rfl (LLe.refl _) .nil))) .nil rfl rfl, ⟨⟨h1, by rw [all_take_succ h1, hall, hy]; rfl⟩, rfl⟩, by omega⟩
  have h1 : k = lines.length := by simp at h1; omega
  subst h1
  rw [List.take_length] at hall
  rw [if_pos hall]
  obtain ⟨B0, hB0⟩ : ∃ B, (decide (lines.length ≤ 10) && decide (costs.length = lines.length)) = B := ⟨_, rfl⟩
  have hb0 : (bif decide (((lines.map eY).length : Int) ≤ 10) then (((costs.map I).length : Int) == ((lines.map eY).length : Int)) else false) = B0 := by
    rw [← hB0, List.length_map, List.length_map]
    have e1 : decide ((lines.length : Int) ≤ 10) = decide (lines.length ≤ 10) := by simp only [decide_eq_decide]; omega
    have e2 : ((costs.length : Int) == (lines.length : Int)) = decide (costs.length = lines.length) := by
      by_cases h : costs.length = lines.length
      · rw [h]; simp
      · have : ¬ ((costs.length : Int) = (lines.length : Int)) := by omega
        simp [h, this]
    rw [e1, e2]; cases decide (lines.length ≤ 10) <;> rfl
  refine Tr.seqR rfl (by simp) ?_
  refine Tr.seq (Tr.seqR rfl (by simp) (Tr.block ?_))
  refine Tr.loop (fun (k : Nat) st => k ≤ costs.length ∧ st = { env := [(2, intsV ns), (3, .slice 0 2 (lines.map eY)), (4, intsV costs), (5, .ptr 5 0), (6, .ptr 6 0), (10, .ptr 10 0), (15, .bool (B0 && (costs.take k).all (btw · 1 1000))), (16, I (k : Nat))], bx := [(10, ⟨[.nils, .nils], false⟩), (6, ⟨layC s, false⟩), (5, ⟨gridC g, false⟩)], rw := [], log := [], stp := false }) (fun k => costs.length - k) 0
    (Wk.le (.cons rfl (.refl _) (.cons rfl (.refl _) (.cons rfl (.refl _) (.cons rfl (.refl _) (.cons rfl (.refl _) (.cons rfl (.refl _) (.cons rfl (.of_eq ?_) (.cons rfl (.refl _) .nil)))))))) (.cons rfl (LLe.refl _) (.cons rfl (LLe.refl _) (.cons rfl (LLe.refl _) .nil))) .nil rfl rfl) ⟨by omega, rfl⟩ ?_
  · rw [List.take_zero, List.all_nil, Bool.and_true, ← hb0]
  rintro k st ⟨hk, rfl⟩
  refine Tr.seq (Tr.seqR rfl (by simp) (Tr.cond rfl rfl (fun h1 => Tr.skip ?_) (fun h1 => Tr.exit ?_)))
  · have h1 : k < costs.length := by simpa using h1
    obtain ⟨X, hX⟩ : ∃ X, (B0 && (costs.take k).all (btw · 1 1000)) = X := ⟨_, rfl⟩
    rw [hX]
    refine Tr.seq (Tr.block (Tr.reg (Steps.runN 5 rfl (by simp; intro a; exact ⟨by omega, a⟩) ?_)))
    rw [getD_map h1]
    refine Steps.run rfl (by simp) (Steps.gcall rfl rfl rfl rfl (by simp) (fun _ => c_between costs[k] 1 1000) (Steps.fin rfl (by simp) ?_))
    refine Tr.regR rfl (by simp) ?_
    refine ⟨k + 1, _, Wk.le (.cons rfl (.refl _) (.cons rfl (.refl _) (.cons rfl (.refl _) (.cons rfl (.refl _) (.cons rfl (.refl _) (.cons rfl (.refl _) (.cons rfl (.of_eq ?_) (.cons rfl (VLe.i (w64 (by omega) (by omega))) .nil)))))))) (.cons rfl (LLe.refl _) (.cons rfl (LLe.refl _) (.cons rfl (LLe.refl _) .nil))) .nil rfl rfl, ⟨h1, rfl⟩, by omega⟩
    rw [all_take_succ h1, ← Bool.and_assoc, hX]
    show V.bool (bif X then btw costs[k] 1 1000 else false) = _
    cases X <;> rfl
  have h1 : k = costs.length := by simp at h1; omega
  subst h1
  rw [List.take_length]
  have hany : (costs.any fun n => !btw n 1 1000) = !costs.all (btw · 1 1000) := by
    rw [List.not_all_eq_any_not]
  by_cases h2 : lines.length ≤ 10 ∧ costs.length = lines.length ∧ (costs.any fun n => !btw n 1 1000) = false
  rotate_left
  · have hf : (B0 && costs.all (btw · 1 1000)) = false := by
      rw [hany] at h2
      rw [← hB0]
      cases a1 : decide (lines.length ≤ 10) with
      | false => rfl
      | true =>
        cases a2 : decide (costs.length = lines.length) with
        | false => rfl
        | true =>
          cases a3 : costs.all (btw · 1 1000) with
          | false => rfl
          | true => exact absurd ⟨of_decide_eq_true a1, of_decide_eq_true a2, by rw [a3]; rfl⟩ h2
    rw [hf, if_neg h2]
    refine Tr.seq (Tr.seqR rfl (by simp) (Tr.condT rfl (Tr.seqR rfl (by simp) ?_)))
    exact Tr.weak (s' := { env := [(10, .ptr 10 0), (11, I 75)], bx := [(10, ⟨nfC nf0, false⟩)], rw := [], log := [], stp := false }) (Wk.le (.cons rfl (.refl _) (.cons rfl (.refl _) .nil)) (.cons rfl (.cons (.nil 0 1) (.cons (.nil 0 2) .nil)) .nil) .nil rfl rfl) (Tr.retX rfl rfl rfl rfl trivial)
  have hf : (B0 && costs.all (btw · 1 1000)) = true := by
    rw [hany] at h2
    rw [← hB0, decide_eq_true h2.1, decide_eq_true h2.2.1]
    simpa using h2.2.2
  rw [hf, if_pos h2]
  refine Tr.seq (Tr.seqR rfl (by simp) (Tr.condF rfl (Tr.skip ?_)))
  have kl := c_lacks07 hg hs (ns := ns) hne
  refine Tr.seqC rfl (by simp) (Steps.call rfl rfl kl (Steps.fin rfl (by simp) ?_))
  have hmem : ∀ x ∈ lacksL (layD g s) ns, ∃ b c : Nat, x.1 = b ∧ x.2.1 = c ∧ b < nBins g ∧ c < g.cls.length := fun x hx => by
    obtain ⟨b, c, h1, h2, h3, h4⟩ := lacks_mem hx
    exact ⟨b, c, h1, h2, h3, by omega⟩
  obtain ⟨K, hK⟩ : ∃ K, lacksL (layD g s) ns = K := ⟨_, rfl⟩
  rw [hK] at hmem ⊢
  refine Tr.seq (Tr.seqR rfl (by simp) (Tr.cond rfl rfl (fun h3 => ?_) (fun h3 => Tr.skip ?_)))
  · have h3 : decide (((K.map eL).length : Int) > 16) = true := h3
    rw [List.length_map] at h3
    rw [if_neg (by have := of_decide_eq_true h3; omega)]
    refine Tr.seqR rfl (by simp) ?_
    exact Tr.weak (s' := { env := [(10, .ptr 10 0), (11, I 3)], bx := [(10, ⟨nfC nf0, false⟩)], rw := [], log := [], stp := false }) (Wk.le (.cons rfl (.refl _) (.cons rfl (.refl _) .nil)) (.cons rfl (.cons (.nil 0 1) (.cons (.nil 0 2) .nil)) .nil) .nil rfl rfl) (Tr.retX rfl rfl rfl rfl trivial)
  have h3 : decide (((K.map eL).length : Int) > 16) = false := h3
  rw [List.length_map] at h3
  have hK16 : K.length ≤ 16 := by have := of_decide_eq_false h3; omega
  rw [if_pos hK16]
  refine Tr.seqR rfl (by simp) ?_
  refine Tr.seq (Tr.seqR rfl (by simp) (Tr.block ?_))
  refine Tr.loop (fun (k : Nat) st => k ≤ K.length ∧ st = { env := [(3, .slice 0 2 (lines.map eY)), (4, intsV costs), (5, .ptr 5 0), (10, .ptr 10 0), (17, sL K), (18, .ptr 18 0), (19, I (k : Nat))], bx := [(18, ⟨[.slice 102 1 (((K.map (·.2.2)).take k).map I), .nils], false⟩), (10, ⟨[.nils, .nils], false⟩), (5, ⟨gridC g, false⟩)], rw := [(101, k, 1, 3)], log := [], stp := false }) (fun k => K.length - k) 0
    (Wk.le (.cons rfl (.refl _) (.cons rfl (.refl _) (.cons rfl (.refl _) (.cons rfl (.refl _) (.cons rfl (.refl _) (.cons rfl (.refl _) (.cons rfl (.refl _) .nil))))))) (.cons rfl (.cons (.nil 102 1) (.cons (.refl _) .nil)) (.cons rfl (LLe.refl _) (.cons rfl (LLe.refl _) .nil))) (.new rfl .nil) rfl rfl) ⟨by omega, rfl⟩ ?_
  rintro k st ⟨hk, rfl⟩
  refine Tr.seq (Tr.seqR rfl (by simp) (Tr.cond rfl rfl (fun h1 => Tr.skip ?_) (fun h1 => Tr.exit ?_)))
  · have h1 : k < K.length := by simpa using h1
    refine Tr.seq (Tr.block (Tr.drawK (TraceK.runN 5 rfl (by simp; omega) ?_)))
    rw [getD_map h1]
    refine TraceK.run rfl (by simp; omega) (.done ⟨by kernel_rfl, by kernel_rfl, ?_⟩)
    refine Tr.regR rfl (by simp) ?_
    refine ⟨k + 1, _, Wk.le (.cons rfl (.refl _) (.cons rfl (.refl _) (.cons rfl (.refl _) (.cons rfl (.refl _) (.cons rfl (.refl _) (.cons rfl (.refl _) (.cons rfl (VLe.i (w64 (by omega) (by omega))) .nil))))))) (.cons rfl (.cons (.of_eq ?_) (.cons (.refl _) .nil)) (.cons rfl (LLe.refl _) (.cons rfl (LLe.refl _) .nil))) (.cons ?_ .nil) rfl rfl, ⟨h1, rfl⟩, by omega⟩
    · rw [List.take_add_one, List.getElem?_map, List.getElem?_eq_getElem h1, List.map_append]; rfl
    · show some _ = some _
      simp; omega
  have h1 : k = K.length := by simp at h1; omega
  subst h1
  rw [List.take_of_length_le (by simp)]
  obtain ⟨hl10, hcl, _⟩ := h2
  refine Tr.seq (Tr.seqR rfl (by simp) (Tr.block ?_))
  refine Tr.loop (fun (k : Nat) st => k ≤ lines.length ∧ st = { env := [(3, .slice 0 2 (lines.map eY)), (4, intsV costs), (5, .ptr 5 0), (10, .ptr 10 0), (17, sL K), (18, .ptr 18 0), (20, I (k : Nat))], bx := [(18, ⟨[intsV (K.map (·.2.2)), .slice 155 2 (((passesK g K lines costs).take k).map eQ)], false⟩), (10, ⟨[.nils, .nils], false⟩), (5, ⟨gridC g, false⟩)], rw := [(154, k, 2, 147)], log := [], stp := false }) (fun k => lines.length - k) 0
    (Wk.le (.cons rfl (.refl _) (.cons rfl (.refl _) (.cons rfl (.refl _) (.cons rfl (.refl _) (.cons rfl (.refl _) (.cons rfl (.refl _) (.cons rfl (.refl _) .nil))))))) (.cons rfl (.cons (.dem _ _ _) (.cons (.nil 155 2) .nil)) (.cons rfl (LLe.refl _) (.cons rfl (LLe.refl _) .nil))) (.new rfl .nil) rfl rfl) ⟨by omega, rfl⟩ ?_
  rintro k st ⟨hk, rfl⟩
  have hpl : (passesK g K lines costs).length = lines.length := by simp [passesK, hcl]
  refine Tr.seq (Tr.seqR rfl (by simp) (Tr.cond rfl rfl (fun h1 => Tr.skip ?_) (fun h1 => Tr.exit ?_)))
  rotate_left
  · have h1 : k = lines.length := by simp at h1; omega
    subst h1
    rw [List.take_of_length_le (by omega)]
    refine Tr.seqR rfl (by simp) ?_
    exact Tr.weak (s' := { env := [(10, .ptr 10 0), (11, I 0)], bx := [(10, ⟨nfC (buildN g K lines costs), false⟩)], rw := [], log := [], stp := false }) (Wk.le (.cons rfl (.refl _) (.cons rfl (.refl _) .nil)) (.cons rfl (.cons (.refl _) (.cons (.dem _ _ _) .nil)) .nil) .nil rfl rfl) (Tr.retX rfl rfl rfl rfl trivial)
  have h1 : k < lines.length := by simpa using h1
  have h1c : k < costs.length := by omega
  have hyk : layOk lines[k] = true := List.all_eq_true.1 hall _ (List.getElem_mem h1)
  have hFn := cntN_len (layD g lines[k]) (sureT (layD g lines[k]))
  have hFr : ∀ {i : Nat} (hi : i < (foldS g lines[k]).length), ((foldS g lines[k])[i]).length = g.cls.length := fun hi => cntN_row (L := layD g lines[k]) hi
  have kfold := c_fold07 hg hyk
  have hnx : (passesK g K lines costs).take (k + 1) = (passesK g K lines costs).take k ++ [⟨costs[k], addsK (foldS g lines[k]) K⟩] := zip_take h1 h1c
  have hFl : (foldS g lines[k]).length = nBins g := hFn
  have kfold2 : C Tryz.prog F.ref07_fold [.agg (gridC g), .agg (layC lines[k])] (.tuple [foldV (foldS g lines[k]), foldV (cntN (layD g lines[k]) (hitsT (layD g lines[k])))]) := kfold
  obtain ⟨Fd, hFd⟩ : ∃ F, foldS g lines[k] = F := ⟨_, rfl⟩
  rw [hFd] at kfold2 hnx hFl
  have hFr2 : ∀ {i : Nat} (hi : i < Fd.length), (Fd[i]).length = g.cls.length := fun hi => by subst hFd; exact hFr hi
  refine Tr.meet { env := [(3, .slice 0 2 (lines.map eY)), (4, intsV costs), (5, .ptr 5 0), (10, .ptr 10 0), (17, sL K), (18, .ptr 18 0), (20, I (k : Nat))], bx := [(18, ⟨[intsV (K.map (·.2.2)), .slice 155 2 (((passesK g K lines costs).take (k + 1)).map eQ)], false⟩), (10, ⟨[.nils, .nils], false⟩), (5, ⟨gridC g, false⟩)], rw := [(154, k + 1, 2, 147)], log := [], stp := false } (Tr.block ?_) (Tr.regR rfl (by simp) ?_)
  rotate_left
  · exact ⟨k + 1, _, Wk.le (.cons rfl (.refl _) (.cons rfl (.refl _) (.cons rfl (.refl _) (.cons rfl (.refl _) (.cons rfl (.refl _) (.cons rfl (.refl _) (.cons rfl (VLe.i (w64 (by omega) (by omega))) .nil))))))) (.cons rfl (LLe.refl _) (.cons rfl (LLe.refl _) (.cons rfl (LLe.refl _) .nil))) (.cons rfl .nil) rfl rfl, ⟨h1, rfl⟩, by omega⟩
  refine Tr.seq (Tr.drawK (TraceK.runN 4 rfl (by simp; omega) ?_))
  rw [getD_map h1]
  refine TraceK.run rfl (by simp) (TraceK.call rfl rfl kfold2 (TraceK.run rfl (by simp) (.done ⟨by kernel_rfl, by kernel_rfl, ?_⟩)))
  refine Tr.seqN 3 rfl (by simp; omega) ?_
  rw [getD_map h1c]
  refine Steps.fin rfl (by simp) ?_
  refine Tr.seq (Tr.seqR rfl (by simp) (Tr.block ?_))
  refine Tr.loop (fun (j : Nat) st => j ≤ K.length ∧ st = { env := [(3, .slice 0 2 (lines.map eY)), (4, intsV costs), (5, .ptr 5 0), (10, .ptr 10 0), (17, sL K), (18, .ptr 18 0), (20, I (k : Nat)), (21, foldV Fd), (23, .ptr 23 0), (24, I (j : Nat))], bx := [(23, ⟨[I costs[k], .slice 149 1 (((addsK Fd K).take j).map I)], false⟩), (18, ⟨[intsV (K.map (·.2.2)), .slice 155 2 (((passesK g K lines costs).take k).map eQ)], false⟩), (10, ⟨[.nils, .nils], false⟩), (5, ⟨gridC g, false⟩)], rw := [(148, j, 1, 3), (154, k, 2, 147)], log := [], stp := false }) (fun j => K.length - j) 0
    (Wk.le (.cons rfl (.refl _) (.cons rfl (.refl _) (.cons rfl (.refl _) (.cons rfl (.refl _) (.cons rfl (.refl _) (.cons rfl (.refl _) (.cons rfl (.refl _) (.cons rfl (.refl _) (.cons rfl (.refl _) (.cons rfl (.refl _) .nil)))))))))) (.cons rfl (.cons (.refl _) (.cons (.nil 149 1) .nil)) (.cons rfl (LLe.refl _) (.cons rfl (LLe.refl _) (.cons rfl (LLe.refl _) .nil)))) (.new rfl (.cons rfl .nil)) rfl rfl) ⟨by omega, rfl⟩ ?_
  rintro j st ⟨hj, rfl⟩
  have hal : (addsK Fd K).length = K.length := by simp [addsK]
  refine Tr.seq (Tr.seqR rfl (by simp) (Tr.cond rfl rfl (fun h4 => Tr.skip ?_) (fun h4 => Tr.exit ?_)))
  · have h4 : j < K.length := by simpa using h4
    obtain ⟨b, c, e1, e2, hb, hc⟩ := hmem _ (List.getElem_mem h4)
    have hbF : b < Fd.length := by omega
    have hcF : c < Fd[b].length := by rw [hFr2 hbF]; exact hc
    have hadd : (addsK Fd K).take (j + 1) = (addsK Fd K).take j ++ [min 100 Fd[b][c]] := by
      unfold addsK
      rw [List.take_add_one, List.getElem?_map, List.getElem?_eq_getElem h4]
      simp only [Option.map_some, Option.toList_some]
      congr 2
      unfold addK
      rw [e1, e2, Int.toNat_natCast, Int.toNat_natCast, at2_get hbF hcF]
    have eKj : eL K[j] = .agg [I (b : Nat), I (c : Nat), I K[j].2.2] := by unfold eL; rw [e1, e2]
    refine Tr.seq (Tr.block (Tr.drawK (TraceK.runN 6 rfl (by simp; omega) ?_)))
    rw [getD_map h4, eKj]
    refine TraceK.runN 3 rfl (by simp; omega) ?_
    rw [getD_map hbF]
    refine TraceK.runN 4 rfl (by simp; omega) ?_
    rw [getD_map h4, eKj]
    refine TraceK.runN 3 rfl (by simp; omega) ?_
    rw [getD_map hcF]
    refine TraceK.run rfl (by simp; omega) (.done ⟨by kernel_rfl, by kernel_rfl, ?_⟩)
    refine Tr.regR rfl (by simp) ?_
    refine ⟨j + 1, _, Wk.le (.cons rfl (.refl _) (.cons rfl (.refl _) (.cons rfl (.refl _) (.cons rfl (.refl _) (.cons rfl (.refl _) (.cons rfl (.refl _) (.cons rfl (.refl _) (.cons rfl (.refl _) (.cons rfl (.refl _) (.cons rfl (VLe.i (w64 (by omega) (by omega))) .nil)))))))))) (.cons rfl (.cons (.refl _) (.cons (.of_eq ?_) .nil)) (.cons rfl (LLe.refl _) (.cons rfl (LLe.refl _) (.cons rfl (LLe.refl _) .nil)))) (.cons ?_ (.cons rfl .nil)) rfl rfl, ⟨h4, rfl⟩, by omega⟩
    · rw [hadd, List.map_append]
      show V.slice 149 1 (((addsK Fd K).take j).map I ++ [I (bif false then _ else (if Fd[b][c] < 100 then Fd[b][c] else 100))]) = _
      rw [cond_false, ifMin]; rfl
    · show some _ = some _
      simp [hal]; omega
  have h4 : j = K.length := by simp at h4; omega
  subst h4
  rw [show (addsK Fd K).take K.length = addsK Fd K from List.take_of_length_le (by omega)]
  refine Tr.weak (s' := { env := [(3, .slice 0 2 (lines.map eY)), (4, intsV costs), (5, .ptr 5 0), (10, .ptr 10 0), (17, sL K), (18, .ptr 18 0), (20, I (k : Nat)), (23, .ptr 23 0)], bx := [(23, ⟨[I costs[k], intsV (addsK Fd K)], false⟩), (18, ⟨[intsV (K.map (·.2.2)), .slice 155 2 (((passesK g K lines costs).take k).map eQ)], false⟩), (10, ⟨[.nils, .nils], false⟩), (5, ⟨gridC g, false⟩)], rw := [(154, k, 2, 147)], log := [], stp := false })
    (Wk.le (.cons rfl (.refl _) (.cons rfl (.refl _) (.cons rfl (.refl _) (.cons rfl (.refl _) (.cons rfl (.refl _) (.cons rfl (.refl _) (.cons rfl (.refl _) (.cons rfl (.refl _) .nil)))))))) (.cons rfl (.cons (.refl _) (.cons (.dem _ _ _) .nil)) (.cons rfl (LLe.refl _) (.cons rfl (LLe.refl _) (.cons rfl (LLe.refl _) .nil)))) (.cons rfl .nil) rfl rfl) ?_
  refine Tr.regR rfl (by simp; omega) ?_
  refine Wk.le (.cons rfl (.refl _) (.cons rfl (.refl _) (.cons rfl (.refl _) (.cons rfl (.refl _) (.cons rfl (.refl _) (.cons rfl (.refl _) (.cons rfl (.refl _) .nil))))))) (.cons rfl (.cons (.refl _) (.cons (.of_eq ?_) .nil)) (.cons rfl (LLe.refl _) (.cons rfl (LLe.refl _) .nil))) (.cons ?_ .nil) rfl rfl
  · rw [hnx, List.map_append]; rfl
  · show some _ = some _
    simp [hpl]; omega

end Go.Proofs.YtdejdblopmfjfaaGreatDoor


/-! What the arguments of the statements of the bin chapter read as. -/
set_option linter.unusedVariables false
set_option linter.unusedSimpArgs false
set_option maxRecDepth 20000
namespace Go.Proofs.YtdejdblopmfjfaaGreatDoor
open Go.Am Go.ChangeShapes Go.WideShapes Go.ChangeAt Go.RowKit

section
variable {H : Type} {enc : TypeId × Value → H} {W : World}

def nfSane (x : Nf) : Prop := (x.lacks.length ≤ 9223372036854775807 ∧ x.passes.length ≤ 9223372036854775807) ∧ ∀ p ∈ x.passes, p.adds.length ≤ 9223372036854775807

end

end Go.Proofs.YtdejdblopmfjfaaGreatDoor


/-! A slice literal that is a frame's own; contracts with nil slices; two infills alike. -/
set_option linter.unusedVariables false
set_option linter.unusedSimpArgs false
namespace Go.Am
open Go.RowKit

section
variable {P : Program} {nt : Nat} {S : Sur} {log : List (List V)} {stp : Bool} {σ : FSt} {a : Act} {w : World} {h : Gh} {o : Oper}

end

section
variable {E : Env} {σ : FSt}

end
end Go.Am

namespace Go.Proofs.YtdejdblopmfjfaaGreatDoor
open Go.Am
set_option maxRecDepth 40000
set_option maxHeartbeats 4000000
attribute [local simp] cells scalar mkv splice under2 under dem dem1 eQ nfC intsV
/-! ### Nil slices where empty ones are taken -/
theorem c_alike {x : Nf} (hx : nfSane x) : C Tryz.prog F.law07_alike [.agg (nfC x), .agg (nfC x)] (.bool true) := by
  have hAl : ∀ l : List Int, l.length ≤ 9223372036854775807 → C Tryz.prog F.ref00_Alike [intsV l, intsV l] (.bool true) := fun l hl => by
    have := c_Alike l l hl
    rwa [decide_eq_true rfl] at this
  refine C_of mixed chk.law07_alike (by simp) fun S ok => ?_
  refine Tr.seqR rfl (by simp) ?_
  refine Tr.seq (Tr.seqC rfl (by simp) (Steps.call rfl rfl (hAl x.lacks hx.1.1) (Steps.fin rfl (by simp) (Tr.condF ?_ (Tr.skip ?_)))))
  · show some (V.bool (((x.passes.map eQ).length : Int) != ((x.passes.map eQ).length : Int))) = _
    simp
  refine Tr.seq (Tr.seqR rfl (by simp) (Tr.block ?_))
  have hpl := hx.1.2
  refine Tr.loop (fun (k : Nat) st => k ≤ x.passes.length ∧ st = { env := [(2, .ptr 2 0), (3, .ptr 3 0), (5, I (k : Nat))], bx := [(3, ⟨nfC x, false⟩), (2, ⟨nfC x, false⟩)], rw := [], log := [], stp := false }) (fun k => x.passes.length - k) 0
    (Wk.le (.cons rfl (.refl _) (.cons rfl (.refl _) (.cons rfl (.refl _) .nil))) (.cons rfl (LLe.refl _) (.cons rfl (LLe.refl _) .nil)) .nil rfl rfl) ⟨by omega, rfl⟩ ?_
  rintro k st ⟨hk, rfl⟩
  refine Tr.seq (Tr.seqR rfl (by simp) (Tr.cond rfl rfl (fun h1 => Tr.skip ?_) (fun h1 => Tr.exit ?_)))
  · have h1 : k < x.passes.length := by simpa using h1
    refine Tr.seq (Tr.block (Tr.seq (Tr.drawK (TraceK.runN 4 rfl (by simp; omega) ?_))))
    rw [getD_map h1]
    refine TraceK.runN 6 rfl (by simp; omega) ?_
    rw [getD_map h1]
    refine TraceK.runN 8 rfl (by simp; omega) ?_
    rw [getD_map h1]
    refine TraceK.runN 6 rfl (by simp; omega) ?_
    rw [getD_map h1]
    refine TraceK.run rfl (by simp) (TraceK.gcall rfl rfl rfl rfl (by simp) (fun _ => hAl x.passes[k].adds (hx.2 _ (List.getElem_mem h1))) (TraceK.run rfl (by simp) (.done ⟨by kernel_rfl, by kernel_rfl, ?_⟩)))
    refine Tr.condF ?_ (Tr.skip (Tr.regR rfl (by simp) ?_))
    · show some (V.bool (bif x.passes[k].cost != x.passes[k].cost then true else !true)) = _
      simp
    · exact ⟨k + 1, _, Wk.le (.cons rfl (.refl _) (.cons rfl (.refl _) (.cons rfl (VLe.i (w64 (by omega) (by omega))) .nil))) (.cons rfl (LLe.refl _) (.cons rfl (LLe.refl _) .nil)) .nil rfl rfl, ⟨h1, rfl⟩, by omega⟩
  · exact Tr.seqR rfl (by simp) (Tr.retX rfl rfl rfl rfl trivial)

end Go.Proofs.YtdejdblopmfjfaaGreatDoor


/-! Contract of the law BinBuilds. -/
set_option linter.unusedVariables false
set_option linter.unusedSimpArgs false
set_option maxRecDepth 40000
set_option maxHeartbeats 4000000
namespace Go.Proofs.YtdejdblopmfjfaaGreatDoor
open Go.Am
attribute [local simp] cells scalar mkv splice under2 under dem dem1 eB gridC sB fourC layC eF eQ nfC intsV eY
theorem build_form {g : Gd} {s : Ly} {ns : List Int} {lines : List Ly} {costs : List Int} : ∃ x e, BuildR g s ns lines costs = .tuple [.agg (nfC x), I e] ∧ nfSane x := by
  have h0 : nfSane nf0 := ⟨⟨by simp [nf0], by simp [nf0]⟩, by simp [nf0]⟩
  unfold BuildR
  split
  · split
    · split
      · split
        · split
          · split
            · rename_i h1 h2
              refine ⟨_, _, rfl, ⟨⟨?_, ?_⟩, fun p hp => ?_⟩⟩
              · simp [buildN]; omega
              · simp [buildN, passesK]; omega
              · simp only [buildN, passesK] at hp
                obtain ⟨i, hi, e⟩ := List.getElem_of_mem hp
                rw [List.getElem_zipWith] at e
                rw [← e]
                simp [addsK]; omega
            · exact ⟨_, _, rfl, h0⟩
          · exact ⟨_, _, rfl, h0⟩
        · exact ⟨_, _, rfl, h0⟩
      · exact ⟨_, _, rfl, h0⟩
    · exact ⟨_, _, rfl, h0⟩
  · exact ⟨_, _, rfl, h0⟩

theorem c_BinBuilds {g : Gd} (hl : g.cls.length ≤ 9223372036854775807) {s : Ly} (hn : s.nodes.length ≤ 9223372036854775807) (ht : s.traces.length ≤ 9223372036854775807) {ns : List Int} {lines : List Ly} {costs : List Int} (hns : ns.length ≤ 9223372036854775807) (hln : lines.length ≤ 9223372036854775807) (hls : ∀ y ∈ lines, lySane y) (hcs : costs.length ≤ 9223372036854775807) :
    C Tryz.prog F.law07_BinBuilds [.agg (gridC g), .agg (layC s), .agg [intsV ns, .slice 0 2 (lines.map eY), intsV costs]] (.bool true) := by
  have k1 := c_Build hl (s := s) ⟨hn, ht⟩ hns hln hls hcs
  have k2 := c_Build07 hl (s := s) ⟨hn, ht⟩ hns hln hls hcs
  obtain ⟨x, e, h1, h2⟩ := build_form (g := g) (s := s) (ns := ns) (lines := lines) (costs := costs)
  rw [h1] at k1 k2
  have k3 := c_alike h2
  refine C_of mixed chk.law07_BinBuilds (by simp) fun S ok => ?_
  refine Tr.seqR rfl (by simp) ?_
  refine Tr.seqC rfl (by simp) (Steps.call rfl rfl k1 (Steps.fin rfl (by simp) ?_))
  refine Tr.seqC rfl (by simp) (Steps.call rfl rfl k2 (Steps.fin rfl (by simp) ?_))
  refine Tr.seqC rfl (by simp) (Steps.call rfl rfl k3 (Steps.run rfl (by simp) (Steps.gcall rfl rfl rfl rfl (by simp) (fun _ => c_works) (Steps.fin rfl (by simp) (Tr.retX rfl rfl rfl ?_ trivial)))))
  show V.bool true = V.bool (bif (bif true then (e == e) else false) then true else false)
  simp

end Go.Proofs.YtdejdblopmfjfaaGreatDoor


/-! What further arguments of the statements of the bin chapter read as: needs, lines and costs. -/
set_option linter.unusedVariables false
set_option linter.unusedSimpArgs false
set_option maxRecDepth 20000
namespace Go.Proofs.YtdejdblopmfjfaaGreatDoor
open Go.Am Go.ChangeShapes Go.WideShapes Go.ChangeAt Go.RowKit

section
variable {H : Type} {enc : TypeId × Value → H} {W : World}

theorem rd_layouts : Reads enc W 71 (fun vs => ∃ l : List Ly, l.length ≤ 9223372036854775807 ∧ (∀ y ∈ l, lySane y) ∧ vs = [.slice 0 2 (l.map eY)]) := by
  refine (reads_slice (sz := 2) true Tryz.underlying71 (by kernel_rfl) (by decide) (by decide) rd_layout).mono ?_
  rintro vs ⟨xs, h1, h2, rfl⟩
  obtain ⟨l, rfl, hl⟩ := exists_list (R := fun y : Ly => lySane y) (g := fun y : Ly => layC y) fun x hx => by obtain ⟨b, hb, hb2, rfl⟩ := h1 x hx; exact ⟨b, ⟨hb, hb2⟩, rfl⟩
  refine ⟨l, by simpa using h2, hl, ?_⟩
  simp [wrapV, Function.comp_def, eY]

theorem rd_plan : Reads enc W 73 (fun vs => ∃ (ns : List Int) (ls : List Ly) (cs : List Int), ns.length ≤ 9223372036854775807 ∧ ls.length ≤ 9223372036854775807 ∧ (∀ y ∈ ls, lySane y) ∧ cs.length ≤ 9223372036854775807 ∧ vs = [intsV ns, .slice 0 2 (ls.map eY), intsV cs]) := by
  refine (reads_struct Tryz.underlying73 (by kernel_rfl) (readsL_cons rd_ints (readsL_cons rd_layouts (readsL_cons rd_ints readsL_nil)))).mono ?_
  rintro vs ⟨a, b, ⟨ns, h1, rfl⟩, ⟨c, d, ⟨ls, h2, h3, rfl⟩, ⟨e, f, ⟨cs, h4, rfl⟩, rfl, rfl⟩, rfl⟩, rfl⟩
  exact ⟨ns, ls, cs, h1, h2, h3, h4, rfl⟩

end

end Go.Proofs.YtdejdblopmfjfaaGreatDoor

