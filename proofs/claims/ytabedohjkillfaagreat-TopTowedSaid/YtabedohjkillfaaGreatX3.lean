/-
  Parts of the proof: the abstract machine, the compiled code, contracts of the functions, S6 laws (spelled short by a program).
-/
import Derived.Test.YtabedohjkillfaaGreatX2
import Derived.Test.YtabedohjkillfaaGreatProg
import Derived.Test.YtabedohjkillfaaGreatRows
import Derived.WalkKit
import Derived.ProofKit
import Derived.OpenShut
import Derived.ShutString
import Derived.ChangeOld
import Derived.Below
set_option maxRecDepth 100000
set_option maxHeartbeats 4000000
set_option linter.unusedVariables false
set_option linter.unusedSimpArgs false
namespace Go.Am
section
abbrev Ins.m (d t : Nat) : Ins := ⟨some d, .mov, [.t t], none⟩
abbrev Ins.l (d t : Nat) : Ins := ⟨some d, .load 1 false, [.t t], none⟩
abbrev Ins.v (d k t : Nat) : Ins := ⟨some d, .load k true, [.t t], none⟩
abbrev Ins.f (d k t : Nat) : Ins := ⟨some d, .faddr k, [.t t], none⟩
abbrev Ins.x (d k t : Nat) : Ins := ⟨some d, .extract k, [.t t], none⟩
abbrev V.z : V := .int .i64 0
abbrev Ins.n (d : Nat) (k : K) (xs : List X) : Ins := ⟨some d, k, xs, none⟩
abbrev Ins.w (d : Nat) (k : K) (xs : List X) (t : Nat) (b : Bool) : Ins := ⟨some d, k, xs, some (t, b)⟩
abbrev Ins.s (k : K) (xs : List X) : Ins := ⟨none, k, xs, none⟩
abbrev X.i (n : Int) : X := .c (.int .i64 n)
end
end Go.Am
namespace Go.Proofs.YtabedohjkillfaaGreat
section
open Go.Am
theorem mixed : Tryz.prog.follows .mixedOrders = true := by kernel_rfl
abbrev X6 : Nat := 3
def Ue : IC := (.seq (.reg [.n 3 .box [.t 0], .n 4 .box [.t 1], .n 5 .box [.t 2], .n 6 .mov [.c (.bool false)]]) (.seq (.draw [0, 1, 0, 4, 0, 16, 0, 0, 195, 463, 1023] [.f 31 0 5, .v 32 2 31, .f 33 6 5, .v 34 3 33, .f 35 9 5, .l 36 35, .n 7 (.alloc [.z, .z]) [], .n 8 (.alloc [.z, .z, .z]) [], .s (.store 2) [.t 7, .t 32], .s (.store 3) [.t 8, .t 34], .m 9 36]) (.seq (.draw [0, 0, 2, 7, 15, 31, 0, 127] [.n 37 (.call 4) [], .n 38 (.iaddrA 3 1) [.t 8, .i 0], .l 39 38, .n 40 (.call 5) [.t 39, .i 4], .n 41 (.iaddrS 3) [.t 37, .t 40], .v 42 3 41, .n 10 (.alloc [.z, .z, .z]) [], .s (.store 3) [.t 10, .t 42]]) (.seq (.reg [.n 43 (.iaddrA 3 1) [.t 8, .i 1], .l 44 43, .n 45 (.call 5) [.t 44, .i 300], .m 11 45]) (.seq (.reg [.f 47 0 4, .v 48 5 47, .f 49 5 4, .l 50 49, .n 51 (.build [.z, .z] []) [], .v 52 3 10, .n 53 (.call 6) [.t 48, .t 50, .t 51, .t 52], .m 46 53, .x 54 0 46, .x 55 1 46, .m 12 54, .m 13 55]) (.seq (.reg [.m 57 12, .n 58 (.call 7) [.t 57], .m 56 58, .x 59 0 56, .x 60 1 56, .n 14 (.alloc [.z, .z, .z, .z, .z, .z, .z, .z]) [], .s (.store 8) [.t 14, .t 59], .m 15 60]) (.seq (.seq (.reg [.m 61 13, .n 62 (.bin .neq) [.t 61, .i 0], .m 63 62, .w 64 .mov [.t 15] 63 false, .w 65 (.un .not) [.t 64] 63 false, .n 66 .pick [.t 63, .c (.bool true), .t 65]]) (.cond (.t 66) (.seq (.reg [.n 67 (.call 8) [], .m 6 67]) .ret) .skip)) (.seq (.reg [.v 68 8 14, .f 69 3 3, .s (.store 8) [.t 69, .t 68]]) (.seq (.reg [.v 71 17 3, .v 72 2 7, .f 73 0 7, .l 74 73, .m 75 11, .f 76 0 10, .l 77 76, .n 78 (.bin .mul) [.t 75, .t 77], .n 79 (.bin .add) [.t 74, .t 78], .f 80 1 7, .l 81 80, .m 82 11, .f 83 1 10, .l 84 83, .n 85 (.bin .mul) [.t 82, .t 84], .n 86 (.bin .add) [.t 81, .t 85], .n 87 (.build [.z, .z] [(0, 1), (1, 1)]) [.t 79, .t 86], .n 88 (.call 9) [.t 71, .t 72, .t 87], .m 70 88, .x 89 0 70, .x 90 1 70, .m 16 89, .m 13 90]) (.seq (.seq (.reg [.m 91 13, .n 92 (.bin .neq) [.t 91, .i 0], .m 93 92, .w 94 .mov [.t 16] 93 false, .w 95 (.un .not) [.t 94] 93 false, .n 96 .pick [.t 93, .c (.bool true), .t 95]]) (.cond (.t 96) (.seq (.reg [.n 97 (.call 8) [], .m 6 97]) .ret) .skip)) (.seq (.reg [.n 98 (.iaddrA 3 1) [.t 8, .i 2], .l 99 98, .m 100 11, .n 101 (.bin .add) [.t 100, .i 1], .n 102 (.call 5) [.t 99, .t 101], .m 17 102]) (.seq (.reg [.f 103 0 7, .l 104 103, .m 105 17, .f 106 0 10, .l 107 106, .n 108 (.bin .mul) [.t 105, .t 107], .n 109 (.bin .add) [.t 104, .t 108], .f 110 1 7, .l 111 110, .m 112 17, .f 113 1 10, .l 114 113, .n 115 (.bin .mul) [.t 112, .t 114], .n 116 (.bin .add) [.t 111, .t 115], .n 117 (.build [.z, .z] [(0, 1), (1, 1)]) [.t 109, .t 116], .n 18 (.alloc [.z, .z]) [], .s (.store 2) [.t 18, .t 117]]) (.seq (.draw [0, 1, 3, 0, 15] [.f 118 0 4, .f 119 0 118, .l 120 119, .n 19 .mov [.i 0], .m 20 120]) (.seq (.seq (.reg [.n 21 .mov [.i 0]]) (.block 0 (.loop (.seq (.seq (.reg [.m 121 21, .f 122 5 4, .l 123 122, .n 124 (.len false) [.t 123], .n 125 (.bin .lss) [.t 121, .t 124], .m 126 125, .w 127 .mov [.t 21] 126 true, .w 128 (.faddr 0) [.t 4] 126 true, .w 129 (.faddr 1) [.t 128] 126 true, .w 130 (.load 1 false) [.t 129] 126 true, .w 131 (.len false) [.t 130] 126 true, .w 132 (.bin .lss) [.t 127, .t 131] 126 true, .n 133 .pick [.t 126, .t 132, .c (.bool false)]]) (.cond (.t 133) .skip (.exit 0))) (.seq (.block 1 (.seq (.draw [0, 1, 0, 7, 15, 0, 0, 96, 255, 511] [.f 136 5 4, .l 137 136, .m 138 21, .n 139 (.iaddrS 2) [.t 137, .t 138], .v 140 2 139, .m 141 9, .m 142 21, .n 143 (.call 11) [.t 141, .t 142], .n 144 (.call 10) [.t 140, .t 143], .m 22 144]) (.seq (.draw [0, 1, 3, 0, 15, 31, 63, 0, 0, 384, 896, 2047, 4095] [.f 145 0 4, .f 146 1 145, .l 147 146, .m 148 21, .n 149 (.iaddrS 5) [.t 147, .t 148], .f 150 0 149, .l 151 150, .m 152 22, .m 153 20, .n 154 (.bin .sub) [.t 152, .t 153], .n 155 (.call 12) [.t 154], .m 23 151, .m 24 155]) (.seq (.seq (.reg [.m 156 24, .m 157 23, .n 158 (.bin .gtr) [.t 156, .t 157]]) (.cond (.t 158) (.seq (.reg [.n 159 (.call 8) [], .m 6 159]) .ret) .skip)) (.seq (.reg [.m 161 23, .m 162 23, .n 163 (.bin .mul) [.t 161, .t 162], .m 164 24, .m 165 24, .n 166 (.bin .mul) [.t 164, .t 165], .n 167 (.bin .sub) [.t 163, .t 166], .n 168 (.call 13) [.t 167], .m 160 168, .x 169 0 160, .x 170 1 160, .m 25 169, .m 26 170]) (.seq (.seq (.reg [.m 171 26, .n 172 (.bin .neq) [.t 171, .i 0]]) (.cond (.t 172) (.seq (.reg [.n 6 .mov [.c (.bool false)]]) .ret) .skip)) (.seq (.reg [.m 173 19, .m 174 25, .n 175 (.bin .add) [.t 173, .t 174], .m 176 22, .m 19 175, .m 20 176]) (.seq (.reg [.f 177 0 18, .l 178 177, .m 179 19, .f 180 0 10, .l 181 180, .n 182 (.bin .mul) [.t 179, .t 181], .n 183 (.bin .sub) [.t 178, .t 182], .m 184 22, .f 185 1 10, .l 186 185, .n 187 (.bin .mul) [.t 184, .t 186], .n 188 (.bin .sub) [.t 183, .t 187], .f 189 1 18, .l 190 189, .m 191 19, .f 192 1 10, .l 193 192, .n 194 (.bin .mul) [.t 191, .t 193], .n 195 (.bin .sub) [.t 190, .t 194], .m 196 22, .f 197 0 10, .l 198 197, .n 199 (.bin .mul) [.t 196, .t 198], .n 200 (.bin .add) [.t 195, .t 199], .n 201 (.build [.z, .z] [(0, 1), (1, 1)]) [.t 188, .t 200], .n 27 (.alloc [.z, .z]) [], .s (.store 2) [.t 27, .t 201]]) (.seq (.reg [.n 28 .mov [.i 0]]) (.block 2 (.loop (.seq (.seq (.reg [.m 202 28, .f 203 1 3, .l 204 203, .n 205 (.len false) [.t 204], .n 206 (.bin .lss) [.t 202, .t 205]]) (.cond (.t 206) .skip (.exit 2))) (.seq (.block 3 (.seq (.draw [0, 1, 0, 7, 15, 0, 63, 127, 255, 255, 511, 2047] [.f 210 1 3, .l 211 210, .m 212 28, .n 213 (.iaddrS 1) [.t 211, .t 212], .l 214 213, .v 215 2 27, .n 216 (.call 14) [.t 214, .t 215], .m 209 216, .x 217 0 209, .x 218 1 209, .m 29 217, .m 30 218]) (.seq (.reg [.m 219 30, .n 220 (.bin .neq) [.t 219, .i 0], .m 221 220, .w 222 .mov [.t 29] 221 false, .n 223 .pick [.t 221, .c (.bool true), .t 222]]) (.cond (.t 223) (.seq (.reg [.n 6 .mov [.c (.bool false)]]) .ret) .skip)))) (.reg [.m 207 28, .n 208 (.bin .add) [.t 207, .i 1], .m 28 208])))))))))))))) (.reg [.m 134 21, .n 135 (.bin .add) [.t 134, .i 1], .m 21 135])))))) (.seq (.reg [.n 224 (.call 8) [], .m 6 224]) .ret)))))))))))))))
theorem So : chkF Tryz.prog 3 = some (225, Ue, [.tmp 6]) := by kernel_rfl
abbrev A9b : Nat := 4
def A46 : IC := (.seq (.reg [.n 0 .mov [.c .nils]]) (.seq (.reg [.n 1 (.build [.z, .z, .z] [(0, 1), (2, 1)]) [.i 1, .i 1], .n 2 (.build [.z, .z, .z] [(1, 1), (2, 1)]) [.i 1, .i 1], .n 3 (.build [.z, .z, .z] [(0, 1), (2, 1)]) [.i (-1), .i 1], .n 4 (.build [.z, .z, .z] [(1, 1), (2, 1)]) [.i (-1), .i 1], .n 5 (.mkslice 3 48) [.t 1, .t 2, .t 3, .t 4], .m 0 5]) .ret))
theorem A2g : chkF Tryz.prog 4 = some (6, A46, [.tmp 0]) := by kernel_rfl
abbrev A3c : Nat := 5
def Zk : IC := (.seq (.reg [.n 4 .mov [.i 0]]) (.seq (.seq (.reg [.m 5 1, .n 6 (.bin .lss) [.t 5, .i 1]]) (.cond (.t 6) (.seq (.reg [.n 4 .mov [.i 0]]) .ret) .skip)) (.seq (.reg [.m 7 0, .m 8 1, .n 9 (.bin .rem) [.t 7, .t 8], .m 0 9]) (.seq (.seq (.reg [.m 10 0, .n 11 (.bin .lss) [.t 10, .i 0]]) (.cond (.t 11) (.reg [.m 12 0, .m 13 1, .n 14 (.bin .add) [.t 12, .t 13], .m 0 14]) .skip)) (.seq (.reg [.m 15 0, .m 4 15]) .ret)))))
theorem Ws : chkF Tryz.prog 5 = some (16, Zk, [.tmp 4]) := by kernel_rfl
abbrev Ol : Nat := 6
def A1h : IC := (.seq (.reg [.n 4 .box [.t 0], .n 6 .box [.t 2], .n 7 .box [.t 3], .n 8 .mov [.c .nils], .n 9 .mov [.i 0]]) (.seq (.reg [.v 22 5 4, .m 23 1, .n 24 (.call 15) [.t 22, .t 23], .m 21 24, .x 25 0 21, .x 26 1 21, .n 10 (.alloc [.z, .nils, .z, .z, .z]) [], .s (.store 5) [.t 10, .t 25], .m 11 26]) (.seq (.seq (.reg [.m 27 11, .n 28 (.bin .neq) [.t 27, .i 0]]) (.cond (.t 28) (.seq (.reg [.m 29 11, .n 8 .mov [.c .nils], .m 9 29]) .ret) .skip)) (.seq (.seq (.reg [.v 30 2 6, .n 31 (.call 16) [.t 30], .m 12 31]) (.seq (.reg [.m 32 12, .n 33 (.bin .neq) [.t 32, .i 0]]) (.cond (.t 33) (.seq (.reg [.m 34 12, .n 8 .mov [.c .nils], .m 9 34]) .ret) .skip))) (.seq (.seq (.reg [.v 35 3 7, .n 36 (.call 17) [.t 35], .m 13 36]) (.seq (.reg [.m 37 13, .n 38 (.bin .neq) [.t 37, .i 0]]) (.cond (.t 38) (.seq (.reg [.m 39 13, .n 8 .mov [.c .nils], .m 9 39]) .ret) .skip))) (.seq (.reg [.n 14 .mov [.c .nils]]) (.seq (.seq (.reg [.v 40 5 10, .m 41 1, .n 42 (.call 18) [.t 40, .t 41], .n 43 (.len false) [.t 42], .n 44 .mov [.i 0]]) (.block 0 (.loop (.seq (.reg [.n 45 (.bin .lss) [.t 44, .t 43]]) (.seq (.cond (.t 45) .skip (.exit 0)) (.seq (.block 1 (.seq (.reg [.n 46 (.iaddrS 8) [.t 42, .t 44], .v 47 8 46, .n 16 (.alloc [.z, .z, .z, .z, .z, .z, .z, .z]) [], .s (.store 8) [.t 16, .t 47]]) (.seq (.reg [.v 49 8 16, .v 50 3 7, .n 51 (.call 19) [.t 49, .t 50], .m 48 51, .x 52 0 48, .x 53 1 48, .n 17 (.alloc [.z, .z, .z, .z, .z, .z, .z, .z]) [], .s (.store 8) [.t 17, .t 52], .m 18 53]) (.seq (.seq (.reg [.m 54 18, .n 55 (.un .not) [.t 54]]) (.cond (.t 55) (.seq (.reg [.n 8 .mov [.c .nils], .n 9 .mov [.i 7]]) .ret) .skip)) (.seq (.reg [.v 57 8 17, .v 58 2 6, .n 59 (.call 20) [.t 57, .t 58], .m 56 59, .x 60 0 56, .x 61 1 56, .n 19 (.alloc [.z, .z, .z, .z, .z, .z, .z, .z]) [], .s (.store 8) [.t 19, .t 60], .m 20 61]) (.seq (.seq (.reg [.m 62 20, .n 63 (.bin .neq) [.t 62, .i 0]]) (.cond (.t 63) (.seq (.reg [.m 64 20, .n 8 .mov [.c .nils], .m 9 64]) .ret) .skip)) (.reg [.m 65 14, .v 66 8 19, .n 67 (.mkslice 8 28) [.t 66], .n 68 (.append 8 64 28) [.t 65, .t 67], .m 14 68]))))))) (.reg [.n 69 (.bin .add) [.t 44, .i 1], .m 44 69]))))))) (.seq (.reg [.m 70 14, .m 8 70, .n 9 .mov [.i 0]]) .ret))))))))
theorem Jn : chkF Tryz.prog 6 = some (71, A1h, [.tmp 8, .tmp 9]) := by kernel_rfl
abbrev Yh : Nat := 7
def A45 : IC := (.seq (.reg [.n 2 (.alloc [.z, .z, .z, .z, .z, .z, .z, .z]) [], .n 3 .mov [.c (.bool false)]]) (.seq (.reg [.n 8 (.build [.z, .z, .z, .z, .z, .z, .z, .z] []) [], .n 4 (.alloc [.z, .z, .z, .z, .z, .z, .z, .z]) [], .s (.store 8) [.t 4, .t 8]]) (.seq (.seq (.reg [.n 5 .mov [.i 0]]) (.block 0 (.loop (.seq (.seq (.reg [.m 9 5, .m 10 0, .n 11 (.len false) [.t 10], .n 12 (.bin .lss) [.t 9, .t 11]]) (.cond (.t 12) .skip (.exit 0))) (.seq (.block 1 (.seq (.draw [0, 0, 0, 6, 14, 31, 63, 127, 127, 0, 767, 2047] [.v 16 8 4, .m 17 0, .m 18 5, .n 19 (.iaddrS 8) [.t 17, .t 18], .v 20 8 19, .n 21 (.call 21) [.t 16, .t 20], .m 15 21, .x 22 0 15, .x 23 1 15, .n 6 (.alloc [.z, .z, .z, .z, .z, .z, .z, .z]) [], .s (.store 8) [.t 6, .t 22], .m 7 23]) (.seq (.seq (.reg [.m 24 7, .n 25 (.bin .neq) [.t 24, .i 0]]) (.cond (.t 25) (.seq (.reg [.n 26 (.build [.z, .z, .z, .z, .z, .z, .z, .z] []) [], .s (.store 8) [.t 2, .t 26], .n 3 .mov [.c (.bool false)]]) .ret) .skip)) (.reg [.v 27 8 6, .s (.store 8) [.t 4, .t 27]])))) (.reg [.m 13 5, .n 14 (.bin .add) [.t 13, .i 1], .m 5 14])))))) (.seq (.reg [.v 28 8 4, .s (.store 8) [.t 2, .t 28], .n 3 .mov [.c (.bool true)]]) .ret))))
theorem Rt : chkF Tryz.prog 7 = some (29, A45, [.cell 2 28, .tmp 3]) := by kernel_rfl
abbrev Q3 : Nat := 8
def W0 : IC := (.seq (.reg [.n 0 .mov [.c (.bool false)]]) (.seq (.reg [.n 9 (.build [.z, .z] [(0, 1)]) [.i 10], .n 10 (.build [.z, .z, .z, .z] [(2, 2)]) [.t 9], .n 11 (.mkslice 4 82) [.t 10], .n 12 (.build [.z, .z] [(0, 1), (1, 1)]) [.i 7, .i 100], .n 13 (.mkslice 2 26) [.t 12], .n 14 (.mkslice 1 39) [.t 13], .n 15 (.build [.nils, .nils, .nils, .z, .z, .z, .z, .z, .z, .z, .z, .z, .z, .z, .z, .z, .nils] [(0, 1), (14, 1), (15, 1), (16, 1)]) [.t 11, .i 2, .i 3, .t 14], .n 1 (.alloc [.nils, .nils, .nils, .z, .z, .z, .z, .z, .z, .z, .z, .z, .z, .z, .z, .z, .nils]) [], .s (.store 17) [.t 1, .t 15]]) (.seq (.reg [.v 17 17 1, .n 18 (.call 22) [.t 17], .m 16 18, .x 19 0 16, .x 20 1 16, .x 21 2 16, .m 2 19, .m 3 20, .m 4 21]) (.seq (.reg [.n 23 (.build [.z, .z, .z, .z, .z, .z, .z, .z] []) [], .n 24 (.build [.z, .z] [(1, 1)]) [.i 9], .n 25 (.build [.z, .z] [(1, 1)]) [.i 9], .n 26 (.build [.z, .z] [(1, 1)]) [.i 18], .n 27 (.build [.z, .z] [(0, 1), (1, 1)]) [.i (-9), .i 9], .n 28 (.build [.z, .z, .z, .z, .z, .z, .z, .z] [(0, 2), (2, 2), (4, 2), (6, 2)]) [.t 24, .t 25, .t 26, .t 27], .n 29 (.mkslice 8 28) [.t 23, .t 28], .n 30 (.build [.z, .z, .z, .z, .z, .z, .z, .z, .z, .z, .z, .z, .z, .z] [(0, 1), (2, 1), (4, 1)]) [.i 1, .i 1, .i 2], .n 31 (.mkslice 14 88) [.t 30], .n 32 (.build [.nils, .nils] [(0, 1), (1, 1)]) [.t 29, .t 31], .n 33 (.call 23) [.t 32], .m 22 33, .x 34 0 22, .x 35 1 22, .m 5 34, .m 6 35]) (.seq (.reg [.n 37 (.build [.z, .z, .z, .z, .z] [(0, 1), (1, 1)]) [.i 9, .i 64], .n 38 (.mkslice 5 64) [.t 37], .n 39 (.build [.z, .z] [(0, 1), (1, 1)]) [.i (-9), .i 9], .n 40 (.build [.z, .nils, .z, .z, .z] [(1, 1), (0, 1), (2, 2)]) [.t 38, .i 3, .t 39], .n 41 (.mkslice 1 3) [.i 0], .n 42 (.mkslice 1 3) [.i 2], .n 43 (.call 24) [.t 40, .t 41, .t 42], .m 36 43, .x 44 0 36, .x 45 1 36, .m 7 44, .m 8 45]) (.seq (.reg [.m 46 4, .n 47 (.bin .eql) [.t 46, .i 0], .m 48 47, .w 49 .mov [.t 6] 48 true, .w 50 (.bin .eql) [.t 49, .i 0] 48 true, .n 51 .pick [.t 48, .t 50, .c (.bool false)], .m 52 51, .w 53 .mov [.t 8] 52 true, .w 54 (.bin .eql) [.t 53, .i 0] 52 true, .n 55 .pick [.t 52, .t 54, .c (.bool false)], .m 56 55, .w 57 .mov [.t 3] 56 true, .w 58 (.bin .eql) [.t 57, .i 12] 56 true, .n 59 .pick [.t 56, .t 58, .c (.bool false)], .m 60 59, .w 61 .mov [.t 5] 60 true, .w 62 (.len false) [.t 61] 60 true, .w 63 (.bin .eql) [.t 62, .i 2] 60 true, .n 64 .pick [.t 60, .t 63, .c (.bool false)], .m 65 64, .w 66 .mov [.t 5] 65 true, .w 67 (.iaddrS 8) [.t 66, .i 1] 65 true, .w 68 (.faddr 0) [.t 67] 65 true, .w 69 (.load 2 true) [.t 68] 65 true, .w 70 (.build [.z, .z] [(1, 1)]) [.i 1] 65 true, .w 71 (.eqs false [0, 0]) [.t 69, .t 70] 65 true, .n 72 .pick [.t 65, .t 71, .c (.bool false)], .m 73 72, .w 74 .mov [.t 7] 73 true, .w 75 (.mkslice 1 3) [.i 5] 73 true, .w 76 (.call 25) [.t 74, .t 75] 73 true, .n 77 .pick [.t 73, .t 76, .c (.bool false)], .m 0 77]) .ret))))))
theorem V5 : chkF Tryz.prog 8 = some (78, W0, [.tmp 0]) := by kernel_rfl
abbrev Nh : Nat := 9
def Uo : IC := (.seq (.reg [.n 3 .box [.t 0], .n 4 .box [.t 1], .n 5 .box [.t 2], .n 6 .mov [.c (.bool false)], .n 7 .mov [.i 0]]) (.seq (.reg [.v 12 17 3, .v 13 2 4, .v 14 2 5, .n 15 (.call 26) [.t 12, .t 13, .t 14], .m 11 15, .x 16 0 11, .x 17 1 11, .x 18 2 11, .n 9 (.alloc [.z, .z, .z, .z]) [], .m 8 16, .s (.store 4) [.t 9, .t 17], .m 10 18]) (.seq (.seq (.reg [.m 19 10, .n 20 (.bin .neq) [.t 19, .i 0]]) (.cond (.t 20) (.seq (.reg [.m 21 10, .n 6 .mov [.c (.bool false)], .m 7 21]) .ret) .skip)) (.seq (.reg [.m 22 8, .v 23 4 9, .n 24 (.call 27) [.t 22, .t 23], .m 6 24, .n 7 .mov [.i 0]]) .ret))))
theorem Gf : chkF Tryz.prog 9 = some (25, Uo, [.tmp 6, .tmp 7]) := by kernel_rfl
abbrev A37 : Nat := 10
def Zf : IC := (.seq (.reg [.n 2 .box [.t 0], .n 4 .mov [.i 0]]) (.seq (.draw [0, 1, 0, 0, 8, 0, 32, 120, 248, 508, 1023, 2047] [.f 5 0 2, .l 6 5, .m 7 1, .f 8 1 2, .l 9 8, .f 10 0 2, .l 11 10, .n 12 (.bin .sub) [.t 9, .t 11], .n 13 (.bin .add) [.t 12, .i 1], .n 14 (.call 5) [.t 7, .t 13], .n 15 (.bin .add) [.t 6, .t 14], .m 4 15]) .ret))
theorem Wo : chkF Tryz.prog 10 = some (16, Zf, [.tmp 4]) := by kernel_rfl
abbrev A3d : Nat := 11
def Zl : IC := (.seq (.reg [.n 4 .mov [.i 0]]) (.seq (.seq (.reg [.m 5 0, .n 6 (.len false) [.t 5], .n 7 (.bin .eql) [.t 6, .i 0]]) (.cond (.t 7) (.seq (.reg [.n 4 .mov [.i 0]]) .ret) .skip)) (.seq (.reg [.m 8 0, .m 9 1, .m 10 0, .n 11 (.len false) [.t 10], .n 12 (.call 5) [.t 9, .t 11], .n 13 (.iaddrS 1) [.t 8, .t 12], .l 14 13, .m 4 14]) .ret)))
theorem Nc : chkF Tryz.prog 11 = some (15, Zl, [.tmp 4]) := by kernel_rfl
abbrev Ri : Nat := 12
def P5 : IC := (.seq (.reg [.n 2 .mov [.i 0]]) (.seq (.reg [.m 3 0, .m 4 0, .n 5 (.un .neg) [.t 4], .n 6 (.minmax true) [.t 3, .t 5], .m 2 6]) .ret))
theorem O7 : chkF Tryz.prog 12 = some (7, P5, [.tmp 2]) := by kernel_rfl
abbrev Qb : Nat := 13
def W8 : IC := (.seq (.reg [.n 2 .mov [.i 0], .n 3 .mov [.i 0]]) (.seq (.seq (.reg [.m 4 0, .n 5 (.call 28) [.t 4, .i 0, .i 1099511627776], .n 6 (.un .not) [.t 5]]) (.cond (.t 6) (.seq (.reg [.n 2 .mov [.i 0], .n 3 .mov [.i 7]]) .ret) .skip)) (.seq (.reg [.m 7 0, .n 8 (.call 29) [.t 7], .m 2 8, .n 3 .mov [.i 0]]) .ret)))
theorem Vb : chkF Tryz.prog 13 = some (9, W8, [.tmp 2, .tmp 3]) := by kernel_rfl
abbrev Vs : Nat := 14
def Sa : IC := (.seq (.reg [.n 3 .box [.t 1], .n 4 .mov [.c (.bool false)], .n 5 .mov [.i 0]]) (.seq (.seq (.draw [0, 1, 0, 7, 15, 31, 63] [.m 7 0, .n 8 (.call 31) [.t 7], .v 9 2 3, .n 10 (.call 16) [.t 9], .n 11 (.mkslice 1 53) [.t 8, .t 10], .n 12 (.call 30) [.t 11], .m 6 12]) (.seq (.reg [.m 13 6, .n 14 (.bin .neq) [.t 13, .i 0]]) (.cond (.t 14) (.seq (.reg [.m 15 6, .n 4 .mov [.c (.bool false)], .m 5 15]) .ret) .skip))) (.seq (.reg [.m 16 0, .v 17 2 3, .n 18 (.call 32) [.t 16, .t 17], .m 4 18, .n 5 .mov [.i 0]]) .ret)))
theorem R7 : chkF Tryz.prog 14 = some (19, Sa, [.tmp 4, .tmp 5]) := by kernel_rfl
abbrev Q0 : Nat := 15
def Vz : IC := (.seq (.reg [.n 2 .box [.t 0], .n 4 (.alloc [.z, .nils, .z, .z, .z]) [], .n 5 .mov [.i 0]]) (.seq (.seq (.reg [.v 8 5 2, .n 9 (.call 33) [.t 8], .m 6 9]) (.seq (.reg [.m 10 6, .n 11 (.bin .neq) [.t 10, .i 0]]) (.cond (.t 11) (.seq (.reg [.n 12 (.build [.z, .nils, .z, .z, .z] []) [], .m 13 6, .s (.store 5) [.t 4, .t 12], .m 5 13]) .ret) .skip))) (.seq (.seq (.reg [.v 14 5 2, .n 15 (.build [.z, .nils, .z, .z, .z] [(0, 5)]) [.t 14], .n 7 (.alloc [.z, .nils, .z, .z, .z]) [], .s (.store 5) [.t 7, .t 15]]) (.seq (.reg [.v 16 5 7, .m 17 1, .n 18 (.call 34) [.t 16, .t 17]]) (.cond (.t 18) (.seq (.reg [.v 19 5 7, .s (.store 5) [.t 4, .t 19], .n 5 .mov [.i 0]]) .ret) .skip))) (.seq (.reg [.n 20 (.build [.z, .nils, .z, .z, .z] []) [], .s (.store 5) [.t 4, .t 20], .n 5 .mov [.i 31]]) .ret))))
theorem Hc : chkF Tryz.prog 15 = some (21, Vz, [.cell 4 71, .tmp 5]) := by kernel_rfl
abbrev Hg : Nat := 16
def Mh : IC := (.seq (.reg [.n 1 .box [.t 0], .n 2 .mov [.i 0]]) (.seq (.seq (.reg [.f 5 0 1, .l 6 5, .f 7 1 1, .l 8 7, .n 9 (.build [.z, .z] [(0, 1), (1, 1)]) [.t 6, .t 8], .n 10 .mov [.i 0]]) (.block 0 (.loop (.seq (.reg [.n 11 (.bin .lss) [.t 10, .i 2]]) (.seq (.cond (.t 11) .skip (.exit 0)) (.seq (.block 1 (.seq (.reg [.n 12 (.idxA 2 1 false) [.t 9, .t 10], .m 4 12]) (.seq (.reg [.m 13 4, .n 14 (.call 35) [.i 32768, .t 13], .m 15 4, .n 16 (.bin .neq) [.t 14, .t 15]]) (.cond (.t 16) (.seq (.reg [.n 2 .mov [.i 10]]) .ret) .skip)))) (.reg [.n 17 (.bin .add) [.t 10, .i 1], .m 10 17]))))))) (.seq (.reg [.n 2 .mov [.i 0]]) .ret)))
theorem G4 : chkF Tryz.prog 16 = some (18, Mh, [.tmp 2]) := by kernel_rfl
abbrev Q2 : Nat := 17
def Nu : IC := (.seq (.reg [.n 1 .box [.t 0], .n 2 .mov [.i 0]]) (.seq (.seq (.reg [.f 3 2 1, .l 4 3, .n 5 (.call 36) [.t 4, .i 1, .i 1000], .n 6 (.un .not) [.t 5], .m 7 6, .w 8 (.faddr 0) [.t 1] 7 false, .w 9 (.load 1 false) [.t 8] 7 false, .w 10 (.faddr 2) [.t 1] 7 false, .w 11 (.load 1 false) [.t 10] 7 false, .w 12 (.un .neg) [.t 11] 7 false, .w 13 (.faddr 2) [.t 1] 7 false, .w 14 (.load 1 false) [.t 13] 7 false, .w 15 (.call 36) [.t 9, .t 12, .t 14] 7 false, .w 16 (.un .not) [.t 15] 7 false, .n 17 .pick [.t 7, .c (.bool true), .t 16], .m 18 17, .w 19 (.faddr 1) [.t 1] 18 false, .w 20 (.load 1 false) [.t 19] 18 false, .w 21 (.faddr 2) [.t 1] 18 false, .w 22 (.load 1 false) [.t 21] 18 false, .w 23 (.un .neg) [.t 22] 18 false, .w 24 (.faddr 2) [.t 1] 18 false, .w 25 (.load 1 false) [.t 24] 18 false, .w 26 (.call 36) [.t 20, .t 23, .t 25] 18 false, .w 27 (.un .not) [.t 26] 18 false, .n 28 .pick [.t 18, .c (.bool true), .t 27], .m 29 28, .w 30 (.faddr 0) [.t 1] 29 false, .w 31 (.load 1 false) [.t 30] 29 false, .w 32 (.faddr 0) [.t 1] 29 false, .w 33 (.load 1 false) [.t 32] 29 false, .w 34 (.bin .mul) [.t 31, .t 33] 29 false, .w 35 (.faddr 1) [.t 1] 29 false, .w 36 (.load 1 false) [.t 35] 29 false, .w 37 (.faddr 1) [.t 1] 29 false, .w 38 (.load 1 false) [.t 37] 29 false, .w 39 (.bin .mul) [.t 36, .t 38] 29 false, .w 40 (.bin .add) [.t 34, .t 39] 29 false, .w 41 (.faddr 2) [.t 1] 29 false, .w 42 (.load 1 false) [.t 41] 29 false, .w 43 (.faddr 2) [.t 1] 29 false, .w 44 (.load 1 false) [.t 43] 29 false, .w 45 (.bin .mul) [.t 42, .t 44] 29 false, .w 46 (.bin .neq) [.t 40, .t 45] 29 false, .n 47 .pick [.t 29, .c (.bool true), .t 46]]) (.cond (.t 47) (.seq (.reg [.n 2 .mov [.i 35]]) .ret) .skip)) (.seq (.reg [.n 2 .mov [.i 0]]) .ret)))
theorem Mx : chkF Tryz.prog 17 = some (48, Nu, [.tmp 2]) := by kernel_rfl
abbrev Sw : Nat := 18
def Qq : IC := (.seq (.reg [.n 2 .box [.t 0], .n 4 .mov [.c .nils]]) (.seq (.reg [.n 5 .mov [.c .nils]]) (.seq (.reg [.n 6 .mov [.i 0], .n 7 .mov [.i 0]]) (.seq (.seq (.reg [.v 11 5 2, .m 12 1, .n 13 (.call 37) [.t 11, .t 12], .n 14 (.len false) [.t 13], .n 15 .mov [.i 0]]) (.block 0 (.loop (.seq (.reg [.n 16 (.bin .lss) [.t 15, .t 14]]) (.seq (.cond (.t 16) .skip (.exit 0)) (.seq (.block 1 (.seq (.reg [.m 17 15, .n 18 (.iaddrS 2) [.t 13, .t 15], .v 19 2 18, .n 9 (.alloc [.z, .z]) [], .m 8 17, .s (.store 2) [.t 9, .t 19]]) (.seq (.reg [.m 20 6, .f 21 0 2, .f 22 1 21, .l 23 22, .m 24 8, .n 25 (.iaddrS 5) [.t 23, .t 24], .f 26 0 25, .l 27 26, .n 28 (.bin .add) [.t 20, .t 27], .m 6 28]) (.seq (.draw [0, 0, 2, 6, 0, 30, 62, 126, 0, 256, 1022, 2047, 4095] [.m 29 7, .f 30 0 2, .f 31 1 30, .l 32 31, .m 33 8, .n 34 (.iaddrS 5) [.t 32, .t 33], .f 35 0 34, .l 36 35, .f 37 1 9, .l 38 37, .n 39 (.call 38) [.t 36, .t 38], .n 40 (.bin .add) [.t 29, .t 39], .m 7 40]) (.seq (.reg [.n 41 (.call 39) [], .n 10 (.alloc [.z, .z, .z, .z, .z, .z, .z, .z]) [], .s (.store 8) [.t 10, .t 41]]) (.seq (.draw [0, 1, 0, 4, 15, 0, 0, 96, 224, 31, 543, 2047, 4095] [.m 42 6, .n 43 (.un .neg) [.t 42], .m 44 7, .n 45 (.un .neg) [.t 44], .n 46 (.build [.z, .z] [(0, 1), (1, 1)]) [.t 43, .t 45], .m 47 1, .m 48 8, .n 49 (.iaddrS 2) [.t 47, .t 48], .v 50 2 49, .f 51 0 10, .s (.store 2) [.t 51, .t 46], .f 52 2 10, .s (.store 2) [.t 52, .t 50]]) (.seq (.reg [.v 54 8 10, .n 55 (.call 40) [.t 54], .m 53 55, .x 56 0 53, .x 57 1 53, .s (.store 8) [.t 10, .t 56]]) (.reg [.m 58 5, .v 59 8 10, .n 60 (.mkslice 8 28) [.t 59], .n 61 (.append 8 64 28) [.t 58, .t 60], .m 5 61])))))))) (.reg [.n 62 (.bin .add) [.t 15, .i 1], .m 15 62]))))))) (.seq (.reg [.m 63 5, .m 4 63]) .ret)))))
theorem Pj : chkF Tryz.prog 18 = some (64, Qq, [.tmp 4]) := by kernel_rfl
abbrev A36 : Nat := 19
def Zd : IC := (.seq (.reg [.n 2 .box [.t 0], .n 3 .box [.t 1], .n 4 (.alloc [.z, .z, .z, .z, .z, .z, .z, .z]) [], .n 5 .mov [.c (.bool false)]]) (.seq (.reg [.n 6 (.alloc [.z, .z, .z, .z, .z, .z, .z, .z]) []]) (.seq (.seq (.reg [.f 10 0 3, .l 11 10, .f 12 1 3, .l 13 12, .n 14 (.un .neg) [.t 13], .n 15 (.build [.z, .z] [(0, 1), (1, 1)]) [.t 11, .t 14], .f 16 1 3, .l 17 16, .f 18 0 3, .l 19 18, .n 20 (.build [.z, .z] [(0, 1), (1, 1)]) [.t 17, .t 19], .f 21 0 3, .l 22 21, .f 23 1 3, .l 24 23, .n 25 (.bin .add) [.t 22, .t 24], .f 26 0 3, .l 27 26, .f 28 1 3, .l 29 28, .n 30 (.bin .sub) [.t 27, .t 29], .n 31 (.build [.z, .z] [(0, 1), (1, 1)]) [.t 25, .t 30], .f 32 0 3, .l 33 32, .f 34 1 3, .l 35 34, .n 36 (.bin .sub) [.t 33, .t 35], .f 37 1 3, .l 38 37, .n 39 (.un .neg) [.t 38], .f 40 0 3, .l 41 40, .n 42 (.bin .sub) [.t 39, .t 41], .n 43 (.build [.z, .z] [(0, 1), (1, 1)]) [.t 36, .t 42], .n 44 (.build [.z, .z, .z, .z, .z, .z, .z, .z] [(0, 2), (2, 2), (4, 2), (6, 2)]) [.t 15, .t 20, .t 31, .t 43], .n 45 .mov [.i 0]]) (.block 0 (.loop (.seq (.reg [.n 46 (.bin .lss) [.t 45, .i 4]]) (.seq (.cond (.t 46) .skip (.exit 0)) (.seq (.block 1 (.seq (.reg [.m 47 45, .n 48 (.idxA 4 2 true) [.t 44, .t 45], .n 8 (.alloc [.z, .z]) [], .m 7 47, .s (.store 2) [.t 8, .t 48]]) (.seq (.reg [.v 49 8 2, .n 50 (.iaddrA 2 1) [.t 8, .i 0], .l 51 50, .n 52 (.iaddrA 2 1) [.t 8, .i 1], .l 53 52, .n 54 (.call 41) [.t 49, .t 51, .t 53], .n 9 (.alloc [.z, .z]) [], .s (.store 2) [.t 9, .t 54]]) (.draw [0, 0, 2, 0, 8, 30, 0, 64, 0, 256, 1022, 2046, 4095, 8191] [.m 55 7, .f 56 0 9, .l 57 56, .f 58 2 3, .l 59 58, .n 60 (.call 42) [.t 57, .t 59], .f 61 1 9, .l 62 61, .f 63 2 3, .l 64 63, .n 65 (.call 43) [.t 62, .t 64], .n 66 (.build [.z, .z] [(0, 1), (1, 1)]) [.t 60, .t 65], .n 67 (.iaddrA 4 2) [.t 6, .t 55], .s (.store 2) [.t 67, .t 66]])))) (.reg [.n 68 (.bin .add) [.t 45, .i 1], .m 45 68]))))))) (.seq (.draw [0, 1, 0, 4, 0, 16, 0, 64, 255, 0, 512, 1536, 3584, 7680, 15872, 32256, 65024, 65535, 262143] [.n 69 (.iaddrA 4 2) [.t 6, .i 0], .v 70 2 69, .n 71 (.iaddrA 4 2) [.t 6, .i 1], .v 72 2 71, .n 73 (.iaddrA 4 2) [.t 6, .i 2], .v 74 2 73, .n 75 (.iaddrA 4 2) [.t 6, .i 3], .v 76 2 75, .n 77 (.build [.z, .z, .z, .z, .z, .z, .z, .z] [(0, 2), (2, 2), (4, 2), (6, 2)]) [.t 70, .t 72, .t 74, .t 76], .n 78 (.iaddrA 4 2) [.t 6, .i 0], .v 79 2 78, .n 80 (.call 44) [.t 79, .i 32768], .m 81 80, .w 82 (.iaddrA 4 2) [.t 6, .i 1] 81 true, .w 83 (.load 2 true) [.t 82] 81 true, .w 84 (.call 44) [.t 83, .i 32768] 81 true, .n 85 .pick [.t 81, .t 84, .c (.bool false)], .s (.store 8) [.t 4, .t 77], .m 5 85]) .ret))))
theorem Wm : chkF Tryz.prog 19 = some (86, Zd, [.cell 4 28, .tmp 5]) := by kernel_rfl
abbrev Jr : Nat := 20
def W9 : IC := (.seq (.reg [.n 2 .box [.t 0], .n 3 .box [.t 1], .n 4 (.alloc [.z, .z, .z, .z, .z, .z, .z, .z]) [], .n 5 .mov [.i 0]]) (.seq (.seq (.reg [.v 9 8 2, .n 10 (.call 45) [.t 9], .m 6 10]) (.seq (.reg [.m 11 6, .n 12 (.bin .neq) [.t 11, .i 0]]) (.cond (.t 12) (.seq (.reg [.n 13 (.build [.z, .z, .z, .z, .z, .z, .z, .z] []) [], .m 14 6, .s (.store 8) [.t 4, .t 13], .m 5 14]) .ret) .skip))) (.seq (.seq (.draw [0, 1, 3, 0, 8, 31, 63, 127, 255, 511, 127, 1151, 4095, 8191] [.f 15 0 3, .l 16 15, .n 17 (.call 35) [.i 65536, .t 16], .f 18 0 3, .l 19 18, .n 20 (.bin .neq) [.t 17, .t 19], .m 21 20, .w 22 (.faddr 1) [.t 3] 21 false, .w 23 (.load 1 false) [.t 22] 21 false, .w 24 (.call 35) [.i 65536, .t 23] 21 false, .w 25 (.faddr 1) [.t 3] 21 false, .w 26 (.load 1 false) [.t 25] 21 false, .w 27 (.bin .neq) [.t 24, .t 26] 21 false, .n 28 .pick [.t 21, .c (.bool true), .t 27]]) (.cond (.t 28) (.seq (.reg [.n 29 (.build [.z, .z, .z, .z, .z, .z, .z, .z] []) [], .s (.store 8) [.t 4, .t 29], .n 5 .mov [.i 7]]) .ret) .skip)) (.seq (.reg [.v 31 8 2, .n 32 (.call 46) [.t 31], .n 33 (.call 47) [.t 32], .m 30 33, .x 34 0 30, .x 35 1 30, .n 7 (.alloc [.z, .z, .z, .z, .z, .z, .z, .z]) [], .s (.store 8) [.t 7, .t 34], .m 8 35]) (.seq (.seq (.reg [.m 36 8, .n 37 (.bin .neq) [.t 36, .i 0]]) (.cond (.t 37) (.seq (.reg [.n 38 (.build [.z, .z, .z, .z, .z, .z, .z, .z] []) [], .m 39 8, .s (.store 8) [.t 4, .t 38], .m 5 39]) .ret) .skip)) (.seq (.draw [0, 0, 2, 7, 15, 31, 31, 127, 255] [.v 40 8 7, .v 41 2 3, .n 42 (.call 50) [.t 41], .n 43 (.call 49) [.t 40, .t 42, .c (.func (.func 51) [] [])], .n 44 (.call 48) [.t 43], .x 45 0 44, .x 46 1 44, .s (.store 8) [.t 4, .t 45], .m 5 46]) .ret))))))
theorem E1 : chkF Tryz.prog 20 = some (47, W9, [.cell 4 28, .tmp 5]) := by kernel_rfl
abbrev Qd : Nat := 21
def Wb : IC := (.seq (.reg [.n 2 .box [.t 0], .n 3 .box [.t 1], .n 4 (.alloc [.z, .z, .z, .z, .z, .z, .z, .z]) [], .n 5 .mov [.i 0]]) (.seq (.seq (.draw [0, 1, 0, 7, 15, 31, 63] [.v 9 8 2, .n 10 (.call 45) [.t 9], .v 11 8 3, .n 12 (.call 45) [.t 11], .n 13 (.mkslice 1 53) [.t 10, .t 12], .n 14 (.call 30) [.t 13], .m 6 14]) (.seq (.reg [.m 15 6, .n 16 (.bin .neq) [.t 15, .i 0]]) (.cond (.t 16) (.seq (.reg [.n 17 (.build [.z, .z, .z, .z, .z, .z, .z, .z] []) [], .m 18 6, .s (.store 8) [.t 4, .t 17], .m 5 18]) .ret) .skip))) (.seq (.draw [0, 1, 3, 0, 15, 31, 63, 127, 255, 511, 511, 0, 3071, 8191] [.v 20 8 2, .n 21 (.call 46) [.t 20], .n 22 (.call 53) [.t 21], .v 23 8 3, .n 24 (.call 46) [.t 23], .n 25 (.call 53) [.t 24], .n 26 (.mkslice 1 127) [.t 22, .t 25], .n 27 (.call 52) [.t 26], .m 19 27, .x 28 0 19, .x 29 1 19, .n 7 (.alloc [.z, .z, .z, .z, .z, .z, .z, .z]) [], .s (.store 8) [.t 7, .t 28], .m 8 29]) (.seq (.seq (.reg [.m 30 8, .n 31 (.un .not) [.t 30]]) (.cond (.t 31) (.seq (.reg [.n 32 (.build [.z, .z, .z, .z, .z, .z, .z, .z] []) [], .s (.store 8) [.t 4, .t 32], .n 5 .mov [.i 4]]) .ret) .skip)) (.seq (.reg [.v 33 8 7, .n 34 (.call 54) [.t 33], .s (.store 8) [.t 4, .t 34], .n 5 .mov [.i 0]]) .ret)))))
theorem Hf : chkF Tryz.prog 21 = some (35, Wb, [.cell 4 28, .tmp 5]) := by kernel_rfl
abbrev A0p : Nat := 22
def We : IC := (.seq (.reg [.n 1 .box [.t 0], .n 2 .mov [.c .nils], .n 3 (.alloc [.z]) [], .n 4 .mov [.i 0]]) (.seq (.reg [.v 13 17 1, .n 14 (.call 55) [.t 13], .m 12 14, .x 15 0 12, .x 16 1 12, .n 5 (.alloc [.nilp, .nilm]) [], .s (.store 2) [.t 5, .t 15], .m 4 16]) (.seq (.seq (.reg [.m 17 4, .n 18 (.bin .neq) [.t 17, .i 0]]) (.cond (.t 18) (.seq (.reg [.m 19 4, .n 2 .mov [.c .nils], .s (.store 1) [.t 3, .i 0], .m 4 19]) .ret) .skip)) (.seq (.reg [.f 20 0 5, .l 21 20, .n 22 .nilck [.t 21], .f 23 0 22, .f 24 0 23, .l 25 24, .n 26 (.len false) [.t 25], .n 27 (.bin .shl) [.i 1, .t 26], .n 28 (.bin .sub) [.t 27, .i 1], .n 6 (.alloc [.z]) [], .s (.store 1) [.t 6, .t 28]]) (.seq (.reg [.v 29 2 5, .n 30 (.call 56) [.t 29], .n 7 (.alloc [.nils]) [], .s (.store 1) [.t 7, .t 30]]) (.seq (.reg [.s (.store 1) [.t 3, .i (-1)]]) (.seq (.seq (.reg [.v 31 2 5, .l 32 6, .n 33 (.call 57) [.t 31, .t 32]]) (.block 0 (.range (.t 33) [34] (.reg [.n 8 (.alloc [.z, .z]) [], .s (.store 2) [.t 8, .t 34]]) (.block 1 (.seq (.draw [0, 0, 0, 0, 14, 31, 63, 127] [.l 35 7, .v 36 2 5, .l 37 6, .v 38 2 8, .n 39 (.call 58) [.t 36, .t 37, .t 38], .n 40 (.iaddrS 1) [.t 35, .t 39], .l 41 40, .m 9 41]) (.seq (.reg [.m 42 9, .n 43 (.bin .geq) [.t 42, .i 0], .m 44 43, .w 45 (.load 1 false) [.t 3] 44 true, .w 46 (.bin .lss) [.t 45, .i 0] 44 true, .w 47 .mov [.t 46] 44 true, .w 48 .mov [.t 9] 47 false, .w 49 (.load 1 false) [.t 3] 47 false, .w 50 (.bin .lss) [.t 48, .t 49] 47 false, .w 51 .pick [.t 47, .c (.bool true), .t 50] 44 true, .n 52 .pick [.t 44, .t 51, .c (.bool false)]]) (.cond (.t 52) (.reg [.m 53 9, .s (.store 1) [.t 3, .t 53]]) .skip))))))) (.seq (.seq (.reg [.l 54 3, .n 55 (.bin .lss) [.t 54, .i 0]]) (.cond (.t 55) (.seq (.reg [.n 2 .mov [.c .nils], .s (.store 1) [.t 3, .i 0], .n 4 .mov [.i 4]]) .ret) .skip)) (.seq (.reg [.n 10 (.alloc [.nils]) []]) (.seq (.reg [.n 11 (.alloc [.nilf]) []]) (.seq (.reg [.n 56 (.mkfunc (.func 59) 0) [.t 10, .t 3, .t 5, .t 11], .s (.store 1) [.t 11, .t 56]]) (.seq (.draw [0, 0, 2, 0, 15] [.l 57 11, .v 58 2 5, .n 59 (.call 63) [.t 58], .l 60 6, .n 61 .callv [.t 57, .c .nils, .t 59, .t 60]]) (.seq (.draw [0, 0, 1, 7, 15] [.l 62 10, .l 63 3, .m 2 62, .s (.store 1) [.t 3, .t 63], .n 4 .mov [.i 0]]) .ret)))))))))))))
theorem Vf : chkF Tryz.prog 22 = some (64, We, [.tmp 2, .cell 3 3, .tmp 4]) := by kernel_rfl
abbrev Adh : Nat := 23
def A7y : IC := (.seq (.reg [.n 1 .box [.t 0], .n 2 .mov [.c .nils], .n 3 .mov [.i 0]]) (.seq (.reg [.v 10 2 1, .n 11 (.call 64) [.t 10], .m 9 11, .x 12 0 9, .x 13 1 9, .n 4 (.alloc [.nils, .nils]) [], .s (.store 2) [.t 4, .t 12], .m 5 13]) (.seq (.seq (.reg [.m 14 5, .n 15 (.bin .neq) [.t 14, .i 0]]) (.cond (.t 15) (.seq (.reg [.m 16 5, .n 2 .mov [.c .nils], .m 3 16]) .ret) .skip)) (.seq (.reg [.v 18 2 4, .n 19 (.call 65) [.t 18, .c .nils], .m 17 19, .x 20 0 17, .x 21 1 17, .x 22 2 17, .m 6 20, .m 7 21, .m 8 22]) (.seq (.seq (.reg [.m 23 8, .n 24 (.un .not) [.t 23]]) (.cond (.t 24) (.seq (.reg [.n 2 .mov [.c .nils], .n 3 .mov [.i 21]]) .ret) .skip)) (.seq (.reg [.m 25 6, .m 2 25, .n 3 .mov [.i 0]]) .ret))))))
theorem A4r : chkF Tryz.prog 23 = some (26, A7y, [.tmp 2, .tmp 3]) := by kernel_rfl
abbrev A9a : Nat := 24
def A44 : IC := (.seq (.reg [.n 3 .box [.t 0], .n 5 .box [.t 2], .n 6 .mov [.c .nils], .n 7 .mov [.i 0]]) (.seq (.seq (.reg [.v 10 5 3, .n 11 (.call 33) [.t 10], .m 8 11]) (.seq (.reg [.m 12 8, .n 13 (.bin .neq) [.t 12, .i 0]]) (.cond (.t 13) (.seq (.reg [.m 14 8, .n 6 .mov [.c .nils], .m 7 14]) .ret) .skip))) (.seq (.reg [.v 15 5 3, .n 16 (.build [.z, .nils, .z, .z, .z] [(0, 5)]) [.t 15], .n 9 (.alloc [.z, .nils, .z, .z, .z]) [], .s (.store 5) [.t 9, .t 16]]) (.seq (.block 0 (.seq (.reg [.v 18 5 9, .m 19 1, .n 20 (.call 66) [.t 18, .t 19, .i 16384], .n 21 (.un .not) [.t 20], .m 17 21]) (.cond (.t 17) (.seq (.reg [.n 6 .mov [.c .nils], .n 7 .mov [.i 31]]) .ret) (.seq (.reg [.v 23 5 9, .l 24 5, .n 25 (.call 66) [.t 23, .t 24, .i 100], .n 26 (.un .not) [.t 25], .m 22 26]) (.cond (.t 22) (.seq (.reg [.n 6 .mov [.c .nils], .n 7 .mov [.i 32]]) .ret) .skip))))) (.seq (.reg [.m 27 1, .f 28 0 3, .l 29 28, .n 30 (.mkfunc (.func 68) 0) [.t 9, .t 5], .n 31 (.call 67) [.t 27, .t 29, .t 30], .m 6 31, .n 7 .mov [.i 0]]) .ret)))))
theorem A2f : chkF Tryz.prog 24 = some (32, A44, [.tmp 6, .tmp 7]) := by kernel_rfl
abbrev A0o : Nat := 25
def Wd : IC := (.seq (.reg [.n 4 .mov [.c (.bool false)]]) (.seq (.seq (.reg [.m 6 0, .n 7 (.len false) [.t 6], .m 8 1, .n 9 (.len false) [.t 8], .n 10 (.bin .neq) [.t 7, .t 9]]) (.cond (.t 10) (.seq (.reg [.n 4 .mov [.c (.bool false)]]) .ret) .skip)) (.seq (.seq (.reg [.n 5 .mov [.i 0]]) (.block 0 (.loop (.seq (.seq (.reg [.m 11 5, .m 12 0, .n 13 (.len false) [.t 12], .n 14 (.bin .lss) [.t 11, .t 13]]) (.cond (.t 14) .skip (.exit 0))) (.seq (.block 1 (.seq (.draw [0, 0, 3, 7, 0, 0, 48, 112, 255] [.m 17 0, .m 18 5, .n 19 (.iaddrS 1) [.t 17, .t 18], .l 20 19, .m 21 1, .m 22 5, .n 23 (.iaddrS 1) [.t 21, .t 22], .l 24 23, .n 25 (.bin .neq) [.t 20, .t 24]]) (.cond (.t 25) (.seq (.reg [.n 4 .mov [.c (.bool false)]]) .ret) .skip))) (.reg [.m 15 5, .n 16 (.bin .add) [.t 15, .i 1], .m 5 16])))))) (.seq (.reg [.n 4 .mov [.c (.bool true)]]) .ret))))
theorem Vd : chkF Tryz.prog 25 = some (26, Wd, [.tmp 4]) := by kernel_rfl
abbrev Ng : Nat := 26
def Un : IC := (.seq (.reg [.n 3 .box [.t 0], .n 4 .box [.t 1], .n 5 .box [.t 2], .n 6 .mov [.c .nilp], .n 7 (.alloc [.z, .z, .z, .z]) [], .n 8 .mov [.i 0]]) (.seq (.reg [.v 12 17 3, .n 13 (.call 70) [.t 12], .m 11 13, .x 14 0 11, .x 15 1 11, .m 9 14, .m 10 15]) (.seq (.seq (.reg [.m 16 10, .n 17 (.bin .neq) [.t 16, .i 0]]) (.cond (.t 17) (.seq (.reg [.n 18 (.build [.z, .z, .z, .z] []) [], .m 19 10, .n 6 .mov [.c .nilp], .s (.store 4) [.t 7, .t 18], .m 8 19]) .ret) .skip)) (.seq (.seq (.reg [.v 20 2 4, .n 21 (.call 16) [.t 20], .n 22 (.bin .neq) [.t 21, .i 0], .m 23 22, .w 24 (.load 2 true) [.t 5] 23 false, .w 25 (.call 16) [.t 24] 23 false, .w 26 (.bin .neq) [.t 25, .i 0] 23 false, .n 27 .pick [.t 23, .c (.bool true), .t 26]]) (.cond (.t 27) (.seq (.reg [.n 28 (.build [.z, .z, .z, .z] []) [], .n 6 .mov [.c .nilp], .s (.store 4) [.t 7, .t 28], .n 8 .mov [.i 10]]) .ret) .skip)) (.seq (.draw [0, 0, 0, 6, 1, 31, 63] [.m 29 9, .v 30 2 4, .v 31 2 5, .n 32 (.build [.z, .z, .z, .z] [(0, 2), (2, 2)]) [.t 30, .t 31], .m 6 29, .s (.store 4) [.t 7, .t 32], .n 8 .mov [.i 0]]) .ret)))))
theorem Jx : chkF Tryz.prog 26 = some (33, Un, [.tmp 6, .cell 7 97, .tmp 8]) := by kernel_rfl
abbrev Ej : Nat := 27
def Ku : IC := (.seq (.reg [.n 3 .box [.t 1], .n 4 .mov [.c (.bool false)]]) (.seq (.draw [0, 1, 3, 7, 0, 31, 63, 127, 127, 255, 1023] [.m 10 0, .n 11 .nilck [.t 10], .f 12 17 11, .l 13 12, .v 14 4 3, .n 15 (.raw 25 134 0) [.t 13, .t 14], .m 9 15, .x 16 0 9, .x 17 1 9, .m 5 16, .m 6 17]) (.seq (.seq (.reg [.m 18 6, .n 19 (.un .not) [.t 18]]) (.cond (.t 19) (.seq (.draw [0, 1, 3, 7, 15, 0, 32, 0, 128, 511, 1023, 2047, 2047, 0, 12287, 32767] [.m 21 0, .n 22 .nilck [.t 21], .f 23 0 22, .f 24 3 23, .v 25 8 24, .f 26 0 3, .v 27 2 26, .f 28 2 3, .v 29 2 28, .n 30 (.call 71) [.t 25, .t 27, .t 29], .m 20 30, .x 31 0 20, .x 32 1 20, .n 7 (.alloc [.z, .z, .z, .z, .z, .z, .z, .z]) [], .s (.store 8) [.t 7, .t 31], .m 8 32]) (.seq (.reg [.m 33 8, .n 34 (.bin .eql) [.t 33, .i 0], .m 35 34, .w 36 .mov [.t 0] 35 true, .w 37 .nilck [.t 36] 35 true, .w 38 (.faddr 0) [.t 37] 35 true, .w 39 (.faddr 1) [.t 38] 35 true, .w 40 (.load 1 false) [.t 39] 35 true, .w 41 (.mkfunc (.func 73) 0) [.t 7] 35 true, .w 42 (.call 72) [.t 40, .t 41] 35 true, .w 43 (.un .not) [.t 42] 35 true, .n 44 .pick [.t 35, .t 43, .c (.bool false)], .m 5 44]) (.draw [0, 1, 3, 7, 0, 0, 63] [.m 45 0, .n 46 .nilck [.t 45], .f 47 17 46, .l 48 47, .v 49 4 3, .m 50 5, .s (.raw 12 134 0) [.t 48, .t 49, .t 50]]))) .skip)) (.seq (.reg [.m 51 5, .m 4 51]) .ret))))
theorem Fi : chkF Tryz.prog 27 = some (52, Ku, [.tmp 4]) := by kernel_rfl
abbrev Lo : Nat := 28
def S7 : IC := (.seq (.reg [.n 6 .mov [.c (.bool false)]]) (.seq (.reg [.m 7 0, .m 8 1, .n 9 (.bin .geq) [.t 7, .t 8], .m 10 9, .w 11 .mov [.t 0] 10 true, .w 12 .mov [.t 2] 10 true, .w 13 (.bin .leq) [.t 11, .t 12] 10 true, .n 14 .pick [.t 10, .t 13, .c (.bool false)], .m 6 14]) .ret))
theorem Ip : chkF Tryz.prog 28 = some (15, S7, [.tmp 6]) := by kernel_rfl
abbrev A0k : Nat := 29
def W2 : IC := (.seq (.reg [.n 2 .mov [.i 0]]) (.seq (.reg [.n 3 .mov [.i 0]]) (.seq (.seq (.reg [.n 4 .mov [.i 1048576]]) (.block 0 (.loop (.seq (.seq (.reg [.m 5 4, .n 6 (.bin .gtr) [.t 5, .i 0]]) (.cond (.t 6) .skip (.exit 0))) (.seq (.block 1 (.seq (.reg [.m 9 3, .m 10 4, .n 11 (.bin .add) [.t 9, .t 10], .m 12 3, .m 13 4, .n 14 (.bin .add) [.t 12, .t 13], .n 15 (.bin .mul) [.t 11, .t 14], .m 16 0, .n 17 (.bin .leq) [.t 15, .t 16]]) (.cond (.t 17) (.reg [.m 18 3, .m 19 4, .n 20 (.bin .add) [.t 18, .t 19], .m 3 20]) .skip))) (.reg [.m 7 4, .n 8 (.bin .quo) [.t 7, .i 2], .m 4 8])))))) (.seq (.reg [.m 21 3, .m 2 21]) .ret))))
theorem V7 : chkF Tryz.prog 29 = some (22, W2, [.tmp 2]) := by kernel_rfl
abbrev Id : Nat := 30
def Uh : IC := (.seq (.reg [.n 2 .mov [.i 0]]) (.seq (.seq (.reg [.m 5 0, .n 6 (.len false) [.t 5], .n 7 .mov [.i 0]]) (.block 0 (.loop (.seq (.reg [.n 8 (.bin .lss) [.t 7, .t 6]]) (.seq (.cond (.t 8) .skip (.exit 0)) (.seq (.block 1 (.seq (.reg [.n 9 (.iaddrS 1) [.t 5, .t 7], .l 10 9, .m 4 10]) (.seq (.reg [.m 11 4, .n 12 (.bin .neq) [.t 11, .i 0]]) (.cond (.t 12) (.seq (.reg [.m 13 4, .m 2 13]) .ret) .skip)))) (.reg [.n 14 (.bin .add) [.t 7, .i 1], .m 7 14]))))))) (.seq (.reg [.n 2 .mov [.i 0]]) .ret)))
theorem Sr : chkF Tryz.prog 30 = some (15, Uh, [.tmp 2]) := by kernel_rfl
abbrev Oo : Nat := 31
def Mi : IC := (.seq (.reg [.n 2 .mov [.i 0]]) (.seq (.seq (.reg [.m 10 0, .n 11 (.len false) [.t 10], .n 12 (.call 28) [.t 11, .i 3, .i 8], .n 13 (.un .not) [.t 12]]) (.cond (.t 13) (.seq (.reg [.n 2 .mov [.i 12]]) .ret) .skip)) (.seq (.seq (.reg [.m 14 0, .n 15 (.len false) [.t 14], .n 16 .mov [.i 0]]) (.block 0 (.loop (.seq (.reg [.n 17 (.bin .lss) [.t 16, .t 15]]) (.seq (.cond (.t 17) .skip (.exit 0)) (.seq (.block 1 (.seq (.reg [.n 18 (.iaddrS 2) [.t 14, .t 16], .v 19 2 18, .n 4 (.alloc [.z, .z]) [], .s (.store 2) [.t 4, .t 19]]) (.seq (.reg [.v 20 2 4, .n 21 (.call 16) [.t 20], .n 22 (.bin .neq) [.t 21, .i 0]]) (.cond (.t 22) (.seq (.reg [.n 2 .mov [.i 12]]) .ret) .skip)))) (.reg [.n 23 (.bin .add) [.t 16, .i 1], .m 16 23]))))))) (.seq (.seq (.reg [.m 24 0, .n 25 (.len false) [.t 24], .n 26 .mov [.i 0]]) (.block 2 (.loop (.seq (.reg [.n 27 (.bin .lss) [.t 26, .t 25]]) (.seq (.cond (.t 27) .skip (.exit 2)) (.seq (.block 3 (.seq (.reg [.m 28 26, .n 29 (.iaddrS 2) [.t 24, .t 26], .v 30 2 29, .n 6 (.alloc [.z, .z]) [], .m 5 28, .s (.store 2) [.t 6, .t 30]]) (.seq (.reg [.m 31 5, .n 32 (.bin .add) [.t 31, .i 1], .m 33 0, .n 34 (.len false) [.t 33], .n 35 (.bin .rem) [.t 32, .t 34], .m 7 35]) (.seq (.reg [.m 36 0, .n 37 (.len false) [.t 36], .n 38 .mov [.i 0]]) (.block 4 (.loop (.seq (.reg [.n 39 (.bin .lss) [.t 38, .t 37]]) (.seq (.cond (.t 39) .skip (.exit 4)) (.seq (.block 5 (.seq (.reg [.m 40 38, .n 41 (.iaddrS 2) [.t 36, .t 38], .v 42 2 41, .n 9 (.alloc [.z, .z]) [], .m 8 40, .s (.store 2) [.t 9, .t 42]]) (.seq (.draw [0, 0, 3, 7, 15, 15, 63, 127, 255, 511, 511, 511, 3583, 7679, 511, 32767, 65535, 131071] [.m 43 8, .m 44 5, .n 45 (.bin .neq) [.t 43, .t 44], .m 46 45, .w 47 .mov [.t 8] 46 true, .w 48 .mov [.t 7] 46 true, .w 49 (.bin .neq) [.t 47, .t 48] 46 true, .n 50 .pick [.t 46, .t 49, .c (.bool false)], .m 51 50, .w 52 (.load 2 true) [.t 6] 51 true, .w 53 .mov [.t 0] 51 true, .w 54 .mov [.t 7] 51 true, .w 55 (.iaddrS 2) [.t 53, .t 54] 51 true, .w 56 (.load 2 true) [.t 55] 51 true, .w 57 (.load 2 true) [.t 9] 51 true, .w 58 (.call 75) [.t 52, .t 56, .t 57] 51 true, .w 59 (.bin .leq) [.t 58, .i 0] 51 true, .n 60 .pick [.t 51, .t 59, .c (.bool false)]]) (.cond (.t 60) (.seq (.reg [.n 2 .mov [.i 12]]) .ret) .skip)))) (.reg [.n 61 (.bin .add) [.t 38, .i 1], .m 38 61])))))))))) (.reg [.n 62 (.bin .add) [.t 26, .i 1], .m 26 62]))))))) (.seq (.reg [.n 2 .mov [.i 0]]) .ret)))))
theorem Lb : chkF Tryz.prog 31 = some (63, Mi, [.tmp 2]) := by kernel_rfl
abbrev A5d : Nat := 32
def A1l : IC := (.seq (.reg [.n 3 .box [.t 1], .n 4 (.alloc [(.bool false)]) []]) (.seq (.seq (.reg [.m 7 0, .n 8 (.call 76) [.t 7]]) (.block 0 (.range (.t 8) [9, 10] (.seq (.reg [.n 5 (.alloc [.z, .z]) [], .s (.store 2) [.t 5, .t 9]]) (.reg [.n 6 (.alloc [.z, .z]) [], .s (.store 2) [.t 6, .t 10]])) (.block 1 (.seq (.reg [.v 11 2 5, .v 12 2 6, .v 13 2 3, .n 14 (.call 75) [.t 11, .t 12, .t 13], .n 15 (.bin .lss) [.t 14, .i 0]]) (.cond (.t 15) (.seq (.reg [.s (.store 1) [.t 4, .c (.bool false)]]) .ret) .skip)))))) (.seq (.reg [.s (.store 1) [.t 4, .c (.bool true)]]) .ret)))
theorem A02 : chkF Tryz.prog 32 = some (16, A1l, [.cell 4 4]) := by kernel_rfl
abbrev Vp : Nat := 33
def A1i : IC := (.seq (.reg [.n 1 .box [.t 0], .n 2 .mov [.i 0]]) (.seq (.seq (.reg [.f 5 0 1, .l 6 5, .n 7 (.call 36) [.t 6, .i (-2000), .i 2000], .n 8 (.un .not) [.t 7], .m 9 8, .w 10 (.faddr 1) [.t 1] 9 false, .w 11 (.load 1 false) [.t 10] 9 false, .w 12 (.len false) [.t 11] 9 false, .w 13 (.call 36) [.t 12, .i 1, .i 8] 9 false, .w 14 (.un .not) [.t 13] 9 false, .n 15 .pick [.t 9, .c (.bool true), .t 14], .m 16 15, .w 17 (.faddr 2) [.t 1] 16 false, .w 18 (.load 2 true) [.t 17] 16 false, .w 19 (.call 44) [.t 18, .i 4000] 16 false, .w 20 (.un .not) [.t 19] 16 false, .n 21 .pick [.t 16, .c (.bool true), .t 20], .m 22 21, .w 23 (.faddr 4) [.t 1] 22 false, .w 24 (.load 1 false) [.t 23] 22 false, .w 25 (.call 36) [.t 24, .i 0, .i 1000] 22 false, .w 26 (.un .not) [.t 25] 22 false, .n 27 .pick [.t 22, .c (.bool true), .t 26]]) (.cond (.t 27) (.seq (.reg [.n 2 .mov [.i 30]]) .ret) .skip)) (.seq (.seq (.reg [.f 28 1 1, .l 29 28, .n 30 (.len false) [.t 29], .n 31 .mov [.i 0]]) (.block 0 (.loop (.seq (.reg [.n 32 (.bin .lss) [.t 31, .t 30]]) (.seq (.cond (.t 32) .skip (.exit 0)) (.seq (.block 1 (.seq (.reg [.n 33 (.iaddrS 5) [.t 29, .t 31], .v 34 5 33, .n 4 (.alloc [.z, .z, .z, .z, .z]) [], .s (.store 5) [.t 4, .t 34]]) (.seq (.reg [.f 35 0 4, .l 36 35, .n 37 (.call 36) [.t 36, .i 1, .i 1000], .n 38 (.un .not) [.t 37], .m 39 38, .w 40 (.faddr 1) [.t 4] 39 false, .w 41 (.load 1 false) [.t 40] 39 false, .w 42 (.call 36) [.t 41, .i 0, .i 64] 39 false, .w 43 (.un .not) [.t 42] 39 false, .n 44 .pick [.t 39, .c (.bool true), .t 43], .m 45 44, .w 46 (.faddr 2) [.t 4] 45 false, .w 47 (.load 1 false) [.t 46] 45 false, .w 48 (.call 36) [.t 47, .i 0, .i 1000] 45 false, .w 49 (.un .not) [.t 48] 45 false, .n 50 .pick [.t 45, .c (.bool true), .t 49], .m 51 50, .w 52 (.faddr 3) [.t 4] 51 false, .w 53 (.load 1 false) [.t 52] 51 false, .w 54 (.call 36) [.t 53, .i 0, .i 1000] 51 false, .w 55 (.un .not) [.t 54] 51 false, .n 56 .pick [.t 51, .c (.bool true), .t 55], .m 57 56, .w 58 (.faddr 4) [.t 4] 57 false, .w 59 (.load 1 false) [.t 58] 57 false, .w 60 (.call 36) [.t 59, .i 0, .i 1073741824] 57 false, .w 61 (.un .not) [.t 60] 57 false, .n 62 .pick [.t 57, .c (.bool true), .t 61]]) (.cond (.t 62) (.seq (.reg [.n 2 .mov [.i 30]]) .ret) .skip)))) (.reg [.n 63 (.bin .add) [.t 31, .i 1], .m 31 63]))))))) (.seq (.reg [.n 2 .mov [.i 0]]) .ret))))
theorem Zz : chkF Tryz.prog 33 = some (64, A1i, [.tmp 2]) := by kernel_rfl
abbrev Rh : Nat := 34
def P4 : IC := (.seq (.reg [.n 2 .box [.t 0], .n 4 .mov [.c (.bool false)]]) (.seq (.reg [.m 5 1, .n 6 (.len false) [.t 5], .f 7 0 2, .f 8 1 7, .l 9 8, .n 10 (.len false) [.t 9], .n 11 (.bin .eql) [.t 6, .t 10], .m 12 11, .w 13 .mov [.t 1] 12 true, .w 14 (.call 77) [.t 13, .c (.func (.func 78) [] [])] 12 true, .w 15 (.un .not) [.t 14] 12 true, .n 16 .pick [.t 12, .t 15, .c (.bool false)], .m 4 16]) .ret))
theorem O6 : chkF Tryz.prog 34 = some (17, P4, [.tmp 4]) := by kernel_rfl
abbrev On : Nat := 35
def Me : IC := (.seq (.reg [.n 4 .mov [.i 0]]) (.seq (.reg [.m 5 0, .n 6 (.un .neg) [.t 5], .m 7 1, .m 8 0, .n 9 (.minmax false) [.t 7, .t 8], .n 10 (.minmax true) [.t 6, .t 9], .m 4 10]) .ret))
theorem L7 : chkF Tryz.prog 35 = some (11, Me, [.tmp 4]) := by kernel_rfl
abbrev I0 : Nat := 36
def Zc : IC := (.seq (.reg [.n 6 .mov [.c (.bool false)]]) (.seq (.reg [.m 7 0, .m 8 1, .n 9 (.bin .geq) [.t 7, .t 8], .m 10 9, .w 11 .mov [.t 0] 10 true, .w 12 .mov [.t 2] 10 true, .w 13 (.bin .leq) [.t 11, .t 12] 10 true, .n 14 .pick [.t 10, .t 13, .c (.bool false)], .m 6 14]) .ret))
theorem Wl : chkF Tryz.prog 36 = some (15, Zc, [.tmp 6]) := by kernel_rfl
abbrev Sy : Nat := 37
def Qt : IC := (.seq (.reg [.n 2 .box [.t 0], .n 4 .mov [.c .nils]]) (.seq (.reg [.m 5 1, .f 6 0 2, .f 7 0 6, .l 8 7, .n 9 (.call 80) [.t 8], .n 10 (.call 79) [.t 5, .t 9, .c (.func (.func 81) [] [])], .m 4 10]) .ret))
theorem Pl : chkF Tryz.prog 37 = some (11, Qt, [.tmp 4]) := by kernel_rfl
abbrev X3 : Nat := 38
def Ub : IC := (.seq (.reg [.n 4 .mov [.i 0]]) (.seq (.reg [.m 7 1, .m 8 0, .n 9 (.minmax false) [.t 7, .t 8], .m 1 9]) (.seq (.reg [.m 11 0, .m 12 0, .n 13 (.bin .mul) [.t 11, .t 12], .m 14 1, .m 15 1, .n 16 (.bin .mul) [.t 14, .t 15], .n 17 (.bin .sub) [.t 13, .t 16], .n 18 (.call 13) [.t 17], .m 10 18, .x 19 0 10, .x 20 1 10, .m 5 19, .m 6 20]) (.seq (.reg [.m 21 5, .m 4 21]) .ret))))
theorem Sl : chkF Tryz.prog 38 = some (22, Ub, [.tmp 4]) := by kernel_rfl
abbrev A3b : Nat := 39
def Zj : IC := (.seq (.reg [.n 0 (.alloc [.z, .z, .z, .z, .z, .z, .z, .z]) []]) (.seq (.reg [.n 3 (.build [.z, .z] [(0, 1), (1, 1)]) [.i (-32768), .i 32768], .n 4 (.build [.z, .z] [(0, 1), (1, 1)]) [.i (-65536), .i 65536], .n 1 (.alloc [.z, .z]) [], .n 2 (.alloc [.z, .z]) [], .s (.store 2) [.t 1, .t 3], .s (.store 2) [.t 2, .t 4]]) (.seq (.reg [.v 5 2 1, .v 6 2 1, .v 7 2 2, .v 8 2 2, .n 9 (.build [.z, .z, .z, .z, .z, .z, .z, .z] [(0, 2), (2, 2), (4, 2), (6, 2)]) [.t 5, .t 6, .t 7, .t 8], .n 10 (.call 54) [.t 9], .s (.store 8) [.t 0, .t 10]]) .ret)))
theorem Wr : chkF Tryz.prog 39 = some (11, Zj, [.cell 0 28]) := by kernel_rfl
abbrev Ne : Nat := 40
def Ui : IC := (.seq (.reg [.n 1 .box [.t 0], .n 2 (.alloc [.z, .z, .z, .z, .z, .z, .z, .z]) [], .n 3 .mov [.i 0]]) (.seq (.seq (.reg [.v 5 8 1, .n 6 (.call 45) [.t 5], .m 4 6]) (.seq (.reg [.m 7 4, .n 8 (.bin .neq) [.t 7, .i 0]]) (.cond (.t 8) (.seq (.reg [.n 9 (.build [.z, .z, .z, .z, .z, .z, .z, .z] []) [], .m 10 4, .s (.store 8) [.t 2, .t 9], .m 3 10]) .ret) .skip))) (.seq (.reg [.v 11 8 1, .n 12 (.call 46) [.t 11], .n 13 (.call 47) [.t 12], .x 14 0 13, .x 15 1 13, .n 16 (.call 82) [.t 14, .t 15], .x 17 0 16, .x 18 1 16, .s (.store 8) [.t 2, .t 17], .m 3 18]) .ret)))
theorem Ge : chkF Tryz.prog 40 = some (19, Ui, [.cell 2 28, .tmp 3]) := by kernel_rfl
abbrev X4 : Nat := 41
def Uc : IC := (.seq (.reg [.n 3 .box [.t 0], .n 6 (.alloc [.z, .z]) []]) (.seq (.reg [.n 7 (.alloc [.z, .z]) []]) (.seq (.reg [.n 8 .mov [.c (.bool false)]]) (.seq (.seq (.reg [.f 14 0 3, .f 15 0 14, .l 16 15, .m 9 16]) (.block 0 (.loop (.seq (.seq (.reg [.m 17 9, .f 18 0 3, .f 19 1 18, .l 20 19, .n 21 (.bin .leq) [.t 17, .t 20]]) (.cond (.t 21) .skip (.exit 0))) (.seq (.block 1 (.seq (.draw [0, 1, 3, 0, 8, 24, 0, 120, 0, 0, 512, 1536, 3840, 8191, 0, 16384, 49152, 0, 131072, 393216, 0, 1966080, 0, 0, 8388608, 25165824, 62914560, 134201344, 16383, 536870911] [.f 24 2 3, .f 25 0 24, .l 26 25, .f 27 4 3, .f 28 0 27, .l 29 28, .m 30 9, .n 31 (.bin .sub) [.t 29, .t 30], .m 32 9, .f 33 6 3, .f 34 1 33, .l 35 34, .n 36 (.bin .sub) [.t 32, .t 35], .n 37 (.minmax true) [.t 26, .t 31, .t 36], .f 38 2 3, .f 39 1 38, .l 40 39, .f 41 4 3, .f 42 1 41, .l 43 42, .m 44 9, .n 45 (.bin .sub) [.t 43, .t 44], .m 46 9, .f 47 6 3, .f 48 0 47, .l 49 48, .n 50 (.bin .sub) [.t 46, .t 49], .n 51 (.minmax false) [.t 40, .t 45, .t 50], .m 10 37, .m 11 51]) (.seq (.seq (.reg [.m 52 10, .m 53 11, .n 54 (.bin .gtr) [.t 52, .t 53]]) (.cond (.t 54) (.exit 1) .skip)) (.seq (.reg [.m 55 1, .m 56 9, .n 57 (.bin .mul) [.t 55, .t 56], .m 58 2, .m 59 10, .n 60 (.bin .mul) [.t 58, .t 59], .n 61 (.bin .add) [.t 57, .t 60], .m 62 1, .m 63 9, .n 64 (.bin .mul) [.t 62, .t 63], .m 65 2, .m 66 11, .n 67 (.bin .mul) [.t 65, .t 66], .n 68 (.bin .add) [.t 64, .t 67], .m 12 61, .m 13 68]) (.seq (.seq (.reg [.m 69 8, .n 70 (.un .not) [.t 69]]) (.cond (.t 70) (.reg [.m 71 12, .m 72 12, .n 73 (.build [.z, .z] [(0, 1), (1, 1)]) [.t 71, .t 72], .s (.store 2) [.t 7, .t 73], .n 8 .mov [.c (.bool true)]]) .skip)) (.reg [.f 74 0 7, .l 75 74, .m 76 12, .m 77 13, .n 78 (.minmax false) [.t 75, .t 76, .t 77], .f 79 1 7, .l 80 79, .m 81 12, .m 82 13, .n 83 (.minmax true) [.t 80, .t 81, .t 82], .n 84 (.build [.z, .z] [(0, 1), (1, 1)]) [.t 78, .t 83], .s (.store 2) [.t 7, .t 84]])))))) (.reg [.m 22 9, .n 23 (.bin .add) [.t 22, .i 1], .m 9 23])))))) (.seq (.reg [.v 85 2 7, .s (.store 2) [.t 6, .t 85]]) .ret)))))
theorem Sm : chkF Tryz.prog 41 = some (86, Uc, [.cell 6 26]) := by kernel_rfl
abbrev A5a : Nat := 42
def A1f : IC := (.seq (.reg [.n 4 .mov [.i 0]]) (.seq (.reg [.m 6 0, .m 7 1, .n 8 (.bin .quo) [.t 6, .t 7], .m 5 8]) (.seq (.seq (.reg [.m 9 0, .m 10 1, .n 11 (.bin .rem) [.t 9, .t 10], .n 12 (.bin .lss) [.t 11, .i 0]]) (.cond (.t 12) (.reg [.m 13 5, .n 14 (.bin .sub) [.t 13, .i 1], .m 5 14]) .skip)) (.seq (.reg [.m 15 5, .m 4 15]) .ret))))
theorem Zx : chkF Tryz.prog 42 = some (16, A1f, [.tmp 4]) := by kernel_rfl
abbrev A99 : Nat := 43
def A43 : IC := (.seq (.reg [.n 4 .mov [.i 0]]) (.seq (.reg [.m 5 0, .n 6 (.un .neg) [.t 5], .m 7 1, .n 8 (.call 42) [.t 6, .t 7], .n 9 (.un .neg) [.t 8], .m 4 9]) .ret))
theorem A2e : chkF Tryz.prog 43 = some (10, A43, [.tmp 4]) := by kernel_rfl
abbrev A5b : Nat := 44
def A1g : IC := (.seq (.reg [.n 2 .box [.t 0], .n 4 .mov [.c (.bool false)]]) (.seq (.reg [.f 5 0 2, .l 6 5, .m 7 1, .n 8 (.un .neg) [.t 7], .f 9 1 2, .l 10 9, .n 11 (.call 36) [.t 6, .t 8, .t 10], .m 12 11, .w 13 (.faddr 1) [.t 2] 12 true, .w 14 (.load 1 false) [.t 13] 12 true, .w 15 .mov [.t 1] 12 true, .w 16 (.bin .leq) [.t 14, .t 15] 12 true, .n 17 .pick [.t 12, .t 16, .c (.bool false)], .m 4 17]) .ret))
theorem Zy : chkF Tryz.prog 44 = some (18, A1g, [.tmp 4]) := by kernel_rfl
abbrev X8 : Nat := 45
def Uk : IC := (.seq (.reg [.n 1 .box [.t 0], .n 2 .mov [.i 0]]) (.seq (.reg [.n 6 (.mkfunc (.func 83) 1) [.i 32768], .n 7 (.mkfunc (.func 83) 1) [.i 32768], .n 8 (.mkfunc (.func 83) 1) [.i 65536], .n 9 (.mkfunc (.func 83) 1) [.i 65536], .n 10 (.build [.nilf, .nilf, .nilf, .nilf] [(0, 1), (1, 1), (2, 1), (3, 1)]) [.t 6, .t 7, .t 8, .t 9], .n 3 (.alloc [.nilf, .nilf, .nilf, .nilf]) [], .s (.store 4) [.t 3, .t 10]]) (.seq (.seq (.reg [.v 11 8 1, .n 12 (.call 46) [.t 11], .n 13 .mov [.i 0]]) (.block 0 (.loop (.seq (.reg [.n 14 (.bin .lss) [.t 13, .i 4]]) (.seq (.cond (.t 14) .skip (.exit 0)) (.seq (.block 1 (.seq (.reg [.m 15 13, .n 16 (.idxA 4 2 true) [.t 12, .t 13], .n 5 (.alloc [.z, .z]) [], .m 4 15, .s (.store 2) [.t 5, .t 16]]) (.seq (.draw [0, 1, 3, 0, 15, 31] [.m 17 4, .n 18 (.iaddrA 4 1) [.t 3, .t 17], .l 19 18, .v 20 2 5, .n 21 .callv [.t 19, .t 20], .n 22 (.un .not) [.t 21]]) (.cond (.t 22) (.seq (.reg [.n 2 .mov [.i 11]]) .ret) .skip)))) (.reg [.n 23 (.bin .add) [.t 13, .i 1], .m 13 23]))))))) (.seq (.reg [.n 2 .mov [.i 0]]) .ret))))
theorem Ss : chkF Tryz.prog 45 = some (24, Uk, [.tmp 2]) := by kernel_rfl
abbrev Vr : Nat := 46
def S9 : IC := (.seq (.reg [.n 1 .box [.t 0], .n 2 (.alloc [.z, .z, .z, .z, .z, .z, .z, .z]) []]) (.seq (.reg [.f 3 0 1, .v 4 2 3, .f 5 2 1, .v 6 2 5, .f 7 4 1, .v 8 2 7, .f 9 6 1, .v 10 2 9, .n 11 (.build [.z, .z, .z, .z, .z, .z, .z, .z] [(0, 2), (2, 2), (4, 2), (6, 2)]) [.t 4, .t 6, .t 8, .t 10], .s (.store 8) [.t 2, .t 11]]) .ret))
theorem R6 : chkF Tryz.prog 46 = some (12, S9, [.cell 2 117]) := by kernel_rfl
abbrev Ev : Nat := 47
def Mg : IC := (.seq (.reg [.n 1 .box [.t 0], .n 2 (.alloc [.z, .z, .z, .z, .z, .z, .z, .z]) [], .n 3 .mov [.i 0]]) (.seq (.reg [.v 7 8 1, .n 8 (.call 53) [.t 7], .n 9 (.mkslice 1 127) [.t 8], .n 10 (.call 52) [.t 9], .m 6 10, .x 11 0 6, .x 12 1 6, .n 4 (.alloc [.z, .z, .z, .z, .z, .z, .z, .z]) [], .s (.store 8) [.t 4, .t 11], .m 5 12]) (.seq (.seq (.reg [.m 13 5, .n 14 (.un .not) [.t 13]]) (.cond (.t 14) (.seq (.reg [.n 15 (.build [.z, .z, .z, .z, .z, .z, .z, .z] []) [], .s (.store 8) [.t 2, .t 15], .n 3 .mov [.i 4]]) .ret) .skip)) (.seq (.reg [.v 16 8 4, .s (.store 8) [.t 2, .t 16], .n 3 .mov [.i 0]]) .ret))))
theorem G3 : chkF Tryz.prog 47 = some (17, Mg, [.cell 2 117, .tmp 3]) := by kernel_rfl
abbrev Vq : Nat := 48
def S8 : IC := (.seq (.reg [.n 1 .box [.t 0], .n 2 (.alloc [.z, .z, .z, .z, .z, .z, .z, .z]) [], .n 3 .mov [.i 0]]) (.seq (.seq (.reg [.n 4 (.iaddrA 4 2) [.t 1, .i 0], .v 5 2 4, .n 6 (.call 83) [.i 32768, .t 5], .n 7 (.un .not) [.t 6], .m 8 7, .w 9 (.iaddrA 4 2) [.t 1, .i 1] 8 false, .w 10 (.load 2 true) [.t 9] 8 false, .w 11 (.call 83) [.i 32768, .t 10] 8 false, .w 12 (.un .not) [.t 11] 8 false, .n 13 .pick [.t 8, .c (.bool true), .t 12]]) (.cond (.t 13) (.seq (.reg [.n 14 (.build [.z, .z, .z, .z, .z, .z, .z, .z] []) [], .s (.store 8) [.t 2, .t 14], .n 3 .mov [.i 7]]) .ret) .skip)) (.seq (.reg [.v 15 8 1, .n 16 (.call 54) [.t 15], .s (.store 8) [.t 2, .t 16], .n 3 .mov [.i 0]]) .ret)))
theorem R5 : chkF Tryz.prog 48 = some (17, S8, [.cell 2 28, .tmp 3]) := by kernel_rfl
abbrev Dp : Nat := 49
def Je : IC := (.seq (.reg [.n 3 .box [.t 0], .n 4 .box [.t 1], .n 6 (.alloc [.z, .z, .z, .z, .z, .z, .z, .z]) []]) (.seq (.seq (.reg [.n 8 .mov [.i 0]]) (.block 0 (.loop (.seq (.reg [.n 9 (.bin .lss) [.t 8, .i 4]]) (.seq (.cond (.t 9) .skip (.exit 0)) (.seq (.block 1 (.seq (.reg [.m 10 8, .m 7 10]) (.draw [0, 0, 0, 4, 12, 0, 32, 96, 254, 511, 1023] [.m 11 7, .m 12 2, .m 13 7, .n 14 (.iaddrA 4 2) [.t 3, .t 13], .v 15 2 14, .m 16 7, .n 17 (.iaddrA 4 2) [.t 4, .t 16], .v 18 2 17, .n 19 .callv [.t 12, .t 15, .t 18], .n 20 (.iaddrA 4 2) [.t 3, .t 11], .s (.store 2) [.t 20, .t 19]]))) (.reg [.n 21 (.bin .add) [.t 8, .i 1], .m 8 21]))))))) (.seq (.reg [.v 22 8 3, .s (.store 8) [.t 6, .t 22]]) .ret)))
theorem Iq : chkF Tryz.prog 49 = some (23, Je, [.cell 6 117]) := by kernel_rfl
abbrev Om : Nat := 50
def A1k : IC := (.seq (.reg [.n 1 .box [.t 0], .n 2 (.alloc [.z, .z, .z, .z, .z, .z, .z, .z]) []]) (.seq (.reg [.n 3 (.alloc [.z, .z, .z, .z, .z, .z, .z, .z]) []]) (.seq (.seq (.reg [.f 6 0 1, .l 7 6, .f 8 1 1, .l 9 8, .f 10 0 1, .l 11 10, .f 12 1 1, .l 13 12, .n 14 (.bin .add) [.t 11, .t 13], .f 15 0 1, .l 16 15, .f 17 1 1, .l 18 17, .n 19 (.bin .sub) [.t 16, .t 18], .n 20 (.build [.z, .z, .z, .z] [(0, 1), (1, 1), (2, 1), (3, 1)]) [.t 7, .t 9, .t 14, .t 19], .n 21 .mov [.i 0]]) (.block 0 (.loop (.seq (.reg [.n 22 (.bin .lss) [.t 21, .i 4]]) (.seq (.cond (.t 22) .skip (.exit 0)) (.seq (.block 1 (.seq (.reg [.m 23 21, .n 24 (.idxA 4 1 false) [.t 20, .t 21], .m 4 23, .m 5 24]) (.reg [.m 25 4, .m 26 5, .m 27 5, .n 28 (.build [.z, .z] [(0, 1), (1, 1)]) [.t 26, .t 27], .n 29 (.iaddrA 4 2) [.t 3, .t 25], .s (.store 2) [.t 29, .t 28]]))) (.reg [.n 30 (.bin .add) [.t 21, .i 1], .m 21 30]))))))) (.seq (.reg [.v 31 8 3, .s (.store 8) [.t 2, .t 31]]) .ret))))
theorem A01 : chkF Tryz.prog 50 = some (32, A1k, [.cell 2 117]) := by kernel_rfl
abbrev A0l : Nat := 51
def W3 : IC := (.seq (.reg [.n 2 .box [.t 0], .n 3 .box [.t 1], .n 4 (.alloc [.z, .z]) []]) (.seq (.reg [.f 5 0 2, .l 6 5, .f 7 0 3, .l 8 7, .n 9 (.bin .add) [.t 6, .t 8], .f 10 1 2, .l 11 10, .f 12 1 3, .l 13 12, .n 14 (.bin .add) [.t 11, .t 13], .n 15 (.build [.z, .z] [(0, 1), (1, 1)]) [.t 9, .t 14], .s (.store 2) [.t 4, .t 15]]) .ret))
theorem V8 : chkF Tryz.prog 51 = some (16, W3, [.cell 4 26]) := by kernel_rfl
abbrev Q7 : Nat := 52
def W5 : IC := (.seq (.reg [.n 2 (.alloc [.z, .z, .z, .z, .z, .z, .z, .z]) [], .n 3 (.alloc [(.bool false)]) []]) (.seq (.seq (.reg [.m 7 0, .n 8 (.len false) [.t 7], .n 9 .mov [.i 0]]) (.block 0 (.loop (.seq (.reg [.n 10 (.bin .lss) [.t 9, .t 8]]) (.seq (.cond (.t 10) .skip (.exit 0)) (.seq (.block 1 (.seq (.reg [.n 11 (.iaddrS 1) [.t 7, .t 9], .l 12 11, .m 5 12]) (.seq (.reg [.m 13 5]) (.block 2 (.range (.t 13) [14] (.reg [.n 6 (.alloc [.z, .z]) [], .s (.store 2) [.t 6, .t 14]]) (.block 3 (.seq (.seq (.reg [.l 15 3, .n 16 (.un .not) [.t 15]]) (.cond (.t 16) (.reg [.v 17 2 6, .n 18 (.call 50) [.t 17], .s (.store 8) [.t 2, .t 18], .s (.store 1) [.t 3, .c (.bool true)]]) .skip)) (.draw [0, 0, 2, 7, 15] [.v 19 8 2, .v 20 2 6, .n 21 (.call 50) [.t 20], .n 22 (.call 49) [.t 19, .t 21, .c (.func (.func 84) [] [])], .s (.store 8) [.t 2, .t 22]])))))))) (.reg [.n 23 (.bin .add) [.t 9, .i 1], .m 9 23]))))))) (.seq (.draw [0, 0, 1, 7] [.v 24 8 2, .l 25 3, .s (.store 8) [.t 2, .t 24], .s (.store 1) [.t 3, .t 25]]) .ret)))
theorem L9 : chkF Tryz.prog 52 = some (26, W5, [.cell 2 117, .cell 3 4]) := by kernel_rfl
abbrev Q9 : Nat := 53
def Nz : IC := (.seq (.reg [.n 1 .box [.t 0], .n 2 .mov [.c .nilf]]) (.seq (.reg [.n 3 (.mkfunc (.func 85) 0) [.t 1], .m 2 3]) .ret))
theorem N2 : chkF Tryz.prog 53 = some (4, Nz, [.tmp 2]) := by kernel_rfl
abbrev N6 : Nat := 54
def Ko : IC := (.seq (.reg [.n 1 .box [.t 0], .n 2 (.alloc [.z, .z, .z, .z, .z, .z, .z, .z]) []]) (.seq (.reg [.n 3 (.iaddrA 4 2) [.t 1, .i 0], .v 4 2 3, .n 5 (.iaddrA 4 2) [.t 1, .i 1], .v 6 2 5, .n 7 (.iaddrA 4 2) [.t 1, .i 2], .v 8 2 7, .n 9 (.iaddrA 4 2) [.t 1, .i 3], .v 10 2 9, .n 11 (.build [.z, .z, .z, .z, .z, .z, .z, .z] [(0, 2), (2, 2), (4, 2), (6, 2)]) [.t 4, .t 6, .t 8, .t 10], .s (.store 8) [.t 2, .t 11]]) .ret))
theorem K6 : chkF Tryz.prog 54 = some (12, Ko, [.cell 2 28]) := by kernel_rfl
abbrev Vv : Nat := 55
def Sg : IC := (.seq (.reg [.n 1 .box [.t 0], .n 2 (.alloc [.nilp, .nilm]) [], .n 3 .mov [.i 0]]) (.seq (.reg [.v 7 17 1, .n 8 (.call 70) [.t 7], .m 6 8, .x 9 0 6, .x 10 1 6, .m 4 9, .m 5 10]) (.seq (.reg [.m 11 4, .n 12 (.raw 13 129 0) [], .n 13 (.build [.nilp, .nilm] [(0, 1), (1, 1)]) [.t 11, .t 12], .m 14 5, .s (.store 2) [.t 2, .t 13], .m 3 14]) .ret)))
theorem Ra : chkF Tryz.prog 55 = some (15, Sg, [.cell 2 131, .tmp 3]) := by kernel_rfl
abbrev Oq : Nat := 56
def Mm : IC := (.seq (.reg [.n 1 .box [.t 0], .n 2 .mov [.c .nils]]) (.seq (.reg [.f 10 0 1, .l 11 10, .n 12 .nilck [.t 11], .f 13 0 12, .f 14 0 13, .l 15 14, .n 16 (.len false) [.t 15], .m 3 16]) (.seq (.reg [.m 17 3, .n 18 (.bin .mul) [.i 2, .t 17], .m 19 3, .n 20 (.bin .shl) [.t 18, .t 19], .n 21 (.mkbox 1 8 [.z]) [.t 20, .t 20], .n 4 (.alloc [.nils]) [], .s (.store 1) [.t 4, .t 21]]) (.seq (.seq (.reg [.l 22 4, .n 23 (.len false) [.t 22], .n 24 .mov [.i 0]]) (.block 0 (.loop (.seq (.reg [.n 25 (.bin .lss) [.t 24, .t 23]]) (.seq (.cond (.t 25) .skip (.exit 0)) (.seq (.block 1 (.seq (.reg [.m 26 24, .m 5 26]) (.reg [.l 27 4, .m 28 5, .n 29 (.iaddrS 1) [.t 27, .t 28], .s (.store 1) [.t 29, .i (-1)]]))) (.reg [.n 30 (.bin .add) [.t 24, .i 1], .m 24 30]))))))) (.seq (.seq (.reg [.m 31 3, .n 32 (.bin .shl) [.i 1, .t 31], .n 33 .mov [.i 0]]) (.block 2 (.loop (.seq (.reg [.n 34 (.bin .lss) [.t 33, .t 32]]) (.seq (.cond (.t 34) .skip (.exit 2)) (.seq (.block 3 (.seq (.reg [.m 35 33, .n 6 (.alloc [.z]) [], .s (.store 1) [.t 6, .t 35]]) (.seq (.reg [.v 36 2 1, .l 37 6, .n 38 (.call 57) [.t 36, .t 37]]) (.block 4 (.range (.t 38) [39] (.reg [.n 7 (.alloc [.z, .z]) [], .s (.store 2) [.t 7, .t 39]]) (.block 5 (.seq (.reg [.v 41 2 1, .l 42 4, .l 43 6, .v 44 2 7, .n 45 (.call 88) [.t 41, .t 42, .t 43, .t 44], .n 46 (.call 87) [.t 45, .c (.func (.func 89) [] [])], .m 40 46, .x 47 0 40, .x 48 1 40, .m 8 47, .m 9 48]) (.seq (.reg [.m 49 9]) (.cond (.t 49) (.draw [0, 0, 0, 0, 14, 0, 63, 127] [.l 50 4, .v 51 2 1, .l 52 6, .v 53 2 7, .n 54 (.call 58) [.t 51, .t 52, .t 53], .m 55 8, .n 56 (.iaddrS 1) [.t 50, .t 54], .s (.store 1) [.t 56, .t 55]]) .skip))))))))) (.reg [.n 57 (.bin .add) [.t 33, .i 1], .m 33 57]))))))) (.seq (.reg [.l 58 4, .m 2 58]) .ret))))))
theorem Le : chkF Tryz.prog 56 = some (59, Mm, [.tmp 2]) := by kernel_rfl
abbrev N7 : Nat := 57
def Kq : IC := (.seq (.reg [.n 2 .box [.t 0], .n 3 .box [.t 1], .n 4 .mov [.c .nilf]]) (.seq (.reg [.n 5 (.mkfunc (.func 90) 0) [.t 2, .t 3], .m 4 5]) .ret))
theorem K8 : chkF Tryz.prog 57 = some (6, Kq, [.tmp 4]) := by kernel_rfl
abbrev Hk : Nat := 58
def Mo : IC := (.seq (.reg [.n 3 .box [.t 0], .n 5 .box [.t 2], .n 6 .mov [.i 0]]) (.seq (.draw [0, 1, 3, 7, 15, 31, 63, 127, 0, 511, 0, 1024, 3072, 8191, 0, 16384, 65535, 131071] [.f 7 0 3, .l 8 7, .n 9 .nilck [.t 8], .f 10 0 9, .f 11 0 10, .l 12 11, .n 13 (.len false) [.t 12], .n 14 (.bin .mul) [.i 2, .t 13], .m 15 1, .n 16 (.bin .mul) [.t 14, .t 15], .f 17 0 5, .l 18 17, .n 19 (.bin .mul) [.i 2, .t 18], .n 20 (.bin .add) [.t 16, .t 19], .f 21 1 5, .l 22 21, .n 23 (.bin .add) [.t 20, .t 22], .m 6 23]) .ret))
theorem G6 : chkF Tryz.prog 58 = some (24, Mo, [.tmp 6]) := by kernel_rfl
abbrev Hl : Nat := 59
def Sj : IC := (.seq (.reg [.n 7 .box [.t 0], .n 8 .box [.t 1], .n 9 .box [.t 2], .n 10 (.alloc [(.bool false)]) []]) (.scope (.seq (.seq (.reg [.l 14 9, .n 15 (.bin .eql) [.t 14, .i 0]]) (.cond (.t 15) (.seq (.reg [.l 16 7, .s (.store 1) [.t 3, .t 16]]) (.seq (.reg [.f 17 3 8, .l 18 17, .l 19 4, .n 20 (.bin .eql) [.t 18, .t 19], .s (.store 1) [.t 10, .t 20]]) .ret)) .skip)) (.seq (.label 0) (.seq (.seq (.reg [.v 21 2 5, .l 22 9, .n 23 (.call 57) [.t 21, .t 22]]) (.block 0 (.range (.t 23) [24] (.reg [.n 11 (.alloc [.z, .z]) [], .s (.store 2) [.t 11, .t 24]]) (.block 1 (.seq (.reg [.v 26 2 5, .v 27 4 8, .v 28 2 11, .n 29 (.call 60) [.t 26, .t 27, .t 28], .m 25 29, .x 30 0 25, .x 31 1 25, .n 12 (.alloc [.z, .z]) [], .s (.store 2) [.t 12, .t 30], .m 13 31]) (.seq (.seq (.reg [.m 32 13, .n 33 (.un .not) [.t 32], .m 34 33, .w 35 (.faddr 1) [.t 12] 34 false, .w 36 (.load 1 false) [.t 35] 34 false, .w 37 (.load 1 false) [.t 4] 34 false, .w 38 (.bin .gtr) [.t 36, .t 37] 34 false, .n 39 .pick [.t 34, .c (.bool true), .t 38]]) (.cond (.t 39) (.exit 1) .skip)) (.seq (.draw [0, 0, 2, 0, 8, 30, 0, 0, 0, 256, 1022, 0, 0, 4096, 12288, 30720, 65535] [.l 40 6, .l 41 7, .n 42 (.call 61) [.t 41], .v 43 2 11, .n 44 (.mkslice 2 141) [.t 43], .n 45 (.append 2 16 141) [.t 42, .t 44], .v 46 2 5, .v 47 2 11, .f 48 1 12, .l 49 48, .n 50 (.call 62) [.t 46, .t 47, .t 49], .l 51 9, .f 52 0 11, .l 53 52, .n 54 (.bin .shl) [.i 1, .t 53], .n 55 (.bin .andNot) [.t 51, .t 54], .n 56 .callv [.t 40, .t 45, .t 50, .t 55]]) (.cond (.t 56) (.seq (.reg [.s (.store 1) [.t 10, .c (.bool true)]]) .ret) .skip)))))))) (.seq (.reg [.s (.store 1) [.t 10, .c (.bool false)]]) .ret))))))
theorem Iw : chkF Tryz.prog 59 = some (57, Sj, [.cell 10 4]) := by kernel_rfl
abbrev C7 : Nat := 60
def O1 : IC := (.seq (.reg [.n 3 .box [.t 0], .n 4 .box [.t 1], .n 5 .box [.t 2], .n 6 (.alloc [.z, .z]) [], .n 7 .mov [.c (.bool false)]]) (.seq (.reg [.f 16 0 3, .l 17 16, .v 18 2 5, .n 19 (.call 91) [.t 17, .t 18], .m 15 19, .x 20 0 15, .x 21 1 15, .n 8 (.alloc [.z, .z, .z]) [], .n 9 (.alloc [.z, .z, .z]) [], .s (.store 3) [.t 8, .t 20], .s (.store 3) [.t 9, .t 21]]) (.seq (.reg [.f 22 0 4, .v 23 3 22, .v 24 3 8, .n 25 (.build [.z, .z, .z, .z, .z, .z] [(0, 3), (3, 3)]) [.t 23, .t 24], .n 10 (.alloc [.z, .z, .z, .z, .z, .z]) [], .s (.store 6) [.t 10, .t 25]]) (.seq (.reg [.f 27 1 3, .l 28 27, .v 29 6 10, .n 30 (.raw 25 129 0) [.t 28, .t 29], .m 26 30, .x 31 0 26, .x 32 1 26, .m 11 31, .m 12 32]) (.seq (.seq (.reg [.m 33 12, .n 34 (.un .not) [.t 33]]) (.cond (.t 34) (.seq (.reg [.n 11 .mov [.i (-1)]]) (.seq (.seq (.reg [.f 35 0 4, .v 36 3 35, .n 37 (.call 92) [.t 36]]) (.cond (.t 37) (.seq (.reg [.f 39 0 3, .l 40 39, .f 41 0 4, .v 42 3 41, .v 43 3 8, .n 44 (.call 93) [.t 40, .t 42, .t 43], .m 38 44, .x 45 0 38, .x 46 1 38, .n 13 (.alloc [.nils, .z]) [], .s (.store 2) [.t 13, .t 45], .m 14 46]) (.seq (.reg [.m 47 14]) (.cond (.t 47) (.reg [.f 48 1 13, .l 49 48, .m 11 49]) .skip))) .skip)) (.reg [.f 50 1 3, .l 51 50, .v 52 6 10, .m 53 11, .s (.raw 12 129 0) [.t 51, .t 52, .t 53]]))) .skip)) (.seq (.seq (.reg [.m 54 11, .n 55 (.bin .lss) [.t 54, .i 0]]) (.cond (.t 55) (.seq (.reg [.n 56 (.build [.z, .z] []) [], .s (.store 2) [.t 6, .t 56], .n 7 .mov [.c (.bool false)]]) .ret) .skip)) (.seq (.reg [.f 57 0 3, .l 58 57, .v 59 2 5, .f 60 3 4, .l 61 60, .m 62 11, .n 63 (.bin .add) [.t 61, .t 62], .n 64 (.call 94) [.t 58, .t 59, .t 63], .x 65 0 64, .x 66 1 64, .s (.store 2) [.t 6, .t 65], .m 7 66]) .ret)))))))
theorem Gk : chkF Tryz.prog 60 = some (67, O1, [.cell 6 26, .tmp 7]) := by kernel_rfl
abbrev F4 : Nat := 61
def Es : IC := (.seq (.reg [.n 2 .mov [.c .nils]]) (.seq (.seq (.reg [.m 3 0, .n 4 (.raw 8 0 83) [.t 3, .c .nils]]) (.cond (.t 4) (.seq (.reg [.n 2 .mov [.c .nils]]) .ret) .skip)) (.seq (.reg [.n 5 (.mkslice 2 141) [], .m 6 0, .n 7 (.append 2 16 141) [.t 5, .t 6], .m 2 7]) .ret)))
theorem El : chkF Tryz.prog 61 = some (8, Es, [.tmp 2]) := by kernel_rfl
abbrev Ot : Nat := 62
def Mp : IC := (.seq (.reg [.n 3 .box [.t 0], .n 4 .box [.t 1], .n 6 (.alloc [.z, .z, .z, .z]) []]) (.seq (.reg [.f 10 0 3, .l 11 10, .v 12 2 4, .n 13 (.call 91) [.t 11, .t 12], .m 9 13, .x 14 0 9, .x 15 1 9, .n 7 (.alloc [.z, .z, .z]) [], .n 8 (.alloc [.z, .z, .z]) [], .s (.store 3) [.t 7, .t 14], .s (.store 3) [.t 8, .t 15]]) (.seq (.reg [.v 16 3 8, .m 17 2, .n 18 (.build [.z, .z, .z, .z] [(0, 3), (3, 1)]) [.t 16, .t 17], .s (.store 4) [.t 6, .t 18]]) .ret)))
theorem Lg : chkF Tryz.prog 62 = some (19, Mp, [.cell 6 146]) := by kernel_rfl
abbrev Or : Nat := 63
def Mn : IC := (.seq (.reg [.n 1 .box [.t 0], .n 2 (.alloc [.z, .z, .z, .z]) []]) (.seq (.reg [.f 3 0 1, .l 4 3, .n 5 .nilck [.t 4], .f 6 0 5, .f 7 11 6, .v 8 3 7, .n 9 (.build [.z, .z, .z, .z] [(0, 3), (3, 1)]) [.t 8, .i 0], .s (.store 4) [.t 2, .t 9]]) .ret))
theorem Lf : chkF Tryz.prog 63 = some (10, Mn, [.cell 2 146]) := by kernel_rfl
abbrev A5f : Nat := 64
def A1n : IC := (.seq (.reg [.n 1 .box [.t 0], .n 2 (.alloc [.nils, .nils]) [], .n 3 .mov [.i 0]]) (.seq (.seq (.reg [.f 13 0 1, .l 14 13, .n 15 (.len false) [.t 14], .n 16 (.call 95) [.t 15, .i 1, .i 8], .n 17 (.un .not) [.t 16], .m 18 17, .w 19 (.faddr 1) [.t 1] 18 false, .w 20 (.load 1 false) [.t 19] 18 false, .w 21 (.len false) [.t 20] 18 false, .w 22 (.bin .gtr) [.t 21, .i 12] 18 false, .n 23 .pick [.t 18, .c (.bool true), .t 22]]) (.cond (.t 23) (.seq (.reg [.n 24 (.build [.nils, .nils] []) [], .s (.store 2) [.t 2, .t 24], .n 3 .mov [.i 20]]) .ret) .skip)) (.seq (.reg [.n 4 (.alloc [.nils, .nils]) []]) (.seq (.seq (.reg [.f 25 0 1, .l 26 25, .n 27 (.len false) [.t 26], .n 28 .mov [.i 0]]) (.block 0 (.loop (.seq (.reg [.n 29 (.bin .lss) [.t 28, .t 27]]) (.seq (.cond (.t 29) .skip (.exit 0)) (.seq (.block 1 (.seq (.reg [.n 30 (.iaddrS 8) [.t 26, .t 28], .v 31 8 30, .n 6 (.alloc [.z, .z, .z, .z, .z, .z, .z, .z]) [], .s (.store 8) [.t 6, .t 31]]) (.seq (.reg [.v 33 8 6, .n 34 (.call 40) [.t 33], .m 32 34, .x 35 0 32, .x 36 1 32, .n 7 (.alloc [.z, .z, .z, .z, .z, .z, .z, .z]) [], .s (.store 8) [.t 7, .t 35], .m 8 36]) (.seq (.seq (.reg [.m 37 8, .n 38 (.bin .neq) [.t 37, .i 0], .m 39 38, .w 40 (.faddr 0) [.t 6] 39 false, .w 41 (.load 2 true) [.t 40] 39 false, .w 42 (.call 96) [.t 41] 39 false, .n 43 .pick [.t 39, .c (.bool true), .t 42], .m 44 43, .w 45 (.faddr 2) [.t 6] 44 false, .w 46 (.load 2 true) [.t 45] 44 false, .w 47 (.call 96) [.t 46] 44 false, .n 48 .pick [.t 44, .c (.bool true), .t 47]]) (.cond (.t 48) (.seq (.reg [.n 49 (.build [.nils, .nils] []) [], .s (.store 2) [.t 2, .t 49], .n 3 .mov [.i 20]]) .ret) .skip)) (.reg [.f 50 0 4, .l 51 50, .v 52 8 7, .n 53 (.mkslice 8 28) [.t 52], .n 54 (.append 8 64 28) [.t 51, .t 53], .f 55 0 4, .s (.store 1) [.t 55, .t 54]]))))) (.reg [.n 56 (.bin .add) [.t 28, .i 1], .m 28 56]))))))) (.seq (.seq (.reg [.f 57 1 1, .l 58 57, .n 59 (.len false) [.t 58], .n 60 .mov [.i 0]]) (.block 2 (.loop (.seq (.reg [.n 61 (.bin .lss) [.t 60, .t 59]]) (.seq (.cond (.t 61) .skip (.exit 2)) (.seq (.block 3 (.seq (.reg [.n 62 (.iaddrS 14) [.t 58, .t 60], .v 63 14 62, .n 10 (.alloc [.z, .z, .z, .z, .z, .z, .z, .z, .z, .z, .z, .z, .z, .z]) [], .s (.store 14) [.t 10, .t 63]]) (.seq (.reg [.v 65 14 10, .f 66 0 1, .l 67 66, .n 68 (.len false) [.t 67], .n 69 (.call 97) [.t 65, .t 68], .m 64 69, .x 70 0 64, .x 71 1 64, .m 11 70, .m 12 71]) (.seq (.seq (.reg [.m 72 12, .n 73 (.un .not) [.t 72]]) (.cond (.t 73) (.seq (.reg [.n 74 (.build [.nils, .nils] []) [], .s (.store 2) [.t 2, .t 74], .n 3 .mov [.i 20]]) .ret) .skip)) (.reg [.f 75 1 4, .l 76 75, .m 77 11, .n 78 (.mkslice 1 204) [.t 77], .n 79 (.append 1 16 204) [.t 76, .t 78], .f 80 1 4, .s (.store 1) [.t 80, .t 79]]))))) (.reg [.n 81 (.bin .add) [.t 60, .i 1], .m 60 81]))))))) (.seq (.reg [.v 82 2 4, .s (.store 2) [.t 2, .t 82], .n 3 .mov [.i 0]]) .ret))))))
theorem A04 : chkF Tryz.prog 64 = some (83, A1n, [.cell 2 154, .tmp 3]) := by kernel_rfl
abbrev Vt : Nat := 65
def Sb : IC := (.seq (.reg [.n 2 .box [.t 0], .n 3 .box [.t 1], .n 4 .mov [.c .nils], .n 5 (.alloc [.nils]) [], .n 6 .mov [.c (.bool false)]]) (.seq (.reg [.f 8 0 2, .l 9 8, .n 10 (.call 98) [.t 9], .f 11 0 2, .s (.store 1) [.t 11, .t 10]]) (.seq (.reg [.n 12 (.mkfunc (.func 100) 0) [.t 2, .t 3, .t 5], .n 13 (.call 99) [.t 12], .m 7 13]) (.seq (.draw [0, 1, 0, 0, 8, 3, 39, 127] [.f 14 0 2, .l 15 14, .l 16 5, .m 17 7, .n 18 (.un .not) [.t 17], .m 4 15, .s (.store 1) [.t 5, .t 16], .m 6 18]) .ret))))
theorem R8 : chkF Tryz.prog 65 = some (19, Sb, [.tmp 4, .cell 5 44, .tmp 6]) := by kernel_rfl
abbrev Pz : Nat := 66
def Ns : IC := (.seq (.reg [.n 3 .box [.t 0], .n 5 .box [.t 2], .n 6 .mov [.c (.bool false)]]) (.seq (.reg [.m 7 1, .n 8 (.len false) [.t 7], .f 9 0 3, .f 10 1 9, .l 11 10, .n 12 (.len false) [.t 11], .n 13 (.bin .eql) [.t 8, .t 12], .m 14 13, .w 15 .mov [.t 1] 14 true, .w 16 (.mkfunc (.func 106) 0) [.t 5] 14 true, .w 17 (.call 105) [.t 15, .t 16] 14 true, .w 18 (.un .not) [.t 17] 14 true, .n 19 .pick [.t 14, .t 18, .c (.bool false)], .m 6 19]) .ret))
theorem Mv : chkF Tryz.prog 66 = some (20, Ns, [.tmp 6]) := by kernel_rfl
abbrev X5 : Nat := 67
def Ud : IC := (.seq (.reg [.n 6 .mov [.c .nils]]) (.seq (.reg [.m 11 0, .n 12 (.len false) [.t 11], .n 13 (.mkbox 1 8 [.z]) [.t 12, .t 12], .m 7 13]) (.seq (.reg [.m 14 1, .m 8 14]) (.seq (.seq (.reg [.m 15 0, .n 16 (.len false) [.t 15], .n 17 .mov [.i 0]]) (.block 0 (.loop (.seq (.reg [.n 18 (.bin .lss) [.t 17, .t 16]]) (.seq (.cond (.t 18) .skip (.exit 0)) (.seq (.block 1 (.seq (.reg [.m 19 17, .n 20 (.iaddrS 1) [.t 15, .t 17], .l 21 20, .m 9 19, .m 10 21]) (.seq (.reg [.m 22 7, .m 23 9, .m 24 2, .m 25 9, .m 26 10, .m 27 8, .n 28 .callv [.t 24, .t 25, .t 26, .t 27], .n 29 (.iaddrS 1) [.t 22, .t 23], .s (.store 1) [.t 29, .t 28]]) (.reg [.m 30 10, .m 8 30])))) (.reg [.n 31 (.bin .add) [.t 17, .i 1], .m 17 31]))))))) (.seq (.reg [.m 32 7, .m 6 32]) .ret)))))
theorem Sn : chkF Tryz.prog 67 = some (33, Ud, [.tmp 6]) := by kernel_rfl
abbrev S5 : Nat := 68
def Ze : IC := (.seq (.reg [.n 8 .mov [.i 0]]) (.seq (.draw [0, 0, 0, 0, 0, 0, 48, 112, 255, 511] [.v 9 5 3, .m 10 0, .m 11 1, .m 12 2, .l 13 4, .m 14 0, .n 15 (.iaddrS 1) [.t 13, .t 14], .l 16 15, .n 17 (.call 69) [.t 9, .t 10, .t 11, .t 12, .t 16], .m 8 17]) .ret))
theorem Wn : chkF Tryz.prog 68 = some (18, Ze, [.tmp 8]) := by kernel_rfl
abbrev Sx : Nat := 69
def Qr : IC := (.seq (.reg [.n 5 .box [.t 0], .n 10 .mov [.i 0]]) (.seq (.reg [.f 13 0 5, .f 14 1 13, .l 15 14, .m 16 1, .n 17 (.iaddrS 5) [.t 15, .t 16], .v 18 5 17, .n 11 (.alloc [.z, .z, .z, .z, .z]) [], .s (.store 5) [.t 11, .t 18]]) (.seq (.reg [.f 19 1 11, .l 20 19, .n 21 (.bin .sub) [.i 64, .t 20], .m 22 2, .n 23 (.bin .mul) [.t 21, .t 22], .f 24 1 11, .l 25 24, .m 26 3, .n 27 (.bin .mul) [.t 25, .t 26], .n 28 (.bin .add) [.t 23, .t 27], .n 29 (.call 107) [.t 28], .m 30 4, .n 31 (.bin .add) [.t 29, .t 30], .m 12 31]) (.seq (.seq (.reg [.m 32 12, .f 33 0 5, .f 34 2 33, .f 35 1 34, .l 36 35, .n 37 (.bin .gtr) [.t 32, .t 36]]) (.cond (.t 37) (.reg [.f 38 0 5, .f 39 2 38, .f 40 1 39, .l 41 40, .m 42 12, .f 43 2 11, .l 44 43, .n 45 (.bin .sub) [.t 42, .t 44], .n 46 (.minmax true) [.t 41, .t 45], .m 12 46]) (.seq (.reg [.m 47 12, .f 48 0 5, .f 49 2 48, .f 50 0 49, .l 51 50, .n 52 (.bin .lss) [.t 47, .t 51]]) (.cond (.t 52) (.reg [.f 53 0 5, .f 54 2 53, .f 55 0 54, .l 56 55, .m 57 12, .f 58 2 11, .l 59 58, .n 60 (.bin .add) [.t 57, .t 59], .n 61 (.minmax false) [.t 56, .t 60], .m 12 61]) .skip)))) (.seq (.reg [.m 62 12, .n 63 (.minmax false) [.t 62, .i 16384], .n 64 (.minmax true) [.i (-16384), .t 63], .m 10 64]) .ret)))))
theorem Pk : chkF Tryz.prog 69 = some (65, Qr, [.tmp 10]) := by kernel_rfl
abbrev Jy : Nat := 70
def Qz : IC := (.seq (.reg [.n 1 .box [.t 0], .n 2 .mov [.c .nilp], .n 3 .mov [.i 0]]) (.seq (.seq (.reg [.v 5 17 1, .n 6 (.call 108) [.t 5], .m 4 6]) (.seq (.reg [.m 7 4, .n 8 (.bin .neq) [.t 7, .i 0]]) (.cond (.t 8) (.seq (.reg [.m 9 4, .n 2 .mov [.c .nilp], .m 3 9]) .ret) .skip))) (.seq (.reg [.v 10 17 1, .n 11 (.raw 13 134 0) [], .n 12 (.build [.nils, .nils, .nils, .z, .z, .z, .z, .z, .z, .z, .z, .z, .z, .z, .z, .z, .nils, .nilm] [(0, 17), (17, 1)]) [.t 10, .t 11], .n 13 .box [.t 12], .m 2 13, .n 3 .mov [.i 0]]) .ret)))
theorem Hx : chkF Tryz.prog 70 = some (14, Qz, [.tmp 2, .tmp 3]) := by kernel_rfl
abbrev Nf : Nat := 71
def Uj : IC := (.seq (.reg [.n 3 .box [.t 0], .n 4 .box [.t 1], .n 5 .box [.t 2], .n 6 (.alloc [.z, .z, .z, .z, .z, .z, .z, .z]) [], .n 7 .mov [.i 0]]) (.seq (.reg [.v 12 8 3, .v 13 2 4, .n 14 (.call 20) [.t 12, .t 13], .m 11 14, .x 15 0 11, .x 16 1 11, .n 8 (.alloc [.z, .z, .z, .z, .z, .z, .z, .z]) [], .s (.store 8) [.t 8, .t 15], .m 9 16]) (.seq (.seq (.reg [.m 17 9, .n 18 (.bin .neq) [.t 17, .i 0]]) (.cond (.t 18) (.seq (.reg [.n 19 (.build [.z, .z, .z, .z, .z, .z, .z, .z] []) [], .m 20 9, .s (.store 8) [.t 6, .t 19], .m 7 20]) .ret) .skip)) (.seq (.reg [.v 22 8 3, .v 23 2 5, .n 24 (.call 20) [.t 22, .t 23], .m 21 24, .x 25 0 21, .x 26 1 21, .n 10 (.alloc [.z, .z, .z, .z, .z, .z, .z, .z]) [], .s (.store 8) [.t 10, .t 25], .m 9 26]) (.seq (.seq (.reg [.m 27 9, .n 28 (.bin .neq) [.t 27, .i 0]]) (.cond (.t 28) (.seq (.reg [.n 29 (.build [.z, .z, .z, .z, .z, .z, .z, .z] []) [], .m 30 9, .s (.store 8) [.t 6, .t 29], .m 7 30]) .ret) .skip)) (.seq (.reg [.v 31 8 8, .v 32 8 10, .n 33 (.call 21) [.t 31, .t 32], .x 34 0 33, .x 35 1 33, .s (.store 8) [.t 6, .t 34], .m 7 35]) .ret))))))
theorem En : chkF Tryz.prog 71 = some (36, Uj, [.cell 6 28, .tmp 7]) := by kernel_rfl
abbrev Dn : Nat := 72
def Df : IC := (.seq (.reg [.n 4 .mov [.c (.bool false)]]) (.seq (.reg [.m 5 0, .m 6 1, .n 7 (.call 109) [.t 5, .t 6], .n 8 (.bin .geq) [.t 7, .i 0], .m 4 8]) .ret))
theorem Db : chkF Tryz.prog 72 = some (9, Df, [.tmp 4]) := by kernel_rfl
abbrev Fj : Nat := 73
def Ji : IC := (.seq (.reg [.n 3 .mov [.c (.bool false)]]) (.seq (.reg [.m 7 0, .v 8 8 1, .n 9 (.call 74) [.t 7, .t 8], .m 6 9, .x 10 0 6, .x 11 1 6, .n 4 (.alloc [.z, .z]) [], .s (.store 2) [.t 4, .t 10], .m 5 11]) (.seq (.reg [.m 12 5, .n 13 (.bin .eql) [.t 12, .i 0], .m 3 13]) .ret)))
theorem Iu : chkF Tryz.prog 73 = some (14, Ji, [.tmp 3]) := by kernel_rfl
abbrev A0n : Nat := 74
def Wc : IC := (.seq (.reg [.n 2 .box [.t 0], .n 3 .box [.t 1], .n 4 (.alloc [.z, .z]) [], .n 5 (.alloc [.z]) []]) (.scope (.seq (.seq (.draw [0, 1, 0, 7, 15, 31, 63] [.l 12 2, .n 13 (.call 31) [.t 12], .v 14 8 3, .n 15 (.call 45) [.t 14], .n 16 (.mkslice 1 53) [.t 13, .t 15], .n 17 (.call 30) [.t 16], .m 6 17]) (.seq (.reg [.m 18 6, .n 19 (.bin .neq) [.t 18, .i 0]]) (.cond (.t 19) (.seq (.reg [.n 20 (.build [.z, .z] []) [], .m 21 6, .s (.store 2) [.t 4, .t 20], .s (.store 1) [.t 5, .t 21]]) .ret) .skip))) (.seq (.label 0) (.seq (.seq (.reg [.v 22 8 3, .n 23 (.call 46) [.t 22], .n 24 (.call 86) [.t 23]]) (.block 0 (.range (.t 24) [25] (.reg [.n 7 (.alloc [.z, .z, .z]) [], .s (.store 3) [.t 7, .t 25]]) (.block 1 (.seq (.seq (.reg [.l 26 2, .n 27 (.call 76) [.t 26]]) (.block 2 (.range (.t 27) [28, 29] (.seq (.reg [.n 8 (.alloc [.z, .z]) [], .s (.store 2) [.t 8, .t 28]]) (.reg [.n 9 (.alloc [.z, .z]) [], .s (.store 2) [.t 9, .t 29]])) (.block 3 (.seq (.reg [.f 30 0 9, .l 31 30, .f 32 0 8, .l 33 32, .n 34 (.bin .sub) [.t 31, .t 33], .m 10 34]) (.seq (.reg [.m 35 10, .f 36 1 8, .l 37 36, .n 38 (.bin .mul) [.t 35, .t 37], .f 39 1 9, .l 40 39, .f 41 1 8, .l 42 41, .n 43 (.bin .sub) [.t 40, .t 42], .f 44 0 7, .l 45 44, .f 46 0 8, .l 47 46, .n 48 (.bin .sub) [.t 45, .t 47], .n 49 (.bin .mul) [.t 43, .t 48], .n 50 (.bin .add) [.t 38, .t 49], .m 11 50]) (.block 4 (.seq (.reg [.m 52 10, .n 53 (.bin .gtr) [.t 52, .i 0], .m 51 53]) (.cond (.t 51) (.draw [0, 1, 0, 0, 12, 31, 63, 127] [.f 54 1 7, .l 55 54, .m 56 11, .m 57 10, .n 58 (.call 110) [.t 56, .t 57], .n 59 (.minmax true) [.t 55, .t 58], .f 60 1 7, .s (.store 1) [.t 60, .t 59]]) (.seq (.reg [.m 62 10, .n 63 (.bin .lss) [.t 62, .i 0], .m 61 63]) (.cond (.t 61) (.draw [0, 1, 0, 4, 0, 16, 60, 127, 255, 511] [.f 64 2 7, .l 65 64, .m 66 11, .n 67 (.un .neg) [.t 66], .m 68 10, .n 69 (.un .neg) [.t 68], .n 70 (.call 111) [.t 67, .t 69], .n 71 (.minmax false) [.t 65, .t 70], .f 72 2 7, .s (.store 1) [.t 72, .t 71]]) (.seq (.reg [.m 74 11, .n 75 (.bin .gtr) [.t 74, .i 0], .m 73 75]) (.cond (.t 73) (.exit 1) .skip))))))))))))) (.seq (.reg [.f 76 1 7, .l 77 76, .f 78 2 7, .l 79 78, .n 80 (.bin .leq) [.t 77, .t 79]]) (.cond (.t 80) (.seq (.reg [.f 81 0 7, .l 82 81, .f 83 1 7, .l 84 83, .n 85 (.build [.z, .z] [(0, 1), (1, 1)]) [.t 82, .t 84], .s (.store 2) [.t 4, .t 85], .s (.store 1) [.t 5, .i 0]]) .ret) .skip))))))) (.seq (.reg [.n 86 (.build [.z, .z] []) [], .s (.store 2) [.t 4, .t 86], .s (.store 1) [.t 5, .i 4]]) .ret))))))
theorem Vc : chkF Tryz.prog 74 = some (87, Wc, [.cell 4 30, .cell 5 53]) := by kernel_rfl
abbrev A0m : Nat := 75
def W4 : IC := (.seq (.reg [.n 3 .box [.t 0], .n 4 .box [.t 1], .n 5 .box [.t 2], .n 6 .mov [.i 0]]) (.seq (.reg [.f 7 0 4, .l 8 7, .f 9 0 3, .l 10 9, .n 11 (.bin .sub) [.t 8, .t 10], .f 12 1 5, .l 13 12, .f 14 1 3, .l 15 14, .n 16 (.bin .sub) [.t 13, .t 15], .n 17 (.bin .mul) [.t 11, .t 16], .f 18 1 4, .l 19 18, .f 20 1 3, .l 21 20, .n 22 (.bin .sub) [.t 19, .t 21], .f 23 0 5, .l 24 23, .f 25 0 3, .l 26 25, .n 27 (.bin .sub) [.t 24, .t 26], .n 28 (.bin .mul) [.t 22, .t 27], .n 29 (.bin .sub) [.t 17, .t 28], .m 6 29]) .ret))
theorem V9 : chkF Tryz.prog 75 = some (30, W4, [.tmp 6]) := by kernel_rfl
abbrev X7 : Nat := 76
def Uf : IC := (.seq (.reg [.n 1 .box [.t 0], .n 2 .mov [.c .nilf]]) (.seq (.reg [.n 3 (.mkfunc (.func 112) 0) [.t 1], .m 2 3]) .ret))
theorem Sp : chkF Tryz.prog 76 = some (4, Uf, [.tmp 2]) := by kernel_rfl
abbrev Do : Nat := 77
def Dg : IC := (.seq (.reg [.n 4 .mov [.c (.bool false)]]) (.seq (.reg [.m 5 0, .m 6 1, .n 7 (.call 113) [.t 5, .t 6], .n 8 (.bin .geq) [.t 7, .i 0], .m 4 8]) .ret))
theorem Dc : chkF Tryz.prog 77 = some (9, Dg, [.tmp 4]) := by kernel_rfl
abbrev Oj : Nat := 78
def Md : IC := (.seq (.reg [.n 1 .box [.t 0], .n 2 .mov [.c (.bool false)]]) (.seq (.reg [.v 3 2 1, .n 4 (.call 44) [.t 3, .i 16384], .n 5 (.un .not) [.t 4], .m 2 5]) .ret))
theorem L6 : chkF Tryz.prog 78 = some (6, Md, [.tmp 2]) := by kernel_rfl
abbrev N5 : Nat := 79
def Km : IC := (.seq (.reg [.n 4 .box [.t 1], .n 6 .mov [.c .nils]]) (.seq (.reg [.m 11 0, .n 12 (.len false) [.t 11], .n 13 (.mkbox 2 16 [.z, .z]) [.t 12, .t 12], .m 7 13]) (.seq (.reg [.v 14 2 4, .n 8 (.alloc [.z, .z]) [], .s (.store 2) [.t 8, .t 14]]) (.seq (.seq (.reg [.m 15 0, .n 16 (.len false) [.t 15], .n 17 .mov [.i 0]]) (.block 0 (.loop (.seq (.reg [.n 18 (.bin .lss) [.t 17, .t 16]]) (.seq (.cond (.t 18) .skip (.exit 0)) (.seq (.block 1 (.seq (.reg [.m 19 17, .n 20 (.iaddrS 2) [.t 15, .t 17], .v 21 2 20, .n 10 (.alloc [.z, .z]) [], .m 9 19, .s (.store 2) [.t 10, .t 21]]) (.seq (.reg [.m 22 7, .m 23 9, .m 24 2, .m 25 9, .v 26 2 10, .v 27 2 8, .n 28 .callv [.t 24, .t 25, .t 26, .t 27], .n 29 (.iaddrS 2) [.t 22, .t 23], .s (.store 2) [.t 29, .t 28]]) (.reg [.v 30 2 10, .s (.store 2) [.t 8, .t 30]])))) (.reg [.n 31 (.bin .add) [.t 17, .i 1], .m 17 31]))))))) (.seq (.reg [.m 32 7, .m 6 32]) .ret)))))
theorem K4 : chkF Tryz.prog 79 = some (33, Km, [.tmp 6]) := by kernel_rfl
abbrev A59 : Nat := 80
def A1e : IC := (.seq (.reg [.n 2 (.alloc [.z, .z]) []]) (.seq (.reg [.m 3 0, .m 4 0, .n 5 (.build [.z, .z] [(0, 1), (1, 1)]) [.t 3, .t 4], .s (.store 2) [.t 2, .t 5]]) .ret))
theorem Zw : chkF Tryz.prog 80 = some (6, A1e, [.cell 2 26]) := by kernel_rfl
abbrev I1 : Nat := 81
def Nt : IC := (.seq (.reg [.n 4 .box [.t 1], .n 5 .box [.t 2], .n 6 (.alloc [.z, .z]) []]) (.seq (.reg [.f 7 0 4, .l 8 7, .f 9 1 5, .l 10 9, .n 11 (.bin .sub) [.t 8, .t 10], .f 12 0 5, .l 13 12, .f 14 1 4, .l 15 14, .n 16 (.bin .sub) [.t 13, .t 15], .n 17 (.minmax true) [.i 0, .t 11, .t 16], .f 18 1 4, .l 19 18, .f 20 0 5, .l 21 20, .n 22 (.bin .sub) [.t 19, .t 21], .f 23 1 5, .l 24 23, .f 25 0 4, .l 26 25, .n 27 (.bin .sub) [.t 24, .t 26], .n 28 (.minmax true) [.t 22, .t 27], .n 29 (.build [.z, .z] [(0, 1), (1, 1)]) [.t 17, .t 28], .s (.store 2) [.t 6, .t 29]]) .ret))
theorem Mw : chkF Tryz.prog 81 = some (30, Nt, [.cell 6 26]) := by kernel_rfl
abbrev Qa : Nat := 82
def W7 : IC := (.seq (.reg [.n 2 .box [.t 0], .n 4 (.alloc [.z, .z, .z, .z, .z, .z, .z, .z]) [], .n 5 .mov [.i 0]]) (.seq (.seq (.reg [.m 6 1, .n 7 (.bin .neq) [.t 6, .i 0]]) (.cond (.t 7) (.seq (.reg [.n 8 (.build [.z, .z, .z, .z, .z, .z, .z, .z] []) [], .m 9 1, .s (.store 8) [.t 4, .t 8], .m 5 9]) .ret) .skip)) (.seq (.reg [.v 10 8 2, .n 11 (.call 54) [.t 10], .s (.store 8) [.t 4, .t 11], .n 5 .mov [.i 0]]) .ret)))
theorem La : chkF Tryz.prog 82 = some (12, W7, [.cell 4 28, .tmp 5]) := by kernel_rfl
abbrev Af : Nat := 83
def Mf : IC := (.seq (.reg [.n 3 .box [.t 1], .n 4 .mov [.c (.bool false)]]) (.seq (.reg [.f 5 0 3, .l 6 5, .m 7 0, .n 8 (.un .neg) [.t 7], .n 9 (.bin .geq) [.t 6, .t 8], .m 10 9, .w 11 (.faddr 0) [.t 3] 10 true, .w 12 (.load 1 false) [.t 11] 10 true, .w 13 (.faddr 1) [.t 3] 10 true, .w 14 (.load 1 false) [.t 13] 10 true, .w 15 (.bin .leq) [.t 12, .t 14] 10 true, .n 16 .pick [.t 10, .t 15, .c (.bool false)], .m 17 16, .w 18 (.faddr 1) [.t 3] 17 true, .w 19 (.load 1 false) [.t 18] 17 true, .w 20 .mov [.t 0] 17 true, .w 21 (.bin .leq) [.t 19, .t 20] 17 true, .n 22 .pick [.t 17, .t 21, .c (.bool false)], .m 4 22]) .ret))
theorem L8 : chkF Tryz.prog 83 = some (23, Mf, [.tmp 4]) := by kernel_rfl
abbrev Q6 : Nat := 84
def W1 : IC := (.seq (.reg [.n 2 .box [.t 0], .n 3 .box [.t 1], .n 4 (.alloc [.z, .z]) []]) (.seq (.reg [.f 5 0 2, .l 6 5, .f 7 0 3, .l 8 7, .n 9 (.minmax false) [.t 6, .t 8], .f 10 1 2, .l 11 10, .f 12 1 3, .l 13 12, .n 14 (.minmax true) [.t 11, .t 13], .n 15 (.build [.z, .z] [(0, 1), (1, 1)]) [.t 9, .t 14], .s (.store 2) [.t 4, .t 15]]) .ret))
theorem V6 : chkF Tryz.prog 84 = some (16, W1, [.cell 4 26]) := by kernel_rfl
abbrev Gp : Nat := 85
def Kp : IC := (.seq (.reg [.n 2 .box [.t 0]]) (.seq (.reg [.v 6 8 1, .n 7 (.call 86) [.t 6]]) (.block 0 (.range (.t 7) [8] (.reg [.n 3 (.alloc [.z, .z, .z]) [], .s (.store 3) [.t 3, .t 8]]) (.block 1 (.seq (.draw [0, 1, 0, 4, 15, 0, 32, 0, 128, 480, 0, 0, 3103, 8191] [.f 9 0 3, .l 10 9, .f 11 1 3, .l 12 11, .n 13 (.build [.z, .z] [(0, 1), (1, 1)]) [.t 10, .t 12], .f 14 0 3, .l 15 14, .f 16 2 3, .l 17 16, .n 18 (.build [.z, .z] [(0, 1), (1, 1)]) [.t 15, .t 17], .n 4 (.alloc [.z, .z]) [], .n 5 (.alloc [.z, .z]) [], .s (.store 2) [.t 4, .t 13], .s (.store 2) [.t 5, .t 18]]) (.seq (.reg [.l 19 2, .v 20 2 4, .n 21 .callv [.t 19, .t 20], .n 22 (.un .not) [.t 21], .m 23 22, .w 24 (.load 2 true) [.t 4] 23 false, .w 25 (.load 2 true) [.t 5] 23 false, .w 26 (.eqs true [0, 0]) [.t 24, .t 25] 23 false, .w 27 .mov [.t 26] 23 false, .w 28 (.load 1 false) [.t 2] 27 true, .w 29 (.load 2 true) [.t 5] 27 true, .w 30 .callv [.t 28, .t 29] 27 true, .w 31 (.un .not) [.t 30] 27 true, .w 32 .pick [.t 27, .t 31, .c (.bool false)] 23 false, .n 33 .pick [.t 23, .c (.bool true), .t 32]]) (.cond (.t 33) .ret .skip))))))))
theorem K7 : chkF Tryz.prog 85 = some (34, Kp, []) := by kernel_rfl
abbrev Q8 : Nat := 86
def Ny : IC := (.seq (.reg [.n 1 .box [.t 0], .n 2 .mov [.c .nilf]]) (.seq (.reg [.n 3 (.mkfunc (.func 114) 0) [.t 1], .m 2 3]) .ret))
theorem N1 : chkF Tryz.prog 86 = some (4, Ny, [.tmp 2]) := by kernel_rfl
abbrev Fb : Nat := 87
def O2 : IC := (.seq (.reg [.n 3 .box [.t 1], .n 4 (.alloc [.z]) [], .n 5 (.alloc [(.bool false)]) []]) (.seq (.seq (.reg [.m 7 0]) (.block 0 (.range (.t 7) [8] (.reg [.m 6 8]) (.block 1 (.seq (.reg [.l 9 5, .n 10 (.un .not) [.t 9], .m 11 10, .w 12 (.load 1 false) [.t 3] 11 false, .w 13 .mov [.t 6] 11 false, .w 14 (.load 1 false) [.t 4] 11 false, .w 15 .callv [.t 12, .t 13, .t 14] 11 false, .n 16 .pick [.t 11, .c (.bool true), .t 15]]) (.cond (.t 16) (.reg [.m 17 6, .s (.store 1) [.t 4, .t 17], .s (.store 1) [.t 5, .c (.bool true)]]) .skip)))))) (.seq (.draw [0, 0, 1, 7] [.l 18 4, .l 19 5, .s (.store 1) [.t 4, .t 18], .s (.store 1) [.t 5, .t 19]]) .ret)))
theorem N4 : chkF Tryz.prog 87 = some (20, O2, [.cell 4 3, .cell 5 4]) := by kernel_rfl
abbrev Kd : Nat := 88
def Jg : IC := (.seq (.reg [.n 4 .box [.t 0], .n 5 .box [.t 1], .n 6 .box [.t 2], .n 7 .box [.t 3], .n 8 .mov [.c .nilf]]) (.seq (.reg [.n 9 (.mkfunc (.func 115) 0) [.t 4, .t 5, .t 6, .t 7], .m 8 9]) .ret))
theorem Is : chkF Tryz.prog 88 = some (10, Jg, [.tmp 8]) := by kernel_rfl
abbrev C5 : Nat := 89
def Sf : IC := (.seq (.reg [.n 4 .mov [.c (.bool false)]]) (.seq (.reg [.m 5 0, .m 6 1, .n 7 (.bin .lss) [.t 5, .t 6], .m 4 7]) .ret))
theorem A8q : chkF Tryz.prog 89 = some (8, Sf, [.tmp 4]) := by kernel_rfl
abbrev B9 : Nat := 90
def Jf : IC := (.seq (.reg [.f 6 0 1, .l 7 6, .n 8 .nilck [.t 7], .f 9 0 8, .f 10 0 9, .l 11 10, .n 12 (.len false) [.t 11], .n 13 .mov [.i 0]]) (.block 0 (.loop (.seq (.reg [.n 14 (.bin .lss) [.t 13, .t 12]]) (.seq (.cond (.t 14) .skip (.exit 0)) (.seq (.block 1 (.seq (.reg [.m 15 13, .m 4 15]) (.seq (.reg [.n 16 .mov [.i 0]]) (.block 2 (.loop (.seq (.reg [.n 17 (.bin .lss) [.t 16, .i 2]]) (.seq (.cond (.t 17) .skip (.exit 2)) (.seq (.block 3 (.seq (.reg [.m 18 16, .m 5 18]) (.seq (.draw [0, 0, 2, 7, 15, 31, 63, 63, 63, 447, 1023, 2047, 4095] [.l 19 2, .m 20 4, .n 21 (.bin .shl) [.i 1, .t 20], .n 22 (.bin .and) [.t 19, .t 21], .n 23 (.bin .neq) [.t 22, .i 0], .m 24 23, .w 25 .mov [.t 0] 24 true, .w 26 .mov [.t 4] 24 true, .w 27 .mov [.t 5] 24 true, .w 28 (.build [.z, .z] [(0, 1), (1, 1)]) [.t 26, .t 27] 24 true, .w 29 .callv [.t 25, .t 28] 24 true, .w 30 (.un .not) [.t 29] 24 true, .n 31 .pick [.t 24, .t 30, .c (.bool false)]]) (.cond (.t 31) .ret .skip)))) (.reg [.n 32 (.bin .add) [.t 16, .i 1], .m 16 32]))))))))) (.reg [.n 33 (.bin .add) [.t 13, .i 1], .m 13 33])))))))
theorem F2 : chkF Tryz.prog 90 = some (34, Jf, []) := by kernel_rfl
abbrev Ew : Nat := 91
def Mr : IC := (.seq (.reg [.n 3 .box [.t 1], .n 4 (.alloc [.z, .z, .z]) [], .n 5 (.alloc [.z, .z, .z]) []]) (.seq (.reg [.m 8 0, .v 9 2 3, .n 10 (.call 117) [.t 8, .t 9], .n 6 (.alloc [.z, .z, .z, .z]) [], .s (.store 4) [.t 6, .t 10]]) (.seq (.reg [.f 11 2 6, .f 12 0 11, .l 13 12, .f 14 0 6, .f 15 0 14, .l 16 15, .n 17 (.bin .sub) [.t 13, .t 16], .f 18 2 6, .f 19 1 18, .l 20 19, .f 21 0 6, .f 22 1 21, .l 23 22, .n 24 (.bin .sub) [.t 20, .t 23], .n 25 (.build [.z, .z] [(0, 1), (1, 1)]) [.t 17, .t 24], .n 26 (.call 118) [.t 25], .m 7 26]) (.seq (.draw [0, 1, 0, 7, 0, 16, 0, 112, 15, 511] [.f 27 0 6, .v 28 2 27, .m 29 7, .n 30 (.build [.z, .z, .z] [(0, 2), (2, 1)]) [.t 28, .t 29], .f 31 2 6, .v 32 2 31, .m 33 7, .n 34 (.build [.z, .z, .z] [(0, 2), (2, 1)]) [.t 32, .t 33], .s (.store 3) [.t 4, .t 30], .s (.store 3) [.t 5, .t 34]]) .ret))))
theorem G8 : chkF Tryz.prog 91 = some (35, Mr, [.cell 4 144, .cell 5 144]) := by kernel_rfl
abbrev Hj : Nat := 92
def Ml : IC := (.seq (.reg [.n 1 .box [.t 0], .n 2 .mov [.c (.bool false)]]) (.seq (.reg [.f 3 0 1, .v 4 2 3, .n 5 (.call 16) [.t 4], .n 6 (.bin .eql) [.t 5, .i 0], .m 7 6, .w 8 (.faddr 2) [.t 1] 7 true, .w 9 (.load 1 false) [.t 8] 7 true, .w 10 (.call 119) [.t 9, .i 0, .i 7] 7 true, .n 11 .pick [.t 7, .t 10, .c (.bool false)], .m 2 11]) .ret))
theorem G5 : chkF Tryz.prog 92 = some (12, Ml, [.tmp 2]) := by kernel_rfl
abbrev Ey : Nat := 93
def Mt : IC := (.seq (.reg [.n 4 .box [.t 1], .n 5 .box [.t 2], .n 6 (.alloc [.nils, .z]) [], .n 7 .mov [.c (.bool false)]]) (.seq (.reg [.m 8 0, .v 9 3 4, .v 10 3 5, .n 11 (.call 121) [.t 8, .t 9, .t 10], .n 12 (.call 120) [.t 11, .c (.func (.func 122) [] [])], .x 13 0 12, .x 14 1 12, .s (.store 2) [.t 6, .t 13], .m 7 14]) .ret))
theorem G9 : chkF Tryz.prog 93 = some (15, Mt, [.cell 6 199, .tmp 7]) := by kernel_rfl
abbrev De : Nat := 94
def Mq : IC := (.seq (.reg [.n 4 .box [.t 1], .n 6 (.alloc [.z, .z]) [], .n 7 .mov [.c (.bool false)]]) (.seq (.reg [.m 13 0, .v 14 2 4, .n 15 (.call 117) [.t 13, .t 14], .n 8 (.alloc [.z, .z, .z, .z]) [], .s (.store 4) [.t 8, .t 15]]) (.seq (.seq (.reg [.m 16 0, .v 17 4 8, .n 18 (.call 27) [.t 16, .t 17], .n 19 (.un .not) [.t 18]]) (.cond (.t 19) (.seq (.reg [.n 20 (.build [.z, .z] []) [], .s (.store 2) [.t 6, .t 20], .n 7 .mov [.c (.bool false)]]) .ret) .skip)) (.seq (.reg [.m 21 0, .v 22 4 8, .n 23 (.call 123) [.t 21, .t 22], .m 9 23]) (.seq (.seq (.draw [0, 1, 3, 7, 15, 0, 32, 127, 255, 511, 0] [.m 24 0, .n 25 .nilck [.t 24], .f 26 0 25, .f 27 16 26, .l 28 27, .f 29 0 4, .l 30 29, .n 31 (.iaddrS 1) [.t 28, .t 30], .l 32 31, .n 33 (.len false) [.t 32], .n 34 .mov [.i 0]]) (.block 0 (.loop (.seq (.reg [.n 35 (.bin .lss) [.t 34, .t 33]]) (.seq (.cond (.t 35) .skip (.exit 0)) (.seq (.block 1 (.seq (.reg [.n 36 (.iaddrS 2) [.t 32, .t 34], .v 37 2 36, .n 11 (.alloc [.z, .z]) [], .s (.store 2) [.t 11, .t 37]]) (.seq (.reg [.m 38 2, .f 39 0 11, .l 40 39, .n 41 (.minmax true) [.t 38, .t 40], .m 12 41]) (.seq (.reg [.m 42 12, .m 43 9, .n 44 (.bin .add) [.t 42, .t 43], .f 45 1 11, .l 46 45, .n 47 (.bin .leq) [.t 44, .t 46]]) (.cond (.t 47) (.seq (.reg [.m 48 12, .m 49 12, .m 50 9, .n 51 (.bin .add) [.t 49, .t 50], .n 52 (.build [.z, .z] [(0, 1), (1, 1)]) [.t 48, .t 51], .s (.store 2) [.t 6, .t 52], .n 7 .mov [.c (.bool true)]]) .ret) .skip))))) (.reg [.n 53 (.bin .add) [.t 34, .i 1], .m 34 53]))))))) (.seq (.reg [.n 54 (.build [.z, .z] []) [], .s (.store 2) [.t 6, .t 54], .n 7 .mov [.c (.bool false)]]) .ret))))))
theorem G7 : chkF Tryz.prog 94 = some (55, Mq, [.cell 6 26, .tmp 7]) := by kernel_rfl
abbrev Gb : Nat := 95
def Zm : IC := (.seq (.reg [.n 6 .mov [.c (.bool false)]]) (.seq (.reg [.m 7 0, .m 8 1, .n 9 (.bin .geq) [.t 7, .t 8], .m 10 9, .w 11 .mov [.t 0] 10 true, .w 12 .mov [.t 2] 10 true, .w 13 (.bin .leq) [.t 11, .t 12] 10 true, .n 14 .pick [.t 10, .t 13, .c (.bool false)], .m 6 14]) .ret))
theorem Wt : chkF Tryz.prog 95 = some (15, Zm, [.tmp 6]) := by kernel_rfl
abbrev A9c : Nat := 96
def A47 : IC := (.seq (.reg [.n 1 .box [.t 0], .n 2 .mov [.c (.bool false)]]) (.seq (.reg [.f 3 1 1, .l 4 3, .f 5 0 1, .l 6 5, .n 7 (.bin .sub) [.t 4, .t 6], .n 8 (.bin .gtr) [.t 7, .i 256], .m 2 8]) .ret))
theorem A2h : chkF Tryz.prog 96 = some (9, A47, [.tmp 2]) := by kernel_rfl
abbrev A9d : Nat := 97
def A48 : IC := (.seq (.reg [.n 2 .box [.t 0], .n 4 .mov [.c .nili], .n 5 .mov [.c (.bool false)]]) (.seq (.reg [.f 9 1 2, .l 10 9, .f 11 2 2, .l 12 11, .n 13 (.build [.z, .z] [(0, 1), (1, 1)]) [.t 10, .t 12], .n 6 (.alloc [.z, .z]) [], .s (.store 2) [.t 6, .t 13]]) (.seq (.reg [.f 14 1 2, .l 15 14, .m 16 1, .n 17 (.bin .sub) [.t 16, .i 1], .n 18 (.call 95) [.t 15, .i 0, .t 17], .m 19 18, .w 20 (.faddr 2) [.t 2] 19 true, .w 21 (.load 1 false) [.t 20] 19 true, .w 22 .mov [.t 1] 19 true, .w 23 (.bin .sub) [.t 22, .i 1] 19 true, .w 24 (.call 95) [.t 21, .i 0, .t 23] 19 true, .n 25 .pick [.t 19, .t 24, .c (.bool false)], .m 26 25, .w 27 (.faddr 1) [.t 2] 26 true, .w 28 (.load 1 false) [.t 27] 26 true, .w 29 (.faddr 2) [.t 2] 26 true, .w 30 (.load 1 false) [.t 29] 26 true, .w 31 (.bin .neq) [.t 28, .t 30] 26 true, .n 32 .pick [.t 26, .t 31, .c (.bool false)], .m 7 32]) (.seq (.reg [.f 33 0 2, .l 34 33, .f 35 1 2, .l 36 35, .f 37 2 2, .l 38 37, .n 39 (.build [.z, .z, .z, .z, .z, .z, .z, .z, .z, .z, .z, .z, .z, .z] [(0, 1), (1, 1), (2, 1)]) [.t 34, .t 36, .t 38], .n 8 (.alloc [.z, .z, .z, .z, .z, .z, .z, .z, .z, .z, .z, .z, .z, .z]) [], .s (.store 14) [.t 8, .t 39]]) (.seq (.seq (.reg [.f 40 0 2, .l 41 40]) (.block 0 (.seq (.reg [.n 43 (.bin .eql) [.t 41, .i 1], .m 42 43]) (.cond (.t 42) (.seq (.draw [0, 1, 0, 4, 3, 19, 63, 127] [.f 44 3 2, .l 45 44, .f 46 4 2, .l 47 46, .f 48 3 8, .s (.store 1) [.t 48, .t 45], .f 49 4 8, .s (.store 1) [.t 49, .t 47]]) (.seq (.draw [0, 0, 2, 0, 8, 30, 63, 127, 0, 256, 768, 768, 3840, 7936, 16128, 32512, 65280, 130816, 261888, 524032, 1048320, 2096896, 1048320, 5242624, 16776960, 33554176, 33554431, 134217727] [.v 50 2 6, .f 51 3 2, .l 52 51, .f 53 4 2, .l 54 53, .n 55 (.build [.z, .z] [(0, 1), (1, 1)]) [.t 52, .t 54], .n 56 (.build [.z, .z, .z, .z] [(0, 2), (2, 2)]) [.t 50, .t 55], .n 57 (.raw 20 231 0) [.t 56], .m 58 7, .m 59 58, .w 60 (.load 14 true) [.t 2] 59 true, .w 61 (.load 14 true) [.t 8] 59 true, .w 62 (.eqs false [0, 0, 0, 0, 0, 0, 0, 0, 0, 0, 0, 0, 0, 0]) [.t 60, .t 61] 59 true, .n 63 .pick [.t 59, .t 62, .c (.bool false)], .m 64 63, .w 65 (.faddr 3) [.t 2] 64 true, .w 66 (.load 1 false) [.t 65] 64 true, .w 67 (.bin .geq) [.t 66, .i 0] 64 true, .n 68 .pick [.t 64, .t 67, .c (.bool false)], .m 69 68, .w 70 (.faddr 4) [.t 2] 69 true, .w 71 (.load 1 false) [.t 70] 69 true, .w 72 (.faddr 3) [.t 2] 69 true, .w 73 (.load 1 false) [.t 72] 69 true, .w 74 (.call 95) [.t 71, .t 73, .i 17179869184] 69 true, .n 75 .pick [.t 69, .t 74, .c (.bool false)], .m 4 57, .m 5 75]) .ret)) (.seq (.reg [.n 77 (.bin .eql) [.t 41, .i 2], .m 76 77]) (.cond (.t 76) (.seq (.reg [.f 78 5 2, .l 79 78, .f 80 5 8, .s (.store 1) [.t 80, .t 79]]) (.seq (.draw [0, 0, 2, 7, 15, 0, 32, 96, 96, 480, 992, 2016, 4064, 8160, 16352, 32736, 32767, 131071] [.v 81 2 6, .f 82 5 2, .l 83 82, .n 84 (.build [.z, .z, .z] [(0, 2), (2, 1)]) [.t 81, .t 83], .n 85 (.raw 20 233 0) [.t 84], .m 86 7, .m 87 86, .w 88 (.load 14 true) [.t 2] 87 true, .w 89 (.load 14 true) [.t 8] 87 true, .w 90 (.eqs false [0, 0, 0, 0, 0, 0, 0, 0, 0, 0, 0, 0, 0, 0]) [.t 88, .t 89] 87 true, .n 91 .pick [.t 87, .t 90, .c (.bool false)], .m 92 91, .w 93 (.faddr 5) [.t 2] 92 true, .w 94 (.load 1 false) [.t 93] 92 true, .w 95 (.call 95) [.t 94, .i 0, .i 7] 92 true, .n 96 .pick [.t 92, .t 95, .c (.bool false)], .m 4 85, .m 5 96]) .ret)) (.seq (.reg [.n 98 (.bin .eql) [.t 41, .i 3], .m 97 98]) (.cond (.t 97) (.seq (.reg [.f 99 6 2, .v 100 8 99, .f 101 6 8, .s (.store 8) [.t 101, .t 100]]) (.seq (.draw [0, 0, 2, 7, 15, 0, 32, 96, 96, 480, 992, 2016, 4064, 8160, 16352, 32736, 65504, 32767, 262143] [.v 102 2 6, .f 103 6 2, .v 104 8 103, .n 105 (.build [.z, .z, .z, .z, .z, .z, .z, .z, .z, .z] [(0, 2), (2, 8)]) [.t 102, .t 104], .n 106 (.raw 20 235 0) [.t 105], .m 107 7, .m 108 107, .w 109 (.load 14 true) [.t 2] 108 true, .w 110 (.load 14 true) [.t 8] 108 true, .w 111 (.eqs false [0, 0, 0, 0, 0, 0, 0, 0, 0, 0, 0, 0, 0, 0]) [.t 109, .t 110] 108 true, .n 112 .pick [.t 108, .t 111, .c (.bool false)], .m 113 112, .w 114 (.faddr 6) [.t 2] 113 true, .w 115 (.load 8 true) [.t 114] 113 true, .w 116 (.call 45) [.t 115] 113 true, .w 117 (.bin .eql) [.t 116, .i 0] 113 true, .n 118 .pick [.t 113, .t 117, .c (.bool false)], .m 4 106, .m 5 118]) .ret)) .skip)))))))) (.seq (.reg [.n 4 .mov [.c .nili], .n 5 .mov [.c (.bool false)]]) .ret))))))
theorem A2i : chkF Tryz.prog 97 = some (119, A48, [.tmp 4, .tmp 5]) := by kernel_rfl
abbrev Ch : Nat := 98
def Eg : IC := (.seq (.reg [.n 2 .mov [.c .nils]]) (.seq (.seq (.reg [.m 3 0, .n 4 (.raw 8 0 52) [.t 3, .c .nils]]) (.cond (.t 4) (.seq (.reg [.n 2 .mov [.c .nils]]) .ret) .skip)) (.seq (.reg [.n 5 (.mkslice 8 28) [], .m 6 0, .n 7 (.append 8 64 28) [.t 5, .t 6], .m 2 7]) .ret)))
theorem C6 : chkF Tryz.prog 98 = some (8, Eg, [.tmp 2]) := by kernel_rfl
abbrev A3f : Nat := 99
def Zo : IC := (.seq (.reg [.n 2 (.alloc [(.bool false)]) []]) (.seq .bad (.seq (.reg [.m 4 0, .n 5 .callv [.t 4]]) (.seq (.reg [.s (.store 1) [.t 2, .c (.bool false)]]) .ret))))
theorem chk.fix_failed : chkF Tryz.prog 99 = some (6, Zo, [.cell 2 4]) := by kernel_rfl
abbrev Rj : Nat := 100
def P9 : IC := (.reg [.v 3 2 0, .n 4 (.mkfunc (.func 102) 0) [.t 1], .n 5 (.mkfunc (.func 104) 0) [.t 2], .n 6 (.call 101) [.t 3, .t 4, .t 5]])
theorem Oa : chkF Tryz.prog 100 = some (7, P9, []) := by kernel_rfl
abbrev T0 : Nat := 101
def Qw : IC := (.seq (.reg [.n 3 .box [.t 0]]) (.seq (.reg [.n 6 (.alloc [(.bool false)]) [], .s (.store 1) [.t 6, .c (.bool true)]]) (.block 0 (.loop (.seq (.seq (.reg [.l 10 6]) (.cond (.t 10) .skip (.exit 0))) (.seq (.block 1 (.seq (.reg [.s (.store 1) [.t 6, .c (.bool false)]]) (.seq (.reg [.f 11 1 3, .l 12 11, .n 13 (.len false) [.t 12], .n 14 .mov [.i 0]]) (.block 2 (.loop (.seq (.reg [.n 15 (.bin .lss) [.t 14, .t 13]]) (.seq (.cond (.t 15) .skip (.exit 2)) (.seq (.block 3 (.seq (.reg [.m 16 14, .n 17 (.iaddrS 1) [.t 12, .t 14], .l 18 17, .n 8 (.alloc [.nili]) [], .m 7 16, .s (.store 1) [.t 8, .t 18]]) (.seq (.seq (.reg [.m 19 1, .m 20 7, .n 21 .callv [.t 19, .t 20], .n 22 (.un .not) [.t 21]]) (.cond (.t 22) (.exit 3) .skip)) (.seq (.reg [.f 23 0 3, .l 24 23, .n 25 (.call 98) [.t 24], .m 9 25]) (.seq (.seq (.reg [.n 26 (.mkfunc (.func 125) 0) [.t 3, .t 8, .t 6], .n 27 (.call 99) [.t 26]]) (.cond (.t 27) (.seq (.reg [.m 28 2, .m 29 7, .n 30 .callv [.t 28, .t 29]]) (.reg [.n 31 (.build [] []) [], .n 32 (.raw 20 237 0) [.t 31], .s (.raw 18 0 0) [.t 32]])) .skip)) (.seq (.reg [.m 33 9, .f 34 0 3, .l 35 34, .n 36 (.call 127) [.t 33, .t 35], .n 37 (.un .not) [.t 36]]) (.cond (.t 37) (.reg [.m 38 2, .m 39 7, .n 40 .callv [.t 38, .t 39]]) .skip))))))) (.reg [.n 41 (.bin .add) [.t 14, .i 1], .m 14 41]))))))))) (.seq (.reg [.l 42 6]) (.reg [.n 6 (.alloc [(.bool false)]) [], .s (.store 1) [.t 6, .t 42]]))))))))
theorem Po : chkF Tryz.prog 101 = some (43, Qw, []) := by kernel_rfl
abbrev Hi : Nat := 102
def Mk : IC := (.seq (.reg [.n 3 .mov [.c (.bool false)]]) (.seq (.reg [.l 4 1, .m 5 0, .n 6 (.call 103) [.t 4, .t 5], .n 7 (.un .not) [.t 6], .m 3 7]) .ret))
theorem Ld : chkF Tryz.prog 102 = some (8, Mk, [.tmp 3]) := by kernel_rfl
abbrev Ic : Nat := 103
def Hn : IC := (.seq (.reg [.n 4 .mov [.c (.bool false)]]) (.seq (.reg [.m 5 0, .m 6 1, .n 7 (.call 128) [.t 5, .t 6], .n 8 (.bin .geq) [.t 7, .i 0], .m 4 8]) .ret))
theorem Hd : chkF Tryz.prog 103 = some (9, Hn, [.tmp 4]) := by kernel_rfl
abbrev Hh : Nat := 104
def Mj : IC := (.reg [.l 3 1, .m 4 0, .n 5 (.mkslice 1 3) [.t 4], .n 6 (.append 1 8 3) [.t 3, .t 5], .s (.store 1) [.t 1, .t 6]])
theorem Lc : chkF Tryz.prog 104 = some (7, Mj, []) := by kernel_rfl
abbrev Gi : Nat := 105
def G0 : IC := (.seq (.reg [.n 4 .mov [.c (.bool false)]]) (.seq (.reg [.m 5 0, .m 6 1, .n 7 (.call 129) [.t 5, .t 6], .n 8 (.bin .geq) [.t 7, .i 0], .m 4 8]) .ret))
theorem Fp : chkF Tryz.prog 105 = some (9, G0, [.tmp 4]) := by kernel_rfl
abbrev Gn : Nat := 106
def Kl : IC := (.seq (.reg [.n 3 .mov [.c (.bool false)]]) (.seq (.reg [.m 4 0, .l 5 1, .n 6 (.un .neg) [.t 5], .l 7 1, .n 8 (.call 36) [.t 4, .t 6, .t 7], .n 9 (.un .not) [.t 8], .m 3 9]) .ret))
theorem K3 : chkF Tryz.prog 106 = some (10, Kl, [.tmp 3]) := by kernel_rfl
abbrev A98 : Nat := 107
def A42 : IC := (.seq (.reg [.n 2 .mov [.i 0]]) (.seq (.reg [.m 4 0, .n 5 (.bin .quo) [.t 4, .i 64], .m 3 5]) (.seq (.seq (.reg [.m 6 0, .n 7 (.bin .rem) [.t 6, .i 64], .n 8 (.bin .lss) [.t 7, .i 0]]) (.cond (.t 8) (.reg [.m 9 3, .n 10 (.bin .sub) [.t 9, .i 1], .m 3 10]) .skip)) (.seq (.reg [.m 11 3, .m 2 11]) .ret))))
theorem A2d : chkF Tryz.prog 107 = some (12, A42, [.tmp 2]) := by kernel_rfl
abbrev N9 : Nat := 108
def Kv : IC := (.seq (.reg [.n 1 .box [.t 0], .n 2 .mov [.i 0]]) (.seq (.seq (.reg [.v 3 17 1, .n 4 (.call 130) [.t 3], .n 5 (.un .not) [.t 4]]) (.cond (.t 5) (.seq (.reg [.n 2 .mov [.i 40]]) .ret) .skip)) (.seq (.reg [.n 2 .mov [.i 0]]) .ret)))
theorem Ka : chkF Tryz.prog 108 = some (6, Kv, [.tmp 2]) := by kernel_rfl
abbrev Ea : Nat := 109
def Dw : IC := (.seq (.reg [.n 4 .mov [.i 0]]) (.seq (.seq (.reg [.m 6 0, .n 7 (.len false) [.t 6], .n 8 .mov [.i 0]]) (.block 0 (.loop (.seq (.reg [.n 9 (.bin .lss) [.t 8, .t 7]]) (.seq (.cond (.t 9) .skip (.exit 0)) (.seq (.block 1 (.seq (.reg [.m 10 8, .m 5 10]) (.seq (.reg [.m 11 1, .m 12 0, .m 13 5, .n 14 (.iaddrS 1) [.t 12, .t 13], .l 15 14, .n 16 .callv [.t 11, .t 15]]) (.cond (.t 16) (.seq (.reg [.m 17 5, .m 4 17]) .ret) .skip)))) (.reg [.n 18 (.bin .add) [.t 8, .i 1], .m 8 18]))))))) (.seq (.reg [.n 4 .mov [.i (-1)]]) .ret)))
theorem Dt : chkF Tryz.prog 109 = some (19, Dw, [.tmp 4]) := by kernel_rfl
abbrev A5c : Nat := 110
def A1j : IC := (.seq (.reg [.n 4 .mov [.i 0]]) (.seq (.reg [.m 5 0, .n 6 (.un .neg) [.t 5], .m 7 1, .n 8 (.call 111) [.t 6, .t 7], .n 9 (.un .neg) [.t 8], .m 4 9]) .ret))
theorem A00 : chkF Tryz.prog 110 = some (10, A1j, [.tmp 4]) := by kernel_rfl
abbrev Jq : Nat := 111
def W6 : IC := (.seq (.reg [.n 4 .mov [.i 0]]) (.seq (.reg [.m 6 0, .m 7 1, .n 8 (.bin .quo) [.t 6, .t 7], .m 5 8]) (.seq (.seq (.reg [.m 9 0, .m 10 1, .n 11 (.bin .rem) [.t 9, .t 10], .n 12 (.bin .lss) [.t 11, .i 0]]) (.cond (.t 12) (.reg [.m 13 5, .n 14 (.bin .sub) [.t 13, .i 1], .m 5 14]) .skip)) (.seq (.reg [.m 15 5, .m 4 15]) .ret))))
theorem Va : chkF Tryz.prog 111 = some (16, W6, [.tmp 4]) := by kernel_rfl
abbrev Eo : Nat := 112
def Qv : IC := (.seq (.reg [.l 5 1, .n 6 (.len false) [.t 5], .n 7 .mov [.i 0]]) (.block 0 (.loop (.seq (.reg [.n 8 (.bin .lss) [.t 7, .t 6]]) (.seq (.cond (.t 8) .skip (.exit 0)) (.seq (.block 1 (.seq (.reg [.m 9 7, .n 10 (.iaddrS 2) [.t 5, .t 7], .v 11 2 10, .n 4 (.alloc [.z, .z]) [], .m 3 9, .s (.store 2) [.t 4, .t 11]]) (.seq (.draw [0, 0, 0, 0, 8, 0, 32, 120, 252, 508, 1023, 2047] [.m 12 0, .v 13 2 4, .l 14 1, .m 15 3, .n 16 (.bin .add) [.t 15, .i 1], .l 17 1, .n 18 (.len false) [.t 17], .n 19 (.bin .rem) [.t 16, .t 18], .n 20 (.iaddrS 2) [.t 14, .t 19], .v 21 2 20, .n 22 .callv [.t 12, .t 13, .t 21], .n 23 (.un .not) [.t 22]]) (.cond (.t 23) .ret .skip)))) (.reg [.n 24 (.bin .add) [.t 7, .i 1], .m 7 24])))))))
theorem Pn : chkF Tryz.prog 112 = some (25, Qv, []) := by kernel_rfl
abbrev Eb : Nat := 113
def Dx : IC := (.seq (.reg [.n 4 .mov [.i 0]]) (.seq (.seq (.reg [.m 6 0, .n 7 (.len false) [.t 6], .n 8 .mov [.i 0]]) (.block 0 (.loop (.seq (.reg [.n 9 (.bin .lss) [.t 8, .t 7]]) (.seq (.cond (.t 9) .skip (.exit 0)) (.seq (.block 1 (.seq (.reg [.m 10 8, .m 5 10]) (.seq (.reg [.m 11 1, .m 12 0, .m 13 5, .n 14 (.iaddrS 2) [.t 12, .t 13], .v 15 2 14, .n 16 .callv [.t 11, .t 15]]) (.cond (.t 16) (.seq (.reg [.m 17 5, .m 4 17]) .ret) .skip)))) (.reg [.n 18 (.bin .add) [.t 8, .i 1], .m 8 18]))))))) (.seq (.reg [.n 4 .mov [.i (-1)]]) .ret)))
theorem Du : chkF Tryz.prog 113 = some (19, Dx, [.tmp 4]) := by kernel_rfl
abbrev Cc : Nat := 114
def Kn : IC := (.seq (.reg [.n 5 (.iaddrA 4 2) [.t 1, .i 0], .f 6 0 5, .l 7 6, .m 3 7]) (.block 0 (.loop (.seq (.seq (.reg [.m 8 3, .n 9 (.iaddrA 4 2) [.t 1, .i 0], .f 10 1 9, .l 11 10, .n 12 (.bin .leq) [.t 8, .t 11]]) (.cond (.t 12) .skip (.exit 0))) (.seq (.block 1 (.seq (.reg [.m 15 3, .n 16 (.iaddrA 4 2) [.t 1, .i 1], .f 17 0 16, .l 18 17, .n 19 (.iaddrA 4 2) [.t 1, .i 2], .f 20 0 19, .l 21 20, .m 22 3, .n 23 (.bin .sub) [.t 21, .t 22], .m 24 3, .n 25 (.iaddrA 4 2) [.t 1, .i 3], .f 26 1 25, .l 27 26, .n 28 (.bin .sub) [.t 24, .t 27], .n 29 (.minmax true) [.t 18, .t 23, .t 28], .n 30 (.iaddrA 4 2) [.t 1, .i 1], .f 31 1 30, .l 32 31, .n 33 (.iaddrA 4 2) [.t 1, .i 2], .f 34 1 33, .l 35 34, .m 36 3, .n 37 (.bin .sub) [.t 35, .t 36], .m 38 3, .n 39 (.iaddrA 4 2) [.t 1, .i 3], .f 40 0 39, .l 41 40, .n 42 (.bin .sub) [.t 38, .t 41], .n 43 (.minmax false) [.t 32, .t 37, .t 42], .n 44 (.build [.z, .z, .z] [(0, 1), (1, 1), (2, 1)]) [.t 15, .t 29, .t 43], .n 4 (.alloc [.z, .z, .z]) [], .s (.store 3) [.t 4, .t 44]]) (.seq (.reg [.f 45 1 4, .l 46 45, .f 47 2 4, .l 48 47, .n 49 (.bin .leq) [.t 46, .t 48], .m 50 49, .w 51 .mov [.t 0] 50 true, .w 52 (.load 3 true) [.t 4] 50 true, .w 53 .callv [.t 51, .t 52] 50 true, .w 54 (.un .not) [.t 53] 50 true, .n 55 .pick [.t 50, .t 54, .c (.bool false)]]) (.cond (.t 55) .ret .skip)))) (.reg [.m 13 3, .n 14 (.bin .add) [.t 13, .i 1], .m 3 14]))))))
theorem K5 : chkF Tryz.prog 114 = some (56, Kn, []) := by kernel_rfl
abbrev C8 : Nat := 115
def I8 : IC := (.seq (.reg [.n 5 .box [.t 0]]) (.seq (.reg [.v 9 2 1, .l 10 2, .l 11 3, .v 12 2 4, .n 13 (.call 116) [.t 9, .t 10, .t 11, .t 12]]) (.block 0 (.range (.t 13) [14] (.reg [.n 6 (.alloc [.z, .z, .z, .z]) [], .s (.store 4) [.t 6, .t 14]]) (.block 1 (.seq (.reg [.v 16 2 1, .v 17 4 6, .v 18 2 4, .n 19 (.call 60) [.t 16, .t 17, .t 18], .m 15 19, .x 20 0 15, .x 21 1 15, .n 7 (.alloc [.z, .z]) [], .s (.store 2) [.t 7, .t 20], .m 8 21]) (.seq (.reg [.m 22 8, .m 23 22, .w 24 (.load 1 false) [.t 5] 23 true, .w 25 (.faddr 1) [.t 7] 23 true, .w 26 (.load 1 false) [.t 25] 23 true, .w 27 .callv [.t 24, .t 26] 23 true, .w 28 (.un .not) [.t 27] 23 true, .n 29 .pick [.t 23, .t 28, .c (.bool false)]]) (.cond (.t 29) .ret .skip))))))))
theorem Hp : chkF Tryz.prog 115 = some (30, I8, []) := by kernel_rfl
abbrev N8 : Nat := 116
def Kr : IC := (.seq (.reg [.n 4 .box [.t 0], .n 5 .box [.t 1], .n 6 .box [.t 2], .n 7 .box [.t 3], .n 8 .mov [.c .nilf]]) (.seq (.reg [.n 9 (.mkfunc (.func 131) 0) [.t 6, .t 7, .t 4, .t 5], .m 8 9]) .ret))
theorem K9 : chkF Tryz.prog 116 = some (10, Kr, [.tmp 8]) := by kernel_rfl
abbrev I4 : Nat := 117
def O3 : IC := (.seq (.reg [.n 3 .box [.t 1], .n 4 (.alloc [.z, .z, .z, .z]) []]) (.seq (.draw [0, 1, 3, 7, 15, 0, 32, 127, 255, 0, 1023] [.m 6 0, .n 7 .nilck [.t 6], .f 8 0 7, .f 9 0 8, .l 10 9, .f 11 0 3, .l 12 11, .n 13 (.iaddrS 4) [.t 10, .t 12], .v 14 4 13, .n 5 (.alloc [.z, .z, .z, .z]) [], .s (.store 4) [.t 5, .t 14]]) (.seq (.seq (.reg [.f 15 1 3, .l 16 15, .n 17 (.bin .eql) [.t 16, .i 1]]) (.cond (.t 17) (.seq (.reg [.f 18 2 5, .v 19 2 18, .f 20 0 5, .v 21 2 20, .n 22 (.build [.z, .z, .z, .z] [(0, 2), (2, 2)]) [.t 19, .t 21], .s (.store 4) [.t 4, .t 22]]) .ret) .skip)) (.seq (.reg [.f 23 0 5, .v 24 2 23, .f 25 2 5, .v 26 2 25, .n 27 (.build [.z, .z, .z, .z] [(0, 2), (2, 2)]) [.t 24, .t 26], .s (.store 4) [.t 4, .t 27]]) .ret))))
theorem Gm : chkF Tryz.prog 117 = some (28, O3, [.cell 4 97]) := by kernel_rfl
abbrev Lq : Nat := 118
def Si : IC := (.seq (.reg [.n 1 .box [.t 0], .n 2 .mov [.i 0]]) (.seq (.seq (.reg [.f 7 0 1, .l 8 7, .n 9 (.call 119) [.t 8, .i (-131072), .i 131072], .n 10 (.un .not) [.t 9], .m 11 10, .w 12 (.faddr 1) [.t 1] 11 false, .w 13 (.load 1 false) [.t 12] 11 false, .w 14 (.call 119) [.t 13, .i (-131072), .i 131072] 11 false, .w 15 (.un .not) [.t 14] 11 false, .n 16 .pick [.t 11, .c (.bool true), .t 15]]) (.cond (.t 16) (.seq (.reg [.n 2 .mov [.i 0]]) .ret) .skip)) (.seq (.draw [0, 1, 0, 4, 15, 0, 32, 0, 128, 480, 31, 2047] [.f 17 0 1, .l 18 17, .f 19 1 1, .l 20 19, .n 21 (.bin .add) [.t 18, .t 20], .f 22 0 1, .l 23 22, .f 24 1 1, .l 25 24, .n 26 (.bin .sub) [.t 23, .t 25], .m 3 21, .m 4 26]) (.seq (.seq (.reg [.f 27 1 1, .l 28 27, .n 29 (.bin .geq) [.t 28, .i 0], .m 30 29, .w 31 .mov [.t 4] 30 true, .w 32 (.bin .geq) [.t 31, .i 0] 30 true, .n 33 .pick [.t 30, .t 32, .c (.bool false)], .f 34 0 1, .l 35 34, .n 36 (.bin .geq) [.t 35, .i 0], .m 37 36, .w 38 .mov [.t 4] 37 true, .w 39 (.bin .leq) [.t 38, .i 0] 37 true, .n 40 .pick [.t 37, .t 39, .c (.bool false)], .f 41 0 1, .l 42 41, .n 43 (.bin .leq) [.t 42, .i 0], .m 44 43, .w 45 .mov [.t 3] 44 true, .w 46 (.bin .geq) [.t 45, .i 0] 44 true, .n 47 .pick [.t 44, .t 46, .c (.bool false)], .f 48 1 1, .l 49 48, .n 50 (.bin .geq) [.t 49, .i 0], .m 51 50, .w 52 .mov [.t 3] 51 true, .w 53 (.bin .leq) [.t 52, .i 0] 51 true, .n 54 .pick [.t 51, .t 53, .c (.bool false)], .f 55 1 1, .l 56 55, .n 57 (.bin .leq) [.t 56, .i 0], .m 58 57, .w 59 .mov [.t 4] 58 true, .w 60 (.bin .leq) [.t 59, .i 0] 58 true, .n 61 .pick [.t 58, .t 60, .c (.bool false)], .f 62 0 1, .l 63 62, .n 64 (.bin .leq) [.t 63, .i 0], .m 65 64, .w 66 .mov [.t 4] 65 true, .w 67 (.bin .geq) [.t 66, .i 0] 65 true, .n 68 .pick [.t 65, .t 67, .c (.bool false)], .f 69 0 1, .l 70 69, .n 71 (.bin .geq) [.t 70, .i 0], .m 72 71, .w 73 .mov [.t 3] 72 true, .w 74 (.bin .leq) [.t 73, .i 0] 72 true, .n 75 .pick [.t 72, .t 74, .c (.bool false)], .n 76 (.build [(.bool false), (.bool false), (.bool false), (.bool false), (.bool false), (.bool false), (.bool false)] [(0, 1), (1, 1), (2, 1), (3, 1), (4, 1), (5, 1), (6, 1)]) [.t 33, .t 40, .t 47, .t 54, .t 61, .t 68, .t 75], .n 77 .mov [.i 0]]) (.block 0 (.loop (.seq (.reg [.n 78 (.bin .lss) [.t 77, .i 7]]) (.seq (.cond (.t 78) .skip (.exit 0)) (.seq (.block 1 (.seq (.reg [.m 79 77, .n 80 (.idxA 7 1 false) [.t 76, .t 77], .m 5 79, .m 6 80]) (.seq (.reg [.m 81 6]) (.cond (.t 81) (.seq (.reg [.m 82 5, .m 2 82]) .ret) .skip)))) (.reg [.n 83 (.bin .add) [.t 77, .i 1], .m 77 83]))))))) (.seq (.reg [.n 2 .mov [.i 7]]) .ret)))))
theorem Iv : chkF Tryz.prog 118 = some (84, Si, [.tmp 2]) := by kernel_rfl
abbrev E5 : Nat := 119
def Sc : IC := (.seq (.reg [.n 6 .mov [.c (.bool false)]]) (.seq (.reg [.m 7 0, .m 8 1, .n 9 (.bin .geq) [.t 7, .t 8], .m 10 9, .w 11 .mov [.t 0] 10 true, .w 12 .mov [.t 2] 10 true, .w 13 (.bin .leq) [.t 11, .t 12] 10 true, .n 14 .pick [.t 10, .t 13, .c (.bool false)], .m 6 14]) .ret))
theorem R9 : chkF Tryz.prog 119 = some (15, Sc, [.tmp 6]) := by kernel_rfl
abbrev Gj : Nat := 120
def G1 : IC := (.seq (.reg [.n 3 .box [.t 1], .n 4 (.alloc [.nils, .z]) [], .n 5 (.alloc [(.bool false)]) []]) (.seq (.seq (.reg [.m 7 0]) (.block 0 (.range (.t 7) [8] (.reg [.n 6 (.alloc [.nils, .z]) [], .s (.store 2) [.t 6, .t 8]]) (.block 1 (.seq (.reg [.l 9 5, .n 10 (.un .not) [.t 9], .m 11 10, .w 12 (.load 1 false) [.t 3] 11 false, .w 13 (.load 2 true) [.t 6] 11 false, .w 14 (.load 2 true) [.t 4] 11 false, .w 15 .callv [.t 12, .t 13, .t 14] 11 false, .n 16 .pick [.t 11, .c (.bool true), .t 15]]) (.cond (.t 16) (.reg [.v 17 2 6, .s (.store 2) [.t 4, .t 17], .s (.store 1) [.t 5, .c (.bool true)]]) .skip)))))) (.seq (.draw [0, 0, 1, 7] [.v 18 2 4, .l 19 5, .s (.store 2) [.t 4, .t 18], .s (.store 1) [.t 5, .t 19]]) .ret)))
theorem Fq : chkF Tryz.prog 120 = some (20, G1, [.cell 4 199, .cell 5 4]) := by kernel_rfl
abbrev Js : Nat := 121
def Il : IC := (.seq (.reg [.n 3 .box [.t 0], .n 4 .box [.t 1], .n 5 .box [.t 2], .n 6 .mov [.c .nilf]]) (.seq (.reg [.n 7 (.mkfunc (.func 132) 0) [.t 3, .t 4, .t 5], .m 6 7]) .ret))
theorem Ia : chkF Tryz.prog 121 = some (8, Il, [.tmp 6]) := by kernel_rfl
abbrev Bs : Nat := 122
def K0 : IC := (.seq (.reg [.n 2 .box [.t 0], .n 3 .box [.t 1], .n 4 .mov [.c (.bool false)]]) (.seq (.block 0 (.seq (.reg [.f 6 1 2, .l 7 6, .f 8 1 3, .l 9 8, .n 10 (.bin .neq) [.t 7, .t 9], .m 5 10]) (.cond (.t 5) (.seq (.reg [.f 11 1 2, .l 12 11, .f 13 1 3, .l 14 13, .n 15 (.bin .lss) [.t 12, .t 14], .m 4 15]) .ret) (.seq (.reg [.f 17 0 2, .l 18 17, .n 19 (.len false) [.t 18], .f 20 0 3, .l 21 20, .n 22 (.len false) [.t 21], .n 23 (.bin .neq) [.t 19, .t 22], .m 16 23]) (.cond (.t 16) (.seq (.reg [.f 24 0 2, .l 25 24, .n 26 (.len false) [.t 25], .f 27 0 3, .l 28 27, .n 29 (.len false) [.t 28], .n 30 (.bin .lss) [.t 26, .t 29], .m 4 30]) .ret) .skip))))) (.seq (.reg [.f 31 0 2, .l 32 31, .f 33 0 3, .l 34 33, .n 35 (.call 137) [.t 32, .t 34, .c (.func (.func 138) [] [])], .n 36 (.bin .lss) [.t 35, .i 0], .m 4 36]) .ret)))
theorem A06 : chkF Tryz.prog 122 = some (37, K0, [.tmp 4]) := by kernel_rfl
abbrev Gq : Nat := 123
def Kt : IC := (.seq (.reg [.n 3 .box [.t 1], .n 4 .mov [.i 0]]) (.seq (.draw [0, 1, 3, 0, 8, 24, 63, 0, 128, 384, 0, 1024, 3072, 8064, 127, 32767] [.f 9 2 3, .f 10 0 9, .l 11 10, .f 12 0 3, .f 13 0 12, .l 14 13, .n 15 (.bin .sub) [.t 11, .t 14], .f 16 2 3, .f 17 1 16, .l 18 17, .f 19 0 3, .f 20 1 19, .l 21 20, .n 22 (.bin .sub) [.t 18, .t 21], .m 5 15, .m 6 22]) (.seq (.reg [.m 24 5, .m 25 5, .n 26 (.bin .mul) [.t 24, .t 25], .m 27 6, .m 28 6, .n 29 (.bin .mul) [.t 27, .t 28], .n 30 (.bin .add) [.t 26, .t 29], .n 31 (.call 13) [.t 30], .m 23 31, .x 32 0 23, .x 33 1 23, .m 7 32, .m 8 33]) (.seq (.seq (.reg [.m 34 7, .m 35 7, .n 36 (.bin .mul) [.t 34, .t 35], .m 37 5, .m 38 5, .n 39 (.bin .mul) [.t 37, .t 38], .m 40 6, .m 41 6, .n 42 (.bin .mul) [.t 40, .t 41], .n 43 (.bin .add) [.t 39, .t 42], .n 44 (.bin .lss) [.t 36, .t 43]]) (.cond (.t 44) (.reg [.m 45 7, .n 46 (.bin .add) [.t 45, .i 1], .m 7 46]) .skip)) (.seq (.draw [0, 0, 2, 6, 14, 30, 63, 127, 0, 256, 768, 1792, 3840, 8191, 16383] [.m 47 7, .m 48 0, .n 49 .nilck [.t 48], .f 50 0 49, .f 51 14 50, .l 52 51, .n 53 (.bin .add) [.t 47, .t 52], .n 54 (.bin .sub) [.t 53, .i 1], .m 55 0, .n 56 .nilck [.t 55], .f 57 0 56, .f 58 14 57, .l 59 58, .n 60 (.bin .quo) [.t 54, .t 59], .m 4 60]) .ret)))))
theorem Fh : chkF Tryz.prog 123 = some (61, Kt, [.tmp 4]) := by kernel_rfl
abbrev I3 : Nat := 125
def O0 : IC := (.seq (.reg [.v 3 2 0, .l 4 1, .n 5 (.call 126) [.t 3, .t 4]]) (.cond (.t 5) (.reg [.s (.store 1) [.t 2, .c (.bool true)]]) .skip))
theorem N3 : chkF Tryz.prog 125 = some (6, O0, []) := by kernel_rfl
abbrev Xa : Nat := 126
def Um : IC := (.seq (.reg [.n 2 .box [.t 0], .n 4 .mov [.c (.bool false)]]) (.seq (.reg [.m 11 1, .n 12 (.raw 23 709364197960805806535954221417868057589482646895666229214377372574784195187155792775812620392168069398644 0) [.t 11], .m 10 12, .x 13 0 10, .x 14 1 10, .m 5 13, .m 6 14]) (.seq (.draw [0, 1, 0, 7, 15, 0, 32, 0, 224, 480, 0, 1024, 3072, 8160, 16383, 0, 65535] [.f 15 0 2, .l 16 15, .m 17 5, .n 18 (.iaddrS 8) [.t 16, .t 17], .v 19 8 18, .f 20 0 2, .l 21 20, .m 22 6, .n 23 (.iaddrS 8) [.t 21, .t 22], .v 24 8 23, .m 25 1, .n 26 (.raw 23 636708156774907555556312310986568727012618701616773025705115260023035561224684592284497933938851951 0) [.t 25], .n 27 (.call 141) [.t 26], .n 28 (.call 140) [.t 24, .t 27], .n 29 (.call 139) [.t 19, .t 28], .n 7 (.alloc [.z, .z, .z, .z, .z, .z, .z, .z]) [], .s (.store 8) [.t 7, .t 29]]) (.seq (.draw [0, 1, 0, 7, 15, 0, 0, 64, 224, 511, 0, 2047] [.f 30 0 2, .l 31 30, .m 32 6, .n 33 (.iaddrS 8) [.t 31, .t 32], .v 34 8 33, .v 35 8 7, .m 36 1, .n 37 (.raw 23 636708156774907555556312310986568727012618701616773025705115260023035561224684592284497933938851951 0) [.t 36], .n 38 (.call 140) [.t 35, .t 37], .n 39 (.call 139) [.t 34, .t 38], .n 8 (.alloc [.z, .z, .z, .z, .z, .z, .z, .z]) [], .s (.store 8) [.t 8, .t 39]]) (.seq (.seq (.reg [.m 40 1, .v 41 8 7, .v 42 8 8, .n 43 (.call 142) [.t 40, .t 41, .t 42], .n 44 (.un .not) [.t 43]]) (.cond (.t 44) (.reg [.n 45 (.build [] []) [], .n 46 (.raw 20 237 0) [.t 45], .s (.raw 18 0 0) [.t 46]]) .skip)) (.seq (.draw [0, 0, 2, 0, 14, 30, 63, 127, 255, 255, 767, 255, 3839, 7935, 16383, 32767, 65535] [.v 47 8 7, .f 48 0 2, .l 49 48, .m 50 5, .n 51 (.iaddrS 8) [.t 49, .t 50], .v 52 8 51, .n 53 (.eqs true [0, 0, 0, 0, 0, 0, 0, 0]) [.t 47, .t 52], .m 54 53, .w 55 (.load 8 true) [.t 8] 54 false, .w 56 (.faddr 0) [.t 2] 54 false, .w 57 (.load 1 false) [.t 56] 54 false, .w 58 .mov [.t 6] 54 false, .w 59 (.iaddrS 8) [.t 57, .t 58] 54 false, .w 60 (.load 8 true) [.t 59] 54 false, .w 61 (.eqs true [0, 0, 0, 0, 0, 0, 0, 0]) [.t 55, .t 60] 54 false, .n 62 .pick [.t 54, .c (.bool true), .t 61], .m 9 62]) (.seq (.draw [0, 1, 0, 0, 8, 0, 0, 0, 71, 327, 1023, 2047] [.f 63 0 2, .l 64 63, .m 65 5, .f 66 0 2, .l 67 66, .m 68 6, .v 69 8 7, .v 70 8 8, .n 71 (.iaddrS 8) [.t 64, .t 65], .s (.store 8) [.t 71, .t 69], .n 72 (.iaddrS 8) [.t 67, .t 68], .s (.store 8) [.t 72, .t 70]]) (.seq (.reg [.m 73 9, .m 4 73]) .ret))))))))
theorem Sv : chkF Tryz.prog 126 = some (74, Um, [.tmp 4]) := by kernel_rfl
abbrev Cg : Nat := 127
def Ef : IC := (.seq (.reg [.n 4 .mov [.c (.bool false)]]) (.seq (.seq (.reg [.m 6 0, .n 7 (.len false) [.t 6], .m 8 1, .n 9 (.len false) [.t 8], .n 10 (.bin .neq) [.t 7, .t 9]]) (.cond (.t 10) (.seq (.reg [.n 4 .mov [.c (.bool false)]]) .ret) .skip)) (.seq (.seq (.reg [.m 11 0, .n 12 (.len false) [.t 11], .n 13 .mov [.i 0]]) (.block 0 (.loop (.seq (.reg [.n 14 (.bin .lss) [.t 13, .t 12]]) (.seq (.cond (.t 14) .skip (.exit 0)) (.seq (.block 1 (.seq (.reg [.m 15 13, .m 5 15]) (.seq (.draw [0, 0, 3, 7, 0, 0, 48, 112, 255] [.m 16 0, .m 17 5, .n 18 (.iaddrS 8) [.t 16, .t 17], .v 19 8 18, .m 20 1, .m 21 5, .n 22 (.iaddrS 8) [.t 20, .t 21], .v 23 8 22, .n 24 (.eqs true [0, 0, 0, 0, 0, 0, 0, 0]) [.t 19, .t 23]]) (.cond (.t 24) (.seq (.reg [.n 4 .mov [.c (.bool false)]]) .ret) .skip)))) (.reg [.n 25 (.bin .add) [.t 13, .i 1], .m 13 25]))))))) (.seq (.reg [.n 4 .mov [.c (.bool true)]]) .ret))))
theorem E9 : chkF Tryz.prog 127 = some (26, Ef, [.tmp 4]) := by kernel_rfl
abbrev Kb : Nat := 128
def Jd : IC := (.seq (.reg [.n 4 .mov [.i 0]]) (.seq (.seq (.reg [.m 6 0, .n 7 (.len false) [.t 6], .n 8 .mov [.i 0]]) (.block 0 (.loop (.seq (.reg [.n 9 (.bin .lss) [.t 8, .t 7]]) (.seq (.cond (.t 9) .skip (.exit 0)) (.seq (.block 1 (.seq (.reg [.m 10 8, .m 5 10]) (.seq (.reg [.m 11 1, .m 12 0, .m 13 5, .n 14 (.iaddrS 1) [.t 12, .t 13], .l 15 14, .n 16 (.bin .eql) [.t 11, .t 15]]) (.cond (.t 16) (.seq (.reg [.m 17 5, .m 4 17]) .ret) .skip)))) (.reg [.n 18 (.bin .add) [.t 8, .i 1], .m 8 18]))))))) (.seq (.reg [.n 4 .mov [.i (-1)]]) .ret)))
theorem Io : chkF Tryz.prog 128 = some (19, Jd, [.tmp 4]) := by kernel_rfl
abbrev Hq : Nat := 129
def H8 : IC := (.seq (.reg [.n 4 .mov [.i 0]]) (.seq (.seq (.reg [.m 6 0, .n 7 (.len false) [.t 6], .n 8 .mov [.i 0]]) (.block 0 (.loop (.seq (.reg [.n 9 (.bin .lss) [.t 8, .t 7]]) (.seq (.cond (.t 9) .skip (.exit 0)) (.seq (.block 1 (.seq (.reg [.m 10 8, .m 5 10]) (.seq (.reg [.m 11 1, .m 12 0, .m 13 5, .n 14 (.iaddrS 1) [.t 12, .t 13], .l 15 14, .n 16 .callv [.t 11, .t 15]]) (.cond (.t 16) (.seq (.reg [.m 17 5, .m 4 17]) .ret) .skip)))) (.reg [.n 18 (.bin .add) [.t 8, .i 1], .m 8 18]))))))) (.seq (.reg [.n 4 .mov [.i (-1)]]) .ret)))
theorem Gv : chkF Tryz.prog 129 = some (19, H8, [.tmp 4]) := by kernel_rfl
abbrev Vw : Nat := 130
def Sh : IC := (.seq (.reg [.n 1 .box [.t 0], .n 2 .mov [.c (.bool false)]]) (.seq (.seq (.reg [.f 7 0 1, .l 8 7, .n 9 (.len false) [.t 8], .n 10 (.call 119) [.t 9, .i 1, .i 5], .n 11 (.un .not) [.t 10], .m 12 11, .w 13 (.faddr 1) [.t 1] 12 false, .w 14 (.load 1 false) [.t 13] 12 false, .w 15 (.len false) [.t 14] 12 false, .w 16 (.bin .gtr) [.t 15, .i 4] 12 false, .n 17 .pick [.t 12, .c (.bool true), .t 16], .m 18 17, .w 19 (.faddr 2) [.t 1] 18 false, .w 20 (.load 1 false) [.t 19] 18 false, .w 21 (.len false) [.t 20] 18 false, .w 22 (.bin .gtr) [.t 21, .i 4] 18 false, .n 23 .pick [.t 18, .c (.bool true), .t 22], .m 24 23, .w 25 (.faddr 16) [.t 1] 24 false, .w 26 (.load 1 false) [.t 25] 24 false, .w 27 (.len false) [.t 26] 24 false, .w 28 (.faddr 0) [.t 1] 24 false, .w 29 (.load 1 false) [.t 28] 24 false, .w 30 (.len false) [.t 29] 24 false, .w 31 (.bin .neq) [.t 27, .t 30] 24 false, .n 32 .pick [.t 24, .c (.bool true), .t 31]]) (.cond (.t 32) (.seq (.reg [.n 2 .mov [.c (.bool false)]]) .ret) .skip)) (.seq (.seq (.reg [.f 33 0 1, .l 34 33, .n 35 (.len false) [.t 34], .n 36 .mov [.i 0]]) (.block 0 (.loop (.seq (.reg [.n 37 (.bin .lss) [.t 36, .t 35]]) (.seq (.cond (.t 37) .skip (.exit 0)) (.seq (.block 1 (.seq (.reg [.m 38 36, .n 39 (.iaddrS 4) [.t 34, .t 36], .v 40 4 39, .n 4 (.alloc [.z, .z, .z, .z]) [], .m 3 38, .s (.store 4) [.t 4, .t 40]]) (.seq (.reg [.f 41 0 4, .v 42 2 41, .n 43 (.call 16) [.t 42], .n 44 (.bin .neq) [.t 43, .i 0], .m 45 44, .w 46 (.faddr 2) [.t 4] 45 false, .w 47 (.load 2 true) [.t 46] 45 false, .w 48 (.call 16) [.t 47] 45 false, .w 49 (.bin .neq) [.t 48, .i 0] 45 false, .n 50 .pick [.t 45, .c (.bool true), .t 49], .m 51 50, .w 52 (.faddr 0) [.t 4] 51 false, .w 53 (.load 2 true) [.t 52] 51 false, .w 54 (.faddr 2) [.t 4] 51 false, .w 55 (.load 2 true) [.t 54] 51 false, .w 56 (.eqs false [0, 0]) [.t 53, .t 55] 51 false, .n 57 .pick [.t 51, .c (.bool true), .t 56], .m 58 57, .w 59 (.faddr 16) [.t 1] 58 false, .w 60 (.load 1 false) [.t 59] 58 false, .w 61 .mov [.t 3] 58 false, .w 62 (.iaddrS 1) [.t 60, .t 61] 58 false, .w 63 (.load 1 false) [.t 62] 58 false, .w 64 (.call 143) [.t 63] 58 false, .w 65 (.un .not) [.t 64] 58 false, .n 66 .pick [.t 58, .c (.bool true), .t 65]]) (.cond (.t 66) (.seq (.reg [.n 2 .mov [.c (.bool false)]]) .ret) .skip)))) (.reg [.n 67 (.bin .add) [.t 36, .i 1], .m 36 67]))))))) (.seq (.seq (.reg [.f 68 1 1, .l 69 68, .n 70 (.call 72) [.t 69, .c (.func (.func 144) [] [])], .m 71 70, .w 72 (.faddr 2) [.t 1] 71 false, .w 73 (.load 1 false) [.t 72] 71 false, .w 74 (.call 145) [.t 73, .c (.func (.func 146) [] [])] 71 false, .n 75 .pick [.t 71, .c (.bool true), .t 74]]) (.cond (.t 75) (.seq (.reg [.n 2 .mov [.c (.bool false)]]) .ret) .skip)) (.seq (.seq (.reg [.f 77 3 1, .v 78 8 77, .n 79 (.call 40) [.t 78], .m 76 79, .x 80 0 76, .x 81 1 76, .n 5 (.alloc [.z, .z, .z, .z, .z, .z, .z, .z]) [], .s (.store 8) [.t 5, .t 80], .m 6 81]) (.seq (.reg [.m 82 6, .n 83 (.bin .neq) [.t 82, .i 0], .m 84 83, .w 85 (.faddr 3) [.t 1] 84 false, .w 86 (.faddr 0) [.t 85] 84 false, .w 87 (.faddr 1) [.t 86] 84 false, .w 88 (.load 1 false) [.t 87] 84 false, .w 89 (.faddr 3) [.t 1] 84 false, .w 90 (.faddr 0) [.t 89] 84 false, .w 91 (.faddr 0) [.t 90] 84 false, .w 92 (.load 1 false) [.t 91] 84 false, .w 93 (.bin .sub) [.t 88, .t 92] 84 false, .w 94 (.bin .gtr) [.t 93, .i 256] 84 false, .n 95 .pick [.t 84, .c (.bool true), .t 94], .m 96 95, .w 97 (.faddr 3) [.t 1] 96 false, .w 98 (.faddr 2) [.t 97] 96 false, .w 99 (.faddr 1) [.t 98] 96 false, .w 100 (.load 1 false) [.t 99] 96 false, .w 101 (.faddr 3) [.t 1] 96 false, .w 102 (.faddr 2) [.t 101] 96 false, .w 103 (.faddr 0) [.t 102] 96 false, .w 104 (.load 1 false) [.t 103] 96 false, .w 105 (.bin .sub) [.t 100, .t 104] 96 false, .w 106 (.bin .gtr) [.t 105, .i 256] 96 false, .n 107 .pick [.t 96, .c (.bool true), .t 106]]) (.cond (.t 107) (.seq (.reg [.n 2 .mov [.c (.bool false)]]) .ret) .skip))) (.seq (.reg [.f 108 11 1, .v 109 3 108, .n 110 (.call 92) [.t 109], .m 111 110, .w 112 (.faddr 14) [.t 1] 111 true, .w 113 (.load 1 false) [.t 112] 111 true, .w 114 (.call 119) [.t 113, .i 1, .i 1000] 111 true, .n 115 .pick [.t 111, .t 114, .c (.bool false)], .m 116 115, .w 117 (.faddr 15) [.t 1] 116 true, .w 118 (.load 1 false) [.t 117] 116 true, .w 119 (.call 119) [.t 118, .i 0, .i 1000] 116 true, .n 120 .pick [.t 116, .t 119, .c (.bool false)], .m 2 120]) .ret))))))
theorem Rb : chkF Tryz.prog 130 = some (121, Sh, [.tmp 2]) := by kernel_rfl
abbrev Cn : Nat := 131
def Jh : IC := (.seq (.reg [.n 5 .box [.t 0]]) (.seq (.draw [0, 0, 2, 6, 15, 0, 63] [.l 9 1, .f 10 0 2, .l 11 10, .n 12 (.bin .shl) [.i 1, .t 11], .n 13 (.bin .andNot) [.t 9, .t 12], .n 6 (.alloc [.z]) [], .s (.store 1) [.t 6, .t 13]]) (.seq (.seq (.reg [.l 14 6, .n 15 (.bin .eql) [.t 14, .i 0]]) (.cond (.t 15) (.seq (.draw [0, 0, 2, 7] [.l 16 5, .v 17 2 3, .n 18 (.call 63) [.t 17], .n 19 .callv [.t 16, .t 18]]) .ret) .skip)) (.seq (.draw [0, 0, 2, 6, 14, 30, 62, 126, 254, 510, 1023] [.v 20 2 3, .f 21 0 3, .l 22 21, .n 23 .nilck [.t 22], .f 24 0 23, .f 25 0 24, .l 26 25, .n 27 (.len false) [.t 26], .n 28 (.bin .shl) [.i 1, .t 27], .n 29 (.bin .sub) [.t 28, .i 1], .n 30 (.call 57) [.t 20, .t 29]]) (.block 0 (.range (.t 30) [31] (.reg [.n 7 (.alloc [.z, .z]) [], .s (.store 2) [.t 7, .t 31]]) (.block 1 (.seq (.draw [0, 0, 0, 0, 14, 31, 63, 127] [.l 32 4, .v 33 2 3, .l 34 6, .v 35 2 7, .n 36 (.call 58) [.t 33, .t 34, .t 35], .n 37 (.iaddrS 1) [.t 32, .t 36], .l 38 37, .m 8 38]) (.seq (.draw [0, 1, 3, 7, 7, 7, 7, 119, 255, 511, 1023] [.m 39 8, .n 40 (.bin .neq) [.t 39, .i (-1)], .m 41 40, .w 42 (.load 1 false) [.t 5] 41 true, .w 43 (.load 2 true) [.t 3] 41 true, .w 44 (.load 2 true) [.t 7] 41 true, .w 45 .mov [.t 8] 41 true, .w 46 (.call 62) [.t 43, .t 44, .t 45] 41 true, .w 47 .callv [.t 42, .t 46] 41 true, .w 48 (.un .not) [.t 47] 41 true, .n 49 .pick [.t 41, .t 48, .c (.bool false)]]) (.cond (.t 49) .ret .skip))))))))))
theorem It : chkF Tryz.prog 131 = some (50, Jh, []) := by kernel_rfl
abbrev Bm : Nat := 132
def Ho : IC := (.seq (.reg [.n 4 .box [.t 0]]) (.seq (.reg [.n 7 (.mkfunc (.func 133) 0) [.t 1, .t 2, .t 3, .t 4], .n 5 (.alloc [.nilf]) [], .s (.store 1) [.t 5, .t 7]]) (.seq (.seq (.reg [.f 8 0 2, .v 9 2 8, .f 10 0 3, .v 11 2 10, .n 12 (.eqs false [0, 0]) [.t 9, .t 11], .m 13 12, .w 14 (.load 1 false) [.t 5] 13 true, .w 15 (.faddr 0) [.t 2] 13 true, .w 16 (.load 2 true) [.t 15] 13 true, .w 17 (.mkslice 2 30) [.t 16] 13 true, .w 18 .callv [.t 14, .t 17] 13 true, .w 19 (.un .not) [.t 18] 13 true, .n 20 .pick [.t 13, .t 19, .c (.bool false)]]) (.cond (.t 20) .ret .skip)) (.seq (.reg [.n 6 (.alloc [.nilf]) []]) (.seq (.reg [.n 21 (.mkfunc (.func 136) 0) [.t 5, .t 3, .t 1, .t 6], .s (.store 1) [.t 6, .t 21]]) (.reg [.l 22 6, .f 23 0 2, .v 24 2 23, .n 25 (.mkslice 2 30) [.t 24], .n 26 .callv [.t 22, .t 25, .i 0]]))))))
theorem E3 : chkF Tryz.prog 132 = some (27, Ho, []) := by kernel_rfl
abbrev Bx : Nat := 133
def Gt : IC := (.seq (.reg [.n 6 .mov [.c (.bool false)]]) (.seq (.reg [.l 10 1, .m 11 0, .f 12 2 2, .l 13 12, .f 14 2 3, .l 15 14, .n 16 (.call 134) [.t 10, .t 11, .t 13, .t 15], .m 9 16, .x 17 0 9, .x 18 1 9, .m 7 17, .m 8 18]) (.seq (.draw [0, 1, 3, 7, 7, 23, 7, 119, 255, 511, 1023] [.m 19 8, .n 20 (.un .not) [.t 19], .m 21 20, .w 22 (.load 1 false) [.t 4] 21 false, .w 23 .mov [.t 0] 21 false, .w 24 (.call 135) [.t 23] 21 false, .w 25 .mov [.t 7] 21 false, .w 26 (.build [.nils, .z] [(0, 1), (1, 1)]) [.t 24, .t 25] 21 false, .w 27 .callv [.t 22, .t 26] 21 false, .n 28 .pick [.t 21, .c (.bool true), .t 27], .m 6 28]) .ret)))
theorem C9 : chkF Tryz.prog 133 = some (29, Gt, [.tmp 6]) := by kernel_rfl
abbrev Ex : Nat := 134
def Ms : IC := (.seq (.reg [.n 8 .mov [.i 0], .n 9 .mov [.c (.bool false)]]) (.seq (.reg [.n 10 .mov [.i 0]]) (.seq (.seq (.reg [.n 11 .mov [.i 1]]) (.block 0 (.loop (.seq (.seq (.reg [.m 14 11, .m 15 1, .n 16 (.len false) [.t 15], .n 17 (.bin .lss) [.t 14, .t 16]]) (.cond (.t 17) .skip (.exit 0))) (.seq (.block 1 (.seq (.draw [0, 0, 2, 7, 15, 0, 0, 96, 224, 511, 0, 2047] [.m 20 1, .m 21 11, .n 22 (.bin .sub) [.t 21, .i 1], .n 23 (.iaddrS 2) [.t 20, .t 22], .v 24 2 23, .m 25 1, .m 26 11, .n 27 (.iaddrS 2) [.t 25, .t 26], .v 28 2 27, .n 29 (.build [.z, .z, .z, .z] [(0, 2), (2, 2)]) [.t 24, .t 28], .n 12 (.alloc [.z, .z, .z, .z]) [], .s (.store 4) [.t 12, .t 29]]) (.seq (.seq (.reg [.f 30 0 12, .v 31 2 30, .f 32 2 12, .v 33 2 32, .n 34 (.eqs false [0, 0]) [.t 31, .t 33], .m 35 34, .w 36 .mov [.t 0] 35 false, .w 37 (.load 4 true) [.t 12] 35 false, .w 38 (.call 27) [.t 36, .t 37] 35 false, .w 39 (.un .not) [.t 38] 35 false, .n 40 .pick [.t 35, .c (.bool true), .t 39]]) (.cond (.t 40) (.seq (.reg [.n 8 .mov [.i 0], .n 9 .mov [.c (.bool false)]]) .ret) .skip)) (.seq (.reg [.f 41 2 12, .f 42 0 41, .l 43 42, .f 44 0 12, .f 45 0 44, .l 46 45, .n 47 (.bin .sub) [.t 43, .t 46], .f 48 2 12, .f 49 1 48, .l 50 49, .f 51 0 12, .f 52 1 51, .l 53 52, .n 54 (.bin .sub) [.t 50, .t 53], .n 55 (.build [.z, .z] [(0, 1), (1, 1)]) [.t 47, .t 54], .n 56 (.call 118) [.t 55], .m 13 56]) (.seq (.draw [0, 0, 0, 6, 0, 16, 48, 112, 240, 0, 0, 1550, 4094, 8190, 16383, 32767] [.m 57 10, .m 58 0, .v 59 4 12, .n 60 (.call 123) [.t 58, .t 59], .m 61 0, .n 62 .nilck [.t 61], .f 63 0 62, .f 64 15 63, .l 65 64, .m 66 2, .m 67 13, .n 68 (.call 147) [.t 66, .t 67], .n 69 (.bin .mul) [.t 65, .t 68], .n 70 (.bin .add) [.t 60, .t 69], .n 71 (.bin .add) [.t 57, .t 70], .m 10 71]) (.reg [.m 72 13, .m 2 72])))))) (.reg [.m 18 11, .n 19 (.bin .add) [.t 18, .i 1], .m 11 19])))))) (.seq (.draw [0, 0, 2, 6, 14, 30, 0, 0, 192, 510, 1023, 2047, 4095] [.m 73 10, .m 74 0, .n 75 .nilck [.t 74], .f 76 0 75, .f 77 15 76, .l 78 77, .m 79 2, .m 80 3, .n 81 (.call 147) [.t 79, .t 80], .n 82 (.bin .mul) [.t 78, .t 81], .n 83 (.bin .add) [.t 73, .t 82], .m 8 83, .n 9 .mov [.c (.bool true)]]) .ret))))
theorem E4 : chkF Tryz.prog 134 = some (84, Ms, [.tmp 8, .tmp 9]) := by kernel_rfl
abbrev Bu : Nat := 135
def Et : IC := (.seq (.reg [.n 2 .mov [.c .nils]]) (.seq (.seq (.reg [.m 3 0, .n 4 (.raw 8 0 24) [.t 3, .c .nils]]) (.cond (.t 4) (.seq (.reg [.n 2 .mov [.c .nils]]) .ret) .skip)) (.seq (.reg [.n 5 (.mkslice 2 30) [], .m 6 0, .n 7 (.append 2 16 30) [.t 5, .t 6], .m 2 7]) .ret)))
theorem Bl : chkF Tryz.prog 135 = some (8, Et, [.tmp 2]) := by kernel_rfl
abbrev Aj : Nat := 136
def Gs : IC := (.seq (.reg [.n 8 .mov [.c (.bool false)]]) (.seq (.seq (.draw [0, 0, 2, 0, 8, 24, 62, 127, 255] [.l 11 2, .m 12 0, .n 13 (.call 135) [.t 12], .f 14 0 3, .v 15 2 14, .n 16 (.mkslice 2 30) [.t 15], .n 17 (.append 2 16 30) [.t 13, .t 16], .n 18 .callv [.t 11, .t 17], .n 19 (.un .not) [.t 18]]) (.cond (.t 19) (.seq (.reg [.n 8 .mov [.c (.bool false)]]) .ret) .skip)) (.seq (.seq (.reg [.l 20 4, .n 21 .nilck [.t 20], .f 22 0 21, .f 23 2 22, .l 24 23, .n 25 (.len false) [.t 24], .n 26 .mov [.i 0]]) (.block 0 (.loop (.seq (.reg [.n 27 (.bin .lss) [.t 26, .t 25]]) (.seq (.cond (.t 27) .skip (.exit 0)) (.seq (.block 1 (.seq (.reg [.m 28 26, .n 29 (.iaddrS 2) [.t 24, .t 26], .v 30 2 29, .n 10 (.alloc [.z, .z]) [], .m 9 28, .s (.store 2) [.t 10, .t 30]]) (.seq (.draw [0, 0, 2, 7, 15, 31, 63, 63, 191, 63, 575, 1983, 63, 63, 8255, 28735, 65535, 131071, 262143] [.m 31 1, .m 32 9, .n 33 (.bin .shl) [.i 1, .t 32], .n 34 (.bin .and) [.t 31, .t 33], .n 35 (.bin .eql) [.t 34, .i 0], .m 36 35, .w 37 (.load 1 false) [.t 5] 36 true, .w 38 .mov [.t 0] 36 true, .w 39 (.call 135) [.t 38] 36 true, .w 40 (.load 2 true) [.t 10] 36 true, .w 41 (.mkslice 2 30) [.t 40] 36 true, .w 42 (.append 2 16 30) [.t 39, .t 41] 36 true, .w 43 .mov [.t 1] 36 true, .w 44 .mov [.t 9] 36 true, .w 45 (.bin .shl) [.i 1, .t 44] 36 true, .w 46 (.bin .or) [.t 43, .t 45] 36 true, .w 47 .callv [.t 37, .t 42, .t 46] 36 true, .w 48 (.un .not) [.t 47] 36 true, .n 49 .pick [.t 36, .t 48, .c (.bool false)]]) (.cond (.t 49) (.seq (.reg [.n 8 .mov [.c (.bool false)]]) .ret) .skip)))) (.reg [.n 50 (.bin .add) [.t 26, .i 1], .m 26 50]))))))) (.seq (.reg [.n 8 .mov [.c (.bool true)]]) .ret))))
theorem Dh : chkF Tryz.prog 136 = some (51, Gs, [.tmp 8]) := by kernel_rfl
abbrev A3g : Nat := 139
def A7x : IC := (.seq (.reg [.n 2 .box [.t 0], .n 3 .box [.t 1], .n 4 (.alloc [.z, .z, .z, .z, .z, .z, .z, .z]) []]) (.seq (.reg [.v 8 8 2, .v 9 8 3, .n 10 (.call 148) [.t 8, .t 9], .m 7 10, .x 11 0 7, .x 12 1 7, .n 5 (.alloc [.z, .z, .z, .z, .z, .z, .z, .z]) [], .s (.store 8) [.t 5, .t 11], .m 6 12]) (.seq (.seq (.reg [.m 13 6, .n 14 (.bin .neq) [.t 13, .i 0]]) (.cond (.t 14) (.reg [.n 15 (.build [] []) [], .n 16 (.raw 20 237 0) [.t 15], .s (.raw 18 0 0) [.t 16]]) .skip)) (.seq (.reg [.v 17 8 5, .s (.store 8) [.t 4, .t 17]]) .ret))))
theorem Ve : chkF Tryz.prog 139 = some (18, A7x, [.cell 4 28]) := by kernel_rfl
abbrev A3e : Nat := 140
def Zn : IC := (.seq (.reg [.n 2 .box [.t 0], .n 3 .box [.t 1], .n 4 (.alloc [.z, .z, .z, .z, .z, .z, .z, .z]) []]) (.seq (.draw [0, 1, 0, 4, 15, 0, 32, 0, 128, 511, 0, 1024, 0, 4096, 16383, 0, 32768, 0, 131072, 524287, 1048575, 2097151] [.f 5 0 2, .v 6 2 5, .f 7 0 3, .v 8 2 7, .n 9 (.call 149) [.t 6, .t 8, .i 32768], .f 10 2 2, .v 11 2 10, .f 12 2 3, .v 13 2 12, .n 14 (.call 149) [.t 11, .t 13, .i 32768], .f 15 4 2, .v 16 2 15, .f 17 4 3, .v 18 2 17, .n 19 (.call 149) [.t 16, .t 18, .i 65536], .f 20 6 2, .v 21 2 20, .f 22 6 3, .v 23 2 22, .n 24 (.call 149) [.t 21, .t 23, .i 65536], .n 25 (.build [.z, .z, .z, .z, .z, .z, .z, .z] [(0, 2), (2, 2), (4, 2), (6, 2)]) [.t 9, .t 14, .t 19, .t 24], .s (.store 8) [.t 4, .t 25]]) .ret))
theorem Wu : chkF Tryz.prog 140 = some (26, Zn, [.cell 4 28]) := by kernel_rfl
abbrev A9e : Nat := 141
def A49 : IC := (.seq (.reg [.n 1 .box [.t 0], .n 2 (.alloc [.z, .z, .z, .z, .z, .z, .z, .z]) []]) (.seq (.reg [.n 3 .mov [.c (.func (.func 150) [] [])]]) (.seq (.draw [0, 0, 2, 7, 0, 0, 32, 127, 0, 0, 512, 2047, 0, 0, 8192, 32767, 65535, 131071] [.m 4 3, .f 5 0 1, .v 6 2 5, .n 7 .callv [.t 4, .t 6], .m 8 3, .f 9 2 1, .v 10 2 9, .n 11 .callv [.t 8, .t 10], .m 12 3, .f 13 4 1, .v 14 2 13, .n 15 .callv [.t 12, .t 14], .m 16 3, .f 17 6 1, .v 18 2 17, .n 19 .callv [.t 16, .t 18], .n 20 (.build [.z, .z, .z, .z, .z, .z, .z, .z] [(0, 2), (2, 2), (4, 2), (6, 2)]) [.t 7, .t 11, .t 15, .t 19], .s (.store 8) [.t 2, .t 20]]) .ret)))
theorem A2j : chkF Tryz.prog 141 = some (21, A49, [.cell 2 28]) := by kernel_rfl
abbrev X9 : Nat := 142
def Ul : IC := (.seq (.reg [.n 4 .box [.t 1], .n 5 .box [.t 2], .n 6 .mov [.c (.bool false)]]) (.seq (.reg [.m 11 0]) (.block 0 (.seq (.reg [.n 12 (.raw 22 204 231) [.t 11], .x 13 1 12, .x 14 0 12]) (.cond (.t 13) (.seq (.reg [.n 7 (.alloc [.z, .z, .z, .z]) [], .s (.store 4) [.t 7, .t 14]]) (.seq (.reg [.v 16 8 4, .v 17 8 5, .n 18 (.call 151) [.t 16, .t 17], .m 15 18, .x 19 0 15, .x 20 1 15, .n 8 (.alloc [.z, .z]) [], .s (.store 2) [.t 8, .t 19], .m 9 20]) (.seq (.reg [.f 21 0 8, .l 22 21, .f 23 2 7, .f 24 1 23, .l 25 24, .n 26 (.bin .leq) [.t 22, .t 25], .m 27 26, .w 28 (.faddr 2) [.t 7] 27 true, .w 29 (.faddr 0) [.t 28] 27 true, .w 30 (.load 1 false) [.t 29] 27 true, .w 31 (.faddr 1) [.t 8] 27 true, .w 32 (.load 1 false) [.t 31] 27 true, .w 33 (.bin .leq) [.t 30, .t 32] 27 true, .n 34 .pick [.t 27, .t 33, .c (.bool false)], .m 6 34]) .ret))) (.seq (.reg [.m 10 11]) (.seq (.reg [.n 6 .mov [.c (.bool true)]]) .ret)))))))
theorem Su : chkF Tryz.prog 142 = some (35, Ul, [.tmp 6]) := by kernel_rfl
abbrev T5 : Nat := 143
def Qy : IC := (.seq (.reg [.n 2 .mov [.c (.bool false)]]) (.seq (.seq (.reg [.m 5 0, .n 6 (.len false) [.t 5], .n 7 .mov [.i 0]]) (.block 0 (.loop (.seq (.reg [.n 8 (.bin .lss) [.t 7, .t 6]]) (.seq (.cond (.t 8) .skip (.exit 0)) (.seq (.block 1 (.seq (.reg [.m 9 7, .n 10 (.iaddrS 2) [.t 5, .t 7], .v 11 2 10, .n 4 (.alloc [.z, .z]) [], .m 3 9, .s (.store 2) [.t 4, .t 11]]) (.seq (.draw [0, 1, 3, 7, 15, 31, 15, 79, 255, 511, 1023, 2047, 4095, 8191, 16383, 32767, 65535, 32767, 32767, 294911, 950271, 1998847, 4095999, 8388607, 16777215, 33554431] [.f 12 0 4, .l 13 12, .n 14 (.bin .lss) [.t 13, .i 0], .m 15 14, .w 16 (.faddr 1) [.t 4] 15 false, .w 17 (.load 1 false) [.t 16] 15 false, .w 18 (.faddr 0) [.t 4] 15 false, .w 19 (.load 1 false) [.t 18] 15 false, .w 20 (.call 119) [.t 17, .t 19, .i 1048576] 15 false, .w 21 (.un .not) [.t 20] 15 false, .n 22 .pick [.t 15, .c (.bool true), .t 21], .m 23 22, .w 24 .mov [.t 3] 23 false, .w 25 (.bin .gtr) [.t 24, .i 0] 23 false, .w 26 .mov [.t 25] 23 false, .w 27 (.faddr 0) [.t 4] 26 true, .w 28 (.load 1 false) [.t 27] 26 true, .w 29 .mov [.t 0] 26 true, .w 30 .mov [.t 3] 26 true, .w 31 (.bin .sub) [.t 30, .i 1] 26 true, .w 32 (.iaddrS 2) [.t 29, .t 31] 26 true, .w 33 (.faddr 1) [.t 32] 26 true, .w 34 (.load 1 false) [.t 33] 26 true, .w 35 (.bin .leq) [.t 28, .t 34] 26 true, .w 36 .pick [.t 26, .t 35, .c (.bool false)] 23 false, .n 37 .pick [.t 23, .c (.bool true), .t 36]]) (.cond (.t 37) (.seq (.reg [.n 2 .mov [.c (.bool false)]]) .ret) .skip)))) (.reg [.n 38 (.bin .add) [.t 7, .i 1], .m 7 38]))))))) (.seq (.reg [.m 39 0, .n 40 (.len false) [.t 39], .n 41 (.bin .leq) [.t 40, .i 4], .m 2 41]) .ret)))
theorem Pq : chkF Tryz.prog 143 = some (42, Qy, [.tmp 2]) := by kernel_rfl
abbrev Rl : Nat := 144
def Pb : IC := (.seq (.reg [.n 2 .mov [.c (.bool false)]]) (.seq (.reg [.m 3 0, .n 4 (.call 31) [.t 3], .n 5 (.bin .neq) [.t 4, .i 0], .m 2 5]) .ret))
theorem Od : chkF Tryz.prog 144 = some (6, Pb, [.tmp 2]) := by kernel_rfl
abbrev D3 : Nat := 145
def Cz : IC := (.seq (.reg [.n 4 .mov [.c (.bool false)]]) (.seq (.reg [.m 5 0, .m 6 1, .n 7 (.call 152) [.t 5, .t 6], .n 8 (.bin .geq) [.t 7, .i 0], .m 4 8]) .ret))
theorem Cx : chkF Tryz.prog 145 = some (9, Cz, [.tmp 4]) := by kernel_rfl
abbrev Rk : Nat := 146
def Pa : IC := (.seq (.reg [.n 1 .box [.t 0], .n 2 .mov [.c (.bool false)]]) (.seq (.reg [.v 3 2 1, .n 4 (.call 16) [.t 3], .n 5 (.bin .neq) [.t 4, .i 0], .m 2 5]) .ret))
theorem Oc : chkF Tryz.prog 146 = some (6, Pa, [.tmp 2]) := by kernel_rfl
abbrev Lp : Nat := 147
def Se : IC := (.seq (.reg [.n 4 .mov [.i 0]]) (.seq (.reg [.m 6 1, .m 7 0, .n 8 (.bin .sub) [.t 6, .t 7], .n 9 (.bin .add) [.t 8, .i 8], .n 10 (.bin .rem) [.t 9, .i 8], .m 5 10]) (.seq (.reg [.m 11 5, .m 12 5, .n 13 (.bin .sub) [.i 8, .t 12], .n 14 (.minmax false) [.t 11, .t 13], .m 4 14]) .ret)))
theorem Ir : chkF Tryz.prog 147 = some (15, Se, [.tmp 4]) := by kernel_rfl
abbrev Qc : Nat := 148
def Wa : IC := (.seq (.reg [.n 2 .box [.t 0], .n 3 .box [.t 1], .n 4 (.alloc [.z, .z, .z, .z, .z, .z, .z, .z]) [], .n 5 .mov [.i 0]]) (.seq (.seq (.draw [0, 1, 0, 7, 15, 31, 63] [.v 7 8 2, .n 8 (.call 45) [.t 7], .v 9 8 3, .n 10 (.call 45) [.t 9], .n 11 (.mkslice 1 53) [.t 8, .t 10], .n 12 (.call 30) [.t 11], .m 6 12]) (.seq (.reg [.m 13 6, .n 14 (.bin .neq) [.t 13, .i 0]]) (.cond (.t 14) (.seq (.reg [.n 15 (.build [.z, .z, .z, .z, .z, .z, .z, .z] []) [], .m 16 6, .s (.store 8) [.t 4, .t 15], .m 5 16]) .ret) .skip))) (.seq (.draw [0, 1, 0, 7, 15, 31, 63, 63, 255, 511, 511, 2047, 4095] [.v 17 8 2, .n 18 (.call 46) [.t 17], .v 19 8 3, .n 20 (.call 46) [.t 19], .n 21 (.call 49) [.t 18, .t 20, .c (.func (.func 153) [] [])], .n 22 (.call 47) [.t 21], .x 23 0 22, .x 24 1 22, .n 25 (.call 82) [.t 23, .t 24], .x 26 0 25, .x 27 1 25, .s (.store 8) [.t 4, .t 26], .m 5 27]) .ret)))
theorem He : chkF Tryz.prog 148 = some (28, Wa, [.cell 4 28, .tmp 5]) := by kernel_rfl
abbrev A5e : Nat := 149
def A1m : IC := (.seq (.reg [.n 3 .box [.t 0], .n 4 .box [.t 1], .n 6 (.alloc [.z, .z]) []]) (.seq (.reg [.f 7 0 3, .l 8 7, .f 9 0 4, .l 10 9, .n 11 (.bin .add) [.t 8, .t 10], .m 12 2, .n 13 (.un .neg) [.t 12], .n 14 (.minmax true) [.t 11, .t 13], .f 15 1 3, .l 16 15, .f 17 1 4, .l 18 17, .n 19 (.bin .add) [.t 16, .t 18], .m 20 2, .n 21 (.minmax false) [.t 19, .t 20], .n 22 (.build [.z, .z] [(0, 1), (1, 1)]) [.t 14, .t 21], .s (.store 2) [.t 6, .t 22]]) .ret))
theorem A03 : chkF Tryz.prog 149 = some (23, A1m, [.cell 6 26]) := by kernel_rfl
abbrev A3h : Nat := 150
def Zp : IC := (.seq (.reg [.n 1 .box [.t 0], .n 2 (.alloc [.z, .z]) []]) (.seq (.reg [.f 3 1 1, .l 4 3, .n 5 (.un .neg) [.t 4], .f 6 0 1, .l 7 6, .n 8 (.un .neg) [.t 7], .n 9 (.build [.z, .z] [(0, 1), (1, 1)]) [.t 5, .t 8], .s (.store 2) [.t 2, .t 9]]) .ret))
theorem Wv : chkF Tryz.prog 150 = some (10, Zp, [.cell 2 26]) := by kernel_rfl
abbrev A3a : Nat := 151
def Zi : IC := (.seq (.reg [.n 2 .box [.t 0], .n 3 .box [.t 1], .n 4 (.alloc [.z, .z]) [], .n 5 .mov [.i 0]]) (.seq (.reg [.v 12 8 2, .v 13 8 3, .n 14 (.call 154) [.t 12, .t 13], .m 11 14, .x 15 0 11, .x 16 1 11, .x 17 2 11, .n 6 (.alloc [.z, .z, .z, .z, .z, .z, .z, .z]) [], .n 7 (.alloc [.z, .z, .z, .z, .z, .z, .z, .z]) [], .s (.store 8) [.t 6, .t 15], .s (.store 8) [.t 7, .t 16], .m 8 17]) (.seq (.seq (.reg [.m 18 8, .n 19 (.bin .neq) [.t 18, .i 0]]) (.cond (.t 19) (.seq (.reg [.n 20 (.build [.z, .z] []) [], .m 21 8, .s (.store 2) [.t 4, .t 20], .m 5 21]) .ret) .skip)) (.seq (.reg [.v 23 8 6, .v 24 8 7, .n 25 (.call 49) [.t 23, .t 24, .c (.func (.func 156) [] [])], .n 26 (.build [.z, .z] []) [], .n 27 (.call 155) [.t 25, .t 26], .m 22 27, .x 28 0 22, .x 29 1 22, .n 9 (.alloc [.z, .z]) [], .s (.store 2) [.t 9, .t 28], .m 10 29]) (.seq (.reg [.v 30 2 9, .s (.store 2) [.t 4, .t 30], .n 5 .mov [.i 0]]) .ret)))))
theorem Nb : chkF Tryz.prog 151 = some (31, Zi, [.cell 4 26, .tmp 5]) := by kernel_rfl
abbrev Di : Nat := 152
def D9 : IC := (.seq (.reg [.n 4 .mov [.i 0]]) (.seq (.seq (.reg [.m 6 0, .n 7 (.len false) [.t 6], .n 8 .mov [.i 0]]) (.block 0 (.loop (.seq (.reg [.n 9 (.bin .lss) [.t 8, .t 7]]) (.seq (.cond (.t 9) .skip (.exit 0)) (.seq (.block 1 (.seq (.reg [.m 10 8, .m 5 10]) (.seq (.reg [.m 11 1, .m 12 0, .m 13 5, .n 14 (.iaddrS 2) [.t 12, .t 13], .v 15 2 14, .n 16 .callv [.t 11, .t 15]]) (.cond (.t 16) (.seq (.reg [.m 17 5, .m 4 17]) .ret) .skip)))) (.reg [.n 18 (.bin .add) [.t 8, .i 1], .m 8 18]))))))) (.seq (.reg [.n 4 .mov [.i (-1)]]) .ret)))
theorem D6 : chkF Tryz.prog 152 = some (19, D9, [.tmp 4]) := by kernel_rfl
abbrev A39 : Nat := 153
def Zh : IC := (.seq (.reg [.n 2 .box [.t 0], .n 3 .box [.t 1], .n 4 (.alloc [.z, .z]) []]) (.seq (.reg [.f 5 0 2, .l 6 5, .f 7 0 3, .l 8 7, .n 9 (.minmax true) [.t 6, .t 8], .f 10 1 2, .l 11 10, .f 12 1 3, .l 13 12, .n 14 (.minmax false) [.t 11, .t 13], .n 15 (.build [.z, .z] [(0, 1), (1, 1)]) [.t 9, .t 14], .s (.store 2) [.t 4, .t 15]]) .ret))
theorem Wq : chkF Tryz.prog 153 = some (16, Zh, [.cell 4 26]) := by kernel_rfl
abbrev A38 : Nat := 154
def Zg : IC := (.seq (.reg [.n 2 .box [.t 0], .n 3 .box [.t 1], .n 4 (.alloc [.z, .z, .z, .z, .z, .z, .z, .z]) [], .n 5 (.alloc [.z, .z, .z, .z, .z, .z, .z, .z]) [], .n 6 .mov [.i 0]]) (.seq (.seq (.draw [0, 1, 0, 7, 15, 31, 63] [.v 10 8 2, .n 11 (.call 45) [.t 10], .v 12 8 3, .n 13 (.call 45) [.t 12], .n 14 (.mkslice 1 53) [.t 11, .t 13], .n 15 (.call 30) [.t 14], .m 7 15]) (.seq (.reg [.m 16 7, .n 17 (.bin .neq) [.t 16, .i 0]]) (.cond (.t 17) (.seq (.reg [.n 18 (.build [.z, .z, .z, .z, .z, .z, .z, .z] []) [], .n 19 (.build [.z, .z, .z, .z, .z, .z, .z, .z] []) [], .m 20 7, .s (.store 8) [.t 4, .t 18], .s (.store 8) [.t 5, .t 19], .m 6 20]) .ret) .skip))) (.seq (.reg [.v 22 8 2, .n 23 (.call 46) [.t 22], .n 24 (.call 47) [.t 23], .m 21 24, .x 25 0 21, .x 26 1 21, .s (.store 8) [.t 4, .t 25], .m 6 26]) (.seq (.reg [.v 28 8 3, .n 29 (.call 46) [.t 28], .n 30 (.call 47) [.t 29], .m 27 30, .x 31 0 27, .x 32 1 27, .s (.store 8) [.t 5, .t 31], .m 8 32]) (.seq (.seq (.reg [.m 33 6, .m 34 8, .n 35 (.mkslice 1 53) [.t 33, .t 34], .n 36 (.call 30) [.t 35], .m 9 36]) (.seq (.reg [.m 37 9, .n 38 (.bin .neq) [.t 37, .i 0]]) (.cond (.t 38) (.seq (.reg [.n 39 (.build [.z, .z, .z, .z, .z, .z, .z, .z] []) [], .n 40 (.build [.z, .z, .z, .z, .z, .z, .z, .z] []) [], .m 41 9, .s (.store 8) [.t 4, .t 39], .s (.store 8) [.t 5, .t 40], .m 6 41]) .ret) .skip))) (.seq (.draw [0, 0, 1, 7, 15] [.v 42 8 4, .v 43 8 5, .s (.store 8) [.t 4, .t 42], .s (.store 8) [.t 5, .t 43], .n 6 .mov [.i 0]]) .ret))))))
theorem Wp : chkF Tryz.prog 154 = some (44, Zg, [.cell 4 117, .cell 5 117, .tmp 6]) := by kernel_rfl
abbrev Sz : Nat := 155
def Qu : IC := (.seq (.reg [.n 2 .box [.t 0], .n 3 .box [.t 1], .n 4 (.alloc [.z, .z]) [], .n 5 .mov [.c (.bool false)]]) (.seq (.reg [.n 11 (.mkfunc (.func 157) 0) [.t 2, .t 3], .m 6 11]) (.seq (.reg [.m 13 6, .n 14 (.call 158) [.t 13, .c (.func (.func 159) [] [])], .m 12 14, .x 15 0 12, .x 16 1 12, .n 7 (.alloc [.z, .z]) [], .s (.store 2) [.t 7, .t 15], .m 8 16]) (.seq (.reg [.m 18 6, .n 19 (.call 158) [.t 18, .c (.func (.func 160) [] [])], .m 17 19, .x 20 0 17, .x 21 1 17, .n 9 (.alloc [.z, .z]) [], .s (.store 2) [.t 9, .t 20], .m 10 21]) (.seq (.reg [.f 22 0 7, .l 23 22, .f 24 1 9, .l 25 24, .n 26 (.build [.z, .z] [(0, 1), (1, 1)]) [.t 23, .t 25], .m 27 8, .s (.store 2) [.t 4, .t 26], .m 5 27]) .ret)))))
theorem Pm : chkF Tryz.prog 155 = some (28, Qu, [.cell 4 26, .tmp 5]) := by kernel_rfl
abbrev Nd : Nat := 156
def Ug : IC := (.seq (.reg [.n 2 .box [.t 0], .n 3 .box [.t 1], .n 4 (.alloc [.z, .z]) []]) (.seq (.reg [.f 5 0 2, .l 6 5, .f 7 1 3, .l 8 7, .n 9 (.bin .sub) [.t 6, .t 8], .f 10 1 2, .l 11 10, .f 12 0 3, .l 13 12, .n 14 (.bin .sub) [.t 11, .t 13], .n 15 (.build [.z, .z] [(0, 1), (1, 1)]) [.t 9, .t 14], .s (.store 2) [.t 4, .t 15]]) .ret))
theorem Sq : chkF Tryz.prog 156 = some (16, Ug, [.cell 4 26]) := by kernel_rfl
abbrev I2 : Nat := 157
def Nx : IC := (.seq (.reg [.n 3 .box [.t 0]]) (.seq (.reg [.v 9 8 1, .n 10 (.call 86) [.t 9]]) (.block 0 (.range (.t 10) [11] (.reg [.n 4 (.alloc [.z, .z, .z]) [], .s (.store 3) [.t 4, .t 11]]) (.block 1 (.seq (.reg [.f 12 0 4, .l 13 12, .f 14 0 2, .l 15 14, .n 16 (.bin .sub) [.t 13, .t 15], .m 5 16]) (.seq (.draw [0, 1, 0, 4, 0, 16, 60, 127, 0, 256, 1023, 0, 2048, 0, 8192, 30720, 0, 65536, 0, 262144, 983040, 2047, 2162687, 8388607] [.f 17 1 4, .l 18 17, .f 19 1 2, .l 20 19, .f 21 2 4, .l 22 21, .n 23 (.minmax false) [.t 20, .t 22], .n 24 (.minmax true) [.t 18, .t 23], .f 25 1 2, .l 26 25, .n 27 (.bin .sub) [.t 24, .t 26], .f 28 1 4, .l 29 28, .f 30 1 2, .l 31 30, .n 32 (.bin .sub) [.t 29, .t 31], .f 33 2 4, .l 34 33, .f 35 1 2, .l 36 35, .n 37 (.bin .sub) [.t 34, .t 36], .m 6 27, .m 7 32, .m 8 37]) (.seq (.reg [.l 38 3, .m 39 5, .m 40 5, .n 41 (.bin .mul) [.t 39, .t 40], .m 42 6, .m 43 6, .n 44 (.bin .mul) [.t 42, .t 43], .n 45 (.bin .add) [.t 41, .t 44], .m 46 5, .m 47 5, .n 48 (.bin .mul) [.t 46, .t 47], .m 49 7, .m 50 7, .n 51 (.bin .mul) [.t 49, .t 50], .m 52 8, .m 53 8, .n 54 (.bin .mul) [.t 52, .t 53], .n 55 (.minmax true) [.t 51, .t 54], .n 56 (.bin .add) [.t 48, .t 55], .n 57 (.build [.z, .z] [(0, 1), (1, 1)]) [.t 45, .t 56], .n 58 .callv [.t 38, .t 57], .n 59 (.un .not) [.t 58]]) (.cond (.t 59) .ret .skip)))))))))
theorem N0 : chkF Tryz.prog 157 = some (60, Nx, []) := by kernel_rfl
abbrev Jp : Nat := 158
def Ik : IC := (.seq (.reg [.n 3 .box [.t 1], .n 4 (.alloc [.z, .z]) [], .n 5 (.alloc [(.bool false)]) []]) (.seq (.seq (.reg [.m 7 0]) (.block 0 (.range (.t 7) [8] (.reg [.n 6 (.alloc [.z, .z]) [], .s (.store 2) [.t 6, .t 8]]) (.block 1 (.seq (.reg [.l 9 5, .n 10 (.un .not) [.t 9], .m 11 10, .w 12 (.load 1 false) [.t 3] 11 false, .w 13 (.load 2 true) [.t 6] 11 false, .w 14 (.load 2 true) [.t 4] 11 false, .w 15 .callv [.t 12, .t 13, .t 14] 11 false, .n 16 .pick [.t 11, .c (.bool true), .t 15]]) (.cond (.t 16) (.reg [.v 17 2 6, .s (.store 2) [.t 4, .t 17], .s (.store 1) [.t 5, .c (.bool true)]]) .skip)))))) (.seq (.draw [0, 0, 1, 7] [.v 18 2 4, .l 19 5, .s (.store 2) [.t 4, .t 18], .s (.store 1) [.t 5, .t 19]]) .ret)))
theorem I9 : chkF Tryz.prog 158 = some (20, Ik, [.cell 4 26, .cell 5 4]) := by kernel_rfl
abbrev Q5 : Nat := 159
def Nw : IC := (.seq (.reg [.n 2 .box [.t 0], .n 3 .box [.t 1], .n 4 .mov [.c (.bool false)]]) (.seq (.reg [.f 5 0 2, .l 6 5, .f 7 0 3, .l 8 7, .n 9 (.bin .lss) [.t 6, .t 8], .m 4 9]) .ret))
theorem Mz : chkF Tryz.prog 159 = some (10, Nw, [.tmp 4]) := by kernel_rfl
abbrev Q4 : Nat := 160
def Nv : IC := (.seq (.reg [.n 2 .box [.t 0], .n 3 .box [.t 1], .n 4 .mov [.c (.bool false)]]) (.seq (.reg [.f 5 1 2, .l 6 5, .f 7 1 3, .l 8 7, .n 9 (.bin .gtr) [.t 6, .t 8], .m 4 9]) .ret))
theorem My : chkF Tryz.prog 160 = some (10, Nv, [.tmp 4]) := by kernel_rfl
abbrev Dj : Nat := 177
def Qx : IC := (.seq (.reg [.n 1 .box [.t 0], .n 2 .mov [.i 0], .n 3 .mov [.i 0]]) (.seq (.draw [0, 1, 0, 4, 3, 31] [.f 4 0 1, .l 5 4, .f 6 1 1, .l 7 6, .m 2 5, .m 3 7]) .ret))
theorem Pp : chkF Tryz.prog 177 = some (8, Qx, [.tmp 2, .tmp 3]) := by kernel_rfl
abbrev Fu : Nat := 179
def P7 : IC := (.seq (.reg [.n 1 .box [.t 0], .n 2 (.alloc [.z, .z, .z, .z, .z, .z, .z, .z]) []]) (.seq (.draw [0, 1, 3, 7, 0, 16, 48, 127, 0, 256, 768, 1792, 4095, 0, 8192, 24576, 57344, 131071, 262143, 524287] [.f 3 2 1, .f 4 1 3, .l 5 4, .n 6 (.call 180) [.t 5], .f 7 2 1, .f 8 1 7, .l 9 8, .n 10 (.call 180) [.t 9], .f 11 2 1, .f 12 1 11, .l 13 12, .n 14 (.bin .mul) [.i 2, .t 13], .n 15 (.call 180) [.t 14], .f 16 2 1, .f 17 1 16, .l 18 17, .n 19 (.bin .mul) [.i 2, .t 18], .n 20 (.call 180) [.t 19], .n 21 (.build [.z, .z, .z, .z, .z, .z, .z, .z] [(0, 2), (2, 2), (4, 2), (6, 2)]) [.t 6, .t 10, .t 15, .t 20], .s (.store 8) [.t 2, .t 21]]) .ret))
theorem O8 : chkF Tryz.prog 179 = some (22, P7, [.cell 2 28]) := by kernel_rfl
abbrev Vu : Nat := 180
def A1o : IC := (.seq (.reg [.n 2 (.alloc [.z, .z]) []]) (.seq (.reg [.m 6 0, .n 7 (.call 13) [.t 6], .m 5 7, .x 8 0 5, .x 9 1 5, .m 3 8, .m 4 9]) (.seq (.reg [.m 10 3, .n 11 (.un .neg) [.t 10], .m 12 3, .n 13 (.build [.z, .z] [(0, 1), (1, 1)]) [.t 11, .t 12], .s (.store 2) [.t 2, .t 13]]) .ret)))
theorem A05 : chkF Tryz.prog 180 = some (14, A1o, [.cell 2 26]) := by kernel_rfl
abbrev Iz : Nat := 182
def P6 : IC := (.seq (.reg [.n 1 .box [.t 0], .n 2 (.alloc [.z, .z, .z, .z, .z, .z, .z, .z]) []]) (.seq (.reg [.f 3 2 1, .l 4 3, .n 5 (.iaddrA 8 8) [.c (.rptr 0 0), .t 4], .v 6 8 5, .s (.store 8) [.t 2, .t 6]]) .ret))
theorem A4q : chkF Tryz.prog 182 = some (7, P6, [.cell 2 28]) := by kernel_rfl
abbrev Fv : Nat := 184
def P8 : IC := (.seq (.reg [.n 1 .box [.t 0], .n 2 (.alloc [.z, .z, .z, .z, .z, .z, .z, .z]) []]) (.seq (.reg [.f 3 2 1, .v 4 8 3, .s (.store 8) [.t 2, .t 4]]) .ret))
theorem O9 : chkF Tryz.prog 184 = some (5, P8, [.cell 2 28]) := by kernel_rfl
end
section
open Go.Am
abbrev I (n : Int) : V := .int .i64 n
def btw (n lo hi : Int) : Bool := decide (n ≥ lo) && decide (n ≤ hi)
theorem w64 {n : Int} (h1 : -9223372036854775808 ≤ n) (h2 : n < 9223372036854775808) : IntKind.wrap .i64 n = n := by
 have e : ∀ m : Int, m = n % 18446744073709551616 → (if (true && decide (m ≥ 9223372036854775808)) = true then m - 18446744073709551616 else m) = n := by
  intro m hm
  by_cases h : m ≥ 9223372036854775808
  ·simp only [h, decide_true, Bool.and_self, if_true]; omega
  ·simp only [h, decide_false, Bool.and_false, Bool.false_eq_true, if_false]; omega
 exact e _ rfl
theorem VLe.i {k : IntKind} {a b : Int} (h : a = b) : VLe (.int k a) (.int k b) := h ▸ .refl _
abbrev w (n : Int) : Int := IntKind.wrap .i64 n
@[simp] theorem wr1 : IntKind.i64.wrap 1 = 1 := by decide
@[simp] theorem wr2 : IntKind.i64.wrap 2 = 2 := by decide
@[simp] theorem wr3 : IntKind.i64.wrap 3 = 3 := by decide
theorem Ca (n lo hi : Int) : btw n lo hi = true ↔ lo ≤ n ∧ n ≤ hi := by
 simp only [btw, Bool.and_eq_true, decide_eq_true_eq, ge_iff_le]
theorem sq_lt {a b : Int} (ha : 0 ≤ a) (hb : 0 ≤ b) (h : a * a < b * b) : a < b := by
 rcases Int.lt_or_le a b with h1 | h1
 ·exact h1
 ·have := Int.mul_le_mul h1 h1 hb ha; omega
def eB (b : Int × Int) : V := .agg [I b.1, I b.2]
def sB (l : List (Int × Int)) : V := .slice 0 2 (l.map eB)
theorem Ao {α : Type} {e : α → V} {l : List α} {k : Nat} (h : k < l.length) : (l.map e).getD (Int.toNat (k : Int)) C1 = e l[k] := by
 simp [h]
def Fg {α : Type} (p : α → Bool) : List α → Nat → Int
 | [], _ => -1
 | x :: l, k => if p x then k else Fg p l (k + 1)
theorem Ky {α : Type} (p : α → Bool) : ∀ (l : List α) (k : Nat), decide (Fg p l k ≥ 0) = l.any p
 | [], k => by simp [Fg]
 | x :: l, k => by
   simp only [Fg, List.any_cons]
   by_cases h : p x = true
   ·simp [h]
   ·simp only [h, if_false, Bool.false_eq_true]
    rw [Ky p l (k + 1)]
    simp [h]
theorem Dz {α : Type} (p : α → Bool) (l : List α) {k : Nat} (h : k < l.length) : Fg p (l.drop k) k = if p l[k] then (k : Int) else Fg p (l.drop (k + 1)) (k + 1) := by
 rw [List.drop_eq_getElem_cons h]; rfl
theorem H7 (a b : Int) : (if b > a then b else a) = max a b := by split <;> omega
theorem Jc (a b : Int) : (if b < a then b else a) = min a b := by split <;> omega
structure Plain (us : List V) : Prop where
 d : ∀ b, toDs b us = some (us, [])
 r : ∀ B R, us.all (B6 B R 5) = true
theorem Bq {us : List V} (h : Plain us) {fn : Fn} {B : Nat → Bool} {R : Nat → Option (Nat × Nat × Nat)} : B6 B R 6 (.func fn [] us) = true := by
 show (([] : List V).all (B6 B R 5) && us.all (B6 B R 5)) = true
 rw [h.r]; rfl
theorem take_ext {α : Type} {l l' : List α} {k : Nat} (hk : k < l.length) (hk' : k < l'.length) (h : l.take k = l'.take k) (e : l[k] = l'[k]) : l.take (k + 1) = l'.take (k + 1) := by
 rw [List.take_add_one, List.take_add_one, h, List.getElem?_eq_getElem hk, List.getElem?_eq_getElem hk', e]
def B8 (l : List Int) : V := .slice 0 1 (l.map I)
theorem Abl (l : List Int) : (l.map I).flatMap cells = l.map I := by
 induction l with
 | nil => rfl
 | cons a l ih => rw [List.map_cons, List.flatMap_cons, ih]; rfl
theorem Ab7 (l : List Int) (B : Nat → Bool) (R : Nat → Option (Nat × Nat × Nat)) : (l.map I).all (B6 B R 6) = true := by
 rw [List.all_eq_true]
 intro x hx
 obtain ⟨n, _, rfl⟩ := List.mem_map.1 hx
 rfl
theorem okI {k : Nat} {l : List Int} {env : List (Nat × V)} {bx : List (Nat × Box)} {rw : List (Nat × Nat × Nat × Nat)} (h : Ec env ((k, ⟨[], false⟩) :: bx) rw = true) : Ec env ((k, ⟨l.map I, false⟩) :: bx) rw = true := by
 have e : Bi ((k, (⟨l.map I, false⟩ : Box)) :: bx) = Bi ((k, (⟨[], false⟩ : Box)) :: bx) := rfl
 unfold Ec at h ⊢
 rw [e]
 rw [Bool.and_eq_true] at h ⊢
 refine ⟨h.1, ?_⟩
 have h2 := h.2
 rw [List.all_cons, Bool.and_eq_true] at h2 ⊢
 exact ⟨Ab7 _ _ _, h2.2⟩
theorem A7z (l : List Int) : Holds (l.map I) 0 1 l.length (l.map I) := by
 refine ⟨by omega, by simp, fun x hx => ?_, ?_, fun x hx => ?_⟩
 ·obtain ⟨c, _, rfl⟩ := List.mem_map.1 hx; rfl
 ·rw [List.drop_zero, List.take_of_length_le (by simp), Abl]
 ·obtain ⟨c, _, rfl⟩ := List.mem_map.1 hx; rfl
attribute [local simp] cells Aa mkv Ag Ap under dem dem1
theorem c_Alike (l l' : List Int) (hl : l.length ≤ 9223372036854775807) : C Tryz.prog A0o [B8 l, B8 l'] (.bool (decide (l = l'))) := by
 refine C_of mixed Vd (by simp) fun S ok => ?_
 refine A2 rfl (by simp) (Tr.seq (A2 rfl (by simp) ?_))
 refine Tr.cond rfl rfl (fun h1 => A2 rfl (by simp) (A5 rfl rfl rfl ?_ trivial)) (fun h1 => Tr.skip ?_)
 ·have h1 : (((l.map I).length : Int) != ((l'.map I).length : Int)) = true := h1
  simp only [Cp, V.bool.injEq]
  rw [decide_eq_false]
  rintro rfl
  simp at h1
 ·have h1 : (((l.map I).length : Int) != ((l'.map I).length : Int)) = false := h1
  have hll : l.length = l'.length := by simp at h1; omega
  refine Tr.seq (A2 rfl (by simp) (Tr.block ?_))
  refine Tr.loop (fun k st => (k ≤ l.length ∧ l.take k = l'.take k) ∧ st = ⟨[(0, B8 l), (1, B8 l'), (5, I k)], [], [], [], false⟩) (fun k => l.length - k) 0
   (Ab (.k rfl (.k rfl (.k rfl .nil))) .nil .nil rfl rfl) ⟨⟨by omega, by simp⟩, rfl⟩ ?_
  rintro k st ⟨⟨hk, he⟩, rfl⟩
  refine Tr.seq (A2 rfl (by simp) (Tr.cond rfl rfl (fun h3 => ?_) (fun h3 => ?_)))
  ·have h3 : k < l.length := by simpa using h3
   have h4 : k < l'.length := by omega
   refine Tr.skip (Tr.seq (Tr.block (Tr.seq (A8 (TraceK.runN 3 rfl (by simp; omega) ?_)))))
   rw [Ao h3]
   refine TraceK.runN 4 rfl (by simp; omega) ?_
   rw [Ao h4]
   refine TraceK.run rfl (by simp) (.done ⟨by kernel_rfl, by kernel_rfl, ?_⟩)
   refine Tr.cond rfl rfl (fun h5 => A2 rfl (by simp) (A5 rfl rfl rfl ?_ trivial)) (fun h5 => Tr.skip (A9 rfl (by simp) ?_))
   ·have h5 : (l[k] != l'[k]) = true := h5
    simp only [Cp, V.bool.injEq]
    rw [decide_eq_false]
    rintro rfl
    simp at h5
   ·have h5 : (l[k] != l'[k]) = false := h5
    have h5 : l[k] = l'[k] := by simpa using h5
    exact ⟨k + 1, _, Ab (.k rfl (.k rfl (.cons rfl (VLe.i (w64 (by omega) (by omega))) .nil))) .nil .nil rfl rfl, ⟨⟨h3, take_ext h3 h4 he h5⟩, rfl⟩, by omega⟩
  ·have h3 : k = l.length := by simp at h3; omega
   subst h3
   refine Tr.exit (A2 rfl (by simp) (A5 rfl rfl rfl ?_ trivial))
   rw [List.take_length, hll, List.take_length] at he
   simp [Cp, he]
end
section
open Go.Am Go.ChangeShapes Go.WideShapes Go.ChangeAt Go.RowKit
def phi (W : World) : Nat → Nat := fun b => match W.heap[b]? with
 | some (.cells cs _ _) => cs.size
 | _ => 0
theorem phi_top {W : World} : ∀ b, W.heap.size ≤ b → phi W b = 0 := fun b hb => by
 unfold phi
 rw [Array.getElem?_eq_none hb]
theorem phi_lt {W : World} {b o : Nat} {z : Value} (h : W.cell? ⟨b, o, none⟩ = some z) : o < phi W b := by
 unfold World.cell? at h
 unfold phi
 cases hb : W.heap[b]? with
 | none => rw [hb] at h; simp at h
 | some ob =>
   rw [hb] at h
   cases ob with
   | cells c e m => simp only at h ⊢; exact (Array.getElem?_eq_some_iff.1 h).1
   | _ => simp at h
section
variable {H : Type} (enc : TypeId × Value → H) (W : World)
def Got (Pr : List V → Prop) (cs : List Value) : Prop := ∃ vs, Pr vs ∧ vs.length = cs.length ∧ ∀ (i : Nat) v c, vs[i]? = some v → cs[i]? = some c → RepD W (phi W) v c ∧ Aa v = true
def Reads (t : TypeId) (Pr : List V → Prop) : Prop := ∀ fuel cs x, DataW.trod enc Tryz.prog W 0 (fun _ => true) true fuel t cs = some x → Got W Pr cs
def trods (fuel : Nat) : List TypeId → List Value → Prop
 | [], cs => cs = []
 | t :: ts, cs => (∃ x, DataW.trod enc Tryz.prog W 0 (fun _ => true) true fuel t (cs.take (Tryz.prog.cellsOf t)) = some x) ∧ Tryz.prog.cellsOf t ≤ cs.length ∧ trods fuel ts (cs.drop (Tryz.prog.cellsOf t))
def A34 (ts : List TypeId) (Pr : List V → Prop) : Prop := ∀ fuel cs, trods enc W fuel ts cs → Got W Pr cs
variable {enc W}
theorem Got.mono {P Q : List V → Prop} {cs : List Value} (h : Got W P cs) (k : ∀ vs, P vs → Q vs) : Got W Q cs := let ⟨vs, a, b⟩ := h; ⟨vs, k vs a, b⟩
theorem Reads.mono {t : TypeId} {P Q : List V → Prop} (h : Reads enc W t P) (k : ∀ vs, P vs → Q vs) : Reads enc W t Q := fun fuel cs x hx => (h fuel cs x hx).mono k
theorem Cq : A34 enc W [] (fun vs => vs = []) := fun fuel cs h => by
 have h : cs = [] := h
 subst h
 exact ⟨[], rfl, rfl, fun i v c h => by simp at h⟩
theorem Ae {t : TypeId} {ts : List TypeId} {P Q : List V → Prop} (h : Reads enc W t P) (k : A34 enc W ts Q) : A34 enc W (t :: ts) (fun vs => ∃ a b, P a ∧ Q b ∧ vs = a ++ b) := fun fuel cs ht => by
 obtain ⟨⟨x, hx⟩, hle, hr⟩ := ht
 obtain ⟨a, ha, la, ra⟩ := h _ _ _ hx
 obtain ⟨b, hb, lb, rb⟩ := k _ _ hr
 rw [List.length_take] at la
 rw [List.length_drop] at lb
 refine ⟨a ++ b, ⟨a, b, ha, hb, rfl⟩, by simp; omega, fun i v c hv hc => ?_⟩
 by_cases hi : i < a.length
 ·rw [List.getElem?_append_left hi] at hv
  exact ra i v c hv (by rw [List.getElem?_take, if_pos (by omega)]; exact hc)
 ·rw [List.getElem?_append_right (by omega)] at hv
  refine rb (i - a.length) v c hv ?_
  rw [List.getElem?_drop, show Tryz.prog.cellsOf t + (i - a.length) = i by omega]
  exact hc
theorem Aa6 {t : TypeId} (ht : Tryz.prog.underlying t = some (.int .i64)) : Reads enc W t (fun vs => ∃ n : Int, vs = [I n] ∧ -9223372036854775808 ≤ n ∧ n ≤ 9223372036854775807) := fun fuel cs x hx => by
 obtain ⟨n, rfl, _, hw⟩ := DataW.trod_int ht hx
 have hb := Go.bounds_i64 hw
 refine ⟨[I n], ⟨n, rfl, by omega, by omega⟩, rfl, fun i v c hv hc => ?_⟩
 cases i with
 | zero => cases hv; cases hc; exact ⟨.int _ _, rfl⟩
 | succ i => cases hv
noncomputable def A1a : List Field → Nat → Nat → Bool
 | [], o, n => o == n
 | f :: r, o, n => f.offset == o && A1a r (o + Tryz.prog.cellsOf f.type) n
theorem A5h {fuel : Nat} : ∀ (fs : List Field) (o n : Nat) (cs : List Value), A1a fs o n = true → cs.length = n → o ≤ n → (∀ f ∈ fs, ∃ x, DataW.trod enc Tryz.prog W 0 (fun _ => true) true fuel f.type ((cs.drop f.offset).take (Tryz.prog.cellsOf f.type)) = some x) → trods enc W fuel (fs.map (·.type)) (cs.drop o)
 | [], o, n, cs, h, hl, _, _ => by
   simp only [A1a, beq_iff_eq] at h
   show cs.drop o = []
   rw [List.drop_eq_nil_of_le (by omega)]
 | f :: r, o, n, cs, h, hl, ho, hf => by
   simp only [A1a, Bool.and_eq_true, beq_iff_eq] at h
   have hle : o + Tryz.prog.cellsOf f.type ≤ n := by
    have : ∀ (fs : List Field) (o n : Nat), A1a fs o n = true → o ≤ n := by
     intro fs
     induction fs with
     | nil => intro o n h; simp only [A1a, beq_iff_eq] at h; omega
     | cons g r ih => intro o n h; simp only [A1a, Bool.and_eq_true, beq_iff_eq] at h; have := ih _ _ h.2; omega
    exact this _ _ _ h.2
   refine ⟨?_, by rw [List.length_drop]; show Tryz.prog.cellsOf f.type ≤ _; omega, ?_⟩
   ·have := hf f (by simp)
    rw [h.1] at this
    exact this
   ·rw [List.drop_drop]
    exact A5h r _ n cs h.2 hl hle fun g hg => hf g (by simp [hg])
theorem Cf {t : TypeId} {fs : Array Field} {Pr : List V → Prop} (ht : Tryz.prog.underlying t = some (.struct fs)) (ho : A1a fs.toList 0 (Tryz.prog.cellsOf t) = true) (h : A34 enc W (fs.toList.map (·.type)) Pr) : Reads enc W t Pr := fun fuel cs x hx => by
 obtain ⟨xs, n, _, _, hl, hxs, hf⟩ := DataW.trod_struct ht hx
 refine h n cs ?_
 have := A5h (enc := enc) (W := W) (fuel := n) fs.toList 0 _ cs ho hl (Nat.zero_le _) fun f hm => by
  obtain ⟨i, hi, rfl⟩ := List.mem_iff_getElem.1 hm
  have h1 := hf i fs.toList[i] (by simp at hi ⊢)
  rw [h1]
  have : i < xs.length := by simp at hi; omega
  exact ⟨_, List.getElem?_eq_getElem this⟩
 simpa using this
theorem A0r {fuel : Nat} {e : TypeId} : ∀ (n k : Nat) (cs : List Value), cs.length = (k + n) * Tryz.prog.cellsOf e → (∀ i, i < n → ∃ x, DataW.trod enc Tryz.prog W 0 (fun _ => true) true fuel e ((cs.drop ((k + i) * Tryz.prog.cellsOf e)).take (Tryz.prog.cellsOf e)) = some x) → trods enc W fuel (List.replicate n e) (cs.drop (k * Tryz.prog.cellsOf e))
 | 0, k, cs, hl, _ => by
   show cs.drop _ = []
   rw [List.drop_eq_nil_of_le (by rw [hl]; simp)]
 | n + 1, k, cs, hl, hf => by
   have e1 : (k + (n + 1)) * Tryz.prog.cellsOf e = k * Tryz.prog.cellsOf e + (n * Tryz.prog.cellsOf e + Tryz.prog.cellsOf e) := by rw [Nat.add_mul, Nat.succ_mul]
   refine ⟨by simpa using hf 0 (by omega), by rw [List.length_drop]; omega, ?_⟩
   rw [List.drop_drop, show k * Tryz.prog.cellsOf e + Tryz.prog.cellsOf e = (k + 1) * Tryz.prog.cellsOf e by rw [Nat.succ_mul]]
   exact A0r n (k + 1) cs (by rw [hl]; congr 1; omega) fun i hi => by
    have := hf (i + 1) (by omega)
    rwa [show k + 1 + i = k + (i + 1) by omega]
theorem Tt {t e : TypeId} {n : Nat} {Pr : List V → Prop} (ht : Tryz.prog.underlying t = some (.array n e)) (hc : Tryz.prog.cellsOf t = n * Tryz.prog.cellsOf e) (h : A34 enc W (List.replicate n e) Pr) : Reads enc W t Pr := fun fuel cs x hx => by
 obtain ⟨xs, m, _, _, hl, hxs, hf⟩ := DataW.trod_array ht hx
 refine h m cs ?_
 have := A0r (enc := enc) (W := W) (fuel := m) (e := e) n 0 cs (by rw [hl, hc]; simp) fun i hi => by
  rw [Nat.zero_add, hf i hi]
  exact ⟨_, List.getElem?_eq_getElem (by omega)⟩
 simpa using this
def Qe (agg : Bool) (x : List V) : V := bif agg then .agg x else x.headD C1
theorem A8r {agg : Bool} {x : List V} {sz : Nat} (hx : x.length = sz) (hs : ∀ v ∈ x, Aa v = true) (ha : agg = false → sz = 1) : cells (Qe agg x) = x := by
 cases agg with
 | true => rfl
 | false =>
   have := ha rfl
   subst this
   match x, hx with
   | [v], _ =>
     have hv := hs v (by simp)
     show cells v = [v]
     cases v <;> simp [Aa] at hv <;> rfl
theorem Acn {a : Addr} {z : Value} (h : W.cell? a = some z) : a = ⟨a.block, a.off, none⟩ := by
 have := World.cell?_spot h
 obtain ⟨b, o, s⟩ := a
 simp only at this
 subst this; rfl
theorem Er {t e : TypeId} {sz : Nat} {Pe : List V → Prop} (agg : Bool) (ht : Tryz.prog.underlying t = some (.slice e)) (hc : Tryz.prog.cellsOf e = sz) (h0 : 0 < sz) (ha : agg = false → sz = 1) (h : Reads enc W e Pe) :
  Reads enc W t (fun vs => ∃ xs : List (List V), (∀ x ∈ xs, Pe x) ∧ xs.length ≤ 9223372036854775807 ∧ vs = [.slice 0 sz (xs.map (Qe agg))]) := fun fuel cs x hx => by
 subst hc
 rcases DataW.trod_slice ht hx with ⟨rfl, _⟩ | ⟨a, len, cap, elems, rest, n, _, rfl, _, _, hlc, hcm, hel, hE, _⟩
 ·refine ⟨[.slice 0 _ []], ⟨[], fun x hx => by simp at hx, by simp, rfl⟩, rfl, fun i v c hv hc => ?_⟩
  cases i with
  | zero => cases hv; cases hc; exact ⟨.slice0 _ _ _, rfl⟩
  | succ i => cases hv
 ·have hcm' : cap ≤ 9223372036854775807 := by unfold maxLen at hcm; omega
  have step : ∀ m, m ≤ len → ∃ xs : List (List V), xs.length = m ∧ (∀ x ∈ xs, Pe x ∧ x.length = Tryz.prog.cellsOf e) ∧
    ∀ (i : Nat) x (j : Nat) v, xs[i]? = some x → x[j]? = some v → ∃ c, W.cell? (a.add (i * Tryz.prog.cellsOf e + j)) = some c ∧ RepD W (phi W) v c ∧ Aa v = true := by
   intro m
   induction m with
   | zero => exact fun _ => ⟨[], rfl, fun x hx => by simp at hx, fun i x j v hx => by simp at hx⟩
   | succ m ih =>
     intro hm
     obtain ⟨xs, l1, l2, l3⟩ := ih (by omega)
     have h1 := hE m (by omega)
     rw [List.getElem?_eq_getElem (by omega)] at h1
     rw [Option.bind_eq_some_iff] at h1
     obtain ⟨ccs, h2, h3⟩ := h1
     obtain ⟨vs, v1, v2, v3⟩ := h _ _ _ h3
     have hcc : ccs.length = Tryz.prog.cellsOf e ∧ ∀ (j : Nat) c, ccs[j]? = some c → W.cell? (a.add (m * Tryz.prog.cellsOf e + j)) = some c := by
      unfold World.cells? at h2
      rw [if_pos (Nat.zero_le _)] at h2
      refine ⟨by simpa using mapM_some_length h2, fun j c hj => ?_⟩
      have hjl : j < Tryz.prog.cellsOf e := by
       have := (List.getElem?_eq_some_iff.1 hj).1
       have hh := mapM_some_length h2
       simp at hh; omega
      have := mapM_some_get h2 j j (by simp [hjl])
      rw [hj] at this
      rw [← this, Addr.add_add]
     refine ⟨xs ++ [vs], by simp [l1], fun x hx => ?_, fun i x j v hx hj => ?_⟩
     ·rcases List.mem_append.1 hx with hx | hx
      ·exact l2 x hx
      ·simp at hx; subst hx; exact ⟨v1, by omega⟩
     ·by_cases hi : i < xs.length
      ·rw [List.getElem?_append_left hi] at hx
       exact l3 i x j v hx hj
      ·have hi' : i = xs.length := by
        have := (List.getElem?_eq_some_iff.1 hx).1
        simp at this; omega
       subst hi'
       rw [List.getElem?_append_right (by omega)] at hx
       simp at hx; subst hx
       have hjl : j < ccs.length := by have := (List.getElem?_eq_some_iff.1 hj).1; omega
       rw [l1]
       exact ⟨ccs[j], hcc.2 j _ (List.getElem?_eq_getElem hjl), v3 j v _ hj (List.getElem?_eq_getElem hjl)⟩
  obtain ⟨xs, l1, l2, l3⟩ := step len (Nat.le_refl _)
  have hsc : ∀ x ∈ xs, ∀ v ∈ x, Aa v = true := fun x hx v hv => by
   obtain ⟨i, hi, rfl⟩ := List.mem_iff_getElem.1 hx
   obtain ⟨j, hj, rfl⟩ := List.mem_iff_getElem.1 hv
   obtain ⟨c, _, _, hs⟩ := l3 i _ j _ (List.getElem?_eq_getElem hi) (List.getElem?_eq_getElem hj)
   exact hs
  have hcw : ∀ x ∈ xs, cells (Qe agg x) = x := fun x hx => A8r (l2 x hx).2 (hsc x hx) ha
  refine ⟨[.slice 0 _ (xs.map (Qe agg))], ⟨xs, fun x hx => (l2 x hx).1, by omega, rfl⟩, rfl, fun i v c hv hc => ?_⟩
  cases i with
  | succ i => cases hv
  | zero =>
    cases hv; cases hc
    refine ⟨?_, rfl⟩
    by_cases hl0 : len = 0
    ·subst hl0
     have : xs = [] := List.eq_nil_of_length_eq_zero l1
     subst this
     exact .slice0 _ _ _
    ·
     have hx0 : 0 < xs.length := by omega
     have hlen0 := (l2 _ (List.getElem_mem hx0)).2
     obtain ⟨c0, hc0, _⟩ := l3 0 xs[0] 0 (xs[0][0]'(by omega)) (List.getElem?_eq_getElem hx0) (List.getElem?_eq_getElem (by omega))
     have hsp := Acn hc0
     obtain ⟨b, off, sp⟩ := a
     have : sp = none := by simpa [Addr.add] using hsp
     subst this
     have hwl : ∀ y ∈ xs.map (Qe agg), (cells y).length = Tryz.prog.cellsOf e := fun y hy => by
      obtain ⟨x, hx, rfl⟩ := List.mem_map.1 hy
      rw [hcw x hx, (l2 x hx).2]
     have at_ : ∀ (j : Nat) v, ((xs.map (Qe agg)).flatMap cells)[j]? = some v → ∃ c, W.cell? ⟨b, off + j, none⟩ = some c ∧ RepD W (phi W) v c ∧ Aa v = true := fun j v hj => by
      obtain ⟨i, u, k, hu, hk, rfl⟩ := M5 h0 hwl j v hj
      rw [List.getElem?_map, Option.map_eq_some_iff] at hu
      obtain ⟨x, hx, rfl⟩ := hu
      rw [hcw x (List.mem_of_getElem? hx)] at hk
      obtain ⟨c, q1, q2⟩ := l3 i x k v hx hk
      refine ⟨c, ?_, q2⟩
      rw [← q1]
      unfold Addr.add
      split
      ·rename_i h; rw [h]; rfl
      ·rfl
     refine .slice _ _ b off len cap (fun j => (W.cell? ⟨b, off + j, none⟩).getD undef) h0 (by simp [l1]) hlc hwl (fun j v hj => ?_) (fun j v hj => ?_)
     ·obtain ⟨c, q1, q2, q3⟩ := at_ j v hj
      exact ⟨phi_lt q1, by rw [q1]; rfl, q3⟩
     ·obtain ⟨c, q1, q2, q3⟩ := at_ j v hj
      rw [q1]; exact q2
theorem A53 {t : TypeId} {Pr : List V → Prop} {v : Value} {d : DataW H} {p : List MemPlace} (ha : aggB Tryz.prog t = true) (h : Reads enc W t Pr) (hv : Value.okWide Tryz.prog W .any 0 t v) (ht : DataW.Trod enc Tryz.prog W 0 (fun _ => true) true t v d p) : ∃ vs, Pr vs ∧ RepD W (phi W) (.agg vs) v := by
 obtain ⟨fuel, hf⟩ := ht
 obtain ⟨vs, h1, h2, h3⟩ := h _ _ _ hf
 obtain ⟨cs, rfl, _⟩ : ∃ cs, v = .agg cs ∧ True := by
  unfold aggB at ha
  unfold Value.okWide at hv
  split at ha
  ·rename_i hu; rw [hu] at hv; obtain ⟨cs, rfl, _⟩ := hv; exact ⟨cs, rfl, trivial⟩
  ·rename_i hu; rw [hu] at hv; obtain ⟨cs, rfl, _⟩ := hv; exact ⟨cs, rfl, trivial⟩
  ·cases ha
 refine ⟨vs, h1, .agg _ _ (by simpa [Value.cells] using h2) fun i v x hv hx => (h3 i v x hv ?_).1⟩
 simpa [Value.cells] using hx
theorem Eu {α : Type} {xs : List (List V)} {R : α → Prop} {g : α → List V} (h : ∀ x ∈ xs, ∃ a, R a ∧ x = g a) : ∃ l : List α, xs = l.map g ∧ ∀ a ∈ l, R a := by
 induction xs with
 | nil => exact ⟨[], rfl, fun a ha => by simp at ha⟩
 | cons x r ih =>
   obtain ⟨a, ha, rfl⟩ := h x (by simp)
   obtain ⟨l, rfl, hl⟩ := ih fun y hy => h y (by simp [hy])
   exact ⟨a :: l, rfl, fun b hb => by
    rcases List.mem_cons.1 hb with rfl | hb
    ·exact ha
    ·exact hl b hb⟩
end
end
section
open Go.Am
attribute [local simp] cells Aa mkv Ag Ap under dem dem1 eB
structure Fr where
 x : Int × Int
 y : Int × Int
 s : Int × Int
 d : Int × Int
def A7 (f : Fr) : List V := [I f.x.1, I f.x.2, I f.y.1, I f.y.2, I f.s.1, I f.s.2, I f.d.1, I f.d.2]
attribute [local simp] A7
def comb (g : Int × Int → Int × Int → Int × Int) (f h : Fr) : Fr := ⟨g f.x h.x, g f.y h.y, g f.s h.s, g f.d h.d⟩
def A9t (a b : Int × Int) : Int × Int := (min a.1 b.1, max a.2 b.2)
def cutB (a b : Int × Int) : Int × Int := (max a.1 b.1, min a.2 b.2)
theorem ifMin (a b : Int) : (if b < a then b else a) = min a b := by split <;> omega
theorem ifMax (a b : Int) : (if b > a then b else a) = max a b := by split <;> omega
theorem c_span (a b : Int × Int) : C Tryz.prog Q6 [eB a, eB b] (eB (A9t a b)) := by
 refine C_of mixed V6 (by simp) fun S ok => ?_
 refine A2 rfl (by simp) (A2 rfl (by simp) (Bb rfl rfl ?_ trivial))
 simp only [Cp, eB, A9t, ← ifMin, ← ifMax]
 rfl
theorem c_cut (a b : Int × Int) : C Tryz.prog A39 [eB a, eB b] (eB (cutB a b)) := by
 refine C_of mixed Wq (by simp) fun S ok => ?_
 refine A2 rfl (by simp) (A2 rfl (by simp) (Bb rfl rfl ?_ trivial))
 simp only [Cp, eB, cutB, ← ifMin, ← ifMax]
 rfl
theorem Cs (f : Fr) : C Tryz.prog Vr [.agg (A7 f)] (.agg (A7 f)) := by
 refine C_of mixed R6 (by simp) fun S ok => ?_
 exact A2 rfl (by simp) (A2 rfl (by simp) (Bb rfl rfl rfl trivial))
theorem Tf (f : Fr) : C Tryz.prog N6 [.agg (A7 f)] (.agg (A7 f)) := by
 refine C_of mixed K6 (by simp) fun S ok => ?_
 exact A2 rfl (by simp) (A2 rfl (by simp) (Bb rfl rfl rfl trivial))
theorem Fs {op : FuncId} {g : Int × Int → Int × Int → Int × Int} (hg : ∀ a b, C Tryz.prog op [eB a, eB b] (eB (g a b))) (f h : Fr) : C Tryz.prog Dp [.agg (A7 f), .agg (A7 h), .func (.func op) [] []] (.agg (A7 (comb g f h))) := by
 refine C_of mixed Iq (by simp) fun S ok => ?_
 refine A2 rfl (by simp) (Tr.seq (A2 rfl (by simp) (Tr.block ?_)))
 refine Az 5 (TrN.succ ?_)
 refine Tr.weak (s' := ⟨[(2, .func (.func op) [] []), (3, .ptr 3 0), (4, .ptr 4 0), (6, .ptr 6 0), (8, I 0)], [(3, ⟨[I f.x.1, I f.x.2, I f.y.1, I f.y.2, I f.s.1, I f.s.2, I f.d.1, I f.d.2], false⟩), (4, ⟨A7 h, false⟩), (6, ⟨[I 0, I 0, I 0, I 0, I 0, I 0, I 0, I 0], false⟩)], [], [], false⟩)
  (Ab (.k rfl (.k rfl (.k rfl (.k rfl (.cons rfl (VLe.i rfl) .nil))))) (.k rfl (.k rfl (.k rfl .nil))) .nil rfl rfl) ?_
 refine A2 rfl (by simp) (Tr.seq (A6 rfl (Tr.skip (Tr.seq (Tr.block (A2 rfl (by simp) ?_))))))
 refine A8 (TraceK.run rfl (by simp) (TraceK.callv rfl rfl (hg f.x h.x) (TraceK.run rfl (by simp) (.done ⟨by kernel_rfl, by kernel_rfl, ?_⟩))))
 refine A9 rfl (by simp) (TrN.succ ?_)
 refine Tr.weak (s' := ⟨[(2, .func (.func op) [] []), (3, .ptr 3 0), (4, .ptr 4 0), (6, .ptr 6 0), (8, I 1)], [(3, ⟨[I (g f.x h.x).1, I (g f.x h.x).2, I f.y.1, I f.y.2, I f.s.1, I f.s.2, I f.d.1, I f.d.2], false⟩), (4, ⟨A7 h, false⟩), (6, ⟨[I 0, I 0, I 0, I 0, I 0, I 0, I 0, I 0], false⟩)], [], [], false⟩)
  (Ab (.k rfl (.k rfl (.k rfl (.k rfl (.cons rfl (VLe.i rfl) .nil))))) (.k rfl (.k rfl (.k rfl .nil))) .nil rfl rfl) ?_
 refine A2 rfl (by simp) (Tr.seq (A6 rfl (Tr.skip (Tr.seq (Tr.block (A2 rfl (by simp) ?_))))))
 refine A8 (TraceK.run rfl (by simp) (TraceK.callv rfl rfl (hg f.y h.y) (TraceK.run rfl (by simp) (.done ⟨by kernel_rfl, by kernel_rfl, ?_⟩))))
 refine A9 rfl (by simp) (TrN.succ ?_)
 refine Tr.weak (s' := ⟨[(2, .func (.func op) [] []), (3, .ptr 3 0), (4, .ptr 4 0), (6, .ptr 6 0), (8, I 2)], [(3, ⟨[I (g f.x h.x).1, I (g f.x h.x).2, I (g f.y h.y).1, I (g f.y h.y).2, I f.s.1, I f.s.2, I f.d.1, I f.d.2], false⟩), (4, ⟨A7 h, false⟩), (6, ⟨[I 0, I 0, I 0, I 0, I 0, I 0, I 0, I 0], false⟩)], [], [], false⟩)
  (Ab (.k rfl (.k rfl (.k rfl (.k rfl (.cons rfl (VLe.i rfl) .nil))))) (.k rfl (.k rfl (.k rfl .nil))) .nil rfl rfl) ?_
 refine A2 rfl (by simp) (Tr.seq (A6 rfl (Tr.skip (Tr.seq (Tr.block (A2 rfl (by simp) ?_))))))
 refine A8 (TraceK.run rfl (by simp) (TraceK.callv rfl rfl (hg f.s h.s) (TraceK.run rfl (by simp) (.done ⟨by kernel_rfl, by kernel_rfl, ?_⟩))))
 refine A9 rfl (by simp) (TrN.succ ?_)
 refine Tr.weak (s' := ⟨[(2, .func (.func op) [] []), (3, .ptr 3 0), (4, .ptr 4 0), (6, .ptr 6 0), (8, I 3)], [(3, ⟨[I (g f.x h.x).1, I (g f.x h.x).2, I (g f.y h.y).1, I (g f.y h.y).2, I (g f.s h.s).1, I (g f.s h.s).2, I f.d.1, I f.d.2], false⟩), (4, ⟨A7 h, false⟩), (6, ⟨[I 0, I 0, I 0, I 0, I 0, I 0, I 0, I 0], false⟩)], [], [], false⟩)
  (Ab (.k rfl (.k rfl (.k rfl (.k rfl (.cons rfl (VLe.i rfl) .nil))))) (.k rfl (.k rfl (.k rfl .nil))) .nil rfl rfl) ?_
 refine A2 rfl (by simp) (Tr.seq (A6 rfl (Tr.skip (Tr.seq (Tr.block (A2 rfl (by simp) ?_))))))
 refine A8 (TraceK.run rfl (by simp) (TraceK.callv rfl rfl (hg f.d h.d) (TraceK.run rfl (by simp) (.done ⟨by kernel_rfl, by kernel_rfl, ?_⟩))))
 refine A9 rfl (by simp) (TrN.succ ?_)
 refine A2 rfl (by simp) (Tr.seq (A4 rfl (Tr.exit ?_)))
 exact A2 rfl (by simp) (Bb rfl rfl rfl trivial)
def ofF (p : Int × Int) : Fr := ⟨(p.1, p.1), (p.2, p.2), (w (p.1 + p.2), w (p.1 + p.2)), (w (p.1 - p.2), w (p.1 - p.2))⟩
theorem A8w (p : Int × Int) : C Tryz.prog Om [eB p] (.agg (A7 (ofF p))) := by
 refine C_of mixed A01 (by simp) fun S ok => ?_
 refine A2 rfl (by simp) (A2 rfl (by simp) (Tr.seq (A2 rfl (by simp) (Tr.block ?_))))
 refine Az 5 (TrN.succ ?_)
 refine Tr.weak (s' := ⟨[(2, .ptr 2 0), (3, .ptr 3 0), (20, .agg [I p.1, I p.2, I (w (p.1 + p.2)), I (w (p.1 - p.2))]), (21, I 0)], [(2, ⟨[I 0, I 0, I 0, I 0, I 0, I 0, I 0, I 0], false⟩), (3, ⟨[I 0, I 0, I 0, I 0, I 0, I 0, I 0, I 0], false⟩)], [], [], false⟩)
  (Ab (.k rfl (.k rfl (.k rfl (.cons rfl (VLe.i rfl) .nil)))) (.k rfl (.k rfl .nil)) .nil rfl rfl) ?_
 refine A2 rfl (by simp) (Tr.seq (A6 rfl (Tr.skip (Tr.seq (Tr.block (A2 rfl (by simp) (A9 rfl (by simp) (A9 rfl (by simp) (TrN.succ ?_)))))))))
 refine Tr.weak (s' := ⟨[(2, .ptr 2 0), (3, .ptr 3 0), (20, .agg [I p.1, I p.2, I (w (p.1 + p.2)), I (w (p.1 - p.2))]), (21, I 1)], [(2, ⟨[I 0, I 0, I 0, I 0, I 0, I 0, I 0, I 0], false⟩), (3, ⟨[I (p.1), I (p.1), I 0, I 0, I 0, I 0, I 0, I 0], false⟩)], [], [], false⟩)
  (Ab (.k rfl (.k rfl (.k rfl (.cons rfl (VLe.i rfl) .nil)))) (.k rfl (.k rfl .nil)) .nil rfl rfl) ?_
 refine A2 rfl (by simp) (Tr.seq (A6 rfl (Tr.skip (Tr.seq (Tr.block (A2 rfl (by simp) (A9 rfl (by simp) (A9 rfl (by simp) (TrN.succ ?_)))))))))
 refine Tr.weak (s' := ⟨[(2, .ptr 2 0), (3, .ptr 3 0), (20, .agg [I p.1, I p.2, I (w (p.1 + p.2)), I (w (p.1 - p.2))]), (21, I 2)], [(2, ⟨[I 0, I 0, I 0, I 0, I 0, I 0, I 0, I 0], false⟩), (3, ⟨[I (p.1), I (p.1), I (p.2), I (p.2), I 0, I 0, I 0, I 0], false⟩)], [], [], false⟩)
  (Ab (.k rfl (.k rfl (.k rfl (.cons rfl (VLe.i rfl) .nil)))) (.k rfl (.k rfl .nil)) .nil rfl rfl) ?_
 refine A2 rfl (by simp) (Tr.seq (A6 rfl (Tr.skip (Tr.seq (Tr.block (A2 rfl (by simp) (A9 rfl (by simp) (A9 rfl (by simp) (TrN.succ ?_)))))))))
 refine Tr.weak (s' := ⟨[(2, .ptr 2 0), (3, .ptr 3 0), (20, .agg [I p.1, I p.2, I (w (p.1 + p.2)), I (w (p.1 - p.2))]), (21, I 3)], [(2, ⟨[I 0, I 0, I 0, I 0, I 0, I 0, I 0, I 0], false⟩), (3, ⟨[I (p.1), I (p.1), I (p.2), I (p.2), I (w (p.1 + p.2)), I (w (p.1 + p.2)), I 0, I 0], false⟩)], [], [], false⟩)
  (Ab (.k rfl (.k rfl (.k rfl (.cons rfl (VLe.i rfl) .nil)))) (.k rfl (.k rfl .nil)) .nil rfl rfl) ?_
 refine A2 rfl (by simp) (Tr.seq (A6 rfl (Tr.skip (Tr.seq (Tr.block (A2 rfl (by simp) (A9 rfl (by simp) (A9 rfl (by simp) (TrN.succ ?_)))))))))
 refine A2 rfl (by simp) (Tr.seq (A4 rfl (Tr.exit ?_)))
 exact A2 rfl (by simp) (Bb rfl rfl rfl trivial)
def Mu (l n : Int) : Int := max (-l) (min n l)
theorem Ru {l : Int} (n : Int) (hl : 0 ≤ l ∧ l ≤ 65536) : C Tryz.prog On [I l, I n] (I (Mu l n)) := by
 refine C_of mixed L7 (by simp) fun S ok => ?_
 refine A2 rfl (by simp) (A2 rfl (by simp) (Bb rfl rfl ?_ trivial))
 have e : IntKind.wrap .i64 (0 - l) = -l := by rw [w64 (by omega) (by omega)]; omega
 simp only [Cp, Mu, ← ifMin, ← ifMax, ← e]
 rfl
def Ab9 (p : Int × Int) : Prop := (-32768 ≤ p.1 ∧ p.1 ≤ 32768) ∧ -32768 ≤ p.2 ∧ p.2 ≤ 32768
theorem Pc {l n : Int} (h : -l ≤ n ∧ n ≤ l) : Mu l n = n := by unfold Mu; omega
theorem A2p {p : Int × Int} (h : Ab9 p) : C Tryz.prog Hg [eB p] (I 0) := by
 refine C_of mixed G4 (by simp) fun S ok => ?_
 have k1 := Ru (l := 32768) p.1 (by omega)
 have k2 := Ru (l := 32768) p.2 (by omega)
 rw [Pc (by have := h.1; omega)] at k1
 rw [Pc (by have := h.2; omega)] at k2
 refine A2 rfl (by simp) (Tr.seq (A2 rfl (by simp) (Tr.block ?_)))
 refine Az 3 (TrN.succ ?_)
 refine A2 rfl (by simp) (Tr.seq (A6 rfl (Tr.skip (Tr.seq (Tr.block (A2 rfl (by simp) ?_))))))
 refine A3 rfl (by simp) (Steps.call rfl rfl k1 (Steps.fin rfl (by simp) (Tr.cond rfl rfl (fun h => ?_) (fun _ => Tr.skip (A9 rfl (by simp) (TrN.succ ?_))))))
 ·simp at h
 refine A2 rfl (by simp) (Tr.seq (A6 rfl (Tr.skip (Tr.seq (Tr.block (A2 rfl (by simp) ?_))))))
 refine A3 rfl (by simp) (Steps.call rfl rfl k2 (Steps.fin rfl (by simp) (Tr.cond rfl rfl (fun h => ?_) (fun _ => Tr.skip (A9 rfl (by simp) (TrN.succ ?_))))))
 ·simp at h
 refine A2 rfl (by simp) (Tr.seq (A4 rfl (Tr.exit ?_)))
 exact A2 rfl (by simp) (A5 rfl rfl rfl rfl trivial)
def fitB (l : Int) (b : Int × Int) : Prop := -l ≤ b.1 ∧ b.1 ≤ b.2 ∧ b.2 ≤ l
def fitF (f : Fr) : Prop := (fitB 32768 f.x ∧ fitB 32768 f.y) ∧ fitB 65536 f.s ∧ fitB 65536 f.d
theorem c_done (f : Fr) : C Tryz.prog Qa [.agg (A7 f), I 0] (.tuple [.agg (A7 f), I 0]) := by
 refine C_of mixed La (by simp) fun S ok => ?_
 refine A2 rfl (by simp) (Tr.seq (A2 rfl (by simp) (A4 rfl (Tr.skip ?_))))
 refine A3 rfl (by simp) (Steps.call rfl rfl (Tf f) (Steps.fin rfl (by simp) (A5 rfl rfl rfl rfl trivial)))
end
section
open Go.Am
attribute [local simp] cells Aa mkv Ag Ap under dem dem1 eB A7
def lowY (f : Fr) (x : Int) : Int := max (max f.y.1 (f.s.1 - x)) (x - f.d.2)
def Dm (f : Fr) (x : Int) : Int := min (min f.y.2 (f.s.2 - x)) (x - f.d.1)
def Hm (f : Fr) : Nat → Int → List (Int × Int × Int)
 | 0, _ => []
 | n + 1, x => if lowY f x ≤ Dm f x then (x, lowY f x, Dm f x) :: Hm f n (x + 1) else Hm f n (x + 1)
def Bc (f : Fr) : List (Int × Int × Int) := Hm f (f.x.2 + 1 - f.x.1).toNat f.x.1
def eRow (r : Int × Int × Int) : List V := [.agg [I r.1, I r.2.1, I r.2.2]]
def midF (f : Fr) : Prop := ((-1000000 ≤ f.x.1 ∧ f.x.1 ≤ 1000000) ∧ -1000000 ≤ f.x.2 ∧ f.x.2 ≤ 1000000) ∧ ((-1000000 ≤ f.y.1 ∧ f.y.1 ≤ 1000000) ∧ -1000000 ≤ f.y.2 ∧ f.y.2 ≤ 1000000) ∧ ((-1000000 ≤ f.s.1 ∧ f.s.1 ≤ 1000000) ∧ -1000000 ≤ f.s.2 ∧ f.s.2 ≤ 1000000) ∧ (-1000000 ≤ f.d.1 ∧ f.d.1 ≤ 1000000) ∧ -1000000 ≤ f.d.2 ∧ f.d.2 ≤ 1000000
theorem Acz (f : Fr) : C Tryz.prog Q8 [.agg (A7 f)] (.func (.func Cc) [] [.vptr (A7 f) 0]) := by
 refine C_of mixed N1 (by simp) fun S ok => ?_
 exact A2 rfl (by simp) (A2 rfl (by simp) (Bb rfl rfl rfl trivial))
theorem Yc (f : Fr) : C Tryz.prog Q9 [.agg (A7 f)] (.func (.func Gp) [] [.vptr (A7 f) 0]) := by
 refine C_of mixed N2 (by simp) fun S ok => ?_
 exact A2 rfl (by simp) (A2 rfl (by simp) (Bb rfl rfl rfl trivial))
theorem Abc {f : Fr} (hf : midF f) : Iter Tryz.prog Cc [.vptr (A7 f) 0] ((Bc f).map eRow) := by
 refine Oi mixed K5 (by simp) fun S ok => ?_
 obtain ⟨⟨⟨hx1, hx2⟩, hx3, hx4⟩, ⟨⟨hy1, hy2⟩, hy3, hy4⟩, ⟨⟨hs1, hs2⟩, hs3, hs4⟩, ⟨hd1, hd2⟩, hd3, hd4⟩ := hf
 refine A2 rfl (by simp) (Tr.block ?_)
 refine Tr.loop (α := Nat × List (List V)) (fun p s => (p.1 ≤ (f.x.2 + 1 - f.x.1).toNat ∧ p.2 ++ (Hm f ((f.x.2 + 1 - f.x.1).toNat - p.1) (f.x.1 + p.1)).map eRow = (Bc f).map eRow) ∧
   s = ⟨[(0, .yld), (1, .vptr (A7 f) 0), (3, I (f.x.1 + p.1))], [], [], p.2, false⟩) (fun p => (f.x.2 + 1 - f.x.1).toNat - p.1) (0, [])
  (Ab (.k rfl (.k rfl (.cons rfl (VLe.i (by simp)) .nil))) .nil .nil rfl rfl) ⟨⟨by simp, by simp [Bc]⟩, rfl⟩ ?_
 rintro ⟨k, lg⟩ s ⟨⟨hk, hl⟩, rfl⟩
 simp only at hk hl
 refine Tr.seq (A2 rfl (by simp) (Tr.cond rfl rfl (fun h1 => Tr.skip ?_) (fun h1 => Tr.exit ?_)))
 ·have h1 : f.x.1 + (k : Int) ≤ f.x.2 := by simpa using h1
  obtain ⟨x, hx⟩ : ∃ x, f.x.1 + (k : Int) = x := ⟨_, rfl⟩
  obtain ⟨n, hn⟩ : ∃ n, (f.x.2 + 1 - f.x.1).toNat - k = n + 1 := ⟨(f.x.2 + 1 - f.x.1).toNat - k - 1, by omega⟩
  have hn2 : (f.x.2 + 1 - f.x.1).toNat - (k + 1) = n := by omega
  have hx' : f.x.1 + ((k + 1 : Nat) : Int) = x + 1 := by omega
  rw [hn, hx] at hl
  rw [hx] at h1
  rw [hx]
  refine Tr.seq (Tr.block (A2 rfl (by simp) ?_))
  refine Tr.weak (s' := ⟨[(0, .yld), (1, .vptr (A7 f) 0), (3, I x), (4, .ptr 4 0)], [(4, ⟨[I x, I (lowY f x), I (Dm f x)], false⟩)], [], lg, false⟩)
   (Ab (.k rfl (.k rfl (.k rfl (.k rfl .nil)))) (.cons rfl (.cons (.refl _) (.cons (VLe.i ?_) (.cons (VLe.i ?_) .nil))) .nil) .nil rfl rfl) ?_
  ·simp (disch := omega) only [cond_true, cond_false, H7, Jc, w64, lowY]
  ·simp (disch := omega) only [cond_true, cond_false, H7, Jc, w64, Dm]
  refine A3 rfl (by simp) ?_
  by_cases hh : lowY f x ≤ Dm f x
  ·have hp : lg ++ [eRow (x, lowY f x, Dm f x)] ++ (Hm f n (x + 1)).map eRow = (Bc f).map eRow := by
    rw [← hl, Hm, if_pos hh]; simp
   refine Hy (want := true) rfl rfl ?_ rfl ?_ rfl ⟨_, hp⟩ rfl (fun b => ?_)
   ·show some (decide (lowY f x ≤ Dm f x) == true) = some true
    simp [hh]
   ·simp [hh]
   refine Steps.fin rfl (by simp) ?_
   refine Tr.cond rfl rfl (fun h2 => ?_) (fun h2 => ?_)
   ·refine Tr.ret ⟨.inl ?_, [], [], [], rfl, rfl, rfl⟩
    have h2 : (bif decide (lowY f x ≤ Dm f x) then !b else false) = true := h2
    have hb : b = false := by simpa [hh] using h2
    subst hb; rfl
   ·have h2 : (bif decide (lowY f x ≤ Dm f x) then !b else false) = false := h2
    have hb : b = true := by simpa [hh] using h2
    subst hb
    refine Tr.skip (A9 rfl (by simp) ?_)
    refine ⟨(k + 1, lg ++ [eRow (x, lowY f x, Dm f x)]), _, Ab (.k rfl (.k rfl (.cons rfl (VLe.i ?_) .nil))) .nil .nil rfl rfl, ⟨⟨by simp; omega, ?_⟩, rfl⟩, by simp; omega⟩
    ·show IntKind.wrap .i64 (x + 1) = f.x.1 + ((k + 1 : Nat) : Int)
     rw [w64 (by omega) (by omega)]; exact hx'.symm
    ·simp only; rw [hn2, hx']; exact hp
  ·have hl2 : lg ++ (Hm f n (x + 1)).map eRow = (Bc f).map eRow := by
    rw [← hl, Hm, if_neg hh]
   refine Steps.off (want := true) (.bool true) rfl rfl ?_ ?_
   ·show some (decide (lowY f x ≤ Dm f x) == true) = some false
    simp [hh]
   refine Steps.fin rfl (by simp; omega) ?_
   refine Tr.cond rfl rfl (fun h2 => ?_) (fun h2 => ?_)
   ·have h2 : (bif decide (lowY f x ≤ Dm f x) then !true else false) = true := h2
    simp [hh] at h2
   ·refine Tr.skip (A9 rfl (by simp) ?_)
    refine ⟨(k + 1, lg), _, Ab (.k rfl (.k rfl (.cons rfl (VLe.i ?_) .nil))) .nil .nil rfl rfl, ⟨⟨by simp; omega, ?_⟩, rfl⟩, by simp; omega⟩
    ·show IntKind.wrap .i64 (x + 1) = f.x.1 + ((k + 1 : Nat) : Int)
     rw [w64 (by omega) (by omega)]; exact hx'.symm
    ·simp only; rw [hn2, hx']; exact hl2
 ·have h1 : ¬ f.x.1 + (k : Int) ≤ f.x.2 := by simpa using h1
  refine ⟨.inr ?_, [], [], [], rfl, rfl, rfl⟩
  rw [show (f.x.2 + 1 - f.x.1).toNat - k = 0 by omega] at hl
  have e : lg = (Bc f).map eRow := by simpa [Hm] using hl
  exact e
def Jl (r : Int × Int × Int) : List (Int × Int) := if r.2.1 = r.2.2 then [(r.1, r.2.1)] else [(r.1, r.2.1), (r.1, r.2.2)]
def Dr (f : Fr) : List (Int × Int) := (Bc f).flatMap Jl
def eEnd (p : Int × Int) : List V := [eB p]
theorem J7 (f : Fr) : Plain [.vptr (A7 f) 0] := ⟨fun b => rfl, fun B R => rfl⟩
theorem Abs {L : List (Int × Int × Int)} {m : Nat} {r : Int × Int × Int} (h : L[m]? = some r) : ∃ T, L.flatMap Jl = (L.take m).flatMap Jl ++ (Jl r ++ T) ∧ (L.take (m + 1)).flatMap Jl = (L.take m).flatMap Jl ++ Jl r := by
 have hm := (List.getElem?_eq_some_iff.1 h).1
 have hr : L[m] = r := (List.getElem?_eq_some_iff.1 h).2
 refine ⟨(L.drop (m + 1)).flatMap Jl, ?_, ?_⟩
 ·have e : L = L.take m ++ (r :: L.drop (m + 1)) := by
   rw [← hr, ← List.drop_eq_getElem_cons hm, List.take_append_drop]
  have e2 := congrArg (List.flatMap Jl) e
  rw [List.flatMap_append, List.flatMap_cons] at e2
  exact e2
 ·rw [List.take_add_one, h, List.flatMap_append]; simp
theorem Xv {f : Fr} (hf : midF f) : Iter Tryz.prog Gp [.vptr (A7 f) 0] ((Dr f).map eEnd) := by
 refine Oi mixed K7 (by simp) fun S ok => ?_
 refine A2 rfl (by simp) ?_
 refine A3 rfl (by simp) (Steps.call rfl rfl (Acz f) (Steps.fin rfl (by simp) (Tr.block ?_)))
 refine Tr.weak (s' := ⟨[(7, .func (.func Cc) [] [.vptr (A7 f) 0]), (2, .ptr 2 0)], [(2, ⟨[.yld], false⟩)], [], [], false⟩)
  (Ab (.k rfl (.k rfl .nil)) (.k rfl .nil) .nil rfl rfl) ?_
 refine Tr.range rfl rfl (Abc hf) rfl rfl rfl (by intro x hx; obtain ⟨b, _, rfl⟩ := List.mem_map.1 hx; rfl)
  (fun pre t => ∃ m, m ≤ (Bc f).length ∧ pre = ((Bc f).take m).map eRow ∧ t.bx = [(2, ⟨[.yld], false⟩)] ∧ t.rw = [] ∧ t.log = (((Bc f).take m).flatMap Jl).map eEnd)
  (fun e t => e = .ret ∧ t.stp = true) ⟨0, by omega, rfl, rfl, rfl, rfl⟩ ?_ ?_ ?_
 ·rintro a0 L0 rc0 h0 S1 S2 ok1 ok2 pre q t lp hpre ⟨m, hm, rfl, hbx, hrw, hlog⟩ henv hstp
  obtain ⟨env, bx, rw, log, stp⟩ := t
  simp only at hbx hrw hlog henv hstp
  subst hbx hrw hlog henv hstp
  have hmx : m < (Bc f).length ∧ ∃ b, (Bc f)[m]? = some b ∧ q = eRow b := by
   have h1 : (((Bc f).take m).map eRow).length = m := by simp; omega
   have h2 := hpre.length_le
   simp at h2
   have hml : m < (Bc f).length := by omega
   refine ⟨hml, _, List.getElem?_eq_getElem hml, ?_⟩
   have h3 := List.IsPrefix.getElem hpre (i := m) (by simp; omega)
   simp only [List.getElem_map] at h3
   rw [List.getElem_append_right (by omega)] at h3
   simpa using h3
  obtain ⟨hml, ⟨x, a, b⟩, hb, rfl⟩ := hmx
  obtain ⟨T, eT, eN⟩ := Abs hb
  obtain ⟨lg, hlg⟩ : ∃ lg, (((Bc f).take m).flatMap Jl).map eEnd = lg := ⟨_, rfl⟩
  have hp1 : List.IsPrefix (lg ++ [eEnd (x, a)]) ((Dr f).map eEnd) := by
   refine ⟨((Jl (x, a, b)).drop 1 ++ T).map eEnd, ?_⟩
   rw [← hlg]; unfold Dr; rw [eT]
   unfold Jl; split <;> simp
  rw [hlg]
  refine A9 rfl (by simp) ?_
  refine Tr.block (Ll rfl (by simp) (by kernel_rfl) ?_)
  refine Tr.weak (s' := ⟨[(2, .ptr 2 0), (4, .ptr 4 0), (5, .ptr 5 0)], [(2, ⟨[.yld], false⟩), (4, ⟨[I x, I a], false⟩), (5, ⟨[I x, I b], false⟩)], [], lg, false⟩)
   (Ab (.k rfl (.k rfl (.k rfl .nil))) (.k rfl (.k rfl (.k rfl .nil))) .nil rfl rfl) ?_
  refine A3 rfl (by simp) ?_
  refine Steps.yield rfl (by simp) rfl hp1 rfl (fun c => ?_)
  cases c with
  | false =>
    refine Steps.run rfl (by simp) ?_
    refine Steps.off (want := true) (.bool true) rfl rfl ?_ (Steps.fin rfl (by simp) (A6 rfl ?_))
    ·rfl
    exact Tr.ret ⟨⟨[], [(2, ⟨[.yld], false⟩)], [], _, true⟩, Ab .nil (.k rfl .nil) .nil rfl rfl, rfl, rfl⟩
  | true =>
    refine Steps.run rfl (by simp) ?_
    by_cases hab : a = b
    ·subst hab
     refine Steps.off (want := true) (.bool true) rfl rfl ?_ ?_
     ·show some (((!true) == false) && ((!(x == x && (a == a && true))) == true)) = some false
      simp
     refine Steps.runN 1 rfl (by simp) (A56 rfl rfl rfl (fun _ => rfl) rfl rfl (by simp) (Steps.fin rfl (by simp) ?_))
     refine Tr.cond rfl rfl (fun h2 => ?_) (fun h2 => ?_)
     ·have h2 : (bif (!true) then true else (bif (!(x == x && (a == a && true))) then !true else false)) = true := h2
      simp at h2
     refine Tr.skip ⟨⟨[], [(2, ⟨[.yld], false⟩)], [], lg ++ [eEnd (x, a)], false⟩, Ab .nil (.k rfl .nil) .nil rfl rfl, ⟨m + 1, by omega, ?_, rfl, rfl, ?_⟩, rfl⟩
     ·rw [List.take_add_one, hb]; simp
     ·rw [eN, List.map_append, hlg]
      unfold Jl; simp
    ·have hp2 : List.IsPrefix (lg ++ [eEnd (x, a)] ++ [eEnd (x, b)]) ((Dr f).map eEnd) := by
      refine ⟨T.map eEnd, ?_⟩
      rw [← hlg]; unfold Dr; rw [eT]
      unfold Jl; rw [if_neg hab]; simp
     refine Hy (want := true) rfl rfl ?_ rfl ?_ rfl hp2 rfl (fun c => ?_)
     ·show some (((!true) == false) && ((!(x == x && (a == b && true))) == true)) = some true
      simp [hab]
     ·simp [hab]
     refine Steps.fin rfl (by simp [hab]) ?_
     refine Tr.cond rfl rfl (fun h2 => ?_) (fun h2 => ?_)
     ·have h2 : (bif (!true) then true else (bif (!(x == x && (a == b && true))) then !c else false)) = true := h2
      have hc : c = false := by simpa [hab] using h2
      subst hc
      exact Tr.ret ⟨⟨[], [(2, ⟨[.yld], false⟩)], [], _, true⟩, Ab .nil (.k rfl .nil) .nil rfl rfl, rfl, rfl⟩
     ·have h2 : (bif (!true) then true else (bif (!(x == x && (a == b && true))) then !c else false)) = false := h2
      have hc : c = true := by simpa [hab] using h2
      subst hc
      refine Tr.skip ⟨⟨[], [(2, ⟨[.yld], false⟩)], [], lg ++ [eEnd (x, a)] ++ [eEnd (x, b)], false⟩, Ab .nil (.k rfl .nil) .nil rfl rfl, ⟨m + 1, by omega, ?_, rfl, rfl, ?_⟩, rfl⟩
      ·rw [List.take_add_one, hb]; simp
      ·rw [eN, List.map_append, hlg]
       unfold Jl; rw [if_neg hab]; simp
 ·rintro ⟨env, bx, rw, log, stp⟩ henv hstp ⟨m, hm, hpre, hbx, hrw, hlog⟩
  simp only at hbx hrw hlog henv hstp
  subst hbx hrw hlog henv hstp
  have hml : m = (Bc f).length := by
   have := congrArg List.length hpre
   simp at this; omega
  subst hml
  refine ⟨.inr ?_, [], [], [], rfl, rfl, rfl⟩
  simp only [List.take_length]
  rfl
 ·rintro e t _ ⟨rfl, h⟩
  exact ⟨.inl h, [], [], [], rfl, rfl, rfl⟩
end
section
open Go.Am
attribute [local simp] cells Aa mkv Ag Ap under dem dem1 eB A7
def Gu (a : Fr × Bool) (p : Int × Int) : Fr × Bool := (comb A9t (if a.2 then a.1 else ofF p) (ofF p), true)
def Da (l : List (Int × Int)) : Fr × Bool := l.foldl Gu (⟨(0, 0), (0, 0), (0, 0), (0, 0)⟩, false)
theorem Abd {l : List (Int × Int)} {m : Nat} {p : Int × Int} (h : l[m]? = some p) : Da (l.take (m + 1)) = Gu (Da (l.take m)) p := by
 unfold Da; rw [List.take_add_one, h, List.foldl_append]; rfl
theorem c_hull {it : FuncId} {us : List V} {l : List (Int × Int)} (hus : Plain us) (hit : Iter Tryz.prog it us (l.map eEnd)) :
  C Tryz.prog Q7 [.slice 0 1 [.func (.func it) [] us]] (.tuple [.agg (A7 (Da l).1), .bool (Da l).2]) := by
 refine C_of mixed L9 (by simp) fun S ok => ?_
 refine A2 rfl (by simp) (Tr.seq (A2 rfl (by simp) (Tr.block ?_)))
 refine Az 2 (TrN.succ ?_)
 refine A2 rfl (by simp) (Tr.seq (A6 rfl (Tr.skip (Tr.seq (Tr.block (A2 rfl (by simp) (A2 rfl (by simp) (Tr.block ?_))))))))
 refine Tr.weak (s' := ⟨[(13, .func (.func it) [] us), (2, .ptr 2 0), (3, .ptr 3 0), (7, .slice 0 1 [.func (.func it) [] us]), (8, I 1), (9, I 0)], [(2, ⟨A7 (Da []).1, false⟩), (3, ⟨[.bool (Da []).2], false⟩)], [], [], false⟩)
  (Ab (.k rfl (.k rfl (.k rfl (.k rfl (.cons rfl (VLe.i rfl) (.k rfl .nil)))))) (.k rfl (.k rfl .nil)) .nil (by simp only [Ec, List.all_cons, Bq hus]; rfl) rfl) ?_
 refine Tr.range rfl (hus.d _) hit rfl (by simp only [List.all_cons, Bq hus]; rfl) rfl (by intro x hx; obtain ⟨b, _, rfl⟩ := List.mem_map.1 hx; rfl)
  (fun pre t => ∃ m, m ≤ l.length ∧ pre = (l.take m).map eEnd ∧ t.bx = [(2, ⟨A7 (Da (l.take m)).1, false⟩), (3, ⟨[.bool (Da (l.take m)).2], false⟩)] ∧ t.rw = [] ∧ t.log = [])
  (fun _ _ => False) ⟨0, by omega, rfl, rfl, rfl, rfl⟩ ?_ ?_ ?_
 ·rintro a0 L0 rc0 h0 S1 S2 ok1 ok2 pre q t lp hpre ⟨m, hm, rfl, hbx, hrw, hlog⟩ henv hstp
  obtain ⟨env, bx, rw, log, stp⟩ := t
  simp only at hbx hrw hlog henv hstp
  subst hbx hrw hlog henv hstp
  have hmx : m < l.length ∧ ∃ b, l[m]? = some b ∧ q = eEnd b := by
   have h1 : ((l.take m).map eEnd).length = m := by simp; omega
   have h2 := hpre.length_le
   simp at h2
   have hml : m < l.length := by omega
   refine ⟨hml, _, List.getElem?_eq_getElem hml, ?_⟩
   have h3 := List.IsPrefix.getElem hpre (i := m) (by simp; omega)
   simp only [List.getElem_map] at h3
   rw [List.getElem_append_right (by omega)] at h3
   simpa using h3
  obtain ⟨hml, p, hb, rfl⟩ := hmx
  have eH := Abd hb
  obtain ⟨⟨f, b⟩, hH⟩ : ∃ H, Da (l.take m) = H := ⟨_, rfl⟩
  rw [hH] at eH ⊢
  refine A9 rfl (by simp) ?_
  refine Tr.weak (s' := ⟨[(2, .ptr 2 0), (3, .ptr 3 0), (6, .ptr 6 0)], [(2, ⟨A7 f, false⟩), (3, ⟨[.bool b], false⟩), (6, ⟨[I p.1, I p.2], false⟩)], [], [], false⟩)
   (Ab (.k rfl (.k rfl (.k rfl .nil))) (.k rfl (.k rfl (.k rfl .nil))) .nil rfl rfl) ?_
  refine Tr.block (Of ⟨[(2, .ptr 2 0), (3, .ptr 3 0), (6, .ptr 6 0)], [(2, ⟨A7 (if b then f else ofF p), false⟩), (3, ⟨[.bool true], false⟩), (6, ⟨[I p.1, I p.2], false⟩)], [], [], false⟩ ?_ ?_)
  ·cases b with
   | true =>
     refine A2 rfl (by simp) (A4 rfl (Tr.skip ?_))
     exact Ab (.k rfl (.k rfl (.k rfl .nil))) (.k rfl (.k rfl (.k rfl .nil))) .nil rfl rfl
   | false =>
     refine A2 rfl (by simp) (A6 rfl ?_)
     refine Tr.reg (Steps.run rfl (by simp) (Steps.call rfl rfl (A8w p) (Steps.fin rfl (by simp) ?_)))
     exact Ab (.k rfl (.k rfl (.k rfl .nil))) (.k rfl (.k rfl (.k rfl .nil))) .nil rfl rfl
  refine A8 (TraceK.run rfl (by simp) (TraceK.call rfl rfl (A8w p) (TraceK.call rfl rfl (Fs c_span (if b then f else ofF p) (ofF p)) (TraceK.run rfl (by simp) (.done ⟨by kernel_rfl, by kernel_rfl, ?_⟩)))))
  refine ⟨⟨[], [(2, ⟨A7 (Da (l.take (m + 1))).1, false⟩), (3, ⟨[.bool (Da (l.take (m + 1))).2], false⟩)], [], [], false⟩, ?_, ⟨m + 1, by omega, ?_, rfl, rfl, rfl⟩, rfl⟩
  ·rw [eH]
   exact Ab .nil (.k rfl (.k rfl .nil)) .nil rfl rfl
  ·rw [List.take_add_one, hb]; simp
 ·rintro ⟨env, bx, rw, log, stp⟩ henv hstp ⟨m, hm, hpre, hbx, hrw, hlog⟩
  simp only at hbx hrw hlog henv hstp
  subst hbx hrw hlog henv hstp
  have hml : m = l.length := by
   have := congrArg List.length hpre
   simp at this; omega
  subst hml
  rw [List.take_length]
  refine A9 rfl (by simp) (TrN.succ ?_)
  refine A2 rfl (by simp) (Tr.seq (A4 rfl (Tr.exit ?_)))
  exact Ll rfl (by simp) (by kernel_rfl) (A5 rfl rfl rfl rfl trivial)
 ·intro e t _ h; exact h.elim
theorem Vg {f : Fr} (hf : midF f) (h : (Da (Dr f)).2 = true) : C Tryz.prog Ev [.agg (A7 f)] (.tuple [.agg (A7 (Da (Dr f)).1), I 0]) := by
 have kh := c_hull (J7 f) (Xv hf)
 rw [h] at kh
 refine C_of mixed G3 (by simp) fun S ok => ?_
 refine A2 rfl (by simp) (A3 rfl (by simp) (Steps.call rfl rfl (Yc f) (Steps.run rfl (by simp) (Steps.call rfl rfl kh (Steps.fin rfl (by simp) ?_)))))
 refine Tr.seq (A2 rfl (by simp) (A4 rfl (Tr.skip ?_)))
 exact A2 rfl (by simp) (A5 rfl rfl rfl rfl trivial)
end
section
open Go.Am
attribute [local simp] cells Aa mkv Ag Ap under dem dem1 eB
def An (p : Int × Int) : Bool := btw p.1 (-32768) 32768 && btw p.2 (-32768) 32768
theorem Ab8 {l n : Int} (h : ¬ (-l ≤ n ∧ n ≤ l)) (hl : 0 ≤ l) : Mu l n ≠ n := by unfold Mu; omega
theorem Ce (p : Int × Int) : C Tryz.prog Hg [eB p] (I (if An p then 0 else 10)) := by
 by_cases h : An p = true
 ·rw [if_pos h]
  simp only [An, Bool.and_eq_true, Ca] at h
  exact A2p (by unfold Ab9; omega)
 rw [if_neg h]
 have h : An p = false := by simpa using h
 refine C_of mixed G4 (by simp) fun S ok => ?_
 have k1 := Ru (l := 32768) p.1 (by omega)
 have k2 := Ru (l := 32768) p.2 (by omega)
 refine A2 rfl (by simp) (Tr.seq (A2 rfl (by simp) (Tr.block ?_)))
 refine Az 3 (TrN.succ ?_)
 refine A2 rfl (by simp) (Tr.seq (A6 rfl (Tr.skip (Tr.seq (Tr.block (A2 rfl (by simp) ?_))))))
 refine A3 rfl (by simp) (Steps.call rfl rfl k1 (Steps.fin rfl (by simp) (Tr.cond rfl rfl (fun _ => A2 rfl (by simp) (A5 rfl rfl rfl rfl trivial)) (fun h1 => Tr.skip (A9 rfl (by simp) (TrN.succ ?_))))))
 refine A2 rfl (by simp) (Tr.seq (A6 rfl (Tr.skip (Tr.seq (Tr.block (A2 rfl (by simp) ?_))))))
 refine A3 rfl (by simp) (Steps.call rfl rfl k2 (Steps.fin rfl (by simp) (Tr.cond rfl rfl (fun _ => A2 rfl (by simp) (A5 rfl rfl rfl rfl trivial)) (fun h2 => ?_))))
 exfalso
 have h1 : (Mu 32768 p.1 != p.1) = false := h1
 have h2 : (Mu 32768 p.2 != p.2) = false := h2
 simp at h1 h2
 have g1 : -32768 ≤ p.1 ∧ p.1 ≤ 32768 := by
  by_cases g : -32768 ≤ p.1 ∧ p.1 ≤ 32768
  ·exact g
  ·exact absurd h1 (Ab8 g (by omega))
 have g2 : -32768 ≤ p.2 ∧ p.2 ≤ 32768 := by
  by_cases g : -32768 ≤ p.2 ∧ p.2 ≤ 32768
  ·exact g
  ·exact absurd h2 (Ab8 g (by omega))
 have : An p = true := by simp only [An, Bool.and_eq_true, Ca]; omega
 rw [h] at this; cases this
structure Gd where
 o : Int × Int
 size : Int
 a : Int
 d : Int
 cls : List (Int × Int)
attribute [local simp] sB
end
section
open Go.Am
attribute [local simp] cells Aa mkv Ag Ap under dem dem1 eB sB
theorem A6f {a b : Int} (hb : 0 < b) : (if a.tmod b < 0 then a.tdiv b - 1 else a.tdiv b) = a / b := by
 have h1 := Int.mul_tdiv_add_tmod a b
 have h2 := Int.tmod_lt_of_pos a hb
 have h3 := Int.lt_tmod_of_pos a hb
 split
 ·rename_i h
  refine ((Int.ediv_emod_unique hb (r := a.tmod b + b) (q := a.tdiv b - 1)).2 ⟨?_, by omega, by omega⟩).1.symm
  rw [Int.mul_sub]; omega
 ·refine ((Int.ediv_emod_unique hb (r := a.tmod b) (q := a.tdiv b)).2 ⟨by omega, by omega, by omega⟩).1.symm
theorem A9q {a b : Int} (hb : 0 < b) {K : Int} (h : -K ≤ a ∧ a ≤ K) : -K ≤ a.tdiv b ∧ a.tdiv b ≤ K := by
 have h1 := Int.natAbs_tdiv_le_natAbs a b
 omega
theorem Bd {p : Int × Int} (h : An p = true) : (-32768 ≤ p.1 ∧ p.1 ≤ 32768) ∧ -32768 ≤ p.2 ∧ p.2 ≤ 32768 := by
 simpa only [An, Bool.and_eq_true, Ca] using h
end
section
open Go.Am
attribute [local simp] cells Aa mkv Ag Ap under dem dem1 eB sB A7
def E8 (l : Int) (b : Int × Int) : Bool := decide (-l ≤ b.1) && decide (b.1 ≤ b.2) && decide (b.2 ≤ l)
def Av (f : Fr) : Bool := E8 32768 f.x && E8 32768 f.y && E8 65536 f.s && E8 65536 f.d
theorem Cb (f : Fr) : Av f = true ↔ fitF f := by
 simp only [Av, E8, Bool.and_eq_true, decide_eq_true_eq, fitF, fitB]
 omega
theorem Rd {l : Int} (b : Int × Int) (hl : 0 ≤ l ∧ l ≤ 65536) : C Tryz.prog Af [I l, eB b] (.bool (E8 l b)) := by
 refine C_of mixed L8 (by simp) fun S ok => ?_
 have e : IntKind.wrap .i64 (0 - l) = -l := by rw [w64 (by omega) (by omega)]; omega
 refine A2 rfl (by simp) (A2 rfl (by simp) (Bb rfl rfl ?_ trivial))
 show V.bool (E8 l b) = .bool (bif (bif decide (b.1 ≥ IntKind.wrap .i64 (0 - l)) then decide (b.1 ≤ b.2) else false) then decide (b.2 ≤ l) else false)
 rw [e, E8]
 congr 1
 by_cases h1 : -l ≤ b.1 <;> by_cases h2 : b.1 ≤ b.2 <;> simp [h1, h2]
theorem Dd (f : Fr) : C Tryz.prog X8 [.agg (A7 f)] (I (if Av f then 0 else 11)) := by
 refine C_of mixed Ss (by simp) fun S ok => ?_
 refine A2 rfl (by simp) (A2 rfl (by simp) (Tr.seq (A3 rfl (by simp) (Steps.call rfl rfl (Cs f) (Steps.fin rfl (by simp) (Tr.block ?_))))))
 refine Az 5 (TrN.succ ?_)
 refine Tr.weak (s' := ⟨[(3, .ptr 3 0), (12, .agg (A7 f)), (13, I 0)], [(3, ⟨[.func (.func Af) [I 32768] [], .func (.func Af) [I 32768] [], .func (.func Af) [I 65536] [], .func (.func Af) [I 65536] []], false⟩)], [], [], false⟩)
  (Ab (.k rfl (.k rfl (.cons rfl (VLe.i rfl) .nil))) (.k rfl .nil) .nil rfl rfl) ?_
 refine A2 rfl (by simp) (Tr.seq (A6 rfl (Tr.skip (Tr.seq (Tr.block (A2 rfl (by simp) (Tr.seq ?_)))))))
 refine A8 (TraceK.run rfl (by simp) (TraceK.callv rfl rfl (Rd (l := 32768) f.x (by omega)) (TraceK.run rfl (by simp) (.done ⟨by kernel_rfl, by kernel_rfl, ?_⟩))))
 refine Tr.cond rfl rfl (fun h0 => A2 rfl (by simp) (A5 rfl rfl rfl ?_ trivial)) (fun h0 => Tr.skip (A9 rfl (by simp) (TrN.succ ?_)))
 ·have h0 : E8 32768 f.x = false := by simpa using h0
  simp [Cp, Av, h0]
 have h0 : E8 32768 f.x = true := by simpa using h0
 refine Tr.weak (s' := ⟨[(3, .ptr 3 0), (12, .agg (A7 f)), (13, I 1)], [(3, ⟨[.func (.func Af) [I 32768] [], .func (.func Af) [I 32768] [], .func (.func Af) [I 65536] [], .func (.func Af) [I 65536] []], false⟩)], [], [], false⟩)
  (Ab (.k rfl (.k rfl (.cons rfl (VLe.i rfl) .nil))) (.k rfl .nil) .nil rfl rfl) ?_
 refine A2 rfl (by simp) (Tr.seq (A6 rfl (Tr.skip (Tr.seq (Tr.block (A2 rfl (by simp) (Tr.seq ?_)))))))
 refine A8 (TraceK.run rfl (by simp) (TraceK.callv rfl rfl (Rd (l := 32768) f.y (by omega)) (TraceK.run rfl (by simp) (.done ⟨by kernel_rfl, by kernel_rfl, ?_⟩))))
 refine Tr.cond rfl rfl (fun h1 => A2 rfl (by simp) (A5 rfl rfl rfl ?_ trivial)) (fun h1 => Tr.skip (A9 rfl (by simp) (TrN.succ ?_)))
 ·have h1 : E8 32768 f.y = false := by simpa using h1
  simp [Cp, Av, h1]
 have h1 : E8 32768 f.y = true := by simpa using h1
 refine Tr.weak (s' := ⟨[(3, .ptr 3 0), (12, .agg (A7 f)), (13, I 2)], [(3, ⟨[.func (.func Af) [I 32768] [], .func (.func Af) [I 32768] [], .func (.func Af) [I 65536] [], .func (.func Af) [I 65536] []], false⟩)], [], [], false⟩)
  (Ab (.k rfl (.k rfl (.cons rfl (VLe.i rfl) .nil))) (.k rfl .nil) .nil rfl rfl) ?_
 refine A2 rfl (by simp) (Tr.seq (A6 rfl (Tr.skip (Tr.seq (Tr.block (A2 rfl (by simp) (Tr.seq ?_)))))))
 refine A8 (TraceK.run rfl (by simp) (TraceK.callv rfl rfl (Rd (l := 65536) f.s (by omega)) (TraceK.run rfl (by simp) (.done ⟨by kernel_rfl, by kernel_rfl, ?_⟩))))
 refine Tr.cond rfl rfl (fun h2 => A2 rfl (by simp) (A5 rfl rfl rfl ?_ trivial)) (fun h2 => Tr.skip (A9 rfl (by simp) (TrN.succ ?_)))
 ·have h2 : E8 65536 f.s = false := by simpa using h2
  simp [Cp, Av, h2]
 have h2 : E8 65536 f.s = true := by simpa using h2
 refine Tr.weak (s' := ⟨[(3, .ptr 3 0), (12, .agg (A7 f)), (13, I 3)], [(3, ⟨[.func (.func Af) [I 32768] [], .func (.func Af) [I 32768] [], .func (.func Af) [I 65536] [], .func (.func Af) [I 65536] []], false⟩)], [], [], false⟩)
  (Ab (.k rfl (.k rfl (.cons rfl (VLe.i rfl) .nil))) (.k rfl .nil) .nil rfl rfl) ?_
 refine A2 rfl (by simp) (Tr.seq (A6 rfl (Tr.skip (Tr.seq (Tr.block (A2 rfl (by simp) (Tr.seq ?_)))))))
 refine A8 (TraceK.run rfl (by simp) (TraceK.callv rfl rfl (Rd (l := 65536) f.d (by omega)) (TraceK.run rfl (by simp) (.done ⟨by kernel_rfl, by kernel_rfl, ?_⟩))))
 refine Tr.cond rfl rfl (fun h3 => A2 rfl (by simp) (A5 rfl rfl rfl ?_ trivial)) (fun h3 => Tr.skip (A9 rfl (by simp) (TrN.succ ?_)))
 ·have h3 : E8 65536 f.d = false := by simpa using h3
  simp [Cp, Av, h3]
 have h3 : E8 65536 f.d = true := by simpa using h3
 refine A2 rfl (by simp) (Tr.seq (A4 rfl (Tr.exit ?_)))
 refine A2 rfl (by simp) (A5 rfl rfl rfl ?_ trivial)
 simp [Cp, Av, h0, h1, h2, h3]
theorem Ju {f : Fr} (h : Av f = true) : midF f := by
 have h := (Cb f).1 h
 obtain ⟨⟨⟨h1, h2, h3⟩, h4, h5, h6⟩, ⟨h7, h8, h9⟩, h10, h11, h12⟩ := h
 unfold midF; omega
def rowM (r : Int × Int × Int) : Int := r.2.2 - r.2.1 + 1
end
section
open Go.Am
attribute [local simp] cells Aa mkv Ag Ap under dem dem1 eB sB A7
structure Ly where
 nodes : List Fr
 traces : List (Int × Int)
def eF (f : Fr) : V := .agg (A7 f)
attribute [local simp] eF
end
section
open Go.Am
theorem A9h {E : Env} {s : St} {t : Nat} {v u : V} {ids : List Nat} (ht : get s.env t = some v) (hd : toDs s.fs.b [v] = some ([u], ids)) : Wk E s ((s.eff { v := C1, wb := Am.freeze s.fs.b ids }).put (some t) u) := by
 intro a w h R
 obtain ⟨q1, q2, _⟩ := R.1.env t _ (by rw [fs_g]; exact ht)
 obtain ⟨h1, R1, ext, b1, g1, y1, hrep⟩ := Ck R.1 hd
 have rd : RepD w h1.φ u (a.tmps.getD t undef) := (hrep #[a.tmps.getD t undef] rfl (fun i v' x e1 e2 => by
  cases i with
  | zero => simp at e1 e2; subst e1 e2; simpa using q2
  | succ i => simp at e1)).2 0 u _ rfl rfl
 have R2 := R1.put (d := t) q1 (.data rd) (Ac rd)
 rw [Oy (by rw [R.1.size]; exact q1)] at R2
 refine ⟨h1, ⟨?_, by rw [y1]; exact R.2⟩, y1⟩
 have e : ((s.eff { v := C1, wb := Am.freeze s.fs.b ids }).put (some t) u).fs = (((Am.freeze s.fs.b ids).foldl (fun τ p => τ.set (.bx p.1) (.b p.2)) s.fs)).set (.slot t) (.v u) := by
  rw [Dy, G2]; rfl
 have e2 : ∀ (l : List (Nat × Box)) (s : St), (l.foldl (fun s p => s.setB p.1 p.2) s).log = s.log ∧ (l.foldl (fun s p => s.setB p.1 p.2) s).stp = s.stp := by
  intro l
  induction l with
  | nil => intro s; exact ⟨rfl, rfl⟩
  | cons p l ih => intro s; exact ih _
 have e3 := e2 (Am.freeze s.fs.b ids) s
 show Rel E.nt E.S _ _ _ a w h1
 rw [e]
 have e4 : ((s.eff { v := C1, wb := Am.freeze s.fs.b ids }).put (some t) u).log = s.log := e3.1
 have e5 : ((s.eff { v := C1, wb := Am.freeze s.fs.b ids }).put (some t) u).stp = s.stp := e3.2
 rw [e4, e5]
 exact R2
theorem Yl {E : Env} {s s' : St} {i : Ins} {r : List Ins} {K : St → Prop} (h : Wk E s s') (k : Am.Steps E (i :: r) K s') : Am.Steps E (i :: r) K s := by
 refine Step1.raw fun slots ops o j ro n a w hh hc hs hi R Q next hn => ?_
 obtain ⟨h', R', hy⟩ := h a w hh R
 exact Nj (k : Step1 E i (Am.Steps E r K) s') hc hs hi R' fun s'' a' w' h'' k R ey => hn s'' a' w' h'' k R (ey.trans hy)
end
section
open Go.Am
attribute [local simp] cells Aa mkv Ag Ap under dem dem1 eB sB A7 eF
def ptsN (x : Int) : Nat → Int → List (Int × Int)
 | 0, _ => []
 | n + 1, y => (x, y) :: ptsN x n (y + 1)
def colP (r : Int × Int × Int) : List (Int × Int) := ptsN r.1 (r.2.2 + 1 - r.2.1).toNat r.2.1
def Yx (f : Fr) : List (Int × Int) := (Bc f).flatMap colP
def colAt (f : Fr) (x : Int) : List (Int × Int) := ptsN x (Dm f x + 1 - lowY f x).toNat (lowY f x)
theorem A7g (f : Fr) (n : Nat) (x : Int) : (Hm f (n + 1) x).flatMap colP = colAt f x ++ (Hm f n (x + 1)).flatMap colP := by
 simp only [Hm]
 split
 ·rfl
 ·have : (Dm f x + 1 - lowY f x).toNat = 0 := by omega
  unfold colAt
  rw [this]; rfl
end
section
open Go.Am
attribute [local simp] cells Aa mkv Ag Ap under dem dem1 eB A7
theorem A66 {x : Int} {q : Int × Int} : ∀ (n : Nat) (y : Int), q ∈ ptsN x n y ↔ q.1 = x ∧ y ≤ q.2 ∧ q.2 < y + n
 | 0, y => by simp [ptsN]
 | n + 1, y => by
   rw [ptsN, List.mem_cons, A66 n (y + 1)]
   constructor
   ·rintro (rfl | ⟨h1, h2, h3⟩)
    ·simp; omega
    ·refine ⟨h1, ?_, ?_⟩ <;> push_cast <;> omega
   ·rintro ⟨h1, h2, h3⟩
    push_cast at h3
    by_cases h : q.2 = y
    ·exact .inl (Prod.ext h1 h)
    ·exact .inr ⟨h1, by omega, by omega⟩
theorem A1c {f : Fr} {q : Int × Int} : ∀ (n : Nat) (x : Int), q ∈ (Hm f n x).flatMap colP ↔ (x ≤ q.1 ∧ q.1 < x + n) ∧ lowY f q.1 ≤ q.2 ∧ q.2 ≤ Dm f q.1
 | 0, x => by simp [Hm]; omega
 | n + 1, x => by
   rw [A7g, List.mem_append, A1c n (x + 1)]
   unfold colAt
   rw [A66]
   constructor
   ·rintro (⟨h1, h2, h3⟩ | ⟨⟨h1, h2⟩, h3⟩)
    ·subst h1
     refine ⟨⟨by omega, by push_cast; omega⟩, by omega, by omega⟩
    ·exact ⟨⟨by omega, by push_cast; omega⟩, h3⟩
   ·rintro ⟨⟨h1, h2⟩, h3, h4⟩
    push_cast at h2
    by_cases h : q.1 = x
    ·subst h; exact .inl ⟨rfl, by omega, by omega⟩
    ·exact .inr ⟨⟨by omega, by omega⟩, h3, h4⟩
theorem U5 {f : Fr} {q : Int × Int} : q ∈ Yx f ↔ (f.x.1 ≤ q.1 ∧ q.1 ≤ f.x.2) ∧ lowY f q.1 ≤ q.2 ∧ q.2 ≤ Dm f q.1 := by
 unfold Yx Bc
 rw [A1c]
 constructor
 ·rintro ⟨⟨h1, h2⟩, h3⟩; exact ⟨⟨h1, by omega⟩, h3⟩
 ·rintro ⟨⟨h1, h2⟩, h3⟩; exact ⟨⟨h1, by omega⟩, h3⟩
end
section
open Go.Am
theorem Ov {E : Env} {s s' : St} {i : Ins} {r : List Ins} {K : St → Prop} (h : Wk E s s') (k : Am.Steps E (i :: r) K s') : Am.Steps E (i :: r) K s := by
 refine Step1.raw fun slots ops o j ro n a w hh hc hs hi R Q next hn => ?_
 obtain ⟨h', R', hy⟩ := h a w hh R
 exact Nj (k : Step1 E i (Am.Steps E r K) s') hc hs hi R' fun s'' a' w' h'' k R ey => hn s'' a' w' h'' k R (ey.trans hy)
end
end Go.Proofs.YtabedohjkillfaaGreat
